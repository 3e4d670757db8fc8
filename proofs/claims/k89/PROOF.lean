import PyProof.Rows.All
import Wide.All
import OpenK.AllK
import Wide.FinOn
import PySem.Challenge.RW_watchhouse_k89_whole_keys_lost_and_spare
import KE.SortData
import KE.DataMinMax
import KE.DataFind
import KE.DataIsa
import KE.DataAny
import KE.KeyNested
import PyProof.P3Statements
import KE.DatumOrd
import KE.DatumMoreOrd
import HandS.ForMost
import HandS.Lambda
import HandS.Deep
import HandS.Flow
import HandS.TupLe
import HandS.TupAny
import HandS.TupMul
import HandS.Wide
import HandS.Conv
import HandS.IsInst
import HandS.ExcInit
import HandS.TryMany
import KE.DataCmp
import KE.KDictKeyed
import KE.KDictWalk
import KE.KDictCopyH
import PyProof.Rows.TupTab
import PyProof.Rows.SeqRoads
import HandS.Style
import PyProof.Rows.SortWalk
import KE.KDictItemsList
import KE.KDictPairs
import HandS.Dict
import HandS.Zip
import KE.GoesMore
import KE.GoesEnum
import HandS.Iter
import HandS.Comp
import HandS.Small
import PyProof.Rows.TupDisplay
import HandS.DictComp
import HandS.WordsExc
import HandS.EndTab
import HandS.ExcIs
import KE.Datum
set_option Elab.async false
set_option linter.all false
/-! A small language of pure values (PyData) and its evaluator. -/
namespace Ev
open PySem PySem.W

abbrev D := PyData

/-! ### results -/
structure Exn where
  cls : Nat
  args : List D

inductive R (α : Type) where
  | ok (a : α) (h : List D)
  | exc (e : Exn) (h : List D)
  | bad

def M (α : Type) := List D → R α
@[irreducible] def ret {α : Type} (a : α) : M α := fun h => .ok a h
@[irreducible] def fail {α : Type} : M α := fun _ => .bad
@[irreducible] def thr {α : Type} (e : Exn) : M α := fun h => .exc e h
def bndR {α β : Type} (f : α → M β) : R α → R β
  | .ok a h => f a h
  | .exc e h => .exc e h
  | .bad => .bad
@[irreducible] def bnd {α β : Type} (m : M α) (f : α → M β) : M β := fun h => bndR f (m h)
@[irreducible] def getH : M (List D) := fun h => .ok h h
@[irreducible] def putH (x : List D) : M Unit := fun _ => .ok () x
/-- no exception may leave -/
def calmR {α : Type} : R α → R α
  | .exc _ _ => .bad
  | r => r
@[irreducible] def calm {α : Type} (m : M α) : M α := fun h => calmR (m h)

section
variable {α β γ : Type}
theorem run_ret (a : α) (h : List D) : ret a h = .ok a h := by unfold ret; rfl
theorem run_fail (h : List D) : (fail : M α) h = .bad := by unfold fail; rfl
theorem run_thr (e : Exn) (h : List D) : (thr e : M α) h = .exc e h := by unfold thr; rfl
theorem run_bnd (m : M α) (f : α → M β) (h : List D) : bnd m f h = bndR f (m h) := by unfold bnd; rfl
theorem run_getH (h : List D) : getH h = .ok h h := by unfold getH; rfl
theorem run_putH (x h : List D) : putH x h = .ok () x := by unfold putH; rfl
theorem run_calm (m : M α) (h : List D) : calm m h = calmR (m h) := by unfold calm; rfl
theorem bnd_ok {m : M α} {f : α → M β} {h h' : List D} {a : α} (e : m h = .ok a h') : bnd m f h = f a h' := by rw [run_bnd, e]; rfl
@[simp] theorem bnd_ret (a : α) (f : α → M β) : bnd (ret a) f = f a := by funext h; rw [run_bnd, run_ret]; rfl
@[simp] theorem bnd_fail (f : α → M β) : bnd fail f = fail := by funext h; rw [run_bnd, run_fail, run_fail]; rfl
@[simp] theorem bnd_thr (e : Exn) (f : α → M β) : bnd (thr e) f = thr e := by funext h; rw [run_bnd, run_thr, run_thr]; rfl
@[simp] theorem bnd_assoc (m : M α) (f : α → M β) (g : β → M γ) : bnd (bnd m f) g = bnd m fun a => bnd (f a) g := by
  funext h
  rw [run_bnd, run_bnd, run_bnd]
  cases m h with
  | ok a h => show _ = bnd (f a) g h; rw [run_bnd]; rfl
  | exc e h => rfl
  | bad => rfl
@[simp] theorem bnd_ret_right (m : M α) : bnd m ret = m := by
  funext h
  rw [run_bnd]
  cases m h with
  | ok a h => show ret a h = _; rw [run_ret]
  | exc e h => rfl
  | bad => rfl
@[simp] theorem calm_ret (a : α) : calm (ret a) = ret a := by funext h; rw [run_calm, run_ret]; rfl
@[simp] theorem calm_fail : calm (fail : M α) = fail := by funext h; rw [run_calm, run_fail]; rfl
@[simp] theorem calm_thr (e : Exn) : calm (thr e : M α) = fail := by funext h; rw [run_calm, run_thr, run_fail]; rfl
end

/-! ### slots -/
inductive Slot where
  | no
  | val (d : D)
  | own (d : D)
  | hand
  | thunk (f : M D)
  | raw (d : D)
  | exn (c : Nat)

abbrev Env := List Slot
def nth : Env → Nat → Slot
  | [], _ => .no
  | x :: _, 0 => x
  | _ :: r, i + 1 => nth r i
def put : Env → Nat → Slot → Env
  | [], _, _ => []
  | _ :: r, 0, s => s :: r
  | x :: r, i + 1, s => x :: put r i s
def puts : Env → List Nat → List Slot → Env
  | env, i :: is, s :: ss => puts (put env i s) is ss
  | env, _, _ => env
def wipes (env : Env) : List Nat → Env
  | [] => env
  | i :: is => wipes (put env i .no) is
def gets (env : Env) : List Nat → List Slot
  | [] => []
  | i :: is => nth env i :: gets env is

/-! ### the language -/
inductive Bop where
  | add | sub | mul | fdiv | mod | pow | shl
  deriving DecidableEq
inductive Cop where
  | eq | ne | lt | le | gt | ge | isin | notin | isNone | notNone | isBool | notBool
  deriving DecidableEq
inductive B1 where
  | len | tuple | list | sorted | min | max | sum | any | all | int | abs | dict
  deriving DecidableEq
inductive B2 where
  | min | max
  deriving DecidableEq
inductive Ty where
  | int | bool | str | tuple | list | dict
  deriving DecidableEq
inductive M1 where
  | count | index | join
  deriving DecidableEq
inductive Tg where
  | name (i : Nat)
  | tup (ts : List Tg)

inductive IE where
  | var (i : Nat)
  | cst (d : D)
  | glob (x : Str) (d : D)
  | absent
  | bop (op : Bop) (a b : IE)
  | neg (a : IE)
  | not (a : IE)
  | and (a b : IE)
  | or (a b : IE)
  | cmp (op : Cop) (a b : IE)
  | cmp2 (op op' : Cop) (a b c : IE)
  | ite (c a b : IE)
  | tup (es : List IE)
  | lst (es : List IE)
  | idx (a i : IE)
  | slice (a lo hi : IE)
  | rev (a : IE)
  | dz
  | dl (k : D) (e : IE)
  | call (f : Nat) (es : List IE)
  | lam (f : Nat) (e : IE)
  | b1 (b : B1) (a : IE)
  | b2 (b : B2) (a b' : IE)
  | isi (a : IE) (ts : List Ty)
  | lc (elt : IE) (tg : Tg) (it : IE) (ifs : List IE) (own : List Nat)
  | m1 (m : M1) (o a : IE)
  | thk (i : Nat)
  | hidx (i : Nat) (k : IE)
  | rawSl (i : Nat) (lo hi : IE)
  | isx (i c : Nat)
  | look (i : Nat)
  | dd (es : List IE)
  | dget (a k x : IE)
  | dc (k v : IE) (tg : Tg) (it : IE) (ifs : List IE) (own : List Nat)
  | never
  -- what only a loop walks
  | range (a b c : IE)
  | zip (a b : IE)
  | enum (a : IE)

inductive IS where
  | asg (t : Tg) (e : IE)
  | own (i : Nat) (e : IE)
  | par (t : List (Tg × Bool)) (es : List IE)
  | setI (i : Nat) (k e : IE)
  | augN (i : Nat) (op : Bop) (e : IE)
  | augI (i : Nat) (k : IE) (op : Bop) (e : IE)
  | app (i : Nat) (e : IE)
  | ext (i : Nat) (e : IE)
  | popL (j i : Nat)
  | mov (j i : Nat)
  | frz (i : Nat)
  | upd (i : Nat) (e : IE)
  | ite (c : IE) (a b : List IS)
  | for (t : Tg) (it : IE) (car tmp : List Nat) (body : List IS)
  | whil (c : IE) (car tmp : List Nat) (body : List IS)
  | ret (e : IE)
  | retN
  | raise (c : Nat) (es : List IE)
  | expr (e : IE)
  | pass
  | never

/-! ### values -/
def line : Nat := 16777216
def deepOk (d : D) : Bool := decide (d.depth ≤ 40)
def allDeep (xs : List D) : Bool := decide (PyData.depthAll xs ≤ 40)
def small (i : Int) : Bool := decide (-(2 ^ 64) < i ∧ i < 2 ^ 64)

def isNat63 (i : Int) : Bool := decide (-(2 ^ 62) ≤ i ∧ i < 2 ^ 62)
def chk {α : Type} (b : Bool) (a : α) : M α := if b then ret a else fail

def repL (xs : List D) (n : Int) : List D := (List.replicate n.toNat xs).flatten
def bopV (op : Bop) (a b : D) : M D :=
  match op, a, b with
  | .add, .int x, .int y => ret (.int (x + y))
  | .add, .tuple xs, .tuple ys => chk (decide (xs.length + ys.length ≤ line)) (.tuple (xs ++ ys))
  | .add, .list xs, .list ys => chk (decide (xs.length + ys.length ≤ line)) (.list (xs ++ ys))
  | .add, .str x, .str y => chk (decide (x.length + y.length ≤ line)) (.str (x ++ y))
  | .sub, .int x, .int y => ret (.int (x - y))
  | .mul, .int x, .int y => chk (small x || small y) (.int (x * y))
  | .mul, .tuple xs, .int n => chk (decide (1 ≤ n ∧ n ≤ 1000 ∧ xs.length ≤ 1000 ∧ 1 ≤ xs.length)) (.tuple (repL xs n))
  | .mul, .list xs, .int n => chk (decide (0 ≤ n ∧ n ≤ 10000 ∧ xs.length ≤ 100)) (.list (repL xs n))
  | .fdiv, .int x, .int y => chk (decide (0 < y ∧ y < 1073741824)) (.int (x / y))
  | .mod, .int x, .int y => chk (decide (0 < y)) (.int (x % y))
  | .pow, .int x, .int y => chk (decide (0 ≤ y ∧ y ≤ 1000000 ∧ x.natAbs < 2 ^ 64)) (.int (x ^ y.toNat))
  | .shl, .int x, .int y => chk (decide (0 ≤ y ∧ y ≤ 1000000 ∧ x.natAbs < 2 ^ 64)) (.int (x * 2 ^ y.toNat))
  | _, _, _ => fail

/-! ### keys of dicts: ints, tuples of ints and None -/
mutual
def kOf : D → Option NestedKey
  | .none => some .none
  | .int i => some (.num i)
  | .tuple xs => (kOfs xs).map .tup
  | .bool _ => none
  | .str _ => none
  | .list _ => none
  | .dict _ => none
def kOfs : List D → Option (List NestedKey)
  | [] => some []
  | x :: xs => (kOf x).bind fun k => (kOfs xs).map fun ks => k :: ks
end
def kInt : D → Bool
  | .int _ => true
  | _ => false
def kTup : D → Bool
  | .tuple xs => match kOfs xs with
    | some ks => decide (NestedKey.depth (.tup ks) ≤ 8)
    | none => false
  | _ => false
/-- what may be asked of, put into a dict of such keys -/
def keyFit (kvs : List (D × D)) (k : D) : Bool := (kInt k && kvs.all fun p => kInt p.1) || (kTup k && kvs.all fun p => kTup p.1)
def dAt (kvs : List (D × D)) (k : D) : Option D := (kvs.find? fun p => PyData.eqv p.1 k).map (·.2)
def dPut (kvs : List (D × D)) (k d : D) : List (D × D) := if (dAt kvs k).isSome then kvs.map fun p => if PyData.eqv p.1 k then (p.1, d) else p else kvs ++ [(k, d)]
def dAtV (kvs : List (D × D)) (k : D) : M (Option D) := chk (keyFit kvs k) (dAt kvs k)
def dPutV (kvs : List (D × D)) (k d : D) : M (List (D × D)) := chk (keyFit kvs k && decide (kvs.length < line)) (dPut kvs k d)
def dPuts : List (D × D) → List (D × D) → M (List (D × D))
  | kvs, [] => ret kvs
  | kvs, p :: r => bnd (dPutV kvs p.1 p.2) fun kvs' => dPuts kvs' r
def dKeys (kvs : List (D × D)) : List D := kvs.map (·.1)
/-- two by two -/
def pairD : List D → Option (List (D × D))
  | [] => some []
  | [_] => none
  | k :: v :: r => (pairD r).map fun ps => (k, v) :: ps
/-- pairs in a list -/
def pairsL : List D → Option (List (D × D))
  | [] => some []
  | .tuple [k, v] :: r => (pairsL r).map fun ps => (k, v) :: ps
  | _ => none
def truthyV : D → M Bool
  | .none => ret false
  | .bool b => ret b
  | .int i => ret (i != 0)
  | .str x => chk (decide (x.length ≤ line)) ((x.length : Int) != 0)
  | .list xs => ret (!xs.isEmpty)
  | .tuple xs => ret (!xs.isEmpty)
  | .dict _ => fail

def isNonD : D → Bool
  | .none => true
  | _ => false
def ordOk (a b : D) : Bool := alike a b && !isNonD a && (deepOk a)
def eqOk (a b : D) : Bool := a.plain && b.plain && (deepOk a || deepOk b)
def inOk (xs : List D) (d : D) : Bool := PyData.plainAll xs && d.plain && (allDeep xs || deepOk d)
def isD : D → D → Bool
  | .none, .none => true
  | .bool a, .bool b => a == b
  | _, _ => false
def inStr (x y : Str) : Bool := !(Builtin.Str.occurrences y x 0 y.length 1).isEmpty
def cmpV (op : Cop) (a b : D) : M D :=
  match op with
  | .eq => chk (eqOk a b) (.bool (PyData.eqv a b))
  | .ne => chk (eqOk a b) (.bool (!PyData.eqv a b))
  | .lt => chk (ordOk a b) (.bool (dataLt a b))
  | .le => chk (ordOk a b) (.bool (!dataLt b a))
  | .gt => chk (ordOk a b) (.bool (dataLt b a))
  | .ge => chk (ordOk a b) (.bool (!dataLt a b))
  | .isin => match b with
    | .list xs => chk (inOk xs a) (.bool (xs.any fun y => PyData.eqv y a))
    | .tuple xs => chk (inOk xs a) (.bool (xs.any fun y => PyData.eqv y a))
    | .str y => match a with
      | .str x => ret (.bool (inStr x y))
      | _ => fail
    | .dict kvs => chk (keyFit kvs a) (.bool (dAt kvs a).isSome)
    | _ => fail
  | .notin => match b with
    | .list xs => chk (inOk xs a) (.bool (!xs.any fun y => PyData.eqv y a))
    | .tuple xs => chk (inOk xs a) (.bool (!xs.any fun y => PyData.eqv y a))
    | .str y => match a with
      | .str x => ret (.bool (!inStr x y))
      | _ => fail
    | .dict kvs => chk (keyFit kvs a) (.bool (!(dAt kvs a).isSome))
    | _ => fail
  | .isNone => match b with
    | .none => ret (.bool (isNonD a))
    | _ => fail
  | .notNone => match b with
    | .none => ret (.bool (!isNonD a))
    | _ => fail
  | .isBool => match a, b with
    | .bool x, .bool y => ret (.bool (decide (x = y)))
    | _, _ => fail
  | .notBool => match a, b with
    | .bool x, .bool y => ret (.bool (!decide (x = y)))
    | _, _ => fail

/-- Python's index -/
def ixOf (n : Nat) (i : Int) : Option Nat :=
  if 0 ≤ i then (if i < n then some i.toNat else none) else (if -(n : Int) ≤ i then some (i + n).toNat else none)
def atD (xs : List D) (i : Int) : M D := match ixOf xs.length i with
  | some j => match xs[j]? with
    | some d => ret d
    | none => fail
  | none => fail
def idxV (a i : D) : M D :=
  match a, i with
  | .list xs, .int i => atD xs i
  | .tuple xs, .int i => atD xs i
  | .str x, .int i => match ixOf x.cps.toList.length i with
    | some j => match x.cps.toList[j]? with
      | some c => chk (decide (x.length ≤ line)) (.str ⟨#[c]⟩)
      | none => fail
    | none => fail
  | .dict kvs, k => match dAt kvs k with
    | some d => chk (keyFit kvs k) d
    | none => fail
  | _, _ => fail

def loIx (n : Nat) : Option Int → Nat
  | none => 0
  | some i => if i < 0 then (i + (n : Int)).toNat else min i.toNat n
def hiIx (n : Nat) : Option Int → Nat
  | none => n
  | some i => if i < 0 then (i + (n : Int)).toNat else min i.toNat n
def cutD {α : Type} (xs : List α) (lo hi : Option Int) : List α := (xs.drop (loIx xs.length lo)).take (hiIx xs.length hi - loIx xs.length lo)
def sliceV (a : D) (lo hi : Option Int) : M D :=
  match a with
  | .list xs => ret (.list (cutD xs lo hi))
  | .tuple xs => ret (.tuple (cutD xs lo hi))
  | _ => fail
def revV : D → M D
  | .list xs => ret (.list xs.reverse)
  | .tuple xs => ret (.tuple xs.reverse)
  | _ => fail

def leD (a b : D) : Bool := !dataLt b a
def insD (a : D) : List D → List D
  | [] => [a]
  | b :: l => if leD a b then a :: b :: l else b :: insD a l
def sortD : List D → List D
  | [] => []
  | a :: l => insD a (sortD l)
theorem leD_total (a b : D) : (leD a b || leD b a) = true := by
  unfold leD dataLt
  cases h1 : PyProof.Rows.lexLt PyProof.Rows.itemOrd (keyToks b) (keyToks a) with
  | false => rfl
  | true =>
    cases h2 : PyProof.Rows.lexLt PyProof.Rows.itemOrd (keyToks a) (keyToks b) with
    | false => rfl
    | true =>
      have h3 := (PyProof.Rows.listOrd PyProof.Rows.itemOrd).trans _ _ _ h1 h2
      rw [(PyProof.Rows.listOrd PyProof.Rows.itemOrd).irrefl] at h3
      cases h3
theorem leD_trans (a b c : D) (h1 : leD a b = true) (h2 : leD b c = true) : leD a c = true := by
  unfold leD dataLt at *
  rw [Bool.not_eq_true'] at *
  cases h : PyProof.Rows.lexLt PyProof.Rows.itemOrd (keyToks c) (keyToks a) with
  | false => rfl
  | true =>
    rcases (PyProof.Rows.listOrd PyProof.Rows.itemOrd).negTrans _ (keyToks b) _ h with z | z
    · have z2 : PyProof.Rows.lexLt PyProof.Rows.itemOrd (keyToks c) (keyToks b) = true := z
      rw [h2] at z2; cases z2
    · have z2 : PyProof.Rows.lexLt PyProof.Rows.itemOrd (keyToks b) (keyToks a) = true := z
      rw [h1] at z2; cases z2
theorem insD_split (a : D) : ∀ (l1 l2 : List D), (∀ b ∈ l1, leD a b = false) → (∀ b, l2.head? = some b → leD a b = true) → insD a (l1 ++ l2) = l1 ++ a :: l2
  | [], [], _, _ => rfl
  | [], b :: l, _, h => by
    show (if leD a b then a :: b :: l else b :: insD a l) = _
    rw [h b rfl]
    rfl
  | c :: l1, l2, h1, h2 => by
    show (if leD a c then a :: c :: (l1 ++ l2) else c :: insD a (l1 ++ l2)) = _
    rw [h1 c List.mem_cons_self, insD_split a l1 l2 (fun b hb => h1 b (List.mem_cons_of_mem _ hb)) h2]
    rfl
theorem sortD_eq : ∀ xs : List D, sortD xs = xs.mergeSort leD
  | [] => by simp [sortD]
  | a :: l => by
    obtain ⟨l1, l2, h1, h2, h3⟩ := List.mergeSort_cons (le := leD) leD_trans leD_total a l
    show insD a (sortD l) = _
    rw [sortD_eq l, h2, h1]
    refine insD_split a l1 l2 (fun b hb => by simpa using h3 b hb) fun b hb => ?_
    have hp := List.pairwise_mergeSort (le := leD) leD_trans leD_total (a :: l)
    rw [h1] at hp
    have hp2 := (List.pairwise_append.mp hp).2.1
    cases l2 with
    | nil => cases hb
    | cons c l2 =>
      have e : c = b := by simpa using hb
      subst e
      exact (List.pairwise_cons.mp hp2).1 _ List.mem_cons_self
def allAlike (xs : List D) : Bool := xs.all fun a => xs.all fun b => alike a b
def someOk (xs : List D) : Bool := allAlike xs && xs.all (fun a => !isNonD a) && allDeep xs
def isTup1 : D → Bool
  | .tuple (_ :: _) => true
  | _ => false
def isTup : D → Bool
  | .tuple _ => true
  | _ => false
def sortOk (xs : List D) : Bool := someOk xs && decide (xs.length ≤ line) && (xs.all isTup || xs.all fun d => !isTup d)
def allInts : List D → Option (List Int)
  | [] => some []
  | .int i :: r => match allInts r with
    | some is => some (i :: is)
    | none => none
  | _ :: _ => none
def allBools : List D → Option (List Bool)
  | [] => some []
  | .bool i :: r => match allBools r with
    | some is => some (i :: is)
    | none => none
  | _ :: _ => none
def b2i (b : Bool) : Int := if b then 1 else 0
def itemsOf : D → Option (List D)
  | .list xs => some xs
  | .tuple xs => some xs
  | _ => none
def b1V (b : B1) (a : D) : M D :=
  match b, a with
  | .len, .list xs => ret (.int xs.length)
  | .len, .tuple xs => ret (.int xs.length)
  | .len, .str x => chk (decide (x.length ≤ line)) (.int x.length)
  | .len, .dict kvs => ret (.int kvs.length)
  | .tuple, .list xs => ret (.tuple xs)
  | .tuple, .tuple xs => ret (.tuple xs)
  | .list, .list xs => ret (.list xs)
  | .list, .tuple xs => ret (.list xs)
  | .list, .dict kvs => ret (.list (dKeys kvs))
  | .sorted, .list xs => chk (sortOk xs) (.list (sortD xs))
  | .sorted, .tuple xs => chk (sortOk xs) (.list (sortD xs))
  | .sorted, .dict kvs => chk (sortOk (dKeys kvs)) (.list (sortD (dKeys kvs)))
  | .min, .list (x :: xs) => chk (someOk (x :: xs)) (minD x xs)
  | .min, .tuple (x :: xs) => chk (someOk (x :: xs)) (minD x xs)
  | .max, .list (x :: xs) => chk (someOk (x :: xs)) (maxD x xs)
  | .max, .tuple (x :: xs) => chk (someOk (x :: xs)) (maxD x xs)
  | .sum, .list xs => match allInts xs with
    | some is => ret (.int is.sum)
    | none => fail
  | .any, .list xs => match allBools xs with
    | some bs => ret (.bool (bs.any id))
    | none => fail
  | .all, .list xs => match allBools xs with
    | some bs => ret (.bool (bs.all id))
    | none => fail
  | .int, .int i => ret (.int i)
  | .int, .bool b => ret (.int (b2i b))
  | .abs, .int i => ret (.int (if i < 0 then -i else i))
  | .dict, .list xs => match pairsL xs with
    | some ps => bnd (dPuts [] ps) fun kvs => ret (.dict kvs)
    | none => fail
  | _, _ => fail
def b2V (b : B2) (x y : D) : M D :=
  match b, x, y with
  | .min, .int i, .int j => ret (.int (if j < i then j else i))
  | .max, .int i, .int j => ret (.int (if j > i then j else i))
  | _, _, _ => fail
def tyV (t : Ty) (d : D) : Bool := match t with
  | .int => d.isInt
  | .bool => d.isBool
  | .str => d.isStr
  | .tuple => d.isTuple
  | .list => d.isList
  | .dict => d.isDict
def placeOf (xs : List D) (d : D) : Option Nat := xs.findIdx? fun y => PyData.eqv y d
def allStrs : List D → Option (List Str)
  | [] => some []
  | .str i :: r => match allStrs r with
    | some is => some (i :: is)
    | none => none
  | _ :: _ => none
def m1V (m : M1) (o a : D) : M D :=
  match m, o, a with
  | .count, .list xs, a => chk (inOk xs a) (.int (xs.countP fun y => PyData.eqv y a))
  | .count, .tuple xs, a => chk (inOk xs a) (.int (xs.countP fun y => PyData.eqv y a))
  | .index, .list xs, a => match placeOf xs a with
    | some j => chk (PySem.SeqAt.shaped (.list xs) && PySem.SeqAt.shaped a) (.int j)
    | none => fail
  | _, _, _ => fail

def asInt : D → M Int
  | .int i => ret i
  | _ => fail
def asBool : D → M Bool
  | .bool i => ret i
  | _ => fail
def walkD : D → M (List D)
  | .list xs => ret xs
  | .tuple xs => ret xs
  | .str x => chk (decide (x.length ≤ line)) (x.cps.toList.map fun c => .str ⟨#[c]⟩)
  | .dict kvs => ret (dKeys kvs)
  | _ => fail

/-- lo, lo + c, .. below (above) hi -/
def rangeD (lo hi : Int) : List D := (List.range (hi - lo).toNat).map fun (i : Nat) => .int (lo + i)
def rangeDown (lo hi : Int) : List D := (List.range (lo - hi).toNat).map fun (i : Nat) => .int (lo - i)
def rangeV (lo hi st : Int) : M (List D) :=
  if isNat63 lo && isNat63 hi && decide (hi - lo ≤ 16777216 ∧ lo - hi ≤ 16777216) then
    if st = 1 then ret (rangeD lo hi) else if st = -1 then ret (rangeDown lo hi) else fail
  else fail
def zipD (xs ys : List D) : List D := List.zipWith (fun x y => .tuple [x, y]) xs ys
def enumFrom (i : Int) : List D → List D
  | [] => []
  | x :: xs => .tuple [.int i, x] :: enumFrom (i + 1) xs

def zipV : D → D → M (List D)
  | .list xs, .list ys => ret (zipD xs ys)
  | .tuple xs, .tuple ys => ret (zipD xs ys)
  | _, _ => fail
def enumV : D → M (List D)
  | .list xs => ret (enumFrom 0 xs)
  | .tuple xs => ret (enumFrom 0 xs)
  | _ => fail

/-! ### targets -/
def manyOf : D → Nat → Option (List D)
  | .tuple xs, n => if xs.length = n then some xs else none
  | .list xs, n => if xs.length = n then some xs else none
  | _, _ => none
mutual
def assignT : Tg → D → Env → M Env
  | .name i, d, env => ret (put env i (.val d))
  | .tup ts, d, env => match d with
    | .tuple xs => assignTs ts xs env
    | .list xs => assignTs ts xs env
    | _ => fail
def assignTs : List Tg → List D → Env → M Env
  | [], [], env => ret env
  | t :: ts, d :: ds, env => bnd (assignT t d env) (assignTs ts ds)
  | _, _, _ => fail
end
end Ev
set_option Elab.async false
set_option linter.all false
/-! The evaluator. -/
namespace Ev
open PySem PySem.W

/-- what stands in a slot, looked at but not kept -/
def slotB (env : Env) (i : Nat) : M D := match nth env i with
  | .val d => ret d
  | .own (.list ds) => ret (.list ds)
  | _ => fail
/-- a dict that is written, looked at -/
def slotD (env : Env) (i : Nat) : M D := match nth env i with
  | .own (.dict kvs) => ret (.dict kvs)
  | _ => fail
def slotV (env : Env) (i : Nat) : M D := match nth env i with
  | .val d => ret d
  | _ => fail
def bor (e : IE) (v : M D) (env : Env) : M D := match e with
  | .var i => slotB env i
  | .look i => slotD env i
  | _ => v
def tst (e : IE) (v : M D) (env : Env) : M Bool := bnd (bor e v env) truthyV
def itr (e : IE) (v : M D) (env : Env) : M (List D) := bnd (bor e v env) walkD
def argOf (e : IE) (v : M D) (env : Env) : M Slot := match e with
  | .var i => match nth env i with
    | .hand => ret .hand
    | .val d => ret (.val d)
    | .raw d => ret (.raw d)
    | _ => fail
  | _ => bnd v fun d => ret (.val d)
def optOf (e : IE) (v : M D) : M (Option Int) := match e with
  | .absent => ret none
  | _ => bnd v fun d => bnd (asInt d) fun i => ret (some i)

def lcL (f : D → M (Option D)) : List D → M (List D)
  | [] => ret []
  | x :: xs => bnd (f x) fun o => bnd (lcL f xs) fun r => ret (match o with
    | some y => y :: r
    | none => r)
/-- pairs, one after the other, put into a dict -/
def dcL (f : D → M (Option (D × D))) : List D → List (D × D) → M (List (D × D))
  | [], acc => ret acc
  | x :: xs, acc => bnd (f x) fun
    | some p => bnd (dPutV acc p.1 p.2) fun acc' => dcL f xs acc'
    | none => dcL f xs acc
def ddV (ds : List D) : M D := match pairD ds with
  | some ps => bnd (dPuts [] ps) fun kvs => ret (.dict kvs)
  | none => fail
def getV (a k x : D) : M D := match a with
  | .dict kvs => bnd (dAtV kvs k) fun o => ret (o.getD x)
  | _ => fail
def isDc : D → M Unit
  | .dict _ => ret ()
  | _ => fail
def isL : D → M Unit
  | .list _ => ret ()
  | _ => fail
def isM : M1 → D → M Unit
  | .count, .tuple _ => ret ()
  | _, d => isL d
def andV (v : D) (b : M D) : M D := match v with
  | .bool true => b
  | .bool false => ret (.bool false)
  | _ => fail
def orV (v : D) (b : M D) : M D := match v with
  | .bool true => ret (.bool true)
  | .bool false => b
  | _ => fail
def negV : D → M D
  | .int i => ret (.int (-i))
  | _ => fail
def iteM {α : Type} (b : Bool) (x y : M α) : M α := if b then x else y
/-- the callees; wd: what a def is worth that is handed a lambda; isa: of two classes -/
structure Cal where
  C : Nat → List Slot → M D
  C2 : Nat → List Slot → M D
  deep : Bool
  wd : Nat → M D → M D
  isa : Nat → Nat → Option Bool
def Cal.low (K : Cal) : Cal := { K with C := K.C2, deep := false }
def lamR (K : Cal) (f : Nat) (m : M D) : M D := calm (K.wd f m)

def isxV (K : Cal) (s : Slot) (c : Nat) : M D := match s with
  | .exn e => (match K.isa e c with
    | some b => ret (.bool b)
    | none => fail)
  | _ => fail
mutual
def evE (K : Cal) (env : Env) : IE → M D
  | .var i => slotV env i
  | .cst d => ret d
  | .glob _ d => ret d
  | .absent => fail
  | .bop op a b => bnd (bor a (evE K env a) env) fun x => bnd (bor b (evE K env b) env) fun y => bopV op x y
  | .neg a => bnd (evE K env a) negV
  | .not a => bnd (tst a (evE K env a) env) fun b => ret (.bool (!b))
  | .and a b => bnd (evE K env a) fun v => andV v (evE K env b)
  | .or a b => bnd (evE K env a) fun v => orV v (evE K env b)
  | .cmp op a b => bnd (bor a (evE K env a) env) fun x => bnd (bor b (evE K env b) env) fun y => cmpV op x y
  | .cmp2 op op' a b c => bnd (evE K env a) fun x => bnd (evE K env b) fun y => bnd (cmpV op x y) fun r => andV r (bnd (evE K env c) fun z => cmpV op' y z)
  | .ite c a b => bnd (tst c (evE K env c) env) fun t => iteM t (evE K env a) (evE K env b)
  | .tup es => bnd (evEs K env es) fun ds => ret (.tuple ds)
  | .lst es => bnd (evEs K env es) fun ds => ret (.list ds)
  | .idx a i => bnd (bor a (evE K env a) env) fun x => bnd (evE K env i) fun y => idxV x y
  | .slice a lo hi => bnd (bor a (evE K env a) env) fun x => bnd (optOf lo (evE K env lo)) fun l => bnd (optOf hi (evE K env hi)) fun r => sliceV x l r
  | .rev a => bnd (bor a (evE K env a) env) revV
  | .dz => ret (.dict [])
  | .dl k e => bnd (evE K env e) fun d => ret (.dict [(k, d)])
  | .call f es => bnd (evAs K env es) fun as => K.C f as
  | .lam f e => iteM K.deep (lamR K f (evE K.low env e)) fail
  | .b1 b a => bnd (bor a (evE K env a) env) fun x => b1V b x
  | .b2 b x y => bnd (evE K env x) fun x => bnd (evE K env y) fun y => b2V b x y
  | .isi a ts => bnd (bor a (evE K env a) env) fun x => ret (.bool (ts.any fun t => tyV t x))
  | .lc elt tg it ifs own => bnd (itr it (evE K env it) env) fun xs =>
      bnd (calm (lcL (fun d => bnd (assignT tg d (wipes env own)) fun env1 => bnd (evIf K env1 ifs) fun b => iteM b (bnd (evE K env1 elt) fun y => ret (some y)) (ret none)) xs)) fun ys => ret (.list ys)
  | .m1 m o a => bnd (bor o (evE K env o) env) fun x => bnd (isM m x) fun _ => bnd (evE K env a) fun y => m1V m x y
  | .thk i => match nth env i with
    | .thunk m => m
    | _ => fail
  | .hidx i k => match nth env i with
    | .hand => bnd (evE K env k) fun y => bnd getH fun h => idxV (.list h) y
    | _ => fail
  | .rawSl i lo hi => match nth env i with
    | .raw d => bnd (optOf lo (evE K env lo)) fun l => bnd (optOf hi (evE K env hi)) fun r => sliceV d l r
    | _ => fail
  | .isx i c => isxV K (nth env i) c
  | .look _ => fail
  | .dd es => bnd (evEs K env es) ddV
  | .dget a k x => bnd (bor a (evE K env a) env) fun d => bnd (isDc d) fun _ => bnd (evE K env k) fun kd => bnd (evE K env x) fun xd => getV d kd xd
  | .dc k v tg it ifs own => bnd (itr it (evE K env it) env) fun xs =>
      bnd (calm (dcL (fun d => bnd (assignT tg d (wipes env own)) fun env1 => bnd (evIf K env1 ifs) fun b => iteM b (bnd (evE K env1 k) fun kd => bnd (evE K env1 v) fun vd => ret (some (kd, vd))) (ret none)) xs [])) fun kvs => ret (.dict kvs)
  | .never => fail
  | .range a b c => bnd (evE K env a) fun x => bnd (asInt x) fun lo => bnd (evE K env b) fun y => bnd (asInt y) fun hi => bnd (evE K env c) fun z => bnd (asInt z) fun st => bnd (rangeV lo hi st) fun xs => ret (.list xs)
  | .zip a b => bnd (bor a (evE K env a) env) fun xs => bnd (bor b (evE K env b) env) fun ys => bnd (zipV xs ys) fun zs => ret (.list zs)
  | .enum a => bnd (bor a (evE K env a) env) fun xs => bnd (enumV xs) fun zs => ret (.list zs)
def evEs (K : Cal) (env : Env) : List IE → M (List D)
  | [] => ret []
  | e :: es => bnd (evE K env e) fun d => bnd (evEs K env es) fun ds => ret (d :: ds)
def evAs (K : Cal) (env : Env) : List IE → M (List Slot)
  | [] => ret []
  | e :: es => bnd (argOf e (evE K env e) env) fun d => bnd (evAs K env es) fun ds => ret (d :: ds)
def evIf (K : Cal) (env : Env) : List IE → M Bool
  | [] => ret true
  | e :: es => bnd (tst e (evE K env e) env) fun b => iteM b (evIf K env es) (ret false)
end

inductive Flow where
  | next (env : Env)
  | ret (d : D)
inductive Step where
  | go (s : List Slot)
  | out (d : D)
def forL (f : List Slot → D → M Step) : List D → List Slot → M Step
  | [], s => ret (.go s)
  | x :: xs, s => bnd (f s x) fun
    | .go s' => forL f xs s'
    | .out d => ret (.out d)
def whileL (c : List Slot → M Bool) (f : List Slot → M Step) : Nat → List Slot → M Step
  | 0, _ => fail
  | n + 1, s => bnd (c s) fun b => iteM b (bnd (f s) fun
    | .go s' => whileL c f n s'
    | .out d => ret (.out d)) (ret (.go s))
@[irreducible] def fuelW : Nat := 2 ^ 60

def setV (c k d : D) : M D := match c, k with
  | .dict kvs, k => bnd (dPutV kvs k d) fun kvs' => ret (.dict kvs')
  | .list xs, .int i => match ixOf xs.length i with
    | some j => ret (.list (xs.set j d))
    | none => fail
  | _, _ => fail
def setSlot (env : Env) (i : Nat) (k d : D) : M Env := match nth env i with
  | .own c => bnd (setV c k d) fun c' => ret (put env i (.own c'))
  | .hand => bnd getH fun h => bnd (setV (.list h) k d) fun
    | .list h' => bnd (putH h') fun _ => ret env
    | _ => fail
  | _ => fail
def ownB (env : Env) (i : Nat) : M D := match nth env i with
  | .own (.list ds) => ret (.list ds)
  | _ => fail
/-- a dict that is written -/
def ownD (env : Env) (i : Nat) : M Unit := match nth env i with
  | .own (.dict _) => ret ()
  | _ => fail
/-- d.update(e), d not empty (or all keys ints) -/
def updSlot (env : Env) (i : Nat) (e : D) : M Env := match nth env i, e with
  | .own (.dict kvs), .dict more => bnd (chk (decide (kvs.length + more.length ≤ line) && (!kvs.isEmpty || more.all fun p => kInt p.1)) ()) fun _ => bnd (dPuts kvs more) fun kvs' => ret (put env i (.own (.dict kvs')))
  | _, _ => fail
def natK : D → M Unit
  | .int i => chk (decide (0 ≤ i)) ()
  | _ => fail
def hasL (env : Env) (i : Nat) : M Unit := match nth env i with
  | .own _ => ret ()
  | .hand => ret ()
  | _ => fail
def intOp (op : Bop) (a b : D) : M D := match op, a, b with
  | .add, .int x, .int y => ret (.int (x + y))
  | .sub, .int x, .int y => ret (.int (x - y))
  | _, _, _ => fail
def appSlot (env : Env) (i : Nat) (d : D) : M Env := match nth env i with
  | .own (.list xs) => chk (decide (xs.length < line)) (put env i (.own (.list (xs ++ [d]))))
  | _ => fail
def extSlot (env : Env) (i : Nat) (d : D) : M Env := match nth env i, d with
  | .own (.list xs), .list ys => chk (decide (xs.length + ys.length ≤ line)) (put env i (.own (.list (xs ++ ys))))
  | .own (.list xs), .tuple ys => chk (decide (xs.length + ys.length ≤ line)) (put env i (.own (.list (xs ++ ys))))
  | _, _ => fail
def popSlot (env : Env) (j i : Nat) : M Env := match nth env i with
  | .own (.list xs) => match xs.getLast? with
    | some d => ret (put (put env i (.own (.list xs.dropLast))) j (.val d))
    | none => fail
  | _ => fail
def movSlot (env : Env) (j i : Nat) : M Env := match nth env i with
  | .own d => ret (put (put env i .no) j (.own d))
  | _ => fail
def frzSlot (env : Env) (i : Nat) : M Env := match nth env i with
  | .own d => ret (put env i (.val d))
  | _ => fail
def parT : List (Tg × Bool) → List D → Env → M Env
  | [], [], env => ret env
  | (.name i, true) :: ts, d :: ds, env => parT ts ds (put env i (.own d))
  | (t, false) :: ts, d :: ds, env => bnd (assignT t d env) fun env' => parT ts ds env'
  | _, _, _ => fail
def nextM (m : M Env) : M Flow := bnd m fun env => ret (.next env)
def stepOf (car : List Nat) : Flow → M Step
  | .next env => ret (.go (gets env car))
  | .ret d => ret (.out d)
def endOf (env : Env) (car tmp : List Nat) : Step → M Flow
  | .go s => ret (.next (wipes (puts env car s) tmp))
  | .out d => ret (.ret d)

mutual
def evS (K : Cal) (env : Env) : IS → M Flow
  | .asg t e => bnd (evE K env e) fun d => nextM (assignT t d env)
  | .own i e => bnd (evE K env e) fun d => ret (.next (put env i (.own d)))
  | .par ts es => bnd (evEs K env es) fun ds => nextM (parT ts ds env)
  | .setI i k e => bnd (evE K env e) fun d => bnd (hasL env i) fun _ => bnd (evE K env k) fun kd => nextM (setSlot env i kd d)
  | .augN i op e => bnd (slotV env i) fun x => bnd (evE K env e) fun y => bnd (intOp op x y) fun z => ret (.next (put env i (.val z)))
  | .augI i k op e => bnd (ownB env i) fun c => bnd (evE K env k) fun kd => bnd (natK kd) fun _ => bnd (idxV c kd) fun x => bnd (evE K env e) fun y => bnd (intOp op x y) fun z => nextM (setSlot env i kd z)
  | .app i e => bnd (ownB env i) fun _ => bnd (evE K env e) fun d => nextM (appSlot env i d)
  | .ext i e => bnd (ownB env i) fun _ => bnd (bor e (evE K env e) env) fun d => nextM (extSlot env i d)
  | .popL j i => nextM (popSlot env j i)
  | .mov j i => nextM (movSlot env j i)
  | .frz i => nextM (frzSlot env i)
  | .upd i e => bnd (ownD env i) fun _ => bnd (evE K env e) fun d => nextM (updSlot env i d)
  | .ite c a b => bnd (tst c (evE K env c) env) fun t => iteM t (evSs K env a) (evSs K env b)
  | .for t it car tmp body => bnd (itr it (evE K env it) env) fun xs =>
      bnd (forL (fun s d => bnd (assignT t d (wipes (puts env car s) tmp)) fun env1 => bnd (evSs K env1 body) (stepOf car)) xs (gets env car)) (endOf env car tmp)
  | .whil c car tmp body =>
      bnd (whileL (fun s => tst c (evE K (wipes (puts env car s) tmp) c) (wipes (puts env car s) tmp)) (fun s => bnd (evSs K (wipes (puts env car s) tmp) body) (stepOf car)) fuelW (gets env car)) (endOf env car tmp)
  | .ret e => bnd (bor e (evE K env e) env) fun d => ret (.ret d)
  | .retN => ret (.ret .none)
  | .raise c es => bnd (evEs K env es) fun ds => thr ⟨c, ds⟩
  | .expr e => bnd (evE K env e) fun _ => ret (.next env)
  | .pass => ret (.next env)
  | .never => fail
def evSs (K : Cal) (env : Env) : List IS → M Flow
  | [] => ret (.next env)
  | s :: ss => bnd (evS K env s) fun
    | .next env' => evSs K env' ss
    | .ret d => ret (.ret d)
end

/-- a def that calls what it is handed, and tells its exceptions -/
structure WFn where
  n : Nat
  es : Nat
  pre : List IS
  retq : Bool
  hs : List (Nat × List IS)
  post : List IS
structure Fn where
  np : Nat
  n : Nat
  body : List IS
def entry (fn : Fn) (as : List Slot) : Env := as ++ List.replicate (fn.n - as.length) .no
def outOf : Flow → M D
  | .next _ => ret .none
  | .ret d => ret d
def runFn (K : Cal) (fn : Fn) (as : List Slot) : M D := if as.length = fn.np then bnd (evSs K (entry fn as) fn.body) outOf else fail
structure Prg where
  tbl : Nat → Option Fn
  wd : Nat → M D → M D
  isa : Nat → Nat → Option Bool
def wPost (K : Cal) (wf : WFn) (env : Env) : M D := bnd (evSs K env wf.post) outOf
def wHs (K : Cal) (wf : WFn) (env : Env) (e : Exn) : List (Nat × List IS) → M D
  | [] => fail
  | (c, suite) :: r => match K.isa e.cls c with
    | some true => bnd (evSs K (put env wf.es (.exn e.cls)) suite) fun
      | .ret x => ret x
      | .next env' => wPost K wf (put env' wf.es .no)
    | some false => wHs K wf env e r
    | none => fail
def wTry (K : Cal) (wf : WFn) (m : M D) (env : Env) : M D := fun h => match m h with
  | .ok d h' => (if wf.retq then ret d else wPost K wf env) h'
  | .exc e h' => wHs K wf (List.replicate wf.n .no) e wf.hs h'
  | .bad => .bad
def wRun (K : Cal) (wf : WFn) (m : M D) : M D := bnd (evSs K (List.replicate wf.n .no) wf.pre) fun
  | .ret x => ret x
  | .next env => wTry K wf m env
/-- what a word-def may call: nothing -/
def calW (isa : Nat → Nat → Option Bool) : Cal := ⟨fun _ _ => fail, fun _ _ => fail, false, fun _ _ => fail, isa⟩
def callAt (P : Prg) (K : Cal) (f : Nat) (as : List Slot) : M D := match P.tbl f with
  | some fn => runFn K fn as
  | none => fail
def callF (P : Prg) : Nat → Nat → List Slot → M D
  | 0 => fun _ _ => fail
  | 1 => callAt P ⟨callF P 0, callF P 0, false, P.wd, P.isa⟩
  | 2 => callAt P ⟨callF P 1, callF P 0, false, P.wd, P.isa⟩
  | n + 3 => callAt P ⟨callF P (n + 2), callF P n, true, P.wd, P.isa⟩
/-- what a def at level n + 1 calls -/
def calOf (P : Prg) (n : Nat) : Cal := ⟨callF P n, callF P (n - 2), decide (2 ≤ n), P.wd, P.isa⟩
theorem callF_at (P : Prg) (n : Nat) : callF P (n + 1) = callAt P (calOf P n) := by
  match n with
  | 0 => rfl
  | 1 => rfl
  | n + 2 =>
    show callAt P ⟨callF P (n + 2), callF P n, true, P.wd, P.isa⟩ = callAt P ⟨callF P (n + 2), callF P (n + 2 - 2), decide (2 ≤ n + 2), P.wd, P.isa⟩
    rw [show decide (2 ≤ n + 2) = true from decide_eq_true (by omega)]
    rfl
end Ev
set_option Elab.async false
set_option linter.all false
/-! Rewriting rules for the evaluator. -/
namespace Ev
open PySem PySem.W

theorem callF_succ (P : Prg) (n f : Nat) (as : List Slot) {fn : Fn} (h : P.tbl f = some fn) : callF P (n + 1) f as = runFn (calOf P n) fn as := by
  rw [callF_at]
  unfold callAt
  rw [h]
@[simp] theorem chk_true {α : Type} (a : α) : chk true a = ret a := rfl
@[simp] theorem chk_false {α : Type} (a : α) : chk false a = fail := rfl
theorem chk_of {α : Type} {b : Bool} (a : α) (h : b = true) : chk b a = ret a := by rw [h]; rfl
@[simp] theorem iteM_true {α : Type} (x y : M α) : iteM true x y = x := rfl
@[simp] theorem iteM_false {α : Type} (x y : M α) : iteM false x y = y := rfl
theorem iteM_ret {α : Type} (b : Bool) (x y : α) : iteM b (ret x) (ret y) = ret (if b then x else y) := by cases b <;> rfl
theorem iteM_same {α : Type} (b : Bool) (x : M α) : iteM b x x = x := by cases b <;> rfl

/-! ints -/
theorem ordOk_int (a b : Int) : ordOk (.int a) (.int b) = true := by simp [ordOk, alike, isNonD, deepOk, PyData.depth]
theorem eqOk_int (a b : Int) : eqOk (.int a) (.int b) = true := by simp [eqOk, PyData.plain, deepOk, PyData.depth]
@[simp] theorem cmp_lt_int (a b : Int) : cmpV .lt (.int a) (.int b) = ret (.bool (decide (a < b))) := by simp [cmpV, ordOk_int, dataLt_int]
@[simp] theorem cmp_le_int (a b : Int) : cmpV .le (.int a) (.int b) = ret (.bool (decide (a ≤ b))) := by
  simp only [cmpV, ordOk_int, dataLt_int, chk_true]
  congr 2
  by_cases h : a ≤ b
  · rw [decide_eq_true h, decide_eq_false (by omega)]; rfl
  · rw [decide_eq_false h, decide_eq_true (by omega)]; rfl
@[simp] theorem cmp_gt_int (a b : Int) : cmpV .gt (.int a) (.int b) = ret (.bool (decide (b < a))) := by simp [cmpV, ordOk_int, dataLt_int]
@[simp] theorem cmp_ge_int (a b : Int) : cmpV .ge (.int a) (.int b) = ret (.bool (decide (b ≤ a))) := by
  simp only [cmpV, ordOk_int, dataLt_int, chk_true]
  congr 2
  by_cases h : b ≤ a
  · rw [decide_eq_true h, decide_eq_false (by omega)]; rfl
  · rw [decide_eq_false h, decide_eq_true (by omega)]; rfl
theorem eqv_int (a b : Int) : PyData.eqv (.int a) (.int b) = decide (a = b) := by
  simp only [PyData.eqv]
  exact beq_decide a b
@[simp] theorem cmp_eq_int (a b : Int) : cmpV .eq (.int a) (.int b) = ret (.bool (decide (a = b))) := by simp only [cmpV, eqOk_int, chk_true, eqv_int]
@[simp] theorem cmp_ne_int (a b : Int) : cmpV .ne (.int a) (.int b) = ret (.bool (!decide (a = b))) := by simp only [cmpV, eqOk_int, chk_true, eqv_int]
@[simp] theorem bop_add_int (a b : Int) : bopV .add (.int a) (.int b) = ret (.int (a + b)) := rfl
@[simp] theorem bop_sub_int (a b : Int) : bopV .sub (.int a) (.int b) = ret (.int (a - b)) := rfl
@[simp] theorem slotB_val {env : Env} {i : Nat} {d : D} (h : nth env i = .val d) : slotB env i = ret d := by unfold slotB; rw [h]

/-! what is looked at -/
@[simp] theorem bo_var (i : Nat) (v : M D) (env : Env) : bor (.var i) v env = slotB env i := rfl
@[simp] theorem bo_cst (d : D) (v : M D) (env : Env) : bor (.cst d) v env = v := rfl
@[simp] theorem ao_cst (d : D) (v : M D) (env : Env) : argOf (.cst d) v env = bnd v fun d => ret (.val d) := rfl
@[simp] theorem bo_glob (x : Str) (d : D) (v : M D) (env : Env) : bor (.glob x d) v env = v := rfl
@[simp] theorem ao_glob (x : Str) (d : D) (v : M D) (env : Env) : argOf (.glob x d) v env = bnd v fun d => ret (.val d) := rfl
@[simp] theorem bo_absent  (v : M D) (env : Env) : bor (.absent ) v env = v := rfl
@[simp] theorem ao_absent  (v : M D) (env : Env) : argOf (.absent ) v env = bnd v fun d => ret (.val d) := rfl
@[simp] theorem bo_bop (op : Bop) (a b : IE) (v : M D) (env : Env) : bor (.bop op a b) v env = v := rfl
@[simp] theorem ao_bop (op : Bop) (a b : IE) (v : M D) (env : Env) : argOf (.bop op a b) v env = bnd v fun d => ret (.val d) := rfl
@[simp] theorem bo_neg (a : IE) (v : M D) (env : Env) : bor (.neg a) v env = v := rfl
@[simp] theorem ao_neg (a : IE) (v : M D) (env : Env) : argOf (.neg a) v env = bnd v fun d => ret (.val d) := rfl
@[simp] theorem bo_not (a : IE) (v : M D) (env : Env) : bor (.not a) v env = v := rfl
@[simp] theorem ao_not (a : IE) (v : M D) (env : Env) : argOf (.not a) v env = bnd v fun d => ret (.val d) := rfl
@[simp] theorem bo_and (a b : IE) (v : M D) (env : Env) : bor (.and a b) v env = v := rfl
@[simp] theorem ao_and (a b : IE) (v : M D) (env : Env) : argOf (.and a b) v env = bnd v fun d => ret (.val d) := rfl
@[simp] theorem bo_or (a b : IE) (v : M D) (env : Env) : bor (.or a b) v env = v := rfl
@[simp] theorem ao_or (a b : IE) (v : M D) (env : Env) : argOf (.or a b) v env = bnd v fun d => ret (.val d) := rfl
@[simp] theorem bo_cmp (op : Cop) (a b : IE) (v : M D) (env : Env) : bor (.cmp op a b) v env = v := rfl
@[simp] theorem ao_cmp (op : Cop) (a b : IE) (v : M D) (env : Env) : argOf (.cmp op a b) v env = bnd v fun d => ret (.val d) := rfl
@[simp] theorem bo_cmp2 (op op2 : Cop) (a b c : IE) (v : M D) (env : Env) : bor (.cmp2 op op2 a b c) v env = v := rfl
@[simp] theorem ao_cmp2 (op op2 : Cop) (a b c : IE) (v : M D) (env : Env) : argOf (.cmp2 op op2 a b c) v env = bnd v fun d => ret (.val d) := rfl
@[simp] theorem bo_ite (a b c : IE) (v : M D) (env : Env) : bor (.ite a b c) v env = v := rfl
@[simp] theorem ao_ite (a b c : IE) (v : M D) (env : Env) : argOf (.ite a b c) v env = bnd v fun d => ret (.val d) := rfl
@[simp] theorem bo_tup (es : List IE) (v : M D) (env : Env) : bor (.tup es) v env = v := rfl
@[simp] theorem ao_tup (es : List IE) (v : M D) (env : Env) : argOf (.tup es) v env = bnd v fun d => ret (.val d) := rfl
@[simp] theorem bo_lst (es : List IE) (v : M D) (env : Env) : bor (.lst es) v env = v := rfl
@[simp] theorem ao_lst (es : List IE) (v : M D) (env : Env) : argOf (.lst es) v env = bnd v fun d => ret (.val d) := rfl
@[simp] theorem bo_idx (a b : IE) (v : M D) (env : Env) : bor (.idx a b) v env = v := rfl
@[simp] theorem ao_idx (a b : IE) (v : M D) (env : Env) : argOf (.idx a b) v env = bnd v fun d => ret (.val d) := rfl
@[simp] theorem bo_slice (a b c : IE) (v : M D) (env : Env) : bor (.slice a b c) v env = v := rfl
@[simp] theorem ao_slice (a b c : IE) (v : M D) (env : Env) : argOf (.slice a b c) v env = bnd v fun d => ret (.val d) := rfl
@[simp] theorem bo_rev (a : IE) (v : M D) (env : Env) : bor (.rev a) v env = v := rfl
@[simp] theorem ao_rev (a : IE) (v : M D) (env : Env) : argOf (.rev a) v env = bnd v fun d => ret (.val d) := rfl
@[simp] theorem bo_dz (v : M D) (env : Env) : bor (.dz) v env = v := rfl
@[simp] theorem ao_dz (v : M D) (env : Env) : argOf (.dz) v env = bnd v fun d => ret (.val d) := rfl
@[simp] theorem bo_dl (k : D) (a : IE) (v : M D) (env : Env) : bor (.dl k a) v env = v := rfl
@[simp] theorem ao_dl (k : D) (a : IE) (v : M D) (env : Env) : argOf (.dl k a) v env = bnd v fun d => ret (.val d) := rfl
@[simp] theorem bo_look (i : Nat) (v : M D) (env : Env) : bor (.look i) v env = slotD env i := rfl
@[simp] theorem bo_dd (es : List IE) (v : M D) (env : Env) : bor (.dd es) v env = v := rfl
@[simp] theorem ao_dd (es : List IE) (v : M D) (env : Env) : argOf (.dd es) v env = bnd v fun d => ret (.val d) := rfl
@[simp] theorem bo_dget (a k x : IE) (v : M D) (env : Env) : bor (.dget a k x) v env = v := rfl
@[simp] theorem ao_dget (a k x : IE) (v : M D) (env : Env) : argOf (.dget a k x) v env = bnd v fun d => ret (.val d) := rfl
@[simp] theorem bo_dc (a b : IE) (t : Tg) (c : IE) (cs : List IE) (o : List Nat) (v : M D) (env : Env) : bor (.dc a b t c cs o) v env = v := rfl
@[simp] theorem ao_dc (a b : IE) (t : Tg) (c : IE) (cs : List IE) (o : List Nat) (v : M D) (env : Env) : argOf (.dc a b t c cs o) v env = bnd v fun d => ret (.val d) := rfl
@[simp] theorem bo_call (f : Nat) (es : List IE) (v : M D) (env : Env) : bor (.call f es) v env = v := rfl
@[simp] theorem ao_call (f : Nat) (es : List IE) (v : M D) (env : Env) : argOf (.call f es) v env = bnd v fun d => ret (.val d) := rfl
@[simp] theorem bo_lam (f : Nat) (a : IE) (v : M D) (env : Env) : bor (.lam f a) v env = v := rfl
@[simp] theorem ao_lam (f : Nat) (a : IE) (v : M D) (env : Env) : argOf (.lam f a) v env = bnd v fun d => ret (.val d) := rfl
@[simp] theorem bo_b1 (o : B1) (a : IE) (v : M D) (env : Env) : bor (.b1 o a) v env = v := rfl
@[simp] theorem ao_b1 (o : B1) (a : IE) (v : M D) (env : Env) : argOf (.b1 o a) v env = bnd v fun d => ret (.val d) := rfl
@[simp] theorem bo_b2 (o : B2) (a b : IE) (v : M D) (env : Env) : bor (.b2 o a b) v env = v := rfl
@[simp] theorem ao_b2 (o : B2) (a b : IE) (v : M D) (env : Env) : argOf (.b2 o a b) v env = bnd v fun d => ret (.val d) := rfl
@[simp] theorem bo_isi (a : IE) (ts : List Ty) (v : M D) (env : Env) : bor (.isi a ts) v env = v := rfl
@[simp] theorem ao_isi (a : IE) (ts : List Ty) (v : M D) (env : Env) : argOf (.isi a ts) v env = bnd v fun d => ret (.val d) := rfl
@[simp] theorem bo_lc (a : IE) (t : Tg) (b : IE) (cs : List IE) (o : List Nat) (v : M D) (env : Env) : bor (.lc a t b cs o) v env = v := rfl
@[simp] theorem ao_lc (a : IE) (t : Tg) (b : IE) (cs : List IE) (o : List Nat) (v : M D) (env : Env) : argOf (.lc a t b cs o) v env = bnd v fun d => ret (.val d) := rfl
@[simp] theorem bo_m1 (o : M1) (a b : IE) (v : M D) (env : Env) : bor (.m1 o a b) v env = v := rfl
@[simp] theorem ao_m1 (o : M1) (a b : IE) (v : M D) (env : Env) : argOf (.m1 o a b) v env = bnd v fun d => ret (.val d) := rfl
@[simp] theorem bo_thk (i : Nat) (v : M D) (env : Env) : bor (.thk i) v env = v := rfl
@[simp] theorem ao_thk (i : Nat) (v : M D) (env : Env) : argOf (.thk i) v env = bnd v fun d => ret (.val d) := rfl
@[simp] theorem bo_hidx (i : Nat) (a : IE) (v : M D) (env : Env) : bor (.hidx i a) v env = v := rfl
@[simp] theorem ao_hidx (i : Nat) (a : IE) (v : M D) (env : Env) : argOf (.hidx i a) v env = bnd v fun d => ret (.val d) := rfl
@[simp] theorem bo_rawSl (i : Nat) (a b : IE) (v : M D) (env : Env) : bor (.rawSl i a b) v env = v := rfl
@[simp] theorem ao_rawSl (i : Nat) (a b : IE) (v : M D) (env : Env) : argOf (.rawSl i a b) v env = bnd v fun d => ret (.val d) := rfl
@[simp] theorem bo_isx (i c : Nat) (v : M D) (env : Env) : bor (.isx i c) v env = v := rfl
@[simp] theorem ao_isx (i c : Nat) (v : M D) (env : Env) : argOf (.isx i c) v env = bnd v fun d => ret (.val d) := rfl
@[simp] theorem bo_never  (v : M D) (env : Env) : bor (.never ) v env = v := rfl
@[simp] theorem ao_never  (v : M D) (env : Env) : argOf (.never ) v env = bnd v fun d => ret (.val d) := rfl
@[simp] theorem bo_range (a b c : IE) (v : M D) (env : Env) : bor (.range a b c) v env = v := rfl
@[simp] theorem ao_range (a b c : IE) (v : M D) (env : Env) : argOf (.range a b c) v env = bnd v fun d => ret (.val d) := rfl
@[simp] theorem bo_zip (a b : IE) (v : M D) (env : Env) : bor (.zip a b) v env = v := rfl
@[simp] theorem ao_zip (a b : IE) (v : M D) (env : Env) : argOf (.zip a b) v env = bnd v fun d => ret (.val d) := rfl
@[simp] theorem bo_enum (a : IE) (v : M D) (env : Env) : bor (.enum a) v env = v := rfl
@[simp] theorem ao_enum (a : IE) (v : M D) (env : Env) : argOf (.enum a) v env = bnd v fun d => ret (.val d) := rfl

/-! lists of results -/
@[simp] theorem lcL_nil (f : D → M (Option D)) : lcL f [] = ret [] := rfl
theorem lcL_map {α : Type} (f : D → M (Option D)) (e : α → D) (g : α → Option D) : ∀ (xs : List α), (∀ x ∈ xs, f (e x) = ret (g x)) → lcL f (xs.map e) = ret (xs.filterMap g)
  | [], _ => rfl
  | x :: xs, h => by
    have h1 := h x (List.mem_cons_self ..)
    have h2 := lcL_map f e g xs fun y hy => h y (List.mem_cons_of_mem _ hy)
    show bnd (f (e x)) _ = _
    rw [h1, bnd_ret, h2, bnd_ret]
    congr 1
    cases q : g x with
    | none => simp [q]
    | some y => simp [q]
theorem lcL_ret (f : D → M (Option D)) (g : D → Option D) (xs : List D) (h : ∀ x ∈ xs, f x = ret (g x)) : lcL f xs = ret (xs.filterMap g) := by
  have := lcL_map f id g xs h
  simpa using this
theorem allBools_map {α : Type} (g : α → Bool) : ∀ xs : List α, allBools (xs.map fun x => .bool (g x)) = some (xs.map g)
  | [] => rfl
  | x :: xs => by
    show (match allBools (xs.map fun x => .bool (g x)) with | some is => some (g x :: is) | none => none) = _
    rw [allBools_map g xs]
    rfl
theorem allInts_map {α : Type} (g : α → Int) : ∀ xs : List α, allInts (xs.map fun x => .int (g x)) = some (xs.map g)
  | [] => rfl
  | x :: xs => by
    show (match allInts (xs.map fun x => .int (g x)) with | some is => some (g x :: is) | none => none) = _
    rw [allInts_map g xs]
    rfl
@[simp] theorem all_map {α : Type} (g : α → Bool) (xs : List α) : b1V .all (.list (xs.map fun x => .bool (g x))) = ret (.bool (xs.all g)) := by
  simp only [b1V, allBools_map, List.all_map]
  rfl
@[simp] theorem any_map {α : Type} (g : α → Bool) (xs : List α) : b1V .any (.list (xs.map fun x => .bool (g x))) = ret (.bool (xs.any g)) := by
  simp only [b1V, allBools_map, List.any_map]
  rfl
theorem filterMap_some {α β : Type} (g : α → β) (xs : List α) : xs.filterMap (fun x => some (g x)) = xs.map g := by
  rw [List.filterMap_eq_map']
theorem filterMap_if {α β : Type} (p : α → Bool) (g : α → β) (xs : List α) : xs.filterMap (fun x => if p x = true then some (g x) else none) = (xs.filter p).map g := by
  induction xs with
  | nil => rfl
  | cons x xs ih =>
    rw [List.filterMap_cons, List.filter_cons]
    cases h : p x with
    | true => simp [ih]
    | false => simp [ih]

/-! loops -/
theorem forL_fold {α S : Type} (f : List Slot → D → M Step) (e : α → D) (enc : S → List Slot) (g : S → α → S) :
    ∀ (xs : List α) (s : S), (∀ pre x post, xs = pre ++ x :: post → f (enc (pre.foldl g s)) (e x) = ret (.go (enc (g (pre.foldl g s) x)))) → forL f (xs.map e) (enc s) = ret (.go (enc (xs.foldl g s)))
  | [], s, _ => rfl
  | x :: xs, s, h => by
    show bnd (f (enc s) (e x)) _ = _
    rw [show f (enc s) (e x) = ret (.go (enc (g s x))) from h [] x xs rfl, bnd_ret]
    exact forL_fold f e enc g xs (g s x) fun pre y post q => h (x :: pre) y post (by rw [q]; rfl)
theorem forL_fold' {α S : Type} (f : List Slot → D → M Step) (e : α → D) (enc : S → List Slot) (g : S → α → S) (xs : List α) (s : S) (h : ∀ s x, x ∈ xs → f (enc s) (e x) = ret (.go (enc (g s x)))) :
    forL f (xs.map e) (enc s) = ret (.go (enc (xs.foldl g s))) :=
  forL_fold f e enc g xs s fun pre x post q => h _ _ (by rw [q]; simp)
end Ev
set_option Elab.async false
set_option linter.all false
set_option maxRecDepth 100000
set_option maxHeartbeats 1000000
/-! The law's hand; what holds of every run. -/
namespace Ev
open PySem PySem.W

theorem bnd_getH {β : Type} (f : List D → M β) (h : List D) : bnd getH f h = f h h := by rw [run_bnd, run_getH]; rfl
theorem bnd_putH {β : Type} (x : List D) (f : Unit → M β) (h : List D) : bnd (putH x) f h = f () x := by rw [run_bnd, run_putH]; rfl

def hD (cells : List Int) (i rest mix cnt : Int) : List D := [.list (cells.map .int), .int i, .int rest, .int mix, .int cnt]
/-- the hand of a law -/
def HI (h : List D) : Prop := ∃ (cells : List Int) (i rest mix cnt : Int), h = hD cells i rest mix cnt ∧ (∀ c ∈ cells, 0 ≤ c) ∧ 0 ≤ i ∧ 0 ≤ rest ∧ 0 ≤ mix ∧ mix < 2147483648 ∧ 0 ≤ cnt
def Wp {α : Type} (m : M α) (Q : α → Prop) : Prop := ∀ h, HI h → ∃ a h', m h = .ok a h' ∧ HI h' ∧ Q a
def WpX {α : Type} (m : M α) (Q : α → Prop) (E : Exn → Prop) : Prop := ∀ h, HI h → (∃ a h', m h = .ok a h' ∧ HI h' ∧ Q a) ∨ (∃ e h', m h = .exc e h' ∧ HI h' ∧ E e)
section
variable {α β : Type}
theorem Wp.ret {a : α} {Q : α → Prop} (h : Q a) : Wp (ret a) Q := fun h0 i => ⟨a, h0, run_ret a h0, i, h⟩
theorem Wp.bnd {m : M α} {f : α → M β} {Q : β → Prop} (h : Wp m fun a => Wp (f a) Q) : Wp (bnd m f) Q := fun h0 i => by
  obtain ⟨a, h1, e1, i1, w⟩ := h h0 i
  obtain ⟨b, h2, e2, i2, q⟩ := w h1 i1
  exact ⟨b, h2, by rw [bnd_ok e1, e2], i2, q⟩
theorem Wp.mono {m : M α} {Q Q' : α → Prop} (h : Wp m Q) (k : ∀ a, Q a → Q' a) : Wp m Q' := fun h0 i => by
  obtain ⟨a, h1, e1, i1, q⟩ := h h0 i
  exact ⟨a, h1, e1, i1, k a q⟩
theorem Wp.of {m : M α} {a : α} {Q : α → Prop} (e : ∀ h, m h = .ok a h) (h : Q a) : Wp m Q := fun h0 i => ⟨a, h0, e h0, i, h⟩
theorem Wp.calm {m : M α} {Q : α → Prop} (h : Wp m Q) : Wp (calm m) Q := fun h0 i => by
  obtain ⟨a, h1, e1, i1, q⟩ := h h0 i
  exact ⟨a, h1, by rw [run_calm, e1]; rfl, i1, q⟩
theorem WpX.of {m : M α} {e : Exn} {Q : α → Prop} {E : Exn → Prop} (h : ∀ h, m h = .exc e h) (hE : E e) : WpX m Q E := fun h0 i => .inr ⟨e, h0, h h0, i, hE⟩
theorem WpX.wp {m : M α} {Q : α → Prop} {E : Exn → Prop} (h : Wp m Q) : WpX m Q E := fun h0 i => .inl (h h0 i)
theorem WpX.bnd {m : M α} {f : α → M β} {Q : β → Prop} {E : Exn → Prop} (h : Wp m fun a => WpX (f a) Q E) : WpX (Ev.bnd m f) Q E := fun h0 i => by
  obtain ⟨a, h1, e1, i1, w⟩ := h h0 i
  rcases w h1 i1 with ⟨b, h2, e2, i2, q⟩ | ⟨b, h2, e2, i2, q⟩
  · exact .inl ⟨b, h2, by rw [bnd_ok e1, e2], i2, q⟩
  · exact .inr ⟨b, h2, by rw [bnd_ok e1, e2], i2, q⟩
/-- a loop whose body always goes on -/
theorem Wp.forL {f : List Slot → D → M Step} {Q : Step → Prop} (I : List D → List Slot → Prop) : ∀ (xs : List D) (s : List Slot), I xs s → (∀ x xs s, I (x :: xs) s → Wp (f s x) fun st => ∃ s', st = .go s' ∧ I xs s') → (∀ s, I [] s → Q (.go s)) → Wp (Ev.forL f xs s) Q
  | [], s, i, _, q => Wp.ret (q s i)
  | x :: xs, s, i, b, q => by
    refine Wp.bnd ((b x xs s i).mono fun st h => ?_)
    obtain ⟨s', rfl, i'⟩ := h
    exact Wp.forL I xs s' i' b q
theorem evSs_cons {K : Cal} {env : Env} {s : IS} {ss : List IS} {Q : Ev.Flow → Prop} (h : Wp (evS K env s) fun fl => ∃ env', fl = Ev.Flow.next env' ∧ Wp (evSs K env' ss) Q) : Wp (evSs K env (s :: ss)) Q := by
  refine Wp.bnd (h.mono fun fl h => ?_)
  obtain ⟨env', rfl, h⟩ := h
  exact h
theorem evSs_app (K : Cal) : ∀ (b1 b2 : List IS) (env : Env), evSs K env (b1 ++ b2) = bnd (evSs K env b1) fun
    | Ev.Flow.next env' => evSs K env' b2
    | Ev.Flow.ret d => ret (.ret d)
  | [], b2, env => by
    show evSs K env b2 = bnd (ret (Ev.Flow.next env)) _
    rw [bnd_ret]
  | s :: b1, b2, env => by
    show bnd (evS K env s) _ = bnd (bnd (evS K env s) _) _
    rw [bnd_assoc]
    congr 1
    funext fl
    cases fl with
    | next env' => exact evSs_app K b1 b2 env'
    | ret d => rw [bnd_ret]
end
end Ev
set_option Elab.async false
set_option linter.all false
set_option maxRecDepth 100000
set_option maxHeartbeats 4000000
/-! Drawing. -/
namespace Ev
open PySem PySem.W

section
variable (cells : List Int) (i rest mix cnt j : Int)
theorem hd0 : idxV (.list (hD cells i rest mix cnt)) (.int 0) = ret (.list (cells.map .int)) := rfl
theorem hd1 : idxV (.list (hD cells i rest mix cnt)) (.int 1) = ret (.int i) := rfl
theorem hd2 : idxV (.list (hD cells i rest mix cnt)) (.int 2) = ret (.int rest) := rfl
theorem hd3 : idxV (.list (hD cells i rest mix cnt)) (.int 3) = ret (.int mix) := rfl
theorem hd4 : idxV (.list (hD cells i rest mix cnt)) (.int 4) = ret (.int cnt) := rfl
theorem hs1 : setV (.list (hD cells i rest mix cnt)) (.int 1) (.int j) = ret (.list (hD cells j rest mix cnt)) := rfl
theorem hs2 : setV (.list (hD cells i rest mix cnt)) (.int 2) (.int j) = ret (.list (hD cells i j mix cnt)) := rfl
theorem hs3 : setV (.list (hD cells i rest mix cnt)) (.int 3) (.int j) = ret (.list (hD cells i rest j cnt)) := rfl
theorem hs4 : setV (.list (hD cells i rest mix cnt)) (.int 4) (.int j) = ret (.list (hD cells i rest mix j)) := rfl
end
theorem idx_ints {cells : List Int} {i : Int} (h0 : 0 ≤ i) (h1 : i < cells.length) : ∃ c ∈ cells, idxV (.list (cells.map .int)) (.int i) = ret (.int c) := by
  have hl : i.toNat < cells.length := by omega
  refine ⟨cells[i.toNat], List.getElem_mem hl, ?_⟩
  show atD _ _ = _
  unfold atD ixOf
  rw [List.length_map, if_pos h0, if_pos h1]
  dsimp only
  rw [List.getElem?_map, List.getElem?_eq_getElem hl]
  rfl
theorem len_ints (cells : List Int) : b1V .len (.list (cells.map .int)) = ret (.int cells.length) := by
  show ret _ = _
  rw [List.length_map]
@[simp] theorem b1_int (i : Int) : b1V .int (.int i) = ret (.int i) := rfl
@[simp] theorem truthy_bool (b : Bool) : truthyV (.bool b) = ret b := rfl
@[simp] theorem andV_bool (b : Bool) (m : M D) : andV (.bool b) m = iteM b m (ret (.bool false)) := by cases b <;> rfl
@[simp] theorem orV_bool (b : Bool) (m : M D) : orV (.bool b) m = iteM b (ret (.bool true)) m := by cases b <;> rfl
theorem mul_small {a b : Int} (h : small a = true ∨ small b = true) : bopV .mul (.int a) (.int b) = ret (.int (a * b)) := by
  show chk _ _ = _
  rw [chk_of]
  rcases h with h | h <;> simp [h]
theorem mod_pos {a b : Int} (h : 0 < b) : bopV .mod (.int a) (.int b) = ret (.int (a % b)) := by
  show chk _ _ = _
  rw [chk_of]
  simp [h]
theorem fdiv_pos {a b : Int} (h : 0 < b) (h2 : b < 1073741824) : bopV .fdiv (.int a) (.int b) = ret (.int (a / b)) := by
  show chk _ _ = _
  rw [chk_of]
  simp [h, h2]

/-- what makes the next of a mix -/
structure DrawC where
  c1 : Int
  c2 : Int
  c3 : Int
  m1 : Int
  c4 : Int
  c5 : Int
  m2 : Int
  q3 : Int
  c6 : Int
  m3 : Int
  q4 : Int
  c7 : Int
  m4 : Int
  q5 : Int
def dInt (i : Int) : IE := .cst (.int i)
def drawMixA (c : DrawC) : IE := .bop .add (.bop .add (.bop .mul (.hidx 0 (.cst (.int 3))) (dInt c.c1)) (.bop .mul (.var 3) (dInt c.c2))) (dInt c.c3)
def drawMixB (c : DrawC) : IE := .bop .add (.bop .add (.bop .mul (.hidx 0 (.cst (.int 3))) (dInt c.c1)) (.var 3)) (dInt c.c3)
def draw1 (c : DrawC) (e : IE) : IS := .ite (.and (.cmp .eq (.hidx 0 (.cst (.int 2))) (.cst (.int 0))) (.cmp .lt (.hidx 0 (.cst (.int 1))) (.b1 .len (.hidx 0 (.cst (.int 0)))))) [.asg (.name 3) (.idx (.hidx 0 (.cst (.int 0))) (.hidx 0 (.cst (.int 1)))), .setI 0 (.cst (.int 1)) (.bop .add (.hidx 0 (.cst (.int 1))) (.cst (.int 1))), .setI 0 (.cst (.int 3)) (.bop .mod (.b1 .int e) (dInt c.m1)), .ite (.cmp .ge (.var 3) (.bop .pow (.cst (.int 10)) (.cst (.int 18)))) [.setI 0 (.cst (.int 2)) (.var 3)] []] []
def draw2 (c : DrawC) : List IS := [
  .ite (.cmp .gt (.hidx 0 (.cst (.int 2))) (.cst (.int 0))) [.asg (.name 4) (.bop .mod (.b1 .int (.hidx 0 (.cst (.int 2)))) (.var 1)), .setI 0 (.cst (.int 2)) (.bop .fdiv (.hidx 0 (.cst (.int 2))) (.var 1)), .ret (.var 4)] [],
  .setI 0 (.cst (.int 4)) (.bop .add (.hidx 0 (.cst (.int 4))) (.cst (.int 1))),
  .asg (.name 2) (.bop .mod (.b1 .int (.bop .mul (.b1 .int (.bop .add (.hidx 0 (.cst (.int 3))) (.bop .mul (dInt c.c4) (.hidx 0 (.cst (.int 4)))))) (dInt c.c5))) (dInt c.m2)),
  .asg (.name 2) (.bop .mod (.b1 .int (.bop .mul (.var 2) (.bop .add (.bop .fdiv (.var 2) (dInt c.q3)) (dInt c.c6)))) (dInt c.m3)),
  .asg (.name 2) (.bop .mod (.b1 .int (.bop .mul (.var 2) (.bop .add (.bop .fdiv (.var 2) (dInt c.q4)) (dInt c.c7)))) (dInt c.m4)),
  .ret (.bop .mod (.b1 .int (.bop .fdiv (.var 2) (dInt c.q5))) (.var 1))]
def sm (i : Int) : Prop := 0 < i ∧ i ≤ 2147483648
def sq (i : Int) : Prop := 0 < i ∧ i < 1073741824
structure DrawC.Ok (c : DrawC) : Prop where
  c1 : small c.c1 = true
  c2 : small c.c2 = true
  m1 : sm c.m1
  c4 : small c.c4 = true
  c5 : small c.c5 = true
  m2 : sm c.m2
  q3 : sq c.q3
  m3 : sm c.m3
  q4 : sq c.q4
  m4 : sm c.m4
  q5 : sq c.q5
section
variable {K : Cal} {many : Int} {a b d : Slot}
abbrev dEnv (many : Int) (a b d : Slot) : Env := [.hand, .val (.int many), a, b, d]
theorem pow18 : bopV .pow (.int 10) (.int 18) = ret (.int 1000000000000000000) := rfl
theorem small_mod {x m : Int} (h : sm m) : small (x % m) = true := by
  obtain ⟨h1, h2⟩ := h
  have h3 := Int.emod_nonneg x (show m ≠ 0 by omega)
  have h4 := Int.emod_lt_of_pos x h1
  unfold small
  rw [decide_eq_true_eq]
  omega
theorem draw2_ok (c : DrawC) (o : c.Ok) (h0 : 0 < many) (h1 : many < 1073741824) : Wp (evSs K (dEnv many a b d) (draw2 c)) fun fl => ∃ i : Int, fl = .ret (.int i) ∧ 0 ≤ i ∧ i < many := by
  rintro h ⟨cells, i, rest, mix, cnt, rfl, hc, hi, hr, hm, hm2, hcnt⟩
  obtain ⟨q31, q32⟩ := o.q3
  obtain ⟨q41, q42⟩ := o.q4
  obtain ⟨q51, q52⟩ := o.q5
  by_cases z : 0 < rest
  · refine ⟨.ret (.int (rest % many)), hD cells i (rest / many) mix cnt, ?_, ⟨cells, i, rest / many, mix, cnt, rfl, hc, hi, Int.ediv_nonneg hr (by omega), hm, hm2, hcnt⟩, rest % many, rfl, Int.emod_nonneg _ (by omega), Int.emod_lt_of_pos _ h0⟩
    simp [draw2, dEnv, evSs, evS, evE, slotB, slotV, nth, tst, put, bnd_getH, bnd_putH, hd2, hs2, z, nextM, assignT, hasL, setSlot, mod_pos h0, fdiv_pos h0 h1, run_ret]
  · refine ⟨_, _, by
      simp [draw2, dEnv, evSs, evS, evE, slotB, slotV, nth, tst, put, bnd_getH, bnd_putH, hd2, hd3, hd4, hs4, z, nextM, assignT, hasL, setSlot, dInt, mul_small (Or.inl o.c4), mul_small (Or.inr o.c5), mod_pos o.m2.1, mod_pos o.m3.1, mod_pos o.m4.1, mod_pos h0, fdiv_pos q31 q32, fdiv_pos q41 q42, fdiv_pos q51 q52, mul_small (Or.inl (small_mod o.m2)), mul_small (Or.inl (small_mod o.m3)), run_ret]
      exact ⟨rfl, rfl⟩, ⟨cells, i, rest, mix, _, rfl, hc, hi, hr, hm, hm2, by omega⟩, _, rfl, Int.emod_nonneg _ (by omega), Int.emod_lt_of_pos _ h0⟩
/-- the first part: a cell is met, or not -/
def DrawMix (c : DrawC) (e : IE) : Prop := (∀ (v : M D) (env : Env), bor e v env = v) ∧ ∀ (K : Cal) (many : Int) (a d : Slot) (cells : List Int) (i rest mix cnt cell : Int), ∃ x : Int, evE K (dEnv many a (.val (.int cell)) d) e (hD cells i rest mix cnt) = .ok (.int x) (hD cells i rest mix cnt)
theorem draw1_ok (c : DrawC) (o : c.Ok) {e : IE} (me : DrawMix c e) : Wp (evS K (dEnv many a b d) (draw1 c e)) fun fl => ∃ b', fl = .next (dEnv many a b' d) := by
  rintro h ⟨cells, i, rest, mix, cnt, rfl, hc, hi, hr, hm, hm2, hcnt⟩
  by_cases z : rest = 0 ∧ i < cells.length
  · obtain ⟨rfl, z2⟩ := z
    obtain ⟨cell, hmem, hix⟩ := idx_ints hi z2
    obtain ⟨hb, me⟩ := me
    obtain ⟨x, hx⟩ := me K many a d cells (i + 1) 0 mix cnt cell
    have hx2 : ∀ (f : D → M Ev.Flow), bnd (evE K (dEnv many a (.val (.int cell)) d) e) f (hD cells (i + 1) 0 mix cnt) = f (.int x) (hD cells (i + 1) 0 mix cnt) := fun f => bnd_ok hx
    have hxm := Int.emod_nonneg x (show c.m1 ≠ 0 by have := o.m1.1; omega)
    have hxm2 := Int.emod_lt_of_pos x o.m1.1
    have hm3 := o.m1.2
    have hcell := hc cell hmem
    by_cases y : 1000000000000000000 ≤ cell
    · refine ⟨.next (dEnv many a (.val (.int cell)) d), hD cells (i + 1) cell (x % c.m1) cnt, ?_, ⟨cells, i + 1, cell, x % c.m1, cnt, rfl, hc, by omega, by omega, hxm, by omega, hcnt⟩, _, rfl⟩
      simp [draw1, dEnv, evSs, evS, evE, slotB, slotV, nth, tst, put, bnd_getH, bnd_putH, hd0, hd1, hd2, hd3, hs1, hs2, hs3, z2, nextM, assignT, hasL, setSlot, dInt, len_ints, hix, hb, hx2, mod_pos o.m1.1, pow18, y, run_ret]
    · refine ⟨.next (dEnv many a (.val (.int cell)) d), hD cells (i + 1) 0 (x % c.m1) cnt, ?_, ⟨cells, i + 1, 0, x % c.m1, cnt, rfl, hc, by omega, by omega, hxm, by omega, hcnt⟩, _, rfl⟩
      simp [draw1, dEnv, evSs, evS, evE, slotB, slotV, nth, tst, put, bnd_getH, bnd_putH, hd0, hd1, hd2, hd3, hs1, hs2, hs3, z2, nextM, assignT, hasL, setSlot, dInt, len_ints, hix, hb, hx2, mod_pos o.m1.1, pow18, y, run_ret]
  · refine ⟨.next (dEnv many a b d), hD cells i rest mix cnt, ?_, ⟨cells, i, rest, mix, cnt, rfl, hc, hi, hr, hm, hm2, hcnt⟩, _, rfl⟩
    by_cases y : rest = 0
    · subst y
      have z2 : ¬ i < cells.length := fun q => z ⟨rfl, q⟩
      simp [draw1, dEnv, evSs, evS, evE, slotB, slotV, nth, tst, put, bnd_getH, bnd_putH, hd0, hd1, hd2, z2, len_ints, run_ret]
    · simp [draw1, dEnv, evSs, evS, evE, slotB, slotV, nth, tst, put, bnd_getH, bnd_putH, hd0, hd1, hd2, y, len_ints, run_ret]
theorem drawMixA_ok (c : DrawC) (o : c.Ok) : DrawMix c (drawMixA c) := ⟨fun _ _ => rfl, fun K many a d cells i rest mix cnt cell => ⟨mix * c.c1 + cell * c.c2 + c.c3, by
  simp [drawMixA, dEnv, evE, slotB, slotV, nth, bnd_getH, hd3, dInt, mul_small (Or.inr o.c1), mul_small (Or.inr o.c2), run_ret]⟩⟩
theorem drawMixB_ok (c : DrawC) (o : c.Ok) : DrawMix c (drawMixB c) := ⟨fun _ _ => rfl, fun K many a d cells i rest mix cnt cell => ⟨mix * c.c1 + cell + c.c3, by
  simp [drawMixB, dEnv, evE, slotB, slotV, nth, bnd_getH, hd3, dInt, mul_small (Or.inr o.c1), run_ret]⟩⟩
end
theorem draw_ok {P : Prg} {c : DrawC} (o : c.Ok) {e : IE} (me : DrawMix c e) {f : Nat} (hf : P.tbl f = some ⟨2, 5, draw1 c e :: draw2 c⟩) (n : Nat) {many : Int} (h0 : 0 < many) (h1 : many < 1073741824) :
    Wp (callF P (n + 1) f [.hand, .val (.int many)]) fun d => ∃ i : Int, d = .int i ∧ 0 ≤ i ∧ i < many := by
  rw [callF_succ _ _ _ _ hf]
  show Wp (bnd (evSs (calOf P n) (dEnv many .no .no .no) (draw1 c e :: draw2 c)) outOf) _
  refine Wp.bnd (evSs_cons ((draw1_ok c o me).mono fun fl ⟨b', h⟩ => ⟨_, h, (draw2_ok c o h0 h1).mono fun fl ⟨i, h2, h3⟩ => ?_⟩))
  subst h2
  exact Wp.ret ⟨i, rfl, h3⟩
end Ev
set_option Elab.async false
set_option linter.all false
set_option maxRecDepth 100000
/-! What the abstract heap of the hand layer holds, as pure values. -/
namespace Ev
open PySem PySem.Spec PyProof.Rows L2

/-- a key as data -/
def kD : Key → D
  | .inl i => .int i
  | .inr x => .str x
/-- what may be written, once laid -/
def DObj : HO → Prop
  | .lst _ => True
  | .dK _ => True
  | .dT _ => True
  | .ext _ => True
  | _ => False
theorem DObj.nt {o : HO} (h : DObj o) : ∀ ps, o ≠ .tbl ps := fun ps z => by subst z; exact h
theorem DObj.nf {o : HO} (h : DObj o) : ∀ ob u, o ≠ .frz ob u := fun ob u z => by subst z; exact h
/-- a tuple without a dict -/
def TupN (K : PySem.W.Frag) (H : Hp) (a : Addr) (xs : List V) : Prop :=
  (∃ o, H a = some (.frz o (.tup xs)) ∧ o.dict = none) ∨
    ∃ (o : Obj) (its : Array Value) (n : Nat), K.lookup a = some o ∧ o.cls = .type "tuple" ∧ o.dict = none ∧ o.data = .seq its n ∧ its.size ≤ sizeLine ∧ Vals xs its.toList
theorem TupN.sq {K : PySem.W.Frag} {H : Hp} {a : Addr} {xs : List V} (h : TupN K H a xs) : SqT K H a xs := by
  rcases h with ⟨o, h, _⟩ | ⟨o, its, n, h1, h2, _, h3, h4, h5⟩
  · exact .inl (.inr ⟨o, h⟩)
  · exact .inr ⟨o, its, n, h1, h2, h3, h4, h5⟩
theorem TupN.keep {K : PySem.W.Frag} {H H' : Hp} (e2 : ∀ a o u, H a = some (.frz o u) → H' a = some (.frz o u)) {a : Addr} {xs : List V} (h : TupN K H a xs) : TupN K H' a xs := by
  rcases h with ⟨o, h, hd⟩ | h
  · exact .inl ⟨o, e2 _ _ _ h, hd⟩
  · exact .inr h
instance {K : PySem.W.Frag} {H : Hp} {a : Addr} {xs : List V} : Coe (TupN K H a xs) (SqT K H a xs) := ⟨TupN.sq⟩
/-- at a: just this object -/
def DicO (a : Addr) (o : Obj) : HO := .ext fun h => h.get? a = some o
/-- keys all ints, or all tuples that may be keys -/
def kvsOk (kvs : List (D × D)) : Bool := (kvs.all fun p => kInt p.1) || kvs.all fun p => kTup p.1
/-- no key twice -/
def kvsNd : List (D × D) → Prop
  | [] => True
  | p :: r => (∀ q ∈ r, PyData.eqv p.1 q.1 = false) ∧ kvsNd r
structure DicOk (a : Addr) (o : Obj) (es : List DictEntry) (kvs : List (D × D)) : Prop where
  ex : o.ExactDict
  dat : ∃ arr ep, o.data = .dict arr ep ∧ arr.toList = es
  sys : (a == sysModules) = false
  ok : kvsOk kvs = true
  nd : kvsNd kvs
  len : kvs.length ≤ sizeLine
mutual
/-- v is the pure value d; Mu: the objects that may still be written -/
inductive Rep (K : PySem.W.Frag) (Mu : Addr → Prop) (H : Hp) : V → D → Prop
  | non : Rep K Mu H .non .none
  | bl (b : Bool) : Rep K Mu H (.bl b) (.bool b)
  | int (i : Int) : Rep K Mu H (.int i) (.int i)
  | str (x : Str) : Rep K Mu H (.str x) (.str x)
  | lst {a : Addr} {xs : List V} {ds : List D} : ¬ Mu a → H a = some (.lst xs) → RepL K Mu H xs ds → Rep K Mu H (.ref a) (.list ds)
  | tup {a : Addr} {xs : List V} {ds : List D} : TupN K H a xs → RepL K Mu H xs ds → Rep K Mu H (.ref a) (.tuple ds)
  | dk {a : Addr} {o : Obj} {es : List DictEntry} {kvs : List (D × D)} : ¬ Mu a → H a = some (DicO a o) → DicOk a o es kvs → RepP K Mu H es kvs → Rep K Mu H (.ref a) (.dict kvs)
inductive RepP (K : PySem.W.Frag) (Mu : Addr → Prop) (H : Hp) : List DictEntry → List (D × D) → Prop
  | nil : RepP K Mu H [] []
  | cons {e : DictEntry} {kv v : V} {kd d : D} {k : NestedKey} {es : List DictEntry} {kvs : List (D × D)} : Rep K Mu H kv kd → RelV kv e.key → kOf kd = some k → (∀ w : World, e.hash = k.hash w) → Rep K Mu H v d → RelV v e.val → RepP K Mu H es kvs → RepP K Mu H (e :: es) ((kd, d) :: kvs)
inductive RepL (K : PySem.W.Frag) (Mu : Addr → Prop) (H : Hp) : List V → List D → Prop
  | nil : RepL K Mu H [] []
  | cons {v : V} {vs : List V} {d : D} {ds : List D} : Rep K Mu H v d → RepL K Mu H vs ds → RepL K Mu H (v :: vs) (d :: ds)
end

section
variable {K : PySem.W.Frag} {Mu Mu' : Addr → Prop} {H H' : Hp} {v : V} {d : D} {vs ws : List V} {ds es : List D} {i : Nat}
theorem RepL.length : ∀ {vs : List V} {ds : List D}, RepL K Mu H vs ds → vs.length = ds.length
  | _, _, .nil => rfl
  | _, _, .cons _ r => by rw [List.length_cons, List.length_cons, r.length]
theorem RepL.append : ∀ {vs : List V} {ds : List D}, RepL K Mu H vs ds → RepL K Mu H ws es → RepL K Mu H (vs ++ ws) (ds ++ es)
  | _, _, .nil, s => s
  | _, _, .cons h r, s => .cons h (RepL.append r s)
theorem RepL.get : ∀ {vs : List V} {ds : List D} {i : Nat} {d : D}, RepL K Mu H vs ds → ds[i]? = some d → ∃ v, vs[i]? = some v ∧ Rep K Mu H v d
  | _, _, _, _, .nil, e => by simp at e
  | _, _, 0, d, .cons h _, e => by simp at e; subst e; exact ⟨_, rfl, h⟩
  | _, _, i + 1, d, .cons _ r, e => by
    obtain ⟨v, h1, h2⟩ := RepL.get (i := i) (d := d) r (by simpa using e)
    exact ⟨v, by simpa using h1, h2⟩
theorem RepL.getV : ∀ {vs : List V} {ds : List D} {i : Nat} {v : V}, RepL K Mu H vs ds → vs[i]? = some v → ∃ d, ds[i]? = some d ∧ Rep K Mu H v d
  | _, _, _, _, .nil, e => by simp at e
  | _, _, 0, d, .cons h _, e => by simp at e; subst e; exact ⟨_, rfl, h⟩
  | _, _, i + 1, d, .cons _ r, e => by
    obtain ⟨v, h1, h2⟩ := RepL.getV (i := i) (v := d) r (by simpa using e)
    exact ⟨v, by simpa using h1, h2⟩
theorem RepL.set {d : D} {v : V} (h : Rep K Mu H v d) : ∀ {vs : List V} {ds : List D} (i : Nat), RepL K Mu H vs ds → RepL K Mu H (vs.set i v) (ds.set i d)
  | _, _, _, .nil => .nil
  | _, _, 0, .cons _ r => .cons h r
  | _, _, i + 1, .cons q r => .cons q (RepL.set h i r)
theorem RepL.take : ∀ {vs : List V} {ds : List D} (n : Nat), RepL K Mu H vs ds → RepL K Mu H (vs.take n) (ds.take n)
  | _, _, 0, _ => .nil
  | _, _, _ + 1, .nil => .nil
  | _, _, n + 1, .cons h r => .cons h (RepL.take n r)
theorem RepL.drop : ∀ {vs : List V} {ds : List D} (n : Nat), RepL K Mu H vs ds → RepL K Mu H (vs.drop n) (ds.drop n)
  | _, _, 0, r => r
  | _, _, _ + 1, .nil => .nil
  | _, _, n + 1, .cons _ r => RepL.drop n r
theorem RepL.reverse : ∀ {vs : List V} {ds : List D}, RepL K Mu H vs ds → RepL K Mu H vs.reverse ds.reverse
  | _, _, .nil => .nil
  | _, _, .cons h r => by
    rw [List.reverse_cons, List.reverse_cons]
    exact (RepL.reverse r).append (.cons h .nil)
theorem RepL.rep (r : RepL K Mu H vs ds) : ∀ n : Nat, RepL K Mu H (List.replicate n vs).flatten (List.replicate n ds).flatten
  | 0 => .nil
  | n + 1 => by
    rw [List.replicate_succ, List.replicate_succ, List.flatten_cons, List.flatten_cons]
    exact r.append (r.rep n)
theorem RepL.dropLast (r : RepL K Mu H vs ds) : RepL K Mu H vs.dropLast ds.dropLast := by
  rw [List.dropLast_eq_take, List.dropLast_eq_take, r.length]
  exact r.take _
theorem RepL.ints : ∀ is : List Int, RepL K Mu H (is.map V.int) (is.map .int)
  | [] => .nil
  | i :: is => .cons (.int i) (RepL.ints is)

/-- what the value is made of stays -/
theorem SqL.same (e : ∀ o, H a = some o → (∀ ps, o ≠ .tbl ps) → H' a = some o) {xs : List V} (h : SqL K H a xs) : SqL K H' a xs := by
  rcases h with (h | ⟨o, h⟩) | h
  · exact .inl (.inl (e _ h fun ps z => by cases z))
  · exact .inl (.inr ⟨o, e _ h fun ps z => by cases z⟩)
  · exact .inr h
theorem SqT.same (e : ∀ o, H a = some o → (∀ ps, o ≠ .tbl ps) → H' a = some o) {xs : List V} (h : SqT K H a xs) : SqT K H' a xs := by
  rcases h with (h | ⟨o, h⟩) | h
  · exact .inl (.inl (e _ h fun ps z => by cases z))
  · exact .inl (.inr ⟨o, e _ h fun ps z => by cases z⟩)
  · exact .inr h
theorem SqT.keep (e : ∀ a xs, H a = some (.tup xs) → H' a = some (.tup xs)) (e2 : ∀ a o u, H a = some (.frz o u) → H' a = some (.frz o u)) {a : Addr} {xs : List V} (h : SqT K H a xs) : SqT K H' a xs := by
  rcases h with (h | ⟨o, h⟩) | h
  · exact .inl (.inl (e _ _ h))
  · exact .inl (.inr ⟨o, e2 _ _ _ h⟩)
  · exact .inr h

/-- from H to H', Mu to Mu': what need not be written stays -/
structure Stay (Mu Mu' : Addr → Prop) (H H' : Hp) : Prop where
  lst : ∀ a o, DObj o → ¬ Mu a → H a = some o → ¬ Mu' a ∧ H' a = some o
  tup : ∀ a xs, H a = some (.tup xs) → H' a = some (.tup xs)
  frz : ∀ a o u, H a = some (.frz o u) → (¬ Mu a → ¬ Mu' a) ∧ H' a = some (.frz o u)
mutual
theorem Rep.stay (s : Stay Mu Mu' H H') : ∀ {v : V} {d : D}, Rep K Mu H v d → Rep K Mu' H' v d
  | _, _, .non => .non
  | _, _, .bl b => .bl b
  | _, _, .int i => .int i
  | _, _, .str x => .str x
  | _, _, .lst (a := a) hm hs hr => by
    have hr' := RepL.stay s hr
    obtain ⟨h1, h2⟩ := s.lst _ (.lst _) trivial hm hs
    exact .lst h1 h2 hr'
  | _, _, .dk hm hs ok hr => by
    have hr' := RepP.stay s hr
    obtain ⟨h1, h2⟩ := s.lst _ (DicO _ _) trivial hm hs
    exact .dk h1 h2 ok hr'
  | _, _, .tup hs hr => .tup (TupN.keep (fun a o u h => (s.frz a o u h).2) hs) (RepL.stay s hr)
theorem RepP.stay (s : Stay Mu Mu' H H') : ∀ {ps : List DictEntry} {kvs : List (D × D)}, RepP K Mu H ps kvs → RepP K Mu' H' ps kvs
  | _, _, .nil => .nil
  | _, _, .cons h1 h2 h3 h4 h5 h6 r => .cons (Rep.stay s h1) h2 h3 h4 (Rep.stay s h5) h6 (RepP.stay s r)
theorem RepL.stay (s : Stay Mu Mu' H H') : ∀ {vs : List V} {ds : List D}, RepL K Mu H vs ds → RepL K Mu' H' vs ds
  | _, _, .nil => .nil
  | _, _, .cons h r => .cons (Rep.stay s h) (RepL.stay s r)
end
theorem RepL.isEmpty (h : RepL K Mu H vs ds) : vs.isEmpty = ds.isEmpty := by cases h <;> rfl
theorem RepL.inv_nil (h : RepL K Mu H vs []) : vs = [] := by cases h; rfl
theorem RepL.inv_cons (h : RepL K Mu H vs (d :: ds)) : ∃ v r, vs = v :: r ∧ Rep K Mu H v d ∧ RepL K Mu H r ds := by
  cases h with
  | cons h r => exact ⟨_, _, rfl, h, r⟩
theorem RepL.of_zip : ∀ {vs : List V} {ds : List D}, vs.length = ds.length → (∀ (i : Nat) (v : V) (d : D), vs[i]? = some v → ds[i]? = some d → Rep K Mu H v d) → RepL K Mu H vs ds
  | [], [], _, _ => .nil
  | [], _ :: _, e, _ => by simp at e
  | _ :: _, [], e, _ => by simp at e
  | v :: vs, d :: ds, e, h => .cons (h 0 v d rfl rfl) (RepL.of_zip (by simpa using e) fun i v' d' h1 h2 => h (i + 1) v' d' (by simpa using h1) (by simpa using h2))
end

/-! ### values that read as data -/
section
variable {X : Cx} {pins : List (Addr × Obj)} {σ : L2.St} {H : Hp} {s : Shared} {Mu : Addr → Prop}
mutual
theorem Rep.reads' (I : Inv X pins σ H s) : ∀ {v : V} {d : D}, Rep X.K Mu H v d → ∀ u : Value, RelV v u → ∃ as, Reads s.heap u d as
  | _, _, .non, u, r => by
    cases r
    exact ⟨_, Reads.none⟩
  | _, _, .bl b, u, r => by
    cases r
    exact ⟨_, Reads.bool b⟩
  | _, _, .int i, u, r => by
    obtain ⟨t, rfl⟩ := r
    exact ⟨_, Reads.int i t⟩
  | _, _, .str x, u, r => by
    obtain ⟨t, rfl⟩ := r
    exact ⟨_, Reads.str x t⟩
  | _, _, .lst (ds := ds) _ hs ha, u, r => by
    have ih := RepL.reads' I ha
    cases r
    obtain ⟨its, rv, ⟨o, n, ho, hc, _, hd⟩, _⟩ := I.list (.of hs)
    obtain ⟨as, hr⟩ := ih its rv
    exact ⟨_, Reads.list ho hc hd hr⟩
  | _, _, .tup (ds := ds) hs ha, u, r => by
    have ih := RepL.reads' I ha
    cases r
    obtain ⟨its, rv, ⟨o, ho, hc, n, hd⟩, _⟩ := I.tuple hs.sq
    obtain ⟨as, hr⟩ := ih its rv
    exact ⟨_, Reads.tuple ho hc hd hr⟩
  | _, _, .dk (a := a) (kvs := kvs) _ hs ok ha, u, r => by
    have ih := RepP.reads' I ha
    cases r
    obtain ⟨as, bs, q1, q2⟩ := ih
    obtain ⟨arr, ep, hd, ha2⟩ := ok.dat
    subst ha2
    obtain ⟨ho, _, _⟩ := I.hok a _ hs
    exact ⟨_, Reads.dict ho ok.ex.1 hd q1 q2⟩
theorem RepP.reads' (I : Inv X pins σ H s) : ∀ {es : List DictEntry} {kvs : List (D × D)}, RepP X.K Mu H es kvs → ∃ as bs, ReadsAll s.heap (es.map (·.key)) (kvs.map (·.1)) as ∧ ReadsAll s.heap (es.map (·.val)) (kvs.map (·.2)) bs
  | _, _, .nil => ⟨_, _, .nil, .nil⟩
  | _, _, .cons h1 h2 h3 h4 h5 h6 r => by
    obtain ⟨a1, q1⟩ := Rep.reads' I h1 _ h2
    obtain ⟨a2, q2⟩ := Rep.reads' I h5 _ h6
    obtain ⟨a3, a4, q3, q4⟩ := RepP.reads' I r
    exact ⟨_, _, .cons q1 q3, .cons q2 q4⟩
theorem RepL.reads' (I : Inv X pins σ H s) : ∀ {vs : List V} {ds : List D}, RepL X.K Mu H vs ds → ∀ us : List Value, Vals vs us → ∃ as, ReadsAll s.heap us ds as
  | _, _, .nil, us, r => by
    cases r
    exact ⟨_, ReadsAll.nil⟩
  | _, _, .cons h1 h2, us, r => by
    have i1 := Rep.reads' I h1
    have i2 := RepL.reads' I h2
    cases r with
    | cons r1 r2 =>
      obtain ⟨as, q1⟩ := i1 _ r1
      obtain ⟨bs, q2⟩ := i2 _ r2
      exact ⟨_, ReadsAll.cons q1 q2⟩
end
theorem Rep.reads (I : Inv X pins σ H s) (d : D) (v : V) (u : Value) (h : Rep X.K Mu H v d) (r : RelV v u) : ∃ as, Reads s.heap u d as := Rep.reads' I h u r
theorem RepL.reads (I : Inv X pins σ H s) (ds : List D) (vs : List V) (us : List Value) (h : RepL X.K Mu H vs ds) (r : Vals vs us) : ∃ as, ReadsAll s.heap us ds as := RepL.reads' I h us r
end

/-! ### the state -/
/-- the written part, the tables of code objects, the one list that defs hand on and write -/
structure Stg (K : PySem.W.Frag) where
  T : List (Addr × Str)
  hd : Option Addr
  exc : Option (Addr × Nat) := none

/-- nothing stands there, a table of code objects aside -/
def Fr (H : Hp) (a : Addr) : Prop := ∀ o, H a = some o → ∃ ps, o = HO.tbl ps
theorem Fr.of {H : Hp} {a : Addr} (h : H a = none) : Fr H a := fun o e => by rw [h] at e; cases e
theorem Fr.no {H : Hp} {a : Addr} {o : HO} {C : Prop} (f : Fr H a) (e : H a = some o) (t : ∀ ps, o ≠ .tbl ps) : C := (f o e).elim fun ps z => absurd z (t ps)
theorem notFr {H : Hp} {a : Addr} {o : HO} (e : H a = some o) (t : ∀ ps, o ≠ .tbl ps) : ¬ Fr H a := fun f => f.no e t
theorem Fr.upd {H : Hp} {a p : Addr} {o : HO} (t : ∀ ps, o ≠ .tbl ps) (n : ¬ Fr H a) : ¬ Fr (L2.upd H p o) a := fun f => by
  by_cases z : a = p
  · subst z
    exact f.no upd_same t
  · exact n fun u e => f u (by rw [upd_ne z]; exact e)
/-- what a def leaves as it was -/
structure Pres {K : PySem.W.Frag} (S : Stg K) (H H' : Hp) : Prop where
  same : ∀ a o, S.hd ≠ some a → H a = some o → (∀ ps, o ≠ .tbl ps) → H' a = some o
  dom : ∀ a, ¬ Fr H a → ¬ Fr H' a
  tabs : LamX.Tabs S.T H → LamX.Tabs S.T H'
theorem Pres.refl {K : PySem.W.Frag} {S : Stg K} (H : Hp) : Pres S H H := ⟨fun _ _ _ h _ => h, fun _ h => h, fun h => h⟩
theorem Pres.trans {K : PySem.W.Frag} {S : Stg K} {H H1 H2 : Hp} (a : Pres S H H1) (b : Pres S H1 H2) : Pres S H H2 :=
  ⟨fun c o n h t => b.same c o n (a.same c o n h t) t, fun c h => b.dom c (a.dom c h), fun h => b.tabs (a.tabs h)⟩
theorem Pres.free {K : PySem.W.Frag} {S : Stg K} {H H' : Hp} (e : Pres S H H') {p : Addr} (h : Fr H' p) : Fr H p := Classical.byContradiction fun n => e.dom p n h
theorem Pres.of_ext {K : PySem.W.Frag} {S : Stg K} {H H' : Hp} (e : ∀ b o, H b = some o → H' b = some o) : Pres S H H' :=
  ⟨fun a o _ h _ => e a o h, fun a h f => h fun o q => f o (e a o q), fun h => LamX.Tabs.ext h e⟩
theorem Pres.new {K : PySem.W.Frag} {S : Stg K} {H : Hp} {p : Addr} {o : HO} (h : H p = none) : Pres S H (upd H p o) := .of_ext fun b u e => by rw [upd_ne (ne_of_none e h)]; exact e

def HandAt {K : PySem.W.Frag} (S : Stg K) (Mu : Addr → Prop) (H : Hp) (h : List D) : Prop := match S.hd with
  | none => h = []
  | some a => Mu a ∧ ∃ vs, H a = some (.lst vs) ∧ RepL K Mu H vs h
/-- what may be written -/
def Wr (o : HO) : Prop := (∃ xs, o = .lst xs) ∨ ∃ a ob, o = DicO a ob ∧ ∃ arr ep, ob.data = .dict arr ep
theorem Wr.nt {o : HO} (h : Wr o) : ∀ ps, o ≠ .tbl ps := fun ps z => by
  rcases h with ⟨_, e⟩ | ⟨_, _, e, _⟩ <;> (rw [e] at z; cases z)
/-- a list, a dict that may be written -/
inductive OwnAt (K : PySem.W.Frag) (Mu : Addr → Prop) (H : Hp) (a : Addr) : D → Prop
  | lst {vs : List V} {ds : List D} : H a = some (.lst vs) → RepL K Mu H vs ds → OwnAt K Mu H a (.list ds)
  | dic {o : Obj} {es : List DictEntry} {kvs : List (D × D)} : H a = some (DicO a o) → DicOk a o es kvs → RepP K Mu H es kvs → OwnAt K Mu H a (.dict kvs)
theorem OwnAt.there {K : PySem.W.Frag} {Mu : Addr → Prop} {H : Hp} {a : Addr} {d : D} (h : OwnAt K Mu H a d) : ∃ u, H a = some u ∧ Wr u := by
  cases h with
  | lst h r => exact ⟨_, h, .inl ⟨_, rfl⟩⟩
  | dic h k r =>
    obtain ⟨arr, ep, hd, _⟩ := k.dat
    exact ⟨_, h, .inr ⟨_, _, rfl, arr, ep, hd⟩⟩
theorem OwnAt.inl {K : PySem.W.Frag} {Mu : Addr → Prop} {H : Hp} {a : Addr} {ds : List D} (h : OwnAt K Mu H a (.list ds)) : ∃ vs, H a = some (.lst vs) ∧ RepL K Mu H vs ds := by
  cases h with
  | lst h r => exact ⟨_, h, r⟩
theorem OwnAt.ind {K : PySem.W.Frag} {Mu : Addr → Prop} {H : Hp} {a : Addr} {kvs : List (D × D)} (h : OwnAt K Mu H a (.dict kvs)) : ∃ o es, H a = some (DicO a o) ∧ DicOk a o es kvs ∧ RepP K Mu H es kvs := by
  cases h with
  | dic h k r => exact ⟨_, _, h, k, r⟩
theorem OwnAt.stayC {K : PySem.W.Frag} {Mu Mu' : Addr → Prop} {H H' : Hp} {a : Addr} {d : D} (h : OwnAt K Mu H a d) (s : Stay Mu Mu' H H') (e : ∀ u, H a = some u → Wr u → H' a = some u) : OwnAt K Mu' H' a d := by
  obtain ⟨u, hu, wu⟩ := h.there
  have e2 := e u hu wu
  cases h with
  | lst h r => rw [h] at hu; cases hu; exact .lst e2 (r.stay s)
  | dic h k r => rw [h] at hu; cases hu; exact .dic e2 k (r.stay s)
/-- .. not to be written any more -/
theorem OwnAt.rep {K : PySem.W.Frag} {Mu Mu' : Addr → Prop} {H : Hp} {a : Addr} {d : D} (h : OwnAt K Mu H a d) (le : ∀ b, Mu' b → Mu b) (n : ¬ Mu' a) : Rep K Mu' H (.ref a) d := by
  have s : Stay Mu Mu' H H := ⟨fun b o d m e => ⟨fun z => m (le b z), e⟩, fun b xs e => e, fun b o u e => ⟨fun m z => m (le b z), e⟩⟩
  cases h with
  | lst h r => exact .lst n h (r.stay s)
  | dic h k r => exact .dk n h k (r.stay s)
/-- a list that is looked at alone: it may be the module's, or frozen -/
def RawAt (K : PySem.W.Frag) (Mu : Addr → Prop) (H : Hp) (v : V) (d : D) : Prop := ∃ a xs ds, v = .ref a ∧ d = .list ds ∧ RepL K Mu H xs ds ∧ ((¬ Mu a ∧ H a = some (.lst xs)) ∨ (∃ o, H a = some (.frz o (.lst xs))) ∨ ∃ (o : Obj) (its : Array Value) (n : Nat), K.lookup a = some o ∧ o.cls = .type "list" ∧ o.dict = none ∧ o.data = .seq its n ∧ its.size ≤ sizeLine ∧ Vals xs its.toList)
def SlotAt {K : PySem.W.Frag} (S : Stg K) (Mu : Addr → Prop) (H : Hp) (o : Option (Option V)) : Slot → Prop
  | .no => True
  | .val d => ∃ v, o = some (some v) ∧ Rep K Mu H v d
  | .own d => ∃ a, o = some (some (.ref a)) ∧ Mu a ∧ S.hd ≠ some a ∧ OwnAt K Mu H a d
  | .hand => ∃ a, o = some (some (.ref a)) ∧ S.hd = some a
  | .thunk _ => True
  | .raw d => ∃ v, o = some (some v) ∧ RawAt K Mu H v d
  | .exn c => ∃ a, S.exc = some (a, c) ∧ o = some (some (.ref a))
/-- one more list that may be written -/
def Add (Mu : Addr → Prop) (a : Addr) : Addr → Prop := fun b => Mu b ∨ b = a
def isOwn : Slot → Bool
  | .own _ => true
  | _ => false
structure ES {K : PySem.W.Frag} (S : Stg K) (Mu : Addr → Prop) (env : Env) (h : List D) (σ : L2.St) (H : Hp) : Prop where
  len : env.length = σ.length
  slot : ∀ i, SlotAt S Mu H σ[i]? (nth env i)
  dis : ∀ i j a, i ≠ j → isOwn (nth env i) = true → isOwn (nth env j) = true → σ[i]? = some (some (.ref a)) → σ[j]? ≠ some (some (.ref a))
  hand : HandAt S Mu H h
  dom : ∀ a, Mu a → ¬ Fr H a
  tabs : LamX.Tabs S.T H

section
variable {K : PySem.W.Frag} {S : Stg K} {Mu : Addr → Prop} {env : Env} {h h' : List D} {σ : L2.St} {H H' : Hp} {v : V} {d : D} {vs : List V} {ds : List D}
theorem HandAt.lst (x : HandAt S Mu H h) {a : Addr} (e : S.hd = some a) : Mu a ∧ ∃ vs, H a = some (.lst vs) ∧ RepL K Mu H vs h := by
  unfold HandAt at x
  rw [e] at x
  exact x
theorem Pres.stay (p : Pres S H H') (x : HandAt S Mu H h) : Stay Mu Mu H H' where
  lst := fun a o d hm e => ⟨hm, p.same a _ (fun z => hm (x.lst z).1) e d.nt⟩
  tup := fun a xs e => p.same a _ (fun z => by
    obtain ⟨_, vs, q, _⟩ := x.lst z
    rw [e] at q; cases q) e fun ps z => by cases z
  frz := fun a o u e => ⟨fun z => z, p.same a _ (fun z => by
    obtain ⟨_, vs, q, _⟩ := x.lst z
    rw [e] at q; cases q) e fun ps z => by cases z⟩
theorem Rep.pres (r : Rep K Mu H v d) (p : Pres S H H') (x : HandAt S Mu H h) : Rep K Mu H' v d := r.stay (p.stay x)
theorem RepL.pres (r : RepL K Mu H vs ds) (p : Pres S H H') (x : HandAt S Mu H h) : RepL K Mu H' vs ds := r.stay (p.stay x)
theorem OwnAt.pres {a : Addr} (r : OwnAt K Mu H a d) (p : Pres S H H') (x : HandAt S Mu H h) (n : S.hd ≠ some a) : OwnAt K Mu H' a d := r.stayC (p.stay x) fun u e w => p.same a u n e w.nt
theorem RawAt.stay {Mu' : Addr → Prop} (r : RawAt K Mu H v d) (s : Stay Mu Mu' H H') : RawAt K Mu' H' v d := by
  obtain ⟨a, xs, ds, e1, e2, hr, q⟩ := r
  refine ⟨a, xs, ds, e1, e2, hr.stay s, ?_⟩
  rcases q with ⟨m, q⟩ | ⟨o, q⟩ | q
  · exact .inl (s.lst a (.lst _) trivial m q)
  · exact .inr (.inl ⟨o, (s.frz a _ _ q).2⟩)
  · exact .inr (.inr q)
theorem RawAt.seq (r : RawAt K Mu H v d) : ∃ a xs ds, v = .ref a ∧ d = .list ds ∧ RepL K Mu H xs ds ∧ SqL K H a xs := by
  obtain ⟨a, xs, ds, e1, e2, hr, q⟩ := r
  refine ⟨a, xs, ds, e1, e2, hr, ?_⟩
  rcases q with ⟨m, q⟩ | ⟨o, q⟩ | q
  · exact .of q
  · exact .inl (.inr ⟨o, q⟩)
  · exact .inr q
theorem SlotAt.pres {o : Option (Option V)} {sl : Slot} (r : SlotAt S Mu H o sl) (p : Pres S H H') (x : HandAt S Mu H h) : SlotAt S Mu H' o sl := by
  cases sl with
  | no => trivial
  | val d => obtain ⟨v, e, r⟩ := r; exact ⟨v, e, r.pres p x⟩
  | own d => obtain ⟨a, e, m, n, r⟩ := r; exact ⟨a, e, m, n, r.pres p x n⟩
  | hand => exact r
  | thunk f => trivial
  | raw d => obtain ⟨v, e, r⟩ := r; exact ⟨v, e, r.stay (p.stay x)⟩
  | exn c => exact r
theorem ES.pres (e : ES S Mu env h σ H) (p : Pres S H H') (x : HandAt S Mu H' h') : ES S Mu env h' σ H' :=
  ⟨e.len, fun i => (e.slot i).pres p e.hand, e.dis, x, fun a m => p.dom a (e.dom a m), p.tabs e.tabs⟩
/-- a new object -/
theorem HandAt.new {p : Addr} {o : HO} (x : HandAt S Mu H h) (n : H p = none) : HandAt S Mu (upd H p o) h := by
  have pr : Pres S H (upd H p o) := Pres.new n
  unfold HandAt at *
  split at x
  · exact x
  · rename_i a e
    obtain ⟨m, vs, q, r⟩ := x
    exact ⟨m, vs, by rw [upd_ne (ne_of_none q n)]; exact q, r.pres (h := h) pr (by unfold HandAt; rw [e]; exact ⟨m, vs, q, r⟩)⟩
theorem Rep.fewer {Mu' : Addr → Prop} (le : ∀ a, Mu' a → Mu a) (r : Rep K Mu H v d) : Rep K Mu' H v d := r.stay ⟨fun a o d n e => ⟨fun z => n (le a z), e⟩, fun a xs e => e, fun a o u e => ⟨fun n z => n (le a z), e⟩⟩
theorem RepL.fewer {Mu' : Addr → Prop} (le : ∀ a, Mu' a → Mu a) (r : RepL K Mu H vs ds) : RepL K Mu' H vs ds := r.stay ⟨fun a o d n e => ⟨fun z => n (le a z), e⟩, fun a xs e => e, fun a o u e => ⟨fun n z => n (le a z), e⟩⟩
theorem RepL.add {p : Addr} (n : Fr H p) (r : RepL K Mu H vs ds) : RepL K (Add Mu p) H vs ds := by
  have k : ∀ a o, H a = some o → (∀ ps, o ≠ .tbl ps) → ¬ Mu a → ¬ Add Mu p a := fun a o e t m z => z.elim m fun q => by subst q; exact n.no e t
  exact r.stay ⟨fun a o d m e => ⟨k a _ e d.nt m, e⟩, fun a xs e => e, fun a o u e => ⟨k a _ e fun ps z => (by cases z), e⟩⟩
theorem HandAt.fewer {Mu' : Addr → Prop} (le : ∀ a, Mu' a → Mu a) (hd : ∀ a, S.hd = some a → Mu' a) (x : HandAt S Mu H h) : HandAt S Mu' H h := by
  unfold HandAt at *
  split at x
  · exact x
  · rename_i a e
    obtain ⟨m, vs, q, r⟩ := x
    exact ⟨hd a e, vs, q, r.fewer le⟩
/-- a new object that may be written -/
theorem RepL.grow {p : Addr} {o : HO} (n : H p = none) (r : RepL K Mu H vs ds) : RepL K (Add Mu p) (upd H p o) vs ds := (r.add (.of n)).stay ⟨fun a o d m e => ⟨m, by rw [upd_ne (ne_of_none e n)]; exact e⟩, fun a xs e => by rw [upd_ne (ne_of_none e n)]; exact e, fun a o u e => ⟨fun m => m, by rw [upd_ne (ne_of_none e n)]; exact e⟩⟩
theorem HandAt.grow {p : Addr} {o : HO} (n : H p = none) (x : HandAt S Mu H h) : HandAt S (Add Mu p) (upd H p o) h := by
  unfold HandAt at *
  split at x
  · exact x
  · rename_i a e
    obtain ⟨m, vs, q, r⟩ := x
    exact ⟨.inl m, vs, by rw [upd_ne (ne_of_none q n)]; exact q, r.grow n⟩
theorem ES.free (e : ES S Mu env h σ H) {p : Addr} (n : Fr H p) : ¬ Mu p := fun m => e.dom p m n

/-! ### runs -/
/-- what the exception leaves: its class's number, its own dict -/
def Good {α : Type} {K : PySem.W.Frag} (S : Stg K) (Mu : Addr → Prop) (XA : Exn → Value → Option Addr → Hp → Prop) (r : R α) (H : Hp) (P : α → List D → Hp → Prop) (E : XK) : Prop := match r with
  | .ok a h' => ∀ H', Pres S H H' → HandAt S Mu H' h' → P a h' H'
  | .exc e h' => ∀ c d H', Pres S H H' → HandAt S Mu H' h' → XA e c d H' → E c d H'
  | .bad => False
variable {XA : Exn → Value → Option Addr → Hp → Prop} {α β : Type} {E : XK}
theorem Good.step {r : R α} {P : α → List D → Hp → Prop} (g : Good S Mu XA r H P E) (p : Pres S H H') : Good S Mu XA r H' P E := by
  cases r with
  | ok a h' => exact fun H2 p2 x => g H2 (p.trans p2) x
  | exc e h' => exact fun c d H2 p2 x => g c d H2 (p.trans p2) x
  | bad => exact g
theorem Good.mono {r : R α} {P P' : α → List D → Hp → Prop} (g : Good S Mu XA r H P E) (q : ∀ a h' H', Pres S H H' → HandAt S Mu H' h' → P a h' H' → P' a h' H') : Good S Mu XA r H P' E := by
  cases r with
  | ok a h' => exact fun H2 p2 x => q _ _ _ p2 x (g H2 p2 x)
  | exc e h' => exact g
  | bad => exact g
theorem Good.bnd {m : M α} {f : α → M β} {h : List D} {P : β → List D → Hp → Prop} (g : Good S Mu XA (bnd m f h) H P E) : Good S Mu XA (m h) H (fun a h1 H1 => Good S Mu XA (f a h1) H1 P E) E := by
  rw [run_bnd] at g
  cases q : m h with
  | ok a h1 =>
    rw [q] at g
    exact fun H1 p x => Good.step g p
  | exc e h1 => rw [q] at g; exact g
  | bad => rw [q] at g; exact g
theorem Good.ret {a : α} {h : List D} {P : α → List D → Hp → Prop} (g : Good S Mu XA (ret a h) H P E) (x : HandAt S Mu H h) : P a h H := by
  rw [run_ret] at g
  exact g H (Pres.refl H) x
theorem Good.fail {h : List D} {P : α → List D → Hp → Prop} (g : Good S Mu XA (fail h) H P E) : False := by
  rw [run_fail] at g
  exact g
theorem Good.chk {b : Bool} {a : α} {h : List D} {P : α → List D → Hp → Prop} (g : Good S Mu XA (chk b a h) H P E) : b = true ∧ Good S Mu XA (Ev.ret a h) H P E := by
  cases b with
  | true => exact ⟨rfl, g⟩
  | false => exact (Good.fail g).elim
end
end Ev
set_option Elab.async false
set_option linter.all false
set_option maxRecDepth 100000
set_option maxHeartbeats 1000000
/-! Tuples that are known to have no dict: makers that say so (for method calls on tuples). -/
namespace Ev
open PySem PySem.Spec PyProof.Rows L2

/-- a new tuple -/
def NewT (H : Hp) (xs : List V) (Q : VK) : Prop := ∀ p o, H p = none → o.dict = none → Q (.ref p) (upd H p (.frz o (.tup xs)))
def tupO (its : List Value) : Obj := { cls := .type "tuple", data := .seq its.toArray }
section
variable {X : Cx} {pins : List (Addr × Obj)} {σ : L2.St} {H : Hp} {s : Shared} {es : List Expr} {t : TA} {pos : Pos}
theorem laidT {xs : List V} {its : List Value} {t' : Nat} {h' : Heap} (I : Inv X pins σ H s) (r : Vals xs its) (hz : xs.length ≤ sizeLine) (e : h' = s.heap.push (tupO its)) :
    Inv X pins σ (upd H s.heap.objs.size (.frz (tupO its) (.tup xs))) { s with heap := h', toks := t' } := by
  subst e
  exact I.laid (t' := t') (fun b u e => Heap.get?_push_of_some _ e) (Nat.le_refl _) ⟨Heap.get?_push_size _ rfl, hz, its, r, IsTup.new _ _⟩
theorem newT {xs : List V} {its : List Value} {Q : VK} {t' : Nat} (I : Inv X pins σ H s) (r : Vals xs its) (hz : xs.length ≤ sizeLine) (q : NewT H xs Q) :
    EP X pins σ Q (.ref s.heap.objs.size) { s with heap := s.heap.push (tupO its), toks := t' } :=
  ⟨.ref s.heap.objs.size, _, laidT (t' := t') I r hz rfl, rfl, q _ _ (I.hok.fresh (Nat.le_refl _)) rfl⟩
def tTupN (t : TA) : TE := fun σ H Q => t σ H fun xs H1 => xs.length ≤ sizeLine ∧ NewT H1 xs Q
theorem pe_tupN {x1} (h : PA X es t) : PE X (.Tuple es x1 pos) (tTupN t) := by
  refine ⟨fun pins s σ H Q I hq => ?_⟩
  refine wpAny_Tuple_spliced (thn (h.run pos pins s σ H _ I hq) fun us s1 ⟨xs, H1, I1, r, z, q⟩ => ⟨by rw [← r.length]; exact z, ?_⟩)
  exact newT (t' := s1.toks) I1 r z q
theorem call_tuple_ofN : CallR X (.type "tuple") (fun xs H Q => ∃ p ys, xs = [.ref p] ∧ ((SqL X.K H p ys ∧ NewT H ys Q) ∨ (SqT X.K H p ys ∧ Q (.ref p) H))) := by
  intro pins s σ H xs us Q I r h
  obtain ⟨p, ys, rfl, h⟩ := h
  obtain ⟨u, rfl, rx⟩ := vals1 r
  cases rx
  rcases h with ⟨hq, q⟩ | ⟨hq, q⟩
  · obtain ⟨its, r', pl, hz⟩ := I.list hq
    have hlen := r'.length
    refine call_tuple_list pl.isList (fun h' kp => ?_) (by simp only [List.size_toArray] <;> omega)
    have I1 : Inv X pins σ H { s with heap := h' } := I.kept (t' := s.toks) kp
    exact newT (t' := s.toks) I1 r' hz q
  · obtain ⟨its, _, p1, _⟩ := I.tuple hq
    exact call_tuple_same (items := its.toArray) p1 ⟨.ref p, H, I, rfl, q⟩
def rCatN (K : PySem.W.Frag) : R2 := fun x y H Q => ∃ a b xs ys, x = .ref a ∧ y = .ref b ∧ SqT K H a xs ∧ SqT K H b ys ∧ xs.length + ys.length ≤ sizeLine ∧
  (xs = [] → Q (.ref b) H) ∧ (xs ≠ [] → ys = [] → Q (.ref a) H) ∧ (xs ≠ [] → ys ≠ [] → NewT H (xs ++ ys) Q)
theorem op_catN : OpR X (binaryOp .Add) (rCatN X.K) := by
  intro pins s σ H x y v u Q I rx ry h
  obtain ⟨a, b, xs, ys, rfl, rfl, ha, hb, hz, q0, q1, q2⟩ := h
  cases rx
  cases ry
  obtain ⟨its, r1, p1, _⟩ := I.tuple ha
  obtain ⟨its2, r2, p2, _⟩ := I.tuple hb
  by_cases hx : xs = []
  · subst hx
    cases r1
    exact cat_tup0 p1 p2 ⟨.ref b, H, I, rfl, q0 rfl⟩
  · refine HT.cat_tup p1 p2 (fun z => hx (r1.nil_iff.mp z)) (fun z => ⟨.ref a, H, I, rfl, q1 hx (r2.nil_iff.mp z)⟩) (fun z => ?_) (by rw [← r1.length, ← r2.length]; exact hz)
    exact newT (t' := s.toks) I (r1.append r2) (by rw [List.length_append]; exact hz) (q2 hx fun w => z (r2.nil_iff.mpr w))
def rSlN (K : PySem.W.Frag) : V → Option Int → Option Int → Hp → VK → Prop := fun x lo hi H Q => ∃ a xs, x = .ref a ∧ SqT K H a xs ∧
  (HT.sIx xs.length 0 lo = 0 ∧ HT.sIx xs.length xs.length hi = xs.length → Q (.ref a) H) ∧ (¬ (HT.sIx xs.length 0 lo = 0 ∧ HT.sIx xs.length xs.length hi = xs.length) → NewT H (cutV xs lo hi) Q)
theorem sl_tupN : SlR X (rSlN X.K) := by
  intro pins s σ H x v vl vu lo hi sl Q I rx hs pl pu h
  obtain ⟨a, xs, rfl, hx, q1, q2⟩ := h
  cases rx
  obtain ⟨its, r, ht, hz⟩ := I.tuple hx
  have hlen : its.toArray.size = xs.length := by rw [List.size_toArray]; exact r.length.symm
  refine ⟨"tuple", _, PyProof.Rows.slot_tuple_getitem.lookup, ht.typeIs, ?_⟩
  by_cases hw : HT.sIx xs.length 0 lo = 0 ∧ HT.sIx xs.length xs.length hi = xs.length
  · exact getItem_tuple_whole ht hs pl pu (by rw [hlen]; exact hw) ⟨.ref a, H, I, rfl, q1 hw⟩
  · refine HT.getItem_tuple_cut ht hs pl pu (by rw [hlen]; exact hw) ?_ (by rw [hlen]; exact hz)
    rw [hlen]
    exact newT (t' := s.toks) I ((r.drop (HT.sIx xs.length 0 lo)).take (HT.sIx xs.length xs.length hi - HT.sIx xs.length 0 lo)) (Nat.le_trans (cutV_length xs lo hi) hz) (q2 hw)
def rRepN (K : PySem.W.Frag) : R2 := fun x y H Q => ∃ l k xs, x = .ref l ∧ y = .int k ∧ SqT K H l xs ∧ xs ≠ [] ∧ 2 ≤ k ∧ k ≤ 1000 ∧ xs.length ≤ 1000 ∧ NewT H (List.replicate k.toNat xs).flatten Q
theorem op_repN : OpR X (binaryOp .Mult) (rRepN X.K) := by
  intro pins s σ H x y v u Q I rx ry h
  obtain ⟨l, k, xs, rfl, rfl, hT, hne, h1, h2, hz, q⟩ := h
  cases rx
  obtain ⟨t, rfl⟩ := ry
  obtain ⟨its, r, ⟨⟨cls, dd, data, sl⟩, ho, hc, n, hd⟩, hs⟩ := I.tuple hT
  simp only at hc hd
  subst hc hd
  have hl : its.length = xs.length := r.length.symm
  have he : its.toArray.isEmpty = false := by
    cases its with
    | nil => exact absurd (List.eq_nil_of_length_eq_zero hl.symm) hne
    | cons _ _ => rfl
  have hm : k.toNat * xs.length ≤ 1000 * 1000 := Nat.mul_le_mul (by omega) hz
  have hp : ((its.toArray.size : Nat) : Int) * k ≤ 1000000 := by
    rw [List.size_toArray, hl]
    have : ((xs.length : Nat) : Int) * k ≤ 1000 * k := Int.mul_le_mul_of_nonneg_right (by omega) (by omega)
    omega
  have hf : (List.replicate k.toNat its).flatten.length ≤ sizeLine := by
    rw [PyProof.Rows.lm_len_rep_flat, hl, sizeLine_eq]
    omega
  refine wpAny_binaryOp_repeat_ref (T := "tuple") (U := "int") (by decide) ⟨_, ho, rfl⟩ (fun s' => typeIs_int s' k t) noFill_tuple_mul F.fills_int_mul F.slot_int_rmul repeat_tuple F.slot_int_index.lookup
    (call_meets F.slot_int_rmul (typeIs_int s k t) F.entry_int_rmul (F.args_int_rmul_2 _ _) (int_rmul_tuple k t l its.toArray n dd sl)
      ⟨ho, rfl, ⟨_, ho, rfl⟩, call_meets F.slot_tuple_mul ⟨_, ho, rfl⟩ F.entry_tuple_mul (F.args_tuple_mul_2 _ _) (tuple_mulW l its.toArray n dd sl k t
        (by rw [decide_eq_false (by omega), decide_eq_false (by omega)]; rfl)
        (by rw [he, Bool.false_or]; exact beq_eq_false_iff_ne.mpr (by omega))
        (by rw [he, Bool.or_false]; exact decide_eq_false (by omega)) (by omega)
        (by unfold Builtin.Tuple.tupleTooMany; rw [sizeLine_eq]; exact decide_eq_false (by omega))
        (by rw [size_rep, List.size_toArray]; exact hf)) ⟨ho, ?_⟩⟩)
  rw [size_rep]
  exact newT (t' := s.toks) I (r.rep k.toNat) (by rw [PyProof.Rows.lm_len_rep_flat, sizeLine_eq]; omega) q
end
end Ev
set_option Elab.async false
set_option linter.all false
set_option maxRecDepth 100000
set_option maxHeartbeats 1000000
/-! Expressions: the hand layer's readings hold where the evaluator ends well. -/
namespace Ev
open PySem PySem.Spec PyProof.Rows L2

/-- .. or a list of one's own, looked at -/
def BRep {K : PySem.W.Frag} (S : Stg K) (Mu : Addr → Prop) (H : Hp) (v : V) (d : D) : Prop := Rep K Mu H v d ∨ ∃ a, v = .ref a ∧ S.hd ≠ some a ∧ OwnAt K Mu H a d

section
variable {K : PySem.W.Frag} {S : Stg K} {Mu : Addr → Prop} {H H' : Hp} {h : List D} {v : V} {d : D}
theorem BRep.pres (r : BRep S Mu H v d) (p : Pres S H H') (x : HandAt S Mu H h) : BRep S Mu H' v d := by
  rcases r with r | ⟨a, e, n, r⟩
  · exact .inl (r.pres p x)
  · exact .inr ⟨a, e, n, r.pres p x n⟩
theorem BRep.lst {ds : List D} (r : BRep S Mu H v (.list ds)) : ∃ a vs, v = .ref a ∧ Rd H a (.lst vs) ∧ RepL K Mu H vs ds := by
  rcases r with r | ⟨a, e, n, o⟩
  · cases r with
    | lst _ hs hr => exact ⟨_, _, rfl, .of hs, hr⟩
  · obtain ⟨vs, q, r⟩ := o.inl
    exact ⟨a, vs, e, .of q, r⟩
theorem BRep.dic {kvs : List (D × D)} (r : BRep S Mu H v (.dict kvs)) : ∃ a o es, v = .ref a ∧ H a = some (DicO a o) ∧ DicOk a o es kvs ∧ RepP K Mu H es kvs := by
  rcases r with r | ⟨a, e, n, o⟩
  · cases r with
    | dk hm hs ok hr => exact ⟨_, _, _, rfl, hs, ok, hr⟩
  · obtain ⟨o, es, q, k, r⟩ := o.ind
    exact ⟨a, o, es, e, q, k, r⟩
theorem BRep.tup {ds : List D} (r : BRep S Mu H v (.tuple ds)) : ∃ a vs, v = .ref a ∧ TupN K H a vs ∧ RepL K Mu H vs ds := by
  rcases r with r | ⟨a, e, n, o⟩
  · cases r with
    | tup hs hr => exact ⟨_, _, rfl, hs, hr⟩
  · cases o
theorem BRep.tupR {ds : List D} (r : BRep S Mu H v (.tuple ds)) : Rep K Mu H v (.tuple ds) := by
  rcases r with r | ⟨a, e, n, o⟩
  · exact r
  · cases o
theorem BRep.intR {i : Int} (r : BRep S Mu H v (.int i)) : Rep K Mu H v (.int i) := by
  rcases r with r | ⟨a, e, n, o⟩
  · exact r
  · cases o
theorem BRep.int {i : Int} (r : BRep S Mu H v (.int i)) : v = .int i := by
  rcases r with r | ⟨a, e, n, o⟩
  · cases r; rfl
  · cases o
theorem BRep.bool {b : Bool} (r : BRep S Mu H v (.bool b)) : v = .bl b := by
  rcases r with r | ⟨a, e, n, o⟩
  · cases r; rfl
  · cases o
theorem BRep.str {x : Str} (r : BRep S Mu H v (.str x)) : v = .str x := by
  rcases r with r | ⟨a, e, n, o⟩
  · cases r; rfl
  · cases o
theorem BRep.none (r : BRep S Mu H v .none) : v = .non := by
  rcases r with r | ⟨a, e, n, o⟩
  · cases r; rfl
  · cases o
theorem Rep.int_inv {i : Int} (r : Rep K Mu H v (.int i)) : v = .int i := by cases r; rfl
theorem Rep.bool_inv {i : Bool} (r : Rep K Mu H v (.bool i)) : v = .bl i := by cases r; rfl
theorem reads_of {X : Cx} {S : Stg X.K} {pins : List (Addr × Obj)} {σ : L2.St} {H : Hp} {s : Shared} {Mu : Addr → Prop} (I : Inv X pins σ H s) {v : V} {d : D} {u : Value} (r : BRep S Mu H v d) (ru : RelV v u) : ∃ as, Reads s.heap u d as := by
  rcases r with r | ⟨a, rfl, n, o⟩
  · exact Rep.reads I d v u r ru
  · exact Rep.reads (Mu := fun _ => False) I d _ u (o.rep (fun _ z => z.elim) fun z => z) ru
end

abbrev XAT := Exn → Value → Option Addr → Hp → Prop
section
variable (X : Cx) (S : Stg X.K) (XA : XAT) (E : XK)
/-- an expression's value: kept; looked at -/
def SE (ex : Expr) (m : Env → M D) : Prop := ∃ t : TE, PE X ex t ∧ ∀ (Mu : Addr → Prop) env h σ H Q, ES S Mu env h σ H → Good S Mu XA (m env h) H (fun d h' H' => ∀ v, Rep X.K Mu H' v d → Q v H') E → t σ H Q
def SB (ex : Expr) (m : Env → M D) : Prop := ∃ t : TE, PE X ex t ∧ ∀ (Mu : Addr → Prop) env h σ H Q, ES S Mu env h σ H → Good S Mu XA (m env h) H (fun d h' H' => ∀ v, BRep S Mu H' v d → Q v H') E → t σ H Q
def ST (ex : Expr) (m : Env → M Bool) : Prop := ∃ t : TT, PT X ex t ∧ ∀ (Mu : Addr → Prop) env h σ H Q, ES S Mu env h σ H → Good S Mu XA (m env h) H (fun d h' H' => Q d H') E → t σ H Q
def SEs (es : List Expr) (m : Env → M (List D)) : Prop := ∃ t : TA, PA X es t ∧ ∀ (Mu : Addr → Prop) env h σ H Q, ES S Mu env h σ H → Good S Mu XA (m env h) H (fun ds h' H' => ∀ vs, RepL X.K Mu H' vs ds → vs.length = es.length → Q vs H') E → t σ H Q
end

section
variable {X : Cx} {S : Stg X.K} {XA : XAT} {E : XK} {a b c : Expr} {ma mb mc : Env → M D} {pos : Pos}
theorem SE.sb {ex : Expr} {m : Env → M D} (h : SE X S XA E ex m) : SB X S XA E ex m := by
  obtain ⟨t, p, q⟩ := h
  exact ⟨t, p, fun Mu env h σ H Q e g => q Mu env h σ H Q e (g.mono fun d h' H' _ _ k v r => k v (.inl r))⟩

theorem se_var {i : Nat} {x : Str} (hN : X.N[i]? = some x) (hv : Vis X.env.scope x) (hd : (x == ("__debug__" : Str)) = false) (hcd : (x == ("__classdict__" : Str)) = false) : SE X S XA E (.Name x pos) (fun env => slotV env i) := by
  refine ⟨tVar i, pe_var hN hv hd hcd, fun Mu env h σ H Q e g => ?_⟩
  have hs := e.slot i
  dsimp only at g
  unfold slotV at g
  cases q : nth env i with
  | val d =>
    rw [q] at hs g
    obtain ⟨v, e1, r⟩ := hs
    exact ⟨v, e1, g.ret e.hand v r⟩
  | _ => rw [q] at g; exact g.fail.elim
theorem sb_var {i : Nat} {x : Str} (hN : X.N[i]? = some x) (hv : Vis X.env.scope x) (hd : (x == ("__debug__" : Str)) = false) (hcd : (x == ("__classdict__" : Str)) = false) : SB X S XA E (.Name x pos) (fun env => slotB env i) := by
  refine ⟨tVar i, pe_var hN hv hd hcd, fun Mu env h σ H Q e g => ?_⟩
  have hs := e.slot i
  dsimp only at g
  unfold slotB at g
  cases q : nth env i with
  | val d =>
    rw [q] at hs g
    obtain ⟨v, e1, r⟩ := hs
    exact ⟨v, e1, g.ret e.hand v (.inl r)⟩
  | own d =>
    rw [q] at hs g
    obtain ⟨a, e1, m, n, r⟩ := hs
    cases r with
    | lst hl hr => exact ⟨.ref a, e1, Good.ret (a := PyData.list _) g e.hand _ (.inr ⟨a, rfl, n, .lst hl hr⟩)⟩
    | dic hl hk hr => exact (Good.fail (show Good S Mu XA (fail h) H _ E from g)).elim
  | _ => rw [q] at g; exact g.fail.elim
theorem sb_look {i : Nat} {x : Str} (hN : X.N[i]? = some x) (hv : Vis X.env.scope x) (hd : (x == ("__debug__" : Str)) = false) (hcd : (x == ("__classdict__" : Str)) = false) : SB X S XA E (.Name x pos) (fun env => slotD env i) := by
  refine ⟨tVar i, pe_var hN hv hd hcd, fun Mu env h σ H Q e g => ?_⟩
  have hs := e.slot i
  dsimp only at g
  unfold slotD at g
  cases q : nth env i with
  | own d =>
    rw [q] at hs g
    obtain ⟨a, e1, m, n, r⟩ := hs
    cases r with
    | lst hl hr => exact (Good.fail (show Good S Mu XA (fail h) H _ E from g)).elim
    | dic hl hk hr => exact ⟨.ref a, e1, Good.ret (a := PyData.dict _) g e.hand _ (.inr ⟨a, rfl, n, .dic hl hk hr⟩)⟩
  | _ => rw [q] at g; exact g.fail.elim
theorem se_tC {ex : Expr} {v : V} {d : D} (h : PE X ex (tC v)) (r : ∀ Mu H, Rep X.K Mu H v d) : SE X S XA E ex (fun _ => ret d) :=
  ⟨_, h, fun Mu env hh σ H Q e g => g.ret e.hand v (r Mu H)⟩

/-- an operation of two values -/
def OpD (X : Cx) (S : Stg X.K) (XA : XAT) (E : XK) (f : Value → Value → Sem Value) (F : D → D → M D) : Prop :=
  ∃ r : R2, OpR X f r ∧ ∀ (Mu : Addr → Prop) h H x y a b Q, HandAt S Mu H h → (∀ p, Fr H p → ¬ Mu p) → BRep S Mu H x a → BRep S Mu H y b → Good S Mu XA (F a b h) H (fun d h' H' => ∀ v, Rep X.K Mu H' v d → Q v H') E → r x y H Q
theorem ES.nf {Mu : Addr → Prop} {env : Env} {h : List D} {σ : L2.St} {H : Hp} (e : ES S Mu env h σ H) : ∀ p, Fr H p → ¬ Mu p := fun p n m => e.dom p m n
theorem Pres.nf {Mu : Addr → Prop} {H H' : Hp} (p : Pres S H H') (nf : ∀ p, Fr H p → ¬ Mu p) : ∀ p, Fr H' p → ¬ Mu p := fun a n => nf a (p.free n)
theorem se_op2 {f : Value → Value → Sem Value} {F : D → D → M D} {wh : Expr} (hw : ∀ r, OpR X f r → ∀ ta tb, PE X a ta → PE X b tb → PE X wh (tOp r ta tb)) (ho : OpD X S XA E f F) (ha : SB X S XA E a ma) (hb : SB X S XA E b mb) :
    SE X S XA E wh (fun env => bnd (ma env) fun x => bnd (mb env) fun y => F x y) := by
  obtain ⟨r, o, hr⟩ := ho
  obtain ⟨ta, pa, qa⟩ := ha
  obtain ⟨tb, pb, qb⟩ := hb
  refine ⟨_, hw r o ta tb pa pb, fun Mu env h σ H Q e g => ?_⟩
  refine qa Mu env h σ H _ e (g.bnd.mono fun x h1 H1 p1 x1 g1 v rv => ?_)
  refine qb Mu env h1 σ H1 _ (e.pres p1 x1) (g1.bnd.mono fun y h2 H2 p2 x2 g2 w rw' => ?_)
  exact hr Mu h2 H2 v w x y Q x2 (p2.nf (p1.nf e.nf)) (rv.pres p2 x1) rw' g2
theorem se_binop {op : Operator} {F : D → D → M D} (ho : OpD X S XA E (binaryOp op) F) (ha : SB X S XA E a ma) (hb : SB X S XA E b mb) : SE X S XA E (.BinOp a op b pos) (fun env => bnd (ma env) fun x => bnd (mb env) fun y => F x y) :=
  se_op2 (fun r o ta tb pa pb => pe_op o pa pb) ho ha hb
theorem se_cmp {op : CmpOp} {F : D → D → M D} (ho : OpD X S XA E (compareOp op) F) (ha : SB X S XA E a ma) (hb : SB X S XA E b mb) (hm : behindInMarks op b = false) : SE X S XA E (.Compare a [op] [b] pos) (fun env => bnd (ma env) fun x => bnd (mb env) fun y => F x y) :=
  se_op2 (fun r o ta tb pa pb => pe_cmpR o pa pb hm) ho ha hb

/-! tests -/
/-- of a comparison -/
theorem st_cmp {op : CmpOp} {F : D → D → M D} (ho : OpD X S XA E (compareOp op) F) (hF : ∀ a b h, (∃ k h', F a b h = .ok (.bool k) h') ∨ (∃ e h', F a b h = .exc e h') ∨ F a b h = .bad) (ha : SB X S XA E a ma) (hb : SB X S XA E b mb) (hm : behindInMarks op b = false) :
    ST X S XA E (.Compare a [op] [b] pos) (fun env => bnd (bnd (ma env) fun x => bnd (mb env) fun y => F x y) truthyV) := by
  obtain ⟨r, o, hr⟩ := ho
  obtain ⟨ta, pa, qa⟩ := ha
  obtain ⟨tb, pb, qb⟩ := hb
  refine ⟨_, pt_cmpR o pa pb hm, fun Mu env h σ H Q e g => ?_⟩
  dsimp only at g
  rw [bnd_assoc] at g
  refine qa Mu env h σ H _ e (g.bnd.mono fun x h1 H1 p1 x1 g1 v rv => ?_)
  rw [bnd_assoc] at g1
  refine qb Mu env h1 σ H1 _ (e.pres p1 x1) (g1.bnd.mono fun y h2 H2 p2 x2 g2 w rw' => ?_)
  refine hr Mu h2 H2 v w x y _ x2 (p2.nf (p1.nf e.nf)) (rv.pres p2 x1) rw' ?_
  have g3 := g2.bnd
  rcases hF x y h2 with ⟨k, h', q⟩ | ⟨ex, h', q⟩ | q
  · rw [q] at g3 ⊢
    intro H3 p3 x3 u ru
    obtain rfl := ru.bool_inv
    have g4 := g3 H3 p3 x3
    exact ⟨k, rfl, g4.ret x3⟩
  · rw [q] at g3 ⊢
    exact g3
  · rw [q] at g3
    exact g3.elim
/-- of a value that is a bool -/
theorem st_val (ha : SE X S XA E a ma) (he : ∀ whole, isTrue a X.env whole = (do let v ← whole; standAt a.pos; holding [v] (truthy v))) (hB : ∀ env h, (∃ k h', ma env h = .ok (.bool k) h') ∨ (∃ e h', ma env h = .exc e h') ∨ ma env h = .bad) :
    ST X S XA E a (fun env => bnd (ma env) truthyV) := by
  obtain ⟨ta, pa, qa⟩ := ha
  refine ⟨_, pt_val pa he, fun Mu env h σ H Q e g => ?_⟩
  refine qa Mu env h σ H _ e ?_
  have g3 := g.bnd
  rcases hB env h with ⟨k, h', q⟩ | ⟨ex, h', q⟩ | q
  · rw [q] at g3 ⊢
    intro H3 p3 x3 u ru
    obtain rfl := ru.bool_inv
    exact ⟨k, rfl, (g3 H3 p3 x3).ret x3⟩
  · rw [q] at g3 ⊢
    exact g3
  · rw [q] at g3
    exact g3.elim
/-- of any value -/
theorem st_any (ha : SB X S XA E a ma) (he : ∀ whole, isTrue a X.env whole = (do let v ← whole; standAt a.pos; holding [v] (truthy v))) : ST X S XA E a (fun env => bnd (ma env) truthyV) := by
  obtain ⟨ta, pa, qa⟩ := ha
  refine ⟨_, pt_truth pa he, fun Mu env h σ H Q e g => ?_⟩
  refine qa Mu env h σ H _ e (g.bnd.mono fun x h1 H1 p1 x1 g1 v rv => ?_)
  cases x with
  | none => rw [rv.none]; exact ⟨false, rfl, g1.ret x1⟩
  | bool b => rw [rv.bool]; exact ⟨b, rfl, g1.ret x1⟩
  | int i => rw [rv.int]; exact ⟨_, rfl, g1.ret x1⟩
  | str y =>
    rw [rv.str]
    obtain ⟨z, g2⟩ := Good.chk g1
    exact ⟨_, ⟨by have := of_decide_eq_true z; rw [sizeLine_eq]; exact this, rfl⟩, g2.ret x1⟩
  | list xs =>
    obtain ⟨a, vs, rfl, hs, hr⟩ := rv.lst
    refine ⟨!vs.isEmpty, .inl ⟨vs, .inl hs, rfl⟩, ?_⟩
    rw [hr.isEmpty]
    exact g1.ret x1
  | tuple xs =>
    obtain ⟨a, vs, rfl, hs, hr⟩ := rv.tup
    refine ⟨!vs.isEmpty, .inr (.inl ⟨vs, hs, rfl⟩), ?_⟩
    rw [hr.isEmpty]
    exact g1.ret x1
  | dict kvs => exact g1.fail.elim
theorem tru_of {Mu : Addr → Prop} {h : List D} {H : Hp} {v : V} {d : D} {E : XK} {P : Bool → List D → Hp → Prop} (rv : BRep S Mu H v d) (g : Good S Mu XA (truthyV d h) H P E) (x : HandAt S Mu H h) : ∃ k, TruV X.K v H k ∧ P k h H := by
  cases d with
  | none => rw [rv.none]; exact ⟨false, rfl, g.ret x⟩
  | bool b => rw [rv.bool]; exact ⟨b, rfl, g.ret x⟩
  | int i => rw [rv.int]; exact ⟨_, rfl, g.ret x⟩
  | str y =>
    rw [rv.str]
    obtain ⟨z, g2⟩ := Good.chk g
    exact ⟨_, ⟨by have := of_decide_eq_true z; rw [sizeLine_eq]; exact this, rfl⟩, g2.ret x⟩
  | list xs =>
    obtain ⟨a, vs, rfl, hs, hr⟩ := rv.lst
    refine ⟨!vs.isEmpty, .inl ⟨vs, .inl hs, rfl⟩, ?_⟩
    rw [hr.isEmpty]
    exact g.ret x
  | tuple xs =>
    obtain ⟨a, vs, rfl, hs, hr⟩ := rv.tup
    refine ⟨!vs.isEmpty, .inr (.inl ⟨vs, hs, rfl⟩), ?_⟩
    rw [hr.isEmpty]
    exact g.ret x
  | dict kvs => exact g.fail.elim
theorem se_not (ha : SB X S XA E a ma) : SE X S XA E (.UnaryOp .Not a pos) (fun env => bnd (bnd (ma env) truthyV) fun b => ret (.bool (!b))) := by
  obtain ⟨ta, pa, qa⟩ := ha
  refine ⟨_, pe_notT pa, fun Mu env h σ H Q e g => ?_⟩
  dsimp only at g
  rw [bnd_assoc] at g
  refine qa Mu env h σ H _ e (g.bnd.mono fun x h1 H1 p1 x1 g1 v rv => ?_)
  obtain ⟨k, hk, g2⟩ := tru_of rv g1.bnd x1
  exact ⟨k, hk, g2.ret x1 _ (.bl _)⟩
theorem st_not {mt : Env → M Bool} (ha : ST X S XA E a mt) : ST X S XA E (.UnaryOp .Not a pos) (fun env => bnd (bnd (mt env) fun b => ret (.bool (!b))) truthyV) := by
  obtain ⟨ta, pa, qa⟩ := ha
  refine ⟨_, pt_not pa, fun Mu env h σ H Q e g => ?_⟩
  dsimp only at g
  rw [bnd_assoc] at g
  refine qa Mu env h σ H _ e (g.bnd.mono fun x h1 H1 p1 x1 g1 => ?_)
  rw [bnd_ret] at g1
  exact g1.ret x1
theorem se_and {rest : List Expr} (ha : SE X S XA E a ma) (hb : SE X S XA E (.BoolOp .And (b :: rest) pos) mb) : SE X S XA E (.BoolOp .And (a :: b :: rest) pos) (fun env => bnd (ma env) fun v => andV v (mb env)) := by
  obtain ⟨ta, pa, qa⟩ := ha
  obtain ⟨tb, pb, qb⟩ := hb
  refine ⟨_, pe_and pa pb, fun Mu env h σ H Q e g => ?_⟩
  refine qa Mu env h σ H _ e (g.bnd.mono fun x h1 H1 p1 x1 g1 v rv => ?_)
  unfold andV at g1
  split at g1
  · obtain rfl := rv.bool_inv
    exact ⟨true, rfl, qb Mu env h1 σ H1 _ (e.pres p1 x1) g1⟩
  · obtain rfl := rv.bool_inv
    exact ⟨false, rfl, g1.ret x1 _ (.bl false)⟩
  · exact g1.fail.elim
theorem se_or {rest : List Expr} (ha : SE X S XA E a ma) (hb : SE X S XA E (.BoolOp .Or (b :: rest) pos) mb) : SE X S XA E (.BoolOp .Or (a :: b :: rest) pos) (fun env => bnd (ma env) fun v => orV v (mb env)) := by
  obtain ⟨ta, pa, qa⟩ := ha
  obtain ⟨tb, pb, qb⟩ := hb
  refine ⟨_, pe_or pa pb, fun Mu env h σ H Q e g => ?_⟩
  refine qa Mu env h σ H _ e (g.bnd.mono fun x h1 H1 p1 x1 g1 v rv => ?_)
  unfold orV at g1
  split at g1
  · obtain rfl := rv.bool_inv
    exact ⟨true, rfl, g1.ret x1 _ (.bl true)⟩
  · obtain rfl := rv.bool_inv
    exact ⟨false, rfl, qb Mu env h1 σ H1 _ (e.pres p1 x1) g1⟩
  · exact g1.fail.elim
theorem se_one {op : BoolOp} (ha : SE X S XA E a ma) : SE X S XA E (.BoolOp op [a] pos) ma := by
  obtain ⟨ta, pa, qa⟩ := ha
  exact ⟨_, pe_one pa, qa⟩
/-- and, or as tests -/
def SW (X : Cx) (S : Stg X.K) (XA : XAT) (E : XK) (ex : Expr) (m : Env → M D) : Prop := ∃ t : TT, PW X ex t ∧ ∀ (Mu : Addr → Prop) env h σ H Q, ES S Mu env h σ H → Good S Mu XA (bnd (m env) truthyV h) H (fun d h' H' => Q d H') E → t σ H Q
theorem SW.st (h : SW X S XA E a ma) : ST X S XA E a (fun env => bnd (ma env) truthyV) := by
  obtain ⟨t, p, q⟩ := h
  exact ⟨t, p.pt, q⟩
theorem sw_and1 (ha : ST X S XA E a (fun env => bnd (ma env) truthyV)) : SW X S XA E (.BoolOp .And [a] pos) ma := by
  obtain ⟨t, p, q⟩ := ha
  exact ⟨t, pw_and1 p, q⟩
theorem sw_or1 (ha : ST X S XA E a (fun env => bnd (ma env) truthyV)) : SW X S XA E (.BoolOp .Or [a] pos) ma := by
  obtain ⟨t, p, q⟩ := ha
  exact ⟨t, pw_or1 p, q⟩
theorem andV_other {x : D} {m : M D} (h : ∀ k, x ≠ .bool k) : andV x m = fail := by
  cases x with
  | bool k => exact absurd rfl (h k)
  | _ => rfl
theorem orV_other {x : D} {m : M D} (h : ∀ k, x ≠ .bool k) : orV x m = fail := by
  cases x with
  | bool k => exact absurd rfl (h k)
  | _ => rfl
theorem isBoolD (x : D) : (∃ k, x = .bool k) ∨ ∀ k, x ≠ .bool k := by
  cases x with
  | bool k => exact .inl ⟨k, rfl⟩
  | _ => exact .inr fun k z => by cases z
theorem sw_and {rest : List Expr} (ha : ST X S XA E a (fun env => bnd (ma env) truthyV)) (hb : SW X S XA E (.BoolOp .And (b :: rest) pos) mb) : SW X S XA E (.BoolOp .And (a :: b :: rest) pos) (fun env => bnd (ma env) fun v => andV v (mb env)) := by
  obtain ⟨ta, pa, qa⟩ := ha
  obtain ⟨tb, pb, qb⟩ := hb
  refine ⟨_, pw_and pa pb, fun Mu env h σ H Q e g => ?_⟩
  refine qa Mu env h σ H _ e ?_
  dsimp only at g ⊢
  rw [run_bnd, run_bnd] at g
  rw [run_bnd]
  cases q : ma env h with
  | ok x h1 =>
    rw [q] at g
    rcases isBoolD x with ⟨k, rfl⟩ | hx
    · have g2 : Good S Mu XA (bnd (andV (.bool k) (mb env)) truthyV h1) H (fun d h' H' => Q d H') E := by rw [run_bnd]; exact g
      show Good S Mu XA (Ev.ret k h1) H _ E
      rw [run_ret]
      intro H1 p1 x1
      have g3 := g2.step p1
      cases k with
      | true => exact qb Mu env h1 σ H1 _ (e.pres p1 x1) g3
      | false =>
        have g3 : Good S Mu XA (bnd (ret (.bool false)) truthyV h1) H1 (fun d h' H' => Q d H') E := g3
        rw [bnd_ret] at g3
        exact g3.ret x1
    · have g2 : Good S Mu XA (bndR truthyV (andV x (mb env) h1)) H (fun d h' H' => Q d H') E := g
      rw [andV_other hx, run_fail] at g2
      exact g2.elim
  | exc ex h1 => rw [q] at g; exact g
  | bad => rw [q] at g; exact g
theorem sw_or {rest : List Expr} (ha : ST X S XA E a (fun env => bnd (ma env) truthyV)) (hb : SW X S XA E (.BoolOp .Or (b :: rest) pos) mb) : SW X S XA E (.BoolOp .Or (a :: b :: rest) pos) (fun env => bnd (ma env) fun v => orV v (mb env)) := by
  obtain ⟨ta, pa, qa⟩ := ha
  obtain ⟨tb, pb, qb⟩ := hb
  refine ⟨_, pw_or pa pb, fun Mu env h σ H Q e g => ?_⟩
  refine qa Mu env h σ H _ e ?_
  dsimp only at g ⊢
  rw [run_bnd, run_bnd] at g
  rw [run_bnd]
  cases q : ma env h with
  | ok x h1 =>
    rw [q] at g
    rcases isBoolD x with ⟨k, rfl⟩ | hx
    · have g2 : Good S Mu XA (bnd (orV (.bool k) (mb env)) truthyV h1) H (fun d h' H' => Q d H') E := by rw [run_bnd]; exact g
      show Good S Mu XA (Ev.ret k h1) H _ E
      rw [run_ret]
      intro H1 p1 x1
      have g3 := g2.step p1
      cases k with
      | false => exact qb Mu env h1 σ H1 _ (e.pres p1 x1) g3
      | true =>
        have g3 : Good S Mu XA (bnd (ret (.bool true)) truthyV h1) H1 (fun d h' H' => Q d H') E := g3
        rw [bnd_ret] at g3
        exact g3.ret x1
    · have g2 : Good S Mu XA (bndR truthyV (orV x (mb env) h1)) H (fun d h' H' => Q d H') E := g
      rw [orV_other hx, run_fail] at g2
      exact g2.elim
  | exc ex h1 => rw [q] at g; exact g
  | bad => rw [q] at g; exact g
theorem se_ite {mt : Env → M Bool} (hc : ST X S XA E c mt) (ha : SE X S XA E a ma) (hb : SE X S XA E b mb) : SE X S XA E (.IfExp c a b pos) (fun env => bnd (mt env) fun t => iteM t (ma env) (mb env)) := by
  obtain ⟨tc, pc, qc⟩ := hc
  obtain ⟨ta, pa, qa⟩ := ha
  obtain ⟨tb, pb, qb⟩ := hb
  refine ⟨_, pe_ifExp pc pa pb, fun Mu env h σ H Q e g => ?_⟩
  refine qc Mu env h σ H _ e (g.bnd.mono fun x h1 H1 p1 x1 g1 => ?_)
  cases x with
  | true => rw [if_pos rfl]; exact qa Mu env h1 σ H1 _ (e.pres p1 x1) g1
  | false => rw [if_neg Bool.false_ne_true]; exact qb Mu env h1 σ H1 _ (e.pres p1 x1) g1

/-- a result that is a truth value -/
def isB (r : R D) : Prop := (∃ k h', r = .ok (.bool k) h') ∨ (∃ e h', r = .exc e h') ∨ r = .bad
theorem isB_ret (k : Bool) (h : List D) : isB (ret (.bool k) h) := by rw [run_ret]; exact .inl ⟨k, h, rfl⟩
theorem isB_fail (h : List D) : isB (fail h) := by rw [run_fail]; exact .inr (.inr rfl)
theorem isB_chk (c k : Bool) (h : List D) : isB (chk c (.bool k) h) := by cases c <;> first | exact isB_ret k h | exact isB_fail h
theorem isB_cmp (op : Cop) (a b : D) (h : List D) : isB (cmpV op a b h) := by
  unfold cmpV
  split <;> first | exact isB_chk _ _ _ | (split <;> first | exact isB_chk _ _ _ | exact isB_ret _ _ | exact isB_fail _ | (split <;> first | exact isB_ret _ _ | exact isB_fail _))
/-- chains -/
theorem se_chain {op op' : CmpOp} {F F' : D → D → M D} (ho : OpD X S XA E (compareOp op) F) (ho' : OpD X S XA E (compareOp op') F') (ha : SE X S XA E a ma) (hb : SE X S XA E b mb) (hc : SE X S XA E c mc) (hm : lastMarks [op, op'] [b, c] = false) :
    SE X S XA E (.Compare a [op, op'] [b, c] pos) (fun env => bnd (ma env) fun x => bnd (mb env) fun y => bnd (F x y) fun r => andV r (bnd (mc env) fun z => F' y z)) := by
  obtain ⟨r, o, hr⟩ := ho
  obtain ⟨r', o', hr'⟩ := ho'
  obtain ⟨ta, pa, qa⟩ := ha
  obtain ⟨tb, pb, qb⟩ := hb
  obtain ⟨tc, pc, qc⟩ := hc
  refine ⟨_, pe_chain o o' pa pb pc hm, fun Mu env h σ H Q e g => ?_⟩
  refine qa Mu env h σ H _ e (g.bnd.mono fun x h1 H1 p1 x1 g1 v rv => ?_)
  refine qb Mu env h1 σ H1 _ (e.pres p1 x1) (g1.bnd.mono fun y h2 H2 p2 x2 g2 w rw' => ?_)
  refine hr Mu h2 H2 v w x y _ x2 (p2.nf (p1.nf e.nf)) (.inl (rv.pres p2 x1)) (.inl rw') (g2.bnd.mono fun z h3 H3 p3 x3 g3 u ru => ?_)
  rcases isBoolD z with ⟨k, rfl⟩ | hz
  · obtain rfl := ru.bool_inv
    refine ⟨k, rfl, ?_⟩
    cases k with
    | true =>
      rw [if_pos rfl]
      have g4 : Good S Mu XA (bnd (mc env) (fun z => F' y z) h3) H3 (fun d h' H' => ∀ v, Rep X.K Mu H' v d → Q v H') E := g3
      refine qc Mu env h3 σ H3 _ (((e.pres p1 x1).pres p2 x2).pres p3 x3) (g4.bnd.mono fun d h4 H4 p4 x4 g5 q rq => ?_)
      exact hr' Mu h4 H4 w q y d Q x4 (p4.nf (p3.nf (p2.nf (p1.nf e.nf)))) (.inl ((rw'.pres p3 x2).pres p4 x3)) (.inl rq) g5
    | false =>
      rw [if_neg Bool.false_ne_true]
      have g4 : Good S Mu XA (ret (.bool false) h3) H3 (fun d h' H' => ∀ v, Rep X.K Mu H' v d → Q v H') E := g3
      exact g4.ret x3 _ (.bl false)
  · rw [andV_other hz] at g3
    exact g3.fail.elim
theorem st_chain {op op' : CmpOp} {F F' : D → D → M D} (ho : OpD X S XA E (compareOp op) F) (ho' : OpD X S XA E (compareOp op') F') (hF : ∀ a b h, isB (F' a b h)) (ha : SE X S XA E a ma) (hb : SE X S XA E b mb) (hc : SE X S XA E c mc) (hm : lastMarks [op, op'] [b, c] = false) :
    ST X S XA E (.Compare a [op, op'] [b, c] pos) (fun env => bnd (bnd (ma env) fun x => bnd (mb env) fun y => bnd (F x y) fun r => andV r (bnd (mc env) fun z => F' y z)) truthyV) := by
  obtain ⟨r, o, hr⟩ := ho
  obtain ⟨r', o', hr'⟩ := ho'
  obtain ⟨ta, pa, qa⟩ := ha
  obtain ⟨tb, pb, qb⟩ := hb
  obtain ⟨tc, pc, qc⟩ := hc
  refine ⟨_, pt_chain o o' pa pb pc hm, fun Mu env h σ H Q e g => ?_⟩
  dsimp only at g
  rw [bnd_assoc] at g
  refine qa Mu env h σ H _ e (g.bnd.mono fun x h1 H1 p1 x1 g1 v rv => ?_)
  rw [bnd_assoc] at g1
  refine qb Mu env h1 σ H1 _ (e.pres p1 x1) (g1.bnd.mono fun y h2 H2 p2 x2 g2 w rw' => ?_)
  rw [bnd_assoc] at g2
  refine hr Mu h2 H2 v w x y _ x2 (p2.nf (p1.nf e.nf)) (.inl (rv.pres p2 x1)) (.inl rw') (g2.bnd.mono fun z h3 H3 p3 x3 g3 u ru => ?_)
  rcases isBoolD z with ⟨k, rfl⟩ | hz
  · obtain rfl := ru.bool_inv
    refine ⟨k, rfl, ?_⟩
    cases k with
    | true =>
      rw [if_pos rfl]
      have g4 : Good S Mu XA (bnd (bnd (mc env) (fun z => F' y z)) truthyV h3) H3 (fun d h' H' => Q d H') E := g3
      rw [bnd_assoc] at g4
      refine qc Mu env h3 σ H3 _ (((e.pres p1 x1).pres p2 x2).pres p3 x3) (g4.bnd.mono fun d h4 H4 p4 x4 g5 q rq => ?_)
      refine hr' Mu h4 H4 w q y d _ x4 (p4.nf (p3.nf (p2.nf (p1.nf e.nf)))) (.inl ((rw'.pres p3 x2).pres p4 x3)) (.inl rq) ?_
      have g6 := g5.bnd
      rcases hF y d h4 with ⟨k, h', qq⟩ | ⟨ex, h', qq⟩ | qq
      · rw [qq] at g6 ⊢
        intro H3 p3 x3 u ru
        obtain rfl := ru.bool_inv
        exact ⟨k, rfl, (g6 H3 p3 x3).ret x3⟩
      · rw [qq] at g6 ⊢
        exact g6
      · rw [qq] at g6
        exact g6.elim
    | false =>
      rw [if_neg Bool.false_ne_true]
      have g4 : Good S Mu XA (bnd (ret (.bool false)) truthyV h3) H3 (fun d h' H' => Q d H') E := g3
      rw [bnd_ret] at g4
      exact ⟨false, rfl, g4.ret x3⟩
  · rw [andV_other hz, bnd_fail] at g3
    exact g3.fail.elim
theorem se_tC' {ex : Expr} {v : V} {d : D} (h : PE X ex (tC v)) (r : ∀ Mu H, Rep X.K Mu H v d) : SE X S XA E ex (fun _ => ret d) := se_tC h r

/-! lists of expressions -/
theorem ses_nil : SEs X S XA E [] (fun _ => ret []) := ⟨_, pa_nil, fun Mu env h σ H Q e g => g.ret e.hand [] .nil rfl⟩
theorem ses_cons {es : List Expr} {m : Env → M (List D)} (ha : SE X S XA E a ma) (hr : SEs X S XA E es m) (hs : starEach (a :: es) X.env = (false, eval a X.env) :: starEach es X.env) :
    SEs X S XA E (a :: es) (fun env => bnd (ma env) fun d => bnd (m env) fun ds => ret (d :: ds)) := by
  obtain ⟨ta, pa, qa⟩ := ha
  obtain ⟨tr, pr, qr⟩ := hr
  refine ⟨_, pa_cons pa pr hs, fun Mu env h σ H Q e g => ?_⟩
  refine qa Mu env h σ H _ e (g.bnd.mono fun x h1 H1 p1 x1 g1 v rv => ?_)
  refine qr Mu env h1 σ H1 _ (e.pres p1 x1) (g1.bnd.mono fun ds h2 H2 p2 x2 g2 vs rvs hl => ?_)
  exact g2.ret x2 _ (.cons (rv.pres p2 x1) rvs) (by rw [List.length_cons, List.length_cons, hl])
theorem se_tup {es : List Expr} {m : Env → M (List D)} {k : Nat} (h : SEs X S XA E es m) (hl : es.length ≤ 1000) : SE X S XA E (.Tuple es k pos) (fun env => bnd (m env) fun ds => ret (.tuple ds)) := by
  obtain ⟨t, p, q⟩ := h
  refine ⟨_, pe_tupN p, fun Mu env h σ H Q e g => ?_⟩
  refine q Mu env h σ H _ e (g.bnd.mono fun ds h1 H1 p1 x1 g1 vs rvs hn => ?_)
  refine ⟨by rw [hn, sizeLine_eq]; omega, fun a o ha ho => ?_⟩
  have pr : Pres S H1 (upd H1 a (.frz o (.tup vs))) := Pres.new ha
  exact (g1.step pr).ret (x1.new ha) _ (.tup (.inl ⟨o, upd_same, ho⟩) (rvs.pres pr x1))
/-- an expression that makes a new list -/
def SF (X : Cx) (S : Stg X.K) (XA : XAT) (E : XK) (ex : Expr) (m : Env → M D) : Prop := ∃ t : TE, PE X ex t ∧ ∀ (Mu : Addr → Prop) env h σ H Q, ES S Mu env h σ H → Good S Mu XA (m env h) H (fun d h' H' => ∀ a, Fr H a → S.hd ≠ some a → HandAt S (Add Mu a) H' h' → OwnAt X.K (Add Mu a) H' a d → Q (.ref a) H') E → t σ H Q
theorem SF.se {ex : Expr} {m : Env → M D} (h : SF X S XA E ex m) : SE X S XA E ex m := by
  obtain ⟨t, p, q⟩ := h
  refine ⟨t, p, fun Mu env h σ H Q e g => q Mu env h σ H Q e (g.mono fun d h' H' _ _ k a ha hn _ ho => ?_)⟩
  exact k _ (ho.rep (fun _ z => .inl z) (e.free ha))
theorem ES.hdn {Mu : Addr → Prop} {env : Env} {h : List D} {σ : L2.St} {H : Hp} (e : ES S Mu env h σ H) {a : Addr} (ha : Fr H a) : S.hd ≠ some a := fun z => by
  obtain ⟨_, vs, q, _⟩ := e.hand.lst z
  exact ha.no q fun ps y => by cases y
theorem HandAt.hdn {Mu : Addr → Prop} {h : List D} {H : Hp} (e : HandAt S Mu H h) {a : Addr} (ha : Fr H a) : S.hd ≠ some a := fun z => by
  obtain ⟨_, vs, q, _⟩ := e.lst z
  exact ha.no q fun ps y => by cases y
theorem sf_lst {es : List Expr} {m : Env → M (List D)} (h : SEs X S XA E es m) (hl : es.length ≤ 1000) : SF X S XA E (.List es pos) (fun env => bnd (m env) fun ds => ret (.list ds)) := by
  obtain ⟨t, p, q⟩ := h
  refine ⟨_, pe_lst p, fun Mu env h σ H Q e g => ?_⟩
  refine q Mu env h σ H _ e (g.bnd.mono fun ds h1 H1 p1 x1 g1 vs rvs hn => ?_)
  refine ⟨by rw [hn, sizeLine_eq]; omega, fun a ha => ?_⟩
  have pr : Pres S H1 (upd H1 a (.lst vs)) := Pres.new ha
  exact (g1.step pr).ret (x1.new ha) _ (p1.free (.of ha)) (x1.hdn (.of ha)) (x1.grow ha) (.lst upd_same (rvs.grow ha))
end
end Ev
set_option Elab.async false
set_option linter.all false
set_option maxRecDepth 100000
set_option maxHeartbeats 1000000
/-! Dicts whose keys are ints, or nested tuples of ints: what stands in the heap. -/
namespace Ev
open PySem PySem.Spec PyProof.Rows L2

/-! ### keys -/
mutual
theorem kOf_hash : ∀ (d : D) (k : NestedKey), kOf d = some k → ∀ w w' : World, k.hash w = k.hash w'
  | .none, k, e, w, w' => by cases e; rfl
  | .int i, k, e, w, w' => by cases e; rfl
  | .tuple xs, k, e, w, w' => by
    simp only [kOf] at e
    cases q : kOfs xs with
    | none => rw [q] at e; cases e
    | some ks =>
      rw [q] at e
      cases e
      simp only [NestedKey.hash]
      rw [kOfs_hash xs ks q w w']
  | .bool _, k, e, _, _ => by cases e
  | .str _, k, e, _, _ => by cases e
  | .list _, k, e, _, _ => by cases e
  | .dict _, k, e, _, _ => by cases e
theorem kOfs_hash : ∀ (xs : List D) (ks : List NestedKey), kOfs xs = some ks → ∀ w w' : World, NestedKey.hashes w ks = NestedKey.hashes w' ks
  | [], ks, e, w, w' => by cases e; rfl
  | x :: xs, ks, e, w, w' => by
    simp only [kOfs] at e
    cases q : kOf x with
    | none => rw [q] at e; cases e
    | some k =>
      rw [q] at e
      cases r : kOfs xs with
      | none => rw [r] at e; cases e
      | some ks' =>
        rw [r] at e
        cases e
        simp only [NestedKey.hashes]
        rw [kOf_hash x k q w w', kOfs_hash xs ks' r w w']
end
mutual
theorem kOf_eqv : ∀ (a b : D) (j k : NestedKey), kOf a = some j → kOf b = some k → PyData.eqv a b = NestedKey.beq j k
  | .none, b, j, k, e, f => by
    cases e
    cases b <;> first | (cases f; done) | skip
    · cases f; rfl
    · cases f; rfl
    · simp only [kOf, Option.map_eq_some_iff] at f
      obtain ⟨ks, _, rfl⟩ := f
      rfl
  | .int i, b, j, k, e, f => by
    cases e
    cases b <;> first | (cases f; done) | skip
    · cases f; rfl
    · cases f
      simp only [PyData.eqv, NestedKey.beq]
      rw [Bool.eq_iff_iff]
      simp
    · simp only [kOf, Option.map_eq_some_iff] at f
      obtain ⟨ks, _, rfl⟩ := f
      rfl
  | .tuple xs, b, j, k, e, f => by
    simp only [kOf, Option.map_eq_some_iff] at e
    obtain ⟨js, e, rfl⟩ := e
    cases b <;> first | (cases f; done) | skip
    · cases f; rfl
    · cases f; rfl
    · simp only [kOf, Option.map_eq_some_iff] at f
      obtain ⟨ks, f, rfl⟩ := f
      simp only [PyData.eqv, NestedKey.beq]
      exact kOfs_eqv xs _ js ks e f
  | .bool _, b, j, k, e, f => by cases e
  | .str _, b, j, k, e, f => by cases e
  | .list _, b, j, k, e, f => by cases e
  | .dict _, b, j, k, e, f => by cases e
theorem kOfs_eqv : ∀ (a b : List D) (j k : List NestedKey), kOfs a = some j → kOfs b = some k → PyData.eqvAll a b = NestedKey.beqAll j k
  | [], b, j, k, e, f => by
    cases e
    cases b with
    | nil => cases f; rfl
    | cons y ys =>
      simp only [kOfs, Option.bind_eq_some_iff, Option.map_eq_some_iff] at f
      obtain ⟨_, _, _, _, rfl⟩ := f
      rfl
  | x :: xs, b, j, k, e, f => by
    simp only [kOfs, Option.bind_eq_some_iff, Option.map_eq_some_iff] at e
    obtain ⟨j1, e1, j2, e2, rfl⟩ := e
    cases b with
    | nil => cases f; rfl
    | cons y ys =>
      simp only [kOfs, Option.bind_eq_some_iff, Option.map_eq_some_iff] at f
      obtain ⟨k1, f1, k2, f2, rfl⟩ := f
      simp only [PyData.eqvAll, NestedKey.beqAll]
      rw [kOf_eqv x y j1 k1 e1 f1, kOfs_eqv xs ys j2 k2 e2 f2]
end
theorem eqv_dec {a b : D} {j k : NestedKey} (e : kOf a = some j) (f : kOf b = some k) : PyData.eqv a b = decide (j = k) := by
  rw [kOf_eqv a b j k e f, NestedKey.decide_eq]
theorem kInt_inv {d : D} (h : kInt d = true) : ∃ i, d = .int i := by cases d <;> first | exact ⟨_, rfl⟩ | cases h
theorem kTup_inv {d : D} (h : kTup d = true) : ∃ xs ks, d = .tuple xs ∧ kOf d = some (.tup ks) ∧ NestedKey.depth (.tup ks) ≤ 8 := by
  cases d <;> first | (cases h; done) | skip
  rename_i xs
  simp only [kTup] at h
  cases q : kOfs xs with
  | none => rw [q] at h; cases h
  | some ks =>
    rw [q] at h
    exact ⟨xs, ks, rfl, by simp only [kOf, q, Option.map_some], of_decide_eq_true h⟩
theorem keyFit_kOf {kvs : List (D × D)} {k : D} (h : keyFit kvs k = true) : ∃ n, kOf k = some n := by
  simp only [keyFit, Bool.or_eq_true, Bool.and_eq_true] at h
  rcases h with h | h
  · obtain ⟨i, rfl⟩ := kInt_inv h.1
    exact ⟨_, rfl⟩
  · obtain ⟨_, ks, _, e, _⟩ := kTup_inv h.1
    exact ⟨_, e⟩

section
variable {X : Cx} {pins : List (Addr × Obj)} {σ : L2.St} {H : Hp} {s : Shared} {Mu : Addr → Prop}
mutual
theorem rep_nested (I : Inv X pins σ H s) : ∀ {v : V} {d : D}, Rep X.K Mu H v d → ∀ (u : Value) (k : NestedKey), RelV v u → kOf d = some k → NestedIs s.heap k u
  | _, _, .non, u, k, r, e => by cases r; cases e; exact .none
  | _, _, .bl b, u, k, r, e => by cases e
  | _, _, .int i, u, k, r, e => by
    obtain ⟨t, rfl⟩ := r
    cases e
    exact .int i t
  | _, _, .str x, u, k, r, e => by cases e
  | _, _, .lst _ _ _, u, k, r, e => by cases e
  | _, _, .tup hs ha, u, k, r, e => by
    have ih := repL_nested I ha
    simp only [kOf, Option.map_eq_some_iff] at e
    obtain ⟨ks, e, rfl⟩ := e
    cases r
    obtain ⟨its, rv, ⟨o, ho, hc, n, hd⟩, _⟩ := I.tuple hs.sq
    exact .tup ho hc hd (ih _ ks rv e)
  | _, _, .dk _ _ _ _, u, k, r, e => by cases e
theorem repL_nested (I : Inv X pins σ H s) : ∀ {vs : List V} {ds : List D}, RepL X.K Mu H vs ds → ∀ (us : List Value) (ks : List NestedKey), Vals vs us → kOfs ds = some ks → NestedAll s.heap ks us
  | _, _, .nil, us, ks, r, e => by cases r; cases e; exact .nil
  | _, _, .cons h1 h2, us, ks, r, e => by
    have i1 := rep_nested I h1
    have i2 := repL_nested I h2
    simp only [kOfs, Option.bind_eq_some_iff, Option.map_eq_some_iff] at e
    obtain ⟨k1, e1, k2, e2, rfl⟩ := e
    cases r with
    | cons r1 r2 => exact .cons (i1 _ _ r1 e1) (i2 _ _ r2 e2)
end
/-- the keys are ints -/
inductive PI_ (K : PySem.W.Frag) (Mu : Addr → Prop) (H : Hp) : List (Key × Value) → List (D × D) → Prop
  | nil : PI_ K Mu H [] []
  | cons {i : Int} {u : Value} {v : V} {d : D} {ps : List (Key × Value)} {kvs : List (D × D)} : Rep K Mu H v d → RelV v u → PI_ K Mu H ps kvs → PI_ K Mu H ((.inl i, u) :: ps) ((.int i, d) :: kvs)
/-- the keys are tuples -/
inductive PT_ (K : PySem.W.Frag) (Mu : Addr → Prop) (H : Hp) : List (NestedKey × Addr × Value) → List (D × D) → Prop
  | nil : PT_ K Mu H [] []
  | cons {k : NestedKey} {b : Addr} {u : Value} {v : V} {kd d : D} {xs : List (NestedKey × Addr × Value)} {kvs : List (D × D)} : Rep K Mu H (.ref b) kd → kTup kd = true → kOf kd = some k → Rep K Mu H v d → RelV v u → PT_ K Mu H xs kvs → PT_ K Mu H ((k, b, u) :: xs) ((kd, d) :: kvs)
theorem PI_.length {K : PySem.W.Frag} {Mu : Addr → Prop} {H : Hp} : ∀ {ps : List (Key × Value)} {kvs : List (D × D)}, PI_ K Mu H ps kvs → ps.length = kvs.length
  | _, _, .nil => rfl
  | _, _, .cons _ _ r => by rw [List.length_cons, List.length_cons, r.length]
theorem PT_.length {K : PySem.W.Frag} {Mu : Addr → Prop} {H : Hp} : ∀ {ps : List (NestedKey × Addr × Value)} {kvs : List (D × D)}, PT_ K Mu H ps kvs → ps.length = kvs.length
  | _, _, .nil => rfl
  | _, _, .cons _ _ _ _ _ r => by rw [List.length_cons, List.length_cons, r.length]
theorem RepP.length {K : PySem.W.Frag} {Mu : Addr → Prop} {H : Hp} : ∀ {es : List DictEntry} {kvs : List (D × D)}, RepP K Mu H es kvs → es.length = kvs.length
  | _, _, .nil => rfl
  | _, _, .cons _ _ _ _ _ _ r => by rw [List.length_cons, List.length_cons, r.length]
theorem pi_of : ∀ {es : List DictEntry} {kvs : List (D × D)}, RepP X.K Mu H es kvs → (kvs.all fun p => kInt p.1) = true → kvsNd kvs → ∃ ps, PI_ X.K Mu H ps kvs ∧ PySem.Pairs (mixKind X.prog X.w) es ps ∧ (∀ e ∈ es, ∃ k, (mixKind X.prog X.w).is k e.key = true ∧ e.hash = (mixKind X.prog X.w).hash k) ∧ (ps.map (·.1)).Nodup ∧ ∀ p ∈ ps, ∃ q ∈ kvs, ∃ i, p.1 = .inl i ∧ q.1 = .int i
  | _, _, .nil, _, _ => ⟨[], .nil, .nil, by simp, List.nodup_nil, by simp⟩
  | _, _, .cons (e := e) h1 h2 h3 h4 h5 h6 r, ha, hn => by
    simp only [List.all_cons, Bool.and_eq_true] at ha
    obtain ⟨i, rfl⟩ := kInt_inv ha.1
    obtain ⟨ps, q1, q2, q3, q4, q5⟩ := pi_of r ha.2 hn.2
    obtain rfl := h1.int_inv
    obtain ⟨t, ek⟩ := (show ∃ t, e.key = Value.int i t from h2)
    cases h3
    have his : (mixKind X.prog X.w).is (.inl i) e.key = true := by rw [ek]; exact mixKind_int _ _ i t
    refine ⟨(.inl i, e.val) :: ps, .cons h5 h6 q1, .cons his rfl q2, fun e' he => ?_, ?_, fun p hp => ?_⟩
    · rcases List.mem_cons.mp he with rfl | he
      · exact ⟨.inl i, his, h4 X.w⟩
      · exact q3 e' he
    · rw [List.map_cons, List.nodup_cons]
      refine ⟨fun z => ?_, q4⟩
      obtain ⟨p, hp, ep⟩ := List.mem_map.mp z
      obtain ⟨q, hq, j, e1, e2⟩ := q5 p hp
      rw [e1] at ep
      cases ep
      have := hn.1 q hq
      rw [e2, eqv_dec rfl rfl] at this
      simp at this
    · rcases List.mem_cons.mp hp with rfl | hp
      · exact ⟨_, List.mem_cons_self, i, rfl, rfl⟩
      · obtain ⟨q, hq, j⟩ := q5 p hp
        exact ⟨q, List.mem_cons_of_mem _ hq, j⟩
theorem pt_of : ∀ {es : List DictEntry} {kvs : List (D × D)}, RepP X.K Mu H es kvs → (kvs.all fun p => kTup p.1) = true → kvsNd kvs → ∃ xs, PT_ X.K Mu H xs kvs ∧ es = xs.map (entryOfKey (nestedKind X.prog X.w)) ∧ (xs.map (·.1)).Nodup ∧ ∀ p ∈ xs, ∃ q ∈ kvs, kOf q.1 = some p.1
  | _, _, .nil, _, _ => ⟨[], .nil, rfl, List.nodup_nil, by simp⟩
  | _, _, .cons (e := e) (kv := kv) (k := k) h1 h2 h3 h4 h5 h6 r, ha, hn => by
    simp only [List.all_cons, Bool.and_eq_true] at ha
    obtain ⟨xs, q1, q2, q3, q4⟩ := pt_of r ha.2 hn.2
    obtain ⟨ys, ks, rfl, _, _⟩ := kTup_inv ha.1
    obtain ⟨b, rfl⟩ : ∃ b, kv = V.ref b := by
      cases h1 with
      | tup => exact ⟨_, rfl⟩
    have ek : e.key = .ref b := h2
    refine ⟨(k, b, e.val) :: xs, .cons h1 ha.1 h3 h5 h6 q1, ?_, ?_, fun p hp => ?_⟩
    · rw [List.map_cons, ← q2]
      congr 1
      show e = ⟨k.hash X.w, .ref b, e.val⟩
      rw [← h4 X.w, ← ek]
    · rw [List.map_cons, List.nodup_cons]
      refine ⟨fun z => ?_, q3⟩
      obtain ⟨p, hp, ep⟩ := List.mem_map.mp z
      obtain ⟨q, hq, eq⟩ := q4 p hp
      have := hn.1 q hq
      rw [eqv_dec h3 eq, ep] at this
      simp at this
    · rcases List.mem_cons.mp hp with rfl | hp
      · exact ⟨_, List.mem_cons_self, h3⟩
      · obtain ⟨q, hq, e⟩ := q4 p hp
        exact ⟨q, List.mem_cons_of_mem _ hq, e⟩
/-- a dict of int keys, as the library tells it -/
theorem dic_int (I : Inv X pins σ H s) {a : Addr} {o : Obj} {es : List DictEntry} {kvs : List (D × D)} (h : H a = some (DicO a o)) (k : DicOk a o es kvs) (r : RepP X.K Mu H es kvs) (hi : (kvs.all fun p => kInt p.1) = true) : ∃ ps, PI_ X.K Mu H ps kvs ∧ s.heap.DictOf (mixKind X.prog X.w) a ps ∧ ps.length = kvs.length := by
  obtain ⟨ps, q1, q2, q3, q4, _⟩ := pi_of r hi k.nd
  obtain ⟨arr, ep, hd, he⟩ := k.dat
  obtain ⟨ho, _, _⟩ := I.hok a _ h
  refine ⟨ps, q1, ⟨o, arr, ep, ho, k.ex, hd, fun e he2 => q3 e (by rw [← he]; exact Array.mem_toList_iff.mpr he2), by rw [he]; exact q2, q4⟩, ?_⟩
  exact q1.length
theorem pt_is (I : Inv X pins σ H s) : ∀ {xs : List (NestedKey × Addr × Value)} {kvs : List (D × D)}, PT_ X.K Mu H xs kvs → ∀ x ∈ xs, (nestedKind X.prog X.w).is s.heap x.1 x.2.1
  | _, _, .nil, x, h => by cases h
  | _, _, .cons h1 h2 h3 h4 h5 r, x, h => by
    rcases List.mem_cons.mp h with rfl | h
    · obtain ⟨_, ks, _, e, hd⟩ := kTup_inv h2
      rw [h3] at e
      cases e
      exact ⟨rep_nested I h1 _ _ rfl h3, hd⟩
    · exact pt_is I r x h
theorem dic_tup (I : Inv X pins σ H s) {a : Addr} {o : Obj} {es : List DictEntry} {kvs : List (D × D)} (h : H a = some (DicO a o)) (k : DicOk a o es kvs) (r : RepP X.K Mu H es kvs) (hi : (kvs.all fun p => kTup p.1) = true) : ∃ xs, PT_ X.K Mu H xs kvs ∧ s.heap.DictOfH (nestedKind X.prog X.w) a xs ∧ xs.length = kvs.length := by
  obtain ⟨xs, q1, q2, q3, _⟩ := pt_of (X := X) r hi k.nd
  obtain ⟨arr, ep, hd, he⟩ := k.dat
  obtain ⟨ho, _, _⟩ := I.hok a _ h
  refine ⟨xs, q1, ⟨o, arr, ep, ho, k.ex, hd, by rw [he]; exact q2, pt_is I q1, q3⟩, ?_⟩
  exact q1.length
theorem raw_of (I : Inv X pins σ H s) {a : Addr} {o : Obj} {es : List DictEntry} {kvs : List (D × D)} (h : H a = some (DicO a o)) (k : DicOk a o es kvs) : ∃ arr ep, s.heap.DictRaw a arr ep ∧ arr.toList = es := by
  obtain ⟨arr, ep, hd, he⟩ := k.dat
  obtain ⟨ho, _, _⟩ := I.hok a _ h
  exact ⟨arr, ep, ⟨o, ho, k.ex, hd⟩, he⟩
end

/-! ### what is there -/
section
variable {K : PySem.W.Frag} {Mu : Addr → Prop} {H : Hp}
/-- what is held, if any -/
def RO (K : PySem.W.Frag) (Mu : Addr → Prop) (H : Hp) : Option Value → Option D → Prop
  | none, none => True
  | some u, some d => ∃ v, Rep K Mu H v d ∧ RelV v u
  | _, _ => False
theorem RO.isSome {o : Option Value} {p : Option D} (h : RO K Mu H o p) : o.isSome = p.isSome := by
  cases o <;> cases p <;> first | rfl | exact h.elim
theorem RO.some {o : Option Value} {d : D} (h : RO K Mu H o (.some d)) : ∃ u v, o = .some u ∧ Rep K Mu H v d ∧ RelV v u := by
  cases o with
  | none => exact h.elim
  | some u =>
    obtain ⟨v, h1, h2⟩ := h
    exact ⟨u, v, rfl, h1, h2⟩
theorem PI_.at {ps : List (Key × Value)} {kvs : List (D × D)} (h : PI_ K Mu H ps kvs) (i : Int) : RO K Mu H (valueAt ps (.inl i)) (dAt kvs (.int i)) := by
  induction h with
  | nil => trivial
  | @cons j u v d ps kvs h1 h2 r ih =>
    by_cases e : j = i
    · subst e
      have e1 : valueAt ((Sum.inl j, u) :: ps) (Sum.inl j : Key) = some u := by simp [valueAt, List.find?_cons]
      have e2 : dAt ((PyData.int j, d) :: kvs) (.int j) = some d := by simp [dAt, List.find?_cons, eqv_dec (a := .int j) (b := .int j) rfl rfl]
      rw [e1, e2]
      exact ⟨v, h1, h2⟩
    · have ne : ¬ (Sum.inl j : Key) = Sum.inl i := fun z => e (Sum.inl.inj z)
      have e1 : valueAt ((Sum.inl j, u) :: ps) (Sum.inl i : Key) = valueAt ps (Sum.inl i) := by simp [valueAt, List.find?_cons, e]
      have e2 : dAt ((PyData.int j, d) :: kvs) (.int i) = dAt kvs (.int i) := by
        have : PyData.eqv (.int j) (.int i) = false := by
          rw [eqv_dec (a := .int j) (b := .int i) rfl rfl]
          exact decide_eq_false fun z => e (by injection z)
        simp [dAt, List.find?_cons, this]
      rw [e1, e2]
      exact ih
theorem PT_.at {xs : List (NestedKey × Addr × Value)} {kvs : List (D × D)} (h : PT_ K Mu H xs kvs) {kd : D} {k : NestedKey} (hk : kOf kd = some k) : RO K Mu H ((atKey xs k).map (·.2)) (dAt kvs kd) := by
  induction h with
  | nil => trivial
  | @cons j b u v jd d xs kvs h1 h2 h3 h4 h5 r ih =>
    by_cases e : j = k
    · subst e
      have e1 : atKey ((j, b, u) :: xs) j = some (b, u) := by simp [atKey, List.find?_cons]
      have e2 : dAt ((jd, d) :: kvs) kd = some d := by simp [dAt, List.find?_cons, eqv_dec h3 hk]
      rw [e1, e2]
      exact ⟨v, h4, h5⟩
    · have e1 : atKey ((j, b, u) :: xs) k = atKey xs k := by simp [atKey, List.find?_cons, e]
      have e2 : dAt ((jd, d) :: kvs) kd = dAt kvs kd := by simp [dAt, List.find?_cons, eqv_dec h3 hk, e]
      rw [e1, e2]
      exact ih
end
end Ev
set_option Elab.async false
set_option linter.all false
set_option maxRecDepth 100000
set_option maxHeartbeats 1000000
/-! Dicts: asked, written. -/
namespace Ev
open PySem PySem.Spec PyProof.Rows L2

theorem dAt_none {kvs : List (D × D)} {k : D} (h : dAt kvs k = none) : ∀ p ∈ kvs, PyData.eqv p.1 k = false := by
  unfold dAt at h
  rw [Option.map_eq_none_iff, List.find?_eq_none] at h
  intro p hp
  simpa using h p hp
theorem dPut_keys {kvs : List (D × D)} {k d : D} (h : (dAt kvs k).isSome = true) : (dPut kvs k d).map (·.1) = kvs.map (·.1) := by
  unfold dPut
  rw [if_pos h, List.map_map]
  refine List.map_congr_left fun p _ => ?_
  simp only [Function.comp]
  split <;> rfl
theorem dPut_new {kvs : List (D × D)} {k d : D} (h : dAt kvs k = none) : dPut kvs k d = kvs ++ [(k, d)] := by
  unfold dPut
  rw [h]
  rfl
theorem dPut_len (kvs : List (D × D)) (k d : D) : (dPut kvs k d).length ≤ kvs.length + 1 := by
  unfold dPut
  split <;> simp
theorem all_keys (f : D → Bool) (kvs : List (D × D)) : (kvs.all fun p => f p.1) = (kvs.map (·.1)).all f := by rw [List.all_map]; rfl
theorem fit_put {kvs : List (D × D)} {k d : D} (h : keyFit kvs k = true) : kvsOk (dPut kvs k d) = true := by
  have key : ∀ f : D → Bool, f k = true → (kvs.all fun p => f p.1) = true → ((dPut kvs k d).all fun p => f p.1) = true := fun f hk ha => by
    cases q : dAt kvs k with
    | none => rw [dPut_new q, List.all_append, ha]; simp [hk]
    | some x => rw [all_keys, dPut_keys (by rw [q]; rfl), ← all_keys, ha]
  unfold keyFit at h
  unfold kvsOk
  simp only [Bool.or_eq_true, Bool.and_eq_true] at h ⊢
  exact h.imp (fun z => key kInt z.1 z.2) fun z => key kTup z.1 z.2
theorem nd_keys : ∀ {a b : List (D × D)}, a.map (·.1) = b.map (·.1) → kvsNd a → kvsNd b
  | [], [], _, _ => trivial
  | [], _ :: _, e, _ => by simp at e
  | _ :: _, [], e, _ => by simp at e
  | p :: a, q :: b, e, h => by
    simp only [List.map_cons, List.cons.injEq] at e
    refine ⟨fun r hr => ?_, nd_keys e.2 h.2⟩
    have : r.1 ∈ a.map (·.1) := by rw [e.2]; exact List.mem_map_of_mem hr
    obtain ⟨r', hr', e'⟩ := List.mem_map.mp this
    have := h.1 r' hr'
    rw [e', e.1] at this
    exact this
theorem nd_snoc {k d : D} : ∀ {a : List (D × D)}, kvsNd a → (∀ p ∈ a, PyData.eqv p.1 k = false) → kvsNd (a ++ [(k, d)])
  | [], _, _ => ⟨by simp, trivial⟩
  | p :: a, h, hk => by
    refine ⟨fun q hq => ?_, nd_snoc h.2 fun q hq => hk q (List.mem_cons_of_mem _ hq)⟩
    rcases List.mem_append.mp hq with hq | hq
    · exact h.1 q hq
    · rw [List.mem_singleton.mp hq]
      exact hk p List.mem_cons_self
theorem nd_put {kvs : List (D × D)} {k d : D} (h : kvsNd kvs) : kvsNd (dPut kvs k d) := by
  cases q : dAt kvs k with
  | none => rw [dPut_new q]; exact nd_snoc h (dAt_none q)
  | some x => exact nd_keys (dPut_keys (by rw [q]; rfl)).symm h

section
variable {K : PySem.W.Frag} {Mu : Addr → Prop} {H : Hp}
theorem PI_.snoc {i : Int} {u : Value} {v : V} {d : D} (h1 : Rep K Mu H v d) (h2 : RelV v u) : ∀ {ps : List (Key × Value)} {kvs : List (D × D)}, PI_ K Mu H ps kvs → PI_ K Mu H (ps ++ [(.inl i, u)]) (kvs ++ [(.int i, d)])
  | _, _, .nil => .cons h1 h2 .nil
  | _, _, .cons a b r => .cons a b (PI_.snoc h1 h2 r)
theorem PI_.repl {i : Int} {u : Value} {v : V} {d : D} (h1 : Rep K Mu H v d) (h2 : RelV v u) : ∀ {ps : List (Key × Value)} {kvs : List (D × D)}, PI_ K Mu H ps kvs → PI_ K Mu H (ps.map fun kv => if kv.1 = .inl i then (kv.1, u) else kv) (kvs.map fun p => if PyData.eqv p.1 (.int i) then (p.1, d) else p)
  | _, _, .nil => .nil
  | _, _, .cons (i := j) (d := d') a b r => by
    have ih := PI_.repl (i := i) h1 h2 r
    rw [List.map_cons, List.map_cons]
    by_cases e : j = i
    · subst e
      rw [if_pos rfl, if_pos (show PyData.eqv (.int j) (.int j) = true by rw [eqv_dec (a := .int j) (b := .int j) rfl rfl]; simp)]
      exact .cons h1 h2 ih
    · have ne : PyData.eqv (.int j) (.int i) = false := by
        rw [eqv_dec (a := .int j) (b := .int i) rfl rfl]
        exact decide_eq_false fun z => e (by injection z)
      rw [if_neg (show ¬ ((Sum.inl j : Key) = Sum.inl i) from fun z => e (Sum.inl.inj z)), if_neg (show ¬ (PyData.eqv (PyData.int j, d').1 (.int i) = true) by rw [show (PyData.int j, d').1 = PyData.int j from rfl, ne]; simp)]
      exact .cons a b ih
theorem valueAt_any {κ : Type} [DecidableEq κ] (ps : List (κ × Value)) (k : κ) : (ps.any fun kv => decide (kv.1 = k)) = (valueAt ps k).isSome := by
  unfold valueAt
  rw [Option.isSome_map, Bool.eq_iff_iff, List.find?_isSome, List.any_eq_true]
theorem PI_.put {ps : List (Key × Value)} {kvs : List (D × D)} (h : PI_ K Mu H ps kvs) (i : Int) {u : Value} {v : V} {d : D} (h1 : Rep K Mu H v d) (h2 : RelV v u) : PI_ K Mu H (stored ps (.inl i) u) (dPut kvs (.int i) d) := by
  have e := (h.at i).isSome
  unfold stored dPut
  rw [valueAt_any, e]
  split
  · exact h.repl h1 h2
  · exact h.snoc h1 h2
theorem PT_.snoc {k : NestedKey} {b : Addr} {kd : D} {u : Value} {v : V} {d : D} (h0 : Rep K Mu H (.ref b) kd) (h01 : kTup kd = true) (h02 : kOf kd = some k) (h1 : Rep K Mu H v d) (h2 : RelV v u) : ∀ {xs : List (NestedKey × Addr × Value)} {kvs : List (D × D)}, PT_ K Mu H xs kvs → PT_ K Mu H (xs ++ [(k, b, u)]) (kvs ++ [(kd, d)])
  | _, _, .nil => .cons h0 h01 h02 h1 h2 .nil
  | _, _, .cons a1 a2 a3 a4 a5 r => .cons a1 a2 a3 a4 a5 (PT_.snoc h0 h01 h02 h1 h2 r)
theorem PT_.repl {k : NestedKey} {kd : D} {u : Value} {v : V} {d : D} (h02 : kOf kd = some k) (h1 : Rep K Mu H v d) (h2 : RelV v u) : ∀ {xs : List (NestedKey × Addr × Value)} {kvs : List (D × D)}, PT_ K Mu H xs kvs → PT_ K Mu H (xs.map (putAt k u)) (kvs.map fun p => if PyData.eqv p.1 kd then (p.1, d) else p)
  | _, _, .nil => .nil
  | _, _, .cons (k := j) (b := b) (kd := jd) (d := d') a1 a2 a3 a4 a5 r => by
    have ih := PT_.repl h02 h1 h2 r
    rw [List.map_cons, List.map_cons]
    have ee : PyData.eqv jd kd = decide (j = k) := eqv_dec a3 h02
    by_cases e : j = k
    · subst e
      rw [if_pos (by rw [ee]; simp)]
      unfold putAt
      rw [if_pos rfl]
      exact .cons a1 a2 a3 h1 h2 ih
    · rw [if_neg (by rw [ee]; simp [e])]
      unfold putAt
      rw [if_neg e]
      exact .cons a1 a2 a3 a4 a5 ih
theorem PT_.put {xs : List (NestedKey × Addr × Value)} {kvs : List (D × D)} (h : PT_ K Mu H xs kvs) {k : NestedKey} {b : Addr} {kd : D} {u : Value} {v : V} {d : D} (h0 : Rep K Mu H (.ref b) kd) (h01 : kTup kd = true) (h02 : kOf kd = some k) (h1 : Rep K Mu H v d) (h2 : RelV v u) : PT_ K Mu H (storedH xs k b u) (dPut kvs kd d) := by
  have e := (h.at h02).isSome
  rw [Option.isSome_map] at e
  unfold storedH dPut
  rw [e]
  split
  · exact h.repl h02 h1 h2
  · exact h.snoc h0 h01 h02 h1 h2
end
section
variable {X : Cx} {pins : List (Addr × Obj)} {σ : L2.St} {H : Hp} {s : Shared} {Mu : Addr → Prop}
theorem repP_int : ∀ {es : List DictEntry} {ps : List (Key × Value)} {kvs : List (D × D)}, PySem.Pairs (mixKind X.prog X.w) es ps → PI_ X.K Mu H ps kvs → (∀ e ∈ es, ∃ k, (mixKind X.prog X.w).is k e.key = true ∧ e.hash = (mixKind X.prog X.w).hash k) → RepP X.K Mu H es kvs
  | _, _, _, .nil, .nil, _ => .nil
  | _, _, _, .cons (e := e) (kv := kv) h1 h2 r, q, hk => by
    cases q with
    | @cons i u v d ps kvs a b q =>
    rcases keyIs_shape (k := .inl i) (v := e.key) h1 with ⟨j, t, ej, ek⟩ | ⟨x, t, ej, ek⟩
    · cases ej
      obtain ⟨k, k1, k2⟩ := hk e List.mem_cons_self
      obtain rfl : k = .inl i := (mixKind X.prog X.w).inj e.key k (.inl i) k1 h1
      refine .cons (kv := .int i) (k := .num i) (.int i) ⟨t, ek⟩ rfl (fun w => k2) a ?_ (repP_int r q fun e' he => hk e' (List.mem_cons_of_mem _ he))
      rw [h2]
      exact b
    · cases ej
theorem repP_tup : ∀ {xs : List (NestedKey × Addr × Value)} {kvs : List (D × D)}, PT_ X.K Mu H xs kvs → RepP X.K Mu H (xs.map (entryOfKey (nestedKind X.prog X.w))) kvs
  | _, _, .nil => .nil
  | _, _, .cons h1 h2 h3 h4 h5 r => .cons h1 rfl h3 (fun w => kOf_hash _ _ h3 _ w) h4 h5 (repP_tup r)
theorem dicO_ok {P : Program} {w : World} {H' : Hp} {h' : Heap} {a : Addr} {o : Obj} (e : h'.get? a = some o) : ObjOk P w H' h' a (DicO a o) := ⟨e, ⟨o, e⟩, fun h1 h2 z k => k o z⟩
/-- behind a write -/
theorem put_int (I : Inv X pins σ H s) {a : Addr} {o : Obj} {es : List DictEntry} {kvs : List (D × D)} {ps : List (Key × Value)} {i : Int} {u : Value} {v : V} {d : D} (h : H a = some (DicO a o)) (k : DicOk a o es kvs) (p : PI_ X.K Mu H ps kvs) (fit : keyFit kvs (.int i) = true) (hl : kvs.length < sizeLine) (rv : Rep X.K Mu H v d) (ru : RelV v u)
    {h' : Heap} {t' : Nat} (dd : h'.DictOf (mixKind X.prog X.w) a (stored ps (.inl i) u)) (hs : Heap.SameBut a s.heap h') : ∃ o' es', Inv X pins σ (upd H a (DicO a o')) { s with heap := h', toks := t' } ∧ DicOk a o' es' (dPut kvs (.int i) d) ∧ RepP X.K Mu H es' (dPut kvs (.int i) d) := by
  obtain ⟨o', arr, ep, ho, hx, hd, hk, hp, hn⟩ := dd
  have := dPut_len kvs (.int i) d
  exact ⟨o', arr.toList, d_write I (by rw [h]; exact trivial) hs ⟨o', ho⟩ (dicO_ok ho), ⟨hx, ⟨arr, ep, hd, rfl⟩, k.sys, fit_put fit, nd_put k.nd, by omega⟩, repP_int hp (p.put i rv ru) fun e he => hk e (Array.mem_toList_iff.mp he)⟩
theorem put_tup (I : Inv X pins σ H s) {a b : Addr} {o : Obj} {es : List DictEntry} {kvs : List (D × D)} {xs : List (NestedKey × Addr × Value)} {n : NestedKey} {kd : D} {u : Value} {v : V} {d : D} (h : H a = some (DicO a o)) (k : DicOk a o es kvs) (p : PT_ X.K Mu H xs kvs) (fit : keyFit kvs kd = true) (hl : kvs.length < sizeLine) (rb : Rep X.K Mu H (.ref b) kd) (ht : kTup kd = true) (hn : kOf kd = some n) (rv : Rep X.K Mu H v d) (ru : RelV v u)
    {h' : Heap} {t' : Nat} (dd : h'.DictOfH (nestedKind X.prog X.w) a (storedH xs n b u)) (hs : Heap.SameBut a s.heap h') : ∃ o' es', Inv X pins σ (upd H a (DicO a o')) { s with heap := h', toks := t' } ∧ DicOk a o' es' (dPut kvs kd d) ∧ RepP X.K Mu H es' (dPut kvs kd d) := by
  obtain ⟨o', arr, ep, ho, hx, hd, he, _, _⟩ := dd
  have := dPut_len kvs kd d
  exact ⟨o', arr.toList, d_write I (by rw [h]; exact trivial) hs ⟨o', ho⟩ (dicO_ok ho), ⟨hx, ⟨arr, ep, hd, rfl⟩, k.sys, fit_put fit, nd_put k.nd, by omega⟩, by rw [he]; exact repP_tup (p.put rb ht hn rv ru)⟩
/-- the ways of a key -/
theorem fit_cases {kvs : List (D × D)} {kd : D} {kv : V} (fit : keyFit kvs kd = true) (r : Rep X.K Mu H kv kd) : (∃ i, kd = .int i ∧ kv = .int i ∧ (kvs.all fun p => kInt p.1) = true) ∨ (∃ b n, kv = .ref b ∧ kTup kd = true ∧ kOf kd = some n ∧ (kvs.all fun p => kTup p.1) = true) := by
  simp only [keyFit, Bool.or_eq_true, Bool.and_eq_true] at fit
  rcases fit with ⟨h1, h2⟩ | ⟨h1, h2⟩
  · obtain ⟨i, rfl⟩ := kInt_inv h1
    exact .inl ⟨i, rfl, r.int_inv, h2⟩
  · obtain ⟨xs, ks, rfl, e, _⟩ := kTup_inv h1
    cases r with
    | tup => exact .inr ⟨_, _, rfl, h1, e, h2⟩
theorem key_is (I : Inv X pins σ H s) {b : Addr} {kd : D} {n : NestedKey} (r : Rep X.K Mu H (.ref b) kd) (ht : kTup kd = true) (hn : kOf kd = some n) : (nestedKind X.prog X.w).is s.heap n b := by
  obtain ⟨_, ks, _, e, hd⟩ := kTup_inv ht
  rw [hn] at e
  cases e
  exact ⟨rep_nested I r _ _ rfl hn, hd⟩
section
variable {A : Around} {E : Value → Shared → Prop} {a : Addr} {o : Obj} {es : List DictEntry} {kvs : List (D × D)} {kv v : V} {kd d : D} {u w' : Value}
variable (I : Inv X pins σ H s) (hu : A.units + 9 < cLine) (h : H a = some (DicO a o)) (k : DicOk a o es kvs) (r : RepP X.K Mu H es kvs) (rk : Rep X.K Mu H kv kd) (ru : RelV kv u) (fit : keyFit kvs kd = true)
include I hu h k r rk ru fit
theorem dk_in {Q : Value → Shared → Prop} (hQ : ∀ s', Inv X pins σ H s' → Q (.bool (dAt kvs kd).isSome) s') : wpAny (model X.prog X.w) A (compareOp .In u (.ref a)) Q E s := by
  rcases fit_cases fit rk with ⟨i, rfl, rfl, hi⟩ | ⟨b, n, rfl, ht, hn, hi⟩
  · obtain ⟨ps, p, dd, _⟩ := dic_int I h k r hi
    obtain ⟨t, rfl⟩ := ru
    refine wpAny_in_of (k := .inl i) (mixKind_int _ _ i t) k.sys dd.mapOf ?_
    rw [(p.at i).isSome]
    exact hQ _ (I.tok _)
  · obtain ⟨xs, p, dd, _⟩ := dic_tup I h k r hi
    cases ru
    refine wpAny_in_heap (show (nestedKind X.prog X.w).room A.in1 by show A.units + 1 + 8 < cLine; omega) (key_is I rk ht hn) k.sys dd ?_
    have := (p.at hn).isSome
    rw [Option.isSome_map] at this
    rw [this]
    exact hQ _ (I.tok _)
theorem dk_notIn {Q : Value → Shared → Prop} (hQ : ∀ s', Inv X pins σ H s' → Q (.bool (!(dAt kvs kd).isSome)) s') : wpAny (model X.prog X.w) A (compareOp .NotIn u (.ref a)) Q E s := by
  rcases fit_cases fit rk with ⟨i, rfl, rfl, hi⟩ | ⟨b, n, rfl, ht, hn, hi⟩
  · obtain ⟨ps, p, dd, _⟩ := dic_int I h k r hi
    obtain ⟨t, rfl⟩ := ru
    refine wpAny_notIn_of (k := .inl i) (mixKind_int _ _ i t) k.sys dd.mapOf ?_
    rw [(p.at i).isSome]
    exact hQ _ (I.tok _)
  · obtain ⟨xs, p, dd, _⟩ := dic_tup I h k r hi
    cases ru
    refine wpAny_notIn_heap (show (nestedKind X.prog X.w).room A.in1 by show A.units + 1 + 8 < cLine; omega) (key_is I rk ht hn) k.sys dd ?_
    have := (p.at hn).isSome
    rw [Option.isSome_map] at this
    rw [this]
    exact hQ _ (I.tok _)
theorem dk_getItem {Q : Value → Shared → Prop} (e : dAt kvs kd = some d) (hQ : ∀ v w' s', Inv X pins σ H s' → Rep X.K Mu H v d → RelV v w' → Q w' s') : wpAny (model X.prog X.w) A (getItem (.ref a) u) Q E s := by
  rcases fit_cases fit rk with ⟨i, rfl, rfl, hi⟩ | ⟨b, n, rfl, ht, hn, hi⟩
  · obtain ⟨ps, p, dd, _⟩ := dic_int I h k r hi
    obtain ⟨t, rfl⟩ := ru
    have z := p.at i
    rw [e] at z
    obtain ⟨w1, v, e1, r1, r2⟩ := z.some
    exact wpAny_getItem_of (k := .inl i) (mixKind_int _ _ i t) dd.mapOf e1 (hQ v w1 _ (I.tok _) r1 r2)
  · obtain ⟨xs, p, dd, _⟩ := dic_tup I h k r hi
    cases ru
    have z := p.at hn
    rw [e] at z
    obtain ⟨w1, v, e1, r1, r2⟩ := z.some
    obtain ⟨q, hq, e2⟩ := Option.map_eq_some_iff.mp e1
    refine wpAny_getItem_heap (show (nestedKind X.prog X.w).room A.in1 by show A.units + 1 + 8 < cLine; omega) (key_is I rk ht hn) dd hq ?_
    rw [e2]
    exact hQ v w1 _ (I.tok _) r1 r2
theorem dk_get {Q : Value → Shared → Prop} (rd : Rep X.K Mu H v d) (rw' : RelV v w') (hQ : ∀ v w' s', Inv X pins σ H s' → Rep X.K Mu H v ((dAt kvs kd).getD d) → RelV v w' → Q w' s') : wpAny (model X.prog X.w) A (call (.builtin "dict.get") [.ref a, u, w']) Q E s := by
  rcases fit_cases fit rk with ⟨i, rfl, rfl, hi⟩ | ⟨b, n, rfl, ht, hn, hi⟩
  · obtain ⟨ps, p, dd, _⟩ := dic_int I h k r hi
    obtain ⟨t, rfl⟩ := ru
    have z := p.at i
    refine call_meetsIn PySem.F.slot_dict_get dd.typeIs PySem.F.entry_dict_get (PySem.F.args_dict_get_3 _ _ _) (meets_dict_get_default (mixKind X.prog X.w) a (mixKind_int X.prog X.w i t) k.sys w') ⟨_, dd.mapOf, ?_⟩
    cases q1 : valueAt ps (.inl i) with
    | none =>
      cases q2 : dAt kvs (.int i) with
      | none => exact hQ v w' _ (I.tok _) (by rw [q2]; exact rd) rw'
      | some x => rw [q1, q2] at z; exact z.elim
    | some y =>
      cases q2 : dAt kvs (.int i) with
      | none => rw [q1, q2] at z; exact z.elim
      | some x =>
        rw [q1, q2] at z
        obtain ⟨v2, z1, z2⟩ := z
        exact hQ v2 y _ (I.tok _) (by rw [q2]; exact z1) z2
  · obtain ⟨xs, p, dd, _⟩ := dic_tup I h k r hi
    cases ru
    have z := p.at hn
    refine call_meetsIn PySem.F.slot_dict_get dd.typeIs PySem.F.entry_dict_get (PySem.F.args_dict_get_3 _ _ _) (meetsH_dict_get_default (nestedKind X.prog X.w) a b k.sys w') ⟨show (nestedKind X.prog X.w).room A.in1 by show A.units + 1 + 8 < cLine; omega, n, xs, key_is I rk ht hn, dd, ?_⟩
    cases q1 : (atKey xs n).map (·.2) with
    | none =>
      cases q2 : dAt kvs kd with
      | none => exact hQ v w' _ (I.tok _) (by rw [q2]; exact rd) rw'
      | some x => rw [q1, q2] at z; exact z.elim
    | some y =>
      cases q2 : dAt kvs kd with
      | none => rw [q1, q2] at z; exact z.elim
      | some x =>
        rw [q1, q2] at z
        obtain ⟨v2, z1, z2⟩ := z
        exact hQ v2 y _ (I.tok _) (by rw [q2]; exact z1) z2
theorem dk_setItem {Q : Unit → Shared → Prop} (hl : kvs.length < sizeLine) (rd : Rep X.K Mu H v d) (rw' : RelV v w') (hQ : ∀ o' es' s', Inv X pins σ (upd H a (DicO a o')) s' → DicOk a o' es' (dPut kvs kd d) → RepP X.K Mu H es' (dPut kvs kd d) → Q () s') : wpAny (model X.prog X.w) A (setItem (.ref a) u w') Q E s := by
  rcases fit_cases fit rk with ⟨i, rfl, rfl, hi⟩ | ⟨b, n, rfl, ht, hn, hi⟩
  · obtain ⟨ps, p, dd, hz⟩ := dic_int I h k r hi
    obtain ⟨t, rfl⟩ := ru
    refine wpAny_setItem_pairs (hsz := by omega) (k := .inl i) (mixKind_int _ _ i t) dd fun h' dd' hs => ?_
    obtain ⟨o', es', I', k', r'⟩ := put_int (t' := s.toks + 1) I h k p fit hl rd rw' dd' hs
    exact hQ o' es' _ I' k' r'
  · obtain ⟨xs, p, dd, hz⟩ := dic_tup I h k r hi
    cases ru
    refine wpAny_setItem_heap (hsz := by omega) (show (nestedKind X.prog X.w).room A.in1 by show A.units + 1 + 8 < cLine; omega) (key_is I rk ht hn) dd fun h' dd' hs => ?_
    obtain ⟨o', es', I', k', r'⟩ := put_tup (t' := s.toks + (nestedKind X.prog X.w).draws n) I h k p fit hl rk ht hn rd rw' dd' hs
    exact hQ o' es' _ I' k' r'
theorem dk_dictSet {Q : Unit → Shared → Prop} (hl : kvs.length < sizeLine) (rd : Rep X.K Mu H v d) (rw' : RelV v w') (hQ : ∀ o' es' s', Inv X pins σ (upd H a (DicO a o')) s' → DicOk a o' es' (dPut kvs kd d) → RepP X.K Mu H es' (dPut kvs kd d) → Q () s') : wpAny (model X.prog X.w) A (dictSet a u w') Q E s := by
  rcases fit_cases fit rk with ⟨i, rfl, rfl, hi⟩ | ⟨b, n, rfl, ht, hn, hi⟩
  · obtain ⟨ps, p, dd, hz⟩ := dic_int I h k r hi
    obtain ⟨t, rfl⟩ := ru
    refine wpAny_dictSet_pairs (hsz := by omega) (k := .inl i) (mixKind_int _ _ i t) dd fun h' dd' hs => ?_
    obtain ⟨o', es', I', k', r'⟩ := put_int (t' := s.toks + 1) I h k p fit hl rd rw' dd' hs
    exact hQ o' es' _ I' k' r'
  · obtain ⟨xs, p, dd, hz⟩ := dic_tup I h k r hi
    cases ru
    refine wpAny_dictSet_heap (hsz := by omega) (show (nestedKind X.prog X.w).room A by show A.units + 8 < cLine; omega) (key_is I rk ht hn) dd fun h' dd' hs => ?_
    obtain ⟨o', es', I', k', r'⟩ := put_tup (t' := s.toks + (nestedKind X.prog X.w).draws n) I h k p fit hl rk ht hn rd rw' dd' hs
    exact hQ o' es' _ I' k' r'
end
end
end Ev
set_option Elab.async false
set_option linter.all false
set_option maxRecDepth 100000
set_option maxHeartbeats 1000000
/-! Operators over pure values. -/
namespace Ev
open PySem PySem.Spec PyProof.Rows L2

section
variable {X : Cx} {pins : List (Addr × Obj)} {σ : L2.St} {H : Hp} {s : Shared}
theorem rd_list (I : Inv X pins σ H s) {a : Addr} {xs : List V} (h : Rd H a (.lst xs)) : xs.length ≤ sizeLine ∧ ∃ (its : List Value) (n : Nat), Vals xs its ∧ s.heap.get? a = some { cls := .type "list", data := .seq its.toArray n } := h.ok I.hok
/-- list + list -/
def rCatR : R2 := fun x y H Q => ∃ l b xs zs, x = .ref l ∧ y = .ref b ∧ Rd H l (.lst xs) ∧ Rd H b (.lst zs) ∧ xs.length + zs.length ≤ sizeLine ∧ ∀ p, H p = none → Q (.ref p) (upd H p (.lst (xs ++ zs)))
theorem op_catR : OpR X (binaryOp .Add) rCatR := by
  intro pins s σ H x y v u Q I rx ry h
  obtain ⟨l, b, xs, zs, rfl, rfl, hH, hB, hz, q⟩ := h
  cases rx
  cases ry
  obtain ⟨z, its, n, r, e⟩ := rd_list I hH
  obtain ⟨z2, its2, n2, r2, e2⟩ := rd_list I hB
  have hl := r.length
  have hl2 := r2.length
  refine PySem.P.add_list e e2 ?_ (by rw [List.size_toArray, List.size_toArray]; omega)
  have ea : its.toArray ++ its2.toArray = (its ++ its2).toArray := by simp
  rw [ea]
  exact ⟨.ref _, _, I.lnew (t' := s.toks) (r.append r2) (by rw [List.length_append]; omega), rfl, q _ I.fresh⟩
/-- list * int -/
def rRepR : R2 := fun x y H Q => ∃ l k xs, x = .ref l ∧ y = .int k ∧ Rd H l (.lst xs) ∧ -(2 ^ 63) ≤ k ∧ k < 2 ^ 63 ∧ xs.length * k.toNat ≤ sizeLine ∧
  ∀ p, H p = none → Q (.ref p) (upd H p (.lst (List.replicate k.toNat xs).flatten))
theorem op_repR : OpR X (binaryOp .Mult) rRepR := by
  intro pins s σ H x y v u Q I rx ry h
  obtain ⟨l, k, xs, rfl, rfl, hH, h1, h2, hz, q⟩ := h
  cases rx
  obtain ⟨t, rfl⟩ := ry
  obtain ⟨z, its, n, r, e⟩ := rd_list I hH
  have hl := r.length
  have hlen : its.toArray.size * k.toNat ≤ sizeLine := by rw [List.size_toArray, ← hl]; exact hz
  have hcap : ¬ its.toArray.size * k.toNat > (2 ^ 63 - 1) / 8 := by
    have : (sizeLine : Nat) ≤ (2 ^ 63 - 1) / 8 := by decide
    omega
  have hfit : ¬ (!Builtin.List.listFitsIndex k) = true := by
    rw [fitsIndex_both h1 h2]
    exact Bool.false_ne_true
  have hlong : ¬ Builtin.List.listTooLong (its.toArray.size * k.toNat) = true := by
    rw [notLongL hlen]
    exact Bool.false_ne_true
  have hnew : List.foldl (fun x1 x2 => x1 ++ x2) #[] (List.replicate (if its.toArray.isEmpty = true then 0 else k.toNat) its.toArray) = (List.replicate k.toNat its).flatten.toArray := by
    have f0 : ∀ m : Nat, List.foldl (fun x1 x2 => x1 ++ x2) #[] (List.replicate m its.toArray) = (List.replicate m its).flatten.toArray := fun m => by
      have := foldl_rep its m []
      rw [List.nil_append] at this
      exact this
    rw [f0]
    cases its with
    | nil => simp
    | cons a r' => rw [if_neg (by simp)]
  refine wpAny_binaryOp_repeat_ref (T := "list") (U := "int") (by decide) ⟨_, e, rfl⟩ (fun s' => typeIs_int s' k t) noFill_list_mul F.fills_int_mul F.slot_int_rmul repeat_list F.slot_int_index.lookup
    (call_meets F.slot_int_rmul (typeIs_int s k t) F.entry_int_rmul (F.args_int_rmul_2 _ _) (int___rmul___int_list k t l its.toArray n)
      ⟨e, rfl, ⟨_, e, rfl⟩, call_meets F.slot_list_mul ⟨_, e, rfl⟩ F.entry_list_mul (F.args_list_mul_2 _ _) (AutoListH.list___mul___list_int_3 l its.toArray n k t hfit hcap hlong) ⟨e, ?_⟩⟩)
  rw [hnew]
  exact ⟨.ref _, _, I.lnew (t' := s.toks) (r.rep k.toNat) (by rw [PyProof.Rows.lm_len_rep_flat, Nat.mul_comm]; exact hz), rfl, q _ I.fresh⟩
theorem tuple_mul1 (l : Addr) (items : Array Value) (n : Nat) (dd : Option Addr) (sl : Array (Option Value)) (u : Tok) :
    Meets (Builtin.«tuple.__mul__» ⟨[.ref l, .int 1 u], []⟩) (fun _ R s => s.heap.get? l = some { cls := .type "tuple", dict := dd, data := .seq items n, slots := sl } ∧ R (.ok (.ret (Value.ref l))) s) :=
  .of_wp fun prog w A R s h => by
    obtain ⟨hp, g, d, tk, os⟩ := s
    obtain ⟨hl, h⟩ := h
    have f1 := AutoSeq1.idx_int
    wp_walk using wpAny_loadPart' hl
    repeat (first
      | (refine wpAny_ite_false (decide_eq_false (by decide)) ?_; wp_walk using wpAny_loadPart' hl)
      | (refine wpAny_ite_true (decide_eq_true (by simp)) ?_; wp_walk using wpAny_loadPart' hl))
    exact ⟨_, rfl, h⟩
def rRepT1 (K : PySem.W.Frag) : R2 := fun x y H Q => ∃ l xs, x = .ref l ∧ y = .int 1 ∧ SqT K H l xs ∧ Q (.ref l) H
theorem op_repT1 : OpR X (binaryOp .Mult) (rRepT1 X.K) := by
  intro pins s σ H x y v u Q I rx ry h
  obtain ⟨l, xs, rfl, rfl, hT, q⟩ := h
  cases rx
  obtain ⟨t, rfl⟩ := ry
  obtain ⟨its, r, ⟨⟨cls, dd, data, sl⟩, ho, hc, n, hd⟩, hs⟩ := I.tuple hT
  simp only at hc hd
  subst hc hd
  refine wpAny_binaryOp_repeat_ref (T := "tuple") (U := "int") (by decide) ⟨_, ho, rfl⟩ (fun s' => typeIs_int s' 1 t) noFill_tuple_mul F.fills_int_mul F.slot_int_rmul repeat_tuple F.slot_int_index.lookup
    (call_meets F.slot_int_rmul (typeIs_int s 1 t) F.entry_int_rmul (F.args_int_rmul_2 _ _) (int_rmul_tuple 1 t l its.toArray n dd sl)
      ⟨ho, rfl, ⟨_, ho, rfl⟩, call_meets F.slot_tuple_mul ⟨_, ho, rfl⟩ F.entry_tuple_mul (F.args_tuple_mul_2 _ _) (tuple_mul1 l its.toArray n dd sl t) ⟨ho, ?_⟩⟩)
  exact ⟨.ref l, H, I, rfl, q⟩
end

section
variable {X : Cx} {S : Stg X.K} {XA : XAT} {E : XK}
theorem good_new {Mu : Addr → Prop} {h : List D} {H : Hp} {d : D} {o : HO} {p : Addr} {Q : VK} (x : HandAt S Mu H h) (hp : H p = none) (g : Good S Mu XA (ret d h) H (fun d h' H' => ∀ v, Rep X.K Mu H' v d → Q v H') E) (r : Rep X.K Mu (upd H p o) (.ref p) d) : Q (.ref p) (upd H p o) :=
  (g.step (Pres.new hp)).ret (x.new hp) _ r
theorem line_le {n : Nat} (h : n ≤ line) : n ≤ sizeLine := by rw [sizeLine_eq]; exact h
theorem new_lst {Mu : Addr → Prop} {h : List D} {H : Hp} {p : Addr} {xs : List V} {ds : List D} (x : HandAt S Mu H h) (nf : ∀ p, Fr H p → ¬ Mu p) (hp : H p = none) (r : RepL X.K Mu H xs ds) : Rep X.K Mu (upd H p (.lst xs)) (.ref p) (.list ds) :=
  .lst (nf p (.of hp)) upd_same (r.pres (Pres.new hp) x)
theorem new_tup {Mu : Addr → Prop} {h : List D} {H : Hp} {p : Addr} {o : Obj} {xs : List V} {ds : List D} (x : HandAt S Mu H h) (hp : H p = none) (ho : o.dict = none) (r : RepL X.K Mu H xs ds) : Rep X.K Mu (upd H p (.frz o (.tup xs))) (.ref p) (.tuple ds) :=
  .tup (.inl ⟨o, upd_same, ho⟩) (r.pres (Pres.new hp) x)

theorem opd_add : OpD X S XA E (binaryOp .Add) (bopV .add) := by
  refine ⟨_, ((op_add.or op_catN).or op_catR).or op_add_str, fun Mu h H x y a b Q hx nf rx ry g => ?_⟩
  cases a <;> cases b <;> first | exact (Good.fail (show Good S Mu XA (fail h) H _ E from g)).elim | skip
  · rw [rx.int, ry.int]
    exact .inl (.inl (.inl ⟨_, _, rfl, rfl, Good.ret g hx _ (.int _)⟩))
  · rw [rx.str, ry.str]
    obtain ⟨z, g⟩ := Good.chk g
    exact .inr ⟨_, _, rfl, rfl, line_le (of_decide_eq_true z), g.ret hx _ (.str _)⟩
  · obtain ⟨p, xs, rfl, h1, r1⟩ := rx.lst
    obtain ⟨p2, ys, rfl, h2, r2⟩ := ry.lst
    obtain ⟨z, g⟩ := Good.chk g
    exact .inl (.inr ⟨p, p2, xs, ys, rfl, rfl, h1, h2, line_le (by rw [r1.length, r2.length]; exact of_decide_eq_true z), fun a ha => good_new hx ha g (new_lst hx nf ha (r1.append r2))⟩)
  · obtain ⟨p, xs, rfl, h1, r1⟩ := rx.tup
    obtain ⟨p2, ys, rfl, h2, r2⟩ := ry.tup
    obtain ⟨z, g⟩ := Good.chk g
    refine .inl (.inl (.inr ⟨p, p2, xs, ys, rfl, rfl, h1, h2, line_le (by rw [r1.length, r2.length]; exact of_decide_eq_true z), fun e => ?_, fun e1 e2 => ?_, fun e1 e2 a o ha ho => ?_⟩))
    · subst e
      have q := r1.length
      have q2 : _ = [] := List.eq_nil_of_length_eq_zero q.symm
      rw [q2, List.nil_append] at g
      exact g.ret hx _ (.tup h2 r2)
    · subst e2
      have q := r2.length
      have q2 : _ = [] := List.eq_nil_of_length_eq_zero q.symm
      rw [q2, List.append_nil] at g
      exact g.ret hx _ (.tup h1 r1)
    · exact good_new hx ha g (new_tup hx ha ho (r1.append r2))
theorem opd_sub : OpD X S XA E (binaryOp .Sub) (bopV .sub) := by
  refine ⟨_, op_sub, fun Mu h H x y a b Q hx nf rx ry g => ?_⟩
  cases a <;> cases b <;> first | exact (Good.fail (show Good S Mu XA (fail h) H _ E from g)).elim | skip
  rw [rx.int, ry.int]
  exact ⟨_, _, rfl, rfl, Good.ret g hx _ (.int _)⟩
theorem opd_fdiv : OpD X S XA E (binaryOp .FloorDiv) (bopV .fdiv) := by
  refine ⟨_, op_fdiv, fun Mu h H x y a b Q hx nf rx ry g => ?_⟩
  cases a <;> cases b <;> first | exact (Good.fail (show Good S Mu XA (fail h) H _ E from g)).elim | skip
  rw [rx.int, ry.int]
  obtain ⟨z, g⟩ := Good.chk g
  have z' := of_decide_eq_true z
  exact ⟨_, _, rfl, rfl, z', g.ret hx _ (.int _)⟩
theorem opd_mod : OpD X S XA E (binaryOp .Mod) (bopV .mod) := by
  refine ⟨_, op_mod, fun Mu h H x y a b Q hx nf rx ry g => ?_⟩
  cases a <;> cases b <;> first | exact (Good.fail (show Good S Mu XA (fail h) H _ E from g)).elim | skip
  rw [rx.int, ry.int]
  obtain ⟨z, g⟩ := Good.chk g
  have z' := of_decide_eq_true z
  exact ⟨_, _, rfl, rfl, z', g.ret hx _ (.int _)⟩
theorem opd_pow : OpD X S XA E (binaryOp .Pow) (bopV .pow) := by
  refine ⟨_, op_pow, fun Mu h H x y a b Q hx nf rx ry g => ?_⟩
  cases a <;> cases b <;> first | exact (Good.fail (show Good S Mu XA (fail h) H _ E from g)).elim | skip
  rw [rx.int, ry.int]
  obtain ⟨z, g⟩ := Good.chk g
  have z' := of_decide_eq_true z
  exact ⟨_, _, rfl, rfl, z', g.ret hx _ (.int _)⟩
theorem opd_shl : OpD X S XA E (binaryOp .LShift) (bopV .shl) := by
  refine ⟨_, op_shl, fun Mu h H x y a b Q hx nf rx ry g => ?_⟩
  cases a <;> cases b <;> first | exact (Good.fail (show Good S Mu XA (fail h) H _ E from g)).elim | skip
  rw [rx.int, ry.int]
  obtain ⟨z, g⟩ := Good.chk g
  have z' := of_decide_eq_true z
  exact ⟨_, _, rfl, rfl, z', g.ret hx _ (.int _)⟩
theorem cmul_of {x y : Int} (h : (small x || small y) = true) : CMul x y := by
  rcases Bool.or_eq_true_iff.mp h with z | z
  · exact .inl (of_decide_eq_true z)
  · exact .inr (of_decide_eq_true z)
theorem opd_mul : OpD X S XA E (binaryOp .Mult) (bopV .mul) := by
  refine ⟨_, ((op_mul.or op_repN).or op_repT1).or op_repR, fun Mu h H x y a b Q hx nf rx ry g => ?_⟩
  cases a <;> cases b <;> first | exact (Good.fail (show Good S Mu XA (fail h) H _ E from g)).elim | skip
  · rw [rx.int, ry.int]
    obtain ⟨z, g⟩ := Good.chk g
    exact .inl (.inl (.inl ⟨_, _, rfl, rfl, cmul_of z, g.ret hx _ (.int _)⟩))
  · obtain ⟨p, xs, rfl, h1, r1⟩ := rx.lst
    rw [ry.int]
    obtain ⟨z, g⟩ := Good.chk g
    obtain ⟨z1, z2, z3⟩ := of_decide_eq_true z
    rename_i ds n g0
    refine .inr ⟨p, n, xs, rfl, rfl, h1, by omega, by omega, ?_, fun a ha => good_new hx ha g (new_lst hx nf ha (r1.rep _))⟩
    rw [sizeLine_eq, r1.length]
    have a1 : ds.length * n.toNat ≤ 100 * 10000 := Nat.mul_le_mul z3 (by omega)
    omega
  · obtain ⟨p, xs, rfl, h1, r1⟩ := rx.tup
    rw [ry.int]
    obtain ⟨z, g⟩ := Good.chk g
    obtain ⟨z1, z2, z3, z4⟩ := of_decide_eq_true z
    rename_i ds n g0
    by_cases hn : n = 1
    · subst hn
      refine .inl (.inr ⟨p, xs, rfl, rfl, h1, ?_⟩)
      have e : repL ds 1 = ds := by simp [repL]
      rw [e] at g
      exact g.ret hx _ (.tup h1 r1)
    · refine .inl (.inl (.inr ⟨p, n, xs, rfl, rfl, h1, fun e => ?_, by omega, z2, by rw [r1.length]; exact z3, fun a o ha ho => good_new hx ha g (new_tup hx ha ho (r1.rep _))⟩))
      subst e
      have := r1.length
      simp at this
      omega
def opOf : Bop → Operator
  | .add => .Add
  | .sub => .Sub
  | .mul => .Mult
  | .fdiv => .FloorDiv
  | .mod => .Mod
  | .pow => .Pow
  | .shl => .LShift
theorem opd_bop (op : Bop) : OpD X S XA E (binaryOp (opOf op)) (bopV op) := by
  cases op
  · exact opd_add
  · exact opd_sub
  · exact opd_mul
  · exact opd_fdiv
  · exact opd_mod
  · exact opd_pow
  · exact opd_shl

/-! ### comparisons: by the data that the values read as -/
theorem deep_of {d : D} (h : deepOk d = true) : d.depth ≤ 40 := of_decide_eq_true h
/-- a rule over data -/
theorem opD_data {f : Value → Value → Sem Value} {C : D → D → Bool} {F : D → D → Bool}
    (rule : ∀ (s : Shared) (u v : Value) (a b : D) (as bs : List Addr) (Q : Value → Shared → Prop), Reads s.heap u a as → Reads s.heap v b bs → C a b = true → Q (.bool (F a b)) s → wpAny (model X.prog X.w) X.A (f u v) Q X.xe s) :
    OpD X S XA E f (fun a b => chk (C a b) (.bool (F a b))) := by
  refine ⟨fun x y H Q => ∃ (Mu : Addr → Prop) (a b : D), BRep S Mu H x a ∧ BRep S Mu H y b ∧ C a b = true ∧ Q (.bl (F a b)) H, fun pins s σ H x y v u Q I rx ry h => ?_, fun Mu h H x y a b Q hx nf rx ry g => ?_⟩
  · obtain ⟨Mu, a, b, ra, rb, c, q⟩ := h
    obtain ⟨as, r1⟩ := reads_of I ra rx
    obtain ⟨bs, r2⟩ := reads_of I rb ry
    exact rule s v u a b as bs _ r1 r2 c ⟨.bl _, H, I, rfl, q⟩
  · obtain ⟨z, g⟩ := Good.chk g
    exact ⟨Mu, a, b, rx, ry, z, g.ret hx _ (.bl _)⟩
theorem eqOk_parts {a b : D} (h : eqOk a b = true) : a.plain = true ∧ b.plain = true ∧ min a.depth b.depth ≤ 40 := by
  simp only [eqOk, Bool.and_eq_true, Bool.or_eq_true, deepOk, decide_eq_true_eq] at h
  exact ⟨h.1.1, h.1.2, by rcases h.2 with z | z <;> omega⟩
theorem ordOk_parts {a b : D} (h : ordOk a b = true) : PySem.W.alike a b = true ∧ a ≠ .none ∧ min a.depth b.depth ≤ 40 := by
  simp only [ordOk, Bool.and_eq_true, deepOk, decide_eq_true_eq, Bool.not_eq_true'] at h
  exact ⟨h.1.1, fun e => by rw [e] at h; exact absurd h.1.2 (by simp [isNonD]), by omega⟩
theorem inOk_parts {xs : List D} {a : D} (h : inOk xs a = true) : PyData.plainAll xs = true ∧ a.plain = true ∧ min (PyData.depthAll xs) a.depth ≤ 40 := by
  simp only [inOk, Bool.and_eq_true, Bool.or_eq_true, deepOk, allDeep, decide_eq_true_eq] at h
  exact ⟨h.1.1, h.1.2, by rcases h.2 with z | z <;> omega⟩
theorem BRep.keyR {Mu : Addr → Prop} {H : Hp} {v : V} {k : D} {kvs : List (D × D)} (r : BRep S Mu H v k) (f : keyFit kvs k = true) : Rep X.K Mu H v k := by
  obtain ⟨n, e⟩ := keyFit_kOf f
  cases k <;> first | exact r.intR | exact r.tupR | (cases e; done) | skip
  rcases r with r | ⟨a, e, n, o⟩
  · exact r
  · cases o
/-- what is asked of a dict -/
def DR (K : PySem.W.Frag) (Mu : Addr → Prop) (H : Hp) (x y : V) (kd : D) (kvs : List (D × D)) : Prop := Rep K Mu H x kd ∧ keyFit kvs kd = true ∧ ∃ a o es, y = .ref a ∧ H a = some (DicO a o) ∧ DicOk a o es kvs ∧ RepP K Mu H es kvs
theorem DR.of {Mu : Addr → Prop} {H : Hp} {x y : V} {kd : D} {kvs : List (D × D)} (rx : BRep S Mu H x kd) (ry : BRep S Mu H y (.dict kvs)) (f : keyFit kvs kd = true) : DR X.K Mu H x y kd kvs := by
  obtain ⟨a, o, es, e, h, k, r⟩ := ry.dic
  exact ⟨rx.keyR f, f, a, o, es, e, h, k, r⟩
variable (hu : X.A.units + 64 < cLine)
include hu
theorem opd_eq : OpD X S XA E (compareOp .Eq) (cmpV .eq) :=
  opD_data (C := eqOk) (F := PyData.eqv) fun s u v a b as bs Q r1 r2 c q => by
    obtain ⟨c1, c2, c3⟩ := eqOk_parts c
    exact PySem.SeqAt.eq_plain r1 r2 c1 c2 (by omega) q
theorem opd_ne : OpD X S XA E (compareOp .NotEq) (cmpV .ne) :=
  opD_data (C := eqOk) (F := fun a b => !PyData.eqv a b) fun s u v a b as bs Q r1 r2 c q => by
    obtain ⟨c1, c2, c3⟩ := eqOk_parts c
    exact PySem.SeqAt.ne_plain r1 r2 c1 c2 (by omega) q
theorem opd_lt : OpD X S XA E (compareOp .Lt) (cmpV .lt) :=
  opD_data (C := ordOk) (F := fun a b => PySem.W.dataLt a b) fun s u v a b as bs Q r1 r2 c q => by
    obtain ⟨c1, c2, c3⟩ := ordOk_parts c
    exact PySem.W.lt_data r1 r2 c1 c2 (by omega) q
theorem opd_le : OpD X S XA E (compareOp .LtE) (cmpV .le) :=
  opD_data (C := ordOk) (F := fun a b => !PySem.W.dataLt b a) fun s u v a b as bs Q r1 r2 c q => by
    obtain ⟨c1, c2, c3⟩ := ordOk_parts c
    exact PySem.W.le_data r1 r2 c1 c2 (by omega) q
theorem opd_gt : OpD X S XA E (compareOp .Gt) (cmpV .gt) :=
  opD_data (C := ordOk) (F := fun a b => PySem.W.dataLt b a) fun s u v a b as bs Q r1 r2 c q => by
    obtain ⟨c1, c2, c3⟩ := ordOk_parts c
    exact PySem.W.gt_data r1 r2 c1 c2 (by omega) q
theorem opd_ge : OpD X S XA E (compareOp .GtE) (cmpV .ge) :=
  opD_data (C := ordOk) (F := fun a b => !PySem.W.dataLt a b) fun s u v a b as bs Q r1 r2 c q => by
    obtain ⟨c1, c2, c3⟩ := ordOk_parts c
    exact PySem.W.ge_data r1 r2 c1 c2 (by omega) q
theorem opd_in : OpD X S XA E (compareOp .In) (cmpV .isin) := by
  have hd : OpR X (compareOp .In) (fun x y H Q => ∃ (Mu : Addr → Prop) (a : D) (xs : List D), BRep S Mu H x a ∧ (BRep S Mu H y (.list xs) ∨ BRep S Mu H y (.tuple xs)) ∧ inOk xs a = true ∧ Q (.bl (xs.any fun y => PyData.eqv y a)) H) := fun pins s σ H x y v u Q I rx ry h => by
    obtain ⟨Mu, a, xs, ra, rb, c, q⟩ := h
    obtain ⟨c1, c2, c3⟩ := inOk_parts c
    obtain ⟨as, r1⟩ := reads_of I ra rx
    rcases rb with rb | rb
    · obtain ⟨bs, r2⟩ := reads_of I rb ry
      exact PySem.SeqAt.in_list_data r2 r1 c1 c2 (by omega) ⟨.bl _, H, I, rfl, q⟩
    · obtain ⟨bs, r2⟩ := reads_of I rb ry
      exact PySem.SeqAt.in_tuple_data r2 r1 c1 c2 (by omega) ⟨.bl _, H, I, rfl, q⟩
  have hk : OpR X (compareOp .In) (fun x y H Q => ∃ (Mu : Addr → Prop) (kd : D) (kvs : List (D × D)), DR X.K Mu H x y kd kvs ∧ Q (.bl (dAt kvs kd).isSome) H) := fun pins s σ H x y v u Q I rx ry h => by
    obtain ⟨Mu, kd, kvs, ⟨rk, f, a, o, es, rfl, h1, k, r⟩, q⟩ := h
    cases ry
    exact dk_in I (by omega) h1 k r rk rx f fun s' I' => ⟨.bl _, H, I', rfl, q⟩
  refine ⟨_, hd.or (op_in_str.or hk), fun Mu h H x y a b Q hx nf rx ry g => ?_⟩
  cases b with
  | list xs =>
    obtain ⟨z, g⟩ := Good.chk g
    exact .inl ⟨Mu, a, xs, rx, .inl ry, z, g.ret hx _ (.bl _)⟩
  | tuple xs =>
    obtain ⟨z, g⟩ := Good.chk g
    exact .inl ⟨Mu, a, xs, rx, .inr ry, z, g.ret hx _ (.bl _)⟩
  | str y' =>
    cases a with
    | str x' => exact .inr (.inl ⟨x', y', rx.str, ry.str, Good.ret g hx _ (.bl _)⟩)
    | _ => exact (Good.fail (show Good S Mu XA (fail h) H _ E from g)).elim
  | dict kvs =>
    obtain ⟨z, g⟩ := Good.chk g
    exact .inr (.inr ⟨Mu, a, kvs, DR.of rx ry z, g.ret hx _ (.bl _)⟩)
  | _ => exact (Good.fail (show Good S Mu XA (fail h) H _ E from g)).elim
theorem opd_notin : OpD X S XA E (compareOp .NotIn) (cmpV .notin) := by
  have hd : OpR X (compareOp .NotIn) (fun x y H Q => ∃ (Mu : Addr → Prop) (a : D) (xs : List D), BRep S Mu H x a ∧ (BRep S Mu H y (.list xs) ∨ BRep S Mu H y (.tuple xs)) ∧ inOk xs a = true ∧ Q (.bl (!xs.any fun y => PyData.eqv y a)) H) := fun pins s σ H x y v u Q I rx ry h => by
    obtain ⟨Mu, a, xs, ra, rb, c, q⟩ := h
    obtain ⟨c1, c2, c3⟩ := inOk_parts c
    obtain ⟨as, r1⟩ := reads_of I ra rx
    rcases rb with rb | rb
    · obtain ⟨bs, r2⟩ := reads_of I rb ry
      exact PySem.SeqAt.notIn_list_data r2 r1 c1 c2 (by omega) ⟨.bl _, H, I, rfl, q⟩
    · obtain ⟨bs, r2⟩ := reads_of I rb ry
      exact PySem.SeqAt.notIn_tuple_data r2 r1 c1 c2 (by omega) ⟨.bl _, H, I, rfl, q⟩
  have hk : OpR X (compareOp .NotIn) (fun x y H Q => ∃ (Mu : Addr → Prop) (kd : D) (kvs : List (D × D)), DR X.K Mu H x y kd kvs ∧ Q (.bl (!(dAt kvs kd).isSome)) H) := fun pins s σ H x y v u Q I rx ry h => by
    obtain ⟨Mu, kd, kvs, ⟨rk, f, a, o, es, rfl, h1, k, r⟩, q⟩ := h
    cases ry
    exact dk_notIn I (by omega) h1 k r rk rx f fun s' I' => ⟨.bl _, H, I', rfl, q⟩
  refine ⟨_, hd.or (op_notin_str.or hk), fun Mu h H x y a b Q hx nf rx ry g => ?_⟩
  cases b with
  | list xs =>
    obtain ⟨z, g⟩ := Good.chk g
    exact .inl ⟨Mu, a, xs, rx, .inl ry, z, g.ret hx _ (.bl _)⟩
  | tuple xs =>
    obtain ⟨z, g⟩ := Good.chk g
    exact .inl ⟨Mu, a, xs, rx, .inr ry, z, g.ret hx _ (.bl _)⟩
  | str y' =>
    cases a with
    | str x' => exact .inr (.inl ⟨x', y', rx.str, ry.str, Good.ret g hx _ (.bl _)⟩)
    | _ => exact (Good.fail (show Good S Mu XA (fail h) H _ E from g)).elim
  | dict kvs =>
    obtain ⟨z, g⟩ := Good.chk g
    exact .inr (.inr ⟨Mu, a, kvs, DR.of rx ry z, g.ret hx _ (.bl _)⟩)
  | _ => exact (Good.fail (show Good S Mu XA (fail h) H _ E from g)).elim
omit hu in
theorem isNon_of {Mu : Addr → Prop} {H : Hp} {x : V} {a : D} (rx : BRep S Mu H x a) : decide (x = .non) = isNonD a := by
  rcases rx with r | ⟨p, rfl, _, o⟩
  · cases r <;> rfl
  · cases o <;> rfl
omit hu in
theorem opd_isNone : OpD X S XA E (compareOp .Is) (cmpV .isNone) := by
  refine ⟨_, op_isN, fun Mu h H x y a b Q hx nf rx ry g => ?_⟩
  cases b with
  | none => exact ⟨ry.none, by rw [isNon_of rx]; exact Good.ret g hx _ (.bl _)⟩
  | _ => exact (Good.fail (show Good S Mu XA (fail h) H _ E from g)).elim
omit hu in
theorem opd_notNone : OpD X S XA E (compareOp .IsNot) (cmpV .notNone) := by
  refine ⟨_, op_notN, fun Mu h H x y a b Q hx nf rx ry g => ?_⟩
  cases b with
  | none => exact ⟨ry.none, by rw [isNon_of rx]; exact Good.ret g hx _ (.bl _)⟩
  | _ => exact (Good.fail (show Good S Mu XA (fail h) H _ E from g)).elim
omit hu in
theorem opd_isBool : OpD X S XA E (compareOp .Is) (cmpV .isBool) := by
  refine ⟨_, op_is_bl, fun Mu h H x y a b Q hx nf rx ry g => ?_⟩
  cases a <;> cases b <;> first | exact (Good.fail (show Good S Mu XA (fail h) H _ E from g)).elim | skip
  exact ⟨_, _, rx.bool, ry.bool, Good.ret g hx _ (.bl _)⟩
omit hu in
theorem opd_notBool : OpD X S XA E (compareOp .IsNot) (cmpV .notBool) := by
  refine ⟨_, op_isnot_bl, fun Mu h H x y a b Q hx nf rx ry g => ?_⟩
  cases a <;> cases b <;> first | exact (Good.fail (show Good S Mu XA (fail h) H _ E from g)).elim | skip
  exact ⟨_, _, rx.bool, ry.bool, Good.ret g hx _ (.bl _)⟩
omit hu in
def copOf : Cop → CmpOp
  | .eq => .Eq
  | .ne => .NotEq
  | .lt => .Lt
  | .le => .LtE
  | .gt => .Gt
  | .ge => .GtE
  | .isin => .In
  | .notin => .NotIn
  | .isNone => .Is
  | .notNone => .IsNot
  | .isBool => .Is
  | .notBool => .IsNot
theorem opd_cop (op : Cop) : OpD X S XA E (compareOp (copOf op)) (cmpV op) := by
  cases op
  · exact opd_eq hu
  · exact opd_ne hu
  · exact opd_lt hu
  · exact opd_le hu
  · exact opd_gt hu
  · exact opd_ge hu
  · exact opd_in hu
  · exact opd_notin hu
  · exact opd_isNone
  · exact opd_notNone
  · exact opd_isBool
  · exact opd_notBool
end

/-! ### subscripts, slices -/
section
variable {X : Cx} {S : Stg X.K} {XA : XAT} {E : XK} {a b : Expr} {ma mb : Env → M D} {pos : Pos}
theorem ixOf_eq (n : Nat) (i : Int) : ixOf n i = ixN n i := rfl
theorem atI_of {xs : List V} {ds : List D} {Mu : Addr → Prop} {H : Hp} {h : List D} {i : Int} {P : D → List D → Hp → Prop} (r : RepL X.K Mu H xs ds) (g : Good S Mu XA (atD ds i h) H P E) : ∃ v d, atI xs i = some v ∧ Rep X.K Mu H v d ∧ Good S Mu XA (ret d h) H P E := by
  unfold atD at g
  unfold atI
  rw [ixOf_eq, ← r.length] at g
  cases q : ixN xs.length i with
  | none => rw [q] at g; exact g.fail.elim
  | some j =>
    rw [q] at g
    dsimp only at g
    cases q2 : ds[j]? with
    | none => rw [q2] at g; exact g.fail.elim
    | some d =>
      rw [q2] at g
      obtain ⟨v, e, rv⟩ := r.get q2
      exact ⟨v, d, e, rv, g⟩
theorem ix_dic (hu : X.A.units + 64 < cLine) : IxR X (fun x y H Q => ∃ (Mu : Addr → Prop) (kd : D) (kvs : List (D × D)) (d : D), DR X.K Mu H y x kd kvs ∧ dAt kvs kd = some d ∧ ∀ v, Rep X.K Mu H v d → Q v H) := by
  intro value slice pins s σ H x y v u Q I rx ry h hs
  obtain ⟨Mu, kd, kvs, d, ⟨rk, f, a, o, es, rfl, h1, k, r⟩, e, q⟩ := h
  obtain rfl : v = Value.ref a := rx
  obtain ⟨arr, ep, hr, _⟩ := raw_of I h1 k
  exact tail_any hr.typeIs PySem.F.slot_dict_getitem.lookup (dk_getItem I (by omega) h1 k r rk ry f e fun v w' s' I' rv rw' => ⟨v, H, I', rw', q v rv⟩) hs
theorem se_idx (hu : X.A.units + 64 < cLine) (ha : SB X S XA E a ma) (hb : SE X S XA E b mb) (hs : PlainIx b) : SE X S XA E (.Subscript a b pos) (fun env => bnd (ma env) fun x => bnd (mb env) fun y => idxV x y) := by
  obtain ⟨ta, pa, qa⟩ := ha
  obtain ⟨tb, pb, qb⟩ := hb
  refine ⟨_, pe_ix (ix_seq.or (ix_dic hu)) pa pb hs, fun Mu env h σ H Q e g => ?_⟩
  refine qa Mu env h σ H _ e (g.bnd.mono fun x h1 H1 p1 x1 g1 v rv => ?_)
  refine qb Mu env h1 σ H1 _ (e.pres p1 x1) (g1.bnd.mono fun y h2 H2 p2 x2 g2 w rw' => ?_)
  have rv := rv.pres p2 x1
  by_cases isd : ∃ kvs, x = .dict kvs
  · obtain ⟨kvs, rfl⟩ := isd
    have g3 : Good S Mu XA ((match dAt kvs y with
      | some d => chk (keyFit kvs y) d
      | none => fail) h2) H2 (fun d h' H' => ∀ v, Rep X.K Mu H' v d → Q v H') E := by
      have e2 : idxV (.dict kvs) y = (match dAt kvs y with
        | some d => chk (keyFit kvs y) d
        | none => fail) := by cases y <;> rfl
      rw [e2] at g2
      exact g2
    cases q : dAt kvs y with
    | none => rw [q] at g3; exact g3.fail.elim
    | some d =>
      rw [q] at g3
      obtain ⟨z, g4⟩ := Good.chk g3
      exact .inr ⟨Mu, y, kvs, d, DR.of (.inl rw') rv z, q, fun v rv => g4.ret x2 v rv⟩
  refine .inl ?_
  cases x <;> first | exact (isd ⟨_, rfl⟩).elim | skip
  all_goals cases y <;> first | exact (Good.fail (show Good S Mu XA (fail h2) H2 _ E from g2)).elim | skip
  · rename_i z _ i
    have g2 : Good S Mu XA ((match ixOf z.cps.toList.length i with
      | some j => match z.cps.toList[j]? with
        | some c => chk (decide (z.length ≤ line)) (PyData.str ⟨#[c]⟩)
        | none => fail
      | none => fail) h2) H2 _ E := g2
    rw [ixOf_eq] at g2
    cases q : ixN z.cps.toList.length i with
    | none => rw [q] at g2; exact g2.fail.elim
    | some j =>
      rw [q] at g2
      dsimp only at g2
      cases q2 : z.cps.toList[j]? with
      | none => rw [q2] at g2; exact g2.fail.elim
      | some c =>
        rw [q2] at g2
        obtain ⟨l, g3⟩ := Good.chk g2
        exact .inr (.inr ⟨z, i, c, rv.str, rw'.int_inv, line_le (of_decide_eq_true l), by unfold atI; rw [q]; exact q2, g3.ret x2 _ (.str _)⟩)
  · obtain ⟨p, xs, rfl, hq, r⟩ := rv.lst
    obtain ⟨v, d, e1, rd, g3⟩ := atI_of r g2
    exact .inl ⟨p, xs, _, v, rfl, rw'.int_inv, .inl hq, e1, g3.ret x2 _ rd⟩
  · obtain ⟨p, xs, rfl, hq, r⟩ := rv.tup
    obtain ⟨v, d, e1, rd, g3⟩ := atI_of r g2
    exact .inr (.inl ⟨p, xs, _, v, rfl, rw'.int_inv, hq, e1, g3.ret x2 _ rd⟩)
/-- hand[k] -/
theorem se_hidx {i : Nat} {x : Str} {npos : Pos} (hN : X.N[i]? = some x) (hv : Vis X.env.scope x) (hd : (x == ("__debug__" : Str)) = false) (hcd : (x == ("__classdict__" : Str)) = false) (hb : SE X S XA E b mb) (hs : PlainIx b) :
    SE X S XA E (.Subscript (.Name x npos) b pos) (fun env => match nth env i with
      | .hand => bnd (mb env) fun y => bnd getH fun h => idxV (.list h) y
      | _ => fail) := by
  obtain ⟨tb, pb, qb⟩ := hb
  refine ⟨_, pe_ix ix_seq (pe_var hN hv hd hcd) pb hs, fun Mu env h σ H Q e g => ?_⟩
  have hsl := e.slot i
  dsimp only at g
  cases q : nth env i with
  | hand =>
    rw [q] at hsl g
    obtain ⟨a, e1, e2⟩ := hsl
    refine ⟨.ref a, e1, ?_⟩
    refine qb Mu env h σ H _ e (g.bnd.mono fun y h2 H2 p2 x2 g2 w rw' => ?_)
    rw [run_bnd, run_getH] at g2
    have g2 : Good S Mu XA (idxV (.list h2) y h2) H2 _ E := g2
    obtain ⟨_, vs, q1, r⟩ := x2.lst e2
    cases y <;> first | exact (Good.fail (show Good S Mu XA (fail h2) H2 _ E from g2)).elim | skip
    obtain ⟨v, d, e1, rd, g3⟩ := atI_of r g2
    exact .inl ⟨a, vs, _, v, rfl, rw'.int_inv, .of q1, e1, g3.ret x2 _ rd⟩
  | _ => rw [q] at g; exact g.fail.elim

theorem loIx_eq (n : Nat) (o : Option Int) : loIx n o = HT.sIx n 0 o := by
  cases o with
  | none => rfl
  | some i => rfl
theorem hiIx_eq (n : Nat) (o : Option Int) : hiIx n o = HT.sIx n n o := by
  cases o with
  | none => rfl
  | some i => rfl
theorem RepL.cut {Mu : Addr → Prop} {H : Hp} {xs : List V} {ds : List D} (r : RepL X.K Mu H xs ds) (lo hi : Option Int) : RepL X.K Mu H (cutV xs lo hi) (cutD ds lo hi) := by
  unfold cutV cutD
  rw [loIx_eq, hiIx_eq, r.length]
  exact (r.drop _).take _
theorem cut_whole {ds : List D} {lo hi : Option Int} (h : HT.sIx ds.length 0 lo = 0 ∧ HT.sIx ds.length ds.length hi = ds.length) : cutD ds lo hi = ds := by
  unfold cutD
  rw [loIx_eq, hiIx_eq, h.1, h.2]
  simp
/-- a slice's part -/
def SO (X : Cx) (S : Stg X.K) (XA : XAT) (E : XK) (e : Option Expr) (m : Env → M (Option Int)) : Prop := ∃ t : TO, PO X e t ∧ ∀ (Mu : Addr → Prop) env h σ H Q, ES S Mu env h σ H → Good S Mu XA (m env h) H (fun d h' H' => Q d H') E → t σ H Q
theorem so_none : SO X S XA E none (fun _ => ret none) := ⟨_, po_none, fun Mu env h σ H Q e g => g.ret e.hand⟩
theorem so_some (ha : SE X S XA E a ma) : SO X S XA E (some a) (fun env => bnd (ma env) fun d => bnd (asInt d) fun i => ret (some i)) := by
  obtain ⟨ta, pa, qa⟩ := ha
  refine ⟨_, po_some pa, fun Mu env h σ H Q e g => ?_⟩
  refine qa Mu env h σ H _ e (g.bnd.mono fun x h1 H1 p1 x1 g1 v rv => ?_)
  cases x with
  | int i =>
    have g1 : Good S Mu XA (bnd (ret i) (fun i => ret (some i)) h1) H1 _ E := g1
    rw [bnd_ret] at g1
    exact ⟨i, rv.int_inv, g1.ret x1⟩
  | _ =>
    have g1 : Good S Mu XA (bnd fail (fun i => ret (some i)) h1) H1 _ E := g1
    rw [bnd_fail] at g1
    exact g1.fail.elim
theorem se_slice {lo hi : Option Expr} {ml mh : Env → M (Option Int)} {p2 : Pos} (ha : SB X S XA E a ma) (hl : SO X S XA E lo ml) (hh : SO X S XA E hi mh) :
    SE X S XA E (.Subscript a (.Slice lo hi none p2) pos) (fun env => bnd (ma env) fun x => bnd (ml env) fun l => bnd (mh env) fun r => sliceV x l r) := by
  obtain ⟨ta, pa, qa⟩ := ha
  obtain ⟨tl, pl, ql⟩ := hl
  obtain ⟨th, ph, qh⟩ := hh
  refine ⟨_, pe_slice (sl_list.or sl_tupN) pa pl ph, fun Mu env h σ H Q e g => ?_⟩
  refine qa Mu env h σ H _ e (g.bnd.mono fun x h1 H1 p1 x1 g1 v rv => ?_)
  refine ql Mu env h1 σ H1 _ (e.pres p1 x1) (g1.bnd.mono fun l h2 H2 p2 x2 g2 => ?_)
  refine qh Mu env h2 σ H2 _ ((e.pres p1 x1).pres p2 x2) (g2.bnd.mono fun r h3 H3 p3 x3 g3 => ?_)
  have rv := (rv.pres p2 x1).pres p3 x2
  cases x <;> first | exact (Good.fail (show Good S Mu XA (fail h3) H3 _ E from g3)).elim | skip
  · obtain ⟨p, xs, rfl, hq, r1⟩ := rv.lst
    exact .inl ⟨p, xs, rfl, .inl hq, fun a ha => good_new x3 ha g3 (new_lst x3 (p3.nf (p2.nf (p1.nf e.nf))) ha (r1.cut l r))⟩
  · obtain ⟨p, xs, rfl, hq, r1⟩ := rv.tup
    refine .inr ⟨p, xs, rfl, hq, fun hw => ?_, fun hw a o ha ho => good_new x3 ha g3 (new_tup x3 ha ho (r1.cut l r))⟩
    have g3 : Good S Mu XA (ret (PyData.tuple (cutD _ l r)) h3) H3 _ E := g3
    rw [r1.length] at hw
    rw [cut_whole hw] at g3
    exact g3.ret x3 _ (.tup hq r1)
theorem se_rawSl {i : Nat} {x : Str} {npos : Pos} {lo hi : Option Expr} {ml mh : Env → M (Option Int)} {p2 : Pos} (hN : X.N[i]? = some x) (hv : Vis X.env.scope x) (hd : (x == ("__debug__" : Str)) = false) (hcd : (x == ("__classdict__" : Str)) = false) (hl : SO X S XA E lo ml) (hh : SO X S XA E hi mh) :
    SE X S XA E (.Subscript (.Name x npos) (.Slice lo hi none p2) pos) (fun env => match nth env i with
      | .raw d => bnd (ml env) fun l => bnd (mh env) fun r => sliceV d l r
      | _ => fail) := by
  obtain ⟨tl, pl, ql⟩ := hl
  obtain ⟨th, ph, qh⟩ := hh
  refine ⟨_, pe_slice sl_list (pe_var hN hv hd hcd) pl ph, fun Mu env h σ H Q e g => ?_⟩
  have hs := e.slot i
  dsimp only at g
  cases q : nth env i with
  | raw d =>
    rw [q] at hs g
    dsimp only at g
    obtain ⟨v, e1, r⟩ := hs
    refine ⟨v, e1, ?_⟩
    refine ql Mu env h σ H _ e (g.bnd.mono fun l h2 H2 p2 x2 g2 => ?_)
    refine qh Mu env h2 σ H2 _ (e.pres p2 x2) (g2.bnd.mono fun rr h3 H3 p3 x3 g3 => ?_)
    obtain ⟨a, xs, ds, rfl, rfl, hr, sq⟩ := ((r.stay (p2.stay e.hand)).stay (p3.stay x2)).seq
    exact ⟨a, xs, rfl, sq, fun b hb => good_new x3 hb g3 (new_lst x3 (p3.nf (p2.nf e.nf)) hb (hr.cut l rr))⟩
  | _ => rw [q] at g; exact g.fail.elim
end
end Ev
set_option Elab.async false
set_option linter.all false
set_option maxRecDepth 100000
set_option maxHeartbeats 4000000
/-! x[::-1] of a list, of a tuple. -/
namespace Ev
open PySem PySem.Spec PyProof.Rows L2
section
variable {prog : Program} {w : World} {A : Around} {E : Value → Shared → Prop} {s : Shared}
theorem rev_applied {sl : Addr} {vs : Value} {n : Nat} {Q : Int × Int × Nat → Shared → Prop} (hs : s.heap.IsSliceOf sl .none .none vs) (ps : IsPart vs (some (-1)))
    (h : Q ((n : Int) - 1, -1, n) s) : wpAny (model prog w) A (Builtin.Slice.sliceApplied (.ref sl) (pure (n : Int))) Q E s := by
  obtain ⟨os, hos, hcs, hds⟩ := id hs
  unfold Builtin.Slice.sliceApplied Builtin.Slice.sliceFields
  refine wpAny_bind (wpAny_bind (wpAny_field hos hds (x := .none) rfl (wpAny_bind (wpAny_field hos hds (x := .none) rfl (wpAny_bind (wpAny_field hos hds (x := vs) rfl (wpAny_pure ?_)))))))
  refine wpAny_bind (HT.slicePart_ ps ?_)
  show wpAny _ _ (if ((-1 : Int) == 0) = true then _ else _) _ _ s
  rw [if_neg (by decide)]
  refine wpAny_bind (HT.slicePart_ .none (wpAny_bind (HT.slicePart_ .none (wpAny_bind (wpAny_pure ?_)))))
  have e1 : Builtin.Slice.sliceAdjust none none (-1) (n : Int) = ((n : Int) - 1, -1) := rfl
  show wpAny _ _ (match Builtin.Slice.sliceAdjust none none (-1) (n : Int) with | (lo, hi) => pure (lo, (-1 : Int), Builtin.Slice.slicePlaces lo hi (-1))) _ _ s
  rw [e1]
  have e2 : Builtin.Slice.slicePlaces ((n : Int) - 1) (-1) (-1) = n := by
    unfold Builtin.Slice.slicePlaces
    rw [if_neg (by decide), show (- -1 : Int) = 1 by decide, Int.ediv_one]
    split <;> omega
  show wpAny _ _ (pure ((n : Int) - 1, (-1 : Int), Builtin.Slice.slicePlaces ((n : Int) - 1) (-1) (-1))) _ _ s
  rw [e2]
  exact wpAny_pure h
theorem fm_congr {α β : Type} {f g : α → Option β} : ∀ {l : List α}, (∀ x ∈ l, f x = g x) → l.filterMap f = l.filterMap g
  | [], _ => rfl
  | x :: l, h => by
    rw [List.filterMap_cons, List.filterMap_cons, h x List.mem_cons_self, fm_congr fun y hy => h y (List.mem_cons_of_mem _ hy)]
theorem rev_pick (xs : Array Value) : ((List.range xs.size).filterMap fun (k : Nat) => xs[(((xs.size : Int) - 1) + (k : Int) * (-1)).toNat]?).toArray = xs.toList.reverse.toArray := by
  have e : ((List.range xs.size).filterMap fun (k : Nat) => xs[(((xs.size : Int) - 1) + (k : Int) * (-1)).toNat]?) = (List.range xs.size).filterMap fun k => xs[xs.size - 1 - k]? := by
    refine fm_congr fun k hk => ?_
    have := List.mem_range.mp hk
    have e : (((xs.size : Int) - 1) + (k : Int) * (-1)).toNat = xs.size - 1 - k := by omega
    rw [e]
  have e2 := congrArg (List.filterMap (xs[·]?)) (PySem.W.krv_range xs.size)
  rw [List.filterMap_map] at e2
  rw [e]
  congr 1
  refine Eq.trans e2 ?_
  rw [List.filterMap_reverse, PySem.W.krv_all]
theorem getItem_tuple_rev {t sl : Addr} {items : Array Value} {vs : Value} {Q : Value → Shared → Prop} (ht : IsTup s.heap t items) (hs : s.heap.IsSliceOf sl .none .none vs) (ps : IsPart vs (some (-1)))
    (h : Q (.ref s.heap.objs.size) { s with heap := s.heap.push { cls := .type "tuple", data := .seq items.toList.reverse.toArray } })
    (hsz : items.size ≤ sizeLine) : wpAny (model prog w) A (getItem (.ref t) (.ref sl)) Q E s := by
  have htake : sizeOk (.seq items.toList.reverse.toArray) := by
    show items.toList.reverse.toArray.size ≤ sizeLine
    rw [List.size_toArray, List.length_reverse, Array.length_toList]
    exact hsz
  obtain ⟨os, hos, hcs, hds⟩ := id hs
  have hTs : s.TypeIs (.ref sl) "slice" := ⟨os, hos, hcs⟩
  unfold getItem
  try with_reducible refine wpAny_holding ?_
  first | refine wpAny_bind (wpAny_pure ?_) | skip
  refine wpAny_bind (wpAny_sequenceKey ht.typeIs (by decide) ?_)
  refine wpAny_bind (wpAny_callSpecial?_slot (name := Str.ofString "__getitem__") ht.typeIs PyProof.Rows.slot_tuple_getitem
    (wpAny_call_entry PyProof.Rows.slot_tuple_getitem ht.typeIs entry_tuple_getitem ?_ (args_tuple_getitem _ _)))
  show wpAny _ _ (Builtin.Tuple.tupleItemsOf (.ref t) >>= _) _ _ s
  refine wpAny_bind (tupleItemsOf_ ht ?_)
  refine wpAny_bind (wpAny_typeOf hTs ?_)
  rw [if_pos (by decide)]
  refine wpAny_bind (rev_applied hs ps ?_)
  have hno : ¬ ((((items.size : Int) - 1) == 0 && (-1 : Int) == 1 && items.size == items.size) = true) := by
    intro q
    rw [Bool.and_eq_true, Bool.and_eq_true] at q
    exact absurd q.1.2 (by decide)
  show wpAny _ _ (if (((items.size : Int) - 1) == 0 && (-1 : Int) == 1 && items.size == items.size) = true then _ else _) _ _ s
  rw [if_neg hno, rev_pick]
  first
    | exact wpAny_bind (m := Builtin.Tuple.tupleExact _) (wpAny_newObj_type (wpAny_pure ⟨_, rfl, wpAny_pure h⟩) htake)
    | exact wpAny_bind (m := Builtin.Tuple.tupleExact _) (wpAny_newObj_type (wpAny_bind (wpAny_pure (wpAny_pure ⟨_, rfl, wpAny_pure h⟩))) htake)
    | exact wpAny_bind (wpAny_bind (m := Builtin.Tuple.tupleExact _) (wpAny_newObj_type (wpAny_pure (wpAny_pure ⟨_, rfl, wpAny_pure h⟩)) htake))
    | exact wpAny_bind (wpAny_bind (m := Builtin.Tuple.tupleExact _) (wpAny_newObj_type (wpAny_pure ⟨_, rfl, wpAny_pure h⟩) htake))
end
section
variable {X : Cx}
def tRevA (K : PySem.W.Frag) (te : TE) : TE := fun σ H Q => te σ H fun x H1 => ∃ a xs, x = .ref a ∧ ((SqL K H1 a xs ∧ ∀ p, H1 p = none → Q (.ref p) (upd H1 p (.lst xs.reverse))) ∨ (SqT K H1 a xs ∧ NewT H1 xs.reverse Q))
theorem pe_revA {e : Expr} {te : TE} {k : Nat} {p1 p2 p3 pos : Pos} (he : PE X e te) : PE X (.Subscript e (.Slice none none (some (.UnaryOp .USub (.Constant (.int 1) k p1) p2)) p3) pos) (tRevA X.K te) := by
  refine ⟨fun pins s σ H Q I h => ?_⟩
  refine Subscript_ (thn (he.run pins s σ H _ I h) fun v s1 ⟨x, H1, I1, r1, q1⟩ => ?_)
  obtain ⟨a, xs, ex, q⟩ := q1
  subst ex
  cases r1
  have hst : PO X (some (.UnaryOp .USub (.Constant (.int 1) k p1) p2)) (tPart (tUn (rU fun i => .int (-i)) (tC (.int 1)))) := po_some (pe_un un_neg pe_int)
  refine wpAny_Slice (thn (po_none.run pins s1 σ H1 (fun o H2 => o = none ∧ H2 = H1) I1 ⟨rfl, rfl⟩) fun vl s2 ⟨l, H2, I2, pl, el, e2⟩ => ?_)
  subst el e2
  refine thn (po_none.run pins s2 σ H2 (fun o H3 => o = none ∧ H3 = H2) I2 ⟨rfl, rfl⟩) fun vu s3 ⟨u, H3, I3, pu, eu, e3⟩ => ?_
  subst eu e3
  refine thn (hst.run pins s3 σ H3 (fun o H4 => o = some (-1) ∧ H4 = H3) I3 ⟨1, rfl, -1, rfl, rfl, rfl⟩) fun vs s4 ⟨o, H4, I4, ps, eo, e4⟩ => ?_
  subst eo e4
  have I5 : Inv X pins σ H4 { s4 with heap := s4.heap.push { cls := .type "slice", data := .fields #[vl, vu, vs] } } := I4.kept (t' := s4.toks) fun b ob q => Heap.get?_push_of_some _ q
  show wpAny (model X.prog X.w) X.A (subscriptTail e (.Slice none none (some (.UnaryOp .USub (.Constant (.int 1) k p1) p2)) p3) (.ref a) (.ref s4.heap.objs.size)) (EP X pins σ Q) X.xe { s4 with heap := s4.heap.push { cls := .type "slice", data := .fields #[vl, vu, vs] } }
  rcases q with ⟨hx, q⟩ | ⟨hx, q⟩
  · obtain ⟨its, r, ht, hz⟩ := I5.list hx
    have hlen := r.length
    refine tail_any (ops := [.ref a, .ref s4.heap.objs.size]) ht.isList.typeIs (PySem.slot_list_getitem.lookup) ?_ (by with_unfolding_all rfl)
    refine wpAny_getItem_list_slice ht.isList (Heap.IsSliceOf.new _ vl vu vs) pl pu ps (by decide) ?_ (by rw [List.size_toArray]; omega)
    rw [PySem.W.krv_pick]
    refine ⟨.ref _, _, I5.laid (t' := s4.toks) (o := .lst xs.reverse) (fun b ob q => Heap.get?_push_of_some _ q) (Nat.le_refl _) ?_, rfl, q _ (I5.hok.fresh (Nat.le_refl _))⟩
    exact ⟨by rw [List.length_reverse]; exact hz, _, 0, r.reverse, Heap.get?_push_size _ rfl⟩
  · obtain ⟨its, r, ht, hz⟩ := I5.tuple hx
    have hlen := r.length
    cases pl
    cases pu
    refine tail_any (ops := [.ref a, .ref s4.heap.objs.size]) ht.typeIs (PyProof.Rows.slot_tuple_getitem.lookup) ?_ (by with_unfolding_all rfl)
    refine getItem_tuple_rev ht (Heap.IsSliceOf.new _ .none .none vs) ps ?_ (by rw [List.size_toArray]; omega)
    exact newT (t' := s4.toks) I5 r.reverse (by rw [List.length_reverse]; exact hz) q
variable {S : Stg X.K} {XA : XAT} {E : XK} {a : Expr} {ma : Env → M D} {pos : Pos}
theorem se_rev {k : Nat} {p1 p2 p3 : Pos} (ha : SB X S XA E a ma) : SE X S XA E (.Subscript a (.Slice none none (some (.UnaryOp .USub (.Constant (.int 1) k p1) p2)) p3) pos) (fun env => bnd (ma env) revV) := by
  obtain ⟨ta, pa, qa⟩ := ha
  refine ⟨_, pe_revA pa, fun Mu env h σ H Q e g => ?_⟩
  refine qa Mu env h σ H _ e (g.bnd.mono fun x h1 H1 p1 x1 g1 v rv => ?_)
  cases x <;> first | exact (Good.fail (show Good S Mu XA (fail h1) H1 _ E from g1)).elim | skip
  · obtain ⟨p, xs, rfl, hq, r1⟩ := rv.lst
    exact ⟨p, xs, rfl, .inl ⟨.inl hq, fun a ha => good_new x1 ha g1 (new_lst x1 (p1.nf e.nf) ha r1.reverse)⟩⟩
  · obtain ⟨p, xs, rfl, hq, r1⟩ := rv.tup
    exact ⟨p, xs, rfl, .inr ⟨hq, fun a o ha ho => good_new x1 ha g1 (new_tup x1 ha ho r1.reverse)⟩⟩
end
end Ev
set_option Elab.async false
set_option linter.all false
set_option maxRecDepth 100000
set_option maxHeartbeats 1000000
/-! Sorting tuples, empty ones too. -/
namespace Ev
open PySem PySem.W PySem.Calls PyProof.Rows PySem.SeqAt

/-- all are tuples, or none is a tuple or None -/
def Sortable2 (ds : List PyData) : Prop := (∀ d, d ∈ ds → ∃ xs, d = .tuple xs) ∨ ∀ d, d ∈ ds → d ≠ .none ∧ ∀ xs, d ≠ .tuple xs

section
variable {prog : Program} {w : World} {A : Around} {E : Value → Shared → Prop} {s : Shared}
theorem call_tuple_lt {Q : Value → Shared → Prop} {l b : Addr} {items items2 : Array Value} {e r : Nat → Bool} (hl : s.heap.IsTuple l items) (hb : s.heap.IsTuple b items2)
    (he : ∀ j (h1 : j < items.size) (h2 : j < items2.size), EqAt A.in1 s items[j] items2[j] (e j)) (hr : ∀ j (h1 : j < items.size) (h2 : j < items2.size), e j = false → RcLt A.in1 s items[j] items2[j] (r j))
    (h : Q (.bool (firstLt e r (decide (items.size < items2.size)) (List.range (min items.size items2.size)))) s) : wpAny (model prog w) A (call (.builtin "tuple.__lt__") [.ref l, .ref b]) Q E s := by
  obtain ⟨⟨cls, dd, data, sl⟩, ho, hc, n, hd⟩ := id hl
  obtain ⟨⟨cls2, dd2, data2, sl2⟩, ho2, hc2, n2, hd2⟩ := id hb
  simp only at hc hd hc2 hd2
  subst hc hd hc2 hd2
  exact call_meets F.slot_tuple_lt ⟨_, ho, rfl⟩ F.entry_tuple_lt (F.args_tuple_lt_2 _ _) (tuple_ltAt l b items items2 n n2 dd dd2 sl sl2 e r) ⟨ho, ho2, he, hr, h⟩

theorem oneLt_tup {xs ys : List PyData} {a b : Value} {as bs : List Addr} {Q : Bool → Shared → Prop} (ra : Reads s.heap a (.tuple xs) as) (rb : Reads s.heap b (.tuple ys) bs) (h : alike (.tuple xs) (.tuple ys) = true)
    (hu : A.units + min (PyData.tuple xs).depth (PyData.tuple ys).depth < cLine) (hq : Q (dataLt (.tuple xs) (.tuple ys)) s) : wpAny (model prog w) A (oneLt' true a b) Q E s := by
  have hal : alikeAll xs ys = true := by simpa [alike] using h
  cases ra with
  | @tuple l o vs n _ as₁ h1 h2 h3 h4 =>
    cases rb with
    | @tuple l' o' vs' n' _ bs₁ k1 k2 k3 k4 =>
      have n1 : vs.size = xs.length := by simpa using ReadsAll.length _ _ _ h4
      have n2 : vs'.size = ys.length := by simpa using ReadsAll.length _ _ _ k4
      rw [dataLt_tuple, ← firstLt_toks xs ys hal, ← n1, ← n2] at hq
      rw [oneLt'_eq]
      simp only [if_true]
      refine wpAny_bind (wpAny_cRoomFor (room_here hu) ?_)
      refine wpAny_bind (wpAny_callSpecialIfBound?_slot (T := "tuple") ⟨_, h1, h2⟩ F.slot_tuple_lt (call_tuple_lt (e := pairEq xs ys) (r := fun j => dataLt (xs.getD j .none) (ys.getD j .none)) ⟨_, h1, h2, _, h3⟩ ⟨_, k1, k2, _, k3⟩ (fun j j1 j2 => ?_) (fun j j1 j2 hj => ?_) ?_))
      · have := eqAt_alikeAll xs ys A.in1 s vs.toList vs'.toList _ _ h4 k4 hal (room_in hu) j (by simpa using j1) (by simpa using j2)
        simpa using this
      · have := rcLt_alikeAll xs ys A.in1 s vs.toList vs'.toList _ _ h4 k4 hal (room_in hu) j (by simpa using j1) (by simpa using j2) hj
        simpa using this
      · exact wpAny_truthy_bool hq

theorem firsts_any {M : Model} : ∀ {vs : List Value} {ds : List PyData}, EachIs (fun v d => ∃ as, Reads s.heap v d as) vs ds → (∀ d, d ∈ ds → ∃ xs, d = .tuple xs) →
    ∃ os : List (Option Value), os.length = ds.length ∧ (∀ i : Nat, (os[i]?.bind id).isSome = true → ∃ x r, ds[i]? = some (PyData.tuple (x :: r))) ∧ ((os.all fun o => o.isSome) = true → ∀ d ∈ ds, ∃ x r, d = PyData.tuple (x :: r)) ∧ ∀ {A : Around} {E : Value → Shared → Prop} {Q : List (Option Value) → Shared → Prop}, Q os s → wpAny M A (vs.mapM firstOfTuple') Q E s
  | _, _, .nil, _ => ⟨[], rfl, fun i h => by simp at h, fun _ d hd => by simp at hd, fun q => by rw [List.mapM_nil]; exact wpAny_pure q⟩
  | v :: vs, d :: ds, .cons ⟨as, r⟩ t, ht => by
    obtain ⟨os, k1, k2, k3, k4⟩ := firsts_any (M := M) t fun d hd => ht d (List.mem_cons_of_mem _ hd)
    obtain ⟨xs, rfl⟩ := ht d (List.mem_cons_self ..)
    cases r with
    | @tuple a o its n _ _ ho hc hd hr =>
      refine ⟨its[0]? :: os, by simp [k1], fun i h => ?_, fun h => ?_, fun {A E Q} q => ?_⟩
      · cases i with
        | zero =>
          cases xs with
          | nil =>
            cases q : its.toList with
            | nil =>
              have : its = #[] := by simpa using q
              subst this
              simp at h
            | cons y ys => rw [q] at hr; cases hr
          | cons x r => exact ⟨x, r, rfl⟩
        | succ i => simpa using k2 i (by simpa using h)
      · have h2 : (its[0]?.isSome = true) ∧ (os.all fun o => o.isSome) = true := by simpa using h
        intro d hd
        rcases List.mem_cons.mp hd with rfl | hd
        · cases xs with
          | nil =>
            cases q : its.toList with
            | nil =>
              have : its = #[] := by simpa using q
              subst this
              simp at h2
            | cons y ys => rw [q] at hr; cases hr
          | cons x r => exact ⟨x, r, rfl⟩
        · exact k3 h2.2 d hd
      · rw [List.mapM_cons]
        refine wpAny_bind ?_
        rw [kas_first_eq]
        refine wpAny_bind (Looks.here (show Looks M s.heap (typeOf (.ref a)) o.cls from (Looks.ld ho).andThen .now) ?_)
        rw [hc, if_neg (by first | decide | simp)]
        refine wpAny_bind (listItems_at ho hd (wpAny_pure ?_))
        exact wpAny_bind (k4 (Q := fun bs s' => wpAny M A (pure (its[0]? :: bs)) Q E s') (wpAny_pure q))

/-- values that read as alike data can be sorted -/
theorem SortsAt.data2 {vs : List Value} {ds : List PyData} (e : EachIs (fun v d => ∃ as, Reads s.heap v d as) vs ds) (hal : AllAlike ds) (hk : Sortable2 ds) (hu : ∀ d, d ∈ ds → A.units + d.depth < cLine) : SortsAt prog w A s (dataKind s.heap ds) vs := by
  rcases hk with ht | hn
  · by_cases h1 : ∀ d, d ∈ ds → ∃ x r, d = .tuple (x :: r)
    · exact SortsAt.data e hal (.inl h1) hu
    · have room : ∀ {d d' : PyData}, d ∈ ds → A.units + min d.depth d'.depth < cLine := fun {d d'} hd => Nat.lt_of_le_of_lt (Nat.add_le_add_left (Nat.min_le_left _ _) _) (hu d hd)
      refine ⟨fun v hv => ?_, ?_⟩
      · obtain ⟨d, hd, as, r⟩ := e.left v hv
        exact ⟨_, dataKind_some hal hd r⟩
      · obtain ⟨os, k1, k2, k3, k4⟩ := firsts_any (M := model prog w) e ht
        have hall : ¬ (os.toArray.all fun x => x.isSome) = true := fun z => h1 (k3 (by simpa using z))
        have hl : vs.length = ds.length := e.length
        by_cases h0 : (os.toArray[0]?.bind id).isSome = true
        · refine ⟨general', fun E x y a b Q ha hb hq => ?_, fun h2 E Q hq => ?_⟩
          · obtain ⟨d, as, hd, ra, rfl⟩ := dataKind_inv ha
            obtain ⟨d', as', hd', rb, rfl⟩ := dataKind_inv hb
            show wpAny (model prog w) A (oneLt' false x y) Q E s
            exact oneLt_alike (fun z => by cases z) ra rb (hal d hd d' hd') (fun z => by obtain ⟨xs, q⟩ := ht d hd; rw [q] at z; cases z) (room hd) hq
          · rw [kat_kind_eq, List.mapM_toArray, map_eq_pure_bind]
            refine wpAny_bind (wpAny_bind (k4 (wpAny_pure ?_)))
            rw [if_neg hall, if_pos h0]
            exact wpAny_pure hq
        · refine ⟨oneType', fun E x y a b Q ha hb hq => ?_, fun h2 E Q hq => ?_⟩
          · obtain ⟨d, as, hd, ra, rfl⟩ := dataKind_inv ha
            obtain ⟨d', as', hd', rb, rfl⟩ := dataKind_inv hb
            rw [keyLt'_oneType]
            have hx := hal d hd d' hd'
            have hr := room (d' := d') hd
            obtain ⟨xs, rfl⟩ := ht d hd
            obtain ⟨ys, rfl⟩ := ht d' hd'
            exact oneLt_tup ra rb hx hr hq
          · rw [kat_kind_eq, List.mapM_toArray, map_eq_pure_bind]
            refine wpAny_bind (wpAny_bind (k4 (wpAny_pure ?_)))
            rw [if_neg hall, if_neg h0]
            have hT : ∀ v ∈ vs, Looks (model prog w) s.heap (typeOf v) (Value.type "tuple") := fun v hv => by
              obtain ⟨d, hd, as, r⟩ := e.left v hv
              obtain ⟨xs, rfl⟩ := ht d hd
              exact looks_reads r
            rw [oneTypeOnly'_eq, List.mapM_toArray, map_eq_pure_bind]
            refine wpAny_bind (wpAny_bind (wpAny_bind (kas_mapM (r := Value.type "tuple") _ (fun v hv Q' hq => (hT v hv).here hq) (wpAny_pure ?_))))
            obtain ⟨v1, r1, rfl⟩ : ∃ v1 r1, vs = v1 :: r1 := by
              cases vs with
              | nil => simp at h2
              | cons a b => exact ⟨a, b, rfl⟩
            have hall2 : ((List.map (fun _ => Value.type "tuple") (v1 :: r1)).toArray.all fun x => x == Value.type "tuple") = true := by
              simp only [List.all_toArray, List.all_map, List.all_eq_true]
              intro _ _
              exact beq_self_eq_true _
            have h00 : (List.map (fun _ => Value.type "tuple") (v1 :: r1)).toArray[0]? = some (Value.type "tuple") := by simp
            rw [h00]
            simp only [hall2, if_true]
            exact wpAny_pure (wpAny_pure hq)
  · exact SortsAt.data e hal (.inr hn) hu
end
end Ev
set_option Elab.async false
set_option linter.all false
set_option maxRecDepth 100000
set_option maxHeartbeats 1000000
/-! Calls with dicts: len(d), list(d), what sorted(d) walks, dict(pairs). -/
namespace Ev
open PySem PySem.Spec PyProof.Rows L2

/-! ### the keys, told in a list -/
section
variable {K : PySem.W.Frag} {Mu : Addr → Prop} {H : Hp}
theorem RepP.keysL : ∀ {es : List DictEntry} {kvs : List (D × D)}, RepP K Mu H es kvs → ∃ vs, RepL K Mu H vs (dKeys kvs) ∧ Vals vs (es.map (·.key))
  | _, _, .nil => ⟨[], .nil, .nil⟩
  | _, _, .cons h1 h2 _ _ _ _ r => by
    obtain ⟨vs, q1, q2⟩ := RepP.keysL r
    exact ⟨_ :: vs, .cons h1 q1, .cons h2 q2⟩
end
theorem items_keys {arr : Array DictEntry} {acc : Array Value} (h : PySem.ItemsOf (fun i v => ∃ en : DictEntry, arr[i]? = some en ∧ v = en.key) acc arr.size) : acc.toList = arr.toList.map (·.key) := by
  apply List.ext_getElem?
  intro j
  rw [List.getElem?_map]
  cases hj : acc.toList[j]? with
  | none =>
    have h1 := List.getElem?_eq_none_iff.mp hj
    rw [Array.length_toList, h.1] at h1
    rw [List.getElem?_eq_none (by rw [Array.length_toList]; exact h1)]
    rfl
  | some v =>
    obtain ⟨en, hen, hv⟩ := h.2 j v (by rw [← Array.getElem?_toList]; exact hj)
    rw [Array.getElem?_toList, hen, hv]
    rfl

section
variable {X : Cx}
open PySem.W in
theorem kdl_collect {prog : Program} {w : World} {A : Around} {E : Value → Shared → Prop} {s : Shared} {T : String} {r d : Addr} {n : Nat} {P : Nat → Value → Prop} {OK : Heap → Prop} {R : List Value → Shared → Prop} (K : KdlSrc prog w T r d n P OK) (hh : A.handled = none) (hok : OK s.heap) (hn : n ≤ sizeLine)
    (h : ∀ (h' : Heap) (tk : Nat) (acc : Array Value), (∀ b o, s.heap.get? b = some o → h'.get? b = some o) → ItemsOf P acc n → R acc.toList { s with heap := h', toks := tk }) :
    wpAny (model prog w) A (collect (.ref r)) R E s := by
  have hlt := K.there _ hok
  unfold collect
  refine wpAny_bind (wpAny_runValue (codeAny_builtin entry_proto_collect' ?_))
  rw [Around.under_plainId PySem.F.plain_proto_collect _]
  show wpAny _ A.in1 (newList [] >>= fun l => again (.builtin "list.__iadd__" ⟨[l, .ref r], []⟩)) _ _ s
  refine wpAny_bind (wpAny_newObj_type ?_)
  refine wpAny_pure ⟨plainId_quiet PySem.F.plain_list_iadd _, codeAny_builtin entry_list_iadd' ?_⟩
  rw [Around.under_plainId PySem.F.plain_list_iadd _]
  have hS₁ : (s.heap.push { cls := .type "list", data := .seq ([] : List Value).toArray }).get? s.heap.objs.size = some { cls := .type "list", data := .seq #[] } := Heap.get?_push_size _ rfl
  show wpAny _ A.in1 (Builtin.List.listExtendWith (.ref s.heap.objs.size) (.ref r) (.ref s.heap.objs.size)) _ _ _
  have key := kdl_extend (prog := prog) (w := w) (A := A) (s := { s with heap := s.heap.push { cls := .type "list", data := .seq ([] : List Value).toArray } })
    (R := fun (q : Result) (s' : Shared) => ∃ (h' : Heap) (tk : Nat) (acc' : Array Value) (c' : Nat), q = .ok (.ret (.ref s.heap.objs.size)) ∧ s' = { s with heap := h', toks := tk } ∧
      (∀ b o, s.heap.get? b = some o → h'.get? b = some o) ∧ h'.get? s.heap.objs.size = some { cls := .type "list", dict := none, data := .seq acc' c', slots := #[] } ∧ ItemsOf P acc' n)
    K hh (K.keep _ _ hok fun b _ o e => Heap.get?_push_of_some _ e) s.heap.objs.size (Nat.ne_of_gt hlt.1) (Nat.ne_of_gt hlt.2) (.ref s.heap.objs.size) 0 hS₁
    (fun h' tk acc' c' hk hS' hacc => ⟨h', tk, acc', c', rfl, rfl, fun b o e => hk b o (Nat.ne_of_lt (Heap.lt_size e)) (Heap.get?_push_of_some _ e), hS', hacc⟩) hn
  refine wpAny_mono key (fun fin s' x => ?_) fun e s' x => ?_
  · cases fin with
    | done f =>
      obtain ⟨h', tk, acc', c', e, rfl, hk, hS', hacc⟩ := x
      cases e
      show wpAny _ A (load s.heap.objs.size >>= _) _ _ _
      refine wpAny_bind (wpAny_load hS' ?_)
      refine wpAny_pure ?_
      exact h h' tk acc' hk hacc
    | again c₁ =>
      refine ⟨x.1, codeAny_mono x.2 fun q s₂ y => ?_⟩
      obtain ⟨h', tk, acc', c', rfl, rfl, hk, hS', hacc⟩ := y
      show wpAny _ A (load s.heap.objs.size >>= _) _ _ _
      refine wpAny_bind (wpAny_load hS' ?_)
      refine wpAny_pure ?_
      exact h h' tk acc' hk hacc
  · obtain ⟨_, _, _, _, e', _⟩ := x
    cases e'

/-- a dict as what is walked -/
theorem dk_src {pins : List (Addr × Obj)} {σ : L2.St} {H : Hp} {s : Shared} (I : Inv X pins σ H s) {a : Addr} {o : Obj} {es : List DictEntry} {kvs : List (D × D)} (h : H a = some (DicO a o)) (k : DicOk a o es kvs) : ∃ (arr : Array DictEntry), arr.toList = es ∧ s.heap.get? a = some o ∧ PySem.W.KdlSrc X.prog X.w "dict" a a arr.size (fun i v => ∃ en : DictEntry, arr[i]? = some en ∧ v = en.key) (fun h => h.get? a = some o) := by
  obtain ⟨arr, ep, hd, he⟩ := k.dat
  obtain ⟨ho, _, _⟩ := I.hok a _ h
  exact ⟨arr, he, ho, kdl_raw k.sys k.ex hd⟩
def rLenK (X : Cx) : List V → Hp → VK → Prop := fun xs H Q => ∃ (Mu : Addr → Prop) (a : Addr) (o : Obj) (es : List DictEntry) (kvs : List (D × D)), xs = [.ref a] ∧ H a = some (DicO a o) ∧ DicOk a o es kvs ∧ RepP X.K Mu H es kvs ∧ Q (.int kvs.length) H
theorem cr_lenK : CallR X (.builtin "len") (rLenK X) := by
  intro pins s σ H xs us Q I r h
  obtain ⟨Mu, a, o, es, kvs, rfl, ha, hk, hr, q⟩ := h
  obtain ⟨u, rfl, rx⟩ := vals1 r
  cases rx
  obtain ⟨arr, ep, hm, he⟩ := raw_of I ha hk
  have hz : arr.size = kvs.length := by rw [← hr.length, ← he, Array.length_toList]
  have h63 := line63
  have hl := hk.len
  refine call_len_slot (n := kvs.length) hm.typeIs PySem.F.slot_dict_len (fun Q' hq => PySem.call_len_raw hk.sys hm (by rw [hz]; exact hq)) (by omega) (by omega) ?_
  exact ⟨.int kvs.length, H, (I.tok (s.toks + 1)).tok (s.toks + 1 + 1), ⟨_, rfl⟩, q⟩
def rKeysL (X : Cx) : List V → Hp → VK → Prop := fun xs H Q => ∃ (Mu : Addr → Prop) (a : Addr) (o : Obj) (es : List DictEntry) (kvs : List (D × D)), xs = [.ref a] ∧ H a = some (DicO a o) ∧ DicOk a o es kvs ∧ RepP X.K Mu H es kvs ∧ ∀ vs p, RepL X.K Mu H vs (dKeys kvs) → H p = none → Q (.ref p) (upd H p (.lst vs))
theorem cr_listK (hc : X.calm = true) : CallR X (.type "list") (rKeysL X) := by
  intro pins s σ H xs us Q I r h
  obtain ⟨Mu, a, o, es, kvs, rfl, ha, hk, hr, q⟩ := h
  obtain ⟨u, rfl, rx⟩ := vals1 r
  cases rx
  obtain ⟨arr, he, ho, K⟩ := dk_src I ha hk
  have hz : arr.size = kvs.length := by rw [← hr.length, ← he, Array.length_toList]
  have hl := hk.len
  obtain ⟨vs, rl, rv⟩ := hr.keysL
  refine PySem.W.kdl_call K (I.ok.hd hc) ho (by omega) fun h' tk acc' c' kp e it => ?_
  have ea : acc'.toList = es.map (·.key) := by rw [items_keys it, he]
  have hz2 : vs.length ≤ sizeLine := by rw [rv.length, List.length_map, hr.length]; exact hl
  refine ⟨.ref s.heap.objs.size, _, I.laid (t' := tk) (o := .lst vs) kp (Nat.le_refl _) ?_, rfl, q vs _ rl (I.hok.fresh (Nat.le_refl _))⟩
  exact ⟨hz2, acc'.toList, c', by rw [ea]; exact rv, by rw [Array.toArray_toList]; exact e⟩
end
end Ev

/-! ### sorted(d) -/
namespace Ev
open PySem PySem.Spec PyProof.Rows L2
section
open PySem.W
variable {prog : Program} {w : World} {A : Around} {E : Value → Shared → Prop} {s : Shared}
/-- what can be collected -/
def Collects (prog : Program) (w : World) (A : Around) (s : Shared) (it : Addr) (vs : List Value) : Prop := ∀ (R : List Value → Shared → Prop) (E : Value → Shared → Prop), (∀ (h' : Heap) (tk : Nat), (∀ b o, s.heap.get? b = some o → h'.get? b = some o) → R vs { s with heap := h', toks := tk }) → wpAny (model prog w) A (collect (.ref it)) R E s
theorem sorted_of_any {it : Addr} {vs : List Value} (hcol : Collects prog w A.in1 s it vs) (hL : vs.length ≤ sizeLine) {Q : Value → Shared → Prop}
    (body : ∀ (h' : Heap) (tk : Nat) (E' : Value → Shared → Prop), (∀ b o', s.heap.get? b = some o' → h'.get? b = some o') → wpAny (model prog w) A.in1.in1 (Builtin.«list.sort» ⟨[.ref h'.objs.size], []⟩) (fun f s' => f = .done (.ret .none) ∧ Q (.ref h'.objs.size) s') E' { s with heap := h'.push (seqObj "list" vs.toArray 0), toks := tk }) :
    wpAny (model prog w) A (call (.builtin "sorted") [.ref it]) Q E s := by
  refine Calls.call_function_entry kind_sorted plain_sorted entry_sorted (args_sorted1 _) ?_
  unfold Builtin.«sorted»
  refine wpAny_bind (m := checkCount "sorted" 1 1 _) (wpAny_pure ?_)
  refine wpAny_bind (hcol _ _ fun h' tk hk => ?_)
  refine wpAny_bind (wpAny_newList ?_ hL)
  have hoL : (h'.push (seqObj "list" vs.toArray 0)).get? h'.objs.size = some (seqObj "list" vs.toArray 0) := Heap.get?_push_size _ rfl
  refine wpAny_bind (wpAny_holding (wpAny_call_entry slot_list_sort ⟨_, hoL, rfl⟩ entry_list_sort ?body (args_list_sort _)))
  case body =>
    show wpAny (model prog w) A.in1.in1 (Builtin.«list.sort» ⟨[.ref h'.objs.size], []⟩) _ _ _
    refine wpAny_mono (body h' tk _ hk) (fun f s' hf => ?_) fun _ _ e => e
    obtain ⟨rfl, hq⟩ := hf
    exact ⟨_, rfl, wpAny_pure ⟨_, rfl, hq⟩⟩
theorem sorted_any {it : Addr} {vs : List Value} {β : Type} {bs : List β} {enc : β → PyData} {R : Value → β → Prop} (hcol : Collects prog w A.in1 s it vs) (hL : bs.length ≤ sizeLine)
    (e : EachIs R vs bs) (er : EachIs (fun v b => ∃ as, Reads s.heap v (enc b) as) vs bs) (hal : AllAlike (bs.map enc)) (hk : Sortable2 (bs.map enc)) (hu : ∀ b, b ∈ bs → A.units + 2 + (enc b).depth < cLine) {Q : Value → Shared → Prop}
    (h : ∀ (out : List Value) (h1 h' : Heap) (tk : Nat) (c : Nat), out.length = bs.length → EachIs R out (bs.mergeSort (dataLe false enc)) → (∀ b o', s.heap.get? b = some o' → h1.get? b = some o') → (∀ b o', h1.get? b = some o' → h'.get? b = some o') → h'.get? h1.objs.size = some (seqObj "list" out.toArray c) → Q (.ref h1.objs.size) { s with heap := h', toks := tk }) :
    wpAny (model prog w) A (call (.builtin "sorted") [.ref it]) Q E s := by
  have hL' : vs.length ≤ sizeLine := by rw [e.length]; exact hL
  refine sorted_of_any hcol hL' fun h' tk E' hk' => ?_
  have hat : (h'.push (seqObj "list" vs.toArray 0)).get? h'.objs.size = some (seqObj "list" vs.toArray 0) := Heap.get?_push_size _ rfl
  have hold : ∀ b o', s.heap.get? b = some o' → (sortingHeap (h'.push (seqObj "list" vs.toArray 0)) h'.objs.size vs).get? b = some o' := fun b o' hb =>
    sortingHeap_old (Nat.ne_of_lt (Heap.lt_size (hk' _ _ hb))) (Heap.get?_push_of_some _ (hk' _ _ hb))
  have er' : EachIs (fun v b => ∃ as, Reads (sortingHeap (h'.push (seqObj "list" vs.toArray 0)) h'.objs.size vs) v (enc b) as) vs bs := er.mono fun _ _ ⟨as, r⟩ => ⟨as, PyProof.Rows.Reads.keeps hold r⟩
  refine list_sort_vals (s := { s with heap := h'.push (seqObj "list" vs.toArray 0), toks := tk }) hat (SortsAt.data2 (s := { s with heap := sortingHeap (h'.push (seqObj "list" vs.toArray 0)) h'.objs.size vs, toks := tk }) (each_map (R := fun v d => ∃ as, Reads (sortingHeap (h'.push (seqObj "list" vs.toArray 0)) h'.objs.size vs) v d as) enc er') hal hk (bound_map hu)) hL' ?_
  obtain ⟨c, hc'⟩ := PyProof.Rows.sortedHeap_at (out := (sortVals (dataKind (sortingHeap (h'.push (seqObj "list" vs.toArray 0)) h'.objs.size vs) (bs.map enc)) false vs vs).toArray) hat
  refine ⟨rfl, h _ _ _ tk c (by rw [sortVals_length false rfl]; exact e.length) (sortVals_data false e er' hal) hk' (fun b o' hb => ?_) hc'⟩
  have hlt := Heap.lt_size hb
  rw [PyProof.Rows.sortedHeap_old (Nat.ne_of_lt hlt) (by rw [size_push']; exact Nat.lt_succ_of_lt hlt)]
  exact Heap.get?_push_of_some _ hb
end
end Ev
/-! ### dict(pairs) -/
namespace Ev
open PySem PySem.Spec PyProof.Rows L2
def fits : List (D × D) → List (D × D) → Bool
  | _, [] => true
  | kvs, p :: r => keyFit kvs p.1 && decide (kvs.length < line) && fits (dPut kvs p.1 p.2) r
def dPs (kvs ps : List (D × D)) : List (D × D) := ps.foldl (fun a p => dPut a p.1 p.2) kvs
section
variable {K : PySem.W.Frag} {S : Stg K} {Mu : Addr → Prop} {H : Hp} {XA : Exn → Value → Option Addr → Hp → Prop} {E : XK} {h : List D}
theorem Good.puts {P : List (D × D) → List D → Hp → Prop} (x : HandAt S Mu H h) : ∀ (ps kvs : List (D × D)), Good S Mu XA (dPuts kvs ps h) H P E → fits kvs ps = true ∧ Good S Mu XA (Ev.ret (dPs kvs ps) h) H P E
  | [], kvs, g => ⟨rfl, g⟩
  | p :: r, kvs, g => by
    have g1 := Good.bnd (show Good S Mu XA (Ev.bnd (dPutV kvs p.1 p.2) (fun kvs' => dPuts kvs' r) h) H P E from g)
    unfold dPutV at g1
    obtain ⟨z, g1⟩ := Good.chk g1
    obtain ⟨z2, g2⟩ := Good.puts x r _ (g1.ret x)
    refine ⟨?_, g2⟩
    show (keyFit kvs p.1 && decide (kvs.length < line) && fits (dPut kvs p.1 p.2) r) = true
    rw [z, z2]; rfl
end
theorem puts_len : ∀ (ps kvs : List (D × D)), (dPs kvs ps).length ≤ kvs.length + ps.length
  | [], kvs => Nat.le_refl _
  | p :: r, kvs => by
    have h1 := puts_len r (dPut kvs p.1 p.2)
    have h2 := dPut_len kvs p.1 p.2
    show (dPs (dPut kvs p.1 p.2) r).length ≤ _
    rw [List.length_cons]
    omega
theorem puts_ok : ∀ (ps kvs : List (D × D)), fits kvs ps = true → kvsOk kvs = true → kvsNd kvs → kvsOk (dPs kvs ps) = true ∧ kvsNd (dPs kvs ps)
  | [], kvs, _, a, b => ⟨a, b⟩
  | p :: r, kvs, f, a, b => by
    simp only [fits, Bool.and_eq_true] at f
    exact puts_ok r _ f.2 (fit_put f.1.1) (nd_put b)
theorem mem_put {kvs : List (D × D)} {k d : D} {p : D × D} (h : p ∈ kvs) : ∃ q ∈ dPut kvs k d, q.1 = p.1 := by
  cases e : dAt kvs k with
  | none => rw [dPut_new e]; exact ⟨p, List.mem_append_left _ h, rfl⟩
  | some x =>
    have := dPut_keys (d := d) (by rw [e]; rfl : (dAt kvs k).isSome = true)
    have hm : p.1 ∈ (dPut kvs k d).map (·.1) := by rw [this]; exact List.mem_map_of_mem h
    obtain ⟨q, hq, e⟩ := List.mem_map.mp hm
    exact ⟨q, hq, e⟩
theorem mem_put_self {kvs : List (D × D)} {k d : D} (h : keyFit kvs k = true) : ∃ q ∈ dPut kvs k d, (kInt q.1 = kInt k) ∧ kTup q.1 = kTup k := by
  cases e : dAt kvs k with
  | none => rw [dPut_new e]; exact ⟨(k, d), List.mem_append_right _ (by simp), rfl, rfl⟩
  | some x =>
    obtain ⟨q, hq, _⟩ := Option.map_eq_some_iff.mp (show (kvs.find? fun p => PyData.eqv p.1 k).map (·.2) = some x from e)
    have hm := List.mem_of_find?_eq_some hq
    obtain ⟨q', h1, h2⟩ := mem_put (k := k) (d := d) hm
    refine ⟨q', h1, ?_⟩
    rw [h2]
    unfold keyFit at h
    simp only [Bool.or_eq_true, Bool.and_eq_true, List.all_eq_true] at h
    rcases h with ⟨a, b⟩ | ⟨a, b⟩
    · have := b q hm
      obtain ⟨i, e1⟩ := kInt_inv a
      obtain ⟨j, e2⟩ := kInt_inv this
      rw [e1, e2]; exact ⟨rfl, rfl⟩
    · have := b q hm
      rw [a, this]
      obtain ⟨_, _, e1, _⟩ := kTup_inv a
      obtain ⟨_, _, e2, _⟩ := kTup_inv this
      rw [e1, e2]; exact ⟨rfl, rfl⟩
theorem not_both {d : D} (a : kInt d = true) (b : kTup d = true) : False := by
  obtain ⟨i, rfl⟩ := kInt_inv a
  cases b
theorem fits_int : ∀ (ps kvs : List (D × D)), fits kvs ps = true → (∃ q ∈ kvs, kInt q.1 = true) → (ps.all fun p => kInt p.1) = true
  | [], _, _, _ => rfl
  | p :: r, kvs, f, ⟨q, hq, e⟩ => by
    simp only [fits, Bool.and_eq_true] at f
    have k : kInt p.1 = true := by
      have f1 := f.1.1
      unfold keyFit at f1
      simp only [Bool.or_eq_true, Bool.and_eq_true, List.all_eq_true] at f1
      rcases f1 with z | z
      · exact z.1
      · exact (not_both e (z.2 q hq)).elim
    obtain ⟨q', h1, h2⟩ := mem_put (k := p.1) (d := p.2) hq
    rw [List.all_cons, k, fits_int r _ f.2 ⟨q', h1, by rw [h2]; exact e⟩]
    rfl
theorem fits_tup : ∀ (ps kvs : List (D × D)), fits kvs ps = true → (∃ q ∈ kvs, kTup q.1 = true) → (ps.all fun p => kTup p.1) = true
  | [], _, _, _ => rfl
  | p :: r, kvs, f, ⟨q, hq, e⟩ => by
    simp only [fits, Bool.and_eq_true] at f
    have k : kTup p.1 = true := by
      have f1 := f.1.1
      unfold keyFit at f1
      simp only [Bool.or_eq_true, Bool.and_eq_true, List.all_eq_true] at f1
      rcases f1 with z | z
      · exact (not_both (z.2 q hq) e).elim
      · exact z.1
    obtain ⟨q', h1, h2⟩ := mem_put (k := p.1) (d := p.2) hq
    rw [List.all_cons, k, fits_tup r _ f.2 ⟨q', h1, by rw [h2]; exact e⟩]
    rfl
theorem fits_kind : ∀ (ps : List (D × D)), fits [] ps = true → (ps.all fun p => kInt p.1) = true ∨ (ps.all fun p => kTup p.1) = true
  | [], _ => .inl rfl
  | p :: r, f => by
    simp only [fits, Bool.and_eq_true] at f
    have f1 := f.1.1
    obtain ⟨q, hq, e1, e2⟩ := mem_put_self (d := p.2) f1
    unfold keyFit at f1
    simp only [Bool.or_eq_true, Bool.and_eq_true] at f1
    rcases f1 with z | z
    · exact .inl (by rw [List.all_cons, z.1, fits_int r _ f.2 ⟨q, hq, by rw [e1]; exact z.1⟩]; rfl)
    · exact .inr (by rw [List.all_cons, z.1, fits_tup r _ f.2 ⟨q, hq, by rw [e2]; exact z.1⟩]; rfl)
section
variable {K : PySem.W.Frag} {Mu : Addr → Prop} {H : Hp}
theorem PI_.puts : ∀ {qs : List (Key × Value)} {ps : List (D × D)}, PI_ K Mu H qs ps → ∀ {acc : List (Key × Value)} {kvs : List (D × D)}, PI_ K Mu H acc kvs → PI_ K Mu H (merged acc qs) (dPs kvs ps)
  | _, _, .nil, _, _, a => a
  | _, _, .cons h1 h2 r, _, _, a => PI_.puts r (a.put _ h1 h2)
theorem PT_.puts : ∀ {qs : List (NestedKey × Addr × Value)} {ps : List (D × D)}, PT_ K Mu H qs ps → ∀ {acc : List (NestedKey × Addr × Value)} {kvs : List (D × D)}, PT_ K Mu H acc kvs → PT_ K Mu H (storedAllH acc qs) (dPs kvs ps)
  | _, _, .nil, _, _, a => a
  | _, _, .cons h1 h2 h3 h4 h5 r, _, _, a => PT_.puts r (a.put h1 h2 h3 h4 h5)
/-- pairs in the heap -/
inductive PrsAt (K : PySem.W.Frag) (Mu : Addr → Prop) (H : Hp) (hp : Heap) : List Value → List (D × D) → Prop
  | nil : PrsAt K Mu H hp [] []
  | cons {b : Addr} {u1 u2 : Value} {v1 v2 : V} {k d : D} {us : List Value} {ps : List (D × D)} : IsTup hp b #[u1, u2] → Rep K Mu H v1 k → RelV v1 u1 → Rep K Mu H v2 d → RelV v2 u2 → PrsAt K Mu H hp us ps → PrsAt K Mu H hp (.ref b :: us) ((k, d) :: ps)
theorem RepP.grow {p : Addr} {o : HO} {es : List DictEntry} {kvs : List (D × D)} (n : H p = none) (r : RepP K Mu H es kvs) : RepP K (Add Mu p) (upd H p o) es kvs :=
  r.stay ⟨fun a o d m e => ⟨fun z => z.elim m fun q => (ne_of_none e n) q, by rw [upd_ne (ne_of_none e n)]; exact e⟩, fun a xs e => by rw [upd_ne (ne_of_none e n)]; exact e, fun a o u e => ⟨fun m z => z.elim m fun q => (ne_of_none e n) q, by rw [upd_ne (ne_of_none e n)]; exact e⟩⟩
end
section
variable {X : Cx} {pins : List (Addr × Obj)} {σ : L2.St} {H : Hp} {s : Shared} {Mu : Addr → Prop}
theorem prs_at (I : Inv X pins σ H s) : ∀ {vs : List V} {ds : List D} {us : List Value} {ps : List (D × D)}, RepL X.K Mu H vs ds → Vals vs us → pairsL ds = some ps → PrsAt X.K Mu H s.heap us ps
  | _, _, _, _, .nil, .nil, e => by cases e; exact .nil
  | _, _, _, ps, .cons (d := d) (ds := ds) r rs, .cons q qs, e => by
    unfold pairsL at e
    split at e
    · rename_i heq; cases heq
    · rename_i k v r' heq
      cases heq
      cases hp : pairsL ds with
      | none => rw [hp] at e; cases e
      | some ps' =>
        rw [hp] at e
        cases e
        have ih := prs_at I rs qs hp
        cases r with
        | tup hs ha =>
          cases q
          obtain ⟨its, rv, ht, _⟩ := I.tuple hs.sq
          cases ha with
          | cons a1 a2 =>
            cases a2 with
            | cons b1 b2 =>
              cases b2
              cases rv with
              | cons c1 c2 =>
                cases c2 with
                | cons e1 e2 =>
                  cases e2
                  exact .cons ht a1 c1 b1 e1 ih
    · cases e
theorem prs_int : ∀ {us : List Value} {ps : List (D × D)} {hp : Heap}, PrsAt X.K Mu H hp us ps → (ps.all fun p => kInt p.1) = true → ∃ qs : List (Key × Value), PI_ X.K Mu H qs ps ∧ qs.length = us.length ∧ ∀ (j : Nat) (q : Key × Value), qs[j]? = some q → ∃ (b : Addr) (u : Value), us[j]? = some (.ref b) ∧ IsTup hp b #[u, q.2] ∧ keyIs q.1 u = true
  | _, _, _, .nil, _ => ⟨[], .nil, rfl, fun j q e => by cases e⟩
  | _, _, _, .cons (u1 := u1) (u2 := u2) t h1 h2 h3 h4 r, ha => by
    rw [List.all_cons, Bool.and_eq_true] at ha
    obtain ⟨qs, q1, q2, q3⟩ := prs_int r ha.2
    obtain ⟨i, e⟩ := kInt_inv ha.1
    cases e
    obtain rfl := h1.int_inv
    obtain ⟨tk, rfl⟩ := (show ∃ t, u1 = Value.int i t from h2)
    refine ⟨(.inl i, u2) :: qs, .cons h3 h4 q1, by rw [List.length_cons, List.length_cons, q2], fun j q e => ?_⟩
    cases j with
    | zero => cases e; exact ⟨_, _, rfl, t, mixKind_int X.prog X.w i tk⟩
    | succ j =>
      obtain ⟨b, u, e1, e2⟩ := q3 j q (by simpa using e)
      exact ⟨b, u, by simpa using e1, e2⟩
/-- the pairs' addresses -/
def refOf : List Value → Nat → Addr := fun us j => match us[j]? with
  | some (.ref b) => b
  | _ => 0
theorem prs_tup : ∀ {us : List Value} {ps : List (D × D)} {hp : Heap}, PrsAt X.K Mu H hp us ps → (ps.all fun p => kTup p.1) = true → ∃ xs : List (NestedKey × Addr × Value), PT_ X.K Mu H xs ps ∧ xs.length = us.length ∧ ∀ (j : Nat) (x : NestedKey × Addr × Value), xs[j]? = some x → ∃ b, us[j]? = some (.ref b) ∧ IsTup hp b #[.ref x.2.1, x.2.2]
  | _, _, _, .nil, _ => ⟨[], .nil, rfl, fun j q e => by cases e⟩
  | _, _, _, .cons (b := b) (u1 := u1) (u2 := u2) t h1 h2 h3 h4 r, ha => by
    rw [List.all_cons, Bool.and_eq_true] at ha
    obtain ⟨qs, q1, q2, q3⟩ := prs_tup r ha.2
    obtain ⟨ys, ks, e, ek, ed⟩ := kTup_inv ha.1
    cases e
    cases h1 with
    | @tup a _ _ hs hr =>
      cases h2
      refine ⟨(.tup ks, a, u2) :: qs, .cons (.tup hs hr) ha.1 ek h3 h4 q1, by rw [List.length_cons, List.length_cons, q2], fun j q e => ?_⟩
      cases j with
      | zero => cases e; exact ⟨_, rfl, t⟩
      | succ j =>
        obtain ⟨b, e1, e2⟩ := q3 j q (by simpa using e)
        exact ⟨b, by simpa using e1, e2⟩
def rDict (X : Cx) : List V → Hp → VK → Prop := fun xs H Q => ∃ (Mu : Addr → Prop) (p : Addr) (vs : List V) (ds : List D) (ps : List (D × D)), xs = [.ref p] ∧ SqL X.K H p vs ∧ RepL X.K Mu H vs ds ∧ pairsL ds = some ps ∧ fits [] ps = true ∧ ∀ a o es, H a = none → DicOk a o es (dPs [] ps) → RepP X.K Mu H es (dPs [] ps) → Q (.ref a) (upd H a (DicO a o))
theorem cr_dict (hc : X.calm = true) (hu : X.A.units + 64 < cLine) : CallR X (.type "dict") (rDict X) := by
  intro pins s σ H xs us Q I r h
  obtain ⟨Mu, p, vs, ds, ps, rfl, hq, hr, hp, hf, q⟩ := h
  obtain ⟨u, rfl, rx⟩ := vals1 r
  cases rx
  obtain ⟨its, rv, pl, hz⟩ := I.list hq
  have pa := prs_at I hr rv hp
  obtain ⟨o, n, ho, hcl, hd, hdat⟩ := pl
  have hm : (s.heap.objs.size == sysModules) = false := beq_eq_false_iff_ne.mpr (Nat.ne_of_gt I.big)
  have hok := puts_ok ps [] hf rfl trivial
  have hlv := rv.length
  rcases fits_kind ps hf with hk | hk
  · obtain ⟨qs, q1, q2, q3⟩ := prs_int pa hk
    refine L2.call_dict_pairs (prs := qs) (I.ok.hd hc) ho hcl hd hdat (by simp [q2]) (by rw [q2, ← hlv]; exact hz) (fun j q' e => ?_) fun h' tk hd' k => ?_
    · obtain ⟨b, u, e1, e2, e3⟩ := q3 j q' e
      exact ⟨b, u, by simp [e1], e2, e3⟩
    · have pi := q1.puts (acc := []) (kvs := []) .nil
      obtain ⟨o', arr, ep, ho', hx', hdt', hk', hp', _⟩ := hd'
      have hl : (dPs [] ps).length ≤ sizeLine := by
        have z1 := puts_len ps []
        have z2 := q1.length
        simp only [List.length_nil] at z1
        omega
      exact ⟨.ref s.heap.objs.size, upd H s.heap.objs.size (DicO _ o'), I.laid (t' := tk) k (Nat.le_refl _) (dicO_ok ho'), rfl, q _ _ arr.toList (I.hok.fresh (Nat.le_refl _)) ⟨hx', ⟨arr, ep, hdt', rfl⟩, hm, hok.1, hok.2, hl⟩ (repP_int hp' pi fun e he => hk' e (Array.mem_toList_iff.mp he))⟩
  · obtain ⟨qs, q1, q2, q3⟩ := prs_tup pa hk
    have hl : (dPs [] ps).length ≤ sizeLine := by
      have z1 := puts_len ps []
      have z2 := q1.length
      simp only [List.length_nil] at z1
      omega
    refine PySem.call_dict_pairsH (knd := nestedKind X.prog X.w) (ps := qs) (s := s) (PairArg.list p its.toArray (refOf its) (qs.map fun x => (.ref x.2.1, x.2.2))) (I.ok.hd hc) (show X.A.units + 1 + 1 + 8 < cLine by omega) ⟨⟨o, n, ho, hcl, hd, hdat⟩, by simp [q2], fun j k v e => ?_⟩ ⟨by simp, fun i key v e => ?_⟩ (fun h' kp x hx => ?_) (by simp only [List.length_map]; rw [q2, ← hlv]; exact hz) fun h' tk hd' kp => ?_
    · rw [List.getElem?_map] at e
      cases hx : qs[j]? with
      | none => rw [hx] at e; cases e
      | some x =>
        rw [hx] at e
        cases e
        obtain ⟨b, e1, e2⟩ := q3 j x hx
        have hr' : refOf its j = b := by unfold refOf; rw [e1]
        rw [hr']
        exact ⟨by simp [e1], .inl e2⟩
    · unfold PairRel at e
      rw [List.getElem?_map] at e
      cases hx : qs[i]? with
      | none => rw [hx] at e; cases e
      | some x =>
        rw [hx] at e
        cases e
        exact ⟨x.1, x.2.1, rfl, rfl⟩
    · exact nestedKind_stays.stays (fun b o vs m e _ => kp b o (Nat.ne_of_lt (Heap.lt_size e)) (fun z => nomatch z) e) (pt_is I q1 x hx)
    · have pt := q1.puts (acc := []) (kvs := []) .nil
      obtain ⟨o', arr, ep, ho', hx', hdt', he', _, _⟩ := hd'
      refine ⟨.ref s.heap.objs.size, upd H s.heap.objs.size (DicO _ o'), I.laid (t' := tk) (fun b o e => kp b o (fun z => nomatch z) e) (Nat.le_refl _) (dicO_ok ho'), rfl, q _ _ arr.toList (I.hok.fresh (Nat.le_refl _)) ⟨hx', ⟨arr, ep, hdt', rfl⟩, hm, hok.1, hok.2, hl⟩ ?_⟩
      rw [he']
      exact repP_tup pt
end
end Ev
set_option Elab.async false
set_option linter.all false
set_option maxRecDepth 100000
set_option maxHeartbeats 1000000
/-! Built-in functions over pure values. -/
namespace Ev
open PySem PySem.Spec PyProof.Rows L2

/-! ### sorted(..) of a list, of a tuple -/
section
open PySem.W
variable {prog : Program} {w : World} {A : Around} {E : Value → Shared → Prop} {s : Shared}
theorem sorted_of_seq {it : Addr} {T : String} {o : Obj} {vs : List Value} {n : Nat} (hT : T = "list" ∨ T = "tuple") (ho : s.heap.get? it = some o) (hc : o.cls = .type T) (hd : o.data = .seq vs.toArray n) (hL : vs.length ≤ sizeLine) {Q : Value → Shared → Prop}
    (body : ∀ (h' : Heap) (E' : Value → Shared → Prop), (∀ b o', s.heap.get? b = some o' → h'.get? b = some o') → wpAny (model prog w) A.in1.in1 (Builtin.«list.sort» ⟨[.ref h'.objs.size], []⟩) (fun f s' => f = .done (.ret .none) ∧ Q (.ref h'.objs.size) s') E' { s with heap := h'.push (seqObj "list" vs.toArray 0) }) :
    wpAny (model prog w) A (call (.builtin "sorted") [.ref it]) Q E s := by
  refine Calls.call_function_entry kind_sorted plain_sorted entry_sorted (args_sorted1 _) ?_
  unfold Builtin.«sorted»
  refine wpAny_bind (m := checkCount "sorted" 1 1 _) (wpAny_pure ?_)
  refine wpAny_bind (PySem.wpAny_collect_seq it hT ho hc hd (fun h' hk => ?_) (by simpa using hL))
  rw [show vs.toArray.toList = vs by simp]
  refine wpAny_bind (wpAny_newList ?_ hL)
  have hoL : (h'.push (seqObj "list" vs.toArray 0)).get? h'.objs.size = some (seqObj "list" vs.toArray 0) := Heap.get?_push_size _ rfl
  refine wpAny_bind (wpAny_holding (wpAny_call_entry slot_list_sort ⟨_, hoL, rfl⟩ entry_list_sort ?body (args_list_sort _)))
  case body =>
    show wpAny (model prog w) A.in1.in1 (Builtin.«list.sort» ⟨[.ref h'.objs.size], []⟩) _ _ _
    refine wpAny_mono (body h' _ hk) (fun f s' hf => ?_) fun _ _ e => e
    obtain ⟨rfl, hq⟩ := hf
    exact ⟨_, rfl, wpAny_pure ⟨_, rfl, hq⟩⟩
theorem sorted_seq {it : Addr} {T : String} {o : Obj} {vs : List Value} {n : Nat} {β : Type} {bs : List β} {enc : β → PyData} {R : Value → β → Prop} (hT : T = "list" ∨ T = "tuple") (ho : s.heap.get? it = some o) (hc : o.cls = .type T) (hd : o.data = .seq vs.toArray n) (hL : bs.length ≤ sizeLine)
    (e : EachIs R vs bs) (er : EachIs (fun v b => ∃ as, Reads s.heap v (enc b) as) vs bs) (hal : AllAlike (bs.map enc)) (hk : Sortable2 (bs.map enc)) (hu : ∀ b, b ∈ bs → A.units + 2 + (enc b).depth < cLine) {Q : Value → Shared → Prop}
    (h : ∀ (out : List Value) (h1 h' : Heap) (c : Nat), out.length = bs.length → EachIs R out (bs.mergeSort (dataLe false enc)) → (∀ b o', s.heap.get? b = some o' → h1.get? b = some o') → (∀ b o', h1.get? b = some o' → h'.get? b = some o') → h'.get? h1.objs.size = some (seqObj "list" out.toArray c) → Q (.ref h1.objs.size) { s with heap := h' }) :
    wpAny (model prog w) A (call (.builtin "sorted") [.ref it]) Q E s := by
  have hL' : vs.length ≤ sizeLine := by rw [e.length]; exact hL
  refine sorted_of_seq hT ho hc hd hL' fun h' E' hk' => ?_
  have hat : (h'.push (seqObj "list" vs.toArray 0)).get? h'.objs.size = some (seqObj "list" vs.toArray 0) := Heap.get?_push_size _ rfl
  have hold : ∀ b o', s.heap.get? b = some o' → (sortingHeap (h'.push (seqObj "list" vs.toArray 0)) h'.objs.size vs).get? b = some o' := fun b o' hb =>
    sortingHeap_old (Nat.ne_of_lt (Heap.lt_size (hk' _ _ hb))) (Heap.get?_push_of_some _ (hk' _ _ hb))
  have er' : EachIs (fun v b => ∃ as, Reads (sortingHeap (h'.push (seqObj "list" vs.toArray 0)) h'.objs.size vs) v (enc b) as) vs bs := er.mono fun _ _ ⟨as, r⟩ => ⟨as, PyProof.Rows.Reads.keeps hold r⟩
  refine list_sort_vals (s := { s with heap := h'.push (seqObj "list" vs.toArray 0) }) hat (SortsAt.data2 (s := { s with heap := sortingHeap (h'.push (seqObj "list" vs.toArray 0)) h'.objs.size vs }) (each_map (R := fun v d => ∃ as, Reads (sortingHeap (h'.push (seqObj "list" vs.toArray 0)) h'.objs.size vs) v d as) enc er') hal hk (bound_map hu)) hL' ?_
  obtain ⟨c, hc'⟩ := PyProof.Rows.sortedHeap_at (out := (sortVals (dataKind (sortingHeap (h'.push (seqObj "list" vs.toArray 0)) h'.objs.size vs) (bs.map enc)) false vs vs).toArray) hat
  refine ⟨rfl, h _ _ _ c (by rw [sortVals_length false rfl]; exact e.length) (sortVals_data false e er' hal) hk' (fun b o' hb => ?_) hc'⟩
  have hlt := Heap.lt_size hb
  rw [PyProof.Rows.sortedHeap_old (Nat.ne_of_lt hlt) (by rw [size_push']; exact Nat.lt_succ_of_lt hlt)]
  exact Heap.get?_push_of_some _ hb
end

/-! ### calls of one value -/
section
variable (X : Cx) (S : Stg X.K) (XA : XAT) (E : XK)
def CR1 (f : Value) (F : D → M D) : Prop := ∃ r, CallR X f r ∧ ∀ (Mu : Addr → Prop) h H x a Q, HandAt S Mu H h → (∀ p, Fr H p → ¬ Mu p) → BRep S Mu H x a → Good S Mu XA (F a h) H (fun d h' H' => ∀ v, Rep X.K Mu H' v d → Q v H') E → r [x] H Q
/-- .. that makes a new list -/
def CF1 (f : Value) (F : D → M D) : Prop := ∃ r, CallR X f r ∧ ∀ (Mu : Addr → Prop) h H x a Q, HandAt S Mu H h → (∀ p, Fr H p → ¬ Mu p) → BRep S Mu H x a → Good S Mu XA (F a h) H (fun d h' H' => ∀ a, Fr H a → S.hd ≠ some a → HandAt S (Add Mu a) H' h' → OwnAt X.K (Add Mu a) H' a d → Q (.ref a) H') E → r [x] H Q
end
section
variable {X : Cx} {S : Stg X.K} {XA : XAT} {E : XK} {f : Value} {F G : D → M D}
theorem CF1.cr (h : CF1 X S XA E f F) : CR1 X S XA E f F := by
  obtain ⟨r, c, q⟩ := h
  refine ⟨r, c, fun Mu h H x a Q y nf b g => q Mu h H x a Q y nf b (g.mono fun d h' H' _ _ k a ha hn _ ho => ?_)⟩
  exact k _ (ho.rep (fun _ z => .inl z) (nf a ha))
theorem good_newl {Mu : Addr → Prop} {h : List D} {H : Hp} {ds : List D} {vs : List V} {p : Addr} {Q : VK} (x : HandAt S Mu H h) (hp : H p = none) (g : Good S Mu XA (ret (.list ds) h) H (fun d h' H' => ∀ a, Fr H a → S.hd ≠ some a → HandAt S (Add Mu a) H' h' → OwnAt X.K (Add Mu a) H' a d → Q (.ref a) H') E) (r : RepL X.K Mu H vs ds) : Q (.ref p) (upd H p (.lst vs)) :=
  (g.step (Pres.new hp)).ret (x.new hp) p (.of hp) (x.hdn (.of hp)) (x.grow hp) (.lst upd_same (r.grow hp))
theorem good_newd {Mu : Addr → Prop} {h : List D} {H : Hp} {o : Obj} {es : List DictEntry} {kvs : List (D × D)} {p : Addr} {Q : VK} (x : HandAt S Mu H h) (hp : H p = none) (g : Good S Mu XA (ret (.dict kvs) h) H (fun d h' H' => ∀ a, Fr H a → S.hd ≠ some a → HandAt S (Add Mu a) H' h' → OwnAt X.K (Add Mu a) H' a d → Q (.ref a) H') E) (k : DicOk p o es kvs) (r : RepP X.K Mu H es kvs) : Q (.ref p) (upd H p (DicO p o)) :=
  (g.step (Pres.new hp)).ret (x.new hp) p (.of hp) (x.hdn (.of hp)) (x.grow hp) (.dic upd_same k (r.grow hp))
theorem c_len : CR1 X S XA E (.builtin "len") (b1V .len) := by
  refine ⟨_, (call_len_seq.or call_len_str).or cr_lenK, fun Mu h H x a Q hx nf rx g => ?_⟩
  cases a <;> first | exact (Good.fail (show Good S Mu XA (fail h) H _ E from g)).elim | skip
  · rw [rx.str]
    obtain ⟨z, g⟩ := Good.chk g
    exact .inl (.inr ⟨_, rfl, line_le (of_decide_eq_true z), g.ret hx _ (.int _)⟩)
  · obtain ⟨p, xs, rfl, h1, r1⟩ := rx.lst
    refine .inl (.inl ⟨p, xs, rfl, .inl (.inl h1), ?_⟩)
    rw [r1.length]
    exact Good.ret (a := PyData.int _) g hx _ (.int _)
  · obtain ⟨p, xs, rfl, h1, r1⟩ := rx.tup
    refine .inl (.inl ⟨p, xs, rfl, .inr h1, ?_⟩)
    rw [r1.length]
    exact Good.ret (a := PyData.int _) g hx _ (.int _)
  · obtain ⟨p, o, es, rfl, h1, h2, h3⟩ := rx.dic
    exact .inr ⟨Mu, p, o, es, _, rfl, h1, h2, h3, Good.ret (a := PyData.int _) g hx _ (.int _)⟩
theorem c_tuple : CR1 X S XA E (.type "tuple") (b1V .tuple) := by
  refine ⟨_, call_tuple_ofN, fun Mu h H x a Q hx nf rx g => ?_⟩
  cases a <;> first | exact (Good.fail (show Good S Mu XA (fail h) H _ E from g)).elim | skip
  · obtain ⟨p, xs, rfl, h1, r1⟩ := rx.lst
    exact ⟨p, xs, rfl, .inl ⟨.inl h1, fun a o ha ho => good_new hx ha g (new_tup hx ha ho r1)⟩⟩
  · obtain ⟨p, xs, rfl, h1, r1⟩ := rx.tup
    exact ⟨p, xs, rfl, .inr ⟨h1, Good.ret (a := PyData.tuple _) g hx _ (.tup h1 r1)⟩⟩
theorem c_list (hc : X.calm = true) : CF1 X S XA E (.type "list") (b1V .list) := by
  refine ⟨_, call_list_of.or (cr_listK hc), fun Mu h H x a Q hx nf rx g => ?_⟩
  cases a <;> first | exact (Good.fail (show Good S Mu XA (fail h) H _ E from g)).elim | skip
  · obtain ⟨p, xs, rfl, h1, r1⟩ := rx.lst
    exact .inl ⟨p, xs, rfl, .inl (.inl h1), fun a ha => good_newl hx ha g r1⟩
  · obtain ⟨p, xs, rfl, h1, r1⟩ := rx.tup
    exact .inl ⟨p, xs, rfl, .inr h1, fun a ha => good_newl hx ha g r1⟩
  · obtain ⟨p, o, es, rfl, h1, h2, h3⟩ := rx.dic
    exact .inr ⟨Mu, p, o, es, _, rfl, h1, h2, h3, fun vs a rl ha => good_newl hx ha g rl⟩
theorem c_dict (hc : X.calm = true) (hu : X.A.units + 64 < cLine) : CF1 X S XA E (.type "dict") (b1V .dict) := by
  refine ⟨_, cr_dict hc hu, fun Mu h H x a Q hx nf rx g => ?_⟩
  cases a <;> first | exact (Good.fail (show Good S Mu XA (fail h) H _ E from g)).elim | skip
  obtain ⟨p, xs, rfl, h1, r1⟩ := rx.lst
  rename_i ds
  dsimp only [b1V] at g
  cases q : pairsL ds with
  | none => rw [q] at g; exact g.fail.elim
  | some ps =>
    rw [q] at g
    obtain ⟨z, g1⟩ := Good.puts hx _ _ (Good.bnd g)
    have g2 := g1.ret hx
    exact ⟨Mu, p, xs, ds, ps, rfl, .inl h1, r1, q, z, fun a o es ha k r => good_newd hx ha g2 k r⟩
theorem c_int : CR1 X S XA E (.type "int") (b1V .int) := by
  refine ⟨_, call_int1, fun Mu h H x a Q hx nf rx g => ?_⟩
  cases a <;> first | exact (Good.fail (show Good S Mu XA (fail h) H _ E from g)).elim | skip
  · rw [rx.bool]
    exact .inr ⟨_, rfl, Good.ret (a := PyData.int (b2i _)) g hx _ (.int _)⟩
  · rw [rx.int]
    exact .inl ⟨_, rfl, Good.ret (a := PyData.int _) g hx _ (.int _)⟩
theorem c_abs : CR1 X S XA E (.builtin "abs") (b1V .abs) := by
  refine ⟨_, call_abs, fun Mu h H x a Q hx nf rx g => ?_⟩
  cases a <;> first | exact (Good.fail (show Good S Mu XA (fail h) H _ E from g)).elim | skip
  rw [rx.int]
  exact ⟨_, rfl, Good.ret (a := PyData.int _) g hx _ (.int _)⟩
theorem RepL.ints_inv {K : PySem.W.Frag} {Mu : Addr → Prop} {H : Hp} : ∀ {vs : List V} {ds : List D} {is : List Int}, RepL K Mu H vs ds → allInts ds = some is → vs = is.map V.int
  | _, [], is, r, e => by cases r; cases e; rfl
  | _, d :: ds, is, r, e => by
    cases r with
    | cons r1 r2 =>
      cases d <;> first | (cases e; done) | skip
      obtain rfl := r1.int_inv
      simp only [allInts] at e
      split at e
      · rename_i js hj
        cases e
        rw [List.map_cons, ← r2.ints_inv hj]
      · cases e
theorem RepL.bools_inv {K : PySem.W.Frag} {Mu : Addr → Prop} {H : Hp} : ∀ {vs : List V} {ds : List D} {is : List Bool}, RepL K Mu H vs ds → allBools ds = some is → vs = is.map V.bl
  | _, [], is, r, e => by cases r; cases e; rfl
  | _, d :: ds, is, r, e => by
    cases r with
    | cons r1 r2 =>
      cases d <;> first | (cases e; done) | skip
      obtain rfl := r1.bool_inv
      simp only [allBools] at e
      split at e
      · rename_i js hj
        cases e
        rw [List.map_cons, ← r2.bools_inv hj]
      · cases e
theorem c_sum (hc : X.calm = true) : CR1 X S XA E (.builtin "sum") (b1V .sum) := by
  refine ⟨_, cr_sum hc, fun Mu h H x a Q hx nf rx g => ?_⟩
  cases a <;> first | exact (Good.fail (show Good S Mu XA (fail h) H _ E from g)).elim | skip
  obtain ⟨p, xs, rfl, h1, r1⟩ := rx.lst
  rename_i ds
  dsimp only [b1V] at g
  cases q : allInts ds with
  | none => rw [q] at g; exact g.fail.elim
  | some is =>
    rw [q] at g
    obtain rfl := r1.ints_inv q
    exact ⟨p, is, rfl, .inl h1, Good.ret (a := PyData.int _) g hx _ (.int _)⟩
theorem c_any (hc : X.calm = true) : CR1 X S XA E (.builtin "any") (b1V .any) := by
  refine ⟨_, cr_any hc, fun Mu h H x a Q hx nf rx g => ?_⟩
  cases a <;> first | exact (Good.fail (show Good S Mu XA (fail h) H _ E from g)).elim | skip
  obtain ⟨p, xs, rfl, h1, r1⟩ := rx.lst
  rename_i ds
  dsimp only [b1V] at g
  cases q : allBools ds with
  | none => rw [q] at g; exact g.fail.elim
  | some is =>
    rw [q] at g
    obtain rfl := r1.bools_inv q
    exact ⟨p, is, rfl, .inl h1, Good.ret (a := PyData.bool _) g hx _ (.bl _)⟩
theorem c_all (hc : X.calm = true) : CR1 X S XA E (.builtin "all") (b1V .all) := by
  refine ⟨_, cr_all hc, fun Mu h H x a Q hx nf rx g => ?_⟩
  cases a <;> first | exact (Good.fail (show Good S Mu XA (fail h) H _ E from g)).elim | skip
  obtain ⟨p, xs, rfl, h1, r1⟩ := rx.lst
  rename_i ds
  dsimp only [b1V] at g
  cases q : allBools ds with
  | none => rw [q] at g; exact g.fail.elim
  | some is =>
    rw [q] at g
    obtain rfl := r1.bools_inv q
    exact ⟨p, is, rfl, .inl h1, Good.ret (a := PyData.bool _) g hx _ (.bl _)⟩

/-! sorted, min, max -/
theorem someOk_parts {xs : List D} (h : someOk xs = true) : PySem.W.AlikeAll xs ∧ PyData.depthAll xs ≤ 40 := by
  simp only [someOk, allAlike, allDeep, Bool.and_eq_true, List.all_eq_true, decide_eq_true_eq, Bool.not_eq_true'] at h
  refine ⟨⟨fun x hx y hy => h.1.1 x hx y hy, fun x hx e => ?_⟩, h.2⟩
  have := h.1.2 x hx
  rw [e] at this
  simp [isNonD] at this
theorem depth_mem : ∀ {xs : List D} {d : D}, d ∈ xs → d.depth ≤ PyData.depthAll xs
  | x :: xs, d, h => by
    simp only [PyData.depthAll]
    rcases List.mem_cons.mp h with rfl | h
    · omega
    · have := depth_mem h
      omega
theorem sortOk_parts {xs : List D} (h : sortOk xs = true) : someOk xs = true ∧ xs.length ≤ sizeLine ∧ Sortable2 xs := by
  simp only [sortOk, Bool.and_eq_true, Bool.or_eq_true, List.all_eq_true, decide_eq_true_eq, Bool.not_eq_true'] at h
  refine ⟨h.1.1, line_le h.1.2, ?_⟩
  obtain ⟨⟨h1, h2⟩, h3⟩ := h
  rcases h3 with h3 | h3
  · refine .inl fun d hd => ?_
    have := h3 d hd
    unfold isTup at this
    split at this
    · exact ⟨_, rfl⟩
    · cases this
  · refine .inr fun d hd => ⟨(someOk_parts h1).1.2 d hd, fun xs e => ?_⟩
    have := h3 d hd
    rw [e] at this
    simp [isTup] at this
theorem minD_mem : ∀ (x : D) (xs : List D), PySem.W.minD x xs ∈ x :: xs := by
  intro x xs
  unfold PySem.W.minD
  induction xs generalizing x with
  | nil => simp
  | cons y ys ih =>
    rw [List.foldl_cons]
    split
    · have := ih y
      rcases List.mem_cons.mp this with e | e
      · rw [e]; simp
      · exact List.mem_cons_of_mem _ (List.mem_cons_of_mem _ e)
    · have := ih x
      rcases List.mem_cons.mp this with e | e
      · rw [e]; simp
      · exact List.mem_cons_of_mem _ (List.mem_cons_of_mem _ e)

/-- the pairs of what is held and what it is worth -/
theorem each_pairs {X : Cx} {pins : List (Addr × Obj)} {Mu : Addr → Prop} {H : Hp} {s : Shared} {σ : L2.St} (I : Inv X pins σ H s) : ∀ {vs : List V} {ds : List D} {us : List Value}, RepL X.K Mu H vs ds → Vals vs us →
    PySem.W.EachIs (fun u (b : V × D) => RelV b.1 u ∧ Rep X.K Mu H b.1 b.2) us (vs.zip ds) ∧ PySem.W.EachIs (fun u (b : V × D) => ∃ as, Reads s.heap u b.2 as) us (vs.zip ds) ∧ (vs.zip ds).map (·.2) = ds
  | _, _, _, .nil, .nil => ⟨.nil, .nil, rfl⟩
  | _, _, _, .cons r rs, .cons q qs => by
    obtain ⟨h1, h2, h3⟩ := each_pairs I rs qs
    exact ⟨.cons ⟨q, r⟩ h1, .cons (Rep.reads I _ _ _ r q) h2, by rw [List.zip_cons_cons, List.map_cons, h3]⟩
theorem unpairs {K : PySem.W.Frag} {Mu : Addr → Prop} {H : Hp} : ∀ {us : List Value} {bs : List (V × D)}, PySem.W.EachIs (fun u (b : V × D) => RelV b.1 u ∧ Rep K Mu H b.1 b.2) us bs → Vals (bs.map (·.1)) us ∧ RepL K Mu H (bs.map (·.1)) (bs.map (·.2))
  | _, _, .nil => ⟨.nil, .nil⟩
  | _, _, .cons h r => ⟨.cons h.1 (unpairs r).1, .cons h.2 (unpairs r).2⟩
def rSortD (X : Cx) : List V → Hp → VK → Prop := fun xs H Q => ∃ (Mu : Addr → Prop) (p : Addr) (vs : List V) (ds : List D), xs = [.ref p] ∧ (SqL X.K H p vs ∨ SqT X.K H p vs) ∧ RepL X.K Mu H vs ds ∧ sortOk ds = true ∧ ∀ ws a, RepL X.K Mu H ws (sortD ds) → H a = none → Q (.ref a) (upd H a (.lst ws))
theorem cr_sortD (hu : X.A.units + 64 < cLine) : CallR X (.builtin "sorted") (rSortD X) := by
  intro pins s σ H xs us Q I r h
  obtain ⟨Mu, p, vs, ds, rfl, hq, hr, hok, q⟩ := h
  obtain ⟨u, rfl, rx⟩ := vals1 r
  cases rx
  obtain ⟨hso, hlen, hst⟩ := sortOk_parts hok
  obtain ⟨hal, hdp⟩ := someOk_parts hso
  obtain ⟨T, o, n, its, hT, ho, hc, hd, rv⟩ : ∃ (T : String) (o : Obj) (n : Nat) (its : List Value), (T = "list" ∨ T = "tuple") ∧ s.heap.get? p = some o ∧ o.cls = .type T ∧ o.data = .seq its.toArray n ∧ Vals vs its := by
    rcases hq with hq | hq
    · obtain ⟨its, rv, pl, hz⟩ := I.list hq
      obtain ⟨o, ho, hc, n, hd⟩ := pl.isList
      exact ⟨_, o, n, its, .inl rfl, ho, hc, hd, rv⟩
    · obtain ⟨its, rv, pl, hz⟩ := I.tuple hq
      obtain ⟨o, ho, hc, n, hd⟩ := pl
      exact ⟨_, o, n, its, .inr rfl, ho, hc, hd, rv⟩
  obtain ⟨e1, e2, e3⟩ := each_pairs I hr rv
  have hbl : (vs.zip ds).length = ds.length := by rw [← List.length_map (f := (·.2)), e3]
  refine sorted_seq (enc := fun b : V × D => b.2) hT ho hc hd (by rw [hbl]; exact hlen) e1 e2 (by rw [e3]; exact fun d hd d' hd' => hal.1 d hd d' hd') (by rw [e3]; exact hst) (fun b hb => ?_) fun out h1 h' c hl he k1 k2 hat => ?_
  · have := depth_mem (show b.2 ∈ ds by rw [← e3]; exact List.mem_map_of_mem hb)
    show X.A.units + 2 + b.2.depth < cLine
    omega
  · obtain ⟨rw', rr⟩ := unpairs he
    have I1 : Inv X pins σ H { s with heap := h1 } := I.kept (t' := s.toks) k1
    have em : ((vs.zip ds).mergeSort (PySem.W.dataLe false fun b : V × D => b.2)).map (·.2) = sortD ds := by
      have q1 := List.map_mergeSort (r := PySem.W.dataLe false fun b : V × D => b.2) (s := leD) (f := fun b : V × D => b.2) (l := vs.zip ds) (fun a _ b _ => rfl)
      rw [e3] at q1
      rw [sortD_eq]
      exact q1
    rw [em] at rr
    have hlw : (((vs.zip ds).mergeSort (PySem.W.dataLe false fun b : V × D => b.2)).map (·.1)).length ≤ sizeLine := by
      rw [List.length_map, List.length_mergeSort, hbl]; exact hlen
    exact ⟨.ref h1.objs.size, _, I1.laid (t' := s.toks) k2 (Nat.le_refl _) (show ObjOk X.prog X.w _ h' _ (.lst _) from ⟨hlw, out, c, rw', hat⟩), rfl, q _ _ rr (I1.hok.fresh (Nat.le_refl _))⟩
def rSortK (X : Cx) : List V → Hp → VK → Prop := fun xs H Q => ∃ (Mu : Addr → Prop) (a : Addr) (o : Obj) (es : List DictEntry) (kvs : List (D × D)), xs = [.ref a] ∧ H a = some (DicO a o) ∧ DicOk a o es kvs ∧ RepP X.K Mu H es kvs ∧ sortOk (dKeys kvs) = true ∧ ∀ ws a, RepL X.K Mu H ws (sortD (dKeys kvs)) → H a = none → Q (.ref a) (upd H a (.lst ws))
theorem cr_sortK (hc : X.calm = true) (hu : X.A.units + 64 < cLine) : CallR X (.builtin "sorted") (rSortK X) := by
  intro pins s σ H xs us Q I r h
  obtain ⟨Mu, p, o, es, kvs, rfl, hp, hk, hr0, hok, q⟩ := h
  obtain ⟨u, rfl, rx⟩ := vals1 r
  cases rx
  obtain ⟨hso, hlen, hst⟩ := sortOk_parts hok
  obtain ⟨hal, hdp⟩ := someOk_parts hso
  obtain ⟨arr, he, ho, K⟩ := dk_src I hp hk
  have hz : arr.size = kvs.length := by rw [← hr0.length, ← he, Array.length_toList]
  have hlk := hk.len
  obtain ⟨vs, hr, rv⟩ := hr0.keysL
  obtain ⟨e1, e2, e3⟩ := each_pairs I hr rv
  have hbl : (vs.zip (dKeys kvs)).length = (dKeys kvs).length := by rw [← List.length_map (f := (·.2)), e3]
  refine sorted_any (enc := fun b : V × D => b.2) (vs := es.map (·.key)) (fun R E' k => kdl_collect K (show X.A.in1.handled = none from I.ok.hd hc) ho (by omega) fun h' tk acc kp it => by rw [items_keys it, he]; exact k h' tk kp) (by rw [hbl]; exact hlen) e1 e2 (by rw [e3]; exact fun d hd d' hd' => hal.1 d hd d' hd') (by rw [e3]; exact hst) (fun b hb => ?_) fun out h1 h' tk c hl he k1 k2 hat => ?_
  · have := depth_mem (show b.2 ∈ dKeys kvs by rw [← e3]; exact List.mem_map_of_mem hb)
    show X.A.units + 2 + b.2.depth < cLine
    omega
  · obtain ⟨rw', rr⟩ := unpairs he
    have I1 : Inv X pins σ H { s with heap := h1, toks := tk } := I.kept (t' := tk) k1
    have em : ((vs.zip (dKeys kvs)).mergeSort (PySem.W.dataLe false fun b : V × D => b.2)).map (·.2) = sortD (dKeys kvs) := by
      have q1 := List.map_mergeSort (r := PySem.W.dataLe false fun b : V × D => b.2) (s := leD) (f := fun b : V × D => b.2) (l := vs.zip (dKeys kvs)) (fun a _ b _ => rfl)
      rw [e3] at q1
      rw [sortD_eq]
      exact q1
    rw [em] at rr
    have hlw : (((vs.zip (dKeys kvs)).mergeSort (PySem.W.dataLe false fun b : V × D => b.2)).map (·.1)).length ≤ sizeLine := by
      rw [List.length_map, List.length_mergeSort, hbl]; exact hlen
    exact ⟨.ref h1.objs.size, _, I1.laid (t' := tk) k2 (Nat.le_refl _) (show ObjOk X.prog X.w _ h' _ (.lst _) from ⟨hlw, out, c, rw', hat⟩), rfl, q _ _ rr (I1.hok.fresh (Nat.le_refl _))⟩
theorem c_sorted (hc : X.calm = true) (hu : X.A.units + 64 < cLine) : CF1 X S XA E (.builtin "sorted") (b1V .sorted) := by
  refine ⟨_, (cr_sortD hu).or (cr_sortK hc hu), fun Mu h H x a Q hx nf rx g => ?_⟩
  cases a <;> first | exact (Good.fail (show Good S Mu XA (fail h) H _ E from g)).elim | skip
  · obtain ⟨p, xs, rfl, h1, r1⟩ := rx.lst
    obtain ⟨z, g⟩ := Good.chk g
    exact .inl ⟨Mu, p, xs, _, rfl, .inl (.inl h1), r1, z, fun ws a rr ha => good_newl hx ha g rr⟩
  · obtain ⟨p, xs, rfl, h1, r1⟩ := rx.tup
    obtain ⟨z, g⟩ := Good.chk g
    exact .inl ⟨Mu, p, xs, _, rfl, .inr h1, r1, z, fun ws a rr ha => good_newl hx ha g rr⟩
  · obtain ⟨p, o, es, rfl, h1, h2, h3⟩ := rx.dic
    obtain ⟨z, g⟩ := Good.chk g
    exact .inr ⟨Mu, p, o, es, _, rfl, h1, h2, h3, z, fun ws a rr ha => good_newl hx ha g rr⟩

theorem vals_at {vs : List V} {us : List Value} (r : Vals vs us) {i : Nat} {u : Value} (h : us[i]? = some u) : ∃ v, vs[i]? = some v ∧ RelV v u := by
  induction r generalizing i with
  | nil => simp at h
  | cons h1 r1 ih =>
    cases i with
    | zero => simp at h; subst h; exact ⟨_, rfl, h1⟩
    | succ i => exact ih (by simpa using h)
def rBest (X : Cx) (f : D → List D → D) : List V → Hp → VK → Prop := fun xs H Q => ∃ (Mu : Addr → Prop) (p : Addr) (vs : List V) (d : D) (ds : List D), xs = [.ref p] ∧ (SqL X.K H p vs ∨ SqT X.K H p vs) ∧ RepL X.K Mu H vs (d :: ds) ∧ someOk (d :: ds) = true ∧ ∀ v, Rep X.K Mu H v (f d ds) → Q v H
/-- one of the items, by what it reads as -/
theorem best_at {pins : List (Addr × Obj)} {Mu : Addr → Prop} {H : Hp} {s : Shared} {σ : L2.St} (I : Inv X pins σ H s) {vs : List V} {ds : List D} {its : List Value} (hr : RepL X.K Mu H vs ds) (rv : Vals vs its) {i : Nat} {u : Value} (hi : its.toArray[i]? = some u) {h' : Heap} {b : D} {bs : List Addr} (rd : Reads h' u b bs) (k : ∀ b o, s.heap.get? b = some o → h'.get? b = some o) : ∃ v, RelV v u ∧ Rep X.K Mu H v b := by
  obtain ⟨v, hv, ru⟩ := vals_at rv (i := i) (u := u) (by simpa using hi)
  obtain ⟨d, hd, rd'⟩ := hr.getV hv
  obtain ⟨as, r2⟩ := Rep.reads I d v u rd' ru
  have := (PySem.Reads.unique rd _ _ (PyProof.Rows.Reads.keeps k r2)).1
  subst this
  exact ⟨v, ru, rd'⟩
theorem cr_minD (hc : X.calm = true) (hu : X.A.units + 64 < cLine) : CallR X (.builtin "min") (rBest X PySem.W.minD) := by
  intro pins s σ H xs us Q I r h
  obtain ⟨Mu, p, vs, d, ds, rfl, hq, hr, hok, q⟩ := h
  obtain ⟨u, rfl, rx⟩ := vals1 r
  cases rx
  obtain ⟨hal, hdp⟩ := someOk_parts hok
  rcases hq with hq | hq
  · obtain ⟨its, rv, pl, hz⟩ := I.list hq
    obtain ⟨as, hra⟩ := RepL.reads I _ _ its hr rv
    refine PySem.W.min_list_data (vs := its.toArray) (I.ok.hd hc) pl.isList (by simpa using hra) hal (by omega) fun i v h' tk bs hi rd k => ?_
    obtain ⟨w, h1, h2⟩ := best_at I hr rv hi rd k
    exact ⟨w, H, I.kept k, h1, q w h2⟩
  · obtain ⟨its, rv, pl, hz⟩ := I.tuple hq
    obtain ⟨as, hra⟩ := RepL.reads I _ _ its hr rv
    refine PySem.W.min_tuple_data (vs := its.toArray) (I.ok.hd hc) pl (by simpa using hra) hal (by omega) fun i v h' tk bs hi rd k => ?_
    obtain ⟨w, h1, h2⟩ := best_at I hr rv hi rd k
    exact ⟨w, H, I.kept k, h1, q w h2⟩
theorem cr_maxD (hc : X.calm = true) (hu : X.A.units + 64 < cLine) : CallR X (.builtin "max") (rBest X PySem.W.maxD) := by
  intro pins s σ H xs us Q I r h
  obtain ⟨Mu, p, vs, d, ds, rfl, hq, hr, hok, q⟩ := h
  obtain ⟨u, rfl, rx⟩ := vals1 r
  cases rx
  obtain ⟨hal, hdp⟩ := someOk_parts hok
  rcases hq with hq | hq
  · obtain ⟨its, rv, pl, hz⟩ := I.list hq
    obtain ⟨as, hra⟩ := RepL.reads I _ _ its hr rv
    refine PySem.W.max_list_data (vs := its.toArray) (I.ok.hd hc) pl.isList (by simpa using hra) hal (by omega) fun i v h' tk bs hi rd k => ?_
    obtain ⟨w, h1, h2⟩ := best_at I hr rv hi rd k
    exact ⟨w, H, I.kept k, h1, q w h2⟩
  · obtain ⟨its, rv, pl, hz⟩ := I.tuple hq
    obtain ⟨as, hra⟩ := RepL.reads I _ _ its hr rv
    refine PySem.W.max_tuple_data (vs := its.toArray) (I.ok.hd hc) pl (by simpa using hra) hal (by omega) fun i v h' tk bs hi rd k => ?_
    obtain ⟨w, h1, h2⟩ := best_at I hr rv hi rd k
    exact ⟨w, H, I.kept k, h1, q w h2⟩
theorem c_min (hc : X.calm = true) (hu : X.A.units + 64 < cLine) : CR1 X S XA E (.builtin "min") (b1V .min) := by
  refine ⟨_, cr_minD hc hu, fun Mu h H x a Q hx nf rx g => ?_⟩
  rcases a with _ | _ | _ | _ | (_ | ⟨d, ds⟩) | (_ | ⟨d, ds⟩) | _ <;> first | exact (Good.fail (show Good S Mu XA (fail h) H _ E from g)).elim | skip
  · obtain ⟨p, xs, rfl, h1, r1⟩ := rx.lst
    obtain ⟨z, g⟩ := Good.chk g
    exact ⟨Mu, p, xs, _, _, rfl, .inl (.inl h1), r1, z, g.ret hx⟩
  · obtain ⟨p, xs, rfl, h1, r1⟩ := rx.tup
    obtain ⟨z, g⟩ := Good.chk g
    exact ⟨Mu, p, xs, _, _, rfl, .inr h1, r1, z, g.ret hx⟩
theorem c_max (hc : X.calm = true) (hu : X.A.units + 64 < cLine) : CR1 X S XA E (.builtin "max") (b1V .max) := by
  refine ⟨_, cr_maxD hc hu, fun Mu h H x a Q hx nf rx g => ?_⟩
  rcases a with _ | _ | _ | _ | (_ | ⟨d, ds⟩) | (_ | ⟨d, ds⟩) | _ <;> first | exact (Good.fail (show Good S Mu XA (fail h) H _ E from g)).elim | skip
  · obtain ⟨p, xs, rfl, h1, r1⟩ := rx.lst
    obtain ⟨z, g⟩ := Good.chk g
    exact ⟨Mu, p, xs, _, _, rfl, .inl (.inl h1), r1, z, g.ret hx⟩
  · obtain ⟨p, xs, rfl, h1, r1⟩ := rx.tup
    obtain ⟨z, g⟩ := Good.chk g
    exact ⟨Mu, p, xs, _, _, rfl, .inr h1, r1, z, g.ret hx⟩
/-- the built-in functions of one value -/
def b1N : B1 → Str
  | .len => "len" | .tuple => "tuple" | .list => "list" | .sorted => "sorted" | .min => "min" | .max => "max" | .sum => "sum" | .any => "any" | .all => "all" | .int => "int" | .abs => "abs" | .dict => "dict"
def b1F : B1 → Value
  | .len => .builtin "len" | .tuple => .type "tuple" | .list => .type "list" | .sorted => .builtin "sorted" | .min => .builtin "min" | .max => .builtin "max" | .sum => .builtin "sum" | .any => .builtin "any" | .all => .builtin "all" | .int => .type "int" | .abs => .builtin "abs" | .dict => .type "dict"
theorem c_b1 (hc : X.calm = true) (hu : X.A.units + 64 < cLine) (b : B1) : CR1 X S XA E (b1F b) (b1V b) := by
  cases b
  · exact c_len
  · exact c_tuple
  · exact (c_list hc).cr
  · exact (c_sorted hc hu).cr
  · exact c_min hc hu
  · exact c_max hc hu
  · exact c_sum hc
  · exact c_any hc
  · exact c_all hc
  · exact c_int
  · exact c_abs
  · exact (c_dict hc hu).cr
def b1Fresh : B1 → Bool
  | .list | .sorted | .dict => true
  | _ => false
theorem c_b1f (hc : X.calm = true) (hu : X.A.units + 64 < cLine) {b : B1} (hb : b1Fresh b = true) : CF1 X S XA E (b1F b) (b1V b) := by
  cases b <;> first | cases hb; done | skip
  · exact c_list hc
  · exact c_sorted hc hu
  · exact c_dict hc hu
end
end Ev
set_option Elab.async false
set_option linter.all false
set_option maxRecDepth 100000
set_option maxHeartbeats 1000000
/-! Statements: states, steps, blocks, assignments. -/
namespace Ev
open PySem PySem.Spec PyProof.Rows L2

theorem Wr.ntup {o : HO} (h : Wr o) : ∀ xs, o ≠ .tup xs := fun xs z => by
  rcases h with ⟨_, e⟩ | ⟨_, _, e, _⟩ <;> (rw [e] at z; cases z)
theorem Wr.nfrz {o : HO} (h : Wr o) : ∀ x u, o ≠ .frz x u := fun x u z => by
  rcases h with ⟨_, e⟩ | ⟨_, _, e, _⟩ <;> (rw [e] at z; cases z)
theorem Wr.ncode {o : HO} (h : Wr o) : ∀ c q, o ≠ LamX.CodeO c q := fun c q z => by
  rcases h with ⟨_, e⟩ | ⟨a, ob, e, arr, ep, hd⟩
  · rw [e] at z; cases z
  · rw [e] at z
    have hz : (fun h : Heap => h.get? a = some ob) = fun h : Heap => ∃ (oc : Obj) (vs : Array Value) (t : Tok), h.get? c = some oc ∧ oc.data = .fields vs ∧ vs[1]? = some (.str q t) := by
      injection z
    have key : ∀ b, b < a + c + 1 → (Heap.mk (Array.replicate (a + c + 1) ob) {}).get? b = some ob := fun b hb => by
      obtain ⟨cl, dc, dt, sl⟩ := ob
      simp only at hd
      subst hd
      unfold Heap.get?
      simp [hb]
    have h1 := congrFun hz (Heap.mk (Array.replicate (a + c + 1) ob) {})
    rw [key a (Nat.lt_succ_of_le (Nat.le_add_right a c))] at h1
    obtain ⟨oc, vs, t, g, d, _⟩ := h1.mp rfl
    rw [key c (Nat.lt_succ_of_le (Nat.le_add_left c a))] at g
    cases g
    rw [hd] at d
    cases d
section
variable {K : PySem.W.Frag} (S : Stg K)
/-- a state of a def that was entered at Mu0, H0 -/
structure At (Mu0 : Addr → Prop) (H0 : Hp) (Mu : Addr → Prop) (env : Env) (h : List D) (σ : L2.St) (H : Hp) : Prop where
  pres : Pres S H0 H
  sub : ∀ a, Mu0 a → Mu a
  new : ∀ a, Mu a → Mu0 a ∨ Fr H0 a
  hd : ∀ a, S.hd = some a → Mu0 a
  dom0 : ∀ a, Mu0 a → ¬ Fr H0 a
  es : ES S Mu env h σ H
  own : ∀ i a, isOwn (nth env i) = true → σ[i]? = some (some (.ref a)) → ¬ Mu0 a
/-- what a statement that writes W leaves as it was -/
structure Stp (W : List Nat) (Mu : Addr → Prop) (σ : L2.St) (H : Hp) (Mu' : Addr → Prop) (σ' : L2.St) (H' : Hp) : Prop where
  keep : ∀ a o, H a = some o → (∀ ps, o ≠ .tbl ps) → (Mu a → ¬ Wr o) → H' a = some o
  dom : ∀ a, ¬ Fr H a → ¬ Fr H' a
  ap : ∀ a, ¬ Fr H a → ¬ Mu a → ¬ Mu' a
  fr : ∀ i, i ∉ W → σ'[i]? = σ[i]?
def GoodS (Mu0 : Addr → Prop) (H0 : Hp) (XA : XAT) (E : XK) (W : List Nat) (Mu : Addr → Prop) (σ : L2.St) (H : Hp) (r : R Flow) (Nx : L2.St → Hp → Prop) (Rt : VK) : Prop := match r with
  | .ok (.next env') h' => ∀ Mu' σ' H', At S Mu0 H0 Mu' env' h' σ' H' → Stp W Mu σ H Mu' σ' H' → Nx σ' H'
  | .ok (.ret d) h' => ∀ v H', Pres S H0 H' → HandAt S Mu0 H' h' → Rep K Mu0 H' v d → Rt v H'
  | .exc e h' => ∀ c d H', Pres S H0 H' → HandAt S Mu0 H' h' → XA e c d H' → E c d H'
  | .bad => False
end

section
variable {K : PySem.W.Frag} {S : Stg K} {W W1 W2 : List Nat} {Mu0 Mu Mu1 Mu2 : Addr → Prop} {H0 H H1 H2 : Hp} {σ σ1 σ2 : L2.St} {env env1 : Env} {h h1 : List D} {XA : XAT} {E : XK} {r : R Flow} {Nx : L2.St → Hp → Prop} {Rt : VK} {v : V} {d : D}
theorem Stp.trans (a : Stp W Mu σ H Mu1 σ1 H1) (b : Stp W Mu1 σ1 H1 Mu2 σ2 H2) : Stp W Mu σ H Mu2 σ2 H2 where
  keep := fun c o e t l => b.keep c o (a.keep c o e t l) t fun m => (Classical.em (Mu c)).elim l fun n => absurd m (a.ap c (notFr e t) n)
  dom := fun c e => b.dom c (a.dom c e)
  ap := fun c e n => b.ap c (a.dom c e) (a.ap c e n)
  fr := fun i n => (b.fr i n).trans (a.fr i n)
theorem Stp.more (a : Stp W Mu σ H Mu1 σ1 H1) (le : ∀ i ∈ W, i ∈ W1) : Stp W1 Mu σ H Mu1 σ1 H1 := ⟨a.keep, a.dom, a.ap, fun i n => a.fr i fun m => n (le i m)⟩
theorem Stp.refl : Stp W Mu σ H Mu σ H := ⟨fun _ _ e _ _ => e, fun _ e => e, fun _ _ n => n, fun _ _ => rfl⟩
theorem Stp.stay (a : Stp W Mu σ H Mu1 σ1 H1) : Stay Mu Mu1 H H1 where
  lst := fun b o d n e => ⟨a.ap b (notFr e d.nt) n, a.keep b _ e d.nt fun m => absurd m n⟩
  tup := fun b xs e => a.keep b _ e (fun ps z => by cases z) fun _ w => w.ntup _ rfl
  frz := fun b o u e => ⟨a.ap b (notFr e fun ps z => by cases z), a.keep b _ e (fun ps z => by cases z) fun _ w => w.nfrz _ _ rfl⟩
theorem Stp.of_pres (p : Pres S H H1) (x : HandAt S Mu H h) : Stp W Mu σ H Mu σ H1 where
  keep := fun a o e t l => p.same a o (fun z => by
    obtain ⟨m, vs, q, _⟩ := x.lst z
    rw [e] at q
    cases q
    exact l m (.inl ⟨_, rfl⟩)) e t
  dom := p.dom
  ap := fun _ _ n => n
  fr := fun _ _ => rfl
theorem GoodS.step (g : GoodS S Mu0 H0 XA E W Mu σ H r Nx Rt) (st : Stp W Mu σ H Mu1 σ1 H1) : GoodS S Mu0 H0 XA E W Mu1 σ1 H1 r Nx Rt := by
  unfold GoodS at *
  split at g
  · exact fun Mu' σ' H' a b => g Mu' σ' H' a (st.trans b)
  · exact g
  · exact g
  · exact g
theorem GoodS.less (g : GoodS S Mu0 H0 XA E W Mu σ H r Nx Rt) (le : ∀ i ∈ W1, i ∈ W) : GoodS S Mu0 H0 XA E W1 Mu σ H r Nx Rt := by
  unfold GoodS at *
  split at g
  · exact fun Mu' σ' H' a b => g Mu' σ' H' a (b.more le)
  · exact g
  · exact g
  · exact g
theorem At.presE (a : At S Mu0 H0 Mu env h σ H) (p : Pres S H H1) (x : HandAt S Mu H1 h1) : At S Mu0 H0 Mu env h1 σ H1 :=
  ⟨a.pres.trans p, a.sub, a.new, a.hd, a.dom0, a.es.pres p x, a.own⟩
theorem At.hand0 (a : At S Mu0 H0 Mu env h σ H) (x : HandAt S Mu H1 h1) : HandAt S Mu0 H1 h1 := x.fewer a.sub a.hd
/-- what stands ahead is an expression -/
theorem GoodS.bnd {α : Type} {m : M α} {f : α → M Flow} (g : GoodS S Mu0 H0 XA E W Mu σ H (bnd m f h) Nx Rt) (a : At S Mu0 H0 Mu env h σ H) :
    Good S Mu XA (m h) H (fun x h1 H1 => At S Mu0 H0 Mu env h1 σ H1 ∧ GoodS S Mu0 H0 XA E W Mu σ H1 (f x h1) Nx Rt) E := by
  rw [run_bnd] at g
  cases q : m h with
  | ok x h1 =>
    rw [q] at g
    exact fun H1 p hx => ⟨a.presE p hx, GoodS.step g (Stp.of_pres p a.es.hand)⟩
  | exc e h1 =>
    rw [q] at g
    exact fun c d H' p hx xa => g c d H' (a.pres.trans p) (a.hand0 hx) xa
  | bad => rw [q] at g; exact g
theorem GoodS.fail (g : GoodS S Mu0 H0 XA E W Mu σ H (fail h) Nx Rt) : False := by rw [run_fail] at g; exact g
theorem GoodS.next (g : GoodS S Mu0 H0 XA E W Mu σ H (ret (.next env1) h1) Nx Rt) (a : At S Mu0 H0 Mu1 env1 h1 σ1 H1) (st : Stp W Mu σ H Mu1 σ1 H1) : Nx σ1 H1 := by
  rw [run_ret] at g
  exact g _ _ _ a st
/-- in two parts -/
theorem GoodS.seqE {m : M Flow} {f : Flow → M Flow} (g : GoodS S Mu0 H0 XA E W Mu σ H (Ev.bnd m f h) Nx Rt) (hf : ∀ d, f (.ret d) = ret (.ret d)) (le1 : ∀ i ∈ W1, i ∈ W) (le2 : ∀ i ∈ W2, i ∈ W) {Nx' : L2.St → Hp → Prop}
    (h2 : ∀ env1 h1, m h = .ok (.next env1) h1 → ∀ Mu1 σ1 H1, At S Mu0 H0 Mu1 env1 h1 σ1 H1 → Stp W1 Mu σ H Mu1 σ1 H1 → GoodS S Mu0 H0 XA E W2 Mu1 σ1 H1 (f (.next env1) h1) Nx Rt → Nx' σ1 H1) : GoodS S Mu0 H0 XA E W1 Mu σ H (m h) Nx' Rt := by
  rw [run_bnd] at g
  cases q : m h with
  | ok x h1 =>
    rw [q] at g
    cases x with
    | next env1 => exact fun Mu1 σ1 H1 a st => h2 env1 h1 q Mu1 σ1 H1 a st ((GoodS.step g (st.more le1)).less le2)
    | ret d =>
      have g : GoodS S Mu0 H0 XA E W Mu σ H (f (.ret d) h1) Nx Rt := g
      rw [hf, run_ret] at g
      exact g
  | exc e h1 => rw [q] at g; exact g
  | bad => rw [q] at g; exact g
theorem GoodS.seq {m : M Flow} {f : Flow → M Flow} (g : GoodS S Mu0 H0 XA E W Mu σ H (Ev.bnd m f h) Nx Rt) (hf : ∀ d, f (.ret d) = ret (.ret d)) (le1 : ∀ i ∈ W1, i ∈ W) (le2 : ∀ i ∈ W2, i ∈ W) {Nx' : L2.St → Hp → Prop}
    (h2 : ∀ env1 h1 Mu1 σ1 H1, At S Mu0 H0 Mu1 env1 h1 σ1 H1 → Stp W1 Mu σ H Mu1 σ1 H1 → GoodS S Mu0 H0 XA E W2 Mu1 σ1 H1 (f (.next env1) h1) Nx Rt → Nx' σ1 H1) : GoodS S Mu0 H0 XA E W1 Mu σ H (m h) Nx' Rt :=
  g.seqE hf le1 le2 fun env1 h1 _ => h2 env1 h1

/-! slots -/
theorem nth_put : ∀ (env : Env) (i j : Nat) (s : Slot), nth (put env i s) j = if i = j ∧ i < env.length then s else nth env j
  | [], i, j, s => by simp [put, nth]
  | x :: r, 0, 0, s => by simp [put, nth]
  | x :: r, 0, j + 1, s => by simp [put, nth]
  | x :: r, i + 1, 0, s => by simp [put, nth]
  | x :: r, i + 1, j + 1, s => by simp [put, nth, nth_put r i j s]
theorem put_len : ∀ (env : Env) (i : Nat) (s : Slot), (put env i s).length = env.length
  | [], _, _ => rfl
  | _ :: _, 0, _ => rfl
  | _ :: r, i + 1, s => by simp [put, put_len r i s]
/-- slots forgotten, slots that come from another state -/
theorem ES.weak (e : ES S Mu env h σ H) (hl : env1.length = env.length) (hs : ∀ i, nth env1 i = .no ∨ nth env1 i = nth env i) : ES S Mu env1 h σ H where
  len := hl.trans e.len
  slot := fun i => by
    rcases hs i with z | z
    · rw [z]; trivial
    · rw [z]; exact e.slot i
  dis := fun i j a n oi oj => by
    rcases hs i with z | z
    · rw [z] at oi; cases oi
    · rcases hs j with y | y
      · rw [y] at oj; cases oj
      · rw [z] at oi; rw [y] at oj; exact e.dis i j a n oi oj
  hand := e.hand
  dom := e.dom
  tabs := e.tabs
theorem At.weak (e : At S Mu0 H0 Mu env h σ H) (hl : env1.length = env.length) (hs : ∀ i, nth env1 i = .no ∨ nth env1 i = nth env i) : At S Mu0 H0 Mu env1 h σ H :=
  ⟨e.pres, e.sub, e.new, e.hd, e.dom0, e.es.weak hl hs, fun i a oi => by
    rcases hs i with z | z
    · rw [z] at oi; cases oi
    · rw [z] at oi; exact e.own i a oi⟩
/-- a value stored -/
theorem ES.putV (e : ES S Mu env h σ H) (r : Rep K Mu H v d) (i : Nat) : ES S Mu (put env i (.val d)) h (σ.set i (some v)) H where
  len := by rw [put_len, List.length_set, e.len]
  slot := fun j => by
    rw [nth_put]
    split
    · rename_i hij
      obtain ⟨rfl, hl⟩ := hij
      rw [List.getElem?_set_self (by rw [← e.len]; exact hl)]
      exact ⟨v, rfl, r⟩
    · rename_i hij
      by_cases hij' : i = j
      · subst hij'
        rw [List.getElem?_eq_none (by rw [List.length_set, ← e.len]; omega)]
        have := e.slot i
        rw [List.getElem?_eq_none (by rw [← e.len]; omega)] at this
        exact this
      · rw [List.getElem?_set_ne hij']
        exact e.slot j
  dis := fun j k a n oj ok q => by
    rw [nth_put] at oj ok
    split at oj
    · cases oj
    split at ok
    · cases ok
    rename_i c1 c2
    have f : ∀ m, isOwn (nth env m) = true → ¬(i = m ∧ i < env.length) → (σ.set i (some v))[m]? = σ[m]? := fun m om c => by
      by_cases him : i = m
      · subst him
        rw [List.getElem?_eq_none (by rw [List.length_set, ← e.len]; omega), List.getElem?_eq_none (by rw [← e.len]; omega)]
      · rw [List.getElem?_set_ne him]
    rw [f j oj c1] at q
    rw [f k ok c2]
    exact e.dis j k a n oj ok q
  hand := e.hand
  dom := e.dom
  tabs := e.tabs
theorem At.putV (e : At S Mu0 H0 Mu env h σ H) (r : Rep K Mu H v d) (i : Nat) : At S Mu0 H0 Mu (put env i (.val d)) h (σ.set i (some v)) H :=
  ⟨e.pres, e.sub, e.new, e.hd, e.dom0, e.es.putV r i, fun j a oj q => by
    rw [nth_put] at oj
    split at oj
    · cases oj
    rename_i c
    refine e.own j a oj ?_
    by_cases hij : i = j
    · subst hij
      rw [List.getElem?_eq_none (by rw [List.length_set, ← e.es.len]; omega)] at q
      cases q
    · rw [List.getElem?_set_ne hij] at q
      exact q⟩
theorem Stp.set {i : Nat} {o : Option V} (hi : i ∈ W) : Stp W Mu σ H Mu (σ.set i o) H :=
  ⟨fun _ _ e _ _ => e, fun _ e => e, fun _ _ n => n, fun j n => List.getElem?_set_ne (by rintro rfl; exact n hi)⟩

/-- a new list that may be written -/
theorem Stay.ofNew {p : Addr} (pr : Pres S H H1) (x : HandAt S Mu H h) (n : Fr H p) : Stay Mu (Add Mu p) H H1 where
  lst := fun a o d m e => ⟨fun z => z.elim m fun q => (by subst q; exact n.no e d.nt), ((pr.stay x).lst a o d m e).2⟩
  tup := fun a xs e => (pr.stay x).tup a xs e
  frz := fun a o u e => ⟨fun m z => z.elim m fun q => (by subst q; exact n.no e fun ps y => by cases y), ((pr.stay x).frz a o u e).2⟩
theorem SlotAt.stay {o : Option (Option V)} {sl : Slot} (r : SlotAt S Mu H o sl) (st : Stay Mu Mu1 H H1) (mu : ∀ a, Mu a → Mu1 a) (ow : ∀ a u, Mu a → S.hd ≠ some a → o = some (some (.ref a)) → isOwn sl = true → H a = some u → Wr u → H1 a = some u) : SlotAt S Mu1 H1 o sl := by
  cases sl with
  | no => trivial
  | val d => obtain ⟨v, e, r⟩ := r; exact ⟨v, e, r.stay st⟩
  | own d => obtain ⟨a, e, m, n, r⟩ := r; exact ⟨a, e, mu a m, n, r.stayC st fun u q w => ow a u m n e rfl q w⟩
  | hand => exact r
  | thunk f => trivial
  | raw d => obtain ⟨v, e, r⟩ := r; exact ⟨v, e, r.stay st⟩
  | exn c => exact r
theorem At.grow {p : Addr} (e : At S Mu0 H0 Mu env h σ H) (pr : Pres S H H1) (n : Fr H p) (x : HandAt S (Add Mu p) H1 h1) (hp : ¬ Fr H1 p) : At S Mu0 H0 (Add Mu p) env h1 σ H1 where
  pres := e.pres.trans pr
  sub := fun a m => .inl (e.sub a m)
  new := fun a m => m.elim (e.new a) fun q => .inr (by rw [q]; exact e.pres.free n)
  hd := e.hd
  dom0 := e.dom0
  es := ⟨e.es.len, fun i => (e.es.slot i).stay (Stay.ofNew pr e.es.hand n) (fun a m => .inl m) fun a u m hn _ _ q w => pr.same a _ hn q w.nt, e.es.dis, x, fun a m => m.elim (fun m => pr.dom a (e.es.dom a m)) fun q => by rw [q]; exact hp, pr.tabs e.es.tabs⟩
  own := e.own
theorem Stp.grow {p : Addr} (e : ES S Mu env h σ H) (pr : Pres S H H1) (n : Fr H p) : Stp W Mu σ H (Add Mu p) σ H1 :=
  ⟨(Stp.of_pres (W := W) (σ := σ) pr e.hand).keep, pr.dom, fun a q m z => z.elim m fun y => q (by rw [y]; exact n), fun _ _ => rfl⟩
theorem ES.putO (e : ES S Mu env h σ H) {p : Addr} (m : Mu p) (hn : S.hd ≠ some p) (r : OwnAt K Mu H p d) (i : Nat) (fr : ∀ j, j ≠ i → isOwn (nth env j) = true → σ[j]? ≠ some (some (.ref p))) : ES S Mu (put env i (.own d)) h (σ.set i (some (.ref p))) H where
  len := by rw [put_len, List.length_set, e.len]
  slot := fun j => by
    rw [nth_put]
    split
    · rename_i hij
      obtain ⟨rfl, hl⟩ := hij
      rw [List.getElem?_set_self (by rw [← e.len]; exact hl)]
      exact ⟨p, rfl, m, hn, r⟩
    · rename_i hij
      by_cases hij' : i = j
      · subst hij'
        rw [List.getElem?_eq_none (by rw [List.length_set, ← e.len]; omega)]
        have := e.slot i
        rw [List.getElem?_eq_none (by rw [← e.len]; omega)] at this
        exact this
      · rw [List.getElem?_set_ne hij']
        exact e.slot j
  dis := fun j k a n oj ok q => by
    rw [nth_put] at oj ok
    have f : ∀ m, m ≠ i → (σ.set i (some (.ref p)))[m]? = σ[m]? := fun m c => List.getElem?_set_ne (Ne.symm c)
    have f2 : ∀ m, ¬ (i < env.length) → (σ.set i (some (.ref p)))[m]? = σ[m]? := fun m c => by
      by_cases him : m = i
      · subst him
        rw [List.getElem?_eq_none (by rw [List.length_set, ← e.len]; omega), List.getElem?_eq_none (by rw [← e.len]; omega)]
      · exact f m him
    have oth : ∀ m, ¬ (i = m ∧ i < env.length) → (σ.set i (some (.ref p)))[m]? = σ[m]? := fun m c => by
      by_cases him : i = m
      · exact f2 m fun z => c ⟨him, z⟩
      · exact f m (Ne.symm him)
    by_cases cj : i = j ∧ i < env.length
    · obtain ⟨rfl, hl⟩ := cj
      rw [List.getElem?_set_self (by rw [← e.len]; exact hl)] at q
      cases q
      have ck : ¬ (i = k ∧ i < env.length) := fun z => n z.1
      rw [if_neg ck] at ok
      rw [oth k ck]
      exact fr k (Ne.symm n) ok
    · rw [if_neg cj] at oj
      rw [oth j cj] at q
      by_cases ck : i = k ∧ i < env.length
      · obtain ⟨rfl, hl⟩ := ck
        rw [List.getElem?_set_self (by rw [← e.len]; exact hl)]
        intro z
        cases z
        exact fr j n oj q
      · rw [if_neg ck] at ok
        rw [oth k ck]
        exact e.dis j k a n oj ok q
  hand := e.hand
  dom := e.dom
  tabs := e.tabs
theorem At.putO (e : At S Mu0 H0 Mu env h σ H) {p : Addr} (m : Mu p) (hn : S.hd ≠ some p) (n0 : ¬ Mu0 p) (r : OwnAt K Mu H p d) (i : Nat) (fr : ∀ j, j ≠ i → isOwn (nth env j) = true → σ[j]? ≠ some (some (.ref p))) : At S Mu0 H0 Mu (put env i (.own d)) h (σ.set i (some (.ref p))) H :=
  ⟨e.pres, e.sub, e.new, e.hd, e.dom0, e.es.putO m hn r i fr, fun j a oj q => by
    rw [nth_put] at oj
    by_cases cj : i = j ∧ i < env.length
    · obtain ⟨rfl, hl⟩ := cj
      rw [List.getElem?_set_self (by rw [← e.es.len]; exact hl)] at q
      cases q
      exact n0
    · rw [if_neg cj] at oj
      refine e.own j a oj ?_
      by_cases hij : i = j
      · subst hij
        rw [List.getElem?_eq_none (by rw [List.length_set, ← e.es.len]; omega)] at q
        cases q
      · rw [List.getElem?_set_ne hij] at q
        exact q⟩
/-- an object written -/
theorem Stay.writeO {p : Addr} {u u' : HO} (m : Mu p) (q : H p = some u) (w : Wr u) : Stay Mu Mu H (upd H p u') where
  lst := fun a o d n e => ⟨n, by rw [upd_ne (by rintro rfl; exact n m)]; exact e⟩
  tup := fun a xs e => by rw [upd_ne (fun z => by rw [z, q] at e; cases e; exact w.ntup _ rfl)]; exact e
  frz := fun a o u e => ⟨fun n => n, by rw [upd_ne (fun z => by rw [z, q] at e; cases e; exact w.nfrz _ _ rfl)]; exact e⟩
theorem Stp.writeO {p : Addr} {u u' : HO} (m : Mu p) (q : H p = some u) (w : Wr u) (w' : Wr u') : Stp W Mu σ H Mu σ (upd H p u') where
  keep := fun a o e t l => by
    rw [upd_ne (fun z => by rw [z] at l; rw [z, q] at e; cases e; exact l m w)]
    exact e
  dom := fun a e => Fr.upd w'.nt e
  ap := fun _ _ n => n
  fr := fun _ _ => rfl
theorem tabs_writeO {T : List (Addr × Str)} {p : Addr} {u u' : HO} (q : H p = some u) (w : Wr u) (t : LamX.Tabs T H) : LamX.Tabs T (upd H p u') := fun x hx => by
  obtain ⟨ps, h1, h2, h3⟩ := t x hx
  refine ⟨ps, by rw [upd_ne (fun z => by rw [z, q] at h1; cases h1; exact w.nt _ rfl)]; exact h1, h2, fun pos cv hc => ?_⟩
  obtain ⟨c, e1, e2⟩ := h3 pos cv hc
  exact ⟨c, e1, by rw [upd_ne (fun z => by rw [z, q] at e2; injection e2 with e2; exact w.ncode _ _ e2)]; exact e2⟩
theorem Pres.writeO {p : Addr} {u u' : HO} (pr : Pres S H0 H) (n : Fr H0 p ∨ S.hd = some p) (q : H p = some u) (w : Wr u) (w' : Wr u') : Pres S H0 (upd H p u') where
  same := fun a o hn e t => by
    rw [upd_ne (by rintro rfl; exact n.elim (fun y => y.no e t) hn)]
    exact pr.same a o hn e t
  dom := fun a e => Fr.upd w'.nt (pr.dom a e)
  tabs := fun t => tabs_writeO q w (pr.tabs t)
theorem HandAt.writeO {p : Addr} {u u' : HO} (x : HandAt S Mu H h) (m : Mu p) (hn : S.hd ≠ some p) (q : H p = some u) (w : Wr u) : HandAt S Mu (upd H p u') h := by
  unfold HandAt at *
  split at x
  · exact x
  · rename_i a e
    obtain ⟨m', xs, q', r⟩ := x
    exact ⟨m', xs, by rw [upd_ne (by rintro rfl; exact hn e)]; exact q', r.stay (Stay.writeO m q w)⟩
theorem At.writeO {p : Addr} {u u' : HO} {d d' : D} {i : Nat} (e : At S Mu0 H0 Mu env h σ H) (hi : nth env i = .own d) (hs : σ[i]? = some (some (.ref p))) (q : H p = some u) (w : Wr u) (w' : Wr u') (m : Mu p) (hn : S.hd ≠ some p) (r : OwnAt K Mu (upd H p u') p d') :
    At S Mu0 H0 Mu (put env i (.own d')) h σ (upd H p u') := by
  have oi : isOwn (nth env i) = true := by rw [hi]; rfl
  have n0 : ¬ Mu0 p := e.own i p oi hs
  have st : Stay Mu Mu H (upd H p u') := Stay.writeO m q w
  have oth : ∀ j, j ≠ i → isOwn (nth env j) = true → σ[j]? ≠ some (some (.ref p)) := fun j n oj => e.es.dis i j p (Ne.symm n) oi oj hs
  refine ⟨e.pres.writeO ((e.new p m).elim (fun z => absurd z n0) .inl) q w w', e.sub, e.new, e.hd, e.dom0, ⟨by rw [put_len, e.es.len], fun j => ?_, fun j k a n oj ok => ?_, e.es.hand.writeO m hn q w, fun a ma => ?_, tabs_writeO q w e.es.tabs⟩, fun j a oj => ?_⟩
  · rw [nth_put]
    split
    · rename_i c
      obtain ⟨rfl, _⟩ := c
      exact ⟨p, hs, m, hn, r⟩
    · rename_i c
      have hj := e.es.slot j
      by_cases hij : j = i
      · subst hij
        exfalso
        have : ¬ (j < env.length) := fun z => c ⟨rfl, z⟩
        rw [List.getElem?_eq_none (by rw [← e.es.len]; omega)] at hs
        cases hs
      · exact hj.stay st (fun a m => m) fun a us ma na oa ia qa _ => by
          rw [upd_ne (by rintro rfl; exact oth j hij ia oa)]
          exact qa
  · have f : ∀ k, isOwn (nth (put env i (.own d')) k) = true → isOwn (nth env k) = true := fun k ok => by
      rw [nth_put] at ok
      split at ok
      · rename_i c; rw [← c.1]; exact oi
      · exact ok
    exact e.es.dis j k a n (f j oj) (f k ok)
  · exact Fr.upd w'.nt (e.es.dom a ma)
  · rw [nth_put] at oj
    split at oj
    · rename_i c; rw [← c.1]; exact e.own i a oi
    · exact e.own j a oj
/-- a list written -/
theorem Stay.write {p : Addr} {vs ws : List V} (m : Mu p) (q : H p = some (.lst vs)) : Stay Mu Mu H (upd H p (.lst ws)) := .writeO m q (.inl ⟨_, rfl⟩)
theorem Stp.write {p : Addr} {vs ws : List V} (m : Mu p) (q : H p = some (.lst vs)) : Stp W Mu σ H Mu σ (upd H p (.lst ws)) := .writeO m q (.inl ⟨_, rfl⟩) (.inl ⟨_, rfl⟩)
theorem tabs_write {T : List (Addr × Str)} {p : Addr} {vs ws : List V} (q : H p = some (.lst vs)) (t : LamX.Tabs T H) : LamX.Tabs T (upd H p (.lst ws)) := tabs_writeO q (.inl ⟨_, rfl⟩) t
theorem Pres.write {p : Addr} {vs ws : List V} (pr : Pres S H0 H) (n : Fr H0 p ∨ S.hd = some p) (q : H p = some (.lst vs)) : Pres S H0 (upd H p (.lst ws)) := pr.writeO n q (.inl ⟨_, rfl⟩) (.inl ⟨_, rfl⟩)
theorem At.write {p : Addr} {vs ws : List V} {xs ys : List D} {i : Nat} (e : At S Mu0 H0 Mu env h σ H) (hi : nth env i = .own (.list xs)) (hs : σ[i]? = some (some (.ref p))) (q : H p = some (.lst vs)) (m : Mu p) (hn : S.hd ≠ some p) (r : RepL K Mu H ws ys) :
    At S Mu0 H0 Mu (put env i (.own (.list ys))) h σ (upd H p (.lst ws)) :=
  e.writeO hi hs q (.inl ⟨_, rfl⟩) (.inl ⟨_, rfl⟩) m hn (.lst upd_same (r.stay (Stay.write m q)))
/-- the hand written -/
theorem At.writeH {p : Addr} {vs ws : List V} {ys : List D} (e : At S Mu0 H0 Mu env h σ H) (hp : S.hd = some p) (q : H p = some (.lst vs)) (r : RepL K Mu H ws ys) :
    At S Mu0 H0 Mu env ys σ (upd H p (.lst ws)) := by
  have m : Mu p := (e.es.hand.lst hp).1
  have st : Stay Mu Mu H (upd H p (.lst ws)) := Stay.write m q
  refine ⟨e.pres.write (.inr hp) q, e.sub, e.new, e.hd, e.dom0, ⟨e.es.len, fun j => ?_, e.es.dis, ?_, fun a ma => ?_, tabs_write q e.es.tabs⟩, e.own⟩
  · exact (e.es.slot j).stay st (fun a m => m) fun a us ma na oa ia qa _ => by
      rw [upd_ne (by rintro rfl; exact na hp)]
      exact qa
  · unfold HandAt
    rw [hp]
    exact ⟨m, ws, upd_same, r.stay st⟩
  · exact Fr.upd (fun ps z => by cases z) (e.es.dom a ma)
end

/-! ### judgements -/
section
variable (X : Cx) (S : Stg X.K) (XA : XAT) (E : XK)
def SS (st : Stmt) (W : List Nat) (m : Env → M Flow) : Prop := ∃ t : TS, PS X st t ∧ ∀ (Mu0 : Addr → Prop) H0 Mu env h σ H (Q : Ends), At S Mu0 H0 Mu env h σ H → GoodS S Mu0 H0 XA E W Mu σ H (m env h) Q.nx Q.rt → t Q σ H
def SSs (st : List Stmt) (W : List Nat) (m : Env → M Flow) : Prop := ∃ t : TS, PSs X st t ∧ ∀ (Mu0 : Addr → Prop) H0 Mu env h σ H (Q : Ends), At S Mu0 H0 Mu env h σ H → GoodS S Mu0 H0 XA E W Mu σ H (m env h) Q.nx Q.rt → t Q σ H
end
section
variable {X : Cx} {S : Stg X.K} {XA : XAT} {E : XK} {a b c : Expr} {ma mb mc : Env → M D} {pos : Pos} {W W1 W2 : List Nat} {st : Stmt} {sts rest : List Stmt} {m : Env → M Flow}
theorem SS.more (h : SS X S XA E st W m) (le : ∀ i ∈ W, i ∈ W1) : SS X S XA E st W1 m := by
  obtain ⟨t, p, q⟩ := h
  exact ⟨t, p, fun Mu0 H0 Mu env h σ H Q at' g => q Mu0 H0 Mu env h σ H Q at' (g.less le)⟩
theorem SSs.more (h : SSs X S XA E sts W m) (le : ∀ i ∈ W, i ∈ W1) : SSs X S XA E sts W1 m := by
  obtain ⟨t, p, q⟩ := h
  exact ⟨t, p, fun Mu0 H0 Mu env h σ H Q at' g => q Mu0 H0 Mu env h σ H Q at' (g.less le)⟩
theorem sss_nil : SSs X S XA E [] W (fun env => ret (.next env)) := ⟨_, pss_nil, fun Mu0 H0 Mu env h σ H Q at' g => g.next at' Stp.refl⟩
def seqM (m2 : Env → M Flow) : Flow → M Flow
  | .next env' => m2 env'
  | .ret d => ret (.ret d)
theorem sss_cons {m1 m2 : Env → M Flow} (h1 : SS X S XA E st W m1) (h2 : SSs X S XA E rest W m2) : SSs X S XA E (st :: rest) W (fun env => bnd (m1 env) (seqM m2)) := by
  obtain ⟨t1, p1, q1⟩ := h1
  obtain ⟨t2, p2, q2⟩ := h2
  refine ⟨_, pss_cons p1 p2, fun Mu0 H0 Mu env h σ H Q at' g => ?_⟩
  exact q1 Mu0 H0 Mu env h σ H { Q with nx := t2 Q } at' (GoodS.seq (W2 := W) g (fun _ => rfl) (fun _ z => z) (fun _ z => z) fun env1 h1 Mu1 σ1 H1 a1 _ g1 => q2 Mu0 H0 Mu1 env1 h1 σ1 H1 Q a1 g1)
theorem ss_pass : SS X S XA E (.Pass pos) W (fun env => ret (.next env)) := ⟨_, ps_pass, fun Mu0 H0 Mu env h σ H Q at' g => g.next at' Stp.refl⟩
theorem ss_expr (ha : SE X S XA E a ma) (hs : swapsWith a none pos.line X.env = pure false) : SS X S XA E (.Expr a pos) W (fun env => bnd (ma env) fun _ => ret (.next env)) := by
  obtain ⟨t, p, q⟩ := ha
  refine ⟨_, ps_expr p hs, fun Mu0 H0 Mu env h σ H Q at' g => ?_⟩
  exact q Mu env h σ H _ at'.es (Good.mono (g.bnd at') fun x h1 H1 p1 x1 g1 v rv => g1.2.next g1.1 Stp.refl)
theorem ss_doc {x : Str} {j : Nat} {pos' : Pos} : SS X S XA E (.Expr (.Constant (.str x) j pos) pos') W (fun env => ret (.next env)) := ⟨_, ps_doc, fun Mu0 H0 Mu env h σ H Q at' g => g.next at' Stp.refl⟩
theorem rep_out {Mu0 Mu : Addr → Prop} {H0 H : Hp} {env : Env} {h : List D} {σ : L2.St} {v : V} {d : D} (at' : At S Mu0 H0 Mu env h σ H) (r : Rep X.K Mu H v d) : Rep X.K Mu0 H v d := r.fewer at'.sub
theorem ss_ret (ha : SE X S XA E a ma) : SS X S XA E (.Return (some a) pos) W (fun env => bnd (ma env) fun d => ret (.ret d)) := by
  obtain ⟨t, p, q⟩ := ha
  refine ⟨_, ps_ret p, fun Mu0 H0 Mu env h σ H Q at' g => ?_⟩
  refine q Mu env h σ H _ at'.es (Good.mono (g.bnd at') fun x h1 H1 p1 x1 g1 v rv => ?_)
  have g2 := g1.2
  rw [run_ret] at g2
  exact g2 v H1 g1.1.pres (g1.1.hand0 x1) (rep_out g1.1 rv)
/-- a list of one's own goes out -/
theorem ss_retO {i : Nat} {x : Str} {npos : Pos} (hN : X.N[i]? = some x) (hv : Vis X.env.scope x) (hd : (x == ("__debug__" : Str)) = false) (hcd : (x == ("__classdict__" : Str)) = false) : SS X S XA E (.Return (some (.Name x npos)) pos) W (fun env => bnd (slotB env i) fun d => ret (.ret d)) := by
  refine ⟨_, ps_ret (pe_var hN hv hd hcd), fun Mu0 H0 Mu env h σ H Q at' g => ?_⟩
  have hs := at'.es.slot i
  dsimp only at g
  unfold slotB at g
  cases q : nth env i with
  | val d =>
    rw [q] at hs g
    obtain ⟨v, e1, r⟩ := hs
    refine ⟨v, e1, ?_⟩
    rw [bnd_ret, run_ret] at g
    exact g v H at'.pres (at'.hand0 at'.es.hand) (rep_out at' r)
  | own d =>
    rw [q] at hs g
    obtain ⟨a, e1, m, n, r⟩ := hs
    refine ⟨.ref a, e1, ?_⟩
    cases d <;> first | (dsimp only at g; rw [bnd_fail] at g; exact g.fail.elim) | skip
    dsimp only at g
    rw [bnd_ret, run_ret] at g
    exact g _ H at'.pres (at'.hand0 at'.es.hand) (r.rep at'.sub (at'.own i a (by rw [q]; rfl) e1))
  | _ => rw [q] at g; dsimp only at g; rw [bnd_fail] at g; exact g.fail.elim
theorem ss_retN : SS X S XA E (.Return none pos) W (fun _ => ret (.ret .none)) := by
  refine ⟨_, ps_retN, fun Mu0 H0 Mu env h σ H Q at' g => ?_⟩
  dsimp only at g
  rw [run_ret] at g
  exact g _ H at'.pres (at'.hand0 at'.es.hand) .non
theorem ss_if {mt : Env → M Bool} {m1 m2 : Env → M Flow} {s1 s2 : List Stmt} (hc : ST X S XA E c mt) (h1 : SSs X S XA E s1 W m1) (h2 : SSs X S XA E s2 W m2) : SS X S XA E (.If c s1 s2 pos) W (fun env => bnd (mt env) fun t => iteM t (m1 env) (m2 env)) := by
  obtain ⟨tc, pc, qc⟩ := hc
  obtain ⟨t1, p1, q1⟩ := h1
  obtain ⟨t2, p2, q2⟩ := h2
  refine ⟨_, ps_if pc p1 p2, fun Mu0 H0 Mu env h σ H Q at' g => ?_⟩
  refine qc Mu env h σ H _ at'.es (Good.mono (g.bnd at') fun k h1 H1 p1 x1 g1 => ?_)
  cases k with
  | true => rw [if_pos rfl]; exact q1 _ _ _ _ _ _ _ _ g1.1 g1.2
  | false => rw [if_neg Bool.false_ne_true]; exact q2 _ _ _ _ _ _ _ _ g1.1 g1.2
end
end Ev
set_option Elab.async false
set_option linter.all false
set_option maxRecDepth 100000
set_option maxHeartbeats 1000000
/-! Statements: targets, stores. -/
namespace Ev
open PySem PySem.Spec PyProof.Rows L2

section
variable {X : Cx} {S : Stg X.K} {XA : XAT} {E : XK} {a b c : Expr} {ma mb mc : Env → M D} {pos : Pos} {W W1 W2 : List Nat} {st : Stmt} {m : Env → M Flow}
/-! ### targets -/
/-- an item that is walked: a value, or (where the target is a tuple, which takes it apart at once) a pair of values in a tuple of any make -/
def IRep (tg : Expr) (K : PySem.W.Frag) (Mu : Addr → Prop) (H : Hp) (v : V) (d : D) : Prop :=
  Rep K Mu H v d ∨ ((∃ es k p, tg = .Tuple es k p) ∧ ∃ a vs ds, v = .ref a ∧ d = .tuple ds ∧ SqT K H a vs ∧ RepL K Mu H vs ds)
def SG (X : Cx) (tg : Expr) (ns : List Nat) (f : D → Env → M Env) : Prop := ∃ g : TG, PG X tg g ∧ (∀ d env h, (∃ env', f d env h = .ok env' h) ∨ f d env h = .bad) ∧
  ∀ (Mu : Addr → Prop) (H : Hp) (v : V) (d : D) (env env' : Env) (σ : L2.St) (h : List D) (Q : L2.St → Hp → Prop) (J : Env → L2.St → Prop), (∀ env σ i v d, J env σ → Rep X.K Mu H v d → i ∈ ns → J (put env i (.val d)) (σ.set i (some v))) → IRep tg X.K Mu H v d → J env σ →
    f d env h = .ok env' h → (∀ σ', J env' σ' → Q σ' H) → g v σ H Q
def SGs (X : Cx) (tgs : List Expr) (ns : List Nat) (f : List D → Env → M Env) : Prop := ∃ g : TGs, PGs X tgs g ∧ (∀ ds env h, (∃ env', f ds env h = .ok env' h) ∨ f ds env h = .bad) ∧ (∀ ds env h env', f ds env h = .ok env' h → ds.length = tgs.length) ∧
  ∀ (Mu : Addr → Prop) (H : Hp) (vs : List V) (ds : List D) (env env' : Env) (σ : L2.St) (h : List D) (Q : L2.St → Hp → Prop) (J : Env → L2.St → Prop), (∀ env σ i v d, J env σ → Rep X.K Mu H v d → i ∈ ns → J (put env i (.val d)) (σ.set i (some v))) → RepL X.K Mu H vs ds → J env σ →
    f ds env h = .ok env' h → (∀ σ', J env' σ' → Q σ' H) → g vs σ H Q
theorem sg_name {i : Nat} {x : Str} {ns : List Nat} (hN : X.N.Nodup) (hi : X.N[i]? = some x) (hx : Loc X.env.scope x) (hf : X.fn x = true ∨ X.env.scope.names.lookup x = some .local) (hns : i ∈ ns) : SG X (.Name x pos) ns (fun d env => ret (put env i (.val d))) := by
  refine ⟨_, pg_name hN hi hx hf, fun d env h => .inl ⟨_, run_ret _ _⟩, fun Mu H v d env env' σ h Q J cl r j e k => ?_⟩
  have e := (run_ret _ _).symm.trans e
  cases e
  rcases r with r | ⟨⟨_, _, _, z⟩, _⟩
  · exact k _ (cl _ _ i v d j r hns)
  · cases z
theorem sgs_nil {ns : List Nat} : SGs X [] ns (fun ds env => match ds with | [] => ret env | _ => fail) := by
  refine ⟨_, pgs_nil, fun ds env h => ?_, fun ds env h env' e => ?_, fun Mu H vs ds env env' σ h Q J cl r j e k => ?_⟩
  · cases ds with
    | nil => exact .inl ⟨_, run_ret _ _⟩
    | cons => exact .inr (run_fail _)
  · cases ds with
    | nil => rfl
    | cons => have e := (run_fail _).symm.trans e; cases e
  · cases ds with
    | nil =>
      cases r
      have e := (run_ret _ _).symm.trans e
      cases e
      exact ⟨rfl, k σ j⟩
    | cons => have e := (run_fail _).symm.trans e; cases e
theorem sgs_cons {ns : List Nat} {t : Expr} {ts : List Expr} {f : D → Env → M Env} {fs : List D → Env → M Env} (h1 : SG X t ns f) (h2 : SGs X ts ns fs) (hs : (assignEach (t :: ts) X.env).map (·.2) = assign t X.env :: (assignEach ts X.env).map (·.2)) :
    SGs X (t :: ts) ns (fun ds env => match ds with | d :: ds => bnd (f d env) (fs ds) | _ => fail) := by
  obtain ⟨g1, p1, b1, q1⟩ := h1
  obtain ⟨g2, p2, b2, l2, q2⟩ := h2
  refine ⟨_, pgs_cons p1 p2 hs, fun ds env h => ?_, fun ds env h env' e => ?_, fun Mu H vs ds env env' σ h Q J cl r j e k => ?_⟩
  · cases ds with
    | nil => exact .inr (run_fail _)
    | cons d ds =>
      show (∃ env', bnd (f d env) (fs ds) h = .ok env' h) ∨ bnd (f d env) (fs ds) h = .bad
      rcases b1 d env h with ⟨e1, q⟩ | q
      · rw [bnd_ok q]; exact b2 ds e1 h
      · exact .inr (by rw [run_bnd, q]; rfl)
  · cases ds with
    | nil => have e := (run_fail _).symm.trans e; cases e
    | cons d ds =>
      have e : bnd (f d env) (fs ds) h = .ok env' h := e
      rcases b1 d env h with ⟨e1, q⟩ | q
      · rw [bnd_ok q] at e
        rw [List.length_cons, List.length_cons, l2 ds e1 h env' e]
      · rw [run_bnd, q] at e; cases e
  · cases ds with
    | nil => have e := (run_fail _).symm.trans e; cases e
    | cons d ds =>
      cases r with
      | cons r1 r2 =>
        have e : bnd (f d env) (fs ds) h = .ok env' h := e
        rcases b1 d env h with ⟨e1, q⟩ | q
        · rw [bnd_ok q] at e
          refine ⟨_, _, rfl, q1 Mu H _ d env e1 σ h _ J cl (.inl r1) j q fun σ' j' => ?_⟩
          exact q2 Mu H _ ds e1 env' σ' h Q J cl r2 j' e k
        · rw [run_bnd, q] at e; cases e
theorem pg_or {t : Expr} {g1 g2 : TG} (h1 : PG X t g1) (h2 : PG X t g2) : PG X t (fun v σ H Q => g1 v σ H Q ∨ g2 v σ H Q) := ⟨fun pins s σ H v u Q I r h => h.elim (h1.run pins s σ H v u Q I r) (h2.run pins s σ H v u Q I r)⟩
theorem sg_tup {ns : List Nat} {ts : List Expr} {k : Nat} {fs : List D → Env → M Env} (hc : X.calm = true) (h : SGs X ts ns fs) (hn : (assignEach ts X.env).length = ts.length) (hst : (assignEach ts X.env).findIdx? (·.1) = none) :
    SG X (.Tuple ts k pos) ns (fun d env => match d with | .tuple xs => fs xs env | .list xs => fs xs env | _ => fail) := by
  obtain ⟨g, p, b, l, q⟩ := h
  refine ⟨_, pg_or (pg_tup hc p hn hst) (pg_lst hc p hn hst), fun d env h => ?_, fun Mu H v d env env' σ h Q J cl r j e k => ?_⟩
  · cases d <;> first | exact .inr (run_fail _) | exact b _ _ _
  · have r : Rep X.K Mu H v d ∨ ∃ a vs ds, v = .ref a ∧ d = .tuple ds ∧ SqT X.K H a vs ∧ RepL X.K Mu H vs ds := r.imp id fun z => z.2
    rcases r with r | ⟨a, vs, ds, rfl, rfl, hs, hr⟩
    case inr => exact .inl ⟨_, _, rfl, hs, hr.length.trans (l _ _ _ _ e), q Mu H _ ds env env' σ h Q J cl hr j e k⟩
    cases d with
    | tuple xs =>
      cases r with
      | tup hs hr => exact .inl ⟨_, _, rfl, hs.sq, hr.length.trans (l _ _ _ _ e), q Mu H _ xs env env' σ h Q J cl hr j e k⟩
    | list xs =>
      cases r with
      | lst _ hs hr => exact .inr ⟨_, _, rfl, .of hs, hr.length.trans (l _ _ _ _ e), q Mu H _ xs env env' σ h Q J cl hr j e k⟩
    | _ => have e := (run_fail _).symm.trans e; cases e

/-! ### stores -/
theorem fr_set {ns : List Nat} {σ σ1 : L2.St} {i : Nat} {v : Option V} (f : ∀ j, j ∉ ns → σ1[j]? = σ[j]?) (hi : i ∈ ns) : ∀ j, j ∉ ns → (σ1.set i v)[j]? = σ[j]? := fun j n => by
  rw [List.getElem?_set_ne (by rintro rfl; exact n hi)]
  exact f j n
theorem ss_asg {tg : Expr} {f : D → Env → M Env} (ha : SE X S XA E a ma) (hg : SG X tg W f) (hs : swapsWithSole [tg] a pos.line X.env = pure false) (hw : swappedStores [tg] a X.env = pure none) (h1 : (assignEach [tg] X.env).map (·.2) = [assign tg X.env]) :
    SS X S XA E (.Assign [tg] a pos) W (fun env => bnd (ma env) fun d => nextM (f d env)) := by
  obtain ⟨t, p, q⟩ := ha
  obtain ⟨g, pg, bg, qg⟩ := hg
  refine ⟨_, ps_asg p pg hs hw h1, fun Mu0 H0 Mu env h σ H Q at' g => ?_⟩
  refine q Mu env h σ H _ at'.es (Good.mono (g.bnd at') fun d h1 H1 p1 x1 g1 v rv => ?_)
  obtain ⟨a1, g2⟩ := g1
  unfold nextM at g2
  rw [run_bnd] at g2
  rcases bg d env h1 with ⟨env', e⟩ | e
  · rw [e] at g2
    refine qg Mu H1 v d env env' σ h1 _ (fun env2 σ2 => At S Mu0 H0 Mu env2 h1 σ2 H1 ∧ ∀ j, j ∉ W → σ2[j]? = σ[j]?) (fun env2 σ2 i v2 d2 j2 r2 hi => ⟨j2.1.putV r2 i, fr_set j2.2 hi⟩) (.inl rv) ⟨a1, fun _ _ => rfl⟩ e fun σ' j' => ?_
    exact GoodS.next (show GoodS S Mu0 H0 XA E W Mu σ H1 (ret (.next env') h1) Q.nx Q.rt from g2) j'.1 ⟨fun _ _ e _ _ => e, fun _ e => e, fun _ _ n => n, j'.2⟩
  · rw [e] at g2
    exact g2.elim
/-- name = e: what the two forms (a comprehension on the name's own line or not) have in common -/
def SEm (X : Cx) (S : Stg X.K) (XA : XAT) (E : XK) (t : TE) (m : Env → M D) : Prop := ∀ (Mu : Addr → Prop) env h σ H Q, ES S Mu env h σ H → Good S Mu XA (m env h) H (fun d h' H' => ∀ v, Rep X.K Mu H' v d → Q v H') E → t σ H Q
def SFm (X : Cx) (S : Stg X.K) (XA : XAT) (E : XK) (t : TE) (m : Env → M D) : Prop := ∀ (Mu : Addr → Prop) env h σ H Q, ES S Mu env h σ H → Good S Mu XA (m env h) H (fun d h' H' => ∀ a, Fr H a → S.hd ≠ some a → HandAt S (Add Mu a) H' h' → OwnAt X.K (Add Mu a) H' a d → Q (.ref a) H') E → t σ H Q
theorem ss_set {i : Nat} {t : TE} (p : PS X st (tAsg t (gName i))) (q : SEm X S XA E t ma) : SS X S XA E st [i] (fun env => bnd (ma env) fun d => nextM (ret (put env i (.val d)))) := by
  refine ⟨_, p, fun Mu0 H0 Mu env h σ H Q at' g => ?_⟩
  refine q Mu env h σ H _ at'.es (Good.mono (g.bnd at') fun d h1 H1 p1 x1 g1 v rv => ?_)
  have g2 := g1.2
  unfold nextM at g2
  rw [bnd_ret] at g2
  exact g2.next (g1.1.putV rv i) (Stp.set (by simp))
theorem OwnAt.ne {K : PySem.W.Frag} {Mu : Addr → Prop} {H : Hp} {a : Addr} {d : D} (o : OwnAt K Mu H a d) : ¬ Fr H a := by
  obtain ⟨u, q, w⟩ := o.there
  exact notFr q w.nt
theorem ES.notnew {K : PySem.W.Frag} {S : Stg K} {Mu : Addr → Prop} {env : Env} {h : List D} {σ : L2.St} {H : Hp} (e : ES S Mu env h σ H) {p : Addr} (n : Fr H p) : ∀ j, isOwn (nth env j) = true → σ[j]? ≠ some (some (.ref p)) := fun j oj q => by
  have hs := e.slot j
  cases z : nth env j with
  | own d =>
    rw [z, q] at hs
    obtain ⟨a, e1, _, _, o⟩ := hs
    cases e1
    exact o.ne n
  | _ => rw [z] at oj; cases oj
theorem ss_own {i : Nat} {t : TE} (p : PS X st (tAsg t (gName i))) (q : SFm X S XA E t ma) : SS X S XA E st [i] (fun env => bnd (ma env) fun d => ret (.next (put env i (.own d)))) := by
  refine ⟨_, p, fun Mu0 H0 Mu env h σ H Q at' g => ?_⟩
  have g' := g.bnd at'
  cases z : ma env h with
  | ok d h1 =>
    rw [z] at g'
    refine q Mu env h σ H _ at'.es ?_
    rw [z]
    intro H1 p1 x1 a ha hn hx o
    have g1 := g' H1 p1 x1
    have st' : Stp [i] Mu σ H1 (Add Mu a) (σ.set i (some (.ref a))) H1 → Q.nx (σ.set i (some (.ref a))) H1 := fun s => by
      have a1 : At S Mu0 H0 (Add Mu a) env h1 σ H1 := at'.grow p1 ha hx o.ne
      exact g1.2.next (a1.putO (.inr rfl) hn (fun m => at'.es.free ha (at'.sub a m)) o i fun j _ oj => at'.es.notnew ha j oj) s
    -- from the state ahead
    have gg : GoodS S Mu0 H0 XA E [i] Mu σ H (ret (.next (put env i (.own d))) h1) Q.nx Q.rt := by
      dsimp only at g
      rw [bnd_ok z] at g
      exact g
    have a1 : At S Mu0 H0 (Add Mu a) env h1 σ H1 := at'.grow p1 ha hx o.ne
    exact gg.next (a1.putO (.inr rfl) hn (fun m => at'.es.free ha (at'.sub a m)) o i fun j _ oj => at'.es.notnew ha j oj) ((Stp.grow (W := [i]) at'.es p1 ha).trans (Stp.set (by simp)))
  | exc e h1 =>
    rw [z] at g'
    exact q Mu env h σ H _ at'.es (by rw [z]; exact g')
  | bad => rw [z] at g'; exact g'.elim
theorem ss_mov {i j : Nat} (p : PS X st (tAsg (tVar i) (gName j))) : SS X S XA E st [i, j] (fun env => nextM (movSlot env j i)) := by
  refine ⟨_, p, fun Mu0 H0 Mu env h σ H Q at' g => ?_⟩
  have hs := at'.es.slot i
  dsimp only at g
  unfold movSlot nextM at g
  cases q : nth env i with
  | own d =>
    rw [q] at hs g
    obtain ⟨a, e1, m, n, o⟩ := hs
    refine ⟨.ref a, e1, ?_⟩
    dsimp only at g
    rw [bnd_ret] at g
    have oi : isOwn (nth env i) = true := by rw [q]; rfl
    have a1 : At S Mu0 H0 Mu (put env i .no) h σ H := at'.weak (put_len _ _ _) fun k => by
      rw [nth_put]
      split
      · exact .inl rfl
      · exact .inr rfl
    refine g.next (a1.putO m n (at'.own i a oi e1) o j fun k _ ok => ?_) (Stp.set (by simp))
    rw [nth_put] at ok
    split at ok
    · cases ok
    · rename_i c
      by_cases hik : i = k
      · subst hik
        have : ¬ (i < env.length) := fun z => c ⟨rfl, z⟩
        rw [List.getElem?_eq_none (by rw [← at'.es.len]; omega)]
        exact fun z => by cases z
      · exact at'.es.dis i k a hik oi ok e1
  | _ => rw [q] at g; dsimp only at g; rw [bnd_fail] at g; exact g.fail.elim
end
end Ev
set_option Elab.async false
set_option linter.all false
set_option maxRecDepth 100000
set_option maxHeartbeats 1000000
/-! Statements: lists that are written, several names at once. -/
namespace Ev
open PySem PySem.Spec PyProof.Rows L2

section
variable {X : Cx} {S : Stg X.K} {XA : XAT} {E : XK} {a b c : Expr} {ma mb mc : Env → M D} {pos : Pos} {W W1 W2 : List Nat} {st : Stmt} {m : Env → M Flow}
theorem ix_eq (n : Nat) (i : Int) : ixN n i = ixOf n i := rfl
theorem own_invO {Mu0 Mu : Addr → Prop} {H0 H : Hp} {env : Env} {h : List D} {σ : L2.St} {i : Nat} {d : D} (at' : At S Mu0 H0 Mu env h σ H) (q : nth env i = .own d) : ∃ p, σ[i]? = some (some (.ref p)) ∧ Mu p ∧ S.hd ≠ some p ∧ OwnAt X.K Mu H p d := by
  have hs := at'.es.slot i
  rw [q] at hs
  exact hs
theorem own_inv {Mu0 Mu : Addr → Prop} {H0 H : Hp} {env : Env} {h : List D} {σ : L2.St} {i : Nat} {ds : List D} (at' : At S Mu0 H0 Mu env h σ H) (q : nth env i = .own (.list ds)) : ∃ p vs, σ[i]? = some (some (.ref p)) ∧ Mu p ∧ S.hd ≠ some p ∧ H p = some (.lst vs) ∧ RepL X.K Mu H vs ds := by
  obtain ⟨p, e1, m, n, o⟩ := own_invO at' q
  obtain ⟨vs, q1, r⟩ := o.inl
  exact ⟨p, vs, e1, m, n, q1, r⟩
/-- d[k] = v of a dict that is written -/
def rSetD (X : Cx) : V → V → V → Hp → (Hp → Prop) → Prop := fun o i v H Q => ∃ (Mu : Addr → Prop) (p : Addr) (ob : Obj) (es : List DictEntry) (kvs : List (D × D)) (kd d : D), o = .ref p ∧ H p = some (DicO p ob) ∧ DicOk p ob es kvs ∧ RepP X.K Mu H es kvs ∧ Rep X.K Mu H i kd ∧ keyFit kvs kd = true ∧ kvs.length < sizeLine ∧ Rep X.K Mu H v d ∧ ∀ ob' es', DicOk p ob' es' (dPut kvs kd d) → RepP X.K Mu H es' (dPut kvs kd d) → Q (upd H p (DicO p ob'))
theorem set_dic (hu : X.A.units + 9 < cLine) : PSet X (rSetD X) := by
  intro pins s σ H o i v ov iv u Q I ro ri rv h
  obtain ⟨Mu, p, ob, es, kvs, kd, d, rfl, hp, k, r, rk, fit, hl, rd, q⟩ := h
  cases ro
  exact dk_setItem I hu hp k r rk ri fit hl rd rv fun o' es' s' I' k' r' => ⟨_, I', q o' es' k' r'⟩
def rSet (X : Cx) : V → V → V → Hp → (Hp → Prop) → Prop := fun o i v H Q => rSetL o i v H Q ∨ rSetD X o i v H Q
theorem set_any (hu : X.A.units + 64 < cLine) : PSet X (rSet X) := by
  intro pins s σ H o i v ov iv u Q I ro ri rv h
  rcases h with h | h
  · exact set_list pins s σ H o i v ov iv u Q I ro ri rv h
  · exact set_dic (by omega) pins s σ H o i v ov iv u Q I ro ri rv h
theorem hand_inv {Mu0 Mu : Addr → Prop} {H0 H : Hp} {env : Env} {h : List D} {σ : L2.St} {i : Nat} (at' : At S Mu0 H0 Mu env h σ H) (q : nth env i = .hand) : ∃ p vs, σ[i]? = some (some (.ref p)) ∧ S.hd = some p ∧ Mu p ∧ H p = some (.lst vs) ∧ RepL X.K Mu H vs h := by
  have hs := at'.es.slot i
  rw [q] at hs
  obtain ⟨p, e1, e2⟩ := hs
  obtain ⟨m, vs, q1, r⟩ := at'.es.hand.lst e2
  exact ⟨p, vs, e1, e2, m, q1, r⟩
/-- the store into the list at slot i -/
theorem set_at {Mu0 Mu : Addr → Prop} {H0 H : Hp} {env : Env} {h : List D} {σ : L2.St} {i : Nat} {v kv : V} {d kd : D} {Nx : L2.St → Hp → Prop} {Rt : VK} (at' : At S Mu0 H0 Mu env h σ H) (rv : Rep X.K Mu H v d) (rk : Rep X.K Mu H kv kd)
    (g : GoodS S Mu0 H0 XA E [i] Mu σ H (nextM (setSlot env i kd d) h) Nx Rt) : ∃ p, σ[i]? = some (some (.ref p)) ∧ rSet X (.ref p) kv v H (Nx σ) := by
  unfold setSlot nextM at g
  cases q : nth env i with
  | own c =>
    rw [q] at g
    cases c with
    | list ds =>
      obtain ⟨p, vs, e1, mp, hn, q1, r⟩ := own_inv at' q
      cases kd with
      | int k =>
        cases z : ixOf ds.length k with
        | none =>
          simp only [setV, z, bnd_fail] at g
          exact g.fail.elim
        | some j =>
          simp only [setV, z, bnd_ret] at g
          refine ⟨p, e1, .inl ⟨p, vs, k, j, rfl, rk.int_inv, q1, by rw [ix_eq, r.length]; exact z, ?_⟩⟩
          exact g.next (at'.write q e1 q1 mp hn (r.set rv j)) ((Stp.write mp q1))
      | _ => simp only [setV, bnd_fail] at g; exact g.fail.elim
    | dict kvs =>
      obtain ⟨p, e1, mp, hn, ow⟩ := own_invO at' q
      obtain ⟨ob, es, q1, k, r⟩ := ow.ind
      have wr : Wr (DicO p ob) := by
        obtain ⟨arr, ep, hd, _⟩ := k.dat
        exact .inr ⟨_, _, rfl, arr, ep, hd⟩
      have g1 : GoodS S Mu0 H0 XA E [i] Mu σ H (bnd (bnd (bnd (dPutV kvs kd d) fun kvs' => ret (PyData.dict kvs')) fun c' => ret (put env i (.own c'))) (fun env => ret (.next env)) h) Nx Rt := g
      unfold dPutV at g1
      cases z : (keyFit kvs kd && decide (kvs.length < line)) with
      | false =>
        rw [z] at g1
        have g2 : GoodS S Mu0 H0 XA E [i] Mu σ H (bnd (bnd (bnd fail fun kvs' => ret (PyData.dict kvs')) fun c' => ret (put env i (.own c'))) (fun env => ret (.next env)) h) Nx Rt := g1
        rw [bnd_fail, bnd_fail, bnd_fail] at g2
        exact g2.fail.elim
      | true =>
        rw [z] at g1
        have g2 : GoodS S Mu0 H0 XA E [i] Mu σ H (bnd (bnd (bnd (ret (dPut kvs kd d)) fun kvs' => ret (PyData.dict kvs')) fun c' => ret (put env i (.own c'))) (fun env => ret (.next env)) h) Nx Rt := g1
        rw [bnd_ret, bnd_ret, bnd_ret] at g2
        rw [Bool.and_eq_true] at z
        refine ⟨p, e1, .inr ⟨Mu, p, ob, es, kvs, kd, d, rfl, q1, k, r, rk, z.1, by rw [sizeLine_eq]; exact of_decide_eq_true z.2, rv, fun ob' es' k' r' => ?_⟩⟩
        have wr' : Wr (DicO p ob') := by
          obtain ⟨arr, ep, hd, _⟩ := k'.dat
          exact .inr ⟨_, _, rfl, arr, ep, hd⟩
        exact g2.next (at'.writeO q e1 q1 wr wr' mp hn (.dic upd_same k' (r'.stay (Stay.writeO mp q1 wr)))) (Stp.writeO mp q1 wr wr')
    | _ => simp only [setV, bnd_fail] at g; exact g.fail.elim
  | hand =>
    rw [q] at g
    obtain ⟨p, vs, e1, hp, mp, q1, r⟩ := hand_inv at' q
    dsimp only at g
    rw [bnd_assoc] at g
    rw [run_bnd, run_getH] at g
    have g : GoodS S Mu0 H0 XA E [i] Mu σ H (bnd (bnd (setV (.list h) kd d) (fun x => match x with | .list h' => bnd (putH h') fun _ => ret env | _ => fail)) (fun env => ret (.next env)) h) Nx Rt := g
    cases kd with
    | int k =>
      cases z : ixOf h.length k with
      | none =>
        simp only [setV, z, bnd_fail] at g
        exact g.fail.elim
      | some j =>
        simp only [setV, z, bnd_ret] at g
        rw [bnd_assoc, run_bnd, run_putH] at g
        refine ⟨p, e1, .inl ⟨p, vs, k, j, rfl, rk.int_inv, q1, by rw [ix_eq, r.length]; exact z, ?_⟩⟩
        have g : GoodS S Mu0 H0 XA E [i] Mu σ H (bnd (ret env) (fun env => ret (.next env)) (h.set j d)) Nx Rt := g
        rw [bnd_ret] at g
        exact g.next (at'.writeH hp q1 (r.set rv j)) (Stp.write mp q1)
    | _ => simp only [setV, bnd_fail] at g; exact g.fail.elim
  | _ => rw [q] at g; dsimp only at g; rw [bnd_fail] at g; exact g.fail.elim
theorem ss_setI {i : Nat} {x : Str} {npos spos : Pos} (hu : X.A.units + 64 < cLine) (hN : X.N[i]? = some x) (hv : Vis X.env.scope x) (hd : (x == ("__debug__" : Str)) = false) (hcd : (x == ("__classdict__" : Str)) = false) (ha : SE X S XA E a ma) (hb : SE X S XA E b mb)
    (hs : swapsWithSole [.Subscript (.Name x npos) b spos] a pos.line X.env = pure false) (hw : swappedStores [.Subscript (.Name x npos) b spos] a X.env = pure none) (h1 : (assignEach [.Subscript (.Name x npos) b spos] X.env).map (·.2) = [assign (.Subscript (.Name x npos) b spos) X.env])
    (h2 : ∀ v, assign (.Subscript (.Name x npos) b spos) X.env v = (do
      let ov ← holding [v] (eval (.Name x npos) X.env)
      let iv ← holding [v, ov] (eval b X.env)
      standAt spos
      holding [v, ov, iv] (setItem ov iv v)
      release [v, ov, iv] [])) :
    SS X S XA E (.Assign [.Subscript (.Name x npos) b spos] a pos) [i] (fun env => bnd (ma env) fun d => bnd (hasL env i) fun _ => bnd (mb env) fun kd => nextM (setSlot env i kd d)) := by
  obtain ⟨ta, pa, qa⟩ := ha
  obtain ⟨tb, pb, qb⟩ := hb
  refine ⟨_, ps_asg pa (pg_sub (pe_var hN hv hd hcd) pb (set_any hu) h2) hs hw h1, fun Mu0 H0 Mu env h σ H Q at' g => ?_⟩
  refine qa Mu env h σ H _ at'.es (Good.mono (g.bnd at') fun d h1 H1 p1 x1 g1 v rv => ?_)
  -- the list's own name stands already
  have key : ∀ kd h2 H2 kv, Pres S H1 H2 → HandAt S Mu H2 h2 → At S Mu0 H0 Mu env h2 σ H2 ∧ GoodS S Mu0 H0 XA E [i] Mu σ H2 (nextM (setSlot env i kd d) h2) Q.nx Q.rt → Rep X.K Mu H2 kv kd → ∃ p, σ[i]? = some (some (.ref p)) ∧ rSet X (.ref p) kv v H2 (Q.nx σ) := fun kd h2 H2 kv p2 x2 g2 rk =>
    set_at g2.1 (rv.pres p2 x1) rk g2.2
  have g1b := g1.2
  unfold hasL at g1b
  cases q : nth env i with
  | own c =>
    rw [q] at g1b
    dsimp only at g1b
    rw [bnd_ret] at g1b
    obtain ⟨p, e1, _⟩ := own_invO g1.1 q
    refine ⟨.ref p, e1, ?_⟩
    refine qb Mu env h1 σ H1 _ g1.1.es (Good.mono (g1b.bnd g1.1) fun kd h2 H2 p2 x2 g2 kv rk => ?_)
    obtain ⟨p', e2, k⟩ := key kd h2 H2 kv p2 x2 g2 rk
    rw [e1] at e2
    cases e2
    exact k
  | hand =>
    rw [q] at g1b
    dsimp only at g1b
    rw [bnd_ret] at g1b
    obtain ⟨p, vs, e1, _⟩ := hand_inv g1.1 q
    refine ⟨.ref p, e1, ?_⟩
    refine qb Mu env h1 σ H1 _ g1.1.es (Good.mono (g1b.bnd g1.1) fun kd h2 H2 p2 x2 g2 kv rk => ?_)
    obtain ⟨p', e2, k⟩ := key kd h2 H2 kv p2 x2 g2 rk
    rw [e1] at e2
    cases e2
    exact k
  | _ => rw [q] at g1b; dsimp only at g1b; rw [bnd_fail] at g1b; exact g1b.fail.elim

/-! ### name op= e, name[k] op= e -/
theorem intOp_inv {op : Bop} {x y : D} {h : List D} {z : D} {h' : List D} (e : intOp op x y h = .ok z h') : ∃ i j, x = .int i ∧ y = .int j ∧ h' = h ∧ ((op = .add ∧ z = .int (i + j)) ∨ (op = .sub ∧ z = .int (i - j))) := by
  unfold intOp at e
  split at e
  · rw [run_ret] at e; cases e; exact ⟨_, _, rfl, rfl, rfl, .inl ⟨rfl, rfl⟩⟩
  · rw [run_ret] at e; cases e; exact ⟨_, _, rfl, rfl, rfl, .inr ⟨rfl, rfl⟩⟩
  · rw [run_fail] at e; cases e
theorem intOp_exc {op : Bop} {x y : D} {h : List D} {e : Exn} {h' : List D} (e : intOp op x y h = .exc e h') : False := by
  unfold intOp at e
  split at e <;> first | (rw [run_ret] at e; cases e; done) | (rw [run_fail] at e; cases e)
/-- a op= b of ints -/
theorem ip_int {op : Bop} (h : op = .add ∨ op = .sub) : ∃ t : TIp, PIp X (opOf op) t ∧ ∀ i j x H (Q : VK), ((op = .add ∧ x = V.int (i + j)) ∨ (op = .sub ∧ x = V.int (i - j))) → Q x H → t (.int i) (.int j) H Q := by
  rcases h with rfl | rfl
  · refine ⟨_, ip_add, fun i j x H Q e q => ⟨i, j, rfl, rfl, ?_⟩⟩
    rcases e with ⟨_, rfl⟩ | ⟨z, _⟩
    · exact q
    · cases z
  · refine ⟨_, ip_sub, fun i j x H Q e q => ⟨i, j, rfl, rfl, ?_⟩⟩
    rcases e with ⟨z, _⟩ | ⟨_, rfl⟩
    · cases z
    · exact q
theorem ss_augN {i : Nat} {x : Str} {op : Bop} {npos : Pos} (ho : op = .add ∨ op = .sub) (hN : X.N.Nodup) (hi : X.N[i]? = some x) (hx : Loc X.env.scope x) (hf : X.fn x = true ∨ X.env.scope.names.lookup x = some .local) (ha : SE X S XA E a ma) :
    SS X S XA E (.AugAssign (.Name x npos) (opOf op) a pos) [i] (fun env => bnd (slotV env i) fun x => bnd (ma env) fun y => bnd (intOp op x y) fun z => ret (.next (put env i (.val z)))) := by
  obtain ⟨ta, pa, qa⟩ := ha
  obtain ⟨ti, pt, qt⟩ := ip_int (X := X) ho
  refine ⟨_, ps_aug hN hi hx pa pt hf, fun Mu0 H0 Mu env h σ H Q at' g => ?_⟩
  have hs := at'.es.slot i
  dsimp only at g
  unfold slotV at g
  cases q : nth env i with
  | val d =>
    rw [q] at hs g
    obtain ⟨v, e1, r⟩ := hs
    refine ⟨v, e1, ?_⟩
    dsimp only at g
    rw [bnd_ret] at g
    refine qa Mu env h σ H _ at'.es (Good.mono (g.bnd at') fun y h1 H1 p1 x1 g1 w rw' => ?_)
    have g2 := g1.2
    cases z : intOp op d y h1 with
    | ok zd h2 =>
      obtain ⟨k, l, rfl, rfl, rfl, hz⟩ := intOp_inv z
      rw [bnd_ok z] at g2
      rw [r.int_inv, rw'.int_inv]
      refine qt k l (match zd with | .int m => .int m | _ => .non) H1 _ ?_ ?_
      · rcases hz with ⟨e, rfl⟩ | ⟨e, rfl⟩
        · exact .inl ⟨e, rfl⟩
        · exact .inr ⟨e, rfl⟩
      · have rz : Rep X.K Mu H1 (match zd with | .int m => .int m | _ => .non) zd := by
          rcases hz with ⟨e, rfl⟩ | ⟨e, rfl⟩ <;> exact .int _
        exact g2.next (g1.1.putV rz i) (Stp.set (by simp))
    | exc e h2 => exact (intOp_exc z).elim
    | bad =>
      rw [run_bnd, z] at g2
      exact g2.elim
  | _ => rw [q] at g; dsimp only at g; rw [bnd_fail] at g; exact g.fail.elim
/-- l[i] of a list, i not below nought -/
def rGetL (K : PySem.W.Frag) : V → V → Hp → VK → Prop := fun o i H Q => ∃ (p : Addr) (xs : List V) (k : Int) (v : V), o = .ref p ∧ i = .int k ∧ 0 ≤ k ∧ SqL K H p xs ∧ xs[k.toNat]? = some v ∧ Q v H
theorem get_list : PGet X (rGetL X.K) := by
  intro pins s σ H o i ov iv Q I ro ri h
  obtain ⟨p, xs, k, v, rfl, rfl, h0, hs, he, q⟩ := h
  cases ro
  obtain ⟨t, rfl⟩ := ri
  obtain ⟨its, r, pl, hz⟩ := I.list hs
  obtain ⟨w, ew, rw'⟩ := r.get he
  have hn := line63
  have hk : k.toNat < xs.length := by
    rcases Nat.lt_or_ge k.toNat xs.length with z | z
    · exact z
    · rw [List.getElem?_eq_none z] at he; cases he
  exact wpAny_getItem_list pl.isList h0 (by omega) (by simpa using ew) ⟨v, H, I, rw', q⟩

theorem atD_cases (xs : List D) (i : Int) : (atD xs i = fail) ∨ ∃ j d, ixOf xs.length i = some j ∧ xs[j]? = some d ∧ atD xs i = ret d := by
  cases hj : ixOf xs.length i with
  | none => exact .inl (by simp only [atD, hj])
  | some j =>
    cases hd : xs[j]? with
    | none => exact .inl (by simp only [atD, hj, hd])
    | some d => exact .inr ⟨j, d, rfl, hd, by simp only [atD, hj, hd]⟩
theorem ss_augI {i : Nat} {x : Str} {op : Bop} {npos spos : Pos} (hu : X.A.units + 64 < cLine) (ho : op = .add ∨ op = .sub) (hN : X.N[i]? = some x) (hv : Vis X.env.scope x) (hd : (x == ("__debug__" : Str)) = false) (hcd : (x == ("__classdict__" : Str)) = false) (ha : SE X S XA E a ma) (hb : SE X S XA E b mb)
    (h2 : ∀ ov iv new, augStore b ov iv new = (do holding [new, ov, iv] (setItem ov iv new); release [new, ov, iv] []; pure .next)) :
    SS X S XA E (.AugAssign (.Subscript (.Name x npos) b spos) (opOf op) a pos) [i] (fun env => bnd (ownB env i) fun c => bnd (mb env) fun kd => bnd (natK kd) fun _ => bnd (idxV c kd) fun x => bnd (ma env) fun y => bnd (intOp op x y) fun z => nextM (setSlot env i kd z)) := by
  obtain ⟨ta, pa, qa⟩ := ha
  obtain ⟨tb, pb, qb⟩ := hb
  obtain ⟨ti, pt, qt⟩ := ip_int (X := X) ho
  refine ⟨_, ps_augS (pe_var hN hv hd hcd) pb get_list pa pt (set_any hu) h2, fun Mu0 H0 Mu env h σ H Q at' g => ?_⟩
  dsimp only at g
  unfold ownB at g
  cases q : nth env i with
  | own c =>
    rw [q] at g
    cases c <;> first | (dsimp only at g; rw [bnd_fail] at g; exact g.fail.elim) | skip
    rename_i ds
    dsimp only at g
    rw [bnd_ret] at g
    obtain ⟨p, vs, e1, mp, hn, q1, r⟩ := own_inv at' q
    refine ⟨.ref p, e1, ?_⟩
    refine qb Mu env h σ H _ at'.es (Good.mono (g.bnd at') fun kd h1 H1 p1 x1 g1 kv rk => ?_)
    obtain ⟨a1, g2⟩ := g1
    obtain ⟨p', vs', e1', mp', hn', q1', r'⟩ := own_inv a1 q
    rw [e1] at e1'
    cases e1'
    cases kd with
    | int k =>
      dsimp only [natK] at g2
      by_cases h0 : 0 ≤ k
      · rw [decide_eq_true h0] at g2
        have g2 : GoodS S Mu0 H0 XA E [i] Mu σ H1 (bnd (ret ()) (fun _ => bnd (idxV (.list ds) (.int k)) fun x => bnd (ma env) fun y => bnd (intOp op x y) fun z => nextM (setSlot env i (.int k) z)) h1) Q.nx Q.rt := g2
        rw [bnd_ret] at g2
        have g3 : GoodS S Mu0 H0 XA E [i] Mu σ H1 (bnd (atD ds k) (fun x => bnd (ma env) fun y => bnd (intOp op x y) fun z => nextM (setSlot env i (.int k) z)) h1) Q.nx Q.rt := g2
        rcases atD_cases ds k with z | ⟨j, xd, hj, hx, z⟩
        · rw [z, bnd_fail] at g3
          exact g3.fail.elim
        · rw [z, bnd_ret] at g3
          have hjk : j = k.toNat := by
            unfold ixOf at hj
            rw [if_pos h0] at hj
            split at hj
            · cases hj; rfl
            · cases hj
          subst hjk
          obtain ⟨xv, hxv, rx⟩ := r'.get hx
          refine ⟨p, vs', k, xv, rfl, rk.int_inv, h0, .of q1', hxv, ?_⟩
          refine qa Mu env h1 σ H1 _ a1.es (Good.mono (g3.bnd a1) fun y h3 H3 p3 x3 g4 w rw' => ?_)
          obtain ⟨a3, g5⟩ := g4
          have rx3 := rx.pres p3 x1
          cases z2 : intOp op xd y h3 with
          | ok zd h4 =>
            obtain ⟨k1, k2, rfl, rfl, rfl, hz⟩ := intOp_inv z2
            rw [bnd_ok z2] at g5
            rw [rx3.int_inv, rw'.int_inv]
            obtain ⟨zi, rfl, hzi⟩ : ∃ zi, zd = .int zi ∧ ((op = .add ∧ V.int zi = V.int (k1 + k2)) ∨ (op = .sub ∧ V.int zi = V.int (k1 - k2))) := by
              rcases hz with ⟨e, rfl⟩ | ⟨e, rfl⟩
              · exact ⟨_, rfl, .inl ⟨e, rfl⟩⟩
              · exact ⟨_, rfl, .inr ⟨e, rfl⟩⟩
            refine qt k1 k2 (.int zi) H3 _ hzi ?_
            obtain ⟨p4, e4, k4⟩ := set_at (v := .int zi) (kv := kv) a3 (.int zi) (rk.pres p3 x1) g5
            rw [e1] at e4
            cases e4
            exact k4
          | exc e h4 => exact (intOp_exc z2).elim
          | bad =>
            rw [run_bnd, z2] at g5
            exact g5.elim
      · rw [decide_eq_false h0] at g2
        have g2 : GoodS S Mu0 H0 XA E [i] Mu σ H1 (bnd fail (fun _ => bnd (idxV (.list ds) (.int k)) fun x => bnd (ma env) fun y => bnd (intOp op x y) fun z => nextM (setSlot env i (.int k) z)) h1) Q.nx Q.rt := g2
        rw [bnd_fail] at g2
        exact g2.fail.elim
    | _ => unfold natK at g2; dsimp only at g2; rw [bnd_fail] at g2; exact g2.fail.elim
  | _ => rw [q] at g; dsimp only at g; rw [bnd_fail] at g; exact g.fail.elim

/-! ### methods of lists that are written -/
theorem ss_app {i : Nat} {x : Str} {npos apos cpos : Pos} (hN : X.N[i]? = some x) (hv : Vis X.env.scope x) (hd : (x == ("__debug__" : Str)) = false) (hcd : (x == ("__classdict__" : Str)) = false) (ha : SE X S XA E a ma)
    (hbase : attributeBase (.Name x npos) "append" X.env (eval (.Name x npos) X.env) = eval (.Name x npos) X.env)
    (hfew : ((backTo cpos (starEach [a] X.env)).all (fun x => !x.1) && (backToKw cpos (keywordEach [] X.env)).all (fun x => x.1.isSome)
      && decide ([a].length + ([] : List Keyword).length + (if ([] : List Keyword).isEmpty then 0 else 1) < 30)) = true)
    (hline : (apos.endLine == cpos.line) = true) (hs : starEach [a] X.env = (false, eval a X.env) :: starEach [] X.env) (hplain : (backTo cpos (starEach [] X.env)).any (·.1) = false)
    (hsw : swapsWith (.Call (.Attribute (.Name x npos) "append" apos) [a] [] cpos) none pos.line X.env = pure false) :
    SS X S XA E (.Expr (.Call (.Attribute (.Name x npos) "append" apos) [a] [] cpos) pos) [i] (fun env => bnd (ownB env i) fun _ => bnd (ma env) fun d => nextM (appSlot env i d)) := by
  obtain ⟨ta, pa, qa⟩ := ha
  refine ⟨_, ps_expr (pe_bm PySem.F.plainAttrs_list PySem.F.slot_list_append PySem.F.type_list_append mt_append (pe_var hN hv hd hcd) (pa_cons pa pa_nil hs) hbase hfew hline hs hplain) hsw, fun Mu0 H0 Mu env h σ H Q at' g => ?_⟩
  dsimp only at g
  unfold ownB at g
  cases q : nth env i with
  | own c =>
    rw [q] at g
    cases c <;> first | (dsimp only at g; rw [bnd_fail] at g; exact g.fail.elim) | skip
    rename_i ds
    dsimp only at g
    rw [bnd_ret] at g
    obtain ⟨p, vs, e1, mp, hn, q1, r⟩ := own_inv at' q
    refine ⟨.ref p, e1, .inl ⟨rfl, _, .inl (.inl q1)⟩, ?_⟩
    refine qa Mu env h σ H _ at'.es (Good.mono (g.bnd at') fun d h1 H1 p1 x1 g1 v rv => ?_)
    obtain ⟨a1, g2⟩ := g1
    obtain ⟨p', vs', e1', mp', hn', q1', r'⟩ := own_inv a1 q
    rw [e1] at e1'
    cases e1'
    unfold appSlot nextM at g2
    rw [q] at g2
    dsimp only at g2
    by_cases hl : ds.length < line
    · rw [decide_eq_true hl] at g2
      have g3 : GoodS S Mu0 H0 XA E [i] Mu σ H1 (bnd (ret (put env i (.own (.list (ds ++ [d]))))) (fun env => ret (.next env)) h1) Q.nx Q.rt := g2
      rw [bnd_ret] at g3
      refine ⟨p, vs', v, rfl, rfl, q1', by rw [r'.length, sizeLine_eq]; exact hl, ?_⟩
      exact g3.next (a1.write q e1 q1' mp hn (r'.append (.cons rv .nil))) (Stp.write mp q1')
    · rw [decide_eq_false hl] at g2
      have g3 : GoodS S Mu0 H0 XA E [i] Mu σ H1 (bnd fail (fun env => ret (.next env)) h1) Q.nx Q.rt := g2
      rw [bnd_fail] at g3
      exact g3.fail.elim
  | _ => rw [q] at g; dsimp only at g; rw [bnd_fail] at g; exact g.fail.elim
end
end Ev
set_option Elab.async false
set_option linter.all false
set_option maxRecDepth 100000
set_option maxHeartbeats 1000000
/-! What a statement leaves of the slots. -/
namespace Ev
open PySem PySem.W

theorem bnd_inv {α β : Type} {m : M α} {f : α → M β} {h h' : List D} {b : β} (e : bnd m f h = .ok b h') : ∃ a h1, m h = .ok a h1 ∧ f a h1 = .ok b h' := by
  rw [run_bnd] at e
  cases q : m h with
  | ok a h1 => rw [q] at e; exact ⟨a, h1, rfl, e⟩
  | exc x h1 => rw [q] at e; cases e
  | bad => rw [q] at e; cases e
theorem ret_inv {α : Type} {a b : α} {h h' : List D} (e : ret a h = .ok b h') : a = b ∧ h = h' := by rw [run_ret] at e; cases e; exact ⟨rfl, rfl⟩
theorem fail_inv {α : Type} {b : α} {h h' : List D} (e : (fail : M α) h = .ok b h') : False := by rw [run_fail] at e; cases e
theorem nthPut : ∀ (env : Env) (i j : Nat) (s : Slot), i ≠ j → nth (put env i s) j = nth env j
  | [], i, j, s, _ => rfl
  | x :: r, 0, 0, s, h => absurd rfl h
  | x :: r, 0, j + 1, s, _ => rfl
  | x :: r, i + 1, 0, s, _ => rfl
  | x :: r, i + 1, j + 1, s, h => nthPut r i j s fun z => h (by rw [z])
theorem putLen : ∀ (env : Env) (i : Nat) (s : Slot), (put env i s).length = env.length
  | [], _, _ => rfl
  | _ :: _, 0, _ => rfl
  | _ :: r, i + 1, s => by
    show (put r i s).length + 1 = r.length + 1
    rw [putLen r i s]
def SameOff (W : List Nat) (env env' : Env) : Prop := env'.length = env.length ∧ ∀ j, j ∉ W → nth env' j = nth env j
theorem SameOff.refl (W : List Nat) (env : Env) : SameOff W env env := ⟨rfl, fun _ _ => rfl⟩
theorem SameOff.trans {W : List Nat} {a b c : Env} (h : SameOff W a b) (k : SameOff W b c) : SameOff W a c := ⟨k.1.trans h.1, fun j n => (k.2 j n).trans (h.2 j n)⟩
theorem SameOff.more {W W' : List Nat} {a b : Env} (h : SameOff W a b) (le : ∀ i ∈ W, i ∈ W') : SameOff W' a b := ⟨h.1, fun j n => h.2 j fun m => n (le j m)⟩
theorem SameOff.put {W : List Nat} {i : Nat} (h : i ∈ W) (env : Env) (s : Slot) : SameOff W env (put env i s) := ⟨putLen _ _ _, fun j n => nthPut _ _ _ _ (by rintro rfl; exact n h)⟩
theorem SameOff.wipes : ∀ (is : List Nat) (env : Env), SameOff is env (wipes env is)
  | [], env => .refl _ _
  | i :: is, env => ((SameOff.put (W := i :: is) (by simp) env .no)).trans ((SameOff.wipes is _).more fun _ z => List.mem_cons_of_mem _ z)
theorem SameOff.puts : ∀ (is : List Nat) (ss : List Slot) (env : Env), SameOff is env (puts env is ss)
  | [], ss, env => by cases ss <;> exact .refl _ _
  | i :: is, [], env => .refl _ _
  | i :: is, s :: ss, env => ((SameOff.put (W := i :: is) (by simp) env s)).trans ((SameOff.puts is ss _).more fun _ z => List.mem_cons_of_mem _ z)
/-- what a wiped, refilled environment holds -/
theorem nth_wipes : ∀ (is : List Nat) (env : Env) (j : Nat), nth (wipes env is) j = .no ∨ nth (wipes env is) j = nth env j
  | [], env, j => .inr rfl
  | i :: is, env, j => by
    rcases nth_wipes is (put env i .no) j with h | h
    · exact .inl h
    · by_cases e : i = j
      · subst e
        have : nth (put env i .no) i = .no := by
          clear h
          induction env generalizing i with
          | nil => rfl
          | cons x r ih => cases i with
            | zero => rfl
            | succ i => exact ih i
        exact .inl (h.trans this)
      · exact .inr (h.trans (nthPut _ _ _ _ e))
theorem nth_puts_gets (env env' : Env) (hl : env'.length = env.length) : ∀ (is : List Nat) (base : Env), base.length = env.length → (∀ j, nth base j = nth env' j ∨ nth base j = nth env j) → ∀ j, (j ∈ is → nth (puts base is (gets env' is)) j = nth env' j) ∧ (nth (puts base is (gets env' is)) j = nth env' j ∨ nth (puts base is (gets env' is)) j = nth env j)
  | [], base, hb, h, j => ⟨fun m => by simp at m, h j⟩
  | i :: is, base, hb, h, j => by
    have pu : ∀ j, nth (put base i (nth env' i)) j = nth env' j ∨ nth (put base i (nth env' i)) j = nth base j := fun j => by
      by_cases e : i = j
      · subst e
        left
        have : ∀ (b e : Env) (k : Nat), b.length = e.length → nth (put b k (nth e k)) k = nth e k := by
          intro b
          induction b with
          | nil => intro e k hh; cases e with
            | nil => rfl
            | cons => simp at hh
          | cons x r ih => intro e k hh; cases e with
            | nil => simp at hh
            | cons y q => cases k with
              | zero => rfl
              | succ k => exact ih q k (by simpa using hh)
        exact this base env' i (hb.trans hl.symm)
      · exact .inr (nthPut _ _ _ _ e)
    have pi : nth (put base i (nth env' i)) i = nth env' i := by
      have : ∀ (b e : Env) (k : Nat), b.length = e.length → nth (put b k (nth e k)) k = nth e k := by
        intro b
        induction b with
        | nil => intro e k hh; cases e with
          | nil => rfl
          | cons => simp at hh
        | cons x r ih => intro e k hh; cases e with
          | nil => simp at hh
          | cons y q => cases k with
            | zero => rfl
            | succ k => exact ih q k (by simpa using hh)
      exact this base env' i (hb.trans hl.symm)
    have st := nth_puts_gets env env' hl is (put base i (nth env' i)) ((putLen _ _ _).trans hb) (fun j => by
      rcases pu j with z | z
      · exact .inl z
      · rcases h j with y | y
        · exact .inl (z.trans y)
        · exact .inr (z.trans y)) j
    refine ⟨fun m => ?_, st.2⟩
    by_cases hj : j ∈ is
    · exact st.1 hj
    · have e : j = i := by
        rcases List.mem_cons.mp m with e | e
        · exact e
        · exact absurd e hj
      subst e
      show nth (puts (put base j (nth env' j)) is (gets env' is)) j = _
      rw [(SameOff.puts is (gets env' is) (put base j (nth env' j))).2 j hj]
      exact pi

theorem nth_wipes_mem : ∀ (is : List Nat) (env : Env) (j : Nat), j ∈ is → nth (wipes env is) j = .no
  | [], env, j, h => by simp at h
  | i :: is, env, j, h => by
    by_cases hj : j ∈ is
    · exact nth_wipes_mem is _ j hj
    · have e : j = i := by
        rcases List.mem_cons.mp h with e | e
        · exact e
        · exact absurd e hj
      subst e
      show nth (wipes (put env j .no) is) j = .no
      rw [(SameOff.wipes is (put env j .no)).2 j hj]
      clear h hj
      induction env generalizing j with
      | nil => rfl
      | cons x r ih => cases j with
        | zero => rfl
        | succ i => exact ih i
/-- the slots at a loop's turn, taken back from what the body left -/
theorem back_env {car tmp : List Nat} {env env2 : Env} (hl : env2.length = env.length) (hs : ∀ j, j ∉ car ++ tmp → nth env2 j = nth env j) (j : Nat) : nth (wipes (puts env car (gets env2 car)) tmp) j = .no ∨ nth (wipes (puts env car (gets env2 car)) tmp) j = nth env2 j := by
  by_cases ht : j ∈ tmp
  · exact .inl (nth_wipes_mem _ _ _ ht)
  · rw [(SameOff.wipes tmp _).2 j ht]
    have := nth_puts_gets env env2 hl car env rfl (fun j => .inr rfl) j
    by_cases hc : j ∈ car
    · exact .inr (this.1 hc)
    · rcases this.2 with z | z
      · exact .inr z
      · exact .inr (z.trans (hs j (by simp [hc, ht])).symm)
theorem cenv_len {car tmp : List Nat} {env : Env} {s : List Slot} : (wipes (puts env car s) tmp).length = env.length := (SameOff.wipes tmp _).1.trans (SameOff.puts car s env).1
theorem cenv_off {car tmp : List Nat} {env : Env} {s : List Slot} {j : Nat} (h : j ∉ car ++ tmp) : nth (wipes (puts env car s) tmp) j = nth env j := by
  rw [(SameOff.wipes tmp _).2 j (fun z => h (by simp [z])), (SameOff.puts car s env).2 j (fun z => h (by simp [z]))]
/-! ### what a statement writes -/
mutual
def tgN : Tg → List Nat
  | .name i => [i]
  | .tup ts => tgNs ts
def tgNs : List Tg → List Nat
  | [] => []
  | t :: ts => tgN t ++ tgNs ts
end
def parN : List (Tg × Bool) → List Nat
  | [] => []
  | t :: ts => tgN t.1 ++ parN ts
mutual
def writ : IS → List Nat
  | .asg t _ => tgN t
  | .own i _ => [i]
  | .par ts _ => parN ts
  | .setI i _ _ => [i]
  | .augN i _ _ => [i]
  | .augI i _ _ _ => [i]
  | .app i _ => [i]
  | .ext i _ => [i]
  | .popL j i => [i, j]
  | .mov j i => [i, j]
  | .frz i => [i]
  | .upd i _ => [i]
  | .ite _ a b => writs a ++ writs b
  | .for _ _ car tmp _ => car ++ tmp
  | .whil _ car tmp _ => car ++ tmp
  | _ => []
def writs : List IS → List Nat
  | [] => []
  | s :: ss => writ s ++ writs ss
end
mutual
theorem assignT_same : ∀ (t : Tg) (d : D) (env : Env) (h : List D) (env' : Env) (h' : List D), assignT t d env h = .ok env' h' → SameOff (tgN t) env env'
  | .name i, d, env, h, env', h', e => by
    obtain ⟨rfl, rfl⟩ := ret_inv e
    exact .put (by simp [tgN]) env _
  | .tup ts, d, env, h, env', h', e => by
    cases d with
    | tuple xs => exact assignTs_same ts xs env h env' h' e
    | list xs => exact assignTs_same ts xs env h env' h' e
    | _ => exact (fail_inv e).elim
theorem assignTs_same : ∀ (ts : List Tg) (ds : List D) (env : Env) (h : List D) (env' : Env) (h' : List D), assignTs ts ds env h = .ok env' h' → SameOff (tgNs ts) env env'
  | [], [], env, h, env', h', e => by obtain ⟨rfl, rfl⟩ := ret_inv e; exact .refl _ _
  | [], _ :: _, env, h, env', h', e => (fail_inv e).elim
  | _ :: _, [], env, h, env', h', e => (fail_inv e).elim
  | t :: ts, d :: ds, env, h, env', h', e => by
    obtain ⟨e1, h1, q1, q2⟩ := bnd_inv (m := assignT t d env) (f := assignTs ts ds) e
    exact ((assignT_same t d env h e1 h1 q1).more fun i z => by simp [tgNs, z]).trans ((assignTs_same ts ds e1 h1 env' h' q2).more fun i z => by simp [tgNs, z])
end
def Frm (W : List Nat) (env : Env) (m : M Flow) : Prop := ∀ h env' h', m h = .ok (.next env') h' → SameOff W env env'
theorem Frm.bnd {α : Type} {W : List Nat} {env : Env} {m : M α} {f : α → M Flow} (h : ∀ a, Frm W env (f a)) : Frm W env (bnd m f) := fun hh env' h' e => by
  obtain ⟨a, h1, _, q⟩ := bnd_inv e
  exact h a h1 env' h' q
theorem Frm.next {W : List Nat} {env env1 : Env} (s : SameOff W env env1) : Frm W env (ret (.next env1)) := fun h env' h' e => by
  obtain ⟨q, _⟩ := ret_inv e
  cases q
  exact s
theorem Frm.out {W : List Nat} {env : Env} {d : D} : Frm W env (ret (.ret d)) := fun h env' h' e => by
  obtain ⟨q, _⟩ := ret_inv e
  cases q
theorem Frm.nextM {W : List Nat} {env : Env} {m : M Env} (s : ∀ h env' h', m h = .ok env' h' → SameOff W env env') : Frm W env (nextM m) := fun h env' h' e => by
  obtain ⟨a, h1, q1, q2⟩ := bnd_inv (m := m) (f := fun env => ret (Flow.next env)) e
  obtain ⟨q, _⟩ := ret_inv q2
  cases q
  exact s h _ h1 q1
theorem Frm.more {W W' : List Nat} {env : Env} {m : M Flow} (h : Frm W env m) (le : ∀ i ∈ W, i ∈ W') : Frm W' env m := fun hh env' h' e => (h hh env' h' e).more le
theorem parT_same : ∀ (ts : List (Tg × Bool)) (ds : List D) (env : Env) (h : List D) (env' : Env) (h' : List D), parT ts ds env h = .ok env' h' → SameOff (parN ts) env env'
  | [], [], env, h, env', h', e => by obtain ⟨rfl, rfl⟩ := ret_inv e; exact .refl _ _
  | [], _ :: _, env, h, env', h', e => (fail_inv e).elim
  | (.name i, true) :: ts, [], env, h, env', h', e => (fail_inv e).elim
  | (.name i, false) :: ts, [], env, h, env', h', e => (fail_inv e).elim
  | (.tup us, true) :: ts, [], env, h, env', h', e => (fail_inv e).elim
  | (.tup us, false) :: ts, [], env, h, env', h', e => (fail_inv e).elim
  | (.tup us, true) :: ts, _ :: _, env, h, env', h', e => (fail_inv e).elim
  | (.name i, true) :: ts, d :: ds, env, h, env', h', e => (SameOff.put (by simp [parN, tgN]) env _).trans ((parT_same ts ds _ h env' h' e).more fun i z => by simp [parN, z])
  | (.name i, false) :: ts, d :: ds, env, h, env', h', e => by
    obtain ⟨e1, h1, q1, q2⟩ := bnd_inv (m := assignT (.name i) d env) (f := fun env' => parT ts ds env') e
    exact ((assignT_same _ d env h e1 h1 q1).more fun i z => by simp [parN, z]).trans ((parT_same ts ds e1 h1 env' h' q2).more fun i z => by simp [parN, z])
  | (.tup us, false) :: ts, d :: ds, env, h, env', h', e => by
    obtain ⟨e1, h1, q1, q2⟩ := bnd_inv (m := assignT (.tup us) d env) (f := fun env' => parT ts ds env') e
    exact ((assignT_same _ d env h e1 h1 q1).more fun i z => by simp [parN, z]).trans ((parT_same ts ds e1 h1 env' h' q2).more fun i z => by simp [parN, z])
theorem Frm.fail {W : List Nat} {env : Env} : Frm W env fail := fun h env' h' e => (fail_inv e).elim
theorem setSlot_same {env : Env} {i : Nat} {k d : D} : ∀ h env' h', setSlot env i k d h = .ok env' h' → SameOff [i] env env' := fun h env' h' e => by
  unfold setSlot at e
  cases q : nth env i with
  | own c =>
    rw [q] at e
    obtain ⟨a, h1, _, e2⟩ := bnd_inv (m := setV c k d) (f := fun c' => ret (put env i (.own c'))) e
    obtain ⟨rfl, _⟩ := ret_inv e2
    exact .put (by simp) env _
  | hand =>
    rw [q] at e
    obtain ⟨a, h1, _, e2⟩ := bnd_inv (m := getH) e
    obtain ⟨b, h2, _, e3⟩ := bnd_inv e2
    cases b with
    | list xs =>
      obtain ⟨_, h3, _, e4⟩ := bnd_inv (m := putH xs) (f := fun _ => ret env) e3
      obtain ⟨rfl, _⟩ := ret_inv e4
      exact .refl _ _
    | _ => exact (fail_inv e3).elim
  | _ => rw [q] at e; exact (fail_inv e).elim
theorem chk_inv {α : Type} {b : Bool} {a x : α} {h h' : List D} (e : chk b a h = .ok x h') : a = x := by
  cases b
  · exact (fail_inv (b := x) (h := h) (h' := h') e).elim
  · exact (ret_inv (a := a) (b := x) (h := h) (h' := h') e).1
theorem appSlot_same {env : Env} {i : Nat} {d : D} : ∀ h env' h', appSlot env i d h = .ok env' h' → SameOff [i] env env' := fun h env' h' e => by
  have k : appSlot env i d = fail ∨ ∃ b s, appSlot env i d = chk b (put env i s) := by
    unfold appSlot
    split
    · exact .inr ⟨_, _, rfl⟩
    · exact .inl rfl
  rcases k with k | ⟨b, s, k⟩
  · rw [k] at e; exact (fail_inv e).elim
  · rw [k] at e; rw [← chk_inv e]; exact .put (by simp) env _
theorem extSlot_same {env : Env} {i : Nat} {d : D} : ∀ h env' h', extSlot env i d h = .ok env' h' → SameOff [i] env env' := fun h env' h' e => by
  have k : extSlot env i d = fail ∨ ∃ b s, extSlot env i d = chk b (put env i s) := by
    unfold extSlot
    split
    · exact .inr ⟨_, _, rfl⟩
    · exact .inr ⟨_, _, rfl⟩
    · exact .inl rfl
  rcases k with k | ⟨b, s, k⟩
  · rw [k] at e; exact (fail_inv e).elim
  · rw [k] at e; rw [← chk_inv e]; exact .put (by simp) env _
theorem popSlot_same {env : Env} {j i : Nat} : ∀ h env' h', popSlot env j i h = .ok env' h' → SameOff [i, j] env env' := fun h env' h' e => by
  have k : popSlot env j i = fail ∨ ∃ s s', popSlot env j i = ret (put (put env i s) j s') := by
    unfold popSlot
    split
    · split
      · exact .inr ⟨_, _, rfl⟩
      · exact .inl rfl
    · exact .inl rfl
  rcases k with k | ⟨b, s, k⟩
  · rw [k] at e; exact (fail_inv e).elim
  · rw [k] at e; rw [← (ret_inv e).1]; exact (SameOff.put (by simp) env _).trans (.put (by simp) _ _)
theorem movSlot_same {env : Env} {j i : Nat} : ∀ h env' h', movSlot env j i h = .ok env' h' → SameOff [i, j] env env' := fun h env' h' e => by
  have k : movSlot env j i = fail ∨ ∃ s s', movSlot env j i = ret (put (put env i s) j s') := by
    unfold movSlot
    split
    · exact .inr ⟨_, _, rfl⟩
    · exact .inl rfl
  rcases k with k | ⟨b, s, k⟩
  · rw [k] at e; exact (fail_inv e).elim
  · rw [k] at e; rw [← (ret_inv e).1]; exact (SameOff.put (by simp) env _).trans (.put (by simp) _ _)
theorem frzSlot_same {env : Env} {i : Nat} : ∀ h env' h', frzSlot env i h = .ok env' h' → SameOff [i] env env' := fun h env' h' e => by
  have k : frzSlot env i = fail ∨ ∃ s, frzSlot env i = ret (put env i s) := by
    unfold frzSlot
    split
    · exact .inr ⟨_, rfl⟩
    · exact .inl rfl
  rcases k with k | ⟨s, k⟩
  · rw [k] at e; exact (fail_inv e).elim
  · rw [k] at e; rw [← (ret_inv e).1]; exact SameOff.put (by simp) env _
theorem updSlot_same {env : Env} {i : Nat} {d : D} : ∀ h env' h', updSlot env i d h = .ok env' h' → SameOff [i] env env' := fun h env' h' e => by
  cases q : nth env i with
  | own x =>
    cases x with
    | dict kvs =>
      cases d with
      | dict more =>
        simp only [updSlot, q] at e
        obtain ⟨_, h1, _, e2⟩ := bnd_inv e
        obtain ⟨kvs', h2, _, e3⟩ := bnd_inv e2
        rw [← (ret_inv e3).1]
        exact .put (by simp) env _
      | _ => simp only [updSlot, q] at e; exact (fail_inv e).elim
    | _ => simp only [updSlot, q] at e; exact (fail_inv e).elim
  | _ => simp only [updSlot, q] at e; exact (fail_inv e).elim
mutual
theorem frmS (K : Cal) : ∀ (s : IS) (env : Env), Frm (writ s) env (evS K env s)
  | .asg t e, env => .bnd fun d => .nextM (assignT_same t d env)
  | .own i e, env => .bnd fun d => .next (.put (by simp [writ]) env _)
  | .par ts es, env => .bnd fun ds => .nextM (parT_same ts ds env)
  | .setI i k e, env => .bnd fun d => .bnd fun _ => .bnd fun kd => .nextM setSlot_same
  | .augN i op e, env => .bnd fun x => .bnd fun y => .bnd fun z => .next (.put (by simp [writ]) env _)
  | .augI i k op e, env => .bnd fun c => .bnd fun kd => .bnd fun _ => .bnd fun x => .bnd fun y => .bnd fun z => .nextM setSlot_same
  | .app i e, env => .bnd fun _ => .bnd fun d => .nextM appSlot_same
  | .ext i e, env => .bnd fun _ => .bnd fun d => .nextM extSlot_same
  | .popL j i, env => .nextM popSlot_same
  | .mov j i, env => .nextM movSlot_same
  | .frz i, env => .nextM frzSlot_same
  | .upd i e, env => .bnd fun _ => .bnd fun d => .nextM updSlot_same
  | .ite c a b, env => .bnd fun t => by
    cases t
    · exact (frmSs K b env).more fun i z => by simp [writ, z]
    · exact (frmSs K a env).more fun i z => by simp [writ, z]
  | .for t it car tmp body, env => .bnd fun xs => .bnd fun st => by
    cases st with
    | go s => exact .next (((SameOff.puts car s env).more fun i z => by simp [writ, z]).trans ((SameOff.wipes tmp _).more fun i z => by simp [writ, z]))
    | out d => exact .out
  | .whil c car tmp body, env => .bnd fun st => by
    cases st with
    | go s => exact .next (((SameOff.puts car s env).more fun i z => by simp [writ, z]).trans ((SameOff.wipes tmp _).more fun i z => by simp [writ, z]))
    | out d => exact .out
  | .ret e, env => .bnd fun d => .out
  | .retN, env => .out
  | .raise c es, env => .bnd fun ds => fun h env' h' e => by rw [run_thr] at e; cases e
  | .expr e, env => .bnd fun _ => .next (.refl _ _)
  | .pass, env => .next (.refl _ _)
  | .never, env => .fail
theorem frmSs (K : Cal) : ∀ (ss : List IS) (env : Env), Frm (writs ss) env (evSs K env ss)
  | [], env => .next (.refl _ _)
  | s :: ss, env => fun h env' h' e => by
    obtain ⟨a, h1, q1, q2⟩ := bnd_inv e
    cases a with
    | next e1 => exact ((frmS K s env h e1 h1 q1).more fun i z => by simp [writs, z]).trans ((frmSs K ss e1 h1 env' h' q2).more fun i z => by simp [writs, z])
    | ret d => obtain ⟨z, _⟩ := ret_inv q2; cases z
end
end Ev
set_option Elab.async false
set_option linter.all false
set_option maxRecDepth 100000
set_option maxHeartbeats 4000000
/-! enumerate of a tuple. -/
namespace PySem
open Sem (wp)
open AutoSeq1 (wpAny_loadPart')
theorem ev_enumerate_newT (l : Addr) (items : Array Value) (n : Nat) (dct : Option Addr) (sl : Array (Option Value)) :
    Meets (Builtin.«enumerate.__new__» ⟨[.type "enumerate", .ref l], []⟩) (fun _ R s => s.heap.get? l = some { cls := .type "tuple", dict := dct, data := .seq items n, slots := sl } ∧
      R (.ok (.ret (.ref (s.heap.push { cls := .type "tuple_iterator", data := .fields #[.ref l, .int 0 0] }).objs.size)))
        { s with heap := (s.heap.push { cls := .type "tuple_iterator", data := .fields #[.ref l, .int 0 0] }).push { cls := .type "enumerate", data := .fields #[.none, .bool false, .ref s.heap.objs.size, rawInt 0, .none, .none] } }) :=
  .of_wp fun prog w A R s h => by
    obtain ⟨hp, g, d, tk, os⟩ := s; obtain ⟨hl, h⟩ := h
    have hsub := sub_enumerate
    have hL : Heap.IsTuple (Shared.heap ⟨hp, g, d, tk, os⟩) l items := ⟨_, hl, rfl, n, rfl⟩
    have q1 : ∀ {A' : Around} {E : Value → Shared → Prop} {Q : Value → Shared → Prop}, Q (.ref hp.objs.size) ⟨hp.push { cls := .type "tuple_iterator", data := .fields #[.ref l, .int 0 0] }, g, d, tk, os⟩ → wpAny (model prog w) A' (pyIter (.ref l)) Q E ⟨hp, g, d, tk, os⟩ :=
      fun q => (begins_tuple l items).iter prog w _ _ ⟨hp, g, d, tk, os⟩ _ hL q
    wp_walk using wpAny_loadPart' hl
    refine wpAny_stack_any fun st => wpAny_pure ?_
    split
    · rename_i c _ _ _ _ _
      cases (c == Value.type "enumerate")
      · wp_walk using wpAny_loadPart' hl, q1
        exact ⟨_, rfl, h⟩
      · wp_walk using wpAny_loadPart' hl, q1
        exact ⟨_, rfl, h⟩
    · wp_walk using wpAny_loadPart' hl, q1
      exact ⟨_, rfl, h⟩
section
variable {prog : Program} {w : World} {A : Around} {E : Value → Shared → Prop} {s : Shared}
theorem ev_enumerate_tuple {l : Addr} {items : Array Value} {Q : Value → Shared → Prop} (hL : s.heap.IsTuple l items)
    (h : ∀ h', IsEnum h' (s.heap.objs.size + 1) s.heap.objs.size 0 .none → h'.IsTupleIter s.heap.objs.size l 0 → h'.objs.size = s.heap.objs.size + 2 →
      (∀ b o, s.heap.get? b = some o → h'.get? b = some o) → Q (.ref (s.heap.objs.size + 1)) { s with heap := h' }) :
    wpAny (model prog w) A (call (.type "enumerate") [.ref l]) Q E s := by
  obtain ⟨⟨c, dct, dt, sl⟩, hl, hc, n, hd⟩ := hL
  replace hc : c = .type "tuple" := hc
  replace hd : dt = .seq items n := hd
  subst hc hd
  refine callType_new F.called_enumerate (by decide) (F.typeCall_enumerate_1 _) (F.newCall_enumerate_1 _) (fun obj => F.args_object_init_2 obj _) F.entry_enumerate_new
    (ev_enumerate_newT l items n dct sl) ⟨hl, ?_⟩
  have hz : (s.heap.push { cls := .type "tuple_iterator", data := .fields #[.ref l, .int 0 0] }).objs.size = s.heap.objs.size + 1 := Heap.size_push ..
  show _ ∧ _
  rw [hz]
  have he : IsEnum ((s.heap.push { cls := .type "tuple_iterator", data := .fields #[.ref l, .int 0 0] }).push
      { cls := .type "enumerate", data := .fields #[.none, .bool false, .ref s.heap.objs.size, rawInt 0, .none, .none] }) (s.heap.objs.size + 1) s.heap.objs.size 0 .none := by
    have := Heap.get?_push_size (s.heap.push { cls := .type "tuple_iterator", data := .fields #[.ref l, .int 0 0] })
      (o := { cls := .type "enumerate", data := .fields #[.none, .bool false, .ref s.heap.objs.size, rawInt 0, .none, .none] }) rfl
    rw [hz] at this; exact this
  refine ⟨⟨_, he, rfl⟩, h _ he ⟨_, Heap.get?_push_of_some _ (Heap.get?_push_size _ rfl), rfl, rfl⟩ (by rw [Heap.size_push, hz]) fun b o x => Heap.get?_push_of_some _ (Heap.get?_push_of_some _ x)⟩
end
end PySem
set_option Elab.async false
set_option linter.all false
set_option maxRecDepth 100000
set_option maxHeartbeats 4000000
/-! enumerate of a list or of a tuple, as the walk has it. -/
namespace Ev
open PySem PySem.Spec PyProof.Rows L2
section
variable {prog : Program} {w : World} {A : Around} {E : Value → Shared → Prop} {s : Shared}
theorem enumT_end {e it l : Addr} {i : Nat} {items : Array Value} {old : Value} {Q : Option Value → Shared → Prop} (hh : A.handled = none)
    (he : IsEnum s.heap e it i old) (hit : s.heap.IsTupleIter it l i) (hl : s.heap.IsTuple l items) (hne : l ≠ it) (hx : items[i]? = none)
    (hQ : ∀ h', Heap.ExtBut it s.heap h' → Q none { s with heap := h' }) : wpAny (model prog w) A (pyNext (.ref e)) Q E s := by
  have hT : s.TypeIs (.ref e) "enumerate" := ⟨_, he, rfl⟩
  unfold pyNext
  refine wpAny_bind (wpAny_attempt (wpAny_callSpecial?_slot (name := Str.ofString "__next__") hT F.slot_enumerate_next
    (wpAny_call_entry F.slot_enumerate_next hT F.entry_enumerate_next ?_ (F.args_enumerate_next_1 _))))
  show wpAny _ _ (field (.ref e) 2 >>= _) _ _ _
  refine wpAny_bind (wpAny_field he rfl (x := .ref it) rfl ?_)
  refine wpAny_bind (wpAny_nextOf_tuple_end hh hit hl hx fun h' x he' hx' => ?_)
  obtain ⟨o, ho, hc⟩ := hx'
  refine wpAny_bind (wpAny_isInstance (T := "StopIteration") (b := true) ⟨o, ho, hc⟩ isSubtype_stop ?_)
  exact wpAny_pure (hQ _ he')
end
/-- the tuple at a, each item in a new pair -/
def IteT (K : PySem.W.Frag) (a : Addr) : It :=
  ⟨fun i H => ∃ (xs : List V) (x : V), SqT K H a xs ∧ xs[i]? = some x, fun i H v H' => ∃ T x, v = .ref T ∧ H T = none ∧ H' = upd H T (.tup [.int (i : Nat), x]) ∧ ∀ xs, SqT K H a xs → xs[i]? = some x, fun i H => ∃ xs : List V, SqT K H a xs ∧ xs.length ≤ i⟩
theorem turn_enumT {P : Program} {w : World} {K : PySem.W.Frag} {elts : List Expr} {kk : Nat} {tpos : Pos} (a e it : Addr) :
    Turn P w K (.Tuple elts kk tpos) (IteT K a) [e, it] e (fun i h => (∃ old, IsEnum h e it ((i : Nat) : Int) old) ∧ h.IsTupleIter it a i ∧ e ≠ it) where
  mem := by simp
  obj := fun i h st b hb => by
    obtain ⟨⟨old, he⟩, ⟨o, ho, hc, hd⟩, _⟩ := st
    have e' : b = e ∨ b = it := by simpa using hb
    rcases e' with z | z
    · rw [z]; exact ⟨_, he, fun v q => nomatch q⟩
    · rw [z]; exact ⟨o, ho, fun v q => by rw [hd] at q; cases q⟩
  keep := fun i h h' st k => let ⟨⟨old, he⟩, hi, hne⟩ := st; ⟨⟨old, k e (by simp) _ he⟩, hi.at fun o q => k it (by simp) o q, hne⟩
  item := by
    intro X hP hw hK hc i pins s σ H E I hf st hg
    subst hP hw hK
    obtain ⟨⟨old, he⟩, hit, hne⟩ := st
    obtain ⟨xs, x, hq, hx⟩ := hg
    obtain ⟨its, rv, p, hz⟩ := I.tuple hq
    obtain ⟨u, hu, ru⟩ := rv.get hx
    have hpT : s.heap.IsTuple a its.toArray := p
    have hel : e < s.heap.objs.size := Heap.lt_size he
    have hil : it < s.heap.objs.size := by obtain ⟨_, q, _⟩ := hit; exact Heap.lt_size q
    have hae : a ≠ e := fun z => by
      obtain ⟨o, ho, hcl, _⟩ := hpT
      rw [z, he] at ho; cases ho; exact absurd (show Value.type "enumerate" = Value.type "tuple" from hcl) (by decide)
    have hai : a ≠ it := fun z => by
      obtain ⟨o, ho, hcl, _⟩ := hpT
      obtain ⟨o2, ho2, hcl2, _⟩ := hit
      rw [z, ho2] at ho; cases ho; rw [hcl2] at hcl; exact absurd hcl (by decide)
    have hlen : i < its.toArray.size := by
      have : i < its.length := (List.getElem?_eq_some_iff.mp hu).1
      simpa using this
    refine wpAny_pyNext_enum_itemD (Draws.tuple (prog := X.prog) (w := X.w) (A := X.A.in1) (I.ok.hd hc) it a hai its.toArray) he ⟨hit, hpT⟩ hlen hne (by simp [hne, Ne.symm hae]) fun x' h' tk hx' ho hit'' hT hsz hk => ?_
    have hxu : x' = u := by
      have q : its[i]? = some x' := by simpa using hx'
      rw [hu] at q; exact (Option.some.inj q).symm
    subst hxu
    obtain ⟨hit', _⟩ := hit''
    refine ⟨_, rfl, wpAny_letOwnedTupleGo_enum (s := { s with heap := h', toks := tk + 1 }) ho fun h'' he' sb => ?_⟩
    have hT2 : h''.get? s.heap.objs.size = some { cls := .type "tuple", data := .seq #[.int i tk, x'] } := (sb.2 _ (Nat.ne_of_gt hel)).trans hT
    have new : ObjOk X.prog X.w (upd H s.heap.objs.size (.tup [.int (i : Nat), x])) h'' s.heap.objs.size (.tup [.int (i : Nat), x]) :=
      ⟨by show 2 ≤ sizeLine; decide, [.int i tk, x'], .cons ⟨_, rfl⟩ (.cons ru .nil), ⟨_, hT2, rfl, _, rfl⟩⟩
    have I1 : Inv X pins σ (upd H s.heap.objs.size (.tup [.int (i : Nat), x])) { s with heap := h'', toks := tk + 1 } :=
      I.turnedNew (ch := [e, it]) (fun b ob hb q => (sb.2 b (fun z => hb (by simp [z]))).trans (hk b ob (fun z => hb (by simp [z])) (fun z => hb (by simp [z])) q)) hf (Nat.le_refl _) new
    refine ⟨.ref s.heap.objs.size, _, I1, rfl, ⟨_, x, rfl, I.hok.fresh (Nat.le_refl _), rfl, fun ys hy => by rw [I.tuple_inj hy hq]; exact hx⟩, ⟨⟨x', ?_⟩, hit'.at fun o q => (sb.2 it (Ne.symm hne)).trans q, hne⟩, fun b hb => ?_⟩
    · have e1 : ((i + 1 : Nat) : Int) = (i : Int) + 1 := by omega
      rw [e1]; exact he'
    · have hb' : b < s.heap.objs.size := by
        have e' : b = e ∨ b = it := by simpa using hb
        rcases e' with z | z
        · rw [z]; exact hel
        · rw [z]; exact hil
      rw [upd_ne (Nat.ne_of_lt hb')]
      exact (hf b hb).1
  done := by
    intro X hP hw hK hc i pins s σ H E I hf st hg
    subst hP hw hK
    obtain ⟨⟨old, he⟩, hit, hne⟩ := st
    obtain ⟨xs, hq, hx⟩ := hg
    obtain ⟨its, rv, p, hz⟩ := I.tuple hq
    obtain ⟨f0, f1, f2, f3, f4, f5⟩ := hf it (by simp)
    have hpT : s.heap.IsTuple a its.toArray := p
    have hai : a ≠ it := fun z => by
      obtain ⟨o, ho, hcl, _⟩ := hpT
      obtain ⟨o2, ho2, hcl2, _⟩ := hit
      rw [z, ho2] at ho; cases ho; rw [hcl2] at hcl; exact absurd hcl (by decide)
    have hl := rv.length
    exact enumT_end (I.ok.hd hc) he hit hpT hai (by simp; omega) fun h' eb => ⟨rfl, I.turned (t' := s.toks) (fun b o hb q => eb b o hb q) f0 f1 f3 f4 f5⟩
  self := fun A i s Q E st h => let ⟨⟨_, he⟩, _⟩ := st; wpAny_pyIter_enum he h
def iEnumA (K : PySem.W.Frag) (ta : TA) : TI := fun σ H R => ta σ H fun vs H1 => ∃ a xs, vs = [.ref a] ∧ ((SqL K H1 a xs ∧ R (Ite K a) H1) ∨ (SqT K H1 a xs ∧ R (IteT K a) H1))
theorem pi_enumA {X : Cx} {e : Expr} {ta : TA} {p pos tpos : Pos} {elts : List Expr} {kk : Nat} (hg : Gl X "enumerate") (hm : X.mg "enumerate" = none) (ha : PA X [e] ta) (hs : starEach [e] X.env = [(false, eval e X.env)] := by rfl) :
    PI X (.Tuple elts kk tpos) (.Call (.Name "enumerate" p) [e] [] pos) (iEnumA X.K ta) := by
  refine ⟨fun pins s σ H R I h => ?_⟩
  refine Call_ (ld_blt I hg hm boot_enumerate (PyProof.Rows.callWith_type1 (thn (ha.run pos pins s σ H _ I h) fun us s1 ⟨vs, H1, I1, r1, q1⟩ => ?_) hs rfl))
  obtain ⟨a, xs, ex, q1⟩ := q1
  subst ex
  cases r1 with
  | cons r rr =>
    cases rr
    cases r
    have fresh : ∀ b ∈ [s1.heap.objs.size + 1, s1.heap.objs.size], FpOk X pins H1 b := fun b hb => by
      have e' : b = s1.heap.objs.size + 1 ∨ b = s1.heap.objs.size := by simpa using hb
      have hle : s1.heap.objs.size ≤ b := by
        rcases e' with z | z
        · rw [z]; exact Nat.le_add_right _ _
        · rw [z]; exact Nat.le_refl _
      exact I1.fpOk hle (I1.hok.fresh hle)
    rcases q1 with ⟨hq, q⟩ | ⟨hq, q⟩
    · obtain ⟨its, rv, p', hz⟩ := I1.list hq
      refine call_enumerate_list p'.isList fun h' he hit hsz hk => wpAny_pyIter_enum he ?_
      have I2 : Inv X pins σ H1 { s1 with heap := h' } := I1.kept (t' := s1.toks) hk
      exact ⟨s1.heap.objs.size + 1, [s1.heap.objs.size + 1, s1.heap.objs.size], _, _, H1, rfl, I2, turn_enum a (s1.heap.objs.size + 1) s1.heap.objs.size, ⟨⟨.none, he⟩, hit, Nat.succ_ne_self _⟩, fresh, q⟩
    · obtain ⟨its, rv, p', hz⟩ := I1.tuple hq
      refine ev_enumerate_tuple (show s1.heap.IsTuple a its.toArray from p') fun h' he hit hsz hk => wpAny_pyIter_enum he ?_
      have I2 : Inv X pins σ H1 { s1 with heap := h' } := I1.kept (t' := s1.toks) hk
      exact ⟨s1.heap.objs.size + 1, [s1.heap.objs.size + 1, s1.heap.objs.size], _, _, H1, rfl, I2, turn_enumT a (s1.heap.objs.size + 1) s1.heap.objs.size, ⟨⟨.none, he⟩, hit, Nat.succ_ne_self _⟩, fresh, q⟩
end Ev
set_option Elab.async false
set_option linter.all false
set_option maxRecDepth 100000
set_option maxHeartbeats 1000000
/-! The keys of a dict, walked. -/
namespace Ev
open PySem PySem.Spec PyProof.Rows L2
/-- the keys vs of the dict o at d -/
def Itdk (d : Addr) (o : Obj) (vs : List V) : It :=
  ⟨fun i H => H d = some (DicO d o) ∧ i < vs.length, fun i H x H' => H' = H ∧ vs[i]? = some x, fun i H => H d = some (DicO d o) ∧ vs.length ≤ i⟩
/-- what the object must be -/
def IsDk (d : Addr) (o : Obj) (vs : List V) : Prop := o.ExactDict ∧ (d == sysModules) = false ∧ ∃ (arr : Array DictEntry) (ep : Nat), o.data = .dict arr ep ∧ Vals vs (arr.toList.map (·.key))
section
variable {P : Program} {w : World} {K : PySem.W.Frag} {tg : Expr} {d : Addr} {o : Obj} {vs : List V}
theorem turn_dk {arr : Array DictEntry} {ep : Nat} (it : Addr) (hod : o.data = .dict arr ep) (rv : Vals vs (arr.toList.map (·.key))) : Turn P w K tg (Itdk d o vs) [it] it (fun i h => h.IsKeyIter it d i vs.length ep) where
  mem := by simp
  obj := fun i h st b hb => by
    have e : b = it := by simpa using hb
    subst e
    obtain ⟨oi, e, c, dd⟩ := st
    exact ⟨oi, e, fun v z => by rw [dd] at z; cases z⟩
  keep := fun i h h' st k => st.at fun oi e => k it (by simp) oi e
  item := by
    intro X hP hw hK hc i pins s σ H E I hf st hg
    subst hP hw hK
    obtain ⟨hd, hi⟩ := hg
    obtain ⟨f0, f1, f2, f3, f4, f5⟩ := hf it (by simp)
    obtain ⟨hgd, _, _⟩ := I.hok d _ hd
    have hl : arr.size = vs.length := by rw [rv.length, List.length_map, Array.length_toList]
    obtain ⟨v, hv⟩ : ∃ v, vs[i]? = some v := ⟨vs[i], List.getElem?_eq_getElem hi⟩
    obtain ⟨u, hu, ru⟩ := rv.get hv
    rw [List.getElem?_map] at hu
    obtain ⟨en, hen, rfl⟩ := Option.map_eq_some_iff.mp hu
    refine next_key_item st hgd hod hl (by rw [← Array.getElem?_toList]; exact hen) fun h' st' sb => ?_
    have I1 : Inv X pins σ H { s with heap := h' } := I.turned (t' := s.toks) (fun b ob hb e => (sb.2 b hb).trans e) f0 f1 f3 f4 f5
    obtain ⟨oi, e, c, dd⟩ := id st'
    exact ⟨en.key, rfl, go_of (s := { s with heap := h' }) e c dd (by decide) ⟨v, H, I1, ru, ⟨rfl, hv⟩, st', fun b hb => (hf b hb).1⟩⟩
  done := by
    intro X hP hw hK hc i pins s σ H E I hf st hg
    subst hP hw hK
    obtain ⟨hd, hi⟩ := hg
    obtain ⟨f0, f1, f2, f3, f4, f5⟩ := hf it (by simp)
    obtain ⟨hgd, _, _⟩ := I.hok d _ hd
    have hl : arr.size = vs.length := by rw [rv.length, List.length_map, Array.length_toList]
    exact next_key_end (I.ok.hd hc) st hgd hod hl hi fun h' eb => ⟨rfl, I.turned (t' := s.toks) (fun b ob hb e => eb b ob hb e) f0 f1 f3 f4 f5⟩
  self := fun A i s Q E st h => wpAny_pyIter_keyiter st h
end
end Ev
set_option Elab.async false
set_option linter.all false
set_option maxRecDepth 100000
set_option maxHeartbeats 1000000
/-! What is walked; loops. -/
namespace Ev
open PySem PySem.Spec PyProof.Rows L2

/-- J walks ds, where C holds -/
structure WalkOk (K : PySem.W.Frag) (S : Stg K) (tg : Expr) (J : It) (ds : List D) (C : (Addr → Prop) → Hp → Prop) : Prop where
  go : ∀ Mu H i, C Mu H → i < ds.length → J.go i H
  stop : ∀ Mu H, C Mu H → J.stop ds.length H
  yld : ∀ Mu H h i x H' d, C Mu H → HandAt S Mu H h → (∀ p, Fr H p → ¬ Mu p) → J.yld i H x H' → ds[i]? = some d → Pres S H H' ∧ HandAt S Mu H' h ∧ IRep tg K Mu H' x d
def SI (X : Cx) (S : Stg X.K) (XA : XAT) (E : XK) (tg iter : Expr) (vs : List Nat) (m : Env → M (List D)) : Prop := ∃ wi : TI, PI X tg iter wi ∧ ∀ (Mu : Addr → Prop) env h σ H R, ES S Mu env h σ H →
  Good S Mu XA (m env h) H (fun ds h' H' => ∀ J C, WalkOk X.K S tg J ds C → ds.length ≤ sizeLine → C Mu H' → (∀ Mu2 env2 h2 σ2 H2, ES S Mu2 env2 h2 σ2 H2 → Stay Mu Mu2 H' H2 → (∀ j ∈ vs, nth env2 j = nth env j ∧ σ2[j]? = σ[j]?) → C Mu2 H2) → R J H') E → wi σ H R
/-- a value, or a list of one's own that is looked at: where it stands is known by its slot -/
def Held (X : Cx) (S : Stg X.K) (Mu : Addr → Prop) (vs : List Nat) (env : Env) (σ : L2.St) (H : Hp) (v : V) (d : D) : Prop := Rep X.K Mu H v d ∨ (∃ ds, d = .list ds) ∧ ∃ j ∈ vs, nth env j = .own d ∧ σ[j]? = some (some v)
def SV (X : Cx) (S : Stg X.K) (XA : XAT) (E : XK) (ex : Expr) (vs : List Nat) (m : Env → M D) : Prop := ∃ t : TE, PE X ex t ∧ ∀ (Mu : Addr → Prop) env h σ H Q, ES S Mu env h σ H → Good S Mu XA (m env h) H (fun d h' H' => ∀ v, BRep S Mu H' v d → Held X S Mu vs env σ H' v d → Q v H') E → t σ H Q

/-- what a run knows of all that is held -/
def Lim (K : PySem.W.Frag) (H : Hp) : Prop := (∀ a xs, SqL K H a xs → xs.length ≤ sizeLine) ∧ ∀ a xs, SqT K H a xs → xs.length ≤ sizeLine
theorem lim_of {X : Cx} {pins : List (Addr × Obj)} {σ : L2.St} {H : Hp} {s : Shared} (I : Inv X pins σ H s) : Lim X.K H := ⟨fun a xs h => (I.list h).elim fun _ z => z.2.2, fun a xs h => (I.tuple h).elim fun _ z => z.2.2⟩
theorem pe_lim {X : Cx} {e : Expr} {t : TE} (h : PE X e t) : PE X e (fun σ H Q => t σ H fun v H1 => Lim X.K H1 → Q v H1) :=
  ⟨fun pins s σ H Q I hw => thn (h.run pins s σ H _ I hw) fun v s1 ⟨x, H1, I1, r1, q1⟩ => ⟨x, H1, I1, r1, q1 (lim_of I1)⟩⟩

section
variable {X : Cx} {S : Stg X.K} {XA : XAT} {E : XK} {a b c : Expr} {ma mb mc : Env → M D} {pos : Pos} {W W1 W2 : List Nat} {st : Stmt} {vs vs1 vs2 : List Nat} {tg : Expr}
theorem SE.sv (h : SE X S XA E a ma) : SV X S XA E a vs ma := by
  obtain ⟨t, p, q⟩ := h
  exact ⟨t, p, fun Mu env h σ H Q e g => q Mu env h σ H Q e (g.mono fun d h' H' _ _ k v r => k v (.inl r) (.inl r))⟩
theorem sv_var {i : Nat} {x : Str} (hN : X.N[i]? = some x) (hv : Vis X.env.scope x) (hd : (x == ("__debug__" : Str)) = false) (hcd : (x == ("__classdict__" : Str)) = false) (hi : i ∈ vs) : SV X S XA E (.Name x pos) vs (fun env => slotB env i) := by
  refine ⟨tVar i, pe_var hN hv hd hcd, fun Mu env h σ H Q e g => ?_⟩
  have hs := e.slot i
  dsimp only at g
  unfold slotB at g
  cases q : nth env i with
  | val d =>
    rw [q] at hs g
    obtain ⟨v, e1, r⟩ := hs
    exact ⟨v, e1, g.ret e.hand v (.inl r) (.inl r)⟩
  | own d =>
    rw [q] at hs g
    obtain ⟨a, e1, m, n, r⟩ := hs
    cases d <;> first | exact (Good.fail (show Good S Mu XA (fail h) H _ E from g)).elim | skip
    rename_i ds
    exact ⟨.ref a, e1, Good.ret (a := PyData.list ds) g e.hand _ (.inr ⟨a, rfl, n, r⟩) (.inr ⟨⟨ds, rfl⟩, i, hi, q, e1⟩)⟩
  | _ => rw [q] at g; exact g.fail.elim
theorem Held.later {Mu Mu2 : Addr → Prop} {env env2 : Env} {h2 : List D} {σ σ2 : L2.St} {H H2 : Hp} {v : V} {d : D} (x : Held X S Mu vs env σ H v d) (e2 : ES S Mu2 env2 h2 σ2 H2) (st : Stay Mu Mu2 H H2) (f : ∀ j ∈ vs, nth env2 j = nth env j ∧ σ2[j]? = σ[j]?) : BRep S Mu2 H2 v d := by
  rcases x with x | ⟨_, j, hj, q1, q2⟩
  · exact .inl (x.stay st)
  · obtain ⟨f1, f2⟩ := f j hj
    have hs := e2.slot j
    rw [f1, q1, f2, q2] at hs
    obtain ⟨a, e1, m, n, o⟩ := hs
    cases e1
    exact .inr ⟨a, rfl, n, o⟩
/-! lists, tuples, texts -/
def iAny (K : PySem.W.Frag) (te : TE) : TI := fun σ H R => te σ H fun x H1 => (∃ a, x = .ref a ∧ (∃ xs, SqL K H1 a xs) ∧ R (Itl K a) H1) ∨ (∃ a, x = .ref a ∧ (∃ xs, SqT K H1 a xs) ∧ R (Itt K a) H1) ∨ (∃ y, x = .str y ∧ R (Its y) H1) ∨ ∃ a o vs, x = .ref a ∧ H1 a = some (DicO a o) ∧ IsDk a o vs ∧ R (Itdk a o vs) H1
theorem pi_any {te : TE} (he : PE X a te) : PI X tg a (iAny X.K te) := by
  refine ⟨fun pins s σ H R I h => ?_⟩
  refine thn (he.run pins s σ H _ I h) fun v s1 ⟨x, H1, I1, r1, q1⟩ => ?_
  rcases q1 with ⟨a, e, ⟨xs, hq⟩, q⟩ | ⟨a, e, ⟨xs, hq⟩, q⟩ | ⟨y, e, q⟩ | ⟨a, o, vs, e, hq, ⟨hx, hs, arr, ep, hd, rv⟩, q⟩
  · subst e
    cases r1
    obtain ⟨its, rv, p, hz⟩ := I1.list hq
    exact wpAny_pyIter_list p.isList (pi_one (tk := s1.toks) I1 _ (turn_list a _) ⟨_, Heap.get?_push_size _ rfl, rfl, rfl⟩ q)
  · subst e
    cases r1
    obtain ⟨its, rv, p, hz⟩ := I1.tuple hq
    exact wpAny_pyIter_tuple (show s1.heap.IsTuple a its.toArray from p) (pi_one (tk := s1.toks) I1 _ (turn_tuple a _) ⟨_, Heap.get?_push_size _ rfl, rfl, rfl⟩ q)
  · subst e
    obtain ⟨t, rfl⟩ := r1
    cases ha : y.cps.all (· < 128)
    · exact wpAny_pyIter_wide ha (pi_one (tk := s1.toks) I1 _ (turn_str _ y t "str_iterator" (.inr rfl)) ⟨_, Heap.get?_push_size _ rfl, rfl, rfl⟩ q)
    · exact wpAny_pyIter_ascii ha (pi_one (tk := s1.toks) I1 _ (turn_str _ y t "str_ascii_iterator" (.inl rfl)) ⟨_, Heap.get?_push_size _ rfl, rfl, rfl⟩ q)
  · subst e
    cases r1
    obtain ⟨ho, _, _⟩ := I1.hok a _ hq
    have hl : arr.size = vs.length := by rw [rv.length, List.length_map, Array.length_toList]
    refine iter_keys hs ho hx hd (pi_one (tk := s1.toks) I1 _ (turn_dk _ hd rv) ?_ q)
    rw [← hl]
    exact ⟨_, Heap.get?_push_size _ rfl, rfl, rfl⟩
theorem walk_list {p : Addr} {ds : List D} : WalkOk X.K S tg (Itl X.K p) ds (fun Mu H => BRep S Mu H (.ref p) (.list ds)) where
  go := fun Mu H i c hi => by
    obtain ⟨a, xs, e, h1, r⟩ := c.lst
    cases e
    have hi' : i < xs.length := by rw [r.length]; exact hi
    exact ⟨xs, xs[i], .inl h1, List.getElem?_eq_getElem hi'⟩
  stop := fun Mu H c => by
    obtain ⟨a, xs, e, h1, r⟩ := c.lst
    cases e
    exact ⟨xs, .inl h1, by rw [r.length]; exact Nat.le_refl _⟩
  yld := fun Mu H h i x H' d c hx nf y hd => by
    obtain ⟨a, xs, e, h1, r⟩ := c.lst
    cases e
    obtain ⟨rfl, y⟩ := y
    obtain ⟨v, hv, rv⟩ := r.get hd
    have := y xs (.inl h1)
    rw [hv] at this
    cases this
    exact ⟨Pres.refl _, hx, .inl rv⟩
theorem walk_tup {p : Addr} {ds : List D} : WalkOk X.K S tg (Itt X.K p) ds (fun Mu H => BRep S Mu H (.ref p) (.tuple ds)) where
  go := fun Mu H i c hi => by
    obtain ⟨a, xs, e, h1, r⟩ := c.tup
    cases e
    have hi' : i < xs.length := by rw [r.length]; exact hi
    exact ⟨xs, xs[i], h1, List.getElem?_eq_getElem hi'⟩
  stop := fun Mu H c => by
    obtain ⟨a, xs, e, h1, r⟩ := c.tup
    cases e
    exact ⟨xs, h1, by rw [r.length]; exact Nat.le_refl _⟩
  yld := fun Mu H h i x H' d c hx nf y hd => by
    obtain ⟨a, xs, e, h1, r⟩ := c.tup
    cases e
    obtain ⟨rfl, y⟩ := y
    obtain ⟨v, hv, rv⟩ := r.get hd
    have := y xs h1
    rw [hv] at this
    cases this
    exact ⟨Pres.refl _, hx, .inl rv⟩
theorem walk_str {y : Str} : WalkOk X.K S tg (Its y) (y.cps.toList.map fun c => .str ⟨#[c]⟩) (fun _ _ => True) where
  go := fun Mu H i c hi => by
    rw [List.length_map] at hi
    exact (by simpa using hi : i < y.cps.size)
  stop := fun Mu H c => by
    rw [List.length_map]
    exact (by simp : y.cps.size ≤ y.cps.toList.length)
  yld := fun Mu H h i x H' d c hx nf yy hd => by
    obtain ⟨rfl, ch, hc, rfl⟩ := yy
    rw [List.getElem?_map] at hd
    have : y.cps.toList[i]? = some ch := by simpa using hc
    rw [this] at hd
    cases hd
    exact ⟨Pres.refl _, hx, .inl (.str _)⟩
theorem walk_dk {p : Addr} {o : Obj} {es : List DictEntry} {kvs : List (D × D)} {us : List V} (hv : Vals us (es.map (·.key))) : WalkOk X.K S tg (Itdk p o us) (dKeys kvs) (fun Mu H => ¬ Mu p ∧ H p = some (DicO p o) ∧ RepL X.K Mu H us (dKeys kvs)) where
  go := fun Mu H i c hi => ⟨c.2.1, by rw [c.2.2.length]; exact hi⟩
  stop := fun Mu H c => ⟨c.2.1, by rw [c.2.2.length]; exact Nat.le_refl _⟩
  yld := fun Mu H h i x H' d c hx nf y hd => by
    obtain ⟨rfl, y⟩ := y
    obtain ⟨v, hv, rv⟩ := c.2.2.get hd
    rw [hv] at y
    cases y
    exact ⟨Pres.refl _, hx, .inl rv⟩
theorem si_any (ha : SV X S XA E a vs ma) : SI X S XA E tg a vs (fun env => bnd (ma env) walkD) := by
  obtain ⟨t, p, q⟩ := ha
  refine ⟨_, pi_any (pe_lim p), fun Mu env h σ H R e g => ?_⟩
  refine q Mu env h σ H _ e (g.bnd.mono fun d h1 H1 p1 x1 g1 v rv hv lm => ?_)
  cases d with
  | list ds =>
    obtain ⟨a, xs, rfl, h1', r1⟩ := rv.lst
    exact .inl ⟨a, rfl, ⟨xs, .inl h1'⟩, g1.ret (a := ds) x1 _ _ walk_list (by rw [← r1.length]; exact lm.1 _ _ (.inl h1')) rv fun Mu2 env2 h2 σ2 H2 e2 s f => hv.later e2 s f⟩
  | tuple ds =>
    obtain ⟨a, xs, rfl, h1', r1⟩ := rv.tup
    exact .inr (.inl ⟨a, rfl, ⟨xs, h1'⟩, g1.ret (a := ds) x1 _ _ walk_tup (by rw [← r1.length]; exact lm.2 _ _ h1'.sq) rv fun Mu2 env2 h2 σ2 H2 e2 s f => hv.later e2 s f⟩)
  | str y =>
    rw [rv.str]
    obtain ⟨z, g2⟩ := Good.chk g1
    exact .inr (.inr (.inl ⟨y, rfl, g2.ret x1 _ _ walk_str (by rw [List.length_map]; have := of_decide_eq_true z; rw [sizeLine_eq]; simpa [Str.length, line] using this) trivial fun _ _ _ _ _ _ _ _ => trivial⟩))
  | dict kvs =>
    rcases hv with hv | ⟨⟨_, z⟩, _⟩
    · cases hv with
      | dk nm ha k r =>
        obtain ⟨us, r1, r2⟩ := r.keysL
        obtain ⟨arr, ep, hd, he⟩ := k.dat
        refine .inr (.inr (.inr ⟨_, _, us, rfl, ha, ⟨k.ex, k.sys, arr, ep, hd, by rw [he]; exact r2⟩, g1.ret (a := dKeys kvs) x1 _ _ (walk_dk r2) (by unfold dKeys; rw [List.length_map]; exact k.len) ⟨nm, ha, r1⟩ fun Mu2 env2 h2 σ2 H2 e2 s f => ?_⟩))
        obtain ⟨n2, h2'⟩ := s.lst _ (DicO _ _) trivial nm ha
        exact ⟨n2, h2', r1.stay s⟩
    · cases z
  | _ => exact g1.fail.elim

/-! ranges -/
theorem isNat63_iff {i : Int} (h : isNat63 i = true) : -(2 ^ 62) ≤ i ∧ i < 2 ^ 62 := of_decide_eq_true h
theorem rangeV_parts {lo hi st : Int} {h : List D} {H : Hp} {Mu : Addr → Prop} {P : List D → List D → Hp → Prop} (g : Good S Mu XA (rangeV lo hi st h) H P E) : (-(2 ^ 62) ≤ lo ∧ lo < 2 ^ 62) ∧ (-(2 ^ 62) ≤ hi ∧ hi < 2 ^ 62) ∧ (hi - lo ≤ 16777216 ∧ lo - hi ≤ 16777216) ∧ ((st = 1 ∧ Good S Mu XA (ret (rangeD lo hi) h) H P E) ∨ (st = -1 ∧ Good S Mu XA (ret (rangeDown lo hi) h) H P E)) := by
  unfold rangeV at g
  by_cases c : (isNat63 lo && isNat63 hi && decide (hi - lo ≤ 16777216 ∧ lo - hi ≤ 16777216)) = true
  · rw [if_pos c] at g
    simp only [Bool.and_eq_true] at c
    refine ⟨isNat63_iff c.1.1, isNat63_iff c.1.2, of_decide_eq_true c.2, ?_⟩
    by_cases c1 : st = 1
    · rw [if_pos c1] at g
      exact .inl ⟨c1, g⟩
    · rw [if_neg c1] at g
      by_cases c2 : st = -1
      · rw [if_pos c2] at g
        exact .inr ⟨c2, g⟩
      · rw [if_neg c2] at g
        exact g.fail.elim
  · rw [if_neg c] at g
    exact g.fail.elim
theorem rangeD_len {lo hi : Int} (h : hi - lo ≤ 16777216 ∧ lo - hi ≤ 16777216) : (rangeD lo hi).length ≤ sizeLine := by
  unfold rangeD
  rw [List.length_map, List.length_range, sizeLine_eq]
  omega
theorem rangeDown_len {lo hi : Int} (h : hi - lo ≤ 16777216 ∧ lo - hi ≤ 16777216) : (rangeDown lo hi).length ≤ sizeLine := by
  unfold rangeDown
  rw [List.length_map, List.length_range, sizeLine_eq]
  omega
theorem walk_range {lo hi : Int} : WalkOk X.K S tg (Itr lo (hi - lo).toNat) (rangeD lo hi) (fun _ _ => True) where
  go := fun Mu H i c hi' => by
    unfold rangeD at hi'
    rw [List.length_map, List.length_range] at hi'
    exact hi'
  stop := fun Mu H c => by
    unfold rangeD
    rw [List.length_map, List.length_range]
    exact Nat.le_refl _
  yld := fun Mu H h i x H' d c hx nf y hd => by
    obtain ⟨rfl, rfl⟩ := y
    unfold rangeD at hd
    rw [List.getElem?_map, List.getElem?_range] at hd
    · cases hd
      exact ⟨Pres.refl _, hx, .inl (.int _)⟩
    · rcases Nat.lt_or_ge i (hi - lo).toNat with z | z
      · exact z
      · rw [List.getElem?_eq_none (by rw [List.length_range]; exact z)] at hd
        cases hd
theorem walk_down {lo hi : Int} : WalkOk X.K S tg (Itc lo (-1) (lo - hi).toNat) (rangeDown lo hi) (fun _ _ => True) where
  go := fun Mu H i c hi' => by
    unfold rangeDown at hi'
    rw [List.length_map, List.length_range] at hi'
    exact hi'
  stop := fun Mu H c => by
    unfold rangeDown
    rw [List.length_map, List.length_range]
    exact Nat.le_refl _
  yld := fun Mu H h i x H' d c hx nf y hd => by
    obtain ⟨rfl, rfl⟩ := y
    unfold rangeDown at hd
    rw [List.getElem?_map, List.getElem?_range] at hd
    · cases hd
      refine ⟨Pres.refl _, hx, ?_⟩
      have : lo + (i : Nat) * (-1 : Int) = lo - (i : Int) := by omega
      rw [this]
      exact .inl (.int _)
    · rcases Nat.lt_or_ge i (lo - hi).toNat with z | z
      · exact z
      · rw [List.getElem?_eq_none (by rw [List.length_range]; exact z)] at hd
        cases hd
theorem asInt_good {d : D} {h : List D} {H : Hp} {Mu : Addr → Prop} {P : Int → List D → Hp → Prop} (g : Good S Mu XA (asInt d h) H P E) (x : HandAt S Mu H h) : ∃ i, d = .int i ∧ P i h H := by
  cases d with
  | int i => exact ⟨i, rfl, g.ret (a := i) x⟩
  | _ => exact g.fail.elim
theorem si_range1 {p pos : Pos} (hg : Gl X "range") (hm : X.mg "range" = none) (ha : SE X S XA E a ma) (hs : starEach [a] X.env = [(false, eval a X.env)]) : SI X S XA E tg (.Call (.Name "range" p) [a] [] pos) vs (fun env => bnd (ma env) fun y => bnd (asInt y) fun hi => rangeV 0 hi 1) := by
  obtain ⟨t, pt, q⟩ := ha
  refine ⟨_, pi_range1 hg hm (pa_cons pt pa_nil (by rw [hs]; rfl)) hs, fun Mu env h σ H R e g => ?_⟩
  refine q Mu env h σ H _ e (g.bnd.mono fun d h1 H1 p1 x1 g1 v rv => ?_)
  obtain ⟨i, rfl, g2⟩ := asInt_good g1.bnd x1
  obtain ⟨_, h2, hb, h3⟩ := rangeV_parts g2
  rcases h3 with ⟨_, g3⟩ | ⟨z, _⟩
  · refine ⟨i, by rw [rv.int_inv], h2.1, h2.2, ?_⟩
    have := g3.ret x1 (Itr 0 (i - 0).toNat) (fun _ _ => True) walk_range (rangeD_len hb) trivial fun _ _ _ _ _ _ _ _ => trivial
    rw [Int.sub_zero] at this
    exact this
  · omega
theorem si_range2 {p pos : Pos} (hg : Gl X "range") (hm : X.mg "range" = none) (ha : SE X S XA E a ma) (hb : SE X S XA E b mb) (hs : starEach [a, b] X.env = [(false, eval a X.env), (false, eval b X.env)]) (hs2 : starEach [b] X.env = [(false, eval b X.env)]) :
    SI X S XA E tg (.Call (.Name "range" p) [a, b] [] pos) vs (fun env => bnd (ma env) fun x => bnd (asInt x) fun lo => bnd (mb env) fun y => bnd (asInt y) fun hi => rangeV lo hi 1) := by
  obtain ⟨t, pt, q⟩ := ha
  obtain ⟨t2, pt2, q2⟩ := hb
  refine ⟨_, pi_range2 hg hm (pa_cons pt (pa_cons pt2 pa_nil (by rw [hs2]; rfl)) (by rw [hs, hs2])) hs hs2, fun Mu env h σ H R e g => ?_⟩
  refine q Mu env h σ H _ e (g.bnd.mono fun d h1 H1 p1 x1 g1 v rv => ?_)
  obtain ⟨lo, rfl, g2⟩ := asInt_good g1.bnd x1
  refine q2 Mu env h1 σ H1 _ (e.pres p1 x1) (g2.bnd.mono fun d h2 H2 p2 x2 g3 w rw' => ?_)
  obtain ⟨hi, rfl, g4⟩ := asInt_good g3.bnd x2
  obtain ⟨k1, k2, hb, k3⟩ := rangeV_parts g4
  rcases k3 with ⟨_, g5⟩ | ⟨z, _⟩
  · exact ⟨lo, hi, by rw [rv.int_inv, rw'.int_inv], ⟨k1.1, k1.2, k2.1, k2.2⟩, g5.ret x2 _ (fun _ _ => True) walk_range (rangeD_len hb) trivial fun _ _ _ _ _ _ _ _ => trivial⟩
  · omega
theorem si_range3 {p pos : Pos} (hg : Gl X "range") (hm : X.mg "range" = none) (ha : SE X S XA E a ma) (hb : SE X S XA E b mb) (hc : SE X S XA E c mc) (hs : starEach [a, b, c] X.env = (false, eval a X.env) :: starEach [b, c] X.env) (hpl : (backTo pos (starEach [b, c] X.env)).any (·.1) = false)
    (hs2 : starEach [b, c] X.env = (false, eval b X.env) :: starEach [c] X.env) (hs3 : starEach [c] X.env = (false, eval c X.env) :: starEach [] X.env) :
    SI X S XA E tg (.Call (.Name "range" p) [a, b, c] [] pos) vs (fun env => bnd (ma env) fun x => bnd (asInt x) fun lo => bnd (mb env) fun y => bnd (asInt y) fun hi => bnd (mc env) fun z => bnd (asInt z) fun st => bnd (chk (decide (st = -1)) ()) fun _ => rangeV lo hi st) := by
  obtain ⟨t, pt, q⟩ := ha
  obtain ⟨t2, pt2, q2⟩ := hb
  obtain ⟨t3, pt3, q3⟩ := hc
  refine ⟨_, pi_range3 hg hm (pa_cons pt (pa_cons pt2 (pa_cons pt3 pa_nil hs3) hs2) hs) hs hpl, fun Mu env h σ H R e g => ?_⟩
  refine q Mu env h σ H _ e (g.bnd.mono fun d h1 H1 p1 x1 g1 v rv => ?_)
  obtain ⟨lo, rfl, g2⟩ := asInt_good g1.bnd x1
  refine q2 Mu env h1 σ H1 _ (e.pres p1 x1) (g2.bnd.mono fun d h2 H2 p2 x2 g3 w rw' => ?_)
  obtain ⟨hi, rfl, g4⟩ := asInt_good g3.bnd x2
  refine q3 Mu env h2 σ H2 _ ((e.pres p1 x1).pres p2 x2) (g4.bnd.mono fun d h3 H3 p3 x3 g5 u ru => ?_)
  obtain ⟨st, rfl, g6⟩ := asInt_good g5.bnd x3
  obtain ⟨z1, z2⟩ := Good.chk g6.bnd
  have g7 := z2.ret x3
  obtain ⟨k1, k2, hb, k3⟩ := rangeV_parts g7
  rcases k3 with ⟨z, _⟩ | ⟨rfl, g8⟩
  · have := of_decide_eq_true z1
    omega
  · exact ⟨lo, hi, -1, _, by rw [rv.int_inv, rw'.int_inv, ru.int_inv], RgC.neg k1.1 k1.2 k2.1 k2.2, g8.ret x3 _ (fun _ _ => True) walk_down (rangeDown_len hb) trivial fun _ _ _ _ _ _ _ _ => trivial⟩

/-! pairs -/
theorem zipD_get {xs ys : List D} {i : Nat} {d : D} (h : (zipD xs ys)[i]? = some d) : ∃ x y, xs[i]? = some x ∧ ys[i]? = some y ∧ d = .tuple [x, y] := by
  unfold zipD at h
  rw [List.getElem?_zipWith] at h
  split at h
  · rename_i x y h1 h2
    cases h
    exact ⟨x, y, h1, h2, rfl⟩
  · cases h
theorem pair_new {elts : List Expr} {kk : Nat} {tpos : Pos} {Mu : Addr → Prop} {h : List D} {H : Hp} {T : Addr} {x y : V} {dx dy : D} (hx : HandAt S Mu H h) (n : H T = none) (r1 : Rep X.K Mu H x dx) (r2 : Rep X.K Mu H y dy) :
    Pres S H (upd H T (.tup [x, y])) ∧ HandAt S Mu (upd H T (.tup [x, y])) h ∧ IRep (.Tuple elts kk tpos) X.K Mu (upd H T (.tup [x, y])) (.ref T) (.tuple [dx, dy]) :=
  ⟨Pres.new n, hx.new n, .inr ⟨⟨_, _, _, rfl⟩, _, _, _, rfl, rfl, .of upd_same, RepL.pres (.cons r1 (.cons r2 .nil)) (Pres.new n) hx⟩⟩
theorem walk_zip {elts : List Expr} {kk : Nat} {tpos : Pos} {p q : Addr} {xs ys : List D} : WalkOk X.K S (.Tuple elts kk tpos) (Itz X.K p q) (zipD xs ys) (fun Mu H => BRep S Mu H (.ref p) (.list xs) ∧ BRep S Mu H (.ref q) (.list ys)) where
  go := fun Mu H i c hi => by
    obtain ⟨a, us, e, h1, r⟩ := c.1.lst
    obtain ⟨b, ws, e2, h2, r2⟩ := c.2.lst
    cases e
    cases e2
    unfold zipD at hi
    rw [List.length_zipWith] at hi
    have l1 : i < us.length := by rw [r.length]; omega
    have l2 : i < ws.length := by rw [r2.length]; omega
    exact ⟨us, ws, us[i], ws[i], .inl h1, .inl h2, List.getElem?_eq_getElem l1, List.getElem?_eq_getElem l2⟩
  stop := fun Mu H c => by
    obtain ⟨a, us, e, h1, r⟩ := c.1.lst
    obtain ⟨b, ws, e2, h2, r2⟩ := c.2.lst
    cases e
    cases e2
    refine ⟨us, ws, .inl h1, .inl h2, ?_⟩
    unfold zipD
    rw [List.length_zipWith, r.length, r2.length]
    omega
  yld := fun Mu H h i x H' d c hx nf y hd => by
    obtain ⟨a, us, e, h1, r⟩ := c.1.lst
    obtain ⟨b, ws, e2, h2, r2⟩ := c.2.lst
    cases e
    cases e2
    obtain ⟨T, x1, x2, rfl, n, rfl, y1, y2⟩ := y
    obtain ⟨d1, d2, k1, k2, rfl⟩ := zipD_get hd
    obtain ⟨w1, e1, s1⟩ := r.get k1
    obtain ⟨w2, e2, s2⟩ := r2.get k2
    have q1 := y1 us (.inl h1)
    have q2 := y2 ws (.inl h2)
    rw [e1] at q1
    rw [e2] at q2
    cases q1
    cases q2
    exact pair_new hx n s1 s2
theorem walk_zipT {elts : List Expr} {kk : Nat} {tpos : Pos} {p q : Addr} {xs ys : List D} : WalkOk X.K S (.Tuple elts kk tpos) (RZ.ItzT X.K p q) (zipD xs ys) (fun Mu H => BRep S Mu H (.ref p) (.tuple xs) ∧ BRep S Mu H (.ref q) (.tuple ys)) where
  go := fun Mu H i c hi => by
    obtain ⟨a, us, e, h1, r⟩ := c.1.tup
    obtain ⟨b, ws, e2, h2, r2⟩ := c.2.tup
    cases e
    cases e2
    unfold zipD at hi
    rw [List.length_zipWith] at hi
    have l1 : i < us.length := by rw [r.length]; omega
    have l2 : i < ws.length := by rw [r2.length]; omega
    exact ⟨us, ws, us[i], ws[i], h1, h2, List.getElem?_eq_getElem l1, List.getElem?_eq_getElem l2⟩
  stop := fun Mu H c => by
    obtain ⟨a, us, e, h1, r⟩ := c.1.tup
    obtain ⟨b, ws, e2, h2, r2⟩ := c.2.tup
    cases e
    cases e2
    refine ⟨us, ws, h1, h2, ?_⟩
    unfold zipD
    rw [List.length_zipWith, r.length, r2.length]
    omega
  yld := fun Mu H h i x H' d c hx nf y hd => by
    obtain ⟨a, us, e, h1, r⟩ := c.1.tup
    obtain ⟨b, ws, e2, h2, r2⟩ := c.2.tup
    cases e
    cases e2
    obtain ⟨T, x1, x2, rfl, n, rfl, y1, y2⟩ := y
    obtain ⟨d1, d2, k1, k2, rfl⟩ := zipD_get hd
    obtain ⟨w1, e1, s1⟩ := r.get k1
    obtain ⟨w2, e2, s2⟩ := r2.get k2
    have q1 := y1 us h1
    have q2 := y2 ws h2
    rw [e1] at q1
    rw [e2] at q2
    cases q1
    cases q2
    exact pair_new hx n s1 s2
theorem Held.mid {Mu : Addr → Prop} {env : Env} {h : List D} {σ : L2.St} {H H1 : Hp} {v : V} {d : D} (x : Held X S Mu vs env σ H v d) (p : Pres S H H1) (hx : HandAt S Mu H h) : Held X S Mu vs env σ H1 v d := x.imp (fun r => r.pres p hx) fun z => z
theorem si_zip {p pos tpos : Pos} {elts : List Expr} {kk : Nat} (hg : Gl X "zip") (hm : X.mg "zip" = none) (ha : SV X S XA E a vs ma) (hb : SV X S XA E b vs mb) (hs : starEach [a, b] X.env = (false, eval a X.env) :: starEach [b] X.env) (hpl : (backTo pos (starEach [b] X.env)).any (·.1) = false)
    (hs2 : starEach [b] X.env = (false, eval b X.env) :: starEach [] X.env) : SI X S XA E (.Tuple elts kk tpos) (.Call (.Name "zip" p) [a, b] [] pos) vs (fun env => bnd (ma env) fun x => bnd (mb env) fun y => zipV x y) := by
  obtain ⟨t, pt, q⟩ := ha
  obtain ⟨t2, pt2, q2⟩ := hb
  refine ⟨_, RZ.pi_zipA hg hm (pa_cons (pe_lim pt) (pa_cons (pe_lim pt2) pa_nil hs2) hs) hs hpl, fun Mu env h σ H R e g => ?_⟩
  refine q Mu env h σ H _ e (g.bnd.mono fun d h1 H1 p1 x1 g1 v rv hv _ => ?_)
  refine q2 Mu env h1 σ H1 _ (e.pres p1 x1) (g1.bnd.mono fun d2 h2 H2 p2 x2 g2 w rw' hw lm => ?_)
  have rv2 := rv.pres p2 x1
  have hv2 := hv.mid p2 x1
  cases d with
  | list xs =>
    cases d2 with
    | list ys =>
      obtain ⟨a1, us, rfl, k1, r1⟩ := rv2.lst
      obtain ⟨b1, ws, rfl, k2, r2⟩ := rw'.lst
      exact ⟨a1, b1, us, ws, rfl, .inl ⟨.inl k1, .inl k2, g2.ret (a := zipD xs ys) x2 _ _ walk_zip (by unfold zipD; rw [List.length_zipWith, ← r1.length]; exact Nat.le_trans (Nat.min_le_left _ _) (lm.1 _ _ (.inl k1))) ⟨rv2, rw'⟩ fun Mu2 env2 h3 σ2 H3 e2 s f => ⟨hv2.later e2 s f, hw.later e2 s f⟩⟩⟩
    | _ => exact g2.fail.elim
  | tuple xs =>
    cases d2 with
    | tuple ys =>
      obtain ⟨a1, us, rfl, k1, r1⟩ := rv2.tup
      obtain ⟨b1, ws, rfl, k2, r2⟩ := rw'.tup
      exact ⟨a1, b1, us, ws, rfl, .inr ⟨k1, k2, g2.ret (a := zipD xs ys) x2 _ _ walk_zipT (by unfold zipD; rw [List.length_zipWith, ← r1.length]; exact Nat.le_trans (Nat.min_le_left _ _) (lm.2 _ _ k1.sq)) ⟨rv2, rw'⟩ fun Mu2 env2 h3 σ2 H3 e2 s f => ⟨hv2.later e2 s f, hw.later e2 s f⟩⟩⟩
    | _ => exact g2.fail.elim
  | _ => exact g2.fail.elim
theorem enumFrom_get : ∀ {xs : List D} {k : Int} {i : Nat} {d : D}, (enumFrom k xs)[i]? = some d → ∃ x, xs[i]? = some x ∧ d = .tuple [.int (k + i), x]
  | [], k, i, d, h => by simp [enumFrom] at h
  | x :: xs, k, 0, d, h => by
    simp only [enumFrom, List.getElem?_cons_zero, Option.some.injEq] at h
    exact ⟨x, rfl, by rw [← h]; simp⟩
  | x :: xs, k, i + 1, d, h => by
    simp only [enumFrom, List.getElem?_cons_succ] at h
    obtain ⟨y, h1, h2⟩ := enumFrom_get h
    refine ⟨y, by simpa using h1, ?_⟩
    rw [h2]
    have : k + 1 + (i : Int) = k + ((i + 1 : Nat) : Int) := by omega
    rw [this]
theorem enumFrom_len : ∀ (xs : List D) (k : Int), (enumFrom k xs).length = xs.length
  | [], k => rfl
  | x :: xs, k => by simp [enumFrom, enumFrom_len xs]
theorem walk_enum {elts : List Expr} {kk : Nat} {tpos : Pos} {p : Addr} {xs : List D} : WalkOk X.K S (.Tuple elts kk tpos) (Ite X.K p) (enumFrom 0 xs) (fun Mu H => BRep S Mu H (.ref p) (.list xs)) where
  go := fun Mu H i c hi => by
    obtain ⟨a, us, e, h1, r⟩ := c.lst
    cases e
    rw [enumFrom_len] at hi
    have hi' : i < us.length := by rw [r.length]; exact hi
    exact ⟨us, us[i], .inl h1, List.getElem?_eq_getElem hi'⟩
  stop := fun Mu H c => by
    obtain ⟨a, us, e, h1, r⟩ := c.lst
    cases e
    exact ⟨us, .inl h1, by rw [enumFrom_len, r.length]; exact Nat.le_refl _⟩
  yld := fun Mu H h i x H' d c hx nf y hd => by
    obtain ⟨a, us, e, h1, r⟩ := c.lst
    cases e
    obtain ⟨T, x1, rfl, n, rfl, y1⟩ := y
    obtain ⟨d1, k1, rfl⟩ := enumFrom_get hd
    obtain ⟨w1, e1, s1⟩ := r.get k1
    have q1 := y1 us (.inl h1)
    rw [e1] at q1
    cases q1
    rw [Int.zero_add]
    exact pair_new hx n (.int _) s1
theorem walk_enumT {elts : List Expr} {kk : Nat} {tpos : Pos} {p : Addr} {xs : List D} : WalkOk X.K S (.Tuple elts kk tpos) (IteT X.K p) (enumFrom 0 xs) (fun Mu H => BRep S Mu H (.ref p) (.tuple xs)) where
  go := fun Mu H i c hi => by
    obtain ⟨a, us, e, h1, r⟩ := c.tup
    cases e
    rw [enumFrom_len] at hi
    have hi' : i < us.length := by rw [r.length]; exact hi
    exact ⟨us, us[i], h1, List.getElem?_eq_getElem hi'⟩
  stop := fun Mu H c => by
    obtain ⟨a, us, e, h1, r⟩ := c.tup
    cases e
    exact ⟨us, h1, by rw [enumFrom_len, r.length]; exact Nat.le_refl _⟩
  yld := fun Mu H h i x H' d c hx nf y hd => by
    obtain ⟨a, us, e, h1, r⟩ := c.tup
    cases e
    obtain ⟨T, x1, rfl, n, rfl, y1⟩ := y
    obtain ⟨d1, k1, rfl⟩ := enumFrom_get hd
    obtain ⟨w1, e1, s1⟩ := r.get k1
    have q1 := y1 us h1
    rw [e1] at q1
    cases q1
    rw [Int.zero_add]
    exact pair_new hx n (.int _) s1
theorem si_enum {p pos tpos : Pos} {elts : List Expr} {kk : Nat} (hg : Gl X "enumerate") (hm : X.mg "enumerate" = none) (ha : SV X S XA E a vs ma) (hs : starEach [a] X.env = [(false, eval a X.env)]) : SI X S XA E (.Tuple elts kk tpos) (.Call (.Name "enumerate" p) [a] [] pos) vs (fun env => bnd (ma env) enumV) := by
  obtain ⟨t, pt, q⟩ := ha
  refine ⟨_, pi_enumA hg hm (pa_cons (pe_lim pt) pa_nil (by rw [hs]; rfl)) hs, fun Mu env h σ H R e g => ?_⟩
  refine q Mu env h σ H _ e (g.bnd.mono fun d h1 H1 p1 x1 g1 v rv hv lm => ?_)
  cases d with
  | list xs =>
    obtain ⟨a1, us, rfl, k1, r1⟩ := rv.lst
    exact ⟨a1, us, rfl, .inl ⟨.inl k1, g1.ret (a := enumFrom 0 xs) x1 _ _ walk_enum (by rw [enumFrom_len, ← r1.length]; exact lm.1 _ _ (.inl k1)) rv fun Mu2 env2 h3 σ2 H3 e2 s f => hv.later e2 s f⟩⟩
  | tuple xs =>
    obtain ⟨a1, us, rfl, k1, r1⟩ := rv.tup
    exact ⟨a1, us, rfl, .inr ⟨k1, g1.ret (a := enumFrom 0 xs) x1 _ _ walk_enumT (by rw [enumFrom_len, ← r1.length]; exact lm.2 _ _ k1.sq) rv fun Mu2 env2 h3 σ2 H3 e2 s f => hv.later e2 s f⟩⟩
  | _ => exact g1.fail.elim
end
end Ev
set_option Elab.async false
set_option linter.all false
set_option maxRecDepth 100000
set_option maxHeartbeats 1000000
/-! Loops. -/
namespace Ev
open PySem PySem.Spec PyProof.Rows L2

section
variable {X : Cx} {S : Stg X.K} {XA : XAT} {E : XK} {a b c : Expr} {pos : Pos} {W : List Nat} {vs : List Nat} {tg : Expr}
def forM (f : D → Env → M Env) (mb : Env → M Flow) (env : Env) (car tmp : List Nat) : List Slot → D → M Step := fun s d => bnd (f d (wipes (puts env car s) tmp)) fun env1 => bnd (mb env1) (stepOf car)
theorem ss_for {f : D → Env → M Env} {mi : Env → M (List D)} {mb : Env → M Flow} {car tmp ns Wb : List Nat} {it : Expr} {body : List Stmt} (hp : PassesOwn (model X.prog X.w) X.A X.env X.xe) (hc : X.calm = true) (hi : SI X S XA E tg it vs mi) (hg : SG X tg ns f) (hb : SSs X S XA E body Wb mb)
    (hfr : ∀ env, Frm Wb env (mb env)) (hff : ∀ d env h env' h', f d env h = .ok env' h' → SameOff ns env env') (le1 : ∀ i ∈ Wb, i ∈ car ++ tmp) (le2 : ∀ i ∈ ns, i ∈ car ++ tmp) (dv : ∀ j ∈ vs, j ∉ car ++ tmp) (hs : ∀ x, foldedSetIterable it X.env x = pure x) :
    SS X S XA E (.For tg it body [] pos) (car ++ tmp) (fun env => bnd (mi env) fun xs => bnd (forL (forM f mb env car tmp) xs (gets env car)) (endOf env car tmp)) := by
  obtain ⟨wi, pi, qi⟩ := hi
  obtain ⟨g, pg, bg, qg⟩ := hg
  obtain ⟨tb, pb, qb⟩ := hb
  refine ⟨_, ps_for hp hc pi pg pb hs, fun Mu0 H0 Mu env h σ H Q at' gg => ?_⟩
  refine qi Mu env h σ H _ at'.es (Good.mono (gg.bnd at') fun ds h1 H1 p1 x1 g1 J C wk _ ck later => ?_)
  obtain ⟨a1, g2⟩ := g1
  -- the invariant
  refine ⟨fun i m σ' H' => m = ds.length - i ∧ i ≤ ds.length ∧ ∃ Mu' h' s, At S Mu0 H0 Mu' (wipes (puts env car s) tmp) h' σ' H' ∧ Stp (car ++ tmp) Mu σ H1 Mu' σ' H' ∧
    GoodS S Mu0 H0 XA E (car ++ tmp) Mu σ H1 (bnd (forL (forM f mb env car tmp) (ds.drop i) s) (endOf env car tmp) h') Q.nx Q.rt, ⟨ds.length, rfl, Nat.zero_le _, Mu, h1, gets env car, ?_, Stp.refl, g2⟩, ?_⟩
  · exact a1.weak cenv_len fun j => back_env rfl (fun _ _ => rfl) j
  rintro i m σ2 H2 ⟨rfl, hi, Mu2, h2, s, a2, st2, g3⟩
  have c2 : C Mu2 H2 := later Mu2 _ h2 σ2 H2 a2.es st2.stay fun j hj => ⟨cenv_off (dv j hj), st2.fr j (dv j hj)⟩
  by_cases hlt : i < ds.length
  · refine .inr ⟨wk.go Mu2 H2 i c2 hlt, fun σ' H' => ∃ m', m' < ds.length - i ∧ (m' = ds.length - (i + 1) ∧ i + 1 ≤ ds.length ∧ ∃ Mu' h' s, At S Mu0 H0 Mu' (wipes (puts env car s) tmp) h' σ' H' ∧ Stp (car ++ tmp) Mu σ H1 Mu' σ' H' ∧
      GoodS S Mu0 H0 XA E (car ++ tmp) Mu σ H1 (bnd (forL (forM f mb env car tmp) (ds.drop (i + 1)) s) (endOf env car tmp) h') Q.nx Q.rt), fun σ' H' hn => hn, fun x H3 hy => ?_⟩
    have hd : ds[i]? = some ds[i] := List.getElem?_eq_getElem hlt
    obtain ⟨p3, x3, r3⟩ := wk.yld Mu2 H2 h2 i x H3 ds[i] c2 a2.es.hand a2.es.nf hy hd
    have a3 := a2.presE p3 x3
    have st3 : Stp (car ++ tmp) Mu σ H1 Mu2 σ2 H3 := st2.trans (Stp.of_pres p3 a2.es.hand)
    rw [List.drop_eq_getElem_cons hlt] at g3
    have e1 : forL (forM f mb env car tmp) (ds[i] :: ds.drop (i + 1)) s = bnd (forM f mb env car tmp s ds[i]) (fun
      | .go s' => forL (forM f mb env car tmp) (ds.drop (i + 1)) s'
      | .out d => ret (.out d)) := rfl
    rw [e1] at g3
    rw [bnd_assoc] at g3
    unfold forM at g3
    rw [bnd_assoc] at g3
    rcases bg ds[i] (wipes (puts env car s) tmp) h2 with ⟨env1, q1⟩ | q1
    · rw [bnd_ok q1] at g3
      rw [bnd_assoc] at g3
      have so := hff _ _ _ _ _ q1
      refine qg Mu2 H3 x ds[i] _ env1 σ2 h2 _ (fun env2 σ3 => At S Mu0 H0 Mu2 env2 h2 σ3 H3 ∧ ∀ j, j ∉ car ++ tmp → σ3[j]? = σ2[j]?) (fun env2 σ3 i v2 d2 j2 rr hi => ⟨j2.1.putV rr i, fr_set j2.2 (le2 i hi)⟩) r3 ⟨a3, fun _ _ => rfl⟩ q1 fun σ3 j3 => ?_
      have st4 : Stp (car ++ tmp) Mu σ H1 Mu2 σ3 H3 := st3.trans ⟨fun _ _ e _ _ => e, fun _ e => e, fun _ _ n => n, j3.2⟩
      refine qb Mu0 H0 Mu2 env1 h2 σ3 H3 _ j3.1 ?_
      refine GoodS.seqE (W2 := car ++ tmp) (g3.step st4) (fun d => ?_) le1 (fun _ z => z) fun env2 h4 q2 Mu4 σ4 H4 a4 st5 g5 => ?_
      · show bnd (ret (Step.out d)) _ = _
        rw [bnd_ret]
        show bnd (ret (Step.out d)) _ = _
        rw [bnd_ret]
        rfl
      · have so2 := hfr env1 h2 env2 h4 q2
        have st6 : Stp (car ++ tmp) Mu σ H1 Mu4 σ4 H4 := st4.trans (st5.more le1)
        have ln : env2.length = env.length := so2.1.trans (so.1.trans cenv_len)
        have off : ∀ j, j ∉ car ++ tmp → nth env2 j = nth env j := fun j n => (so2.2 j fun z => n (le1 j z)).trans ((so.2 j fun z => n (le2 j z)).trans (cenv_off n))
        refine ⟨ds.length - (i + 1), by omega, rfl, by omega, Mu4, h4, gets env2 car, a4.weak (cenv_len.trans ln.symm) (back_env ln off), st6, ?_⟩
        -- what is left to do
        cases hz : mb env1 h2 with
        | ok fl h5 =>
          rw [hz] at q2
          cases q2
          rw [bnd_ok hz] at g3
          have e2 : (fun (fl : Flow) => bnd (stepOf car fl) fun a => bnd ((fun
            | .go s' => forL (forM f mb env car tmp) (ds.drop (i + 1)) s'
            | .out d => ret (.out d) : Step → M Step) a) (endOf env car tmp)) (.next env2) = bnd (forL (forM f mb env car tmp) (ds.drop (i + 1)) (gets env2 car)) (endOf env car tmp) := by
            show bnd (ret (Step.go _)) _ = _
            rw [bnd_ret]
          have g6 : GoodS S Mu0 H0 XA E (car ++ tmp) Mu σ H1 ((fun (fl : Flow) => bnd (stepOf car fl) fun a => bnd ((fun
            | .go s' => forL (forM f mb env car tmp) (ds.drop (i + 1)) s'
            | .out d => ret (.out d) : Step → M Step) a) (endOf env car tmp)) (.next env2) h4) Q.nx Q.rt := g3
          rw [e2] at g6
          exact g6
        | exc e h5 => rw [hz] at q2; cases q2
        | bad => rw [hz] at q2; cases q2
    · rw [run_bnd, q1] at g3
      exact g3.elim
  · have e : i = ds.length := by omega
    subst e
    refine .inl ⟨wk.stop Mu2 H2 c2, ?_⟩
    rw [List.drop_length] at g3
    have g4 : GoodS S Mu0 H0 XA E (car ++ tmp) Mu σ H1 (bnd (ret (Step.go s)) (endOf env car tmp) h2) Q.nx Q.rt := g3
    rw [bnd_ret] at g4
    exact GoodS.next (show GoodS S Mu0 H0 XA E (car ++ tmp) Mu σ H1 (ret (.next (wipes (puts env car s) tmp)) h2) Q.nx Q.rt from g4) a2 st2
theorem ss_while {mt : Env → M Bool} {mb : Env → M Flow} {car tmp Wb : List Nat} {body : List Stmt} (hp : PassesOwn (model X.prog X.w) X.A X.env X.xe) (hc : ST X S XA E c mt) (hb : SSs X S XA E body Wb mb) (hfr : ∀ env, Frm Wb env (mb env)) (le1 : ∀ i ∈ Wb, i ∈ car ++ tmp) :
    SS X S XA E (.While c body [] pos) (car ++ tmp) (fun env => bnd (whileL (fun s => mt (wipes (puts env car s) tmp)) (fun s => bnd (mb (wipes (puts env car s) tmp)) (stepOf car)) fuelW (gets env car)) (endOf env car tmp)) := by
  obtain ⟨tc, pc, qc⟩ := hc
  obtain ⟨tb, pb, qb⟩ := hb
  refine ⟨_, ps_while hp pc pb, fun Mu0 H0 Mu env h σ H Q at' gg => ?_⟩
  refine ⟨fun m σ' H' => ∃ Mu' h' s, At S Mu0 H0 Mu' (wipes (puts env car s) tmp) h' σ' H' ∧
    GoodS S Mu0 H0 XA E (car ++ tmp) Mu' σ' H' (bnd (whileL (fun s => mt (wipes (puts env car s) tmp)) (fun s => bnd (mb (wipes (puts env car s) tmp)) (stepOf car)) m s) (endOf env car tmp) h') Q.nx Q.rt, ⟨fuelW, Mu, h, gets env car, ?_, gg⟩, ?_⟩
  · exact at'.weak cenv_len fun j => back_env rfl (fun _ _ => rfl) j
  rintro m σ2 H2 ⟨Mu2, h2, s, a2, g3⟩
  cases m with
  | zero =>
    have g4 : GoodS S Mu0 H0 XA E (car ++ tmp) Mu2 σ2 H2 (bnd fail (endOf env car tmp) h2) Q.nx Q.rt := g3
    rw [bnd_fail] at g4
    exact g4.fail.elim
  | succ m =>
    have g3 : GoodS S Mu0 H0 XA E (car ++ tmp) Mu2 σ2 H2 (bnd (bnd (mt (wipes (puts env car s) tmp)) fun b => iteM b (bnd (bnd (mb (wipes (puts env car s) tmp)) (stepOf car)) fun
      | .go s' => whileL (fun s => mt (wipes (puts env car s) tmp)) (fun s => bnd (mb (wipes (puts env car s) tmp)) (stepOf car)) m s'
      | .out d => ret (.out d)) (ret (.go s))) (endOf env car tmp) h2) Q.nx Q.rt := g3
    rw [bnd_assoc] at g3
    refine qc Mu2 _ h2 σ2 H2 _ a2.es (Good.mono (g3.bnd a2) fun k h3 H3 p3 x3 g5 => ?_)
    obtain ⟨a3, g6⟩ := g5
    cases k with
    | false =>
      rw [if_neg Bool.false_ne_true]
      have g7 : GoodS S Mu0 H0 XA E (car ++ tmp) Mu2 σ2 H3 (bnd (ret (Step.go s)) (endOf env car tmp) h3) Q.nx Q.rt := g6
      rw [bnd_ret] at g7
      exact GoodS.next (show GoodS S Mu0 H0 XA E (car ++ tmp) Mu2 σ2 H3 (ret (.next (wipes (puts env car s) tmp)) h3) Q.nx Q.rt from g7) a3 Stp.refl
    | true =>
      rw [if_pos rfl]
      refine ⟨fun σ' H' => ∃ m', m' < m + 1 ∧ ∃ Mu' h' s, At S Mu0 H0 Mu' (wipes (puts env car s) tmp) h' σ' H' ∧
        GoodS S Mu0 H0 XA E (car ++ tmp) Mu' σ' H' (bnd (whileL (fun s => mt (wipes (puts env car s) tmp)) (fun s => bnd (mb (wipes (puts env car s) tmp)) (stepOf car)) m' s) (endOf env car tmp) h') Q.nx Q.rt, fun _ _ z => z, ?_⟩
      have g7 : GoodS S Mu0 H0 XA E (car ++ tmp) Mu2 σ2 H3 (bnd (bnd (bnd (mb (wipes (puts env car s) tmp)) (stepOf car)) fun
        | .go s' => whileL (fun s => mt (wipes (puts env car s) tmp)) (fun s => bnd (mb (wipes (puts env car s) tmp)) (stepOf car)) m s'
        | .out d => ret (.out d)) (endOf env car tmp) h3) Q.nx Q.rt := g6
      rw [bnd_assoc, bnd_assoc] at g7
      refine qb Mu0 H0 Mu2 _ h3 σ2 H3 _ a3 ?_
      refine GoodS.seqE (W2 := car ++ tmp) g7 (fun d => ?_) le1 (fun _ z => z) fun env2 h4 q2 Mu4 σ4 H4 a4 st5 g8 => ?_
      · show bnd (ret (Step.out d)) _ = _
        rw [bnd_ret]
        show bnd (ret (Step.out d)) _ = _
        rw [bnd_ret]
        rfl
      · have so2 := hfr _ h3 env2 h4 q2
        have ln : env2.length = env.length := so2.1.trans cenv_len
        have off : ∀ j, j ∉ car ++ tmp → nth env2 j = nth env j := fun j n => (so2.2 j fun z => n (le1 j z)).trans (cenv_off n)
        refine ⟨m, Nat.lt_succ_self m, Mu4, h4, gets env2 car, a4.weak (cenv_len.trans ln.symm) (back_env ln off), ?_⟩
        have e2 : (fun (fl : Flow) => bnd (stepOf car fl) fun a => bnd ((fun
          | .go s' => whileL (fun s => mt (wipes (puts env car s) tmp)) (fun s => bnd (mb (wipes (puts env car s) tmp)) (stepOf car)) m s'
          | .out d => ret (.out d) : Step → M Step) a) (endOf env car tmp)) (.next env2) = bnd (whileL (fun s => mt (wipes (puts env car s) tmp)) (fun s => bnd (mb (wipes (puts env car s) tmp)) (stepOf car)) m (gets env2 car)) (endOf env car tmp) := by
          show bnd (ret (Step.go _)) _ = _
          rw [bnd_ret]
        have g9 : GoodS S Mu0 H0 XA E (car ++ tmp) Mu4 σ4 H4 ((fun (fl : Flow) => bnd (stepOf car fl) fun a => bnd ((fun
          | .go s' => whileL (fun s => mt (wipes (puts env car s) tmp)) (fun s => bnd (mb (wipes (puts env car s) tmp)) (stepOf car)) m s'
          | .out d => ret (.out d) : Step → M Step) a) (endOf env car tmp)) (.next env2) h4) Q.nx Q.rt := g8
        rw [e2] at g9
        exact g9
end
end Ev
set_option Elab.async false
set_option linter.all false
set_option maxRecDepth 100000
set_option maxHeartbeats 1000000
/-! List comprehensions. -/
namespace Ev
open PySem PySem.Spec PyProof.Rows L2

def E0 : XK := fun _ _ _ => False
/-! ### the readings that every context shares -/
def tEm (K : PySem.W.Frag) (S : Stg K) (XA : XAT) (E : XK) (m : Env → M D) : TE := fun σ H Q => ∃ (Mu : Addr → Prop) (env : Env) (h : List D), ES S Mu env h σ H ∧ Good S Mu XA (m env h) H (fun d h' H' => ∀ v, Rep K Mu H' v d → Q v H') E
def tTm (K : PySem.W.Frag) (S : Stg K) (XA : XAT) (E : XK) (m : Env → M Bool) : TT := fun σ H Q => ∃ (Mu : Addr → Prop) (env : Env) (h : List D), ES S Mu env h σ H ∧ Good S Mu XA (m env h) H (fun d h' H' => Q d H') E
def tGm (K : PySem.W.Frag) (tg : Expr) (ns : List Nat) (f : D → Env → M Env) : TG := fun v σ H Q => ∃ (Mu : Addr → Prop) (d : D) (env env' : Env) (h : List D) (J : Env → L2.St → Prop), (∀ env σ i v d, J env σ → Rep K Mu H v d → i ∈ ns → J (put env i (.val d)) (σ.set i (some v))) ∧ IRep tg K Mu H v d ∧ J env σ ∧ f d env h = .ok env' h ∧ ∀ σ', J env' σ' → Q σ' H
section
variable {X : Cx} {S : Stg X.K} {XA : XAT} {E : XK} {a : Expr}
theorem SE.canon {m : Env → M D} (h : SE X S XA E a m) : PE X a (tEm X.K S XA E m) := by
  obtain ⟨t, p, q⟩ := h
  exact ⟨fun pins s σ H Q I ⟨Mu, env, hh, e, g⟩ => p.run pins s σ H Q I (q Mu env hh σ H Q e g)⟩
theorem ST.canon {m : Env → M Bool} (h : ST X S XA E a m) : PT X a (tTm X.K S XA E m) := by
  obtain ⟨t, p, q⟩ := h
  exact ⟨fun pins s σ H Q I ⟨Mu, env, hh, e, g⟩ => p.run pins s σ H Q I (q Mu env hh σ H Q e g)⟩
theorem SG.canon {ns : List Nat} {f : D → Env → M Env} (h : SG X a ns f) : PG X a (tGm X.K a ns f) := by
  obtain ⟨g, p, _, q⟩ := h
  exact ⟨fun pins s σ H v u Q I r ⟨Mu, d, env, env', hh, J, c1, c2, c3, c4, c5⟩ => p.run pins s σ H v u Q I r (q Mu H v d env env' σ hh Q J c1 c2 c3 c4 c5)⟩
end
/-- a clause's tests -/
def STs (X : Cx) (S : Stg X.K) (XA : XAT) (E : XK) (ifs : List Expr) (m : Env → M Bool) : Prop := ∃ t : TT, PTs X ifs t ∧ ∀ (Mu : Addr → Prop) env h σ H Q, ES S Mu env h σ H → Good S Mu XA (m env h) H (fun d h' H' => Q d H') E → t σ H Q
section
variable {X : Cx} {S : Stg X.K} {XA : XAT} {E : XK} {a : Expr} {ifs : List Expr}
theorem STs.canon {m : Env → M Bool} (h : STs X S XA E ifs m) : PTs X ifs (tTm X.K S XA E m) := by
  obtain ⟨t, p, q⟩ := h
  exact ⟨fun pins s σ H Q I ⟨Mu, env, hh, e, g⟩ => p.run pins s σ H Q I (q Mu env hh σ H Q e g)⟩
theorem sts_nil : STs X S XA E [] (fun _ => ret true) := ⟨_, pts_nil, fun Mu env h σ H Q e g => g.ret e.hand⟩
theorem sts_one {m : Env → M Bool} (h : ST X S XA E a m) : STs X S XA E [a] (fun env => bnd (m env) fun b => iteM b (ret true) (ret false)) := by
  obtain ⟨t, p, q⟩ := h
  refine ⟨_, pts_one p, fun Mu env h σ H Q e g => q Mu env h σ H Q e (g.bnd.mono fun b h1 H1 p1 x1 g1 => ?_)⟩
  cases b
  · exact Good.ret (a := false) g1 x1
  · exact Good.ret (a := true) g1 x1
end

/-! ### slots forgotten -/
theorem wipe_none {σ : L2.St} {i : Nat} : ∀ {vs : List Nat}, i ∈ vs → i < σ.length → (wipe σ vs)[i]? = some none
  | [], h, _ => by simp at h
  | v :: vs, h, hl => by
    show ((wipe σ vs).set v none)[i]? = _
    by_cases e : v = i
    · subst e
      rw [List.getElem?_set_self (by rw [wipe_length]; exact hl)]
    · rw [List.getElem?_set_ne e]
      rcases List.mem_cons.mp h with z | z
      · exact absurd z.symm e
      · exact wipe_none z hl
theorem st_ext {a b : L2.St} (h : ∀ i : Nat, a[i]? = b[i]?) : a = b := List.ext_getElem? h
theorem wipe_at {σ : L2.St} {vs : List Nat} (i : Nat) : (wipe σ vs)[i]? = if i ∈ vs ∧ i < σ.length then some none else σ[i]? := by
  by_cases h : i ∈ vs
  · by_cases hl : i < σ.length
    · rw [if_pos ⟨h, hl⟩, wipe_none h hl]
    · rw [if_neg (fun z => hl z.2), List.getElem?_eq_none (by rw [wipe_length]; omega), List.getElem?_eq_none (by omega)]
  · rw [if_neg (fun z => h z.1), wipe_out h]
theorem wipe_set {σ : L2.St} {vs : List Nat} {i : Nat} {v : Option V} (h : i ∈ vs) : wipe (σ.set i v) vs = wipe σ vs := by
  refine st_ext fun j => ?_
  rw [wipe_at, wipe_at, List.length_set]
  split
  · rfl
  · rename_i c
    by_cases e : i = j
    · subst e
      have : ¬ (i < σ.length) := fun z => c ⟨h, z⟩
      rw [List.getElem?_eq_none (by rw [List.length_set]; omega), List.getElem?_eq_none (by omega)]
    · rw [List.getElem?_set_ne e]
theorem wipe_wipe {σ : L2.St} {vs : List Nat} : wipe (wipe σ vs) vs = wipe σ vs := by
  refine st_ext fun j => ?_
  rw [wipe_at, wipe_length, wipe_at]
  split
  · rfl
  · rfl
theorem ES.wiped {K : PySem.W.Frag} {S : Stg K} {Mu : Addr → Prop} {env : Env} {h : List D} {σ : L2.St} {H : Hp} (e : ES S Mu env h σ H) (vs : List Nat) : ES S Mu (wipes env vs) h (wipe σ vs) H := by
  have key : ∀ j, nth (wipes env vs) j = .no ∨ (nth (wipes env vs) j = nth env j ∧ (wipe σ vs)[j]? = σ[j]?) := fun j => by
    by_cases hj : j ∈ vs
    · exact .inl (nth_wipes_mem _ _ _ hj)
    · exact .inr ⟨(SameOff.wipes vs env).2 j hj, wipe_out hj⟩
  refine ⟨by rw [(SameOff.wipes vs env).1, wipe_length]; exact e.len, fun j => ?_, fun i j a n oi oj => ?_, e.hand, e.dom, e.tabs⟩
  · rcases key j with z | ⟨z1, z2⟩
    · rw [z]; trivial
    · rw [z1, z2]; exact e.slot j
  · rcases key i with z | ⟨z1, z2⟩
    · rw [z] at oi; cases oi
    · rcases key j with y | ⟨y1, y2⟩
      · rw [y] at oj; cases oj
      · rw [z1] at oi
        rw [y1] at oj
        rw [z2, y2]
        exact e.dis i j a n oi oj
theorem ES.grow {K : PySem.W.Frag} {S : Stg K} {Mu : Addr → Prop} {env : Env} {h h1 : List D} {σ : L2.St} {H H1 : Hp} {p : Addr} (e : ES S Mu env h σ H) (pr : Pres S H H1) (n : Fr H p) (x : HandAt S (Add Mu p) H1 h1) (hp : ¬ Fr H1 p) : ES S (Add Mu p) env h1 σ H1 :=
  ⟨e.len, fun i => (e.slot i).stay (Stay.ofNew pr e.hand n) (fun a m => .inl m) fun a u m hn _ _ q w => pr.same a _ hn q w.nt, e.dis, x, fun a m => m.elim (fun m => pr.dom a (e.dom a m)) fun q => by rw [q]; exact hp, pr.tabs e.tabs⟩
/-- another object is written -/
theorem ES.writeXO {K : PySem.W.Frag} {S : Stg K} {Mu : Addr → Prop} {env : Env} {h : List D} {σ : L2.St} {H : Hp} {p : Addr} {u u' : HO} (e : ES S Mu env h σ H) (m : Mu p) (hn : S.hd ≠ some p) (q : H p = some u) (w : Wr u) (w' : Wr u') (fr : ∀ j, isOwn (nth env j) = true → σ[j]? ≠ some (some (.ref p))) : ES S Mu env h σ (upd H p u') :=
  ⟨e.len, fun j => (e.slot j).stay (Stay.writeO m q w) (fun a m => m) fun a us ma na oa ia qa _ => by
      rw [upd_ne (by rintro rfl; exact fr j ia oa)]
      exact qa, e.dis, e.hand.writeO m hn q w, fun a ma => Fr.upd w'.nt (e.dom a ma), tabs_writeO q w e.tabs⟩
theorem ES.writeX {K : PySem.W.Frag} {S : Stg K} {Mu : Addr → Prop} {env : Env} {h : List D} {σ : L2.St} {H : Hp} {p : Addr} {vs ws : List V} (e : ES S Mu env h σ H) (m : Mu p) (hn : S.hd ≠ some p) (q : H p = some (.lst vs)) (fr : ∀ j, isOwn (nth env j) = true → σ[j]? ≠ some (some (.ref p))) : ES S Mu env h σ (upd H p (.lst ws)) :=
  e.writeXO m hn q (.inl ⟨_, rfl⟩) (.inl ⟨_, rfl⟩) fr
theorem Stay.trans {Mu Mu1 Mu2 : Addr → Prop} {H H1 H2 : Hp} (a : Stay Mu Mu1 H H1) (b : Stay Mu1 Mu2 H1 H2) : Stay Mu Mu2 H H2 :=
  ⟨fun c o d n e => let z := a.lst c o d n e; b.lst c o d z.1 z.2, fun c xs e => b.tup c xs (a.tup c xs e), fun c o u e => let z := a.frz c o u e; let y := b.frz c o u z.2; ⟨fun n => y.1 (z.1 n), y.2⟩⟩
theorem Stay.refl {Mu : Addr → Prop} {H : Hp} : Stay Mu Mu H H := ⟨fun _ _ _ n e => ⟨n, e⟩, fun _ _ e => e, fun _ _ _ e => ⟨fun n => n, e⟩⟩

/-! ### [elt for tg in iter if ..] -/
def lcF (f : D → Env → M Env) (mf : Env → M Bool) (me : Env → M D) (env : Env) (vs : List Nat) : D → M (Option D) := fun d => bnd (f d (wipes env vs)) fun env1 => bnd (mf env1) fun b => iteM b (bnd (me env1) fun y => ret (some y)) (ret none)
theorem lcL_cons_inv {F : D → M (Option D)} {d : D} {ds : List D} {h h' : List D} {ys : List D} (e : lcL F (d :: ds) h = .ok ys h') : ∃ o h1 r, F d h = .ok o h1 ∧ lcL F ds h1 = .ok r h' ∧ ys = (match o with | some y => y :: r | none => r) := by
  obtain ⟨o, h1, q1, q2⟩ := bnd_inv (m := F d) e
  obtain ⟨r, h2, q3, q4⟩ := bnd_inv (m := lcL F ds) q2
  obtain ⟨z, rfl⟩ := ret_inv q4
  exact ⟨o, h1, r, q1, q3, z.symm⟩
section
variable {X : Cx} {S : Stg X.K} {XA : XAT} {E : XK} {elt tg iter : Expr} {ifs : List Expr} {scope : Scope} {own : List (Str × Nat)} {pos : Pos}
theorem sf_lcm {wi : TI} {vs ns ovs : List Nat} {f : D → Env → M Env} {mi : Env → M (List D)} {mf : Env → M Bool} {me : Env → M D} (hb : ∀ d env h, (∃ env', f d env h = .ok env' h) ∨ f d env h = .bad) (hns : ∀ i ∈ ns, i ∈ ovs)
    (qi : ∀ (Mu : Addr → Prop) env h σ H R, ES S Mu env h σ H → Good S Mu XA (mi env h) H (fun ds h' H' => ∀ J C, WalkOk X.K S tg J ds C → ds.length ≤ sizeLine → C Mu H' → (∀ Mu2 env2 h2 σ2 H2, ES S Mu2 env2 h2 σ2 H2 → Stay Mu Mu2 H' H2 → (∀ j ∈ vs, nth env2 j = nth env j ∧ σ2[j]? = σ[j]?) → C Mu2 H2) → R J H') E → wi σ H R) :
    SFm X S XA E (tLc wi (tGm X.K tg ns f) (tTm X.K S XA E0 mf) (tEm X.K S XA E0 me) ovs) (fun env => bnd (mi env) fun xs => bnd (calm (lcL (lcF f mf me env ovs) xs)) fun ys => ret (.list ys)) := by
  intro Mu env h σ H Q e g
  refine qi Mu env h σ H _ e (g.bnd.mono fun ds h1 H1 p1 x1 g1 J C wk hlen ck later => ?_)
  intro Dp hD
  have e1 : ES S Mu env h1 σ H1 := e.pres p1 x1
  have n0 : Fr H Dp := p1.free (.of hD)
  have hdn : S.hd ≠ some Dp := x1.hdn (.of hD)
  -- the whole run of the parts
  obtain ⟨all, hend, hrun, fin⟩ : ∃ all hend, lcL (lcF f mf me env ovs) ds h1 = .ok all hend ∧ ∀ H', Pres S H1 H' → HandAt S Mu H' hend → ∀ a, Fr H a → S.hd ≠ some a → HandAt S (Add Mu a) H' hend → OwnAt X.K (Add Mu a) H' a (.list all) → Q (.ref a) H' := by
    have g2 : Good S Mu XA (bnd (calm (lcL (lcF f mf me env ovs) ds)) (fun ys => ret (PyData.list ys)) h1) H1 _ E := g1
    rw [run_bnd, run_calm] at g2
    cases q : lcL (lcF f mf me env ovs) ds h1 with
    | ok all hend =>
      rw [q] at g2
      refine ⟨all, hend, rfl, ?_⟩
      have g3 : Good S Mu XA (ret (PyData.list all) hend) H1 _ E := g2
      rw [run_ret] at g3
      exact g3
    | exc x hx => rw [q] at g2; exact g2.elim
    | bad => rw [q] at g2; exact g2.elim
  have nowner : ∀ j, isOwn (nth env j) = true → σ[j]? ≠ some (some (.ref Dp)) := e.notnew n0
  refine ⟨fun i m Hc => m = ds.length - i ∧ i ≤ ds.length ∧ ∃ hc acc ys rest, ES S (Add Mu Dp) env hc σ Hc ∧ Stay Mu (Add Mu Dp) H1 Hc ∧ Pres S H1 Hc ∧ Hc Dp = some (.lst acc) ∧ RepL X.K (Add Mu Dp) Hc acc ys ∧ acc.length ≤ i ∧ lcL (lcF f mf me env ovs) (ds.drop i) hc = .ok rest hend ∧ all = ys ++ rest, ⟨ds.length, rfl, Nat.zero_le _, h1, [], [], all, ?_⟩, ?_⟩
  · refine ⟨e1.grow (Pres.new hD) (.of hD) (x1.grow hD) (notFr upd_same fun ps z => by cases z), Stay.ofNew (Pres.new hD) x1 (.of hD), Pres.new hD, upd_same, .nil, Nat.zero_le _, hrun, rfl⟩
  rintro i m Hc ⟨rfl, hi, hc, acc, ys, rest, e2, sy, pr, hDc, ra, hal, hr, hall⟩
  have cc : C (Add Mu Dp) Hc := later _ env hc σ Hc e2 sy fun j _ => ⟨rfl, rfl⟩
  by_cases hlt : i < ds.length
  · refine .inr ⟨wk.go _ Hc i cc hlt, fun H' => ∃ m', m' < ds.length - i ∧ (m' = ds.length - (i + 1) ∧ i + 1 ≤ ds.length ∧ ∃ hc acc ys rest, ES S (Add Mu Dp) env hc σ H' ∧ Stay Mu (Add Mu Dp) H1 H' ∧ Pres S H1 H' ∧ H' Dp = some (.lst acc) ∧ RepL X.K (Add Mu Dp) H' acc ys ∧ acc.length ≤ i + 1 ∧ lcL (lcF f mf me env ovs) (ds.drop (i + 1)) hc = .ok rest hend ∧ all = ys ++ rest), fun H' z => z, fun x H3 hy => ?_⟩
    have hd : ds[i]? = some ds[i] := List.getElem?_eq_getElem hlt
    obtain ⟨p3, x3, r3⟩ := wk.yld _ Hc hc i x H3 ds[i] cc e2.hand e2.nf hy hd
    rw [List.drop_eq_getElem_cons hlt] at hr
    obtain ⟨o, h5, r, hF, hr2, hrest⟩ := lcL_cons_inv hr
    -- the target
    obtain ⟨env1, h3, q1, q2⟩ := bnd_inv (m := f ds[i] (wipes env ovs)) hF
    obtain rfl : h3 = hc := by
      rcases hb ds[i] (wipes env ovs) hc with ⟨e', z⟩ | z
      · rw [z] at q1; cases q1; rfl
      · rw [z] at q1; cases q1
    obtain ⟨b, h4, q3, q4⟩ := bnd_inv (m := mf env1) q2
    have e3 : ES S (Add Mu Dp) env h3 σ H3 := e2.pres p3 x3
    refine ⟨Add Mu Dp, ds[i], wipes env ovs, env1, h3, fun env2 σ2 => ES S (Add Mu Dp) env2 h3 σ2 H3 ∧ wipe σ2 ovs = wipe σ ovs, fun env2 σ2 i v2 d2 j2 rr hi2 => ⟨j2.1.putV rr i, (wipe_set (hns i hi2)).trans j2.2⟩, r3, ⟨e3.wiped ovs, wipe_wipe⟩, q1, fun σ3 j3 => ⟨j3.2, ?_⟩⟩
    -- the tests
    refine ⟨Add Mu Dp, env1, h3, j3.1, ?_⟩
    rw [q3]
    intro H4 p4 x4
    have hD3 : H3 Dp = some (.lst acc) := p3.same Dp _ hdn hDc fun ps z => by cases z
    have hD4 : H4 Dp = some (.lst acc) := p4.same Dp _ hdn hD3 fun ps z => by cases z
    have e4 : ES S (Add Mu Dp) env h4 σ H4 := e3.pres p4 x4
    have ra4 : RepL X.K (Add Mu Dp) H4 acc ys := (ra.pres p3 e2.hand).pres p4 x3
    have sy4 : Stay Mu (Add Mu Dp) H1 H4 := (sy.trans (p3.stay e2.hand)).trans (p4.stay x3)
    cases b with
    | false =>
      dsimp only
      rw [if_neg Bool.false_ne_true]
      obtain ⟨z1, z2⟩ := ret_inv (a := (none : Option D)) (b := o) (h := h4) (h' := h5) q4
      subst z1
      subst z2
      exact ⟨ds.length - (i + 1), by omega, rfl, by omega, h4, acc, ys, r, e4, sy4, (pr.trans p3).trans p4, hD4, ra4, by omega, hr2, by rw [hall, hrest]⟩
    | true =>
      dsimp only
      rw [if_pos rfl]
      obtain ⟨y, h6, q5, q6⟩ := bnd_inv (m := me env1) (f := fun y => ret (some y)) q4
      obtain ⟨z1, z2⟩ := ret_inv q6
      subst z1
      subst z2
      refine ⟨Add Mu Dp, env1, h4, j3.1.pres p4 x4, ?_⟩
      rw [q5]
      intro H6 p6 x6 v rv
      have hD6 : H6 Dp = some (.lst acc) := p6.same Dp _ hdn hD4 fun ps z => by cases z
      have e6 : ES S (Add Mu Dp) env h6 σ H6 := e4.pres p6 x6
      refine ⟨acc, hD6, by omega, ds.length - (i + 1), by omega, rfl, by omega, h6, acc ++ [v], ys ++ [y], r, e6.writeX (.inr rfl) hdn hD6 nowner, (sy4.trans (p6.stay x4)).trans (Stay.write (.inr rfl) hD6), (((pr.trans p3).trans p4).trans p6).write (.inl (.of hD)) hD6, upd_same, ?_, ?_, hr2, ?_⟩
      · exact ((ra4.pres p6 x4).append (.cons rv .nil)).stay (Stay.write (.inr rfl) hD6)
      · rw [List.length_append, List.length_singleton]; omega
      · rw [hall, hrest, List.append_assoc]; rfl
  · have ei : i = ds.length := by omega
    subst ei
    rw [List.drop_length] at hr
    obtain ⟨z1, z2⟩ := ret_inv (a := ([] : List D)) (b := rest) (h := hc) (h' := hend) hr
    subst z1
    subst z2
    refine .inl ⟨wk.stop _ Hc cc, ?_⟩
    rw [List.append_nil] at hall
    subst hall
    exact fin Hc pr (e2.hand.fewer (fun a m => .inl m) fun a z => (x1.lst z).1) Dp n0 hdn e2.hand (.lst hDc ra)
end
end Ev
set_option Elab.async false
set_option linter.all false
set_option maxRecDepth 100000
set_option maxHeartbeats 1000000
/-! x.count(y) of a list or of a tuple. -/
namespace Ev
open PySem PySem.Spec PyProof.Rows L2
section
variable {X : Cx} {pins : List (Addr × Obj)} {σ : L2.St} {H : Hp} {s : Shared}
theorem TupN.is {a : Addr} {xs : List V} (I : Inv X pins σ H s) (h : TupN X.K H a xs) : ∃ o, s.heap.get? a = some o ∧ o.cls = .type "tuple" ∧ o.dict = none := by
  rcases h with ⟨o, h, hd⟩ | ⟨o, its, n, h1, h2, h3, _⟩
  · obtain ⟨e, _, _, _, ⟨o2, e2, hc, _⟩⟩ := (show ObjOk X.prog X.w H s.heap a (.frz o (.tup xs)) from I.hok a _ h)
    rw [e] at e2
    cases e2
    exact ⟨o, e, hc, hd⟩
  · exact ⟨o, I.kIn a o h1, h2, h3⟩
def tBMC (K : PySem.W.Frag) (r1 r2 : V → List V → Hp → VK → Prop) (to : TE) (t : TA) : TE := fun σ H Q => to σ H fun x H1 =>
  (L2.tyV K "list" x H1 ∧ t σ H1 fun xs H2 => r1 x xs H2 Q) ∨ ((∃ a xs, x = .ref a ∧ TupN K H1 a xs) ∧ t σ H1 fun xs H2 => r2 x xs H2 Q)
theorem pe_bmC {o e : Expr} {es : List Expr} {apos cpos : Pos} {to : TE} {t : TA} {r1 r2 : V → List V → Hp → VK → Prop} (hm1 : MtR X "list.count" r1) (hm2 : MtR X "tuple.count" r2) (ho : PE X o to) (ha : PA X (e :: es) t)
    (hbase : attributeBase o "count" X.env (eval o X.env) = eval o X.env)
    (hfew : ((backTo cpos (starEach (e :: es) X.env)).all (fun x => !x.1) && (backToKw cpos (keywordEach [] X.env)).all (fun x => x.1.isSome)
      && decide ((e :: es).length + ([] : List Keyword).length + (if ([] : List Keyword).isEmpty then 0 else 1) < 30)) = true)
    (hline : (apos.endLine == cpos.line) = true) (hs : starEach (e :: es) X.env = (false, eval e X.env) :: starEach es X.env) (hplain : (backTo cpos (starEach es X.env)).any (·.1) = false) :
    PE X (.Call (.Attribute o "count" apos) (e :: es) [] cpos) (tBMC X.K r1 r2 to t) := by
  refine ⟨fun pins s σ H Q I h => ?_⟩
  refine wpAny_Call_method_late hbase hfew hline rfl (thn (ho.run pins s σ H _ I h) fun v s1 ⟨x, H1, I1, rx, q1⟩ => ?_)
  rcases q1 with ⟨ty, q1⟩ | ⟨⟨a, xs, ex, ht⟩, q1⟩
  · obtain ⟨h1, h2⟩ := tyV_is I1 rx ty
    refine ⟨"list", "list.count", PySem.F.plainAttrs_list, PySem.F.slot_list_count, PySem.F.type_list_count, h1, h2, ?_⟩
    have hA := ha.run cpos pins s1 σ H1 _ I1 q1
    rw [hs] at hA ⊢
    refine Calls.callWith_builtin (by show (false || (backTo cpos (starEach es X.env)).any (·.1)) = false; rw [hplain]; rfl) (Calls.evalArgs_plain ?_)
    exact thn hA fun us s2 ⟨vs, H2, I2, r2, q2⟩ => hm1 pins s2 σ H2 x vs v us Q I2 rx r2 q2
  · subst ex
    obtain rfl : v = .ref a := rx
    obtain ⟨ob, h1, h2, h3⟩ := ht.is I1
    refine ⟨"tuple", "tuple.count", PySem.F.plainAttrs_tuple, PySem.F.slot_tuple_count, PySem.F.type_tuple_count, ⟨ob, h1, h2⟩, fun b eb => by cases eb; exact ⟨ob, h1, h3⟩, ?_⟩
    have hA := ha.run cpos pins s1 σ H1 _ I1 q1
    rw [hs] at hA ⊢
    refine Calls.callWith_builtin (by show (false || (backTo cpos (starEach es X.env)).any (·.1)) = false; rw [hplain]; rfl) (Calls.evalArgs_plain ?_)
    exact thn hA fun us s2 ⟨vs, H2, I2, r2, q2⟩ => hm2 pins s2 σ H2 (.ref a) vs (.ref a) us Q I2 rfl r2 q2
end
end Ev
set_option Elab.async false
set_option linter.all false
set_option maxRecDepth 100000
set_option maxHeartbeats 1000000
/-! Calls: built-in functions, methods, defs; raise; several names at once. -/
namespace Ev
open PySem PySem.Spec PyProof.Rows L2

section
variable {X : Cx} {S : Stg X.K} {XA : XAT} {E : XK} {a b c : Expr} {ma mb mc : Env → M D} {pos p : Pos} {x : Str} {f : Value} {F : D → M D} {id T : String}
/-! ### built-in functions -/
theorem sem_call1 {ta : TE} {r : List V → Hp → VK → Prop} (qr : ∀ (Mu : Addr → Prop) h H x a Q, HandAt S Mu H h → (∀ p, Fr H p → ¬ Mu p) → BRep S Mu H x a → Good S Mu XA (F a h) H (fun d h' H' => ∀ v, Rep X.K Mu H' v d → Q v H') E → r [x] H Q)
    (qa : ∀ (Mu : Addr → Prop) env h σ H Q, ES S Mu env h σ H → Good S Mu XA (ma env h) H (fun d h' H' => ∀ v, BRep S Mu H' v d → Q v H') E → ta σ H Q) : SEm X S XA E (tCB r (tCons ta tNil)) (fun env => bnd (ma env) F) := fun Mu env h σ H Q e g =>
  qa Mu env h σ H _ e (g.bnd.mono fun d h1 H1 p1 x1 g1 v rv => qr Mu h1 H1 v d Q x1 (p1.nf e.nf) rv g1)
theorem se_callB1 (hr : CR1 X S XA E (.builtin id) F) (hg : Gl X x) (hm : X.mg x = none) (hv : bootBuiltins x = some (.builtin id)) (ha : SB X S XA E a ma) (hn : x ≠ "__name__") (hdb : (x == ("__debug__" : Str)) = false)
    (he : starEach [a] X.env = (false, eval a X.env) :: starEach [] X.env) (hpl : (backTo pos (starEach [] X.env)).any (·.1) = false) : SE X S XA E (.Call (.Name x p) [a] [] pos) (fun env => bnd (ma env) F) := by
  obtain ⟨r, cr, qr⟩ := hr
  obtain ⟨ta, pa, qa⟩ := ha
  exact ⟨_, pe_callB cr hg hm hv (pa_cons pa pa_nil he) hn hdb he hpl, sem_call1 qr qa⟩
theorem se_callT1 (hr : CR1 X S XA E (.type T) F) (hg : Gl X x) (hm : X.mg x = none) (hv : bootBuiltins x = some (.type T)) (ha : SB X S XA E a ma) (hn : x ≠ "__name__") (hdb : (x == ("__debug__" : Str)) = false)
    (he : starEach [a] X.env = (false, eval a X.env) :: starEach [] X.env) (hpl : (backTo pos (starEach [] X.env)).any (·.1) = false) : SE X S XA E (.Call (.Name x p) [a] [] pos) (fun env => bnd (ma env) F) := by
  obtain ⟨r, cr, qr⟩ := hr
  obtain ⟨ta, pa, qa⟩ := ha
  exact ⟨_, pe_callTy cr hg hm hv (pa_cons pa pa_nil he) hn hdb he hpl, sem_call1 qr qa⟩
theorem sf_callB1 (hr : CF1 X S XA E (.builtin id) F) (hg : Gl X x) (hm : X.mg x = none) (hv : bootBuiltins x = some (.builtin id)) (ha : SB X S XA E a ma) (hn : x ≠ "__name__") (hdb : (x == ("__debug__" : Str)) = false)
    (he : starEach [a] X.env = (false, eval a X.env) :: starEach [] X.env) (hpl : (backTo pos (starEach [] X.env)).any (·.1) = false) : SF X S XA E (.Call (.Name x p) [a] [] pos) (fun env => bnd (ma env) F) := by
  obtain ⟨r, cr, qr⟩ := hr
  obtain ⟨ta, pa, qa⟩ := ha
  refine ⟨_, pe_callB cr hg hm hv (pa_cons pa pa_nil he) hn hdb he hpl, fun Mu env h σ H Q e g => ?_⟩
  exact qa Mu env h σ H _ e (g.bnd.mono fun d h1 H1 p1 x1 g1 v rv => qr Mu h1 H1 v d Q x1 (p1.nf e.nf) rv (g1.mono fun d h' H' _ _ k a ha hn => k a (p1.free ha) hn))
theorem sf_callT1 (hr : CF1 X S XA E (.type T) F) (hg : Gl X x) (hm : X.mg x = none) (hv : bootBuiltins x = some (.type T)) (ha : SB X S XA E a ma) (hn : x ≠ "__name__") (hdb : (x == ("__debug__" : Str)) = false)
    (he : starEach [a] X.env = (false, eval a X.env) :: starEach [] X.env) (hpl : (backTo pos (starEach [] X.env)).any (·.1) = false) : SF X S XA E (.Call (.Name x p) [a] [] pos) (fun env => bnd (ma env) F) := by
  obtain ⟨r, cr, qr⟩ := hr
  obtain ⟨ta, pa, qa⟩ := ha
  refine ⟨_, pe_callTy cr hg hm hv (pa_cons pa pa_nil he) hn hdb he hpl, fun Mu env h σ H Q e g => ?_⟩
  exact qa Mu env h σ H _ e (g.bnd.mono fun d h1 H1 p1 x1 g1 v rv => qr Mu h1 H1 v d Q x1 (p1.nf e.nf) rv (g1.mono fun d h' H' _ _ k a ha hn => k a (p1.free ha) hn))
def b2N : B2 → Str
  | .min => "min"
  | .max => "max"
def b2F : B2 → String
  | .min => "min"
  | .max => "max"
theorem se_b2 {k : B2} (hc : X.calm = true) (hg : Gl X (b2N k)) (hm : X.mg (b2N k) = none) (hv : bootBuiltins (b2N k) = some (.builtin (b2F k))) (ha : SE X S XA E a ma) (hb : SE X S XA E b mb)
    (he : starEach [a, b] X.env = (false, eval a X.env) :: starEach [b] X.env) (hpl : (backTo pos (starEach [b] X.env)).any (·.1) = false) (he2 : starEach [b] X.env = (false, eval b X.env) :: starEach [] X.env) :
    SE X S XA E (.Call (.Name (b2N k) p) [a, b] [] pos) (fun env => bnd (ma env) fun x => bnd (mb env) fun y => b2V k x y) := by
  obtain ⟨ta, pa, qa⟩ := ha
  obtain ⟨tb, pb, qb⟩ := hb
  cases k with
  | min =>
    refine ⟨_, pe_callB (call_min2 hc) hg hm hv (pa_cons pa (pa_cons pb pa_nil he2) he) (by decide) (by decide) he hpl, fun Mu env h σ H Q e g => ?_⟩
    refine qa Mu env h σ H _ e (g.bnd.mono fun d h1 H1 p1 x1 g1 v rv => ?_)
    refine qb Mu env h1 σ H1 _ (e.pres p1 x1) (g1.bnd.mono fun d2 h2 H2 p2 x2 g2 w rw' => ?_)
    cases d <;> first | exact (Good.fail (show Good S Mu XA (fail h2) H2 _ E from g2)).elim | skip
    cases d2 <;> first | exact (Good.fail (show Good S Mu XA (fail h2) H2 _ E from g2)).elim | skip
    rw [rv.int_inv, rw'.int_inv]
    exact ⟨_, _, rfl, Good.ret (a := PyData.int _) g2 x2 _ (.int _)⟩
  | max =>
    refine ⟨_, pe_callB (call_max2 hc) hg hm hv (pa_cons pa (pa_cons pb pa_nil he2) he) (by decide) (by decide) he hpl, fun Mu env h σ H Q e g => ?_⟩
    refine qa Mu env h σ H _ e (g.bnd.mono fun d h1 H1 p1 x1 g1 v rv => ?_)
    refine qb Mu env h1 σ H1 _ (e.pres p1 x1) (g1.bnd.mono fun d2 h2 H2 p2 x2 g2 w rw' => ?_)
    cases d <;> first | exact (Good.fail (show Good S Mu XA (fail h2) H2 _ E from g2)).elim | skip
    cases d2 <;> first | exact (Good.fail (show Good S Mu XA (fail h2) H2 _ E from g2)).elim | skip
    rw [rv.int_inv, rw'.int_inv]
    exact ⟨_, _, rfl, Good.ret (a := PyData.int _) g2 x2 _ (.int _)⟩
/-! isinstance -/
def tyN : Ty → String
  | .int => "int" | .bool => "bool" | .str => "str" | .tuple => "tuple" | .list => "list" | .dict => "dict"
def rIsa (X : Cx) (S : Stg X.K) : List V → Hp → VK → Prop := fun xs H Q => ∃ (Mu : Addr → Prop) (v : V) (d : D) (t : Ty), xs = [v, .ty (tyN t)] ∧ BRep S Mu H v d ∧ Q (.bl (tyV t d)) H
theorem cr_isa : CallR X (.builtin "isinstance") (rIsa X S) := by
  intro pins s σ H xs us Q I r h
  obtain ⟨Mu, v, d, t, rfl, rv, q⟩ := h
  obtain ⟨u1, u2, rfl, r1, r2⟩ := vals2 r
  cases r2
  obtain ⟨as, rd⟩ := reads_of I rv r1
  cases t
  · exact PySem.W.isinstance_int_data rd fun tk _ => ⟨.bl _, H, I.tok tk, rfl, q⟩
  · exact PySem.W.isinstance_bool_data rd fun tk _ => ⟨.bl _, H, I.tok tk, rfl, q⟩
  · exact PySem.W.isinstance_str_data rd fun tk _ => ⟨.bl _, H, I.tok tk, rfl, q⟩
  · exact PySem.W.isinstance_tuple_data rd fun tk _ => ⟨.bl _, H, I.tok tk, rfl, q⟩
  · exact PySem.W.isinstance_list_data rd fun tk _ => ⟨.bl _, H, I.tok tk, rfl, q⟩
  · exact PySem.W.isinstance_dict_data rd fun tk _ => ⟨.bl _, H, I.tok tk, rfl, q⟩
theorem se_isa {t : Ty} {y : Str} {p2 : Pos} (hg : Gl X "isinstance") (hm : X.mg "isinstance" = none) (hv : bootBuiltins "isinstance" = some (.builtin "isinstance")) (ha : SB X S XA E a ma) (hg2 : Gl X y) (hm2 : X.mg y = none) (hv2 : bootBuiltins y = some (.type (tyN t))) (hn2 : y ≠ "__name__") (hd2 : (y == ("__debug__" : Str)) = false)
    (he : starEach [a, .Name y p2] X.env = (false, eval a X.env) :: starEach [.Name y p2] X.env) (hpl : (backTo pos (starEach [.Name y p2] X.env)).any (·.1) = false) (he2 : starEach [.Name y p2] X.env = (false, eval (.Name y p2) X.env) :: starEach [] X.env) :
    SE X S XA E (.Call (.Name "isinstance" p) [a, .Name y p2] [] pos) (fun env => bnd (ma env) fun x => ret (.bool (tyV t x))) := by
  obtain ⟨ta, pa, qa⟩ := ha
  refine ⟨_, pe_callB (cr_isa (S := S)) hg hm hv (pa_cons pa (pa_cons (pe_bltn (v := .ty (tyN t)) hg2 hm2 hv2 rfl hn2 hd2) pa_nil he2) he) (by decide) (by decide) he hpl, fun Mu env h σ H Q e g => ?_⟩
  exact qa Mu env h σ H _ e (g.bnd.mono fun d h1 H1 p1 x1 g1 v rv => ⟨Mu, v, d, t, rfl, rv, g1.ret x1 _ (.bl _)⟩)

/-! ### methods of lists: count, index -/
def rCountD (X : Cx) (S : Stg X.K) : V → List V → Hp → VK → Prop := fun o xs H Q => ∃ (Mu : Addr → Prop) (p : Addr) (v : V) (ds : List D) (d : D), o = .ref p ∧ xs = [v] ∧ BRep S Mu H (.ref p) (.list ds) ∧ BRep S Mu H v d ∧ inOk ds d = true ∧ Q (.int ((ds.countP fun y => PyData.eqv y d : Nat) : Int)) H
theorem mt_countD (hu : X.A.units + 64 < cLine) : MtR X "list.count" (rCountD X S) := by
  intro pins s σ H x xs v us Q I rx rxs h
  obtain ⟨Mu, p, w, ds, d, rfl, rfl, ro, rw', ok, q⟩ := h
  obtain ⟨u, rfl, ru⟩ := vals1 rxs
  cases rx
  obtain ⟨a, vs, e, h1, rl⟩ := ro.lst
  cases e
  obtain ⟨its, rv, pl, hz⟩ := I.list (.inl h1)
  obtain ⟨as, hra⟩ := RepL.reads I _ _ its rl rv
  obtain ⟨bs, rd⟩ := reads_of I rw' ru
  obtain ⟨c1, c2, c3⟩ := inOk_parts ok
  exact PySem.SeqAt.count_list_data (vs := its.toArray) pl.isList (by simpa using hra) rd c1 c2 (by omega) ⟨.int _, H, I.tok _, ⟨_, rfl⟩, q⟩
def rCountT (X : Cx) (S : Stg X.K) : V → List V → Hp → VK → Prop := fun o xs H Q => ∃ (Mu : Addr → Prop) (p : Addr) (v : V) (ds : List D) (d : D), o = .ref p ∧ xs = [v] ∧ BRep S Mu H (.ref p) (.tuple ds) ∧ BRep S Mu H v d ∧ inOk ds d = true ∧ Q (.int ((ds.countP fun y => PyData.eqv y d : Nat) : Int)) H
theorem mt_countT (hu : X.A.units + 64 < cLine) : MtR X "tuple.count" (rCountT X S) := by
  intro pins s σ H x xs v us Q I rx rxs h
  obtain ⟨Mu, p, w, ds, d, rfl, rfl, ro, rw', ok, q⟩ := h
  obtain ⟨u, rfl, ru⟩ := vals1 rxs
  cases rx
  obtain ⟨a, vs, e, h1, rl⟩ := ro.tup
  cases e
  obtain ⟨its, rv, pl, hz⟩ := I.tuple h1.sq
  obtain ⟨as, hra⟩ := RepL.reads I _ _ its rl rv
  obtain ⟨bs, rd⟩ := reads_of I rw' ru
  obtain ⟨c1, c2, c3⟩ := inOk_parts ok
  exact PySem.SeqAt.count_tuple_data (vs := its.toArray) pl (by simpa using hra) rd c1 c2 (by omega) ⟨.int _, H, I.tok _, ⟨_, rfl⟩, q⟩
mutual
theorem Rep.dp {K : PySem.W.Frag} {Mu : Addr → Prop} {H : Hp} : ∀ {v : V} {d : D}, Rep K Mu H v d → d.plain = true → L2.Dp K H v d
  | _, _, .non, _ => .non
  | _, _, .bl b, _ => .bl b
  | _, _, .int i, _ => .int i
  | _, _, .str x, _ => .str x
  | _, _, .lst _ hs hr, h => .lst (.of hs) (RepL.dp hr (by rw [PyData.plain] at h; exact h))
  | _, _, .tup hs hr, h => .tup hs (RepL.dp hr (by rw [PyData.plain] at h; exact h))
  | _, _, .dk _ _ _ _, h => by rw [PyData.plain] at h; cases h
theorem RepL.dp {K : PySem.W.Frag} {Mu : Addr → Prop} {H : Hp} : ∀ {vs : List V} {ds : List D}, RepL K Mu H vs ds → PyData.plainAll ds = true → L2.DpAll K H vs ds
  | _, _, .nil, _ => .nil
  | _, _, .cons h r, q => .cons (Rep.dp h (by rw [PyData.plainAll, Bool.and_eq_true] at q; exact q.1)) (RepL.dp r (by rw [PyData.plainAll, Bool.and_eq_true] at q; exact q.2))
end
theorem BRep.dp {Mu : Addr → Prop} {H : Hp} {v : V} {d : D} (r : BRep S Mu H v d) (h : PySem.SeqAt.shaped d = true) : L2.Dp X.K H v d := by
  have hp : d.plain = true := PyData.plain_of_canLay0 d (PySem.SeqAt.canLay_of_shaped h)
  rcases r with r | ⟨a, rfl, n, o⟩
  · exact r.dp hp
  · cases o with
    | lst q r => exact .lst (.of q) (r.dp (by rw [PyData.plain] at hp; exact hp))
    | dic q k r => rw [PyData.plain] at hp; cases hp
theorem findIdx_place {ds : List D} {d : D} {j : Nat} (h : placeOf ds d = some j) : ∃ z, ds[j]? = some z ∧ PyData.eqv z d = true ∧ ∀ (m : Nat) (z' : D), m < j → ds[m]? = some z' → PyData.eqv z' d = false := by
  unfold placeOf at h
  rw [List.findIdx?_eq_some_iff_getElem] at h
  obtain ⟨hl, h1, h2⟩ := h
  refine ⟨ds[j], List.getElem?_eq_getElem hl, h1, fun m z' hm hz => ?_⟩
  have := h2 m hm
  have hml : m < ds.length := by omega
  rw [List.getElem?_eq_getElem hml] at hz
  cases hz
  simpa using this
def m1N : M1 → Str
  | .count => "count"
  | .index => "index"
  | .join => "join"
theorem se_m1 {k : M1} {apos cpos : Pos} (hu : X.A.units + 65 < cLine) (hk : k = .count ∨ k = .index) (ho : SB X S XA E a ma) (hb : SE X S XA E b mb) (hbase : attributeBase a (m1N k) X.env (eval a X.env) = eval a X.env)
    (hfew : ((backTo cpos (starEach [b] X.env)).all (fun x => !x.1) && (backToKw cpos (keywordEach [] X.env)).all (fun x => x.1.isSome)
      && decide ([b].length + ([] : List Keyword).length + (if ([] : List Keyword).isEmpty then 0 else 1) < 30)) = true)
    (hline : (apos.endLine == cpos.line) = true) (hs : starEach [b] X.env = (false, eval b X.env) :: starEach [] X.env) (hplain : (backTo cpos (starEach [] X.env)).any (·.1) = false) :
    SE X S XA E (.Call (.Attribute a (m1N k) apos) [b] [] cpos) (fun env => bnd (ma env) fun x => bnd (isM k x) fun _ => bnd (mb env) fun y => m1V k x y) := by
  obtain ⟨ta, pa, qa⟩ := ho
  obtain ⟨tb, pb, qb⟩ := hb
  have pre : k = .index → ∀ {Mu : Addr → Prop} {env : Env} {h : List D} {σ : L2.St} {H : Hp} {Q : VK} (e : ES S Mu env h σ H) {R : V → List V → Hp → VK → Prop} (hR : ∀ ds x2 v H2 h2 p, HandAt S Mu H2 h2 → BRep S Mu H2 (.ref p) (.list ds) → Rep X.K Mu H2 v x2 → Good S Mu XA (m1V k (.list ds) x2 h2) H2 (fun d h' H' => ∀ v, Rep X.K Mu H' v d → Q v H') E → R (.ref p) [v] H2 Q),
      Good S Mu XA (bnd (ma env) (fun x => bnd (isM k x) fun _ => bnd (mb env) fun y => m1V k x y) h) H (fun d h' H' => ∀ v, Rep X.K Mu H' v d → Q v H') E → tBM X.K "list" R ta (tCons tb tNil) σ H Q := by
    intro hki Mu env h σ H Q e R hR g
    subst hki
    refine qa Mu env h σ H _ e (g.bnd.mono fun d h1 H1 p1 x1 g1 v rv => ?_)
    cases d with
    | list ds =>
      have g2 : Good S Mu XA (bnd (ret ()) (fun _ => bnd (mb env) fun y => m1V .index (.list ds) y) h1) H1 _ E := g1
      rw [bnd_ret] at g2
      obtain ⟨p, vs, rfl, h1', r1⟩ := rv.lst
      refine ⟨.inl ⟨rfl, vs, .inl h1'⟩, ?_⟩
      refine qb Mu env h1 σ H1 _ (e.pres p1 x1) (g2.bnd.mono fun d2 h2 H2 p2 x2 g3 w rw' => ?_)
      exact hR ds d2 w H2 h2 p x2 (rv.pres p2 x1) rw' g3
    | _ => simp only [isM, isL, bnd_fail] at g1; exact g1.fail.elim
  rcases hk with rfl | rfl
  · refine ⟨_, pe_bmC (mt_countD (S := S) (by omega)) (mt_countT (S := S) (by omega)) pa (pa_cons pb pa_nil hs) hbase hfew hline hs hplain, fun Mu env h σ H Q e g => ?_⟩
    refine qa Mu env h σ H _ e (g.bnd.mono fun d h1 H1 p1 x1 g1 v rv => ?_)
    cases d with
    | list ds =>
      have g2 : Good S Mu XA (bnd (ret ()) (fun _ => bnd (mb env) fun y => m1V .count (.list ds) y) h1) H1 _ E := g1
      rw [bnd_ret] at g2
      obtain ⟨p, vs, rfl, h1', r1⟩ := rv.lst
      refine .inl ⟨.inl ⟨rfl, vs, .inl h1'⟩, ?_⟩
      refine qb Mu env h1 σ H1 _ (e.pres p1 x1) (g2.bnd.mono fun d2 h2 H2 p2 x2 g3 w rw' => ?_)
      obtain ⟨z, g4⟩ := Good.chk g3
      exact ⟨Mu, p, w, ds, d2, rfl, rfl, rv.pres p2 x1, .inl rw', z, g4.ret x2 _ (.int _)⟩
    | tuple ds =>
      have g2 : Good S Mu XA (bnd (ret ()) (fun _ => bnd (mb env) fun y => m1V .count (.tuple ds) y) h1) H1 _ E := g1
      rw [bnd_ret] at g2
      obtain ⟨p, vs, rfl, h1', r1⟩ := rv.tup
      refine .inr ⟨⟨_, _, rfl, h1'⟩, ?_⟩
      refine qb Mu env h1 σ H1 _ (e.pres p1 x1) (g2.bnd.mono fun d2 h2 H2 p2 x2 g3 w rw' => ?_)
      obtain ⟨z, g4⟩ := Good.chk g3
      exact ⟨Mu, p, w, ds, d2, rfl, rfl, rv.pres p2 x1, .inl rw', z, g4.ret x2 _ (.int _)⟩
    | _ => simp only [isM, isL, bnd_fail] at g1; exact g1.fail.elim
  · refine ⟨_, pe_bm PySem.F.plainAttrs_list PySem.F.slot_list_index PySem.F.type_list_index (mt_indexD hu) pa (pa_cons pb pa_nil hs) hbase hfew hline hs hplain, fun Mu env h σ H Q e g => pre rfl e (fun ds x2 v H2 h2 p hx ro rv g3 => ?_) g⟩
    dsimp only [m1V] at g3
    cases q : placeOf ds x2 with
    | none => rw [q] at g3; exact g3.fail.elim
    | some j =>
      rw [q] at g3
      obtain ⟨z, g4⟩ := Good.chk g3
      obtain ⟨y, h1, h2, h3⟩ := findIdx_place q
      rw [Bool.and_eq_true] at z
      exact ⟨p, v, x2, ds, j, y, rfl, rfl, ro.dp z.1, (BRep.dp (S := S) (.inl rv) z.2), z.1, z.2, h1, h2, h3, g4.ret hx _ (.int _)⟩
end
end Ev
set_option Elab.async false
set_option linter.all false
set_option maxRecDepth 100000
set_option maxHeartbeats 1000000
/-! Calls of defs, raise, more statements. -/
namespace Ev
open PySem PySem.Spec PyProof.Rows L2

section
variable {X : Cx} {S : Stg X.K} {XA : XAT} {E : XK} {a b c e : Expr} {es : List Expr} {ma mb mc : Env → M D} {pos p : Pos} {x : Str}
/-! ### list(range(..)), tuple(range(..)) -/
def SRg (X : Cx) (S : Stg X.K) (XA : XAT) (E : XK) (ex : Expr) (m : Env → M (List D)) : Prop := ∃ te, PRg X ex te ∧ ∀ (Mu : Addr → Prop) env h σ H Q, ES S Mu env h σ H → Good S Mu XA (m env h) H (fun ds h' H' => ∀ i j, RgOk i j → ds = rangeD i j → Q i j H') E → te σ H Q
theorem rg_len {i j : Int} {h : List D} {H : Hp} {Mu : Addr → Prop} {Q : Int → Int → Hp → Prop} (g : Good S Mu XA (rangeV i j 1 h) H (fun ds h' H' => ∀ i j, RgOk i j → ds = rangeD i j → Q i j H') E) (x : HandAt S Mu H h) : Q i j H := by
  obtain ⟨k1, k2, hb, k3⟩ := rangeV_parts g
  rcases k3 with ⟨_, g3⟩ | ⟨z, _⟩
  · exact g3.ret x i j ⟨k1.1, k1.2, k2.1, k2.2, by omega⟩ rfl
  · omega
theorem srg_1 (hg : Gl X "range") (hm : X.mg "range" = none) (ha : SE X S XA E a ma) (hs : starEach [a] X.env = (false, eval a X.env) :: starEach [] X.env) : SRg X S XA E (.Call (.Name "range" p) [a] [] pos) (fun env => bnd (ma env) fun y => bnd (asInt y) fun hi => rangeV 0 hi 1) := by
  obtain ⟨t, pt, q⟩ := ha
  refine ⟨_, prg_1 hg hm pt hs, fun Mu env h σ H Q e g => ?_⟩
  refine q Mu env h σ H _ e (g.bnd.mono fun d h1 H1 p1 x1 g1 v rv => ?_)
  obtain ⟨i, rfl, g2⟩ := asInt_good g1.bnd x1
  exact ⟨i, rv.int_inv, rg_len g2 x1⟩
theorem srg_2 (hg : Gl X "range") (hm : X.mg "range" = none) (ha : SE X S XA E a ma) (hb : SE X S XA E b mb) (hs : starEach [a, b] X.env = (false, eval a X.env) :: starEach [b] X.env) (hs2 : starEach [b] X.env = (false, eval b X.env) :: starEach [] X.env) (hpl : (backTo pos (starEach [b] X.env)).any (·.1) = false) :
    SRg X S XA E (.Call (.Name "range" p) [a, b] [] pos) (fun env => bnd (ma env) fun x => bnd (asInt x) fun lo => bnd (mb env) fun y => bnd (asInt y) fun hi => rangeV lo hi 1) := by
  obtain ⟨t, pt, q⟩ := ha
  obtain ⟨t2, pt2, q2⟩ := hb
  refine ⟨_, prg_2 hg hm pt pt2 hs hs2 hpl, fun Mu env h σ H Q e g => ?_⟩
  refine q Mu env h σ H _ e (g.bnd.mono fun d h1 H1 p1 x1 g1 v rv => ?_)
  obtain ⟨i, rfl, g2⟩ := asInt_good g1.bnd x1
  refine q2 Mu env h1 σ H1 _ (e.pres p1 x1) (g2.bnd.mono fun d2 h2 H2 p2 x2 g3 w rw' => ?_)
  obtain ⟨j, rfl, g4⟩ := asInt_good g3.bnd x2
  exact ⟨i, j, rv.int_inv, rw'.int_inv, rg_len g4 x2⟩
theorem rep_rg {K : PySem.W.Frag} {Mu : Addr → Prop} {H : Hp} (i j : Int) : RepL K Mu H (rgV i j) (rangeD i j) := by
  unfold rgV rangeD
  have : ∀ l : List Nat, RepL K Mu H (l.map fun n => V.int (i + (n : Nat))) (l.map fun n => PyData.int (i + (n : Nat))) := fun l => by
    induction l with
    | nil => exact .nil
    | cons x l ih => exact .cons (.int _) ih
  exact this _
theorem sf_listRg {mr : Env → M (List D)} (hc : X.calm = true) (hg : Gl X "list") (hm : X.mg "list" = none) (he : SRg X S XA E e mr) (na : starEach [e] X.env = (false, eval e X.env) :: starEach [] X.env) : SF X S XA E (.Call (.Name "list" p) [e] [] pos) (fun env => bnd (mr env) fun xs => ret (.list xs)) := by
  obtain ⟨t, pt, q⟩ := he
  refine ⟨_, pe_listRg hc hg hm pt na, fun Mu env h σ H Q e g => ?_⟩
  refine q Mu env h σ H _ e (g.bnd.mono fun ds h1 H1 p1 x1 g1 i j ok eds => ⟨ok, fun a ha => ?_⟩)
  subst eds
  exact (good_newl x1 ha (g1.mono fun d h' H' _ _ k a ha hn => k a (p1.free ha) hn) (rep_rg i j))
def tTupRgN (te : L2.St → Hp → (Int → Int → Hp → Prop) → Prop) : TE := fun σ H Q => te σ H fun a b H1 => RgOk a b ∧ NewT H1 (rgV a b) Q
theorem pe_tupRgN {te : L2.St → Hp → (Int → Int → Hp → Prop) → Prop} (hc : X.calm = true) (hg : Gl X "tuple") (hm : X.mg "tuple" = none) (he : PRg X e te) (na : starEach [e] X.env = (false, eval e X.env) :: starEach [] X.env) : PE X (.Call (.Name "tuple" p) [e] [] pos) (tTupRgN te) := by
  refine ⟨fun pins s σ H Q I h => ?_⟩
  refine Call_ (ld_blt I hg hm boot_tuple (PyProof.Rows.callWith_type1 (args_cons (thn (he pins s σ H _ I h) fun x s1 ⟨r, a, b, t, u, v, H1, ex, hr, I1, ok, q⟩ => args_nil ?_) na) na))
  subst ex
  obtain ⟨b1, b2, b3, b4, b5⟩ := ok
  refine call_tuple_range (n := (b - a).toNat) (I1.ok.hd hc) hr (small_one b1 b2 b3 b4) (rangeSize_nat a b) b5 fun h' tk acc hk hi => ?_
  have I2 : Inv X pins σ H1 { s1 with heap := h', toks := tk } := I1.kept hk
  have ea : acc = acc.toList.toArray := by simp
  have := newT (Q := Q) (t' := tk) I2 (vals_rg hi) (by rw [rgV_length, sizeLine_eq]; omega) q
  unfold tupO at this
  rw [← ea] at this
  exact this
theorem se_tupRg {mr : Env → M (List D)} (hc : X.calm = true) (hg : Gl X "tuple") (hm : X.mg "tuple" = none) (he : SRg X S XA E e mr) (na : starEach [e] X.env = (false, eval e X.env) :: starEach [] X.env) : SE X S XA E (.Call (.Name "tuple" p) [e] [] pos) (fun env => bnd (mr env) fun xs => ret (.tuple xs)) := by
  obtain ⟨t, pt, q⟩ := he
  refine ⟨_, pe_tupRgN hc hg hm pt na, fun Mu env h σ H Q e g => ?_⟩
  refine q Mu env h σ H _ e (g.bnd.mono fun ds h1 H1 p1 x1 g1 i j ok eds => ⟨ok, fun a o ha ho => ?_⟩)
  subst eds
  exact good_new x1 ha g1 (new_tup x1 ha ho (rep_rg i j))

/-! ### calls of defs -/
def ArgAt {K : PySem.W.Frag} (S : Stg K) (Mu : Addr → Prop) (H : Hp) (v : V) : Slot → Prop
  | .val d => Rep K Mu H v d
  | .hand => ∃ a, v = .ref a ∧ S.hd = some a
  | .raw d => RawAt K Mu H v d
  | _ => False
inductive ArgsAt {K : PySem.W.Frag} (S : Stg K) (Mu : Addr → Prop) (H : Hp) : List V → List Slot → Prop
  | nil : ArgsAt S Mu H [] []
  | cons {v : V} {vs : List V} {s : Slot} {ss : List Slot} : ArgAt S Mu H v s → ArgsAt S Mu H vs ss → ArgsAt S Mu H (v :: vs) (s :: ss)
theorem ArgAt.pres {K : PySem.W.Frag} {S : Stg K} {Mu : Addr → Prop} {H H1 : Hp} {h : List D} {v : V} {s : Slot} (r : ArgAt S Mu H v s) (p : Pres S H H1) (x : HandAt S Mu H h) : ArgAt S Mu H1 v s := by
  cases s with
  | val d => exact Rep.pres r p x
  | hand => exact r
  | raw d => exact RawAt.stay r (p.stay x)
  | _ => exact r.elim
theorem ArgsAt.length {K : PySem.W.Frag} {S : Stg K} {Mu : Addr → Prop} {H : Hp} {vs : List V} {ss : List Slot} (r : ArgsAt S Mu H vs ss) : vs.length = ss.length := by
  induction r with
  | nil => rfl
  | cons _ _ ih => rw [List.length_cons, List.length_cons, ih]
/-- a def's promise: what m makes of the slots -/
def spF (K : PySem.W.Frag) (XA : XAT) (np : Nat) (m : List Slot → M D) : Sp := fun vs H Q E => ∃ (S : Stg K) (Mu : Addr → Prop) (as : List Slot) (h : List D), vs.length = np ∧ ArgsAt S Mu H vs as ∧ HandAt S Mu H h ∧ (∀ a, Mu a → ¬ Fr H a) ∧ LamX.Tabs S.T H ∧
  Good S Mu XA (m as h) H (fun d h' H' => ∀ v, Rep K Mu H' v d → Q v H') E
def SAs (X : Cx) (S : Stg X.K) (XA : XAT) (E : XK) (es : List Expr) (m : Env → M (List Slot)) : Prop := ∃ t : TA, PA X es t ∧ ∀ (Mu : Addr → Prop) env h σ H Q, ES S Mu env h σ H → Good S Mu XA (m env h) H (fun as h' H' => ∀ vs, ArgsAt S Mu H' vs as → vs.length = es.length → Q vs H') E → t σ H Q
def SA (X : Cx) (S : Stg X.K) (XA : XAT) (E : XK) (ex : Expr) (m : Env → M Slot) : Prop := ∃ t : TE, PE X ex t ∧ ∀ (Mu : Addr → Prop) env h σ H Q, ES S Mu env h σ H → Good S Mu XA (m env h) H (fun s h' H' => ∀ v, ArgAt S Mu H' v s → Q v H') E → t σ H Q
theorem SE.sa (h : SE X S XA E a ma) : SA X S XA E a (fun env => bnd (ma env) fun d => ret (.val d)) := by
  obtain ⟨t, p, q⟩ := h
  exact ⟨t, p, fun Mu env h σ H Q e g => q Mu env h σ H Q e (g.bnd.mono fun d h1 H1 p1 x1 g1 v r => g1.ret (a := Slot.val d) x1 v r)⟩
def varA (env : Env) (i : Nat) : M Slot := match nth env i with
  | .hand => ret .hand
  | .val d => ret (.val d)
  | .raw d => ret (.raw d)
  | _ => fail
theorem sa_var {i : Nat} (hN : X.N[i]? = some x) (hv : Vis X.env.scope x) (hd : (x == ("__debug__" : Str)) = false) (hcd : (x == ("__classdict__" : Str)) = false) : SA X S XA E (.Name x pos) (fun env => varA env i) := by
  refine ⟨tVar i, pe_var hN hv hd hcd, fun Mu env h σ H Q e g => ?_⟩
  have hs := e.slot i
  dsimp only at g
  unfold varA at g
  cases q : nth env i with
  | val d =>
    rw [q] at hs g
    obtain ⟨v, e1, r⟩ := hs
    exact ⟨v, e1, g.ret (a := Slot.val d) e.hand v r⟩
  | hand =>
    rw [q] at hs g
    obtain ⟨p, e1, e2⟩ := hs
    exact ⟨.ref p, e1, g.ret (a := Slot.hand) e.hand _ ⟨p, rfl, e2⟩⟩
  | raw d =>
    rw [q] at hs g
    obtain ⟨v, e1, r⟩ := hs
    exact ⟨v, e1, g.ret (a := Slot.raw d) e.hand v r⟩
  | _ => rw [q] at g; exact g.fail.elim
theorem sas_nil : SAs X S XA E [] (fun _ => ret []) := ⟨_, pa_nil, fun Mu env h σ H Q e g => g.ret e.hand [] .nil rfl⟩
theorem sas_cons {m : Env → M Slot} {ms : Env → M (List Slot)} (ha : SA X S XA E a m) (hr : SAs X S XA E es ms) (hs : starEach (a :: es) X.env = (false, eval a X.env) :: starEach es X.env) :
    SAs X S XA E (a :: es) (fun env => bnd (m env) fun d => bnd (ms env) fun ds => ret (d :: ds)) := by
  obtain ⟨ta, pa, qa⟩ := ha
  obtain ⟨tr, pr, qr⟩ := hr
  refine ⟨_, pa_cons pa pr hs, fun Mu env h σ H Q e g => ?_⟩
  refine qa Mu env h σ H _ e (g.bnd.mono fun x h1 H1 p1 x1 g1 v rv => ?_)
  refine qr Mu env h1 σ H1 _ (e.pres p1 x1) (g1.bnd.mono fun ds h2 H2 p2 x2 g2 vs rvs hl => ?_)
  exact g2.ret x2 _ (.cons (rv.pres p2 x1) rvs) (by rw [List.length_cons, List.length_cons, hl])
theorem se_call {ms : Env → M (List Slot)} {m : List Slot → M D} {k : Nat} {f : Addr} {fd : FuncData} {ps : List Str} (F : FnOk X.prog X.w X.K X.mg X.base (L2.CX X.prog X.w) k f fd ps (spF X.K XA ps.length m)) (hr : Room k X.A) (hg : Gl X x) (hm : X.mg x = some (.ref f)) (hk : PySem.W.keepIn X.K (.ref f) = true) (hb : Binds X.K fd ps [])
    (hx : Passes (L2.CX X.prog X.w) X E) (ha : SAs X S XA E (e :: es) ms) (hl : (e :: es).length = ps.length) (hdb : (x == ("__debug__" : Str)) = false)
    (he : starEach (e :: es) X.env = (false, eval e X.env) :: starEach es X.env) (hpl : (backTo pos (starEach es X.env)).any (·.1) = false) :
    SE X S XA E (.Call (.Name x p) (e :: es) [] pos) (fun env => bnd (ms env) m) := by
  obtain ⟨ta, pa, qa⟩ := ha
  refine ⟨_, pe_call F hr hg hm hk hb .nil hx pa hdb he hpl, fun Mu env h σ H Q e g => ?_⟩
  refine qa Mu env h σ H _ e (g.bnd.mono fun as h1 H1 p1 x1 g1 vs rvs hlv => ?_)
  show spF X.K XA ps.length m (vs ++ []) H1 Q E
  rw [List.append_nil]
  have e1 := e.pres p1 x1
  exact ⟨S, Mu, as, h1, hlv.trans hl, rvs, x1, e1.dom, e1.tabs, g1⟩
theorem se_call0 {m : List Slot → M D} {k : Nat} {f : Addr} {fd : FuncData} {ps : List Str} (F : FnOk X.prog X.w X.K X.mg X.base (L2.CX X.prog X.w) k f fd ps (spF X.K XA ps.length m)) (hr : Room k X.A) (hg : Gl X x) (hm : X.mg x = some (.ref f)) (hk : PySem.W.keepIn X.K (.ref f) = true) (hb : Binds X.K fd ps [])
    (hx : Passes (L2.CX X.prog X.w) X E) (hl : 0 = ps.length) (hdb : (x == ("__debug__" : Str)) = false) :
    SE X S XA E (.Call (.Name x p) [] [] pos) (fun _ => m []) := by
  refine ⟨_, pe_call0 F hr hg hm hk hb .nil hx hdb, fun Mu env h σ H Q e g => ?_⟩
  show spF X.K XA ps.length m ([] ++ []) H Q E
  exact ⟨S, Mu, [], h, hl, .nil, e.hand, e.dom, e.tabs, g⟩

/-! ### raise -/
/-- X(), X an own exception class without own __init__ -/
theorem pmk_own0 {C : Addr} {bmB : List Value} {B newId initId : String} (F : ExcBaseFacts B newId initId bmB) (q : PySem.W.excIn X.K C bmB newId = true) (gC : X.mg x = some (.ref C))
    (kC : PySem.W.keepIn X.K (.ref C) = true) (r : Raises X (.ref C)) (hg : Gl X x) (hdb : (x == ("__debug__" : Str)) = false) :
    PMk X (.Call (.Name x p) [] [] pos) (fun σ H Q => Q (.ref C) none H) := by
  intro pins s σ H Q I h
  refine wpAny_Call_Name_kw (ld_glob I hg gC ?_ hdb)
  refine PySem.W.callWith_K0 I.kIn kC ?_
  show wpAny _ _ (call (.ref C) []) _ _ _
  obtain ⟨bm, N, nm, qn, bs, hdct, sn, sub, ab, col, dd, k0, k1, k2, k3, k5, mN, hC, hN, hni, T⟩ := exc_obj I.kIn q
  refine wpAny_call_exc_subT F T hC hN hni (fun h' e hm => ?_) (Nat.zero_le _)
  exact mk_of I hm r h (I.hok.gone hm.new)
/-- a raise: the exception's own values, whatever it is made of -/
theorem ss_raise0 {W : List Nat} {c : Nat} {C : Value} (hc : X.calm = true) (tk : Takes X (fun cls d _ H => E cls d H)) (he : PMk X e (fun σ H Q => Q C none H)) (hX : ∀ H, XA ⟨c, []⟩ C none H) :
    SS X S XA E (.Raise (some e) none pos) W (fun env => bnd (ret []) fun ds => thr ⟨c, ds⟩) := by
  refine ⟨_, ps_raise hc tk he, fun Mu0 H0 Mu env h σ H Q at' g => ?_⟩
  dsimp only at g
  rw [bnd_ret, run_thr] at g
  exact g _ _ H at'.pres (at'.hand0 at'.es.hand) (hX H)

/-! ### extend, pop -/
theorem ss_ext {i : Nat} {npos apos cpos : Pos} (hN : X.N[i]? = some x) (hv : Vis X.env.scope x) (hd : (x == ("__debug__" : Str)) = false) (hcd : (x == ("__classdict__" : Str)) = false) (ha : SF X S XA E a ma)
    (hbase : attributeBase (.Name x npos) "extend" X.env (eval (.Name x npos) X.env) = eval (.Name x npos) X.env)
    (hfew : ((backTo cpos (starEach [a] X.env)).all (fun x => !x.1) && (backToKw cpos (keywordEach [] X.env)).all (fun x => x.1.isSome)
      && decide ([a].length + ([] : List Keyword).length + (if ([] : List Keyword).isEmpty then 0 else 1) < 30)) = true)
    (hline : (apos.endLine == cpos.line) = true) (hs : starEach [a] X.env = (false, eval a X.env) :: starEach [] X.env) (hplain : (backTo cpos (starEach [] X.env)).any (·.1) = false)
    (hsw : swapsWith (.Call (.Attribute (.Name x npos) "extend" apos) [a] [] cpos) none pos.line X.env = pure false) :
    SS X S XA E (.Expr (.Call (.Attribute (.Name x npos) "extend" apos) [a] [] cpos) pos) [i] (fun env => bnd (ownB env i) fun _ => bnd (ma env) fun d => nextM (extSlot env i d)) := by
  obtain ⟨ta, pa, qa⟩ := ha
  refine ⟨_, ps_expr (pe_bm PySem.F.plainAttrs_list PySem.F.slot_list_extend PySem.F.type_list_extend mt_extend (pe_var hN hv hd hcd) (pa_cons pa pa_nil hs) hbase hfew hline hs hplain) hsw, fun Mu0 H0 Mu env h σ H Q at' g => ?_⟩
  dsimp only at g
  unfold ownB at g
  cases q : nth env i with
  | own c =>
    rw [q] at g
    cases c <;> first | (dsimp only at g; rw [bnd_fail] at g; exact g.fail.elim) | skip
    rename_i ds
    dsimp only at g
    rw [bnd_ret] at g
    obtain ⟨p, vs, e1, mp, hn, q1, r⟩ := own_inv at' q
    refine ⟨.ref p, e1, .inl ⟨rfl, _, .inl (.inl q1)⟩, ?_⟩
    refine qa Mu env h σ H _ at'.es (Good.mono (g.bnd at') fun d h1 H1 p1 x1 g1 b nb hnb xb ob => ?_)
    obtain ⟨a1, g2⟩ := g1
    obtain ⟨p', vs', e1', mp', hn', q1', r'⟩ := own_inv a1 q
    rw [e1] at e1'
    cases e1'
    unfold extSlot nextM at g2
    rw [q] at g2
    cases d <;> first | (dsimp only at g2; rw [bnd_fail] at g2; exact g2.fail.elim) | (cases ob; done) | skip
    rename_i zs
    obtain ⟨ws, qb, rb⟩ := ob.inl
    dsimp only at g2
    by_cases hl : ds.length + zs.length ≤ line
    · rw [decide_eq_true hl] at g2
      have g3 : GoodS S Mu0 H0 XA E [i] Mu σ H1 (bnd (ret (put env i (.own (.list (ds ++ zs))))) (fun env => ret (.next env)) h1) Q.nx Q.rt := g2
      rw [bnd_ret] at g3
      refine ⟨p, b, vs', ws, rfl, rfl, q1', qb, by rw [r'.length, rb.length, sizeLine_eq]; exact hl, ?_⟩
      exact g3.next (a1.write q e1 q1' mp hn (r'.append (rb.fewer fun _ z => .inl z))) (Stp.write mp q1')
    · rw [decide_eq_false hl] at g2
      have g3 : GoodS S Mu0 H0 XA E [i] Mu σ H1 (bnd fail (fun env => ret (.next env)) h1) Q.nx Q.rt := g2
      rw [bnd_fail] at g3
      exact g3.fail.elim
  | _ => rw [q] at g; dsimp only at g; rw [bnd_fail] at g; exact g.fail.elim
theorem ss_popL {i j : Nat} {st : Stmt} (p : PS X st (tAsg (tBM0 X.K "list" rPop (tVar i)) (gName j))) : SS X S XA E st [i, j] (fun env => nextM (popSlot env j i)) := by
  refine ⟨_, p, fun Mu0 H0 Mu env h σ H Q at' g => ?_⟩
  dsimp only at g
  unfold popSlot nextM at g
  cases q : nth env i with
  | own c =>
    rw [q] at g
    cases c <;> first | (dsimp only at g; rw [bnd_fail] at g; exact g.fail.elim) | skip
    rename_i ds
    obtain ⟨p, vs, e1, mp, hn, q1, r⟩ := own_inv at' q
    dsimp only at g
    cases hl : ds.getLast? with
    | none => rw [hl] at g; dsimp only at g; rw [bnd_fail] at g; exact g.fail.elim
    | some d =>
      rw [hl] at g
      dsimp only at g
      rw [bnd_ret] at g
      rw [List.getLast?_eq_getElem?] at hl
      obtain ⟨v, hv, rv⟩ := r.get hl
      refine ⟨.ref p, e1, .inl ⟨rfl, _, .inl (.inl q1)⟩, p, vs, v, rfl, rfl, q1, by rw [r.length]; exact hv, ?_⟩
      have a1 := at'.write q e1 q1 mp hn r.dropLast
      have st1 : Stp [i, j] Mu σ H Mu σ (upd H p (.lst vs.dropLast)) := Stp.write mp q1
      exact g.next (a1.putV (rv.stay (Stay.write mp q1)) j) (st1.trans (Stp.set (by simp)))
  | _ => rw [q] at g; dsimp only at g; rw [bnd_fail] at g; exact g.fail.elim
end
end Ev
set_option Elab.async false
set_option linter.all false
set_option maxRecDepth 100000
set_option maxHeartbeats 1000000
/-! Several names at once. -/
namespace Ev
open PySem PySem.Spec PyProof.Rows L2

inductive PRep {K : PySem.W.Frag} (S : Stg K) (Mu : Addr → Prop) (H : Hp) : List Bool → List V → List D → List Addr → Prop
  | nil : PRep S Mu H [] [] [] []
  | val {fl : List Bool} {v : V} {vs : List V} {d : D} {ds : List D} {ps : List Addr} : Rep K Mu H v d → PRep S Mu H fl vs ds ps → PRep S Mu H (false :: fl) (v :: vs) (d :: ds) ps
  | own {fl : List Bool} {a : Addr} {vs : List V} {d : D} {ds : List D} {ps : List Addr} : Mu a → S.hd ≠ some a → OwnAt K Mu H a d → PRep S Mu H fl vs ds ps → PRep S Mu H (true :: fl) (.ref a :: vs) (d :: ds) (a :: ps)
def SP (X : Cx) (S : Stg X.K) (XA : XAT) (E : XK) (es : List Expr) (fl : List Bool) (m : Env → M (List D)) : Prop := ∃ t : TA, PA X es t ∧ ∀ (Mu : Addr → Prop) env h σ H Q, ES S Mu env h σ H →
  Good S Mu XA (m env h) H (fun ds h' H' => ∀ Mu' vs ps, (∀ a, Mu a → Mu' a) → (∀ a, Mu' a → Mu a ∨ a ∈ ps) → (∀ p ∈ ps, Fr H p ∧ ¬ Fr H' p) → ps.Nodup → PRep S Mu' H' fl vs ds ps → HandAt S Mu' H' h' → vs.length = es.length → Q vs H') E → t σ H Q
section
variable {X : Cx} {S : Stg X.K} {XA : XAT} {E : XK} {a b c e : Expr} {es : List Expr} {ma : Env → M D} {m : Env → M (List D)} {fl : List Bool} {pos p : Pos} {x : Str}
theorem Good.fewer {α : Type} {K : PySem.W.Frag} {S : Stg K} {Mu Mu' : Addr → Prop} {r : R α} {H : Hp} {P : α → List D → Hp → Prop} {E : XK} (g : Good S Mu XA r H P E) (le : ∀ a, Mu a → Mu' a) (hd : ∀ a, S.hd = some a → Mu a) : Good S Mu' XA r H P E := by
  cases r with
  | ok a h' => exact fun H2 p2 x => g H2 p2 (x.fewer le hd)
  | exc e h' => exact fun c d H2 p2 x => g c d H2 p2 (x.fewer le hd)
  | bad => exact g
theorem HandAt.hdMu {K : PySem.W.Frag} {S : Stg K} {Mu : Addr → Prop} {H : Hp} {h : List D} (x : HandAt S Mu H h) : ∀ a, S.hd = some a → Mu a := fun a e => (x.lst e).1
theorem Stay.ofNews {K : PySem.W.Frag} {S : Stg K} {Mu Mu' : Addr → Prop} {H H1 : Hp} {h : List D} {ps : List Addr} (pr : Pres S H H1) (x : HandAt S Mu H h) (le : ∀ a, Mu' a → Mu a ∨ a ∈ ps) (n : ∀ p ∈ ps, Fr H p) : Stay Mu Mu' H H1 where
  lst := fun a o d m e => ⟨fun z => (le a z).elim m fun q => ((n a q).no e d.nt), ((pr.stay x).lst a o d m e).2⟩
  tup := fun a xs e => (pr.stay x).tup a xs e
  frz := fun a o u e => ⟨fun m z => (le a z).elim m fun q => ((n a q).no e fun ps y => by cases y), ((pr.stay x).frz a o u e).2⟩
theorem sp_nil : SP X S XA E [] [] (fun _ => ret []) := ⟨_, pa_nil, fun Mu env h σ H Q e g => g.ret e.hand Mu [] [] (fun _ z => z) (fun _ z => .inl z) (by simp) (by simp) .nil e.hand rfl⟩
theorem sp_val (ha : SE X S XA E a ma) (hr : SP X S XA E es fl m) (hs : starEach (a :: es) X.env = (false, eval a X.env) :: starEach es X.env) : SP X S XA E (a :: es) (false :: fl) (fun env => bnd (ma env) fun d => bnd (m env) fun ds => ret (d :: ds)) := by
  obtain ⟨ta, pa, qa⟩ := ha
  obtain ⟨tr, pr, qr⟩ := hr
  refine ⟨_, pa_cons pa pr hs, fun Mu env h σ H Q e g => ?_⟩
  refine qa Mu env h σ H _ e (g.bnd.mono fun d h1 H1 p1 x1 g1 v rv => ?_)
  refine qr Mu env h1 σ H1 _ (e.pres p1 x1) (g1.bnd.mono fun ds h2 H2 p2 x2 g2 Mu' vs ps le nw hn nd pp hx hl => ?_)
  refine g2.ret x2 Mu' (v :: vs) ps le nw (fun q hq => ⟨p1.free (hn q hq).1, (hn q hq).2⟩) nd (.val (rv.stay (Stay.ofNews p2 x1 nw fun q hq => (hn q hq).1)) pp) hx (by rw [List.length_cons, List.length_cons, hl])
theorem sp_own (ha : SF X S XA E a ma) (hr : SP X S XA E es fl m) (hs : starEach (a :: es) X.env = (false, eval a X.env) :: starEach es X.env) : SP X S XA E (a :: es) (true :: fl) (fun env => bnd (ma env) fun d => bnd (m env) fun ds => ret (d :: ds)) := by
  obtain ⟨ta, pa, qa⟩ := ha
  obtain ⟨tr, pr, qr⟩ := hr
  refine ⟨_, pa_cons pa pr hs, fun Mu env h σ H Q e g => ?_⟩
  refine qa Mu env h σ H _ e (g.bnd.mono fun d h1 H1 p1 x1 g1 p hp hn xp o => ?_)
  refine qr (Add Mu p) env h1 σ H1 _ (e.grow p1 hp xp o.ne) ((g1.bnd.fewer (fun a z => .inl z) x1.hdMu).mono fun ds h2 H2 p2 x2 g2 Mu' vs ps le nw hnn nd pp hx hl => ?_)
  have st : Stay (Add Mu p) Mu' H1 H2 := Stay.ofNews p2 xp nw fun q hq => (hnn q hq).1
  obtain ⟨u, q1, wu⟩ := o.there
  have q2 : H2 p = some u := p2.same p _ hn q1 wu.nt
  refine g2.ret (x2.fewer (fun a z => .inl z) x1.hdMu) Mu' (.ref p :: vs) (p :: ps) (fun a z => le a (.inl z)) (fun a z => ?_) (fun q hq => ?_) ?_ (.own (le p (.inr rfl)) hn (o.stayC st fun u q w => p2.same p u hn q w.nt) pp) hx (by rw [List.length_cons, List.length_cons, hl])
  · rcases nw a z with y | y
    · rcases y with y | y
      · exact .inl y
      · exact .inr (by rw [y]; exact List.mem_cons_self)
    · exact .inr (List.mem_cons_of_mem _ y)
  · rcases List.mem_cons.mp hq with rfl | hq
    · exact ⟨hp, notFr q2 wu.nt⟩
    · exact ⟨p1.free (hnn q hq).1, (hnn q hq).2⟩
  · rw [List.nodup_cons]
    refine ⟨fun z => ?_, nd⟩
    exact (hnn p z).1.no q1 wu.nt
theorem At.growL {K : PySem.W.Frag} {S : Stg K} {Mu0 Mu Mu' : Addr → Prop} {H0 H H1 : Hp} {env : Env} {h h1 : List D} {σ : L2.St} {ps : List Addr} (e : At S Mu0 H0 Mu env h σ H) (pr : Pres S H H1) (le : ∀ a, Mu a → Mu' a) (nw : ∀ a, Mu' a → Mu a ∨ a ∈ ps) (n : ∀ p ∈ ps, Fr H p ∧ ¬ Fr H1 p) (x : HandAt S Mu' H1 h1) : At S Mu0 H0 Mu' env h1 σ H1 where
  pres := e.pres.trans pr
  sub := fun a m => le a (e.sub a m)
  new := fun a m => (nw a m).elim (e.new a) fun q => .inr (e.pres.free (n a q).1)
  hd := e.hd
  dom0 := e.dom0
  es := ⟨e.es.len, fun i => (e.es.slot i).stay (Stay.ofNews pr e.es.hand nw fun q hq => (n q hq).1) le fun a u m hn _ _ q w => pr.same a _ hn q w.nt, e.es.dis, x, fun a m => (nw a m).elim (fun m => pr.dom a (e.es.dom a m)) fun q => (n a q).2, pr.tabs e.es.tabs⟩
  own := e.own
theorem Stp.growL {K : PySem.W.Frag} {S : Stg K} {Mu Mu' : Addr → Prop} {H H1 : Hp} {env : Env} {h : List D} {σ : L2.St} {ps : List Addr} {W : List Nat} (e : ES S Mu env h σ H) (pr : Pres S H H1) (nw : ∀ a, Mu' a → Mu a ∨ a ∈ ps) (n : ∀ p ∈ ps, Fr H p) : Stp W Mu σ H Mu' σ H1 :=
  ⟨(Stp.of_pres (W := W) (σ := σ) pr e.hand).keep, pr.dom, fun a q m z => (nw a z).elim m fun y => q (n a y), fun _ _ => rfl⟩
/-! ### stores, one after another -/
def setsV : L2.St → List Nat → List V → L2.St
  | σ, i :: is, v :: vs => setsV (σ.set i (some v)) is vs
  | σ, _, _ => σ
def parTs : List Nat → List Bool → List (Tg × Bool)
  | i :: is, b :: bs => (.name i, b) :: parTs is bs
  | _, _ => []
theorem setsV_fr : ∀ (is : List Nat) (vs : List V) (σ : L2.St) (j : Nat), j ∉ is → (setsV σ is vs)[j]? = σ[j]?
  | [], vs, σ, j, _ => by cases vs <;> rfl
  | i :: is, [], σ, j, _ => rfl
  | i :: is, v :: vs, σ, j, h => by
    show (setsV (σ.set i (some v)) is vs)[j]? = _
    rw [setsV_fr is vs _ j fun z => h (List.mem_cons_of_mem _ z), List.getElem?_set_ne (by rintro rfl; exact h List.mem_cons_self)]
theorem par_store {Mu0 Mu : Addr → Prop} {H0 H : Hp} {h : List D} : ∀ {fl : List Bool} {vs : List V} {ds : List D} {ps : List Addr} (is : List Nat) (env : Env) (σ : L2.St), is.length = fl.length → At S Mu0 H0 Mu env h σ H → PRep S Mu H fl vs ds ps → ps.Nodup → (∀ p ∈ ps, ¬ Mu0 p) →
    (∀ p ∈ ps, ∀ j, isOwn (nth env j) = true → σ[j]? ≠ some (some (.ref p))) → ∃ env', parT (parTs is fl) ds env = ret env' ∧ At S Mu0 H0 Mu env' h (setsV σ is vs) H
  | _, _, _, _, [], env, σ, hl, a, .nil, nd, n0, fr => ⟨env, rfl, a⟩
  | _, _, _, _, [], env, σ, hl, a, .val _ _, nd, n0, fr => by simp at hl
  | _, _, _, _, [], env, σ, hl, a, .own _ _ _ _, nd, n0, fr => by simp at hl
  | _, _, _, _, i :: is, env, σ, hl, a, .nil, nd, n0, fr => by simp at hl
  | _, _, _, _, i :: is, env, σ, hl, a, .val (v := v) (d := d) r pr, nd, n0, fr => by
    obtain ⟨env', e1, a1⟩ := par_store is (put env i (.val d)) (σ.set i (some v)) (by simpa using hl) (a.putV r i) pr nd n0 fun p hp j oj => by
      rw [nth_put] at oj
      split at oj
      · cases oj
      rename_i c
      by_cases hij : i = j
      · subst hij
        have : ¬ (i < env.length) := fun z => c ⟨rfl, z⟩
        rw [List.getElem?_eq_none (by rw [List.length_set, ← a.es.len]; omega)]
        exact fun z => by cases z
      · rw [List.getElem?_set_ne hij]
        exact fr p hp j oj
    refine ⟨env', ?_, a1⟩
    show bnd (ret (put env i (.val d))) (fun env' => parT (parTs is _) _ env') = _
    rw [bnd_ret]
    exact e1
  | _, _, _, _, i :: is, env, σ, hl, a, .own (a := q) (d := d) mq hq oq pr, nd, n0, fr => by
    rw [List.nodup_cons] at nd
    obtain ⟨env', e1, a1⟩ := par_store is (put env i (.own d)) (σ.set i (some (.ref q))) (by simpa using hl) (a.putO mq hq (n0 q List.mem_cons_self) oq i fun j _ oj => fr q List.mem_cons_self j oj) pr nd.2 (fun p hp => n0 p (List.mem_cons_of_mem _ hp)) fun p hp j oj => by
      have hpq : p ≠ q := fun z => nd.1 (z ▸ hp)
      by_cases hij : i = j
      · subst hij
        by_cases hlt : i < env.length
        · rw [List.getElem?_set_self (by rw [← a.es.len]; exact hlt)]
          intro z
          cases z
          exact hpq rfl
        · rw [List.getElem?_eq_none (by rw [List.length_set, ← a.es.len]; omega)]
          exact fun z => by cases z
      · rw [List.getElem?_set_ne hij]
        rw [nth_put, if_neg (fun z => hij z.1)] at oj
        exact fr p (List.mem_cons_of_mem _ hp) j oj
    exact ⟨env', e1, a1⟩
/-- the statement: its values, then the stores -/
def ParOk (X : Cx) (st : Stmt) (is : List Nat) (ta : TA) : Prop := ∃ Rr : Ends → L2.St → List V → Hp → Prop, PS X st (fun Q σ H => ta σ H fun vs H1 => Rr Q σ vs H1) ∧ ∀ (Q : Ends) σ vs H1, vs.length = is.length → Q.nx (setsV σ is vs) H1 → (∀ p, H1 p = none → Q.nx (setsV σ is vs) (upd H1 p (.tup vs))) → Rr Q σ vs H1
theorem parOk2 {i j : Nat} {x y : Str} {a b : Expr} {ta : TA} {px py pt : Pos} {kt k2 pt2} (hc : X.calm = true) (hN : X.N.Nodup) (hi : X.N[i]? = some x) (hj : X.N[j]? = some y) (hij : i ≠ j)
    (hx : X.env.scope.names.lookup x = some .local) (hy : X.env.scope.names.lookup y = some .local) (ha : PA X [a, b] ta)
    (hw : swappedStores [.Tuple [.Name x px, .Name y py] kt pt] (.Tuple [a, b] k2 pt2) X.env = pure (some [x, y]))
    (hs : swapsWithSole [.Tuple [.Name x px, .Name y py] kt pt] (.Tuple [a, b] k2 pt2) pos.line X.env = pure false) :
    ParOk X (.Assign [.Tuple [.Name x px, .Name y py] kt pt] (.Tuple [a, b] k2 pt2) pos) [i, j] ta := by
  refine ⟨_, ps_par hc hN hi hj hij hx hy ha hw hs, fun Q σ vs H1 hl k _ => ?_⟩
  match vs, hl with
  | [v, w], _ => exact ⟨v, w, rfl, k⟩
theorem parOk3 {i j l : Nat} {x y z : Str} {a b c : Expr} {ta : TA} {px py pz pt : Pos} {kt k2 pt2} (hc : X.calm = true) (hN : X.N.Nodup) (hi : X.N[i]? = some x) (hj : X.N[j]? = some y) (hl : X.N[l]? = some z) (hij : i ≠ j) (hil : i ≠ l) (hjl : j ≠ l)
    (hx : X.env.scope.names.lookup x = some .local) (hy : X.env.scope.names.lookup y = some .local) (hz : X.env.scope.names.lookup z = some .local) (ha : PA X [a, b, c] ta)
    (hw : swappedStores [.Tuple [.Name x px, .Name y py, .Name z pz] kt pt] (.Tuple [a, b, c] k2 pt2) X.env = pure (some [x, y, z]))
    (hs : swapsWithSole [.Tuple [.Name x px, .Name y py, .Name z pz] kt pt] (.Tuple [a, b, c] k2 pt2) pos.line X.env = pure false) :
    ParOk X (.Assign [.Tuple [.Name x px, .Name y py, .Name z pz] kt pt] (.Tuple [a, b, c] k2 pt2) pos) [i, j, l] ta := by
  refine ⟨_, ps_par3 hc hN hi hj hl hij hil hjl hx hy hz ha hw hs, fun Q σ vs H1 hln k _ => ?_⟩
  match vs, hln with
  | [v, w, u], _ => exact ⟨v, w, u, rfl, k⟩
def gNames : List Nat → TGs
  | [] => gNil
  | i :: is => gCons (gName i) (gNames is)
theorem gNames_ok : ∀ (is : List Nat) (vs : List V) (σ : L2.St) (H : Hp) (Q : L2.St → Hp → Prop), vs.length = is.length → Q (setsV σ is vs) H → gNames is vs σ H Q
  | [], [], σ, H, Q, _, q => ⟨rfl, q⟩
  | [], _ :: _, σ, H, Q, h, _ => by simp at h
  | _ :: _, [], σ, H, Q, h, _ => by simp at h
  | i :: is, v :: vs, σ, H, Q, h, q => ⟨v, vs, rfl, gNames_ok is vs (σ.set i (some v)) H Q (by simpa using h) q⟩
theorem parOkT {is : List Nat} {tgs es : List Expr} {ta : TA} {pt : Pos} {kt k2 pt2} (hc : X.calm = true) (hg : PGs X tgs (gNames is)) (hl : tgs.length = is.length) (h1000 : is.length ≤ 1000) (ha : PA X es ta) (hn : (assignEach tgs X.env).length = tgs.length) (hst : (assignEach tgs X.env).findIdx? (·.1) = none)
    (hw : swappedStores [.Tuple tgs kt pt] (.Tuple es k2 pt2) X.env = pure none) (hs : swapsWithSole [.Tuple tgs kt pt] (.Tuple es k2 pt2) pos.line X.env = pure false) (h1 : (assignEach [.Tuple tgs kt pt] X.env).map (·.2) = [assign (.Tuple tgs kt pt) X.env]) :
    ParOk X (.Assign [.Tuple tgs kt pt] (.Tuple es k2 pt2) pos) is ta := by
  refine ⟨_, ps_asg (pe_tup ha) (pg_tup hc hg hn hst) hs hw h1, fun Q σ vs H1 hlv k1 k2 => ⟨by rw [hlv, sizeLine_eq]; omega, fun p hp => ⟨p, vs, rfl, .of upd_same, by rw [hlv, hl], gNames_ok is vs σ _ _ hlv (k2 p hp)⟩⟩⟩
theorem ss_par {is : List Nat} {st : Stmt} (hp : ∀ ta, PA X es ta → ParOk X st is ta) (he : SP X S XA E es fl m) (hl : is.length = fl.length) (hle : es.length = is.length) : SS X S XA E st is (fun env => bnd (m env) fun ds => nextM (parT (parTs is fl) ds env)) := by
  obtain ⟨t, p, q⟩ := he
  obtain ⟨Rr, pr, k⟩ := hp t p
  refine ⟨_, pr, fun Mu0 H0 Mu env h σ H Q at' g => ?_⟩
  have g' := g.bnd at'
  cases z : m env h with
  | ok ds h1 =>
    refine q Mu env h σ H _ at'.es ?_
    rw [z]
    intro H1 p1 x1 Mu' vs ps le nw hn nd pp hx hlv
    have a1 : At S Mu0 H0 Mu' env h1 σ H1 := at'.growL p1 le nw hn hx
    obtain ⟨env', e1, a2⟩ := par_store is env σ hl a1 pp nd (fun p hp m => at'.es.free (hn p hp).1 (at'.sub p m)) fun p hp j oj => at'.es.notnew (hn p hp).1 j oj
    have gg : GoodS S Mu0 H0 XA E is Mu σ H (ret (.next env') h1) Q.nx Q.rt := by
      dsimp only at g
      rw [bnd_ok z, e1] at g
      unfold nextM at g
      rw [bnd_ret] at g
      exact g
    have stp : Stp is Mu σ H Mu' (setsV σ is vs) H1 := (Stp.growL (W := is) at'.es p1 nw fun q hq => (hn q hq).1).trans ⟨fun _ _ e _ _ => e, fun _ e => e, fun _ _ n => n, fun j hj => setsV_fr is vs σ j hj⟩
    refine k Q σ vs H1 (hlv.trans hle) (gg.next a2 stp) fun p hp => ?_
    have pn : Pres S H1 (upd H1 p (.tup vs)) := Pres.new hp
    exact gg.next (a2.presE pn (hx.new hp)) (stp.trans (Stp.of_pres pn hx))
  | exc e h1 =>
    rw [z] at g'
    exact q Mu env h σ H _ at'.es (by rw [z]; exact g')
  | bad => rw [z] at g'; exact g'.elim
end
end Ev
set_option Elab.async false
set_option linter.all false
set_option maxRecDepth 100000
set_option maxHeartbeats 1000000
/-! The checker: a text is what its form says. -/
namespace Ev
open PySem PySem.Spec PyProof.Rows L2

structure Tab where
  nm : Nat → Option Str
  np : Nat → Nat
  cst : Str → Option D
  exn : Nat → Option Str
  lm : Nat → Option Str
structure Sc where
  N : List Str
  sc : Scope
  fn : Str → Bool
  lam : Bool
  cm : Bool
  ex : Bool

mutual
def sameD : D → D → Bool
  | .none, .none => true
  | .bool a, .bool b => a == b
  | .int a, .int b => a == b
  | .str a, .str b => a == b
  | .list a, .list b => sameDs a b
  | .tuple a, .tuple b => sameDs a b
  | _, _ => false
def sameDs : List D → List D → Bool
  | [], [] => true
  | a :: as, b :: bs => sameD a b && sameDs as bs
  | _, _ => false
end
mutual
theorem sameD_eq : ∀ (a b : D), sameD a b = true → a = b
  | .none, b, h => by cases b <;> first | rfl | cases h
  | .bool x, b, h => by cases b <;> first | (cases h; done) | (simp only [sameD, beq_iff_eq] at h; rw [h])
  | .int x, b, h => by cases b <;> first | (cases h; done) | (simp only [sameD, beq_iff_eq] at h; rw [h])
  | .str x, b, h => by cases b <;> first | (cases h; done) | (simp only [sameD, beq_iff_eq] at h; rw [h])
  | .list x, b, h => by cases b <;> first | (cases h; done) | (rw [sameDs_eq _ _ h])
  | .tuple x, b, h => by cases b <;> first | (cases h; done) | (rw [sameDs_eq _ _ h])
  | .dict x, b, h => by cases b <;> cases h
theorem sameDs_eq : ∀ (a b : List D), sameDs a b = true → a = b
  | [], b, h => by cases b <;> first | rfl | cases h
  | x :: xs, b, h => by
    cases b with
    | nil => cases h
    | cons y ys =>
      simp only [sameDs, Bool.and_eq_true] at h
      rw [sameD_eq _ _ h.1, sameDs_eq _ _ h.2]
end
def nameB (x : Str) : Bool := !(x == ("__debug__" : Str)) && !(x == ("__classdict__" : Str)) && !(x == ("__name__" : Str))
def visB (s : Scope) (x : Str) : Bool := match s.names.lookup x with
  | some .local => true
  | some .cell => true
  | some .free => true
  | _ => false
def glB (s : Scope) (x : Str) : Bool := s.names.lookup x == some .globalImplicit
def vokB (s : Sc) (i : Nat) (x : Str) : Bool := (s.N[i]? == some x) && visB s.sc x && nameB x
def cokB (d : D) (ex : Expr) : Bool := match ex with
  | .Constant .none _ _ => (match d with | .none => true | _ => false)
  | .Constant (.bool b) _ _ => (match d with | .bool c => b == c | _ => false)
  | .Constant (.int b) _ _ => (match d with | .int c => b == c | _ => false)
  | .Constant (.str b) _ _ => (match d with | .str c => b == c | _ => false)
  | _ => false
def keyOf : D → Option L2.Key
  | .int i => some (.inl i)
  | .str x => some (.inr x)
  | _ => none
/-- no star, no set, no slice -/
def plainB : Expr → Bool
  | .Starred .. => false
  | .Set .. => false
  | .Slice .. => false
  | _ => true
/-- its truth is its value's -/
def valB : Expr → Bool
  | .UnaryOp .Not _ _ => false
  | .BoolOp .. => false
  | .IfExp .. => false
  | .Compare .. => false
  | _ => true
def srcV : IE → List Nat
  | .var i => [i]
  | _ => []
def srcs : IE → List Nat
  | .var i => [i]
  | .zip a b => srcV a ++ srcV b
  | .enum a => srcV a
  | _ => []
def tgVis (s : Sc) (i : Nat) (x : Str) : Bool := (s.N[i]? == some x) && (s.sc.names.lookup x == some .local || (s.sc.names.lookup x == some .cell && s.fn x))
mutual
def okG (s : Sc) : Tg → Expr → Bool
  | .name i, .Name x _ => tgVis s i x
  | .tup ts, .Tuple es _ _ => s.cm && okGs s ts es
  | _, _ => false
def okGs (s : Sc) : List Tg → List Expr → Bool
  | [], [] => true
  | t :: ts, e :: es => okG s t e && okGs s ts es
  | _, _ => false
end
/-- a comprehension's own scope -/
def blkB (s : Sc) (scope : Scope) (own : List Nat) : Bool :=
  decide (scope.kind = .function) && (scope.names.all fun y => scope.names.lookup y.1 == some y.2) && (own.all fun i => decide (i < s.N.length)) &&
  (scope.names.all fun y => !(y.2 == .free) || (s.sc.names.lookup y.1 == some .cell) || (s.sc.names.lookup y.1 == some .free)) &&
  (scope.names.all fun y => !(y.2 == .local || y.2 == .cell) || (own.any fun i => s.N[i]? == some y.1) || !(s.N.contains y.1))
def inner (s : Sc) (scope : Scope) : Sc := ⟨s.N, relS scope s.sc, fun x => scope.names.lookup x == some .cell, false, s.cm, false⟩
/-- a lambda's own scope -/
def lamIn (s : Sc) (scope : Scope) : Sc := ⟨s.N, scope, fun _ => false, false, true, false⟩
def noPar (a : Arguments) : Bool := a.posonlyargs.isEmpty && a.args.isEmpty && a.vararg.isNone && a.kwonlyargs.isEmpty && a.kwarg.isNone && a.defaults.isEmpty && a.kw_defaults.isEmpty
def isRange : IE → Bool
  | .range .. => true
  | _ => false
def oneB : Expr → Bool
  | .Call (.Name f _) [] [] _ => !(f == ("super" : Str))
  | .Call .. => true
  | _ => true
def tysB (s : Sc) : List Ty → List Expr → Bool
  | [], [] => true
  | t :: ts, .Name y _ :: ys => y == Str.ofString (tyN t) && glB s.sc y && tysB s ts ys
  | _, _ => false
/-- range(..) -/
def rngA (e : IE) : Option (List IE) := match e with
  | .range (.cst (.int 0)) b (.cst (.int 1)) => some [b]
  | _ => none

def sameI0 : IE → Bool
  | .cst (.int 0) => true
  | _ => false
def sameI1 : IE → Bool
  | .cst (.int 1) => true
  | _ => false
def notLook : IE → Bool
  | .look _ => false
  | _ => true
section
variable (T : Tab)
mutual
def okE : Nat → Sc → IE → Expr → Bool
  | 0, _, _, _ => false
  | n + 1, s, e, ex => match e, ex with
    | .var i, .Name x _ => vokB s i x
    | .cst d, ex => cokB d ex
    | .glob x d, .Name y _ => x == y && glB s.sc y && nameB y && (match T.cst y with | some d' => sameD d d' | none => false)
    | .bop op a b, .BinOp l o r _ => decide (opOf op = o) && okB n s a l && okB n s b r
    | .neg a, .UnaryOp .USub x _ => okE n s a x
    | .not a, .UnaryOp .Not x _ => okB n s a x
    | .and a b, .BoolOp .And (x :: y :: r) p => okE n s a x && okE n s b (.BoolOp .And (y :: r) p)
    | .or a b, .BoolOp .Or (x :: y :: r) p => okE n s a x && okE n s b (.BoolOp .Or (y :: r) p)
    | e, .BoolOp _ [x] _ => okE n s e x
    | .cmp op a b, .Compare l [o] [r] _ => decide (copOf op = o) && okB n s a l && okB n s b r && plainB r
    | .cmp2 op op' a b c, .Compare l [o, o'] [r, r'] _ => decide (copOf op = o) && decide (copOf op' = o') && okE n s a l && okE n s b r && okE n s c r' && plainB r'
    | .ite c a b, .IfExp tc ta tb _ => okT n s c tc && okE n s a ta && okE n s b tb
    | .tup es, .Tuple xs _ _ => okEs n s es xs && decide (xs.length ≤ 1000)
    | .lst es, .List xs _ => okEs n s es xs && decide (xs.length ≤ 1000)
    | .never, _ => true
    | .rawSl i lo hi, .Subscript (.Name x _) (.Slice l h none _) _ => vokB s i x && okO n s lo l && okO n s hi h
    | .slice a lo hi, .Subscript v (.Slice l h none _) _ => okB n s a v && okO n s lo l && okO n s hi h
    | .rev a, .Subscript v (.Slice none none (some (.UnaryOp .USub (.Constant (.int 1) _ _) _)) _) _ => okB n s a v
    | .dd es, .Dict keys vals _ => s.cm && okDs n s es keys vals && decide (keys.length ≤ 15)
    | .dget a k x, .Call (.Attribute ov name ap) [ka, xa] [] cp => name == ("get" : Str) && okB n s a ov && okE n s k ka && okE n s x xa && plainB ka && plainB xa && oneB ov && (ap.endLine == cp.line)
    | .dc ik iv tg it ifs own, .DictComp kx vx [⟨t, iter, ifs', k⟩] scope _ => s.cm && decide (k = 0) && okI n s it t iter && blkB s scope own && okG (inner s scope) tg t && okE n (inner s scope) ik kx && okE n (inner s scope) iv vx && okIf n (inner s scope) ifs ifs' && ((tgN tg).all fun i => own.contains i) && plainB iter
    | .hidx i k, .Subscript (.Name x _) sl _ => vokB s i x && okE n s k sl && plainB sl
    | .idx a i, .Subscript v sl _ => okB n s a v && okE n s i sl && plainB sl
    | .call f es, .Call (.Name x _) args [] _ => (T.nm f == some x) && glB s.sc x && nameB x && decide (args.length = T.np f) && okAs n s es args
    | .lam f e, .Call (.Name x _) [.Lambda params body scope _] [] _ => s.lam && (T.lm f == some x) && glB s.sc x && nameB x && noPar params && LamX.lamSB s.sc scope && okE n (lamIn s scope) e body
    | .isx i c, .Call (.Name x _) [.Name y _, .Name z _] [] _ => s.ex && x == ("isinstance" : Str) && glB s.sc x && vokB s i y && (T.exn c == some z) && glB s.sc z && nameB z
    | .b1 b a, .Call (.Name x _) [arg] [] _ => s.cm && x == b1N b && glB s.sc x && (match a with
        | .range lo hi st => (b == .list || b == .tuple) && okRg n s lo hi st arg
        | _ => okB n s a arg && plainB arg)
    | .b2 b a c, .Call (.Name x _) [l, r] [] _ => s.cm && x == b2N b && glB s.sc x && okE n s a l && okE n s c r && plainB l && plainB r
    | .isi a [t], .Call (.Name x _) [arg, .Name y _] [] _ => x == ("isinstance" : Str) && glB s.sc x && y == Str.ofString (tyN t) && glB s.sc y && okB n s a arg && plainB arg
    | .isi a ts, .Call (.Name x _) [arg, .Tuple ys _ _] [] _ => x == ("isinstance" : Str) && glB s.sc x && tysB s ts ys && decide (ts.length ≤ 10) && okB n s a arg && plainB arg
    | .lc elt tg it ifs own, .ListComp ex [⟨t, iter, ifs', k⟩] scope _ => s.cm && decide (k = 0) && okI n s it t iter && blkB s scope own && okG (inner s scope) tg t && okE n (inner s scope) elt ex && okIf n (inner s scope) ifs ifs' && ((tgN tg).all fun i => own.contains i) && plainB iter
    | .m1 m o a, .Call (.Attribute ov name ap) [arg] [] cp => (m == .count || m == .index) && name == m1N m && okB n s o ov && okE n s a arg && plainB arg && oneB ov && (ap.endLine == cp.line)
    | _, _ => false
def okB : Nat → Sc → IE → Expr → Bool
  | 0, _, _, _ => false
  | n + 1, s, e, ex => match e, ex with
    | .var i, .Name x _ => vokB s i x
    | .var _, _ => false
    | .look i, .Name x _ => vokB s i x
    | .look _, _ => false
    | e, ex => okE n s e ex
/-- the pairs of a display -/
def okDs : Nat → Sc → List IE → List (Option Expr) → List Expr → Bool
  | 0, _, _, _, _ => false
  | n + 1, s, es, ks, vs => match es, ks, vs with
    | [], [], [] => true
    | k :: v :: es, some kx :: ks, vx :: vs => okE n s k kx && okE n s v vx && okDs n s es ks vs
    | _, _, _ => false
def okEs : Nat → Sc → List IE → List Expr → Bool
  | 0, _, _, _ => false
  | n + 1, s, e, ex => match e, ex with
    | [], [] => true
    | e :: es, x :: xs => okE n s e x && plainB x && okEs n s es xs
    | _, _ => false
def okAs : Nat → Sc → List IE → List Expr → Bool
  | 0, _, _, _ => false
  | n + 1, s, e, ex => match e, ex with
    | [], [] => true
    | e :: es, x :: xs => okB n s e x && plainB x && okAs n s es xs
    | _, _ => false
def okO : Nat → Sc → IE → Option Expr → Bool
  | 0, _, _, _ => false
  | n + 1, s, e, ex => match e, ex with
    | .absent, none => true
    | .absent, some _ => false
    | e, some x => okE n s e x
    | _, _ => false
/-- a test: of the value, looked at -/
def okT : Nat → Sc → IE → Expr → Bool
  | 0, _, _, _ => false
  | n + 1, s, e, ex => match e, ex with
    | .not a, .UnaryOp .Not x _ => okT n s a x
    | .cmp op a b, .Compare l [o] [r] _ => decide (copOf op = o) && okB n s a l && okB n s b r && plainB r
    | .cmp2 op op' a b c, .Compare l [o, o'] [r, r'] _ => decide (copOf op = o) && decide (copOf op' = o') && okE n s a l && okE n s b r && okE n s c r' && plainB r'
    | e, .BoolOp op (x :: y :: r) p => okW n s e (.BoolOp op (x :: y :: r) p)
    | e, ex => okB n s e ex && valB ex
/-- a test: of the value -/
def okV : Nat → Sc → IE → Expr → Bool
  | 0, _, _, _ => false
  | n + 1, s, e, ex => match e, ex with
    | .var i, ex => okE n s (.var i) ex && valB ex
    | e, ex => okT n s e ex
def okW : Nat → Sc → IE → Expr → Bool
  | 0, _, _, _ => false
  | n + 1, s, e, ex => match e, ex with
    | .and a b, .BoolOp .And (x :: y :: r) p => okV n s a x && okW n s b (.BoolOp .And (y :: r) p)
    | .or a b, .BoolOp .Or (x :: y :: r) p => okV n s a x && okW n s b (.BoolOp .Or (y :: r) p)
    | e, .BoolOp .And [x] _ => okV n s e x
    | e, .BoolOp .Or [x] _ => okV n s e x
    | _, _ => false
def okIf : Nat → Sc → List IE → List Expr → Bool
  | 0, _, _, _ => false
  | n + 1, s, e, ex => match e, ex with
    | [], [] => true
    | [c], [x] => okT n s c x
    | _, _ => false
def okRg : Nat → Sc → IE → IE → IE → Expr → Bool
  | 0, _, _, _, _, _ => false
  | n + 1, s, e1, e2, e3, ex => match e1, e2, e3, ex with
    | lo, hi, .cst (.int 1), .Call (.Name x _) [b] [] _ => x == ("range" : Str) && glB s.sc x && sameI0 lo && okE n s hi b && plainB b
    | lo, hi, .cst (.int 1), .Call (.Name x _) [a, b] [] _ => x == ("range" : Str) && glB s.sc x && okE n s lo a && okE n s hi b && plainB a && plainB b
    | _, _, _, _ => false
def okI : Nat → Sc → IE → Expr → Expr → Bool
  | 0, _, _, _, _ => false
  | n + 1, s, e, tg, ex => match e, tg, ex with
    | .range lo hi st, _, .Call (.Name x _) [b] [] _ => x == ("range" : Str) && glB s.sc x && sameI0 lo && sameI1 st && okE n s hi b && plainB b
    | .range lo hi st, _, .Call (.Name x _) [a, b] [] _ => x == ("range" : Str) && glB s.sc x && sameI1 st && okE n s lo a && okE n s hi b && plainB a && plainB b
    | .range lo hi (.neg (.cst (.int 1))), _, .Call (.Name x _) [a, b, c] [] _ => x == ("range" : Str) && glB s.sc x && okE n s lo a && okE n s hi b && okE n s (.neg (.cst (.int 1))) c && plainB a && plainB b && plainB c
    | .zip a b, .Tuple .., .Call (.Name x _) [l, r] [] _ => x == ("zip" : Str) && glB s.sc x && okB n s a l && okB n s b r && plainB l && plainB r && notLook a && notLook b
    | .enum a, .Tuple .., .Call (.Name x _) [l] [] _ => x == ("enumerate" : Str) && glB s.sc x && okB n s a l && plainB l && notLook a
    | .range .., _, _ => false
    | .zip .., _, _ => false
    | .enum .., _, _ => false
    | e, _, ex => notLook e && okB n s e ex
end
end
end Ev
set_option Elab.async false
set_option linter.all false
set_option maxRecDepth 100000
set_option maxHeartbeats 2000000
/-! What the checker's rows give. -/
namespace Ev
open PySem PySem.Spec PyProof.Rows L2

theorem star_ok {e : Expr} {es : List Expr} {env : PySem.Env} (h : plainB e = true) : starEach (e :: es) env = (false, eval e env) :: starEach es env := by
  cases e <;> first | rfl | cases h
theorem noStar : ∀ {es : List Expr} {env : PySem.Env} (pos : Pos), (∀ e ∈ es, plainB e = true) → (backTo pos (starEach es env)).any (·.1) = false
  | [], env, pos, _ => rfl
  | e :: es, env, pos, h => by
    rw [star_ok (h e List.mem_cons_self)]
    show (false || (backTo pos (starEach es env)).any (·.1)) = false
    rw [Bool.false_or]
    exact noStar pos fun e' he => h e' (List.mem_cons_of_mem _ he)
theorem noStarAll : ∀ {es : List Expr} {env : PySem.Env} (pos : Pos), (∀ e ∈ es, plainB e = true) → (backTo pos (starEach es env)).all (fun x => !x.1) = true
  | [], env, pos, _ => rfl
  | e :: es, env, pos, h => by
    rw [star_ok (h e List.mem_cons_self)]
    show (true && (backTo pos (starEach es env)).all (fun x => !x.1)) = true
    rw [Bool.true_and]
    exact noStarAll pos fun e' he => h e' (List.mem_cons_of_mem _ he)
theorem few_ok {e : Expr} {env : PySem.Env} {pos : Pos} (h : plainB e = true) : ((backTo pos (starEach [e] env)).all (fun x => !x.1) && (backToKw pos (keywordEach [] env)).all (fun x => x.1.isSome)
      && decide ([e].length + ([] : List Keyword).length + (if ([] : List Keyword).isEmpty then 0 else 1) < 30)) = true := by
  rw [noStarAll pos (by simpa using h)]
  rfl
theorem few2_ok {e f : Expr} {env : PySem.Env} {pos : Pos} (h : plainB e = true) (h2 : plainB f = true) : ((backTo pos (starEach [e, f] env)).all (fun x => !x.1) && (backToKw pos (keywordEach [] env)).all (fun x => x.1.isSome)
      && decide ([e, f].length + ([] : List Keyword).length + (if ([] : List Keyword).isEmpty then 0 else 1) < 30)) = true := by
  rw [noStarAll pos (by simp [h, h2])]
  rfl
theorem behind_ok {op : CmpOp} {e : Expr} (h : plainB e = true) : behindInMarks op e = false := by
  cases e <;> first | rfl | cases h
theorem plainIx_ok {e : Expr} (h : plainB e = true) : PlainIx e := fun o i => by
  cases e <;> first | rfl | cases h
theorem folded_ok {e : Expr} {env : PySem.Env} (h : plainB e = true) : ∀ x, foldedSetIterable e env x = pure x := fun x => by
  cases e <;> first | rfl | cases h
theorem isTrue_ok {e : Expr} {env : PySem.Env} (h : valB e = true) : ∀ whole, isTrue e env whole = (do let v ← whole; standAt e.pos; holding [v] (truthy v)) := fun whole => by
  cases e <;> first | rfl | (cases h; done) | skip
  rename_i op x p
  cases op <;> first | rfl | cases h
theorem base_ok {e : Expr} {attr : Str} {env : PySem.Env} (h : oneB e = true) : attributeBase e attr env (eval e env) = eval e env := by
  cases e <;> first | rfl | skip
  rename_i f args kws p
  cases f <;> first | rfl | skip
  cases args <;> first | rfl | skip
  cases kws <;> first | rfl | skip
  rename_i id p2
  simp only [oneB, Bool.not_eq_true'] at h
  unfold attributeBase
  have : (id != ("super" : Str)) = true := by rw [bne, h]; rfl
  simp only [this, Bool.true_or, if_true]
theorem lookup_gl {s : Scope} {x : Str} (h : glB s x = true) : s.names.lookup x = some .globalImplicit := by simpa [glB] using h
theorem vis_ok {s : Scope} {x : Str} (h : visB s x = true) : Vis s x := by
  unfold visB at h
  unfold Vis
  split at h
  · rename_i q; exact .inl q
  · rename_i q; exact .inr (.inl q)
  · rename_i q; exact .inr (.inr q)
  · cases h
theorem name_ok {x : Str} (h : nameB x = true) : (x == ("__debug__" : Str)) = false ∧ (x == ("__classdict__" : Str)) = false ∧ x ≠ ("__name__" : Str) := by
  simp only [nameB, Bool.and_eq_true, Bool.not_eq_true'] at h
  exact ⟨h.1.1, h.1.2, fun e => by rw [e] at h; simp at h⟩
def biN : List Str := ["range", "zip", "enumerate", "isinstance", "len", "tuple", "list", "sorted", "min", "max", "sum", "any", "all", "int", "abs", "bool", "str", "dict"]
/-- what a context must give, lambdas aside -/
structure OkL (T : Tab) (K : Cal) (XA : XAT) (X : Cx) (S : Stg X.K) (E : XK) (s : Sc) : Prop where
  calm : s.cm = true → X.calm = true
  nd : X.N.Nodup
  hN : X.N = s.N
  hS : X.env.scope = s.sc
  hf : ∀ x, s.fn x = true → X.fn x = true
  un : X.A.units + 65 < cLine
  bi : ∀ x ∈ biN, X.mg x = none
  gl : ∀ x d, T.cst x = some d → ∃ u v, X.mg x = some u ∧ RelV v u ∧ ∀ Mu H, Rep X.K Mu H v d
  fns : ∀ f x, T.nm f = some x → ∃ k fa fd ps, FnOk X.prog X.w X.K X.mg X.base (L2.CX X.prog X.w) k fa fd ps (spF X.K XA ps.length (K.C f)) ∧ Room k X.A ∧ X.mg x = some (.ref fa) ∧ PySem.W.keepIn X.K (.ref fa) = true ∧ Binds X.K fd ps [] ∧ ps.length = T.np f
  pass : Passes (L2.CX X.prog X.w) X E
  isx : s.ex = true → ∀ a e c y, S.exc = some (a, e) → T.exn c = some y → ∃ (C : Addr) (b : Bool), X.mg y = some (.ref C) ∧ K.isa e c = some b ∧ CallR X (.builtin "isinstance") (fun xs H Q => xs = [.ref a, .ref C] ∧ Q (.bl b) H)
structure Ok (T : Tab) (K : Cal) (XA : XAT) (X : Cx) (S : Stg X.K) (E : XK) (s : Sc) : Prop extends OkL T K XA X S E s where
  lam : s.lam = true → K.deep = true → ∀ f x, T.lm f = some x → Gl X x → (x == ("__debug__" : Str)) = false → ∀ (params : Arguments) (body : Expr) (scope : Scope) (p lpos pos : Pos) (m : Env → M D), LamX.lamSB X.env.scope scope = true → noPar params = true →
    (∀ (A : Around) (outer : List PySem.Env) (sh : Shared) (H : Hp) (E' : XK) (fa c' : Addr), OkL T K.low XA (LamX.lamCx X A outer sh H E' scope fa c') S E' (lamIn s scope) → SE (LamX.lamCx X A outer sh H E' scope fa c') S XA E' body m) →
    SE X S XA E (.Call (.Name x p) [.Lambda params body scope lpos] [] pos) (fun env => lamR K f (m env))
section
variable {T : Tab} {K : Cal} {XA : XAT} {X : Cx} {S : Stg X.K} {E : XK} {s : Sc}
theorem Ok.gl_ (o : Ok T K XA X S E s) {x : Str} (h : glB s.sc x = true) : Gl X x := by
  show X.env.kindOf x = _
  unfold PySem.Env.kindOf
  rw [o.hS]
  exact lookup_gl h
theorem Ok.var (o : Ok T K XA X S E s) {i : Nat} {x : Str} (h : vokB s i x = true) : X.N[i]? = some x ∧ Vis X.env.scope x ∧ (x == ("__debug__" : Str)) = false ∧ (x == ("__classdict__" : Str)) = false := by
  simp only [vokB, Bool.and_eq_true, beq_iff_eq] at h
  rw [o.hN, o.hS]
  exact ⟨h.1.1, vis_ok h.1.2, (name_ok h.2).1, (name_ok h.2).2.1⟩
theorem Ok.blk (o : Ok T K XA X S E s) {scope : Scope} (hcm : s.cm = true) (sh : Shared) (H : Hp) (C : Addr) (cl : List (Str × Addr)) (fp : List Addr) : Ok T K XA (X.blk sh H scope (compEnvC scope cl C X.env) fp) S E0 (inner s scope) where
  calm := o.calm
  nd := o.nd
  hN := o.hN
  hS := by
    show relS scope X.env.scope = relS scope s.sc
    rw [o.hS]
  hf := fun x h => h
  un := o.un
  bi := o.bi
  gl := o.gl
  fns := o.fns
  pass := fun pins σ H s e s' I c => by
    obtain ⟨_, _, _, _, _, _, _, _, _, _, _, _, z⟩ := c
    exact z.elim
  isx := fun z => by cases z
  lam := fun h => by cases h
theorem OkL.up (o : OkL T K XA X S E s) (h : s.lam = false) : Ok T K XA X S E s := { o with lam := fun z => by rw [h] at z; cases z }
theorem blk_ok (o : Ok T K XA X S E s) {scope : Scope} {own : List Nat} (h : blkB s scope own = true) : BlkOk X.N X.env.scope scope (own.map fun i => (s.N.getD i default, i)) := by
  simp only [blkB, Bool.and_eq_true, List.all_eq_true, decide_eq_true_eq, beq_iff_eq, Bool.or_eq_true, Bool.not_eq_true', List.any_eq_true] at h
  obtain ⟨⟨⟨⟨h1, h2⟩, h3⟩, h4⟩, h5⟩ := h
  refine ⟨h1, h2, fun p hp => ?_, fun y hy e => ?_, fun y hy e => ?_⟩
  · obtain ⟨i, hi, rfl⟩ := List.mem_map.mp hp
    rw [o.hN]
    show s.N[i]? = some (s.N.getD i default)
    rw [List.getD_eq_getElem?_getD, List.getElem?_eq_getElem (h3 i hi)]
    rfl
  · rw [o.hS]
    rcases h4 y hy with (z | z) | z
    · rw [e] at z; cases z
    · exact .inl z
    · exact .inr z
  · rw [o.hN]
    rcases h5 y hy with (z | z) | z
    · rcases e with e | e <;> rw [e] at z <;> cases z
    · obtain ⟨i, hi, e2⟩ := z
      refine .inl (List.mem_map.mpr ⟨(s.N.getD i default, i), List.mem_map.mpr ⟨i, hi, rfl⟩, ?_⟩)
      show s.N.getD i default = y.1
      rw [List.getD_eq_getElem?_getD, e2]
      rfl
    · exact .inr fun m => by rw [List.contains_iff_mem.mpr m] at z; cases z
theorem own2 (N : List Str) (own : List Nat) : (own.map fun i => (N.getD i default, i)).map (·.2) = own := by
  rw [List.map_map]
  exact List.map_id' _
theorem assignEach_map : ∀ {ts : List Expr} {env : PySem.Env}, (∀ e ∈ ts, plainB e = true) → assignEach ts env = ts.map fun t => (false, assign t env)
  | [], env, _ => rfl
  | t :: ts, env, h => by
    have e1 : assignEach (t :: ts) env = (false, assign t env) :: assignEach ts env := by
      have := h t List.mem_cons_self
      cases t <;> first | rfl | cases this
    rw [e1, assignEach_map fun e he => h e (List.mem_cons_of_mem _ he)]
    rfl
mutual
theorem okG_plain (s : Sc) : ∀ (t : Tg) (ex : Expr), okG s t ex = true → plainB ex = true
  | .name i, ex, h => by cases ex <;> first | rfl | cases h
  | .tup ts, ex, h => by cases ex <;> first | rfl | cases h
theorem okGs_plain (s : Sc) : ∀ (ts : List Tg) (es : List Expr), okGs s ts es = true → ∀ e ∈ es, plainB e = true
  | [], [], h => by simp
  | [], _ :: _, h => by cases h
  | _ :: _, [], h => by cases h
  | t :: ts, e :: es, h => by
    simp only [okGs, Bool.and_eq_true] at h
    intro e' he
    rcases List.mem_cons.mp he with rfl | he
    · exact okG_plain s t _ h.1
    · exact okGs_plain s ts es h.2 e' he
end
mutual
theorem okG_ok (o : Ok T K XA X S E s) {ns : List Nat} : ∀ (t : Tg) (ex : Expr), okG s t ex = true → (∀ i ∈ tgN t, i ∈ ns) → SG X ex ns (assignT t)
  | .name i, ex, h, hn => by
    cases ex <;> first | (cases h; done) | skip
    rename_i x p
    simp only [okG, tgVis, Bool.and_eq_true, Bool.or_eq_true, beq_iff_eq] at h
    have hl : Loc X.env.scope x := by
      rw [o.hS]
      exact h.2.imp id fun z => z.1
    exact sg_name o.nd (by rw [o.hN]; exact h.1) hl (by rw [o.hS]; exact h.2.symm.imp (fun z => o.hf x z.2) id) (hn i (by simp [tgN]))
  | .tup ts, ex, h, hn => by
    cases ex <;> first | (cases h; done) | skip
    rename_i es k p
    simp only [okG, Bool.and_eq_true] at h
    obtain ⟨hcm, h⟩ := h
    have hp := okGs_plain s ts es h
    exact sg_tup (o.calm hcm) (okGs_ok o ts es h hn) (by rw [assignEach_map hp, List.length_map]) (by
      rw [assignEach_map hp, List.findIdx?_eq_none_iff]
      intro x hx
      obtain ⟨t, _, rfl⟩ := List.mem_map.mp hx
      rfl)
theorem okGs_ok (o : Ok T K XA X S E s) {ns : List Nat} : ∀ (ts : List Tg) (es : List Expr), okGs s ts es = true → (∀ i ∈ tgNs ts, i ∈ ns) → SGs X es ns (assignTs ts)
  | [], [], h, hn => by
    have key : ∀ f, f = assignTs [] → SGs X [] ns f → SGs X [] ns (assignTs []) := fun f e h => e ▸ h
    exact key _ (by funext ds env; cases ds <;> rfl) sgs_nil
  | [], _ :: _, h, _ => by cases h
  | _ :: _, [], h, _ => by cases h
  | t :: ts, e :: es, h, hn => by
    have hp := okGs_plain s (t :: ts) (e :: es) h
    simp only [okGs, Bool.and_eq_true] at h
    have key : ∀ f, f = assignTs (t :: ts) → SGs X (e :: es) ns f → SGs X (e :: es) ns (assignTs (t :: ts)) := fun f e h => e ▸ h
    exact key _ (by funext ds env; cases ds <;> rfl) (sgs_cons (okG_ok o t e h.1 fun i z => hn i (by simp [tgNs, z])) (okGs_ok o ts es h.2 fun i z => hn i (by simp [tgNs, z])) (by
      rw [assignEach_map hp, assignEach_map fun e' he => hp e' (List.mem_cons_of_mem _ he)]; rfl))
end
end
end Ev
set_option Elab.async false
set_option linter.all false
set_option maxRecDepth 100000
set_option maxHeartbeats 1000000
/-! New dicts: displays. -/
namespace Ev
open PySem PySem.Spec PyProof.Rows L2
/-- an empty dict -/
def oE : Obj := { cls := .type "dict", data := .dict #[] }
theorem oE_ok {p : Addr} (h : (p == sysModules) = false) : DicOk p oE [] [] := ⟨⟨rfl, rfl, rfl⟩, ⟨#[], 0, rfl, rfl⟩, h, rfl, trivial, Nat.zero_le _⟩
theorem dicO_wr {p : Addr} {o : Obj} {es : List DictEntry} {kvs : List (D × D)} (k : DicOk p o es kvs) : Wr (DicO p o) := by
  obtain ⟨arr, ep, hd, _⟩ := k.dat
  exact .inr ⟨_, _, rfl, arr, ep, hd⟩
theorem oE_wr {p : Addr} : Wr (DicO p oE) := .inr ⟨_, _, rfl, #[], 0, rfl⟩
/-- pairs -/
inductive RPs (K : PySem.W.Frag) (Mu : Addr → Prop) (H : Hp) : List (V × V) → List (D × D) → Prop
  | nil : RPs K Mu H [] []
  | cons {x y : V} {k d : D} {ps : List (V × V)} {kvs : List (D × D)} : Rep K Mu H x k → Rep K Mu H y d → RPs K Mu H ps kvs → RPs K Mu H ((x, y) :: ps) ((k, d) :: kvs)
theorem RPs.stay {K : PySem.W.Frag} {Mu Mu' : Addr → Prop} {H H' : Hp} (s : Stay Mu Mu' H H') : ∀ {ps : List (V × V)} {kvs : List (D × D)}, RPs K Mu H ps kvs → RPs K Mu' H' ps kvs
  | _, _, .nil => .nil
  | _, _, .cons h1 h2 r => .cons (h1.stay s) (h2.stay s) (RPs.stay s r)
section
variable {X : Cx} {pins : List (Addr × Obj)} {σ : L2.St} {Mu : Addr → Prop}
theorem store_all {A : Around} {E : Value → Shared → Prop} {p : Addr} {Q : PUnit → Shared → Prop} (hu : A.units + 9 < cLine) (mp : Mu p) : ∀ {ps : List (V × V)} {kvs : List (D × D)} {ws : List (Value × Value)} {acc : List (D × D)} {o : Obj} {es : List DictEntry} {s : Shared} {H : Hp}, Inv X pins σ H s → H p = some (DicO p o) → DicOk p o es acc → RepP X.K Mu H es acc → RPs X.K Mu H ps kvs → VV ps ws → fits acc kvs = true →
    (∀ o' es' s', Inv X pins σ (upd H p (DicO p o')) s' → DicOk p o' es' (dPs acc kvs) → RepP X.K Mu (upd H p (DicO p o')) es' (dPs acc kvs) → Q PUnit.unit s') → wpAny (model X.prog X.w) A (storeAll p ws) Q E s
  | _, _, _, acc, o, es, s, H, I, hp, k, r, .nil, v, _, q => by
    cases v
    unfold storeAll
    rw [List.forIn_nil]
    have e : upd H p (DicO p o) = H := by
      funext b
      unfold upd
      split
      · rename_i z; rw [z, hp]
      · rfl
    refine wpAny_pure (q o es s ?_ k ?_)
    · rw [e]; exact I
    · rw [e]; exact r
  | _, _, _, acc, o, es, s, H, I, hp, k, r, .cons rx ry rs, v, f, q => by
    cases v with
    | @cons a b as bs h t =>
    obtain ⟨b1, b2⟩ := b
    simp only [fits, Bool.and_eq_true] at f
    have st := fun (u' : HO) => Stay.writeO (u' := u') mp hp (dicO_wr k)
    have key : wpAny (model X.prog X.w) A (dictSet p b1 b2) (fun _ s' => wpAny (model X.prog X.w) A (storeAll p bs) Q E s') E s := by
      refine dk_dictSet I hu hp k r rx h.1 f.1.1 (by rw [sizeLine_eq]; exact of_decide_eq_true f.1.2) ry h.2 fun o' es' s' I' k' r' => ?_
      refine store_all hu mp I' upd_same k' (r'.stay (st _)) (rs.stay (st _)) t f.2 fun o2 es2 s2 I2 k2 r2 => ?_
      rw [upd_upd] at I2 r2
      exact q o2 es2 s2 I2 k2 r2
    unfold storeAll at key ⊢
    rw [List.forIn_cons]
    refine wpAny_bind (wpAny_bind ?_)
    exact wpAny_mono key (fun _ s' z => wpAny_pure z) fun _ _ e => e
end
section
variable {X : Cx}
def tDD (X : Cx) (trs : List (TE × TE)) : TE := fun σ H Q => ∀ p, H p = none → tPairs trs σ (upd H p (DicO p oE)) fun ps H2 => H2 p = some (DicO p oE) ∧ ∃ (Mu : Addr → Prop) (kvs : List (D × D)), Mu p ∧ RPs X.K Mu H2 ps kvs ∧ fits [] kvs = true ∧ ∀ o es, DicOk p o es (dPs [] kvs) → RepP X.K Mu (upd H2 p (DicO p o)) es (dPs [] kvs) → Q (.ref p) (upd H2 p (DicO p o))
theorem pe_dd {pos : Pos} {keys : List (Option Expr)} {values : List Expr} {trs : List (TE × TE)} (hu : X.A.units + 64 < cLine) (h : PPs X pos keys values trs) (hall : keys.all (·.isSome) = true) (hl : keys.length = values.length) (h0 : keys ≠ []) (h15 : keys.length ≤ 15) : PE X (.Dict keys values pos) (tDD X trs) := by
  refine ⟨fun pins s σ H Q I q => ?_⟩
  have hn := I.hok.fresh (Nat.le_refl s.heap.objs.size)
  have hm : (s.heap.objs.size == sysModules) = false := beq_eq_false_iff_ne.mpr (Nat.ne_of_gt I.big)
  have I1 := I.laid (a := s.heap.objs.size) (o := DicO s.heap.objs.size oE) (h' := s.heap.push oE) (t' := s.toks) (fun _ _ q => Heap.get?_push_of_some _ q) (Nat.le_refl _) (dicO_ok (Heap.get?_push_size _ rfl))
  refine wpAny_Dict_any hall hl h0 h15 (thn (h.run pins _ σ _ _ I1 (q _ hn)) fun ws s2 ⟨ps, H2, I2, rel, e, Mu, kvs, mp, rp, fit, q2⟩ => ?_)
  exact store_all (by omega) mp I2 e (oE_ok hm) .nil rp rel fit fun o es s' I' k r => ⟨.ref s.heap.objs.size, _, I', rfl, q2 o es k r⟩
def tDZ : TE := fun σ H Q => ∀ p, H p = none → DicOk p oE [] [] → Q (.ref p) (upd H p (DicO p oE))
theorem pe_dz {pos : Pos} : PE X (.Dict [] [] pos) tDZ := ⟨fun pins s σ H Q I h => by
  have hm : (s.heap.objs.size == sysModules) = false := beq_eq_false_iff_ne.mpr (Nat.ne_of_gt I.big)
  exact wpAny_Dict_empty ⟨.ref s.heap.objs.size, _, I.laid (a := s.heap.objs.size) (o := DicO s.heap.objs.size oE) (h' := s.heap.push oE) (t' := s.toks) (fun _ _ q => Heap.get?_push_of_some _ q) (Nat.le_refl _) (dicO_ok (Heap.get?_push_size _ rfl)), rfl, h _ (I.hok.fresh (Nat.le_refl _)) (oE_ok hm)⟩⟩
end
section
variable {X : Cx} {S : Stg X.K} {XA : XAT} {E : XK} {pos : Pos}
theorem sf_dz : SF X S XA E (.Dict [] [] pos) (fun _ => ret (.dict [])) := by
  refine ⟨_, pe_dz, fun Mu env h σ H Q e g => fun p hp k => ?_⟩
  have pr : Pres S H (upd H p (DicO p oE)) := Pres.new hp
  exact (g.step pr).ret (e.hand.new hp) p (.of hp) (e.hdn (.of hp)) (e.hand.grow hp) (.dic upd_same k .nil)
/-- the pairs of a display -/
def SPs (X : Cx) (S : Stg X.K) (XA : XAT) (E : XK) (pos : Pos) (keys : List (Option Expr)) (values : List Expr) (m : Env → M (List D)) : Prop := ∃ trs, PPs X pos keys values trs ∧ ∀ (Mu : Addr → Prop) env h σ H Q, ES S Mu env h σ H → Good S Mu XA (m env h) H (fun ds h' H' => ∀ ps kvs, pairD ds = some kvs → RPs X.K Mu H' ps kvs → Q ps H') E → tPairs trs σ H Q
theorem sps_nil : SPs X S XA E pos [] [] (fun _ => ret []) := ⟨[], pps_nil, fun Mu env h σ H Q e g => g.ret e.hand [] [] rfl .nil⟩
theorem sps_cons {k v : Expr} {ks : List (Option Expr)} {vs : List Expr} {mk mv : Env → M D} {m : Env → M (List D)} (hk : SE X S XA E k mk) (hv : SE X S XA E v mv) (hr : SPs X S XA E pos ks vs m) : SPs X S XA E pos (some k :: ks) (v :: vs) (fun env => bnd (mk env) fun d => bnd (bnd (mv env) fun d => bnd (m env) fun ds => ret (d :: ds)) fun ds => ret (d :: ds)) := by
  obtain ⟨tk, pk, qk⟩ := hk
  obtain ⟨tv, pv, qv⟩ := hv
  obtain ⟨tr, pr, qr⟩ := hr
  refine ⟨_, pps_cons pk pv pr, fun Mu env h σ H Q e g => ?_⟩
  refine qk Mu env h σ H _ e (g.bnd.mono fun d h1 H1 p1 x1 g1 v rv => ?_)
  rw [bnd_assoc] at g1
  refine qv Mu env h1 σ H1 _ (e.pres p1 x1) (g1.bnd.mono fun d2 h2 H2 p2 x2 g2 w rw' => ?_)
  rw [bnd_assoc] at g2
  refine qr Mu env h2 σ H2 _ ((e.pres p1 x1).pres p2 x2) (g2.bnd.mono fun ds h3 H3 p3 x3 g3 ps kvs hp rp => ?_)
  rw [bnd_ret] at g3
  exact g3.ret x3 ((v, w) :: ps) ((d, d2) :: kvs) (by simp only [pairD, hp, Option.map_some]) (.cons ((rv.pres p2 x1).pres p3 x2) (rw'.pres p3 x2) rp)
theorem pairD_some : ∀ {ds : List D}, (∃ kvs, pairD ds = some kvs) ∨ pairD ds = none := fun {ds} => by cases pairD ds <;> simp
theorem sf_dd {keys : List (Option Expr)} {values : List Expr} {m : Env → M (List D)} (hu : X.A.units + 64 < cLine) (h : SPs X S XA E pos keys values m) (hall : keys.all (·.isSome) = true) (hl : keys.length = values.length) (h0 : keys ≠ []) (h15 : keys.length ≤ 15) : SF X S XA E (.Dict keys values pos) (fun env => bnd (m env) ddV) := by
  obtain ⟨trs, pt, q⟩ := h
  refine ⟨_, pe_dd hu pt hall hl h0 h15, fun Mu env h σ H Q e g => ?_⟩
  intro p hp
  have hf : Fr H p := .of hp
  have hdn : S.hd ≠ some p := e.hdn hf
  have pr : Pres S H (upd H p (DicO p oE)) := Pres.new hp
  have e1 : ES S (Add Mu p) env h σ (upd H p (DicO p oE)) := e.grow pr hf (e.hand.grow hp) (fun f => f.no upd_same oE_wr.nt)
  have hand_of : ∀ {H2 : Hp} {h2 : List D}, HandAt S (Add Mu p) H2 h2 → HandAt S Mu H2 h2 := fun {H2 h2} x => x.fewer (fun a m => .inl m) fun a ha => by
    rcases (x.lst ha).1 with m | m
    · exact m
    · exact absurd (by rw [ha, m]) hdn
  refine q (Add Mu p) env h σ _ _ e1 ?_
  have g2 : Good S Mu XA (bnd (m env) ddV h) H _ E := g
  rw [run_bnd] at g2
  cases qm : m env h with
  | ok ds h1 =>
    rw [qm] at g2
    have g3 : Good S Mu XA (ddV ds h1) H _ E := g2
    intro H2 p2 x2 ps kvs hk rp
    have hp2 : H2 p = some (DicO p oE) := p2.same p _ hdn upd_same oE_wr.nt
    have hdd : ddV ds = bnd (dPuts [] kvs) (fun kvs => ret (PyData.dict kvs)) := by unfold ddV; rw [hk]
    rw [hdd] at g3
    have g4 := g3.step (pr.trans p2)
    obtain ⟨z, g5⟩ := Good.puts (hand_of x2) _ _ g4.bnd
    refine ⟨hp2, Add Mu p, kvs, .inr rfl, rp, z, fun o es k r => ?_⟩
    have wr := dicO_wr k
    have pw : Pres S H (upd H2 p (DicO p o)) := (pr.trans p2).writeO (.inl hf) hp2 oE_wr wr
    have x3 : HandAt S (Add Mu p) (upd H2 p (DicO p o)) h1 := x2.writeO (.inr rfl) hdn hp2 oE_wr
    have g6 := g3.step pw
    obtain ⟨_, g7⟩ := Good.puts (hand_of x3) _ _ g6.bnd
    exact (g7.ret (hand_of x3)).ret (hand_of x3) p hf hdn x3 (.dic upd_same k r)
  | exc c h1 =>
    rw [qm] at g2
    intro cv dd H2 p2 x2 xa
    exact g2 cv dd H2 (pr.trans p2) (hand_of x2) xa
  | bad => rw [qm] at g2; exact g2.elim
end
end Ev
set_option Elab.async false
set_option linter.all false
set_option maxRecDepth 100000
set_option maxHeartbeats 1000000
/-! Methods of dicts: d.get(k, x), d.update(e). -/
namespace Ev
open PySem PySem.Spec PyProof.Rows L2
section
variable {X : Cx}
def IsDic (H : Hp) (x : V) : Prop := ∃ (a : Addr) (o : Obj) (es : List DictEntry) (kvs : List (D × D)), x = .ref a ∧ H a = some (DicO a o) ∧ DicOk a o es kvs
def tBD (r : V → List V → Hp → VK → Prop) (to : TE) (t : TA) : TE := fun σ H Q => to σ H fun x H1 => IsDic H1 x ∧ t σ H1 fun xs H2 => r x xs H2 Q
theorem pe_bd {o e : Expr} {es : List Expr} {to : TE} {t : TA} {name : Str} {apos cpos : Pos} {id : String} {r : V → List V → Hp → VK → Prop} (slot : PySem.Slot "dict" name id) (hty : typeOf (.builtin id) = pure (.type "method_descriptor")) (hm : MtR X id r) (ho : PE X o to) (ha : PA X (e :: es) t)
    (hbase : attributeBase o name X.env (eval o X.env) = eval o X.env)
    (hfew : ((backTo cpos (starEach (e :: es) X.env)).all (fun x => !x.1) && (backToKw cpos (keywordEach [] X.env)).all (fun x => x.1.isSome)
      && decide ((e :: es).length + ([] : List Keyword).length + (if ([] : List Keyword).isEmpty then 0 else 1) < 30)) = true)
    (hline : (apos.endLine == cpos.line) = true) (hs : starEach (e :: es) X.env = (false, eval e X.env) :: starEach es X.env) (hplain : (backTo cpos (starEach es X.env)).any (·.1) = false) :
    PE X (.Call (.Attribute o name apos) (e :: es) [] cpos) (tBD r to t) := by
  refine ⟨fun pins s σ H Q I h => ?_⟩
  refine wpAny_Call_method_late hbase hfew hline rfl (thn (ho.run pins s σ H _ I h) fun v s1 ⟨x, H1, I1, r1, ⟨a, ob, es', kvs, ex, h1, k⟩, q1⟩ => ?_)
  subst ex
  obtain rfl : v = .ref a := r1
  obtain ⟨hob, _, _⟩ := I1.hok a _ h1
  refine ⟨"dict", id, PySem.F.plainAttrs_dict, slot, hty, ⟨ob, hob, k.ex.1⟩, fun b eb => by cases eb; exact ⟨ob, hob, k.ex.2.1⟩, ?_⟩
  have hA := ha.run cpos pins s1 σ H1 _ I1 q1
  rw [hs] at hA ⊢
  refine Calls.callWith_builtin (by show (false || (backTo cpos (starEach es X.env)).any (·.1)) = false; rw [hplain]; rfl) (Calls.evalArgs_plain ?_)
  exact thn hA fun us s2 ⟨vs, H2, I2, r2, q2⟩ => hm pins s2 σ H2 (.ref a) vs (.ref a) us Q I2 rfl r2 q2
def rDGet (X : Cx) : V → List V → Hp → VK → Prop := fun x xs H Q => ∃ (Mu : Addr → Prop) (a : Addr) (o : Obj) (es : List DictEntry) (kvs : List (D × D)) (kv v : V) (kd d : D), x = .ref a ∧ xs = [kv, v] ∧ H a = some (DicO a o) ∧ DicOk a o es kvs ∧ RepP X.K Mu H es kvs ∧ Rep X.K Mu H kv kd ∧ keyFit kvs kd = true ∧ Rep X.K Mu H v d ∧ ∀ w, Rep X.K Mu H w ((dAt kvs kd).getD d) → Q w H
theorem mt_dget (hu : X.A.units + 9 < cLine) : MtR X "dict.get" (rDGet X) := by
  intro pins s σ H x xs v us Q I rx rxs h
  obtain ⟨Mu, a, o, es, kvs, kv, w, kd, d, rfl, rfl, ha, k, r, rk, fit, rd, q⟩ := h
  obtain ⟨u1, u2, rfl, r1, r2⟩ := vals2 rxs
  cases rx
  exact dk_get I hu ha k r rk r1 fit rd r2 fun v' w' s' I' rv ru => ⟨v', H, I', ru, q v' rv⟩
def rUpd (X : Cx) : V → List V → Hp → VK → Prop := fun x xs H Q => ∃ (Mu : Addr → Prop) (a b : Addr) (o ob : Obj) (es eb : List DictEntry) (kvs more : List (D × D)), x = .ref a ∧ xs = [.ref b] ∧ a ≠ b ∧ Mu a ∧ H a = some (DicO a o) ∧ DicOk a o es kvs ∧ RepP X.K Mu H es kvs ∧ H b = some (DicO b ob) ∧ DicOk b ob eb more ∧ RepP X.K Mu H eb more ∧ kvs.length + more.length ≤ sizeLine ∧ (kvs ≠ [] ∨ (more.all fun p => kInt p.1) = true) ∧ fits kvs more = true ∧
  ∀ o' es', DicOk a o' es' (dPs kvs more) → RepP X.K Mu H es' (dPs kvs more) → Q .non (upd H a (DicO a o'))
theorem all_of_ok {kvs : List (D × D)} (h : kvsOk kvs = true) : (kvs.all fun p => kInt p.1) = true ∨ (kvs.all fun p => kTup p.1) = true := by
  unfold kvsOk at h
  rwa [Bool.or_eq_true] at h
theorem mt_upd (hu : X.A.units + 10 < cLine) : MtR X "dict.update" (rUpd X) := by
  intro pins s σ H x xs v us Q I rx rxs h
  obtain ⟨Mu, a, b, o, ob, es, eb, kvs, more, rfl, rfl, hab, ma, ha, k, r, hb, kb, rb, hlen, hap, hf, q⟩ := h
  obtain ⟨u1, rfl, r1⟩ := vals1 rxs
  cases rx
  obtain rfl : u1 = .ref b := r1
  have hok := puts_ok more kvs hf k.ok k.nd
  have hl := puts_len more kvs
  have hl2 : (dPs kvs more).length ≤ sizeLine := by omega
  -- what kinds
  have kinds : ((kvs.all fun p => kInt p.1) = true ∧ (more.all fun p => kInt p.1) = true) ∨ (kvs ≠ [] ∧ (kvs.all fun p => kTup p.1) = true ∧ (more.all fun p => kTup p.1) = true) := by
    cases kvs with
    | nil =>
      rcases hap with z | z
      · exact (z rfl).elim
      · exact .inl ⟨rfl, z⟩
    | cons p r' =>
      rcases all_of_ok k.ok with z | z
      · exact .inl ⟨z, fits_int _ _ hf ⟨p, List.mem_cons_self, by rw [List.all_cons, Bool.and_eq_true] at z; exact z.1⟩⟩
      · exact .inr ⟨by simp, z, fits_tup _ _ hf ⟨p, List.mem_cons_self, by rw [List.all_cons, Bool.and_eq_true] at z; exact z.1⟩⟩
  rcases kinds with ⟨k1, k2⟩ | ⟨k0, k1, k2⟩
  · obtain ⟨ps, p1, d1, l1⟩ := dic_int I ha k r k1
    obtain ⟨qs, p2, d2, l2⟩ := dic_int I hb kb rb k2
    refine call_meetsIn PySem.F.slot_dict_update d1.typeIs PySem.F.entry_dict_update (PySem.F.args_dict_update_2 _ _) (meets_dict_update (mixKind X.prog X.w) a b hab kb.sys) ⟨_, _, d1, d2, by rw [l1, l2]; exact hlen, fun h' hd' ho' hs => ?_⟩
    have pi := p2.puts p1
    obtain ⟨o', arr, ep, ho'', hx', hdt', hk', hp', _⟩ := hd'
    refine ⟨.non, _, d_write (t' := s.toks) I (by rw [ha]; exact trivial) hs ⟨o', ho''⟩ (dicO_ok ho''), rfl, q o' arr.toList ⟨hx', ⟨arr, ep, hdt', rfl⟩, k.sys, hok.1, hok.2, hl2⟩ (repP_int hp' pi fun e he => hk' e (Array.mem_toList_iff.mp he))⟩
  · obtain ⟨ps, p1, d1, l1⟩ := dic_tup I ha k r k1
    obtain ⟨qs, p2, d2, l2⟩ := dic_tup I hb kb rb k2
    refine call_update_dictH (show (nestedKind X.prog X.w).room X.A.in1 by show X.A.units + 1 + 8 < cLine; omega) hab kb.sys d1 d2 (.inl fun z => k0 (by rw [z] at l1; exact List.length_eq_zero_iff.mp l1.symm)) (by rw [l1, l2]; exact hlen) fun h' hd' ho' hs => ?_
    have pt := p2.puts p1
    obtain ⟨o', arr, ep, ho'', hx', hdt', he', _, _⟩ := hd'
    refine ⟨.non, _, d_write (t' := s.toks) I (by rw [ha]; exact trivial) hs ⟨o', ho''⟩ (dicO_ok ho''), rfl, q o' arr.toList ⟨hx', ⟨arr, ep, hdt', rfl⟩, k.sys, hok.1, hok.2, hl2⟩ ?_⟩
    rw [he']
    exact repP_tup pt
end
theorem dPuts_fits : ∀ (ps kvs : List (D × D)), fits kvs ps = true → dPuts kvs ps = ret (dPs kvs ps)
  | [], kvs, _ => rfl
  | p :: r, kvs, f => by
    have f' := f
    simp only [fits, Bool.and_eq_true] at f
    show bnd (dPutV kvs p.1 p.2) (fun kvs' => dPuts kvs' r) = _
    unfold dPutV
    rw [f.1.1, f.1.2]
    show bnd (ret (dPut kvs p.1 p.2)) (fun kvs' => dPuts kvs' r) = _
    rw [bnd_ret, dPuts_fits r _ f.2]
    rfl
section
variable {X : Cx} {S : Stg X.K} {XA : XAT} {E : XK} {a b c : Expr} {ma mb mc : Env → M D} {pos : Pos}
theorem se_dget {apos cpos : Pos} (hu : X.A.units + 64 < cLine) (ho : SB X S XA E a ma) (hb : SE X S XA E b mb) (hc : SE X S XA E c mc) (hbase : attributeBase a "get" X.env (eval a X.env) = eval a X.env)
    (hfew : ((backTo cpos (starEach [b, c] X.env)).all (fun x => !x.1) && (backToKw cpos (keywordEach [] X.env)).all (fun x => x.1.isSome)
      && decide ([b, c].length + ([] : List Keyword).length + (if ([] : List Keyword).isEmpty then 0 else 1) < 30)) = true)
    (hline : (apos.endLine == cpos.line) = true) (hs : starEach [b, c] X.env = (false, eval b X.env) :: starEach [c] X.env) (hs2 : starEach [c] X.env = (false, eval c X.env) :: starEach [] X.env) (hplain : (backTo cpos (starEach [c] X.env)).any (·.1) = false) :
    SE X S XA E (.Call (.Attribute a "get" apos) [b, c] [] cpos) (fun env => bnd (ma env) fun d => bnd (isDc d) fun _ => bnd (mb env) fun kd => bnd (mc env) fun xd => getV d kd xd) := by
  obtain ⟨ta, pa, qa⟩ := ho
  obtain ⟨tb, pb, qb⟩ := hb
  obtain ⟨tc, pc, qc⟩ := hc
  refine ⟨_, pe_bd PySem.F.slot_dict_get PySem.F.type_dict_get (mt_dget (by omega)) pa (pa_cons pb (pa_cons pc pa_nil hs2) hs) hbase hfew hline hs hplain, fun Mu env h σ H Q e g => ?_⟩
  refine qa Mu env h σ H _ e (g.bnd.mono fun d h1 H1 p1 x1 g1 v rv => ?_)
  cases d with
  | dict kvs =>
    have g2 : Good S Mu XA (bnd (ret ()) (fun _ => bnd (mb env) fun kd => bnd (mc env) fun xd => getV (.dict kvs) kd xd) h1) H1 _ E := g1
    rw [bnd_ret] at g2
    obtain ⟨p, o, es, rfl, h1', k, r1⟩ := rv.dic
    refine ⟨⟨p, o, es, kvs, rfl, h1', k⟩, ?_⟩
    have e1 := e.pres p1 x1
    refine qb Mu env h1 σ H1 _ e1 (g2.bnd.mono fun kd h2 H2 p2 x2 g3 kv rk => ?_)
    refine qc Mu env h2 σ H2 _ (e1.pres p2 x2) (g3.bnd.mono fun xd h3 H3 p3 x3 g4 w rw' => ?_)
    have rv3 := (rv.pres p2 x1).pres p3 x2
    obtain ⟨p', o', es', ep, h3', k', r3⟩ := rv3.dic
    cases ep
    have g5 : Good S Mu XA (bnd (dAtV kvs kd) (fun o => ret (o.getD xd)) h3) H3 _ E := g4
    have g6 := g5.bnd
    unfold dAtV at g6
    obtain ⟨z, g7⟩ := Good.chk g6
    have g8 := g7.ret x3
    exact ⟨Mu, p, o', es', kvs, kv, w, kd, xd, rfl, rfl, h3', k', r3, rk.pres p3 x2, z, rw', fun w' rw2 => g8.ret x3 w' rw2⟩
  | _ => simp only [isDc, bnd_fail] at g1; exact g1.fail.elim
theorem ss_upd {i : Nat} {x : Str} {npos apos cpos : Pos} (hu : X.A.units + 64 < cLine) (hN : X.N[i]? = some x) (hv : Vis X.env.scope x) (hd : (x == ("__debug__" : Str)) = false) (hcd : (x == ("__classdict__" : Str)) = false) (ha : SE X S XA E a ma)
    (hbase : attributeBase (.Name x npos) "update" X.env (eval (.Name x npos) X.env) = eval (.Name x npos) X.env)
    (hfew : ((backTo cpos (starEach [a] X.env)).all (fun x => !x.1) && (backToKw cpos (keywordEach [] X.env)).all (fun x => x.1.isSome)
      && decide ([a].length + ([] : List Keyword).length + (if ([] : List Keyword).isEmpty then 0 else 1) < 30)) = true)
    (hline : (apos.endLine == cpos.line) = true) (hs : starEach [a] X.env = (false, eval a X.env) :: starEach [] X.env) (hplain : (backTo cpos (starEach [] X.env)).any (·.1) = false)
    (hsw : swapsWith (.Call (.Attribute (.Name x npos) "update" apos) [a] [] cpos) none pos.line X.env = pure false) :
    SS X S XA E (.Expr (.Call (.Attribute (.Name x npos) "update" apos) [a] [] cpos) pos) [i] (fun env => bnd (ownD env i) fun _ => bnd (ma env) fun d => nextM (updSlot env i d)) := by
  obtain ⟨ta, pa, qa⟩ := ha
  refine ⟨_, ps_expr (pe_bd PySem.F.slot_dict_update PySem.F.type_dict_update (mt_upd (by omega)) (pe_var hN hv hd hcd) (pa_cons pa pa_nil hs) hbase hfew hline hs hplain) hsw, fun Mu0 H0 Mu env h σ H Q at' g => ?_⟩
  dsimp only at g
  unfold ownD at g
  cases q : nth env i with
  | own c =>
    rw [q] at g
    cases c <;> first | (dsimp only at g; rw [bnd_fail] at g; exact g.fail.elim) | skip
    rename_i kvs
    dsimp only at g
    rw [bnd_ret] at g
    obtain ⟨p, e1, mp, hn, ow⟩ := own_invO at' q
    obtain ⟨o, es, q1, k, r⟩ := ow.ind
    refine ⟨.ref p, e1, ⟨p, o, es, kvs, rfl, q1, k⟩, ?_⟩
    refine qa Mu env h σ H _ at'.es (Good.mono (g.bnd at') fun d h1 H1 p1 x1 g1 v rv => ?_)
    obtain ⟨a1, g2⟩ := g1
    obtain ⟨p', e1', mp', hn', ow'⟩ := own_invO a1 q
    rw [e1] at e1'
    cases e1'
    obtain ⟨o', es', q1', k', r'⟩ := ow'.ind
    unfold updSlot nextM at g2
    rw [q] at g2
    cases d <;> first | (dsimp only at g2; rw [bnd_fail] at g2; exact g2.fail.elim) | skip
    rename_i more
    cases rv with
    | @dk b ob eb _ nb hb kb rb =>
    dsimp only at g2
    cases z : (decide (kvs.length + more.length ≤ line) && (!kvs.isEmpty || more.all fun p => kInt p.1)) with
    | false =>
      rw [z] at g2
      have g3 : GoodS S Mu0 H0 XA E [i] Mu σ H1 (bnd (bnd fail fun _ => bnd (dPuts kvs more) fun kvs' => ret (put env i (.own (.dict kvs')))) (fun env => ret (.next env)) h1) Q.nx Q.rt := g2
      rw [bnd_fail, bnd_fail] at g3
      exact g3.fail.elim
    | true =>
      rw [z] at g2
      have g3 : GoodS S Mu0 H0 XA E [i] Mu σ H1 (bnd (bnd (ret ()) fun _ => bnd (dPuts kvs more) fun kvs' => ret (put env i (.own (.dict kvs')))) (fun env => ret (.next env)) h1) Q.nx Q.rt := g2
      rw [bnd_ret] at g3
      rw [Bool.and_eq_true] at z
      -- what is put
      have hf : fits kvs more = true := by
        rw [bnd_assoc] at g3
        exact (Good.puts x1 more kvs (g3.bnd a1)).1
      have gp : dPuts kvs more = ret (dPs kvs more) := dPuts_fits more kvs hf
      rw [gp, bnd_ret, bnd_ret] at g3
      have hne : p ≠ b := fun z => nb (z ▸ mp')
      refine ⟨Mu, p, b, o', ob, es', eb, kvs, more, rfl, rfl, hne, mp', q1', k', r', hb, kb, rb, by rw [sizeLine_eq]; exact of_decide_eq_true z.1, ?_, hf, fun o2 es2 k2 r2 => ?_⟩
      · have z2 := z.2
        rw [Bool.or_eq_true] at z2
        refine z2.imp (fun y e => ?_) fun y => y
        rw [e] at y
        cases y
      · have w1 := dicO_wr k'
        have w2 := dicO_wr k2
        exact g3.next (a1.writeO q e1 q1' w1 w2 mp' hn' (.dic upd_same k2 (r2.stay (Stay.writeO mp' q1' w1)))) (Stp.writeO mp' q1' w1 w2)
  | _ => rw [q] at g; dsimp only at g; rw [bnd_fail] at g; exact g.fail.elim
end
end Ev
set_option Elab.async false
set_option linter.all false
set_option maxRecDepth 100000
set_option maxHeartbeats 1000000
/-! {k: v for target in iter if ..}. -/
namespace Ev
open PySem PySem.Spec PyProof.Rows L2
section
variable {X : Cx}
/-- one pair into the new dict at D -/
def rPut (K : PySem.W.Frag) (D0 : Addr) (y z : V) (H : Hp) (Nx : Hp → Prop) : Prop := ∃ (Mu : Addr → Prop) (ob : Obj) (es : List DictEntry) (kvs : List (D × D)) (kd d : D), H D0 = some (DicO D0 ob) ∧ DicOk D0 ob es kvs ∧ RepP K Mu H es kvs ∧ Rep K Mu H y kd ∧ keyFit kvs kd = true ∧ kvs.length < sizeLine ∧ Rep K Mu H z d ∧
  ∀ ob' es', DicOk D0 ob' es' (dPut kvs kd d) → RepP K Mu H es' (dPut kvs kd d) → Nx (upd H D0 (DicO D0 ob'))
theorem put_run {pins : List (Addr × Obj)} {σ : L2.St} {H : Hp} {s : Shared} {E : Value → Shared → Prop} {D0 : Addr} {y z : V} {u r : Value} {Nx : Hp → Prop} {Q : Unit → Shared → Prop} (hu : X.A.units + 9 < cLine) (I : Inv X pins σ H s) (ry : RelV y u) (rz : RelV z r) (h : rPut X.K D0 y z H Nx)
    (k : ∀ s' H', Inv X pins σ H' s' → Nx H' → Q () s') : wpAny (model X.prog X.w) X.A (dictSet D0 u r) Q E s := by
  obtain ⟨Mu, ob, es, kvs, kd, d, hD, dk, rp, rk, fit, hl, rd, q⟩ := h
  exact dk_dictSet I hu hD dk rp rk ry fit hl rd rz fun o' es' s' I' k' r' => k s' _ I' (q o' es' k' r')
/-- the comprehension's reading -/
def tDK (X : Cx) (wi : TI) (g : TG) (tt : TT) (tk tv : TE) (vs : List Nat) : TE := fun σ H Q => wi σ H fun J H1 => ∀ D0, H1 D0 = none → DicOk D0 oE [] [] → ∃ W : Nat → Nat → Hp → Prop, (∃ m, W 0 m (upd H1 D0 (DicO D0 oE))) ∧ ∀ i m H, W i m H →
  (J.stop i H ∧ Q (.ref D0) H) ∨ (J.go i H ∧ ∃ Nx : Hp → Prop, (∀ H', Nx H' → ∃ m', m' < m ∧ W (i + 1) m' H') ∧ ∀ x H', J.yld i H x H' → g x (wipe σ vs) H' fun σ2 H2 => wipe σ2 vs = wipe σ vs ∧ tt σ2 H2 fun b H3 =>
    if b = true then tk σ2 H3 fun y H4 => tv σ2 H4 fun z H5 => rPut X.K D0 y z H5 Nx else Nx H3)
/-- a block's turn is over: what its loop knows again -/
theorem turn_over {Y : Cx} {tg : Expr} {fp : List Addr} {it : Addr} {tn : Nat → Heap → Prop} {J : It} {σ σ8 : L2.St} {vs : List Nat} {i : Nat} {s7 s' : Shared} {H' : Hp} (T : Turn Y.prog Y.w Y.K tg J fp it tn) (I' : Inv Y ([] ++ pinsAt fp s7.heap) σ8 H' s') (hw8 : wipe σ8 vs = wipe σ vs) (st7 : tn i s7.heap) :
    Inv Y [] (wipe σ vs) H' s' ∧ tn i s'.heap ∧ ∀ b ∈ fp, H' b = none := by
  have pin' : ∀ b ∈ fp, ∀ o, s7.heap.get? b = some o → s'.heap.get? b = some o ∧ H' b = none := fun b hb o e =>
    let z := I'.pin (b, o) (List.mem_append_right _ (List.mem_append_right _ (mem_pinsAt hb e)))
    ⟨z.1, z.2.1⟩
  have hl : (wipe σ vs).length = σ8.length := by rw [← hw8, wipe_length]
  refine ⟨(I'.unpinned (pins := [])).weak hl fun j v e => ?_, T.keep _ _ _ st7 fun b hb o e => (pin' b hb o e).1, fun b hb => ?_⟩
  · rw [← hw8] at e
    exact (wipe_some e).1
  · obtain ⟨o, e, _⟩ := T.obj _ _ st7 b hb
    exact (pin' b hb o e).2
theorem pe_dcK {kx vx tg iter : Expr} {ifs : List Expr} {scope : Scope} {own : List (Str × Nat)} {pos : Pos} {wi : TI} {g : TG} {tt : TT} {tk tv : TE} (hc : X.calm = true) (hu : X.A.units + 64 < cLine) (hN : X.N.Nodup) (hi : PI X tg iter wi) (ok : BlkOk X.N X.env.scope scope own)
    (hg : ∀ (s : Shared) (H : Hp) (C : Addr) (cl : List (Str × Addr)) (fp : List Addr), PG (X.blk s H scope (compEnvC scope cl C X.env) fp) tg g)
    (ht : ∀ (s : Shared) (H : Hp) (C : Addr) (cl : List (Str × Addr)) (fp : List Addr), PTs (X.blk s H scope (compEnvC scope cl C X.env) fp) ifs tt)
    (hk : ∀ (s : Shared) (H : Hp) (C : Addr) (cl : List (Str × Addr)) (fp : List Addr), PE (X.blk s H scope (compEnvC scope cl C X.env) fp) kx tk)
    (he : ∀ (s : Shared) (H : Hp) (C : Addr) (cl : List (Str × Addr)) (fp : List Addr), PE (X.blk s H scope (compEnvC scope cl C X.env) fp) vx tv) (hs : ∀ x, foldedSetIterable iter X.env x = pure x) :
    PE X (.DictComp kx vx [⟨tg, iter, ifs, 0⟩] scope pos) (tDK X wi g tt tk tv (own.map (·.2))) := by
  refine ⟨fun pins s σ H Q I h => ?_⟩
  rw [arm_eval_DictComp]
  have hfree : ∀ y ∈ scope.names, y.2 = .free → ∃ c, X.env.cells.lookup y.1 = some c := fun y hy e => I.ok.has _ (ok.free y hy e)
  refine wpAny_comprehension_free (use := none) rfl hs (closure_ok hfree) ok.kind (fun y hy e => by rw [ok.uniq y hy, e])
    (thn (hi.run pins s σ H _ I h) fun xv s1 hx => thn hx fun itv s2 ⟨it, fp, tn, J, H2, ei, I2, T, st2, f2, q⟩ => ?_)
  subst ei
  refine wpAny_newObj_type (newEnv_comp ?_)
  generalize hD : s2.heap.objs.size = D0
  have hDn : H2 D0 = none := I2.hok.fresh (Nat.le_of_eq hD)
  have hsm : (D0 == sysModules) = false := by rw [← hD]; exact beq_eq_false_iff_ne.mpr (Nat.ne_of_gt I2.big)
  obtain ⟨W, ⟨m0, w0⟩, turn⟩ := q D0 hDn (oE_ok hsm)
  -- the new dict stands
  generalize hs3 : ({ s2 with heap := s2.heap.push { cls := .type "dict", data := .dict #[] } } : Shared) = s3
  have h3 : s3.heap = s2.heap.push { cls := .type "dict", data := .dict #[] } := by rw [← hs3]
  have I3 : Inv X pins σ (upd H2 D0 (DicO D0 oE)) s3 := by
    rw [← hs3]
    exact I2.laid (t' := s2.toks) (fun b o e => Heap.get?_push_of_some _ e) (Nat.le_of_eq hD) (dicO_ok (by rw [← hD]; exact Heap.get?_push_size _ rfl))
  generalize hH3 : upd H2 D0 (DicO D0 oE) = H3 at I3 w0
  have sz : ∀ b ∈ fp, b < s2.heap.objs.size := fun b hb => let ⟨o, e, _⟩ := T.obj _ _ st2 b hb; Heap.lt_size e
  have f3 : ∀ b ∈ fp, FpOk X pins H3 b ∧ b < s3.heap.objs.size := fun b hb => by
    have hlt := sz b hb
    refine ⟨⟨?_, (f2 b hb).2⟩, by rw [h3, Heap.size_push]; exact Nat.lt_succ_of_lt hlt⟩
    rw [← hH3, upd_ne (by rw [← hD]; exact Nat.ne_of_lt hlt)]
    exact (f2 b hb).1
  have st3 : tn 0 s3.heap := T.keep _ _ _ st2 fun b _ o e => by rw [h3]; exact Heap.get?_push_of_some _ e
  have I4 := block_start I3 ok hN f3
  -- the block's own context
  generalize hcl : cellsFrom (s3.heap.objs.size + 1) scope.names (cloFrom X.env.cells scope.names []) = cl at I4
  have pg := hg s3 H3 s3.heap.objs.size cl fp
  have pt := ht s3 H3 s3.heap.objs.size cl fp
  have pk := hk s3 H3 s3.heap.objs.size cl fp
  have pv := he s3 H3 s3.heap.objs.size cl fp
  show codeAny _ _ (.compStart (.DictComp kx vx [⟨tg, iter, ifs, 0⟩] scope pos) 0 (.ref it) (.ref D0) (compEnvC scope cl s3.heap.objs.size X.env)) (compPost (model X.prog X.w) X.A X.xe none (EP X pins σ Q) (.ref D0) s3.heap.objs.size) { s3 with heap := pushCells (s3.heap.push { cls := .type "dict", data := .dict #[] }) scope.names }
  generalize hce : compEnvC scope cl s3.heap.objs.size X.env = ce at I4 pg pt pk pv ⊢
  have cL : ce.locals = s3.heap.objs.size := by subst hce; rfl
  generalize hs4 : ({ s3 with heap := pushCells (s3.heap.push { cls := .type "dict", data := .dict #[] }) scope.names } : Shared) = s4 at I4 ⊢
  have st4 : tn 0 s4.heap := T.keep _ _ _ st3 fun b _ o e => by rw [← hs4]; exact pushCells_keeps _ _ _ _ (Heap.get?_push_of_some _ e)
  have stat : ∀ {σ' : L2.St} {H' : Hp} {s' : Shared}, Inv (X.blk s3 H3 scope ce fp) [] σ' H' s' → (∀ b ∈ fp, H' b = none) → ∀ b ∈ fp, FpOk (X.blk s3 H3 scope ce fp) [] H' b := fun {σ' H' s'} I' hn b hb =>
    ⟨hn b hb, (I'.ok.exf b hb).1, I'.ok.exfs b hb, .inl hb, fun x c e => (I'.ok.exf b hb).2 x c e, fun p hp => absurd (show p ∈ ([] : List (Addr × Obj)) ++ [] from hp) (by simp)⟩
  -- the loop
  refine codeAny_compStart_dict ?_ (T.self X.A 0 _ _ _ st4 ?_)
  all_goals
    refine compLoop_anyD (fun n s' => ∃ i H', (Inv (X.blk s3 H3 scope ce fp) [] (wipe σ (own.map (·.2))) H' s' ∧ tn i s'.heap ∧ ∀ b ∈ fp, H' b = none) ∧ W i n H') ?_ m0 ⟨0, H3, ⟨I4, st4, fun b hb => (f3 b hb).1.1⟩, w0⟩
    rintro n s5 ⟨i, H5, ⟨I5, st5, n5⟩, w5⟩
    rcases turn i n H5 w5 with ⟨stop, qq⟩ | ⟨go, Nx, hNx, step⟩
    · refine thnF (T.done (X.blk s3 H3 scope ce fp) rfl rfl rfl hc i [] s5 _ H5 (fun _ _ => False) I5 (stat I5 n5) st5 stop) fun r s6 ⟨hr, I6⟩ => ?_
      subst hr
      have I7 : Inv X pins σ H5 s6 := I3.call' (ch := fp) I6.os I6.base I6.hok I6.bare fun b hb => ⟨(f3 b hb).1.2.2.2.1, (f3 b hb).1.2.1, (f3 b hb).1.2.2.2.2.1, (f3 b hb).1.2.2.2.2.2⟩
      have nC : H5 s3.heap.objs.size = none := by rw [← cL]; exact I6.free
      obtain ⟨m, hn, _⟩ := I6.loc
      have hn : s6.heap.Ns ce.locals m := hn
      rw [cL] at hn
      obtain ⟨k0, k1, k2, k3, k4, k5⟩ := I3.fpOk (Nat.le_refl _) nC
      exact ⟨m, hn, fun h'' sb => ⟨.ref D0, H5, I7.turned (t' := s6.toks) (fun b o hb e => (sb.2 b hb).trans e) k0 k1 k3 k4 k5, rfl, qq⟩⟩
    · refine thnF (T.item (X.blk s3 H3 scope ce fp) rfl rfl rfl hc i [] s5 _ H5 (fun _ _ => False) I5 (stat I5 n5) st5 go) fun r s6 ⟨u, hr, h6⟩ => ?_
      subst hr
      refine thnF h6 fun _ s7 ⟨x, H7, I7, r7, y7, st7, n7⟩ => ?_
      refine thnF (pg.run _ s7 _ H7 x u _ (I7.pinned (stat I7 n7) (T.obj _ _ st7)) r7 (step x H7 y7)) fun _ s8 ⟨σ8, H8, I8, hw8, q8⟩ => ?_
      refine thnF (pt.run _ s8 σ8 H8 _ I8 q8) fun b s9 ⟨H9, I9, q9⟩ => ?_
      have again : ∀ {s' : Shared} {H' : Hp}, Inv (X.blk s3 H3 scope ce fp) ([] ++ pinsAt fp s7.heap) σ8 H' s' → Nx H' → ∃ m, m < n ∧ ∃ i H', (Inv (X.blk s3 H3 scope ce fp) [] (wipe σ (own.map (·.2))) H' s' ∧ tn i s'.heap ∧ ∀ b ∈ fp, H' b = none) ∧ W i m H' := fun {s' H'} I' nx =>
        let ⟨m', hm, w'⟩ := hNx H' nx
        ⟨m', hm, i + 1, H', turn_over (Y := X.blk s3 H3 scope ce fp) T I' hw8 st7, w'⟩
      cases b with
      | false => exact again I9 q9
      | true =>
        refine thnF (pk.run _ s9 σ8 H9 _ I9 q9) fun z s10 ⟨yk, H10, I10, r10, q10⟩ => ?_
        refine thnF (pv.run _ s10 σ8 H10 _ I10 q10) fun z2 s11 ⟨yv, H11, I11, r11, put⟩ => ?_
        exact put_run (X := X.blk s3 H3 scope ce fp) (show X.A.units + 9 < cLine by omega) I11 r10 r11 put fun s12 H12 I12 nx => again I12 nx
end
/-! ### what the evaluator makes of it -/
def dcF (f : D → Env → M Env) (mf : Env → M Bool) (mk mv : Env → M D) (env : Env) (vs : List Nat) : D → M (Option (D × D)) := fun d => bnd (f d (wipes env vs)) fun env1 => bnd (mf env1) fun b => iteM b (bnd (mk env1) fun kd => bnd (mv env1) fun vd => ret (some (kd, vd))) (ret none)
theorem dcL_cons_inv {F : D → M (Option (D × D))} {d : D} {ds : List D} {acc : List (D × D)} {h h' : List D} {ys : List (D × D)} (e : dcL F (d :: ds) acc h = .ok ys h') : ∃ o h1, F d h = .ok o h1 ∧ match o with
    | some p => keyFit acc p.1 = true ∧ acc.length < line ∧ dcL F ds (dPut acc p.1 p.2) h1 = .ok ys h'
    | none => dcL F ds acc h1 = .ok ys h' := by
  obtain ⟨o, h1, q1, q2⟩ := bnd_inv (m := F d) e
  refine ⟨o, h1, q1, ?_⟩
  cases o with
  | none => exact q2
  | some p =>
    have q2 : bnd (dPutV acc p.1 p.2) (fun acc' => dcL F ds acc') h1 = .ok ys h' := q2
    obtain ⟨a, h2, q3, q4⟩ := bnd_inv q2
    unfold dPutV chk at q3
    split at q3
    · rename_i c
      rw [Bool.and_eq_true] at c
      obtain ⟨rfl, rfl⟩ := ret_inv q3
      exact ⟨c.1, of_decide_eq_true c.2, q4⟩
    · exact (fail_inv q3).elim
section
variable {X : Cx} {S : Stg X.K} {XA : XAT} {E : XK} {kx vx tg iter : Expr} {ifs : List Expr} {scope : Scope} {pos : Pos}
theorem sf_dcm {wi : TI} {vs ns ovs : List Nat} {f : D → Env → M Env} {mi : Env → M (List D)} {mf : Env → M Bool} {mk mv : Env → M D} (hb : ∀ d env h, (∃ env', f d env h = .ok env' h) ∨ f d env h = .bad) (hns : ∀ i ∈ ns, i ∈ ovs)
    (qi : ∀ (Mu : Addr → Prop) env h σ H R, ES S Mu env h σ H → Good S Mu XA (mi env h) H (fun ds h' H' => ∀ J C, WalkOk X.K S tg J ds C → ds.length ≤ sizeLine → C Mu H' → (∀ Mu2 env2 h2 σ2 H2, ES S Mu2 env2 h2 σ2 H2 → Stay Mu Mu2 H' H2 → (∀ j ∈ vs, nth env2 j = nth env j ∧ σ2[j]? = σ[j]?) → C Mu2 H2) → R J H') E → wi σ H R) :
    SFm X S XA E (tDK X wi (tGm X.K tg ns f) (tTm X.K S XA E0 mf) (tEm X.K S XA E0 mk) (tEm X.K S XA E0 mv) ovs) (fun env => bnd (mi env) fun xs => bnd (calm (dcL (dcF f mf mk mv env ovs) xs [])) fun kvs => ret (.dict kvs)) := by
  intro Mu env h σ H Q e g
  refine qi Mu env h σ H _ e (g.bnd.mono fun ds h1 H1 p1 x1 g1 J C wk hlen ck later => ?_)
  intro Dp hD hE
  have e1 : ES S Mu env h1 σ H1 := e.pres p1 x1
  have n0 : Fr H Dp := p1.free (.of hD)
  have hdn : S.hd ≠ some Dp := x1.hdn (.of hD)
  obtain ⟨all, hend, hrun, fin⟩ : ∃ all hend, dcL (dcF f mf mk mv env ovs) ds [] h1 = .ok all hend ∧ ∀ H', Pres S H1 H' → HandAt S Mu H' hend → ∀ a, Fr H a → S.hd ≠ some a → HandAt S (Add Mu a) H' hend → OwnAt X.K (Add Mu a) H' a (.dict all) → Q (.ref a) H' := by
    have g2 : Good S Mu XA (bnd (calm (dcL (dcF f mf mk mv env ovs) ds [])) (fun kvs => ret (PyData.dict kvs)) h1) H1 _ E := g1
    rw [run_bnd, run_calm] at g2
    cases q : dcL (dcF f mf mk mv env ovs) ds [] h1 with
    | ok all hend =>
      rw [q] at g2
      refine ⟨all, hend, rfl, ?_⟩
      have g3 : Good S Mu XA (ret (PyData.dict all) hend) H1 _ E := g2
      rw [run_ret] at g3
      exact g3
    | exc x hx => rw [q] at g2; exact g2.elim
    | bad => rw [q] at g2; exact g2.elim
  have nowner : ∀ j, isOwn (nth env j) = true → σ[j]? ≠ some (some (.ref Dp)) := e.notnew n0
  refine ⟨fun i m Hc => m = ds.length - i ∧ i ≤ ds.length ∧ ∃ hc acc ob es, ES S (Add Mu Dp) env hc σ Hc ∧ Stay Mu (Add Mu Dp) H1 Hc ∧ Pres S H1 Hc ∧ Hc Dp = some (DicO Dp ob) ∧ DicOk Dp ob es acc ∧ RepP X.K (Add Mu Dp) Hc es acc ∧ dcL (dcF f mf mk mv env ovs) (ds.drop i) acc hc = .ok all hend, ⟨ds.length, rfl, Nat.zero_le _, h1, [], oE, [], ?_⟩, ?_⟩
  · exact ⟨e1.grow (Pres.new hD) (.of hD) (x1.grow hD) (notFr upd_same oE_wr.nt), Stay.ofNew (Pres.new hD) x1 (.of hD), Pres.new hD, upd_same, hE, .nil, hrun⟩
  rintro i m Hc ⟨rfl, hi, hc, acc, ob, es, e2, sy, pr, hDc, dk, ra, hr⟩
  have cc : C (Add Mu Dp) Hc := later _ env hc σ Hc e2 sy fun j _ => ⟨rfl, rfl⟩
  by_cases hlt : i < ds.length
  · refine .inr ⟨wk.go _ Hc i cc hlt, fun H' => ∃ m', m' < ds.length - i ∧ (m' = ds.length - (i + 1) ∧ i + 1 ≤ ds.length ∧ ∃ hc acc ob es, ES S (Add Mu Dp) env hc σ H' ∧ Stay Mu (Add Mu Dp) H1 H' ∧ Pres S H1 H' ∧ H' Dp = some (DicO Dp ob) ∧ DicOk Dp ob es acc ∧ RepP X.K (Add Mu Dp) H' es acc ∧ dcL (dcF f mf mk mv env ovs) (ds.drop (i + 1)) acc hc = .ok all hend), fun H' z => z, fun x H3 hy => ?_⟩
    have hd : ds[i]? = some ds[i] := List.getElem?_eq_getElem hlt
    obtain ⟨p3, x3, r3⟩ := wk.yld _ Hc hc i x H3 ds[i] cc e2.hand e2.nf hy hd
    rw [List.drop_eq_getElem_cons hlt] at hr
    obtain ⟨o, h5, hF, hr2⟩ := dcL_cons_inv hr
    obtain ⟨env1, h3, q1, q2⟩ := bnd_inv (m := f ds[i] (wipes env ovs)) hF
    obtain rfl : h3 = hc := by
      rcases hb ds[i] (wipes env ovs) hc with ⟨e', z⟩ | z
      · rw [z] at q1; cases q1; rfl
      · rw [z] at q1; cases q1
    obtain ⟨b, h4, q3, q4⟩ := bnd_inv (m := mf env1) q2
    have e3 : ES S (Add Mu Dp) env h3 σ H3 := e2.pres p3 x3
    refine ⟨Add Mu Dp, ds[i], wipes env ovs, env1, h3, fun env2 σ2 => ES S (Add Mu Dp) env2 h3 σ2 H3 ∧ wipe σ2 ovs = wipe σ ovs, fun env2 σ2 i v2 d2 j2 rr hi2 => ⟨j2.1.putV rr i, (wipe_set (hns i hi2)).trans j2.2⟩, r3, ⟨e3.wiped ovs, wipe_wipe⟩, q1, fun σ3 j3 => ⟨j3.2, ?_⟩⟩
    refine ⟨Add Mu Dp, env1, h3, j3.1, ?_⟩
    rw [q3]
    intro H4 p4 x4
    have wd : Wr (DicO Dp ob) := dicO_wr dk
    have hD3 : H3 Dp = some (DicO Dp ob) := p3.same Dp _ hdn hDc wd.nt
    have hD4 : H4 Dp = some (DicO Dp ob) := p4.same Dp _ hdn hD3 wd.nt
    have e4 : ES S (Add Mu Dp) env h4 σ H4 := e3.pres p4 x4
    have ra4 : RepP X.K (Add Mu Dp) H4 es acc := (ra.stay (p3.stay e2.hand)).stay (p4.stay x3)
    have sy4 : Stay Mu (Add Mu Dp) H1 H4 := (sy.trans (p3.stay e2.hand)).trans (p4.stay x3)
    cases b with
    | false =>
      dsimp only
      rw [if_neg Bool.false_ne_true]
      obtain ⟨z1, z2⟩ := ret_inv (a := (none : Option (D × D))) (b := o) (h := h4) (h' := h5) q4
      subst z1
      subst z2
      exact ⟨ds.length - (i + 1), by omega, rfl, by omega, h4, acc, ob, es, e4, sy4, (pr.trans p3).trans p4, hD4, dk, ra4, hr2⟩
    | true =>
      dsimp only
      rw [if_pos rfl]
      obtain ⟨kd, h6, q5, q6⟩ := bnd_inv (m := mk env1) (f := fun kd => bnd (mv env1) fun vd => ret (some (kd, vd))) q4
      obtain ⟨vd, h7, q7, q8⟩ := bnd_inv (m := mv env1) (f := fun vd => ret (some (kd, vd))) q6
      obtain ⟨z1, z2⟩ := ret_inv q8
      subst z1
      subst z2
      refine ⟨Add Mu Dp, env1, h4, j3.1.pres p4 x4, ?_⟩
      rw [q5]
      intro H6 p6 x6 y ry
      refine ⟨Add Mu Dp, env1, h6, (j3.1.pres p4 x4).pres p6 x6, ?_⟩
      rw [q7]
      intro H7 p7 x7 z rz
      have hD7 : H7 Dp = some (DicO Dp ob) := p7.same Dp _ hdn (p6.same Dp _ hdn hD4 wd.nt) wd.nt
      have e7 : ES S (Add Mu Dp) env h7 σ H7 := (e4.pres p6 x6).pres p7 x7
      have ra7 : RepP X.K (Add Mu Dp) H7 es acc := (ra4.stay (p6.stay x4)).stay (p7.stay x6)
      have sy7 : Stay Mu (Add Mu Dp) H1 H7 := (sy4.trans (p6.stay x4)).trans (p7.stay x6)
      have pr7 : Pres S H1 H7 := (((pr.trans p3).trans p4).trans p6).trans p7
      obtain ⟨fit, hl, hr3⟩ := hr2
      refine ⟨Add Mu Dp, ob, es, acc, kd, vd, hD7, dk, ra7, ry.pres p7 x6, fit, by rw [sizeLine_eq]; exact hl, rz, fun ob' es' dk' ra' => ?_⟩
      have wd' : Wr (DicO Dp ob') := dicO_wr dk'
      exact ⟨ds.length - (i + 1), by omega, rfl, by omega, h7, dPut acc kd vd, ob', es', e7.writeXO (.inr rfl) hdn hD7 wd wd' nowner, sy7.trans (Stay.writeO (.inr rfl) hD7 wd), pr7.writeO (.inl (.of hD)) hD7 wd wd', upd_same, dk', ra'.stay (Stay.writeO (.inr rfl) hD7 wd), hr3⟩
  · have ei : i = ds.length := by omega
    subst ei
    rw [List.drop_length] at hr
    obtain ⟨z1, z2⟩ := ret_inv (a := acc) (b := all) (h := hc) (h' := hend) hr
    subst z1
    subst z2
    refine .inl ⟨wk.stop _ Hc cc, ?_⟩
    exact fin Hc pr (e2.hand.fewer (fun a m => .inl m) fun a z => (x1.lst z).1) Dp n0 hdn e2.hand (.dic hDc dk ra)
end
end Ev
set_option Elab.async false
set_option linter.all false
set_option maxRecDepth 100000
set_option maxHeartbeats 4000000
/-! The checker is right: expressions. -/
namespace Ev
open PySem PySem.Spec PyProof.Rows L2

section
variable {X : Cx} {S : Stg X.K} {XA : XAT} {E : XK} {a : Expr} {ma : Env → M D} {pos : Pos}
theorem se_neg (ha : SE X S XA E a ma) : SE X S XA E (.UnaryOp .USub a pos) (fun env => bnd (ma env) negV) := by
  obtain ⟨ta, pa, qa⟩ := ha
  refine ⟨_, pe_un un_neg pa, fun Mu env h σ H Q e g => ?_⟩
  refine qa Mu env h σ H _ e (g.bnd.mono fun d h1 H1 p1 x1 g1 v rv => ?_)
  cases d with
  | int i => exact ⟨i, rv.int_inv, Good.ret (a := PyData.int (-i)) g1 x1 _ (.int _)⟩
  | _ => exact (Good.fail (show Good S Mu XA (fail h1) H1 _ E from g1)).elim
theorem SE.congr {m m' : Env → M D} (h : SE X S XA E a m) (e : ∀ env, m env = m' env) : SE X S XA E a m' := (funext e : m = m') ▸ h
theorem ST.congr {m m' : Env → M Bool} (h : ST X S XA E a m) (e : ∀ env, m env = m' env) : ST X S XA E a m' := (funext e : m = m') ▸ h
theorem SI.congr {m m' : Env → M (List D)} {tg : Expr} {vs : List Nat} (h : SI X S XA E tg a vs m) (e : ∀ env, m env = m' env) : SI X S XA E tg a vs m' := (funext e : m = m') ▸ h
theorem SF.congr {m m' : Env → M D} (h : SF X S XA E a m) (e : ∀ env, m env = m' env) : SF X S XA E a m' := (funext e : m = m') ▸ h
end
theorem boot_b1 (b : B1) : bootBuiltins (b1N b) = some (b1F b) := by cases b <;> decide +kernel
theorem boot_b2 (k : B2) : bootBuiltins (b2N k) = some (.builtin (b2F k)) := by cases k <;> decide +kernel
theorem boot_ty (t : Ty) : bootBuiltins (Str.ofString (tyN t)) = some (.type (tyN t)) := by cases t <;> decide +kernel
theorem boot_isa : bootBuiltins "isinstance" = some (.builtin "isinstance") := by decide +kernel
theorem b1_in (b : B1) : b1N b ∈ biN := by cases b <;> decide +kernel
theorem b2_in (b : B2) : b2N b ∈ biN := by cases b <;> decide +kernel
theorem ty_in (t : Ty) : Str.ofString (tyN t) ∈ biN := by cases t <;> decide +kernel
theorem b1_name (b : B1) : (b1N b == ("__debug__" : Str)) = false ∧ b1N b ≠ "__name__" := by cases b <;> decide +kernel
theorem ty_name (b : Ty) : (Str.ofString (tyN b) == ("__debug__" : Str)) = false ∧ Str.ofString (tyN b) ≠ "__name__" := by cases b <;> decide +kernel
section
variable {X : Cx} {S : Stg X.K} {XA : XAT} {E : XK} {a : Expr} {ma : Env → M D} {pos p : Pos}
/-- a built-in function, or type, of one value -/
theorem se_b1 {b : B1} (hc : X.calm = true) (hu : X.A.units + 64 < cLine) (hg : Gl X (b1N b)) (hm : X.mg (b1N b) = none) (ha : SB X S XA E a ma) (hp : plainB a = true) : SE X S XA E (.Call (.Name (b1N b) p) [a] [] pos) (fun env => bnd (ma env) (b1V b)) := by
  have c := c_b1 (X := X) (S := S) (XA := XA) (E := E) hc hu b
  have hv := boot_b1 b
  have hs := star_ok (es := []) (env := X.env) hp
  have hpl := noStar (es := []) (env := X.env) pos (by simp)
  have nm := b1_name b
  cases b
  · exact se_callB1 c hg hm hv ha nm.2 nm.1 hs hpl
  · exact se_callT1 c hg hm hv ha nm.2 nm.1 hs hpl
  · exact se_callT1 c hg hm hv ha nm.2 nm.1 hs hpl
  · exact se_callB1 c hg hm hv ha nm.2 nm.1 hs hpl
  · exact se_callB1 c hg hm hv ha nm.2 nm.1 hs hpl
  · exact se_callB1 c hg hm hv ha nm.2 nm.1 hs hpl
  · exact se_callB1 c hg hm hv ha nm.2 nm.1 hs hpl
  · exact se_callB1 c hg hm hv ha nm.2 nm.1 hs hpl
  · exact se_callB1 c hg hm hv ha nm.2 nm.1 hs hpl
  · exact se_callT1 c hg hm hv ha nm.2 nm.1 hs hpl
  · exact se_callB1 c hg hm hv ha nm.2 nm.1 hs hpl
  · exact se_callT1 c hg hm hv ha nm.2 nm.1 hs hpl
theorem sf_b1 {b : B1} (hc : X.calm = true) (hu : X.A.units + 64 < cLine) (hf : b1Fresh b = true) (hg : Gl X (b1N b)) (hm : X.mg (b1N b) = none) (ha : SB X S XA E a ma) (hp : plainB a = true) : SF X S XA E (.Call (.Name (b1N b) p) [a] [] pos) (fun env => bnd (ma env) (b1V b)) := by
  have c := c_b1f (X := X) (S := S) (XA := XA) (E := E) hc hu hf
  have hv := boot_b1 b
  have hs := star_ok (es := []) (env := X.env) hp
  have hpl := noStar (es := []) (env := X.env) pos (by simp)
  have nm := b1_name b
  cases b <;> first | (cases hf; done) | skip
  · exact sf_callT1 c hg hm hv ha nm.2 nm.1 hs hpl
  · exact sf_callB1 c hg hm hv ha nm.2 nm.1 hs hpl
  · exact sf_callT1 c hg hm hv ha nm.2 nm.1 hs hpl
/-- a comprehension, with what stands in its block -/
theorem sf_lc {elt tg iter : Expr} {ifs : List Expr} {scope : Scope} {ovs ns vs : List Nat} {N : List Str} {f : D → Env → M Env} {mi : Env → M (List D)} {mf : Env → M Bool} {me : Env → M D} (hc : X.calm = true) (hN : X.N.Nodup) (hi : SI X S XA E tg iter vs mi)
    (ok : BlkOk X.N X.env.scope scope (ovs.map fun i => (N.getD i default, i))) (hns : ∀ i ∈ ns, i ∈ ovs)
    (hg : ∀ (s : Shared) (H : Hp) (C : Addr) (cl : List (Str × Addr)) (fp : List Addr), SG (X.blk s H scope (compEnvC scope cl C X.env) fp) tg ns f)
    (ht : ∀ (s : Shared) (H : Hp) (C : Addr) (cl : List (Str × Addr)) (fp : List Addr), STs (X.blk s H scope (compEnvC scope cl C X.env) fp) S XA E0 ifs mf)
    (he : ∀ (s : Shared) (H : Hp) (C : Addr) (cl : List (Str × Addr)) (fp : List Addr), SE (X.blk s H scope (compEnvC scope cl C X.env) fp) S XA E0 elt me) (hs : ∀ x, foldedSetIterable iter X.env x = pure x) (hb : ∀ d env h, (∃ env', f d env h = .ok env' h) ∨ f d env h = .bad) :
    SF X S XA E (.ListComp elt [⟨tg, iter, ifs, 0⟩] scope pos) (fun env => bnd (mi env) fun xs => bnd (calm (lcL (lcF f mf me env ovs) xs)) fun ys => ret (.list ys)) := by
  obtain ⟨wi, pi, qi⟩ := hi
  have p := pe_lc (te := tEm X.K S XA E0 me) (tt := tTm X.K S XA E0 mf) (g := tGm X.K tg ns f) (pos := pos) hc hN pi ok (fun s H C cl fp => (hg s H C cl fp).canon) (fun s H C cl fp => (ht s H C cl fp).canon) (fun s H C cl fp => (he s H C cl fp).canon) hs
  rw [own2] at p
  exact ⟨_, p, sf_lcm hb hns qi⟩
theorem sf_dc {kx vx tg iter : Expr} {ifs : List Expr} {scope : Scope} {ovs ns vs : List Nat} {N : List Str} {f : D → Env → M Env} {mi : Env → M (List D)} {mf : Env → M Bool} {mk mv : Env → M D} (hc : X.calm = true) (hu : X.A.units + 64 < cLine) (hN : X.N.Nodup) (hi : SI X S XA E tg iter vs mi)
    (ok : BlkOk X.N X.env.scope scope (ovs.map fun i => (N.getD i default, i))) (hns : ∀ i ∈ ns, i ∈ ovs)
    (hg : ∀ (s : Shared) (H : Hp) (C : Addr) (cl : List (Str × Addr)) (fp : List Addr), SG (X.blk s H scope (compEnvC scope cl C X.env) fp) tg ns f)
    (ht : ∀ (s : Shared) (H : Hp) (C : Addr) (cl : List (Str × Addr)) (fp : List Addr), STs (X.blk s H scope (compEnvC scope cl C X.env) fp) S XA E0 ifs mf)
    (hk : ∀ (s : Shared) (H : Hp) (C : Addr) (cl : List (Str × Addr)) (fp : List Addr), SE (X.blk s H scope (compEnvC scope cl C X.env) fp) S XA E0 kx mk)
    (he : ∀ (s : Shared) (H : Hp) (C : Addr) (cl : List (Str × Addr)) (fp : List Addr), SE (X.blk s H scope (compEnvC scope cl C X.env) fp) S XA E0 vx mv) (hs : ∀ x, foldedSetIterable iter X.env x = pure x) (hb : ∀ d env h, (∃ env', f d env h = .ok env' h) ∨ f d env h = .bad) :
    SF X S XA E (.DictComp kx vx [⟨tg, iter, ifs, 0⟩] scope pos) (fun env => bnd (mi env) fun xs => bnd (calm (dcL (dcF f mf mk mv env ovs) xs [])) fun kvs => ret (.dict kvs)) := by
  obtain ⟨wi, pi, qi⟩ := hi
  have p := pe_dcK (tk := tEm X.K S XA E0 mk) (tv := tEm X.K S XA E0 mv) (tt := tTm X.K S XA E0 mf) (g := tGm X.K tg ns f) (pos := pos) hc hu hN pi ok (fun s H C cl fp => (hg s H C cl fp).canon) (fun s H C cl fp => (ht s H C cl fp).canon) (fun s H C cl fp => (hk s H C cl fp).canon) (fun s H C cl fp => (he s H C cl fp).canon) hs
  rw [own2] at p
  exact ⟨_, p, sf_dcm hb hns qi⟩
theorem sset_lc {i : Nat} {y : Str} {py spos : Pos} {elt tg iter : Expr} {ifs : List Expr} {scope : Scope} {ovs ns vs : List Nat} {N : List Str} {f : D → Env → M Env} {mi : Env → M (List D)} {mf : Env → M Bool} {me : Env → M D} (hc : X.calm = true) (hN : X.N.Nodup) (hy : X.N[i]? = some y) (hyl : X.env.scope.names.lookup y = some .local)
    (hsw : swapsWith (.ListComp elt [⟨tg, iter, ifs, 0⟩] scope pos) (some (.Name y py)) spos.line X.env = pure true) (hi : SI X S XA E tg iter vs mi)
    (ok : BlkOk X.N X.env.scope scope (ovs.map fun i => (N.getD i default, i))) (hns : ∀ i ∈ ns, i ∈ ovs)
    (hg : ∀ (s : Shared) (H : Hp) (C : Addr) (cl : List (Str × Addr)) (fp : List Addr), SG (X.blk s H scope (compEnvC scope cl C X.env) fp) tg ns f)
    (ht : ∀ (s : Shared) (H : Hp) (C : Addr) (cl : List (Str × Addr)) (fp : List Addr), STs (X.blk s H scope (compEnvC scope cl C X.env) fp) S XA E0 ifs mf)
    (he : ∀ (s : Shared) (H : Hp) (C : Addr) (cl : List (Str × Addr)) (fp : List Addr), SE (X.blk s H scope (compEnvC scope cl C X.env) fp) S XA E0 elt me) (hs : ∀ x, foldedSetIterable iter X.env x = pure x) (hb : ∀ d env h, (∃ env', f d env h = .ok env' h) ∨ f d env h = .bad) :
    ∃ te, PS X (.Assign [.Name y py] (.ListComp elt [⟨tg, iter, ifs, 0⟩] scope pos) spos) (tAsg te (gName i)) ∧ SFm X S XA E te (fun env => bnd (mi env) fun xs => bnd (calm (lcL (lcF f mf me env ovs) xs)) fun ys => ret (.list ys)) := by
  obtain ⟨wi, pi, qi⟩ := hi
  have p := ps_setLc (te := tEm X.K S XA E0 me) (tt := tTm X.K S XA E0 mf) (g := tGm X.K tg ns f) (pos := pos) (spos := spos) (py := py) hc hN hy hyl hsw pi ok (fun s H C cl fp => (hg s H C cl fp).canon) (fun s H C cl fp => (ht s H C cl fp).canon) (fun s H C cl fp => (he s H C cl fp).canon) hs
  rw [own2] at p
  exact ⟨_, p, sf_lcm hb hns qi⟩
theorem assignT_calm : ∀ (t : Tg) (d : D) (env : Env) (h : List D), (∃ env', assignT t d env h = .ok env' h) ∨ assignT t d env h = .bad := by
  intro t
  refine Tg.rec (motive_1 := fun t => ∀ (d : D) (env : Env) (h : List D), (∃ env', assignT t d env h = .ok env' h) ∨ assignT t d env h = .bad)
    (motive_2 := fun ts => ∀ (ds : List D) (env : Env) (h : List D), (∃ env', assignTs ts ds env h = .ok env' h) ∨ assignTs ts ds env h = .bad) ?_ ?_ ?_ ?_ t
  · intro i d env h
    exact .inl ⟨_, run_ret _ _⟩
  · intro ts ih d env h
    cases d <;> first | exact ih _ _ _ | exact .inr (run_fail _)
  · intro ds env h
    cases ds with
    | nil => exact .inl ⟨_, run_ret _ _⟩
    | cons => exact .inr (run_fail _)
  · intro t ts h1 h2 ds env h
    cases ds with
    | nil => exact .inr (run_fail _)
    | cons d ds =>
      show (∃ env', bnd (assignT t d env) (assignTs ts ds) h = .ok env' h) ∨ bnd (assignT t d env) (assignTs ts ds) h = .bad
      rcases h1 d env h with ⟨e1, q⟩ | q
      · rw [bnd_ok q]; exact h2 ds e1 h
      · exact .inr (by rw [run_bnd, q]; rfl)
end
end Ev
set_option Elab.async false
set_option linter.all false
set_option maxRecDepth 100000
set_option maxHeartbeats 1000000
/-! A new list that is the sum of two. -/
namespace Ev
open PySem PySem.Spec PyProof.Rows L2
section
variable {X : Cx} {S : Stg X.K} {XA : XAT} {E : XK} {a b : Expr} {ma mb : Env → M D} {pos : Pos}
theorem sf_cat (ha : SB X S XA E a ma) (hb : SB X S XA E b mb) (hl : ∀ env h d h', mb env h = .ok d h' → ∃ ds, d = .list ds) : SF X S XA E (.BinOp a .Add b pos) (fun env => bnd (ma env) fun x => bnd (mb env) fun y => bopV .add x y) := by
  obtain ⟨ta, pa, qa⟩ := ha
  obtain ⟨tb, pb, qb⟩ := hb
  refine ⟨_, pe_op op_catR pa pb, fun Mu env h σ H Q e g => ?_⟩
  refine qa Mu env h σ H _ e (g.bnd.mono fun d h1 H1 p1 x1 g1 v rv => ?_)
  have g1' : Good S Mu XA (bnd (mb env) (fun y => bopV .add d y) h1) H1 _ E := g1
  have hk : ∀ d2 h2, mb env h1 = .ok d2 h2 → ∃ ds, d2 = .list ds := fun d2 h2 q => hl env h1 d2 h2 q
  cases qm : mb env h1 with
  | ok d2 h2 =>
    obtain ⟨ys, rfl⟩ := hk d2 h2 qm
    refine qb Mu env h1 σ H1 _ (e.pres p1 x1) ?_
    rw [run_bnd, qm] at g1'
    rw [qm]
    intro H2 p2 x2 w rw'
    have g2 : Good S Mu XA (bopV .add d (.list ys) h2) H1 _ E := g1'
    have g3 := g2.step p2
    cases d with
    | list xs =>
      have g4 : Good S Mu XA (chk (decide (xs.length + ys.length ≤ line)) (PyData.list (xs ++ ys)) h2) H2 _ E := g3
      obtain ⟨z, g5⟩ := Good.chk g4
      obtain ⟨p, us, rfl, hp, r1⟩ := (rv.pres p2 x1).lst
      obtain ⟨q, ws, rfl, hq, r2⟩ := rw'.lst
      refine ⟨p, q, us, ws, rfl, rfl, hp, hq, ?_, fun c hc => ?_⟩
      · rw [r1.length, r2.length, sizeLine_eq]
        have := of_decide_eq_true z
        unfold line at this
        omega
      · exact good_newl x2 hc (g5.mono fun d h' H' _ _ k a ha hn => k a (p1.free (p2.free ha)) hn) (r1.append r2)
    | _ => exact (Good.fail (show Good S Mu XA (fail h2) H2 _ E from g3)).elim
  | exc c h2 =>
    refine qb Mu env h1 σ H1 _ (e.pres p1 x1) ?_
    rw [run_bnd, qm] at g1'
    rw [qm]
    exact g1'
  | bad =>
    rw [run_bnd, qm] at g1'
    exact g1'.elim
end
end Ev
set_option Elab.async false
set_option linter.all false
set_option maxRecDepth 100000
set_option maxHeartbeats 1000000
/-! isinstance(x, (T1, T2, ..)). -/
namespace Ev
open PySem PySem.Spec PyProof.Rows L2
def tyD : D → String
  | .none => "NoneType" | .bool _ => "bool" | .int _ => "int" | .str _ => "str" | .list _ => "list" | .tuple _ => "tuple" | .dict _ => "dict"
theorem kit_tyV (d : D) (t : Ty) : L2.kitB (tyD d) (tyN t) = some (tyV t d) := by
  cases t <;> cases d <;> dsimp only [tyD, tyN] <;> first
    | (change L2.kitB _ _ = some true; decide +kernel)
    | (change L2.kitB _ _ = some false; decide +kernel)
theorem kit_any {K : PySem.W.Frag} (d : D) : ∀ ts : List Ty, PySem.W.kitAny K (.type (tyD d)) (ts.map fun t => .type (tyN t)) = some (ts.any fun t => tyV t d)
  | [] => L2.kitAny_nil
  | t :: ts => by
    rw [List.map_cons, List.any_cons]
    refine L2.kitAny_cons (b := tyV t d) (L2.kit_ty (kit_tyV d t)) (fun h => ?_) fun h => ?_
    · rw [kit_any d ts, h, Bool.false_or]
    · rw [h, Bool.true_or]
theorem ty_sqT {K : PySem.W.Frag} {H : Hp} {a : Addr} {xs : List V} (h : SqT K H a xs) : L2.TyX K H (.ref a) (.type "tuple") := by
  rcases h with (h | ⟨o, h⟩) | h
  · exact .base (.tup h)
  · exact .fTuple h
  · obtain ⟨o, its, n, h1, h2, _⟩ := h
    exact .kTuple h1 h2
theorem ty_of {K : PySem.W.Frag} {S : Stg K} {Mu : Addr → Prop} {H : Hp} {v : V} {d : D} (r : BRep S Mu H v d) : L2.TyX K H v (.type (tyD d)) ∨ (tyD d = "dict" ∧ ∃ (a : Addr) (o : Obj) (es : List DictEntry) (kvs : List (D × D)), v = .ref a ∧ H a = some (DicO a o) ∧ DicOk a o es kvs) := by
  rcases r with r | ⟨a, rfl, n, o⟩
  · cases r with
    | non => exact .inl (.base .non)
    | bl b => exact .inl (.base (.bl b))
    | int i => exact .inl (.base (.int i))
    | str x => exact .inl (.base (.str x))
    | lst _ h _ => exact .inl (.base (.lst h))
    | tup h _ => exact .inl (ty_sqT h.sq)
    | dk _ h k _ => exact .inr ⟨rfl, _, _, _, _, rfl, h, k⟩
  · cases o with
    | lst q r => exact .inl (.base (.lst q))
    | dic q k r => exact .inr ⟨rfl, _, _, _, _, rfl, q, k⟩
/-- isinstance(d, (c1, c2, ..)) of a dict -/
def rIsiD (K : PySem.W.Frag) : List V → Hp → VK → Prop := fun xs H Q => ∃ (a : Addr) (o : Obj) (es : List DictEntry) (kvs : List (D × D)) (tp : Addr) (cs : List V) (us : List Value) (b : Bool), xs = [.ref a, .ref tp] ∧ H a = some (DicO a o) ∧ DicOk a o es kvs ∧ H tp = some (.tup cs) ∧ Paired L2.ClsV cs us ∧ PySem.W.kitAny K (.type "dict") us = some b ∧ Q (.bl b) H
theorem call_isiD {X : Cx} : CallR X (.builtin "isinstance") (rIsiD X.K) := by
  intro pins s σ H xs us Q I r h
  obtain ⟨a, o, es, kvs, tp, cs, ws, b, rfl, hA, dk, hT, k, e, q⟩ := h
  obtain ⟨u1, u2, rfl, r1, r2⟩ := vals2 r
  cases (show u2 = Value.ref tp from r2)
  cases (show u1 = Value.ref a from r1)
  obtain ⟨hao, _, _⟩ := I.hok a _ hA
  obtain ⟨_, its, rv, ob, h1, h2, n, h3⟩ := (show ObjOk X.prog X.w H s.heap tp (.tup cs) from I.hok tp _ hT)
  have e3 := L2.ClsV.all k rv
  subst e3
  obtain ⟨oc, od, dt, sl⟩ := ob
  simp only at h2 h3
  subst h2 h3
  exact PySem.W.kia_tup PySem.W.kitx_dict I.kIn ⟨o, hao, dk.ex.1⟩ h1 e (fun z => nomatch z) fun tk => ⟨.bl b, H, I.tok tk, rfl, q⟩
section
variable {X : Cx} {S : Stg X.K} {XA : XAT} {E : XK} {a : Expr} {ma : Env → M D}
/-- the names of types -/
def TysAt (X : Cx) (ts : List Ty) (ys : List Expr) : Prop := ∃ ta : TA, PA X ys ta ∧ ∀ σ H Q, Q (ts.map fun t => V.ty (tyN t)) H → ta σ H Q
theorem tys_nil : TysAt X [] [] := ⟨_, pa_nil, fun σ H Q h => h⟩
theorem tys_cons {t : Ty} {ts : List Ty} {y : Str} {p2 : Pos} {ys : List Expr} (hg2 : Gl X y) (hm2 : X.mg y = none) (hv2 : bootBuiltins y = some (.type (tyN t))) (hn2 : y ≠ "__name__") (hd2 : (y == ("__debug__" : Str)) = false)
    (hs : starEach (.Name y p2 :: ys) X.env = (false, eval (.Name y p2) X.env) :: starEach ys X.env) (hr : TysAt X ts ys) : TysAt X (t :: ts) (.Name y p2 :: ys) := by
  obtain ⟨ta, pa, q⟩ := hr
  refine ⟨_, pa_cons (pe_bltn (v := .ty (tyN t)) hg2 hm2 hv2 rfl hn2 hd2) pa hs, fun σ H Q h => ?_⟩
  exact q σ H _ h
theorem cls_tys : ∀ ts : List Ty, Paired L2.ClsV (ts.map fun t => V.ty (tyN t)) (ts.map fun t => Value.type (tyN t))
  | [] => .nil
  | t :: ts => .cons (.ty _) (cls_tys ts)
theorem se_isaT {ts : List Ty} {ys : List Expr} {k : Nat} {p pos p3 : Pos} (hg : Gl X "isinstance") (hm : X.mg "isinstance" = none) (hv : bootBuiltins "isinstance" = some (.builtin "isinstance")) (ha : SB X S XA E a ma) (hl : ts.length ≤ 10) (ht : TysAt X ts ys)
    (he : starEach [a, .Tuple ys k p3] X.env = (false, eval a X.env) :: starEach [.Tuple ys k p3] X.env) (hpl : (backTo pos (starEach [.Tuple ys k p3] X.env)).any (·.1) = false) (he2 : starEach [.Tuple ys k p3] X.env = (false, eval (.Tuple ys k p3) X.env) :: starEach [] X.env) :
    SE X S XA E (.Call (.Name "isinstance" p) [a, .Tuple ys k p3] [] pos) (fun env => bnd (ma env) fun x => ret (.bool (ts.any fun t => tyV t x))) := by
  obtain ⟨ta, pa, qa⟩ := ha
  obtain ⟨tt, pt, qt⟩ := ht
  refine ⟨_, pe_callB (L2.call_isiT.or call_isiD) hg hm hv (pa_cons pa (pa_cons (pe_tup pt) pa_nil he2) he) (by decide) (by decide) he hpl, fun Mu env h σ H Q e g => ?_⟩
  refine qa Mu env h σ H _ e (g.bnd.mono fun d h1 H1 p1 x1 g1 v rv => ?_)
  refine qt σ H1 _ ⟨by rw [List.length_map, sizeLine_eq]; omega, fun tp hp => ?_⟩
  have pr : Pres S H1 (upd H1 tp (.tup (ts.map fun t => V.ty (tyN t)))) := Pres.new hp
  have gq := (g1.step pr).ret (x1.new hp) _ (.bl _)
  rcases ty_of (rv.pres pr x1) with t | ⟨t, a2, o2, es2, kvs2, rfl, h2, k2⟩
  · exact .inl ⟨v, tp, _, _, _, _, rfl, upd_same, cls_tys ts, t, kit_any d ts, gq⟩
  · exact .inr ⟨a2, o2, es2, kvs2, tp, _, _, _, rfl, h2, k2, upd_same, cls_tys ts, by rw [← t]; exact kit_any d ts, gq⟩
end
end Ev
set_option Elab.async false
set_option linter.all false
set_option maxRecDepth 100000
set_option maxHeartbeats 8000000
/-! The checker is right: expressions, by its fuel. -/
namespace Ev
open PySem PySem.Spec PyProof.Rows L2

section
variable (T : Tab) (K : Cal) (XA : XAT)
def rngM (env : Env) (lo hi st : IE) : M (List D) := bnd (evE K env lo) fun x => bnd (asInt x) fun l => bnd (evE K env hi) fun y => bnd (asInt y) fun h => bnd (evE K env st) fun z => bnd (asInt z) fun s => rangeV l h s
structure Sound (n : Nat) : Prop where
  e : ∀ (X : Cx) (S : Stg X.K) (E : XK) (s : Sc) (e : IE) (ex : Expr), Ok T K XA X S E s → okE T n s e ex = true → SE X S XA E ex (fun env => evE K env e)
  b : ∀ (X : Cx) (S : Stg X.K) (E : XK) (s : Sc) (e : IE) (ex : Expr), Ok T K XA X S E s → okB T n s e ex = true → SB X S XA E ex (fun env => bor e (evE K env e) env)
  v : ∀ (X : Cx) (S : Stg X.K) (E : XK) (s : Sc) (e : IE) (ex : Expr) (vs : List Nat), Ok T K XA X S E s → okB T n s e ex = true → notLook e = true → (∀ i ∈ srcV e, i ∈ vs) → SV X S XA E ex vs (fun env => bor e (evE K env e) env)
  a : ∀ (X : Cx) (S : Stg X.K) (E : XK) (s : Sc) (e : IE) (ex : Expr), Ok T K XA X S E s → okB T n s e ex = true → SA X S XA E ex (fun env => argOf e (evE K env e) env)
  es : ∀ (X : Cx) (S : Stg X.K) (E : XK) (s : Sc) (e : List IE) (ex : List Expr), Ok T K XA X S E s → okEs T n s e ex = true → SEs X S XA E ex (fun env => evEs K env e)
  as : ∀ (X : Cx) (S : Stg X.K) (E : XK) (s : Sc) (e : List IE) (ex : List Expr), Ok T K XA X S E s → okAs T n s e ex = true → (∀ x ∈ ex, plainB x = true) ∧ SAs X S XA E ex (fun env => evAs K env e)
  o : ∀ (X : Cx) (S : Stg X.K) (E : XK) (s : Sc) (e : IE) (ex : Option Expr), Ok T K XA X S E s → okO T n s e ex = true → SO X S XA E ex (fun env => optOf e (evE K env e))
  t : ∀ (X : Cx) (S : Stg X.K) (E : XK) (s : Sc) (e : IE) (ex : Expr), Ok T K XA X S E s → okT T n s e ex = true → ST X S XA E ex (fun env => tst e (evE K env e) env)
  V : ∀ (X : Cx) (S : Stg X.K) (E : XK) (s : Sc) (e : IE) (ex : Expr), Ok T K XA X S E s → okV T n s e ex = true → ST X S XA E ex (fun env => bnd (evE K env e) truthyV)
  w : ∀ (X : Cx) (S : Stg X.K) (E : XK) (s : Sc) (e : IE) (ex : Expr), Ok T K XA X S E s → okW T n s e ex = true → SW X S XA E ex (fun env => evE K env e)
  fs : ∀ (X : Cx) (S : Stg X.K) (E : XK) (s : Sc) (e : List IE) (ex : List Expr), Ok T K XA X S E s → okIf T n s e ex = true → STs X S XA E ex (fun env => evIf K env e)
  ds : ∀ (X : Cx) (S : Stg X.K) (E : XK) (s : Sc) (e : List IE) (ks : List (Option Expr)) (vs : List Expr) (p : Pos), Ok T K XA X S E s → okDs T n s e ks vs = true → ks.all (·.isSome) = true ∧ ks.length = vs.length ∧ (e = [] ↔ ks = []) ∧ SPs X S XA E p ks vs (fun env => evEs K env e)
  rg : ∀ (X : Cx) (S : Stg X.K) (E : XK) (s : Sc) (lo hi st : IE) (ex : Expr), Ok T K XA X S E s → okRg T n s lo hi st ex = true → plainB ex = true ∧ SRg X S XA E ex (fun env => rngM K env lo hi st)
  i : ∀ (X : Cx) (S : Stg X.K) (E : XK) (s : Sc) (e : IE) (tg ex : Expr) (vs : List Nat), Ok T K XA X S E s → okI T n s e tg ex = true → (∀ i ∈ srcs e, i ∈ vs) → SI X S XA E tg ex vs (fun env => itr e (evE K env e) env)
end
section
variable {T : Tab} {K : Cal} {XA : XAT}
theorem sound0 : Sound T K XA 0 := by
  constructor <;> intros <;> rename_i h <;> first | (cases h; done) | (rename_i h2; cases h2; done) | (rename_i h2 _; cases h2)

theorem cst_ok {X : Cx} {S : Stg X.K} {E : XK} {d : D} {ex : Expr} (h : cokB d ex = true) : SE X S XA E ex (fun _ => ret d) := by
  unfold cokB at h
  split at h
  · cases d <;> first | (cases h; done) | skip
    exact se_tC pe_non fun _ _ => .non
  · cases d <;> first | (cases h; done) | skip
    rw [← eq_of_beq h]
    exact se_tC pe_bl fun _ _ => .bl _
  · cases d <;> first | (cases h; done) | skip
    rw [← eq_of_beq h]
    exact se_tC pe_int fun _ _ => .int _
  · cases d <;> first | (cases h; done) | skip
    rw [← eq_of_beq h]
    exact se_tC pe_str fun _ _ => .str _
  · cases h
theorem glob_ok {X : Cx} {S : Stg X.K} {E : XK} {s : Sc} {x : Str} {d : D} {p : Pos} (o : Ok T K XA X S E s) (hg : glB s.sc x = true) (hn : nameB x = true) (hd : (match T.cst x with | some d' => sameD d d' | none => false) = true) : SE X S XA E (.Name x p) (fun _ => ret d) := by
  cases q : T.cst x with
  | none => rw [q] at hd; cases hd
  | some d' =>
    rw [q] at hd
    obtain rfl := sameD_eq d d' hd
    obtain ⟨u, v, h1, h2, h3⟩ := o.gl x d q
    exact se_tC (pe_glob (o.gl_ hg) h1 h2 (name_ok hn).1) h3
theorem bor_var {X : Cx} {S : Stg X.K} {E : XK} {e : IE} {ex : Expr} {m : Env → M D} (h : SE X S XA E ex m) (he : ∀ i, e = .var i → False) (hl : ∀ i, e = .look i → False) : SE X S XA E ex (fun env => bor e (m env) env) := by
  cases e <;> first | exact h | exact (he _ rfl).elim | exact (hl _ rfl).elim
theorem sound_b {n : Nat} (I : Sound T K XA n) (X : Cx) (S : Stg X.K) (E : XK) (s : Sc) (e : IE) (ex : Expr) (o : Ok T K XA X S E s) (h : okB T (n + 1) s e ex = true) : SB X S XA E ex (fun env => bor e (evE K env e) env) := by
  unfold okB at h
  split at h
  · obtain ⟨h1, h2, h3, h4⟩ := o.var h
    exact sb_var h1 h2 h3 h4
  · cases h
  · obtain ⟨h1, h2, h3, h4⟩ := o.var h
    exact sb_look h1 h2 h3 h4
  · cases h
  · exact (bor_var (I.e X S E s _ _ o h) (by assumption) (by assumption)).sb
theorem sound_ds {n : Nat} (I : Sound T K XA n) (X : Cx) (S : Stg X.K) (E : XK) (s : Sc) (e : List IE) (ks : List (Option Expr)) (vs : List Expr) (p : Pos) (o : Ok T K XA X S E s) (h : okDs T (n + 1) s e ks vs = true) : ks.all (·.isSome) = true ∧ ks.length = vs.length ∧ (e = [] ↔ ks = []) ∧ SPs X S XA E p ks vs (fun env => evEs K env e) := by
  unfold okDs at h
  split at h
  · exact ⟨rfl, rfl, by simp, sps_nil⟩
  · simp only [Bool.and_eq_true] at h
    obtain ⟨h1, h2, _, h3⟩ := I.ds X S E s _ _ _ p o h.2
    exact ⟨by rw [List.all_cons, h1]; rfl, by rw [List.length_cons, List.length_cons, h2], by simp, sps_cons (I.e X S E s _ _ o h.1.1) (I.e X S E s _ _ o h.1.2) h3⟩
  · cases h
theorem sound_v {n : Nat} (I : Sound T K XA n) (X : Cx) (S : Stg X.K) (E : XK) (s : Sc) (e : IE) (ex : Expr) (vs : List Nat) (o : Ok T K XA X S E s) (h : okB T (n + 1) s e ex = true) (hl : notLook e = true) (hv : ∀ i ∈ srcV e, i ∈ vs) : SV X S XA E ex vs (fun env => bor e (evE K env e) env) := by
  unfold okB at h
  split at h
  · obtain ⟨h1, h2, h3, h4⟩ := o.var h
    exact sv_var h1 h2 h3 h4 (hv _ (by simp [srcV]))
  · cases h
  · cases hl
  · cases h
  · exact (bor_var (I.e X S E s _ _ o h) (by assumption) (by assumption)).sv
theorem sound_a {n : Nat} (I : Sound T K XA n) (X : Cx) (S : Stg X.K) (E : XK) (s : Sc) (e : IE) (ex : Expr) (o : Ok T K XA X S E s) (h : okB T (n + 1) s e ex = true) : SA X S XA E ex (fun env => argOf e (evE K env e) env) := by
  unfold okB at h
  split at h
  · obtain ⟨h1, h2, h3, h4⟩ := o.var h
    exact sa_var h1 h2 h3 h4
  · cases h
  · refine ⟨fun _ _ _ => False, ⟨fun pins s σ H Q I h => h.elim⟩, fun Mu env h σ H Q e g => ?_⟩
    have g' : Good S Mu XA (bnd fail (fun d => ret (Slot.val d)) h) H (fun s h' H' => ∀ v, ArgAt S Mu H' v s → Q v H') E := g
    rw [bnd_fail] at g'
    exact g'.fail
  · cases h
  · have hne : ∀ i, e = .var i → False := by assumption
    have hnl : ∀ i, e = .look i → False := by assumption
    have hh := (I.e X S E s _ _ o h).sa
    cases e <;> first | exact hh | exact (hne _ rfl).elim | exact (hnl _ rfl).elim
theorem sound_es {n : Nat} (I : Sound T K XA n) (X : Cx) (S : Stg X.K) (E : XK) (s : Sc) (e : List IE) (ex : List Expr) (o : Ok T K XA X S E s) (h : okEs T (n + 1) s e ex = true) : SEs X S XA E ex (fun env => evEs K env e) := by
  unfold okEs at h
  split at h
  · exact ses_nil
  · simp only [Bool.and_eq_true] at h
    exact ses_cons (I.e X S E s _ _ o h.1.1) (I.es X S E s _ _ o h.2) (star_ok h.1.2)
  · cases h
theorem sound_as {n : Nat} (I : Sound T K XA n) (X : Cx) (S : Stg X.K) (E : XK) (s : Sc) (e : List IE) (ex : List Expr) (o : Ok T K XA X S E s) (h : okAs T (n + 1) s e ex = true) : (∀ x ∈ ex, plainB x = true) ∧ SAs X S XA E ex (fun env => evAs K env e) := by
  unfold okAs at h
  split at h
  · exact ⟨by simp, sas_nil⟩
  · rename_i e es x xs
    simp only [Bool.and_eq_true] at h
    obtain ⟨hp, hs⟩ := I.as X S E s _ _ o h.2
    refine ⟨by
      intro y hy
      rcases List.mem_cons.mp hy with rfl | hy
      · exact h.1.2
      · exact hp y hy, ?_⟩
    have ha := I.a X S E s _ _ o h.1.1
    exact sas_cons ha hs (star_ok h.1.2)
  · cases h
theorem sound_o {n : Nat} (I : Sound T K XA n) (X : Cx) (S : Stg X.K) (E : XK) (s : Sc) (e : IE) (ex : Option Expr) (o : Ok T K XA X S E s) (h : okO T (n + 1) s e ex = true) : SO X S XA E ex (fun env => optOf e (evE K env e)) := by
  unfold okO at h
  split at h
  · exact so_none
  · cases h
  · rename_i hne
    have hh := so_some (I.e X S E s _ _ o h)
    cases e <;> first | exact hh | exact (hne rfl).elim
  · cases h
theorem tst_val {X : Cx} {S : Stg X.K} {E : XK} {e : IE} {ex : Expr} {m : Env → M D} (h : ST X S XA E ex (fun env => bnd (m env) truthyV)) (he : ∀ i, e ≠ .var i) (hl : ∀ i, e ≠ .look i) : ST X S XA E ex (fun env => tst e (m env) env) := by
  cases e <;> first | exact h | exact (he _ rfl).elim | exact (hl _ rfl).elim
theorem sound_t {n : Nat} (I : Sound T K XA n) (X : Cx) (S : Stg X.K) (E : XK) (s : Sc) (e : IE) (ex : Expr) (o : Ok T K XA X S E s) (h : okT T (n + 1) s e ex = true) : ST X S XA E ex (fun env => tst e (evE K env e) env) := by
  unfold okT at h
  split at h
  · exact st_not (I.t X S E s _ _ o h)
  · rename_i op a b l o' r p
    simp only [Bool.and_eq_true, decide_eq_true_eq] at h
    obtain ⟨⟨⟨rfl, h1⟩, h2⟩, h3⟩ := h
    exact st_cmp (opd_cop (by have := o.un; omega) op) (isB_cmp op) (I.b X S E s _ _ o h1) (I.b X S E s _ _ o h2) (behind_ok h3)
  · rename_i op op' a b c l o1 o2 r r' p
    simp only [Bool.and_eq_true, decide_eq_true_eq] at h
    obtain ⟨⟨⟨⟨⟨rfl, rfl⟩, h1⟩, h2⟩, h3⟩, h4⟩ := h
    exact st_chain (opd_cop (by have := o.un; omega) op) (opd_cop (by have := o.un; omega) op') (isB_cmp op') (I.e X S E s _ _ o h1) (I.e X S E s _ _ o h2) (I.e X S E s _ _ o h3) (behind_ok h4)
  · have hh := (I.w X S E s _ _ o h).st
    refine tst_val hh (fun i z => ?_) fun i z => ?_
    all_goals
      subst z
      cases n with
      | zero => cases h
      | succ n =>
        unfold okW at h
        split at h <;> first | (cases h; done) | (simp_all; done)
  · simp only [Bool.and_eq_true] at h
    exact st_any (I.b X S E s _ _ o h.1) (isTrue_ok h.2)
theorem sound_V {n : Nat} (I : Sound T K XA n) (X : Cx) (S : Stg X.K) (E : XK) (s : Sc) (e : IE) (ex : Expr) (o : Ok T K XA X S E s) (h : okV T (n + 1) s e ex = true) : ST X S XA E ex (fun env => bnd (evE K env e) truthyV) := by
  unfold okV at h
  split at h
  · simp only [Bool.and_eq_true] at h
    exact st_any (I.e X S E s _ _ o h.1).sb (isTrue_ok h.2)
  · rename_i hne
    have hh := I.t X S E s _ _ o h
    cases e <;> first | exact hh | exact (hne _ rfl).elim | skip
    obtain ⟨t, p, q⟩ := hh
    refine ⟨t, p, fun Mu env h σ H Q e g => ?_⟩
    have g' : Good S Mu XA (bnd fail truthyV h) H (fun d h' H' => Q d H') E := g
    rw [bnd_fail] at g'
    exact g'.fail.elim
theorem sound_w {n : Nat} (I : Sound T K XA n) (X : Cx) (S : Stg X.K) (E : XK) (s : Sc) (e : IE) (ex : Expr) (o : Ok T K XA X S E s) (h : okW T (n + 1) s e ex = true) : SW X S XA E ex (fun env => evE K env e) := by
  unfold okW at h
  split at h
  · simp only [Bool.and_eq_true] at h
    exact sw_and (I.V X S E s _ _ o h.1) (I.w X S E s _ _ o h.2)
  · simp only [Bool.and_eq_true] at h
    exact sw_or (I.V X S E s _ _ o h.1) (I.w X S E s _ _ o h.2)
  · exact sw_and1 (I.V X S E s _ _ o h)
  · exact sw_or1 (I.V X S E s _ _ o h)
  · cases h
theorem sound_fs {n : Nat} (I : Sound T K XA n) (X : Cx) (S : Stg X.K) (E : XK) (s : Sc) (e : List IE) (ex : List Expr) (o : Ok T K XA X S E s) (h : okIf T (n + 1) s e ex = true) : STs X S XA E ex (fun env => evIf K env e) := by
  unfold okIf at h
  split at h
  · exact sts_nil
  · exact sts_one (I.t X S E s _ _ o h)
  · cases h
theorem i0 {e : IE} (h : sameI0 e = true) : e = .cst (.int 0) := by
  unfold sameI0 at h
  split at h
  · rfl
  · cases h
theorem i1 {e : IE} (h : sameI1 e = true) : e = .cst (.int 1) := by
  unfold sameI1 at h
  split at h
  · rfl
  · cases h
theorem SRg.congr {X : Cx} {S : Stg X.K} {E : XK} {ex : Expr} {m m' : Env → M (List D)} (h : SRg X S XA E ex m) (e : ∀ env, m env = m' env) : SRg X S XA E ex m' := (funext e : m = m') ▸ h
theorem asInt_int (i : Int) : asInt (.int i) = ret i := rfl
theorem evE_cst (K : Cal) (env : Env) (d : D) : evE K env (.cst d) = ret d := rfl
theorem sound_rg {n : Nat} (I : Sound T K XA n) (X : Cx) (S : Stg X.K) (E : XK) (s : Sc) (lo hi st : IE) (ex : Expr) (o : Ok T K XA X S E s) (h : okRg T (n + 1) s lo hi st ex = true) : plainB ex = true ∧ SRg X S XA E ex (fun env => rngM K env lo hi st) := by
  unfold okRg at h
  split at h
  · simp only [Bool.and_eq_true, beq_iff_eq] at h
    obtain ⟨⟨⟨⟨rfl, h1⟩, h2⟩, h3⟩, h4⟩ := h
    obtain rfl := i0 h2
    refine ⟨rfl, (srg_1 (o.gl_ h1) (o.bi _ (by decide +kernel)) (I.e X S E s _ _ o h3) (star_ok h4)).congr fun env => ?_⟩
    unfold rngM
    simp only [evE_cst, bnd_ret, asInt_int]
  · simp only [Bool.and_eq_true, beq_iff_eq] at h
    obtain ⟨⟨⟨⟨⟨rfl, h1⟩, h2⟩, h3⟩, h4⟩, h5⟩ := h
    refine ⟨rfl, (srg_2 (o.gl_ h1) (o.bi _ (by decide +kernel)) (I.e X S E s _ _ o h2) (I.e X S E s _ _ o h3) (star_ok h4) (star_ok h5) (noStar _ (by simpa using h5))).congr fun env => ?_⟩
    unfold rngM
    simp only [evE_cst, bnd_ret, asInt_int]
  · cases h
theorem sound_i {n : Nat} (I : Sound T K XA n) (X : Cx) (S : Stg X.K) (E : XK) (s : Sc) (e : IE) (tg ex : Expr) (vs : List Nat) (o : Ok T K XA X S E s) (h : okI T (n + 1) s e tg ex = true) (hv : ∀ i ∈ srcs e, i ∈ vs) : SI X S XA E tg ex vs (fun env => itr e (evE K env e) env) := by
  have walkL : ∀ (m : M (List D)), bnd (bnd m fun xs => ret (.list xs)) walkD = m := fun m => by
    rw [bnd_assoc]
    have : (fun a => bnd (ret (PyData.list a)) walkD) = ret := by
      funext a
      rw [bnd_ret]
      rfl
    rw [this, bnd_ret_right]
  unfold okI at h
  split at h
  · simp only [Bool.and_eq_true, beq_iff_eq] at h
    obtain ⟨⟨⟨⟨⟨rfl, h1⟩, h2⟩, h3⟩, h4⟩, h5⟩ := h
    obtain rfl := i0 h2
    obtain rfl := i1 h3
    refine (si_range1 (o.gl_ h1) (o.bi _ (by decide +kernel)) (I.e X S E s _ _ o h4) (star_ok h5)).congr fun env => ?_
    show _ = bnd (evE K env (.range _ _ _)) walkD
    simp only [evE, bnd_ret, asInt_int]
    rw [← walkL (bnd (evE K env _) fun y => bnd (asInt y) fun hi => rangeV 0 hi 1)]
    simp only [bnd_assoc]
  · simp only [Bool.and_eq_true, beq_iff_eq] at h
    obtain ⟨⟨⟨⟨⟨⟨rfl, h1⟩, h2⟩, h3⟩, h4⟩, h5⟩, h6⟩ := h
    obtain rfl := i1 h2
    refine (si_range2 (o.gl_ h1) (o.bi _ (by decide +kernel)) (I.e X S E s _ _ o h3) (I.e X S E s _ _ o h4) (by rw [star_ok h5, star_ok h6]; rfl) (by rw [star_ok h6]; rfl)).congr fun env => ?_
    show _ = bnd (evE K env (.range _ _ _)) walkD
    simp only [evE, bnd_ret, asInt_int]
    rw [← walkL (bnd (evE K env _) fun x => bnd (asInt x) fun lo => bnd (evE K env _) fun y => bnd (asInt y) fun hi => rangeV lo hi 1)]
    simp only [bnd_assoc]
  · simp only [Bool.and_eq_true, beq_iff_eq] at h
    obtain ⟨⟨⟨⟨⟨⟨⟨rfl, h1⟩, h2⟩, h3⟩, h4⟩, h5⟩, h6⟩, h7⟩ := h
    refine (si_range3 (o.gl_ h1) (o.bi _ (by decide +kernel)) (I.e X S E s _ _ o h2) (I.e X S E s _ _ o h3) (I.e X S E s _ _ o h4) (star_ok h5) (noStar _ (by simp [h6, h7])) (star_ok h6) (star_ok h7)).congr fun env => ?_
    show _ = bnd (evE K env (.range _ _ _)) walkD
    have e1 : (chk (decide True) () : M Unit) = ret () := rfl
    simp only [evE, bnd_ret, asInt_int, negV, e1]
    rw [← walkL (bnd (evE K env _) fun x => bnd (asInt x) fun lo => bnd (evE K env _) fun y => bnd (asInt y) fun hi => rangeV lo hi (-1))]
    simp only [bnd_assoc]
  · simp only [Bool.and_eq_true, beq_iff_eq] at h
    obtain ⟨⟨⟨⟨⟨⟨⟨rfl, h1⟩, h2⟩, h3⟩, h4⟩, h5⟩, hl1⟩, hl2⟩ := h
    refine (si_zip (o.gl_ h1) (o.bi _ (by decide +kernel)) (I.v X S E s _ _ vs o h2 hl1 fun i z => hv i (by simp [srcs, z])) (I.v X S E s _ _ vs o h3 hl2 fun i z => hv i (by simp [srcs, z])) (star_ok h4) (noStar _ (by simpa using h5)) (star_ok h5)).congr fun env => ?_
    show _ = bnd (evE K env (.zip _ _)) walkD
    simp only [evE]
    rw [← walkL (bnd (bor _ _ env) fun x => bnd (bor _ _ env) fun y => zipV x y)]
    simp only [bnd_assoc]
  · simp only [Bool.and_eq_true, beq_iff_eq] at h
    obtain ⟨⟨⟨⟨rfl, h1⟩, h2⟩, h3⟩, hl1⟩ := h
    refine (si_enum (o.gl_ h1) (o.bi _ (by decide +kernel)) (I.v X S E s _ _ vs o h2 hl1 fun i z => hv i (by simp [srcs, z])) (by rw [star_ok h3]; rfl)).congr fun env => ?_
    show _ = bnd (evE K env (.enum _)) walkD
    simp only [evE]
    rw [← walkL (bnd (bor _ _ env) enumV)]
    simp only [bnd_assoc]
  · cases h
  · cases h
  · cases h
  · rw [Bool.and_eq_true] at h
    exact si_any (I.v X S E s _ _ vs o h.2 h.1 fun i z => hv i (by
      cases e <;> first | (simp [srcV] at z; done) | exact z))
/-- isinstance(e, C), e the exception that is handled -/
theorem se_isx {X : Cx} {S : Stg X.K} {E : XK} {s : Sc} {i c : Nat} {y z : Str} {p1 p2 p3 pos : Pos} (hcm : s.ex = true) (o : Ok T K XA X S E s) (hc : T.exn c = some z) (hg : Gl X "isinstance") (hm : X.mg "isinstance" = none)
    (hN : X.N[i]? = some y) (hv : Vis X.env.scope y) (hd : (y == ("__debug__" : Str)) = false) (hcd : (y == ("__classdict__" : Str)) = false) (hgz : Gl X z) (hdz : (z == ("__debug__" : Str)) = false) :
    SE X S XA E (.Call (.Name "isinstance" p1) [.Name y p2, .Name z p3] [] pos) (fun env => evE K env (.isx i c)) := by
  cases q : S.exc with
  | none =>
    -- no such slot
    refine ⟨fun _ _ _ => False, ⟨fun pins s σ H Q I h => h.elim⟩, fun Mu env h σ H Q e g => ?_⟩
    have hs := e.slot i
    have g' : Good S Mu XA (isxV K (nth env i) c h) H (fun d h' H' => ∀ v, Rep X.K Mu H' v d → Q v H') E := g
    cases qn : nth env i with
    | exn ec =>
      rw [qn] at hs
      obtain ⟨a, ea, _⟩ := hs
      rw [q] at ea
      cases ea
    | _ => rw [qn] at g'; exact Good.fail (show Good S Mu XA (fail h) H _ E from g')
  | some ae =>
    obtain ⟨a, ec⟩ := ae
    obtain ⟨C, b, h1, h2, h3⟩ := o.isx hcm a ec c z q hc
    refine ⟨_, pe_callB h3 hg hm boot_isa (pa_cons (pe_var hN hv hd hcd) (pa_cons (pe_glob (v := .ref C) hgz h1 rfl hdz) pa_nil (star_ok rfl)) (star_ok rfl)) (by decide) (by decide) (star_ok rfl) (noStar _ (by simp [plainB])), fun Mu env h σ H Q e g => ?_⟩
    have hs := e.slot i
    have g' : Good S Mu XA (isxV K (nth env i) c h) H (fun d h' H' => ∀ v, Rep X.K Mu H' v d → Q v H') E := g
    cases qn : nth env i with
    | exn ec2 =>
      rw [qn] at hs g'
      obtain ⟨a2, ea, es⟩ := hs
      rw [q] at ea
      cases ea
      dsimp only [isxV] at g'
      rw [h2] at g'
      exact ⟨.ref a, es, rfl, Good.ret (a := PyData.bool b) g' e.hand _ (.bl b)⟩
    | _ => rw [qn] at g'; exact (Good.fail (show Good S Mu XA (fail h) H _ E from g')).elim
/-- a comprehension: fresh -/
theorem sound_lc {n : Nat} (I : Sound T K XA n) (X : Cx) (S : Stg X.K) (E : XK) (s : Sc) (elt : IE) (tg : Tg) (it : IE) (ifs : List IE) (own : List Nat) (ex t iter : Expr) (ifs' : List Expr) (k : Int) (scope : Scope) (o : Ok T K XA X S E s)
    (h : (s.cm && decide (k = 0) && okI T n s it t iter && blkB s scope own && okG (inner s scope) tg t && okE T n (inner s scope) elt ex && okIf T n (inner s scope) ifs ifs' && ((tgN tg).all fun i => own.contains i) && plainB iter) = true) :
    k = 0 ∧ (∀ (p : Pos), SF X S XA E (.ListComp ex [⟨t, iter, ifs', 0⟩] scope p) (fun env => evE K env (.lc elt tg it ifs own))) ∧
    ∀ (p spos py : Pos) (i : Nat) (y : Str), X.N[i]? = some y → X.env.scope.names.lookup y = some .local → swapsWith (.ListComp ex [⟨t, iter, ifs', 0⟩] scope p) (some (.Name y py)) spos.line X.env = pure true →
      ∃ te, PS X (.Assign [.Name y py] (.ListComp ex [⟨t, iter, ifs', 0⟩] scope p) spos) (tAsg te (gName i)) ∧ SFm X S XA E te (fun env => evE K env (.lc elt tg it ifs own)) := by
  simp only [Bool.and_eq_true, decide_eq_true_eq] at h
  obtain ⟨⟨⟨⟨⟨⟨⟨⟨hcm, hk⟩, h1⟩, h2⟩, h3⟩, h4⟩, h5⟩, h6⟩, h7⟩ := h
  have hi := I.i X S E s it t iter (srcs it) o h1 fun _ z => z
  have hns : ∀ i ∈ tgN tg, i ∈ own := fun i z => List.contains_iff_mem.mp (List.all_eq_true.mp h6 i z)
  have hg : ∀ (sh : Shared) (H : Hp) (C : Addr) (cl : List (Str × Addr)) (fp : List Addr), SG (X.blk sh H scope (compEnvC scope cl C X.env) fp) t (tgN tg) (assignT tg) := fun sh H C cl fp => okG_ok (o.blk hcm sh H C cl fp) tg t h3 fun _ z => z
  have ht : ∀ (sh : Shared) (H : Hp) (C : Addr) (cl : List (Str × Addr)) (fp : List Addr), STs (X.blk sh H scope (compEnvC scope cl C X.env) fp) S XA E0 ifs' (fun env => evIf K env ifs) := fun sh H C cl fp => I.fs (X.blk sh H scope (compEnvC scope cl C X.env) fp) S E0 (inner s scope) ifs ifs' (o.blk (scope := scope) hcm sh H C cl fp) h5
  have he : ∀ (sh : Shared) (H : Hp) (C : Addr) (cl : List (Str × Addr)) (fp : List Addr), SE (X.blk sh H scope (compEnvC scope cl C X.env) fp) S XA E0 ex (fun env => evE K env elt) := fun sh H C cl fp => I.e (X.blk sh H scope (compEnvC scope cl C X.env) fp) S E0 (inner s scope) elt ex (o.blk (scope := scope) hcm sh H C cl fp) h4
  refine ⟨hk, fun p => ?_, fun p spos py i y hy hyl hsw => ?_⟩
  · exact sf_lc (o.calm hcm) o.nd hi (blk_ok o h2) hns hg ht he (folded_ok h7) (assignT_calm tg)
  · exact sset_lc (o.calm hcm) o.nd hy hyl hsw hi (blk_ok o h2) hns hg ht he (folded_ok h7) (assignT_calm tg)
/-- a display of a dict: fresh -/
theorem sound_dd {n : Nat} (I : Sound T K XA n) (X : Cx) (S : Stg X.K) (E : XK) (s : Sc) (es : List IE) (keys : List (Option Expr)) (vals : List Expr) (o : Ok T K XA X S E s)
    (h : (s.cm && okDs T n s es keys vals && decide (keys.length ≤ 15)) = true) (p : Pos) : SF X S XA E (.Dict keys vals p) (fun env => evE K env (.dd es)) := by
  have hu : X.A.units + 64 < cLine := by have := o.un; omega
  simp only [Bool.and_eq_true, decide_eq_true_eq] at h
  obtain ⟨h1, h2, h3, h4⟩ := I.ds X S E s es keys vals p o h.1.2
  by_cases hk : keys = []
  · have he := h3.mpr hk
    subst hk
    subst he
    have hv : vals = [] := by
      rw [List.length_nil] at h2
      exact List.length_eq_zero_iff.mp h2.symm
    subst hv
    refine sf_dz.congr fun env => ?_
    show _ = bnd (ret []) ddV
    rw [bnd_ret]
    show _ = bnd (ret []) (fun kvs => ret (PyData.dict kvs))
    rw [bnd_ret]
  · exact sf_dd hu h4 h1 h2 hk h.2
/-- a comprehension of a dict: fresh -/
theorem sound_dc {n : Nat} (I : Sound T K XA n) (X : Cx) (S : Stg X.K) (E : XK) (s : Sc) (ik iv : IE) (tg : Tg) (it : IE) (ifs : List IE) (own : List Nat) (kx vx t iter : Expr) (ifs' : List Expr) (k : Int) (scope : Scope) (o : Ok T K XA X S E s)
    (h : (s.cm && decide (k = 0) && okI T n s it t iter && blkB s scope own && okG (inner s scope) tg t && okE T n (inner s scope) ik kx && okE T n (inner s scope) iv vx && okIf T n (inner s scope) ifs ifs' && ((tgN tg).all fun i => own.contains i) && plainB iter) = true) :
    k = 0 ∧ ∀ (p : Pos), SF X S XA E (.DictComp kx vx [⟨t, iter, ifs', k⟩] scope p) (fun env => evE K env (.dc ik iv tg it ifs own)) := by
  have hu : X.A.units + 64 < cLine := by have := o.un; omega
  simp only [Bool.and_eq_true, decide_eq_true_eq] at h
  obtain ⟨⟨⟨⟨⟨⟨⟨⟨⟨hcm, rfl⟩, h1⟩, h2⟩, h3⟩, h4⟩, h4v⟩, h5⟩, h6⟩, h7⟩ := h
  have hi := I.i X S E s it t iter (srcs it) o h1 fun _ z => z
  have hns : ∀ i ∈ tgN tg, i ∈ own := fun i z => List.contains_iff_mem.mp (List.all_eq_true.mp h6 i z)
  have hg : ∀ (sh : Shared) (H : Hp) (C : Addr) (cl : List (Str × Addr)) (fp : List Addr), SG (X.blk sh H scope (compEnvC scope cl C X.env) fp) t (tgN tg) (assignT tg) := fun sh H C cl fp => okG_ok (o.blk hcm sh H C cl fp) tg t h3 fun _ z => z
  have ht : ∀ (sh : Shared) (H : Hp) (C : Addr) (cl : List (Str × Addr)) (fp : List Addr), STs (X.blk sh H scope (compEnvC scope cl C X.env) fp) S XA E0 ifs' (fun env => evIf K env ifs) := fun sh H C cl fp => I.fs (X.blk sh H scope (compEnvC scope cl C X.env) fp) S E0 (inner s scope) ifs ifs' (o.blk (scope := scope) hcm sh H C cl fp) h5
  have hk : ∀ (sh : Shared) (H : Hp) (C : Addr) (cl : List (Str × Addr)) (fp : List Addr), SE (X.blk sh H scope (compEnvC scope cl C X.env) fp) S XA E0 kx (fun env => evE K env ik) := fun sh H C cl fp => I.e (X.blk sh H scope (compEnvC scope cl C X.env) fp) S E0 (inner s scope) ik kx (o.blk (scope := scope) hcm sh H C cl fp) h4
  have he : ∀ (sh : Shared) (H : Hp) (C : Addr) (cl : List (Str × Addr)) (fp : List Addr), SE (X.blk sh H scope (compEnvC scope cl C X.env) fp) S XA E0 vx (fun env => evE K env iv) := fun sh H C cl fp => I.e (X.blk sh H scope (compEnvC scope cl C X.env) fp) S E0 (inner s scope) iv vx (o.blk (scope := scope) hcm sh H C cl fp) h4v
  exact ⟨rfl, fun p => sf_dc (o.calm hcm) hu o.nd hi (blk_ok o h2) hns hg ht hk he (folded_ok h7) (assignT_calm tg)⟩
theorem tys_ok {X : Cx} {S : Stg X.K} {E : XK} {s : Sc} (o : Ok T K XA X S E s) : ∀ (ts : List Ty) (ys : List Expr), tysB s ts ys = true → TysAt X ts ys
  | [], [], _ => tys_nil
  | [], _ :: _, h => by simp [tysB] at h
  | t :: ts, [], h => by simp [tysB] at h
  | t :: ts, y :: ys, h => by
    cases y <;> first | (cases h; done) | skip
    simp only [tysB, Bool.and_eq_true, beq_iff_eq] at h
    obtain ⟨⟨rfl, h1⟩, h2⟩ := h
    exact tys_cons (o.gl_ h1) (o.bi _ (ty_in _)) (boot_ty _) (ty_name _).2 (ty_name _).1 (star_ok rfl) (tys_ok o ts ys h2)
theorem sound_e {n : Nat} (IA : ∀ K, Sound T K XA n) (X : Cx) (S : Stg X.K) (E : XK) (s : Sc) (e : IE) (ex : Expr) (o : Ok T K XA X S E s) (h : okE T (n + 1) s e ex = true) : SE X S XA E ex (fun env => evE K env e) := by
  have I := IA K
  have hu : X.A.units + 64 < cLine := by have := o.un; omega
  unfold okE at h
  split at h
  · -- var
    obtain ⟨h1, h2, h3, h4⟩ := o.var h
    exact se_var h1 h2 h3 h4
  · -- cst
    exact cst_ok h
  · -- glob
    simp only [Bool.and_eq_true, beq_iff_eq] at h
    obtain ⟨⟨⟨rfl, h1⟩, h2⟩, h3⟩ := h
    exact glob_ok o h1 h2 h3
  · -- bop
    simp only [Bool.and_eq_true, decide_eq_true_eq] at h
    obtain ⟨⟨rfl, h1⟩, h2⟩ := h
    exact se_binop (opd_bop _) (I.b X S E s _ _ o h1) (I.b X S E s _ _ o h2)
  · -- neg
    exact se_neg (I.e X S E s _ _ o h)
  · -- not
    exact se_not (I.b X S E s _ _ o h)
  · -- and
    simp only [Bool.and_eq_true] at h
    exact se_and (I.e X S E s _ _ o h.1) (I.e X S E s _ _ o h.2)
  · -- or
    simp only [Bool.and_eq_true] at h
    exact se_or (I.e X S E s _ _ o h.1) (I.e X S E s _ _ o h.2)
  · -- one
    exact se_one (I.e X S E s _ _ o h)
  · -- cmp
    simp only [Bool.and_eq_true, decide_eq_true_eq] at h
    obtain ⟨⟨⟨rfl, h1⟩, h2⟩, h3⟩ := h
    exact se_cmp (opd_cop hu _) (I.b X S E s _ _ o h1) (I.b X S E s _ _ o h2) (behind_ok h3)
  · -- cmp2
    simp only [Bool.and_eq_true, decide_eq_true_eq] at h
    obtain ⟨⟨⟨⟨⟨rfl, rfl⟩, h1⟩, h2⟩, h3⟩, h4⟩ := h
    exact se_chain (opd_cop hu _) (opd_cop hu _) (I.e X S E s _ _ o h1) (I.e X S E s _ _ o h2) (I.e X S E s _ _ o h3) (behind_ok h4)
  · -- ite
    simp only [Bool.and_eq_true] at h
    exact se_ite (I.t X S E s _ _ o h.1.1) (I.e X S E s _ _ o h.1.2) (I.e X S E s _ _ o h.2)
  · -- tup
    simp only [Bool.and_eq_true, decide_eq_true_eq] at h
    exact se_tup (I.es X S E s _ _ o h.1) h.2
  · -- lst
    simp only [Bool.and_eq_true, decide_eq_true_eq] at h
    exact (sf_lst (I.es X S E s _ _ o h.1) h.2).se
  · -- never
    exact ⟨fun _ _ _ => False, ⟨fun pins s σ H Q I h => h.elim⟩, fun Mu env h σ H Q e g => Good.fail (show Good S Mu XA (fail h) H _ E from g)⟩
  · -- rawSl
    simp only [Bool.and_eq_true] at h
    obtain ⟨h1, h2, h3, h4⟩ := o.var h.1.1
    exact (se_rawSl h1 h2 h3 h4 (I.o X S E s _ _ o h.1.2) (I.o X S E s _ _ o h.2)).congr fun env => by
      simp only [evE] <;> (cases nth env _ <;> rfl)
  · -- slice
    simp only [Bool.and_eq_true] at h
    exact se_slice (I.b X S E s _ _ o h.1.1) (I.o X S E s _ _ o h.1.2) (I.o X S E s _ _ o h.2)
  · -- rev
    exact se_rev (I.b X S E s _ _ o h)
  · -- dd
    rename_i es keys vals p
    exact (sound_dd I X S E s es keys vals o h p).se
  · -- dget
    simp only [Bool.and_eq_true, beq_iff_eq] at h
    obtain ⟨⟨⟨⟨⟨⟨⟨rfl, h1⟩, h2⟩, h3⟩, h4⟩, h5⟩, h6⟩, h7⟩ := h
    exact se_dget hu (I.b X S E s _ _ o h1) (I.e X S E s _ _ o h2) (I.e X S E s _ _ o h3) (base_ok h6) (few2_ok h4 h5) (by simpa using h7) (star_ok h4) (star_ok h5) (noStar _ (by simpa using h5))
  · -- dc
    rename_i ik iv tg it ifs own kx vx t iter ifs' k scope p
    exact ((sound_dc I X S E s ik iv tg it ifs own kx vx t iter ifs' k scope o h).2 p).se
  · -- hidx
    simp only [Bool.and_eq_true] at h
    obtain ⟨h1, h2, h3, h4⟩ := o.var h.1.1
    exact (se_hidx h1 h2 h3 h4 (I.e X S E s _ _ o h.1.2) (plainIx_ok h.2)).congr fun env => by
      simp only [evE] <;> (cases nth env _ <;> rfl)
  · -- idx
    simp only [Bool.and_eq_true] at h
    exact se_idx hu (I.b X S E s _ _ o h.1.1) (I.e X S E s _ _ o h.1.2) (plainIx_ok h.2)
  · -- call
    rename_i f es x p1 args p2
    simp only [Bool.and_eq_true, beq_iff_eq, decide_eq_true_eq] at h
    obtain ⟨⟨⟨⟨h1, h2⟩, h3⟩, h4⟩, h5⟩ := h
    obtain ⟨hp, ha⟩ := I.as X S E s _ _ o h5
    obtain ⟨k, fa, fd, ps, F, hr, hm, hk, hb, hl⟩ := o.fns f x h1
    cases args with
    | nil =>
      have e1 : es = [] := by
        cases n with
        | zero => cases h5
        | succ n =>
          unfold okAs at h5
          split at h5
          · rfl
          · rename_i z
            cases z
          · cases h5
      subst e1
      exact (se_call0 F hr (o.gl_ h2) hm hk hb o.pass (h4.trans hl.symm) (name_ok h3).1).congr fun env => by
        show K.C f [] = bnd (ret []) (fun as => K.C f as)
        rw [bnd_ret]
    | cons a r => exact se_call F hr (o.gl_ h2) hm hk hb o.pass ha (h4.trans hl.symm) (name_ok h3).1 (star_ok (hp a List.mem_cons_self)) (noStar _ fun e he => hp e (List.mem_cons_of_mem _ he))
  · -- lam
    rename_i f e x p1 params body scope lpos p2
    simp only [Bool.and_eq_true, beq_iff_eq] at h
    obtain ⟨⟨⟨⟨⟨⟨h1, h2⟩, h3⟩, h4⟩, h5⟩, h6⟩, h7⟩ := h
    cases hd : K.deep with
    | false =>
      -- it cannot be told here
      refine ⟨fun _ _ _ => False, ⟨fun pins s σ H Q I h => h.elim⟩, fun Mu env h σ H Q e g => ?_⟩
      have g' : Good S Mu XA (iteM K.deep (lamR K f (evE K.low env _)) fail h) H (fun d h' H' => ∀ v, Rep X.K Mu H' v d → Q v H') E := g
      rw [hd] at g'
      exact Good.fail (show Good S Mu XA (fail h) H _ E from g')
    | true =>
      refine (o.lam h1 hd f x h2 (o.gl_ h3) (name_ok h4).1 params body scope p1 lpos p2 (fun env => evE K.low env e) (by rw [o.hS]; exact h6) h5 fun A outer sh H E' fa c' ol => (IA K.low).e (LamX.lamCx X A outer sh H E' scope fa c') S E' (lamIn s scope) e body (ol.up rfl) h7).congr fun env => ?_
      show _ = iteM K.deep (lamR K f (evE K.low env e)) fail
      rw [hd]
      rfl
  · -- isinstance of the exception
    rename_i i c x p1 y p2 z p3 pos
    simp only [Bool.and_eq_true, beq_iff_eq] at h
    obtain ⟨⟨⟨⟨⟨⟨hcm, rfl⟩, h1⟩, h2⟩, h3⟩, h4⟩, h5⟩ := h
    obtain ⟨k1, k2, k3, k4⟩ := o.var h2
    exact se_isx (T := T) (K := K) hcm o h3 (o.gl_ h1) (o.bi _ (by decide +kernel)) k1 k2 k3 k4 (o.gl_ h4) (name_ok h5).1
  · -- b1
    rename_i b a x p1 arg p2
    simp only [Bool.and_eq_true, beq_iff_eq] at h
    obtain ⟨⟨⟨hcm, rfl⟩, h1⟩, h2⟩ := h
    split at h2
    · rename_i lo hi st
      simp only [Bool.and_eq_true, Bool.or_eq_true, beq_iff_eq] at h2
      obtain ⟨hb, h3⟩ := h2
      obtain ⟨hp, hr⟩ := I.rg X S E s _ _ _ _ o h3
      rcases hb with rfl | rfl
      · refine (sf_listRg (o.calm hcm) (o.gl_ h1) (o.bi _ (b1_in .list)) hr (star_ok hp)).se.congr fun env => ?_
        show _ = bnd (evE K env (.range lo hi st)) (b1V .list)
        unfold rngM
        simp only [evE, bnd_assoc, bnd_ret, b1V]
      · refine (se_tupRg (o.calm hcm) (o.gl_ h1) (o.bi _ (b1_in .tuple)) hr (star_ok hp)).congr fun env => ?_
        show _ = bnd (evE K env (.range lo hi st)) (b1V .tuple)
        unfold rngM
        simp only [evE, bnd_assoc, bnd_ret, b1V]
    · simp only [Bool.and_eq_true] at h2
      exact se_b1 (o.calm hcm) hu (o.gl_ h1) (o.bi _ (b1_in _)) (I.b X S E s _ _ o h2.1) h2.2
  · -- b2
    simp only [Bool.and_eq_true, beq_iff_eq] at h
    obtain ⟨⟨⟨⟨⟨⟨hcm, rfl⟩, h1⟩, h2⟩, h3⟩, h4⟩, h5⟩ := h
    exact se_b2 (o.calm hcm) (o.gl_ h1) (o.bi _ (b2_in _)) (boot_b2 _) (I.e X S E s _ _ o h2) (I.e X S E s _ _ o h3) (star_ok h4) (noStar _ (by simpa using h5)) (star_ok h5)
  · -- isi
    simp only [Bool.and_eq_true, beq_iff_eq] at h
    obtain ⟨⟨⟨⟨⟨rfl, h1⟩, rfl⟩, h2⟩, h3⟩, h4⟩ := h
    refine (se_isa (o.gl_ h1) (o.bi _ (by decide +kernel)) boot_isa (I.b X S E s _ _ o h3) (o.gl_ h2) (o.bi _ (ty_in _)) (boot_ty _) (ty_name _).2 (ty_name _).1 (star_ok h4) (noStar _ (by simp [plainB])) (star_ok rfl)).congr fun env => ?_
    simp only [evE, List.any_cons, List.any_nil, Bool.or_false]
  · -- isi, of some
    simp only [Bool.and_eq_true, beq_iff_eq, decide_eq_true_eq] at h
    obtain ⟨⟨⟨⟨⟨rfl, h1⟩, h2⟩, h3⟩, h4⟩, h5⟩ := h
    refine (se_isaT (o.gl_ h1) (o.bi _ (by decide +kernel)) boot_isa (I.b X S E s _ _ o h4) h3 (tys_ok o _ _ h2) (star_ok h5) (noStar _ (by simp [plainB])) (star_ok rfl)).congr fun env => ?_
    simp only [evE]
  · -- lc
    rename_i elt tg it ifs own ex t iter ifs' k scope p
    obtain ⟨rfl, hf, _⟩ := sound_lc I X S E s elt tg it ifs own ex t iter ifs' k scope o h
    exact (hf _).se
  · -- m1
    simp only [Bool.and_eq_true, Bool.or_eq_true, beq_iff_eq] at h
    obtain ⟨⟨⟨⟨⟨⟨h0, rfl⟩, h1⟩, h2⟩, h3⟩, h4⟩, h5⟩ := h
    exact se_m1 o.un h0 (I.b X S E s _ _ o h1) (I.e X S E s _ _ o h2) (base_ok h4) (few_ok h3) (by simpa using h5) (star_ok h3) (noStar _ (by simp))
  · cases h
end
end Ev
set_option Elab.async false
set_option linter.all false
set_option maxRecDepth 100000
set_option maxHeartbeats 8000000
/-! The checker: statements. -/
namespace Ev
open PySem PySem.Spec PyProof.Rows L2

def notComp : Expr → Bool
  | .ListComp .. => false
  | .SetComp .. => false
  | .DictComp .. => false
  | _ => true
def notTup : Expr → Bool
  | .Tuple .. => false
  | _ => true
def isStar : Expr → Bool
  | .Starred .. => true
  | _ => false
def swB (s : Sc) (scope : Scope) (x : Str) (npos p : Pos) : Bool := s.sc.names.lookup x == some .local && npos.line == p.line && !(scope.names.any fun (n, k) => n == x && (k == .local || k == .cell))
def namesOn (s : Sc) (line : Nat) (ts : List Expr) : List Str := ts.filterMap fun
  | .Name id pos => if s.sc.names.lookup id == some .local && pos.line == line then some id else none
  | _ => none
def swN (s : Sc) (ts vs : List Expr) : Option (Option (List Str)) :=
  if (!(ts.length == 2 || ts.length == 3) || vs.length != ts.length) = true then some none
  else if (vs.any isStar) = true then some none
  else if (((namesOn s ((ts.head?.map (·.pos.line)).getD 0) ts).length != ts.length) || ((namesOn s ((ts.head?.map (·.pos.line)).getD 0) ts).eraseDups.length != (namesOn s ((ts.head?.map (·.pos.line)).getD 0) ts).length)) = true then some none
  else if vs.all (foldedForSure 8) = true then some none
  else if vs.all (constantsAlone 8) = true then none
  else some (some (namesOn s ((ts.head?.map (·.pos.line)).getD 0) ts))
def parIs : List (Tg × Bool) → Option (List Nat × List Bool)
  | [] => some ([], [])
  | (.name i, b) :: r => (parIs r).map fun p => (i :: p.1, b :: p.2)
  | _ => none
def okNm (s : Sc) : List Nat → List Expr → Bool
  | [], [] => true
  | i :: is, .Name x _ :: es => tgVis s i x && okNm s is es
  | _, _ => false
def allLocal (s : Sc) : List Expr → Bool
  | [] => true
  | .Name x _ :: es => s.sc.names.lookup x == some .local && allLocal s es
  | _ => false
def distinct : List Nat → Bool
  | [] => true
  | i :: is => !is.contains i && distinct is
section
variable (T : Tab)
def okLc (n : Nat) (s : Sc) (elt : IE) (tg : Tg) (it : IE) (ifs : List IE) (own : List Nat) (ex t iter : Expr) (ifs' : List Expr) (k : Int) (scope : Scope) : Bool :=
  s.cm && decide (k = 0) && okI T n s it t iter && blkB s scope own && okG (inner s scope) tg t && okE T n (inner s scope) elt ex && okIf T n (inner s scope) ifs ifs' && ((tgN tg).all fun i => own.contains i) && plainB iter
def okF (n : Nat) (s : Sc) (e : IE) (ex : Expr) : Bool := match e, ex with
  | .lst es, .List xs _ => okEs T n s es xs && decide (xs.length ≤ 1000)
  | .b1 b a, .Call (.Name x _) [arg] [] _ => s.cm && b1Fresh b && x == b1N b && glB s.sc x && (match a with
      | .range lo hi st => b == .list && okRg T n s lo hi st arg
      | _ => okB T n s a arg && plainB arg)
  | .lc elt tg it ifs own, .ListComp ex [⟨t, iter, ifs', k⟩] scope _ => okLc T n s elt tg it ifs own ex t iter ifs' k scope
  | .bop .add a (.lst es), .BinOp l .Add r _ => okB T n s a l && okB T n s (.lst es) r
  | .dd es, .Dict keys vals _ => s.cm && okDs T n s es keys vals && decide (keys.length ≤ 15)
  | .dc ik iv tg it ifs own, .DictComp kx vx [⟨t, iter, ifs', k⟩] scope _ => s.cm && decide (k = 0) && okI T n s it t iter && blkB s scope own && okG (inner s scope) tg t && okE T n (inner s scope) ik kx && okE T n (inner s scope) iv vx && okIf T n (inner s scope) ifs ifs' && ((tgN tg).all fun i => own.contains i) && plainB iter
  | _, _ => false
def okPs (n : Nat) (s : Sc) : List Bool → List IE → List Expr → Bool
  | [], [], [] => true
  | false :: fl, e :: es, x :: xs => okE T n s e x && plainB x && okPs n s fl es xs
  | true :: fl, e :: es, x :: xs => okF T n s e x && plainB x && okPs n s fl es xs
  | _, _, _ => false
mutual
def okS : Nat → Sc → IS → Stmt → Bool
  | 0, _, _, _ => false
  | n + 1, s, st, ast => match st, ast with
    | .asg (.name i) (.lc elt tg it ifs own), .Assign [.Name x np] (.ListComp ex [⟨t, iter, ifs', k⟩] scope p) pos => tgVis s i x && okLc T n s elt tg it ifs own ex t iter ifs' k scope
    | .own i (.lc elt tg it ifs own), .Assign [.Name x np] (.ListComp ex [⟨t, iter, ifs', k⟩] scope p) pos => tgVis s i x && okLc T n s elt tg it ifs own ex t iter ifs' k scope
    | .asg (.name i) e, .Assign [.Name x np] v pos => tgVis s i x && okE T n s e v && notComp v
    | .own i e, .Assign [.Name x np] v pos => tgVis s i x && okF T n s e v && notComp v
    | .asg (.tup us) e, .Assign [.Tuple ts k tp] v pos => okG s (.tup us) (.Tuple ts k tp) && okE T n s e v && notTup v
    | .par ts es, .Assign [.Tuple tgs k pt] (.Tuple vs k2 pt2) pos => (match parIs ts with
      | some (is, fl) => s.cm && okNm s is tgs && okPs T n s fl es vs && decide (is.length ≤ 1000) && distinct is && (match swN s tgs vs with
        | some none => true
        | some (some _) => allLocal s tgs
        | none => false)
      | none => false)
    | .setI i k e, .Assign [.Subscript (.Name x np) sl sp] v pos => vokB s i x && okE T n s e v && okE T n s k sl && plainB sl
    | .augN i op e, .AugAssign (.Name x np) o v pos => tgVis s i x && (op == .add || op == .sub) && decide (opOf op = o) && okE T n s e v
    | .augI i k op e, .AugAssign (.Subscript (.Name x np) sl sp) o v pos => vokB s i x && (op == .add || op == .sub) && decide (opOf op = o) && okE T n s e v && okE T n s k sl && plainB sl
    | .app i e, .Expr (.Call (.Attribute (.Name x np) nm ap) [a] [] cp) pos => nm == ("append" : Str) && vokB s i x && okE T n s e a && plainB a && (ap.endLine == cp.line)
    | .ext i e, .Expr (.Call (.Attribute (.Name x np) nm ap) [a] [] cp) pos => nm == ("extend" : Str) && vokB s i x && okF T n s e a && plainB a && (ap.endLine == cp.line)
    | .upd i e, .Expr (.Call (.Attribute (.Name x np) nm ap) [a] [] cp) pos => nm == ("update" : Str) && vokB s i x && okE T n s e a && plainB a && (ap.endLine == cp.line)
    | .popL j i, .Assign [.Name y yp] (.Call (.Attribute (.Name x np) nm ap) [] [] cp) pos => nm == ("pop" : Str) && vokB s i x && tgVis s j y && (ap.endLine == cp.line)
    | .mov j i, .Assign [.Name y yp] (.Name x np) pos => vokB s i x && tgVis s j y
    | .ite c a b, .If tc ta tb pos => okT T n s c tc && okSs n s a ta && okSs n s b tb
    | .for tg it car tmp body, .For t iter bd [] pos => s.cm && okI T n s it t iter && okG s tg t && okSs n s body bd && ((writs body).all fun i => (car ++ tmp).contains i) && ((tgN tg).all fun i => (car ++ tmp).contains i) && ((srcs it).all fun i => !(car ++ tmp).contains i) && plainB iter
    | .whil c car tmp body, .While tc bd [] pos => s.cm && okT T n s c tc && okSs n s body bd && ((writs body).all fun i => (car ++ tmp).contains i)
    | .ret (.var i), .Return (some (.Name x np)) pos => vokB s i x
    | .ret (.var i), .Return _ _ => false
    | .ret e, .Return (some v) pos => okE T n s e v
    | .retN, .Return none pos => true
    | .raise c [], .Raise (some (.Call (.Name x np) [] [] cp)) none pos => s.cm && (T.exn c == some x) && glB s.sc x
    | .expr e, .Expr v pos => okE T n s e v && notComp v
    | .pass, .Pass _ => true
    | .never, _ => true
    | _, _ => false
def okSs : Nat → Sc → List IS → List Stmt → Bool
  | 0, _, _, _ => false
  | n + 1, s, st, ast => match st, ast with
    | [], [] => true
    | .frz i :: xs, ys => okSs n s xs ys
    | x :: xs, y :: ys => okS n s x y && okSs n s xs ys
    | _, _ => false
end
end
/-- what a def's own context gives beyond -/
structure OkS (T : Tab) (K : Cal) (XA : XAT) (X : Cx) (S : Stg X.K) (E : XK) (s : Sc) : Prop where
  ok : Ok T K XA X S E s
  kind : s.sc.kind = .function
  own : s.cm = true → PassesOwn (model X.prog X.w) X.A X.env X.xe
  tk : Takes X (fun cls d _ H => E cls d H)
  exn : s.cm = true → ∀ c x, T.exn c = some x → Gl X x → ∃ C : Value, (∀ p pos, PMk X (.Call (.Name x p) [] [] pos) (fun σ H Q => Q C none H)) ∧ ∀ H, XA ⟨c, []⟩ C none H
section
variable {T : Tab} {K : Cal} {XA : XAT} {X : Cx} {S : Stg X.K} {E : XK} {s : Sc}
theorem blockFn (o : OkS T K XA X S E s) : X.env.blockKind = .function := by
  have : X.env.scope.kind = .function := by rw [o.ok.hS]; exact o.kind
  unfold PySem.Env.blockKind
  rw [this]
  rfl
theorem kindOf_eq (o : OkS T K XA X S E s) (x : Str) : X.env.kindOf x = s.sc.names.lookup x := by
  unfold PySem.Env.kindOf
  rw [o.ok.hS]
theorem sw_noComp {v : Expr} {tg : Option Expr} {l : Nat} {env : PySem.Env} (h : notComp v = true) : swapsWith v tg l env = pure false := by
  cases v <;> first | rfl | cases h
theorem sw_comp (o : OkS T K XA X S E s) {elt : Expr} {gs : List Comprehension} {scope : Scope} {p np : Pos} {x : Str} {l : Nat} : swapsWith (.ListComp elt gs scope p) (some (.Name x np)) l X.env = pure (swB s scope x np p) := by
  show pure (X.env.blockKind == .function && X.env.kindOf x == some .local && np.line == p.line && !(scope.names.any fun (n, k) => n == x && (k == .local || k == .cell))) = _
  rw [blockFn o, kindOf_eq o]
  unfold swB
  rfl
theorem sw_tup {v : Expr} {ts : List Expr} {k : Nat} {tp : Pos} {l : Nat} {env : PySem.Env} : swapsWith v (some (.Tuple ts k tp)) l env = pure false := by
  cases v <;> rfl
theorem sw_sub {v a b : Expr} {tp : Pos} {l : Nat} {env : PySem.Env} : swapsWith v (some (.Subscript a b tp)) l env = pure false := by
  cases v <;> rfl
theorem ss_none {v : Expr} {ts : List Expr} {k : Nat} {tp : Pos} {env : PySem.Env} (h : notTup v = true) : swappedStores [.Tuple ts k tp] v env = pure none := by
  cases v <;> first | rfl | cases h
theorem swN_ok (o : OkS T K XA X S E s) {ts vs : List Expr} {k k2 : Nat} {pt pt2 : Pos} {r : Option (List Str)} (h : swN s ts vs = some r) : swappedStores [.Tuple ts k pt] (.Tuple vs k2 pt2) X.env = pure r := by
  have hb := blockFn o
  have hk := kindOf_eq o
  unfold swappedStores
  dsimp only
  simp only [hk]
  rw [hb]
  unfold swN at h
  split at h
  · rename_i c1
    cases h
    exact if_pos (by rw [c1]; rfl)
  · rename_i c1
    refine (if_neg (by rw [Bool.not_eq_true] at c1; rw [c1]; exact Bool.false_ne_true)).trans ?_
    split at h
    · rename_i c2
      cases h
      exact if_pos c2
    · rename_i c2
      refine (if_neg c2).trans ?_
      split at h
      · rename_i c3
        cases h
        exact if_pos c3
      · rename_i c3
        refine (if_neg c3).trans ?_
        split at h
        · rename_i c4
          cases h
          exact if_pos c4
        · rename_i c4
          refine (if_neg c4).trans ?_
          split at h
          · cases h
          · rename_i c5
            cases h
            exact if_neg c5
end
end Ev
set_option Elab.async false
set_option linter.all false
set_option maxRecDepth 100000
set_option maxHeartbeats 8000000
/-! The checker is right: statements. -/
namespace Ev
open PySem PySem.Spec PyProof.Rows L2

section
variable {T : Tab} {K : Cal} {XA : XAT} {X : Cx} {S : Stg X.K} {E : XK} {s : Sc}
theorem soundN (n : Nat) : ∀ {K : Cal}, Sound T K XA n := by
  induction n with
  | zero => exact sound0
  | succ n I => exact fun {K} => ⟨sound_e (fun K => I), sound_b I, sound_v I, sound_a I, sound_es I, sound_as I, sound_o I, sound_t I, sound_V I, sound_w I, sound_fs I, sound_ds I, sound_rg I, sound_i I⟩
theorem tgVis_ok (o : Ok T K XA X S E s) {i : Nat} {x : Str} (h : tgVis s i x = true) : X.N[i]? = some x ∧ Loc X.env.scope x ∧ (X.fn x = true ∨ X.env.scope.names.lookup x = some .local) := by
  simp only [tgVis, Bool.and_eq_true, Bool.or_eq_true, beq_iff_eq] at h
  refine ⟨by rw [o.hN]; exact h.1, ?_, ?_⟩
  · rw [o.hS]; exact h.2.imp id fun z => z.1
  · rw [o.hS]; exact h.2.symm.imp (fun z => o.hf x z.2) id
theorem SFm.sem {t : TE} {m : Env → M D} (h : SFm X S XA E t m) : SEm X S XA E t m := fun Mu env hh σ H Q e g => h Mu env hh σ H Q e (g.mono fun d h' H' _ _ k a ha hn _ ho => by
  exact k _ (ho.rep (fun _ z => .inl z) (e.free ha)))
/-- name = a comprehension -/
theorem lcN (o : OkS T K XA X S E s) {n i : Nat} {x : Str} {np p pos : Pos} {elt : IE} {tg : Tg} {it : IE} {ifs : List IE} {own : List Nat} {ex t iter : Expr} {ifs' : List Expr} {k : Int} {scope : Scope} (ht : tgVis s i x = true) (h : okLc T n s elt tg it ifs own ex t iter ifs' k scope = true) :
    ∃ te, PS X (.Assign [.Name x np] (.ListComp ex [⟨t, iter, ifs', k⟩] scope p) pos) (tAsg te (gName i)) ∧ SFm X S XA E te (fun env => evE K env (.lc elt tg it ifs own)) := by
  obtain ⟨rfl, hf, hs⟩ := sound_lc (soundN n) X S E s elt tg it ifs own ex t iter ifs' k scope o.ok h
  obtain ⟨h1, h2, h3⟩ := tgVis_ok o.ok ht
  have sw := sw_comp (np := np) (p := p) (x := x) (scope := scope) (elt := ex) (gs := [⟨t, iter, ifs', 0⟩]) (l := pos.line) o
  cases hq : swB s scope x np p with
  | true =>
    rw [hq] at sw
    have hl : X.env.scope.names.lookup x = some .local := by
      rw [o.ok.hS]
      simp only [swB, Bool.and_eq_true, beq_iff_eq] at hq
      exact hq.1.1
    exact hs p pos np i x h1 hl sw
  | false =>
    rw [hq] at sw
    obtain ⟨te, pe, qe⟩ := hf p
    exact ⟨te, ps_set o.ok.nd h1 h2 pe sw h3, qe⟩
theorem sound_f {n : Nat} (o : Ok T K XA X S E s) {e : IE} {ex : Expr} (h : okF T n s e ex = true) : SF X S XA E ex (fun env => evE K env e) := by
  have hu : X.A.units + 64 < cLine := by have := o.un; omega
  have I := soundN (T := T) (K := K) (XA := XA) n
  unfold okF at h
  split at h
  · simp only [Bool.and_eq_true, decide_eq_true_eq] at h
    exact sf_lst (I.es X S E s _ _ o h.1) h.2
  · rename_i b a x p1 arg p2
    simp only [Bool.and_eq_true, beq_iff_eq] at h
    obtain ⟨⟨⟨⟨hcm, hf⟩, rfl⟩, h1⟩, h2⟩ := h
    split at h2
    · rename_i lo hi st
      simp only [Bool.and_eq_true, beq_iff_eq] at h2
      obtain ⟨rfl, h3⟩ := h2
      obtain ⟨hp, hr⟩ := I.rg X S E s _ _ _ _ o h3
      refine (sf_listRg (o.calm hcm) (o.gl_ h1) (o.bi _ (b1_in .list)) hr (star_ok hp)).congr fun env => ?_
      show _ = bnd (evE K env (.range lo hi st)) (b1V .list)
      unfold rngM
      simp only [evE, bnd_assoc, bnd_ret, b1V]
    · simp only [Bool.and_eq_true] at h2
      exact sf_b1 (o.calm hcm) hu hf (o.gl_ h1) (o.bi _ (b1_in _)) (I.b X S E s _ _ o h2.1) h2.2
  · rename_i elt tg it ifs own ex t iter ifs' k scope p
    obtain ⟨rfl, hf, _⟩ := sound_lc I X S E s elt tg it ifs own ex t iter ifs' k scope o h
    exact hf _
  · rename_i a es l r pos
    simp only [Bool.and_eq_true] at h
    refine (sf_cat (I.b X S E s _ _ o h.1) (I.b X S E s _ _ o h.2) fun env h0 d h' q => ?_).congr fun env => ?_
    · have q2 : bnd (evEs K env es) (fun ds => ret (PyData.list ds)) h0 = .ok d h' := by
        have q3 := q
        simp only [evE] at q3
        exact q3
      obtain ⟨ds, h1, _, e2⟩ := bnd_inv q2
      obtain ⟨z, _⟩ := ret_inv e2
      exact ⟨ds, z.symm⟩
    · show _ = evE K env (.bop .add a (.lst es))
      simp only [evE]
  · exact sound_dd I X S E s _ _ _ o h _
  · rename_i ik iv tg it ifs own kx vx t iter ifs' k scope p
    exact (sound_dc I X S E s ik iv tg it ifs own kx vx t iter ifs' k scope o h).2 p
  · cases h
theorem sound_ps {n : Nat} (o : Ok T K XA X S E s) : ∀ (fl : List Bool) (es : List IE) (ex : List Expr), okPs T n s fl es ex = true → SP X S XA E ex fl (fun env => evEs K env es) ∧ fl.length = ex.length
  | [], [], [], _ => ⟨sp_nil, rfl⟩
  | false :: fl, e :: es, x :: xs, h => by
    simp only [okPs, Bool.and_eq_true] at h
    obtain ⟨h1, h2⟩ := sound_ps o fl es xs h.2
    exact ⟨sp_val ((soundN n).e X S E s _ _ o h.1.1) h1 (star_ok h.1.2), by rw [List.length_cons, List.length_cons, h2]⟩
  | true :: fl, e :: es, x :: xs, h => by
    simp only [okPs, Bool.and_eq_true] at h
    obtain ⟨h1, h2⟩ := sound_ps o fl es xs h.2
    exact ⟨sp_own (sound_f o h.1.1) h1 (star_ok h.1.2), by rw [List.length_cons, List.length_cons, h2]⟩
  | [], [], _ :: _, h => by cases h
  | [], _ :: _, _, h => by simp [okPs] at h
  | true :: _, [], _, h => by simp [okPs] at h
  | false :: _, [], _, h => by simp [okPs] at h
  | true :: _, _ :: _, [], h => by simp [okPs] at h
  | false :: _, _ :: _, [], h => by simp [okPs] at h
theorem okNm_plain : ∀ (is : List Nat) (ts : List Expr), okNm s is ts = true → (∀ e ∈ ts, plainB e = true) ∧ ts.length = is.length
  | [], [], _ => ⟨by simp, rfl⟩
  | [], _ :: _, h => by simp [okNm] at h
  | _ :: _, [], h => by simp [okNm] at h
  | i :: is, t :: ts, h => by
    cases t <;> first | (simp [okNm] at h; done) | skip
    simp only [okNm, Bool.and_eq_true] at h
    obtain ⟨h1, h2⟩ := okNm_plain is ts h.2
    refine ⟨by
      intro e he
      rcases List.mem_cons.mp he with rfl | he
      · rfl
      · exact h1 e he, by rw [List.length_cons, List.length_cons, h2]⟩
theorem pgs_names (o : Ok T K XA X S E s) : ∀ (is : List Nat) (ts : List Expr), okNm s is ts = true → PGs X ts (gNames is)
  | [], [], _ => pgs_nil
  | [], _ :: _, h => by simp [okNm] at h
  | _ :: _, [], h => by simp [okNm] at h
  | i :: is, t :: ts, h => by
    have hp := (okNm_plain _ _ h).1
    cases t <;> first | (simp [okNm] at h; done) | skip
    simp only [okNm, Bool.and_eq_true] at h
    obtain ⟨h1, h2, h3⟩ := tgVis_ok o h.1
    exact pgs_cons (pg_name o.nd h1 h2 h3) (pgs_names o is ts h.2) (by
      rw [assignEach_map hp, assignEach_map fun e' he => hp e' (List.mem_cons_of_mem _ he)]; rfl)
theorem parIs_ts : ∀ {ts : List (Tg × Bool)} {is : List Nat} {fl : List Bool}, parIs ts = some (is, fl) → ts = parTs is fl ∧ parN ts = is ∧ is.length = fl.length
  | [], is, fl, h => by cases h; exact ⟨rfl, rfl, rfl⟩
  | (.name i, b) :: r, is, fl, h => by
    simp only [parIs, Option.map_eq_some_iff] at h
    obtain ⟨⟨is', fl'⟩, h1, h2⟩ := h
    cases h2
    obtain ⟨e1, e2, e3⟩ := parIs_ts h1
    refine ⟨by rw [e1]; rfl, ?_, by simp [e3]⟩
    simp only [parN, tgN, e2]
    rfl
  | (.tup _, _) :: _, _, _, h => by cases h
theorem sw_tupS {v : Expr} {ts : List Expr} {k : Nat} {tp : Pos} {l : Nat} {env : PySem.Env} : swapsWithSole [.Tuple ts k tp] v l env = pure false := sw_tup (v := v) (ts := ts) (k := k) (tp := tp) (l := l) (env := env)
theorem sw_subS {v a b : Expr} {tp : Pos} {l : Nat} {env : PySem.Env} : swapsWithSole [.Subscript a b tp] v l env = pure false := sw_sub (v := v) (a := a) (b := b) (tp := tp) (l := l) (env := env)
theorem swN_names {ts vs : List Expr} {ns : List Str} (h : swN s ts vs = some (some ns)) : ns = namesOn s ((ts.head?.map (·.pos.line)).getD 0) ts ∧ ns.length = ts.length ∧ (ts.length = 2 ∨ ts.length = 3) ∧ vs.length = ts.length := by
  unfold swN at h
  split at h
  · cases h
  · rename_i c1
    split at h
    · cases h
    · split at h
      · cases h
      · rename_i c3
        split at h
        · cases h
        · split at h
          · cases h
          · cases h
            simp only [Bool.or_eq_true, bne_iff_ne, ne_eq, not_or, Decidable.not_not, Bool.not_eq_true', Bool.or_eq_false_iff, beq_eq_false_iff_ne] at c1 c3
            refine ⟨rfl, c3.1, ?_, c1.2⟩
            have := c1.1
            simp only [not_and, Decidable.not_not] at this
            by_cases q : ts.length = 2
            · exact .inl q
            · exact .inr (this q)
theorem namesOn2 {l : Nat} {x y : Str} {px py : Pos} (h : (namesOn s l [.Name x px, .Name y py]).length = 2) : namesOn s l [.Name x px, .Name y py] = [x, y] := by
  unfold namesOn at *
  simp only [List.filterMap_cons, List.filterMap_nil] at *
  by_cases c1 : (s.sc.names.lookup x == some .local && px.line == l) = true
  · by_cases c2 : (s.sc.names.lookup y == some .local && py.line == l) = true
    · rw [if_pos c1, if_pos c2]
    · rw [if_pos c1, if_neg c2] at h; simp at h
  · by_cases c2 : (s.sc.names.lookup y == some .local && py.line == l) = true
    · rw [if_neg c1, if_pos c2] at h; simp at h
    · rw [if_neg c1, if_neg c2] at h; simp at h
theorem namesOn3 {l : Nat} {x y z : Str} {px py pz : Pos} (h : (namesOn s l [.Name x px, .Name y py, .Name z pz]).length = 3) : namesOn s l [.Name x px, .Name y py, .Name z pz] = [x, y, z] := by
  unfold namesOn at *
  simp only [List.filterMap_cons, List.filterMap_nil] at *
  by_cases c1 : (s.sc.names.lookup x == some .local && px.line == l) = true <;> by_cases c2 : (s.sc.names.lookup y == some .local && py.line == l) = true <;> by_cases c3 : (s.sc.names.lookup z == some .local && pz.line == l) = true <;>
    simp_all
theorem par_ok (o : OkS T K XA X S E s) (hcm : s.cm = true) {is : List Nat} {tgs vs : List Expr} {k k2 : Nat} {pt pt2 pos : Pos} {n : Nat} {fl : List Bool} {es : List IE} (h1 : okNm s is tgs = true) (h2 : okPs T n s fl es vs = true) (h3 : is.length ≤ 1000) (h4 : distinct is = true) (hl : is.length = fl.length)
    (h5 : (match swN s tgs vs with | some none => true | some (some _) => allLocal s tgs | none => false) = true) : ∀ ta, PA X vs ta → ParOk X (.Assign [.Tuple tgs k pt] (.Tuple vs k2 pt2) pos) is ta := by
  intro ta pa
  obtain ⟨hp, hlen⟩ := okNm_plain is tgs h1
  obtain ⟨_, hfl⟩ := sound_ps (K := K) (XA := XA) (S := S) (E := E) o.ok fl es vs h2
  cases q : swN s tgs vs with
  | none => rw [q] at h5; cases h5
  | some r =>
    have hw := swN_ok (k := k) (k2 := k2) (pt := pt) (pt2 := pt2) o q
    rw [q] at h5
    cases r with
    | none =>
      exact parOkT (o.ok.calm hcm) (pgs_names o.ok is tgs h1) hlen h3 pa (by rw [assignEach_map hp, List.length_map]) (by
        rw [assignEach_map hp, List.findIdx?_eq_none_iff]
        intro x hx
        obtain ⟨t, _, rfl⟩ := List.mem_map.mp hx
        rfl) hw sw_tupS (by rw [assignEach_map (by simp [plainB])]; rfl)
    | some ns =>
      obtain ⟨e1, e2, e3, e4⟩ := swN_names q
      subst e1
      rcases e3 with e3 | e3
      · match tgs, is, vs, hlen, e3, e4, h1, h5, pa with
        | [t1, t2], [i, j], [a, b], _, _, _, h1, h5, pa =>
          cases t1 <;> first | (simp [okNm] at h1; done) | skip
          rename_i x px
          cases t2 <;> first | (simp [okNm] at h1; done) | skip
          rename_i y py
          simp only [okNm, Bool.and_eq_true, Bool.and_true] at h1
          simp only [allLocal, Bool.and_eq_true, beq_iff_eq, Bool.and_true] at h5
          obtain ⟨k1, _, _⟩ := tgVis_ok o.ok h1.1
          obtain ⟨k2', _, _⟩ := tgVis_ok o.ok h1.2
          have hij : i ≠ j := by
            simp only [distinct, Bool.and_eq_true, Bool.not_eq_true'] at h4
            intro z
            rw [z] at h4
            simp at h4
          rw [namesOn2 e2] at hw
          exact parOk2 (o.ok.calm hcm) o.ok.nd k1 k2' hij (by rw [o.ok.hS]; exact h5.1) (by rw [o.ok.hS]; exact h5.2) pa hw sw_tupS
      · match tgs, is, vs, hlen, e3, e4, h1, h5, pa with
        | [t1, t2, t3], [i, j, l], [a, b, c], _, _, _, h1, h5, pa =>
          cases t1 <;> first | (simp [okNm] at h1; done) | skip
          rename_i x px
          cases t2 <;> first | (simp [okNm] at h1; done) | skip
          rename_i y py
          cases t3 <;> first | (simp [okNm] at h1; done) | skip
          rename_i z pz
          simp only [okNm, Bool.and_eq_true, Bool.and_true] at h1
          simp only [allLocal, Bool.and_eq_true, beq_iff_eq, Bool.and_true] at h5
          obtain ⟨k1, _, _⟩ := tgVis_ok o.ok h1.1
          obtain ⟨k2', _, _⟩ := tgVis_ok o.ok h1.2.1
          obtain ⟨k3, _, _⟩ := tgVis_ok o.ok h1.2.2
          simp only [distinct, Bool.and_eq_true, Bool.not_eq_true', List.contains_eq_mem, List.mem_cons, List.not_mem_nil, or_false, decide_eq_false_iff_not, not_or, not_false_eq_true, and_true] at h4
          rw [namesOn3 e2] at hw
          exact parOk3 (o.ok.calm hcm) o.ok.nd k1 k2' k3 h4.1.1 h4.1.2 h4.2 (by rw [o.ok.hS]; exact h5.1) (by rw [o.ok.hS]; exact h5.2.1) (by rw [o.ok.hS]; exact h5.2.2) pa hw sw_tupS

theorem okE_look {i : Nat} : ∀ (n : Nat) (v : Expr), okE T n s (.look i) v = false
  | 0, v => rfl
  | n + 1, v => by
    unfold okE
    split <;> first | rfl | (rename_i h; cases h; done) | (rename_i h _; cases h; done) | exact okE_look n _ | simp_all
structure SoundS (T : Tab) (K : Cal) (XA : XAT) (n : Nat) : Prop where
  s : ∀ (X : Cx) (S : Stg X.K) (E : XK) (s : Sc) (st : IS) (ast : Stmt), OkS T K XA X S E s → okS T n s st ast = true → SS X S XA E ast (writ st) (fun env => evS K env st)
  ss : ∀ (X : Cx) (S : Stg X.K) (E : XK) (s : Sc) (st : List IS) (ast : List Stmt), OkS T K XA X S E s → okSs T n s st ast = true → SSs X S XA E ast (writs st) (fun env => evSs K env st)
theorem soundS0 : SoundS T K XA 0 := by
  constructor <;> intros <;> rename_i h <;> cases h
theorem SS.congr {st : Stmt} {W : List Nat} {m m' : Env → M Flow} (h : SS X S XA E st W m) (e : ∀ env, m env = m' env) : SS X S XA E st W m' := (funext e : m = m') ▸ h
theorem SSs.congr {st : List Stmt} {W : List Nat} {m m' : Env → M Flow} (h : SSs X S XA E st W m) (e : ∀ env, m env = m' env) : SSs X S XA E st W m' := (funext e : m = m') ▸ h
/-- a list that is written no more -/
theorem At.frz {K : PySem.W.Frag} {S : Stg K} {Mu0 Mu : Addr → Prop} {H0 H : Hp} {env : Env} {h : List D} {σ : L2.St} (a : At S Mu0 H0 Mu env h σ H) {i : Nat} {d : D} (hi : nth env i = .own d) :
    ∃ Mu1 : Addr → Prop, (∀ b, Mu1 b → Mu b) ∧ At S Mu0 H0 Mu1 (put env i (.val d)) h σ H := by
  have hs := a.es.slot i
  rw [hi] at hs
  obtain ⟨p, ep, mp, np, ow⟩ := hs
  have hown : isOwn (nth env i) = true := by rw [hi]; rfl
  have n0 : ¬ Mu0 p := a.own i p hown ep
  let Mu1 : Addr → Prop := fun b => Mu b ∧ b ≠ p
  have le : ∀ b, Mu1 b → Mu b := fun b m => m.1
  have hlt : i < env.length := by
    rcases Nat.lt_or_ge i env.length with z | z
    · exact z
    · have : nth env i = .no := by
        have key : ∀ (e : Env) (k : Nat), e.length ≤ k → nth e k = .no := by
          intro e
          induction e with
          | nil => intro k _; rfl
          | cons x r ih => intro k hk; cases k with
            | zero => simp at hk
            | succ k => exact ih k (by simpa using hk)
        exact key env i z
      rw [this] at hi; cases hi
  have P : ∀ j, j ≠ i → nth (put env i (.val d)) j = nth env j := fun j hj => by
    rw [nth_put, if_neg fun z => hj z.1.symm]
  have Pi : nth (put env i (.val d)) i = .val d := by rw [nth_put, if_pos ⟨rfl, hlt⟩]
  have ownj : ∀ j, isOwn (nth (put env i (.val d)) j) = true → j ≠ i ∧ isOwn (nth env j) = true := fun j o => by
    by_cases e : j = i
    · subst e; rw [Pi] at o; cases o
    · rw [P j e] at o; exact ⟨e, o⟩
  refine ⟨Mu1, le, a.pres, fun b m => ⟨a.sub b m, fun z => n0 (by rw [← z]; exact m)⟩, fun b m => a.new b m.1, a.hd, a.dom0, ⟨by rw [put_len]; exact a.es.len, fun j => ?_, fun j k b n oj ok qj qk => ?_, a.es.hand.fewer le fun b e => ⟨(a.es.hand.lst e).1, fun z => np (by rw [← z]; exact e)⟩, fun b m => a.es.dom b m.1, a.es.tabs⟩, fun j b oj qj => a.own j b (ownj j oj).2 qj⟩
  · by_cases e : j = i
    · subst e
      rw [Pi]
      exact ⟨_, ep, ow.rep le (fun z => z.2 rfl)⟩
    · rw [P j e]
      have := a.es.slot j
      cases q : nth env j with
      | no => trivial
      | val d => rw [q] at this; obtain ⟨v, e1, r⟩ := this; exact ⟨v, e1, r.fewer le⟩
      | own d =>
        rw [q] at this
        obtain ⟨b, e1, m1, n1, o1⟩ := this
        refine ⟨b, e1, ⟨m1, fun z => ?_⟩, n1, o1.stayC ⟨fun a o d n e => ⟨fun z => n (le a z), e⟩, fun a xs e => e, fun a o u e => ⟨fun n z => n (le a z), e⟩⟩ fun u e _ => e⟩
        rw [z] at e1
        exact a.es.dis j i p e (by rw [q]; rfl) hown e1 ep
      | hand => rw [q] at this; exact this
      | thunk f => trivial
      | raw d =>
        rw [q] at this
        obtain ⟨v, e1, r⟩ := this
        exact ⟨v, e1, r.stay ⟨fun a o d n e => ⟨fun z => n (le a z), e⟩, fun a xs e => e, fun a o u e => ⟨fun n z => n (le a z), e⟩⟩⟩
      | exn c => rw [q] at this; exact this
  · exact a.es.dis j k b n (ownj j oj).2 (ownj k ok).2 qj qk
theorem GoodS.frz {K : PySem.W.Frag} {S : Stg K} {Mu0 Mu Mu1 : Addr → Prop} {H0 H : Hp} {XA : XAT} {E : XK} {W : List Nat} {σ : L2.St} {r : R Flow} {Nx : L2.St → Hp → Prop} {Rt : VK} (g : GoodS S Mu0 H0 XA E W Mu σ H r Nx Rt) (le : ∀ b, Mu1 b → Mu b) : GoodS S Mu0 H0 XA E W Mu1 σ H r Nx Rt := by
  unfold GoodS at *
  split at g
  · exact fun Mu' σ' H' a s => g Mu' σ' H' a ⟨fun b o e t l => s.keep b o e t fun m => l (le b m), s.dom, fun b n m => s.ap b n fun z => m (le b z), s.fr⟩
  · exact g
  · exact g
  · exact g
theorem sound_ss {n : Nat} (I : SoundS T K XA n) (X : Cx) (S : Stg X.K) (E : XK) (s : Sc) (st : List IS) (ast : List Stmt) (o : OkS T K XA X S E s) (h : okSs T (n + 1) s st ast = true) : SSs X S XA E ast (writs st) (fun env => evSs K env st) := by
  unfold okSs at h
  split at h
  · exact sss_nil
  · rename_i ys i xs
    obtain ⟨t, p, q⟩ := (I.ss X S E s _ _ o h).more (W1 := writs (.frz i :: xs)) fun j z => by simp [writs, z]
    refine ⟨t, p, fun Mu0 H0 Mu env h σ H Q at' g => ?_⟩
    have e1 : evSs K env (.frz i :: xs) = bnd (nextM (frzSlot env i)) fun
      | .next env' => evSs K env' xs
      | .ret d => ret (.ret d) := by
      show bnd _ _ = bnd _ _
      exact congrArg (bnd (nextM (frzSlot env i))) (funext fun fl => by cases fl <;> rfl)
    have g2 : GoodS S Mu0 H0 XA E (writs (.frz i :: xs)) Mu σ H (evSs K env (.frz i :: xs) h) Q.nx Q.rt := g
    rw [e1] at g2
    cases hi : nth env i with
    | own d =>
      obtain ⟨Mu1, le, at1⟩ := at'.frz hi
      have e2 : frzSlot env i = ret (put env i (.val d)) := by unfold frzSlot; rw [hi]
      unfold nextM at g2
      rw [e2, bnd_ret, bnd_ret] at g2
      exact q Mu0 H0 Mu1 _ h σ H Q at1 (g2.frz le)
    | _ =>
      have e2 : frzSlot env i = fail := by unfold frzSlot; rw [hi]
      unfold nextM at g2
      rw [e2, bnd_fail, bnd_fail] at g2
      exact (GoodS.fail g2).elim
  · rename_i x xs y ys _
    simp only [Bool.and_eq_true] at h
    have h1 := (I.s X S E s _ _ o h.1).more (W1 := writs (x :: xs)) fun i z => by simp [writs, z]
    have h2 := (I.ss X S E s _ _ o h.2).more (W1 := writs (x :: xs)) fun i z => by simp [writs, z]
    exact (sss_cons h1 h2).congr fun env => by
      show bnd _ _ = bnd _ _
      exact congrArg (bnd (evS K env x)) (funext fun fl => by cases fl <;> rfl)
  · cases h
theorem assign1 {t : Expr} {env : PySem.Env} (h : plainB t = true) : (assignEach [t] env).map (·.2) = [assign t env] := by
  rw [assignEach_map (by simpa using h)]
  rfl
theorem sub_assign {a b : Expr} {sp : Pos} {env : PySem.Env} (h : plainB b = true) : ∀ v, assign (.Subscript a b sp) env v = (do
      let ov ← holding [v] (eval a env)
      let iv ← holding [v, ov] (eval b env)
      standAt sp
      holding [v, ov, iv] (setItem ov iv v)
      release [v, ov, iv] []) := fun v => by
  cases b <;> first | rfl | cases h
theorem sub_aug {b : Expr} (h : plainB b = true) : ∀ ov iv new, augStore b ov iv new = (do holding [new, ov, iv] (setItem ov iv new); release [new, ov, iv] []; pure .next) := fun ov iv new => by
  cases b <;> first | rfl | cases h
theorem sound_s {n : Nat} (I : SoundS T K XA n) (X : Cx) (S : Stg X.K) (E : XK) (s : Sc) (st : IS) (ast : Stmt) (o : OkS T K XA X S E s) (h : okS T (n + 1) s st ast = true) : SS X S XA E ast (writ st) (fun env => evS K env st) := by
  have J := soundN (T := T) (K := K) (XA := XA) n
  unfold okS at h
  split at h
  · -- name = a comprehension
    simp only [Bool.and_eq_true] at h
    obtain ⟨te, p, q⟩ := lcN o h.1 h.2
    exact (ss_set p q.sem).congr fun env => rfl
  · simp only [Bool.and_eq_true] at h
    obtain ⟨te, p, q⟩ := lcN o h.1 h.2
    exact ss_own p q
  · -- name = e
    simp only [Bool.and_eq_true] at h
    obtain ⟨h1, h2, h3⟩ := tgVis_ok o.ok h.1.1
    obtain ⟨te, pe, qe⟩ := J.e X S E s _ _ o.ok h.1.2
    exact (ss_set (ps_set o.ok.nd h1 h2 pe (sw_noComp h.2) h3) qe).congr fun env => rfl
  · simp only [Bool.and_eq_true] at h
    obtain ⟨h1, h2, h3⟩ := tgVis_ok o.ok h.1.1
    obtain ⟨te, pe, qe⟩ := sound_f o.ok h.1.2
    exact ss_own (ps_set o.ok.nd h1 h2 pe (sw_noComp h.2) h3) qe
  · -- a, b = e
    rename_i us e ts k tp v pos
    simp only [Bool.and_eq_true] at h
    exact ss_asg (J.e X S E s _ _ o.ok h.1.2) (okG_ok o.ok (.tup us) _ h.1.1 fun _ z => z) sw_tupS (ss_none h.2) (assign1 rfl)
  · -- a, b = x, y
    rename_i ts es tgs k pt vs k2 pt2 pos
    cases q : parIs ts with
    | none => rw [q] at h; cases h
    | some p =>
      obtain ⟨is, fl⟩ := p
      rw [q] at h
      simp only [Bool.and_eq_true, decide_eq_true_eq] at h
      obtain ⟨⟨⟨⟨⟨hcm, h1⟩, h2⟩, h3⟩, h4⟩, h5⟩ := h
      obtain ⟨e1, e2, e3⟩ := parIs_ts q
      obtain ⟨hp, hfl⟩ := sound_ps (K := K) (XA := XA) (S := S) (E := E) o.ok fl es vs h2
      have := ss_par (par_ok o hcm (k := k) (k2 := k2) (pt := pt) (pt2 := pt2) (pos := pos) h1 h2 h3 h4 e3 h5) hp e3 (hfl.symm.trans e3.symm)
      show SS X S XA E _ (parN ts) _
      rw [e2]
      rw [e1]
      exact this
  · -- x[k] = e
    simp only [Bool.and_eq_true] at h
    obtain ⟨h1, h2, h3, h4⟩ := o.ok.var h.1.1.1
    exact ss_setI (by have := o.ok.un; omega) h1 h2 h3 h4 (J.e X S E s _ _ o.ok h.1.1.2) (J.e X S E s _ _ o.ok h.1.2) sw_subS rfl (assign1 rfl) (sub_assign h.2)
  · -- x += e
    simp only [Bool.and_eq_true, Bool.or_eq_true, beq_iff_eq, decide_eq_true_eq] at h
    obtain ⟨⟨⟨h0, hop⟩, rfl⟩, he⟩ := h
    obtain ⟨h1, h2, h3⟩ := tgVis_ok o.ok h0
    exact ss_augN hop o.ok.nd h1 h2 h3 (J.e X S E s _ _ o.ok he)
  · -- x[k] += e
    simp only [Bool.and_eq_true, Bool.or_eq_true, beq_iff_eq, decide_eq_true_eq] at h
    obtain ⟨⟨⟨⟨⟨h0, hop⟩, rfl⟩, he⟩, hk⟩, hp⟩ := h
    obtain ⟨h1, h2, h3, h4⟩ := o.ok.var h0
    exact ss_augI (by have := o.ok.un; omega) hop h1 h2 h3 h4 (J.e X S E s _ _ o.ok he) (J.e X S E s _ _ o.ok hk) (sub_aug hp)
  · -- append
    simp only [Bool.and_eq_true, beq_iff_eq] at h
    obtain ⟨⟨⟨⟨rfl, h0⟩, he⟩, hp⟩, hl⟩ := h
    obtain ⟨h1, h2, h3, h4⟩ := o.ok.var h0
    exact ss_app h1 h2 h3 h4 (J.e X S E s _ _ o.ok he) (base_ok rfl) (few_ok hp) (by simpa using hl) (star_ok hp) (noStar _ (by simp)) (sw_noComp rfl)
  · -- extend
    simp only [Bool.and_eq_true, beq_iff_eq] at h
    obtain ⟨⟨⟨⟨rfl, h0⟩, he⟩, hp⟩, hl⟩ := h
    obtain ⟨h1, h2, h3, h4⟩ := o.ok.var h0
    refine (ss_ext h1 h2 h3 h4 (sound_f o.ok he) (base_ok rfl) (few_ok hp) (by simpa using hl) (star_ok hp) (noStar _ (by simp)) (sw_noComp rfl)).congr fun env => ?_
    rename_i i e x np ap a cp pos
    cases e <;> first | rfl | (cases he)
  · -- update
    simp only [Bool.and_eq_true, beq_iff_eq] at h
    obtain ⟨⟨⟨⟨rfl, h0⟩, he⟩, hp⟩, hl⟩ := h
    obtain ⟨h1, h2, h3, h4⟩ := o.ok.var h0
    exact ss_upd (by have := o.ok.un; omega) h1 h2 h3 h4 (J.e X S E s _ _ o.ok he) (base_ok rfl) (few_ok hp) (by simpa using hl) (star_ok hp) (noStar _ (by simp)) (sw_noComp rfl)
  · -- pop
    simp only [Bool.and_eq_true, beq_iff_eq] at h
    obtain ⟨⟨⟨rfl, h0⟩, ht⟩, hl⟩ := h
    obtain ⟨h1, h2, h3, h4⟩ := o.ok.var h0
    obtain ⟨k1, k2, k3⟩ := tgVis_ok o.ok ht
    exact ss_popL (ps_set o.ok.nd k1 k2 (pe_bm0 PySem.F.plainAttrs_list PySem.F.slot_list_pop PySem.F.type_list_pop mt_pop (pe_var h1 h2 h3 h4) (base_ok rfl) (by simpa using hl)) (sw_noComp rfl) k3)
  · -- x = y, y a list that is written
    simp only [Bool.and_eq_true] at h
    obtain ⟨h1, h2, h3, h4⟩ := o.ok.var h.1
    obtain ⟨k1, k2, k3⟩ := tgVis_ok o.ok h.2
    exact ss_mov (ps_set o.ok.nd k1 k2 (pe_var h1 h2 h3 h4) (sw_noComp rfl) k3)
  · -- if
    rename_i c a b tc ta tb pos
    simp only [Bool.and_eq_true] at h
    exact ss_if (J.t X S E s _ _ o.ok h.1.1) ((I.ss X S E s _ _ o h.1.2).more fun i z => by simp [writ, z]) ((I.ss X S E s _ _ o h.2).more fun i z => by simp [writ, z])
  · -- for
    rename_i tg it car tmp body t iter bd pos
    simp only [Bool.and_eq_true, List.all_eq_true, List.contains_iff_mem, Bool.not_eq_true'] at h
    obtain ⟨⟨⟨⟨⟨⟨⟨hcm, h1⟩, h2⟩, h3⟩, h4⟩, h5⟩, h6⟩, h7⟩ := h
    exact ss_for (o.own hcm) (o.ok.calm hcm) (J.i X S E s it t iter (srcs it) o.ok h1 fun _ z => z) (okG_ok o.ok tg t h2 fun _ z => z) (I.ss X S E s body bd o h3) (fun env => frmSs K body env) (assignT_same tg) h4 h5 (fun j hj z => by
      have := h6 j hj
      rw [List.contains_iff_mem.mpr z] at this
      cases this) (folded_ok h7)
  · -- while
    simp only [Bool.and_eq_true, List.all_eq_true, List.contains_iff_mem] at h
    exact ss_while (o.own h.1.1.1) (J.t X S E s _ _ o.ok h.1.1.2) (I.ss X S E s _ _ o h.1.2) (fun env => frmSs K _ env) h.2
  · -- return x
    obtain ⟨h1, h2, h3, h4⟩ := o.ok.var h
    exact ss_retO h1 h2 h3 h4
  · cases h
  · -- return e
    rename_i e v pos _ _
    have hh := ss_ret (W := writ (.ret e)) (pos := pos) (J.e X S E s _ _ o.ok h)
    cases e <;> first | exact hh | (exfalso; simp_all; done) | (rw [okE_look] at h; cases h)
  · exact ss_retN
  · -- raise
    simp only [Bool.and_eq_true, beq_iff_eq] at h
    obtain ⟨C, hk, hx⟩ := o.exn h.1.1 _ _ h.1.2 (o.ok.gl_ h.2)
    exact ss_raise0 (o.ok.calm h.1.1) o.tk (hk _ _) hx
  · -- e
    simp only [Bool.and_eq_true] at h
    exact ss_expr (J.e X S E s _ _ o.ok h.1) (sw_noComp h.2)
  · exact ss_pass
  · exact ⟨tNever, ps_never, fun Mu0 H0 Mu env h σ H Q at' g => (GoodS.fail (show GoodS S Mu0 H0 XA E _ Mu σ H (fail h) Q.nx Q.rt from g)).elim⟩
  · cases h
theorem soundSN (n : Nat) : SoundS T K XA n := by
  induction n with
  | zero => exact soundS0
  | succ n I => exact ⟨sound_s I, sound_ss I⟩
end
end Ev
set_option Elab.async false
set_option linter.all false
set_option maxRecDepth 100000
set_option maxHeartbeats 4000000
/-! Defs by their forms. -/
namespace Ev
open PySem PySem.Spec PyProof.Rows L2

section
variable {P : Program} {w : World} {K : PySem.W.Frag} {mg : Str → Option Value} {base : Heap}
/-- what the module gives; C: what its defs are worth at level k -/
structure ModOk (P : Program) (w : World) (K : PySem.W.Frag) (mg : Str → Option Value) (base : Heap) (T : Tab) (XA : XAT) (k : Nat) (C : Nat → List Slot → M D) : Prop where
  bi : ∀ x ∈ biN, mg x = none
  gl : ∀ x d, T.cst x = some d → ∃ u v, mg x = some u ∧ RelV v u ∧ ∀ Mu H, Rep K Mu H v d
  fns : ∀ f x, T.nm f = some x → ∃ j fa fd ps, j ≤ k ∧ FnOk P w K mg base (L2.CX P w) j fa fd ps (spF K XA ps.length (C f)) ∧ mg x = some (.ref fa) ∧ PySem.W.keepIn K (.ref fa) = true ∧ Binds K fd ps [] ∧ ps.length = T.np f
  exn : ∀ c x, T.exn c = some x → ∃ (C : Addr) (B newId initId : String) (bmB : List Value), ExcBaseFacts B newId initId bmB ∧ PySem.W.excIn K C bmB newId = true ∧ mg x = some (.ref C) ∧ PySem.W.keepIn K (.ref C) = true ∧
    PySem.W.subIn K (.ref C) (.type "BaseException") = some true ∧ PySem.W.typeIn K (.ref C) = some (.type "type") ∧ (x == ("__debug__" : Str)) = false ∧ ∀ H, XA ⟨c, []⟩ (.ref C) none H
variable {T : Tab} {XA : XAT} {Kal : Cal} {k : Nat} {N ps : List Str} {sc : Scope} {qual : Str} {f : Addr} {cdv : Value} {A : Around} {outer : List PySem.Env} {s : Shared} {H : Hp} {E : XK} {S : Stg K}
theorem okL_fn (M : ModOk P w K mg base T XA k Kal.C) (Sg : FnScope N ps sc) (hr : Room k (A.deeper (envOfC qual sc s.heap.objs.size f cdv))) (lam : Bool) :
    OkL T Kal XA (cxOf (L2.CX P w) P w K mg base N qual sc f cdv A outer s H E) S E ⟨N, sc, fun _ => true, lam, true, false⟩ where
  calm := fun _ => rfl
  nd := Sg.nd
  hN := rfl
  hS := rfl
  hf := fun _ _ => rfl
  un := by have := hr.un; show (A.deeper _).units + 65 < cLine; omega
  bi := M.bi
  gl := M.gl
  fns := fun g x h => by
    obtain ⟨j, fa, fd, ps, hj, F, h1, h2, h3, h4⟩ := M.fns g x h
    exact ⟨j, fa, fd, ps, F, hr.mono hj, h1, h2, h3, h4⟩
  pass := passes_call (W := fun cls d _ H => E cls d H) (takes_of rfl rfl rfl rfl) fun _ _ _ _ h => h
  isx := fun z => (by cases z)
theorem okS_fn (M : ModOk P w K mg base T XA k Kal.C) (Sg : FnScope N ps sc) (lam : Bool) (o : Ok T Kal XA (cxOf (L2.CX P w) P w K mg base N qual sc f cdv A outer s H E) S E ⟨N, sc, fun _ => true, lam, true, false⟩) :
    OkS T Kal XA (cxOf (L2.CX P w) P w K mg base N qual sc f cdv A outer s H E) S E ⟨N, sc, fun _ => true, lam, true, false⟩ where
  ok := o
  kind := Sg.kind
  own := fun _ => passes_of rfl
  tk := takes_of rfl rfl rfl rfl
  exn := fun _ c x h hg => by
    obtain ⟨C, B, newId, initId, bmB, F, h1, h2, h3, h4, h5, h6, h7⟩ := M.exn c x h
    exact ⟨.ref C, fun p pos => pmk_own0 F h1 h2 h3 (raises_own h4 h5) hg h6, h7⟩
/-! ### a def's entry -/
theorem nth_app : ∀ (as : List Slot) (m i : Nat), nth (as ++ List.replicate m .no) i = (as[i]?).getD .no
  | [], m, i => by
    simp only [List.nil_append, List.getElem?_nil, Option.getD_none]
    induction m generalizing i with
    | zero => rfl
    | succ m ih =>
      rw [List.replicate_succ]
      cases i with
      | zero => rfl
      | succ i => exact ih i
  | a :: as, m, 0 => rfl
  | a :: as, m, i + 1 => by
    show nth (as ++ List.replicate m .no) i = _
    rw [nth_app as m i]
    rfl
theorem ArgsAt.get {Mu : Addr → Prop} {H : Hp} {vs : List V} {as : List Slot} (r : ArgsAt S Mu H vs as) : ∀ (i : Nat) (s : Slot), as[i]? = some s → ∃ v, vs[i]? = some v ∧ ArgAt S Mu H v s := by
  induction r with
  | nil => intro i s h; simp at h
  | cons h1 r1 ih =>
    intro i s h
    cases i with
    | zero => simp at h; subst h; exact ⟨_, rfl, h1⟩
    | succ i => exact ih i s (by simpa using h)
theorem entry_es {Mu : Addr → Prop} {H : Hp} {h : List D} {vs : List V} {as : List Slot} {fn : Fn} {N : List Str} (hn : N.length = fn.n) (hle : vs.length ≤ fn.n) (r : ArgsAt S Mu H vs as) (x : HandAt S Mu H h) (dom : ∀ a, Mu a → ¬ Fr H a) (tabs : LamX.Tabs S.T H) :
    ES S Mu (entry fn as) h (L2.start N vs) H ∧ ∀ i, isOwn (nth (entry fn as) i) = false := by
  have hl := r.length
  have no : ∀ i, isOwn (nth (entry fn as) i) = false := fun i => by
    unfold entry
    rw [nth_app]
    cases q : as[i]? with
    | none => rfl
    | some s =>
      obtain ⟨v, _, ha⟩ := r.get i s q
      cases s <;> first | rfl | exact ha.elim
  refine ⟨⟨?_, fun i => ?_, fun i j a n oi => ?_, x, dom, tabs⟩, no⟩
  · unfold entry L2.start
    rw [List.length_append, List.length_replicate, List.length_append, List.length_map, List.length_replicate]
    omega
  · unfold entry
    rw [nth_app]
    cases q : as[i]? with
    | none => trivial
    | some s =>
      obtain ⟨v, hv, ha⟩ := r.get i s q
      have hi : i < vs.length := by
        rcases Nat.lt_or_ge i vs.length with z | z
        · exact z
        · rw [List.getElem?_eq_none z] at hv; cases hv
      have hs : (L2.start N vs)[i]? = some (some v) := by
        unfold L2.start
        rw [List.getElem?_append_left (by simpa using hi), List.getElem?_map, hv]
        rfl
      rw [hs]
      cases s with
      | val d => exact ⟨v, rfl, ha⟩
      | hand => obtain ⟨a, rfl, e⟩ := ha; exact ⟨a, rfl, e⟩
      | no => trivial
      | thunk f => trivial
      | own d => exact ha.elim
      | raw d => exact ⟨v, rfl, ha⟩
      | exn c => exact ha.elim
  · rw [no] at oi; cases oi
theorem good_out {Mu : Addr → Prop} {H : Hp} {h : List D} {σ : L2.St} {W : List Nat} {m : M Flow} {Q : VK} (g : Good S Mu XA (bnd m outOf h) H (fun d h' H' => ∀ v, Rep K Mu H' v d → Q v H') E) : GoodS S Mu H XA E W Mu σ H (m h) (fun _ H' => Q .non H') Q := by
  rw [run_bnd] at g
  cases q : m h with
  | ok fl h1 =>
    rw [q] at g
    cases fl with
    | next env' =>
      intro Mu' σ' H' a _
      have g2 : Good S Mu XA (ret PyData.none h1) H (fun d h' H' => ∀ v, Rep K Mu H' v d → Q v H') E := g
      rw [run_ret] at g2
      exact g2 H' a.pres (a.hand0 a.es.hand) _ .non
    | ret d =>
      have g2 : Good S Mu XA (ret d h1) H (fun d h' H' => ∀ v, Rep K Mu H' v d → Q v H') E := g
      rw [run_ret] at g2
      exact fun v H' p x r => g2 H' p x v r
  | exc e h1 => rw [q] at g; exact fun c d H' p x xa => g c d H' p x xa
  | bad => rw [q] at g; exact g
/-- A def, by its form -/
theorem ok_fn {x : Str} {st : Stmt} {fd : FuncData} {fn : Fn} {fuel : Nat} {lam : Bool} (F : Fun K x qual st f fd) (Sg : FnScope N ps (defScope st)) (M : ModOk P w K mg base T XA k Kal.C) (hb : okSs T fuel ⟨N, defScope st, fun _ => true, lam, true, false⟩ fn.body (defBody st) = true) (hnp : ps.length = fn.np) (hn : N.length = fn.n) (hle : fn.np ≤ fn.n)
    (hlam : ∀ (S : Stg K) (cdv : Value) (A : Around) (outer : List PySem.Env) (s : Shared) (H : Hp) (E : XK), Room k (A.deeper (envOfC qual (defScope st) s.heap.objs.size f cdv)) → OkL T Kal XA (cxOf (L2.CX P w) P w K mg base N qual (defScope st) f cdv A outer s H E) S E ⟨N, defScope st, fun _ => true, lam, true, false⟩ →
      Ok T Kal XA (cxOf (L2.CX P w) P w K mg base N qual (defScope st) f cdv A outer s H E) S E ⟨N, defScope st, fun _ => true, lam, true, false⟩) :
    FnOk P w K mg base (L2.CX P w) (k + 1) f fd ps (spF K XA ps.length (runFn Kal fn)) := by
  refine F.okX Sg (fun vs H Q E h => ?_) (fun cdv A outer s H vs Q E hr h => ?_)
  · obtain ⟨_, _, _, _, h, _⟩ := h
    exact h
  · obtain ⟨S, Mu, as, hh, hl, ra, hx, dom, tabs, g⟩ := h
    have o := okS_fn (S := S) (E := E) M Sg lam (hlam S cdv A outer s H E hr (okL_fn M Sg hr lam))
    obtain ⟨t, pt, qt⟩ := (soundSN (T := T) (K := Kal) (XA := XA) fuel).ss (cxOf (L2.CX P w) P w K mg base N qual (defScope st) f cdv A outer s H E) S E ⟨N, defScope st, fun _ => true, lam, true, false⟩ fn.body (defBody st) o hb
    have hal := ra.length
    obtain ⟨es, no⟩ := entry_es (fn := fn) hn (by omega) ra hx dom tabs
    refine ⟨t, pt, qt Mu H Mu (entry fn as) hh (L2.start N vs) H _ ⟨Pres.refl H, fun _ z => z, fun _ z => .inl z, fun a z => hx.hdMu a z, dom, es, fun i a oi => by rw [no] at oi; cases oi⟩ ?_⟩
    have g2 : Good S Mu XA (bnd (evSs Kal (entry fn as) fn.body) outOf hh) H (fun d h' H' => ∀ v, Rep K Mu H' v d → Q v H') E := by
      unfold runFn at g
      rw [if_pos (by omega)] at g
      exact g
    exact good_out g2
end
end Ev
set_option Elab.async false
set_option linter.all false
set_option maxRecDepth 100000
set_option maxHeartbeats 4000000
/-! The whole program: its defs by level; the law. -/
namespace Ev
open PySem PySem.Spec PyProof.Rows L2

section
variable {P : Program} {w : World} {K : PySem.W.Frag} {mg : Str → Option Value} {base : Heap} {T : Tab} {XA : XAT} {Pr : Prg}
/-- a def of the text, and its form -/
def Form (K : PySem.W.Frag) (mg : Str → Option Value) (T : Tab) (Pr : Prg) (g : Nat) (y : Str) : Prop := ∃ (fa : Addr) (fd : FuncData) (st : Stmt) (N ps : List Str) (fn : Fn) (fuel : Nat), Fun K y y st fa fd ∧ FnScope N ps (defScope st) ∧ okSs T fuel ⟨N, defScope st, fun _ => true, false, true, false⟩ fn.body (defBody st) = true ∧
  ps.length = fn.np ∧ N.length = fn.n ∧ fn.np ≤ fn.n ∧ Pr.tbl g = some fn ∧ mg y = some (.ref fa) ∧ Binds K fd ps [] ∧ ps.length = T.np g
theorem mod_all (bi : ∀ x ∈ biN, mg x = none) (gl : ∀ x d, T.cst x = some d → ∃ u v, mg x = some u ∧ RelV v u ∧ ∀ Mu H, Rep K Mu H v d)
    (exn : ∀ c x, T.exn c = some x → ∃ (C : Addr) (B newId initId : String) (bmB : List Value), ExcBaseFacts B newId initId bmB ∧ PySem.W.excIn K C bmB newId = true ∧ mg x = some (.ref C) ∧ PySem.W.keepIn K (.ref C) = true ∧
      PySem.W.subIn K (.ref C) (.type "BaseException") = some true ∧ PySem.W.typeIn K (.ref C) = some (.type "type") ∧ (x == ("__debug__" : Str)) = false ∧ ∀ H, XA ⟨c, []⟩ (.ref C) none H)
    (forms : ∀ g y, T.nm g = some y → Form K mg T Pr g y) : ∀ k, ModOk P w K mg base T XA k (callF Pr k)
  | 0 => ⟨bi, gl, fun g y h => by
      obtain ⟨fa, fd, st, N, ps, fn, fuel, F, Sg, hb, h1, h2, h3, h4, h5, h6, h7⟩ := forms g y h
      refine ⟨0, fa, fd, ps, Nat.le_refl _, ⟨fun vs H Q E z => ?_, fun A outer s H args us vs Q E hr e0 hb r z => ?_⟩, h5, F.kp, h6, h7⟩
      · obtain ⟨_, _, _, _, z, _⟩ := z
        exact z
      · obtain ⟨S, Mu, as, hh, _, _, _, _, _, g⟩ := z
        exact (Good.fail (show Good S Mu XA (fail hh) H _ E from g)).elim, exn⟩
  | k + 1 => ⟨bi, gl, fun g y h => by
      have M := mod_all bi gl exn forms k
      obtain ⟨fa, fd, st, N, ps, fn, fuel, F, Sg, hb, h1, h2, h3, h4, h5, h6, h7⟩ := forms g y h
      have ok := ok_fn (Kal := calOf Pr k) (lam := false) F Sg M hb h1 h2 h3 fun S cdv A outer s H E hr o => o.up rfl
      refine ⟨k + 1, fa, fd, ps, Nat.le_refl _, ?_, h5, F.kp, h6, h7⟩
      have e : callF Pr (k + 1) g = runFn (calOf Pr k) fn := by
        rw [callF_at]
        funext as
        unfold callAt
        rw [h4]
      rw [e]
      exact ok, exn⟩

/-! ### the law -/
def intsD (ns : List Int) : D := .list (ns.map .int)
def envH (n ih : Nat) : Env := put (List.replicate n .no) ih .hand
def headOk (h : List D) : Prop := ∃ (cells r : List Int), h = .list (cells.map .int) :: r.map .int
def spLaw (K : PySem.W.Frag) (tb : List (Addr × Str)) (n : Nat) : Sp := fun vs H Q _ => ∃ (a : Addr) (ns : List Int), vs = [.ref a] ∧ SqL K H a (ns.map V.int) ∧ ns.length ≤ n ∧ LamX.Tabs tb H ∧ ∀ H', Q (.bl true) H'
theorem nth_rep (n i : Nat) : nth (List.replicate n .no) i = .no := by
  have := nth_app [] n i
  simpa using this
theorem ok_law {st s1 : Stmt} {rest : List Stmt} {f : Addr} {fd : FuncData} {qual x : Str} {N : List Str} {fuel k hf ih : Nat} {body : List IS} {lam : Bool} {Kal : Cal} {tb : List (Addr × Str)} {nmax : Nat} {y : Str} (F : Fun K x qual st f fd) (Sg : FnScope N [y] (defScope st)) (M : ModOk P w K mg base T XA k Kal.C)
    (hst : defBody st = s1 :: rest) (h1 : okS T fuel ⟨N, defScope st, fun _ => true, lam, true, false⟩ (.asg (.name ih) (.call hf [.var 0])) s1 = true) (h2 : okSs T fuel ⟨N, defScope st, fun _ => true, lam, true, false⟩ body rest = true) (hih : ih < N.length) (hih0 : 0 < N.length)
    (hlam : ∀ (S : Stg K) (cdv : Value) (A : Around) (outer : List PySem.Env) (s : Shared) (H : Hp) (E : XK), S.T = tb → Room k (A.deeper (envOfC qual (defScope st) s.heap.objs.size f cdv)) → OkL T Kal XA (cxOf (L2.CX P w) P w K mg base N qual (defScope st) f cdv A outer s H E) S E ⟨N, defScope st, fun _ => true, lam, true, false⟩ →
      Ok T Kal XA (cxOf (L2.CX P w) P w K mg base N qual (defScope st) f cdv A outer s H E) S E ⟨N, defScope st, fun _ => true, lam, true, false⟩)
    (ev : ∀ ns : List Int, ns.length ≤ nmax → ∃ h h', Kal.C hf [.raw (intsD ns)] [] = .ok (.list h) [] ∧ headOk h ∧ evSs Kal (envH N.length ih) body h = .ok (.ret (.bool true)) h') :
    FnOk P w K mg base (L2.CX P w) (k + 1) f fd [y] (spLaw K tb nmax) := by
  refine F.okX Sg (fun vs H Q E h => ?_) (fun cdv A outer s H vs Q E hr h => ?_)
  · obtain ⟨_, _, rfl, _⟩ := h
    rfl
  · obtain ⟨a, ns, rfl, hS, hlen, htb, hq⟩ := h
    obtain ⟨h0, h', e1, ⟨cells, r, rfl⟩, e2⟩ := ev ns hlen
    have oS : ∀ S : Stg K, S.T = tb → OkS T Kal XA (cxOf (L2.CX P w) P w K mg base N qual (defScope st) f cdv A outer s H E) S E ⟨N, defScope st, fun _ => true, lam, true, false⟩ := fun S hS => okS_fn (S := S) (E := E) M Sg lam (hlam S cdv A outer s H E hS hr (okL_fn M Sg hr lam))
    obtain ⟨t1, p1, q1⟩ := (soundSN (T := T) (K := Kal) (XA := XA) fuel).s (cxOf (L2.CX P w) P w K mg base N qual (defScope st) f cdv A outer s H E) ⟨tb, none, none⟩ E _ _ s1 (oS ⟨tb, none, none⟩ rfl) h1
    have pr : PSs (cxOf (L2.CX P w) P w K mg base N qual (defScope st) f cdv A outer s H E) rest (fun Q σ H => ∃ (S : Stg K) (Mu0 : Addr → Prop) (H0 : Hp) (Mu : Addr → Prop) (env : Env) (h : List D), S.T = tb ∧ At S Mu0 H0 Mu env h σ H ∧ GoodS S Mu0 H0 XA E (writs body) Mu σ H (evSs Kal env body h) Q.nx Q.rt) := by
      refine ⟨fun pins s2 σ2 H2 Q2 I ⟨S, Mu0, H0, Mu, env, hh, hT, a2, g2⟩ => ?_⟩
      obtain ⟨t2, p2, q2⟩ := (soundSN (T := T) (K := Kal) (XA := XA) fuel).ss (cxOf (L2.CX P w) P w K mg base N qual (defScope st) f cdv A outer s H E) S E _ body rest (oS S hT) h2
      exact p2.run pins s2 σ2 H2 Q2 I (q2 Mu0 H0 Mu env hh σ2 H2 Q2 a2 g2)
    rw [hst]
    refine ⟨_, pss_cons p1 pr, ?_⟩
    -- the first statement
    have hN1 : N.length = N.length := rfl
    have esR : RawAt K (fun _ => False) H (.ref a) (intsD ns) := by
      refine ⟨a, ns.map V.int, ns.map .int, rfl, rfl, RepL.ints ns, ?_⟩
      rcases hS with (z | ⟨o, z⟩) | z
      · exact .inl ⟨fun m => m, z⟩
      · exact .inr (.inl ⟨o, z⟩)
      · exact .inr (.inr z)
    have hx0 : HandAt (⟨tb, none, none⟩ : Stg K) (fun _ => False) H [] := rfl
    obtain ⟨es, no⟩ := entry_es (S := (⟨tb, none, none⟩ : Stg K)) (Mu := fun _ => False) (H := H) (h := []) (vs := [.ref a]) (as := [.raw (intsD ns)]) (fn := ⟨1, N.length, body⟩) (N := N) rfl (show 1 ≤ N.length from hih0) (.cons esR .nil) hx0 (fun _ m => m.elim) htb
    refine q1 (fun _ => False) H (fun _ => False) _ [] _ H _ ⟨Pres.refl H, fun _ z => z, fun _ z => .inl z, fun a z => (by cases z), fun _ m => m.elim, es, fun i a oi => by rw [no] at oi; cases oi⟩ ?_
    have ev1 : evS Kal (entry ⟨1, N.length, body⟩ [.raw (intsD ns)]) (.asg (.name ih) (.call hf [.var 0])) [] = .ok (.next (put (entry ⟨1, N.length, body⟩ [.raw (intsD ns)]) ih (.val (.list (.list (cells.map .int) :: r.map .int))))) [] := by
      have a0 : evAs Kal (entry ⟨1, N.length, body⟩ [.raw (intsD ns)]) [.var 0] = ret [.raw (intsD ns)] := by
        show bnd (argOf (.var 0) _ _) _ = _
        show bnd (ret (Slot.raw (intsD ns))) (fun d => bnd (ret []) fun ds => ret (d :: ds)) = _
        rw [bnd_ret, bnd_ret]
      show bnd (bnd (evAs Kal _ [.var 0]) fun as => Kal.C hf as) (fun d => nextM (assignT (.name ih) d _)) [] = _
      rw [a0, bnd_ret, bnd_ok e1]
      show nextM (ret _) [] = _
      unfold nextM
      rw [bnd_ret, run_ret]
    dsimp only
    rw [ev1]
    intro Mu' σ' H' a1 _
    -- the hand
    have hsl := a1.es.slot ih
    rw [nth_put, if_pos ⟨rfl, by unfold entry; rw [List.length_append, List.length_replicate]; simp; omega⟩] at hsl
    obtain ⟨v, ev, rv⟩ := hsl
    cases rv with
    | lst hm hp hr2 =>
      rename_i p vs
      cases hr2 with
      | cons hc hrest =>
        rename_i v0 vs0
        cases hc with
        | lst hm2 hp2 hr3 =>
          rename_i c us
          have eu : us = cells.map V.int := hr3.ints_inv (by
            have := allInts_map (fun i : Int => i) cells
            simpa using this)
          have evs : vs0 = r.map V.int := hrest.ints_inv (by
            have := allInts_map (fun i : Int => i) r
            simpa using this)
          subst eu
          subst evs
          have ncp : c ≠ p := fun z => by
            subst z
            rw [hp2] at hp
            cases cells with
            | nil => cases hp
            | cons i is => cases hp
          have hx1 : HandAt (⟨tb, some p, none⟩ : Stg K) (fun b => b = p) H' (.list (cells.map .int) :: r.map .int) := ⟨rfl, _, hp, .cons (.lst ncp hp2 (RepL.ints cells)) (RepL.ints r)⟩
          have lenσ : σ'.length = N.length := by
            have := a1.es.len
            rw [put_len] at this
            unfold entry at this
            rw [List.length_append, List.length_replicate] at this
            simp at this
            omega
          have noO : ∀ i, isOwn (nth (envH N.length ih) i) = false := fun i => by
            unfold envH
            rw [nth_put]
            split
            · rfl
            · rw [nth_rep]; rfl
          refine ⟨⟨tb, some p, none⟩, fun b => b = p, H', fun b => b = p, envH N.length ih, .list (cells.map .int) :: r.map .int, rfl, ⟨Pres.refl H', fun _ z => z, fun _ z => .inl z, fun b z => (by cases z; rfl), fun b z => by subst z; exact notFr hp fun ps y => (by cases y), ⟨?_, fun i => ?_, fun i j b n oi => ?_, hx1, fun b z => by subst z; exact notFr hp fun ps y => (by cases y), a1.es.tabs⟩, fun i b oi => by rw [noO] at oi; cases oi⟩, ?_⟩
          · unfold envH
            rw [put_len, List.length_replicate, lenσ]
          · unfold envH
            rw [nth_put]
            split
            · rename_i z
              obtain ⟨rfl, _⟩ := z
              exact ⟨p, ev, rfl⟩
            · rw [nth_rep]; trivial
          · rw [noO] at oi; cases oi
          · rw [e2]
            intro v2 H2 _ _ rv2
            rw [rv2.bool_inv]
            exact hq H2
end
end Ev
set_option Elab.async false
set_option linter.all false
set_option maxRecDepth 100000
set_option maxHeartbeats 2000000
/-! Several `except X as e` clauses. -/
namespace Ev
open PySem PySem.Spec PyProof.Rows L2

/-- a suite's ends: the clause's name is gone behind it -/
def gone (i : Nat) (Q : Ends) : Ends := { nx := fun σ' H' => Q.nx (σ'.set i none) H', rt := Q.rt, bk := fun σ' H' => Q.bk (σ'.set i none) H', ct := fun σ' H' => Q.ct (σ'.set i none) H' }
/-- what the clauses wish, one after the other -/
def wAsL (K : PySem.W.Frag) (i : Nat) (Wout : WX) (Q : Ends) : List (Value × (Addr → Value → Option Addr → TS)) → WX
  | [] => Wout
  | (c, ts) :: r => fun cls d σ H => ∃ b, PySem.W.exmOne K cls c = some b ∧ (b = true → ∀ a, H a = none → ts a cls d (gone i Q) (σ.set i (some (.ref a))) H) ∧ (b = false → wAsL K i Wout Q r cls d σ H)
inductive AsOk (X : Cx) (n : Str) : List ExceptHandler → List (Value × (Addr → Value → Option Addr → TS)) → Prop
  | nil : AsOk X n [] []
  | cons {x : Str} {c : Value} {ts : Addr → Value → Option Addr → TS} {b₀ : Stmt} {suite : List Stmt} {np pos' : Pos} {hds : List ExceptHandler} {l : List (Value × (Addr → Value → Option Addr → TS))} (hc : Names X x c)
      (hsu : ∀ (a : Addr) (oe : Obj) (cls : Value) (d : Option Addr) (pn : List (Addr × Obj)), Zc cls d oe → (∃ vs, oe.data = .fields vs) → PSs (X.suite a ((a, oe) :: pn)) (b₀ :: suite) (ts a cls d)) (r : AsOk X n hds l) :
      AsOk X n (.ExceptHandler (some (.Name x np)) (some n) (b₀ :: suite) pos' :: hds) ((c, ts) :: l)
section
variable {X : Cx} {body : List Stmt} {h₀ : ExceptHandler} {hds : List ExceptHandler} {l : List (Value × (Addr → Value → Option Addr → TS))} {pos : Pos} {tb : WX → TS} {Wout : WX} {i : Nat} {n : Str}
theorem ps_try_asL (hs : X.stack = X.env :: X.outer) (hf : X.env.frame = some X.env.locals) (hN : X.N.Nodup) (hi : X.N[i]? = some n) (hln : X.env.kindOf n = some .local) (tk : Takes X Wout)
    (hb : ∀ (W : WX) (pn : List (Addr × Obj)) (xe : Value → Shared → Prop), Takes (X.tr pn xe) W → PassesOwn (model X.prog X.w) X.A X.env xe → PSs (X.tr pn xe) body (tb W))
    (hh : AsOk X n (h₀ :: hds) l) : PS X (.Try body (h₀ :: hds) [] [] pos) (fun Q σ H => tb (wAsL X.K i Wout Q l) Q σ H) := by
  refine ⟨fun pins s σ H Q I h => ?_⟩
  have ok := I.ok
  have hfr : X.A.frames = some (X.env :: X.outer) := by rw [ok.frames, hs]
  have hloc : Loc X.env.scope n := .inl hln
  refine wpAny_Try_except ?_
  refine wpAny_mono ((hb (wAsL X.K i Wout Q l) (X.pn ++ pins) (fun e s₁ => wpAny (model X.prog X.w) X.A (noteFrame e X.env) (fun _ s₂ => wpAny (model X.prog X.w) X.A (setFlight e none) (fun _ s₃ =>
    wpAny (model X.prog X.w) X.A (handleBy e X.env (h₀ :: hds)) (L2.SP X pins Q) X.xe s₃) X.xe s₂) X.xe s₁) (fun u s' xx => ?_) PassesOwn.looking).run [] s σ H Q (I.toTry _) h) (fun f s1 hsp => ?_) (fun e s1 he => he)
  · obtain ⟨a, B, sI, pins', σ', H', cls, d, rfl, J', nb, up, sky, na, os, ag, w⟩ := xx
    have J : Inv X pins σ' H' sI := J'.ofTry ok
    have sky' : Sky B (X.env :: X.outer) a (Zc cls d) X.env.locals s'.heap := by rw [← hs]; exact sky
    show wpAny (model X.prog X.w) X.A (noteFrame (.ref a) X.env) _ _ _
    refine Sky.land Zc.steady hfr hf sky' fun h3 fl3 up3 => ?_
    have J3 : Inv X pins σ' H' { s' with heap := h3 } := J.landed nb fl3.1 (up.trans up3) os ag
    obtain ⟨oe3, vs3, he3, hz3, hd3⟩ := fl3.there
    have nfr : a ∉ frs (X.env :: X.outer) := fun hm => by
      obtain ⟨_, o', e', hnf⟩ := fl3.2.2.1.mem hm
      rw [he3] at e'
      cases e'
      exact hnf _ hd3
    have nL : a ≠ X.env.locals := fun z => nfr (List.mem_filterMap.mpr ⟨X.env, List.mem_cons_self, by rw [hf, z]⟩)
    have nF : a ∉ X.fs := fun hm => by
      obtain ⟨e, he, q⟩ := List.mem_filterMap.mp hm
      exact nfr (List.mem_filterMap.mpr ⟨e, List.mem_cons_of_mem _ he, q⟩)
    have S3 := J3.suite he3 hd3 na nL nF
    have go : ∀ {hds' : List ExceptHandler} {l' : List (Value × (Addr → Value → Option Addr → TS))}, AsOk X n hds' l' → wAsL X.K i Wout Q l' cls d σ' H' →
        wpAny (model X.prog X.w) X.A (handleBy (.ref a) X.env hds') (L2.SP X pins Q) X.xe { s' with heap := h3 } := by
      intro hds' l' hk
      induction hk with
      | nil =>
        intro w
        refine wpAny_handleBy_nil ?_
        obtain ⟨k1, k2, k3, oe, vs, T, oT, ts', he, hz, hd, h1, hr⟩ := id fl3
        unfold PySem.passOn
        refine wpAny_bind (wpAny_field he hd h1 ?_)
        rw [if_neg (show ¬ ((Value.ref T == Value.none) = true) from by simp)]
        have fin : wpAny (model X.prog X.w) X.A (setFlight (.ref a) X.env.frame) (fun _ s4 => wpAny (model X.prog X.w) X.A (throw (.ref a) : Sem PySem.Flow) (L2.SP X pins Q) X.xe s4) X.xe { s' with heap := h3 } := by
          rw [hf]
          refine HandSPX.setFlight_upZ fl3 fun h4 hh4 up4 => wpAny_throw (tk _ _ ?_)
          exact ⟨a, B, sI, pins, σ', H', cls, d, rfl, J, nb, (up.trans up3).trans up4, .inr (.inr (by rw [hs]; exact hh4)), na, os, ag, w⟩
        first
          | exact wpAny_bind (wpAny_pure (wpAny_bind fin))
          | exact wpAny_bind fin
      | @cons x c ts b₀ suite np pos' hds2 l2 hc hsu r ih =>
        intro w
        obtain ⟨b, hb1, hyes, hno⟩ := w
        refine wpAny_handleBy_cons (codeAny_handlers_test ?_) (by intro q; cases q)
        have LT : PySem.W.Looks (model X.prog X.w) h3 (typeOf (.ref a)) cls := fun A Q E s k q => wpAny_typeOf_ref (k _ _ he3) (by rw [hz3.1]; exact q)
        have LM := PySem.W.exm_one (M := model X.prog X.w) (J3.kIn) LT hb1
        have test : ∀ {Q : Value → Shared → Prop} {E : Value → Shared → Prop}, Q c { s' with heap := h3 } → wpAny (model X.prog X.w) (X.A.mark (some (.ref a))) (eval (.Name x np) X.env) Q E { s' with heap := h3 } := fun {Q E} q => by
          obtain ⟨hg, hdbg, hm | ⟨hm, hv, hnn⟩⟩ := hc
          · exact ld_glob (X := X.suite a ((a, oe3) :: (X.pn ++ pins))) S3 hg hm q hdbg
          · exact ld_blt (X := X.suite a ((a, oe3) :: (X.pn ++ pins))) S3 hg hm hv q hnn hdbg
        refine test (LM.here ?_)
        cases b with
        | true =>
          refine codeAny_handlers_suite_as ?_
          refine HandSPX.lands_againZ fl3 fun h4 fl4 up4 => ?_
          have J4 : Inv X pins σ' H' { s' with heap := h4 } := J.landed nb fl4.1 ((up.trans up3).trans up4) os ag
          obtain ⟨oe4, vs4, he4, hz4, hd4⟩ := fl4.there
          have S4 := J4.suite he4 hd4 na nL nF
          refine store_ok (X := X.suite a ((a, oe4) :: (X.pn ++ pins))) (v := .ref a) S4 hN hi hloc rfl (fun s5 S5 => ?_) (.inr hln)
          refine wpAny_mono ((hsu a oe4 cls d (X.pn ++ pins) hz4 ⟨_, hd4⟩).run [] s5 _ H' _ S5 (hyes rfl a na)) (fun f s6 hsp => ?_) (fun _ _ z => False.elim z)
          have end_ : ∀ {σ6 : L2.St} {H6 : Hp} {Q2 : Shared → Prop}, Inv (X.suite a ((a, oe4) :: (X.pn ++ pins))) [] σ6 H6 s6 → (∀ s7, Inv X pins (σ6.set i none) H6 s7 → Q2 s7) →
              wpAny (model X.prog X.w) X.A (do bindName X.env n .none; unbindBehindTheSuite X.env n pos') (fun _ s7 => Q2 s7) X.xe s6 := fun {σ6 H6 Q2} S6 hq => gone_ok (S6.unsuite ok) hN hi hln hq
          cases f with
          | next =>
            obtain ⟨σ6, H6, S6, q6⟩ := hsp
            exact end_ S6 fun s7 J7 => ⟨_, _, J7, q6⟩
          | brk =>
            obtain ⟨σ6, H6, S6, q6⟩ := hsp
            exact end_ S6 fun s7 J7 => ⟨_, _, J7, q6⟩
          | cont =>
            obtain ⟨σ6, H6, S6, q6⟩ := hsp
            exact end_ S6 fun s7 J7 => ⟨_, _, J7, q6⟩
          | ret u =>
            obtain ⟨v6, σ6, H6, S6, r6, q6⟩ := hsp
            exact end_ S6 fun s7 J7 => ⟨_, _, _, J7, r6, q6⟩
        | false =>
          show wpAny _ X.A (handleBy (.ref a) X.env hds2) _ _ _
          exact ih (hno rfl)
    exact go hh w
  · cases f with
    | next =>
      obtain ⟨σ', H', J', q⟩ := hsp
      exact wpAny_execs_nil ⟨σ', H', J'.ofTry ok, q⟩
    | brk =>
      obtain ⟨σ', H', J', q⟩ := hsp
      exact ⟨σ', H', J'.ofTry ok, q⟩
    | cont =>
      obtain ⟨σ', H', J', q⟩ := hsp
      exact ⟨σ', H', J'.ofTry ok, q⟩
    | ret u =>
      obtain ⟨v, σ', H', J', r, q⟩ := hsp
      exact ⟨v, σ', H', J'.ofTry ok, r, q⟩
end
end Ev
set_option Elab.async false
set_option linter.all false
set_option maxRecDepth 100000
set_option maxHeartbeats 2000000
/-! A def that calls what it is handed and tells its exceptions. -/
namespace Ev
open PySem PySem.Spec PyProof.Rows L2

/-- what an exception leaves: its class -/
def XAof (clsA : Nat → Option Addr) : XAT := fun e cls d _ => ∃ C, clsA e.cls = some C ∧ cls = .ref C ∧ d = none ∧ e.args = []
structure WordOk (K : PySem.W.Frag) (mg : Str → Option Value) (T : Tab) (clsA : Nat → Option Addr) (isa : Nat → Nat → Option Bool) : Prop where
  bi : ∀ x ∈ biN, mg x = none
  exc : ∀ c C, clsA c = some C → ExcC K C
  one : ∀ c C c' y, clsA c = some C → T.exn c' = some y → ∃ (C' : Addr) (b : Bool), mg y = some (.ref C') ∧ isa c c' = some b ∧ PySem.W.kitOne K (.ref C) (.ref C') = some b ∧ PySem.W.exmOne K (.ref C) (.ref C') = some b
  gx : ∀ c y, T.exn c = some y → ∃ C : Addr, mg y = some (.ref C)
  nonm : ∀ f, T.nm f = none
  nocst : ∀ x, T.cst x = none
def scW (Ng : List Str) (sg : Scope) (ex : Bool) : Sc := ⟨Ng, sg, fun _ => true, false, false, ex⟩
/-- the clauses -/
def okHs (T : Tab) (fuel : Nat) (Ng : List Str) (sg : Scope) (n : Str) : List (Nat × List IS) → List ExceptHandler → Bool
  | [], [] => true
  | (c, suite) :: r, .ExceptHandler (some (.Name x _)) (some n') (b :: bs) _ :: hs => (T.exn c == some x) && glB sg x && nameB x && n' == n && okSs T fuel (scW Ng sg true) suite (b :: bs) && okHs T fuel Ng sg n r hs
  | _, _ => false
section
variable {X : Cx} {T : Tab} {clsA : Nat → Option Addr} {isa : Nat → Nat → Option Bool} {Ng : List Str} {sg : Scope} {x : Str} {g : Addr} {cdg : Value} {ps : List Str}
abbrev Zx (X : Cx) (Ng : List Str) (x : Str) (sg : Scope) (g : Addr) (cdg : Value) (s : Shared) (H : Hp) : Cx := (cxOf C8.CX0 X.prog X.w X.K X.mg X.base Ng x sg g cdg X.A X.stack s H C8.E0).nox
theorem okZ (W : WordOk X.K X.mg T clsA isa) (Sg : FnScope Ng ps sg) (hu : X.A.units + 100 < cLine) (s : Shared) (H : Hp) (S : Stg X.K) : OkS T (calW isa) (XAof clsA) (Zx X Ng x sg g cdg s H) S E0 (scW Ng sg false) where
  ok := {
    calm := fun z => by cases z
    nd := Sg.nd
    hN := rfl
    hS := rfl
    hf := fun _ _ => rfl
    un := by show X.A.units + 3 + 65 < cLine; omega
    bi := W.bi
    gl := fun x d h => by rw [W.nocst] at h; cases h
    fns := fun f x h => by rw [W.nonm] at h; cases h
    pass := fun pins σ H s e s' I c => by
      obtain ⟨_, _, _, _, _, _, _, _, _, _, _, _, z⟩ := c
      exact z.elim
    isx := fun z => by cases z
    lam := fun z => by cases z }
  kind := Sg.kind
  own := fun z => by cases z
  tk := LamX.takes0
  exn := fun z => by cases z
theorem okSu (W : WordOk X.K X.mg T clsA isa) (Sg : FnScope Ng ps sg) (hu : X.A.units + 100 < cLine) (s : Shared) (H : Hp) (S : Stg X.K) {a : Addr} {c : Nat} {C : Addr} {oe : Obj} {pn : List (Addr × Obj)} (hS : S.exc = some (a, c)) (hC : clsA c = some C) (hz : Zc (.ref C) none oe) (hf : ∃ vs, oe.data = .fields vs) :
    OkS T (calW isa) (XAof clsA) ((Zx X Ng x sg g cdg s H).suite a ((a, oe) :: pn)) S E0 (scW Ng sg true) where
  ok := {
    calm := fun z => by cases z
    nd := Sg.nd
    hN := rfl
    hS := rfl
    hf := fun _ _ => rfl
    un := by show X.A.units + 3 + 65 < cLine; omega
    bi := W.bi
    gl := fun x d h => by rw [W.nocst] at h; cases h
    fns := fun f x h => by rw [W.nonm] at h; cases h
    pass := fun pins σ H s e s' I c => by
      obtain ⟨_, _, _, _, _, _, _, _, _, _, _, _, z⟩ := c
      exact z.elim
    isx := fun _ a2 c2 c' y h1 h2 => by
      rw [hS] at h1
      cases h1
      obtain ⟨C', b, k1, k2, k3, k4⟩ := W.one c C c' y hC h2
      refine ⟨C', b, k1, k2, fun pins s2 σ2 H2 xs us Q I r z => ?_⟩
      obtain ⟨rfl, q⟩ := z
      exact call_isE (X := Zx X Ng x sg g cdg s H) (pn := pn) (W.exc c C hC) hz hf pins s2 σ2 H2 _ us Q I r ⟨.ref C', .ref C', b, rfl, fun u z => z, k3, q⟩
    lam := fun z => by cases z }
  kind := Sg.kind
  own := fun z => by cases z
  tk := LamX.takes0
  exn := fun z => by cases z

end
/-- the promise of such a def -/
def TTw (K : PySem.W.Frag) (XA : XAT) (Kw : Cal) (wf : WFn) (tl : XK → Hp → VK → Prop) (H : Hp) (Q : VK) : Prop := ∃ (S : Stg K) (Mu : Addr → Prop) (h : List D) (m : M D), S.exc = none ∧ HandAt S Mu H h ∧ (∀ a, Mu a → ¬ Fr H a) ∧ LamX.Tabs S.T H ∧
  (∀ (E' : XK) (Q' : VK) H2 h2, Pres S H H2 → HandAt S Mu H2 h2 → Good S Mu XA (m h2) H2 (fun d h' H' => ∀ v, Rep K Mu H' v d → Q' v H') E' → tl E' H2 Q') ∧
  Good S Mu XA (wRun Kw wf m h) H (fun d h' H' => ∀ v, Rep K Mu H' v d → Q v H') E0
theorem nth_all (n i : Nat) : nth (List.replicate n .no) i = .no := nth_rep n i
theorem es_no {K : PySem.W.Frag} {S : Stg K} {Mu : Addr → Prop} {h : List D} {σ : L2.St} {H : Hp} {n : Nat} (hl : n = σ.length) (hx : HandAt S Mu H h) (dom : ∀ a, Mu a → ¬ Fr H a) (tabs : LamX.Tabs S.T H) : ES S Mu (List.replicate n .no) h σ H :=
  ⟨by rw [List.length_replicate]; exact hl, fun i => by rw [nth_all]; trivial, fun i j a _ oi => (by rw [nth_all] at oi; cases oi), hx, dom, tabs⟩
/-- what stands behind the try -/
def tPost (K : PySem.W.Frag) (XA : XAT) (Kw : Cal) (wf : WFn) : TS := fun Q σ H => ∃ (S : Stg K) (Mu0 : Addr → Prop) (H0 : Hp) (Mu : Addr → Prop) (env : Env) (h : List D), At S Mu0 H0 Mu env h σ H ∧ GoodS S Mu0 H0 XA E0 (writs wf.post) Mu σ H (evSs Kw env wf.post h) Q.nx Q.rt
/-- a clause's suite -/
def tSuite (K : PySem.W.Frag) (XA : XAT) (clsA : Nat → Option Addr) (Kw : Cal) (n : Nat) (suite : List IS) (a : Addr) (cls : Value) (d : Option Addr) : TS := fun Q σ H => σ.length = n → ∃ (c : Nat) (C : Addr) (S : Stg K) (Mu0 : Addr → Prop) (H0 : Hp) (Mu : Addr → Prop) (env : Env) (h : List D), clsA c = some C ∧ cls = .ref C ∧ d = none ∧ S.exc = some (a, c) ∧
  At S Mu0 H0 Mu env h σ H ∧ GoodS S Mu0 H0 XA E0 (writs suite) Mu σ H (evSs Kw env suite h) Q.nx Q.rt
section
variable {X : Cx} {T : Tab} {clsA : Nat → Option Addr} {isa : Nat → Nat → Option Bool} {Ng : List Str} {sg : Scope} {x : Str} {g : Addr} {cdg : Value} {ps : List Str}
theorem post_ok (W : WordOk X.K X.mg T clsA isa) (Sg : FnScope Ng ps sg) (hu : X.A.units + 100 < cLine) (s : Shared) (H : Hp) {fuel : Nat} {wf : WFn} {ast : List Stmt} (h : okSs T fuel (scW Ng sg false) wf.post ast = true) : PSs (Zx X Ng x sg g cdg s H) ast (tPost X.K (XAof clsA) (calW isa) wf) := by
  refine ⟨fun pins s2 σ2 H2 Q2 I ⟨S, Mu0, H0, Mu, env, hh, a2, g2⟩ => ?_⟩
  obtain ⟨t, p, q⟩ := (soundSN (T := T) (K := calW isa) (XA := XAof clsA) fuel).ss (Zx X Ng x sg g cdg s H) S E0 (scW Ng sg false) wf.post ast (okZ W Sg hu s H S) h
  exact p.run pins s2 σ2 H2 Q2 I (q Mu0 H0 Mu env hh σ2 H2 Q2 a2 g2)
theorem okHs_inv {fuel : Nat} {n : Str} {c : Nat} {suite : List IS} {r : List (Nat × List IS)} {hd : ExceptHandler} {asts : List ExceptHandler} (h : okHs T fuel Ng sg n ((c, suite) :: r) (hd :: asts) = true) :
    ∃ y p1 b bs p2, hd = .ExceptHandler (some (.Name y p1)) (some n) (b :: bs) p2 ∧ T.exn c = some y ∧ glB sg y = true ∧ nameB y = true ∧ okSs T fuel (scW Ng sg true) suite (b :: bs) = true ∧ okHs T fuel Ng sg n r asts = true := by
  unfold okHs at h
  split at h
  · rename_i z _; cases z
  · rename_i e1 e2
    cases e1
    cases e2
    simp only [Bool.and_eq_true, beq_iff_eq] at h
    obtain ⟨⟨⟨⟨⟨k1, k2⟩, k3⟩, rfl⟩, k5⟩, k6⟩ := h
    exact ⟨_, _, _, _, _, rfl, k1, k2, k3, k5, k6⟩
  · cases h
theorem hs_ok (W : WordOk X.K X.mg T clsA isa) (Sg : FnScope Ng ps sg) (hu : X.A.units + 100 < cLine) (s : Shared) (H : Hp) {fuel : Nat} {n : Str} : ∀ (hs : List (Nat × List IS)) (asts : List ExceptHandler), okHs T fuel Ng sg n hs asts = true →
    ∃ cs : List (Nat × List IS × Addr), cs.map (fun p => (p.1, p.2.1)) = hs ∧ AsOk (Zx X Ng x sg g cdg s H) n asts (cs.map (fun p => (Value.ref p.2.2, tSuite X.K (XAof clsA) clsA (calW isa) Ng.length p.2.1))) ∧ ∀ p ∈ cs, ∃ y, T.exn p.1 = some y ∧ X.mg y = some (.ref p.2.2)
  | [], [], _ => ⟨[], rfl, .nil, by simp⟩
  | (c, suite) :: r, [], h => by simp [okHs] at h
  | [], _ :: _, h => by simp [okHs] at h
  | (c, suite) :: r, hd :: asts, h => by
    obtain ⟨y, p1, b, bs, p2, rfl, k1, k2, k3, k5, k6⟩ := okHs_inv h
    obtain ⟨cs, ec, hl, hf⟩ := hs_ok W Sg hu s H r asts k6
    obtain ⟨C', hC'⟩ := W.gx c y k1
    refine ⟨(c, suite, C') :: cs, by rw [List.map_cons, ec], ?_, fun p hp => ?_⟩
    · rw [List.map_cons]
      refine .cons ⟨show sg.names.lookup y = some .globalImplicit from by simpa [glB] using k2, (name_ok k3).1, .inl hC'⟩ (fun a oe cls d pn hz hfs => ?_) hl
      refine ⟨fun pins s2 σ2 H2 Q2 I hh => ?_⟩
      obtain ⟨c0, C, S, Mu0, H0, Mu, env, h0, e1, e2, e3, e4, a2, g2⟩ := hh (I.len)
      subst e2
      subst e3
      obtain ⟨t, p, q⟩ := (soundSN (T := T) (K := calW isa) (XA := XAof clsA) fuel).ss ((Zx X Ng x sg g cdg s H).suite a ((a, oe) :: pn)) S E0 (scW Ng sg true) suite (b :: bs) (okSu W Sg hu s H S e4 e1 hz hfs) k5
      exact p.run pins s2 σ2 H2 Q2 I (q Mu0 H0 Mu env h0 σ2 H2 Q2 a2 g2)
    · rcases List.mem_cons.mp hp with rfl | hp
      · exact ⟨y, k1, hC'⟩
      · exact hf p hp
/-- the def's text -/
def okBody (a : Str) (retq : Bool) : Stmt → Bool
  | .Return (some (.Call (.Name y _) [] [] _)) _ => retq && y == a
  | .Expr (.Call (.Name y _) [] [] _) _ => !retq && y == a
  | _ => false
def okTry (T : Tab) (fuel : Nat) (Ng : List Str) (sg : Scope) (a : Str) (wf : WFn) (b : Stmt) (hs : List ExceptHandler) (post : List Stmt) : Bool :=
  okBody a wf.retq b && decide (hs ≠ []) && (match Ng[wf.es]? with
    | some n => (sg.names.lookup n == some .local) && okHs T fuel Ng sg n wf.hs hs
    | none => false) && okSs T fuel (scW Ng sg false) wf.post post && decide (wf.n = Ng.length) && decide (wf.es ≠ 0)
def okWord (T : Tab) (fuel : Nat) (Ng : List Str) (sg : Scope) (a : Str) (wf : WFn) : List Stmt → Bool
  | .Try [b] hs [] [] _ :: post => decide (wf.pre.length = 0) && okTry T fuel Ng sg a wf b hs post
  | st :: .Try [b] hs [] [] _ :: post => (match wf.pre with
    | [.asg (.name i) (.cst d)] => decide (i ≠ 0) && okS T fuel (scW Ng sg false) (.asg (.name i) (.cst d)) st
    | _ => false) && okTry T fuel Ng sg a wf b hs post
  | _ => false
/-- at the try -/
def tTryW (K : PySem.W.Frag) (XA : XAT) (Kw : Cal) (wf : WFn) (f c' : Addr) (q : Str) (tl : XK → Hp → VK → Prop) : TS := fun Q σ H => ∃ (S : Stg K) (Mu : Addr → Prop) (H0 : Hp) (env : Env) (h : List D) (m : M D), S.exc = none ∧ At S Mu H0 Mu env h σ H ∧ (∀ i, isOwn (nth env i) = false) ∧ σ[0]? = some (some (.ref f)) ∧ H c' = some (LamX.CodeO c' q) ∧ (∀ σ H, Q.rt .non H → Q.nx σ H) ∧
  (∀ (E' : XK) (Q' : VK) H2 h2, Pres S H0 H2 → HandAt S Mu H2 h2 → Good S Mu XA (m h2) H2 (fun d h' H' => ∀ v, Rep K Mu H' v d → Q' v H') E' → tl E' H2 Q') ∧
  Good S Mu XA (wTry Kw wf m env h) H (fun d h' H' => ∀ v, Rep K Mu H' v d → Q.rt v H') E0
theorem post_good {K : PySem.W.Frag} {S : Stg K} {Mu Mu' : Addr → Prop} {XA : XAT} {Kw : Cal} {wf : WFn} {env : Env} {h : List D} {H0 H1 : Hp} {σ : L2.St} {Qr : VK} {Nx : L2.St → Hp → Prop} {Wr : List Nat}
    (g : Good S Mu XA (wPost Kw wf env h) H0 (fun d _ H' => ∀ v, Rep K Mu H' v d → Qr v H') E0) (hn : ∀ σ H, Qr .non H → Nx σ H) : GoodS S Mu H0 XA E0 Wr Mu' σ H1 (evSs Kw env wf.post h) Nx Qr := by
  unfold wPost at g
  rw [run_bnd] at g
  cases q : evSs Kw env wf.post h with
  | ok fl h' =>
    rw [q] at g
    cases fl with
    | next env' =>
      have g2 : Good S Mu XA (ret PyData.none h') H0 (fun d _ H' => ∀ v, Rep K Mu H' v d → Qr v H') E0 := g
      rw [run_ret] at g2
      exact fun Mu2 σ2 H2 a _ => hn _ _ (g2 H2 a.pres (a.hand0 a.es.hand) .non .non)
    | ret d =>
      have g2 : Good S Mu XA (ret d h') H0 (fun d _ H' => ∀ v, Rep K Mu H' v d → Qr v H') E0 := g
      rw [run_ret] at g2
      exact fun v H2 p hx r => g2 H2 p hx v r
  | exc e h' => rw [q] at g; exact g
  | bad => rw [q] at g; exact g
theorem put_no {env : Env} {σ : L2.St} (hl : env.length = σ.length) (i j : Nat) : nth (put env i .no) j = .no ∨ (nth (put env i .no) j = nth env j ∧ (σ.set i none)[j]? = σ[j]?) := by
  rw [nth_put]
  by_cases e : i = j
  · subst e
    by_cases l : i < env.length
    · rw [if_pos ⟨rfl, l⟩]; exact .inl rfl
    · rw [if_neg fun z => l z.2]
      exact .inr ⟨rfl, by rw [List.getElem?_eq_none (by rw [List.length_set]; omega), List.getElem?_eq_none (by omega)]⟩
  · rw [if_neg fun z => e z.1]
    exact .inr ⟨rfl, List.getElem?_set_ne e⟩
theorem At.gone {K : PySem.W.Frag} {S : Stg K} {Mu0 Mu : Addr → Prop} {H0 H : Hp} {env : Env} {h : List D} {σ : L2.St} (a : At S Mu0 H0 Mu env h σ H) (i : Nat) : At S Mu0 H0 Mu (put env i .no) h (σ.set i none) H := by
  have P := put_no a.es.len i
  have P2 : ∀ j b, isOwn (nth (put env i .no) j) = true → (σ.set i none)[j]? = some (some (.ref b)) → isOwn (nth env j) = true ∧ σ[j]? = some (some (.ref b)) := fun j b o q => by
    rcases P j with z | ⟨z, y⟩
    · rw [z] at o; cases o
    · rw [z] at o; rw [y] at q; exact ⟨o, q⟩
  refine ⟨a.pres, a.sub, a.new, a.hd, a.dom0, ⟨?_, fun j => ?_, fun j k b n oi oj q1 q2 => ?_, a.es.hand, a.es.dom, a.es.tabs⟩, fun j b oi q => ?_⟩
  · rw [put_len, List.length_set, a.es.len]
  · rcases P j with z | ⟨z, y⟩
    · rw [z]; trivial
    · rw [z, y]; exact a.es.slot j
  · obtain ⟨o1, e1⟩ := P2 j b oi q1
    obtain ⟨o2, e2⟩ := P2 k b oj q2
    exact a.es.dis j k b n o1 o2 e1 e2
  · obtain ⟨o1, e1⟩ := P2 j b oi q
    exact a.own j b o1 e1
def noteX {K : PySem.W.Frag} (S : Stg K) (a : Addr) (c : Nat) : Stg K := { S with exc := some (a, c) }
theorem presX {K : PySem.W.Frag} {S : Stg K} {a : Addr} {c : Nat} {H H' : Hp} (p : Pres (noteX S a c) H H') : Pres S H H' := ⟨p.same, p.dom, p.tabs⟩
theorem suite_good {K : PySem.W.Frag} {S : Stg K} {Mu : Addr → Prop} {XA : XAT} {Kw : Cal} {wf : WFn} {h : List D} {H0 : Hp} {σ : L2.St} {Q : Ends} {a : Addr} {c : Nat} {suite : List IS} {env : Env} {Nx : L2.St → Hp → Prop} (hn : ∀ σ H, Q.rt .non H → Nx σ H)
    (g : Good S Mu XA (bnd (evSs Kw env suite) (fun
      | .ret x => ret x
      | .next env' => wPost Kw wf (put env' wf.es .no)) h) H0 (fun d _ H' => ∀ v, Rep K Mu H' v d → Q.rt v H') E0)
    (hq : ∀ (Mu' : Addr → Prop) env' h' σ' H', At (noteX S a c) Mu H0 Mu' env' h' σ' H' → GoodS (noteX S a c) Mu H0 XA E0 (writs wf.post) Mu' σ' H' (evSs Kw env' wf.post h') Nx Q.rt → Q.nx σ' H') :
    GoodS (noteX S a c) Mu H0 XA E0 (writs suite) Mu σ H0 (evSs Kw env suite h) (gone wf.es Q).nx (gone wf.es Q).rt := by
  rw [run_bnd] at g
  cases q : evSs Kw env suite h with
  | ok fl h' =>
    rw [q] at g
    cases fl with
    | next env' =>
      have g2 : Good S Mu XA (wPost Kw wf (put env' wf.es .no) h') H0 (fun d _ H' => ∀ v, Rep K Mu H' v d → Q.rt v H') E0 := g
      have g3 : Good (noteX S a c) Mu XA (wPost Kw wf (put env' wf.es .no) h') H0 (fun d _ H' => ∀ v, Rep K Mu H' v d → Q.rt v H') E0 := by
        unfold Good at g2 ⊢
        split at g2
        · exact fun H' p x => g2 H' (presX p) x
        · exact fun c d H' p x => g2 c d H' (presX p) x
        · exact g2
      intro Mu' σ' H' a' _
      show Q.nx (σ'.set wf.es none) H'
      exact hq Mu' (put env' wf.es .no) h' _ H' (a'.gone wf.es) (post_good g3 hn)
    | ret d =>
      have g2 : Good S Mu XA (ret d h') H0 (fun d _ H' => ∀ v, Rep K Mu H' v d → Q.rt v H') E0 := g
      rw [run_ret] at g2
      exact fun v H2 p hx r => g2 H2 (presX p) hx v r
  | exc e h' => rw [q] at g; exact fun c d H' p x => g c d H' (presX p) x
  | bad => rw [q] at g; exact g
theorem hs_good (W : WordOk X.K X.mg T clsA isa) {S : Stg X.K} {Mu : Addr → Prop} {H3 : Hp} {h3 : List D} {wf : WFn} {Q : Ends} {e : Exn} {cls : Value} {d : Option Addr} {σ : L2.St} {Nx : L2.St → Hp → Prop} (hn : ∀ σ H, Q.rt .non H → Nx σ H) (hx : XAof clsA e cls d H3) (hh : HandAt S Mu H3 h3) (hd : ∀ a, S.hd = some a → Mu a) (dom : ∀ a, Mu a → ¬ Fr H3 a) (tabs : LamX.Tabs S.T H3)
    (hq : ∀ (a : Addr) (c : Nat) (Mu' : Addr → Prop) env' h' σ' H', At (noteX S a c) Mu H3 Mu' env' h' σ' H' → GoodS (noteX S a c) Mu H3 (XAof clsA) E0 (writs wf.post) Mu' σ' H' (evSs (calW isa) env' wf.post h') Nx Q.rt → Q.nx σ' H') :
    ∀ cs : List (Nat × List IS × Addr), (∀ p ∈ cs, ∃ y, T.exn p.1 = some y ∧ X.mg y = some (.ref p.2.2)) → Good S Mu (XAof clsA) (wHs (calW isa) wf (List.replicate wf.n .no) e (cs.map fun p => (p.1, p.2.1)) h3) H3 (fun d _ H' => ∀ v, Rep X.K Mu H' v d → Q.rt v H') E0 →
      wAsL X.K wf.es (fun _ _ _ _ => False) Q (cs.map (fun p => (Value.ref p.2.2, tSuite X.K (XAof clsA) clsA (calW isa) wf.n p.2.1))) cls d σ H3
  | [], _, g => (Good.fail (show Good S Mu (XAof clsA) (fail h3) H3 _ E0 from g)).elim
  | (c, suite, C') :: cs, hc, g => by
    obtain ⟨y, k1, k2⟩ := hc _ List.mem_cons_self
    obtain ⟨C, e1, rfl, rfl, _⟩ := id hx
    obtain ⟨C2, b, m1, m2, _, m4⟩ := W.one e.cls C c y e1 k1
    obtain rfl : C2 = C' := by
      rw [m1] at k2
      cases k2
      rfl
    have g2 : Good S Mu (XAof clsA) ((match isa e.cls c with
        | some true => bnd (evSs (calW isa) (put (List.replicate wf.n .no) wf.es (.exn e.cls)) suite) fun
          | .ret x => ret x
          | .next env' => wPost (calW isa) wf (put env' wf.es .no)
        | some false => wHs (calW isa) wf (List.replicate wf.n .no) e (cs.map fun (p : Nat × List IS × Addr) => (p.1, p.2.1))
        | none => fail) h3) H3 (fun d _ H' => ∀ v, Rep X.K Mu H' v d → Q.rt v H') E0 := g
    rw [m2] at g2
    refine ⟨b, m4, fun hb a na => ?_, fun hb => ?_⟩
    · subst hb
      intro hl
      refine ⟨e.cls, C, noteX S a e.cls, Mu, H3, Mu, put (List.replicate wf.n .no) wf.es (.exn e.cls), h3, e1, rfl, rfl, rfl, ?_, suite_good hn g2 (hq a e.cls)⟩
      have no : ∀ i, isOwn (nth (put (List.replicate wf.n .no) wf.es (.exn e.cls)) i) = false := fun i => by
        rw [nth_put]
        split
        · rfl
        · rw [nth_rep]; rfl
      refine ⟨Pres.refl H3, fun _ z => z, fun _ z => .inl z, hd, dom, ⟨?_, fun i => ?_, fun i j b _ oi => (by rw [no] at oi; cases oi), hh, dom, tabs⟩, fun i b oi => by rw [no] at oi; cases oi⟩
      · rw [put_len, List.length_replicate, hl]
      · rw [nth_put]
        split
        · rename_i z
          obtain ⟨rfl, z2⟩ := z
          refine ⟨a, rfl, ?_⟩
          rw [List.length_replicate, ← hl, List.length_set] at z2
          rw [List.getElem?_set_self z2]
        · rw [nth_rep]; trivial
    · subst hb
      exact hs_good W hn hx hh hd dom tabs hq cs (fun p hp => hc p (List.mem_cons_of_mem _ hp)) g2
theorem try_ok (W : WordOk X.K X.mg T clsA isa) (Sg : FnScope Ng ps sg) (hu : X.A.units + 100 < cLine) (s : Shared) (H : Hp) {fuel : Nat} {wf : WFn} {a q : Str} {f c' : Addr} {tl : XK → Hp → VK → Prop} {b : Stmt} {hs : List ExceptHandler} {post : List Stmt} {pos : Pos} (hok : okTry T fuel Ng sg a wf b hs post = true)
    (act : ∀ (W : WX) (pn : List (Addr × Obj)) (xe : Value → Shared → Prop) (E : XK) (p1 p2 : Pos), Takes ((cxOf C8.CX0 X.prog X.w X.K X.mg X.base Ng x sg g cdg X.A X.stack s H C8.E0).tr pn xe) W → (∀ cls d σ' H', E cls d H' → W cls d σ' H') →
      PE ((cxOf C8.CX0 X.prog X.w X.K X.mg X.base Ng x sg g cdg X.A X.stack s H C8.E0).tr pn xe) (.Call (.Name a p1) [] [] p2) (fun σZ HZ Q => σZ[0]? = some (some (.ref f)) ∧ HZ c' = some (LamX.CodeO c' q) ∧ tl E HZ Q)) :
    PSs (Zx X Ng x sg g cdg s H) (.Try [b] hs [] [] pos :: post) (tTryW X.K (XAof clsA) (calW isa) wf f c' q tl) := by
  unfold okTry at hok
  simp only [Bool.and_eq_true, decide_eq_true_eq] at hok
  obtain ⟨⟨⟨⟨⟨hb, hne⟩, hh⟩, hp⟩, hn⟩, he0⟩ := hok
  split at hh
  · rename_i n hi
    simp only [Bool.and_eq_true, beq_iff_eq] at hh
    obtain ⟨hl, hh⟩ := hh
    obtain ⟨cs, ec, hA, hcs⟩ := hs_ok (x := x) (g := g) (cdg := cdg) W Sg hu s H wf.hs hs hh
    cases hs with
    | nil => exact absurd rfl hne
    | cons h₀ hds =>
      have hbody : ∀ (W2 : WX) (pn : List (Addr × Obj)) (xe : Value → Shared → Prop), Takes ((Zx X Ng x sg g cdg s H).tr pn xe) W2 → PassesOwn (model (Zx X Ng x sg g cdg s H).prog (Zx X Ng x sg g cdg s H).w) (Zx X Ng x sg g cdg s H).A (Zx X Ng x sg g cdg s H).env xe →
          PSs ((Zx X Ng x sg g cdg s H).tr pn xe) [b] (fun Q2 σ2 H2 => ∃ Ech : XK, (∀ cls d σ' H', Ech cls d H' → W2 cls d σ' H') ∧ σ2[0]? = some (some (.ref f)) ∧ H2 c' = some (LamX.CodeO c' q) ∧ tl Ech H2 (fun v H3 => if wf.retq = true then Q2.rt v H3 else Q2.nx σ2 H3)) := by
        intro W2 pn xe tk _
        refine ⟨fun pins s' σ H' D I h' => ?_⟩
        obtain ⟨Ech, hW, h1, h2, h3⟩ := h'
        unfold okBody at hb
        split at hb
        · rename_i y p1 p2 p3
          simp only [Bool.and_eq_true, beq_iff_eq] at hb
          obtain ⟨hr, rfl⟩ := hb
          rw [hr] at h3
          have hq := pss_one (ps_ret (pos := p3) (act W2 pn xe Ech p1 p2 tk hW))
          exact hq.run pins s' σ H' D I ⟨h1, h2, by simpa using h3⟩
        · rename_i y p1 p2 p3
          simp only [Bool.and_eq_true, beq_iff_eq, Bool.not_eq_true'] at hb
          obtain ⟨hr, rfl⟩ := hb
          rw [hr] at h3
          have hq := pss_one (ps_expr (pos := p3) (act W2 pn xe Ech p1 p2 tk hW) (sw_noComp rfl))
          exact hq.run pins s' σ H' D I ⟨h1, h2, by simpa using h3⟩
        · cases hb
      have pt := ps_try_asL (X := Zx X Ng x sg g cdg s H) (pos := pos) (i := wf.es) (Wout := fun _ _ _ _ => False) rfl rfl Sg.nd hi hl LamX.takes0 hbody hA
      refine ⟨fun pins s2 σ2 H2 Q2 I hst => ?_⟩
      refine (pss_cons pt (post_ok (x := x) (g := g) (cdg := cdg) (wf := wf) W Sg hu s H hp)).run pins s2 σ2 H2 Q2 I ?_
      obtain ⟨S, Mu, H0, env, h, m, hS, a2, hno, hf, hc, hnx, htl, gd⟩ := hst
      have a3 : At S Mu H2 Mu env h σ2 H2 := ⟨Pres.refl H2, fun _ z => z, fun _ z => .inl z, a2.hd, a2.es.dom, a2.es, a2.own⟩
      refine ⟨fun cls d H3 => ∃ (e : Exn) (h3 : List D), Pres S H2 H3 ∧ HandAt S Mu H3 h3 ∧ XAof clsA e cls d H3 ∧ Good S Mu (XAof clsA) (wHs (calW isa) wf (List.replicate wf.n .no) e wf.hs h3) H3 (fun d _ H' => ∀ v, Rep X.K Mu H' v d → Q2.rt v H') E0, fun cls d σ' H3 hh => ?_, hf, hc, ?_⟩
      · obtain ⟨e, h3, pr, hx, xa, g3⟩ := hh
        rw [← ec] at g3
        rw [← hn]
        exact hs_good (Nx := Q2.nx) (Q := { Q2 with nx := tPost X.K (XAof clsA) (calW isa) wf Q2 }) W hnx xa hx a2.hd (fun a m => pr.dom a (a2.es.dom a m)) (pr.tabs a2.es.tabs) (fun a c Mu' env' h' σ' H' at' g' => ⟨noteX S a c, Mu, H3, Mu', env', h', at', g'⟩) cs hcs g3
      · refine htl _ _ H2 h a2.pres a2.es.hand ?_
        unfold wTry at gd
        cases q : m h with
        | ok d h' =>
          rw [q] at gd
          intro H' pr hx v r
          dsimp only at gd
          cases hr : wf.retq with
          | true =>
            rw [hr, if_pos rfl, run_ret] at gd
            rw [if_pos rfl]
            exact gd H' pr hx v r
          | false =>
            rw [hr, if_neg (by decide)] at gd
            rw [if_neg (by decide)]
            exact ⟨S, Mu, H2, Mu, env, h', a3.presE pr hx, post_good gd hnx⟩
        | exc e h' =>
          rw [q] at gd
          intro c d H' pr hx xa
          exact ⟨e, h', pr, hx, xa, Good.step gd pr⟩
        | bad => rw [q] at gd; exact gd
  · cases hh
theorem at_start {K : PySem.W.Frag} {S : Stg K} {Mu : Addr → Prop} {h : List D} {σ : L2.St} {H : Hp} {n : Nat} (hl : n = σ.length) (hx : HandAt S Mu H h) (dom : ∀ a, Mu a → ¬ Fr H a) (tabs : LamX.Tabs S.T H) : At S Mu H Mu (List.replicate n .no) h σ H :=
  ⟨Pres.refl H, fun _ z => z, fun _ z => .inl z, fun a e => (hx.lst e).1, dom, es_no hl hx dom tabs, fun i a oi => by rw [nth_rep] at oi; cases oi⟩
theorem word_gives (W : WordOk X.K X.mg T clsA isa) (Sg : FnScope Ng ps sg) (hu : X.A.units + 100 < cLine) {fuel : Nat} {wf : WFn} {a q : Str} {bg : List Stmt} (hok : okWord T fuel Ng sg a wf bg = true) (hNl : ∀ f : Addr, (L2.start Ng [V.ref f]).length = Ng.length) (h0 : ∀ f : Addr, (L2.start Ng [V.ref f])[0]? = some (some (V.ref f))) :
    LamX.GivesTo X Ng x sg g cdg bg a q (TTw X.K (XAof clsA) (calW isa) wf) := by
  intro f c' s H Q tl act hc h
  obtain ⟨S, Mu, hh, m, hS, hx, dom, tabs, htl, gd⟩ := h
  unfold okWord at hok
  split at hok
  · rename_i b hs pos post
    simp only [Bool.and_eq_true, decide_eq_true_eq] at hok
    obtain ⟨hpre, hok⟩ := hok
    have hn : wf.n = Ng.length := by
      unfold okTry at hok
      simp only [Bool.and_eq_true, decide_eq_true_eq] at hok
      exact hok.1.2
    refine ⟨_, try_ok (x := x) (g := g) (cdg := cdg) W Sg hu s H hok act, S, Mu, H, List.replicate wf.n .no, hh, m, hS, at_start (by rw [hn, hNl]) hx dom tabs, fun i => by rw [nth_rep]; rfl, h0 f, hc, fun _ _ z => z, htl, ?_⟩
    have e : wf.pre = [] := List.eq_nil_of_length_eq_zero hpre
    unfold wRun at gd
    rw [e] at gd
    have e2 : evSs (calW isa) (List.replicate wf.n .no) [] = ret (.next (List.replicate wf.n .no)) := rfl
    rw [e2, bnd_ret] at gd
    exact gd
  · rename_i st b hs pos post _
    simp only [Bool.and_eq_true, decide_eq_true_eq] at hok
    obtain ⟨hpre, hok⟩ := hok
    split at hpre
    · rename_i i d e
      simp only [Bool.and_eq_true, decide_eq_true_eq] at hpre
      obtain ⟨hi, hst⟩ := hpre
      have hn : wf.n = Ng.length := by
        unfold okTry at hok
        simp only [Bool.and_eq_true, decide_eq_true_eq] at hok
        exact hok.1.2
      obtain ⟨t, p, qq⟩ := (soundSN (T := T) (K := calW isa) (XA := XAof clsA) fuel).s (Zx X Ng x sg g cdg s H) S E0 (scW Ng sg false) _ st (okZ (x := x) (g := g) (cdg := cdg) W Sg hu s H S) hst
      refine ⟨_, pss_cons p (try_ok (x := x) (g := g) (cdg := cdg) W Sg hu s H hok act), ?_⟩
      refine qq Mu H Mu (List.replicate wf.n .no) hh _ H _ (at_start (by rw [hn, hNl]) hx dom tabs) ?_
      have e1 : evS (calW isa) (List.replicate wf.n .no) (.asg (.name i) (.cst d)) hh = .ok (.next (put (List.replicate wf.n .no) i (.val d))) hh := by
        show bnd (ret d) (fun d => nextM (assignT (.name i) d _)) hh = _
        rw [bnd_ret]
        show nextM (ret _) hh = _
        unfold nextM
        rw [bnd_ret, run_ret]
      dsimp only
      rw [e1]
      intro Mu' σ' H' a1 st1
      have no : ∀ j, nth (put (List.replicate wf.n .no) i (.val d)) j = .no ∨ nth (put (List.replicate wf.n .no) i (.val d)) j = .val d := fun j => by
        rw [nth_put]
        split
        · exact .inr rfl
        · rw [nth_rep]; exact .inl rfl
      have noO : ∀ j, isOwn (nth (put (List.replicate wf.n .no) i (.val d)) j) = false := fun j => by
        rcases no j with z | z <;> rw [z] <;> rfl
      have a2 : At S Mu H Mu (put (List.replicate wf.n .no) i (.val d)) hh σ' H' := by
        refine ⟨a1.pres, fun _ z => z, fun _ z => .inl z, a1.hd, a1.dom0, ⟨a1.es.len, fun j => ?_, fun i j b _ oi => (by rw [noO] at oi; cases oi), a1.hand0 a1.es.hand, fun a m => a1.es.dom a (a1.sub a m), a1.es.tabs⟩, fun i b oi => by rw [noO] at oi; cases oi⟩
        have := a1.es.slot j
        rcases no j with z | z
        · rw [z]; trivial
        · rw [z] at this ⊢
          obtain ⟨v, e1, r⟩ := this
          exact ⟨v, e1, r.fewer a1.sub⟩
      refine ⟨S, Mu, H, _, hh, m, hS, a2, noO, ?_, ?_, fun _ _ z => z, htl, ?_⟩
      · rw [st1.fr 0 (fun mm => hi (by simpa [writ, tgN] using mm : 0 = i).symm)]
        exact h0 f
      · exact a1.pres.same c' _ (fun z => by
          obtain ⟨_, vs, y, _⟩ := hx.lst z
          rw [hc] at y
          cases y) hc fun ps z => LamX.codeO_ne ps z
      · unfold wRun at gd
        rw [e] at gd
        have e2 : evSs (calW isa) (List.replicate wf.n .no) [.asg (.name i) (.cst d)] hh = .ok (.next (put (List.replicate wf.n .no) i (.val d))) hh := by
          show bnd (evS (calW isa) (List.replicate wf.n .no) (.asg (.name i) (.cst d))) _ hh = _
          rw [bnd_ok e1]
          show ret _ hh = _
          rw [run_ret]
        rw [bnd_ok e2] at gd
        exact Good.step gd a1.pres
    · cases hpre
  · cases hok
end
end Ev
set_option Elab.async false
set_option linter.all false
set_option maxRecDepth 100000
set_option maxHeartbeats 2000000
/-! The law's own context: defs that are handed a lambda. -/
namespace Ev
open PySem PySem.Spec PyProof.Rows L2

/-- a def of the text whose code object stands at c -/
structure FunC (K : PySem.W.Frag) (x qual : Str) (st : Stmt) (f : Addr) (fd : FuncData) (c : Addr) : Prop where
  ex : ∃ (oc : Value) (od : Option Addr) (kV doc pm : Value) (an : Option Addr) (ct : Value) (osl : Array (Option Value)),
    fd = PySem.W.fnOf x qual (defArgs st) (defBody st) (defScope st) .none kV doc pm an (.ref c) ct ∧ K.lookup f = some ⟨oc, od, .func fd, osl⟩ ∧ PySem.W.codeIn K (.ref c) qual = true
section
variable {P : Program} {w : World} {K : PySem.W.Frag} {mg : Str → Option Value} {base : Heap}
theorem FunC.okX {x qual : Str} {st : Stmt} {f c : Addr} {fd : FuncData} {N ps : List Str} {k : Nat} {sp : Sp} (F : FunC K x qual st f fd c) (S : FnScope N ps (defScope st)) (len : ∀ vs H Q E, sp vs H Q E → vs.length = ps.length)
    (hbody : ∀ (A : Around) (outer : List PySem.Env) (s : Shared) (H : Hp) (vs : List V) (Q : VK) (E : XK), Room k (A.deeper (envOfC qual (defScope st) s.heap.objs.size f (.ref c))) → sp vs H Q E →
      ∃ t, PSs (cxOf (L2.CX P w) P w K mg base N qual (defScope st) f (.ref c) A outer s H E) (defBody st) t ∧ t { nx := fun _ H' => Q .non H', rt := Q } (L2.start N vs) H) : FnOk P w K mg base (L2.CX P w) (k + 1) f fd ps sp := by
  obtain ⟨oc, od, kV, doc, pm, an, ct, osl, rfl, lk, hcd⟩ := F.ex
  exact fn_of lk hcd S len fun A outer s H vs Q E hr hsp => hbody A outer s H vs Q E hr hsp
theorem noPar_eq {a : Arguments} (h : noPar a = true) : a = ⟨[], [], none, [], [], none, []⟩ := by
  obtain ⟨a1, a2, a3, a4, a5, a6, a7⟩ := a
  simp only [noPar, Bool.and_eq_true, List.isEmpty_iff, Option.isNone_iff_eq_none] at h
  obtain ⟨⟨⟨⟨⟨⟨h1, h2⟩, h3⟩, h4⟩, h5⟩, h6⟩, h7⟩ := h
  subst_vars
  rfl
variable {T Tw : Tab} {clsA : Nat → Option Addr} {isa : Nat → Nat → Option Bool} {Pr : Prg} {k : Nat} {N : List Str} {sc : Scope} {qual : Str} {f c Pt : Addr} {A : Around} {outer : List PySem.Env} {s : Shared} {H : Hp} {E : XK}
/-- a def that is handed a lambda -/
def WForm (K : PySem.W.Frag) (mg : Str → Option Value) (Tw : Tab) (isa : Nat → Nat → Option Bool) (Pr : Prg) (f : Nat) (x : Str) : Prop := ∃ (g : Addr) (fd : FuncData) (st : Stmt) (Ng : List Str) (a : Str) (fuel : Nat) (wf : WFn), Fun K x x st g fd ∧ FnScope Ng [a] (defScope st) ∧
  okWord Tw fuel Ng (defScope st) a wf (defBody st) = true ∧ mg x = some (.ref g) ∧ Binds K fd [a] [] ∧ Ng[0]? = some a ∧ visB (defScope st) a = true ∧ nameB a = true ∧ ∀ m, Pr.wd f m = wRun (calW isa) wf m
theorem start_len {Ng : List Str} {a : Str} (h : Ng[0]? = some a) (v : V) : (L2.start Ng [v]).length = Ng.length ∧ (L2.start Ng [v])[0]? = some (some v) := by
  cases Ng with
  | nil => cases h
  | cons x xs =>
    refine ⟨?_, rfl⟩
    unfold L2.start
    simp
theorem Good.uncalm {α : Type} {S : Stg K} {Mu : Addr → Prop} {XA : XAT} {H : Hp} {Q : α → List D → Hp → Prop} {E E' : XK} {r : R α} (g : Good S Mu XA (calmR r) H Q E) : Good S Mu XA r H Q E' := by
  cases r with
  | ok a h => exact g
  | exc e h => exact g.elim
  | bad => exact g
theorem lam_ok {qn : Str} {tb : List (Addr × Str)} (Wk : WordOk K mg Tw clsA isa) (M : ModOk P w K mg base T (XAof clsA) (k - 2) (callF Pr (k - 2))) (hk : 2 ≤ k) (hwd : ∀ f x, T.lm f = some x → WForm K mg Tw isa Pr f x)
    (TB : LamX.TabB base mg c Pt) (hqn : ∀ L, (envOfC qual sc L f (.ref c)).qual ++ "<lambda>" = qn) (htb : tb = [(Pt, qn)]) (S : Stg K) (hS : S.T = tb) (hSe : S.exc = none) (hr : Room k (A.deeper (envOfC qual sc s.heap.objs.size f (.ref c))))
    (o : OkL T (calOf Pr k) (XAof clsA) (cxOf (L2.CX P w) P w K mg base N qual sc f (.ref c) A outer s H E) S E ⟨N, sc, fun _ => true, true, true, false⟩) :
    Ok T (calOf Pr k) (XAof clsA) (cxOf (L2.CX P w) P w K mg base N qual sc f (.ref c) A outer s H E) S E ⟨N, sc, fun _ => true, true, true, false⟩ := by
  refine { o with lam := fun _ _ g x hx hgl hdb params body scope p lpos pos m hsc hpar hm => ?_ }
  obtain ⟨ga, fd, st, Ng, a, fuel, wf, F, Sg, hw, hmg, hb, hN0, hva, hna, hwd⟩ := hwd g x hx
  obtain ⟨oc, od, kV, doc, pm, an, cdv, ct, osl, rfl, lk, hcd⟩ := F.ex
  obtain ⟨k2, rfl⟩ : ∃ k2, k = k2 + 2 := ⟨k - 2, by omega⟩
  have hr2 : Room (k2 + 2) (A.deeper (envOfC qual sc s.heap.objs.size f (.ref c))) := hr
  have eqn := hqn s.heap.objs.size
  let tS : XK → TE := fun E' σ H Q => ∃ (Mu : Addr → Prop) (env : Env) (h : List D), ES S Mu env h σ H ∧ Good S Mu (XAof clsA) (m env h) H (fun d h' H' => ∀ v, Rep K Mu H' v d → Q v H') E'
  have hpar2 := noPar_eq hpar
  subst hpar2
  have pe := LamX.pe_lamcall (X := cxOf (L2.CX P w) P w K mg base N qual sc f (.ref c) A outer s H E) (T := tb) (TT := TTw K (XAof clsA) (calW isa) wf) (k := k2) (t := tS) (p := p) (lpos := lpos) (pos := pos) (params := ⟨[], [], none, [], [], none, []⟩) (body := body) (scope := scope) hgl hmg F.kp lk hcd hb Sg hN0 (vis_ok hva)
    (word_gives (X := cxOf (L2.CX P w) P w K mg base N qual sc f (.ref c) A outer s H E) (T := Tw) (clsA := clsA) (isa := isa) (x := x) (g := ga) (cdg := cdv) (wf := wf) Wk Sg (by have := hr2.un; show (A.deeper _).units + 100 < cLine; omega) hw (fun v => (start_len hN0 _).1) (fun v => (start_len hN0 _).2))
    TB rfl (by rw [htb]; exact List.mem_singleton.mpr (by rw [← eqn]; rfl)) (by
      rw [htb]
      intro q hq _
      rw [List.mem_singleton.mp hq]
      exact eqn.symm) hr2 (LamX.lamS_by hsc) rfl (fun _ _ _ _ _ => rfl) (fun A2 outer2 s2 H2 E2 f2 c2 hrr => by
      have oL : OkL T (calOf Pr (k2 + 2)).low (XAof clsA) (LamX.lamCx (cxOf (L2.CX P w) P w K mg base N qual sc f (.ref c) A outer s H E) A2 outer2 s2 H2 E2 scope f2 c2) S E2 (lamIn ⟨N, sc, fun _ => true, true, true, false⟩ scope) := {
        calm := fun _ => rfl
        nd := o.nd
        hN := rfl
        hS := rfl
        hf := fun _ z => by cases z
        un := by have := hrr.un; show (A2.deeper _).units + 65 < cLine; omega
        bi := M.bi
        gl := M.gl
        fns := fun g x h => by
          obtain ⟨j, fa, fd, ps, hj, F, h1, h2, h3, h4⟩ := M.fns g x h
          exact ⟨j, fa, fd, ps, F, hrr.mono hj, h1, h2, h3, h4⟩
        pass := passes_call (W := fun cls d _ H => E2 cls d H) (takes_of rfl rfl rfl rfl) fun _ _ _ _ h => h
        isx := fun z => (by cases z) }
      obtain ⟨t, ht, hq⟩ := hm A2 outer2 s2 H2 E2 f2 c2 oL
      refine ⟨fun pins s3 σ3 H3 Q3 I hh => ?_⟩
      obtain ⟨Mu, env, h, es, g⟩ := hh
      exact ht.run pins s3 σ3 H3 Q3 I (hq Mu env h σ3 H3 Q3 es g)) hdb (name_ok hna).1 (name_ok hna).2.1
  refine ⟨_, pe, fun Mu env h σ H2 Q es gd => ?_⟩
  refine ⟨by rw [← hS]; exact es.tabs, fun H3 eN T3 => ?_⟩
  have pr : Pres S H2 H3 := ⟨fun a o _ e t => eN a o e t, fun a nf fr => nf fun o e => Classical.byContradiction fun n => by
      have := eN a o e fun ps z => n ⟨ps, z⟩
      obtain ⟨ps, z⟩ := fr o this
      exact n ⟨ps, z⟩, fun _ => by rw [hS]; exact T3⟩
  have hx3 : HandAt S Mu H3 h := by
    have hx := es.hand
    unfold HandAt at hx ⊢
    cases ep : S.hd with
    | none => rw [ep] at hx; exact hx
    | some p =>
      rw [ep] at hx
      obtain ⟨m1, vs, q1, r1⟩ := hx
      refine ⟨m1, vs, eN p _ q1 fun ps z => (by cases z), r1.stay ⟨fun a o d nm e => ⟨nm, eN a _ e d.nt⟩, fun a xs e => eN a _ e fun ps z => (by cases z), fun a o u e => ⟨fun z => z, eN a _ e fun ps z => (by cases z)⟩⟩⟩
  refine ⟨S, Mu, h, m env, hSe, hx3, fun a ma => pr.dom a (es.dom a ma), by rw [hS]; exact T3, fun E' Q' H4 h4 p4 x4 g4 => ?_, ?_⟩
  · exact ⟨Mu, env, h4, es.pres (pr.trans p4) x4, g4⟩
  · have g2 : Good S Mu (XAof clsA) (calmR (Pr.wd g (m env) h)) H2 (fun d h' H' => ∀ v, Rep K Mu H' v d → Q v H') E := by
      have e : lamR (calOf Pr (k2 + 2)) g (m env) h = calmR (Pr.wd g (m env) h) := by
        unfold lamR
        rw [run_calm]
        rfl
      rw [← e]
      exact gd
    rw [hwd] at g2
    exact (Good.uncalm g2).step pr
end
end Ev
set_option Elab.async false
set_option linter.all false
set_option maxRecDepth 100000
set_option maxHeartbeats 4000000
/-! The law's end. -/
namespace Ev
open PySem PySem.Spec PyProof.Rows L2
section
variable {P : Program} {w : World} {K : PySem.W.Frag} {mg : Str → Option Value} {base : Heap} {T : Tab} {XA : XAT} {Pr : Prg}
theorem ok_lawC {st s1 : Stmt} {rest : List Stmt} {f c : Addr} {fd : FuncData} {qual x : Str} {N : List Str} {fuel k hf ih : Nat} {body : List IS} {lam : Bool} {Kal : Cal} {tb : List (Addr × Str)} {nmax : Nat} {y : Str} (F : FunC K x qual st f fd c) (Sg : FnScope N [y] (defScope st)) (M : ModOk P w K mg base T XA k Kal.C)
    (hst : defBody st = s1 :: rest) (h1 : okS T fuel ⟨N, defScope st, fun _ => true, lam, true, false⟩ (.asg (.name ih) (.call hf [.var 0])) s1 = true) (h2 : okSs T fuel ⟨N, defScope st, fun _ => true, lam, true, false⟩ body rest = true) (hih : ih < N.length) (hih0 : 0 < N.length)
    (hlam : ∀ (S : Stg K) (A : Around) (outer : List PySem.Env) (s : Shared) (H : Hp) (E : XK), S.T = tb → S.exc = none → Room k (A.deeper (envOfC qual (defScope st) s.heap.objs.size f (.ref c))) → OkL T Kal XA (cxOf (L2.CX P w) P w K mg base N qual (defScope st) f (.ref c) A outer s H E) S E ⟨N, defScope st, fun _ => true, lam, true, false⟩ →
      Ok T Kal XA (cxOf (L2.CX P w) P w K mg base N qual (defScope st) f (.ref c) A outer s H E) S E ⟨N, defScope st, fun _ => true, lam, true, false⟩)
    (ev : ∀ ns : List Int, ns.length ≤ nmax → ∃ h h', Kal.C hf [.raw (intsD ns)] [] = .ok (.list h) [] ∧ headOk h ∧ evSs Kal (envH N.length ih) body h = .ok (.ret (.bool true)) h') :
    FnOk P w K mg base (L2.CX P w) (k + 1) f fd [y] (spLaw K tb nmax) := by
  refine F.okX Sg (fun vs H Q E h => ?_) (fun A outer s H vs Q E hr h => ?_)
  · obtain ⟨_, _, rfl, _⟩ := h
    rfl
  · obtain ⟨a, ns, rfl, hS, hlen, htb, hq⟩ := h
    obtain ⟨h0, h', e1, ⟨cells, r, rfl⟩, e2⟩ := ev ns hlen
    have oS : ∀ S : Stg K, S.T = tb → S.exc = none → OkS T Kal XA (cxOf (L2.CX P w) P w K mg base N qual (defScope st) f (.ref c) A outer s H E) S E ⟨N, defScope st, fun _ => true, lam, true, false⟩ := fun S hS hSe => okS_fn (S := S) (E := E) M Sg lam (hlam S A outer s H E hS hSe hr (okL_fn M Sg hr lam))
    obtain ⟨t1, p1, q1⟩ := (soundSN (T := T) (K := Kal) (XA := XA) fuel).s (cxOf (L2.CX P w) P w K mg base N qual (defScope st) f (.ref c) A outer s H E) ⟨tb, none, none⟩ E _ _ s1 (oS ⟨tb, none, none⟩ rfl rfl) h1
    have pr : PSs (cxOf (L2.CX P w) P w K mg base N qual (defScope st) f (.ref c) A outer s H E) rest (fun Q σ H => ∃ (S : Stg K) (Mu0 : Addr → Prop) (H0 : Hp) (Mu : Addr → Prop) (env : Env) (h : List D), S.T = tb ∧ S.exc = none ∧ At S Mu0 H0 Mu env h σ H ∧ GoodS S Mu0 H0 XA E (writs body) Mu σ H (evSs Kal env body h) Q.nx Q.rt) := by
      refine ⟨fun pins s2 σ2 H2 Q2 I ⟨S, Mu0, H0, Mu, env, hh, hT, hTe, a2, g2⟩ => ?_⟩
      obtain ⟨t2, p2, q2⟩ := (soundSN (T := T) (K := Kal) (XA := XA) fuel).ss (cxOf (L2.CX P w) P w K mg base N qual (defScope st) f (.ref c) A outer s H E) S E _ body rest (oS S hT hTe) h2
      exact p2.run pins s2 σ2 H2 Q2 I (q2 Mu0 H0 Mu env hh σ2 H2 Q2 a2 g2)
    rw [hst]
    refine ⟨_, pss_cons p1 pr, ?_⟩
    -- the first statement
    have hN1 : N.length = N.length := rfl
    have esR : RawAt K (fun _ => False) H (.ref a) (intsD ns) := by
      refine ⟨a, ns.map V.int, ns.map .int, rfl, rfl, RepL.ints ns, ?_⟩
      rcases hS with (z | ⟨o, z⟩) | z
      · exact .inl ⟨fun m => m, z⟩
      · exact .inr (.inl ⟨o, z⟩)
      · exact .inr (.inr z)
    have hx0 : HandAt (⟨tb, none, none⟩ : Stg K) (fun _ => False) H [] := rfl
    obtain ⟨es, no⟩ := entry_es (S := (⟨tb, none, none⟩ : Stg K)) (Mu := fun _ => False) (H := H) (h := []) (vs := [.ref a]) (as := [.raw (intsD ns)]) (fn := ⟨1, N.length, body⟩) (N := N) rfl (show 1 ≤ N.length from hih0) (.cons esR .nil) hx0 (fun _ m => m.elim) htb
    refine q1 (fun _ => False) H (fun _ => False) _ [] _ H _ ⟨Pres.refl H, fun _ z => z, fun _ z => .inl z, fun a z => (by cases z), fun _ m => m.elim, es, fun i a oi => by rw [no] at oi; cases oi⟩ ?_
    have ev1 : evS Kal (entry ⟨1, N.length, body⟩ [.raw (intsD ns)]) (.asg (.name ih) (.call hf [.var 0])) [] = .ok (.next (put (entry ⟨1, N.length, body⟩ [.raw (intsD ns)]) ih (.val (.list (.list (cells.map .int) :: r.map .int))))) [] := by
      have a0 : evAs Kal (entry ⟨1, N.length, body⟩ [.raw (intsD ns)]) [.var 0] = ret [.raw (intsD ns)] := by
        show bnd (argOf (.var 0) _ _) _ = _
        show bnd (ret (Slot.raw (intsD ns))) (fun d => bnd (ret []) fun ds => ret (d :: ds)) = _
        rw [bnd_ret, bnd_ret]
      show bnd (bnd (evAs Kal _ [.var 0]) fun as => Kal.C hf as) (fun d => nextM (assignT (.name ih) d _)) [] = _
      rw [a0, bnd_ret, bnd_ok e1]
      show nextM (ret _) [] = _
      unfold nextM
      rw [bnd_ret, run_ret]
    dsimp only
    rw [ev1]
    intro Mu' σ' H' a1 _
    -- the hand
    have hsl := a1.es.slot ih
    rw [nth_put, if_pos ⟨rfl, by unfold entry; rw [List.length_append, List.length_replicate]; simp; omega⟩] at hsl
    obtain ⟨v, ev, rv⟩ := hsl
    cases rv with
    | lst hm hp hr2 =>
      rename_i p vs
      cases hr2 with
      | cons hc hrest =>
        rename_i v0 vs0
        cases hc with
        | lst hm2 hp2 hr3 =>
          rename_i c us
          have eu : us = cells.map V.int := hr3.ints_inv (by
            have := allInts_map (fun i : Int => i) cells
            simpa using this)
          have evs : vs0 = r.map V.int := hrest.ints_inv (by
            have := allInts_map (fun i : Int => i) r
            simpa using this)
          subst eu
          subst evs
          have ncp : c ≠ p := fun z => by
            subst z
            rw [hp2] at hp
            cases cells with
            | nil => cases hp
            | cons i is => cases hp
          have hx1 : HandAt (⟨tb, some p, none⟩ : Stg K) (fun b => b = p) H' (.list (cells.map .int) :: r.map .int) := ⟨rfl, _, hp, .cons (.lst ncp hp2 (RepL.ints cells)) (RepL.ints r)⟩
          have lenσ : σ'.length = N.length := by
            have := a1.es.len
            rw [put_len] at this
            unfold entry at this
            rw [List.length_append, List.length_replicate] at this
            simp at this
            omega
          have noO : ∀ i, isOwn (nth (envH N.length ih) i) = false := fun i => by
            unfold envH
            rw [nth_put]
            split
            · rfl
            · rw [nth_rep]; rfl
          refine ⟨⟨tb, some p, none⟩, fun b => b = p, H', fun b => b = p, envH N.length ih, .list (cells.map .int) :: r.map .int, rfl, rfl, ⟨Pres.refl H', fun _ z => z, fun _ z => .inl z, fun b z => (by cases z; rfl), fun b z => by subst z; exact notFr hp fun ps y => (by cases y), ⟨?_, fun i => ?_, fun i j b n oi => ?_, hx1, fun b z => by subst z; exact notFr hp fun ps y => (by cases y), a1.es.tabs⟩, fun i b oi => by rw [noO] at oi; cases oi⟩, ?_⟩
          · unfold envH
            rw [put_len, List.length_replicate, lenσ]
          · unfold envH
            rw [nth_put]
            split
            · rename_i z
              obtain ⟨rfl, _⟩ := z
              exact ⟨p, ev, rfl⟩
            · rw [nth_rep]; trivial
          · rw [noO] at oi; cases oi
          · rw [e2]
            intro v2 H2 _ _ rv2
            rw [rv2.bool_inv]
            exact hq H2
end
/-- what stands of the law's def -/
structure LawF (K : PySem.W.Frag) (x : Str) (st : Stmt) (f c : Addr) (fd : FuncData) : Prop where
  F : FunC K x x st f fd c
/-- the whole: from the module's facts to the promise of the law's row -/
theorem law_at {l : PySem.W.OpenLaw} {w : World} {K : PySem.W.Frag} {mg : Str → Option Value} {h : Heap} {fa c Pt : Addr} {fd : FuncData} {x y : Str} {st s1 : Stmt} {rest : List Stmt} {N : List Str} {fuel k hf ih : Nat} {body : List IS} {T Tw : Tab} {clsA : Nat → Option Addr} {isa : Nat → Nat → Option Bool} {Pr : Prg} {qn : Str}
    (X : K.In h) (F : FunC K x x st fa fd c) (Sg : FnScope N [y] (defScope st)) (hb : ∀ (s : Shared) (u : Value), BindsTo s fd ⟨[u], []⟩ [(y, u)])
    (hT : h.get? Pt = some { cls := .none, data := .fields #[] }) (nT : K.lookup Pt = none) (hC : PySem.W.CodeHd h c Pt) (hqn : ∀ L, (envOfC x (defScope st) L fa (.ref c)).qual ++ "<lambda>" = qn)
    (bi : ∀ x ∈ biN, mg x = none) (gl : ∀ x d, T.cst x = some d → ∃ u v, mg x = some u ∧ RelV v u ∧ ∀ Mu H, Rep K Mu H v d)
    (exn : ∀ c x, T.exn c = some x → ∃ (C : Addr) (B newId initId : String) (bmB : List Value), ExcBaseFacts B newId initId bmB ∧ PySem.W.excIn K C bmB newId = true ∧ mg x = some (.ref C) ∧ PySem.W.keepIn K (.ref C) = true ∧
      PySem.W.subIn K (.ref C) (.type "BaseException") = some true ∧ PySem.W.typeIn K (.ref C) = some (.type "type") ∧ (x == ("__debug__" : Str)) = false ∧ clsA c = some C)
    (forms : ∀ g y, T.nm g = some y → Form K mg T Pr g y) (Wk : WordOk K mg Tw clsA isa) (hwd : ∀ f x, T.lm f = some x → WForm K mg Tw isa Pr f x) (hk : 2 ≤ k)
    (hst : defBody st = s1 :: rest) (h1 : okS T fuel ⟨N, defScope st, fun _ => true, true, true, false⟩ (.asg (.name ih) (.call hf [.var 0])) s1 = true) (h2 : okSs T fuel ⟨N, defScope st, fun _ => true, true, true, false⟩ body rest = true) (hih : ih < N.length) (hih0 : 0 < N.length)
    (ev : ∀ ns : List Int, ns.length ≤ 63 → ∃ h h', callF Pr k hf [.raw (intsD ns)] [] = .ok (.list h) [] ∧ headOk h ∧ evSs (calOf Pr k) (envH N.length ih) body h = .ok (.ret (.bool true)) h') :
    LamX.LawAtS l w K (L2.CX l.prog w) (k + 1) 63 y mg fa h := by
  refine ⟨fd, [(c, Pt)], spLaw K [(Pt, qn)] 63, by simpa using hT, by simpa using nT, by simpa using hC, hb, fun H a ns hl _ ht hs => ?_, fun base KX ns TB => ?_⟩
  · refine ⟨a, ns, rfl, hs, hl, fun p hp => ?_, fun _ => rfl⟩
    rw [List.mem_singleton.mp hp]
    exact LamX.TabS.nil (ht (c, Pt) (List.mem_singleton.mpr rfl))
  · have exn2 : ∀ c x, T.exn c = some x → ∃ (C : Addr) (B newId initId : String) (bmB : List Value), ExcBaseFacts B newId initId bmB ∧ PySem.W.excIn K C bmB newId = true ∧ mg x = some (.ref C) ∧ PySem.W.keepIn K (.ref C) = true ∧
      PySem.W.subIn K (.ref C) (.type "BaseException") = some true ∧ PySem.W.typeIn K (.ref C) = some (.type "type") ∧ (x == ("__debug__" : Str)) = false ∧ ∀ H, XAof clsA ⟨c, []⟩ (.ref C) none H := fun c x hc => by
      obtain ⟨C, B, n1, n2, b, q1, q2, q3, q4, q5, q6, q7, q8⟩ := exn c x hc
      exact ⟨C, B, n1, n2, b, q1, q2, q3, q4, q5, q6, q7, fun H => ⟨C, q8, rfl, rfl, rfl⟩⟩
    have M : ∀ j, ModOk l.prog w K mg base T (XAof clsA) j (callF Pr j) := mod_all bi gl exn2 forms
    exact ok_lawC (Kal := calOf Pr k) (lam := true) F Sg (M k) hst h1 h2 hih hih0 (fun S A outer s H E hS hSe hr o => lam_ok Wk (M (k - 2)) hk hwd (TB (c, Pt) (List.mem_singleton.mpr rfl)) hqn rfl S hS hSe hr o) ev
end Ev
namespace Ev
open PySem PySem.Spec PyProof.Rows L2
/-! ### facts of the top -/
def DefIn (K : PySem.W.Frag) (x : Str) (st : Stmt) : Prop := ∃ (f : Addr) (oc : Value) (od an : Option Addr) (osl : Array (Option Value)) (kV doc pm cdv ct : Value), PySem.W.nsIn K mainGlobals x = some (some (.ref f)) ∧
  K.lookup f = some ⟨oc, od, .func (PySem.W.fnOf x x (defArgs st) (defBody st) (defScope st) .none kV doc pm an cdv ct), osl⟩ ∧ PySem.W.codeIn K cdv x = true ∧ PySem.W.keepIn K (.ref f) = true
def LawIn (K : PySem.W.Frag) (x : Str) (st : Stmt) (c : Addr) : Prop := ∃ (f : Addr) (oc : Value) (od an : Option Addr) (osl : Array (Option Value)) (kV doc pm ct : Value), PySem.W.nsIn K mainGlobals x = some (some (.ref f)) ∧
  K.lookup f = some ⟨oc, od, .func (PySem.W.fnOf x x (defArgs st) (defBody st) (defScope st) .none kV doc pm an (.ref c) ct), osl⟩ ∧ PySem.W.codeIn K (.ref c) x = true
structure ClsIn (K : PySem.W.Frag) (x : Str) (C : Addr) : Prop where
  a : PySem.W.nsIn K mainGlobals x = some (some (.ref C))
  ex : PySem.W.excIn K C [.type "ValueError", .type "Exception", .type "BaseException", .type "object"] "ValueError.__new__" = true
  kp : PySem.W.keepIn K (.ref C) = true
  sb : PySem.W.subIn K (.ref C) (.type "BaseException") = some true
  ty : PySem.W.typeIn K (.ref C) = some (.type "type")
structure BiIn (K : PySem.W.Frag) : Prop where
  a0 : PySem.W.nsIn K mainGlobals "range" = some none
  a1 : PySem.W.nsIn K mainGlobals "zip" = some none
  a2 : PySem.W.nsIn K mainGlobals "enumerate" = some none
  a3 : PySem.W.nsIn K mainGlobals "isinstance" = some none
  a4 : PySem.W.nsIn K mainGlobals "len" = some none
  a5 : PySem.W.nsIn K mainGlobals "tuple" = some none
  a6 : PySem.W.nsIn K mainGlobals "list" = some none
  a7 : PySem.W.nsIn K mainGlobals "sorted" = some none
  a8 : PySem.W.nsIn K mainGlobals "min" = some none
  a9 : PySem.W.nsIn K mainGlobals "max" = some none
  b0 : PySem.W.nsIn K mainGlobals "sum" = some none
  b1 : PySem.W.nsIn K mainGlobals "any" = some none
  b2 : PySem.W.nsIn K mainGlobals "all" = some none
  b3 : PySem.W.nsIn K mainGlobals "int" = some none
  b4 : PySem.W.nsIn K mainGlobals "abs" = some none
  b5 : PySem.W.nsIn K mainGlobals "bool" = some none
  b6 : PySem.W.nsIn K mainGlobals "str" = some none
  b7 : PySem.W.nsIn K mainGlobals "dict" = some none
section
variable {K : PySem.W.Frag} {h : Heap} {mg : Str → Option Value}
theorem BiIn.none (b : BiIn K) (X : K.In h) (G : h.Ns mainGlobals mg) : ∀ x ∈ biN, mg x = none := fun x hx => by
  obtain ⟨a0, a1, a2, a3, a4, a5, a6, a7, a8, a9, b0, b1, b2, b3, b4, b5, b6, b7⟩ := b
  simp only [biN, List.mem_cons, List.not_mem_nil, or_false] at hx
  rcases hx with rfl | rfl | rfl | rfl | rfl | rfl | rfl | rfl | rfl | rfl | rfl | rfl | rfl | rfl | rfl | rfl | rfl | rfl <;> exact PySem.W.mg_none_of X G (by assumption)
theorem form_of {T : Tab} {Pr : Prg} {g : Nat} {x : Str} {st : Stmt} {N ps : List Str} {fn : Fn} {fuel : Nat} (X : K.In h) (G : h.Ns mainGlobals mg) (d : DefIn K x st) (S : FnScope N ps (defScope st)) (ok : okSs T fuel ⟨N, defScope st, fun _ => true, false, true, false⟩ fn.body (defBody st) = true)
    (h1 : ps.length = fn.np) (h2 : N.length = fn.n) (h3 : fn.np ≤ fn.n) (h4 : Pr.tbl g = some fn) (h5 : ps.length = T.np g)
    (hb : ∀ (kV doc pm : Value) (an : Option Addr) (cdv ct : Value) (us : List Value), us.length = ps.length → bindArgs (PySem.W.fnOf x x (defArgs st) (defBody st) (defScope st) .none kV doc pm an cdv ct) ⟨us, []⟩ = pure (ps.zip us)) : Form K mg T Pr g x := by
  obtain ⟨f, oc, od, an, osl, kV, doc, pm, cdv, ct, a, l, c, k⟩ := d
  have F := fun_mk (st := st) l c k
  exact ⟨f, _, st, N, ps, fn, fuel, F, S, ok, h1, h2, h3, h4, PySem.W.mg_of X G a, F.binds hb, h5⟩
theorem wform_of {Tw : Tab} {isa : Nat → Nat → Option Bool} {Pr : Prg} {g : Nat} {x a : Str} {st : Stmt} {Ng : List Str} {wf : WFn} {fuel : Nat} (X : K.In h) (G : h.Ns mainGlobals mg) (d : DefIn K x st) (S : FnScope Ng [a] (defScope st)) (ok : okWord Tw fuel Ng (defScope st) a wf (defBody st) = true)
    (h1 : Ng[0]? = some a) (h2 : visB (defScope st) a = true) (h3 : nameB a = true)
    (hb : ∀ (kV doc pm : Value) (an : Option Addr) (cdv ct : Value) (us : List Value), us.length = 1 → bindArgs (PySem.W.fnOf x x (defArgs st) (defBody st) (defScope st) .none kV doc pm an cdv ct) ⟨us, []⟩ = pure ([a].zip us)) (hw : ∀ m, Pr.wd g m = wRun (calW isa) wf m) : WForm K mg Tw isa Pr g x := by
  obtain ⟨f, oc, od, an, osl, kV, doc, pm, cdv, ct, b, l, c, k⟩ := d
  have F := fun_mk (st := st) l c k
  exact ⟨f, _, st, Ng, a, fuel, wf, F, S, ok, PySem.W.mg_of X G b, F.binds hb, h1, h2, h3, hw⟩
end
end Ev
namespace Ev
open PySem PySem.Spec PyProof.Rows L2
section
variable {K : PySem.W.Frag}
theorem DefIn.mk {x : Str} {st : Stmt} {f : Addr} {oc : Value} {od an : Option Addr} {osl : Array (Option Value)} {kV doc pm cdv ct : Value} (a : PySem.W.nsIn K mainGlobals x = some (some (.ref f)))
    (l : K.lookup f = some ⟨oc, od, .func (PySem.W.fnOf x x (defArgs st) (defBody st) (defScope st) .none kV doc pm an cdv ct), osl⟩) (c : PySem.W.codeIn K cdv x = true) (k : PySem.W.keepIn K (.ref f) = true) : DefIn K x st := ⟨f, oc, od, an, osl, kV, doc, pm, cdv, ct, a, l, c, k⟩
theorem LawIn.mk {x : Str} {st : Stmt} {f cd : Addr} {oc : Value} {od an : Option Addr} {osl : Array (Option Value)} {kV doc pm ct : Value} (a : PySem.W.nsIn K mainGlobals x = some (some (.ref f)))
    (l : K.lookup f = some ⟨oc, od, .func (PySem.W.fnOf x x (defArgs st) (defBody st) (defScope st) .none kV doc pm an (.ref cd) ct), osl⟩) (c : PySem.W.codeIn K (.ref cd) x = true) : LawIn K x st cd := ⟨f, oc, od, an, osl, kV, doc, pm, ct, a, l, c⟩
theorem IntIn.mk {x : Str} {i : Int} {t : Tok} (a : PySem.W.nsIn K mainGlobals x = some (some (.int i t))) : ∃ t, PySem.W.nsIn K mainGlobals x = some (some (.int i t)) := ⟨t, a⟩
theorem StrIn.mk {x i : Str} {t : Tok} (a : PySem.W.nsIn K mainGlobals x = some (some (.str i t))) : ∃ t, PySem.W.nsIn K mainGlobals x = some (some (.str i t)) := ⟨t, a⟩
end
end Ev
set_option Elab.async false
set_option linter.all false
set_option maxRecDepth 100000
set_option maxHeartbeats 4000000
/-! The law's hand at first; choices. -/
namespace Ev
open PySem PySem.W

def handB (e : IE) (a b : Int) : List IS := [
  .asg (.name 1) (.lc e (.name 2) (.rawSl 0 .absent (.cst (.int 63))) [] [2]),
  .ret (.lst [.var 1, .cst (.int 0), .cst (.int 0), .bop .add (.cst (.int a)) (.bop .mul (.cst (.int b)) (.b1 .len (.var 1))), .cst (.int 0)])]
def handA : IE := .b1 .abs (.b1 .int (.var 2))
def handA2 : IE := .bop .mod (.b1 .int (.b1 .abs (.b1 .int (.var 2)))) (.bop .pow (.cst (.int 10)) (.cst (.int 36)))
def HandE (e : IE) : Prop := ∀ (K : Cal) (s1 : Slot) (s0 : Slot) (x : Int), ∃ y : Int, 0 ≤ y ∧ evE K [s0, s1, .val (.int x)] e = ret (.int y)
theorem abs_int (x : Int) : b1V .abs (.int x) = ret (.int (if x < 0 then -x else x)) := rfl
theorem handA_ok : HandE handA := fun K s1 s0 x => ⟨if x < 0 then -x else x, by split <;> omega, by simp [handA, evE, slotB, slotV, nth, abs_int]⟩
theorem handA2_ok : HandE handA2 := fun K s1 s0 x => ⟨(if x < 0 then -x else x) % 1000000000000000000000000000000000000, Int.emod_nonneg _ (by decide), by
  have e : bopV .pow (.int 10) (.int 36) = ret (.int 1000000000000000000000000000000000000) := rfl
  simp [handA2, evE, slotB, slotV, nth, abs_int, e, mod_pos]⟩
theorem lcL_rel {α : Type} (f : D → M (Option D)) (e e2 : α → D) : ∀ (xs : List α), (∀ x ∈ xs, f (e x) = ret (some (e2 x))) → lcL f (xs.map e) = ret (xs.map e2)
  | [], _ => rfl
  | x :: xs, h => by
    show bnd (f (e x)) _ = _
    rw [h x List.mem_cons_self, bnd_ret, lcL_rel f e e2 xs fun y hy => h y (List.mem_cons_of_mem _ hy), bnd_ret]
    rfl
theorem hand_ok {P : Prg} {e : IE} (he : HandE e) {a b : Int} (ha : 0 ≤ a ∧ a ≤ 1000000) (hb : 0 ≤ b ∧ b ≤ 1000) {f : Nat} (hf : P.tbl f = some ⟨1, 3, handB e a b⟩) (n : Nat) (ns : List Int) :
    ns.length ≤ 63 → ∃ h, callF P (n + 1) f [.raw (intsD ns)] [] = .ok (.list h) [] ∧ headOk h ∧ HI h := by
  intro hlen
  let g : Int → Int := fun x => (he (calOf P n) (Slot.no) (.raw (intsD ns)) x).choose
  have hg : ∀ x, 0 ≤ g x ∧ evE (calOf P n) [.raw (intsD ns), .no, .val (.int x)] e = ret (.int (g x)) := fun x => (he (calOf P n) (Slot.no) (.raw (intsD ns)) x).choose_spec
  let ks := ns.take 63
  have hcut : sliceV (intsD ns) none (some 63) = ret (PyData.list (ks.map .int)) := by
    show ret (PyData.list (cutD (ns.map .int) none (some 63))) = _
    congr 2
    show ((ns.map PyData.int).drop 0).take (min 63 (ns.map PyData.int).length - 0) = (ns.take 63).map .int
    rw [List.drop_zero, List.map_take, Nat.sub_zero, List.length_map]
    by_cases q : ns.length ≤ 63
    · rw [Nat.min_eq_right q, List.take_of_length_le (by simp), List.take_of_length_le (by simp; omega)]
    · rw [Nat.min_eq_left (by omega)]
  obtain ⟨cells, hcells⟩ : ∃ cells, cells = ks.map g := ⟨_, rfl⟩
  have hlc : lcL (fun d => bnd (evE (calOf P n) [.raw (intsD ns), .no, .val d] e) fun y => ret (some y)) (ks.map .int) = ret (cells.map .int) := by
    rw [lcL_rel _ .int (fun x => .int (g x)) ks fun x _ => by rw [(hg x).2, bnd_ret], hcells, List.map_map]
    rfl
  have hl63 : cells.length ≤ 63 := by rw [hcells]; simp [ks]; omega
  have hbl : (0 : Int) ≤ b * cells.length := Int.mul_nonneg hb.1 (by omega)
  have hbl2 : b * (cells.length : Int) ≤ 1000 * 63 := Int.mul_le_mul hb.2 (by omega) (by omega) (by omega)
  refine ⟨hD cells 0 0 (a + b * cells.length) 0, ?_, ⟨cells, [0, 0, a + b * cells.length, 0], rfl⟩, cells, 0, 0, _, 0, rfl, fun c hc => ?_, by omega, by omega, by omega, by omega, by omega⟩
  · rw [callF_succ _ _ _ _ hf]
    have hm : bopV .mul (.int b) (.int cells.length) = ret (.int (b * cells.length)) := mul_small (Or.inl (by unfold small; rw [decide_eq_true_eq]; omega))
    simp [runFn, handB, entry, evSs, evS, evE, evEs, evIf, itr, walkD, nth, slotB, slotV, optOf, asInt, hcut, assignT, wipes, put, nextM, hlc, outOf, run_ret, len_ints, hm, hD]
  · rw [hcells] at hc
    obtain ⟨x, _, rfl⟩ := List.mem_map.mp hc
    exact (hg x).1
end Ev
namespace Ev
open PySem PySem.W
def anyB (g : Nat) : List IS := [.ret (.idx (.var 1) (.call g [.var 0, .b1 .len (.var 1)]))]
theorem atD_mem {xs : List D} {i : Int} (h0 : 0 ≤ i) (h1 : i < xs.length) : ∃ d ∈ xs, atD xs i = ret d := by
  have hl : i.toNat < xs.length := by omega
  refine ⟨xs[i.toNat], List.getElem_mem hl, ?_⟩
  unfold atD ixOf
  rw [if_pos h0, if_pos h1]
  dsimp only
  rw [List.getElem?_eq_getElem hl]
theorem any_ok {P : Prg} {c : DrawC} (o : c.Ok) {e : IE} (me : DrawMix c e) {f g : Nat} (hg : P.tbl g = some ⟨2, 5, draw1 c e :: draw2 c⟩) (hf : P.tbl f = some ⟨2, 2, anyB g⟩) (n : Nat) {xs : List D} (h0 : xs ≠ []) (h1 : xs.length < 1073741824) :
    Wp (callF P (n + 2) f [.hand, .val (.list xs)]) fun d => d ∈ xs := by
  rw [callF_succ _ _ _ _ hf]
  have hlen : 0 < xs.length := List.length_pos_iff.mpr h0
  have hl : b1V .len (.list xs) = ret (.int xs.length) := rfl
  have hd : Wp ((calOf P (n + 1)).C g [.hand, .val (.int xs.length)]) fun d => ∃ i : Int, d = .int i ∧ 0 ≤ i ∧ i < xs.length := draw_ok o me hg n (by omega) (by omega)
  simp [runFn, anyB, entry, evSs, evS, evE, evAs, argOf, nth, slotB, slotV, outOf, hl]
  refine Wp.bnd (hd.mono fun d ⟨i, hi, i0, i1⟩ => ?_)
  subst hi
  obtain ⟨d, hm, he⟩ := atD_mem i0 i1
  have e2 : idxV (.list xs) (.int i) = ret d := he
  rw [e2]
  exact Wp.ret hm
/-- the law's turns -/
theorem law_loop {K : Cal} {n ih : Nat} {N : Int} {tmp : List Nat} {body : List IS} (hN : N = 1 ∨ N = 2 ∨ N = 3 ∨ N = 4 ∨ N = 5 ∨ N = 6) (hw : wipes (envH n ih) tmp = envH n ih) (h : ∀ i : Int, Wp (evSs K (put (envH n ih) 2 (.val (.int i))) body) fun fl => ∃ env', fl = Ev.Flow.next env') :
    Wp (evSs K (envH n ih) [.for (.name 2) (.range (.cst (.int 0)) (.cst (.int N)) (.cst (.int 1))) [] tmp body, .ret (.cst (.bool true))]) fun fl => fl = .ret (.bool true) := by
  have hr : rangeV 0 N 1 = ret (rangeD 0 N) := by rcases hN with h | h | h | h | h | h <;> subst h <;> rfl
  refine evSs_cons ?_
  have e1 : evS K (envH n ih) (.for (.name 2) (.range (.cst (.int 0)) (.cst (.int N)) (.cst (.int 1))) [] tmp body) = bnd (forL (fun s d => bnd (assignT (.name 2) d (wipes (envH n ih) tmp)) fun env1 => bnd (evSs K env1 body) (stepOf [])) (rangeD 0 N) []) (endOf (envH n ih) [] tmp) := by
    simp [evS, evE, itr, walkD, asInt, hr, puts, gets]
  rw [e1, hw]
  refine Wp.bnd ((Wp.forL (fun xs s => s = [] ∧ ∀ d ∈ xs, ∃ i, d = .int i) _ _ ⟨rfl, fun d hd => ?_⟩ (fun x xs s hI => ?_) (Q := fun st => st = .go []) fun s hI => by rw [hI.1]).mono fun st hst => ?_)
  · obtain ⟨j, _, rfl⟩ := List.mem_map.mp hd
    exact ⟨_, rfl⟩
  · obtain ⟨i, rfl⟩ := hI.2 x List.mem_cons_self
    show Wp (bnd (ret (put (envH n ih) 2 (.val (.int i)))) _) _
    rw [bnd_ret]
    refine Wp.bnd ((h i).mono fun fl ⟨env', hfl⟩ => ?_)
    subst hfl
    exact Wp.ret ⟨[], rfl, rfl, fun d hd => hI.2 d (List.mem_cons_of_mem _ hd)⟩
  · subst hst
    refine Wp.ret ⟨wipes (envH n ih) tmp, rfl, ?_⟩
    show Wp (bnd (bnd (ret (PyData.bool true)) _) _) _
    simp only [bnd_ret]
    exact Wp.ret rfl
theorem law_ev {P : Prg} {k hf n ih : Nat} {body : List IS} (hh : ∀ ns : List Int, ns.length ≤ 63 → ∃ h, callF P k hf [.raw (intsD ns)] [] = .ok (.list h) [] ∧ headOk h ∧ HI h) (hw : Wp (evSs (calOf P k) (envH n ih) body) fun fl => fl = .ret (.bool true)) :
    ∀ ns : List Int, ns.length ≤ 63 → ∃ h h', callF P k hf [.raw (intsD ns)] [] = .ok (.list h) [] ∧ headOk h ∧ evSs (calOf P k) (envH n ih) body h = .ok (.ret (.bool true)) h' := fun ns hl => by
  obtain ⟨h, e1, e2, e3⟩ := hh ns hl
  obtain ⟨fl, h', e4, _, rfl⟩ := hw h e3
  exact ⟨h, h', e1, e2, e4⟩
/-- a def that tells exceptions: what it is handed raises -/
theorem word_wp {isa : Nat → Nat → Option Bool} {wf : WFn} {m : M D} {E : Exn → Prop} {Q : D → Prop} {env : Env} (hpre : ∀ h, evSs (calW isa) (List.replicate wf.n .no) wf.pre h = .ok (.next env) h) (hx : WpX m (fun _ => False) E) (hE : ∀ e, E e → ∃ d, (∀ h, wHs (calW isa) wf (List.replicate wf.n .no) e wf.hs h = .ok d h) ∧ Q d) : Wp (wRun (calW isa) wf m) Q := fun h0 i => by
  rcases hx h0 i with ⟨a, h1, _, _, z⟩ | ⟨e, h1, e1, i1, z⟩
  · exact z.elim
  · obtain ⟨d, e2, q⟩ := hE e z
    refine ⟨d, h1, ?_, i1, q⟩
    unfold wRun
    rw [bnd_ok (hpre h0)]
    show wTry (calW isa) wf m env h0 = _
    unfold wTry
    rw [e1]
    exact e2 h1
end Ev
set_option Elab.async false
set_option linter.all false
namespace Ev.KR
open PySem PySem.W L2 Ev

def N_is_integer : List Str := [Str.ofString "thing"]
def b_is_integer : List IS := [
  .ret (.and (.isi (.var 0) [.int]) (.not (.isi (.var 0) [.bool])))]
def fn_is_integer : Fn := ⟨1, 1, b_is_integer⟩
abbrev F_is_integer : Nat := 0
def N_is_within : List Str := [Str.ofString "thing", Str.ofString "low", Str.ofString "high"]
def b_is_within : List IS := [
  .ret (.and (.call 0 [.var 0]) (.cmp2 .le .le (.var 1) (.var 0) (.var 2)))]
def fn_is_within : Fn := ⟨3, 3, b_is_within⟩
abbrev F_is_within : Nat := 1
def N_is_sized : List Str := [Str.ofString "thing", Str.ofString "low", Str.ofString "high"]
def b_is_sized : List IS := [
  .ret (.and (.isi (.var 0) [.tuple]) (.cmp2 .le .le (.var 1) (.b1 .len (.var 0)) (.var 2)))]
def fn_is_sized : Fn := ⟨3, 3, b_is_sized⟩
abbrev F_is_sized : Nat := 2
def N_is_lot : List Str := [Str.ofString "thing", Str.ofString "many", Str.ofString "one", Str.ofString "other"]
def b_is_lot : List IS := [
  .ite (.or (.not (.isi (.var 0) [.tuple])) (.not (.b1 .all (.lc (.call 1 [.var 2, .cst (.int 0), .bop .sub (.var 1) (.cst (.int 1))]) (.name 2) (.var 0) [] [2])))) [.ret (.cst (.bool false))] [],
  .ret (.b1 .all (.lc (.cmp .lt (.var 2) (.var 3)) (.tup [.name 2, .name 3]) (.zip (.var 0) (.slice (.var 0) (.cst (.int 1)) .absent)) [] [2, 3]))]
def fn_is_lot : Fn := ⟨2, 4, b_is_lot⟩
abbrev F_is_lot : Nat := 3
def N_all_lots : List Str := [Str.ofString "some", Str.ofString "found", Str.ofString "one", Str.ofString "size", Str.ofString "lot"]
def b_all_lots : List IS := [
  .asg (.name 1) (.lst [.tup []]),
  .for (.name 2) (.var 0) [1] [2] [.asg (.name 1) (.bop .add (.var 1) (.lc (.bop .add (.var 4) (.tup [.var 2])) (.name 4) (.var 1) [] [4]))],
  .ret (.lc (.var 4) (.tup [.name 3, .name 4]) (.b1 .sorted (.lc (.tup [.b1 .len (.var 4), .var 4]) (.name 4) (.var 1) [] [4])) [] [3, 4])]
def fn_all_lots : Fn := ⟨1, 5, b_all_lots⟩
abbrev F_all_lots : Nat := 4
def N_are_rings : List Str := [Str.ofString "thing", Str.ofString "ring"]
def b_are_rings : List IS := [
  .ret (.and (.call 2 [.var 0, .cst (.int 1), .glob (Str.ofString "MOST_PEOPLE") (.int 5)]) (.b1 .all (.lc (.call 3 [.var 1, .glob (Str.ofString "MOST_KEYS") (.int 10)]) (.name 1) (.var 0) [] [1])))]
def fn_are_rings : Fn := ⟨1, 2, b_are_rings⟩
abbrev F_are_rings : Nat := 5
def N_check_rings : List Str := [Str.ofString "thing"]
def b_check_rings : List IS := [
  .ite (.not (.call 5 [.var 0])) [.raise 8 []] []]
def fn_check_rings : Fn := ⟨1, 1, b_check_rings⟩
abbrev F_check_rings : Nat := 6
def N_is_door : List Str := [Str.ofString "thing"]
def b_is_door : List IS := [
  .ret (.and (.call 3 [.var 0, .glob (Str.ofString "MOST_KEYS") (.int 10)]) (.cmp .gt (.b1 .len (.var 0)) (.cst (.int 0))))]
def fn_is_door : Fn := ⟨1, 1, b_is_door⟩
abbrev F_is_door : Nat := 7
def N_check_door : List Str := [Str.ofString "rings", Str.ofString "door"]
def b_check_door : List IS := [
  .expr (.call 6 [.var 0]),
  .ite (.not (.call 7 [.var 1])) [.raise 2 []] []]
def fn_check_door : Fn := ⟨2, 2, b_check_door⟩
abbrev F_check_door : Nat := 8
def N_raw_opens : List Str := [Str.ofString "rings", Str.ofString "group", Str.ofString "door", Str.ofString "key", Str.ofString "person"]
def b_raw_opens : List IS := [
  .ret (.b1 .all (.lc (.b1 .any (.lc (.cmp .isin (.var 3) (.idx (.var 0) (.var 4))) (.name 4) (.var 1) [] [4])) (.name 3) (.var 2) [] [3]))]
def fn_raw_opens : Fn := ⟨3, 5, b_raw_opens⟩
abbrev F_raw_opens : Nat := 9
def N_opens : List Str := [Str.ofString "rings", Str.ofString "group", Str.ofString "door"]
def b_opens : List IS := [
  .expr (.call 6 [.var 0]),
  .ite (.not (.call 3 [.var 1, .b1 .len (.var 0)])) [.raise 5 []] [],
  .ite (.not (.call 7 [.var 2])) [.raise 2 []] [],
  .ret (.call 9 [.var 0, .var 1, .var 2])]
def fn_opens : Fn := ⟨3, 3, b_opens⟩
abbrev F_opens : Nat := 10
def N_groups_of : List Str := [Str.ofString "rings"]
def b_groups_of : List IS := [
  .ret (.call 4 [.b1 .list (.range (.cst (.int 0)) (.b1 .len (.var 0)) (.cst (.int 1)))])]
def fn_groups_of : Fn := ⟨1, 1, b_groups_of⟩
abbrev F_groups_of : Nat := 11
def N_raw_least : List Str := [Str.ofString "rings", Str.ofString "door", Str.ofString "found", Str.ofString "group", Str.ofString "parts", Str.ofString "person", Str.ofString "other", Str.ofString "part"]
def b_raw_least : List IS := [
  .own 2 (.lst []),
  .for (.name 3) (.call 11 [.var 0]) [2] [3, 4] [.ite (.call 9 [.var 0, .var 3, .var 1]) [.asg (.name 4) (.lc (.b1 .tuple (.lc (.var 6) (.name 6) (.var 3) [.cmp .ne (.var 6) (.var 5)] [6])) (.name 5) (.var 3) [] [5]), .ite (.not (.b1 .any (.lc (.call 9 [.var 0, .var 7, .var 1]) (.name 7) (.var 4) [] [7]))) [.app 2 (.var 3)] []] []],
  .ret (.b1 .sorted (.var 2))]
def fn_raw_least : Fn := ⟨2, 8, b_raw_least⟩
abbrev F_raw_least : Nat := 12
def N_least_groups : List Str := [Str.ofString "rings", Str.ofString "door"]
def b_least_groups : List IS := [
  .expr (.call 8 [.var 0, .var 1]),
  .ret (.b1 .tuple (.call 12 [.var 0, .var 1]))]
def fn_least_groups : Fn := ⟨2, 2, b_least_groups⟩
abbrev F_least_groups : Nat := 13
def N_locked_out : List Str := [Str.ofString "rings", Str.ofString "door", Str.ofString "groups", Str.ofString "person", Str.ofString "group"]
def b_locked_out : List IS := [
  .expr (.call 8 [.var 0, .var 1]),
  .asg (.name 2) (.call 12 [.var 0, .var 1]),
  .ret (.b1 .tuple (.lc (.var 3) (.name 3) (.range (.cst (.int 0)) (.b1 .len (.var 0)) (.cst (.int 1))) [.not (.b1 .any (.lc (.cmp .isin (.var 3) (.var 4)) (.name 4) (.var 2) [] [4]))] [3]))]
def fn_locked_out : Fn := ⟨2, 5, b_locked_out⟩
abbrev F_locked_out : Nat := 14
def N_check_number : List Str := [Str.ofString "rings", Str.ofString "door", Str.ofString "k"]
def b_check_number : List IS := [
  .expr (.call 8 [.var 0, .var 1]),
  .ite (.not (.call 1 [.var 2, .cst (.int 1), .b1 .len (.var 0)])) [.raise 1 []] []]
def fn_check_number : Fn := ⟨3, 3, b_check_number⟩
abbrev F_check_number : Nat := 15
def N_bars_of : List Str := [Str.ofString "rings", Str.ofString "door", Str.ofString "k", Str.ofString "groups", Str.ofString "fewer", Str.ofString "group"]
def b_bars_of : List IS := [
  .asg (.name 3) (.b1 .sorted (.call 11 [.var 0])),
  .asg (.name 4) (.lc (.var 5) (.name 5) (.var 3) [(.and (.cmp .lt (.b1 .len (.var 5)) (.var 2)) (.call 9 [.var 0, .var 5, .var 1]))] [5]),
  .ret (.tup [.var 4, .lc (.var 5) (.name 5) (.var 3) [(.and (.cmp .eq (.b1 .len (.var 5)) (.var 2)) (.not (.call 9 [.var 0, .var 5, .var 1])))] [5]])]
def fn_bars_of : Fn := ⟨3, 6, b_bars_of⟩
abbrev F_bars_of : Nat := 16
def N_any_told : List Str := [Str.ofString "rings", Str.ofString "door", Str.ofString "k", Str.ofString "fewer", Str.ofString "none"]
def b_any_told : List IS := [
  .expr (.call 15 [.var 0, .var 1, .var 2]),
  .asg (.tup [.name 3, .name 4]) (.call 16 [.var 0, .var 1, .var 2]),
  .ite (.cmp .gt (.b1 .len (.var 3)) (.cst (.int 0))) [.ret (.tup [.glob (Str.ofString "FEWER") (.str (Str.ofString "fewer")), .idx (.var 3) (.cst (.int 0))])] [],
  .ret (.ite (.cmp .gt (.b1 .len (.var 4)) (.cst (.int 0))) (.tup [.glob (Str.ofString "NONE") (.str (Str.ofString "none")), .idx (.var 4) (.cst (.int 0))]) (.tup [.glob (Str.ofString "ANY") (.str (Str.ofString "any"))]))]
def fn_any_told : Fn := ⟨3, 5, b_any_told⟩
abbrev F_any_told : Nat := 17
def N_is_any_told : List Str := [Str.ofString "rings", Str.ofString "door", Str.ofString "k", Str.ofString "thing", Str.ofString "fewer", Str.ofString "none"]
def b_is_any_told : List IS := [
  .expr (.call 15 [.var 0, .var 1, .var 2]),
  .asg (.tup [.name 4, .name 5]) (.call 16 [.var 0, .var 1, .var 2]),
  .ite (.call 2 [.var 3, .cst (.int 1), .cst (.int 1)]) [.ret (.and (.isi (.idx (.var 3) (.cst (.int 0))) [.str]) (.and (.cmp .eq (.idx (.var 3) (.cst (.int 0))) (.glob (Str.ofString "ANY") (.str (Str.ofString "any")))) (.cmp .eq (.bop .add (.b1 .len (.var 4)) (.b1 .len (.var 5))) (.cst (.int 0)))))] [],
  .ite (.or (.not (.call 2 [.var 3, .cst (.int 2), .cst (.int 2)])) (.or (.not (.isi (.idx (.var 3) (.cst (.int 0))) [.str])) (.not (.call 3 [.idx (.var 3) (.cst (.int 1)), .b1 .len (.var 0)])))) [.ret (.cst (.bool false))] [],
  .ret (.or (.and (.cmp .eq (.idx (.var 3) (.cst (.int 0))) (.glob (Str.ofString "FEWER") (.str (Str.ofString "fewer")))) (.cmp .isin (.idx (.var 3) (.cst (.int 1))) (.var 4))) (.and (.cmp .eq (.idx (.var 3) (.cst (.int 0))) (.glob (Str.ofString "NONE") (.str (Str.ofString "none")))) (.cmp .isin (.idx (.var 3) (.cst (.int 1))) (.var 5))))]
def fn_is_any_told : Fn := ⟨4, 6, b_is_any_told⟩
abbrev F_is_any_told : Nat := 18
def N__law_hand : List Str := [Str.ofString "script", Str.ofString "cells", Str.ofString "cell"]
def b__law_hand : List IS := [
  .asg (.name 1) (.lc (.b1 .abs (.b1 .int (.var 2))) (.name 2) (.rawSl 0 .absent (.cst (.int 63))) [] [2]),
  .ret (.lst [.var 1, .cst (.int 0), .cst (.int 0), .bop .add (.cst (.int 61)) (.bop .mul (.cst (.int 7)) (.b1 .len (.var 1))), .cst (.int 0)])]
def fn__law_hand : Fn := ⟨1, 3, b__law_hand⟩
abbrev F__law_hand : Nat := 19
def N__law_draw : List Str := [Str.ofString "hand", Str.ofString "many", Str.ofString "number", Str.ofString "cell", Str.ofString "digit"]
def b__law_draw : List IS := [
  .ite (.and (.cmp .eq (.hidx 0 (.cst (.int 2))) (.cst (.int 0))) (.cmp .lt (.hidx 0 (.cst (.int 1))) (.b1 .len (.hidx 0 (.cst (.int 0)))))) [.asg (.name 3) (.idx (.hidx 0 (.cst (.int 0))) (.hidx 0 (.cst (.int 1)))), .setI 0 (.cst (.int 1)) (.bop .add (.hidx 0 (.cst (.int 1))) (.cst (.int 1))), .setI 0 (.cst (.int 3)) (.bop .mod (.b1 .int (.bop .add (.bop .add (.bop .mul (.hidx 0 (.cst (.int 3))) (.cst (.int 69621))) (.bop .mul (.var 3) (.cst (.int 40692)))) (.cst (.int 31)))) (.cst (.int 2147483629))), .ite (.cmp .ge (.var 3) (.bop .pow (.cst (.int 10)) (.cst (.int 18)))) [.setI 0 (.cst (.int 2)) (.var 3)] []] [],
  .ite (.cmp .gt (.hidx 0 (.cst (.int 2))) (.cst (.int 0))) [.asg (.name 4) (.bop .mod (.b1 .int (.hidx 0 (.cst (.int 2)))) (.var 1)), .setI 0 (.cst (.int 2)) (.bop .fdiv (.hidx 0 (.cst (.int 2))) (.var 1)), .ret (.var 4)] [],
  .setI 0 (.cst (.int 4)) (.bop .add (.hidx 0 (.cst (.int 4))) (.cst (.int 1))),
  .asg (.name 2) (.bop .mod (.b1 .int (.bop .mul (.b1 .int (.bop .add (.hidx 0 (.cst (.int 3))) (.bop .mul (.cst (.int 7919)) (.hidx 0 (.cst (.int 4)))))) (.cst (.int 48271)))) (.cst (.int 2147483647))),
  .asg (.name 2) (.bop .mod (.b1 .int (.bop .mul (.var 2) (.bop .add (.bop .fdiv (.var 2) (.cst (.int 1009))) (.cst (.int 69621))))) (.cst (.int 2147483647))),
  .asg (.name 2) (.bop .mod (.b1 .int (.bop .mul (.var 2) (.bop .add (.bop .fdiv (.var 2) (.cst (.int 2003))) (.cst (.int 40014))))) (.cst (.int 2147483563))),
  .ret (.bop .mod (.b1 .int (.bop .fdiv (.var 2) (.cst (.int 16)))) (.var 1))]
def fn__law_draw : Fn := ⟨2, 5, b__law_draw⟩
abbrev F__law_draw : Nat := 20
def N__law_any : List Str := [Str.ofString "hand", Str.ofString "some"]
def b__law_any : List IS := [
  .ret (.idx (.var 1) (.call 20 [.var 0, .b1 .len (.var 1)]))]
def fn__law_any : Fn := ⟨2, 2, b__law_any⟩
abbrev F__law_any : Nat := 21
def N__law_rings : List Str := [Str.ofString "hand", Str.ofString "most", Str.ofString "found", Str.ofString "person", Str.ofString "key"]
def b__law_rings : List IS := [
  .own 2 (.lst []),
  .for (.name 3) (.range (.cst (.int 0)) (.bop .add (.cst (.int 1)) (.call 20 [.var 0, .var 1])) (.cst (.int 1))) [2] [3] [.app 2 (.b1 .tuple (.lc (.var 4) (.name 4) (.range (.cst (.int 0)) (.cst (.int 6)) (.cst (.int 1))) [.cmp .eq (.call 20 [.var 0, .cst (.int 3)]) (.cst (.int 0))] [4]))],
  .ret (.b1 .tuple (.var 2))]
def fn__law_rings : Fn := ⟨2, 5, b__law_rings⟩
abbrev F__law_rings : Nat := 22
def N__law_door : List Str := [Str.ofString "hand", Str.ofString "lot", Str.ofString "key"]
def b__law_door : List IS := [
  .asg (.name 1) (.b1 .tuple (.lc (.var 2) (.name 2) (.range (.cst (.int 0)) (.cst (.int 6)) (.cst (.int 1))) [.cmp .eq (.call 20 [.var 0, .cst (.int 3)]) (.cst (.int 0))] [2])),
  .ret (.ite (.cmp .ne (.var 1) (.tup [])) (.var 1) (.tup [.call 20 [.var 0, .cst (.int 6)]]))]
def fn__law_door : Fn := ⟨1, 3, b__law_door⟩
abbrev F__law_door : Nat := 23
def N__law_lots : List Str := [Str.ofString "n", Str.ofString "found", Str.ofString "one", Str.ofString "size", Str.ofString "lot"]
def b__law_lots : List IS := [
  .asg (.name 1) (.lst [.tup []]),
  .for (.name 2) (.range (.cst (.int 0)) (.var 0) (.cst (.int 1))) [1] [2] [.asg (.name 1) (.bop .add (.var 1) (.lc (.bop .add (.var 4) (.tup [.var 2])) (.name 4) (.var 1) [] [4]))],
  .ret (.lc (.var 4) (.tup [.name 3, .name 4]) (.b1 .sorted (.lc (.tup [.b1 .len (.var 4), .var 4]) (.name 4) (.var 1) [] [4])) [] [3, 4])]
def fn__law_lots : Fn := ⟨1, 5, b__law_lots⟩
abbrev F__law_lots : Nat := 24
def N__law_opens : List Str := [Str.ofString "rings", Str.ofString "group", Str.ofString "door", Str.ofString "key", Str.ofString "person"]
def b__law_opens : List IS := [
  .ret (.b1 .all (.lc (.b1 .any (.lc (.cmp .isin (.var 3) (.idx (.var 0) (.var 4))) (.name 4) (.var 1) [] [4])) (.name 3) (.var 2) [] [3]))]
def fn__law_opens : Fn := ⟨3, 5, b__law_opens⟩
abbrev F__law_opens : Nat := 25
def N__law_no_rings : List Str := [Str.ofString "hand", Str.ofString "some"]
def b__law_no_rings : List IS := [
  .asg (.name 1) (.lst [.cst .none, .tup [], .lst [.tup [.cst (.int 0)]], .tup [.tup [.cst (.int 10)]], .tup [.tup [.neg (.cst (.int 1))]], .tup [.tup [.cst (.int 1), .cst (.int 0)]], .tup [.tup [.cst (.int 1), .cst (.int 1)]], .tup [.lst [.cst (.int 0)]], .tup [.tup [.cst (.bool true)]], .bop .mul (.tup [.tup []]) (.cst (.int 6)), .cst (.int 0)]),
  .ret (.call 21 [.var 0, .var 1])]
def fn__law_no_rings : Fn := ⟨1, 2, b__law_no_rings⟩
abbrev F__law_no_rings : Nat := 26
def N__law_no_door : List Str := [Str.ofString "hand"]
def b__law_no_door : List IS := [
  .ret (.call 21 [.var 0, .lst [.cst .none, .tup [], .lst [.cst (.int 0)], .tup [.cst (.int 10)], .tup [.neg (.cst (.int 1))], .tup [.cst (.int 1), .cst (.int 0)], .tup [.cst (.int 1), .cst (.int 1)], .tup [.cst (.bool true)], .cst (.int 0)]])]
def fn__law_no_door : Fn := ⟨1, 1, b__law_no_door⟩
abbrev F__law_no_door : Nat := 27
def N__law_no_group : List Str := [Str.ofString "hand", Str.ofString "rings"]
def b__law_no_group : List IS := [
  .ret (.call 21 [.var 0, .lst [.cst .none, .lst [.cst (.int 0)], .tup [.b1 .len (.var 1)], .tup [.neg (.cst (.int 1))], .tup [.cst (.int 0), .cst (.int 0)], .tup [.cst (.bool true)], .cst (.int 0)]])]
def fn__law_no_group : Fn := ⟨2, 2, b__law_no_group⟩
abbrev F__law_no_group : Nat := 28
def N_raw_gift : List Str := [Str.ofString "rings", Str.ofString "gift", Str.ofString "person"]
def b_raw_gift : List IS := [
  .ite (.or (.not (.call 2 [.var 1, .cst (.int 3), .cst (.int 3)])) (.not (.b1 .all (.lc (.call 1 [.var 2, .cst (.int 0), .bop .sub (.b1 .len (.var 0)) (.cst (.int 1))]) (.name 2) (.slice (.var 1) .absent (.cst (.int 2))) [] [2])))) [.ret (.cst (.bool false))] [],
  .ite (.or (.cmp .eq (.idx (.var 1) (.cst (.int 0))) (.idx (.var 1) (.cst (.int 1)))) (.not (.call 1 [.idx (.var 1) (.cst (.int 2)), .cst (.int 0), .bop .sub (.glob (Str.ofString "MOST_KEYS") (.int 10)) (.cst (.int 1))]))) [.ret (.cst (.bool false))] [],
  .ret (.and (.cmp .isin (.idx (.var 1) (.cst (.int 2))) (.idx (.var 0) (.idx (.var 1) (.cst (.int 0))))) (.cmp .notin (.idx (.var 1) (.cst (.int 2))) (.idx (.var 0) (.idx (.var 1) (.cst (.int 1))))))]
def fn_raw_gift : Fn := ⟨2, 3, b_raw_gift⟩
abbrev F_raw_gift : Nat := 29
def N_raw_after : List Str := [Str.ofString "rings", Str.ofString "gift", Str.ofString "found", Str.ofString "giver", Str.ofString "taker", Str.ofString "key", Str.ofString "one"]
def b_raw_after : List IS := [
  .asg (.tup [.name 3, .name 4, .name 5]) (.var 1),
  .own 2 (.b1 .list (.var 0)),
  .setI 2 (.var 3) (.b1 .tuple (.lc (.var 6) (.name 6) (.idx (.var 0) (.var 3)) [.cmp .ne (.var 6) (.var 5)] [6])),
  .setI 2 (.var 4) (.b1 .tuple (.b1 .sorted (.bop .add (.idx (.var 0) (.var 4)) (.tup [.var 5])))),
  .ret (.b1 .tuple (.var 2))]
def fn_raw_after : Fn := ⟨2, 7, b_raw_after⟩
abbrev F_raw_after : Nat := 30
def N_after_gift : List Str := [Str.ofString "rings", Str.ofString "gift"]
def b_after_gift : List IS := [
  .expr (.call 6 [.var 0]),
  .ite (.not (.call 29 [.var 0, .var 1])) [.raise 4 []] [],
  .ret (.call 30 [.var 0, .var 1])]
def fn_after_gift : Fn := ⟨2, 2, b_after_gift⟩
abbrev F_after_gift : Nat := 31
def N_check_person : List Str := [Str.ofString "rings", Str.ofString "person", Str.ofString "door"]
def b_check_person : List IS := [
  .expr (.call 6 [.var 0]),
  .ite (.not (.call 1 [.var 1, .cst (.int 0), .bop .sub (.b1 .len (.var 0)) (.cst (.int 1))])) [.raise 7 []] [],
  .ite (.not (.call 7 [.var 2])) [.raise 2 []] []]
def fn_check_person : Fn := ⟨3, 3, b_check_person⟩
abbrev F_check_person : Nat := 32
def N_raw_gifts : List Str := [Str.ofString "rings", Str.ofString "person", Str.ofString "door", Str.ofString "gifts", Str.ofString "key", Str.ofString "holders", Str.ofString "other", Str.ofString "ring"]
def b_raw_gifts : List IS := [
  .own 3 (.lst []),
  .for (.name 4) (.var 2) [3] [4, 5] [.asg (.name 5) (.lc (.var 6) (.tup [.name 6, .name 7]) (.enum (.var 0)) [.cmp .isin (.var 4) (.var 7)] [6, 7]), .ite (.cmp .eq (.b1 .len (.var 5)) (.cst (.int 0))) [.ret (.tup [.glob (Str.ofString "LACKS") (.str (Str.ofString "lacks")), .var 4])] [], .ite (.cmp .notin (.var 1) (.var 5)) [.app 3 (.tup [.idx (.var 5) (.cst (.int 0)), .var 1, .var 4])] []],
  .ret (.tup [.glob (Str.ofString "GIFTS") (.str (Str.ofString "gifts")), .b1 .tuple (.b1 .sorted (.var 3))])]
def fn_raw_gifts : Fn := ⟨3, 8, b_raw_gifts⟩
abbrev F_raw_gifts : Nat := 33
def N_gifts_told : List Str := [Str.ofString "rings", Str.ofString "person", Str.ofString "door"]
def b_gifts_told : List IS := [
  .expr (.call 32 [.var 0, .var 1, .var 2]),
  .ret (.call 33 [.var 0, .var 1, .var 2])]
def fn_gifts_told : Fn := ⟨3, 3, b_gifts_told⟩
abbrev F_gifts_told : Nat := 34
def N_is_gifts_told : List Str := [Str.ofString "rings", Str.ofString "person", Str.ofString "door", Str.ofString "thing", Str.ofString "due", Str.ofString "gift"]
def b_is_gifts_told : List IS := [
  .expr (.call 32 [.var 0, .var 1, .var 2]),
  .asg (.name 4) (.call 33 [.var 0, .var 1, .var 2]),
  .ite (.or (.not (.call 2 [.var 3, .cst (.int 2), .cst (.int 2)])) (.or (.not (.isi (.idx (.var 3) (.cst (.int 0))) [.str])) (.cmp .ne (.idx (.var 3) (.cst (.int 0))) (.idx (.var 4) (.cst (.int 0)))))) [.ret (.cst (.bool false))] [],
  .ite (.cmp .eq (.idx (.var 4) (.cst (.int 0))) (.glob (Str.ofString "LACKS") (.str (Str.ofString "lacks")))) [.ret (.call 1 [.idx (.var 3) (.cst (.int 1)), .idx (.var 4) (.cst (.int 1)), .idx (.var 4) (.cst (.int 1))])] [],
  .ite (.not (.call 2 [.idx (.var 3) (.cst (.int 1)), .b1 .len (.idx (.var 4) (.cst (.int 1))), .b1 .len (.idx (.var 4) (.cst (.int 1)))])) [.ret (.cst (.bool false))] [],
  .for (.name 5) (.idx (.var 3) (.cst (.int 1))) [0] [5] [.ite (.not (.call 29 [.var 0, .var 5])) [.ret (.cst (.bool false))] [], .asg (.name 0) (.call 30 [.var 0, .var 5])],
  .ret (.call 9 [.var 0, .tup [.var 1], .var 2])]
def fn_is_gifts_told : Fn := ⟨4, 6, b_is_gifts_told⟩
abbrev F_is_gifts_told : Nat := 35
def N__law_given : List Str := [Str.ofString "rings", Str.ofString "gift", Str.ofString "found", Str.ofString "one", Str.ofString "other", Str.ofString "key", Str.ofString "held"]
def b__law_given : List IS := [
  .asg (.tup [.name 3, .name 4, .name 5]) (.var 1),
  .own 2 (.b1 .list (.var 0)),
  .setI 2 (.var 3) (.b1 .tuple (.lc (.var 6) (.name 6) (.idx (.var 0) (.var 3)) [.cmp .ne (.var 6) (.var 5)] [6])),
  .setI 2 (.var 4) (.b1 .tuple (.b1 .sorted (.bop .add (.idx (.var 0) (.var 4)) (.tup [.var 5])))),
  .ret (.b1 .tuple (.var 2))]
def fn__law_given : Fn := ⟨2, 7, b__law_given⟩
abbrev F__law_given : Nat := 36
def N_fewest_lost : List Str := [Str.ofString "rings", Str.ofString "door", Str.ofString "every", Str.ofString "lot", Str.ofString "person"]
def b_fewest_lost : List IS := [
  .expr (.call 8 [.var 0, .var 1]),
  .asg (.name 2) (.b1 .list (.range (.cst (.int 0)) (.b1 .len (.var 0)) (.cst (.int 1)))),
  .ite (.not (.call 9 [.var 0, .var 2, .var 1])) [.ret (.cst .none)] [],
  .for (.name 3) (.call 11 [.var 0]) [] [3] [.ite (.not (.call 9 [.var 0, .lc (.var 4) (.name 4) (.var 2) [.cmp .notin (.var 4) (.var 3)] [4], .var 1])) [.ret (.var 3)] []],
  .ret (.cst .none)]
def fn_fewest_lost : Fn := ⟨2, 5, b_fewest_lost⟩
abbrev F_fewest_lost : Nat := 37
def N_spare_keys : List Str := [Str.ofString "rings", Str.ofString "door", Str.ofString "every", Str.ofString "found", Str.ofString "person", Str.ofString "ring", Str.ofString "key", Str.ofString "other"]
def b_spare_keys : List IS := [
  .expr (.call 8 [.var 0, .var 1]),
  .par [(.name 2, false), (.name 3, true)] [.b1 .list (.range (.cst (.int 0)) (.b1 .len (.var 0)) (.cst (.int 1))), .lst []],
  .for (.tup [.name 4, .name 5]) (.enum (.var 0)) [3] [4, 5, 6] [.for (.name 6) (.var 5) [3] [6] [.ite (.and (.cmp .isin (.var 6) (.var 1)) (.call 9 [.var 0, .var 2, .var 1])) [.ite (.b1 .any (.lc (.cmp .isin (.var 6) (.idx (.var 0) (.var 7))) (.name 7) (.var 2) [.cmp .ne (.var 7) (.var 4)] [7])) [.app 3 (.tup [.var 4, .var 6])] []] []]],
  .ret (.b1 .tuple (.var 3))]
def fn_spare_keys : Fn := ⟨2, 8, b_spare_keys⟩
abbrev F_spare_keys : Nat := 38
def N_copied_key : List Str := [Str.ofString "rings", Str.ofString "key", Str.ofString "ring", Str.ofString "one"]
def b_copied_key : List IS := [
  .expr (.call 6 [.var 0]),
  .ite (.not (.call 1 [.var 1, .cst (.int 0), .bop .sub (.glob (Str.ofString "MOST_KEYS") (.int 10)) (.cst (.int 1))])) [.raise 6 []] [],
  .ret (.b1 .tuple (.lc (.b1 .tuple (.b1 .sorted (.dc (.var 3) (.cst (.bool true)) (.name 3) (.bop .add (.var 2) (.tup [.var 1])) [] [3]))) (.name 2) (.var 0) [] [2]))]
def fn_copied_key : Fn := ⟨2, 4, b_copied_key⟩
abbrev F_copied_key : Nat := 39
def N_strangers : List Str := [Str.ofString "rings", Str.ofString "doors", Str.ofString "found", Str.ofString "a", Str.ofString "b", Str.ofString "door"]
def b_strangers : List IS := [
  .expr (.call 6 [.var 0]),
  .ite (.or (.not (.call 2 [.var 1, .cst (.int 1), .glob (Str.ofString "MOST_DOORS") (.int 5)])) (.not (.b1 .all (.lc (.call 7 [.var 5]) (.name 5) (.var 1) [] [5])))) [.raise 3 []] [],
  .own 2 (.lst []),
  .for (.name 3) (.range (.cst (.int 0)) (.b1 .len (.var 0)) (.cst (.int 1))) [2] [3, 4] [.for (.name 4) (.range (.bop .add (.var 3) (.cst (.int 1))) (.b1 .len (.var 0)) (.cst (.int 1))) [2] [4] [.ite (.not (.b1 .any (.lc (.call 9 [.var 0, .tup [.var 3, .var 4], .var 5]) (.name 5) (.var 1) [] [5]))) [.app 2 (.tup [.var 3, .var 4])] []]],
  .ret (.b1 .tuple (.var 2))]
def fn_strangers : Fn := ⟨2, 6, b_strangers⟩
abbrev F_strangers : Nat := 40
def N__law_lost : List Str := [Str.ofString "rings", Str.ofString "door", Str.ofString "every", Str.ofString "lots", Str.ofString "lot", Str.ofString "one"]
def b__law_lost : List IS := [
  .asg (.name 2) (.b1 .tuple (.range (.cst (.int 0)) (.b1 .len (.var 0)) (.cst (.int 1)))),
  .ite (.not (.call 25 [.var 0, .var 2, .var 1])) [.ret (.cst .none)] [],
  .asg (.name 3) (.call 24 [.b1 .len (.var 0)]),
  .ret (.idx (.lc (.var 4) (.name 4) (.var 3) [.not (.call 25 [.var 0, .lc (.var 5) (.name 5) (.var 2) [.cmp .notin (.var 5) (.var 4)] [5], .var 1])] [4]) (.cst (.int 0)))]
def fn__law_lost : Fn := ⟨2, 6, b__law_lost⟩
abbrev F__law_lost : Nat := 41
class Has (P : Prg) (f : Nat) (fn : outParam Fn) : Prop where
  h : P.tbl f = some fn
theorem cf {P : Prg} (n f : Nat) (as : List Slot) {fn : Fn} [i : Has P f fn] : callF P (n + 1) f as = runFn (calOf P n) fn as := callF_succ P n f as i.h
abbrev X_WatchError : Nat := 0
abbrev X_NoCount : Nat := 1
abbrev X_NoDoor : Nat := 2
abbrev X_NoDoors : Nat := 3
abbrev X_NoGift : Nat := 4
abbrev X_NoGroup : Nat := 5
abbrev X_NoKey : Nat := 6
abbrev X_NoPerson : Nat := 7
abbrev X_NoRings : Nat := 8
abbrev X_TooMany : Nat := 9
end Ev.KR
set_option Elab.async false
set_option linter.all false
set_option maxRecDepth 100000
set_option maxHeartbeats 4000000
namespace Ev.K89
open PySem PySem.W L2 Ev Ev.KR

def topS (i : Nat) : Stmt := PySem.Challenge.pw_watchhouse_k89_whole_keys_lost_and_spare.main.body.getD i (.Pass ⟨0, 0, 0, 0⟩)
def N__law_word : List Str := [Str.ofString "call", Str.ofString "word", Str.ofString "e", Str.ofString "flags", Str.ofString "names"]
def w__law_word : WFn := WFn.mk 5 2 [.asg (.name 1) (.cst (.str (Str.ofString "let")))] false [(9, [.never]), (0, [.asg (.name 3) (.lst [.isx 2 1, .isx 2 2, .isx 2 3, .isx 2 4]), .asg (.name 3) (.bop .add (.var 3) (.lst [.isx 2 5, .isx 2 6, .isx 2 7, .isx 2 8])), .asg (.name 4) (.lst [.cst (.str (Str.ofString "count")), .cst (.str (Str.ofString "door")), .cst (.str (Str.ofString "doors")), .cst (.str (Str.ofString "gift")), .cst (.str (Str.ofString "group")), .cst (.str (Str.ofString "key")), .cst (.str (Str.ofString "person")), .cst (.str (Str.ofString "rings"))]), .asg (.name 1) (.ite (.cmp .eq (.m1 .count (.var 3) (.cst (.bool true))) (.cst (.int 1))) (.idx (.var 4) (.m1 .index (.var 3) (.cst (.bool true)))) (.cst (.str (Str.ofString "other"))))])] [.ret (.var 1)]
def N_law : List Str := [Str.ofString "script", Str.ofString "hand", Str.ofString "turn", Str.ofString "rings", Str.ofString "doors", Str.ofString "lost", Str.ofString "spare", Str.ofString "person", Str.ofString "key", Str.ofString "copied", Str.ofString "pairs", Str.ofString "a", Str.ofString "wrong", Str.ofString "words", Str.ofString "n", Str.ofString "door", Str.ofString "b", Str.ofString "bad", Str.ofString "off", Str.ofString "others", Str.ofString "step", Str.ofString "ring", Str.ofString "at", Str.ofString "one"]
def s_0 : IS := .asg (.name 3) (.call 22 [.var 1, .cst (.int 5)])
def s_1 : IS := .asg (.name 4) (.b1 .tuple (.lc (.call 23 [.var 1]) (.name 20) (.range (.cst (.int 0)) (.bop .add (.cst (.int 1)) (.call 20 [.var 1, .cst (.int 4)])) (.cst (.int 1))) [] [20]))
def s_2 : IS := .par [(.name 14, false), (.name 15, false)] [.b1 .len (.var 3), .idx (.var 4) (.cst (.int 0))]
def s_3 : IS := .asg (.name 5) (.call 41 [.var 3, .var 15])
def s_4 : IS := .ite (.cmp .ne (.call 37 [.var 3, .var 15]) (.var 5)) [.ret (.cst (.bool false))] []
def s_5 : IS := .asg (.name 6) (.lst [])
def s_6 : IS := .for (.name 7) (.range (.cst (.int 0)) (.var 14) (.cst (.int 1))) [6] [7, 8, 19] [.for (.name 8) (.var 15) [6] [8, 19] [.asg (.name 19) (.lc (.var 21) (.tup [.name 22, .name 21]) (.enum (.var 3)) [(.and (.cmp .ne (.var 22) (.var 7)) (.cmp .isin (.var 8) (.var 21)))] [21, 22]), .asg (.name 6) (.bop .add (.var 6) (.ite (.and (.cmp .notNone (.var 5) (.cst .none)) (.and (.cmp .isin (.var 8) (.idx (.var 3) (.var 7))) (.cmp .ne (.var 19) (.lst [])))) (.lst [.tup [.var 7, .var 8]]) (.lst [])))]]
def s_7 : IS := .ite (.cmp .ne (.call 38 [.var 3, .var 15]) (.b1 .tuple (.var 6))) [.ret (.cst (.bool false))] []
def s_8 : IS := .asg (.name 8) (.call 20 [.var 1, .cst (.int 10)])
def s_9 : IS := .asg (.name 9) (.b1 .tuple (.lc (.b1 .tuple (.b1 .sorted (.b1 .dict (.lc (.tup [.var 23, .cst (.bool true)]) (.name 23) (.bop .add (.var 21) (.tup [.var 8])) [] [23])))) (.name 21) (.var 3) [] [21]))
def s_10 : IS := .ite (.cmp .ne (.call 39 [.var 3, .var 8]) (.var 9)) [.ret (.cst (.bool false))] []
def s_11 : IS := .ite (.and (.cmp .notNone (.var 5) (.cst .none)) (.cmp .lt (.b1 .len (.call 37 [.var 9, .var 15])) (.b1 .len (.var 5)))) [.ret (.cst (.bool false))] []
def s_12 : IS := .asg (.name 10) (.lst [])
def s_13 : IS := .for (.name 11) (.range (.cst (.int 0)) (.var 14) (.cst (.int 1))) [10] [11, 16] [.for (.name 16) (.range (.bop .add (.var 11) (.cst (.int 1))) (.var 14) (.cst (.int 1))) [10] [16] [.asg (.name 10) (.bop .add (.var 10) (.ite (.not (.b1 .any (.lc (.call 25 [.var 3, .tup [.var 11, .var 16], .var 23]) (.name 23) (.var 4) [] [23]))) (.lst [.tup [.var 11, .var 16]]) (.lst [])))]]
def s_14 : IS := .ite (.cmp .ne (.call 40 [.var 3, .var 4]) (.b1 .tuple (.var 10))) [.ret (.cst (.bool false))] []
def s_15 : IS := .par [(.name 17, false), (.name 18, false)] [.call 26 [.var 1], .call 27 [.var 1]]
def s_16 : IS := .asg (.name 12) (.call 21 [.var 1, .lst [.cst .none, .tup [], .lst [.var 15], .tup [.var 18], .bop .mul (.tup [.var 15]) (.cst (.int 6)), .cst (.int 0)]])
def s_17 : IS := .own 13 (.lst [.lam 42 (.call 37 [.var 17, .var 18])])
def s_18 : IS := .app 13 (.lam 42 (.call 37 [.var 3, .var 18]))
def s_19 : IS := .app 13 (.lam 42 (.call 38 [.var 17, .var 18]))
def s_20 : IS := .app 13 (.lam 42 (.call 38 [.var 3, .var 18]))
def s_21 : IS := .app 13 (.lam 42 (.call 39 [.var 17, .cst .none]))
def s_22 : IS := .app 13 (.lam 42 (.call 39 [.var 3, .call 21 [.var 1, .lst [.cst .none, .neg (.cst (.int 1)), .cst (.int 10), .cst (.bool true)]]]))
def s_23 : IS := .app 13 (.lam 42 (.call 40 [.var 17, .var 12]))
def s_24 : IS := .app 13 (.lam 42 (.call 40 [.var 3, .var 12]))
def s_25 : IS := .ite (.cmp .ne (.var 13) (.lst [.cst (.str (Str.ofString "rings")), .cst (.str (Str.ofString "door")), .cst (.str (Str.ofString "rings")), .cst (.str (Str.ofString "door")), .cst (.str (Str.ofString "rings")), .cst (.str (Str.ofString "key")), .cst (.str (Str.ofString "rings")), .cst (.str (Str.ofString "doors"))])) [.ret (.cst (.bool false))] []
def body : List IS := [s_0, s_1, s_2, s_3, s_4, s_5, s_6, s_7, s_8, s_9, s_10, s_11, s_12, s_13, s_14, s_15, s_16, s_17, s_18, s_19, s_20, s_21, s_22, s_23, s_24, s_25]
def b_law : List IS := [
  .for (.name 2) (.range (.cst (.int 0)) (.cst (.int 5)) (.cst (.int 1))) [] [2, 3, 4, 5, 6, 7, 8, 9, 10, 11, 12, 13, 14, 15, 16, 17, 18, 19] body,
  .ret (.cst (.bool true))]
def tblL : Nat → Option Fn
  | 0 => some fn_is_integer
  | 1 => some fn_is_within
  | 2 => some fn_is_sized
  | 3 => some fn_is_lot
  | 4 => some fn_all_lots
  | 5 => some fn_are_rings
  | 6 => some fn_check_rings
  | 7 => some fn_is_door
  | 8 => some fn_check_door
  | 9 => some fn_raw_opens
  | 11 => some fn_groups_of
  | 37 => some fn_fewest_lost
  | 38 => some fn_spare_keys
  | 39 => some fn_copied_key
  | 40 => some fn_strangers
  | 19 => some fn__law_hand
  | 20 => some fn__law_draw
  | 21 => some fn__law_any
  | 22 => some fn__law_rings
  | 23 => some fn__law_door
  | 24 => some fn__law_lots
  | 25 => some fn__law_opens
  | 26 => some fn__law_no_rings
  | 27 => some fn__law_no_door
  | 41 => some fn__law_lost
  | _ => none
def nmL : Nat → Option Str
  | 0 => some (Str.ofString "is_integer")
  | 1 => some (Str.ofString "is_within")
  | 2 => some (Str.ofString "is_sized")
  | 3 => some (Str.ofString "is_lot")
  | 4 => some (Str.ofString "all_lots")
  | 5 => some (Str.ofString "are_rings")
  | 6 => some (Str.ofString "check_rings")
  | 7 => some (Str.ofString "is_door")
  | 8 => some (Str.ofString "check_door")
  | 9 => some (Str.ofString "raw_opens")
  | 11 => some (Str.ofString "groups_of")
  | 37 => some (Str.ofString "fewest_lost")
  | 38 => some (Str.ofString "spare_keys")
  | 39 => some (Str.ofString "copied_key")
  | 40 => some (Str.ofString "strangers")
  | 19 => some (Str.ofString "_law_hand")
  | 20 => some (Str.ofString "_law_draw")
  | 21 => some (Str.ofString "_law_any")
  | 22 => some (Str.ofString "_law_rings")
  | 23 => some (Str.ofString "_law_door")
  | 24 => some (Str.ofString "_law_lots")
  | 25 => some (Str.ofString "_law_opens")
  | 26 => some (Str.ofString "_law_no_rings")
  | 27 => some (Str.ofString "_law_no_door")
  | 41 => some (Str.ofString "_law_lost")
  | _ => none
def npL : Nat → Nat
  | 0 => 1
  | 1 => 3
  | 2 => 3
  | 3 => 2
  | 4 => 1
  | 5 => 1
  | 6 => 1
  | 7 => 1
  | 8 => 2
  | 9 => 3
  | 11 => 1
  | 37 => 2
  | 38 => 2
  | 39 => 2
  | 40 => 2
  | 19 => 1
  | 20 => 2
  | 21 => 2
  | 22 => 2
  | 23 => 1
  | 24 => 1
  | 25 => 3
  | 26 => 1
  | 27 => 1
  | 41 => 2
  | _ => 0
def cstL (x : Str) : Option D :=
  if x == Str.ofString "MOST_DOORS" then some (.int 5) else
  if x == Str.ofString "MOST_KEYS" then some (.int 10) else
  if x == Str.ofString "MOST_PEOPLE" then some (.int 5) else
  none
def exnL : Nat → Option Str
  | 2 => some (Str.ofString "NoDoor")
  | 3 => some (Str.ofString "NoDoors")
  | 6 => some (Str.ofString "NoKey")
  | 8 => some (Str.ofString "NoRings")
  | _ => none
def exnW : Nat → Option Str
  | 0 => some (Str.ofString "WatchError")
  | 1 => some (Str.ofString "NoCount")
  | 2 => some (Str.ofString "NoDoor")
  | 3 => some (Str.ofString "NoDoors")
  | 4 => some (Str.ofString "NoGift")
  | 5 => some (Str.ofString "NoGroup")
  | 6 => some (Str.ofString "NoKey")
  | 7 => some (Str.ofString "NoPerson")
  | 8 => some (Str.ofString "NoRings")
  | 9 => some (Str.ofString "TooMany")
  | _ => none
def lmL : Nat → Option Str
  | 42 => some (Str.ofString "_law_word")
  | _ => none
def isaL : Nat → Nat → Option Bool
  | 2, 0 => some true
  | 2, 1 => some false
  | 2, 2 => some true
  | 2, 3 => some false
  | 2, 4 => some false
  | 2, 5 => some false
  | 2, 6 => some false
  | 2, 7 => some false
  | 2, 8 => some false
  | 2, 9 => some false
  | 3, 0 => some true
  | 3, 1 => some false
  | 3, 2 => some false
  | 3, 3 => some true
  | 3, 4 => some false
  | 3, 5 => some false
  | 3, 6 => some false
  | 3, 7 => some false
  | 3, 8 => some false
  | 3, 9 => some false
  | 6, 0 => some true
  | 6, 1 => some false
  | 6, 2 => some false
  | 6, 3 => some false
  | 6, 4 => some false
  | 6, 5 => some false
  | 6, 6 => some true
  | 6, 7 => some false
  | 6, 8 => some false
  | 6, 9 => some false
  | 8, 0 => some true
  | 8, 1 => some false
  | 8, 2 => some false
  | 8, 3 => some false
  | 8, 4 => some false
  | 8, 5 => some false
  | 8, 6 => some false
  | 8, 7 => some false
  | 8, 8 => some true
  | 8, 9 => some false
  | _, _ => none
def wdL : Nat → M D → M D
  | 42 => wRun (calW isaL) w__law_word
  | _ => fun _ => fail
def PL : Prg := ⟨tblL, wdL, isaL⟩
def TL : Tab := ⟨nmL, npL, cstL, exnL, lmL⟩
def TW : Tab := ⟨fun _ => none, fun _ => 0, fun _ => none, exnW, fun _ => none⟩
instance : Has PL F_is_integer fn_is_integer := ⟨rfl⟩
instance : Has PL F_is_within fn_is_within := ⟨rfl⟩
instance : Has PL F_is_sized fn_is_sized := ⟨rfl⟩
instance : Has PL F_is_lot fn_is_lot := ⟨rfl⟩
instance : Has PL F_all_lots fn_all_lots := ⟨rfl⟩
instance : Has PL F_are_rings fn_are_rings := ⟨rfl⟩
instance : Has PL F_check_rings fn_check_rings := ⟨rfl⟩
instance : Has PL F_is_door fn_is_door := ⟨rfl⟩
instance : Has PL F_check_door fn_check_door := ⟨rfl⟩
instance : Has PL F_raw_opens fn_raw_opens := ⟨rfl⟩
instance : Has PL F_groups_of fn_groups_of := ⟨rfl⟩
instance : Has PL F_fewest_lost fn_fewest_lost := ⟨rfl⟩
instance : Has PL F_spare_keys fn_spare_keys := ⟨rfl⟩
instance : Has PL F_copied_key fn_copied_key := ⟨rfl⟩
instance : Has PL F_strangers fn_strangers := ⟨rfl⟩
instance : Has PL F__law_hand fn__law_hand := ⟨rfl⟩
instance : Has PL F__law_draw fn__law_draw := ⟨rfl⟩
instance : Has PL F__law_any fn__law_any := ⟨rfl⟩
instance : Has PL F__law_rings fn__law_rings := ⟨rfl⟩
instance : Has PL F__law_door fn__law_door := ⟨rfl⟩
instance : Has PL F__law_lots fn__law_lots := ⟨rfl⟩
instance : Has PL F__law_opens fn__law_opens := ⟨rfl⟩
instance : Has PL F__law_no_rings fn__law_no_rings := ⟨rfl⟩
instance : Has PL F__law_no_door fn__law_no_door := ⟨rfl⟩
instance : Has PL F__law_lost fn__law_lost := ⟨rfl⟩
theorem sc_is_integer : FnScope N_is_integer [Str.ofString "thing"] (defScope (topS 1)) := ⟨rfl, rfl, rfl, by decide +kernel, rfl, by decide +kernel, by decide +kernel⟩
theorem ok_is_integer : okSs TL 60 ⟨N_is_integer, defScope (topS 1), fun _ => true, false, true, false⟩ b_is_integer (defBody (topS 1)) = true := by decide +kernel
theorem sc_is_within : FnScope N_is_within [Str.ofString "thing", Str.ofString "low", Str.ofString "high"] (defScope (topS 2)) := ⟨rfl, rfl, rfl, by decide +kernel, rfl, by decide +kernel, by decide +kernel⟩
theorem ok_is_within : okSs TL 60 ⟨N_is_within, defScope (topS 2), fun _ => true, false, true, false⟩ b_is_within (defBody (topS 2)) = true := by decide +kernel
theorem sc_is_sized : FnScope N_is_sized [Str.ofString "thing", Str.ofString "low", Str.ofString "high"] (defScope (topS 3)) := ⟨rfl, rfl, rfl, by decide +kernel, rfl, by decide +kernel, by decide +kernel⟩
theorem ok_is_sized : okSs TL 60 ⟨N_is_sized, defScope (topS 3), fun _ => true, false, true, false⟩ b_is_sized (defBody (topS 3)) = true := by decide +kernel
theorem sc_is_lot : FnScope N_is_lot [Str.ofString "thing", Str.ofString "many"] (defScope (topS 4)) := ⟨rfl, rfl, rfl, by decide +kernel, rfl, by decide +kernel, by decide +kernel⟩
theorem ok_is_lot : okSs TL 60 ⟨N_is_lot, defScope (topS 4), fun _ => true, false, true, false⟩ b_is_lot (defBody (topS 4)) = true := by decide +kernel
theorem sc_all_lots : FnScope N_all_lots [Str.ofString "some"] (defScope (topS 5)) := ⟨rfl, rfl, rfl, by decide +kernel, rfl, by decide +kernel, by decide +kernel⟩
theorem ok_all_lots : okSs TL 60 ⟨N_all_lots, defScope (topS 5), fun _ => true, false, true, false⟩ b_all_lots (defBody (topS 5)) = true := by decide +kernel
theorem sc_are_rings : FnScope N_are_rings [Str.ofString "thing"] (defScope (topS 21)) := ⟨rfl, rfl, rfl, by decide +kernel, rfl, by decide +kernel, by decide +kernel⟩
theorem ok_are_rings : okSs TL 60 ⟨N_are_rings, defScope (topS 21), fun _ => true, false, true, false⟩ b_are_rings (defBody (topS 21)) = true := by decide +kernel
theorem sc_check_rings : FnScope N_check_rings [Str.ofString "thing"] (defScope (topS 22)) := ⟨rfl, rfl, rfl, by decide +kernel, rfl, by decide +kernel, by decide +kernel⟩
theorem ok_check_rings : okSs TL 60 ⟨N_check_rings, defScope (topS 22), fun _ => true, false, true, false⟩ b_check_rings (defBody (topS 22)) = true := by decide +kernel
theorem sc_is_door : FnScope N_is_door [Str.ofString "thing"] (defScope (topS 23)) := ⟨rfl, rfl, rfl, by decide +kernel, rfl, by decide +kernel, by decide +kernel⟩
theorem ok_is_door : okSs TL 60 ⟨N_is_door, defScope (topS 23), fun _ => true, false, true, false⟩ b_is_door (defBody (topS 23)) = true := by decide +kernel
theorem sc_check_door : FnScope N_check_door [Str.ofString "rings", Str.ofString "door"] (defScope (topS 24)) := ⟨rfl, rfl, rfl, by decide +kernel, rfl, by decide +kernel, by decide +kernel⟩
theorem ok_check_door : okSs TL 60 ⟨N_check_door, defScope (topS 24), fun _ => true, false, true, false⟩ b_check_door (defBody (topS 24)) = true := by decide +kernel
theorem sc_raw_opens : FnScope N_raw_opens [Str.ofString "rings", Str.ofString "group", Str.ofString "door"] (defScope (topS 25)) := ⟨rfl, rfl, rfl, by decide +kernel, rfl, by decide +kernel, by decide +kernel⟩
theorem ok_raw_opens : okSs TL 60 ⟨N_raw_opens, defScope (topS 25), fun _ => true, false, true, false⟩ b_raw_opens (defBody (topS 25)) = true := by decide +kernel
theorem sc_groups_of : FnScope N_groups_of [Str.ofString "rings"] (defScope (topS 26)) := ⟨rfl, rfl, rfl, by decide +kernel, rfl, by decide +kernel, by decide +kernel⟩
theorem ok_groups_of : okSs TL 60 ⟨N_groups_of, defScope (topS 26), fun _ => true, false, true, false⟩ b_groups_of (defBody (topS 26)) = true := by decide +kernel
theorem sc_fewest_lost : FnScope N_fewest_lost [Str.ofString "rings", Str.ofString "door"] (defScope (topS 27)) := ⟨rfl, rfl, rfl, by decide +kernel, rfl, by decide +kernel, by decide +kernel⟩
theorem ok_fewest_lost : okSs TL 60 ⟨N_fewest_lost, defScope (topS 27), fun _ => true, false, true, false⟩ b_fewest_lost (defBody (topS 27)) = true := by decide +kernel
theorem sc_spare_keys : FnScope N_spare_keys [Str.ofString "rings", Str.ofString "door"] (defScope (topS 28)) := ⟨rfl, rfl, rfl, by decide +kernel, rfl, by decide +kernel, by decide +kernel⟩
theorem ok_spare_keys : okSs TL 60 ⟨N_spare_keys, defScope (topS 28), fun _ => true, false, true, false⟩ b_spare_keys (defBody (topS 28)) = true := by decide +kernel
theorem sc_copied_key : FnScope N_copied_key [Str.ofString "rings", Str.ofString "key"] (defScope (topS 29)) := ⟨rfl, rfl, rfl, by decide +kernel, rfl, by decide +kernel, by decide +kernel⟩
theorem ok_copied_key : okSs TL 60 ⟨N_copied_key, defScope (topS 29), fun _ => true, false, true, false⟩ b_copied_key (defBody (topS 29)) = true := by decide +kernel
theorem sc_strangers : FnScope N_strangers [Str.ofString "rings", Str.ofString "doors"] (defScope (topS 30)) := ⟨rfl, rfl, rfl, by decide +kernel, rfl, by decide +kernel, by decide +kernel⟩
theorem ok_strangers : okSs TL 60 ⟨N_strangers, defScope (topS 30), fun _ => true, false, true, false⟩ b_strangers (defBody (topS 30)) = true := by decide +kernel
theorem sc__law_hand : FnScope N__law_hand [Str.ofString "script"] (defScope (topS 32)) := ⟨rfl, rfl, rfl, by decide +kernel, rfl, by decide +kernel, by decide +kernel⟩
theorem ok__law_hand : okSs TL 60 ⟨N__law_hand, defScope (topS 32), fun _ => true, false, true, false⟩ b__law_hand (defBody (topS 32)) = true := by decide +kernel
theorem sc__law_draw : FnScope N__law_draw [Str.ofString "hand", Str.ofString "many"] (defScope (topS 33)) := ⟨rfl, rfl, rfl, by decide +kernel, rfl, by decide +kernel, by decide +kernel⟩
theorem ok__law_draw : okSs TL 60 ⟨N__law_draw, defScope (topS 33), fun _ => true, false, true, false⟩ b__law_draw (defBody (topS 33)) = true := by decide +kernel
theorem sc__law_any : FnScope N__law_any [Str.ofString "hand", Str.ofString "some"] (defScope (topS 34)) := ⟨rfl, rfl, rfl, by decide +kernel, rfl, by decide +kernel, by decide +kernel⟩
theorem ok__law_any : okSs TL 60 ⟨N__law_any, defScope (topS 34), fun _ => true, false, true, false⟩ b__law_any (defBody (topS 34)) = true := by decide +kernel
theorem sc__law_rings : FnScope N__law_rings [Str.ofString "hand", Str.ofString "most"] (defScope (topS 35)) := ⟨rfl, rfl, rfl, by decide +kernel, rfl, by decide +kernel, by decide +kernel⟩
theorem ok__law_rings : okSs TL 60 ⟨N__law_rings, defScope (topS 35), fun _ => true, false, true, false⟩ b__law_rings (defBody (topS 35)) = true := by decide +kernel
theorem sc__law_door : FnScope N__law_door [Str.ofString "hand"] (defScope (topS 36)) := ⟨rfl, rfl, rfl, by decide +kernel, rfl, by decide +kernel, by decide +kernel⟩
theorem ok__law_door : okSs TL 60 ⟨N__law_door, defScope (topS 36), fun _ => true, false, true, false⟩ b__law_door (defBody (topS 36)) = true := by decide +kernel
theorem sc__law_lots : FnScope N__law_lots [Str.ofString "n"] (defScope (topS 37)) := ⟨rfl, rfl, rfl, by decide +kernel, rfl, by decide +kernel, by decide +kernel⟩
theorem ok__law_lots : okSs TL 60 ⟨N__law_lots, defScope (topS 37), fun _ => true, false, true, false⟩ b__law_lots (defBody (topS 37)) = true := by decide +kernel
theorem sc__law_opens : FnScope N__law_opens [Str.ofString "rings", Str.ofString "group", Str.ofString "door"] (defScope (topS 38)) := ⟨rfl, rfl, rfl, by decide +kernel, rfl, by decide +kernel, by decide +kernel⟩
theorem ok__law_opens : okSs TL 60 ⟨N__law_opens, defScope (topS 38), fun _ => true, false, true, false⟩ b__law_opens (defBody (topS 38)) = true := by decide +kernel
theorem sc__law_no_rings : FnScope N__law_no_rings [Str.ofString "hand"] (defScope (topS 39)) := ⟨rfl, rfl, rfl, by decide +kernel, rfl, by decide +kernel, by decide +kernel⟩
theorem ok__law_no_rings : okSs TL 60 ⟨N__law_no_rings, defScope (topS 39), fun _ => true, false, true, false⟩ b__law_no_rings (defBody (topS 39)) = true := by decide +kernel
theorem sc__law_no_door : FnScope N__law_no_door [Str.ofString "hand"] (defScope (topS 40)) := ⟨rfl, rfl, rfl, by decide +kernel, rfl, by decide +kernel, by decide +kernel⟩
theorem ok__law_no_door : okSs TL 60 ⟨N__law_no_door, defScope (topS 40), fun _ => true, false, true, false⟩ b__law_no_door (defBody (topS 40)) = true := by decide +kernel
theorem sc__law_lost : FnScope N__law_lost [Str.ofString "rings", Str.ofString "door"] (defScope (topS 42)) := ⟨rfl, rfl, rfl, by decide +kernel, rfl, by decide +kernel, by decide +kernel⟩
theorem ok__law_lost : okSs TL 60 ⟨N__law_lost, defScope (topS 42), fun _ => true, false, true, false⟩ b__law_lost (defBody (topS 42)) = true := by decide +kernel
theorem sc__law_word : FnScope N__law_word [Str.ofString "call"] (defScope (topS 41)) := ⟨rfl, rfl, rfl, by decide +kernel, rfl, by decide +kernel, by decide +kernel⟩
theorem ok__law_word : okWord TW 60 N__law_word (defScope (topS 41)) (Str.ofString "call") w__law_word (defBody (topS 41)) = true := by decide +kernel
theorem sc_law : FnScope N_law [Str.ofString "script"] (defScope (topS 43)) := ⟨rfl, rfl, rfl, by decide +kernel, rfl, by decide +kernel, by decide +kernel⟩
def lawS : Stmt := (defBody (topS 43)).headD (.Pass ⟨0, 0, 0, 0⟩)
def lawR : List Stmt := (defBody (topS 43)).tail
theorem ok_law1 : okS TL 60 ⟨N_law, defScope (topS 43), fun _ => true, true, true, false⟩ (.asg (.name 1) (.call 19 [.var 0])) lawS = true := by decide +kernel
theorem ok_law2 : okSs TL 60 ⟨N_law, defScope (topS 43), fun _ => true, true, true, false⟩ b_law lawR = true := by decide +kernel
end Ev.K89
set_option Elab.async false
set_option linter.all false
set_option maxRecDepth 100000
set_option maxHeartbeats 1000000
/-! Typed values: what the evaluator does with them. -/
namespace Ev
open PySem PySem.W

/-! ### comprehensions -/
def lcLm {α : Type} (f : α → M (Option D)) : List α → M (List D)
  | [] => ret []
  | x :: xs => bnd (f x) fun o => bnd (lcLm f xs) fun r => ret (match o with
    | some y => y :: r
    | none => r)
theorem lcL_lcLm {α : Type} (f : D → M (Option D)) (e : α → D) : ∀ xs : List α, lcL f (xs.map e) = lcLm (fun x => f (e x)) xs
  | [] => rfl
  | x :: xs => by
    show bnd (f (e x)) _ = bnd (f (e x)) _
    rw [lcL_lcLm f e xs] <;> rfl
theorem lcLm_congr {α : Type} {f g : α → M (Option D)} : ∀ {xs : List α}, (∀ x ∈ xs, f x = g x) → lcLm f xs = lcLm g xs
  | [], _ => rfl
  | x :: xs, h => by
    show bnd (f x) _ = bnd (g x) _
    rw [h x List.mem_cons_self, lcLm_congr fun y hy => h y (List.mem_cons_of_mem _ hy)]
theorem lcLm_map {α : Type} (g : α → D) : ∀ xs : List α, lcLm (fun x => ret (some (g x))) xs = ret (xs.map g)
  | [] => rfl
  | x :: xs => by
    show bnd (ret (some (g x))) _ = _
    rw [bnd_ret, lcLm_map g xs, bnd_ret]
    rfl
theorem lcLm_if {α : Type} (p : α → Bool) (g : α → D) : ∀ xs : List α, lcLm (fun x => iteM (p x) (ret (some (g x))) (ret none)) xs = ret ((xs.filter p).map g)
  | [] => rfl
  | x :: xs => by
    show bnd (iteM (p x) (ret (some (g x))) (ret none)) _ = _
    cases h : p x with
    | true => rw [iteM_true, bnd_ret, lcLm_if p g xs, bnd_ret, List.filter_cons_of_pos h]; rfl
    | false => rw [iteM_false, bnd_ret, lcLm_if p g xs, bnd_ret, List.filter_cons_of_neg (by rw [h]; simp)]
/-- a comprehension that takes all, one that asks; the element's run may ask for membership -/
theorem lc_all {α : Type} {f : D → M (Option D)} {e : α → D} {xs : List α} (g : α → D) (h : ∀ x ∈ xs, f (e x) = ret (some (g x))) : lcL f (xs.map e) = ret (xs.map g) := by
  rw [lcL_lcLm, lcLm_congr h, lcLm_map]
theorem lc_if {α : Type} {f : D → M (Option D)} {e : α → D} {xs : List α} (p : α → Bool) (g : α → D) (h : ∀ x ∈ xs, f (e x) = iteM (p x) (ret (some (g x))) (ret none)) : lcL f (xs.map e) = ret ((xs.filter p).map g) := by
  rw [lcL_lcLm, lcLm_congr h, lcLm_if]

/-! ### ranges -/
def rangeI (lo hi : Int) : List Int := (List.range (hi - lo).toNat).map fun (i : Nat) => lo + i
theorem rangeD_I (lo hi : Int) : rangeD lo hi = (rangeI lo hi).map .int := by
  unfold rangeD rangeI
  rw [List.map_map]
  rfl
theorem mem_rangeI {lo hi x : Int} : x ∈ rangeI lo hi ↔ lo ≤ x ∧ x < hi := by
  unfold rangeI
  rw [List.mem_map]
  constructor
  · rintro ⟨i, hi, rfl⟩
    have := List.mem_range.mp hi
    omega
  · rintro ⟨h1, h2⟩
    exact ⟨(x - lo).toNat, List.mem_range.mpr (by omega), by omega⟩
theorem length_rangeI (lo hi : Int) : (rangeI lo hi).length = (hi - lo).toNat := by simp [rangeI]
theorem rangeV_I {lo hi : Int} (h1 : -1000000 ≤ lo) (h2 : lo ≤ 1000000) (h3 : -1000000 ≤ hi) (h4 : hi ≤ 1000000) : rangeV lo hi 1 = ret ((rangeI lo hi).map .int) := by
  unfold rangeV
  rw [if_pos, if_pos rfl, rangeD_I]
  simp only [isNat63, Bool.and_eq_true, decide_eq_true_eq]
  omega
theorem rangeI_app {a b c : Int} (h1 : a ≤ b) (h2 : b ≤ c) : rangeI a c = rangeI a b ++ rangeI b c := by
  unfold rangeI
  have e : (c - a).toNat = (b - a).toNat + (c - b).toNat := by omega
  rw [e, List.range_add, List.map_append, List.map_map]
  congr 1
  refine List.map_congr_left fun i _ => ?_
  show a + ((((b - a).toNat + i : Nat)) : Int) = b + i
  omega
theorem rangeI_succ {a b : Int} (h : a ≤ b) : rangeI a (b + 1) = rangeI a b ++ [b] := by
  rw [rangeI_app h (by omega)]
  have : rangeI b (b + 1) = [b] := by
    unfold rangeI
    have e : (b + 1 - b).toNat = 1 := by omega
    rw [e]
    simp
  rw [this]
theorem rangeI_nil {a b : Int} (h : b ≤ a) : rangeI a b = [] := by
  unfold rangeI
  have e : (b - a).toNat = 0 := by omega
  rw [e]
  rfl
theorem rangeI_cons {a b : Int} (h : a < b) : rangeI a b = a :: rangeI (a + 1) b := by
  rw [rangeI_app (b := a + 1) (by omega) (by omega), rangeI_succ (Int.le_refl a), rangeI_nil (Int.le_refl a)]
  rfl

/-! ### ints in sequences -/
theorem any_ints (xs : List Int) (k : Int) : ((xs.map PyData.int).any fun y => PyData.eqv y (.int k)) = decide (k ∈ xs) := by
  rw [List.any_map, Bool.eq_iff_iff, List.any_eq_true, decide_eq_true_eq]
  constructor
  · rintro ⟨x, hx, h⟩
    have h2 : PyData.eqv (.int x) (.int k) = true := h
    rw [eqv_int, decide_eq_true_eq] at h2
    rw [← h2]; exact hx
  · intro h
    refine ⟨k, h, ?_⟩
    show PyData.eqv (.int k) (.int k) = true
    rw [eqv_int, decide_eq_true_eq]
theorem plain_ints : ∀ xs : List Int, PyData.plainAll (xs.map .int) = true
  | [] => by simp [PyData.plainAll]
  | x :: xs => by
    show PyData.plainAll (.int x :: xs.map .int) = true
    rw [PyData.plainAll, plain_ints xs]
    simp [PyData.plain]
theorem depth_ints0 : ∀ xs : List Int, PyData.depthAll (xs.map .int) = 0
  | [] => by simp [PyData.depthAll]
  | x :: xs => by
    show PyData.depthAll (.int x :: xs.map .int) = 0
    rw [PyData.depthAll, depth_ints0 xs]
    simp [PyData.depth]
theorem inOk_ints (xs : List Int) (k : Int) : inOk (xs.map .int) (.int k) = true := by
  simp [inOk, plain_ints, PyData.plain, allDeep, depth_ints0]
theorem isin_tup (xs : List Int) (k : Int) : cmpV .isin (.int k) (.tuple (xs.map .int)) = ret (.bool (decide (k ∈ xs))) := by
  show chk (inOk (xs.map .int) (.int k)) _ = _
  rw [inOk_ints, chk_true, any_ints]
theorem isin_lst (xs : List Int) (k : Int) : cmpV .isin (.int k) (.list (xs.map .int)) = ret (.bool (decide (k ∈ xs))) := by
  show chk (inOk (xs.map .int) (.int k)) _ = _
  rw [inOk_ints, chk_true, any_ints]
theorem notin_tup (xs : List Int) (k : Int) : cmpV .notin (.int k) (.tuple (xs.map .int)) = ret (.bool (!decide (k ∈ xs))) := by
  show chk (inOk (xs.map .int) (.int k)) _ = _
  rw [inOk_ints, chk_true, any_ints]
theorem notin_lst (xs : List Int) (k : Int) : cmpV .notin (.int k) (.list (xs.map .int)) = ret (.bool (!decide (k ∈ xs))) := by
  show chk (inOk (xs.map .int) (.int k)) _ = _
  rw [inOk_ints, chk_true, any_ints]
/-! ### lengths, places -/
theorem len_map {α : Type} (f : α → D) (xs : List α) : b1V .len (.tuple (xs.map f)) = ret (.int xs.length) := by
  show ret _ = _
  rw [List.length_map]
theorem len_mapL {α : Type} (f : α → D) (xs : List α) : b1V .len (.list (xs.map f)) = ret (.int xs.length) := by
  show ret _ = _
  rw [List.length_map]
def at_ {α : Type} [Inhabited α] (xs : List α) (i : Int) : α := xs.getD i.toNat default
theorem atD_map {α : Type} [Inhabited α] (f : α → D) (xs : List α) {i : Int} (h0 : 0 ≤ i) (h1 : i < xs.length) : atD (xs.map f) i = ret (f (at_ xs i)) := by
  have hl : i.toNat < xs.length := by omega
  unfold atD ixOf at_
  rw [List.length_map, if_pos h0, if_pos h1]
  dsimp only
  rw [List.getElem?_map, List.getElem?_eq_getElem hl, List.getD_eq_getElem?_getD, List.getElem?_eq_getElem hl]
  rfl
theorem idx_tup {α : Type} [Inhabited α] (f : α → D) (xs : List α) {i : Int} (h0 : 0 ≤ i) (h1 : i < xs.length) : idxV (.tuple (xs.map f)) (.int i) = ret (f (at_ xs i)) := atD_map f xs h0 h1
theorem idx_lst {α : Type} [Inhabited α] (f : α → D) (xs : List α) {i : Int} (h0 : 0 ≤ i) (h1 : i < xs.length) : idxV (.list (xs.map f)) (.int i) = ret (f (at_ xs i)) := atD_map f xs h0 h1
theorem at_mem {α : Type} [Inhabited α] {xs : List α} {i : Int} (h0 : 0 ≤ i) (h1 : i < xs.length) : at_ xs i ∈ xs := by
  have hl : i.toNat < xs.length := by omega
  unfold at_
  rw [List.getD_eq_getElem?_getD, List.getElem?_eq_getElem hl]
  exact List.getElem_mem hl
/-! ### equal to itself -/
theorem eq_self {d : D} (h1 : d.plain = true) (h2 : deepOk d = true) : cmpV .eq d d = ret (.bool true) := by
  show chk (eqOk d d) _ = _
  rw [chk_of _ (by simp [eqOk, h1, h2]), PySem.SeqAt.eqv_refl_plain d h1]
theorem ne_self {d : D} (h1 : d.plain = true) (h2 : deepOk d = true) : cmpV .ne d d = ret (.bool false) := by
  show chk (eqOk d d) _ = _
  rw [chk_of _ (by simp [eqOk, h1, h2]), PySem.SeqAt.eqv_refl_plain d h1]
  rfl
theorem ne_bool (a b : Bool) : cmpV .ne (.bool a) (.bool b) = ret (.bool (a != b)) := by
  show chk (eqOk (.bool a) (.bool b)) _ = _
  rw [chk_of _ (by simp [eqOk, PyData.plain, deepOk, PyData.depth])]
  cases a <;> cases b <;> rfl
theorem eq_bool (a b : Bool) : cmpV .eq (.bool a) (.bool b) = ret (.bool (a == b)) := by
  show chk (eqOk (.bool a) (.bool b)) _ = _
  rw [chk_of _ (by simp [eqOk, PyData.plain, deepOk, PyData.depth])]
  cases a <;> cases b <;> rfl
/-! ### sorting keeps order under a filter; typed -/
section
variable {α : Type} (e : α → D)
def insE (a : α) : List α → List α
  | [] => [a]
  | b :: l => if leD (e a) (e b) then a :: b :: l else b :: insE a l
def sortE : List α → List α
  | [] => []
  | a :: l => insE e a (sortE l)
theorem map_insE (a : α) : ∀ l : List α, (insE e a l).map e = insD (e a) (l.map e)
  | [] => rfl
  | b :: l => by
    show (if leD (e a) (e b) then a :: b :: l else b :: insE e a l).map e = if leD (e a) (e b) then e a :: e b :: l.map e else e b :: insD (e a) (l.map e)
    split
    · rfl
    · rw [List.map_cons, map_insE a l]
theorem map_sortE : ∀ l : List α, (sortE e l).map e = sortD (l.map e)
  | [] => rfl
  | a :: l => by
    show (insE e a (sortE e l)).map e = insD (e a) (sortD (l.map e))
    rw [map_insE, map_sortE l]
theorem mem_insE {a x : α} : ∀ {l : List α}, x ∈ insE e a l ↔ x = a ∨ x ∈ l
  | [] => by simp [insE]
  | b :: l => by
    show x ∈ (if leD (e a) (e b) then a :: b :: l else b :: insE e a l) ↔ _
    split
    · simp
    · rw [List.mem_cons, mem_insE, List.mem_cons]
      constructor
      · rintro (h | h | h) <;> simp [h]
      · rintro (h | h | h) <;> simp [h]
theorem mem_sortE {x : α} : ∀ {l : List α}, x ∈ sortE e l ↔ x ∈ l
  | [] => by simp [sortE]
  | a :: l => by
    show x ∈ insE e a (sortE e l) ↔ _
    rw [mem_insE, mem_sortE, List.mem_cons]
theorem length_insE (a : α) : ∀ l : List α, (insE e a l).length = l.length + 1
  | [] => rfl
  | b :: l => by
    show (if leD (e a) (e b) then a :: b :: l else b :: insE e a l).length = _
    split
    · rfl
    · rw [List.length_cons, length_insE a l, List.length_cons]
theorem length_sortE : ∀ l : List α, (sortE e l).length = l.length
  | [] => rfl
  | a :: l => by
    show (insE e a (sortE e l)).length = _
    rw [length_insE, length_sortE l, List.length_cons]
abbrev SortedE (l : List α) : Prop := l.Pairwise fun a b => leD (e a) (e b) = true
theorem sorted_insE (a : α) : ∀ {l : List α}, SortedE e l → SortedE e (insE e a l)
  | [], _ => List.pairwise_singleton _ _
  | b :: l, h => by
    obtain ⟨h1, h2⟩ := List.pairwise_cons.mp h
    show SortedE e (if leD (e a) (e b) then a :: b :: l else b :: insE e a l)
    split
    · rename_i c
      refine List.pairwise_cons.mpr ⟨fun x hx => ?_, h⟩
      rcases List.mem_cons.mp hx with rfl | hx
      · exact c
      · exact leD_trans _ _ _ c (h1 x hx)
    · rename_i c
      refine List.pairwise_cons.mpr ⟨fun x hx => ?_, sorted_insE a h2⟩
      rcases (mem_insE e).mp hx with rfl | hx
      · have := leD_total (e x) (e b)
        simp only [Bool.not_eq_true] at c
        rw [c] at this
        simpa using this
      · exact h1 x hx
theorem sorted_sortE : ∀ l : List α, SortedE e (sortE e l)
  | [] => List.Pairwise.nil
  | a :: l => sorted_insE e a (sorted_sortE l)
theorem filter_insE (p : α → Bool) (a : α) : ∀ {l : List α}, SortedE e l → (insE e a l).filter p = if p a then insE e a (l.filter p) else l.filter p
  | [], _ => by
    show [a].filter p = _
    by_cases h : p a = true
    · rw [if_pos h, List.filter_cons_of_pos h]; rfl
    · rw [if_neg h, List.filter_cons_of_neg h]
  | b :: l, hs => by
    obtain ⟨h1, h2⟩ := List.pairwise_cons.mp hs
    show (if leD (e a) (e b) then a :: b :: l else b :: insE e a l).filter p = _
    have ih := filter_insE p a h2
    by_cases c : leD (e a) (e b) = true
    · rw [if_pos c]
      by_cases h : p a = true
      · rw [if_pos h, List.filter_cons_of_pos h]
        -- a comes first
        have hf : ∀ x ∈ (b :: l).filter p, leD (e a) (e x) = true := fun x hx => by
          rcases List.mem_cons.mp (List.mem_filter.mp hx).1 with rfl | hx
          · exact c
          · exact leD_trans _ _ _ c (h1 x hx)
        cases q : (b :: l).filter p with
        | nil => rfl
        | cons y ys =>
          show _ = if leD (e a) (e y) then a :: y :: ys else y :: insE e a ys
          rw [if_pos (hf y (by rw [q]; exact List.mem_cons_self))]
      · rw [if_neg h, List.filter_cons_of_neg h]
    · rw [if_neg c]
      by_cases hb : p b = true
      · rw [List.filter_cons_of_pos hb, ih, List.filter_cons_of_pos hb]
        by_cases h : p a = true
        · rw [if_pos h, if_pos h]
          show _ = if leD (e a) (e b) then _ else _
          rw [if_neg c]
        · rw [if_neg h, if_neg h]
      · rw [List.filter_cons_of_neg hb, ih, List.filter_cons_of_neg hb]
theorem filter_sortE (p : α → Bool) : ∀ l : List α, (sortE e l).filter p = sortE e (l.filter p)
  | [] => rfl
  | a :: l => by
    show (insE e a (sortE e l)).filter p = _
    rw [filter_insE e p a (sorted_sortE e l), filter_sortE p l]
    by_cases h : p a = true
    · rw [if_pos h, List.filter_cons_of_pos h]; rfl
    · rw [if_neg h, List.filter_cons_of_neg h]
end
theorem sorted_of {α : Type} (e : α → D) {xs : List α} (h : sortOk (xs.map e) = true) : b1V .sorted (.list (xs.map e)) = ret (.list ((sortE e xs).map e)) := by
  show chk (sortOk (xs.map e)) _ = _
  rw [h, chk_true, map_sortE]
theorem sorted_ofT {α : Type} (e : α → D) {xs : List α} (h : sortOk (xs.map e) = true) : b1V .sorted (.tuple (xs.map e)) = ret (.list ((sortE e xs).map e)) := by
  show chk (sortOk (xs.map e)) _ = _
  rw [h, chk_true, map_sortE]
/-- lots of ints -/
def eL (xs : List Int) : D := .tuple (xs.map .int)
theorem alike_ints0 : ∀ xs ys : List Int, PySem.W.alikeAll (xs.map .int) (ys.map .int) = true := PySem.W.alike_ints
theorem depthAll_le {xs : List D} {n : Nat} (h : ∀ d ∈ xs, d.depth ≤ n) : PyData.depthAll xs ≤ n := by
  induction xs with
  | nil => simp [PyData.depthAll]
  | cons x xs ih =>
    rw [PyData.depthAll]
    have := h x List.mem_cons_self
    have := ih fun d hd => h d (List.mem_cons_of_mem _ hd)
    omega
theorem plainAll_of {xs : List D} (h : ∀ d ∈ xs, d.plain = true) : PyData.plainAll xs = true := by
  induction xs with
  | nil => simp [PyData.plainAll]
  | cons x xs ih =>
    rw [PyData.plainAll, h x List.mem_cons_self, ih fun d hd => h d (List.mem_cons_of_mem _ hd)]
    rfl
theorem depth_eL (xs : List Int) : (eL xs).depth = 1 := by
  unfold eL
  rw [PyData.depth, depth_ints0]
theorem plain_eL (xs : List Int) : (eL xs).plain = true := by
  unfold eL
  rw [PyData.plain, plain_ints]
theorem sortOk_of {α : Type} (e : α → D) {xs : List α} (h1 : ∀ a b, alike (e a) (e b) = true) (h2 : ∀ a, isNonD (e a) = false) (h3 : ∀ a, (e a).depth ≤ 40) (h4 : (∀ a, isTup (e a) = true) ∨ ∀ a, isTup (e a) = false) (hl : xs.length ≤ 16777216) : sortOk (xs.map e) = true := by
  simp only [sortOk, someOk, allAlike, allDeep, Bool.and_eq_true, List.all_eq_true, Bool.or_eq_true, decide_eq_true_eq, List.mem_map, Bool.not_eq_true']
  refine ⟨⟨⟨⟨?_, ?_⟩, ?_⟩, by rw [List.length_map]; exact hl⟩, ?_⟩
  · rintro _ ⟨a, _, rfl⟩ _ ⟨b, _, rfl⟩
    exact h1 a b
  · rintro _ ⟨a, _, rfl⟩
    exact h2 a
  · exact depthAll_le fun d hd => by
      obtain ⟨a, _, rfl⟩ := List.mem_map.mp hd
      exact h3 a
  · rcases h4 with h4 | h4
    · left
      rintro _ ⟨a, _, rfl⟩
      exact h4 a
    · right
      rintro _ ⟨a, _, rfl⟩
      exact h4 a
theorem sortOk_eL {xs : List (List Int)} (hl : xs.length ≤ 16777216) : sortOk (xs.map eL) = true :=
  sortOk_of eL (fun a b => by unfold eL; rw [alike, alike_ints0]) (fun a => rfl) (fun a => by rw [depth_eL]; omega) (.inl fun a => rfl) hl
theorem sortOk_int {xs : List Int} (hl : xs.length ≤ 16777216) : sortOk (xs.map .int) = true :=
  sortOk_of .int (fun a b => by simp [alike]) (fun a => rfl) (fun a => by simp [PyData.depth]) (.inr fun a => rfl) hl
theorem eqv_eL (xs ys : List Int) : PyData.eqv (eL xs) (eL ys) = decide (xs = ys) := by
  unfold eL
  rw [PyData.eqv]
  exact PySem.W.eqvAll_map (α := Int) xs ys
theorem any_eL (xs : List (List Int)) (k : List Int) : ((xs.map eL).any fun y => PyData.eqv y (eL k)) = decide (k ∈ xs) := by
  rw [List.any_map, Bool.eq_iff_iff, List.any_eq_true, decide_eq_true_eq]
  constructor
  · rintro ⟨x, hx, h⟩
    have h2 : PyData.eqv (eL x) (eL k) = true := h
    rw [eqv_eL, decide_eq_true_eq] at h2
    rw [← h2]; exact hx
  · intro h
    refine ⟨k, h, ?_⟩
    show PyData.eqv (eL k) (eL k) = true
    rw [eqv_eL, decide_eq_true_eq]
theorem plain_eLs (xs : List (List Int)) : PyData.plainAll (xs.map eL) = true := plainAll_of fun d hd => by
  obtain ⟨a, _, rfl⟩ := List.mem_map.mp hd
  exact plain_eL a
theorem depth_eLs (xs : List (List Int)) : PyData.depthAll (xs.map eL) ≤ 1 := depthAll_le fun d hd => by
  obtain ⟨a, _, rfl⟩ := List.mem_map.mp hd
  rw [depth_eL]; exact Nat.le_refl _
theorem inOk_eL (xs : List (List Int)) (k : List Int) : inOk (xs.map eL) (eL k) = true := by
  simp [inOk, plain_eLs, plain_eL, deepOk, depth_eL]
theorem isin_eLL (xs : List (List Int)) (k : List Int) : cmpV .isin (eL k) (.list (xs.map eL)) = ret (.bool (decide (k ∈ xs))) := by
  show chk (inOk (xs.map eL) (eL k)) _ = _
  rw [inOk_eL, chk_true, any_eL]
theorem isin_eLT (xs : List (List Int)) (k : List Int) : cmpV .isin (eL k) (.tuple (xs.map eL)) = ret (.bool (decide (k ∈ xs))) := by
  show chk (inOk (xs.map eL) (eL k)) _ = _
  rw [inOk_eL, chk_true, any_eL]
theorem notin_eLL (xs : List (List Int)) (k : List Int) : cmpV .notin (eL k) (.list (xs.map eL)) = ret (.bool (!decide (k ∈ xs))) := by
  show chk (inOk (xs.map eL) (eL k)) _ = _
  rw [inOk_eL, chk_true, any_eL]
theorem len_eL (xs : List Int) : b1V .len (eL xs) = ret (.int xs.length) := len_map _ xs
theorem isin_eL (xs : List Int) (k : Int) : cmpV .isin (.int k) (eL xs) = ret (.bool (decide (k ∈ xs))) := isin_tup xs k
theorem notin_eL (xs : List Int) (k : Int) : cmpV .notin (.int k) (eL xs) = ret (.bool (!decide (k ∈ xs))) := notin_tup xs k
theorem eq_eL (xs ys : List Int) : cmpV .eq (eL xs) (eL ys) = ret (.bool (decide (xs = ys))) := by
  show chk (eqOk (eL xs) (eL ys)) _ = _
  rw [chk_of _ (by simp [eqOk, plain_eL, deepOk, depth_eL]), eqv_eL]
theorem ne_eL (xs ys : List Int) : cmpV .ne (eL xs) (eL ys) = ret (.bool (!decide (xs = ys))) := by
  show chk (eqOk (eL xs) (eL ys)) _ = _
  rw [chk_of _ (by simp [eqOk, plain_eL, deepOk, depth_eL]), eqv_eL]
theorem wk_eL (xs : List Int) : walkD (eL xs) = ret (xs.map .int) := rfl
theorem wk_tup (xs : List D) : walkD (.tuple xs) = ret xs := rfl
theorem wk_lst (xs : List D) : walkD (.list xs) = ret xs := rfl
end Ev
set_option Elab.async false
set_option linter.all false
set_option maxRecDepth 100000
set_option maxHeartbeats 1000000
/-! The evaluator's rows, one by one. -/
namespace Ev
open PySem PySem.W
section
variable (K : Cal) (env : Env)
@[simp] theorem q_var (i : Nat) : evE K env (.var i) = slotV env i := by simp only [evE]
@[simp] theorem q_cst (d : D) : evE K env (.cst d) = ret d := by simp only [evE]
@[simp] theorem q_glob (x : Str) (d : D) : evE K env (.glob x d) = ret d := by simp only [evE]
@[simp] theorem q_bop (op : Bop) (a b : IE) : evE K env (.bop op a b) = bnd (bor a (evE K env a) env) fun x => bnd (bor b (evE K env b) env) fun y => bopV op x y := by simp only [evE]
@[simp] theorem q_neg (a : IE) : evE K env (.neg a) = bnd (evE K env a) negV := by simp only [evE]
@[simp] theorem q_not (a : IE) : evE K env (.not a) = bnd (tst a (evE K env a) env) fun b => ret (.bool (!b)) := by simp only [evE]
@[simp] theorem q_and (a b : IE) : evE K env (.and a b) = bnd (evE K env a) fun v => andV v (evE K env b) := by simp only [evE]
@[simp] theorem q_or (a b : IE) : evE K env (.or a b) = bnd (evE K env a) fun v => orV v (evE K env b) := by simp only [evE]
@[simp] theorem q_cmp (op : Cop) (a b : IE) : evE K env (.cmp op a b) = bnd (bor a (evE K env a) env) fun x => bnd (bor b (evE K env b) env) fun y => cmpV op x y := by simp only [evE]
@[simp] theorem q_cmp2 (op op' : Cop) (a b c : IE) : evE K env (.cmp2 op op' a b c) = bnd (evE K env a) fun x => bnd (evE K env b) fun y => bnd (cmpV op x y) fun r => andV r (bnd (evE K env c) fun z => cmpV op' y z) := by simp only [evE]
@[simp] theorem q_ite (c a b : IE) : evE K env (.ite c a b) = bnd (tst c (evE K env c) env) fun t => iteM t (evE K env a) (evE K env b) := by simp only [evE]
@[simp] theorem q_tup (es : List IE) : evE K env (.tup es) = bnd (evEs K env es) fun ds => ret (.tuple ds) := by simp only [evE]
@[simp] theorem q_lst (es : List IE) : evE K env (.lst es) = bnd (evEs K env es) fun ds => ret (.list ds) := by simp only [evE]
@[simp] theorem q_idx (a i : IE) : evE K env (.idx a i) = bnd (bor a (evE K env a) env) fun x => bnd (evE K env i) fun y => idxV x y := by simp only [evE]
@[simp] theorem q_slice (a lo hi : IE) : evE K env (.slice a lo hi) = bnd (bor a (evE K env a) env) fun x => bnd (optOf lo (evE K env lo)) fun l => bnd (optOf hi (evE K env hi)) fun r => sliceV x l r := by simp only [evE]
@[simp] theorem q_rev (a : IE) : evE K env (.rev a) = bnd (bor a (evE K env a) env) revV := by simp only [evE]
@[simp] theorem q_dz : evE K env .dz = ret (.dict []) := by simp only [evE]
@[simp] theorem q_dl (k : D) (e : IE) : evE K env (.dl k e) = bnd (evE K env e) fun d => ret (.dict [(k, d)]) := by simp only [evE]
@[simp] theorem q_dd (es : List IE) : evE K env (.dd es) = bnd (evEs K env es) ddV := by simp only [evE]
@[simp] theorem q_dget (a k x : IE) : evE K env (.dget a k x) = bnd (bor a (evE K env a) env) fun d => bnd (isDc d) fun _ => bnd (evE K env k) fun kd => bnd (evE K env x) fun xd => getV d kd xd := by simp only [evE]
@[simp] theorem q_dc (k v : IE) (tg : Tg) (it : IE) (ifs : List IE) (own : List Nat) : evE K env (.dc k v tg it ifs own) = bnd (itr it (evE K env it) env) fun xs =>
      bnd (calm (dcL (fun d => bnd (assignT tg d (wipes env own)) fun env1 => bnd (evIf K env1 ifs) fun b => iteM b (bnd (evE K env1 k) fun kd => bnd (evE K env1 v) fun vd => ret (some (kd, vd))) (ret none)) xs [])) fun kvs => ret (.dict kvs) := by simp only [evE]
@[simp] theorem q_call (f : Nat) (es : List IE) : evE K env (.call f es) = bnd (evAs K env es) fun as => K.C f as := by simp only [evE]
theorem q_lam (f : Nat) (e : IE) : evE K env (.lam f e) = iteM K.deep (lamR K f (evE K.low env e)) fail := by simp only [evE]
@[simp] theorem q_b1 (b : B1) (a : IE) : evE K env (.b1 b a) = bnd (bor a (evE K env a) env) fun x => b1V b x := by simp only [evE]
@[simp] theorem q_b2 (b : B2) (x y : IE) : evE K env (.b2 b x y) = bnd (evE K env x) fun x => bnd (evE K env y) fun y => b2V b x y := by simp only [evE]
@[simp] theorem q_isi (a : IE) (ts : List Ty) : evE K env (.isi a ts) = bnd (bor a (evE K env a) env) fun x => ret (.bool (ts.any fun t => tyV t x)) := by simp only [evE]
@[simp] theorem q_lc (elt : IE) (tg : Tg) (it : IE) (ifs : List IE) (own : List Nat) : evE K env (.lc elt tg it ifs own) = bnd (itr it (evE K env it) env) fun xs =>
      bnd (calm (lcL (fun d => bnd (assignT tg d (wipes env own)) fun env1 => bnd (evIf K env1 ifs) fun b => iteM b (bnd (evE K env1 elt) fun y => ret (some y)) (ret none)) xs)) fun ys => ret (.list ys) := by simp only [evE]
@[simp] theorem q_m1 (m : M1) (o a : IE) : evE K env (.m1 m o a) = bnd (bor o (evE K env o) env) fun x => bnd (isM m x) fun _ => bnd (evE K env a) fun y => m1V m x y := by simp only [evE]
@[simp] theorem q_range (a b c : IE) : evE K env (.range a b c) = bnd (evE K env a) fun x => bnd (asInt x) fun lo => bnd (evE K env b) fun y => bnd (asInt y) fun hi => bnd (evE K env c) fun z => bnd (asInt z) fun st => bnd (rangeV lo hi st) fun xs => ret (.list xs) := by simp only [evE]
@[simp] theorem q_zip (a b : IE) : evE K env (.zip a b) = bnd (bor a (evE K env a) env) fun xs => bnd (bor b (evE K env b) env) fun ys => bnd (zipV xs ys) fun zs => ret (.list zs) := by simp only [evE]
@[simp] theorem q_enum (a : IE) : evE K env (.enum a) = bnd (bor a (evE K env a) env) fun xs => bnd (enumV xs) fun zs => ret (.list zs) := by simp only [evE]
@[simp] theorem q_es0 : evEs K env [] = ret [] := by simp only [evEs]
@[simp] theorem q_es (e : IE) (es : List IE) : evEs K env (e :: es) = bnd (evE K env e) fun d => bnd (evEs K env es) fun ds => ret (d :: ds) := by simp only [evEs]
@[simp] theorem q_as0 : evAs K env [] = ret [] := by simp only [evAs]
@[simp] theorem q_as (e : IE) (es : List IE) : evAs K env (e :: es) = bnd (argOf e (evE K env e) env) fun d => bnd (evAs K env es) fun ds => ret (d :: ds) := by simp only [evAs]
@[simp] theorem q_if0 : evIf K env [] = ret true := by simp only [evIf]
@[simp] theorem q_if (e : IE) (es : List IE) : evIf K env (e :: es) = bnd (tst e (evE K env e) env) fun b => iteM b (evIf K env es) (ret false) := by simp only [evIf]
-- statements
@[simp] theorem q_asg (t : Tg) (e : IE) : evS K env (.asg t e) = bnd (evE K env e) fun d => nextM (assignT t d env) := by simp only [evS]
@[simp] theorem q_own (i : Nat) (e : IE) : evS K env (.own i e) = bnd (evE K env e) fun d => ret (Ev.Flow.next (put env i (.own d))) := by simp only [evS]
@[simp] theorem q_par (ts : List (Tg × Bool)) (es : List IE) : evS K env (.par ts es) = bnd (evEs K env es) fun ds => nextM (parT ts ds env) := by simp only [evS]
@[simp] theorem q_app (i : Nat) (e : IE) : evS K env (.app i e) = bnd (ownB env i) fun _ => bnd (evE K env e) fun d => nextM (appSlot env i d) := by simp only [evS]
@[simp] theorem q_ext (i : Nat) (e : IE) : evS K env (.ext i e) = bnd (ownB env i) fun _ => bnd (bor e (evE K env e) env) fun d => nextM (extSlot env i d) := by simp only [evS]
@[simp] theorem q_setI (i : Nat) (k e : IE) : evS K env (.setI i k e) = bnd (evE K env e) fun d => bnd (hasL env i) fun _ => bnd (evE K env k) fun kd => nextM (setSlot env i kd d) := by simp only [evS]
@[simp] theorem q_augN (i : Nat) (op : Bop) (e : IE) : evS K env (.augN i op e) = bnd (slotV env i) fun x => bnd (evE K env e) fun y => bnd (intOp op x y) fun z => ret (Ev.Flow.next (put env i (.val z))) := by simp only [evS]
@[simp] theorem q_upd (i : Nat) (e : IE) : evS K env (.upd i e) = bnd (ownD env i) fun _ => bnd (evE K env e) fun d => nextM (updSlot env i d) := by simp only [evS]
@[simp] theorem q_mov (j i : Nat) : evS K env (.mov j i) = nextM (movSlot env j i) := by simp only [evS]
@[simp] theorem q_frz (i : Nat) : evS K env (.frz i) = nextM (frzSlot env i) := by simp only [evS]
@[simp] theorem q_site (c : IE) (a b : List IS) : evS K env (.ite c a b) = bnd (tst c (evE K env c) env) fun t => iteM t (evSs K env a) (evSs K env b) := by simp only [evS]
theorem q_for (t : Tg) (it : IE) (car tmp : List Nat) (body : List IS) : evS K env (.for t it car tmp body) = bnd (itr it (evE K env it) env) fun xs =>
      bnd (forL (fun s d => bnd (assignT t d (wipes (puts env car s) tmp)) fun env1 => bnd (evSs K env1 body) (stepOf car)) xs (gets env car)) (endOf env car tmp) := by simp only [evS]
theorem q_whil (c : IE) (car tmp : List Nat) (body : List IS) : evS K env (.whil c car tmp body) =
      bnd (whileL (fun s => tst c (evE K (wipes (puts env car s) tmp) c) (wipes (puts env car s) tmp)) (fun s => bnd (evSs K (wipes (puts env car s) tmp) body) (stepOf car)) fuelW (gets env car)) (endOf env car tmp) := by simp only [evS]
@[simp] theorem q_ret (e : IE) : evS K env (.ret e) = bnd (bor e (evE K env e) env) fun d => ret (Ev.Flow.ret d) := by simp only [evS]
@[simp] theorem q_retN : evS K env .retN = ret (Ev.Flow.ret .none) := by simp only [evS]
@[simp] theorem q_raise (c : Nat) (es : List IE) : evS K env (.raise c es) = bnd (evEs K env es) fun ds => thr ⟨c, ds⟩ := by simp only [evS]
@[simp] theorem q_expr (e : IE) : evS K env (.expr e) = bnd (evE K env e) fun _ => ret (Ev.Flow.next env) := by simp only [evS]
@[simp] theorem q_pass : evS K env .pass = ret (Ev.Flow.next env) := by simp only [evS]
@[simp] theorem q_ss0 : evSs K env [] = ret (Ev.Flow.next env) := by simp only [evSs]
theorem q_ss (s : IS) (ss : List IS) : evSs K env (s :: ss) = bnd (evS K env s) fun
    | .next env' => evSs K env' ss
    | .ret d => ret (.ret d) := by first | (simp only [evSs]; done) | (simp only [evSs]; rfl) | rfl
def nxt (K : Cal) (ss : List IS) : Ev.Flow → M Ev.Flow
  | .next env' => evSs K env' ss
  | .ret d => ret (.ret d)
@[simp] theorem q_ssn (s : IS) (ss : List IS) : evSs K env (s :: ss) = bnd (evS K env s) (nxt K ss) := by
  rw [q_ss]
  have e : ∀ f g : Ev.Flow → M Ev.Flow, (∀ fl, f fl = g fl) → bnd (evS K env s) f = bnd (evS K env s) g := fun f g h => by rw [funext h]
  exact e _ _ fun fl => by cases fl <;> rfl
@[simp] theorem nxt_next (ss : List IS) : nxt K ss (.next env) = evSs K env ss := rfl
@[simp] theorem nxt_ret (ss : List IS) (d : D) : nxt K ss (.ret d) = ret (.ret d) := rfl
end
@[simp] theorem tst_eq (e : IE) (v : M D) (env : Env) : tst e v env = bnd (bor e v env) truthyV := rfl
@[simp] theorem itr_eq (e : IE) (v : M D) (env : Env) : itr e v env = bnd (bor e v env) walkD := rfl
@[simp] theorem nextM_eq (m : M Env) : nextM m = bnd m fun env => ret (Ev.Flow.next env) := rfl
@[simp] theorem out_next (env : Env) : outOf (.next env) = ret .none := rfl
@[simp] theorem out_ret (d : D) : outOf (.ret d) = ret d := rfl
@[simp] theorem q_asInt (i : Int) : asInt (.int i) = ret i := rfl
@[simp] theorem asg_name (i : Nat) (d : D) (env : Env) : assignT (.name i) d env = ret (put env i (.val d)) := by simp only [assignT]
@[simp] theorem asg_tup (ts : List Tg) (ds : List D) (env : Env) : assignT (.tup ts) (.tuple ds) env = assignTs ts ds env := by simp only [assignT]
@[simp] theorem asg_nil (env : Env) : assignTs [] [] env = ret env := by simp only [assignTs]
@[simp] theorem asg_cons (t : Tg) (ts : List Tg) (d : D) (ds : List D) (env : Env) : assignTs (t :: ts) (d :: ds) env = bnd (assignT t d env) (assignTs ts ds) := by simp only [assignTs]
@[simp] theorem nth0 (s : Slot) (e : Env) : nth (s :: e) 0 = s := rfl
@[simp] theorem nthS (s : Slot) (e : Env) (i : Nat) : nth (s :: e) (i + 1) = nth e i := rfl
@[simp] theorem put0 (s t : Slot) (e : Env) : put (s :: e) 0 t = t :: e := rfl
@[simp] theorem putS (s t : Slot) (e : Env) (i : Nat) : put (s :: e) (i + 1) t = s :: put e i t := rfl
@[simp] theorem wipes0 (e : Env) : wipes e [] = e := rfl
@[simp] theorem wipesS (e : Env) (i : Nat) (is : List Nat) : wipes e (i :: is) = wipes (put e i .no) is := rfl
@[simp] theorem bnd_iteM {α β : Type} (b : Bool) (x y : M α) (f : α → M β) : bnd (iteM b x y) f = iteM b (bnd x f) (bnd y f) := by cases b <;> rfl
@[simp] theorem calm_iteM {α : Type} (b : Bool) (x y : M α) : calm (iteM b x y) = iteM b (calm x) (calm y) := by cases b <;> rfl
@[simp] theorem bnd_unit {β : Type} (f : Unit → M β) : bnd (ret ()) f = f () := bnd_ret _ _
theorem runFn_eq (K : Cal) (fn : Fn) (as : List Slot) (h : as.length = fn.np) : runFn K fn as = bnd (evSs K (entry fn as) fn.body) outOf := by
  unfold runFn
  rw [if_pos h]
@[simp] theorem calOf_C (P : Prg) (n : Nat) : (calOf P n).C = callF P n := rfl
def sB : Slot → M D
  | .val d => ret d
  | .own (.list ds) => ret (.list ds)
  | _ => fail
/-- a dict that is written, looked at -/
def sLk : Slot → M D
  | .own (.dict kvs) => ret (.dict kvs)
  | _ => fail
def sLu : Slot → M Unit
  | .own (.dict _) => ret ()
  | _ => fail
def sV : Slot → M D
  | .val d => ret d
  | _ => fail
def sA : Slot → M Slot
  | .hand => ret .hand
  | .val d => ret (.val d)
  | .raw d => ret (.raw d)
  | _ => fail
def sO : Slot → M D
  | .own (.list ds) => ret (.list ds)
  | _ => fail
@[simp] theorem slotB_eq (env : Env) (i : Nat) : slotB env i = sB (nth env i) := by unfold slotB sB; rfl
@[simp] theorem slotV_eq (env : Env) (i : Nat) : slotV env i = sV (nth env i) := by unfold slotV sV; rfl
@[simp] theorem argOf_var (env : Env) (i : Nat) (v : M D) : argOf (.var i) v env = sA (nth env i) := by unfold argOf sA; rfl
@[simp] theorem ownB_eq (env : Env) (i : Nat) : ownB env i = sO (nth env i) := by unfold ownB sO; rfl
@[simp] theorem sB_val (d : D) : sB (.val d) = ret d := rfl
@[simp] theorem sB_own (ds : List D) : sB (.own (.list ds)) = ret (.list ds) := rfl
@[simp] theorem slotD_eq (env : Env) (i : Nat) : slotD env i = sLk (nth env i) := by unfold slotD sLk; rfl
@[simp] theorem sLk_own (kvs : List (D × D)) : sLk (.own (.dict kvs)) = ret (.dict kvs) := rfl
@[simp] theorem ownD_eq (env : Env) (i : Nat) : ownD env i = sLu (nth env i) := by unfold ownD sLu; rfl
@[simp] theorem sLu_own (kvs : List (D × D)) : sLu (.own (.dict kvs)) = ret () := rfl
@[simp] theorem isDc_dict (kvs : List (D × D)) : isDc (.dict kvs) = ret () := rfl
@[simp] theorem sV_val (d : D) : sV (.val d) = ret d := rfl
@[simp] theorem sA_val (d : D) : sA (.val d) = ret (.val d) := rfl
@[simp] theorem sA_hand : sA .hand = ret .hand := rfl
@[simp] theorem sO_own (ds : List D) : sO (.own (.list ds)) = ret (.list ds) := rfl
@[simp] theorem iteM_T {α : Type} (x y : M α) : iteM true x y = x := rfl
/-- a loop as a fold -/
theorem forS {α σ : Type} {K : Cal} {env : Env} {t : Tg} {it : IE} {car tmp : List Nat} {body : List IS} (e : α → D) (enc : σ → List Slot) (g : σ → α → σ) (xs : List α) (s0 : σ)
    (hit : bnd (bor it (evE K env it) env) walkD = ret (xs.map e)) (hs : gets env car = enc s0)
    (h : ∀ pre x post, xs = pre ++ x :: post → bnd (assignT t (e x) (wipes (puts env car (enc (pre.foldl g s0))) tmp)) (fun env1 => bnd (evSs K env1 body) (stepOf car)) = ret (.go (enc (g (pre.foldl g s0) x)))) :
    evS K env (.for t it car tmp body) = ret (Ev.Flow.next (wipes (puts env car (enc (xs.foldl g s0))) tmp)) := by
  rw [q_for]
  show bnd (bnd (bor it (evE K env it) env) walkD) _ = _
  rw [hit, bnd_ret, hs, forL_fold _ e enc g xs s0 h, bnd_ret]
  rfl
@[simp] theorem puts_nil (env : Env) : puts env [] [] = env := rfl
@[simp] theorem puts_cons (env : Env) (i : Nat) (is : List Nat) (s : Slot) (ss : List Slot) : puts env (i :: is) (s :: ss) = puts (put env i s) is ss := rfl
@[simp] theorem gets_nil (env : Env) : gets env [] = [] := rfl
@[simp] theorem gets_cons (env : Env) (i : Nat) (is : List Nat) : gets env (i :: is) = nth env i :: gets env is := rfl
@[simp] theorem stepOf_next (car : List Nat) (env : Env) : stepOf car (.next env) = ret (.go (gets env car)) := rfl
@[simp] theorem stepOf_ret (car : List Nat) (d : D) : stepOf car (.ret d) = ret (.out d) := rfl
@[simp] theorem tup_lst (xs : List D) : b1V .tuple (.list xs) = ret (.tuple xs) := rfl
@[simp] theorem tup_tup (xs : List D) : b1V .tuple (.tuple xs) = ret (.tuple xs) := rfl
@[simp] theorem lst_lst (xs : List D) : b1V .list (.list xs) = ret (.list xs) := rfl
@[simp] theorem lst_tup (xs : List D) : b1V .list (.tuple xs) = ret (.list xs) := rfl
theorem fold_filter {α : Type} (p : α → Bool) : ∀ (xs acc : List α), xs.foldl (fun acc x => if p x = true then acc ++ [x] else acc) acc = acc ++ xs.filter p
  | [], acc => by simp
  | x :: xs, acc => by
    rw [List.foldl_cons, fold_filter p xs]
    by_cases c : p x = true
    · rw [if_pos c, List.filter_cons_of_pos c]; simp
    · rw [if_neg c, List.filter_cons_of_neg c]
theorem fold_map {α β : Type} (f : α → β) : ∀ (xs : List α) (acc : List β), xs.foldl (fun acc x => acc ++ [f x]) acc = acc ++ xs.map f
  | [], acc => by simp
  | x :: xs, acc => by rw [List.foldl_cons, fold_map f xs]; simp
theorem app_own {α : Type} (e : α → D) (xs : List α) (x : α) (env : Env) (i : Nat) (h : xs.length < 16777216) (hn : nth env i = .own (.list (xs.map e))) : appSlot env i (e x) = ret (put env i (.own (.list ((xs ++ [x]).map e)))) := by
  unfold appSlot
  rw [hn]
  show chk _ _ = _
  rw [chk_of _ (decide_eq_true (by rw [List.length_map]; exact h)), List.map_append]
  rfl
end Ev
set_option Elab.async false
set_option linter.all false
set_option maxRecDepth 100000
set_option maxHeartbeats 1000000
/-! What holds of every run: statements, loops, comprehensions. -/
namespace Ev
open PySem PySem.W
theorem wp_ss {K : Cal} {env env' : Env} {s : IS} {ss : List IS} {Q : Ev.Flow → Prop} (e : evS K env s = ret (.next env')) (h : Wp (evSs K env' ss) Q) : Wp (evSs K env (s :: ss)) Q :=
  evSs_cons (by rw [e]; exact Wp.ret ⟨_, rfl, h⟩)
/-- a comprehension whose condition draws -/
theorem wp_lcL_sub {α : Type} {f : D → M (Option D)} (e : α → D) : ∀ (xs : List α), (∀ x ∈ xs, Wp (f (e x)) fun o => o = none ∨ o = some (e x)) → Wp (lcL f (xs.map e)) fun ds => ∃ ys : List α, ys.Sublist xs ∧ ds = ys.map e
  | [], _ => Wp.ret ⟨[], .slnil, rfl⟩
  | x :: xs, h => by
    refine Wp.bnd ((h x List.mem_cons_self).mono fun o ho => ?_)
    refine Wp.bnd ((wp_lcL_sub e xs fun y hy => h y (List.mem_cons_of_mem _ hy)).mono fun ds hds => ?_)
    obtain ⟨ys, h1, rfl⟩ := hds
    rcases ho with rfl | rfl
    · exact Wp.ret ⟨ys, h1.cons _, rfl⟩
    · exact Wp.ret ⟨x :: ys, h1.cons_cons _, rfl⟩
/-- a comprehension whose elements draw -/
theorem wp_lcL_all {α β : Type} {f : D → M (Option D)} (e : α → D) (P : α → β → Prop) (e2 : β → D) : ∀ (xs : List α), (∀ x ∈ xs, Wp (f (e x)) fun o => ∃ y, o = some (e2 y) ∧ P x y) → Wp (lcL f (xs.map e)) fun ds => ∃ ys : List β, ys.length = xs.length ∧ ds = ys.map e2 ∧ ∀ y ∈ ys, ∃ x ∈ xs, P x y
  | [], _ => Wp.ret ⟨[], rfl, rfl, fun y hy => by simp at hy⟩
  | x :: xs, h => by
    refine Wp.bnd ((h x List.mem_cons_self).mono fun o ho => ?_)
    obtain ⟨y, rfl, hy⟩ := ho
    refine Wp.bnd ((wp_lcL_all e P e2 xs fun y hy => h y (List.mem_cons_of_mem _ hy)).mono fun ds hds => ?_)
    obtain ⟨ys, h1, rfl, h2⟩ := hds
    exact Wp.ret ⟨y :: ys, by simp [h1], rfl, fun z hz => by
      rcases List.mem_cons.mp hz with rfl | hz
      · exact ⟨x, List.mem_cons_self, hy⟩
      · obtain ⟨w, hw, hp⟩ := h2 z hz
        exact ⟨w, List.mem_cons_of_mem _ hw, hp⟩⟩
/-- a loop by its invariant -/
theorem wp_forS {K : Cal} {env : Env} {t : Tg} {it : IE} {car tmp : List Nat} {body : List IS} {Q : Ev.Flow → Prop} (I : List D → List Slot → Prop)
    (hit : Wp (bnd (bor it (evE K env it) env) walkD) fun xs => I xs (gets env car))
    (step : ∀ x xs s, I (x :: xs) s → Wp (bnd (assignT t x (wipes (puts env car s) tmp)) fun env1 => bnd (evSs K env1 body) (stepOf car)) fun st => ∃ s', st = .go s' ∧ I xs s')
    (done : ∀ s, I [] s → Q (.next (wipes (puts env car s) tmp))) : Wp (evS K env (.for t it car tmp body)) Q := by
  rw [q_for]
  refine Wp.bnd (hit.mono fun xs hI => ?_)
  refine Wp.bnd (Wp.forL I xs _ hI step fun s hs => ?_)
  exact Wp.ret (done s hs)
/-- a def's own run -/
theorem wp_fn {K : Cal} {fn : Fn} {as : List Slot} {Q : D → Prop} (hl : as.length = fn.np) (h : Wp (bnd (evSs K (entry fn as) fn.body) outOf) Q) : Wp (runFn K fn as) Q := by
  rw [runFn_eq _ _ _ hl]
  exact h
theorem wp_eq {α : Type} {m : M α} {a : α} {Q : α → Prop} (e : m = ret a) (h : Q a) : Wp m Q := by rw [e]; exact Wp.ret h
theorem lam_wp' {P : Prg} {k : Nat} {env : Env} {e : IE} {f : Nat} {Q : D → Prop} (hk : 2 ≤ k) (h : Wp (P.wd f (evE (calOf P k).low env e)) Q) : Wp (evE (calOf P k) env (.lam f e)) Q := by
  have hd : (calOf P k).deep = true := decide_eq_true hk
  rw [q_lam, hd]
  exact Wp.calm h
theorem app_wp' {K : Cal} {env : Env} {i : Nat} {e : IE} {xs : List D} {y : D} (hn : nth env i = .own (.list xs)) (hx : xs.length < 1000) (h : Wp (evE K env e) fun d => d = y) : Wp (evS K env (.app i e)) fun fl => fl = .next (put env i (.own (.list (xs ++ [y])))) := by
  have e1 : evS K env (.app i e) = bnd (evE K env e) fun d => nextM (appSlot env i d) := by simp [hn]
  rw [e1]
  refine Wp.bnd (h.mono fun d hd => ?_)
  subst hd
  have e2 : appSlot env i d = ret (put env i (.own (.list (xs ++ [d])))) := by
    unfold appSlot
    rw [hn]
    exact chk_of _ (decide_eq_true (by show xs.length < 16777216; omega))
  unfold nextM
  rw [e2, bnd_ret]
  exact Wp.ret rfl
@[simp] theorem low_C (P : Prg) (n : Nat) : (calOf P n).low.C = callF P (n - 2) := rfl
@[simp] theorem par_nil (env : Env) : parT [] [] env = ret env := by simp only [parT]
@[simp] theorem par_own (i : Nat) (ts : List (Tg × Bool)) (d : D) (ds : List D) (env : Env) : parT ((.name i, true) :: ts) (d :: ds) env = parT ts ds (put env i (.own d)) := by simp only [parT]
@[simp] theorem par_name (i : Nat) (ts : List (Tg × Bool)) (d : D) (ds : List D) (env : Env) : parT ((.name i, false) :: ts) (d :: ds) env = parT ts ds (put env i (.val d)) := by
  show bnd (assignT (.name i) d env) _ = _
  rw [asg_name, bnd_ret]
@[simp] theorem notBool_eq (a b : Bool) : cmpV .notBool (.bool a) (.bool b) = ret (.bool (!decide (a = b))) := rfl
@[simp] theorem isBool_eq (a b : Bool) : cmpV .isBool (.bool a) (.bool b) = ret (.bool (decide (a = b))) := rfl
theorem rising_pw : ∀ {xs : List Int}, xs.Pairwise (· < ·) → ∀ (f : List Int → Bool), (∀ x y r, f (x :: y :: r) = (decide (x < y) && f (y :: r))) → (∀ x, f [x] = true) → f [] = true → f xs = true
  | [], _, f, _, _, h0 => h0
  | [x], _, f, _, h1, _ => h1 x
  | x :: y :: r, h, f, h2, h1, h0 => by
    obtain ⟨ha, hb⟩ := List.pairwise_cons.mp h
    rw [h2, rising_pw hb f h2 h1 h0, decide_eq_true (ha y List.mem_cons_self)]
    rfl
end Ev
set_option Elab.async false
set_option linter.all false
set_option maxRecDepth 100000
set_option maxHeartbeats 4000000
/-! Lots of ints; loops as folds, by invariants. -/
namespace Ev
open PySem PySem.W
def isIntD : D → Bool
  | .int _ => true
  | _ => false
def withinD (d : D) (lo hi : Int) : Bool := match d with
  | .int i => decide (lo ≤ i) && decide (i ≤ hi)
  | _ => false
def sizedD (d : D) (lo hi : Int) : Bool := match d with
  | .tuple xs => decide (lo ≤ xs.length) && decide (xs.length ≤ hi)
  | _ => false
def rising : List Int → Bool
  | x :: y :: r => decide (x < y) && rising (y :: r)
  | _ => true
def lotB (xs : List Int) (m : Int) : Bool := xs.all (fun i => decide (0 ≤ i) && decide (i ≤ m - 1)) && rising xs
def isLotD (d : D) (m : Int) : Bool := match d with
  | .tuple xs => match allInts xs with
    | some is => lotB is m
    | none => false
  | _ => false
theorem zip_rising : ∀ xs : List Int, (zipD (xs.map .int) ((xs.map PyData.int).tail)) = ((xs.zip xs.tail).map fun p => PyData.tuple [.int p.1, .int p.2])
  | [] => rfl
  | [x] => rfl
  | x :: y :: r => by
    have := zip_rising (y :: r)
    show PyData.tuple [.int x, .int y] :: zipD ((y :: r).map .int) (((y :: r).map PyData.int).tail) = _
    rw [this]
    rfl
theorem all_rising : ∀ xs : List Int, ((xs.zip xs.tail).all fun p => decide (p.1 < p.2)) = rising xs
  | [] => rfl
  | [x] => rfl
  | x :: y :: r => by
    have := all_rising (y :: r)
    show (decide (x < y) && (((y :: r).zip (y :: r).tail).all fun p => decide (p.1 < p.2))) = _
    rw [this]
    rfl
theorem slice1 (xs : List Int) : sliceV (.tuple (xs.map .int)) (some 1) none = ret (.tuple ((xs.map PyData.int).tail)) := by
  show ret (PyData.tuple (cutD (xs.map PyData.int) (some 1) none)) = _
  congr 2
  rw [← List.drop_one]
  unfold cutD
  show ((xs.map PyData.int).drop (min (1 : Int).toNat (xs.map PyData.int).length)).take ((xs.map PyData.int).length - min (1 : Int).toNat (xs.map PyData.int).length) = _
  have e : (1 : Int).toNat = 1 := rfl
  rw [e, List.take_of_length_le (by rw [List.length_drop]; omega)]
  by_cases h : 1 ≤ (xs.map PyData.int).length
  · rw [Nat.min_eq_left h]
  · have h0 : (xs.map PyData.int).length = 0 := by omega
    rw [h0, List.drop_eq_nil_of_le (by omega), List.drop_eq_nil_of_le (by omega)]
theorem allInts_ints (xs : List Int) : allInts (xs.map .int) = some xs := by
  have := allInts_map (fun i : Int => i) xs
  simpa using this
theorem allInts_inv : ∀ {xs : List D} {is : List Int}, allInts xs = some is → xs = is.map .int
  | [], is, h => by cases h; rfl
  | d :: xs, is, h => by
    cases d <;> first | (cases h; done) | skip
    rename_i i
    simp only [allInts] at h
    split at h
    · rename_i js hj
      cases h
      rw [allInts_inv hj]
      rfl
    · cases h
theorem allInts_none : ∀ {xs : List D}, allInts xs = none → ∃ d ∈ xs, isIntD d = false
  | [], h => by cases h
  | d :: xs, h => by
    by_cases q : isIntD d = true
    · cases d <;> first | (cases q; done) | skip
      simp only [allInts] at h
      split at h
      · cases h
      · rename_i hj
        obtain ⟨e, he, hq⟩ := allInts_none hj
        exact ⟨e, List.mem_cons_of_mem _ he, hq⟩
    · exact ⟨d, List.mem_cons_self, by simpa using q⟩
theorem isLot_eL (xs : List Int) (m : Int) : isLotD (eL xs) m = lotB xs m := by
  show (match allInts (xs.map .int) with | some is => lotB is m | none => false) = _
  rw [allInts_ints]
def subsOf (xs : List Int) : List (List Int) := xs.foldl (fun found one => found ++ found.map (· ++ [one])) [[]]
def ePair (l : List Int) : D := .tuple [.int l.length, eL l]
def lotsOf (xs : List Int) : List (List Int) := sortE ePair (subsOf xs)
theorem subs_step (xs : List Int) (x : Int) : subsOf (xs ++ [x]) = subsOf xs ++ (subsOf xs).map (· ++ [x]) := by
  unfold subsOf
  rw [List.foldl_append]
  rfl
theorem subs_len : ∀ (n : Nat) (xs : List Int), xs.length = n → (subsOf xs).length = 2 ^ n ∧ ∀ l ∈ subsOf xs, l.length ≤ n
  | 0, xs, h => by
    obtain rfl := List.eq_nil_of_length_eq_zero h
    refine ⟨rfl, fun l hl => ?_⟩
    have : l = [] := by simpa [subsOf] using hl
    rw [this]; exact Nat.le_refl _
  | n + 1, xs, h => by
    have hne : xs ≠ [] := fun e => by rw [e] at h; cases h
    have e := List.dropLast_concat_getLast hne
    obtain ⟨h1, h2⟩ := subs_len n xs.dropLast (by rw [List.length_dropLast]; omega)
    rw [← e, subs_step]
    refine ⟨by rw [List.length_append, List.length_map, h1]; omega, fun l hl => ?_⟩
    rcases List.mem_append.mp hl with hl | hl
    · have := h2 l hl; omega
    · obtain ⟨k, hk, rfl⟩ := List.mem_map.mp hl
      have := h2 k hk
      rw [List.length_append]
      simp; omega
theorem alike_pair (a b : List Int) : PySem.W.alike (ePair a) (ePair b) = true := by
  unfold ePair eL
  simp [PySem.W.alike, PySem.W.alikeAll, alike_ints0]
theorem depth_pair (a : List Int) : (ePair a).depth ≤ 40 := by
  unfold ePair
  simp [PyData.depth, PyData.depthAll, depth_eL]
theorem sortOk_pair {xs : List (List Int)} (hl : xs.length ≤ 16777216) : sortOk (xs.map ePair) = true :=
  sortOk_of ePair alike_pair (fun _ => rfl) depth_pair (.inl fun _ => rfl) hl
theorem add_eL (l : List Int) (x : Int) (h : l.length ≤ 1000) : bopV .add (eL l) (.tuple [.int x]) = ret (eL (l ++ [x])) := by
  show chk (decide ((l.map PyData.int).length + [PyData.int x].length ≤ line)) (PyData.tuple (l.map .int ++ [.int x])) = _
  rw [chk_of _ (decide_eq_true (by rw [List.length_map]; show l.length + 1 ≤ 16777216; omega))]
  unfold eL
  rw [List.map_append]
  rfl
theorem add_lists {α : Type} (e : α → D) (xs ys : List α) (h : xs.length + ys.length ≤ 16777216) : bopV .add (.list (xs.map e)) (.list (ys.map e)) = ret (.list ((xs ++ ys).map e)) := by
  show chk (decide ((xs.map e).length + (ys.map e).length ≤ line)) (PyData.list (xs.map e ++ ys.map e)) = _
  rw [chk_of _ (decide_eq_true (by rw [List.length_map, List.length_map]; exact h)), List.map_append]
def b_lotsG (it : IE) : List IS := [
  .asg (.name 1) (.lst [.tup []]),
  .for (.name 2) it [1] [2] [.asg (.name 1) (.bop .add (.var 1) (.lc (.bop .add (.var 4) (.tup [.var 2])) (.name 4) (.var 1) [] [4]))],
  .ret (.lc (.var 4) (.tup [.name 3, .name 4]) (.b1 .sorted (.lc (.tup [.b1 .len (.var 4), .var 4]) (.name 4) (.var 1) [] [4])) [] [3, 4])]
theorem lots_body (K : Cal) {S0 : Slot} {xs : List Int} {it : IE} (hit : ∀ f, bnd (bor it (evE K [S0, .val f, .no, .no, .no] it) [S0, .val f, .no, .no, .no]) walkD = ret (xs.map .int)) (hl : xs.length ≤ 12) : bnd (evSs K [S0, .no, .no, .no, .no] (b_lotsG it)) outOf = ret (.list ((lotsOf xs).map eL)) := by
  have hf := forS (K := K) (env := [S0, .val (.list [.tuple []]), .no, .no, .no]) (t := .name 2) (it := it) (car := [1]) (tmp := [2]) (body := [.asg (.name 1) (.bop .add (.var 1) (.lc (.bop .add (.var 4) (.tup [.var 2])) (.name 4) (.var 1) [] [4]))]) PyData.int
    (fun s : List (List Int) => [Slot.val (.list (s.map eL))]) (fun found one => found ++ found.map (· ++ [one])) xs [[]] (hit _) rfl (fun pre x post hp => by
      have hs : pre.foldl (fun found one => found ++ found.map (· ++ [one])) [[]] = subsOf pre := rfl
      rw [hs]
      have hpl : pre.length + 1 + post.length ≤ 12 := by rw [hp] at hl; simp at hl; omega
      obtain ⟨s1, s2⟩ := subs_len pre.length pre rfl
      have s3 : (subsOf pre).length ≤ 4096 := by rw [s1]; exact Nat.pow_le_pow_right (by decide) (show pre.length ≤ 12 by omega)
      have e1 : lcL (fun d => bnd (bopV .add d (.tuple [.int x])) fun y => ret (some y)) ((subsOf pre).map eL) = ret (((subsOf pre).map (· ++ [x])).map eL) := by
        rw [lc_all (fun l : List Int => eL (l ++ [x])) fun l hm => by rw [add_eL l x (by have := s2 l hm; omega), bnd_ret], List.map_map]
        rfl
      simp [wk_lst, e1, add_lists eL _ _ (show (subsOf pre).length + ((subsOf pre).map (· ++ [x])).length ≤ 16777216 by rw [List.length_map]; omega), -List.map_map, -List.map_append])
  have hlen : (subsOf xs).length ≤ 16777216 := by
    rw [(subs_len xs.length xs rfl).1]
    exact Nat.le_trans (Nat.pow_le_pow_right (by decide) hl) (by decide)
  have e2 : lcL (fun d => bnd (b1V .len d) fun a => ret (some (.tuple [a, d]))) ((subsOf xs).map eL) = ret ((subsOf xs).map ePair) :=
    lc_all ePair fun l _ => by rw [len_eL, bnd_ret]; rfl
  have e3 := sorted_of ePair (sortOk_pair hlen)
  have e4 : ∀ f : D → M (Option D), (∀ a b, f (.tuple [a, b]) = ret (some b)) → lcL f ((sortE ePair (subsOf xs)).map ePair) = ret ((lotsOf xs).map eL) := fun f hf => lc_all eL fun l _ => hf _ _
  have hf2 : evS K [S0, .val (.list [.tuple []]), .no, .no, .no] (.for (.name 2) it [1] [2] [.asg (.name 1) (.bop .add (.var 1) (.lc (.bop .add (.var 4) (.tup [.var 2])) (.name 4) (.var 1) [] [4]))]) = ret (.next [S0, .val (.list ((subsOf xs).map eL)), .no, .no, .no]) := hf
  unfold b_lotsG
  simp [hf2, wk_lst, e2, e3]
  rw [e4 _ fun a b => by simp]
  simp
theorem list_range {n : Int} (h0 : 0 ≤ n) (h1 : n ≤ 1000) : rangeV 0 n 1 = ret ((rangeI 0 n).map .int) := rangeV_I (by decide) (by decide) (by omega) (by omega)
def foldR {α σ : Type} (g : σ → α → σ ⊕ D) : List α → σ → σ ⊕ D
  | [], s => .inl s
  | x :: xs, s => match g s x with
    | .inl s' => foldR g xs s'
    | .inr d => .inr d
def stepR {σ : Type} (enc : σ → List Slot) : σ ⊕ D → Step
  | .inl s => .go (enc s)
  | .inr d => .out d
def flowR {σ : Type} (f : σ → Env) : σ ⊕ D → Ev.Flow
  | .inl s => .next (f s)
  | .inr d => .ret d
theorem forL_foldR {α σ : Type} {f : List Slot → D → M Step} (e : α → D) (enc : σ → List Slot) (g : σ → α → σ ⊕ D) (I : List α → σ → Prop) :
    ∀ (xs : List α) (s : σ), I xs s → (∀ x xs s, I (x :: xs) s → f (enc s) (e x) = ret (stepR enc (g s x)) ∧ ∀ s', g s x = .inl s' → I xs s') → forL f (xs.map e) (enc s) = ret (stepR enc (foldR g xs s))
  | [], s, i, h => rfl
  | x :: xs, s, i, h => by
    obtain ⟨h1, h2⟩ := h x xs s i
    show bnd (f (enc s) (e x)) _ = _
    rw [h1, bnd_ret]
    unfold foldR
    cases q : g s x with
    | inl s' => exact forL_foldR e enc g I xs s' (h2 s' q) h
    | inr d => rfl
theorem forR {α σ : Type} {K : Cal} {env : Env} {t : Tg} {it : IE} {car tmp : List Nat} {body : List IS} (e : α → D) (enc : σ → List Slot) (g : σ → α → σ ⊕ D) (I : List α → σ → Prop) (xs : List α) (s0 : σ)
    (hit : bnd (bor it (evE K env it) env) walkD = ret (xs.map e)) (hs : gets env car = enc s0) (h0 : I xs s0)
    (h : ∀ x xs s, I (x :: xs) s → bnd (assignT t (e x) (wipes (puts env car (enc s)) tmp)) (fun env1 => bnd (evSs K env1 body) (stepOf car)) = ret (stepR enc (g s x)) ∧ ∀ s', g s x = .inl s' → I xs s') :
    evS K env (.for t it car tmp body) = ret (flowR (fun s => wipes (puts env car (enc s)) tmp) (foldR g xs s0)) := by
  rw [q_for]
  show bnd (bnd (bor it (evE K env it) env) walkD) _ = _
  rw [hit, bnd_ret, hs, forL_foldR e enc g I xs s0 h0 h, bnd_ret]
  cases foldR g xs s0 <;> rfl
def sL : Slot → M Unit
  | .own _ => ret ()
  | .hand => ret ()
  | _ => fail
@[simp] theorem hasL_eq (env : Env) (i : Nat) : hasL env i = sL (nth env i) := by unfold hasL sL; rfl
@[simp] theorem sL_own (d : D) : sL (.own d) = ret () := rfl
theorem set_own (ds : List D) (d : D) (env : Env) (i : Nat) {k : Int} (h0 : 0 ≤ k) (h1 : k < ds.length) (hn : nth env i = .own (.list ds)) : setSlot env i (.int k) d = ret (put env i (.own (.list (ds.set k.toNat d)))) := by
  unfold setSlot
  rw [hn]
  have : setV (.list ds) (.int k) d = ret (.list (ds.set k.toNat d)) := by
    simp only [setV, ixOf, if_pos h0, if_pos h1]
  show bnd (setV _ _ _) _ = _
  rw [this, bnd_ret]
theorem withinI (i lo hi : Int) : withinD (.int i) lo hi = (decide (lo ≤ i) && decide (i ≤ hi)) := rfl
theorem rising_len : ∀ {xs : List Int} {m lo : Int}, (∀ x ∈ xs, lo ≤ x ∧ x < m) → rising xs = true → lo ≤ m → (xs.length : Int) ≤ m - lo
  | [], m, lo, _, _, h => by simp; omega
  | [x], m, lo, h, _, _ => by have := h x (by simp); simp; omega
  | x :: y :: r, m, lo, h, h2, _ => by
    simp only [rising, Bool.and_eq_true, decide_eq_true_eq] at h2
    have hx := h x (by simp)
    have hmono : ∀ (l : List Int) (a : Int), rising (a :: l) = true → ∀ z ∈ l, a < z := by
      intro l
      induction l with
      | nil => intro a _ z hz; cases hz
      | cons b l ih =>
        intro a ha z hz
        simp only [rising, Bool.and_eq_true, decide_eq_true_eq] at ha
        rcases List.mem_cons.mp hz with rfl | hz
        · exact ha.1
        · have := ih b ha.2 z hz; omega
    have ih := rising_len (xs := y :: r) (m := m) (lo := x + 1) (fun z hz => by
      have h3 := h z (List.mem_cons_of_mem _ hz)
      rcases List.mem_cons.mp hz with rfl | hz
      · exact ⟨by omega, h3.2⟩
      · have := hmono r y h2.2 z hz; exact ⟨by omega, h3.2⟩) h2.2 (by omega)
    simp only [List.length_cons] at ih ⊢
    omega
theorem lot_len {xs : List Int} {m : Nat} (h : lotB xs m = true) : xs.length ≤ m := by
  simp only [lotB, Bool.and_eq_true, List.all_eq_true, decide_eq_true_eq] at h
  have := rising_len (xs := xs) (m := m) (lo := 0) (fun x hx => by have := h.1 x hx; omega) h.2 (by omega)
  omega
theorem pw_rising : ∀ {xs : List Int}, rising xs = true → xs.Pairwise (· < ·)
  | [], _ => List.Pairwise.nil
  | [x], _ => List.pairwise_singleton _ _
  | x :: y :: r, h => by
    simp only [rising, Bool.and_eq_true, decide_eq_true_eq] at h
    have ih := pw_rising h.2
    refine List.pairwise_cons.mpr ⟨fun z hz => ?_, ih⟩
    rcases List.mem_cons.mp hz with rfl | hz
    · exact h.1
    · have := (List.pairwise_cons.mp ih).1 z hz; omega
theorem lotB_iff {xs : List Int} {m : Int} : lotB xs m = true ↔ (∀ x ∈ xs, 0 ≤ x ∧ x < m) ∧ xs.Pairwise (· < ·) := by
  simp only [lotB, Bool.and_eq_true, List.all_eq_true, decide_eq_true_eq]
  constructor
  · rintro ⟨h1, h2⟩
    exact ⟨fun x hx => by have := h1 x hx; omega, pw_rising h2⟩
  · rintro ⟨h1, h2⟩
    exact ⟨fun x hx => by have := h1 x hx; omega, rising_pw h2 rising (fun _ _ _ => rfl) (fun _ => rfl) rfl⟩
theorem leD_int (a b : Int) : leD (.int a) (.int b) = decide (a ≤ b) := by
  have : dataLt (.int b) (.int a) = decide (b < a) := dataLt_int b a
  unfold leD
  rw [this]
  by_cases c : a ≤ b
  · simp [c]
  · simp [c]; omega
theorem nodup_insE {α : Type} (e : α → D) (a : α) : ∀ {l : List α}, a ∉ l → l.Nodup → (insE e a l).Nodup
  | [], _, _ => by simp [insE]
  | b :: l, ha, h => by
    show (if leD (e a) (e b) then a :: b :: l else b :: insE e a l).Nodup
    split
    · exact List.nodup_cons.mpr ⟨ha, h⟩
    · obtain ⟨h1, h2⟩ := List.nodup_cons.mp h
      refine List.nodup_cons.mpr ⟨fun z => ?_, nodup_insE e a (fun z => ha (List.mem_cons_of_mem _ z)) h2⟩
      rcases (mem_insE e).mp z with z | z
      · exact ha (by rw [z]; exact List.mem_cons_self)
      · exact h1 z
theorem nodup_sortE {α : Type} (e : α → D) : ∀ {l : List α}, l.Nodup → (sortE e l).Nodup
  | [], _ => List.nodup_nil
  | a :: l, h => by
    obtain ⟨h1, h2⟩ := List.nodup_cons.mp h
    exact nodup_insE e a (fun z => h1 ((mem_sortE e).mp z)) (nodup_sortE e h2)
theorem lot_sort {l : List Int} {m : Int} (hn : l.Nodup) (hb : ∀ x ∈ l, 0 ≤ x ∧ x < m) : lotB (sortE .int l) m = true := by
  refine lotB_iff.mpr ⟨fun x hx => hb x ((mem_sortE _).mp hx), ?_⟩
  have h1 := sorted_sortE .int l
  have h2 := nodup_sortE .int hn
  refine (h1.and h2).imp ?_
  rintro a b ⟨h3, h4⟩
  rw [leD_int] at h3
  have := of_decide_eq_true h3
  omega
theorem at_set {rs : List (List Int)} {i j : Int} {x : List Int} (i0 : 0 ≤ i) (i1 : i < rs.length) (j0 : 0 ≤ j) : at_ (rs.set i.toNat x) j = if j = i then x else at_ rs j := by
  unfold at_
  rw [List.getD_eq_getElem?_getD, List.getD_eq_getElem?_getD, List.getElem?_set]
  by_cases c : j = i
  · subst c
    rw [if_pos rfl, if_pos rfl, if_pos (by omega)]
    rfl
  · rw [if_neg (by omega), if_neg c]
theorem forI {α σ : Type} {K : Cal} {env : Env} {t : Tg} {it : IE} {car tmp : List Nat} {body : List IS} (e : α → D) (enc : σ → List Slot) (I : List α → σ → Prop) (xs : List α) (s0 : σ)
    (hit : bnd (bor it (evE K env it) env) walkD = ret (xs.map e)) (hs : gets env car = enc s0) (h0 : I xs s0)
    (h : ∀ x xs s, I (x :: xs) s → ∃ s', bnd (assignT t (e x) (wipes (puts env car (enc s)) tmp)) (fun env1 => bnd (evSs K env1 body) (stepOf car)) = ret (.go (enc s')) ∧ I xs s') :
    ∃ s', I [] s' ∧ evS K env (.for t it car tmp body) = ret (.next (wipes (puts env car (enc s')) tmp)) := by
  have key : ∀ (xs : List α) (s : σ), I xs s → ∃ s', I [] s' ∧ forL (fun s d => bnd (assignT t d (wipes (puts env car s) tmp)) fun env1 => bnd (evSs K env1 body) (stepOf car)) (xs.map e) (enc s) = ret (.go (enc s')) := by
    intro xs
    induction xs with
    | nil => exact fun s i => ⟨s, i, rfl⟩
    | cons x xs ih =>
      intro s i
      obtain ⟨s1, h1, i1⟩ := h x xs s i
      obtain ⟨s2, i2, h2⟩ := ih s1 i1
      refine ⟨s2, i2, ?_⟩
      show bnd (bnd (assignT t (e x) (wipes (puts env car (enc s)) tmp)) _) _ = _
      rw [h1, bnd_ret]
      exact h2
  obtain ⟨s', i', h'⟩ := key xs s0 h0
  refine ⟨s', i', ?_⟩
  rw [q_for]
  show bnd (bnd (bor it (evE K env it) env) walkD) _ = _
  rw [hit, bnd_ret, hs, h', bnd_ret]
  rfl
def appS (s : Slot) (d : D) : M Slot := match s with
  | .own (.list xs) => chk (decide (xs.length < line)) (.own (.list (xs ++ [d])))
  | _ => fail
theorem appSlot_eq (env : Env) (i : Nat) (d : D) : appSlot env i d = bnd (appS (nth env i) d) fun s => ret (put env i s) := by
  unfold appSlot appS
  cases nth env i with
  | own c => cases c with
    | list xs =>
      show chk _ _ = bnd (chk _ _) _
      cases decide (xs.length < line)
      · simp [chk_false]
      · simp
    | _ => simp
  | _ => simp
theorem appS_own (xs : List D) (d : D) : appS (.own (.list xs)) d = chk (decide (xs.length < line)) (.own (.list (xs ++ [d]))) := rfl
theorem perm_insE {α : Type} (e : α → D) (a : α) : ∀ l : List α, (insE e a l).Perm (a :: l)
  | [] => List.Perm.refl _
  | b :: l => by
    show (if leD (e a) (e b) then a :: b :: l else b :: insE e a l).Perm _
    split
    · exact List.Perm.refl _
    · exact ((perm_insE e a l).cons b).trans (List.Perm.swap a b l)
theorem perm_sortE {α : Type} (e : α → D) : ∀ l : List α, (sortE e l).Perm l
  | [] => List.Perm.refl _
  | a :: l => (perm_insE e a (sortE e l)).trans ((perm_sortE e l).cons a)
end Ev
set_option Elab.async false
set_option linter.all false
set_option maxRecDepth 100000
set_option maxHeartbeats 4000000
/-! Key rings: what the defs are worth. -/
namespace Ev.KR
open Ev PySem PySem.W

section
variable {P : Prg} [Has P F_is_integer fn_is_integer]
theorem c_is_integer (n : Nat) (d : D) : callF P (n + 1) F_is_integer [.val d] = ret (.bool (isIntD d)) := by
  rw [cf, runFn_eq _ _ _ rfl]
  cases d <;> simp [fn_is_integer, b_is_integer, entry, tyV, PyData.isInt, PyData.isBool, isIntD]
variable [Has P F_is_within fn_is_within]
theorem c_is_within (n : Nat) (d : D) (lo hi : Int) : callF P (n + 2) F_is_within [.val d, .val (.int lo), .val (.int hi)] = ret (.bool (withinD d lo hi)) := by
  rw [cf, runFn_eq _ _ _ rfl]
  have e : callF P (n + 1) 0 [.val d] = ret (.bool (isIntD d)) := c_is_integer n d
  simp [fn_is_within, b_is_within, entry, e]
  cases d <;> simp [isIntD, withinD]
  rename_i i
  by_cases h : lo ≤ i <;> simp [h]
variable [Has P F_is_sized fn_is_sized]
theorem c_is_sized (n : Nat) (d : D) (lo hi : Int) : callF P (n + 1) F_is_sized [.val d, .val (.int lo), .val (.int hi)] = ret (.bool (sizedD d lo hi)) := by
  rw [cf, runFn_eq _ _ _ rfl]
  cases d <;> simp [fn_is_sized, b_is_sized, entry, tyV, PyData.isTuple, sizedD]
  rename_i xs
  have e : b1V .len (.tuple xs) = ret (.int xs.length) := rfl
  rw [e]
  simp
  by_cases h : lo ≤ (xs.length : Int) <;> simp [h]
theorem within_lc (n : Nat) (m : Int) (xs : List D) (env : D → Env) (h : ∀ d, env d = [.val (.tuple xs), .val (.int m), .val d, .no]) : True := trivial
variable [Has P F_is_lot fn_is_lot]
theorem c_is_lot (n : Nat) (d : D) (m : Int) : callF P (n + 3) F_is_lot [.val d, .val (.int m)] = ret (.bool (isLotD d m)) := by
  rw [cf, runFn_eq _ _ _ rfl]
  have e : ∀ x, callF P (n + 2) 1 [.val x, .val (.int 0), .val (.int (m - 1))] = ret (.bool (withinD x 0 (m - 1))) := fun x => c_is_within n x 0 (m - 1)
  cases d <;> simp [fn_is_lot, b_is_lot, entry, tyV, PyData.isTuple, isLotD]
  rename_i xs
  have hw : walkD (.tuple xs) = ret xs := rfl
  rw [hw, bnd_ret]
  have e2 : lcL (fun x => bnd (callF P (n + 2) 1 [.val x, .val (.int 0), .val (.int (m - 1))]) fun y => ret (some y)) xs = ret (xs.map fun x => .bool (withinD x 0 (m - 1))) := by
    have := lc_all (f := fun x => bnd (callF P (n + 2) 1 [.val x, .val (.int 0), .val (.int (m - 1))]) fun y => ret (some y)) (e := id) (xs := xs) (fun x => .bool (withinD x 0 (m - 1))) fun x _ => by
      show bnd (callF P (n + 2) 1 _) _ = _
      rw [e, bnd_ret]; rfl
    rw [List.map_id] at this
    exact this
  simp [e2]
  cases q : allInts xs with
  | none =>
    obtain ⟨d, hd, hq⟩ := allInts_none q
    have : (xs.all fun x => withinD x 0 (m - 1)) = false := by
      rw [Bool.eq_false_iff]
      intro hall
      have := List.all_eq_true.mp hall d hd
      cases d <;> first | (cases hq; done) | (cases this; done)
    rw [this]
    simp
  | some is =>
    have hx := allInts_inv q
    subst hx
    have e3 : ((is.map PyData.int).all fun x => withinD x 0 (m - 1)) = is.all fun i => decide (0 ≤ i) && decide (i ≤ m - 1) := by
      rw [List.all_map]
      rfl
    rw [e3]
    unfold lotB
    cases hb : is.all fun i => decide (0 ≤ i) && decide (i ≤ m - 1) with
    | false => simp [hb]
    | true =>
      have e4 : zipV (.tuple (is.map PyData.int)) (.tuple ((is.map PyData.int).tail)) = ret ((is.zip is.tail).map fun p => PyData.tuple [.int p.1, .int p.2]) := by
        show ret (zipD _ _) = _
        rw [zip_rising]
      have e5 : ∀ f : D → M (Option D), (∀ x y, f (.tuple [.int x, .int y]) = ret (some (.bool (decide (x < y))))) → lcL f ((is.zip is.tail).map fun p => PyData.tuple [.int p.1, .int p.2]) = ret ((is.zip is.tail).map fun p => .bool (decide (p.1 < p.2))) := fun f hf =>
        lc_all (fun p : Int × Int => .bool (decide (p.1 < p.2))) fun p _ => hf p.1 p.2
      simp [optOf, slice1, e4, wk_lst]
      rw [e5 _ fun x y => by simp]
      simp [all_rising, hb]
/-! ### rings -/
def opensB (rs : List (List Int)) (g d : List Int) : Bool := d.all fun key => g.any fun p => decide (key ∈ at_ rs p)
variable [Has P F_raw_opens fn_raw_opens]
theorem opens_body (K : Cal) (rs : List (List Int)) {G O : D} {g d : List Int} (hG : walkD G = ret (g.map .int)) (hO : walkD O = ret (d.map .int)) (hg : ∀ p ∈ g, 0 ≤ p ∧ p < rs.length) : bnd (evSs K (entry fn_raw_opens [.val (.tuple (rs.map eL)), .val G, .val O]) b_raw_opens) outOf = ret (.bool (opensB rs g d)) := by
  have e1 : ∀ key : Int, lcL (fun x => bnd (idxV (.tuple (rs.map eL)) x) fun y => bnd (cmpV .isin (.int key) y) fun y => ret (some y)) (g.map .int) = ret (g.map fun p => .bool (decide (key ∈ at_ rs p))) := fun key =>
    lc_all (fun p => .bool (decide (key ∈ at_ rs p))) fun p hp => by
      rw [idx_tup eL rs (hg p hp).1 (hg p hp).2, bnd_ret, isin_eL, bnd_ret]
  simp [fn_raw_opens, b_raw_opens, entry, hG, hO]
  have e2 : lcL (fun x => bnd (calm (lcL (fun p => bnd (idxV (.tuple (rs.map eL)) p) fun y => bnd (cmpV .isin x y) fun y => ret (some y)) (g.map .int))) fun a => bnd (b1V .any (.list a)) fun y => ret (some y)) (d.map .int) = ret (d.map fun key => .bool (g.any fun p => decide (key ∈ at_ rs p))) :=
    lc_all (fun key => .bool (g.any fun p => decide (key ∈ at_ rs p))) fun key _ => by
      rw [e1, calm_ret, bnd_ret, any_map, bnd_ret]
  rw [e2]
  simp [opensB]
theorem c_raw_opens (n : Nat) (rs : List (List Int)) {G O : D} {g d : List Int} (hG : walkD G = ret (g.map .int)) (hO : walkD O = ret (d.map .int)) (hg : ∀ p ∈ g, 0 ≤ p ∧ p < rs.length) : callF P (n + 1) F_raw_opens [.val (.tuple (rs.map eL)), .val G, .val O] = ret (.bool (opensB rs g d)) := by
  rw [cf, runFn_eq _ _ _ rfl]
  exact opens_body _ rs hG hO hg
variable [Has P F_is_door fn_is_door]
theorem c_is_door (n : Nat) (d : List Int) (h : lotB d 10 = true) (h0 : d ≠ []) : callF P (n + 4) F_is_door [.val (eL d)] = ret (.bool true) := by
  rw [cf, runFn_eq _ _ _ rfl]
  have e := c_is_lot (P := P) n (eL d) 10
  rw [isLot_eL, h] at e
  have hl : 0 < d.length := List.length_pos_iff.mpr h0
  simp [fn_is_door, b_is_door, entry, e, len_eL, hl]
variable [Has P F_are_rings fn_are_rings]
structure Good (rs : List (List Int)) : Prop where
  l1 : 1 ≤ rs.length
  l2 : rs.length ≤ 5
  lot : ∀ r ∈ rs, lotB r 10 = true
theorem c_are_rings (n : Nat) {rs : List (List Int)} (h : Good rs) : callF P (n + 4) F_are_rings [.val (.tuple (rs.map eL))] = ret (.bool true) := by
  rw [cf, runFn_eq _ _ _ rfl]
  have e1 := c_is_sized (P := P) (n + 2) (.tuple (rs.map eL)) 1 5
  have e2 : sizedD (.tuple (rs.map eL)) 1 5 = true := by
    have := h.l1; have := h.l2
    simp [sizedD]; omega
  rw [e2] at e1
  have e3 : lcL (fun x => bnd (callF P (n + 3) F_is_lot [.val x, .val (.int 10)]) fun y => ret (some y)) (rs.map eL) = ret (rs.map fun _ => .bool true) :=
    lc_all (fun _ => .bool true) fun r hr => by rw [c_is_lot, isLot_eL, h.lot r hr, bnd_ret]
  simp [fn_are_rings, b_are_rings, entry, e1, wk_tup]
  rw [e3]
  simp
  rw [List.all_eq_true.mpr fun _ _ => rfl]
variable [Has P F_check_rings fn_check_rings]
theorem c_check_rings (n : Nat) {rs : List (List Int)} (h : Good rs) : callF P (n + 5) F_check_rings [.val (.tuple (rs.map eL))] = ret .none := by
  rw [cf, runFn_eq _ _ _ rfl]
  have e := c_are_rings (P := P) n h
  simp [fn_check_rings, b_check_rings, entry, e]
variable [Has P F_check_door fn_check_door]
theorem c_check_door (n : Nat) {rs : List (List Int)} (h : Good rs) {d : List Int} (hd : lotB d 10 = true) (h0 : d ≠ []) : callF P (n + 6) F_check_door [.val (.tuple (rs.map eL)), .val (eL d)] = ret .none := by
  rw [cf, runFn_eq _ _ _ rfl]
  have e1 := c_check_rings (P := P) n h
  have e2 := c_is_door (P := P) (n + 1) d hd h0
  simp [fn_check_door, b_check_door, entry, e1, e2]
variable [Has P F_opens fn_opens]
theorem c_opens (n : Nat) {rs : List (List Int)} (h : Good rs) {g d : List Int} (hg : lotB g rs.length = true) (hd : lotB d 10 = true) (h0 : d ≠ []) : callF P (n + 6) F_opens [.val (.tuple (rs.map eL)), .val (eL g), .val (eL d)] = ret (.bool (opensB rs g d)) := by
  rw [cf, runFn_eq _ _ _ rfl]
  have e1 := c_check_rings (P := P) n h
  have e2 := c_is_door (P := P) (n + 1) d hd h0
  have e3 := c_is_lot (P := P) (n + 2) (eL g) rs.length
  rw [isLot_eL, hg] at e3
  have hb : ∀ p ∈ g, 0 ≤ p ∧ p < rs.length := fun p hp => by
    simp only [lotB, Bool.and_eq_true, List.all_eq_true, decide_eq_true_eq] at hg
    have := hg.1 p hp
    omega
  have e4 := c_raw_opens (P := P) (n + 4) rs (wk_eL g) (wk_eL d) hb
  simp [fn_opens, b_opens, entry, e1, e2, e3, e4, len_map]
/-! ### lots -/
variable [Has P F_all_lots fn_all_lots]
theorem c_all_lots (n : Nat) {S : D} {xs : List Int} (hS : walkD S = ret (xs.map .int)) (hl : xs.length ≤ 12) : callF P (n + 1) F_all_lots [.val S] = ret (.list ((lotsOf xs).map eL)) := by
  rw [cf, runFn_eq _ _ _ rfl]
  exact lots_body _ (S0 := .val S) (it := .var 0) (fun f => by simp [hS]) hl
/-- the groups of n persons -/
def groups (n : Nat) : List (List Int) := lotsOf (rangeI 0 n)
variable [Has P F_groups_of fn_groups_of]
theorem c_groups_of (n : Nat) {rs : List (List Int)} (h : rs.length ≤ 5) : callF P (n + 2) F_groups_of [.val (.tuple (rs.map eL))] = ret (.list ((groups rs.length).map eL)) := by
  rw [cf, runFn_eq _ _ _ rfl]
  have e := c_all_lots (P := P) n (S := .list ((rangeI 0 rs.length).map .int)) rfl (by rw [length_rangeI]; omega)
  have e2 : b1V .list (.list ((rangeI 0 rs.length).map PyData.int)) = ret (.list ((rangeI 0 rs.length).map .int)) := rfl
  simp [fn_groups_of, b_groups_of, entry, len_map, list_range (n := rs.length) (by omega) (by omega), e2]
  exact e
/-! ### what is known of groups -/
theorem groups_lot : ∀ n : Nat, n ≤ 5 → ∀ g ∈ groups n, lotB g n = true := by
  intro n hn
  have : n = 0 ∨ n = 1 ∨ n = 2 ∨ n = 3 ∨ n = 4 ∨ n = 5 := by omega
  rcases this with rfl | rfl | rfl | rfl | rfl | rfl <;> decide +kernel
theorem groups_small (n : Nat) (hn : n ≤ 5) : (groups n).length ≤ 16777216 := by
  have : n = 0 ∨ n = 1 ∨ n = 2 ∨ n = 3 ∨ n = 4 ∨ n = 5 := by omega
  rcases this with rfl | rfl | rfl | rfl | rfl | rfl <;> decide +kernel
theorem lot_bound {g : List Int} {n : Nat} (h : lotB g n = true) : ∀ p ∈ g, 0 ≤ p ∧ p < n := fun p hp => by
  simp only [lotB, Bool.and_eq_true, List.all_eq_true, decide_eq_true_eq] at h
  have := h.1 p hp
  omega
def without (g : List Int) (p : Int) : List Int := g.filter fun o => !decide (o = p)
/-- the groups that open, no part of which does -/
def leastOf (op : List Int → Bool) (gs : List (List Int)) : List (List Int) := gs.filter fun g => op g && !g.any fun p => op (without g p)
theorem sortOk_groups {xs : List (List Int)} {n : Nat} (hn : n ≤ 5) (h : xs.length ≤ (groups n).length) : sortOk (xs.map eL) = true := sortOk_eL (Nat.le_trans h (groups_small n hn))
variable [Has P F_raw_least fn_raw_least]
theorem c_raw_least (n : Nat) {rs : List (List Int)} (h : rs.length ≤ 5) {d : List Int} : callF P (n + 3) F_raw_least [.val (.tuple (rs.map eL)), .val (eL d)] = ret (.list ((sortE eL (leastOf (fun g => opensB rs g d) (groups rs.length))).map eL)) := by
  rw [cf, runFn_eq _ _ _ rfl]
  have eg := c_groups_of (P := P) n h
  have hlots := groups_lot rs.length h
  have hsm := groups_small rs.length h
  let fold := fun (acc : List (List Int)) (g : List Int) => if (opensB rs g d && !g.any fun p => opensB rs (without g p) d) = true then acc ++ [g] else acc
  have hfold : ∀ (pre : List (List Int)), pre.foldl fold [] = leastOf (fun g => opensB rs g d) pre := fun pre => (fold_filter (fun g => opensB rs g d && !g.any fun p => opensB rs (without g p) d) pre []).trans (by rw [List.nil_append]; rfl)
  have hf := forS (K := calOf P (n + 2)) (env := [.val (.tuple (rs.map eL)), .val (eL d), .own (.list []), .no, .no, .no, .no, .no]) (t := .name 3) (it := .call 11 [.var 0]) (car := [2]) (tmp := [3, 4]) (body := [.ite (.call 9 [.var 0, .var 3, .var 1]) [.asg (.name 4) (.lc (.b1 .tuple (.lc (.var 6) (.name 6) (.var 3) [.cmp .ne (.var 6) (.var 5)] [6])) (.name 5) (.var 3) [] [5]), .ite (.not (.b1 .any (.lc (.call 9 [.var 0, .var 7, .var 1]) (.name 7) (.var 4) [] [7]))) [.app 2 (.var 3)] []] []]) eL
    (fun s : List (List Int) => [Slot.own (.list (s.map eL))]) fold (groups rs.length) [] (by simp [eg, wk_lst]) rfl (fun pre g post hp => by
      rw [hfold]
      have hg : g ∈ groups rs.length := by rw [hp]; simp
      have hb := lot_bound (hlots g hg)
      have hopen := c_raw_opens (P := P) (n + 1) rs (wk_eL g) (wk_eL d) hb
      have hlen : (leastOf (fun g => opensB rs g d) pre).length < 16777216 := by
        have h1 : (leastOf (fun g => opensB rs g d) pre).length ≤ pre.length := List.length_filter_le _ _
        have h2 : pre.length < (groups rs.length).length := by rw [hp, List.length_append, List.length_cons]; omega
        omega
      have hin : ∀ p : Int, lcL (fun x => bnd (cmpV .ne x (.int p)) fun x_1 => bnd (truthyV x_1) fun b => iteM b (ret (some x)) (ret none)) (g.map .int) = ret ((without g p).map .int) := fun p =>
        lc_if (fun o => !decide (o = p)) .int fun o _ => by simp
      have hparts : lcL (fun x => bnd (calm (lcL (fun x_1 => bnd (cmpV .ne x_1 x) fun x_2 => bnd (truthyV x_2) fun b => iteM b (ret (some x_1)) (ret none)) (g.map .int))) fun a => ret (some (PyData.tuple a))) (g.map .int) = ret ((g.map fun p => without g p).map eL) := by
        rw [lc_all (fun p => eL (without g p)) fun p _ => by rw [hin, calm_ret, bnd_ret]; rfl, List.map_map]
        rfl
      have hany : lcL (fun x => bnd (callF P (n + 2) 9 [.val (.tuple (rs.map eL)), .val x, .val (eL d)]) fun y => ret (some y)) ((g.map fun p => without g p).map eL) = ret ((g.map fun p => without g p).map fun q => .bool (opensB rs q d)) :=
        lc_all (fun q => .bool (opensB rs q d)) fun q hq => by
          obtain ⟨p, _, rfl⟩ := List.mem_map.mp hq
          show bnd (callF P (n + 1 + 1) F_raw_opens [.val (.tuple (rs.map eL)), .val (eL (without g p)), .val (eL d)]) _ = _
          rw [c_raw_opens (P := P) (n + 1) rs (g := without g p) (wk_eL _) (wk_eL d) fun o ho => hb o (List.mem_filter.mp ho).1, bnd_ret]
      by_cases c1 : opensB rs g d = true
      · rw [c1] at hopen
        by_cases c2 : (g.any fun p => opensB rs (without g p) d) = true
        · have c3 : ((g.map fun p => without g p).any fun q => opensB rs q d) = true := by rw [List.any_map]; exact c2
          have e3 : fold (leastOf (fun g => opensB rs g d) pre) g = leastOf (fun g => opensB rs g d) pre := if_neg (by rw [c1, c2]; decide)
          rw [e3]
          simp [hopen, wk_eL, hparts, wk_lst, hany, c3, -List.map_map, -List.any_map]
        · have c2' : (g.any fun p => opensB rs (without g p) d) = false := by simpa using c2
          have c3 : ((g.map fun p => without g p).any fun q => opensB rs q d) = false := by rw [List.any_map]; exact c2'
          have e3 : fold (leastOf (fun g => opensB rs g d) pre) g = leastOf (fun g => opensB rs g d) pre ++ [g] := if_pos (by rw [c1, c2']; rfl)
          rw [e3]
          simp [hopen, wk_eL, hparts, wk_lst, hany, c3, -List.map_map, -List.any_map, -List.map_append]
          rw [app_own eL _ g _ 2 hlen rfl]
          simp [-List.map_append]
      · have c1' : opensB rs g d = false := by simpa using c1
        rw [c1'] at hopen
        have e3 : fold (leastOf (fun g => opensB rs g d) pre) g = leastOf (fun g => opensB rs g d) pre := if_neg (by rw [c1']; simp)
        rw [e3]
        simp [hopen])
  rw [hfold] at hf
  have hs := sorted_of eL (sortOk_groups (xs := leastOf (fun g => opensB rs g d) (groups rs.length)) h (List.length_filter_le _ _))
  simp [fn_raw_least, b_raw_least, entry]
  rw [hf]
  simp [hs]
variable [Has P F_least_groups fn_least_groups]
def leastL (rs : List (List Int)) (d : List Int) : List (List Int) := sortE eL (leastOf (fun g => opensB rs g d) (groups rs.length))
theorem c_least_groups (n : Nat) {rs : List (List Int)} (h : Good rs) {d : List Int} (hd : lotB d 10 = true) (h0 : d ≠ []) : callF P (n + 7) F_least_groups [.val (.tuple (rs.map eL)), .val (eL d)] = ret (.tuple ((leastL rs d).map eL)) := by
  rw [cf, runFn_eq _ _ _ rfl]
  have e1 := c_check_door (P := P) n h hd h0
  have e2 := c_raw_least (P := P) (n + 3) (rs := rs) h.l2 (d := d)
  simp [fn_least_groups, b_least_groups, entry, e1, e2, leastL]
variable [Has P F_locked_out fn_locked_out]
def lockedL (rs : List (List Int)) (gs : List (List Int)) : List Int := (rangeI 0 rs.length).filter fun p => !gs.any fun g => decide (p ∈ g)
theorem locked_lc (p : Int) (gs : List (List Int)) : lcL (fun x => bnd (cmpV .isin (.int p) x) fun y => ret (some y)) (gs.map eL) = ret (gs.map fun g => .bool (decide (p ∈ g))) :=
  lc_all (fun g => .bool (decide (p ∈ g))) fun g _ => by rw [isin_eL, bnd_ret]
theorem c_locked_out (n : Nat) {rs : List (List Int)} (h : Good rs) {d : List Int} (hd : lotB d 10 = true) (h0 : d ≠ []) : callF P (n + 7) F_locked_out [.val (.tuple (rs.map eL)), .val (eL d)] = ret (eL (lockedL rs (leastL rs d))) := by
  rw [cf, runFn_eq _ _ _ rfl]
  have e1 := c_check_door (P := P) n h hd h0
  have e2 := c_raw_least (P := P) (n + 3) (rs := rs) h.l2 (d := d)
  have e3 : lcL (fun x => bnd (calm (lcL (fun y => bnd (cmpV .isin x y) fun y => ret (some y)) ((leastL rs d).map eL))) fun a => bnd (b1V .any (.list a)) fun a => bnd (truthyV a) fun a => iteM (!a) (ret (some x)) (ret none)) ((rangeI 0 rs.length).map .int) = ret ((lockedL rs (leastL rs d)).map .int) :=
    lc_if (fun p => !(leastL rs d).any fun g => decide (p ∈ g)) .int fun p _ => by
      rw [locked_lc, calm_ret, bnd_ret, any_map, bnd_ret, truthy_bool, bnd_ret]
  have hl := h.l2
  simp [fn_locked_out, b_locked_out, entry, e1, e2, len_map, list_range (n := rs.length) (by omega) (by omega), wk_lst]
  unfold leastL at e3
  rw [e3]
  simp [leastL, eL]
variable [Has P F_check_number fn_check_number]
theorem c_check_number (n : Nat) {rs : List (List Int)} (h : Good rs) {d : List Int} (hd : lotB d 10 = true) (h0 : d ≠ []) {k : Int} (h1 : 1 ≤ k) (h2 : k ≤ rs.length) : callF P (n + 7) F_check_number [.val (.tuple (rs.map eL)), .val (eL d), .val (.int k)] = ret .none := by
  rw [cf, runFn_eq _ _ _ rfl]
  have e1 := c_check_door (P := P) n h hd h0
  have e2 := c_is_within (P := P) (n + 4) (.int k) 1 rs.length
  have e3 : withinD (.int k) 1 rs.length = true := by simp [withinD, h1, h2]
  rw [e3] at e2
  simp [fn_check_number, b_check_number, entry, e1, e2, len_map]
variable [Has P F_bars_of fn_bars_of]
def fewerL (op : List Int → Bool) (gs : List (List Int)) (k : Int) : List (List Int) := gs.filter fun g => decide ((g.length : Int) < k) && op g
def noneL (op : List Int → Bool) (gs : List (List Int)) (k : Int) : List (List Int) := gs.filter fun g => decide ((g.length : Int) = k) && !op g
def gsS (n : Nat) : List (List Int) := sortE eL (groups n)
theorem c_bars_of (n : Nat) {rs : List (List Int)} (h : rs.length ≤ 5) {d : List Int} (k : Int) : callF P (n + 3) F_bars_of [.val (.tuple (rs.map eL)), .val (eL d), .val (.int k)] = ret (.tuple [.list ((fewerL (fun g => opensB rs g d) (gsS rs.length) k).map eL), .list ((noneL (fun g => opensB rs g d) (gsS rs.length) k).map eL)]) := by
  rw [cf, runFn_eq _ _ _ rfl]
  have eg := c_groups_of (P := P) n h
  have hlots := groups_lot rs.length h
  have hs := sorted_of eL (sortOk_groups (xs := groups rs.length) h (Nat.le_refl _))
  have hopen : ∀ g ∈ gsS rs.length, callF P (n + 2) 9 [.val (.tuple (rs.map eL)), .val (eL g), .val (eL d)] = ret (.bool (opensB rs g d)) := fun g hg =>
    c_raw_opens (P := P) (n + 1) rs (wk_eL g) (wk_eL d) (lot_bound (hlots g ((mem_sortE eL).mp hg)))
  have e1 : lcL (fun x => bnd (b1V .len x) fun a => bnd (cmpV .lt a (.int k)) fun v => bnd (andV v (callF P (n + 2) 9 [.val (.tuple (rs.map eL)), .val x, .val (eL d)])) fun a => bnd (truthyV a) fun b => iteM b (ret (some x)) (ret none)) ((gsS rs.length).map eL) = ret ((fewerL (fun g => opensB rs g d) (gsS rs.length) k).map eL) :=
    lc_if (fun g => decide ((g.length : Int) < k) && opensB rs g d) eL fun g hg => by
      rw [len_eL, bnd_ret, cmp_lt_int, bnd_ret, andV_bool, hopen g hg]
      by_cases c : (g.length : Int) < k <;> simp [c]
  have e2 : lcL (fun x => bnd (b1V .len x) fun a => bnd (cmpV .eq a (.int k)) fun v => bnd (andV v (bnd (callF P (n + 2) 9 [.val (.tuple (rs.map eL)), .val x, .val (eL d)]) fun a => bnd (truthyV a) fun b => ret (.bool !b))) fun a => bnd (truthyV a) fun b => iteM b (ret (some x)) (ret none)) ((gsS rs.length).map eL) = ret ((noneL (fun g => opensB rs g d) (gsS rs.length) k).map eL) :=
    lc_if (fun g => decide ((g.length : Int) = k) && !opensB rs g d) eL fun g hg => by
      rw [len_eL, bnd_ret, cmp_eq_int, bnd_ret, andV_bool, hopen g hg]
      by_cases c : (g.length : Int) = k <;> simp [c]
  simp [fn_bars_of, b_bars_of, entry, eg, hs, wk_lst]
  unfold gsS at e1 e2
  rw [e1]
  simp
  rw [e2]
  simp [gsS]
variable [Has P F_any_told fn_any_told]
def sAny : D := .str (Str.ofString "any")
def sFewer : D := .str (Str.ofString "fewer")
def sNone : D := .str (Str.ofString "none")
def anyD (few non : List (List Int)) : D := match few, non with
  | g :: _, _ => .tuple [sFewer, eL g]
  | [], g :: _ => .tuple [sNone, eL g]
  | [], [] => .tuple [sAny]
theorem c_any_told (n : Nat) {rs : List (List Int)} (h : Good rs) {d : List Int} (hd : lotB d 10 = true) (h0 : d ≠ []) {k : Int} (h1 : 1 ≤ k) (h2 : k ≤ rs.length) : callF P (n + 8) F_any_told [.val (.tuple (rs.map eL)), .val (eL d), .val (.int k)] = ret (anyD (fewerL (fun g => opensB rs g d) (gsS rs.length) k) (noneL (fun g => opensB rs g d) (gsS rs.length) k)) := by
  rw [cf, runFn_eq _ _ _ rfl]
  have e1 := c_check_number (P := P) n h hd h0 h1 h2
  have e2 := c_bars_of (P := P) (n + 4) (rs := rs) h.l2 (d := d) k
  generalize fewerL (fun g => opensB rs g d) (gsS rs.length) k = few at e2 ⊢
  generalize noneL (fun g => opensB rs g d) (gsS rs.length) k = non at e2 ⊢
  have i0 : ∀ (x : D) (xs : List D), idxV (.list (x :: xs)) (.int 0) = ret x := fun x xs => by
    show atD (x :: xs) 0 = _
    unfold atD ixOf
    rw [if_pos (by decide), if_pos (by simp)]
    rfl
  have ln : ∀ (xs : List D), b1V .len (.list xs) = ret (.int xs.length) := fun xs => rfl
  cases few with
  | cons g few =>
    simp [fn_any_told, b_any_told, entry, e1, e2, ln, i0, anyD, sFewer]
  | nil =>
    cases non with
    | cons g non =>
      simp [fn_any_told, b_any_told, entry, e1, e2, ln, i0, anyD, sNone]
    | nil => simp [fn_any_told, b_any_told, entry, e1, e2, ln, anyD, sAny]
theorem eq_str (a b : Str) : cmpV .eq (.str a) (.str b) = ret (.bool (a == b)) := by
  show chk (eqOk (.str a) (.str b)) _ = _
  rw [chk_of _ (by simp [eqOk, PyData.plain, deepOk, PyData.depth])]
  simp [PyData.eqv]
variable [Has P F_is_any_told fn_is_any_told]
section
variable (n : Nat) {rs : List (List Int)} (h : Good rs) {d : List Int} (hd : lotB d 10 = true) (h0 : d ≠ []) {k : Int} (h1 : 1 ≤ k) (h2 : k ≤ rs.length)
include h hd h0 h1 h2
theorem c_isany_A {t : D} (t1 : sizedD t 1 1 = false) (t2 : sizedD t 2 2 = false) : callF P (n + 8) F_is_any_told [.val (.tuple (rs.map eL)), .val (eL d), .val (.int k), .val t] = ret (.bool false) := by
  rw [cf, runFn_eq _ _ _ rfl]
  have e1 := c_check_number (P := P) n h hd h0 h1 h2
  have e2 := c_bars_of (P := P) (n + 4) (rs := rs) h.l2 (d := d) k
  have e3 := c_is_sized (P := P) (n + 6) t 1 1
  have e4 := c_is_sized (P := P) (n + 6) t 2 2
  rw [t1] at e3
  rw [t2] at e4
  simp [fn_is_any_told, b_is_any_told, entry, e1, e2, e3, e4]
theorem c_isany_B {s : Str} : callF P (n + 8) F_is_any_told [.val (.tuple (rs.map eL)), .val (eL d), .val (.int k), .val (.tuple [.str s])] =
    ret (.bool ((s == Str.ofString "any") && decide ((fewerL (fun g => opensB rs g d) (gsS rs.length) k).length + (noneL (fun g => opensB rs g d) (gsS rs.length) k).length = 0))) := by
  rw [cf, runFn_eq _ _ _ rfl]
  have e1 := c_check_number (P := P) n h hd h0 h1 h2
  have e2 := c_bars_of (P := P) (n + 4) (rs := rs) h.l2 (d := d) k
  have e3 : callF P (n + 7) 2 [.val (.tuple [.str s]), .val (.int 1), .val (.int 1)] = ret (.bool true) := c_is_sized (P := P) (n + 6) (.tuple [.str s]) 1 1
  have i0 : idxV (.tuple [.str s]) (.int 0) = ret (.str s) := rfl
  simp [fn_is_any_told, b_is_any_told, entry, e1, e2, e3, i0, tyV, PyData.isStr, eq_str, len_mapL]
  cases (s == Str.ofString "any") with
  | false => simp
  | true =>
    simp
    congr 2
    rw [Bool.eq_iff_iff, decide_eq_true_eq, Bool.and_eq_true, decide_eq_true_eq, decide_eq_true_eq, ← List.length_eq_zero_iff, ← List.length_eq_zero_iff]
    omega
theorem c_isany_C {s : Str} {x : D} (hx : isLotD x rs.length = false) : callF P (n + 8) F_is_any_told [.val (.tuple (rs.map eL)), .val (eL d), .val (.int k), .val (.tuple [.str s, x])] = ret (.bool false) := by
  rw [cf, runFn_eq _ _ _ rfl]
  have e1 := c_check_number (P := P) n h hd h0 h1 h2
  have e2 := c_bars_of (P := P) (n + 4) (rs := rs) h.l2 (d := d) k
  have e3 : callF P (n + 7) 2 [.val (.tuple [.str s, x]), .val (.int 1), .val (.int 1)] = ret (.bool false) := c_is_sized (P := P) (n + 6) (.tuple [.str s, x]) 1 1
  have e4 : callF P (n + 7) 2 [.val (.tuple [.str s, x]), .val (.int 2), .val (.int 2)] = ret (.bool true) := c_is_sized (P := P) (n + 6) (.tuple [.str s, x]) 2 2
  have e5 : callF P (n + 7) 3 [.val x, .val (.int rs.length)] = ret (.bool false) := by
    have := c_is_lot (P := P) (n + 4) x rs.length
    rw [hx] at this
    exact this
  have i0 : idxV (.tuple [.str s, x]) (.int 0) = ret (.str s) := rfl
  have i1 : idxV (.tuple [.str s, x]) (.int 1) = ret x := rfl
  simp [fn_is_any_told, b_is_any_told, entry, e1, e2, e3, e4, e5, i0, i1, tyV, PyData.isStr, len_map]
theorem c_isany_D {s : Str} {g : List Int} (hg : lotB g rs.length = true) : callF P (n + 8) F_is_any_told [.val (.tuple (rs.map eL)), .val (eL d), .val (.int k), .val (.tuple [.str s, eL g])] =
    ret (.bool (((s == Str.ofString "fewer") && decide (g ∈ fewerL (fun g => opensB rs g d) (gsS rs.length) k)) || ((s == Str.ofString "none") && decide (g ∈ noneL (fun g => opensB rs g d) (gsS rs.length) k)))) := by
  rw [cf, runFn_eq _ _ _ rfl]
  have e1 := c_check_number (P := P) n h hd h0 h1 h2
  have e2 := c_bars_of (P := P) (n + 4) (rs := rs) h.l2 (d := d) k
  have e3 : callF P (n + 7) 2 [.val (.tuple [.str s, eL g]), .val (.int 1), .val (.int 1)] = ret (.bool false) := c_is_sized (P := P) (n + 6) (.tuple [.str s, eL g]) 1 1
  have e4 : callF P (n + 7) 2 [.val (.tuple [.str s, eL g]), .val (.int 2), .val (.int 2)] = ret (.bool true) := c_is_sized (P := P) (n + 6) (.tuple [.str s, eL g]) 2 2
  have e5 : callF P (n + 7) 3 [.val (eL g), .val (.int rs.length)] = ret (.bool true) := by
    have := c_is_lot (P := P) (n + 4) (eL g) rs.length
    rw [isLot_eL, hg] at this
    exact this
  have i0 : idxV (.tuple [.str s, eL g]) (.int 0) = ret (.str s) := rfl
  have i1 : idxV (.tuple [.str s, eL g]) (.int 1) = ret (eL g) := rfl
  simp [fn_is_any_told, b_is_any_told, entry, e1, e2, e3, e4, e5, i0, i1, tyV, PyData.isStr, len_map, eq_str, isin_eLL]
  cases (s == Str.ofString "fewer") <;> cases (s == Str.ofString "none") <;> cases decide (g ∈ fewerL (fun g => opensB rs g d) (gsS rs.length) k) <;> simp
end
/-! ### refusals -/
theorem x_is_door (n : Nat) {d : D} (h : isLotD d 10 = false ∨ d = .tuple []) : callF P (n + 4) F_is_door [.val d] = ret (.bool false) := by
  rw [cf, runFn_eq _ _ _ rfl]
  have e := c_is_lot (P := P) n d 10
  rcases h with h | h
  · rw [h] at e
    simp [fn_is_door, b_is_door, entry, e]
  · subst h
    have h2 : isLotD (.tuple []) 10 = true := rfl
    rw [h2] at e
    have hl : b1V .len (.tuple []) = ret (.int 0) := rfl
    simp [fn_is_door, b_is_door, entry, e, hl]
section
variable (n : Nat) {rs : List (List Int)} (h : Good rs)
include h
theorem x_opens_group {g O : D} (hg : isLotD g rs.length = false) : callF P (n + 6) F_opens [.val (.tuple (rs.map eL)), .val g, .val O] = thr ⟨X_NoGroup, []⟩ := by
  rw [cf, runFn_eq _ _ _ rfl]
  have e1 := c_check_rings (P := P) n h
  have e3 := c_is_lot (P := P) (n + 2) g rs.length
  rw [hg] at e3
  simp [fn_opens, b_opens, entry, e1, e3, len_map]
theorem x_opens_door {g : List Int} {O : D} (hg : lotB g rs.length = true) (hO : callF P (n + 5) F_is_door [.val O] = ret (.bool false)) : callF P (n + 6) F_opens [.val (.tuple (rs.map eL)), .val (eL g), .val O] = thr ⟨X_NoDoor, []⟩ := by
  rw [cf, runFn_eq _ _ _ rfl]
  have e1 := c_check_rings (P := P) n h
  have e3 := c_is_lot (P := P) (n + 2) (eL g) rs.length
  rw [isLot_eL, hg] at e3
  simp [fn_opens, b_opens, entry, e1, e3, hO, len_map]
theorem x_check_door {O : D} (hO : callF P (n + 5) F_is_door [.val O] = ret (.bool false)) : callF P (n + 6) F_check_door [.val (.tuple (rs.map eL)), .val O] = thr ⟨X_NoDoor, []⟩ := by
  rw [cf, runFn_eq _ _ _ rfl]
  have e1 := c_check_rings (P := P) n h
  simp [fn_check_door, b_check_door, entry, e1, hO]
theorem x_least_groups {O : D} (hO : callF P (n + 5) F_is_door [.val O] = ret (.bool false)) : callF P (n + 7) F_least_groups [.val (.tuple (rs.map eL)), .val O] = thr ⟨X_NoDoor, []⟩ := by
  rw [cf, runFn_eq _ _ _ rfl]
  have e1 := x_check_door (P := P) n h hO
  simp [fn_least_groups, b_least_groups, entry, e1]
theorem x_locked_out {O : D} (hO : callF P (n + 5) F_is_door [.val O] = ret (.bool false)) : callF P (n + 7) F_locked_out [.val (.tuple (rs.map eL)), .val O] = thr ⟨X_NoDoor, []⟩ := by
  rw [cf, runFn_eq _ _ _ rfl]
  have e1 := x_check_door (P := P) n h hO
  simp [fn_locked_out, b_locked_out, entry, e1]
theorem x_any_door {O k : D} (hO : callF P (n + 5) F_is_door [.val O] = ret (.bool false)) : callF P (n + 8) F_any_told [.val (.tuple (rs.map eL)), .val O, .val k] = thr ⟨X_NoDoor, []⟩ := by
  rw [cf, runFn_eq _ _ _ rfl]
  have e1 := x_check_door (P := P) n h hO
  have e2 : callF P (n + 7) F_check_number [.val (.tuple (rs.map eL)), .val O, .val k] = thr ⟨X_NoDoor, []⟩ := by
    rw [cf, runFn_eq _ _ _ rfl]
    simp [fn_check_number, b_check_number, entry, e1]
  simp [fn_any_told, b_any_told, entry, e2]
theorem x_any_count {d : List Int} (hd : lotB d 10 = true) (h0 : d ≠ []) {k : D} (hk : withinD k 1 rs.length = false) : callF P (n + 8) F_any_told [.val (.tuple (rs.map eL)), .val (eL d), .val k] = thr ⟨X_NoCount, []⟩ := by
  rw [cf, runFn_eq _ _ _ rfl]
  have e1 := c_check_door (P := P) n h hd h0
  have e3 := c_is_within (P := P) (n + 4) k 1 rs.length
  rw [hk] at e3
  have e2 : callF P (n + 7) F_check_number [.val (.tuple (rs.map eL)), .val (eL d), .val k] = thr ⟨X_NoCount, []⟩ := by
    rw [cf, runFn_eq _ _ _ rfl]
    simp [fn_check_number, b_check_number, entry, e1, e3, len_map]
  simp [fn_any_told, b_any_told, entry, e2]
end
end
end Ev.KR
set_option Elab.async false
set_option linter.all false
set_option maxRecDepth 100000
set_option maxHeartbeats 4000000
/-! The ring laws' own defs. -/
namespace Ev.KR
open Ev PySem PySem.W
def dc : DrawC := ⟨69621, 40692, 31, 2147483629, 7919, 48271, 2147483647, 1009, 69621, 2147483647, 2003, 40014, 2147483563, 16⟩
theorem dcOk : dc.Ok := ⟨by decide, by decide, ⟨by decide, by decide⟩, by decide, by decide, ⟨by decide, by decide⟩, ⟨by decide, by decide⟩, ⟨by decide, by decide⟩, ⟨by decide, by decide⟩, ⟨by decide, by decide⟩, ⟨by decide, by decide⟩⟩
section
variable {P : Prg} [Has P F__law_draw fn__law_draw]
theorem draw (n : Nat) {many : Int} (h0 : 0 < many) (h1 : many < 1073741824) : Wp (callF P (n + 1) F__law_draw [.hand, .val (.int many)]) fun d => ∃ i : Int, d = .int i ∧ 0 ≤ i ∧ i < many :=
  draw_ok dcOk (drawMixA_ok dc dcOk) (Has.h (P := P) (f := F__law_draw)) n h0 h1
variable [Has P F__law_any fn__law_any]
theorem any (n : Nat) {xs : List D} (h0 : xs ≠ []) (h1 : xs.length < 1073741824) : Wp (callF P (n + 2) F__law_any [.hand, .val (.list xs)]) fun d => d ∈ xs :=
  any_ok dcOk (drawMixA_ok dc dcOk) (Has.h (P := P) (f := F__law_draw)) (Has.h (P := P) (f := F__law_any)) n h0 h1
variable [Has P F__law_hand fn__law_hand]
theorem hand (n : Nat) (ns : List Int) : ns.length ≤ 63 → ∃ h, callF P (n + 1) F__law_hand [.raw (intsD ns)] [] = .ok (.list h) [] ∧ headOk h ∧ HI h :=
  hand_ok handA_ok (a := 61) (b := 7) (by decide) (by decide) (Has.h (P := P) (f := F__law_hand)) n ns
def six : List Int := [0, 1, 2, 3, 4, 5]
theorem six_range : rangeV 0 6 1 = ret (six.map .int) := rfl
theorem six_lot {l : List Int} (h : l.Sublist six) : lotB l 10 = true := by
  have h1 : six.Pairwise (· < ·) := by decide
  have h2 := rising_pw (h1.sublist h) rising (fun _ _ _ => rfl) (fun _ => rfl) rfl
  have h3 : ∀ i ∈ six, 0 ≤ i ∧ i ≤ 9 := by decide
  simp only [lotB, h2, Bool.and_true, List.all_eq_true, Bool.and_eq_true, decide_eq_true_eq]
  exact fun i hi => h3 i (h.subset hi)
/-- a lot drawn from six keys -/
theorem six_wp (n : Nat) {env : Env} (he : nth env 0 = .hand) {j : Nat} (hj : ∀ d, nth (put (put env j .no) j (.val d)) 0 = .hand) (hv : ∀ d, nth (put (put env j .no) j (.val d)) j = .val d) :
    Wp (evE (calOf P (n + 1)) env (.b1 .tuple (.lc (.var j) (.name j) (.range (.cst (.int 0)) (.cst (.int 6)) (.cst (.int 1))) [.cmp .eq (.call 20 [.var 0, .cst (.int 3)]) (.cst (.int 0))] [j]))) fun d => ∃ l, d = eL l ∧ l.Sublist six := by
  have hd : Wp (callF P (n + 1) 20 [.hand, .val (.int 3)]) fun d => ∃ i : Int, d = .int i ∧ 0 ≤ i ∧ i < 3 := draw n (by decide) (by decide)
  simp [six_range, wk_lst, hj, hv]
  refine Wp.bnd (Wp.calm ((wp_lcL_sub .int six fun x _ => ?_).mono fun ds ⟨ys, h1, h2⟩ => ?_))
  · refine Wp.bnd (hd.mono fun d ⟨i, hi, _, _⟩ => ?_)
    subst hi
    by_cases c : i = 0
    · simp [c]; exact Wp.ret (.inr rfl)
    · simp [c]; exact Wp.ret (.inl rfl)
  · subst h2
    exact Wp.ret ⟨ys, rfl, h1⟩
variable [Has P F__law_door fn__law_door]
theorem door_wp (n : Nat) : Wp (callF P (n + 2) F__law_door [.hand]) fun d => ∃ l, d = eL l ∧ l ≠ [] ∧ l.Sublist six := by
  rw [cf]
  refine wp_fn rfl ?_
  show Wp (bnd (evSs _ [.hand, .no, .no] b__law_door) outOf) _
  unfold b__law_door
  refine Wp.bnd (evSs_cons ?_)
  have h1 := six_wp (P := P) n (env := [.hand, .no, .no]) rfl (j := 2) (fun _ => rfl) (fun _ => rfl)
  rw [q_asg]
  refine Wp.bnd (h1.mono fun d ⟨l, hd, hl⟩ => ?_)
  subst hd
  have hdr : Wp (callF P (n + 1) 20 [.hand, .val (.int 6)]) fun d => ∃ i : Int, d = .int i ∧ 0 ≤ i ∧ i < 6 := draw n (by decide) (by decide)
  have e0 : (PyData.tuple []) = eL [] := rfl
  conv => enter [1]; simp
  refine Wp.ret ⟨_, rfl, ?_⟩
  by_cases c : l = []
  · conv => enter [1]; simp [e0, ne_eL, c]
    refine Wp.bnd (hdr.mono fun d ⟨i, hi, i0, i1⟩ => ?_)
    subst hi
    conv => enter [1]; simp
    refine Wp.ret (Wp.ret ⟨[i], rfl, by simp, ?_⟩)
    have : i ∈ six := by
      have : i = 0 ∨ i = 1 ∨ i = 2 ∨ i = 3 ∨ i = 4 ∨ i = 5 := by omega
      rcases this with rfl | rfl | rfl | rfl | rfl | rfl <;> decide
    exact List.singleton_sublist.mpr this
  · conv => enter [1]; simp [e0, ne_eL, c]
    exact Wp.ret (Wp.ret ⟨l, rfl, c, hl⟩)
variable [Has P F__law_rings fn__law_rings]
theorem rings_wp (n : Nat) : Wp (callF P (n + 2) F__law_rings [.hand, .val (.int 5)]) fun d => ∃ rs : List (List Int), d = .tuple (rs.map eL) ∧ 1 ≤ rs.length ∧ rs.length ≤ 5 ∧ ∀ r ∈ rs, r.Sublist six := by
  rw [cf]
  refine wp_fn rfl ?_
  show Wp (bnd (evSs _ [.hand, .val (.int 5), .no, .no, .no] b__law_rings) outOf) _
  unfold b__law_rings
  refine Wp.bnd (wp_ss (env' := [.hand, .val (.int 5), .own (.list []), .no, .no]) (by simp) (evSs_cons ?_))
  have hdr : Wp (callF P (n + 1) 20 [.hand, .val (.int 5)]) fun d => ∃ i : Int, d = .int i ∧ 0 ≤ i ∧ i < 5 := draw n (by decide) (by decide)
  refine wp_forS (fun xs s => ∃ rs : List (List Int), s = [.own (.list (rs.map eL))] ∧ (∀ r ∈ rs, r.Sublist six) ∧ 1 ≤ rs.length + xs.length ∧ rs.length + xs.length ≤ 5 ∧ ∀ x ∈ xs, ∃ i : Int, x = .int i) ?_ (fun x xs s hI => ?_) fun s hI => ?_
  · conv => enter [1]; simp
    refine Wp.bnd (hdr.mono fun d ⟨i, hi, i0, i1⟩ => ?_)
    subst hi
    conv => enter [1]; simp [rangeV_I (lo := 0) (hi := 1 + i) (by decide) (by decide) (by omega) (by omega), wk_lst]
    refine Wp.ret ⟨[], rfl, by simp, ?_, ?_, fun x hx => ?_⟩
    · simp [length_rangeI]; omega
    · simp [length_rangeI]; omega
    · obtain ⟨j, _, rfl⟩ := List.mem_map.mp hx
      exact ⟨j, rfl⟩
  · obtain ⟨rs, rfl, h1, h2, h3, h4⟩ := hI
    obtain ⟨i, rfl⟩ := h4 x List.mem_cons_self
    simp only [puts_cons, puts_nil, putS, put0, wipesS, wipes0, asg_name, bnd_ret]
    have h5 := six_wp (P := P) n (env := [.hand, .val (.int 5), .own (.list (rs.map eL)), .val (.int i), .no]) rfl (j := 4) (fun _ => rfl) (fun _ => rfl)
    refine Wp.bnd (evSs_cons ?_)
    rw [q_app]
    simp only [ownB_eq, nthS, nth0, sO_own, bnd_ret]
    refine Wp.bnd (h5.mono fun d ⟨l, hd, hl⟩ => ?_)
    subst hd
    rw [nextM_eq, app_own eL rs l _ 2 (by simp at h3; omega) rfl, bnd_ret]
    refine Wp.ret ⟨_, rfl, ?_⟩
    simp only [q_ss0]
    refine Wp.ret (Wp.ret ⟨_, rfl, rs ++ [l], rfl, fun r hr => ?_, ?_, ?_, fun x hx => h4 x (List.mem_cons_of_mem _ hx)⟩)
    · rcases List.mem_append.mp hr with hr | hr
      · exact h1 r hr
      · rw [List.mem_singleton.mp hr]; exact hl
    · simp at h2 ⊢; omega
    · simp at h3 ⊢; omega
  · obtain ⟨rs, rfl, h1, h2, h3, h4⟩ := hI
    refine ⟨_, rfl, ?_⟩
    conv => enter [1]; simp
    exact Wp.ret (Wp.ret ⟨rs, rfl, by simpa using h2, by simpa using h3, h1⟩)
theorem good_of {rs : List (List Int)} (h1 : 1 ≤ rs.length) (h2 : rs.length ≤ 5) (h3 : ∀ r ∈ rs, r.Sublist six) : Good rs := ⟨h1, h2, fun r hr => six_lot (h3 r hr)⟩
variable [Has P F__law_opens fn__law_opens]
theorem c_law_opens (n : Nat) (rs : List (List Int)) {G O : D} {g d : List Int} (hG : walkD G = ret (g.map .int)) (hO : walkD O = ret (d.map .int)) (hg : ∀ p ∈ g, 0 ≤ p ∧ p < rs.length) : callF P (n + 1) F__law_opens [.val (.tuple (rs.map eL)), .val G, .val O] = ret (.bool (opensB rs g d)) := by
  rw [cf, runFn_eq _ _ _ rfl]
  exact opens_body _ rs hG hO hg
variable [Has P F__law_lots fn__law_lots]
theorem c_law_lots (n k : Nat) (hk : k ≤ 5) : callF P (n + 1) F__law_lots [.val (.int k)] = ret (.list ((groups k).map eL)) := by
  rw [cf, runFn_eq _ _ _ rfl]
  exact lots_body _ (S0 := .val (.int k)) (it := .range (.cst (.int 0)) (.var 0) (.cst (.int 1))) (fun f => by simp [list_range (n := k) (by omega) (by omega), wk_lst]) (by rw [length_rangeI]; omega)
end
end Ev.KR
set_option Elab.async false
set_option linter.all false
set_option maxRecDepth 100000
set_option maxHeartbeats 4000000
/-! Key rings: gifts. -/
namespace Ev.KR
open Ev PySem PySem.W
/-- the rings behind a gift of the key k by a to b -/
def afterL (rs : List (List Int)) (a b k : Int) : List (List Int) :=
  (rs.set a.toNat ((at_ rs a).filter fun x => !decide (x = k))).set b.toNat (sortE .int (at_ rs b ++ [k]))
theorem len_after (rs : List (List Int)) (a b k : Int) : (afterL rs a b k).length = rs.length := by simp [afterL]
section
variable {rs : List (List Int)} {a b k : Int} (a0 : 0 ≤ a) (a1 : a < rs.length) (b0 : 0 ≤ b) (b1 : b < rs.length)
include a0 a1 b0 b1
theorem after_body (K : Cal) (hl : (at_ rs b).length ≤ 1000) : bnd (evSs K (entry fn_raw_after [.val (.tuple (rs.map eL)), .val (eL [a, b, k])]) b_raw_after) outOf = ret (.tuple ((afterL rs a b k).map eL)) := by
  have e0 : ∀ env : Env, assignT (.tup [.name 3, .name 4, .name 5]) (eL [a, b, k]) env = ret (put (put (put env 3 (.val (.int a))) 4 (.val (.int b))) 5 (.val (.int k))) := fun env => by
    show assignT _ (.tuple [.int a, .int b, .int k]) env = _
    simp
  have e1 := idx_tup eL rs a0 a1
  have e2 := idx_tup eL rs b0 b1
  have e3 : lcL (fun x => bnd (cmpV .ne x (.int k)) fun a => bnd (truthyV a) fun b => iteM b (ret (some x)) (ret none)) ((at_ rs a).map .int) = ret (((at_ rs a).filter fun x => !decide (x = k)).map .int) :=
    lc_if (fun x => !decide (x = k)) .int fun x _ => by simp [cmp_ne_int]
  have e4 := add_eL (at_ rs b) k hl
  have e5 : b1V .sorted (eL (at_ rs b ++ [k])) = ret (.list ((sortE .int (at_ rs b ++ [k])).map .int)) := sorted_ofT .int (sortOk_int (by rw [List.length_append]; simp; omega))
  simp [fn_raw_after, b_raw_after, entry, e0, e1, wk_eL, e3]
  rw [show PyData.tuple ((List.filter (fun x => !decide (x = k)) (at_ rs a)).map PyData.int) = eL (List.filter (fun x => !decide (x = k)) (at_ rs a)) from rfl]
  rw [set_own _ _ _ 2 a0 (by simpa using a1) rfl]
  simp [e2, e4, e5]
  rw [show PyData.tuple ((sortE PyData.int (at_ rs b ++ [k])).map PyData.int) = eL (sortE PyData.int (at_ rs b ++ [k])) from rfl]
  rw [set_own _ _ _ 2 b0 (by simpa using b1) rfl]
  simp [afterL]
variable {P : Prg} [Has P F_raw_after fn_raw_after]
theorem c_raw_after (n : Nat) (hl : (at_ rs b).length ≤ 1000) : callF P (n + 1) F_raw_after [.val (.tuple (rs.map eL)), .val (eL [a, b, k])] = ret (.tuple ((afterL rs a b k).map eL)) := by
  rw [cf, runFn_eq _ _ _ rfl]
  exact after_body a0 a1 b0 b1 _ hl
variable [Has P F__law_given fn__law_given]
theorem c_law_given (n : Nat) (hl : (at_ rs b).length ≤ 1000) : callF P (n + 1) F__law_given [.val (.tuple (rs.map eL)), .val (eL [a, b, k])] = ret (.tuple ((afterL rs a b k).map eL)) := by
  rw [cf, runFn_eq _ _ _ rfl]
  exact after_body a0 a1 b0 b1 _ hl
end
section
variable {P : Prg} [Has P F_is_integer fn_is_integer] [Has P F_is_within fn_is_within] [Has P F_is_sized fn_is_sized] [Has P F_raw_gift fn_raw_gift]
/-- is it a gift: of ints -/
def giftB (rs : List (List Int)) (a b k : Int) : Bool := decide (0 ≤ a ∧ a < rs.length) && decide (0 ≤ b ∧ b < rs.length) && !decide (a = b) && decide (0 ≤ k ∧ k ≤ 9) && decide (k ∈ at_ rs a) && !decide (k ∈ at_ rs b)
theorem c_raw_gift (n : Nat) (rs : List (List Int)) (a b k : Int) : callF P (n + 3) F_raw_gift [.val (.tuple (rs.map eL)), .val (eL [a, b, k])] = ret (.bool (giftB rs a b k)) := by
  rw [cf, runFn_eq _ _ _ rfl]
  have e1 : callF P (n + 2) 2 [.val (eL [a, b, k]), .val (.int 3), .val (.int 3)] = ret (.bool true) := c_is_sized (P := P) (n + 1) (eL [a, b, k]) 3 3
  have e2 : ∀ x hi : Int, callF P (n + 2) 1 [.val (.int x), .val (.int 0), .val (.int hi)] = ret (.bool (decide (0 ≤ x) && decide (x ≤ hi))) := fun x hi => c_is_within (P := P) n (.int x) 0 hi
  have e3 : sliceV (eL [a, b, k]) none (some 2) = ret (.tuple ([a, b].map .int)) := rfl
  have i0 : idxV (eL [a, b, k]) (.int 0) = ret (.int a) := rfl
  have i1 : idxV (eL [a, b, k]) (.int 1) = ret (.int b) := rfl
  have i2 : idxV (eL [a, b, k]) (.int 2) = ret (.int k) := rfl
  have e4 : lcL (fun x => bnd (callF P (n + 2) 1 [.val x, .val (.int 0), .val (.int ((rs.length : Int) - 1))]) fun y => ret (some y)) ([a, b].map .int) = ret ([a, b].map fun x => .bool (decide (0 ≤ x) && decide (x ≤ (rs.length : Int) - 1))) :=
    lc_all (fun x => .bool (decide (0 ≤ x) && decide (x ≤ (rs.length : Int) - 1))) fun x _ => by rw [e2, bnd_ret]
  simp only [List.map_cons, List.map_nil] at e3 e4
  simp [fn_raw_gift, b_raw_gift, entry, e1, e2, e3, i0, i1, i2, len_map, optOf, wk_tup, e4, giftB]
  have ea : b1V .all (.list [.bool (decide (0 ≤ a) && decide (a ≤ (rs.length : Int) - 1)), .bool (decide (0 ≤ b) && decide (b ≤ (rs.length : Int) - 1))]) = ret (.bool ((decide (0 ≤ a) && decide (a < rs.length)) && (decide (0 ≤ b) && decide (b < rs.length)))) := by
    have q := all_map (fun x : Int => decide (0 ≤ x) && decide (x ≤ (rs.length : Int) - 1)) [a, b]
    simp only [List.map_cons, List.map_nil, List.all_cons, List.all_nil, Bool.and_true] at q
    have z : ∀ x : Int, decide (x ≤ (rs.length : Int) - 1) = decide (x < rs.length) := fun x => decide_eq_decide.mpr (by omega)
    simp only [z] at q ⊢
    exact q
  rw [ea, bnd_ret, truthy_bool, bnd_ret]
  cases ca : (decide (0 ≤ a) && decide (a < (rs.length : Int)))
  · simp
  · cases cb : (decide (0 ≤ b) && decide (b < (rs.length : Int)))
    · simp
    · simp only [Bool.and_eq_true, decide_eq_true_eq] at ca cb
      rw [idx_tup eL rs ca.1 ca.2, idx_tup eL rs cb.1 cb.2, bnd_ret, bnd_ret, isin_eL, notin_eL, bnd_ret]
      by_cases c1 : a = b
      · simp [c1]
      · by_cases c2 : 0 ≤ k <;> by_cases c3 : k ≤ 9 <;> by_cases c4 : k ∈ at_ rs a <;> simp [c1, c2, c3, c4]
theorem x_gift_size (n : Nat) (R : D) {d : D} (h : sizedD d 3 3 = false) : callF P (n + 3) F_raw_gift [.val R, .val d] = ret (.bool false) := by
  rw [cf, runFn_eq _ _ _ rfl]
  have e1 : callF P (n + 2) 2 [.val d, .val (.int 3), .val (.int 3)] = ret (.bool false) := by
    have := c_is_sized (P := P) (n + 1) d 3 3
    rw [h] at this
    exact this
  simp [fn_raw_gift, b_raw_gift, entry, e1]
theorem x_gift_bool (n : Nat) (rs : List (List Int)) (y z : D) : callF P (n + 3) F_raw_gift [.val (.tuple (rs.map eL)), .val (.tuple [.bool true, .int 0, .int 0])] = ret (.bool false) := by
  rw [cf, runFn_eq _ _ _ rfl]
  have e1 : callF P (n + 2) 2 [.val (.tuple [.bool true, .int 0, .int 0]), .val (.int 3), .val (.int 3)] = ret (.bool true) := c_is_sized (P := P) (n + 1) _ 3 3
  have e2 : ∀ (x : D) (hi : Int), callF P (n + 2) 1 [.val x, .val (.int 0), .val (.int hi)] = ret (.bool (withinD x 0 hi)) := fun x hi => c_is_within (P := P) n x 0 hi
  have e3 : sliceV (.tuple [.bool true, .int 0, .int 0]) none (some 2) = ret (.tuple ([.bool true, .int 0])) := rfl
  have e4 : lcL (fun x => bnd (callF P (n + 2) 1 [.val x, .val (.int 0), .val (.int ((rs.length : Int) - 1))]) fun y => ret (some y)) ([PyData.bool true, .int 0].map id) = ret ([PyData.bool true, .int 0].map fun x => .bool (withinD x 0 ((rs.length : Int) - 1))) :=
    lc_all (fun x => .bool (withinD x 0 ((rs.length : Int) - 1))) fun x _ => by rw [id, e2, bnd_ret]
  simp only [List.map_cons, List.map_nil, id] at e4
  have ea : b1V .all (.list [.bool (withinD (.bool true) 0 ((rs.length : Int) - 1)), .bool (withinD (.int 0) 0 ((rs.length : Int) - 1))]) = ret (.bool false) := all_map (fun x : D => withinD x 0 ((rs.length : Int) - 1)) [.bool true, .int 0]
  simp [fn_raw_gift, b_raw_gift, entry, e1, e3, len_map, optOf, wk_tup]
  rw [e4, calm_ret, bnd_ret, ea]
  simp
variable [Has P F_is_lot fn_is_lot] [Has P F_raw_opens fn_raw_opens] [Has P F_are_rings fn_are_rings] [Has P F_check_rings fn_check_rings] [Has P F_is_door fn_is_door] [Has P F_raw_after fn_raw_after] [Has P F_after_gift fn_after_gift]
theorem good_at {rs : List (List Int)} (h : Good rs) {a : Int} (a0 : 0 ≤ a) (a1 : a < rs.length) : lotB (at_ rs a) 10 = true := h.lot _ (at_mem a0 a1)
theorem c_after_gift (n : Nat) {rs : List (List Int)} (h : Good rs) {a b k : Int} (hg : giftB rs a b k = true) : callF P (n + 6) F_after_gift [.val (.tuple (rs.map eL)), .val (eL [a, b, k])] = ret (.tuple ((afterL rs a b k).map eL)) := by
  rw [cf, runFn_eq _ _ _ rfl]
  have e1 := c_check_rings (P := P) n h
  have e2 := c_raw_gift (P := P) (n + 2) rs a b k
  rw [hg] at e2
  simp only [giftB, Bool.and_eq_true, decide_eq_true_eq] at hg
  obtain ⟨⟨⟨⟨⟨⟨a0, a1⟩, ⟨b0, b1⟩⟩, _⟩, _⟩, _⟩, _⟩ := hg
  have e3 := c_raw_after (P := P) (k := k) a0 a1 b0 b1 (n + 4) (Nat.le_trans (lot_len (m := 10) (good_at h b0 b1)) (by omega))
  simp [fn_after_gift, b_after_gift, entry, e1, e2, e3]
theorem x_after_gift (n : Nat) {rs : List (List Int)} (h : Good rs) {d : D} (hg : callF P (n + 5) F_raw_gift [.val (.tuple (rs.map eL)), .val d] = ret (.bool false)) : callF P (n + 6) F_after_gift [.val (.tuple (rs.map eL)), .val d] = thr ⟨X_NoGift, []⟩ := by
  rw [cf, runFn_eq _ _ _ rfl]
  have e1 := c_check_rings (P := P) n h
  simp [fn_after_gift, b_after_gift, entry, e1, hg]
theorem x_is_door' (n : Nat) {d : D} (h : isLotD d 10 = false ∨ d = .tuple []) : callF P (n + 4) F_is_door [.val d] = ret (.bool false) := by
  rw [cf, runFn_eq _ _ _ rfl]
  have e := c_is_lot (P := P) n d 10
  rcases h with h | h
  · rw [h] at e
    simp [fn_is_door, b_is_door, entry, e]
  · subst h
    have h2 : isLotD (.tuple []) 10 = true := rfl
    rw [h2] at e
    have hl : b1V .len (.tuple []) = ret (.int 0) := rfl
    simp [fn_is_door, b_is_door, entry, e, hl]
variable [Has P F_check_person fn_check_person]
theorem c_check_person (n : Nat) {rs : List (List Int)} (h : Good rs) {p : Int} (p0 : 0 ≤ p) (p1 : p < rs.length) {d : List Int} (hd : lotB d 10 = true) (h0 : d ≠ []) : callF P (n + 6) F_check_person [.val (.tuple (rs.map eL)), .val (.int p), .val (eL d)] = ret .none := by
  rw [cf, runFn_eq _ _ _ rfl]
  have e1 := c_check_rings (P := P) n h
  have e2 := c_is_door (P := P) (n + 1) d hd h0
  have e3 : callF P (n + 5) 1 [.val (.int p), .val (.int 0), .val (.int ((rs.length : Int) - 1))] = ret (.bool (decide (0 ≤ p) && decide (p ≤ (rs.length : Int) - 1))) := c_is_within (P := P) (n + 3) (.int p) 0 _
  have z : p ≤ (rs.length : Int) - 1 := by omega
  simp [fn_check_person, b_check_person, entry, e1, e2, e3, len_map, p0, z]
theorem x_person (n : Nat) {rs : List (List Int)} (h : Good rs) {p O : D} (hp : withinD p 0 ((rs.length : Int) - 1) = false) : callF P (n + 6) F_check_person [.val (.tuple (rs.map eL)), .val p, .val O] = thr ⟨X_NoPerson, []⟩ := by
  rw [cf, runFn_eq _ _ _ rfl]
  have e1 := c_check_rings (P := P) n h
  have e3 : callF P (n + 5) 1 [.val p, .val (.int 0), .val (.int ((rs.length : Int) - 1))] = ret (.bool (withinD p 0 ((rs.length : Int) - 1))) := c_is_within (P := P) (n + 3) p 0 _
  rw [hp] at e3
  simp [fn_check_person, b_check_person, entry, e1, e3, len_map]
theorem x_person_door (n : Nat) {rs : List (List Int)} (h : Good rs) {p : Int} (p0 : 0 ≤ p) (p1 : p < rs.length) {O : D} (hO : callF P (n + 5) F_is_door [.val O] = ret (.bool false)) : callF P (n + 6) F_check_person [.val (.tuple (rs.map eL)), .val (.int p), .val O] = thr ⟨X_NoDoor, []⟩ := by
  rw [cf, runFn_eq _ _ _ rfl]
  have e1 := c_check_rings (P := P) n h
  have e3 : callF P (n + 5) 1 [.val (.int p), .val (.int 0), .val (.int ((rs.length : Int) - 1))] = ret (.bool (decide (0 ≤ p) && decide (p ≤ (rs.length : Int) - 1))) := c_is_within (P := P) (n + 3) (.int p) 0 _
  have z : p ≤ (rs.length : Int) - 1 := by omega
  simp [fn_check_person, b_check_person, entry, e1, hO, e3, len_map, p0, z]
/-! what is due -/
def holds (rs : List (List Int)) (k : Int) : List Int := (rangeI 0 rs.length).filter fun q => decide (k ∈ at_ rs q)
theorem enum_rings : ∀ (rs : List (List Int)) (j : Nat) (all : List (List Int)), all.drop j = rs → enumFrom j (rs.map eL) = (rangeI j (j + rs.length)).map fun i => PyData.tuple [.int i, eL (at_ all i)]
  | [], j, all, h => by simp [enumFrom, rangeI]
  | r :: rs, j, all, h => by
    have hj : j < all.length := by
      rcases Nat.lt_or_ge j all.length with c | c
      · exact c
      · rw [List.drop_eq_nil_of_le c] at h; cases h
    have hr : at_ all j = r := by
      rw [List.drop_eq_getElem_cons hj] at h
      have := (List.cons.inj h).1
      simp [at_, List.getD_eq_getElem?_getD, List.getElem?_eq_getElem hj, this]
    have ih := enum_rings rs (j + 1) all (by rw [List.drop_eq_getElem_cons hj] at h; exact (List.cons.inj h).2)
    rw [rangeI_cons (by simp; omega), List.map_cons, List.map_cons, hr]
    simp only [enumFrom]
    push_cast at ih ⊢
    rw [ih]
    congr 3
    simp; omega
theorem enum_rs (rs : List (List Int)) : enumV (.tuple (rs.map eL)) = ret ((rangeI 0 rs.length).map fun i => PyData.tuple [.int i, eL (at_ rs i)]) := by
  have := enum_rings rs 0 rs rfl
  simp only [Int.ofNat_zero, Int.zero_add, Int.natCast_zero] at this
  show ret (enumFrom 0 _) = _
  rw [this]
theorem holds_lc (rs : List (List Int)) (k : Int) (f : D → M (Option D)) (hf : ∀ i r, f (.tuple [.int i, eL r]) = iteM (decide (k ∈ r)) (ret (some (.int i))) (ret none)) : lcL f ((rangeI 0 rs.length).map fun i => PyData.tuple [.int i, eL (at_ rs i)]) = ret ((holds rs k).map .int) :=
  lc_if (e := fun i => PyData.tuple [.int i, eL (at_ rs i)]) (fun i => decide (k ∈ at_ rs i)) .int fun i _ => hf i _
def lackL (rs : List (List Int)) (d : List Int) : List Int := d.filter fun k => decide (holds rs k = [])
def needL (rs : List (List Int)) (p : Int) (d : List Int) : List Int := d.filter fun k => !decide (p ∈ holds rs k)
def giver (rs : List (List Int)) (k : Int) : Int := (holds rs k).headD 0
/-- a gift to p of the key x.2 by x.1 -/
def eG (p : Int) (x : Int × Int) : D := eL [x.1, p, x.2]
def sLacks : D := .str (Str.ofString "lacks")
def sGifts : D := .str (Str.ofString "gifts")
def giftsL (rs : List (List Int)) (p : Int) (d : List Int) : List (Int × Int) := (needL rs p d).map fun k => (giver rs k, k)
def giftStep (rs : List (List Int)) (p : Int) (gs : List (Int × Int)) (k : Int) : List (Int × Int) ⊕ D :=
  if holds rs k = [] then .inr (.tuple [sLacks, .int k]) else if p ∈ holds rs k then .inl gs else .inl (gs ++ [(giver rs k, k)])
def dueD (rs : List (List Int)) (p : Int) (d : List Int) : D := match lackL rs d with
  | k :: _ => .tuple [sLacks, .int k]
  | [] => .tuple [sGifts, .tuple ((sortE (eG p) (giftsL rs p d)).map (eG p))]
theorem fold_gifts (rs : List (List Int)) (p : Int) : ∀ (d : List Int) (gs : List (Int × Int)), foldR (giftStep rs p) d gs = match lackL rs d with
    | k :: _ => .inr (.tuple [sLacks, .int k])
    | [] => .inl (gs ++ giftsL rs p d)
  | [], gs => by simp [foldR, lackL, giftsL, needL]
  | k :: d, gs => by
    unfold foldR giftStep
    by_cases c : holds rs k = []
    · rw [if_pos c]
      simp [lackL, c]
    · rw [if_neg c]
      have hl : lackL rs (k :: d) = lackL rs d := by simp [lackL, c]
      rw [hl]
      by_cases c2 : p ∈ holds rs k
      · rw [if_pos c2]
        have hg : giftsL rs p (k :: d) = giftsL rs p d := by simp [giftsL, needL, c2]
        rw [hg]
        exact fold_gifts rs p d gs
      · rw [if_neg c2]
        have hg : giftsL rs p (k :: d) = (giver rs k, k) :: giftsL rs p d := by simp [giftsL, needL, c2]
        rw [hg]
        show foldR (giftStep rs p) d (gs ++ [(giver rs k, k)]) = _
        rw [fold_gifts rs p d]
        cases lackL rs d <;> simp
theorem sortOk_gifts (p : Int) {gs : List (Int × Int)} (h : gs.length ≤ 16777216) : sortOk (gs.map (eG p)) = true := by
  have : gs.map (eG p) = (gs.map fun x => [x.1, p, x.2]).map eL := by rw [List.map_map]; rfl
  rw [this]
  exact sortOk_eL (by rw [List.length_map]; exact h)
variable [Has P F_raw_gifts fn_raw_gifts]
theorem giftsL_len (rs : List (List Int)) (p : Int) (d : List Int) : (giftsL rs p d).length ≤ d.length := by
  unfold giftsL needL
  rw [List.length_map]
  exact List.length_filter_le _ _
theorem c_raw_gifts (n : Nat) {rs : List (List Int)} {p : Int} {d : List Int} (hd : d.length ≤ 1000) : callF P (n + 1) F_raw_gifts [.val (.tuple (rs.map eL)), .val (.int p), .val (eL d)] = ret (dueD rs p d) := by
  rw [cf, runFn_eq _ _ _ rfl]
  have hidx : ∀ (x : Int) (xs : List Int), idxV (.list ((x :: xs).map .int)) (.int 0) = ret (.int x) := fun x xs => by
    show atD _ _ = _
    unfold atD ixOf
    rw [if_pos (by decide), if_pos (by simp)]
    rfl
  have floop : ∀ env : Env, env = [.val (.tuple (rs.map eL)), .val (.int p), .val (eL d), .own (.list []), .no, .no, .no, .no] → evS (calOf P n) env (.for (.name 4) (.var 2) [3] [4, 5] [.asg (.name 5) (.lc (.var 6) (.tup [.name 6, .name 7]) (.enum (.var 0)) [.cmp .isin (.var 4) (.var 7)] [6, 7]), .ite (.cmp .eq (.b1 .len (.var 5)) (.cst (.int 0))) [.ret (.tup [.glob (Str.ofString "LACKS") (.str (Str.ofString "lacks")), .var 4])] [], .ite (.cmp .notin (.var 1) (.var 5)) [.app 3 (.tup [.idx (.var 5) (.cst (.int 0)), .var 1, .var 4])] []]) =
      ret (flowR (fun gs => [.val (.tuple (rs.map eL)), .val (.int p), .val (eL d), .own (.list (gs.map (eG p))), .no, .no, .no, .no]) (foldR (giftStep rs p) d [])) := by
    intro env he
    subst he
    refine forR .int (fun gs => [.own (.list (gs.map (eG p)))]) (giftStep rs p) (fun xs gs => gs.length + xs.length ≤ d.length) d [] ?_ ?_ (by simp) ?_
    · simp [wk_eL]
    · simp
    · intro k xs gs hI
      have hg : gs.length < 16777216 := by simp at hI; omega
      constructor
      · have e1 := fun f hf => holds_lc rs k f hf
        simp [enum_rs]
        rw [wk_lst, bnd_ret, e1 _ fun i r => by simp [isin_eL]]
        simp [len_mapL]
        unfold giftStep
        cases q : holds rs k with
        | nil => simp [stepR, sLacks]
        | cons x xs =>
          have q2 := hidx x xs
          have q3 := notin_lst (x :: xs) p
          simp only [List.map_cons] at q2 q3
          simp [q2, q3]
          have q4 : appSlot [Slot.val (PyData.tuple (List.map eL rs)), Slot.val (PyData.int p), Slot.val (eL d), Slot.own (PyData.list (List.map (eG p) gs)), Slot.val (PyData.int k), Slot.val (PyData.list (PyData.int x :: List.map PyData.int xs)), Slot.no, Slot.no] 3 (PyData.tuple [.int x, PyData.int p, PyData.int k]) = _ := app_own (eG p) gs (x, k) _ 3 hg rfl
          by_cases c1 : p = x
          · simp [c1, stepR]
          · by_cases c2 : p ∈ xs
            · simp [c2, stepR]
            · simp [c1, c2, stepR, q4, giver, q]
      · intro s' q
        unfold giftStep at q
        split at q
        · cases q
        · split at q
          · cases q; simp at hI ⊢; omega
          · cases q; simp at hI ⊢; omega
  have hf := floop _ rfl
  rw [fold_gifts] at hf
  unfold dueD
  have hs : b1V .sorted (.list ((giftsL rs p d).map (eG p))) = ret (.list ((sortE (eG p) (giftsL rs p d)).map (eG p))) := sorted_of (eG p) (sortOk_gifts p (Nat.le_trans (giftsL_len rs p d) (by omega)))
  cases q : lackL rs d with
  | cons k ks =>
    rw [q] at hf
    simp [fn_raw_gifts, b_raw_gifts, entry, hf, flowR]
  | nil =>
    rw [q] at hf
    simp [fn_raw_gifts, b_raw_gifts, entry, hf, flowR, hs, sGifts]
end
end Ev.KR
set_option Elab.async false
set_option linter.all false
set_option maxRecDepth 100000
set_option maxHeartbeats 1000000
/-! Dicts in the evaluator: keys and values of any kind. -/
namespace Ev
open PySem PySem.W
/-- keys told apart as data are -/
structure KeyE {κ : Type} [DecidableEq κ] (ek : κ → D) : Prop where
  eqv : ∀ a b, PyData.eqv (ek a) (ek b) = decide (a = b)
  fit : (∀ a, kInt (ek a) = true) ∨ ∀ a, kTup (ek a) = true
def encD {κ β : Type} (ek : κ → D) (ev : β → D) (kvs : List (κ × β)) : List (D × D) := kvs.map fun p => (ek p.1, ev p.2)
section
variable {κ β : Type} [DecidableEq κ] {ek : κ → D} {ev : β → D}
def atA (kvs : List (κ × β)) (k : κ) : Option β := (kvs.find? fun p => decide (p.1 = k)).map (·.2)
def putA (kvs : List (κ × β)) (k : κ) (v : β) : List (κ × β) := if (atA kvs k).isSome then kvs.map fun p => if p.1 = k then (p.1, v) else p else kvs ++ [(k, v)]
theorem KeyE.int : KeyE (PyData.int) := ⟨fun a b => by simp only [PyData.eqv]; exact beq_decide a b, .inl fun _ => rfl⟩
theorem dAt_enc (h : KeyE ek) (kvs : List (κ × β)) (k : κ) : dAt (encD ek ev kvs) (ek k) = (atA kvs k).map ev := by
  unfold dAt atA encD
  rw [List.find?_map]
  simp only [Function.comp_def, h.eqv, Option.map_map]
theorem dPut_enc (h : KeyE ek) (kvs : List (κ × β)) (k : κ) (v : β) : dPut (encD ek ev kvs) (ek k) (ev v) = encD ek ev (putA kvs k v) := by
  unfold dPut putA
  rw [dAt_enc h, Option.isSome_map]
  split
  · unfold encD
    rw [List.map_map, List.map_map]
    refine List.map_congr_left fun p _ => ?_
    simp only [Function.comp, h.eqv, decide_eq_true_eq]
    split <;> rfl
  · simp [encD]
theorem keyFit_enc (h : KeyE ek) (kvs : List (κ × β)) (k : κ) : keyFit (encD ek ev kvs) (ek k) = true := by
  unfold keyFit encD
  rcases h.fit with f | f
  · simp [f, List.all_map, Function.comp_def]
  · simp [f, List.all_map, Function.comp_def]
theorem len_enc (kvs : List (κ × β)) : (encD ek ev kvs).length = kvs.length := by simp [encD]
theorem dAtV_enc (h : KeyE ek) (kvs : List (κ × β)) (k : κ) : dAtV (encD ek ev kvs) (ek k) = ret ((atA kvs k).map ev) := by
  unfold dAtV
  rw [keyFit_enc h, dAt_enc h]
  rfl
theorem dPutV_enc (h : KeyE ek) {kvs : List (κ × β)} (k : κ) (v : β) (hl : kvs.length < line) : dPutV (encD ek ev kvs) (ek k) (ev v) = ret (encD ek ev (putA kvs k v)) := by
  unfold dPutV
  rw [keyFit_enc h, dPut_enc h, len_enc, decide_eq_true hl]
  rfl
theorem dKeys_enc (kvs : List (κ × β)) : dKeys (encD ek ev kvs) = (kvs.map (·.1)).map ek := by simp [dKeys, encD]
/-! what stands under a key -/
theorem atA_mem {kvs : List (κ × β)} {k : κ} : (atA kvs k).isSome = decide (k ∈ kvs.map (·.1)) := by
  unfold atA
  rw [Option.isSome_map, Bool.eq_iff_iff, List.find?_isSome]
  simp
theorem atA_none {kvs : List (κ × β)} {k : κ} : atA kvs k = none ↔ k ∉ kvs.map (·.1) := by
  have := atA_mem (kvs := kvs) (k := k)
  cases q : atA kvs k with
  | none => rw [q] at this; simp only [Option.isSome_none] at this; simpa using this
  | some x =>
    rw [q] at this
    simp only [Option.isSome_some] at this
    constructor
    · intro z; cases z
    · intro z; exact absurd (of_decide_eq_true this.symm) z
theorem keys_putA (kvs : List (κ × β)) (k : κ) (v : β) : (putA kvs k v).map (·.1) = if k ∈ kvs.map (·.1) then kvs.map (·.1) else kvs.map (·.1) ++ [k] := by
  unfold putA
  rw [atA_mem]
  by_cases c : k ∈ kvs.map (·.1)
  · rw [if_pos (decide_eq_true c), if_pos c, List.map_map]
    refine List.map_congr_left fun p _ => ?_
    simp only [Function.comp]
    split <;> rfl
  · rw [if_neg (by simpa using c), if_neg c]
    simp
theorem len_putA (kvs : List (κ × β)) (k : κ) (v : β) : (putA kvs k v).length ≤ kvs.length + 1 := by
  unfold putA
  split <;> simp
theorem nodup_putA {kvs : List (κ × β)} {k : κ} {v : β} (h : (kvs.map (·.1)).Nodup) : ((putA kvs k v).map (·.1)).Nodup := by
  rw [keys_putA]
  split
  · exact h
  · rename_i c
    rw [List.nodup_append]
    exact ⟨h, by simp, fun a ha b hb => by rw [List.mem_singleton.mp hb]; rintro rfl; exact c ha⟩
theorem atA_cons (p : κ × β) (kvs : List (κ × β)) (k : κ) : atA (p :: kvs) k = if p.1 = k then some p.2 else atA kvs k := by
  unfold atA
  rw [List.find?_cons]
  by_cases c : p.1 = k <;> simp [c]
theorem atA_app (a b : List (κ × β)) (k : κ) : atA (a ++ b) k = (atA a k).or (atA b k) := by
  induction a with
  | nil => simp [atA]
  | cons p a ih =>
    rw [List.cons_append, atA_cons, atA_cons, ih]
    split <;> rfl
theorem atA_putA (kvs : List (κ × β)) (k j : κ) (v : β) : atA (putA kvs k v) j = if j = k then some v else atA kvs j := by
  unfold putA
  cases q : atA kvs k with
  | none =>
    rw [if_neg (by simp), atA_app]
    by_cases c : j = k
    · subst c
      rw [q, if_pos rfl]
      simp [atA_cons]
    · rw [if_neg c, atA_cons, if_neg (by simpa using fun z => c z.symm)]
      simp [atA]
  | some x =>
    rw [if_pos (by simp)]
    induction kvs with
    | nil => simp [atA] at q
    | cons p kvs ih =>
      rw [List.map_cons, atA_cons, atA_cons]
      by_cases e : p.1 = k
      · rw [if_pos e]
        simp only [e]
        by_cases c : j = k
        · subst c; simp
        · rw [if_neg (fun z => c z.symm), if_neg c, if_neg (fun z => c z.symm)]
          -- the rest is as it was where j is asked
          clear ih q e
          induction kvs with
          | nil => rfl
          | cons r kvs ih2 =>
            rw [List.map_cons, atA_cons, atA_cons, ih2]
            by_cases e2 : r.1 = k
            · rw [if_pos e2]
              simp only [e2]
              rw [if_neg (fun z => c z.symm), if_neg (fun z => c z.symm)]
            · rw [if_neg e2]
      · rw [if_neg e]
        rw [atA_cons, if_neg e] at q
        by_cases c : p.1 = j
        · rw [if_pos c, if_pos c, if_neg (by rw [← c]; exact e)]
        · rw [if_neg c, if_neg c]
          exact ih q
/-! the evaluator's rows -/
theorem isin_dict (h : KeyE ek) (kvs : List (κ × β)) (k : κ) : cmpV .isin (ek k) (.dict (encD ek ev kvs)) = ret (.bool (atA kvs k).isSome) := by
  show chk (keyFit _ _) _ = _
  rw [chk_of _ (keyFit_enc h kvs k), dAt_enc h, Option.isSome_map]
theorem notin_dict (h : KeyE ek) (kvs : List (κ × β)) (k : κ) : cmpV .notin (ek k) (.dict (encD ek ev kvs)) = ret (.bool (!(atA kvs k).isSome)) := by
  show chk (keyFit _ _) _ = _
  rw [chk_of _ (keyFit_enc h kvs k), dAt_enc h, Option.isSome_map]
theorem idx_dict (h : KeyE ek) {kvs : List (κ × β)} {k : κ} {v : β} (e : atA kvs k = some v) : idxV (.dict (encD ek ev kvs)) (ek k) = ret (ev v) := by
  have e2 := dAt_enc (ev := ev) h kvs k
  rw [e] at e2
  show (match dAt (encD ek ev kvs) (ek k) with | some d => chk (keyFit (encD ek ev kvs) (ek k)) d | none => fail) = _
  rw [e2]
  exact chk_of _ (keyFit_enc h kvs k)
theorem get_dict (h : KeyE ek) (kvs : List (κ × β)) (k : κ) (x : D) : getV (.dict (encD ek ev kvs)) (ek k) x = ret (((atA kvs k).map ev).getD x) := by
  show bnd (dAtV _ _) _ = _
  rw [dAtV_enc h, bnd_ret]
theorem set_dict (h : KeyE ek) {kvs : List (κ × β)} (k : κ) (v : β) (hl : kvs.length < line) {env : Env} {i : Nat} (hn : nth env i = .own (.dict (encD ek ev kvs))) : setSlot env i (ek k) (ev v) = ret (put env i (.own (.dict (encD ek ev (putA kvs k v))))) := by
  unfold setSlot
  rw [hn]
  show bnd (bnd (dPutV _ _ _) _) _ = _
  rw [dPutV_enc h k v hl, bnd_ret, bnd_ret]
def putsA (kvs ps : List (κ × β)) : List (κ × β) := ps.foldl (fun a p => putA a p.1 p.2) kvs
theorem len_putsA : ∀ (ps kvs : List (κ × β)), (putsA kvs ps).length ≤ kvs.length + ps.length
  | [], kvs => Nat.le_refl _
  | p :: r, kvs => by
    have h1 := len_putsA r (putA kvs p.1 p.2)
    have h2 := len_putA kvs p.1 p.2
    show (putsA (putA kvs p.1 p.2) r).length ≤ _
    rw [List.length_cons]
    omega
theorem dPuts_enc (h : KeyE ek) : ∀ (ps kvs : List (κ × β)), kvs.length + ps.length ≤ line → dPuts (encD ek ev kvs) (encD ek ev ps) = ret (encD ek ev (putsA kvs ps))
  | [], kvs, _ => rfl
  | p :: r, kvs, hl => by
    rw [List.length_cons] at hl
    show bnd (dPutV (encD ek ev kvs) (ek p.1) (ev p.2)) (fun kvs' => dPuts kvs' (encD ek ev r)) = _
    rw [dPutV_enc h p.1 p.2 (by omega), bnd_ret, dPuts_enc h r _ (by have := len_putA kvs p.1 p.2; omega)]
    rfl
theorem pairs_enc : ∀ (ps : List (κ × β)), pairsL (ps.map fun p => PyData.tuple [ek p.1, ev p.2]) = some (encD ek ev ps)
  | [] => rfl
  | p :: r => by
    show (pairsL (r.map fun p => PyData.tuple [ek p.1, ev p.2])).map _ = _
    rw [pairs_enc r]
    rfl
theorem dict_enc (h : KeyE ek) (ps : List (κ × β)) (hl : ps.length ≤ line) : b1V .dict (.list (ps.map fun p => PyData.tuple [ek p.1, ev p.2])) = ret (.dict (encD ek ev (putsA [] ps))) := by
  have e := pairs_enc (ek := ek) (ev := ev) ps
  have e2 := dPuts_enc (ek := ek) (ev := ev) h ps [] (by simpa using hl)
  show (match pairsL (ps.map fun p => PyData.tuple [ek p.1, ev p.2]) with | some ps => bnd (dPuts [] ps) fun kvs => ret (PyData.dict kvs) | none => fail) = _
  rw [e]
  show bnd (dPuts (encD ek ev []) (encD ek ev ps)) _ = _
  rw [e2, bnd_ret]
/-- {k: v for ..} -/
theorem dcL_enc {α : Type} (h : KeyE ek) {f : D → M (Option (D × D))} {e : α → D} (g : α → Option (κ × β)) : ∀ (xs : List α) (acc : List (κ × β)), (∀ x ∈ xs, f (e x) = ret ((g x).map fun p => (ek p.1, ev p.2))) → acc.length + xs.length ≤ line →
    dcL f (xs.map e) (encD ek ev acc) = ret (encD ek ev (putsA acc (xs.filterMap g)))
  | [], acc, _, _ => rfl
  | x :: xs, acc, hf, hl => by
    rw [List.length_cons] at hl
    rw [List.map_cons]
    show bnd (f (e x)) _ = _
    rw [hf x List.mem_cons_self, bnd_ret]
    cases q : g x with
    | none =>
      rw [List.filterMap_cons_none q]
      exact dcL_enc h g xs acc (fun y hy => hf y (List.mem_cons_of_mem _ hy)) (by omega)
    | some p =>
      rw [List.filterMap_cons_some q]
      show bnd (dPutV (encD ek ev acc) (ek p.1) (ev p.2)) _ = _
      rw [dPutV_enc h p.1 p.2 (by omega), bnd_ret]
      exact dcL_enc h g xs _ (fun y hy => hf y (List.mem_cons_of_mem _ hy)) (by have := len_putA acc p.1 p.2; omega)
theorem len_dict (kvs : List (D × D)) : b1V .len (.dict kvs) = ret (.int kvs.length) := rfl
theorem list_dict (kvs : List (κ × β)) : b1V .list (.dict (encD ek ev kvs)) = ret (.list ((kvs.map (·.1)).map ek)) := by
  show ret (PyData.list (dKeys _)) = _
  rw [dKeys_enc]
theorem sorted_dict {kvs : List (κ × β)} (hs : sortOk ((kvs.map (·.1)).map ek) = true) : b1V .sorted (.dict (encD ek ev kvs)) = ret (.list ((sortE ek (kvs.map (·.1))).map ek)) := by
  show chk (sortOk (dKeys _)) (PyData.list (sortD (dKeys _))) = _
  rw [dKeys_enc, chk_of _ hs, map_sortE]
theorem walk_dict (kvs : List (κ × β)) : walkD (.dict (encD ek ev kvs)) = ret ((kvs.map (·.1)).map ek) := by
  show ret (dKeys _) = _
  rw [dKeys_enc]
/-- the keys put in, one after another -/
def addK (ks : List κ) (k : κ) : List κ := if k ∈ ks then ks else ks ++ [k]
theorem keys_putsA : ∀ (ps kvs : List (κ × β)), (putsA kvs ps).map (·.1) = (ps.map (·.1)).foldl addK (kvs.map (·.1))
  | [], kvs => rfl
  | p :: r, kvs => by
    show (putsA (putA kvs p.1 p.2) r).map (·.1) = _
    rw [keys_putsA r, keys_putA]
    rfl
theorem addK_nodup : ∀ (xs ks : List κ), (ks ++ xs).Nodup → xs.foldl addK ks = ks ++ xs
  | [], ks, _ => by simp
  | x :: xs, ks, h => by
    have hx : x ∉ ks := fun z => by
      rw [List.nodup_append] at h
      exact h.2.2 x z x List.mem_cons_self rfl
    rw [List.foldl_cons]
    have : addK ks x = ks ++ [x] := if_neg hx
    rw [this, addK_nodup xs _ (by rw [List.append_assoc]; exact h), List.append_assoc]
    rfl
end
end Ev
set_option Elab.async false
set_option linter.all false
set_option maxRecDepth 100000
set_option maxHeartbeats 4000000
/-! Keys lost, spare, copied: what the defs are worth. -/
namespace Ev.KR
open Ev PySem PySem.W
theorem foldR_find {α : Type} (p : α → Bool) (e : α → D) : ∀ xs : List α, foldR (fun (_ : Unit) x => if p x = true then .inr (e x) else .inl ()) xs () = match xs.find? p with | some x => .inr (e x) | none => .inl ()
  | [] => rfl
  | x :: xs => by
    unfold foldR
    cases q : p x with
    | true => simp [List.find?_cons, q]
    | false =>
      simp only [Bool.false_eq_true, if_false, List.find?_cons, q]
      exact foldR_find p e xs
def off (n : Nat) (g : List Int) : List Int := (rangeI 0 n).filter fun p => !decide (p ∈ g)
def lostG (rs : List (List Int)) (d : List Int) : Option (List Int) := (groups rs.length).find? fun g => !opensB rs (off rs.length g) d
def optD : Option (List Int) → D
  | none => .none
  | some g => eL g
def lostO (rs : List (List Int)) (d : List Int) : Option (List Int) := if opensB rs (rangeI 0 rs.length) d = true then lostG rs d else none
theorem bound_all {n : Nat} : ∀ p ∈ rangeI 0 n, 0 ≤ p ∧ p < (n : Int) := fun p hp => by have := mem_rangeI.mp hp; omega
theorem bound_off {n : Nat} {g : List Int} : ∀ p ∈ off n g, 0 ≤ p ∧ p < (n : Int) := fun p hp => bound_all p (List.mem_filter.mp hp).1
section
variable {P : Prg} [Has P F_is_integer fn_is_integer] [Has P F_is_within fn_is_within] [Has P F_is_sized fn_is_sized] [Has P F_is_lot fn_is_lot] [Has P F_raw_opens fn_raw_opens] [Has P F_is_door fn_is_door] [Has P F_are_rings fn_are_rings] [Has P F_check_rings fn_check_rings] [Has P F_check_door fn_check_door] [Has P F_all_lots fn_all_lots] [Has P F_groups_of fn_groups_of]
theorem c_all_lots' (n : Nat) {S : D} {xs : List Int} (hS : walkD S = ret (xs.map .int)) (hl : xs.length ≤ 12) : callF P (n + 1) F_all_lots [.val S] = ret (.list ((lotsOf xs).map eL)) := by
  rw [cf, runFn_eq _ _ _ rfl]
  exact lots_body _ (S0 := .val S) (it := .var 0) (fun f => by simp [hS]) hl
theorem c_groups_of' (n : Nat) {rs : List (List Int)} (h : rs.length ≤ 5) : callF P (n + 2) F_groups_of [.val (.tuple (rs.map eL))] = ret (.list ((groups rs.length).map eL)) := by
  rw [cf, runFn_eq _ _ _ rfl]
  have e := c_all_lots' (P := P) n (S := .list ((rangeI 0 rs.length).map .int)) rfl (by rw [length_rangeI]; omega)
  have e2 : b1V .list (.list ((rangeI 0 rs.length).map PyData.int)) = ret (.list ((rangeI 0 rs.length).map .int)) := rfl
  simp [fn_groups_of, b_groups_of, entry, len_map, list_range (n := rs.length) (by omega) (by omega), e2]
  exact e
theorem off_lc (n : Nat) (g : List Int) (f : D → M (Option D)) (hf : ∀ x : Int, f (.int x) = iteM (!decide (x ∈ g)) (ret (some (.int x))) (ret none)) : lcL f ((rangeI 0 n).map .int) = ret ((off n g).map .int) :=
  lc_if (fun p => !decide (p ∈ g)) .int fun p _ => hf p
variable [Has P F_fewest_lost fn_fewest_lost]
theorem c_fewest_lost (n : Nat) {rs : List (List Int)} (h : Good rs) {d : List Int} (hd : lotB d 10 = true) (h0 : d ≠ []) : callF P (n + 7) F_fewest_lost [.val (.tuple (rs.map eL)), .val (eL d)] = ret (optD (lostO rs d)) := by
  rw [cf, runFn_eq _ _ _ rfl]
  have e1 := c_check_door (P := P) n h hd h0
  have e2 := c_raw_opens (P := P) (n + 5) rs (G := .list ((rangeI 0 rs.length).map .int)) (wk_lst _) (wk_eL d) bound_all
  have e3 := c_groups_of' (P := P) (n + 4) h.l2
  have e4 : b1V .list (.list ((rangeI 0 rs.length).map PyData.int)) = ret (.list ((rangeI 0 rs.length).map .int)) := rfl
  have hl := h.l2
  have hf := forR (K := calOf P (n + 6)) (env := [.val (.tuple (rs.map eL)), .val (eL d), .val (.list ((rangeI 0 rs.length).map .int)), .no, .no]) (t := .name 3) (it := .call 11 [.var 0]) (car := []) (tmp := [3])
    (body := [.ite (.not (.call 9 [.var 0, .lc (.var 4) (.name 4) (.var 2) [.cmp .notin (.var 4) (.var 3)] [4], .var 1])) [.ret (.var 3)] []])
    eL (fun _ : Unit => []) (fun _ g => if (!opensB rs (off rs.length g) d) = true then .inr (eL g) else .inl ()) (fun _ _ => True) (groups rs.length) () (by simp [e3, wk_lst]) rfl trivial (fun g gs s _ => by
      refine ⟨?_, fun _ _ => trivial⟩
      have e5 := off_lc rs.length g (fun x => bnd (cmpV .notin x (eL g)) fun a => bnd (truthyV a) fun b => iteM b (ret (some x)) (ret none)) fun x => by rw [notin_eL, bnd_ret, truthy_bool, bnd_ret]
      have e6 := c_raw_opens (P := P) (n + 5) rs (G := .list ((off rs.length g).map .int)) (wk_lst _) (wk_eL d) bound_off
      simp [wk_lst, e5, e6]
      cases opensB rs (off rs.length g) d <;> simp [stepR])
  rw [foldR_find (fun g => !opensB rs (off rs.length g) d) eL] at hf
  simp [fn_fewest_lost, b_fewest_lost, entry, e1, len_map, list_range (n := rs.length) (by omega) (by omega), e4, e2]
  unfold lostO
  cases q : opensB rs (rangeI 0 rs.length) d with
  | false => simp [optD]
  | true =>
    simp
    rw [hf]
    unfold lostG
    cases (groups rs.length).find? fun g => !opensB rs (off rs.length g) d <;> simp [flowR, optD]
variable [Has P F__law_hand fn__law_hand] [Has P F__law_draw fn__law_draw] [Has P F__law_any fn__law_any] [Has P F__law_rings fn__law_rings] [Has P F__law_door fn__law_door] [Has P F__law_opens fn__law_opens] [Has P F__law_lots fn__law_lots] [Has P F__law_lost fn__law_lost]
theorem groups_all : ∀ n : Nat, n ≤ 5 → ∃ g ∈ groups n, off n g = [] := by
  intro n hn
  have : n = 0 ∨ n = 1 ∨ n = 2 ∨ n = 3 ∨ n = 4 ∨ n = 5 := by omega
  rcases this with rfl | rfl | rfl | rfl | rfl | rfl <;> decide +kernel
theorem lost_some {rs : List (List Int)} (hl : rs.length ≤ 5) {d : List Int} (h0 : d ≠ []) : ∃ g, lostG rs d = some g := by
  obtain ⟨g, hg, ho⟩ := groups_all rs.length hl
  have : (lostG rs d).isSome = true := by
    unfold lostG
    rw [List.find?_isSome]
    refine ⟨g, hg, ?_⟩
    rw [ho]
    cases d with
    | nil => exact absurd rfl h0
    | cons k ks => simp [opensB]
  exact Option.isSome_iff_exists.mp this
theorem c_law_lost (n : Nat) {rs : List (List Int)} (h : Good rs) {d : List Int} (h0 : d ≠ []) : callF P (n + 2) F__law_lost [.val (.tuple (rs.map eL)), .val (eL d)] = ret (optD (lostO rs d)) := by
  rw [cf, runFn_eq _ _ _ rfl]
  have hl := h.l2
  have e1 := c_law_opens (P := P) n rs (G := .tuple ((rangeI 0 rs.length).map .int)) (wk_tup _) (wk_eL d) bound_all
  have e2 := c_law_lots (P := P) n rs.length hl
  have e5 := fun g : List Int => off_lc rs.length g (fun x => bnd (cmpV .notin x (eL g)) fun a => bnd (truthyV a) fun b => iteM b (ret (some x)) (ret none)) fun x => by rw [notin_eL, bnd_ret, truthy_bool, bnd_ret]
  have e6 : lcL (fun x => bnd (calm (lcL (fun y => bnd (cmpV .notin y x) fun a => bnd (truthyV a) fun b => iteM b (ret (some y)) (ret none)) ((rangeI 0 rs.length).map .int))) fun a => bnd (callF P (n + 1) 25 [.val (.tuple (rs.map eL)), .val (.list a), .val (eL d)]) fun a => bnd (truthyV a) fun a => iteM (!a) (ret (some x)) (ret none)) ((groups rs.length).map eL) = ret (((groups rs.length).filter fun g => !opensB rs (off rs.length g) d).map eL) :=
    lc_if (fun g => !opensB rs (off rs.length g) d) eL fun g _ => by
      rw [e5, calm_ret, bnd_ret]
      have e7 : callF P (n + 1) 25 [.val (.tuple (rs.map eL)), .val (.list ((off rs.length g).map .int)), .val (eL d)] = ret (.bool (opensB rs (off rs.length g) d)) := c_law_opens (P := P) n rs (wk_lst _) (wk_eL d) bound_off
      rw [e7, bnd_ret, truthy_bool, bnd_ret]
  obtain ⟨g, hg⟩ := lost_some hl h0
  have e8 : idxV (.list (((groups rs.length).filter fun g => !opensB rs (off rs.length g) d).map eL)) (.int 0) = ret (eL g) := by
    have e9 : ((groups rs.length).filter fun g => !opensB rs (off rs.length g) d).head? = some g := by
      rw [List.head?_filter]; exact hg
    cases q : (groups rs.length).filter fun g => !opensB rs (off rs.length g) d with
    | nil => rw [q] at e9; cases e9
    | cons a r =>
      rw [q] at e9
      cases e9
      have := idx_lst eL (g :: r) (i := 0) (by omega) (by simp only [List.length_cons]; omega)
      exact this
  simp [fn__law_lost, b__law_lost, entry, len_map, list_range (n := rs.length) (by omega) (by omega)]
  unfold lostO
  cases q : opensB rs (rangeI 0 rs.length) d with
  | false =>
    rw [q] at e1
    simp [e1, optD]
  | true =>
    rw [q] at e1
    simp [e1, e2, wk_lst, wk_tup]
    rw [e6]
    simp [e8, hg, optD]
/-! ### a copied key -/
def withK (r : List Int) (k : Int) : List Int := if k ∈ r then r else r ++ [k]
def copyL (rs : List (List Int)) (k : Int) : List (List Int) := rs.map fun r => sortE .int (withK r k)
theorem keys_all (r : List Int) (k : Int) (hn : r.Nodup) : (putsA ([] : List (Int × Bool)) ((r ++ [k]).map fun i => (i, true))).map (·.1) = withK r k := by
  rw [keys_putsA, List.map_map]
  have : (fun i : Int => ((i, true) : Int × Bool).1) = id := rfl
  show ((r ++ [k]).map id).foldl addK [] = _
  rw [List.map_id, List.foldl_append, addK_nodup r [] (by simpa using hn)]
  rfl
theorem len_withK (r : List Int) (k : Int) : (withK r k).length ≤ r.length + 1 := by
  unfold withK
  split <;> simp
theorem copy_sorted {r : List Int} {k : Int} (hn : r.Nodup) (hl : r.length ≤ 1000) : b1V .sorted (.dict (encD PyData.int PyData.bool (putsA ([] : List (Int × Bool)) ((r ++ [k]).map fun i => (i, true))))) = ret (.list ((sortE .int (withK r k)).map .int)) := by
  have := sorted_dict (ek := PyData.int) (ev := PyData.bool) (kvs := putsA ([] : List (Int × Bool)) ((r ++ [k]).map fun i => (i, true))) (by
    rw [keys_all r k hn]
    exact sortOk_int (by have := len_withK r k; omega))
  rw [keys_all r k hn] at this
  exact this
variable [Has P F_copied_key fn_copied_key]
theorem lot_nodup {r : List Int} {m : Int} (h : lotB r m = true) : r.Nodup := (lotB_iff.mp h).2.imp fun h => by omega
theorem c_copied_key (n : Nat) {rs : List (List Int)} (h : Good rs) {k : Int} (k0 : 0 ≤ k) (k1 : k ≤ 9) : callF P (n + 6) F_copied_key [.val (.tuple (rs.map eL)), .val (.int k)] = ret (.tuple ((copyL rs k).map eL)) := by
  rw [cf, runFn_eq _ _ _ rfl]
  have e1 := c_check_rings (P := P) n h
  have e2 := c_is_within (P := P) (n + 3) (.int k) 0 9
  have e3 : withinD (.int k) 0 9 = true := by simp [withinD, k0, k1]
  rw [e3] at e2
  have e4 : lcL (fun x => bnd (bopV .add x (.tuple [.int k])) fun a => bnd (walkD a) fun xs => bnd (calm (dcL (fun d => ret (some (d, PyData.bool true))) xs [])) fun kvs => bnd (b1V .sorted (.dict kvs)) fun a => bnd (b1V .tuple a) fun y => ret (some y)) (rs.map eL) = ret ((copyL rs k).map eL) := by
    have := lc_all (f := fun x => bnd (bopV .add x (.tuple [.int k])) fun a => bnd (walkD a) fun xs => bnd (calm (dcL (fun d => ret (some (d, PyData.bool true))) xs [])) fun kvs => bnd (b1V .sorted (.dict kvs)) fun a => bnd (b1V .tuple a) fun y => ret (some y)) (e := eL) (xs := rs) (fun r => eL (sortE .int (withK r k))) fun r hr => by
      have hlot := h.lot r hr
      have hlen := lot_len (m := 10) hlot
      rw [add_eL r k (by omega), bnd_ret, wk_eL, bnd_ret]
      have e5 := dcL_enc (ek := PyData.int) (ev := PyData.bool) KeyE.int (f := fun d => ret (some (d, PyData.bool true))) (e := PyData.int) (fun i => some (i, true)) (r ++ [k]) [] (fun x _ => rfl) (by simp [line]; omega)
      have e6 : (r ++ [k]).filterMap (fun i => some (i, true)) = (r ++ [k]).map fun i => (i, true) := filterMap_some _ _
      rw [e6] at e5
      have e7 : dcL (fun d => ret (some (d, PyData.bool true))) ((r ++ [k]).map .int) [] = ret (encD PyData.int PyData.bool (putsA ([] : List (Int × Bool)) ((r ++ [k]).map fun i => (i, true)))) := e5
      rw [e7, calm_ret, bnd_ret, copy_sorted (lot_nodup hlot) (by omega), bnd_ret, tup_lst, bnd_ret]
      rfl
    rw [this]
    unfold copyL
    rw [List.map_map]
    rfl
  simp [fn_copied_key, b_copied_key, entry, e1, e2, wk_tup]
  rw [e4]
  simp
end
end Ev.KR
set_option Elab.async false
set_option linter.all false
set_option maxRecDepth 100000
set_option maxHeartbeats 4000000
/-! Spare keys, strangers: what the defs are worth. -/
namespace Ev.KR
open Ev PySem PySem.W
def eP (x : Int × Int) : D := .tuple [.int x.1, .int x.2]
theorem fold_flat {α β : Type} (f : α → List β) : ∀ (xs : List α) (acc : List β), xs.foldl (fun acc x => acc ++ f x) acc = acc ++ xs.flatMap f
  | [], acc => by simp
  | x :: xs, acc => by rw [List.foldl_cons, fold_flat f xs, List.flatMap_cons, List.append_assoc]
theorem flat_len {α β : Type} (f : α → List β) (m : Nat) : ∀ xs : List α, (∀ x ∈ xs, (f x).length ≤ m) → (xs.flatMap f).length ≤ m * xs.length
  | [], _ => by simp
  | x :: xs, h => by
    have h1 := h x List.mem_cons_self
    have h2 := flat_len f m xs fun y hy => h y (List.mem_cons_of_mem _ hy)
    rw [List.flatMap_cons, List.length_append, List.length_cons, Nat.mul_succ]
    omega
theorem fold_filter_map {α β : Type} (p : α → Bool) (f : α → β) : ∀ (xs : List α) (acc : List β), xs.foldl (fun acc x => if p x = true then acc ++ [f x] else acc) acc = acc ++ (xs.filter p).map f
  | [], acc => by simp
  | x :: xs, acc => by
    rw [List.foldl_cons, fold_filter_map p f xs]
    by_cases c : p x = true
    · rw [if_pos c, List.filter_cons_of_pos c]; simp
    · rw [if_neg c, List.filter_cons_of_neg c]
def otherB (rs : List (List Int)) (p k : Int) : Bool := ((rangeI 0 rs.length).filter fun o => !decide (o = p)).any fun o => decide (k ∈ at_ rs o)
def spB (rs : List (List Int)) (d : List Int) (p k : Int) : Bool := decide (k ∈ d) && opensB rs (rangeI 0 rs.length) d && otherB rs p k
def spareF (rs : List (List Int)) (d : List Int) (p : Int) : List (Int × Int) := ((at_ rs p).filter (spB rs d p)).map fun k => (p, k)
def spareL (rs : List (List Int)) (d : List Int) : List (Int × Int) := (rangeI 0 rs.length).flatMap (spareF rs d)
def strF (rs : List (List Int)) (ds : List (List Int)) (a : Int) : List (Int × Int) := ((rangeI (a + 1) rs.length).filter fun b => !ds.any fun d => opensB rs [a, b] d).map fun b => (a, b)
def strL (rs : List (List Int)) (ds : List (List Int)) : List (Int × Int) := (rangeI 0 rs.length).flatMap (strF rs ds)
section
variable {P : Prg} [Has P F_is_integer fn_is_integer] [Has P F_is_within fn_is_within] [Has P F_is_sized fn_is_sized] [Has P F_is_lot fn_is_lot] [Has P F_raw_opens fn_raw_opens] [Has P F_is_door fn_is_door] [Has P F_are_rings fn_are_rings] [Has P F_check_rings fn_check_rings] [Has P F_check_door fn_check_door]
theorem other_lc (rs : List (List Int)) (p k : Int) (f : D → M (Option D)) (hf : ∀ x : Int, 0 ≤ x → x < rs.length → f (.int x) = iteM (!decide (x = p)) (ret (some (.bool (decide (k ∈ at_ rs x))))) (ret none)) : lcL f ((rangeI 0 rs.length).map .int) = ret (((rangeI 0 rs.length).filter fun o => !decide (o = p)).map fun o => .bool (decide (k ∈ at_ rs o))) :=
  lc_if (fun o => !decide (o = p)) (fun o => .bool (decide (k ∈ at_ rs o))) fun o ho => by
    have := bound_all o ho
    exact hf o this.1 this.2
variable [Has P F_spare_keys fn_spare_keys]
theorem c_spare_keys (n : Nat) {rs : List (List Int)} (h : Good rs) {d : List Int} (hd : lotB d 10 = true) (h0 : d ≠ []) : callF P (n + 7) F_spare_keys [.val (.tuple (rs.map eL)), .val (eL d)] = ret (.tuple ((spareL rs d).map eP)) := by
  rw [cf, runFn_eq _ _ _ rfl]
  have e1 := c_check_door (P := P) n h hd h0
  have e2 := c_raw_opens (P := P) (n + 5) rs (G := .list ((rangeI 0 rs.length).map .int)) (wk_lst _) (wk_eL d) bound_all
  have e4 : b1V .list (.list ((rangeI 0 rs.length).map PyData.int)) = ret (.list ((rangeI 0 rs.length).map .int)) := rfl
  have hl := h.l2
  have hlen : ∀ p ∈ rangeI 0 rs.length, (spareF rs d p).length ≤ 10 := fun p hp => by
    have hb := bound_all p hp
    unfold spareF
    rw [List.length_map]
    exact Nat.le_trans (List.length_filter_le _ _) (lot_len (m := 10) (h.lot _ (at_mem hb.1 hb.2)))
  have hf := forS (K := calOf P (n + 6)) (env := [.val (.tuple (rs.map eL)), .val (eL d), .val (.list ((rangeI 0 rs.length).map .int)), .own (.list []), .no, .no, .no, .no]) (t := .tup [.name 4, .name 5]) (it := .enum (.var 0)) (car := [3]) (tmp := [4, 5, 6])
    (body := [.for (.name 6) (.var 5) [3] [6] [.ite (.and (.cmp .isin (.var 6) (.var 1)) (.call 9 [.var 0, .var 2, .var 1])) [.ite (.b1 .any (.lc (.cmp .isin (.var 6) (.idx (.var 0) (.var 7))) (.name 7) (.var 2) [.cmp .ne (.var 7) (.var 4)] [7])) [.app 3 (.tup [.var 4, .var 6])] []] []]])
    (fun i => PyData.tuple [.int i, eL (at_ rs i)]) (fun s : List (Int × Int) => [Slot.own (.list (s.map eP))]) (fun acc p => acc ++ spareF rs d p) (rangeI 0 rs.length) [] (by simp [enum_rs, wk_lst]) rfl (fun pre p post hp => by
      rw [fold_flat, List.nil_append]
      have hpm : p ∈ rangeI 0 rs.length := by rw [hp]; simp
      have hb := bound_all p hpm
      have hpre : (pre.flatMap (spareF rs d)).length ≤ 50 := by
        have z1 := flat_len (spareF rs d) 10 pre fun y hy => hlen y (by rw [hp]; simp [hy])
        have z2 : pre.length ≤ 5 := by
          have := congrArg List.length hp
          rw [length_rangeI, List.length_append] at this
          omega
        omega
      obtain ⟨acc, hacc⟩ : ∃ acc, acc = pre.flatMap (spareF rs d) := ⟨_, rfl⟩
      rw [← hacc] at hpre ⊢
      have hin := forS (K := calOf P (n + 6)) (env := [.val (.tuple (rs.map eL)), .val (eL d), .val (.list ((rangeI 0 rs.length).map .int)), .own (.list (acc.map eP)), .val (.int p), .val (eL (at_ rs p)), .no, .no]) (t := .name 6) (it := .var 5) (car := [3]) (tmp := [6])
        (body := [.ite (.and (.cmp .isin (.var 6) (.var 1)) (.call 9 [.var 0, .var 2, .var 1])) [.ite (.b1 .any (.lc (.cmp .isin (.var 6) (.idx (.var 0) (.var 7))) (.name 7) (.var 2) [.cmp .ne (.var 7) (.var 4)] [7])) [.app 3 (.tup [.var 4, .var 6])] []] []])
        PyData.int (fun s : List (Int × Int) => [Slot.own (.list (s.map eP))]) (fun ac k => if spB rs d p k = true then ac ++ [(p, k)] else ac) (at_ rs p) acc (by simp [wk_eL]) rfl (fun pre2 k post2 hp2 => by
          rw [fold_filter_map (spB rs d p) (fun k => (p, k))]
          have e5 := other_lc rs p k (fun x => bnd (cmpV .ne x (.int p)) fun a => bnd (truthyV a) fun b => iteM b (bnd (idxV (.tuple (rs.map eL)) x) fun y => bnd (cmpV .isin (.int k) y) fun y => ret (some y)) (ret none)) fun x x0 x1 => by
            rw [cmp_ne_int, bnd_ret, truthy_bool, bnd_ret, idx_tup eL rs x0 x1, bnd_ret, isin_eL, bnd_ret]
          obtain ⟨ac, hac⟩ : ∃ ac, ac = acc ++ (pre2.filter (spB rs d p)).map fun k => (p, k) := ⟨_, rfl⟩
          have hac2 : ac.length < 16777216 := by
            rw [hac, List.length_append, List.length_map]
            have z1 := List.length_filter_le (spB rs d p) pre2
            have z2 := congrArg List.length hp2
            have z3 := lot_len (m := 10) (h.lot _ (at_mem hb.1 hb.2))
            rw [List.length_append] at z2
            omega
          rw [← hac]
          unfold spB
          by_cases c1 : k ∈ d
          · rw [decide_eq_true c1]
            cases c2 : opensB rs (rangeI 0 rs.length) d with
            | false =>
              rw [c2] at e2
              simp [isin_eL, c1, andV, e2]
            | true =>
              rw [c2] at e2
              cases c3 : otherB rs p k with
              | false =>
                unfold otherB at c3
                simp [isin_eL, c1, andV, e2, wk_lst, e5, c3, -List.any_filter]
              | true =>
                unfold otherB at c3
                simp [isin_eL, c1, andV, e2, wk_lst, e5, c3, -List.any_filter]
                have := app_own eP ac (p, k) [.val (.tuple (rs.map eL)), .val (eL d), .val (.list ((rangeI 0 rs.length).map .int)), .own (.list (ac.map eP)), .val (.int p), .val (eL (at_ rs p)), .val (.int k), .no] 3 hac2 rfl
                have e9 : eP (p, k) = PyData.tuple [.int p, .int k] := rfl
                rw [e9] at this
                rw [this]
                simp
          · rw [decide_eq_false c1]
            simp [isin_eL, c1, andV])
      rw [fold_filter_map (spB rs d p) (fun k => (p, k))] at hin
      simp
      rw [hin]
      simp [spareF])
  rw [fold_flat, List.nil_append] at hf
  simp [fn_spare_keys, b_spare_keys, entry, e1, len_map, list_range (n := rs.length) (by omega) (by omega), e4, parT]
  rw [hf]
  simp [spareL]
variable [Has P F_strangers fn_strangers]
theorem c_strangers (n : Nat) {rs : List (List Int)} (h : Good rs) {ds : List (List Int)} (hd : ∀ d ∈ ds, lotB d 10 = true ∧ d ≠ []) (l1 : 1 ≤ ds.length) (l2 : ds.length ≤ 5) : callF P (n + 6) F_strangers [.val (.tuple (rs.map eL)), .val (.tuple (ds.map eL))] = ret (.tuple ((strL rs ds).map eP)) := by
  rw [cf, runFn_eq _ _ _ rfl]
  have e1 := c_check_rings (P := P) n h
  have e2 := c_is_sized (P := P) (n + 4) (.tuple (ds.map eL)) 1 5
  have e3 : sizedD (.tuple (ds.map eL)) 1 5 = true := by simp [sizedD]; omega
  rw [e3] at e2
  have e4 : lcL (fun x => bnd (callF P (n + 5) F_is_door [.val x]) fun y => ret (some y)) (ds.map eL) = ret (ds.map fun _ => .bool true) :=
    lc_all (fun _ => .bool true) fun d hm => by rw [c_is_door (P := P) (n + 1) d (hd d hm).1 (hd d hm).2, bnd_ret]
  have e5 : (ds.all fun _ => true) = true := List.all_eq_true.mpr fun _ _ => rfl
  have hl := h.l2
  have hlen : ∀ a ∈ rangeI 0 rs.length, (strF rs ds a).length ≤ 5 := fun a ha => by
    have hb := bound_all a ha
    unfold strF
    rw [List.length_map]
    refine Nat.le_trans (List.length_filter_le _ _) ?_
    rw [length_rangeI]; omega
  have hr : ∀ a : Int, 0 ≤ a → a < rs.length → rangeV (a + 1) rs.length 1 = ret ((rangeI (a + 1) rs.length).map .int) := fun a a0 a1 => rangeV_I (by omega) (by omega) (by omega) (by omega)
  have hf := forS (K := calOf P (n + 5)) (env := [.val (.tuple (rs.map eL)), .val (.tuple (ds.map eL)), .own (.list []), .no, .no, .no]) (t := .name 3) (it := .range (.cst (.int 0)) (.b1 .len (.var 0)) (.cst (.int 1))) (car := [2]) (tmp := [3, 4])
    (body := [.for (.name 4) (.range (.bop .add (.var 3) (.cst (.int 1))) (.b1 .len (.var 0)) (.cst (.int 1))) [2] [4] [.ite (.not (.b1 .any (.lc (.call 9 [.var 0, .tup [.var 3, .var 4], .var 5]) (.name 5) (.var 1) [] [5]))) [.app 2 (.tup [.var 3, .var 4])] []]])
    PyData.int (fun s : List (Int × Int) => [Slot.own (.list (s.map eP))]) (fun acc a => acc ++ strF rs ds a) (rangeI 0 rs.length) [] (by simp [len_map, list_range (n := rs.length) (by omega) (by omega), wk_lst]) rfl (fun pre a post hp => by
      rw [fold_flat, List.nil_append]
      have hpm : a ∈ rangeI 0 rs.length := by rw [hp]; simp
      have hb := bound_all a hpm
      have hpre : (pre.flatMap (strF rs ds)).length ≤ 25 := by
        have z1 := flat_len (strF rs ds) 5 pre fun y hy => hlen y (by rw [hp]; simp [hy])
        have z2 : pre.length ≤ 5 := by
          have := congrArg List.length hp
          rw [length_rangeI, List.length_append] at this
          omega
        omega
      obtain ⟨acc, hacc⟩ : ∃ acc, acc = pre.flatMap (strF rs ds) := ⟨_, rfl⟩
      rw [← hacc] at hpre ⊢
      have hin := forS (K := calOf P (n + 5)) (env := [.val (.tuple (rs.map eL)), .val (.tuple (ds.map eL)), .own (.list (acc.map eP)), .val (.int a), .no, .no]) (t := .name 4) (it := .range (.bop .add (.var 3) (.cst (.int 1))) (.b1 .len (.var 0)) (.cst (.int 1))) (car := [2]) (tmp := [4])
        (body := [.ite (.not (.b1 .any (.lc (.call 9 [.var 0, .tup [.var 3, .var 4], .var 5]) (.name 5) (.var 1) [] [5]))) [.app 2 (.tup [.var 3, .var 4])] []])
        PyData.int (fun s : List (Int × Int) => [Slot.own (.list (s.map eP))]) (fun ac b => if (!ds.any fun d => opensB rs [a, b] d) = true then ac ++ [(a, b)] else ac) (rangeI (a + 1) rs.length) acc (by simp [len_map, hr a hb.1 hb.2, wk_lst]) rfl (fun pre2 b post2 hp2 => by
          rw [fold_filter_map (fun b => !ds.any fun d => opensB rs [a, b] d) (fun b => (a, b))]
          have hbm : b ∈ rangeI (a + 1) rs.length := by rw [hp2]; simp
          have hbb := mem_rangeI.mp hbm
          have e6 : lcL (fun x => bnd (callF P (n + 5) 9 [.val (.tuple (rs.map eL)), .val (.tuple [.int a, .int b]), .val x]) fun y => ret (some y)) (ds.map eL) = ret (ds.map fun d => .bool (opensB rs [a, b] d)) :=
            lc_all (fun d => .bool (opensB rs [a, b] d)) fun d _ => by
              have : callF P (n + 5) 9 [.val (.tuple (rs.map eL)), .val (.tuple [.int a, .int b]), .val (eL d)] = ret (.bool (opensB rs [a, b] d)) := c_raw_opens (P := P) (n + 4) rs (G := .tuple [.int a, .int b]) (g := [a, b]) (wk_tup _) (wk_eL d) (by
                intro q hq
                simp only [List.mem_cons, List.not_mem_nil, or_false] at hq
                rcases hq with rfl | rfl <;> omega)
              rw [this, bnd_ret]
          obtain ⟨ac, hac⟩ : ∃ ac, ac = acc ++ (pre2.filter fun b => !ds.any fun d => opensB rs [a, b] d).map fun b => (a, b) := ⟨_, rfl⟩
          have hac2 : ac.length < 16777216 := by
            rw [hac, List.length_append, List.length_map]
            have z1 := List.length_filter_le (fun b => !ds.any fun d => opensB rs [a, b] d) pre2
            have z2 := congrArg List.length hp2
            rw [List.length_append, length_rangeI] at z2
            omega
          rw [← hac]
          cases c : ds.any fun d => opensB rs [a, b] d with
          | true => simp [wk_tup, e6, c]
          | false =>
            simp [wk_tup, e6, c]
            have := app_own eP ac (a, b) [.val (.tuple (rs.map eL)), .val (.tuple (ds.map eL)), .own (.list (ac.map eP)), .val (.int a), .val (.int b), .no] 2 hac2 rfl
            have e9 : eP (a, b) = PyData.tuple [.int a, .int b] := rfl
            rw [e9] at this
            rw [this]
            simp)
      rw [fold_filter_map (fun b => !ds.any fun d => opensB rs [a, b] d) (fun b => (a, b))] at hin
      simp
      rw [hin]
      simp [strF])
  rw [fold_flat, List.nil_append] at hf
  simp [fn_strangers, b_strangers, entry, e1, e2, wk_tup, orV]
  rw [e4]
  simp [e5]
  rw [hf]
  simp [strL]
/-! what is refused -/
theorem x_door' (n : Nat) {rs : List (List Int)} (h : Good rs) {O : D} (hO : callF P (n + 5) F_is_door [.val O] = ret (.bool false)) : callF P (n + 6) F_check_door [.val (.tuple (rs.map eL)), .val O] = thr ⟨X_NoDoor, []⟩ := by
  rw [cf, runFn_eq _ _ _ rfl]
  have e1 := c_check_rings (P := P) n h
  simp [fn_check_door, b_check_door, entry, e1, hO]
variable [Has P F_fewest_lost fn_fewest_lost] [Has P F_copied_key fn_copied_key]
theorem x_fewest (n : Nat) {R O : D} {e : Exn} (h : callF P (n + 6) F_check_door [.val R, .val O] = thr e) : callF P (n + 7) F_fewest_lost [.val R, .val O] = thr e := by
  rw [cf, runFn_eq _ _ _ rfl]
  simp [fn_fewest_lost, b_fewest_lost, entry, h]
theorem x_spare (n : Nat) {R O : D} {e : Exn} (h : callF P (n + 6) F_check_door [.val R, .val O] = thr e) : callF P (n + 7) F_spare_keys [.val R, .val O] = thr e := by
  rw [cf, runFn_eq _ _ _ rfl]
  simp [fn_spare_keys, b_spare_keys, entry, h]
theorem x_copied (n : Nat) {rs : List (List Int)} (h : Good rs) {k : D} (hk : withinD k 0 9 = false) : callF P (n + 6) F_copied_key [.val (.tuple (rs.map eL)), .val k] = thr ⟨X_NoKey, []⟩ := by
  rw [cf, runFn_eq _ _ _ rfl]
  have e1 := c_check_rings (P := P) n h
  have e2 := c_is_within (P := P) (n + 3) k 0 9
  rw [hk] at e2
  simp [fn_copied_key, b_copied_key, entry, e1, e2]
theorem x_strangers_size (n : Nat) {rs : List (List Int)} (h : Good rs) {x : D} (hx : sizedD x 1 5 = false) : callF P (n + 6) F_strangers [.val (.tuple (rs.map eL)), .val x] = thr ⟨X_NoDoors, []⟩ := by
  rw [cf, runFn_eq _ _ _ rfl]
  have e1 := c_check_rings (P := P) n h
  have e2 := c_is_sized (P := P) (n + 4) x 1 5
  rw [hx] at e2
  simp [fn_strangers, b_strangers, entry, e1, e2, orV]
theorem x_strangers_one (n : Nat) {rs : List (List Int)} (h : Good rs) {O : D} (hO : callF P (n + 5) F_is_door [.val O] = ret (.bool false)) : callF P (n + 6) F_strangers [.val (.tuple (rs.map eL)), .val (.tuple [O])] = thr ⟨X_NoDoors, []⟩ := by
  rw [cf, runFn_eq _ _ _ rfl]
  have e1 := c_check_rings (P := P) n h
  have e2 := c_is_sized (P := P) (n + 4) (.tuple [O]) 1 5
  have e3 : sizedD (.tuple [O]) 1 5 = true := rfl
  rw [e3] at e2
  have e4 : b1V .all (.list [.bool false]) = ret (.bool false) := rfl
  have e5 : lcL (fun x => bnd (callF P (n + 5) F_is_door [.val x]) fun y => ret (some y)) [O] = ret [.bool false] := by
    show bnd (bnd (callF P (n + 5) F_is_door [.val O]) fun y => ret (some y)) _ = _
    rw [hO, bnd_ret, bnd_ret, lcL_nil, bnd_ret]
  simp [fn_strangers, b_strangers, entry, e1, e2, wk_tup, orV]
  rw [e5]
  simp [e4]
end
section
variable {P : Prg} [Has P F_is_integer fn_is_integer] [Has P F_is_within fn_is_within] [Has P F_is_sized fn_is_sized] [Has P F_is_lot fn_is_lot] [Has P F_is_door fn_is_door]
theorem x_is_door2 (n : Nat) {d : D} (h : isLotD d 10 = false ∨ d = .tuple []) : callF P (n + 4) F_is_door [.val d] = ret (.bool false) := by
  rw [cf, runFn_eq _ _ _ rfl]
  have e := c_is_lot (P := P) n d 10
  rcases h with h | h
  · rw [h] at e
    simp [fn_is_door, b_is_door, entry, e]
  · subst h
    have h2 : isLotD (.tuple []) 10 = true := rfl
    rw [h2] at e
    have hl : b1V .len (.tuple []) = ret (.int 0) := rfl
    simp [fn_is_door, b_is_door, entry, e, hl]
end
end Ev.KR
set_option Elab.async false
set_option linter.all false
set_option maxRecDepth 100000
set_option maxHeartbeats 1000000
/-! Groups that open: the plain law. -/
namespace Ev.KR
open Ev PySem PySem.W
theorem any_sortE {α : Type} (e : α → D) (p : α → Bool) (xs : List α) : (sortE e xs).any p = xs.any p := by
  rw [Bool.eq_iff_iff, List.any_eq_true, List.any_eq_true]
  constructor
  · rintro ⟨x, hx, h⟩; exact ⟨x, (mem_sortE e).mp hx, h⟩
  · rintro ⟨x, hx, h⟩; exact ⟨x, (mem_sortE e).mpr hx, h⟩
/-- more of them open no less -/
theorem opens_mono {rs : List (List Int)} {g g' d : List Int} (h : ∀ p ∈ g, p ∈ g') (ho : opensB rs g d = true) : opensB rs g' d = true := by
  simp only [opensB, List.all_eq_true, List.any_eq_true] at *
  intro key hk
  obtain ⟨p, hp, q⟩ := ho key hk
  exact ⟨p, h p hp, q⟩
/-- no smaller one of the groups that open is within -/
def leastLaw (op : List Int → Bool) (gs : List (List Int)) : List (List Int) := (gs.filter op).filter fun g => !(gs.filter op).any fun o => decide (o.length < g.length) && o.all fun p => decide (p ∈ g)
theorem groups_down : ∀ n : Nat, n ≤ 5 → ∀ g ∈ groups n, ∀ p ∈ g, without g p ∈ groups n ∧ (without g p).length < g.length := by
  intro n hn
  have : n = 0 ∨ n = 1 ∨ n = 2 ∨ n = 3 ∨ n = 4 ∨ n = 5 := by omega
  rcases this with rfl | rfl | rfl | rfl | rfl | rfl <;> decide +kernel
theorem groups_apart : ∀ n : Nat, n ≤ 5 → ∀ g ∈ groups n, ∀ o ∈ groups n, o.length < g.length → ∃ p ∈ g, p ∉ o := by
  intro n hn
  have : n = 0 ∨ n = 1 ∨ n = 2 ∨ n = 3 ∨ n = 4 ∨ n = 5 := by omega
  rcases this with rfl | rfl | rfl | rfl | rfl | rfl <;> decide +kernel
theorem filter_filter' {α : Type} (p q : α → Bool) (xs : List α) : (xs.filter p).filter q = xs.filter fun x => p x && q x := by
  rw [List.filter_filter]
  exact List.filter_congr fun x _ => Bool.and_comm _ _
theorem least_eq {rs : List (List Int)} {d : List Int} {n : Nat} (hn : n ≤ 5) : leastLaw (fun g => opensB rs g d) (groups n) = leastOf (fun g => opensB rs g d) (groups n) := by
  unfold leastLaw leastOf
  rw [filter_filter']
  refine List.filter_congr fun g hg => ?_
  dsimp only
  cases ho : opensB rs g d with
  | false => simp
  | true =>
    rw [Bool.true_and, Bool.true_and]
    refine congrArg (fun b => !b) ?_
    rw [Bool.eq_iff_iff, List.any_eq_true, List.any_eq_true]
    constructor
    · rintro ⟨o, h1, h2⟩
      obtain ⟨h3, h4⟩ := List.mem_filter.mp h1
      simp only [Bool.and_eq_true, decide_eq_true_eq, List.all_eq_true] at h2
      obtain ⟨p, hp, hq⟩ := groups_apart n hn g hg o h3 (by have := h2.1; omega)
      refine ⟨p, hp, opens_mono (g := o) (fun x hx => ?_) h4⟩
      exact List.mem_filter.mpr ⟨h2.2 x hx, by simp only [Bool.not_eq_true', decide_eq_false_iff_not]; intro e; rw [e] at hx; exact hq hx⟩
    · rintro ⟨p, hp, h2⟩
      obtain ⟨h3, h4⟩ := groups_down n hn g hg p hp
      refine ⟨without g p, List.mem_filter.mpr ⟨h3, h2⟩, ?_⟩
      simp only [Bool.and_eq_true, decide_eq_true_eq, List.all_eq_true]
      exact ⟨by omega, fun x hx => (List.mem_filter.mp hx).1⟩
theorem fewer_eq (op : List Int → Bool) (k : Int) (gs : List (List Int)) : sortE eL ((gs.filter op).filter fun g => decide ((g.length : Int) < k)) = fewerL op (sortE eL gs) k := by
  unfold fewerL
  rw [filter_filter', filter_sortE]
  congr 1
  exact List.filter_congr fun x _ => Bool.and_comm _ _
theorem none_eq (op : List Int → Bool) (k : Int) (gs : List (List Int)) : sortE eL (gs.filter fun g => decide ((g.length : Int) = k) && !decide (g ∈ gs.filter op)) = noneL op (sortE eL gs) k := by
  unfold noneL
  rw [filter_sortE]
  congr 1
  refine List.filter_congr fun x hx => ?_
  congr 2
  rw [Bool.eq_iff_iff, decide_eq_true_eq, List.mem_filter]
  exact ⟨fun h => h.2, fun h => ⟨hx, h⟩⟩
end Ev.KR
set_option Elab.async false
set_option linter.all false
set_option maxRecDepth 100000
set_option maxHeartbeats 1000000
/-! Keys lost, spare, copied: the plain law. -/
namespace Ev.KR
open Ev PySem PySem.W
theorem pw_ext : ∀ {xs ys : List Int}, xs.Pairwise (· < ·) → ys.Pairwise (· < ·) → (∀ z, z ∈ xs ↔ z ∈ ys) → xs = ys
  | [], [], _, _, _ => rfl
  | [], y :: ys, _, _, h => by have := (h y).mpr List.mem_cons_self; simp at this
  | x :: xs, [], _, _, h => by have := (h x).mp List.mem_cons_self; simp at this
  | x :: xs, y :: ys, h1, h2, h => by
    rw [List.pairwise_cons] at h1 h2
    have e : x = y := by
      rcases List.mem_cons.mp ((h x).mp List.mem_cons_self) with q | q
      · exact q
      · rcases List.mem_cons.mp ((h y).mpr List.mem_cons_self) with r | r
        · exact r.symm
        · have := h2.1 x q
          have := h1.1 y r
          omega
    subst e
    rw [pw_ext h1.2 h2.2 fun z => ?_]
    constructor
    · intro hz
      rcases List.mem_cons.mp ((h z).mp (List.mem_cons_of_mem _ hz)) with q | q
      · have := h1.1 z hz; omega
      · exact q
    · intro hz
      rcases List.mem_cons.mp ((h z).mpr (List.mem_cons_of_mem _ hz)) with q | q
      · have := h2.1 z hz; omega
      · exact q
theorem filter_comm {xs ys : List Int} (h1 : xs.Pairwise (· < ·)) (h2 : ys.Pairwise (· < ·)) (q : Int → Bool) : xs.filter (fun k => decide (k ∈ ys) && q k) = ys.filter fun k => decide (k ∈ xs) && q k := by
  refine pw_ext (h1.filter _) (h2.filter _) fun z => ?_
  simp only [List.mem_filter, Bool.and_eq_true, decide_eq_true_eq]
  constructor
  · rintro ⟨a, b, c⟩; exact ⟨b, a, c⟩
  · rintro ⟨a, b, c⟩; exact ⟨b, a, c⟩
def spareW (rs : List (List Int)) (d : List Int) : List (Int × Int) := (rangeI 0 rs.length).flatMap fun p => (d.filter fun k => decide (k ∈ at_ rs p) && (opensB rs (rangeI 0 rs.length) d && otherB rs p k)).map fun k => (p, k)
theorem flat_congr {α β : Type} {f g : α → List β} : ∀ {xs : List α}, (∀ x ∈ xs, f x = g x) → xs.flatMap f = xs.flatMap g
  | [], _ => rfl
  | x :: xs, h => by rw [List.flatMap_cons, List.flatMap_cons, h x List.mem_cons_self, flat_congr fun y hy => h y (List.mem_cons_of_mem _ hy)]
theorem spare_eq {rs : List (List Int)} (h : Good rs) {d : List Int} (hd : lotB d 10 = true) : spareW rs d = spareL rs d := by
  refine flat_congr fun p hp => ?_
  have hb := bound_all p hp
  have hl := h.lot _ (at_mem hb.1 hb.2)
  unfold spareF
  congr 1
  rw [filter_comm (lotB_iff.mp hd).2 (lotB_iff.mp hl).2 fun k => opensB rs (rangeI 0 rs.length) d && otherB rs p k]
  refine List.filter_congr fun k _ => ?_
  unfold spB
  rw [Bool.and_assoc]
theorem mem_withK {r : List Int} {k z : Int} : z ∈ withK r k ↔ z ∈ r ∨ z = k := by
  unfold withK
  split
  · rename_i c
    constructor
    · exact .inl
    · rintro (q | rfl)
      · exact q
      · exact c
  · simp
theorem nodup_withK {r : List Int} {k : Int} (h : r.Nodup) : (withK r k).Nodup := by
  unfold withK
  split
  · exact h
  · rename_i c
    rw [List.nodup_append]
    exact ⟨h, by simp, fun a ha b hb => by rw [List.mem_singleton.mp hb]; rintro rfl; exact c ha⟩
theorem good_copy {rs : List (List Int)} (h : Good rs) {k : Int} (k0 : 0 ≤ k) (k1 : k ≤ 9) : Good (copyL rs k) := by
  refine ⟨by simp [copyL, h.l1], by simp [copyL, h.l2], fun r hr => ?_⟩
  obtain ⟨q, hq, rfl⟩ := List.mem_map.mp hr
  have hl := h.lot q hq
  refine lot_sort (nodup_withK (lot_nodup hl)) fun x hx => ?_
  rcases mem_withK.mp hx with z | rfl
  · exact (lotB_iff.mp hl).1 x z
  · omega
theorem at_copy {rs : List (List Int)} {k p : Int} (p0 : 0 ≤ p) (p1 : p < rs.length) : at_ (copyL rs k) p = sortE .int (withK (at_ rs p) k) := by
  have hl : p.toNat < rs.length := by omega
  simp [at_, copyL, List.getD_eq_getElem?_getD, List.getElem?_map, List.getElem?_eq_getElem hl]
theorem opens_copy {rs : List (List Int)} {k : Int} {g d : List Int} (hg : ∀ p ∈ g, 0 ≤ p ∧ p < rs.length) (h : opensB rs g d = true) : opensB (copyL rs k) g d = true := by
  simp only [opensB, List.all_eq_true, List.any_eq_true, decide_eq_true_eq] at *
  intro key hk
  obtain ⟨p, hp, q⟩ := h key hk
  refine ⟨p, hp, ?_⟩
  rw [at_copy (hg p hp).1 (hg p hp).2, mem_sortE, mem_withK]
  exact .inl q
theorem groups_sorted : ∀ n : Nat, n ≤ 5 → (groups n).Pairwise fun a b => a.length ≤ b.length := by
  intro n hn
  have : n = 0 ∨ n = 1 ∨ n = 2 ∨ n = 3 ∨ n = 4 ∨ n = 5 := by omega
  rcases this with rfl | rfl | rfl | rfl | rfl | rfl <;> decide +kernel
theorem find_le {α : Type} {R : α → α → Prop} {p : α → Bool} {g g' : α} (hr : ∀ a, R a a) : ∀ {xs : List α}, xs.Pairwise R → xs.find? p = some g → g' ∈ xs → p g' = true → R g g'
  | [], _, h, _, _ => by cases h
  | x :: xs, hp, h, hm, hg => by
    rw [List.pairwise_cons] at hp
    rw [List.find?_cons] at h
    cases q : p x with
    | true =>
      rw [q] at h
      cases h
      rcases List.mem_cons.mp hm with rfl | hm
      · exact hr _
      · exact hp.1 _ hm
    | false =>
      rw [q] at h
      rcases List.mem_cons.mp hm with rfl | hm
      · rw [q] at hg; cases hg
      · exact find_le hr hp.2 h hm hg
theorem lost_copy {rs : List (List Int)} (h : Good rs) {d : List Int} (h0 : d ≠ []) {k : Int} (k0 : 0 ≤ k) (k1 : k ≤ 9) {g : List Int} (hg : lostO rs d = some g) : ∃ g', lostO (copyL rs k) d = some g' ∧ g.length ≤ g'.length := by
  have hl : (copyL rs k).length = rs.length := by simp [copyL]
  unfold lostO at hg
  split at hg
  · rename_i c
    have hg2 := good_copy h k0 k1
    obtain ⟨g', e⟩ := lost_some hg2.l2 h0
    refine ⟨g', ?_, ?_⟩
    · unfold lostO
      rw [hl, if_pos (opens_copy bound_all c)]
      exact e
    · unfold lostG at e hg
      rw [hl] at e
      have hm := List.mem_of_find?_eq_some e
      have hp := List.find?_some e
      refine find_le (R := fun a b : List Int => a.length ≤ b.length) (fun _ => Nat.le_refl _) (groups_sorted rs.length h.l2) hg hm ?_
      simp only [Bool.not_eq_true'] at hp ⊢
      cases q : opensB rs (off rs.length g') d with
      | false => rfl
      | true => rw [opens_copy bound_off q] at hp; cases hp
  · cases hg
theorem plain_opt (o : Option (List Int)) : (optD o).plain = true := by
  cases o with
  | none => rfl
  | some g => exact plain_eL g
theorem deep_opt (o : Option (List Int)) : deepOk (optD o) = true := by
  cases o with
  | none => rfl
  | some g => unfold deepOk optD; rw [depth_eL]; rfl
theorem plain_ePs : ∀ xs : List (Int × Int), (PyData.tuple (xs.map eP)).plain = true := fun xs => by
  rw [PyData.plain]
  exact plainAll_of fun d hd => by obtain ⟨x, _, rfl⟩ := List.mem_map.mp hd; rfl
theorem deep_ePs : ∀ xs : List (Int × Int), deepOk (.tuple (xs.map eP)) = true := fun xs => by
  unfold deepOk
  rw [PyData.depth, decide_eq_true_eq]
  have : PyData.depthAll (xs.map eP) ≤ 1 := depthAll_le fun d hd => by obtain ⟨x, _, rfl⟩ := List.mem_map.mp hd; simp [eP, PyData.depth, PyData.depthAll]
  omega
end Ev.KR
set_option Elab.async false
set_option linter.all false
set_option maxRecDepth 100000
set_option maxHeartbeats 8000000
namespace Ev.K89
open Ev PySem PySem.W Ev.KR
def badR : List D := [.none, .tuple [], .list [.tuple [.int 0]], .tuple [.tuple [.int 10]], .tuple [.tuple [.int (-1)]], .tuple [.tuple [.int 1, .int 0]], .tuple [.tuple [.int 1, .int 1]], .tuple [.list [.int 0]], .tuple [.tuple [.bool true]], .tuple [.tuple [], .tuple [], .tuple [], .tuple [], .tuple [], .tuple []], .int 0]
def badO : List D := [.none, .tuple [], .list [.int 0], .tuple [.int 10], .tuple [.int (-1)], .tuple [.int 1, .int 0], .tuple [.int 1, .int 1], .tuple [.bool true], .int 0]
def badK : List D := [.none, .int (-1), .int 10, .bool true]
theorem no_rings : Wp (callF PL 20 26 [.hand]) fun d => d ∈ badR := by
  have h : Wp (callF PL 19 21 [.hand, .val (.list badR)]) fun d => d ∈ badR := any (P := PL) 17 (by decide) (by decide)
  have e : callF PL 20 26 [.hand] = callF PL 19 21 [.hand, .val (.list badR)] := by
    rw [show callF PL 20 26 [.hand] = _ from cf (P := PL) 19 F__law_no_rings [.hand], runFn_eq _ _ _ rfl]
    have em : bopV .mul (.tuple [.tuple []]) (.int 6) = ret (.tuple [.tuple [], .tuple [], .tuple [], .tuple [], .tuple [], .tuple []]) := rfl
    have en : ∀ i : Int, negV (.int i) = ret (.int (-i)) := fun _ => rfl
    simp [fn__law_no_rings, b__law_no_rings, entry, em, en, badR]
  rw [e]; exact h
theorem no_door : Wp (callF PL 20 27 [.hand]) fun d => d ∈ badO := by
  have h : Wp (callF PL 19 21 [.hand, .val (.list badO)]) fun d => d ∈ badO := any (P := PL) 17 (by decide) (by decide)
  have e : callF PL 20 27 [.hand] = callF PL 19 21 [.hand, .val (.list badO)] := by
    rw [show callF PL 20 27 [.hand] = _ from cf (P := PL) 19 F__law_no_door [.hand], runFn_eq _ _ _ rfl]
    have en : ∀ i : Int, negV (.int i) = ret (.int (-i)) := fun _ => rfl
    simp [fn__law_no_door, b__law_no_door, entry, en, badO]
  rw [e]; exact h
theorem is_door_no (n : Nat) {d : D} (h : isLotD d 10 = false ∨ d = .tuple []) : callF PL (n + 4) 7 [.val d] = ret (.bool false) := x_is_door2 (P := PL) n h
theorem badO_lot {d : D} (h : d ∈ badO) : isLotD d 10 = false ∨ d = .tuple [] := by
  simp only [badO, List.mem_cons, List.not_mem_nil, or_false] at h
  rcases h with rfl | rfl | rfl | rfl | rfl | rfl | rfl | rfl | rfl <;> first | exact .inr rfl | exact .inl rfl
theorem badO_eq {d : D} (h : d ∈ badO) (n : Nat) : callF PL (n + 4) 7 [.val d] = ret (.bool false) := is_door_no n (badO_lot h)
theorem badK_within {d : D} (h : d ∈ badK) : withinD d 0 9 = false := by
  simp only [badK, List.mem_cons, List.not_mem_nil, or_false] at h
  rcases h with rfl | rfl | rfl | rfl <;> rfl
theorem badR_37 {d : D} (h : d ∈ badR) (x : D) : ∀ hh, callF PL 18 37 [.val d, .val x] hh = .exc ⟨8, []⟩ hh := by
  simp only [badR, List.mem_cons, List.not_mem_nil, or_false] at h
  rcases h with rfl | rfl | rfl | rfl | rfl | rfl | rfl | rfl | rfl | rfl | rfl <;> (intro hh; kernel_rfl)
theorem badR_38 {d : D} (h : d ∈ badR) (x : D) : ∀ hh, callF PL 18 38 [.val d, .val x] hh = .exc ⟨8, []⟩ hh := by
  simp only [badR, List.mem_cons, List.not_mem_nil, or_false] at h
  rcases h with rfl | rfl | rfl | rfl | rfl | rfl | rfl | rfl | rfl | rfl | rfl <;> (intro hh; kernel_rfl)
theorem badR_39 {d : D} (h : d ∈ badR) (x : D) : ∀ hh, callF PL 18 39 [.val d, .val x] hh = .exc ⟨8, []⟩ hh := by
  simp only [badR, List.mem_cons, List.not_mem_nil, or_false] at h
  rcases h with rfl | rfl | rfl | rfl | rfl | rfl | rfl | rfl | rfl | rfl | rfl <;> (intro hh; kernel_rfl)
theorem badR_40 {d : D} (h : d ∈ badR) (x : D) : ∀ hh, callF PL 18 40 [.val d, .val x] hh = .exc ⟨8, []⟩ hh := by
  simp only [badR, List.mem_cons, List.not_mem_nil, or_false] at h
  rcases h with rfl | rfl | rfl | rfl | rfl | rfl | rfl | rfl | rfl | rfl | rfl <;> (intro hh; kernel_rfl)
def wordOf (c : Nat) : D := if c = 2 then .str (Str.ofString "door") else if c = 3 then .str (Str.ofString "doors") else if c = 6 then .str (Str.ofString "key") else .str (Str.ofString "rings")
theorem word {c : Nat} (hc : c = 2 ∨ c = 3 ∨ c = 6 ∨ c = 8) {m : M D} (h : WpX m (fun _ => False) fun e => e = ⟨c, []⟩) : Wp (wdL 42 m) fun d => d = wordOf c :=
  word_wp (env := [.no, .val (.str (Str.ofString "let")), .no, .no, .no]) (by intro h; kernel_rfl) h fun e he => ⟨wordOf c, by
    subst he
    rcases hc with rfl | rfl | rfl | rfl <;> (intro h; kernel_rfl), rfl⟩
theorem lam42 {env : Env} {e : IE} {y : D} (h : Wp (wdL 42 (evE (calOf PL 20).low env e)) fun d => d = y) : Wp (evE (calOf PL 20) env (.lam 42 e)) fun d => d = y := lam_wp' (P := PL) (k := 20) (by decide) h
theorem wpx {m : M D} {e : Exn} {c : Nat} (h : m = thr e) (he : e = ⟨c, []⟩) : WpX m (fun _ => False) fun e => e = ⟨c, []⟩ := WpX.of (e := e) (fun h0 => by rw [h, run_thr]) he
abbrev EV (i : Int) (a3 a4 a5 a6 a7 a8 a9 a10 a11 a12 a13 a14 a15 a16 a17 a18 a19 : Slot) : Env := [.no, .hand, .val (.int i), a3, a4, a5, a6, a7, a8, a9, a10, a11, a12, a13, a14, a15, a16, a17, a18, a19, .no, .no, .no, .no]
def badW (d : D) (o : D) : List D := [.none, .tuple [], .list [d], .tuple [o], .tuple [d, d, d, d, d, d], .int 0]
theorem badW_no {rs : List (List Int)} (h : KR.Good rs) {d o w : D} (ho : callF PL 17 7 [.val o] = ret (.bool false)) (hw : w ∈ badW d o) : callF PL 18 40 [.val (.tuple (rs.map eL)), .val w] = thr ⟨3, []⟩ := by
  simp only [badW, List.mem_cons, List.not_mem_nil, or_false] at hw
  rcases hw with rfl | rfl | rfl | rfl | rfl | rfl
  · exact x_strangers_size (P := PL) 12 h rfl
  · exact x_strangers_size (P := PL) 12 h rfl
  · exact x_strangers_size (P := PL) 12 h rfl
  · exact x_strangers_one (P := PL) 12 h ho
  · exact x_strangers_size (P := PL) 12 h rfl
  · exact x_strangers_size (P := PL) 12 h rfl
theorem doors_wp (i : Int) (a3 : Slot) : Wp (evS (calOf PL 20) (EV i a3 .no .no .no .no .no .no .no .no .no .no .no .no .no .no .no .no) s_1) fun fl => ∃ ds : List (List Int), 1 ≤ ds.length ∧ ds.length ≤ 4 ∧ (∀ d ∈ ds, d ≠ [] ∧ d.Sublist six) ∧ fl = .next (EV i a3 (.val (.tuple (ds.map eL))) .no .no .no .no .no .no .no .no .no .no .no .no .no .no .no) := by
  have hk : Wp (callF PL 20 20 [.hand, .val (.int 4)]) _ := draw (P := PL) 19 (many := 4) (by omega) (by omega)
  have hD : Wp (callF PL 20 23 [.hand]) _ := door_wp (P := PL) 18
  conv => enter [1]; simp [s_1]
  refine Wp.bnd (hk.mono fun dk ⟨t, e1, t0, t1⟩ => ?_)
  subst e1
  have e2 : rangeV 0 (1 + t) 1 = ret ((rangeI 0 (1 + t)).map .int) := list_range (by omega) (by omega)
  conv => enter [1]; simp [e2, wk_lst]
  refine Wp.bnd (Wp.calm ((wp_lcL_all .int (fun _ (l : List Int) => l ≠ [] ∧ l.Sublist six) eL (rangeI 0 (1 + t)) fun x _ => ?_).mono fun ds ⟨ys, h1, h2, h3⟩ => ?_))
  · refine Wp.bnd (hD.mono fun d ⟨l, e1, l0, l1⟩ => ?_)
    subst e1
    exact Wp.ret ⟨l, rfl, l0, l1⟩
  · subst h2
    conv => enter [1]; simp
    refine Wp.ret ⟨ys, ?_, ?_, fun d hd => ?_, rfl⟩
    · rw [h1, length_rangeI]; omega
    · rw [h1, length_rangeI]; omega
    · obtain ⟨x, _, hp⟩ := h3 d hd
      exact hp
theorem ne_nilL (xs : List (List Int)) : cmpV .ne (.list (xs.map eL)) (.list []) = ret (.bool (!decide (xs = []))) := by
  show chk (eqOk _ _) _ = _
  rw [chk_of _ (by simp [eqOk, PyData.plain, PyData.plainAll, plain_eLs, deepOk, PyData.depth, PyData.depthAll])]
  cases xs <;> simp [PyData.eqv, PyData.eqvAll]
theorem some_any {α : Type} (p q : α → Bool) : ∀ xs : List α, (!decide ((xs.filter fun x => p x && q x) = [])) = (xs.filter p).any q
  | [] => rfl
  | x :: xs => by
    have ih := some_any p q xs
    cases c1 : p x <;> cases c2 : q x <;> simp_all
theorem opt_none {rs : List (List Int)} (h : KR.Good rs) {d : List Int} (h0 : d ≠ []) : cmpV .notNone (optD (lostO rs d)) .none = ret (.bool (opensB rs (rangeI 0 rs.length) d)) := by
  unfold lostO
  cases q : opensB rs (rangeI 0 rs.length) d with
  | false => rfl
  | true =>
    obtain ⟨g, hg⟩ := lost_some h.l2 h0
    simp only [if_true, hg]
    rfl
/-- the spare keys, as the law tells them -/
theorem spare6 {rs : List (List Int)} (h : KR.Good rs) {d : List Int} (hd : lotB d 10 = true) (h0 : d ≠ []) (i : Int) (a4 : Slot) :
    evS (calOf PL 20) (EV i (.val (.tuple (rs.map eL))) a4 (.val (optD (lostO rs d))) (.val (.list [])) .no .no .no .no .no .no .no (.val (.int rs.length)) (.val (eL d)) .no .no .no .no) s_6 = ret (.next (EV i (.val (.tuple (rs.map eL))) a4 (.val (optD (lostO rs d))) (.val (.list ((spareW rs d).map eP))) .no .no .no .no .no .no .no (.val (.int rs.length)) (.val (eL d)) .no .no .no .no)) := by
  have hl := h.l2
  have hdl := lot_len (m := 10) hd
  have hop := opt_none h h0
  let op := opensB rs (rangeI 0 rs.length) d
  let cW := fun (p k : Int) => decide (k ∈ at_ rs p) && (op && otherB rs p k)
  let fW := fun (p : Int) => (d.filter (cW p)).map fun k => (p, k)
  have hlen : ∀ p ∈ rangeI 0 rs.length, (fW p).length ≤ 10 := fun p _ => by
    show ((d.filter (cW p)).map fun k => (p, k)).length ≤ 10
    rw [List.length_map]
    exact Nat.le_trans (List.length_filter_le _ _) hdl
  have hf := forS (K := calOf PL 20) (env := EV i (.val (.tuple (rs.map eL))) a4 (.val (optD (lostO rs d))) (.val (.list [])) .no .no .no .no .no .no .no (.val (.int rs.length)) (.val (eL d)) .no .no .no .no) (t := .name 7) (it := .range (.cst (.int 0)) (.var 14) (.cst (.int 1))) (car := [6]) (tmp := [7, 8, 19])
    (body := [.for (.name 8) (.var 15) [6] [8, 19] [.asg (.name 19) (.lc (.var 21) (.tup [.name 22, .name 21]) (.enum (.var 3)) [(.and (.cmp .ne (.var 22) (.var 7)) (.cmp .isin (.var 8) (.var 21)))] [21, 22]), .asg (.name 6) (.bop .add (.var 6) (.ite (.and (.cmp .notNone (.var 5) (.cst .none)) (.and (.cmp .isin (.var 8) (.idx (.var 3) (.var 7))) (.cmp .ne (.var 19) (.lst [])))) (.lst [.tup [.var 7, .var 8]]) (.lst [])))]])
    PyData.int (fun s : List (Int × Int) => [Slot.val (.list (s.map eP))]) (fun acc p => acc ++ fW p) (rangeI 0 rs.length) [] (by simp [list_range (n := rs.length) (by omega) (by omega), wk_lst]) rfl (fun pre p post hp => by
      rw [fold_flat, List.nil_append]
      have hpm : p ∈ rangeI 0 rs.length := by rw [hp]; simp
      have hb := bound_all p hpm
      have hpre : (pre.flatMap fW).length ≤ 50 := by
        have z1 := flat_len fW 10 pre fun y hy => hlen y (by rw [hp]; simp [hy])
        have z2 : pre.length ≤ 5 := by
          have := congrArg List.length hp
          rw [length_rangeI, List.length_append] at this
          omega
        omega
      obtain ⟨acc, hacc⟩ : ∃ acc, acc = pre.flatMap fW := ⟨_, rfl⟩
      rw [← hacc] at hpre ⊢
      have hin := forS (K := calOf PL 20) (env := EV i (.val (.tuple (rs.map eL))) a4 (.val (optD (lostO rs d))) (.val (.list (acc.map eP))) (.val (.int p)) .no .no .no .no .no .no (.val (.int rs.length)) (.val (eL d)) .no .no .no .no) (t := .name 8) (it := .var 15) (car := [6]) (tmp := [8, 19])
        (body := [.asg (.name 19) (.lc (.var 21) (.tup [.name 22, .name 21]) (.enum (.var 3)) [(.and (.cmp .ne (.var 22) (.var 7)) (.cmp .isin (.var 8) (.var 21)))] [21, 22]), .asg (.name 6) (.bop .add (.var 6) (.ite (.and (.cmp .notNone (.var 5) (.cst .none)) (.and (.cmp .isin (.var 8) (.idx (.var 3) (.var 7))) (.cmp .ne (.var 19) (.lst [])))) (.lst [.tup [.var 7, .var 8]]) (.lst [])))])
        PyData.int (fun s : List (Int × Int) => [Slot.val (.list (s.map eP))]) (fun ac k => if cW p k = true then ac ++ [(p, k)] else ac) d acc (by simp [wk_eL]) rfl (fun pre2 k post2 hp2 => by
          rw [fold_filter_map (cW p) (fun k => (p, k))]
          obtain ⟨ac, hac⟩ : ∃ ac, ac = acc ++ (pre2.filter (cW p)).map fun k => (p, k) := ⟨_, rfl⟩
          have hac2 : ac.length ≤ 100 := by
            rw [hac, List.length_append, List.length_map]
            have z1 := List.length_filter_le (cW p) pre2
            have z2 := congrArg List.length hp2
            rw [List.length_append] at z2
            omega
          rw [← hac]
          obtain ⟨ys, hys⟩ : ∃ ys, ys = (rangeI 0 rs.length).filter fun j => !decide (j = p) && decide (k ∈ at_ rs j) := ⟨_, rfl⟩
          have eo : (!decide (ys = [])) = otherB rs p k := by rw [hys]; exact some_any _ _ _
          have e3 := ne_nilL (ys.map fun j => at_ rs j)
          have e4 : decide ((ys.map fun j => at_ rs j) = []) = decide (ys = []) := by simp
          rw [e4, eo] at e3
          have e5 := add_lists eP ac [(p, k)] (by simp; omega)
          have e6 := add_lists eP ac [] (by simp; omega)
          have e7 : ∀ f : D → M (Option D), (∀ j : Int, f (.tuple [.int j, eL (at_ rs j)]) = iteM (!decide (j = p) && decide (k ∈ at_ rs j)) (ret (some (eL (at_ rs j)))) (ret none)) → lcL f ((rangeI 0 rs.length).map fun j => PyData.tuple [.int j, eL (at_ rs j)]) = ret ((ys.map fun j => at_ rs j).map eL) := fun f hf => by
            rw [lc_if (e := fun j => PyData.tuple [.int j, eL (at_ rs j)]) (fun j => !decide (j = p) && decide (k ∈ at_ rs j)) (fun j => eL (at_ rs j)) fun j _ => hf j, ← hys, List.map_map]
            rfl
          simp [enum_rs, wk_lst]
          rw [e7 _ fun j => by
            by_cases c : j = p
            · simp [c, andV]
            · simp [c, andV, isin_eL]]
          simp only [calm_ret, bnd_ret]
          simp [hop, idx_tup eL rs hb.1 hb.2, -List.map_map]
          have e8 : bopV .add (.list (ac.map eP)) (.list [PyData.tuple [.int p, .int k]]) = ret (.list ((ac ++ [(p, k)]).map eP)) := e5
          have e9 : bopV .add (.list (ac.map eP)) (.list []) = ret (.list (ac.map eP)) := by
            rw [List.append_nil] at e6
            exact e6
          rw [isin_eL, bnd_ret, e3, e8, e9]
          show _ = ret (Step.go [Slot.val (.list ((if (decide (k ∈ at_ rs p) && (opensB rs (rangeI 0 rs.length) d && otherB rs p k)) = true then ac ++ [(p, k)] else ac).map eP))])
          generalize opensB rs (rangeI 0 rs.length) d = b1
          generalize decide (k ∈ at_ rs p) = b2
          generalize otherB rs p k = b3
          cases b1 <;> cases b2 <;> cases b3 <;> simp [andV, iteM])
      rw [fold_filter_map (cW p) (fun k => (p, k))] at hin
      simp
      rw [hin]
      simp [fW])
  rw [fold_flat, List.nil_append] at hf
  show evS _ _ (.for _ _ _ _ _) = _
  rw [hf]
  rfl
/-- the strangers, as the law tells them -/
theorem pairs13 {rs : List (List Int)} (h : KR.Good rs) {ds : List (List Int)} (i : Int) (a5 a6 a8 a9 a15 : Slot) :
    evS (calOf PL 20) (EV i (.val (.tuple (rs.map eL))) (.val (.tuple (ds.map eL))) a5 a6 .no a8 a9 (.val (.list [])) .no .no .no (.val (.int rs.length)) a15 .no .no .no .no) s_13 = ret (.next (EV i (.val (.tuple (rs.map eL))) (.val (.tuple (ds.map eL))) a5 a6 .no a8 a9 (.val (.list ((strL rs ds).map eP))) .no .no .no (.val (.int rs.length)) a15 .no .no .no .no)) := by
  have hl := h.l2
  have hlen : ∀ a ∈ rangeI 0 rs.length, (strF rs ds a).length ≤ 5 := fun a ha => by
    have hb := bound_all a ha
    unfold strF
    rw [List.length_map]
    refine Nat.le_trans (List.length_filter_le _ _) ?_
    rw [length_rangeI]; omega
  have hr : ∀ a : Int, 0 ≤ a → a < rs.length → rangeV (a + 1) rs.length 1 = ret ((rangeI (a + 1) rs.length).map .int) := fun a a0 a1 => rangeV_I (by omega) (by omega) (by omega) (by omega)
  have hf := forS (K := calOf PL 20) (env := EV i (.val (.tuple (rs.map eL))) (.val (.tuple (ds.map eL))) a5 a6 .no a8 a9 (.val (.list [])) .no .no .no (.val (.int rs.length)) a15 .no .no .no .no) (t := .name 11) (it := .range (.cst (.int 0)) (.var 14) (.cst (.int 1))) (car := [10]) (tmp := [11, 16])
    (body := [.for (.name 16) (.range (.bop .add (.var 11) (.cst (.int 1))) (.var 14) (.cst (.int 1))) [10] [16] [.asg (.name 10) (.bop .add (.var 10) (.ite (.not (.b1 .any (.lc (.call 25 [.var 3, .tup [.var 11, .var 16], .var 23]) (.name 23) (.var 4) [] [23]))) (.lst [.tup [.var 11, .var 16]]) (.lst [])))]])
    PyData.int (fun s : List (Int × Int) => [Slot.val (.list (s.map eP))]) (fun acc a => acc ++ strF rs ds a) (rangeI 0 rs.length) [] (by simp [list_range (n := rs.length) (by omega) (by omega), wk_lst]) rfl (fun pre a post hp => by
      rw [fold_flat, List.nil_append]
      have hpm : a ∈ rangeI 0 rs.length := by rw [hp]; simp
      have hb := bound_all a hpm
      have hpre : (pre.flatMap (strF rs ds)).length ≤ 25 := by
        have z1 := flat_len (strF rs ds) 5 pre fun y hy => hlen y (by rw [hp]; simp [hy])
        have z2 : pre.length ≤ 5 := by
          have := congrArg List.length hp
          rw [length_rangeI, List.length_append] at this
          omega
        omega
      obtain ⟨acc, hacc⟩ : ∃ acc, acc = pre.flatMap (strF rs ds) := ⟨_, rfl⟩
      rw [← hacc] at hpre ⊢
      have hin := forS (K := calOf PL 20) (env := EV i (.val (.tuple (rs.map eL))) (.val (.tuple (ds.map eL))) a5 a6 .no a8 a9 (.val (.list (acc.map eP))) (.val (.int a)) .no .no (.val (.int rs.length)) a15 .no .no .no .no) (t := .name 16) (it := .range (.bop .add (.var 11) (.cst (.int 1))) (.var 14) (.cst (.int 1))) (car := [10]) (tmp := [16])
        (body := [.asg (.name 10) (.bop .add (.var 10) (.ite (.not (.b1 .any (.lc (.call 25 [.var 3, .tup [.var 11, .var 16], .var 23]) (.name 23) (.var 4) [] [23]))) (.lst [.tup [.var 11, .var 16]]) (.lst [])))])
        PyData.int (fun s : List (Int × Int) => [Slot.val (.list (s.map eP))]) (fun ac b => if (!ds.any fun d => opensB rs [a, b] d) = true then ac ++ [(a, b)] else ac) (rangeI (a + 1) rs.length) acc (by simp [hr a hb.1 hb.2, wk_lst]) rfl (fun pre2 b post2 hp2 => by
          rw [fold_filter_map (fun b => !ds.any fun d => opensB rs [a, b] d) (fun b => (a, b))]
          have hbm : b ∈ rangeI (a + 1) rs.length := by rw [hp2]; simp
          have hbb := mem_rangeI.mp hbm
          have e6 : lcL (fun x => bnd (callF PL 20 25 [.val (.tuple (rs.map eL)), .val (.tuple [.int a, .int b]), .val x]) fun y => ret (some y)) (ds.map eL) = ret (ds.map fun d => .bool (opensB rs [a, b] d)) :=
            lc_all (fun d => .bool (opensB rs [a, b] d)) fun d _ => by
              have : callF PL 20 25 [.val (.tuple (rs.map eL)), .val (.tuple [.int a, .int b]), .val (eL d)] = ret (.bool (opensB rs [a, b] d)) := c_law_opens (P := PL) 19 rs (G := .tuple [.int a, .int b]) (g := [a, b]) (wk_tup _) (wk_eL d) (by
                intro q hq
                simp only [List.mem_cons, List.not_mem_nil, or_false] at hq
                rcases hq with rfl | rfl <;> omega)
              rw [this, bnd_ret]
          obtain ⟨ac, hac⟩ : ∃ ac, ac = acc ++ (pre2.filter fun b => !ds.any fun d => opensB rs [a, b] d).map fun b => (a, b) := ⟨_, rfl⟩
          have hac2 : ac.length ≤ 100 := by
            rw [hac, List.length_append, List.length_map]
            have z1 := List.length_filter_le (fun b => !ds.any fun d => opensB rs [a, b] d) pre2
            have z2 := congrArg List.length hp2
            rw [List.length_append, length_rangeI] at z2
            omega
          rw [← hac]
          have e5 := add_lists eP ac [(a, b)] (by simp; omega)
          have e6' := add_lists eP ac [] (by simp; omega)
          have e8 : bopV .add (.list (ac.map eP)) (.list [PyData.tuple [.int a, .int b]]) = ret (.list ((ac ++ [(a, b)]).map eP)) := e5
          have e9 : bopV .add (.list (ac.map eP)) (.list []) = ret (.list (ac.map eP)) := by
            rw [List.append_nil] at e6'
            exact e6'
          cases c : ds.any fun d => opensB rs [a, b] d with
          | true => simp [wk_tup, e6, c, e9]
          | false =>
            simp [wk_tup, e6, c]
            rw [e8]
            simp)
      rw [fold_filter_map (fun b => !ds.any fun d => opensB rs [a, b] d) (fun b => (a, b))] at hin
      simp
      rw [hin]
      simp [strF])
  rw [fold_flat, List.nil_append] at hf
  show evS _ _ (.for _ _ _ _ _) = _
  rw [hf]
  rfl
/-- the copied keys, as the law tells them -/
theorem copied9 {rs : List (List Int)} (h : KR.Good rs) {k : Int} (i : Int) (a4 a5 a6 a14 a15 : Slot) :
    evS (calOf PL 20) (EV i (.val (.tuple (rs.map eL))) a4 a5 a6 .no (.val (.int k)) .no .no .no .no .no a14 a15 .no .no .no .no) s_9 = ret (.next (EV i (.val (.tuple (rs.map eL))) a4 a5 a6 .no (.val (.int k)) (.val (.tuple ((copyL rs k).map eL))) .no .no .no .no a14 a15 .no .no .no .no)) := by
  have e4 : lcL (fun x => bnd (bopV .add x (.tuple [.int k])) fun a => bnd (walkD a) fun xs => bnd (calm (lcL (fun y => ret (some (PyData.tuple [y, .bool true]))) xs)) fun ys => bnd (b1V .dict (.list ys)) fun a => bnd (b1V .sorted a) fun a => bnd (b1V .tuple a) fun y => ret (some y)) (rs.map eL) = ret ((copyL rs k).map eL) := by
    have := lc_all (f := fun x => bnd (bopV .add x (.tuple [.int k])) fun a => bnd (walkD a) fun xs => bnd (calm (lcL (fun y => ret (some (PyData.tuple [y, .bool true]))) xs)) fun ys => bnd (b1V .dict (.list ys)) fun a => bnd (b1V .sorted a) fun a => bnd (b1V .tuple a) fun y => ret (some y)) (e := eL) (xs := rs) (fun r => eL (sortE .int (withK r k))) fun r hr => by
      have hlot := h.lot r hr
      have hlen := lot_len (m := 10) hlot
      rw [add_eL r k (by omega), bnd_ret, wk_eL, bnd_ret]
      have e5 : lcL (fun y => ret (some (PyData.tuple [y, .bool true]))) ((r ++ [k]).map .int) = ret ((r ++ [k]).map fun i => PyData.tuple [.int i, .bool true]) := lc_all (fun i => PyData.tuple [.int i, .bool true]) fun _ _ => rfl
      have e6 := dict_enc (ek := PyData.int) (ev := PyData.bool) KeyE.int ((r ++ [k]).map fun i => (i, true)) (by simp [line]; omega)
      rw [List.map_map] at e6
      have e7 : b1V .dict (.list ((r ++ [k]).map fun i => PyData.tuple [.int i, .bool true])) = ret (.dict (encD PyData.int PyData.bool (putsA ([] : List (Int × Bool)) ((r ++ [k]).map fun i => (i, true))))) := e6
      rw [e5, calm_ret, bnd_ret, e7, bnd_ret, copy_sorted (lot_nodup hlot) (by omega), bnd_ret, tup_lst, bnd_ret]
      rfl
    rw [this]
    unfold copyL
    rw [List.map_map]
    rfl
  simp [s_9, wk_tup]
  rw [e4]
  simp
theorem turn (i : Int) : Wp (evSs (calOf PL 20) (put (envH N_law.length 1) 2 (.val (.int i))) body) fun fl => ∃ env', fl = Ev.Flow.next env' := by
  show Wp (evSs (calOf PL 20) (EV i .no .no .no .no .no .no .no .no .no .no .no .no .no .no .no .no .no) body) _
  unfold body
  -- rings, doors
  refine evSs_cons ?_
  have hR : Wp (callF PL 20 22 [.hand, .val (.int 5)]) _ := rings_wp (P := PL) 18
  conv => enter [1]; simp [s_0]
  refine Wp.bnd (hR.mono fun dR ⟨rs, e1, l1, l2, l3⟩ => ?_)
  subst e1
  conv => enter [1]; simp
  refine Wp.ret ⟨_, rfl, ?_⟩
  have hg : KR.Good rs := good_of l1 l2 l3
  refine evSs_cons ((doors_wp i _).mono fun fl ⟨ds, m1, m2, m3, hfl⟩ => ⟨_, hfl, ?_⟩)
  obtain ⟨d, dr, rfl⟩ : ∃ d dr, ds = d :: dr := by
    cases ds with
    | nil => simp at m1
    | cons d dr => exact ⟨d, dr, rfl⟩
  have d0 := (m3 d List.mem_cons_self).1
  have hd : lotB d 10 = true := six_lot (m3 d List.mem_cons_self).2
  have hds : ∀ x ∈ d :: dr, lotB x 10 = true ∧ x ≠ [] := fun x hx => ⟨six_lot (m3 x hx).2, (m3 x hx).1⟩
  have ix : idxV (.tuple ((d :: dr).map eL)) (.int 0) = ret (eL d) := by
    have := idx_tup eL (d :: dr) (i := 0) (by omega) (by simp only [List.length_cons]; omega)
    exact this
  obtain ⟨ds, hdse⟩ : ∃ ds, ds = d :: dr := ⟨_, rfl⟩
  rw [← hdse] at ix hds m1 m2 ⊢
  refine evSs_cons ?_
  conv => enter [1]; simp [s_2, parT, len_map, ix]
  refine Wp.ret ⟨_, rfl, ?_⟩
  -- the least lot
  have c3 : callF PL 20 41 [.val (.tuple (rs.map eL)), .val (eL d)] = ret (optD (lostO rs d)) := c_law_lost (P := PL) 18 hg d0
  have c4 : callF PL 20 37 [.val (.tuple (rs.map eL)), .val (eL d)] = ret (optD (lostO rs d)) := c_fewest_lost (P := PL) 13 hg hd d0
  refine evSs_cons ?_
  conv => enter [1]; simp [s_3, c3]
  refine Wp.ret ⟨_, rfl, ?_⟩
  refine evSs_cons ?_
  conv => enter [1]; simp [s_4, c4, ne_self (plain_opt _) (deep_opt _)]
  refine Wp.ret ⟨_, rfl, ?_⟩
  -- spare keys
  refine evSs_cons ?_
  conv => enter [1]; simp [s_5]
  refine Wp.ret ⟨_, rfl, ?_⟩
  refine wp_ss (spare6 hg hd d0 i _) ?_
  have c7 : callF PL 20 38 [.val (.tuple (rs.map eL)), .val (eL d)] = ret (.tuple ((spareL rs d).map eP)) := c_spare_keys (P := PL) 13 hg hd d0
  refine evSs_cons ?_
  conv => enter [1]; simp [s_7, c7, spare_eq hg hd, ne_self (plain_ePs _) (deep_ePs _)]
  refine Wp.ret ⟨_, rfl, ?_⟩
  -- a copied key
  have hk : Wp (callF PL 20 20 [.hand, .val (.int 10)]) _ := draw (P := PL) 19 (many := 10) (by omega) (by omega)
  refine evSs_cons ?_
  conv => enter [1]; simp [s_8]
  refine Wp.bnd (hk.mono fun dk ⟨k, e1, k0, k1⟩ => ?_)
  subst e1
  conv => enter [1]; simp
  refine Wp.ret ⟨_, rfl, ?_⟩
  refine wp_ss (copied9 hg i _ _ _ _ _) ?_
  have c10 : callF PL 20 39 [.val (.tuple (rs.map eL)), .val (.int k)] = ret (.tuple ((copyL rs k).map eL)) := c_copied_key (P := PL) 14 hg k0 (by omega)
  have pr : ∀ xs : List (List Int), (PyData.tuple (xs.map eL)).plain = true := fun xs => by rw [PyData.plain]; exact plain_eLs xs
  have dr' : ∀ xs : List (List Int), deepOk (.tuple (xs.map eL)) = true := fun xs => by
    unfold deepOk
    rw [PyData.depth, decide_eq_true_eq]
    have := depth_eLs xs
    omega
  refine evSs_cons ?_
  conv => enter [1]; simp [s_10, c10, ne_self (pr _) (dr' _)]
  refine Wp.ret ⟨_, rfl, ?_⟩
  have c11 : callF PL 20 37 [.val (.tuple ((copyL rs k).map eL)), .val (eL d)] = ret (optD (lostO (copyL rs k) d)) := c_fewest_lost (P := PL) 13 (good_copy hg k0 (by omega)) hd d0
  have e11 : ∀ a4 a6 a7 a8 a10 a11 a12 a13 a14 a16 a17 a18 a19, evS (calOf PL 20) (EV i (.val (.tuple (rs.map eL))) a4 (.val (optD (lostO rs d))) a6 a7 a8 (.val (.tuple ((copyL rs k).map eL))) a10 a11 a12 a13 a14 (.val (eL d)) a16 a17 a18 a19) s_11 = ret (.next (EV i (.val (.tuple (rs.map eL))) a4 (.val (optD (lostO rs d))) a6 a7 a8 (.val (.tuple ((copyL rs k).map eL))) a10 a11 a12 a13 a14 (.val (eL d)) a16 a17 a18 a19)) := fun a4 a6 a7 a8 a10 a11 a12 a13 a14 a16 a17 a18 a19 => by
    cases q : lostO rs d with
    | none =>
      have z : cmpV .notNone (optD none) .none = ret (.bool false) := rfl
      simp [s_11, z, andV]
    | some g =>
      obtain ⟨g', e, hle⟩ := lost_copy hg d0 k0 (by omega) q
      rw [e] at c11
      have z : cmpV .notNone (optD (some g)) .none = ret (.bool true) := rfl
      have z1 : b1V .len (optD (some g)) = ret (.int g.length) := len_eL g
      have z2 : b1V .len (optD (some g')) = ret (.int g'.length) := len_eL g'
      have z3 : ¬ ((g'.length : Int) < g.length) := by omega
      simp [s_11, z, andV, c11, z1, z2, z3]
  refine wp_ss (e11 _ _ _ _ _ _ _ _ _ _ _ _ _) ?_
  -- strangers
  refine evSs_cons ?_
  conv => enter [1]; simp [s_12]
  refine Wp.ret ⟨_, rfl, ?_⟩
  refine wp_ss (pairs13 hg i _ _ _ _ _) ?_
  have c14 : callF PL 20 40 [.val (.tuple (rs.map eL)), .val (.tuple (ds.map eL))] = ret (.tuple ((strL rs ds).map eP)) := c_strangers (P := PL) 14 hg hds m1 (by omega)
  refine evSs_cons ?_
  conv => enter [1]; simp [s_14, c14, ne_self (plain_ePs _) (deep_ePs _)]
  refine Wp.ret ⟨_, rfl, ?_⟩
  -- what is wrong
  refine evSs_cons ?_
  conv => enter [1]; simp [s_15, parT]
  refine Wp.bnd (no_rings.mono fun bad hbad => ?_)
  refine Wp.bnd (no_door.mono fun off hoff => ?_)
  conv => enter [1]; simp
  refine Wp.ret ⟨_, rfl, ?_⟩
  have hW : Wp (callF PL 20 21 [.hand, .val (.list (badW (eL d) off))]) fun x => x ∈ badW (eL d) off := any (P := PL) 18 (by simp [badW]) (by simp [badW])
  have em : bopV .mul (.tuple [eL d]) (.int 6) = ret (.tuple [eL d, eL d, eL d, eL d, eL d, eL d]) := rfl
  refine evSs_cons ?_
  conv => enter [1]; simp [s_16, em]
  refine Wp.bnd (hW.mono fun wrong hwrong => ?_)
  conv => enter [1]; simp
  refine Wp.ret ⟨_, rfl, ?_⟩
  -- the words
  have hO : callF PL 16 7 [.val off] = ret (.bool false) := badO_eq hoff 12
  have hO17 : callF PL 17 7 [.val off] = ret (.bool false) := badO_eq hoff 13
  have hcd : callF PL 17 8 [.val (.tuple (rs.map eL)), .val off] = thr ⟨2, []⟩ := x_door' (P := PL) 11 hg hO
  let W : List D → Env := fun ws => EV i (.val (.tuple (rs.map eL))) (.val (.tuple (ds.map eL))) (.val (optD (lostO rs d))) (.val (.list ((spareL rs d).map eP))) .no (.val (.int k)) (.val (.tuple ((copyL rs k).map eL))) (.val (.list ((strL rs ds).map eP))) .no (.val wrong) (.own (.list ws)) (.val (.int rs.length)) (.val (eL d)) .no (.val bad) (.val off) .no
  let W0 : Env := EV i (.val (.tuple (rs.map eL))) (.val (.tuple (ds.map eL))) (.val (optD (lostO rs d))) (.val (.list ((spareL rs d).map eP))) .no (.val (.int k)) (.val (.tuple ((copyL rs k).map eL))) (.val (.list ((strL rs ds).map eP))) .no (.val wrong) .no (.val (.int rs.length)) (.val (eL d)) .no (.val bad) (.val off) .no
  have lw : ∀ {ws : List D} {e : IE} {c : Nat} {m : M D}, ws.length < 1000 → (c = 2 ∨ c = 3 ∨ c = 6 ∨ c = 8) → evE (calOf PL 20).low (W ws) e = m → WpX m (fun _ => False) (fun e => e = ⟨c, []⟩) → Wp (evS (calOf PL 20) (W ws) (.app 13 (.lam 42 e))) fun fl => fl = .next (W (ws ++ [wordOf c])) := fun {ws e c m} hl hc he hx => by
    have := app_wp' (K := calOf PL 20) (env := W ws) (i := 13) (e := .lam 42 e) (xs := ws) (y := wordOf c) rfl hl (lam42 (word hc (by rw [he]; exact hx)))
    exact this
  refine evSs_cons ?_
  have e17 : evS (calOf PL 20) W0 s_17 = bnd (evE (calOf PL 20) W0 (.lam 42 (.call 37 [.var 17, .var 18]))) fun x => ret (.next (W [x])) := by
    simp [s_17, W, W0]
  refine Wp.mono (Q := fun fl => fl = .next (W [wordOf 8])) ?_ fun fl hfl => ⟨_, hfl, ?_⟩
  · refine Eq.mpr (congrArg (fun m => Wp m _) e17) (Wp.bnd (Wp.mono (lam42 (y := wordOf 8) (word (.inr (.inr (.inr rfl))) ?_)) fun x hx => ?_))
    · have : evE (calOf PL 20).low W0 (.call 37 [.var 17, .var 18]) = callF PL 18 37 [.val bad, .val off] := by simp [W0]
      rw [this]
      exact WpX.of (badR_37 hbad _) rfl
    · subst hx
      exact Wp.ret rfl
  refine evSs_cons ((lw (by simp) (.inl rfl) (by simp [W]) (wpx (show callF PL 18 37 [.val (.tuple (rs.map eL)), .val off] = _ from x_fewest (P := PL) 11 hcd) rfl)).mono fun fl hfl => ⟨_, hfl, ?_⟩)
  refine evSs_cons ((lw (by simp) (.inr (.inr (.inr rfl))) (by simp [W]) (WpX.of (badR_38 hbad off) rfl)).mono fun fl hfl => ⟨_, hfl, ?_⟩)
  refine evSs_cons ((lw (by simp) (.inl rfl) (by simp [W]) (wpx (show callF PL 18 38 [.val (.tuple (rs.map eL)), .val off] = _ from x_spare (P := PL) 11 hcd) rfl)).mono fun fl hfl => ⟨_, hfl, ?_⟩)
  refine evSs_cons ((lw (by simp) (.inr (.inr (.inr rfl))) (by simp [W]) (WpX.of (badR_39 hbad .none) rfl)).mono fun fl hfl => ⟨_, hfl, ?_⟩)
  have hK : Wp (callF PL 18 21 [.hand, .val (.list badK)]) fun x => x ∈ badK := any (P := PL) 16 (by simp [badK]) (by simp [badK])
  have en : ∀ i : Int, negV (.int i) = ret (.int (-i)) := fun _ => rfl
  refine evSs_cons ((lw (c := 6) (m := bnd (callF PL 18 21 [.hand, .val (.list badK)]) fun x => callF PL 18 39 [.val (.tuple (rs.map eL)), .val x]) (by simp) (.inr (.inr (.inl rfl))) (by simp [W, badK, en]) (WpX.bnd (hK.mono fun x hx => wpx (show callF PL 18 39 [.val (.tuple (rs.map eL)), .val x] = _ from x_copied (P := PL) 12 hg (badK_within hx)) rfl))).mono fun fl hfl => ⟨_, hfl, ?_⟩)
  refine evSs_cons ((lw (by simp) (.inr (.inr (.inr rfl))) (by simp [W]) (WpX.of (badR_40 hbad wrong) rfl)).mono fun fl hfl => ⟨_, hfl, ?_⟩)
  refine evSs_cons ((lw (by simp) (.inr (.inl rfl)) (by simp [W]) (wpx (badW_no hg hO17 hwrong) rfl)).mono fun fl hfl => ⟨_, hfl, ?_⟩)
  refine Wp.of (a := .next (W [wordOf 8, wordOf 2, wordOf 8, wordOf 2, wordOf 8, wordOf 6, wordOf 8, wordOf 3])) (by intro h; kernel_rfl) ⟨_, rfl⟩
theorem ev_law : ∀ ns : List Int, ns.length ≤ 63 → ∃ h h', callF PL 20 19 [.raw (intsD ns)] [] = .ok (.list h) [] ∧ headOk h ∧ evSs (calOf PL 20) (envH N_law.length 1) b_law h = .ok (.ret (.bool true)) h' :=
  law_ev (fun ns hl => hand (P := PL) 19 ns hl) (law_loop (N := 5) (by decide) rfl turn)
end Ev.K89
set_option Elab.async false
set_option linter.all false
set_option maxRecDepth 100000
set_option maxHeartbeats 4000000
/-! A law without lambdas. -/
namespace Ev
open PySem PySem.Spec PyProof.Rows L2
theorem law_at0 {l : PySem.W.OpenLaw} {w : World} {K : PySem.W.Frag} {mg : Str → Option Value} {h : Heap} {fa c : Addr} {fd : FuncData} {x y : Str} {st s1 : Stmt} {rest : List Stmt} {N : List Str} {fuel k hf ih : Nat} {body : List IS} {T : Tab} {clsA : Nat → Option Addr} {Pr : Prg}
    (X : K.In h) (F : FunC K x x st fa fd c) (Sg : FnScope N [y] (defScope st)) (hb : ∀ (s : Shared) (u : Value), BindsTo s fd ⟨[u], []⟩ [(y, u)])
    (bi : ∀ x ∈ biN, mg x = none) (gl : ∀ x d, T.cst x = some d → ∃ u v, mg x = some u ∧ RelV v u ∧ ∀ Mu H, Rep K Mu H v d)
    (exn : ∀ c x, T.exn c = some x → ∃ (C : Addr) (B newId initId : String) (bmB : List Value), ExcBaseFacts B newId initId bmB ∧ PySem.W.excIn K C bmB newId = true ∧ mg x = some (.ref C) ∧ PySem.W.keepIn K (.ref C) = true ∧
      PySem.W.subIn K (.ref C) (.type "BaseException") = some true ∧ PySem.W.typeIn K (.ref C) = some (.type "type") ∧ (x == ("__debug__" : Str)) = false ∧ clsA c = some C)
    (forms : ∀ g y, T.nm g = some y → Form K mg T Pr g y) (hno : ∀ f, T.lm f = none)
    (hst : defBody st = s1 :: rest) (h1 : okS T fuel ⟨N, defScope st, fun _ => true, true, true, false⟩ (.asg (.name ih) (.call hf [.var 0])) s1 = true) (h2 : okSs T fuel ⟨N, defScope st, fun _ => true, true, true, false⟩ body rest = true) (hih : ih < N.length) (hih0 : 0 < N.length)
    (ev : ∀ ns : List Int, ns.length ≤ 63 → ∃ h h', callF Pr k hf [.raw (intsD ns)] [] = .ok (.list h) [] ∧ headOk h ∧ evSs (calOf Pr k) (envH N.length ih) body h = .ok (.ret (.bool true)) h') :
    LamX.LawAtS l w K (L2.CX l.prog w) (k + 1) 63 y mg fa h := by
  refine ⟨fd, [], spLaw K [] 63, (by intro p hp; cases hp), (by intro p hp; cases hp), (by intro p hp; cases hp), hb, fun H a ns hl _ ht hs => ?_, fun base KX ns TB => ?_⟩
  · refine ⟨a, ns, rfl, hs, hl, fun p hp => ?_, fun _ => rfl⟩
    cases hp
  · have exn2 : ∀ c x, T.exn c = some x → ∃ (C : Addr) (B newId initId : String) (bmB : List Value), ExcBaseFacts B newId initId bmB ∧ PySem.W.excIn K C bmB newId = true ∧ mg x = some (.ref C) ∧ PySem.W.keepIn K (.ref C) = true ∧
      PySem.W.subIn K (.ref C) (.type "BaseException") = some true ∧ PySem.W.typeIn K (.ref C) = some (.type "type") ∧ (x == ("__debug__" : Str)) = false ∧ ∀ H, XAof clsA ⟨c, []⟩ (.ref C) none H := fun c x hc => by
      obtain ⟨C, B, n1, n2, b, q1, q2, q3, q4, q5, q6, q7, q8⟩ := exn c x hc
      exact ⟨C, B, n1, n2, b, q1, q2, q3, q4, q5, q6, q7, fun H => ⟨C, q8, rfl, rfl, rfl⟩⟩
    have M : ∀ j, ModOk l.prog w K mg base T (XAof clsA) j (callF Pr j) := mod_all bi gl exn2 forms
    exact ok_lawC (Kal := calOf Pr k) (lam := true) F Sg (M k) hst h1 h2 hih hih0 (fun S A outer s H E hS hSe hr o => { o with lam := fun _ _ g x hx => by rw [hno g] at hx; cases hx }) ev
end Ev
set_option Elab.async false
set_option linter.all false
set_option maxRecDepth 100000
set_option maxHeartbeats 4000000
namespace Ev.K89
open PySem PySem.Spec PyProof.Rows L2 Ev Ev.KR

theorem bd_is_integer : ∀ (kV doc pm : Value) (an : Option Addr) (cdv ct : Value) (us : List Value), us.length = 1 → bindArgs (PySem.W.fnOf (Str.ofString "is_integer") (Str.ofString "is_integer") (defArgs (topS 1)) (defBody (topS 1)) (defScope (topS 1)) .none kV doc pm an cdv ct) ⟨us, []⟩ = pure ((N_is_integer.take 1).zip us) := fun _ _ _ _ _ _ us hl => match us, hl with | [_], _ => rfl
theorem bd_is_within : ∀ (kV doc pm : Value) (an : Option Addr) (cdv ct : Value) (us : List Value), us.length = 3 → bindArgs (PySem.W.fnOf (Str.ofString "is_within") (Str.ofString "is_within") (defArgs (topS 2)) (defBody (topS 2)) (defScope (topS 2)) .none kV doc pm an cdv ct) ⟨us, []⟩ = pure ((N_is_within.take 3).zip us) := fun _ _ _ _ _ _ us hl => match us, hl with | [_, _, _], _ => rfl
theorem bd_is_sized : ∀ (kV doc pm : Value) (an : Option Addr) (cdv ct : Value) (us : List Value), us.length = 3 → bindArgs (PySem.W.fnOf (Str.ofString "is_sized") (Str.ofString "is_sized") (defArgs (topS 3)) (defBody (topS 3)) (defScope (topS 3)) .none kV doc pm an cdv ct) ⟨us, []⟩ = pure ((N_is_sized.take 3).zip us) := fun _ _ _ _ _ _ us hl => match us, hl with | [_, _, _], _ => rfl
theorem bd_is_lot : ∀ (kV doc pm : Value) (an : Option Addr) (cdv ct : Value) (us : List Value), us.length = 2 → bindArgs (PySem.W.fnOf (Str.ofString "is_lot") (Str.ofString "is_lot") (defArgs (topS 4)) (defBody (topS 4)) (defScope (topS 4)) .none kV doc pm an cdv ct) ⟨us, []⟩ = pure ((N_is_lot.take 2).zip us) := fun _ _ _ _ _ _ us hl => match us, hl with | [_, _], _ => rfl
theorem bd_all_lots : ∀ (kV doc pm : Value) (an : Option Addr) (cdv ct : Value) (us : List Value), us.length = 1 → bindArgs (PySem.W.fnOf (Str.ofString "all_lots") (Str.ofString "all_lots") (defArgs (topS 5)) (defBody (topS 5)) (defScope (topS 5)) .none kV doc pm an cdv ct) ⟨us, []⟩ = pure ((N_all_lots.take 1).zip us) := fun _ _ _ _ _ _ us hl => match us, hl with | [_], _ => rfl
theorem bd_are_rings : ∀ (kV doc pm : Value) (an : Option Addr) (cdv ct : Value) (us : List Value), us.length = 1 → bindArgs (PySem.W.fnOf (Str.ofString "are_rings") (Str.ofString "are_rings") (defArgs (topS 21)) (defBody (topS 21)) (defScope (topS 21)) .none kV doc pm an cdv ct) ⟨us, []⟩ = pure ((N_are_rings.take 1).zip us) := fun _ _ _ _ _ _ us hl => match us, hl with | [_], _ => rfl
theorem bd_check_rings : ∀ (kV doc pm : Value) (an : Option Addr) (cdv ct : Value) (us : List Value), us.length = 1 → bindArgs (PySem.W.fnOf (Str.ofString "check_rings") (Str.ofString "check_rings") (defArgs (topS 22)) (defBody (topS 22)) (defScope (topS 22)) .none kV doc pm an cdv ct) ⟨us, []⟩ = pure ((N_check_rings.take 1).zip us) := fun _ _ _ _ _ _ us hl => match us, hl with | [_], _ => rfl
theorem bd_is_door : ∀ (kV doc pm : Value) (an : Option Addr) (cdv ct : Value) (us : List Value), us.length = 1 → bindArgs (PySem.W.fnOf (Str.ofString "is_door") (Str.ofString "is_door") (defArgs (topS 23)) (defBody (topS 23)) (defScope (topS 23)) .none kV doc pm an cdv ct) ⟨us, []⟩ = pure ((N_is_door.take 1).zip us) := fun _ _ _ _ _ _ us hl => match us, hl with | [_], _ => rfl
theorem bd_check_door : ∀ (kV doc pm : Value) (an : Option Addr) (cdv ct : Value) (us : List Value), us.length = 2 → bindArgs (PySem.W.fnOf (Str.ofString "check_door") (Str.ofString "check_door") (defArgs (topS 24)) (defBody (topS 24)) (defScope (topS 24)) .none kV doc pm an cdv ct) ⟨us, []⟩ = pure ((N_check_door.take 2).zip us) := fun _ _ _ _ _ _ us hl => match us, hl with | [_, _], _ => rfl
theorem bd_raw_opens : ∀ (kV doc pm : Value) (an : Option Addr) (cdv ct : Value) (us : List Value), us.length = 3 → bindArgs (PySem.W.fnOf (Str.ofString "raw_opens") (Str.ofString "raw_opens") (defArgs (topS 25)) (defBody (topS 25)) (defScope (topS 25)) .none kV doc pm an cdv ct) ⟨us, []⟩ = pure ((N_raw_opens.take 3).zip us) := fun _ _ _ _ _ _ us hl => match us, hl with | [_, _, _], _ => rfl
theorem bd_groups_of : ∀ (kV doc pm : Value) (an : Option Addr) (cdv ct : Value) (us : List Value), us.length = 1 → bindArgs (PySem.W.fnOf (Str.ofString "groups_of") (Str.ofString "groups_of") (defArgs (topS 26)) (defBody (topS 26)) (defScope (topS 26)) .none kV doc pm an cdv ct) ⟨us, []⟩ = pure ((N_groups_of.take 1).zip us) := fun _ _ _ _ _ _ us hl => match us, hl with | [_], _ => rfl
theorem bd_fewest_lost : ∀ (kV doc pm : Value) (an : Option Addr) (cdv ct : Value) (us : List Value), us.length = 2 → bindArgs (PySem.W.fnOf (Str.ofString "fewest_lost") (Str.ofString "fewest_lost") (defArgs (topS 27)) (defBody (topS 27)) (defScope (topS 27)) .none kV doc pm an cdv ct) ⟨us, []⟩ = pure ((N_fewest_lost.take 2).zip us) := fun _ _ _ _ _ _ us hl => match us, hl with | [_, _], _ => rfl
theorem bd_spare_keys : ∀ (kV doc pm : Value) (an : Option Addr) (cdv ct : Value) (us : List Value), us.length = 2 → bindArgs (PySem.W.fnOf (Str.ofString "spare_keys") (Str.ofString "spare_keys") (defArgs (topS 28)) (defBody (topS 28)) (defScope (topS 28)) .none kV doc pm an cdv ct) ⟨us, []⟩ = pure ((N_spare_keys.take 2).zip us) := fun _ _ _ _ _ _ us hl => match us, hl with | [_, _], _ => rfl
theorem bd_copied_key : ∀ (kV doc pm : Value) (an : Option Addr) (cdv ct : Value) (us : List Value), us.length = 2 → bindArgs (PySem.W.fnOf (Str.ofString "copied_key") (Str.ofString "copied_key") (defArgs (topS 29)) (defBody (topS 29)) (defScope (topS 29)) .none kV doc pm an cdv ct) ⟨us, []⟩ = pure ((N_copied_key.take 2).zip us) := fun _ _ _ _ _ _ us hl => match us, hl with | [_, _], _ => rfl
theorem bd_strangers : ∀ (kV doc pm : Value) (an : Option Addr) (cdv ct : Value) (us : List Value), us.length = 2 → bindArgs (PySem.W.fnOf (Str.ofString "strangers") (Str.ofString "strangers") (defArgs (topS 30)) (defBody (topS 30)) (defScope (topS 30)) .none kV doc pm an cdv ct) ⟨us, []⟩ = pure ((N_strangers.take 2).zip us) := fun _ _ _ _ _ _ us hl => match us, hl with | [_, _], _ => rfl
theorem bd__law_hand : ∀ (kV doc pm : Value) (an : Option Addr) (cdv ct : Value) (us : List Value), us.length = 1 → bindArgs (PySem.W.fnOf (Str.ofString "_law_hand") (Str.ofString "_law_hand") (defArgs (topS 32)) (defBody (topS 32)) (defScope (topS 32)) .none kV doc pm an cdv ct) ⟨us, []⟩ = pure ((N__law_hand.take 1).zip us) := fun _ _ _ _ _ _ us hl => match us, hl with | [_], _ => rfl
theorem bd__law_draw : ∀ (kV doc pm : Value) (an : Option Addr) (cdv ct : Value) (us : List Value), us.length = 2 → bindArgs (PySem.W.fnOf (Str.ofString "_law_draw") (Str.ofString "_law_draw") (defArgs (topS 33)) (defBody (topS 33)) (defScope (topS 33)) .none kV doc pm an cdv ct) ⟨us, []⟩ = pure ((N__law_draw.take 2).zip us) := fun _ _ _ _ _ _ us hl => match us, hl with | [_, _], _ => rfl
theorem bd__law_any : ∀ (kV doc pm : Value) (an : Option Addr) (cdv ct : Value) (us : List Value), us.length = 2 → bindArgs (PySem.W.fnOf (Str.ofString "_law_any") (Str.ofString "_law_any") (defArgs (topS 34)) (defBody (topS 34)) (defScope (topS 34)) .none kV doc pm an cdv ct) ⟨us, []⟩ = pure ((N__law_any.take 2).zip us) := fun _ _ _ _ _ _ us hl => match us, hl with | [_, _], _ => rfl
theorem bd__law_rings : ∀ (kV doc pm : Value) (an : Option Addr) (cdv ct : Value) (us : List Value), us.length = 2 → bindArgs (PySem.W.fnOf (Str.ofString "_law_rings") (Str.ofString "_law_rings") (defArgs (topS 35)) (defBody (topS 35)) (defScope (topS 35)) .none kV doc pm an cdv ct) ⟨us, []⟩ = pure ((N__law_rings.take 2).zip us) := fun _ _ _ _ _ _ us hl => match us, hl with | [_, _], _ => rfl
theorem bd__law_door : ∀ (kV doc pm : Value) (an : Option Addr) (cdv ct : Value) (us : List Value), us.length = 1 → bindArgs (PySem.W.fnOf (Str.ofString "_law_door") (Str.ofString "_law_door") (defArgs (topS 36)) (defBody (topS 36)) (defScope (topS 36)) .none kV doc pm an cdv ct) ⟨us, []⟩ = pure ((N__law_door.take 1).zip us) := fun _ _ _ _ _ _ us hl => match us, hl with | [_], _ => rfl
theorem bd__law_lots : ∀ (kV doc pm : Value) (an : Option Addr) (cdv ct : Value) (us : List Value), us.length = 1 → bindArgs (PySem.W.fnOf (Str.ofString "_law_lots") (Str.ofString "_law_lots") (defArgs (topS 37)) (defBody (topS 37)) (defScope (topS 37)) .none kV doc pm an cdv ct) ⟨us, []⟩ = pure ((N__law_lots.take 1).zip us) := fun _ _ _ _ _ _ us hl => match us, hl with | [_], _ => rfl
theorem bd__law_opens : ∀ (kV doc pm : Value) (an : Option Addr) (cdv ct : Value) (us : List Value), us.length = 3 → bindArgs (PySem.W.fnOf (Str.ofString "_law_opens") (Str.ofString "_law_opens") (defArgs (topS 38)) (defBody (topS 38)) (defScope (topS 38)) .none kV doc pm an cdv ct) ⟨us, []⟩ = pure ((N__law_opens.take 3).zip us) := fun _ _ _ _ _ _ us hl => match us, hl with | [_, _, _], _ => rfl
theorem bd__law_no_rings : ∀ (kV doc pm : Value) (an : Option Addr) (cdv ct : Value) (us : List Value), us.length = 1 → bindArgs (PySem.W.fnOf (Str.ofString "_law_no_rings") (Str.ofString "_law_no_rings") (defArgs (topS 39)) (defBody (topS 39)) (defScope (topS 39)) .none kV doc pm an cdv ct) ⟨us, []⟩ = pure ((N__law_no_rings.take 1).zip us) := fun _ _ _ _ _ _ us hl => match us, hl with | [_], _ => rfl
theorem bd__law_no_door : ∀ (kV doc pm : Value) (an : Option Addr) (cdv ct : Value) (us : List Value), us.length = 1 → bindArgs (PySem.W.fnOf (Str.ofString "_law_no_door") (Str.ofString "_law_no_door") (defArgs (topS 40)) (defBody (topS 40)) (defScope (topS 40)) .none kV doc pm an cdv ct) ⟨us, []⟩ = pure ((N__law_no_door.take 1).zip us) := fun _ _ _ _ _ _ us hl => match us, hl with | [_], _ => rfl
theorem bd__law_lost : ∀ (kV doc pm : Value) (an : Option Addr) (cdv ct : Value) (us : List Value), us.length = 2 → bindArgs (PySem.W.fnOf (Str.ofString "_law_lost") (Str.ofString "_law_lost") (defArgs (topS 42)) (defBody (topS 42)) (defScope (topS 42)) .none kV doc pm an cdv ct) ⟨us, []⟩ = pure ((N__law_lost.take 2).zip us) := fun _ _ _ _ _ _ us hl => match us, hl with | [_, _], _ => rfl
theorem bd__law_word : ∀ (kV doc pm : Value) (an : Option Addr) (cdv ct : Value) (us : List Value), us.length = 1 → bindArgs (PySem.W.fnOf (Str.ofString "_law_word") (Str.ofString "_law_word") (defArgs (topS 41)) (defBody (topS 41)) (defScope (topS 41)) .none kV doc pm an cdv ct) ⟨us, []⟩ = pure ((N__law_word.take 1).zip us) := fun _ _ _ _ _ _ us hl => match us, hl with | [_], _ => rfl
def clsL (c2 c3 c6 c8 : Addr) : Nat → Option Addr
  | 2 => some c2
  | 3 => some c3
  | 6 => some c6
  | 8 => some c8
  | _ => none
section
variable {K : PySem.W.Frag} {h : Heap} {mg : Str → Option Value}
theorem fm_is_integer (X : K.In h) (G : h.Ns mainGlobals mg) (d : DefIn K (Str.ofString "is_integer") (topS 1)) : Form K mg TL PL 0 (Str.ofString "is_integer") := form_of X G d sc_is_integer ok_is_integer rfl rfl (by decide) rfl rfl bd_is_integer
theorem fm_is_within (X : K.In h) (G : h.Ns mainGlobals mg) (d : DefIn K (Str.ofString "is_within") (topS 2)) : Form K mg TL PL 1 (Str.ofString "is_within") := form_of X G d sc_is_within ok_is_within rfl rfl (by decide) rfl rfl bd_is_within
theorem fm_is_sized (X : K.In h) (G : h.Ns mainGlobals mg) (d : DefIn K (Str.ofString "is_sized") (topS 3)) : Form K mg TL PL 2 (Str.ofString "is_sized") := form_of X G d sc_is_sized ok_is_sized rfl rfl (by decide) rfl rfl bd_is_sized
theorem fm_is_lot (X : K.In h) (G : h.Ns mainGlobals mg) (d : DefIn K (Str.ofString "is_lot") (topS 4)) : Form K mg TL PL 3 (Str.ofString "is_lot") := form_of X G d sc_is_lot ok_is_lot rfl rfl (by decide) rfl rfl bd_is_lot
theorem fm_all_lots (X : K.In h) (G : h.Ns mainGlobals mg) (d : DefIn K (Str.ofString "all_lots") (topS 5)) : Form K mg TL PL 4 (Str.ofString "all_lots") := form_of X G d sc_all_lots ok_all_lots rfl rfl (by decide) rfl rfl bd_all_lots
theorem fm_are_rings (X : K.In h) (G : h.Ns mainGlobals mg) (d : DefIn K (Str.ofString "are_rings") (topS 21)) : Form K mg TL PL 5 (Str.ofString "are_rings") := form_of X G d sc_are_rings ok_are_rings rfl rfl (by decide) rfl rfl bd_are_rings
theorem fm_check_rings (X : K.In h) (G : h.Ns mainGlobals mg) (d : DefIn K (Str.ofString "check_rings") (topS 22)) : Form K mg TL PL 6 (Str.ofString "check_rings") := form_of X G d sc_check_rings ok_check_rings rfl rfl (by decide) rfl rfl bd_check_rings
theorem fm_is_door (X : K.In h) (G : h.Ns mainGlobals mg) (d : DefIn K (Str.ofString "is_door") (topS 23)) : Form K mg TL PL 7 (Str.ofString "is_door") := form_of X G d sc_is_door ok_is_door rfl rfl (by decide) rfl rfl bd_is_door
theorem fm_check_door (X : K.In h) (G : h.Ns mainGlobals mg) (d : DefIn K (Str.ofString "check_door") (topS 24)) : Form K mg TL PL 8 (Str.ofString "check_door") := form_of X G d sc_check_door ok_check_door rfl rfl (by decide) rfl rfl bd_check_door
theorem fm_raw_opens (X : K.In h) (G : h.Ns mainGlobals mg) (d : DefIn K (Str.ofString "raw_opens") (topS 25)) : Form K mg TL PL 9 (Str.ofString "raw_opens") := form_of X G d sc_raw_opens ok_raw_opens rfl rfl (by decide) rfl rfl bd_raw_opens
theorem fm_groups_of (X : K.In h) (G : h.Ns mainGlobals mg) (d : DefIn K (Str.ofString "groups_of") (topS 26)) : Form K mg TL PL 11 (Str.ofString "groups_of") := form_of X G d sc_groups_of ok_groups_of rfl rfl (by decide) rfl rfl bd_groups_of
theorem fm_fewest_lost (X : K.In h) (G : h.Ns mainGlobals mg) (d : DefIn K (Str.ofString "fewest_lost") (topS 27)) : Form K mg TL PL 37 (Str.ofString "fewest_lost") := form_of X G d sc_fewest_lost ok_fewest_lost rfl rfl (by decide) rfl rfl bd_fewest_lost
theorem fm_spare_keys (X : K.In h) (G : h.Ns mainGlobals mg) (d : DefIn K (Str.ofString "spare_keys") (topS 28)) : Form K mg TL PL 38 (Str.ofString "spare_keys") := form_of X G d sc_spare_keys ok_spare_keys rfl rfl (by decide) rfl rfl bd_spare_keys
theorem fm_copied_key (X : K.In h) (G : h.Ns mainGlobals mg) (d : DefIn K (Str.ofString "copied_key") (topS 29)) : Form K mg TL PL 39 (Str.ofString "copied_key") := form_of X G d sc_copied_key ok_copied_key rfl rfl (by decide) rfl rfl bd_copied_key
theorem fm_strangers (X : K.In h) (G : h.Ns mainGlobals mg) (d : DefIn K (Str.ofString "strangers") (topS 30)) : Form K mg TL PL 40 (Str.ofString "strangers") := form_of X G d sc_strangers ok_strangers rfl rfl (by decide) rfl rfl bd_strangers
theorem fm__law_hand (X : K.In h) (G : h.Ns mainGlobals mg) (d : DefIn K (Str.ofString "_law_hand") (topS 32)) : Form K mg TL PL 19 (Str.ofString "_law_hand") := form_of X G d sc__law_hand ok__law_hand rfl rfl (by decide) rfl rfl bd__law_hand
theorem fm__law_draw (X : K.In h) (G : h.Ns mainGlobals mg) (d : DefIn K (Str.ofString "_law_draw") (topS 33)) : Form K mg TL PL 20 (Str.ofString "_law_draw") := form_of X G d sc__law_draw ok__law_draw rfl rfl (by decide) rfl rfl bd__law_draw
theorem fm__law_any (X : K.In h) (G : h.Ns mainGlobals mg) (d : DefIn K (Str.ofString "_law_any") (topS 34)) : Form K mg TL PL 21 (Str.ofString "_law_any") := form_of X G d sc__law_any ok__law_any rfl rfl (by decide) rfl rfl bd__law_any
theorem fm__law_rings (X : K.In h) (G : h.Ns mainGlobals mg) (d : DefIn K (Str.ofString "_law_rings") (topS 35)) : Form K mg TL PL 22 (Str.ofString "_law_rings") := form_of X G d sc__law_rings ok__law_rings rfl rfl (by decide) rfl rfl bd__law_rings
theorem fm__law_door (X : K.In h) (G : h.Ns mainGlobals mg) (d : DefIn K (Str.ofString "_law_door") (topS 36)) : Form K mg TL PL 23 (Str.ofString "_law_door") := form_of X G d sc__law_door ok__law_door rfl rfl (by decide) rfl rfl bd__law_door
theorem fm__law_lots (X : K.In h) (G : h.Ns mainGlobals mg) (d : DefIn K (Str.ofString "_law_lots") (topS 37)) : Form K mg TL PL 24 (Str.ofString "_law_lots") := form_of X G d sc__law_lots ok__law_lots rfl rfl (by decide) rfl rfl bd__law_lots
theorem fm__law_opens (X : K.In h) (G : h.Ns mainGlobals mg) (d : DefIn K (Str.ofString "_law_opens") (topS 38)) : Form K mg TL PL 25 (Str.ofString "_law_opens") := form_of X G d sc__law_opens ok__law_opens rfl rfl (by decide) rfl rfl bd__law_opens
theorem fm__law_no_rings (X : K.In h) (G : h.Ns mainGlobals mg) (d : DefIn K (Str.ofString "_law_no_rings") (topS 39)) : Form K mg TL PL 26 (Str.ofString "_law_no_rings") := form_of X G d sc__law_no_rings ok__law_no_rings rfl rfl (by decide) rfl rfl bd__law_no_rings
theorem fm__law_no_door (X : K.In h) (G : h.Ns mainGlobals mg) (d : DefIn K (Str.ofString "_law_no_door") (topS 40)) : Form K mg TL PL 27 (Str.ofString "_law_no_door") := form_of X G d sc__law_no_door ok__law_no_door rfl rfl (by decide) rfl rfl bd__law_no_door
theorem fm__law_lost (X : K.In h) (G : h.Ns mainGlobals mg) (d : DefIn K (Str.ofString "_law_lost") (topS 42)) : Form K mg TL PL 41 (Str.ofString "_law_lost") := form_of X G d sc__law_lost ok__law_lost rfl rfl (by decide) rfl rfl bd__law_lost
theorem fm__law_word (X : K.In h) (G : h.Ns mainGlobals mg) (d : DefIn K (Str.ofString "_law_word") (topS 41)) : WForm K mg TW isaL PL 42 (Str.ofString "_law_word") := wform_of X G d sc__law_word ok__law_word rfl rfl (by decide +kernel) bd__law_word fun _ => rfl
theorem forms (X : K.In h) (G : h.Ns mainGlobals mg)
    (d0 : DefIn K (Str.ofString "is_integer") (topS 1))
    (d1 : DefIn K (Str.ofString "is_within") (topS 2))
    (d2 : DefIn K (Str.ofString "is_sized") (topS 3))
    (d3 : DefIn K (Str.ofString "is_lot") (topS 4))
    (d4 : DefIn K (Str.ofString "all_lots") (topS 5))
    (d5 : DefIn K (Str.ofString "are_rings") (topS 21))
    (d6 : DefIn K (Str.ofString "check_rings") (topS 22))
    (d7 : DefIn K (Str.ofString "is_door") (topS 23))
    (d8 : DefIn K (Str.ofString "check_door") (topS 24))
    (d9 : DefIn K (Str.ofString "raw_opens") (topS 25))
    (d11 : DefIn K (Str.ofString "groups_of") (topS 26))
    (d37 : DefIn K (Str.ofString "fewest_lost") (topS 27))
    (d38 : DefIn K (Str.ofString "spare_keys") (topS 28))
    (d39 : DefIn K (Str.ofString "copied_key") (topS 29))
    (d40 : DefIn K (Str.ofString "strangers") (topS 30))
    (d19 : DefIn K (Str.ofString "_law_hand") (topS 32))
    (d20 : DefIn K (Str.ofString "_law_draw") (topS 33))
    (d21 : DefIn K (Str.ofString "_law_any") (topS 34))
    (d22 : DefIn K (Str.ofString "_law_rings") (topS 35))
    (d23 : DefIn K (Str.ofString "_law_door") (topS 36))
    (d24 : DefIn K (Str.ofString "_law_lots") (topS 37))
    (d25 : DefIn K (Str.ofString "_law_opens") (topS 38))
    (d26 : DefIn K (Str.ofString "_law_no_rings") (topS 39))
    (d27 : DefIn K (Str.ofString "_law_no_door") (topS 40))
    (d41 : DefIn K (Str.ofString "_law_lost") (topS 42)) :
    ∀ g y, TL.nm g = some y → Form K mg TL PL g y := fun g y e => by
  match g, e with
  | 0, e => cases e; exact fm_is_integer X G d0
  | 1, e => cases e; exact fm_is_within X G d1
  | 2, e => cases e; exact fm_is_sized X G d2
  | 3, e => cases e; exact fm_is_lot X G d3
  | 4, e => cases e; exact fm_all_lots X G d4
  | 5, e => cases e; exact fm_are_rings X G d5
  | 6, e => cases e; exact fm_check_rings X G d6
  | 7, e => cases e; exact fm_is_door X G d7
  | 8, e => cases e; exact fm_check_door X G d8
  | 9, e => cases e; exact fm_raw_opens X G d9
  | 11, e => cases e; exact fm_groups_of X G d11
  | 37, e => cases e; exact fm_fewest_lost X G d37
  | 38, e => cases e; exact fm_spare_keys X G d38
  | 39, e => cases e; exact fm_copied_key X G d39
  | 40, e => cases e; exact fm_strangers X G d40
  | 19, e => cases e; exact fm__law_hand X G d19
  | 20, e => cases e; exact fm__law_draw X G d20
  | 21, e => cases e; exact fm__law_any X G d21
  | 22, e => cases e; exact fm__law_rings X G d22
  | 23, e => cases e; exact fm__law_door X G d23
  | 24, e => cases e; exact fm__law_lots X G d24
  | 25, e => cases e; exact fm__law_opens X G d25
  | 26, e => cases e; exact fm__law_no_rings X G d26
  | 27, e => cases e; exact fm__law_no_door X G d27
  | 41, e => cases e; exact fm__law_lost X G d41
  | 10, e => cases e
  | 12, e => cases e
  | 13, e => cases e
  | 14, e => cases e
  | 15, e => cases e
  | 16, e => cases e
  | 17, e => cases e
  | 18, e => cases e
  | 28, e => cases e
  | 29, e => cases e
  | 30, e => cases e
  | 31, e => cases e
  | 32, e => cases e
  | 33, e => cases e
  | 34, e => cases e
  | 35, e => cases e
  | 36, e => cases e
  | 42, e => cases e
  | n + 43, e => cases e
theorem wforms (X : K.In h) (G : h.Ns mainGlobals mg)
    (d42 : DefIn K (Str.ofString "_law_word") (topS 41)) :
    ∀ g y, TL.lm g = some y → WForm K mg TW isaL PL g y := fun g y e => by
  match g, e with
  | 42, e => cases e; exact fm__law_word X G d42
  | 0, e => cases e
  | 1, e => cases e
  | 2, e => cases e
  | 3, e => cases e
  | 4, e => cases e
  | 5, e => cases e
  | 6, e => cases e
  | 7, e => cases e
  | 8, e => cases e
  | 9, e => cases e
  | 10, e => cases e
  | 11, e => cases e
  | 12, e => cases e
  | 13, e => cases e
  | 14, e => cases e
  | 15, e => cases e
  | 16, e => cases e
  | 17, e => cases e
  | 18, e => cases e
  | 19, e => cases e
  | 20, e => cases e
  | 21, e => cases e
  | 22, e => cases e
  | 23, e => cases e
  | 24, e => cases e
  | 25, e => cases e
  | 26, e => cases e
  | 27, e => cases e
  | 28, e => cases e
  | 29, e => cases e
  | 30, e => cases e
  | 31, e => cases e
  | 32, e => cases e
  | 33, e => cases e
  | 34, e => cases e
  | 35, e => cases e
  | 36, e => cases e
  | 37, e => cases e
  | 38, e => cases e
  | 39, e => cases e
  | 40, e => cases e
  | 41, e => cases e
  | n + 43, e => cases e
theorem csts (X : K.In h) (G : h.Ns mainGlobals mg)
    (k0 : ∃ t, PySem.W.nsIn K mainGlobals (Str.ofString "MOST_DOORS") = some (some (.int 5 t)))
    (k1 : ∃ t, PySem.W.nsIn K mainGlobals (Str.ofString "MOST_KEYS") = some (some (.int 10 t)))
    (k2 : ∃ t, PySem.W.nsIn K mainGlobals (Str.ofString "MOST_PEOPLE") = some (some (.int 5 t))) :
    ∀ x d, TL.cst x = some d → ∃ u v, mg x = some u ∧ RelV v u ∧ ∀ Mu H, Rep K Mu H v d := fun x d e => by
  have e2 : cstL x = some d := e
  unfold cstL at e2
  split at e2
  · rename_i hx
    have hx := eq_of_beq hx
    subst hx
    cases e2
    obtain ⟨t, ht⟩ := k0
    exact ⟨_, .int _, PySem.W.mg_of X G ht, ⟨t, rfl⟩, fun _ _ => .int _⟩
  split at e2
  · rename_i hx
    have hx := eq_of_beq hx
    subst hx
    cases e2
    obtain ⟨t, ht⟩ := k1
    exact ⟨_, .int _, PySem.W.mg_of X G ht, ⟨t, rfl⟩, fun _ _ => .int _⟩
  split at e2
  · rename_i hx
    have hx := eq_of_beq hx
    subst hx
    cases e2
    obtain ⟨t, ht⟩ := k2
    exact ⟨_, .int _, PySem.W.mg_of X G ht, ⟨t, rfl⟩, fun _ _ => .int _⟩
  cases e2
theorem exns (X : K.In h) (G : h.Ns mainGlobals mg) {c2 c3 c6 c8 : Addr}
    (e2 : ClsIn K (Str.ofString "NoDoor") c2)
    (e3 : ClsIn K (Str.ofString "NoDoors") c3)
    (e6 : ClsIn K (Str.ofString "NoKey") c6)
    (e8 : ClsIn K (Str.ofString "NoRings") c8) :
    ∀ c x, TL.exn c = some x → ∃ (C : Addr) (B newId initId : String) (bmB : List Value), ExcBaseFacts B newId initId bmB ∧ PySem.W.excIn K C bmB newId = true ∧ mg x = some (.ref C) ∧ PySem.W.keepIn K (.ref C) = true ∧
      PySem.W.subIn K (.ref C) (.type "BaseException") = some true ∧ PySem.W.typeIn K (.ref C) = some (.type "type") ∧ (x == ("__debug__" : Str)) = false ∧ clsL c2 c3 c6 c8 c = some C := fun c x e => by
  match c, e with
  | 2, e => cases e; exact ⟨c2, _, _, _, _, PySem.F.excBase_ValueError, e2.ex, PySem.W.mg_of X G e2.a, e2.kp, e2.sb, e2.ty, by decide, rfl⟩
  | 3, e => cases e; exact ⟨c3, _, _, _, _, PySem.F.excBase_ValueError, e3.ex, PySem.W.mg_of X G e3.a, e3.kp, e3.sb, e3.ty, by decide, rfl⟩
  | 6, e => cases e; exact ⟨c6, _, _, _, _, PySem.F.excBase_ValueError, e6.ex, PySem.W.mg_of X G e6.a, e6.kp, e6.sb, e6.ty, by decide, rfl⟩
  | 8, e => cases e; exact ⟨c8, _, _, _, _, PySem.F.excBase_ValueError, e8.ex, PySem.W.mg_of X G e8.a, e8.kp, e8.sb, e8.ty, by decide, rfl⟩
  | 0, e => cases e
  | 1, e => cases e
  | 4, e => cases e
  | 5, e => cases e
  | 7, e => cases e
  | 9, e => cases e
  | n + 10, e => cases e
theorem wok (X : K.In h) (G : h.Ns mainGlobals mg) (bi : ∀ x ∈ biN, mg x = none) {c0 c1 c2 c3 c4 c5 c6 c7 c8 c9 : Addr}
    (n0 : PySem.W.nsIn K mainGlobals (Str.ofString "WatchError") = some (some (.ref c0)))
    (n1 : PySem.W.nsIn K mainGlobals (Str.ofString "NoCount") = some (some (.ref c1)))
    (n2 : PySem.W.nsIn K mainGlobals (Str.ofString "NoDoor") = some (some (.ref c2)))
    (n3 : PySem.W.nsIn K mainGlobals (Str.ofString "NoDoors") = some (some (.ref c3)))
    (n4 : PySem.W.nsIn K mainGlobals (Str.ofString "NoGift") = some (some (.ref c4)))
    (n5 : PySem.W.nsIn K mainGlobals (Str.ofString "NoGroup") = some (some (.ref c5)))
    (n6 : PySem.W.nsIn K mainGlobals (Str.ofString "NoKey") = some (some (.ref c6)))
    (n7 : PySem.W.nsIn K mainGlobals (Str.ofString "NoPerson") = some (some (.ref c7)))
    (n8 : PySem.W.nsIn K mainGlobals (Str.ofString "NoRings") = some (some (.ref c8)))
    (n9 : PySem.W.nsIn K mainGlobals (Str.ofString "TooMany") = some (some (.ref c9)))
    (x2 : ExcC K c2)
    (x3 : ExcC K c3)
    (x6 : ExcC K c6)
    (x8 : ExcC K c8)
    (p2_0 : PySem.W.kitOne K (.ref c2) (.ref c0) = some true ∧ PySem.W.exmOne K (.ref c2) (.ref c0) = some true)
    (p2_1 : PySem.W.kitOne K (.ref c2) (.ref c1) = some false ∧ PySem.W.exmOne K (.ref c2) (.ref c1) = some false)
    (p2_2 : PySem.W.kitOne K (.ref c2) (.ref c2) = some true ∧ PySem.W.exmOne K (.ref c2) (.ref c2) = some true)
    (p2_3 : PySem.W.kitOne K (.ref c2) (.ref c3) = some false ∧ PySem.W.exmOne K (.ref c2) (.ref c3) = some false)
    (p2_4 : PySem.W.kitOne K (.ref c2) (.ref c4) = some false ∧ PySem.W.exmOne K (.ref c2) (.ref c4) = some false)
    (p2_5 : PySem.W.kitOne K (.ref c2) (.ref c5) = some false ∧ PySem.W.exmOne K (.ref c2) (.ref c5) = some false)
    (p2_6 : PySem.W.kitOne K (.ref c2) (.ref c6) = some false ∧ PySem.W.exmOne K (.ref c2) (.ref c6) = some false)
    (p2_7 : PySem.W.kitOne K (.ref c2) (.ref c7) = some false ∧ PySem.W.exmOne K (.ref c2) (.ref c7) = some false)
    (p2_8 : PySem.W.kitOne K (.ref c2) (.ref c8) = some false ∧ PySem.W.exmOne K (.ref c2) (.ref c8) = some false)
    (p2_9 : PySem.W.kitOne K (.ref c2) (.ref c9) = some false ∧ PySem.W.exmOne K (.ref c2) (.ref c9) = some false)
    (p3_0 : PySem.W.kitOne K (.ref c3) (.ref c0) = some true ∧ PySem.W.exmOne K (.ref c3) (.ref c0) = some true)
    (p3_1 : PySem.W.kitOne K (.ref c3) (.ref c1) = some false ∧ PySem.W.exmOne K (.ref c3) (.ref c1) = some false)
    (p3_2 : PySem.W.kitOne K (.ref c3) (.ref c2) = some false ∧ PySem.W.exmOne K (.ref c3) (.ref c2) = some false)
    (p3_3 : PySem.W.kitOne K (.ref c3) (.ref c3) = some true ∧ PySem.W.exmOne K (.ref c3) (.ref c3) = some true)
    (p3_4 : PySem.W.kitOne K (.ref c3) (.ref c4) = some false ∧ PySem.W.exmOne K (.ref c3) (.ref c4) = some false)
    (p3_5 : PySem.W.kitOne K (.ref c3) (.ref c5) = some false ∧ PySem.W.exmOne K (.ref c3) (.ref c5) = some false)
    (p3_6 : PySem.W.kitOne K (.ref c3) (.ref c6) = some false ∧ PySem.W.exmOne K (.ref c3) (.ref c6) = some false)
    (p3_7 : PySem.W.kitOne K (.ref c3) (.ref c7) = some false ∧ PySem.W.exmOne K (.ref c3) (.ref c7) = some false)
    (p3_8 : PySem.W.kitOne K (.ref c3) (.ref c8) = some false ∧ PySem.W.exmOne K (.ref c3) (.ref c8) = some false)
    (p3_9 : PySem.W.kitOne K (.ref c3) (.ref c9) = some false ∧ PySem.W.exmOne K (.ref c3) (.ref c9) = some false)
    (p6_0 : PySem.W.kitOne K (.ref c6) (.ref c0) = some true ∧ PySem.W.exmOne K (.ref c6) (.ref c0) = some true)
    (p6_1 : PySem.W.kitOne K (.ref c6) (.ref c1) = some false ∧ PySem.W.exmOne K (.ref c6) (.ref c1) = some false)
    (p6_2 : PySem.W.kitOne K (.ref c6) (.ref c2) = some false ∧ PySem.W.exmOne K (.ref c6) (.ref c2) = some false)
    (p6_3 : PySem.W.kitOne K (.ref c6) (.ref c3) = some false ∧ PySem.W.exmOne K (.ref c6) (.ref c3) = some false)
    (p6_4 : PySem.W.kitOne K (.ref c6) (.ref c4) = some false ∧ PySem.W.exmOne K (.ref c6) (.ref c4) = some false)
    (p6_5 : PySem.W.kitOne K (.ref c6) (.ref c5) = some false ∧ PySem.W.exmOne K (.ref c6) (.ref c5) = some false)
    (p6_6 : PySem.W.kitOne K (.ref c6) (.ref c6) = some true ∧ PySem.W.exmOne K (.ref c6) (.ref c6) = some true)
    (p6_7 : PySem.W.kitOne K (.ref c6) (.ref c7) = some false ∧ PySem.W.exmOne K (.ref c6) (.ref c7) = some false)
    (p6_8 : PySem.W.kitOne K (.ref c6) (.ref c8) = some false ∧ PySem.W.exmOne K (.ref c6) (.ref c8) = some false)
    (p6_9 : PySem.W.kitOne K (.ref c6) (.ref c9) = some false ∧ PySem.W.exmOne K (.ref c6) (.ref c9) = some false)
    (p8_0 : PySem.W.kitOne K (.ref c8) (.ref c0) = some true ∧ PySem.W.exmOne K (.ref c8) (.ref c0) = some true)
    (p8_1 : PySem.W.kitOne K (.ref c8) (.ref c1) = some false ∧ PySem.W.exmOne K (.ref c8) (.ref c1) = some false)
    (p8_2 : PySem.W.kitOne K (.ref c8) (.ref c2) = some false ∧ PySem.W.exmOne K (.ref c8) (.ref c2) = some false)
    (p8_3 : PySem.W.kitOne K (.ref c8) (.ref c3) = some false ∧ PySem.W.exmOne K (.ref c8) (.ref c3) = some false)
    (p8_4 : PySem.W.kitOne K (.ref c8) (.ref c4) = some false ∧ PySem.W.exmOne K (.ref c8) (.ref c4) = some false)
    (p8_5 : PySem.W.kitOne K (.ref c8) (.ref c5) = some false ∧ PySem.W.exmOne K (.ref c8) (.ref c5) = some false)
    (p8_6 : PySem.W.kitOne K (.ref c8) (.ref c6) = some false ∧ PySem.W.exmOne K (.ref c8) (.ref c6) = some false)
    (p8_7 : PySem.W.kitOne K (.ref c8) (.ref c7) = some false ∧ PySem.W.exmOne K (.ref c8) (.ref c7) = some false)
    (p8_8 : PySem.W.kitOne K (.ref c8) (.ref c8) = some true ∧ PySem.W.exmOne K (.ref c8) (.ref c8) = some true)
    (p8_9 : PySem.W.kitOne K (.ref c8) (.ref c9) = some false ∧ PySem.W.exmOne K (.ref c8) (.ref c9) = some false) :
    WordOk K mg TW (clsL c2 c3 c6 c8) isaL := by
  refine ⟨bi, fun c C e => ?_, fun c C c' y e e2 => ?_, fun c y e => ?_, fun _ => rfl, fun _ => rfl⟩
  · match c, e with
    | 2, e => cases e; exact x2
    | 3, e => cases e; exact x3
    | 6, e => cases e; exact x6
    | 8, e => cases e; exact x8
    | 0, e => cases e
    | 1, e => cases e
    | 4, e => cases e
    | 5, e => cases e
    | 7, e => cases e
    | 9, e => cases e
    | n + 10, e => cases e
  · match c, e with
    | 2, e =>
      cases e
      match c', e2 with
      | 0, e2 => cases e2; exact ⟨c0, _, PySem.W.mg_of X G n0, rfl, p2_0.1, p2_0.2⟩
      | 1, e2 => cases e2; exact ⟨c1, _, PySem.W.mg_of X G n1, rfl, p2_1.1, p2_1.2⟩
      | 2, e2 => cases e2; exact ⟨c2, _, PySem.W.mg_of X G n2, rfl, p2_2.1, p2_2.2⟩
      | 3, e2 => cases e2; exact ⟨c3, _, PySem.W.mg_of X G n3, rfl, p2_3.1, p2_3.2⟩
      | 4, e2 => cases e2; exact ⟨c4, _, PySem.W.mg_of X G n4, rfl, p2_4.1, p2_4.2⟩
      | 5, e2 => cases e2; exact ⟨c5, _, PySem.W.mg_of X G n5, rfl, p2_5.1, p2_5.2⟩
      | 6, e2 => cases e2; exact ⟨c6, _, PySem.W.mg_of X G n6, rfl, p2_6.1, p2_6.2⟩
      | 7, e2 => cases e2; exact ⟨c7, _, PySem.W.mg_of X G n7, rfl, p2_7.1, p2_7.2⟩
      | 8, e2 => cases e2; exact ⟨c8, _, PySem.W.mg_of X G n8, rfl, p2_8.1, p2_8.2⟩
      | 9, e2 => cases e2; exact ⟨c9, _, PySem.W.mg_of X G n9, rfl, p2_9.1, p2_9.2⟩
      | n + 10, e2 => cases e2
    | 3, e =>
      cases e
      match c', e2 with
      | 0, e2 => cases e2; exact ⟨c0, _, PySem.W.mg_of X G n0, rfl, p3_0.1, p3_0.2⟩
      | 1, e2 => cases e2; exact ⟨c1, _, PySem.W.mg_of X G n1, rfl, p3_1.1, p3_1.2⟩
      | 2, e2 => cases e2; exact ⟨c2, _, PySem.W.mg_of X G n2, rfl, p3_2.1, p3_2.2⟩
      | 3, e2 => cases e2; exact ⟨c3, _, PySem.W.mg_of X G n3, rfl, p3_3.1, p3_3.2⟩
      | 4, e2 => cases e2; exact ⟨c4, _, PySem.W.mg_of X G n4, rfl, p3_4.1, p3_4.2⟩
      | 5, e2 => cases e2; exact ⟨c5, _, PySem.W.mg_of X G n5, rfl, p3_5.1, p3_5.2⟩
      | 6, e2 => cases e2; exact ⟨c6, _, PySem.W.mg_of X G n6, rfl, p3_6.1, p3_6.2⟩
      | 7, e2 => cases e2; exact ⟨c7, _, PySem.W.mg_of X G n7, rfl, p3_7.1, p3_7.2⟩
      | 8, e2 => cases e2; exact ⟨c8, _, PySem.W.mg_of X G n8, rfl, p3_8.1, p3_8.2⟩
      | 9, e2 => cases e2; exact ⟨c9, _, PySem.W.mg_of X G n9, rfl, p3_9.1, p3_9.2⟩
      | n + 10, e2 => cases e2
    | 6, e =>
      cases e
      match c', e2 with
      | 0, e2 => cases e2; exact ⟨c0, _, PySem.W.mg_of X G n0, rfl, p6_0.1, p6_0.2⟩
      | 1, e2 => cases e2; exact ⟨c1, _, PySem.W.mg_of X G n1, rfl, p6_1.1, p6_1.2⟩
      | 2, e2 => cases e2; exact ⟨c2, _, PySem.W.mg_of X G n2, rfl, p6_2.1, p6_2.2⟩
      | 3, e2 => cases e2; exact ⟨c3, _, PySem.W.mg_of X G n3, rfl, p6_3.1, p6_3.2⟩
      | 4, e2 => cases e2; exact ⟨c4, _, PySem.W.mg_of X G n4, rfl, p6_4.1, p6_4.2⟩
      | 5, e2 => cases e2; exact ⟨c5, _, PySem.W.mg_of X G n5, rfl, p6_5.1, p6_5.2⟩
      | 6, e2 => cases e2; exact ⟨c6, _, PySem.W.mg_of X G n6, rfl, p6_6.1, p6_6.2⟩
      | 7, e2 => cases e2; exact ⟨c7, _, PySem.W.mg_of X G n7, rfl, p6_7.1, p6_7.2⟩
      | 8, e2 => cases e2; exact ⟨c8, _, PySem.W.mg_of X G n8, rfl, p6_8.1, p6_8.2⟩
      | 9, e2 => cases e2; exact ⟨c9, _, PySem.W.mg_of X G n9, rfl, p6_9.1, p6_9.2⟩
      | n + 10, e2 => cases e2
    | 8, e =>
      cases e
      match c', e2 with
      | 0, e2 => cases e2; exact ⟨c0, _, PySem.W.mg_of X G n0, rfl, p8_0.1, p8_0.2⟩
      | 1, e2 => cases e2; exact ⟨c1, _, PySem.W.mg_of X G n1, rfl, p8_1.1, p8_1.2⟩
      | 2, e2 => cases e2; exact ⟨c2, _, PySem.W.mg_of X G n2, rfl, p8_2.1, p8_2.2⟩
      | 3, e2 => cases e2; exact ⟨c3, _, PySem.W.mg_of X G n3, rfl, p8_3.1, p8_3.2⟩
      | 4, e2 => cases e2; exact ⟨c4, _, PySem.W.mg_of X G n4, rfl, p8_4.1, p8_4.2⟩
      | 5, e2 => cases e2; exact ⟨c5, _, PySem.W.mg_of X G n5, rfl, p8_5.1, p8_5.2⟩
      | 6, e2 => cases e2; exact ⟨c6, _, PySem.W.mg_of X G n6, rfl, p8_6.1, p8_6.2⟩
      | 7, e2 => cases e2; exact ⟨c7, _, PySem.W.mg_of X G n7, rfl, p8_7.1, p8_7.2⟩
      | 8, e2 => cases e2; exact ⟨c8, _, PySem.W.mg_of X G n8, rfl, p8_8.1, p8_8.2⟩
      | 9, e2 => cases e2; exact ⟨c9, _, PySem.W.mg_of X G n9, rfl, p8_9.1, p8_9.2⟩
      | n + 10, e2 => cases e2
    | 0, e => cases e
    | 1, e => cases e
    | 4, e => cases e
    | 5, e => cases e
    | 7, e => cases e
    | 9, e => cases e
    | n + 10, e => cases e
  · match c, e with
    | 0, e => cases e; exact ⟨c0, PySem.W.mg_of X G n0⟩
    | 1, e => cases e; exact ⟨c1, PySem.W.mg_of X G n1⟩
    | 2, e => cases e; exact ⟨c2, PySem.W.mg_of X G n2⟩
    | 3, e => cases e; exact ⟨c3, PySem.W.mg_of X G n3⟩
    | 4, e => cases e; exact ⟨c4, PySem.W.mg_of X G n4⟩
    | 5, e => cases e; exact ⟨c5, PySem.W.mg_of X G n5⟩
    | 6, e => cases e; exact ⟨c6, PySem.W.mg_of X G n6⟩
    | 7, e => cases e; exact ⟨c7, PySem.W.mg_of X G n7⟩
    | 8, e => cases e; exact ⟨c8, PySem.W.mg_of X G n8⟩
    | 9, e => cases e; exact ⟨c9, PySem.W.mg_of X G n9⟩
    | n + 10, e => cases e
theorem all_mk {l : PySem.W.OpenLaw} {w : World} {fa Pt c : Addr} (X : K.In h) (G : h.Ns mainGlobals mg) (hfa : mg (Str.ofString "law") = some (.ref fa)) {c0 c1 c2 c3 c4 c5 c6 c7 c8 c9 : Addr} (hT : h.get? Pt = some { cls := .none, data := .fields #[] })
    (d0 : DefIn K (Str.ofString "is_integer") (topS 1))
    (d1 : DefIn K (Str.ofString "is_within") (topS 2))
    (d2 : DefIn K (Str.ofString "is_sized") (topS 3))
    (d3 : DefIn K (Str.ofString "is_lot") (topS 4))
    (d4 : DefIn K (Str.ofString "all_lots") (topS 5))
    (d5 : DefIn K (Str.ofString "are_rings") (topS 21))
    (d6 : DefIn K (Str.ofString "check_rings") (topS 22))
    (d7 : DefIn K (Str.ofString "is_door") (topS 23))
    (d8 : DefIn K (Str.ofString "check_door") (topS 24))
    (d9 : DefIn K (Str.ofString "raw_opens") (topS 25))
    (d11 : DefIn K (Str.ofString "groups_of") (topS 26))
    (d37 : DefIn K (Str.ofString "fewest_lost") (topS 27))
    (d38 : DefIn K (Str.ofString "spare_keys") (topS 28))
    (d39 : DefIn K (Str.ofString "copied_key") (topS 29))
    (d40 : DefIn K (Str.ofString "strangers") (topS 30))
    (d19 : DefIn K (Str.ofString "_law_hand") (topS 32))
    (d20 : DefIn K (Str.ofString "_law_draw") (topS 33))
    (d21 : DefIn K (Str.ofString "_law_any") (topS 34))
    (d22 : DefIn K (Str.ofString "_law_rings") (topS 35))
    (d23 : DefIn K (Str.ofString "_law_door") (topS 36))
    (d24 : DefIn K (Str.ofString "_law_lots") (topS 37))
    (d25 : DefIn K (Str.ofString "_law_opens") (topS 38))
    (d26 : DefIn K (Str.ofString "_law_no_rings") (topS 39))
    (d27 : DefIn K (Str.ofString "_law_no_door") (topS 40))
    (d41 : DefIn K (Str.ofString "_law_lost") (topS 42))
    (d42 : DefIn K (Str.ofString "_law_word") (topS 41))
    (bi : BiIn K)
    (k0 : ∃ t, PySem.W.nsIn K mainGlobals (Str.ofString "MOST_DOORS") = some (some (.int 5 t)))
    (k1 : ∃ t, PySem.W.nsIn K mainGlobals (Str.ofString "MOST_KEYS") = some (some (.int 10 t)))
    (k2 : ∃ t, PySem.W.nsIn K mainGlobals (Str.ofString "MOST_PEOPLE") = some (some (.int 5 t)))
    (e2 : ClsIn K (Str.ofString "NoDoor") c2)
    (e3 : ClsIn K (Str.ofString "NoDoors") c3)
    (e6 : ClsIn K (Str.ofString "NoKey") c6)
    (e8 : ClsIn K (Str.ofString "NoRings") c8)
    (n0 : PySem.W.nsIn K mainGlobals (Str.ofString "WatchError") = some (some (.ref c0)))
    (n1 : PySem.W.nsIn K mainGlobals (Str.ofString "NoCount") = some (some (.ref c1)))
    (n2 : PySem.W.nsIn K mainGlobals (Str.ofString "NoDoor") = some (some (.ref c2)))
    (n3 : PySem.W.nsIn K mainGlobals (Str.ofString "NoDoors") = some (some (.ref c3)))
    (n4 : PySem.W.nsIn K mainGlobals (Str.ofString "NoGift") = some (some (.ref c4)))
    (n5 : PySem.W.nsIn K mainGlobals (Str.ofString "NoGroup") = some (some (.ref c5)))
    (n6 : PySem.W.nsIn K mainGlobals (Str.ofString "NoKey") = some (some (.ref c6)))
    (n7 : PySem.W.nsIn K mainGlobals (Str.ofString "NoPerson") = some (some (.ref c7)))
    (n8 : PySem.W.nsIn K mainGlobals (Str.ofString "NoRings") = some (some (.ref c8)))
    (n9 : PySem.W.nsIn K mainGlobals (Str.ofString "TooMany") = some (some (.ref c9)))
    (x2 : ExcC K c2)
    (x3 : ExcC K c3)
    (x6 : ExcC K c6)
    (x8 : ExcC K c8)
    (p2_0 : PySem.W.kitOne K (.ref c2) (.ref c0) = some true ∧ PySem.W.exmOne K (.ref c2) (.ref c0) = some true)
    (p2_1 : PySem.W.kitOne K (.ref c2) (.ref c1) = some false ∧ PySem.W.exmOne K (.ref c2) (.ref c1) = some false)
    (p2_2 : PySem.W.kitOne K (.ref c2) (.ref c2) = some true ∧ PySem.W.exmOne K (.ref c2) (.ref c2) = some true)
    (p2_3 : PySem.W.kitOne K (.ref c2) (.ref c3) = some false ∧ PySem.W.exmOne K (.ref c2) (.ref c3) = some false)
    (p2_4 : PySem.W.kitOne K (.ref c2) (.ref c4) = some false ∧ PySem.W.exmOne K (.ref c2) (.ref c4) = some false)
    (p2_5 : PySem.W.kitOne K (.ref c2) (.ref c5) = some false ∧ PySem.W.exmOne K (.ref c2) (.ref c5) = some false)
    (p2_6 : PySem.W.kitOne K (.ref c2) (.ref c6) = some false ∧ PySem.W.exmOne K (.ref c2) (.ref c6) = some false)
    (p2_7 : PySem.W.kitOne K (.ref c2) (.ref c7) = some false ∧ PySem.W.exmOne K (.ref c2) (.ref c7) = some false)
    (p2_8 : PySem.W.kitOne K (.ref c2) (.ref c8) = some false ∧ PySem.W.exmOne K (.ref c2) (.ref c8) = some false)
    (p2_9 : PySem.W.kitOne K (.ref c2) (.ref c9) = some false ∧ PySem.W.exmOne K (.ref c2) (.ref c9) = some false)
    (p3_0 : PySem.W.kitOne K (.ref c3) (.ref c0) = some true ∧ PySem.W.exmOne K (.ref c3) (.ref c0) = some true)
    (p3_1 : PySem.W.kitOne K (.ref c3) (.ref c1) = some false ∧ PySem.W.exmOne K (.ref c3) (.ref c1) = some false)
    (p3_2 : PySem.W.kitOne K (.ref c3) (.ref c2) = some false ∧ PySem.W.exmOne K (.ref c3) (.ref c2) = some false)
    (p3_3 : PySem.W.kitOne K (.ref c3) (.ref c3) = some true ∧ PySem.W.exmOne K (.ref c3) (.ref c3) = some true)
    (p3_4 : PySem.W.kitOne K (.ref c3) (.ref c4) = some false ∧ PySem.W.exmOne K (.ref c3) (.ref c4) = some false)
    (p3_5 : PySem.W.kitOne K (.ref c3) (.ref c5) = some false ∧ PySem.W.exmOne K (.ref c3) (.ref c5) = some false)
    (p3_6 : PySem.W.kitOne K (.ref c3) (.ref c6) = some false ∧ PySem.W.exmOne K (.ref c3) (.ref c6) = some false)
    (p3_7 : PySem.W.kitOne K (.ref c3) (.ref c7) = some false ∧ PySem.W.exmOne K (.ref c3) (.ref c7) = some false)
    (p3_8 : PySem.W.kitOne K (.ref c3) (.ref c8) = some false ∧ PySem.W.exmOne K (.ref c3) (.ref c8) = some false)
    (p3_9 : PySem.W.kitOne K (.ref c3) (.ref c9) = some false ∧ PySem.W.exmOne K (.ref c3) (.ref c9) = some false)
    (p6_0 : PySem.W.kitOne K (.ref c6) (.ref c0) = some true ∧ PySem.W.exmOne K (.ref c6) (.ref c0) = some true)
    (p6_1 : PySem.W.kitOne K (.ref c6) (.ref c1) = some false ∧ PySem.W.exmOne K (.ref c6) (.ref c1) = some false)
    (p6_2 : PySem.W.kitOne K (.ref c6) (.ref c2) = some false ∧ PySem.W.exmOne K (.ref c6) (.ref c2) = some false)
    (p6_3 : PySem.W.kitOne K (.ref c6) (.ref c3) = some false ∧ PySem.W.exmOne K (.ref c6) (.ref c3) = some false)
    (p6_4 : PySem.W.kitOne K (.ref c6) (.ref c4) = some false ∧ PySem.W.exmOne K (.ref c6) (.ref c4) = some false)
    (p6_5 : PySem.W.kitOne K (.ref c6) (.ref c5) = some false ∧ PySem.W.exmOne K (.ref c6) (.ref c5) = some false)
    (p6_6 : PySem.W.kitOne K (.ref c6) (.ref c6) = some true ∧ PySem.W.exmOne K (.ref c6) (.ref c6) = some true)
    (p6_7 : PySem.W.kitOne K (.ref c6) (.ref c7) = some false ∧ PySem.W.exmOne K (.ref c6) (.ref c7) = some false)
    (p6_8 : PySem.W.kitOne K (.ref c6) (.ref c8) = some false ∧ PySem.W.exmOne K (.ref c6) (.ref c8) = some false)
    (p6_9 : PySem.W.kitOne K (.ref c6) (.ref c9) = some false ∧ PySem.W.exmOne K (.ref c6) (.ref c9) = some false)
    (p8_0 : PySem.W.kitOne K (.ref c8) (.ref c0) = some true ∧ PySem.W.exmOne K (.ref c8) (.ref c0) = some true)
    (p8_1 : PySem.W.kitOne K (.ref c8) (.ref c1) = some false ∧ PySem.W.exmOne K (.ref c8) (.ref c1) = some false)
    (p8_2 : PySem.W.kitOne K (.ref c8) (.ref c2) = some false ∧ PySem.W.exmOne K (.ref c8) (.ref c2) = some false)
    (p8_3 : PySem.W.kitOne K (.ref c8) (.ref c3) = some false ∧ PySem.W.exmOne K (.ref c8) (.ref c3) = some false)
    (p8_4 : PySem.W.kitOne K (.ref c8) (.ref c4) = some false ∧ PySem.W.exmOne K (.ref c8) (.ref c4) = some false)
    (p8_5 : PySem.W.kitOne K (.ref c8) (.ref c5) = some false ∧ PySem.W.exmOne K (.ref c8) (.ref c5) = some false)
    (p8_6 : PySem.W.kitOne K (.ref c8) (.ref c6) = some false ∧ PySem.W.exmOne K (.ref c8) (.ref c6) = some false)
    (p8_7 : PySem.W.kitOne K (.ref c8) (.ref c7) = some false ∧ PySem.W.exmOne K (.ref c8) (.ref c7) = some false)
    (p8_8 : PySem.W.kitOne K (.ref c8) (.ref c8) = some true ∧ PySem.W.exmOne K (.ref c8) (.ref c8) = some true)
    (p8_9 : PySem.W.kitOne K (.ref c8) (.ref c9) = some false ∧ PySem.W.exmOne K (.ref c8) (.ref c9) = some false)
    (dl : LawIn K (Str.ofString "law") (topS 43) c) (nT : K.lookup Pt = none) (hC : PySem.W.codeHdIn K c Pt = true) : LamX.LawAtS l w K (L2.CX l.prog w) 21 63 (Str.ofString "script") mg fa h := by
  have bi2 := bi.none X G
  obtain ⟨fL, oc, od, an, osl, kV, doc, pm, ct, ha, hl, hc⟩ := dl
  have e := hfa.symm.trans (PySem.W.mg_of X G ha)
  cases e
  exact law_at (k := 20) (Pr := PL) (T := TL) (Tw := TW) (qn := (envOfC (Str.ofString "law") (defScope (topS 43)) 0 0 .none).qual ++ "<lambda>") X ⟨⟨oc, od, kV, doc, pm, an, ct, osl, rfl, hl, hc⟩⟩ sc_law (fun s v => .of_eq rfl) hT nT (PySem.W.codeHd_of_K X hC) (fun _ => rfl) bi2 (csts X G k0 k1 k2) (exns X G e2 e3 e6 e8) (forms X G d0 d1 d2 d3 d4 d5 d6 d7 d8 d9 d11 d37 d38 d39 d40 d19 d20 d21 d22 d23 d24 d25 d26 d27 d41) (wok X G bi2 n0 n1 n2 n3 n4 n5 n6 n7 n8 n9 x2 x3 x6 x8 p2_0 p2_1 p2_2 p2_3 p2_4 p2_5 p2_6 p2_7 p2_8 p2_9 p3_0 p3_1 p3_2 p3_3 p3_4 p3_5 p3_6 p3_7 p3_8 p3_9 p6_0 p6_1 p6_2 p6_3 p6_4 p6_5 p6_6 p6_7 p6_8 p6_9 p8_0 p8_1 p8_2 p8_3 p8_4 p8_5 p8_6 p8_7 p8_8 p8_9) (wforms X G d42) (by decide) (show defBody (topS 43) = lawS :: lawR from rfl) ok_law1 ok_law2 (by decide) (by decide) ev_law
end
end Ev.K89
open PySem PySem.W PyProof.Rows
set_option maxRecDepth 100000 in
set_option maxHeartbeats 0 in
theorem PySem.Challenge.cw_watchhouse_k89_whole_keys_lost_and_spare_holds : PySem.Challenge.rw_watchhouse_k89_whole_keys_lost_and_spare.Holds := by
  w_on; o_law; k_head; (case hw => w_witness2)
  k_fill
  refine LamX.walk_ofTs (l := PySem.Challenge.rw_watchhouse_k89_whole_keys_lost_and_spare) (n := 63) (k := 21) (x := Str.ofString "script") (CX := fun w => L2.CX PySem.Challenge.rw_watchhouse_k89_whole_keys_lost_and_spare.prog w) rfl (by decide) rfl ⟨rfl, by decide, by decide⟩ (fun w h Y => PySem.W.km_in_of Y) ?F (fun w H s e s' z => by
    obtain ⟨_, _, _, _, _, _, _, _, _, _, _, _, z⟩ := z
    exact z)
  case F =>
    intro w mg fa h Y KX G hmg
    refine' Ev.K89.all_mk KX G hmg (PySem.W.km_tabs_of Y _ (List.Mem.head _)) ?d0 ?d1 ?d2 ?d3 ?d4 ?d5 ?d6 ?d7 ?d8 ?d9 ?d11 ?d37 ?d38 ?d39 ?d40 ?d19 ?d20 ?d21 ?d22 ?d23 ?d24 ?d25 ?d26 ?d27 ?d41 ?d42 ?bi ?k0 ?k1 ?k2 ?e2 ?e3 ?e6 ?e8 ?n0 ?n1 ?n2 ?n3 ?n4 ?n5 ?n6 ?n7 ?n8 ?n9 ?x2 ?x3 ?x6 ?x8 ?p2_0 ?p2_1 ?p2_2 ?p2_3 ?p2_4 ?p2_5 ?p2_6 ?p2_7 ?p2_8 ?p2_9 ?p3_0 ?p3_1 ?p3_2 ?p3_3 ?p3_4 ?p3_5 ?p3_6 ?p3_7 ?p3_8 ?p3_9 ?p6_0 ?p6_1 ?p6_2 ?p6_3 ?p6_4 ?p6_5 ?p6_6 ?p6_7 ?p6_8 ?p6_9 ?p8_0 ?p8_1 ?p8_2 ?p8_3 ?p8_4 ?p8_5 ?p8_6 ?p8_7 ?p8_8 ?p8_9 ?dl ?nT ?hC
    (case d0 => (refine' Ev.DefIn.mk ?a ?l ?c ?k; (case a => k_is); (case l => k_is); (case c => k_is); (case k => k_is)))
    (case d1 => (refine' Ev.DefIn.mk ?a ?l ?c ?k; (case a => k_is); (case l => k_is); (case c => k_is); (case k => k_is)))
    (case d2 => (refine' Ev.DefIn.mk ?a ?l ?c ?k; (case a => k_is); (case l => k_is); (case c => k_is); (case k => k_is)))
    (case d3 => (refine' Ev.DefIn.mk ?a ?l ?c ?k; (case a => k_is); (case l => k_is); (case c => k_is); (case k => k_is)))
    (case d4 => (refine' Ev.DefIn.mk ?a ?l ?c ?k; (case a => k_is); (case l => k_is); (case c => k_is); (case k => k_is)))
    (case d5 => (refine' Ev.DefIn.mk ?a ?l ?c ?k; (case a => k_is); (case l => k_is); (case c => k_is); (case k => k_is)))
    (case d6 => (refine' Ev.DefIn.mk ?a ?l ?c ?k; (case a => k_is); (case l => k_is); (case c => k_is); (case k => k_is)))
    (case d7 => (refine' Ev.DefIn.mk ?a ?l ?c ?k; (case a => k_is); (case l => k_is); (case c => k_is); (case k => k_is)))
    (case d8 => (refine' Ev.DefIn.mk ?a ?l ?c ?k; (case a => k_is); (case l => k_is); (case c => k_is); (case k => k_is)))
    (case d9 => (refine' Ev.DefIn.mk ?a ?l ?c ?k; (case a => k_is); (case l => k_is); (case c => k_is); (case k => k_is)))
    (case d11 => (refine' Ev.DefIn.mk ?a ?l ?c ?k; (case a => k_is); (case l => k_is); (case c => k_is); (case k => k_is)))
    (case d37 => (refine' Ev.DefIn.mk ?a ?l ?c ?k; (case a => k_is); (case l => k_is); (case c => k_is); (case k => k_is)))
    (case d38 => (refine' Ev.DefIn.mk ?a ?l ?c ?k; (case a => k_is); (case l => k_is); (case c => k_is); (case k => k_is)))
    (case d39 => (refine' Ev.DefIn.mk ?a ?l ?c ?k; (case a => k_is); (case l => k_is); (case c => k_is); (case k => k_is)))
    (case d40 => (refine' Ev.DefIn.mk ?a ?l ?c ?k; (case a => k_is); (case l => k_is); (case c => k_is); (case k => k_is)))
    (case d19 => (refine' Ev.DefIn.mk ?a ?l ?c ?k; (case a => k_is); (case l => k_is); (case c => k_is); (case k => k_is)))
    (case d20 => (refine' Ev.DefIn.mk ?a ?l ?c ?k; (case a => k_is); (case l => k_is); (case c => k_is); (case k => k_is)))
    (case d21 => (refine' Ev.DefIn.mk ?a ?l ?c ?k; (case a => k_is); (case l => k_is); (case c => k_is); (case k => k_is)))
    (case d22 => (refine' Ev.DefIn.mk ?a ?l ?c ?k; (case a => k_is); (case l => k_is); (case c => k_is); (case k => k_is)))
    (case d23 => (refine' Ev.DefIn.mk ?a ?l ?c ?k; (case a => k_is); (case l => k_is); (case c => k_is); (case k => k_is)))
    (case d24 => (refine' Ev.DefIn.mk ?a ?l ?c ?k; (case a => k_is); (case l => k_is); (case c => k_is); (case k => k_is)))
    (case d25 => (refine' Ev.DefIn.mk ?a ?l ?c ?k; (case a => k_is); (case l => k_is); (case c => k_is); (case k => k_is)))
    (case d26 => (refine' Ev.DefIn.mk ?a ?l ?c ?k; (case a => k_is); (case l => k_is); (case c => k_is); (case k => k_is)))
    (case d27 => (refine' Ev.DefIn.mk ?a ?l ?c ?k; (case a => k_is); (case l => k_is); (case c => k_is); (case k => k_is)))
    (case d41 => (refine' Ev.DefIn.mk ?a ?l ?c ?k; (case a => k_is); (case l => k_is); (case c => k_is); (case k => k_is)))
    (case d42 => (refine' Ev.DefIn.mk ?a ?l ?c ?k; (case a => k_is); (case l => k_is); (case c => k_is); (case k => k_is)))
    (case bi => (refine' ⟨?_, ?_, ?_, ?_, ?_, ?_, ?_, ?_, ?_, ?_, ?_, ?_, ?_, ?_, ?_, ?_, ?_, ?_⟩ <;> k_is))
    (case k0 => (refine' Ev.IntIn.mk ?a; (case a => k_is)))
    (case k1 => (refine' Ev.IntIn.mk ?a; (case a => k_is)))
    (case k2 => (refine' Ev.IntIn.mk ?a; (case a => k_is)))
    (case e2 => (refine' ⟨?a, ?b, ?c, ?d, ?e⟩; (case a => k_is); (case b => k_exc); (case c => k_is); (case d => k_is); (case e => k_is)))
    (case e3 => (refine' ⟨?a, ?b, ?c, ?d, ?e⟩; (case a => k_is); (case b => k_exc); (case c => k_is); (case d => k_is); (case e => k_is)))
    (case e6 => (refine' ⟨?a, ?b, ?c, ?d, ?e⟩; (case a => k_is); (case b => k_exc); (case c => k_is); (case d => k_is); (case e => k_is)))
    (case e8 => (refine' ⟨?a, ?b, ?c, ?d, ?e⟩; (case a => k_is); (case b => k_exc); (case c => k_is); (case d => k_is); (case e => k_is)))
    (case n0 => k_is)
    (case n1 => k_is)
    (case n2 => k_is)
    (case n3 => k_is)
    (case n4 => k_is)
    (case n5 => k_is)
    (case n6 => k_is)
    (case n7 => k_is)
    (case n8 => k_is)
    (case n9 => k_is)
    (case x2 => (refine' ⟨?_, ?_, ?_, ?_, ?_, ?_, ?_, ?_⟩ <;> k_is))
    (case x3 => (refine' ⟨?_, ?_, ?_, ?_, ?_, ?_, ?_, ?_⟩ <;> k_is))
    (case x6 => (refine' ⟨?_, ?_, ?_, ?_, ?_, ?_, ?_, ?_⟩ <;> k_is))
    (case x8 => (refine' ⟨?_, ?_, ?_, ?_, ?_, ?_, ?_, ?_⟩ <;> k_is))
    (case p2_0 => (refine' ⟨?a, ?b⟩; (case a => kit_is); (case b => kts_exm)))
    (case p2_1 => (refine' ⟨?a, ?b⟩; (case a => kit_is); (case b => kts_exm)))
    (case p2_2 => (refine' ⟨?a, ?b⟩; (case a => kit_is); (case b => kts_exm)))
    (case p2_3 => (refine' ⟨?a, ?b⟩; (case a => kit_is); (case b => kts_exm)))
    (case p2_4 => (refine' ⟨?a, ?b⟩; (case a => kit_is); (case b => kts_exm)))
    (case p2_5 => (refine' ⟨?a, ?b⟩; (case a => kit_is); (case b => kts_exm)))
    (case p2_6 => (refine' ⟨?a, ?b⟩; (case a => kit_is); (case b => kts_exm)))
    (case p2_7 => (refine' ⟨?a, ?b⟩; (case a => kit_is); (case b => kts_exm)))
    (case p2_8 => (refine' ⟨?a, ?b⟩; (case a => kit_is); (case b => kts_exm)))
    (case p2_9 => (refine' ⟨?a, ?b⟩; (case a => kit_is); (case b => kts_exm)))
    (case p3_0 => (refine' ⟨?a, ?b⟩; (case a => kit_is); (case b => kts_exm)))
    (case p3_1 => (refine' ⟨?a, ?b⟩; (case a => kit_is); (case b => kts_exm)))
    (case p3_2 => (refine' ⟨?a, ?b⟩; (case a => kit_is); (case b => kts_exm)))
    (case p3_3 => (refine' ⟨?a, ?b⟩; (case a => kit_is); (case b => kts_exm)))
    (case p3_4 => (refine' ⟨?a, ?b⟩; (case a => kit_is); (case b => kts_exm)))
    (case p3_5 => (refine' ⟨?a, ?b⟩; (case a => kit_is); (case b => kts_exm)))
    (case p3_6 => (refine' ⟨?a, ?b⟩; (case a => kit_is); (case b => kts_exm)))
    (case p3_7 => (refine' ⟨?a, ?b⟩; (case a => kit_is); (case b => kts_exm)))
    (case p3_8 => (refine' ⟨?a, ?b⟩; (case a => kit_is); (case b => kts_exm)))
    (case p3_9 => (refine' ⟨?a, ?b⟩; (case a => kit_is); (case b => kts_exm)))
    (case p6_0 => (refine' ⟨?a, ?b⟩; (case a => kit_is); (case b => kts_exm)))
    (case p6_1 => (refine' ⟨?a, ?b⟩; (case a => kit_is); (case b => kts_exm)))
    (case p6_2 => (refine' ⟨?a, ?b⟩; (case a => kit_is); (case b => kts_exm)))
    (case p6_3 => (refine' ⟨?a, ?b⟩; (case a => kit_is); (case b => kts_exm)))
    (case p6_4 => (refine' ⟨?a, ?b⟩; (case a => kit_is); (case b => kts_exm)))
    (case p6_5 => (refine' ⟨?a, ?b⟩; (case a => kit_is); (case b => kts_exm)))
    (case p6_6 => (refine' ⟨?a, ?b⟩; (case a => kit_is); (case b => kts_exm)))
    (case p6_7 => (refine' ⟨?a, ?b⟩; (case a => kit_is); (case b => kts_exm)))
    (case p6_8 => (refine' ⟨?a, ?b⟩; (case a => kit_is); (case b => kts_exm)))
    (case p6_9 => (refine' ⟨?a, ?b⟩; (case a => kit_is); (case b => kts_exm)))
    (case p8_0 => (refine' ⟨?a, ?b⟩; (case a => kit_is); (case b => kts_exm)))
    (case p8_1 => (refine' ⟨?a, ?b⟩; (case a => kit_is); (case b => kts_exm)))
    (case p8_2 => (refine' ⟨?a, ?b⟩; (case a => kit_is); (case b => kts_exm)))
    (case p8_3 => (refine' ⟨?a, ?b⟩; (case a => kit_is); (case b => kts_exm)))
    (case p8_4 => (refine' ⟨?a, ?b⟩; (case a => kit_is); (case b => kts_exm)))
    (case p8_5 => (refine' ⟨?a, ?b⟩; (case a => kit_is); (case b => kts_exm)))
    (case p8_6 => (refine' ⟨?a, ?b⟩; (case a => kit_is); (case b => kts_exm)))
    (case p8_7 => (refine' ⟨?a, ?b⟩; (case a => kit_is); (case b => kts_exm)))
    (case p8_8 => (refine' ⟨?a, ?b⟩; (case a => kit_is); (case b => kts_exm)))
    (case p8_9 => (refine' ⟨?a, ?b⟩; (case a => kit_is); (case b => kts_exm)))
    (case dl => (refine' Ev.LawIn.mk ?a ?l ?c; (case a => k_is); (case l => k_is); (case c => k_is)))
    (case nT => kernel_rfl)
    (case hC => kernel_rfl)
