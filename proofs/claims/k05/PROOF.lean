import PyProof.Rows.All
import Wide.All
import OpenK.AllK
import Wide.FinOn
import HandS.ForMost
import HandS.Deep
import HandS.TupAny
import KE.DataEq
import KE.DataCmp
import KE.DataMinMax
import KE.SortData
import KE.KDictPairs
import KE.KDictKeyed
import HandS.IsInst
import HandS.Style
import PyProof.ReprRoads
import PyProof.CallFns
import HandS.SetFor
import HandS.Strs
import HandS.Zip
import HandS.Walk
import HandS.Conv
import KE.KStateDown
import HandS.Ends
import HandS.Defaults
import HandS.Head0
import HandS.Head1
import HandS.Head2
import HandS.HeadEnd
import HandS.HeadHook1
import HandS.HeadHook2
import PySem.Challenge.RW_stillsaid_k05_whole_prices_of_claims
section
set_option Elab.async false
set_option linter.all false
set_option maxRecDepth 100000
/-! TM: a small total machine for the programs' Python: trees of data, a store of mutable lists, slots for names. Here: syntax and evaluator. -/
namespace TM
open PySem (PyData Str)

/-- a value: data, or a mutable list of the store -/
inductive MV where
  | d (x : PyData) | ref (l : Nat)

abbrev Env := List (Option MV)
abbrev Store := List (List MV)
abbrev Rs := Option (MV × Store)
abbrev LINE : Nat := PySem.sizeLine

mutual
def beqD : PyData → PyData → Bool
  | .none, .none => true
  | .bool a, .bool b => decide (a = b)
  | .int a, .int b => decide (a = b)
  | .str a, .str b => decide (a = b)
  | .list a, .list b => beqDs a b
  | .tuple a, .tuple b => beqDs a b
  | .dict a, .dict b => beqKv a b
  | _, _ => false
def beqDs : List PyData → List PyData → Bool
  | [], [] => true
  | x :: xs, y :: ys => beqD x y && beqDs xs ys
  | _, _ => false
def beqKv : List (PyData × PyData) → List (PyData × PyData) → Bool
  | [], [] => true
  | (k, v) :: xs, (l, u) :: ys => beqD k l && beqD v u && beqKv xs ys
  | _, _ => false
end
def beqV : MV → MV → Bool
  | .d x, .d y => beqD x y
  | .ref a, .ref b => decide (a = b)
  | _, _ => false
def beqVs : List MV → List MV → Bool
  | [], [] => true
  | x :: xs, y :: ys => beqV x y && beqVs xs ys
  | _, _ => false
mutual
theorem beqD_eq : ∀ {x y : PyData}, beqD x y = true → x = y
  | .none, .none, _ => rfl
  | .bool a, .bool b, h => by simp [beqD] at h; rw [h]
  | .int a, .int b, h => by simp [beqD] at h; rw [h]
  | .str a, .str b, h => by simp [beqD] at h; rw [h]
  | .list a, .list b, h => by simp only [beqD] at h; rw [beqDs_eq h]
  | .tuple a, .tuple b, h => by simp only [beqD] at h; rw [beqDs_eq h]
  | .dict a, .dict b, h => by simp only [beqD] at h; rw [beqKv_eq h]
  | .none, .bool _, h | .none, .int _, h | .none, .str _, h | .none, .list _, h | .none, .tuple _, h | .none, .dict _, h => by simp [beqD] at h
  | .bool _, .none, h | .bool _, .int _, h | .bool _, .str _, h | .bool _, .list _, h | .bool _, .tuple _, h | .bool _, .dict _, h => by simp [beqD] at h
  | .int _, .none, h | .int _, .bool _, h | .int _, .str _, h | .int _, .list _, h | .int _, .tuple _, h | .int _, .dict _, h => by simp [beqD] at h
  | .str _, .none, h | .str _, .bool _, h | .str _, .int _, h | .str _, .list _, h | .str _, .tuple _, h | .str _, .dict _, h => by simp [beqD] at h
  | .list _, .none, h | .list _, .bool _, h | .list _, .int _, h | .list _, .str _, h | .list _, .tuple _, h | .list _, .dict _, h => by simp [beqD] at h
  | .tuple _, .none, h | .tuple _, .bool _, h | .tuple _, .int _, h | .tuple _, .str _, h | .tuple _, .list _, h | .tuple _, .dict _, h => by simp [beqD] at h
  | .dict _, .none, h | .dict _, .bool _, h | .dict _, .int _, h | .dict _, .str _, h | .dict _, .list _, h | .dict _, .tuple _, h => by simp [beqD] at h
theorem beqDs_eq : ∀ {x y : List PyData}, beqDs x y = true → x = y
  | [], [], _ => rfl
  | x :: xs, y :: ys, h => by
    simp only [beqDs, Bool.and_eq_true] at h
    rw [beqD_eq h.1, beqDs_eq h.2]
  | [], _ :: _, h | _ :: _, [], h => by simp [beqDs] at h
theorem beqKv_eq : ∀ {x y : List (PyData × PyData)}, beqKv x y = true → x = y
  | [], [], _ => rfl
  | (k, v) :: xs, (l, u) :: ys, h => by
    simp only [beqKv, Bool.and_eq_true] at h
    rw [beqD_eq h.1.1, beqD_eq h.1.2, beqKv_eq h.2]
  | [], _ :: _, h | _ :: _, [], h => by simp [beqKv] at h
end
theorem beqV_eq : ∀ {x y : MV}, beqV x y = true → x = y
  | .d x, .d y, h => by rw [beqD_eq (show beqD x y = true from h)]
  | .ref a, .ref b, h => by simp [beqV] at h; rw [h]
  | .d _, .ref _, h | .ref _, .d _, h => by simp [beqV] at h
theorem beqVs_eq : ∀ {x y : List MV}, beqVs x y = true → x = y
  | [], [], _ => rfl
  | x :: xs, y :: ys, h => by
    simp only [beqVs, Bool.and_eq_true] at h
    rw [beqV_eq h.1, beqVs_eq h.2]
  | [], _ :: _, h | _ :: _, [], h => by simp [beqVs] at h
mutual
theorem beqD_refl : ∀ x : PyData, beqD x x = true
  | .none => rfl
  | .bool _ | .int _ | .str _ => by simp [beqD]
  | .list a | .tuple a => by simp only [beqD]; exact beqDs_refl a
  | .dict a => by simp only [beqD]; exact beqKv_refl a
theorem beqDs_refl : ∀ x : List PyData, beqDs x x = true
  | [] => rfl
  | x :: xs => by simp only [beqDs, beqD_refl x, beqDs_refl xs, Bool.and_self]
theorem beqKv_refl : ∀ x : List (PyData × PyData), beqKv x x = true
  | [] => rfl
  | (k, v) :: xs => by simp only [beqKv, beqD_refl k, beqD_refl v, beqKv_refl xs, Bool.and_self]
end
theorem beqV_refl : ∀ x : MV, beqV x x = true
  | .d x => beqD_refl x
  | .ref a => by simp [beqV]
theorem beqVs_refl : ∀ x : List MV, beqVs x x = true
  | [] => rfl
  | x :: xs => by simp only [beqVs, beqV_refl x, beqVs_refl xs, Bool.and_self]

/-! ### reading -/
def pures : List MV → Option (List PyData)
  | [] => some []
  | .d x :: vs => (pures vs).map (x :: ·)
  | .ref _ :: _ => none
def rd1 (S : Store) : MV → Option PyData
  | .d x => some x
  | .ref l => match S[l]? with
    | some c => (pures c).map .list
    | none => none
def rds1 (S : Store) : List MV → Option (List PyData)
  | [] => some []
  | v :: vs => match rd1 S v, rds1 S vs with
    | some x, some xs => some (x :: xs)
    | _, _ => none
/-- a value as data: at most lists of lists -/
def rd (S : Store) : MV → Option PyData
  | .d x => some x
  | .ref l => match S[l]? with
    | some c => (rds1 S c).map .list
    | none => none
/-- the items of a list or tuple -/
def itemsOf (S : Store) : MV → Option (List MV)
  | .d (.list xs) => some (xs.map .d)
  | .d (.tuple xs) => some (xs.map .d)
  | .ref l => S[l]?
  | _ => none
/-- the items of a list -/
def listOf (S : Store) : MV → Option (List MV)
  | .d (.list xs) => some (xs.map .d)
  | .ref l => S[l]?
  | _ => none
def isTup : MV → Bool
  | .d (.tuple _) => true
  | _ => false
/-- the law's script: a list that nobody changes, told as data of its own -/
def scrD (ns : List Int) : PyData := .dict [(.none, .list (ns.map .int))]
def isScr : PyData → Bool
  | .dict [(.none, .list _)] => true
  | _ => false
mutual
/-- no list, no dict within -/
def noL : PyData → Bool
  | .none | .bool _ | .int _ | .str _ => true
  | .list _ => false
  | .dict kvs => isScr (.dict kvs)
  | .tuple xs => noLs xs
def noLs : List PyData → Bool
  | [] => true
  | x :: xs => noL x && noLs xs
end

/-- a new list: a cell of the store, or data -/
def mkL (r : Bool) (vs : List MV) (S : Store) : Rs :=
  if vs.length ≤ LINE then
    if r then some (.ref S.length, S ++ [vs]) else (pures vs).map fun xs => (.d (.list xs), S)
  else none

/-! ### operators -/
inductive Op where | add | sub | mul | fdiv | mod | pow | shl
inductive Cp where | eq | ne | lt | le | gt | ge | isS | isN | inS | niS
  deriving DecidableEq

def op2 (r : Bool) (o : Op) (x y : MV) (S : Store) : Rs :=
  match o with
  | .add => match x, y with
    | .d (.int i), .d (.int j) => some (.d (.int (i + j)), S)
    | .d (.str a), .d (.str b) => if a.length + b.length ≤ LINE then some (.d (.str (a ++ b)), S) else none
    | .d (.tuple xs), .d (.tuple ys) => if xs.length + ys.length ≤ LINE then some (.d (.tuple (xs ++ ys)), S) else none
    | x, y => match listOf S x, listOf S y with
      | some xs, some ys => mkL r (xs ++ ys) S
      | _, _ => none
  | .sub => match x, y with
    | .d (.int i), .d (.int j) => some (.d (.int (i - j)), S)
    | _, _ => none
  | .mul => match x, y with
    | .d (.int i), .d (.int j) => if (decide (-(2 ^ 64) < i) && decide (i < 2 ^ 64)) || (decide (-(2 ^ 64) < j) && decide (j < 2 ^ 64)) then some (.d (.int (i * j)), S) else none
    | x, .d (.int k) => match listOf S x with
      | some xs => if decide (-(2 ^ 63) ≤ k) && decide (k < 2 ^ 63) && decide (xs.length * k.toNat ≤ LINE) then mkL r (List.replicate k.toNat xs).flatten S else none
      | none => none
    | _, _ => none
  | .fdiv => match x, y with
    | .d (.int i), .d (.int j) => if decide (0 < j) && decide (j < 1073741824) then some (.d (.int (i / j)), S) else none
    | _, _ => none
  | .mod => match x, y with
    | .d (.int i), .d (.int j) => if decide (0 < j) then some (.d (.int (i % j)), S) else none
    | _, _ => none
  | .pow => match x, y with
    | .d (.int i), .d (.int j) => if decide (0 ≤ j) && decide (j ≤ 1000000) && decide (i.natAbs < 2 ^ 64) then some (.d (.int (i ^ j.toNat)), S) else none
    | _, _ => none
  | .shl => match x, y with
    | .d (.int i), .d (.int j) => if decide (0 ≤ j) && decide (j ≤ 1000000) && decide (i.natAbs < 2 ^ 64) then some (.d (.int (i * 2 ^ j.toNat)), S) else none
    | _, _ => none

/-- a < b of data; a and b alike -/
def ltD (x y : PyData) : Option Bool := if PySem.W.alike x y && !(beqD x .none) && decide (x.depth ≤ 64) && (x.plain && y.plain) then some (PySem.W.dataLt x y) else none
def eqD (x y : PyData) : Option Bool := if x.plain && y.plain && decide (x.depth ≤ 64) then some (PyData.eqv x y) else none
def hasKey (k : PyData) : List (PyData × PyData) → Bool
  | [] => false
  | (a, _) :: r => beqD a k || hasKey k r
/-- a dict's key: a tuple of ints -/
def isIntD : PyData → Bool
  | .int _ => true
  | _ => false
def isKeyI : PyData → Bool
  | .tuple xs => xs.all isIntD
  | _ => false
/-- x in c -/
def inD (S : Store) (x c : MV) : Option Bool :=
  match rd S x with
  | none => none
  | some a => match c with
    | .d (.dict kvs) => if isKeyI a && kvs.all (fun p => isKeyI p.1) then some (hasKey a kvs) else none
    | .d (.str z) => match a with
      | .str y => some (!(PySem.Builtin.Str.occurrences z y 0 z.length 1).isEmpty)
      | _ => none
    | c => match rd S c with
      | some (.list ys) => if PyData.plainAll ys && a.plain && decide (a.depth ≤ 64) then some (ys.any fun z => PyData.eqv z a) else none
      | some (.tuple ys) => if PyData.plainAll ys && a.plain && decide (a.depth ≤ 64) then some (ys.any fun z => PyData.eqv z a) else none
      | _ => none
def cmpM (o : Cp) (x y : MV) (S : Store) : Option Bool :=
  match o with
  | .isS => match y with
    | .d .none => some (match x with | .d .none => true | _ => false)
    | .d (.bool b) => match x with | .d (.bool a) => some (decide (a = b)) | _ => none
    | _ => none
  | .isN => match y with
    | .d .none => some (match x with | .d .none => false | _ => true)
    | .d (.bool b) => match x with | .d (.bool a) => some (!decide (a = b)) | _ => none
    | _ => none
  | .inS => inD S x y
  | .niS => (inD S x y).map (!·)
  | o => match rd S x, rd S y with
    | some a, some b => match o with
      | .eq => eqD a b
      | .ne => (eqD a b).map (!·)
      | .lt => ltD a b
      | .gt => ltD b a
      | .le => (ltD b a).map (!·)
      | .ge => (ltD a b).map (!·)
      | _ => none
    | _, _ => none

/-- truth -/
def truth (S : Store) : MV → Option Bool
  | .d .none => some false
  | .d (.bool b) => some b
  | .d (.int i) => some (i != 0)
  | .d (.str x) => if x.length ≤ LINE then some (x.length != 0) else none
  | .d (.list xs) => some !xs.isEmpty
  | .d (.tuple xs) => some !xs.isEmpty
  | .d (.dict _) => none
  | .ref l => (S[l]?).map (!·.isEmpty)

/-! ### subscripts -/
def cut {α : Type} (xs : List α) (lo hi : Option Int) : List α := (xs.drop (HT.sIx xs.length 0 lo)).take (HT.sIx xs.length xs.length hi - HT.sIx xs.length 0 lo)
def look (k : PyData) : List (PyData × PyData) → Option PyData
  | [] => none
  | (a, v) :: r => if beqD a k then some v else look k r
def ixM (x i : MV) (S : Store) : Option MV :=
  match x, i with
  | .d (.str z), .d (.int k) => if z.length ≤ LINE then (L2.atI z.cps.toList k).map fun c => .d (.str ⟨#[c]⟩) else none
  | .d (.dict [(.none, .list xs)]), .d (.int k) => L2.atI (xs.map .d) k
  | .d (.dict _), _ => none
  | x, .d (.int k) => match itemsOf S x with
    | some vs => L2.atI vs k
    | none => none
  | _, _ => none
def slM (r : Bool) (x : MV) (lo hi : Option Int) (S : Store) : Rs :=
  match x with
  | .d (.tuple xs) => some (.d (.tuple (cut xs lo hi)), S)
  | .d (.str _) => none
  | x => match listOf S x with
    | some vs => mkL r (cut vs lo hi) S
    | none => none

/-! ### built-ins -/
inductive Ty where | int | bool | str | tuple | list | dict
  deriving DecidableEq
def isTy : Ty → PyData → Bool
  | .int, .int _ => true
  | .int, .bool _ => true
  | .bool, .bool _ => true
  | .str, .str _ => true
  | .tuple, .tuple _ => true
  | .list, .list _ => true
  | .dict, .dict _ => true
  | _, _ => false
def isDict : PyData → Bool
  | .dict _ => true
  | _ => false
def isScrM : MV → Bool
  | .d x => isDict x
  | .ref _ => false
def isTyM (ts : List Ty) : MV → Bool
  | .d x => ts.any fun t => isTy t x
  | .ref _ => ts.any fun t => isTy t (.list [])
def boolsM : List MV → Option (List Bool)
  | [] => some []
  | .d (.bool b) :: vs => (boolsM vs).map (b :: ·)
  | _ :: _ => none
def intsM : List MV → Option (List Int)
  | [] => some []
  | .d (.int i) :: vs => (intsM vs).map (i :: ·)
  | _ :: _ => none
def allAlike (xs : List PyData) : Bool := xs.all fun x => xs.all fun y => PySem.W.alike x y
def sortD (xs : List PyData) : List PyData := xs.mergeSort (PySem.W.dataLe false id)
/-- the first ones of equal intsM -/
def nubI : List Int → List Int
  | [] => []
  | x :: xs => x :: (nubI xs).filter (· != x)
def ups (lo : Int) : Nat → List Int
  | 0 => []
  | n + 1 => lo :: ups (lo + 1) n
inductive Bi where
  | len | tuple | list | sorted | sortedSet | lenSet | all | any | sum | max1 | min1 | abs | max2 | min2 | divmod | int | repr | str
  | isi (ts : List Ty)
  | listRange | tupRange | dictT
  deriving DecidableEq
def rangeOf : List MV → Option (Int × Int)
  | [.d (.int n)] => some (0, n)
  | [.d (.int a), .d (.int b)] => some (a, b)
  | _ => none
def rngI (a b : Int) : Option (List Int) := if decide (-(2 ^ 62) ≤ a) && decide (a < 2 ^ 62) && decide (-(2 ^ 62) ≤ b) && decide (b < 2 ^ 62) && decide ((b - a).toNat ≤ LINE) then some (ups a (b - a).toNat) else none
def biLen (vs : List MV) (S : Store) : Rs := match vs with
  | [.d (.str x)] => if x.length ≤ LINE then some (.d (.int x.length), S) else none
  | [.d (.dict [(.none, .list xs)])] => some (.d (.int xs.length), S)
  | [v] => (itemsOf S v).map fun xs => (.d (.int xs.length), S)
  | _ => none
def biTuple (vs : List MV) (S : Store) : Rs := match vs with
  | [v] => match itemsOf S v with
    | some xs => (pures xs).map fun ys => (.d (.tuple ys), S)
    | none => none
  | _ => none
def biList (r : Bool) (vs : List MV) (S : Store) : Rs := match vs with
  | [v] => match itemsOf S v with
    | some xs => mkL r xs S
    | none => none
  | _ => none
/-- a key that sorts: no None, not too deep -/
def sortable (y : PyData) : Bool := !(beqD y .none) && decide (y.depth ≤ 64) && y.plain
def biSorted (r : Bool) (vs : List MV) (S : Store) : Rs := match vs with
  | [v] => match listOf S v with
    | some xs => match pures xs with
      | some ys => if allAlike ys && ys.all sortable then mkL r ((sortD ys).map .d) S else none
      | none => none
    | none => none
  | _ => none
def biSortedSet (r : Bool) (vs : List MV) (S : Store) : Rs := match vs with
  | [v] => match itemsOf S v with
    | some xs => match intsM xs with
      | some ns => if ns.length < 4000 && (nubI ns).length < 64 then mkL r (((nubI ns).mergeSort (fun a b => decide (a ≤ b))).map fun n => .d (.int n)) S else none
      | none => none
    | none => none
  | _ => none
def biAll (vs : List MV) (S : Store) : Rs := match vs with
  | [v] => match listOf S v with
    | some xs => (boolsM xs).map fun bs => (.d (.bool (bs.all id)), S)
    | none => none
  | _ => none
def biAny (vs : List MV) (S : Store) : Rs := match vs with
  | [v] => match listOf S v with
    | some xs => (boolsM xs).map fun bs => (.d (.bool (bs.any id)), S)
    | none => none
  | _ => none
def biSum (vs : List MV) (S : Store) : Rs := match vs with
  | [v] => match listOf S v with
    | some xs => (intsM xs).map fun ns => (.d (.int ns.sum), S)
    | none => none
  | _ => none
def biAbs (vs : List MV) (S : Store) : Rs := match vs with
  | [.d (.int i)] => some (.d (.int (if i < 0 then -i else i)), S)
  | _ => none
def biMax2 (vs : List MV) (S : Store) : Rs := match vs with
  | [.d (.int i), .d (.int j)] => some (.d (.int (if j > i then j else i)), S)
  | _ => none
/-- min(xs), max(xs) of alike data -/
def biMin1 (vs : List MV) (S : Store) : Rs := match vs with
  | [v] => match listOf S v with
    | some xs => match pures xs with
      | some (y :: ys) => if allAlike (y :: ys) && (y :: ys).all sortable then some (.d (PySem.W.minD y ys), S) else none
      | _ => none
    | none => none
  | _ => none
def biMin2 (vs : List MV) (S : Store) : Rs := match vs with
  | [.d (.int i), .d (.int j)] => some (.d (.int (if j < i then j else i)), S)
  | _ => none
def biDivmod (vs : List MV) (S : Store) : Rs := match vs with
  | [.d (.int i), .d (.int j)] => if decide (0 < j) && decide (j < 1073741824) then some (.d (.tuple [.int (i / j), .int (i % j)]), S) else none
  | _ => none
def biInt (vs : List MV) (S : Store) : Rs := match vs with
  | [.d (.int i)] => some (.d (.int i), S)
  | [.d (.bool k)] => some (.d (.int (if k then 1 else 0)), S)
  | _ => none
def biRepr (vs : List MV) (S : Store) : Rs := match vs with
  | [v] => match rd S v with
    | some x => if x.showable && x.plain && decide (x.depth ≤ 64) && decide (x.shown.length ≤ LINE) then some (.d (.str x.shown), S) else none
    | none => none
  | _ => none
def biIsi (ts : List Ty) (vs : List MV) (S : Store) : Rs := match vs with
  | [v] => if isScrM v then none else some (.d (.bool (isTyM ts v)), S)
  | _ => none
def biListRange (r : Bool) (vs : List MV) (S : Store) : Rs := match rangeOf vs with
  | some (a, b) => match rngI a b with
    | some ns => mkL r (ns.map fun n => .d (.int n)) S
    | none => none
  | none => none
def biTupRange (vs : List MV) (S : Store) : Rs := match rangeOf vs with
  | some (a, b) => (rngI a b).map fun ns => (.d (.tuple (ns.map .int)), S)
  | none => none
/-- pairs of a key, a tuple of ints, and a truth -/
def keyPairs : List PyData → Option (List (PyData × PyData))
  | [] => some []
  | .tuple [k, .bool b] :: r => if isKeyI k then (keyPairs r).map ((k, .bool b) :: ·) else none
  | _ :: _ => none
def nodupK : List (PyData × PyData) → Bool
  | [] => true
  | (k, _) :: r => !hasKey k r && nodupK r
def biDictT (vs : List MV) (S : Store) : Rs := match vs with
  | [v] => match listOf S v with
    | some xs => match pures xs with
      | some ys => match keyPairs ys with
        | some kvs => if nodupK kvs && decide (ys.length ≤ 16777216) then some (.d (.dict kvs), S) else none
        | none => none
      | none => none
    | none => none
  | _ => none
def biM (b : Bi) (r : Bool) (vs : List MV) (S : Store) : Rs :=
  match b with
  | .len => biLen vs S
  | .tuple => biTuple vs S
  | .list => biList r vs S
  | .sorted => biSorted r vs S
  | .sortedSet => biSortedSet r vs S
  | .all => biAll vs S
  | .any => biAny vs S
  | .sum => biSum vs S
  | .abs => biAbs vs S
  | .max2 => biMax2 vs S
  | .min2 => biMin2 vs S
  | .min1 => biMin1 vs S
  | .divmod => biDivmod vs S
  | .int => biInt vs S
  | .repr => biRepr vs S
  | .isi ts => biIsi ts vs S
  | .listRange => biListRange r vs S
  | .tupRange => biTupRange vs S
  | .dictT => biDictT vs S
  | _ => none

/-! ### methods -/
inductive Mt where | append | extend | pop | popAt | index
  deriving DecidableEq
def firstAt (a : PyData) : List PyData → Nat → Option Nat
  | [], _ => none
  | y :: ys, i => if PyData.eqv y a then some i else firstAt a ys (i + 1)
def mtAppend (o : MV) (vs : List MV) (S : Store) : Rs := match o, vs with
  | .ref l, [v] => match S[l]? with
    | some c => if c.length < LINE then some (.d .none, S.set l (c ++ [v])) else none
    | none => none
  | _, _ => none
def mtExtend (o : MV) (vs : List MV) (S : Store) : Rs := match o, vs with
  | .ref l, [v] => match S[l]?, listOf S v with
    | some c, some xs => if c.length + xs.length ≤ LINE then some (.d .none, S.set l (c ++ xs)) else none
    | _, _ => none
  | _, _ => none
def mtPop (o : MV) (vs : List MV) (S : Store) : Rs := match o, vs with
  | .ref l, [] => match S[l]? with
    | some c => match c[c.length - 1]? with
      | some v => some (v, S.set l c.dropLast)
      | none => none
    | none => none
  | _, _ => none
def mtPopAt (o : MV) (vs : List MV) (S : Store) : Rs := match o, vs with
  | .ref l, [.d (.int i)] => match S[l]? with
    | some c => if c.length ≤ LINE then match L2.ixN c.length i with
      | some k => match c[k]? with
        | some v => some (v, S.set l (c.eraseIdx k))
        | none => none
      | none => none else none
    | none => none
  | _, _ => none
def mtIndex (o : MV) (vs : List MV) (S : Store) : Rs := match vs with
  | [v] => match rd S o, rd S v with
    | some (.list ys), some a => if PyData.plainAll ys && a.plain && decide (a.depth ≤ 64) then (firstAt a ys 0).map fun i => (.d (.int i), S) else none
    | some (.tuple ys), some a => if PyData.plainAll ys && a.plain && decide (a.depth ≤ 64) then (firstAt a ys 0).map fun i => (.d (.int i), S) else none
    | _, _ => none
  | _ => none
def metM (m : Mt) (r : Bool) (o : MV) (vs : List MV) (S : Store) : Rs :=
  match m with
  | .append => mtAppend o vs S
  | .extend => mtExtend o vs S
  | .pop => mtPop o vs S
  | .popAt => mtPopAt o vs S
  | .index => mtIndex o vs S

/-! ### calls -/
abbrev CallF := Nat → List (List PyData) → List PyData → Option (PyData × List (List PyData))
/-- the cells handed on to be changed -/
def ioCells (S : Store) : List MV → List Nat → Option (List Nat × List (List PyData))
  | [], _ => some ([], [])
  | .ref l :: vs, seen => if seen.contains l then none else
    match S[l]?, ioCells S vs (l :: seen) with
    | some c, some (ls, cs) => (pures c).map fun x => (l :: ls, x :: cs)
    | _, _ => none
  | .d _ :: _, _ => none
/-- what is handed on to be read -/
def rdArgs (S : Store) (ls : List Nat) : List MV → Option (List PyData)
  | [] => some []
  | .d x :: vs => (rdArgs S ls vs).map (x :: ·)
  | .ref l :: vs => if ls.contains l then none else
    match (if ls.isEmpty then rd S (.ref l) else rd1 S (.ref l)), rdArgs S ls vs with
    | some x, some xs => some (x :: xs)
    | _, _ => none
def allD : List MV → Bool
  | [] => true
  | .d _ :: vs => allD vs
  | .ref _ :: _ => false
def setCells (S : Store) : List Nat → List (List PyData) → Store
  | l :: ls, c :: cs => setCells (S.set l (c.map .d)) ls cs
  | _, _ => S
def isLst : PyData → Bool
  | .list _ => true
  | _ => false
def callM (C : CallF) (r : Bool) (f io : Nat) (vs : List MV) (S : Store) : Rs :=
  match ioCells S (vs.take io) [] with
  | none => none
  | some (ls, cs) => match rdArgs S ls (vs.drop io) with
    | none => none
    | some ds => match C f cs ds with
      | none => none
      | some (x, cs') =>
        if r && isLst x then match x with
          | .list xs => if ls.isEmpty && noLs ds && noLs xs && decide (xs.length ≤ LINE) then some (.ref S.length, S ++ [xs.map .d]) else none
          | _ => none
        else if allD (vs.drop io) || (noL x && cs'.all noLs) then some (.d x, setCells S ls cs') else none

/-! ### syntax -/
mutual
inductive Ex where
  | v (i : Nat)
  | c (x : PyData)
  | g (x : Str) (d : PyData)
  | tup (es : Exs)
  | lst (r : Bool) (es : Exs)
  | bin (r : Bool) (o : Op) (a b : Ex)
  | neg (a : Ex)
  | cmp (o : Cp) (a b : Ex)
  | chain (o p : Cp) (a b c : Ex)
  | and (a b : Ex)
  | or (a b : Ex)
  | not (a : Ex)
  | ife (t : Ts) (a b : Ex)
  | idx (a i : Ex)
  | sli (r : Bool) (a lo hi : Ex)
  | nil
  | rev (r : Bool) (a : Ex)
  | call (r : Bool) (f io np : Nat) (ks : List Str) (perm : List Nat) (es : Exs)
  | bi (b : Bi) (r : Bool) (es : Exs)
  | met (m : Mt) (r : Bool) (o : Ex) (es : Exs)
  | lc (r : Bool) (own : List Nat) (t : Tg) (it : It) (q : Ts) (e : Ex)
inductive Ts where
  | and (a b : Ts)
  | or (a b : Ts)
  | not (a : Ts)
  | cmp (o : Cp) (a b : Ex)
  | chain (o p : Cp) (a b c : Ex)
  | e (x : Ex)
  | tt
inductive Exs where
  | nil
  | cons (e : Ex) (es : Exs)
inductive It where
  | seq (e : Ex)
  | rng (es : Exs)
  | zip (a b : Ex)
  | enum (a : Ex)
inductive Tg where
  | nm (i : Nat)
  | sub (o i : Ex)
  | tp (ts : Tgs)
inductive Tgs where
  | nil
  | cons (t : Tg) (ts : Tgs)
end
mutual
inductive Sm where
  | set (t : Tg) (e : Ex)
  | par (is : List Nat) (es : Exs)
  | parT (ts : Tgs) (es : Exs)
  | ex (e : Ex)
  | ifs (t : Ts) (a b : Sms)
  | fr (t : Tg) (it : It) (b : Sms)
  | whl (n : Nat) (t : Ts) (b : Sms)
  | ret (e : Ex)
  | pass | brk | cont | never
inductive Sms where
  | nil
  | cons (s : Sm) (ss : Sms)
end

/-! ### the evaluator -/
def permV (vs : List MV) : List Nat → Option (List MV)
  | [] => some []
  | i :: is => match vs[i]?, permV vs is with
    | some v, some r => some (v :: r)
    | _, _ => none
abbrev Src := List (Nat × List MV)
def stab (S : Store) : Src → Bool
  | [] => true
  | (l, c) :: r => (match S[l]? with | some c' => beqVs c' c | none => false) && stab S r
/-- one item after another -/
def lcGo (src : Src) (f : MV → Store → Option (Option MV × Store)) : List MV → Store → Option (List MV × Store)
  | [], S => if stab S src then some ([], S) else none
  | v :: vs, S => if stab S src then (f v S).bind fun p => (lcGo src f vs p.2).bind fun q => some (p.1.toList ++ q.1, q.2) else none
inductive Fl where
  | nx (ρ : Env) (S : Store) | rt (v : MV) (S : Store) | bk (ρ : Env) (S : Store) | ct (ρ : Env) (S : Store)
def forGo (src : Src) (f : MV → Env → Store → Option Fl) : List MV → Env → Store → Option Fl
  | [], ρ, S => if stab S src then some (.nx ρ S) else none
  | v :: vs, ρ, S => if stab S src then (f v ρ S).bind fun r => match r with
      | .nx ρ' S' => forGo src f vs ρ' S'
      | .ct ρ' S' => forGo src f vs ρ' S'
      | .bk ρ' S' => some (.nx ρ' S')
      | .rt v S' => some (.rt v S')
    else none
def whGo (t : Env → Store → Option (Bool × Store)) (f : Env → Store → Option Fl) : Nat → Env → Store → Option Fl
  | 0, _, _ => none
  | n + 1, ρ, S => (t ρ S).bind fun p => if p.1 then (f ρ p.2).bind fun r => match r with
      | .nx ρ' S' => whGo t f n ρ' S'
      | .ct ρ' S' => whGo t f n ρ' S'
      | .bk ρ' S' => some (.nx ρ' S')
      | .rt v S' => some (.rt v S')
    else some (.nx ρ p.2)
def wipeE (ρ : Env) : List Nat → Env
  | [] => ρ
  | i :: is => (wipeE ρ is).set i none
def zipD : List MV → List MV → Option (List MV)
  | .d x :: xs, .d y :: ys => (zipD xs ys).map (.d (.tuple [x, y]) :: ·)
  | .ref _ :: _, _ :: _ => none
  | .d _ :: _, .ref _ :: _ => none
  | [], _ => some []
  | _ :: _, [] => some []
def enumD (i : Int) : List MV → Option (List MV)
  | [] => some []
  | .d x :: xs => (enumD (i + 1) xs).map (.d (.tuple [.int i, x]) :: ·)
  | .ref _ :: _ => none
def srcOf : MV → List MV → Src
  | .ref l, vs => [(l, vs)]
  | .d _, _ => []
def bothKind (x y : MV) : Bool := (isTup x && isTup y) || (!isTup x && !isTup y)
/-- as a part of a slice -/
def partOf : MV → Option (Option Int)
  | .d (.int i) => some (some i)
  | _ => none
def isNil : Ex → Bool
  | .nil => true
  | _ => false
def setIx (S : Store) (o i v : MV) : Option Store :=
  match o, i with
  | .ref l, .d (.int k) => match S[l]? with
    | some c => (L2.ixN c.length k).map fun j => S.set l (c.set j v)
    | none => none
  | _, _ => none
mutual
def evE (C : CallF) : Ex → Env → Store → Rs
  | .v i, ρ, S => match ρ[i]? with
    | some (some v) => some (v, S)
    | _ => none
  | .c x, _, S => some (.d x, S)
  | .g _ d, _, S => some (.d d, S)
  | .tup es, ρ, S => (evEs C es ρ S).bind fun p => if p.1.length ≤ LINE then (pures p.1).map fun xs => (.d (.tuple xs), p.2) else none
  | .lst r es, ρ, S => (evEs C es ρ S).bind fun p => mkL r p.1 p.2
  | .bin r o a b, ρ, S => (evE C a ρ S).bind fun p => (evE C b ρ p.2).bind fun q => op2 r o p.1 q.1 q.2
  | .neg a, ρ, S => (evE C a ρ S).bind fun p => match p.1 with
    | .d (.int i) => some (.d (.int (-i)), p.2)
    | _ => none
  | .cmp o a b, ρ, S => (evE C a ρ S).bind fun p => (evE C b ρ p.2).bind fun q => (cmpM o p.1 q.1 q.2).map fun k => (.d (.bool k), q.2)
  | .chain o o' a b c, ρ, S => (evE C a ρ S).bind fun p => (evE C b ρ p.2).bind fun q => (cmpM o p.1 q.1 q.2).bind fun k =>
      if k then (evE C c ρ q.2).bind fun t => (cmpM o' q.1 t.1 t.2).map fun k => (.d (.bool k), t.2) else some (.d (.bool false), q.2)
  | .and a b, ρ, S => (evE C a ρ S).bind fun p => match p.1 with
    | .d (.bool true) => evE C b ρ p.2
    | .d (.bool false) => some (.d (.bool false), p.2)
    | _ => none
  | .or a b, ρ, S => (evE C a ρ S).bind fun p => match p.1 with
    | .d (.bool true) => some (.d (.bool true), p.2)
    | .d (.bool false) => evE C b ρ p.2
    | _ => none
  | .not a, ρ, S => (evE C a ρ S).bind fun p => match p.1 with
    | .d (.bool k) => some (.d (.bool (!k)), p.2)
    | _ => none
  | .ife t a b, ρ, S => (evT C t ρ S).bind fun p => if p.1 then evE C a ρ p.2 else evE C b ρ p.2
  | .idx a i, ρ, S => (evE C a ρ S).bind fun p => (evE C i ρ p.2).bind fun q => (ixM p.1 q.1 q.2).map fun v => (v, q.2)
  | .sli r a lo hi, ρ, S => (evE C a ρ S).bind fun p =>
      (if isNil lo then some (Option.none, p.2) else (evE C lo ρ p.2).bind fun q => (partOf q.1).map fun i => (i, q.2)).bind fun q =>
      (if isNil hi then some (Option.none, q.2) else (evE C hi ρ q.2).bind fun t => (partOf t.1).map fun i => (i, t.2)).bind fun t => slM r p.1 q.1 t.1 t.2
  | .nil, _, S => some (.d .none, S)
  | .rev r a, ρ, S => (evE C a ρ S).bind fun p => match p.1 with
    | .d (.tuple _) => none
    | v => match listOf p.2 v with
      | some vs => mkL r vs.reverse p.2
      | none => none
  | .call r f io _ ks perm es, ρ, S => (evEs C es ρ S).bind fun p => (if ks.isEmpty then some p.1 else permV p.1 perm).bind fun vs => callM C r f io vs p.2
  | .bi b r es, ρ, S => (evEs C es ρ S).bind fun p => biM b r p.1 p.2
  | .met m r o es, ρ, S => (evE C o ρ S).bind fun p => (evEs C es ρ p.2).bind fun q => metM m r p.1 q.1 q.2
  | .lc r own t it q e, ρ, S => (evI C it ρ S).bind fun p =>
      (lcGo p.2.1 (fun v S1 => (asg C t v (wipeE ρ own) S1).bind fun a => (evT C q a.1 a.2).bind fun b =>
        if b.1 then (evE C e a.1 b.2).bind fun y => some (some y.1, y.2) else some (none, b.2)) p.1 p.2.2).bind fun z => mkL r z.1 z.2
def evT (C : CallF) : Ts → Env → Store → Option (Bool × Store)
  | .and a b, ρ, S => (evT C a ρ S).bind fun p => if p.1 then evT C b ρ p.2 else some (false, p.2)
  | .or a b, ρ, S => (evT C a ρ S).bind fun p => if p.1 then some (true, p.2) else evT C b ρ p.2
  | .not a, ρ, S => (evT C a ρ S).bind fun p => some (!p.1, p.2)
  | .tt, _, S => some (true, S)
  | .cmp o a b, ρ, S => (evE C a ρ S).bind fun p => (evE C b ρ p.2).bind fun q => (cmpM o p.1 q.1 q.2).map fun k => (k, q.2)
  | .chain o o' a b c, ρ, S => (evE C a ρ S).bind fun p => (evE C b ρ p.2).bind fun q => (cmpM o p.1 q.1 q.2).bind fun k =>
      if k then (evE C c ρ q.2).bind fun t => (cmpM o' q.1 t.1 t.2).map fun k => (k, t.2) else some (false, q.2)
  | .e x, ρ, S => (evE C x ρ S).bind fun p => (truth p.2 p.1).map fun k => (k, p.2)
def evEs (C : CallF) : Exs → Env → Store → Option (List MV × Store)
  | .nil, _, S => some ([], S)
  | .cons e es, ρ, S => (evE C e ρ S).bind fun p => (evEs C es ρ p.2).bind fun q => some (p.1 :: q.1, q.2)
def evI (C : CallF) : It → Env → Store → Option (List MV × Src × Store)
  | .seq e, ρ, S => (evE C e ρ S).bind fun p => (itemsOf p.2 p.1).map fun vs => (vs, srcOf p.1 vs, p.2)
  | .rng es, ρ, S => (evEs C es ρ S).bind fun p => (rangeOf p.1).bind fun ab => (rngI ab.1 ab.2).map fun ns => (ns.map fun n => .d (.int n), [], p.2)
  | .zip a b, ρ, S => (evE C a ρ S).bind fun p => (evE C b ρ p.2).bind fun q => match itemsOf q.2 p.1, itemsOf q.2 q.1 with
      | some xs, some ys => if bothKind p.1 q.1 then (zipD xs ys).map fun vs => (vs, srcOf p.1 xs ++ srcOf q.1 ys, q.2) else none
      | _, _ => none
  | .enum a, ρ, S => (evE C a ρ S).bind fun p => (listOf p.2 p.1).bind fun vs => (enumD 0 vs).map fun ws => (ws, srcOf p.1 vs, p.2)
def asg (C : CallF) : Tg → MV → Env → Store → Option (Env × Store)
  | .nm i, v, ρ, S => some (ρ.set i (some v), S)
  | .sub o i, v, ρ, S => (evE C o ρ S).bind fun p => (evE C i ρ p.2).bind fun q => (setIx q.2 p.1 q.1 v).map fun S' => (ρ, S')
  | .tp ts, v, ρ, S => match v with
    | .d (.tuple xs) => asgs C ts (xs.map .d) ρ S
    | _ => none
def asgs (C : CallF) : Tgs → List MV → Env → Store → Option (Env × Store)
  | .nil, [], ρ, S => some (ρ, S)
  | .cons t ts, v :: vs, ρ, S => (asg C t v ρ S).bind fun p => asgs C ts vs p.1 p.2
  | _, _, _, _ => none
end
def setAll : List Nat → List MV → Env → Option Env
  | [], [], ρ => some ρ
  | i :: is, v :: vs, ρ => setAll is vs (ρ.set i (some v))
  | _, _, _ => none
mutual
def evS (C : CallF) : Sm → Env → Store → Option Fl
  | .set t e, ρ, S => (evE C e ρ S).bind fun p => (asg C t p.1 ρ p.2).bind fun q => some (.nx q.1 q.2)
  | .par is es, ρ, S => (evEs C es ρ S).bind fun p => (setAll is p.1 ρ).bind fun ρ' => some (.nx ρ' p.2)
  | .parT ts es, ρ, S => (evEs C es ρ S).bind fun p => if p.1.length ≤ LINE then (asgs C ts p.1 ρ p.2).bind fun q => some (.nx q.1 q.2) else none
  | .ex e, ρ, S => (evE C e ρ S).bind fun p => some (.nx ρ p.2)
  | .ifs t a b, ρ, S => (evT C t ρ S).bind fun p => if p.1 then evSs C a ρ p.2 else evSs C b ρ p.2
  | .fr t it b, ρ, S => (evI C it ρ S).bind fun p => forGo p.2.1 (fun v ρ S => (asg C t v ρ S).bind fun q => evSs C b q.1 q.2) p.1 ρ p.2.2
  | .whl n t b, ρ, S => whGo (evT C t) (evSs C b) n ρ S
  | .ret e, ρ, S => (evE C e ρ S).bind fun p => some (.rt p.1 p.2)
  | .pass, ρ, S => some (.nx ρ S)
  | .brk, ρ, S => some (.bk ρ S)
  | .cont, ρ, S => some (.ct ρ S)
  | .never, _, _ => none
def evSs (C : CallF) : Sms → Env → Store → Option Fl
  | .nil, ρ, S => some (.nx ρ S)
  | .cons s ss, ρ, S => (evS C s ρ S).bind fun r => match r with
    | .nx ρ' S' => evSs C ss ρ' S'
    | r => some r
end

/-! ### functions -/
structure Fi where
  name : Str
  ps : List Str
  io : Nat
  N : List Str
  body : Sms
/-- what a body hands back, told without its own cells -/
def backD (io : Nat) (S : Store) : MV → Option PyData
  | .d x => some x
  | .ref l => if l < io then none else match S[l]? with
    | some c => (backAll io S c).map .list
    | none => none
where backAll (io : Nat) (S : Store) : List MV → Option (List PyData)
  | [] => some []
  | .d x :: vs => (backAll io S vs).map (x :: ·)
  | .ref l :: vs => if l < io then none else match S[l]?, backAll io S vs with
    | some c, some xs => (pures c).map fun ys => .list ys :: xs
    | _, _ => none
def purAll : List (List MV) → Option (List (List PyData))
  | [] => some []
  | c :: cs => match pures c, purAll cs with
    | some x, some xs => some (x :: xs)
    | _, _ => none
def endOf (io : Nat) : Fl → Option (PyData × List (List PyData))
  | .rt v S => match backD io S v, purAll (S.take io) with
    | some x, some cs => some (x, cs)
    | _, _ => none
  | .nx _ S => (purAll (S.take io)).map fun cs => (.none, cs)
  | _ => none
def refs : Nat → Nat → List (Option MV)
  | _, 0 => []
  | i, n + 1 => some (.ref i) :: refs (i + 1) n
def evF (C : CallF) (f : Fi) (cs : List (List PyData)) (ds : List PyData) : Option (PyData × List (List PyData)) :=
  if cs.length = f.io ∧ f.io + ds.length = f.ps.length then
    (evSs C f.body (refs 0 f.io ++ ds.map (fun x => some (.d x)) ++ List.replicate (f.N.length - f.ps.length) none) (cs.map (·.map .d))).bind (endOf f.io)
  else none
def run (tab : List Fi) : Nat → CallF
  | 0 => fun _ _ _ => none
  | n + 1 => fun f cs ds => match tab[f]? with
    | some fi => evF (run tab n) fi cs ds
    | none => none
end TM
end
section
set_option Elab.async false
set_option linter.all false
set_option autoImplicit false
set_option maxRecDepth 100000
/-! TM: how the machine's values, cells and slots stand in the abstract heap. -/
namespace TM
open PySem PySem.Spec PyProof.Rows L2

/-- a list stands at a -/
def NotT (H : Hp) (a : Addr) : Prop := ∃ us, H a = some (.lst us)
theorem NotT.some {H : Hp} {a : Addr} (h : NotT H a) : H a ≠ none := by
  obtain ⟨us, e⟩ := h
  rw [e]; simp
theorem NotT.no {H : Hp} {a : Addr} (h : NotT H a) {xs : List V} : ¬ Rd H a (.tup xs) := fun r => by
  obtain ⟨us, e⟩ := h
  rcases r with r | ⟨z, r⟩
  · rw [e] at r; cases r
  · rw [e] at r; cases r
theorem NotT.at {H H' : Hp} {a : Addr} (h : NotT H a) (e : H' a = H a) : NotT H' a := by
  obtain ⟨us, e1⟩ := h
  exact ⟨us, e.trans e1⟩
theorem NotT.lst {H : Hp} {a : Addr} {us : List V} (h : H a = Option.some (.lst us)) : NotT H a := ⟨_, h⟩
def keyTD (ks : List Int) : PyData := .tuple (ks.map .int)
/-- an entry of a dict whose keys are tuples of ints -/
def entI (x : List Int × Addr × Value) : DictEntry := { hash := reduceHash (Builtin.Tuple.tupleHashOf (x.1.map hashInt)), key := .ref x.2.1, val := x.2.2 }
/-- such a dict stands at a -/
def DictX (a : Addr) (xs : List (List Int × Addr × Value)) (h : Heap) : Prop := ∃ o es ep, h.get? a = some o ∧ o.ExactDict ∧ o.data = .dict es ep ∧ es.toList = xs.map entI

mutual
/-- v stands for the data d; no list or dict of it is at an address of A -/
inductive Rp (K : PySem.W.Frag) (A : Addr → Prop) (H : Hp) : V → PyData → Prop
  | non : Rp K A H .non .none
  | bl (b : Bool) : Rp K A H (.bl b) (.bool b)
  | int (i : Int) : Rp K A H (.int i) (.int i)
  | str (x : Str) : Rp K A H (.str x) (.str x)
  | lst {a : Addr} {xs : List V} {ds : List PyData} : H a = some (.lst xs) → ¬ A a → RpAll K A H xs ds → Rp K A H (.ref a) (.list ds)
  | tup {a : Addr} {xs : List V} {ds : List PyData} : Rd H a (.tup xs) → ¬ A a → RpAll K A H xs ds → Rp K A H (.ref a) (.tuple ds)
  | tupK {a : Addr} {xs : List V} {ds : List PyData} : SqT K (fun _ => Option.none) a xs → RpAll K A H xs ds → Rp K A H (.ref a) (.tuple ds)
  | dX {a : Addr} {xs : List (List Int × Addr × Value)} {ds : List (PyData × PyData)} : H a = some (.ext (DictX a xs)) → ¬ A a → (a == sysModules) = false → (xs.map fun x => x.1).Nodup → RpKx K A H xs ds → Rp K A H (.ref a) (.dict ds)
  | scrF {a : Addr} {z : Obj} {ns : List Int} : H a = some (.frz z (.lst (ns.map V.int))) → ¬ A a → Rp K A H (.ref a) (scrD ns)
  | scrK {a : Addr} {ns : List Int} : SqL K (fun _ => Option.none) a (ns.map V.int) → Rp K A H (.ref a) (scrD ns)
inductive RpAll (K : PySem.W.Frag) (A : Addr → Prop) (H : Hp) : List V → List PyData → Prop
  | nil : RpAll K A H [] []
  | cons {v : V} {vs : List V} {d : PyData} {ds : List PyData} : Rp K A H v d → RpAll K A H vs ds → RpAll K A H (v :: vs) (d :: ds)
inductive RpKx (K : PySem.W.Frag) (A : Addr → Prop) (H : Hp) : List (List Int × Addr × Value) → List (PyData × PyData) → Prop
  | nil : RpKx K A H [] []
  | cons {k : List Int} {b : Addr} {t : Bool} {xs : List (List Int × Addr × Value)} {ds : List (PyData × PyData)} : Rp K A H (.ref b) (keyTD k) → RpKx K A H xs ds → RpKx K A H ((k, b, .bool t) :: xs) ((keyTD k, .bool t) :: ds)
end

section
variable {K : PySem.W.Frag} {A A' : Addr → Prop} {H H' : Hp}
theorem Rd.up {a : Addr} {u : HO} (k : ∀ o, H a = some o → H' a = some o) (h : Rd H a u) : Rd H' a u := by
  rcases h with h | ⟨o, h⟩
  · exact .inl (k _ h)
  · exact .inr ⟨o, k _ h⟩
mutual
theorem Rp.up (st : ∀ b o, ¬ A b → H b = some o → ¬ A' b ∧ H' b = some o) : ∀ {v : V} {d : PyData}, Rp K A H v d → Rp K A' H' v d
  | _, _, .non => .non
  | _, _, .bl b => .bl b
  | _, _, .int i => .int i
  | _, _, .str x => .str x
  | _, _, .lst h n r => .lst (st _ _ n h).2 (st _ _ n h).1 (RpAll.up st r)
  | _, _, .tup h n r => .tup (Rd.up (fun o e => (st _ o n e).2) h) (by
      rcases h with h | ⟨o, h⟩
      · exact (st _ _ n h).1
      · exact (st _ _ n h).1) (RpAll.up st r)
  | _, _, .tupK h r => .tupK h (RpAll.up st r)
  | _, _, .dX h n m d r => .dX (st _ _ n h).2 (st _ _ n h).1 m d (RpKx.up st r)
  | _, _, .scrF h n => .scrF (st _ _ n h).2 (st _ _ n h).1
  | _, _, .scrK h => .scrK h
theorem RpAll.up (st : ∀ b o, ¬ A b → H b = some o → ¬ A' b ∧ H' b = some o) : ∀ {v : List V} {d : List PyData}, RpAll K A H v d → RpAll K A' H' v d
  | _, _, .nil => .nil
  | _, _, .cons r rs => .cons (Rp.up st r) (RpAll.up st rs)
theorem RpKx.up (st : ∀ b o, ¬ A b → H b = some o → ¬ A' b ∧ H' b = some o) : ∀ {v : List (List Int × Addr × Value)} {d : List (PyData × PyData)}, RpKx K A H v d → RpKx K A' H' v d
  | _, _, .nil => .nil
  | _, _, .cons r rs => .cons (Rp.up st r) (RpKx.up st rs)
end
/-- fewer addresses to stay away from -/
theorem Rp.less (st : ∀ b, A' b → A b) {v : V} {d : PyData} (h : Rp K A H v d) : Rp K A' H v d := h.up fun b o n e => ⟨fun z => n (st b z), e⟩
theorem RpAll.less (st : ∀ b, A' b → A b) {v : List V} {d : List PyData} (h : RpAll K A H v d) : RpAll K A' H v d := h.up fun b o n e => ⟨fun z => n (st b z), e⟩
theorem RpAll.length : ∀ {v : List V} {d : List PyData}, RpAll K A H v d → v.length = d.length
  | _, _, .nil => rfl
  | _, _, .cons _ rs => by rw [List.length_cons, List.length_cons, RpAll.length rs]
theorem RpAll.append : ∀ {v w : List V} {d e : List PyData}, RpAll K A H v d → RpAll K A H w e → RpAll K A H (v ++ w) (d ++ e)
  | _, _, _, _, .nil, r => r
  | _, _, _, _, .cons h t, r => .cons h (RpAll.append t r)
theorem RpAll.get : ∀ {v : List V} {d : List PyData} {i : Nat} {x : PyData}, RpAll K A H v d → d[i]? = some x → ∃ u, v[i]? = some u ∧ Rp K A H u x
  | _, _, _, _, .nil, e => by simp at e
  | _, _, 0, _, .cons h _, e => by simp at e; subst e; exact ⟨_, rfl, h⟩
  | _, _, i + 1, x, .cons _ t, e => by
    obtain ⟨u, h1, h2⟩ := RpAll.get (i := i) (x := x) t (by simpa using e)
    exact ⟨u, by simpa using h1, h2⟩
theorem RpAll.get' : ∀ {v : List V} {d : List PyData} {i : Nat} {u : V}, RpAll K A H v d → v[i]? = some u → ∃ x, d[i]? = some x ∧ Rp K A H u x
  | _, _, _, _, .nil, e => by simp at e
  | _, _, 0, _, .cons h _, e => by simp at e; subst e; exact ⟨_, rfl, h⟩
  | _, _, i + 1, x, .cons _ t, e => by
    obtain ⟨u, h1, h2⟩ := RpAll.get' (i := i) (u := x) t (by simpa using e)
    exact ⟨u, by simpa using h1, h2⟩
theorem SqT.ofK {a : Addr} {xs : List V} (h : SqT K (fun _ => Option.none) a xs) : SqT K H a xs := by
  rcases h with (h | ⟨o, h⟩) | h
  · cases h
  · cases h
  · exact .inr h
/-! as data to be read by the library's rules -/
mutual
theorem Rp.dp : ∀ {v : V} {d : PyData}, Rp K A H v d → d.plain = true → Dp K H v d
  | _, _, .non, _ => .non
  | _, _, .bl b, _ => .bl b
  | _, _, .int i, _ => .int i
  | _, _, .str x, _ => .str x
  | _, _, .lst h n r, p => .lst (.inl (.inl h)) (RpAll.dp r (by simpa [PyData.plain] using p))
  | _, _, .tup h n r, p => .tup (.inl h) (RpAll.dp r (by simpa [PyData.plain] using p))
  | _, _, .tupK h r, p => .tup (SqT.ofK h) (RpAll.dp r (by simpa [PyData.plain] using p))
  | _, _, .dX _ _ _ _ _, p => by simp [PyData.plain] at p
  | _, _, .scrF _ _, p => by simp [scrD, PyData.plain] at p
  | _, _, .scrK _, p => by simp [scrD, PyData.plain] at p
theorem RpAll.dp : ∀ {v : List V} {d : List PyData}, RpAll K A H v d → PyData.plainAll d = true → DpAll K H v d
  | _, _, .nil, _ => .nil
  | _, _, .cons r rs, p => by
    simp only [PyData.plainAll, Bool.and_eq_true] at p
    exact .cons (Rp.dp r p.1) (RpAll.dp rs p.2)
end
theorem RpKx.noScr {kvs : List (List Int × Addr × Value)} {ds : List (PyData × PyData)} (r : RpKx K A H kvs ds) : isScr (.dict ds) = false := by
  cases r with
  | nil => rfl
  | cons r rs => rfl
mutual
theorem Rp.nol : ∀ {v : V} {d : PyData}, Rp K A H v d → noL d = true → (∀ b, A' b → NotT H b) → Rp K A' H v d
  | _, _, .non, _, _ => .non
  | _, _, .bl b, _, _ => .bl b
  | _, _, .int i, _, _ => .int i
  | _, _, .str x, _, _ => .str x
  | _, _, .lst h n r, p, _ => by simp [noL] at p
  | _, _, .tup h n r, p, q => .tup h (fun z => (q _ z).no h) (RpAll.nol r (by simpa [noL] using p) q)
  | _, _, .tupK h r, p, q => .tupK h (RpAll.nol r (by simpa [noL] using p) q)
  | _, _, .dX _ _ _ _ r, p, _ => by rw [noL, r.noScr] at p; cases p
  | _, _, .scrF h n, p, q => .scrF h fun z => by
    obtain ⟨us, e⟩ := q _ z
    rw [h] at e; cases e
  | _, _, .scrK h, p, q => .scrK h
theorem RpAll.nol : ∀ {v : List V} {d : List PyData}, RpAll K A H v d → noLs d = true → (∀ b, A' b → NotT H b) → RpAll K A' H v d
  | _, _, .nil, _, _ => .nil
  | _, _, .cons r rs, p, q => by
    simp only [noLs, Bool.and_eq_true] at p
    exact .cons (Rp.nol r p.1 q) (RpAll.nol rs p.2 q)
end
end

/-! ### worlds -/
structure Wd where
  μ : Nat → Addr
  n : Nat
  H : Hp
def Wd.A (P : Addr → Prop) (W : Wd) (a : Addr) : Prop := P a ∨ ∃ l, l < W.n ∧ a = W.μ l
def RV (K : PySem.W.Frag) (P : Addr → Prop) (W : Wd) (u : V) : MV → Prop
  | .d x => Rp K (W.A P) W.H u x
  | .ref l => l < W.n ∧ u = .ref (W.μ l)
inductive RVs (K : PySem.W.Frag) (P : Addr → Prop) (W : Wd) : List V → List MV → Prop
  | nil : RVs K P W [] []
  | cons {u : V} {us : List V} {v : MV} {vs : List MV} : RV K P W u v → RVs K P W us vs → RVs K P W (u :: us) (v :: vs)
structure Wle (W W' : Wd) : Prop where
  n : W.n ≤ W'.n
  μ : ∀ l, l < W.n → W'.μ l = W.μ l
  k : ∀ b o, (∀ l, l < W.n → b ≠ W.μ l) → W.H b = some o → (∀ l, l < W'.n → b ≠ W'.μ l) ∧ W'.H b = some o
theorem Wle.refl (W : Wd) : Wle W W := ⟨Nat.le_refl _, fun _ _ => rfl, fun _ _ n e => ⟨n, e⟩⟩
theorem Wle.trans {W W1 W2 : Wd} (a : Wle W W1) (b : Wle W1 W2) : Wle W W2 :=
  ⟨Nat.le_trans a.n b.n, fun l h => (b.μ l (Nat.lt_of_lt_of_le h a.n)).trans (a.μ l h), fun c o n e => let ⟨n1, e1⟩ := a.k c o n e; b.k c o n1 e1⟩
section
variable {K : PySem.W.Frag} {P P' : Addr → Prop} {W W' : Wd}
theorem Wle.st (h : Wle W W') : ∀ b o, ¬ W.A P b → W.H b = some o → ¬ W'.A P b ∧ W'.H b = some o := fun b o n e => by
  have n1 : ¬ P b := fun z => n (.inl z)
  have n2 : ∀ l, l < W.n → b ≠ W.μ l := fun l hl z => n (.inr ⟨l, hl, z⟩)
  obtain ⟨k1, k2⟩ := h.k b o n2 e
  exact ⟨fun z => z.elim n1 fun ⟨l, hl, e⟩ => k1 l hl e, k2⟩
theorem RV.up (h : Wle W W') : ∀ {u : V} {v : MV}, RV K P W u v → RV K P W' u v
  | _, .d x, r => Rp.up h.st r
  | _, .ref l, ⟨r1, r2⟩ => ⟨Nat.lt_of_lt_of_le r1 h.n, by rw [h.μ l r1]; exact r2⟩
theorem RVs.up (h : Wle W W') : ∀ {u : List V} {v : List MV}, RVs K P W u v → RVs K P W' u v
  | _, _, .nil => .nil
  | _, _, .cons r rs => .cons (RV.up h r) (RVs.up h rs)
theorem RV.less (h : ∀ a, P' a → P a) : ∀ {u : V} {v : MV}, RV K P W u v → RV K P' W u v
  | _, .d x, r => Rp.less (fun b z => z.imp (h b) id) r
  | _, .ref l, r => r
theorem RVs.less (h : ∀ a, P' a → P a) : ∀ {u : List V} {v : List MV}, RVs K P W u v → RVs K P' W u v
  | _, _, .nil => .nil
  | _, _, .cons r rs => .cons (RV.less h r) (RVs.less h rs)
theorem RVs.length : ∀ {u : List V} {v : List MV}, RVs K P W u v → u.length = v.length
  | _, _, .nil => rfl
  | _, _, .cons r rs => by rw [List.length_cons, List.length_cons, RVs.length rs]
theorem RVs.append : ∀ {u u' : List V} {v v' : List MV}, RVs K P W u v → RVs K P W u' v' → RVs K P W (u ++ u') (v ++ v')
  | _, _, _, _, .nil, r => r
  | _, _, _, _, .cons h t, r => .cons h (RVs.append t r)
theorem RVs.get : ∀ {us : List V} {vs : List MV} {i : Nat} {v : MV}, RVs K P W us vs → vs[i]? = some v → ∃ u, us[i]? = some u ∧ RV K P W u v
  | _, _, _, _, .nil, e => by simp at e
  | _, _, 0, _, .cons h _, e => by simp at e; subst e; exact ⟨_, rfl, h⟩
  | _, _, i + 1, x, .cons _ t, e => by
    obtain ⟨u, h1, h2⟩ := RVs.get (i := i) (v := x) t (by simpa using e)
    exact ⟨u, by simpa using h1, h2⟩
theorem RVs.set {u : V} {v : MV} (r : RV K P W u v) : ∀ {us : List V} {vs : List MV} (i : Nat), RVs K P W us vs → RVs K P W (us.set i u) (vs.set i v)
  | _, _, _, .nil => .nil
  | _, _, 0, .cons _ t => .cons r t
  | _, _, i + 1, .cons q t => .cons q (RVs.set r i t)
theorem RVs.drop : ∀ {us : List V} {vs : List MV} (n : Nat), RVs K P W us vs → RVs K P W (us.drop n) (vs.drop n)
  | _, _, 0, r => r
  | _, _, _ + 1, .nil => .nil
  | _, _, n + 1, .cons _ t => RVs.drop n t
theorem RVs.take : ∀ {us : List V} {vs : List MV} (n : Nat), RVs K P W us vs → RVs K P W (us.take n) (vs.take n)
  | _, _, 0, _ => .nil
  | _, _, _ + 1, .nil => .nil
  | _, _, n + 1, .cons r t => .cons r (RVs.take n t)
theorem RVs.dropLast {us : List V} {vs : List MV} (r : RVs K P W us vs) : RVs K P W us.dropLast vs.dropLast := by
  rw [List.dropLast_eq_take, List.dropLast_eq_take, r.length]
  exact r.take _
theorem RVs.reverse : ∀ {us : List V} {vs : List MV}, RVs K P W us vs → RVs K P W us.reverse vs.reverse
  | _, _, .nil => .nil
  | _, _, .cons r t => by
    rw [List.reverse_cons, List.reverse_cons]
    exact (RVs.reverse t).append (.cons r .nil)
theorem RVs.eraseIdx : ∀ {us : List V} {vs : List MV} (i : Nat), RVs K P W us vs → RVs K P W (us.eraseIdx i) (vs.eraseIdx i)
  | _, _, _, .nil => .nil
  | _, _, 0, .cons _ t => t
  | _, _, i + 1, .cons r t => .cons r (RVs.eraseIdx i t)
theorem RVs.of : ∀ {us : List V} {xs : List PyData}, RpAll K (W.A P) W.H us xs → RVs K P W us (xs.map .d)
  | _, _, .nil => .nil
  | _, _, .cons r t => .cons r (RVs.of t)
theorem RVs.pures : ∀ {us : List V} {vs : List MV} {xs : List PyData}, RVs K P W us vs → pures vs = some xs → RpAll K (W.A P) W.H us xs
  | _, _, _, .nil, e => by
    simp only [TM.pures, Option.some.injEq] at e
    subst e
    exact .nil
  | _, _, xs, .cons (v := .d x) r t, e => by
    simp only [TM.pures, Option.map_eq_some_iff] at e
    obtain ⟨ys, e1, e2⟩ := e
    subst e2
    exact .cons r (RVs.pures t e1)
  | _, _, xs, .cons (v := .ref l) r t, e => by simp [TM.pures] at e
theorem pures_map : ∀ (xs : List PyData), TM.pures (xs.map .d) = some xs
  | [] => rfl
  | x :: xs => by simp only [List.map_cons, TM.pures, pures_map xs, Option.map_some]
theorem pures_eq : ∀ {vs : List MV} {xs : List PyData}, TM.pures vs = some xs → vs = xs.map .d
  | [], _, e => by
    simp only [TM.pures, Option.some.injEq] at e
    subst e
    rfl
  | .d x :: vs, xs, e => by
    simp only [TM.pures, Option.map_eq_some_iff] at e
    obtain ⟨ys, e1, e2⟩ := e
    subst e2
    rw [List.map_cons, pures_eq e1]
  | .ref l :: _, _, e => by simp [TM.pures] at e
end

/-- the slots and the cells stand in the world -/
structure Cor (K : PySem.W.Frag) (P : Addr → Prop) (W : Wd) (ρ : Env) (S : Store) (σ : L2.St) : Prop where
  n : W.n = S.length
  len : σ.length = ρ.length
  slot : ∀ (i : Nat) (v : MV), ρ[i]? = some (some v) → ∃ u, σ[i]? = some (some u) ∧ RV K P W u v
  cell : ∀ (l : Nat) (c : List MV), S[l]? = some c → ∃ us, W.H (W.μ l) = some (.lst us) ∧ RVs K P W us c
  inj : ∀ l l', l < W.n → l' < W.n → W.μ l = W.μ l' → l = l'
  prot : ∀ a, P a → (∀ l, l < W.n → a ≠ W.μ l) ∧ NotT W.H a
section
variable {K : PySem.W.Frag} {P P' : Addr → Prop} {W W' : Wd} {ρ : Env} {S : Store} {σ : L2.St}
/-- the heap has grown by an untracked place -/
def Wd.put (W : Wd) (p : Addr) (o : HO) : Wd := ⟨W.μ, W.n, upd W.H p o⟩
theorem Wle.put {p : Addr} {o : HO} (h : W.H p = none) : Wle W (W.put p o) :=
  ⟨Nat.le_refl _, fun _ _ => rfl, fun b u n e => ⟨n, by show upd W.H p o b = some u; rw [upd_ne (ne_of_none e h)]; exact e⟩⟩
theorem Cor.put (c : Cor K P W ρ S σ) {p : Addr} {o : HO} (h : W.H p = none) : Cor K P (W.put p o) ρ S σ where
  n := c.n
  len := c.len
  slot := fun i v e => let ⟨u, e1, r⟩ := c.slot i v e; ⟨u, e1, r.up (Wle.put h)⟩
  cell := fun l d e => by
    obtain ⟨us, e1, r⟩ := c.cell l d e
    refine ⟨us, ?_, r.up (Wle.put h)⟩
    show upd W.H p o (W.μ l) = _
    rw [upd_ne (ne_of_none e1 h)]
    exact e1
  inj := c.inj
  prot := fun a q => by
    obtain ⟨n1, n2⟩ := c.prot a q
    exact ⟨n1, n2.at (upd_ne (fun z => n2.some (by rw [z]; exact h)))⟩
/-- a fresh place is away from all -/
theorem Cor.away (c : Cor K P W ρ S σ) {p : Addr} (h : W.H p = none) : ¬ W.A P p := fun z => by
  rcases z with z | ⟨l, hl, rfl⟩
  · exact (c.prot p z).2.some h
  · have hl' : l < S.length := by rw [← c.n]; exact hl
    obtain ⟨us, e, _⟩ := c.cell l _ (List.getElem?_eq_getElem hl')
    rw [e] at h; cases h
/-- the place p, a list, becomes a cell -/
def Wd.add (W : Wd) (p : Addr) : Wd := ⟨fun l => if l = W.n then p else W.μ l, W.n + 1, W.H⟩
theorem Wd.add_new {p : Addr} : (W.add p).μ W.n = p := by simp [Wd.add]
theorem Wd.add_old {p : Addr} {l : Nat} (h : l < W.n) : (W.add p).μ l = W.μ l := by simp [Wd.add, Nat.ne_of_lt h]
/-- W0 is a world in which p is not there yet -/
theorem Wle.add {W0 : Wd} {p : Addr} (h : Wle W0 W) (h0 : W0.H p = none) : Wle W0 (W.add p) :=
  ⟨Nat.le_succ_of_le h.n, fun l hl => by rw [Wd.add_old (Nat.lt_of_lt_of_le hl h.n)]; exact h.μ l hl, fun b o n e => by
    obtain ⟨n1, e1⟩ := h.k b o n e
    refine ⟨fun l hl => ?_, e1⟩
    by_cases q : l = W.n
    · subst q
      rw [Wd.add_new]
      exact ne_of_none e h0
    · have hl' : l < W.n := Nat.lt_of_le_of_ne (Nat.le_of_lt_succ hl) q
      rw [Wd.add_old hl']
      exact n1 l hl'⟩
/-- .. where p was kept away from all data (P' has it) -/
theorem RV.add {p : Addr} : ∀ {u : V} {v : MV}, RV K (fun a => P a ∨ a = p) W u v → RV K P (W.add p) u v
  | _, .d x, r => Rp.up (fun b o n e => ⟨fun z => n (by
      rcases z with z | ⟨l, hl, rfl⟩
      · exact .inl (.inl z)
      · by_cases q : l = W.n
        · subst q
          rw [Wd.add_new]
          exact .inl (.inr rfl)
        · have hl' : l < W.n := Nat.lt_of_le_of_ne (Nat.le_of_lt_succ hl) q
          rw [Wd.add_old hl']
          exact .inr ⟨l, hl', rfl⟩), e⟩) r
  | _, .ref l, ⟨r1, r2⟩ => ⟨Nat.lt_succ_of_lt r1, by rw [Wd.add_old r1]; exact r2⟩
theorem RVs.add {p : Addr} : ∀ {u : List V} {v : List MV}, RVs K (fun a => P a ∨ a = p) W u v → RVs K P (W.add p) u v
  | _, _, .nil => .nil
  | _, _, .cons r rs => .cons (RV.add r) (RVs.add rs)
/-- the slots and cells stay where p was kept away from all data -/
theorem Cor.add {p : Addr} {us : List V} {vs : List MV} (c : Cor K (fun a => P a ∨ a = p) W ρ S σ) (e : W.H p = some (.lst us)) (r : RVs K (fun a => P a ∨ a = p) W us vs) (hP : ¬ P p) : Cor K P (W.add p) ρ (S ++ [vs]) σ where
  n := by show W.n + 1 = _; rw [c.n]; simp
  len := c.len
  slot := fun i v e => let ⟨u, e1, r⟩ := c.slot i v e; ⟨u, e1, r.add⟩
  cell := fun l d q => by
    by_cases hl : l < S.length
    · rw [List.getElem?_append_left hl] at q
      obtain ⟨us, e1, r⟩ := c.cell l d q
      refine ⟨us, ?_, r.add⟩
      rw [Wd.add_old (by rw [c.n]; exact hl)]
      exact e1
    · have hl2 : l = S.length := by
        have := (List.getElem?_eq_some_iff.mp q).1
        rw [List.length_append, List.length_singleton] at this
        omega
      subst hl2
      rw [List.getElem?_append_right (Nat.le_refl _), Nat.sub_self] at q
      cases q
      refine ⟨us, ?_, r.add⟩
      rw [← c.n, Wd.add_new]
      exact e
  inj := fun l l' h h' q => by
    have key : ∀ l, l < W.n + 1 → (W.add p).μ l = p → l = W.n := fun l hl z => by
      by_cases y : l = W.n
      · exact y
      · have hl' : l < W.n := by omega
        rw [Wd.add_old hl'] at z
        exact absurd z.symm ((c.prot p (.inr rfl)).1 l hl')
    by_cases y : l = W.n
    · subst y
      rw [Wd.add_new] at q
      exact (key l' h' q.symm).symm
    · by_cases y' : l' = W.n
      · subst y'
        rw [Wd.add_new] at q
        exact key l h q
      · have h1 : l < W.n := by have : l < W.n + 1 := h; omega
        have h2 : l' < W.n := by have : l' < W.n + 1 := h'; omega
        rw [Wd.add_old h1, Wd.add_old h2] at q
        exact c.inj l l' h1 h2 q
  prot := fun a q => by
    obtain ⟨n1, n2⟩ := c.prot a (.inl q)
    refine ⟨fun l hl => ?_, n2⟩
    by_cases y : l = W.n
    · subst y
      rw [Wd.add_new]
      exact fun z => hP (by rw [← z]; exact q)
    · have hl' : l < W.n := by have : l < W.n + 1 := hl; omega
      rw [Wd.add_old hl']
      exact n1 l hl'
/-- keep one more address away -/
theorem Cor.more {p : Addr} (c : Cor K P W ρ S σ) (h : NotT W.H p) (hn : ∀ l, l < W.n → p ≠ W.μ l) (sl : ∀ (i : Nat) (v : MV) (u : V), ρ[i]? = some (some v) → RV K P W u v → RV K (fun a => P a ∨ a = p) W u v)
    (ce : ∀ (l : Nat) (cc : List MV) (us : List V), S[l]? = some cc → RVs K P W us cc → RVs K (fun a => P a ∨ a = p) W us cc) : Cor K (fun a => P a ∨ a = p) W ρ S σ where
  n := c.n
  len := c.len
  slot := fun i v e => let ⟨u, e1, r⟩ := c.slot i v e; ⟨u, e1, sl i v u e r⟩
  cell := fun l d e => let ⟨us, e1, r⟩ := c.cell l d e; ⟨us, e1, ce l d us e r⟩
  inj := c.inj
  prot := fun a q => by
    rcases q with q | rfl
    · exact c.prot a q
    · exact ⟨hn, h⟩
theorem RV.put {p : Addr} {o : HO} (h : W.H p = none) : ∀ {u : V} {v : MV}, RV K P W u v → RV K (fun a => P a ∨ a = p) (W.put p o) u v
  | _, .d x, r => Rp.up (fun b u n e => ⟨fun z => by
      rcases z with (z | rfl) | ⟨l, hl, rfl⟩
      · exact n (.inl z)
      · rw [h] at e; cases e
      · exact n (.inr ⟨l, hl, rfl⟩), by
      show upd W.H p o b = some u
      rw [upd_ne (ne_of_none e h)]
      exact e⟩) r
  | _, .ref l, r => r
theorem RVs.put {p : Addr} {o : HO} (h : W.H p = none) : ∀ {u : List V} {v : List MV}, RVs K P W u v → RVs K (fun a => P a ∨ a = p) (W.put p o) u v
  | _, _, .nil => .nil
  | _, _, .cons r rs => .cons (RV.put h r) (RVs.put h rs)
/-- a new place, kept away from all data -/
theorem Cor.putAway (c : Cor K P W ρ S σ) {p : Addr} {zs : List V} (h : W.H p = none) : Cor K (fun a => P a ∨ a = p) (W.put p (.lst zs)) ρ S σ where
  n := c.n
  len := c.len
  slot := fun i v e => let ⟨u, e1, r⟩ := c.slot i v e; ⟨u, e1, r.put h⟩
  cell := fun l d e => by
    obtain ⟨us, e1, r⟩ := c.cell l d e
    refine ⟨us, ?_, r.put h⟩
    show upd W.H p (.lst zs) (W.μ l) = _
    rw [upd_ne (ne_of_none e1 h)]
    exact e1
  inj := c.inj
  prot := fun a q => by
    rcases q with q | rfl
    · exact (c.put h).prot a q
    · exact ⟨fun l hl z => c.away h (.inr ⟨l, hl, z⟩), NotT.lst upd_same⟩
/-- fewer addresses kept away -/
theorem Cor.less (h : ∀ a, P' a → P a) (c : Cor K P W ρ S σ) : Cor K P' W ρ S σ where
  n := c.n
  len := c.len
  slot := fun i v e => let ⟨u, e1, r⟩ := c.slot i v e; ⟨u, e1, r.less h⟩
  cell := fun l d e => let ⟨us, e1, r⟩ := c.cell l d e; ⟨us, e1, r.less h⟩
  inj := c.inj
  prot := fun a q => c.prot a (h a q)
/-- the cell l is written -/
theorem Wle.write {l : Nat} {o : HO} (hl : l < W.n) : Wle W (W.put (W.μ l) o) :=
  ⟨Nat.le_refl _, fun _ _ => rfl, fun b u n e => ⟨n, by show upd W.H (W.μ l) o b = some u; rw [upd_ne (n l hl)]; exact e⟩⟩
theorem Cor.write (c : Cor K P W ρ S σ) {l : Nat} {us : List V} {vs : List MV} (hl : l < W.n) (r : RVs K P W us vs) : Cor K P (W.put (W.μ l) (.lst us)) ρ (S.set l vs) σ where
  n := by show W.n = _; rw [c.n]; simp
  len := c.len
  slot := fun i v e => let ⟨u, e1, r⟩ := c.slot i v e; ⟨u, e1, r.up (Wle.write hl)⟩
  cell := fun l' d e => by
    by_cases q : l' = l
    · subst q
      rw [List.getElem?_set_self (by rw [← c.n]; exact hl)] at e
      cases e
      exact ⟨us, upd_same, r.up (Wle.write hl)⟩
    · rw [List.getElem?_set_ne (Ne.symm q)] at e
      obtain ⟨us', e1, r'⟩ := c.cell l' d e
      refine ⟨us', ?_, r'.up (Wle.write hl)⟩
      have hl' : l' < W.n := by rw [c.n]; exact (List.getElem?_eq_some_iff.mp e).1
      show upd W.H (W.μ l) (.lst us) (W.μ l') = _
      rw [upd_ne (fun z => q (c.inj l' l hl' hl z))]
      exact e1
  inj := c.inj
  prot := fun a q => by
    obtain ⟨n1, n2⟩ := c.prot a q
    exact ⟨n1, n2.at (upd_ne (n1 l hl))⟩
/-- a slot is stored -/
theorem Cor.store (c : Cor K P W ρ S σ) {i : Nat} {u : V} {v : MV} (r : RV K P W u v) : Cor K P W (ρ.set i (some v)) S (σ.set i (some u)) where
  n := c.n
  len := by simp [c.len]
  slot := fun j w e => by
    by_cases q : j = i
    · subst q
      have hj : j < ρ.length := by
        have := (List.getElem?_eq_some_iff.mp e).1
        rw [List.length_set] at this
        exact this
      rw [List.getElem?_set_self hj] at e
      cases e
      exact ⟨u, List.getElem?_set_self (by rw [c.len]; exact hj), r⟩
    · rw [List.getElem?_set_ne (Ne.symm q)] at e
      obtain ⟨u', e1, r'⟩ := c.slot j w e
      exact ⟨u', by rw [List.getElem?_set_ne (Ne.symm q)]; exact e1, r'⟩
  cell := c.cell
  inj := c.inj
  prot := c.prot
theorem Cor.wipe (c : Cor K P W ρ S σ) : ∀ (own : List Nat), Cor K P W (wipeE ρ own) S (L2.wipe σ own)
  | [] => c
  | i :: is => by
    have ih := Cor.wipe c is
    exact ⟨ih.n, by simp [wipeE, L2.wipe, ih.len], fun j w e => by
      unfold wipeE at e
      unfold L2.wipe
      by_cases q : j = i
      · subst q
        have hj : j < (wipeE ρ is).length := by
          have := (List.getElem?_eq_some_iff.mp e).1
          rw [List.length_set] at this
          exact this
        rw [List.getElem?_set_self hj] at e
        cases e
      · rw [List.getElem?_set_ne (Ne.symm q)] at e
        rw [List.getElem?_set_ne (Ne.symm q)]
        exact ih.slot j w e, ih.cell, ih.inj, ih.prot⟩
/-- other slots over the same cells -/
theorem Cor.slots {ρ' : Env} {σ' : L2.St} (c : Cor K P W ρ S σ) (c' : Cor K P W' ρ' S σ') (h : Wle W W') {S' : Store} (c2 : Cor K P W' ρ' S' σ') : Cor K P W' ρ S' σ :=
  ⟨c2.n, c.len, fun i v e => let ⟨u, e1, r⟩ := c.slot i v e; ⟨u, e1, r.up h⟩, c2.cell, c2.inj, c2.prot⟩
theorem Cor.back {ρ' : Env} {σ' : L2.St} {S' : Store} (c : Cor K P W ρ S σ) (h : Wle W W') (c2 : Cor K P W' ρ' S' σ') : Cor K P W' ρ S' σ :=
  ⟨c2.n, c.len, fun i v e => let ⟨u, e1, r⟩ := c.slot i v e; ⟨u, e1, r.up h⟩, c2.cell, c2.inj, c2.prot⟩
/-- a place that is kept away from all data is written -/
theorem RV.paint {p : Addr} {o : HO} (hp : P p) : ∀ {u : V} {v : MV}, RV K P W u v → RV K P (W.put p o) u v
  | _, .d x, r => Rp.up (fun b u n e => ⟨n, by
      show upd W.H p o b = some u
      rw [upd_ne (fun z => n (.inl (by rw [z]; exact hp)))]
      exact e⟩) r
  | _, .ref l, r => r
theorem RVs.paint {p : Addr} {o : HO} (hp : P p) : ∀ {u : List V} {v : List MV}, RVs K P W u v → RVs K P (W.put p o) u v
  | _, _, .nil => .nil
  | _, _, .cons r rs => .cons (RV.paint hp r) (RVs.paint hp rs)
theorem Cor.paint (c : Cor K P W ρ S σ) {p : Addr} {zs : List V} (hp : P p) : Cor K P (W.put p (.lst zs)) ρ S σ where
  n := c.n
  len := c.len
  slot := fun i v e => let ⟨u, e1, r⟩ := c.slot i v e; ⟨u, e1, r.paint hp⟩
  cell := fun l d e => by
    obtain ⟨us, e1, r⟩ := c.cell l d e
    refine ⟨us, ?_, r.paint hp⟩
    show upd W.H p (.lst zs) (W.μ l) = _
    rw [upd_ne (fun z => (c.prot p hp).1 l (by rw [c.n]; exact (List.getElem?_eq_some_iff.mp e).1) z.symm)]
    exact e1
  inj := c.inj
  prot := fun a q => by
    obtain ⟨n1, n2⟩ := c.prot a q
    refine ⟨n1, ?_⟩
    by_cases z : a = p
    · subst z
      exact NotT.lst upd_same
    · exact n2.at (upd_ne z)
theorem Wle.over {p : Addr} {o : HO} (h : Wle W W') (hp : W.H p = none) : Wle W (W'.put p o) :=
  ⟨h.n, h.μ, fun b u n e => let ⟨n1, e1⟩ := h.k b u n e; ⟨n1, by show upd W'.H p o b = some u; rw [upd_ne (ne_of_none e hp)]; exact e1⟩⟩
end
end TM
end
section
set_option Elab.async false
set_option linter.all false
set_option autoImplicit false
set_option maxRecDepth 100000
set_option maxHeartbeats 1000000
/-! TM: the machine's operators are the model's. -/
namespace TM
open PySem PySem.Spec PyProof.Rows L2

/-- what all contexts of one run share -/
structure En where
  P : Program
  w : World
  K : PySem.W.Frag
  mg : Str → Option Value
  base : Heap
  k : Nat
structure Ctx (E : En) (X : Cx) : Prop where
  prog : X.prog = E.P
  w : X.w = E.w
  K : X.K = E.K
  mg : X.mg = E.mg
  base : X.base = E.base
  calm : X.calm = true
  room : Room E.k X.A
  gd : X.A.guards = some []
  nd : X.N.Nodup
def OpA (E : En) (f : Value → Value → Sem Value) : R2 := fun x y H Q => ∀ X, Ctx E X → ∀ (pins : List (Addr × Obj)) (s : Shared) (σ : L2.St) (v u : Value), Inv X pins σ H s → RelV x v → RelV y u → wpAny (model X.prog X.w) X.A (f v u) (EP X pins σ Q) X.xe s
def UnA (E : En) (f : Value → Sem Value) : V → Hp → VK → Prop := fun x H Q => ∀ X, Ctx E X → ∀ (pins : List (Addr × Obj)) (s : Shared) (σ : L2.St) (v : Value), Inv X pins σ H s → RelV x v → wpAny (model X.prog X.w) X.A (f v) (EP X pins σ Q) X.xe s
def CallA (E : En) (f : Value) : List V → Hp → VK → Prop := fun xs H Q => ∀ X, Ctx E X → ∀ (pins : List (Addr × Obj)) (s : Shared) (σ : L2.St) (us : List Value), Inv X pins σ H s → Vals xs us → wpAny (model X.prog X.w) X.A (call f us) (EP X pins σ Q) X.xe s
def TruA (E : En) : V → Hp → (Bool → Hp → Prop) → Prop := fun x H Q => ∀ X, Ctx E X → ∀ (pins : List (Addr × Obj)) (s : Shared) (σ : L2.St) (v : Value), Inv X pins σ H s → RelV x v → wpAny (model X.prog X.w) X.A (truthy v) (TP X pins σ Q) X.xe s
section
variable {E : En}
theorem OpA.of {f : Value → Value → Sem Value} {r : Cx → R2} (ho : ∀ X, Ctx E X → OpR X f (r X)) {x y : V} {H : Hp} {Q : VK} (q : ∀ X, Ctx E X → r X x y H Q) : OpA E f x y H Q := fun X c pins s σ v u I rx ry => ho X c pins s σ H x y v u Q I rx ry (q X c)
theorem UnA.of {f : Value → Sem Value} {r : Cx → V → Hp → VK → Prop} (ho : ∀ X, Ctx E X → UnR X f (r X)) {x : V} {H : Hp} {Q : VK} (q : ∀ X, Ctx E X → r X x H Q) : UnA E f x H Q := fun X c pins s σ v I rx => ho X c pins s σ H x v Q I rx (q X c)
theorem CallA.of {f : Value} {r : Cx → List V → Hp → VK → Prop} (ho : ∀ X, Ctx E X → CallR X f (r X)) {xs : List V} {H : Hp} {Q : VK} (q : ∀ X, Ctx E X → r X xs H Q) : CallA E f xs H Q := fun X c pins s σ us I rx => ho X c pins s σ H xs us Q I rx (q X c)
end
/-- what comes behind: the value v in the store S' -/
def Nx (K : PySem.W.Frag) (P : Addr → Prop) (W : Wd) (ρ : Env) (σ : L2.St) (v : MV) (S' : Store) (Q : VK) : Prop := ∀ W' u, Wle W W' → Cor K P W' ρ S' σ → RV K P W' u v → Q u W'.H

section
variable {E : En} {P : Addr → Prop} {W : Wd} {ρ : Env} {S S' : Store} {σ : L2.St} {Q : VK}
/-! ### inversions -/
theorem RV.intI {u : V} {i : Int} (r : RV E.K P W u (.d (.int i))) : u = .int i := by cases r; rfl
theorem RV.blI {u : V} {i : Bool} (r : RV E.K P W u (.d (.bool i))) : u = .bl i := by cases r; rfl
theorem RV.strI {u : V} {i : Str} (r : RV E.K P W u (.d (.str i))) : u = .str i := by cases r; rfl
theorem RV.nonI {u : V} (r : RV E.K P W u (.d .none)) : u = .non := by cases r; rfl
theorem RV.tupI {u : V} {xs : List PyData} (r : RV E.K P W u (.d (.tuple xs))) : ∃ a us, u = .ref a ∧ SqT E.K W.H a us ∧ RpAll E.K (W.A P) W.H us xs := by
  cases r with
  | tup h n r => exact ⟨_, _, rfl, .inl h, r⟩
  | tupK h r => exact ⟨_, _, rfl, SqT.ofK h, r⟩
theorem RV.lstI {u : V} {xs : List PyData} (r : RV E.K P W u (.d (.list xs))) : ∃ a us, u = .ref a ∧ Rd W.H a (.lst us) ∧ RpAll E.K (W.A P) W.H us xs := by
  cases r with
  | lst h n r => exact ⟨_, _, rfl, .inl h, r⟩
theorem Cor.refI (c : Cor E.K P W ρ S σ) {u : V} {l : Nat} {cs : List MV} (r : RV E.K P W u (.ref l)) (e : S[l]? = some cs) : ∃ us, u = .ref (W.μ l) ∧ W.H (W.μ l) = some (.lst us) ∧ RVs E.K P W us cs := by
  obtain ⟨us, e1, r1⟩ := c.cell l cs e
  exact ⟨us, r.2, e1, r1⟩
/-- the items of a list -/
theorem Cor.listI (c : Cor E.K P W ρ S σ) {u : V} {v : MV} {vs : List MV} (r : RV E.K P W u v) (e : listOf S v = some vs) : ∃ a us, u = .ref a ∧ Rd W.H a (.lst us) ∧ RVs E.K P W us vs := by
  cases v with
  | ref l =>
    obtain ⟨us, h1, h2, h3⟩ := c.refI r e
    exact ⟨_, us, h1, .inl h2, h3⟩
  | d x =>
    cases x with
    | list xs =>
      simp only [listOf, Option.some.injEq] at e
      subst e
      obtain ⟨a, us, h1, h2, h3⟩ := r.lstI
      exact ⟨a, us, h1, h2, RVs.of h3⟩
    | _ => simp [listOf] at e
theorem Cor.itemsI (c : Cor E.K P W ρ S σ) {u : V} {v : MV} {vs : List MV} (r : RV E.K P W u v) (e : itemsOf S v = some vs) : ∃ a us, u = .ref a ∧ ((isTup v = false ∧ Rd W.H a (.lst us)) ∨ (isTup v = true ∧ SqT E.K W.H a us)) ∧ RVs E.K P W us vs := by
  cases v with
  | ref l =>
    obtain ⟨us, h1, h2, h3⟩ := c.refI r e
    exact ⟨_, us, h1, .inl ⟨rfl, .inl h2⟩, h3⟩
  | d x =>
    cases x with
    | list xs =>
      simp only [itemsOf, Option.some.injEq] at e
      subst e
      obtain ⟨a, us, h1, h2, h3⟩ := r.lstI
      exact ⟨a, us, h1, .inl ⟨rfl, h2⟩, RVs.of h3⟩
    | tuple xs =>
      simp only [itemsOf, Option.some.injEq] at e
      subst e
      obtain ⟨a, us, h1, h2, h3⟩ := r.tupI
      exact ⟨a, us, h1, .inr ⟨rfl, h2⟩, RVs.of h3⟩
    | _ => simp [itemsOf] at e
/-! ### new things -/
theorem mkL_new (c : Cor E.K P W ρ S σ) {r : Bool} {us : List V} {vs : List MV} {v : MV} (rs : RVs E.K P W us vs) (e : mkL r vs S = some (v, S')) (h : Nx E.K P W ρ σ v S' Q) : us.length ≤ sizeLine ∧ ∀ p, W.H p = none → Q (.ref p) (upd W.H p (.lst us)) := by
  unfold mkL at e
  split at e
  · rename_i hl
    refine ⟨by rw [rs.length]; exact hl, fun p hp => ?_⟩
    cases r with
    | true =>
      simp only [if_true, Option.some.injEq, Prod.mk.injEq] at e
      obtain ⟨rfl, rfl⟩ := e
      refine h ((W.put p (.lst us)).add p) _ (Wle.add (Wle.put hp) hp) (Cor.add (c.putAway hp) upd_same (rs.put hp) (fun z => c.away hp (.inl z))) ⟨?_, ?_⟩
      · show S.length < W.n + 1
        rw [c.n]; exact Nat.lt_succ_self _
      · have : ((W.put p (.lst us)).add p).μ S.length = p := by rw [← c.n]; exact Wd.add_new
        rw [this]
    | false =>
      simp only [Bool.false_eq_true, if_false, Option.map_eq_some_iff, Prod.mk.injEq] at e
      obtain ⟨xs, e1, rfl, rfl⟩ := e
      exact h (W.put p (.lst us)) _ (Wle.put hp) (c.put hp) (.lst upd_same (c.away hp) ((rs.up (Wle.put hp)).pures e1))
  · cases e
theorem tup_new (c : Cor E.K P W ρ S σ) {us : List V} {xs : List PyData} (rs : RpAll E.K (W.A P) W.H us xs) (h : Nx E.K P W ρ σ (.d (.tuple xs)) S Q) : ∀ p, W.H p = none → Q (.ref p) (upd W.H p (.tup us)) := fun p hp =>
  h (W.put p (.tup us)) _ (Wle.put hp) (c.put hp) (.tup (.inl upd_same) (c.away hp) (rs.up (Wle.put hp).st))
/-- nothing new -/
theorem Nx.same {v : MV} {u : V} (h : Nx E.K P W ρ σ v S Q) (c : Cor E.K P W ρ S σ) (r : RV E.K P W u v) : Q u W.H := h W u (Wle.refl W) c r

/-! ### list + list, list * int, of lists that may be locked -/
section
variable {X : Cx}
theorem Inv.lstR {pins : List (Addr × Obj)} {s : Shared} {σ : L2.St} {H : Hp} {l : Addr} {xs : List V} (I : Inv X pins σ H s) (hH : Rd H l (.lst xs)) : xs.length ≤ sizeLine ∧ ∃ (its : List Value) (n : Nat), Vals xs its ∧ xs.length = its.length ∧ s.heap.get? l = some { cls := .type "list", data := .seq its.toArray n } := by
  obtain ⟨z, its, n, r, e⟩ := hH.ok I.hok
  exact ⟨z, its, n, r, r.length, e⟩
def catL : R2 := fun x y H Q => ∃ l b xs zs, x = V.ref l ∧ y = V.ref b ∧ Rd H l (.lst xs) ∧ Rd H b (.lst zs) ∧ xs.length + zs.length ≤ sizeLine ∧ ∀ p, H p = none → Q (.ref p) (upd H p (.lst (xs ++ zs)))
theorem or_catL : OpR X (binaryOp .Add) catL := by
  intro pins s σ H x y v u Q I rx ry ⟨l, b, xs, zs, ex, ey, hl, hb, hz, q⟩
  subst ex ey
  cases rx
  cases ry
  obtain ⟨_, i1, n1, r1, z1, g1⟩ := Inv.lstR I hl
  obtain ⟨_, i2, n2, r2, z2, g2⟩ := Inv.lstR I hb
  have hs : i1.toArray.size + i2.toArray.size ≤ sizeLine := by
    rw [List.size_toArray, List.size_toArray, ← z1, ← z2]; exact hz
  refine PySem.P.add_list g1 g2 ?_ hs
  have ea : i1.toArray ++ i2.toArray = (i1 ++ i2).toArray := by simp
  rw [ea]
  exact ⟨.ref _, _, I.lnew (t' := s.toks) (r1.append r2) (by rw [List.length_append]; exact hz), rfl, q _ I.fresh⟩
end

/-! ### arithmetic, concatenation -/
def opOf : Op → Operator
  | .add => .Add | .sub => .Sub | .mul => .Mult | .fdiv => .FloorDiv | .mod => .Mod | .pow => .Pow | .shl => .LShift
theorem add_ok (c : Cor E.K P W ρ S σ) {r : Bool} {x y v : MV} {a b : V} (rx : RV E.K P W a x) (ry : RV E.K P W b y) (e : op2 r .add x y S = some (v, S')) (h : Nx E.K P W ρ σ v S' Q) : OpA E (binaryOp .Add) a b W.H Q := by
  have lists : ∀ xs ys, listOf S x = some xs → listOf S y = some ys → mkL r (xs ++ ys) S = some (v, S') → OpA E (binaryOp .Add) a b W.H Q := fun xs ys e1 e2 e3 => by
    obtain ⟨p, us, rfl, g1, q1⟩ := c.listI rx e1
    obtain ⟨p', us', rfl, g2, q2⟩ := c.listI ry e2
    obtain ⟨hl, hq⟩ := mkL_new c (q1.append q2) e3 h
    refine OpA.of (r := fun _ => catL) (fun X _ => or_catL) fun X _ => ⟨p, p', us, us', rfl, rfl, g1, g2, by rw [List.length_append] at hl; exact hl, hq⟩
  have both : (match listOf S x, listOf S y with | some xs, some ys => mkL r (xs ++ ys) S | _, _ => none) = some (v, S') → OpA E (binaryOp .Add) a b W.H Q := fun e => by
    split at e
    · rename_i xs ys e1 e2
      exact lists xs ys e1 e2 e
    · cases e
  unfold op2 at e
  simp only at e
  split at e
  · rename_i i j
    cases e
    rw [rx.intI, ry.intI]
    exact OpA.of (fun X _ => op_add) fun X _ => ⟨i, j, rfl, rfl, h.same c (.int _)⟩
  · rename_i z w
    split at e
    · rename_i hl
      cases e
      rw [rx.strI, ry.strI]
      exact OpA.of (fun X _ => op_add_str) fun X _ => ⟨z, w, rfl, rfl, hl, h.same c (.str _)⟩
    · cases e
  · rename_i xs ys
    split at e
    · rename_i hl
      cases e
      obtain ⟨p, us, rfl, g1, q1⟩ := rx.tupI
      obtain ⟨p', us', rfl, g2, q2⟩ := ry.tupI
      refine OpA.of (fun X _ => op_catA) fun X cx => ⟨p, p', us, us', rfl, rfl, by rw [cx.K]; exact g1, by rw [cx.K]; exact g2, by rw [q1.length, q2.length]; exact hl, fun z => ?_, fun z1 z => ?_, fun _ _ => tup_new c (q1.append q2) h⟩
      · subst z
        cases q1
        exact h.same c ry
      · subst z
        cases q2
        rw [List.append_nil] at h
        exact h.same c rx
    · cases e
  · exact both e
def repL : R2 := fun x y H Q => ∃ l k xs, x = V.ref l ∧ y = V.int k ∧ Rd H l (.lst xs) ∧ -(2 ^ 63) ≤ k ∧ k < 2 ^ 63 ∧ xs.length * k.toNat ≤ sizeLine ∧ ∀ p, H p = none → Q (.ref p) (upd H p (.lst (List.replicate k.toNat xs).flatten))
theorem sub_ok (c : Cor E.K P W ρ S σ) {r : Bool} {x y v : MV} {a b : V} (rx : RV E.K P W a x) (ry : RV E.K P W b y) (e : op2 r .sub x y S = some (v, S')) (h : Nx E.K P W ρ σ v S' Q) : OpA E (binaryOp .Sub) a b W.H Q := by
  unfold op2 at e
  simp only at e
  split at e
  · rename_i i j
    cases e
    rw [rx.intI, ry.intI]
    exact OpA.of (fun X _ => op_sub) fun X _ => ⟨i, j, rfl, rfl, h.same c (.int _)⟩
  · cases e
theorem fdiv_ok (c : Cor E.K P W ρ S σ) {r : Bool} {x y v : MV} {a b : V} (rx : RV E.K P W a x) (ry : RV E.K P W b y) (e : op2 r .fdiv x y S = some (v, S')) (h : Nx E.K P W ρ σ v S' Q) : OpA E (binaryOp .FloorDiv) a b W.H Q := by
  unfold op2 at e
  simp only at e
  split at e
  · rename_i i j
    split at e
    · rename_i hc
      cases e
      simp only [Bool.and_eq_true, decide_eq_true_eq] at hc
      rw [rx.intI, ry.intI]
      exact OpA.of (fun X _ => op_fdiv) fun X _ => ⟨i, j, rfl, rfl, hc, h.same c (.int _)⟩
    · cases e
  · cases e
theorem mod_ok (c : Cor E.K P W ρ S σ) {r : Bool} {x y v : MV} {a b : V} (rx : RV E.K P W a x) (ry : RV E.K P W b y) (e : op2 r .mod x y S = some (v, S')) (h : Nx E.K P W ρ σ v S' Q) : OpA E (binaryOp .Mod) a b W.H Q := by
  unfold op2 at e
  simp only at e
  split at e
  · rename_i i j
    split at e
    · rename_i hc
      cases e
      simp only [decide_eq_true_eq] at hc
      rw [rx.intI, ry.intI]
      exact OpA.of (fun X _ => op_mod) fun X _ => ⟨i, j, rfl, rfl, hc, h.same c (.int _)⟩
    · cases e
  · cases e
theorem pow_ok (c : Cor E.K P W ρ S σ) {r : Bool} {x y v : MV} {a b : V} (rx : RV E.K P W a x) (ry : RV E.K P W b y) (e : op2 r .pow x y S = some (v, S')) (h : Nx E.K P W ρ σ v S' Q) : OpA E (binaryOp .Pow) a b W.H Q := by
  unfold op2 at e
  simp only at e
  split at e
  · rename_i i j
    split at e
    · rename_i hc
      cases e
      simp only [Bool.and_eq_true, decide_eq_true_eq] at hc
      rw [rx.intI, ry.intI]
      exact OpA.of (fun X _ => op_pow) fun X _ => ⟨i, j, rfl, rfl, ⟨hc.1.1, hc.1.2, hc.2⟩, h.same c (.int _)⟩
    · cases e
  · cases e
theorem shl_ok (c : Cor E.K P W ρ S σ) {r : Bool} {x y v : MV} {a b : V} (rx : RV E.K P W a x) (ry : RV E.K P W b y) (e : op2 r .shl x y S = some (v, S')) (h : Nx E.K P W ρ σ v S' Q) : OpA E (binaryOp .LShift) a b W.H Q := by
  unfold op2 at e
  simp only at e
  split at e
  · rename_i i j
    split at e
    · rename_i hc
      cases e
      simp only [Bool.and_eq_true, decide_eq_true_eq] at hc
      rw [rx.intI, ry.intI]
      exact OpA.of (fun X _ => op_shl) fun X _ => ⟨i, j, rfl, rfl, ⟨hc.1.1, hc.1.2, hc.2⟩, h.same c (.int _)⟩
    · cases e
  · cases e
end
end TM
end
section
set_option Elab.async false
set_option linter.all false
set_option autoImplicit false
set_option maxRecDepth 100000
set_option maxHeartbeats 1600000
/-! TM: dicts whose keys are tuples of ints and whose values are truths: dict(..) of a list of pairs, in, not in. -/
namespace TM
open PySem PySem.Spec PyProof.Rows L2
section
variable {K : PySem.W.Frag} {A : Addr → Prop} {H : Hp}
theorem keyI_is : ∀ {d : PyData}, isKeyI d = true → ∃ ks : List Int, d = keyTD ks
  | .tuple xs, h => by
    have : ∀ ys : List PyData, ys.all isIntD = true → ∃ ks : List Int, ys = ks.map .int := fun ys => by
      induction ys with
      | nil => exact fun _ => ⟨[], rfl⟩
      | cons y ys ih =>
        intro hy
        rw [List.all_cons, Bool.and_eq_true] at hy
        obtain ⟨ks, rfl⟩ := ih hy.2
        cases y with
        | int i => exact ⟨i :: ks, rfl⟩
        | _ => exact absurd hy.1 (by simp [isIntD])
    obtain ⟨ks, rfl⟩ := this xs h
    exact ⟨ks, rfl⟩
  | .none, h | .bool _, h | .int _, h | .str _, h | .list _, h | .dict _, h => by simp [isKeyI] at h
theorem rp_ints : ∀ {us : List V} {ks : List Int}, RpAll K A H us (ks.map .int) → us = ks.map V.int
  | [], [], _ => rfl
  | u :: us, k :: ks, .cons r rs => by
    cases r
    rw [rp_ints rs]
    rfl
theorem items_ints {P : Program} {w : World} : ∀ {ks : List Int} {vs : List Value}, Vals (ks.map V.int) vs → ItemsAre (PySem.intKind P w) ks vs
  | [], [], .nil => .nil
  | k :: ks, _ :: vs, .cons r rr => by
    obtain ⟨t, e⟩ := r
    subst e
    exact .cons (by show (k == k) = true; simp) (items_ints rr)
/-- a key stands in the heap -/
theorem key_at {E : En} {X : Cx} (cx : Ctx E X) {pins : List (Addr × Obj)} {s : Shared} {σ : L2.St} (I : Inv X pins σ H s) {u : V} {ks : List Int} (r : Rp E.K A H u (keyTD ks)) : ∃ b, u = .ref b ∧ (tupleKind (PySem.intKind X.prog X.w)).is s.heap ks b := by
  have h : ∃ b us, u = .ref b ∧ SqT X.K H b us ∧ RpAll E.K A H us (ks.map .int) := by
    rw [keyTD] at r
    cases r with
    | tup h n r => exact ⟨_, _, rfl, .inl h, r⟩
    | tupK h r => exact ⟨_, _, rfl, by rw [cx.K]; exact SqT.ofK h, r⟩
  obtain ⟨b, us, rfl, hs, ra⟩ := h
  rw [rp_ints ra] at hs
  obtain ⟨its, rv, ⟨o, h1, h2, n, h3⟩, _⟩ := I.tuple hs
  exact ⟨b, rfl, o, its.toArray, n, h1, h2, h3, items_ints rv⟩
theorem keyTD_inj {k l : List Int} (h : keyTD k = keyTD l) : k = l := by
  have : ∀ a b : List Int, a.map PyData.int = b.map PyData.int → a = b := fun a => by
    induction a with
    | nil => intro b e; cases b with
      | nil => rfl
      | cons _ _ => cases e
    | cons x a ih => intro b e; cases b with
      | nil => cases e
      | cons y b =>
        simp only [List.map_cons, List.cons.injEq, PyData.int.injEq] at e
        rw [e.1, ih b e.2]
  exact this k l (by simpa [keyTD] using h)
theorem beqD_key (k l : List Int) : beqD (keyTD k) (keyTD l) = decide (k = l) := by
  rw [Bool.eq_iff_iff, decide_eq_true_iff]
  exact ⟨fun h => keyTD_inj (beqD_eq h), fun h => by rw [h]; exact beqD_refl _⟩
theorem hasKey_is {k : List Int} : ∀ {xs : List (List Int × Addr × Value)} {ds : List (PyData × PyData)}, RpKx K A H xs ds → (valueAt (xs.map fun x => (x.1, x.2.2)) k).isSome = hasKey (keyTD k) ds
  | _, _, .nil => rfl
  | _, _, .cons (k := l) (t := t) r rs => by
    have ih := hasKey_is (k := k) rs
    unfold valueAt at ih ⊢
    rw [List.map_cons, List.find?_cons, hasKey, beqD_key]
    by_cases e : l = k
    · simp [e]
    · simp only [e, decide_false, Bool.false_or]
      exact ih
theorem kx_keys {E : En} {X : Cx} (cx : Ctx E X) {pins : List (Addr × Obj)} {s : Shared} {σ : L2.St} (I : Inv X pins σ H s) : ∀ {xs : List (List Int × Addr × Value)} {ds : List (PyData × PyData)}, RpKx E.K A H xs ds → ∀ x, x ∈ xs → (tupleKind (PySem.intKind X.prog X.w)).is s.heap x.1 x.2.1
  | _, _, .nil, x, hx => absurd hx List.not_mem_nil
  | _, _, .cons r rs, x, hx => by
    rcases List.mem_cons.mp hx with rfl | hx
    · obtain ⟨b, e, h⟩ := key_at cx I r
      cases e
      exact h
    · exact kx_keys cx I rs x hx
end
section
variable {E : En} {A B : Addr → Prop} {H : Hp} {Q : VK}
theorem dict_at {X : Cx} (cx : Ctx E X) {pins : List (Addr × Obj)} {s : Shared} {σ : L2.St} (I : Inv X pins σ H s) {p : Addr} {xs : List (List Int × Addr × Value)} {ds : List (PyData × PyData)} (h : H p = some (.ext (DictX p xs))) (d : (xs.map fun x => x.1).Nodup) (r : RpKx E.K A H xs ds) : Heap.DictKeyed (tupleKind (PySem.intKind X.prog X.w)) s.heap p (xs.map fun x => (x.1, x.2.2)) := by
  have ok := I.hok p _ h
  unfold ObjOk at ok
  obtain ⟨⟨o, es, ep, e1, e2, e3, e4⟩, _⟩ := ok
  exact ⟨xs, ⟨o, es, ep, e1, e2, e3, e4, kx_keys cx I r, d⟩, rfl⟩
theorem dict_in {a b : V} {d : PyData} {kvs : List (PyData × PyData)} (ra : Rp E.K B H a d) (rb : Rp E.K A H b (.dict kvs)) (hk : isKeyI d = true) (hks : kvs.all (fun p => isKeyI p.1) = true) : (Q (.bl (hasKey d kvs)) H → OpA E (compareOp .In) a b H Q) ∧ (Q (.bl (!hasKey d kvs)) H → OpA E (compareOp .NotIn) a b H Q) := by
  obtain ⟨ks, rfl⟩ := keyI_is hk
  generalize hd : PyData.dict kvs = dd at rb
  cases rb with
  | scrF h n =>
    simp only [scrD, PyData.dict.injEq] at hd
    subst hd
    simp [isKeyI] at hks
  | scrK h =>
    simp only [scrD, PyData.dict.injEq] at hd
    subst hd
    simp [isKeyI] at hks
  | dX h n m dn r =>
    cases hd
    refine ⟨fun q X cx pins s σ v u I r1 r2 => ?_, fun q X cx pins s σ v u I r1 r2 => ?_⟩
    · obtain ⟨ka, rfl, hka⟩ := key_at cx I ra
      cases (show v = .ref ka from r1)
      cases (show u = .ref _ from r2)
      have room : (tupleKind (PySem.intKind X.prog X.w)).room X.A.in1 := by
        have := cx.room.un
        show X.A.units + 1 < cLine
        omega
      refine in_keyed room hka m (dict_at cx I h dn r) ?_
      rw [hasKey_is r]
      exact ⟨.bl _, _, I.tok _, rfl, q⟩
    · obtain ⟨ka, rfl, hka⟩ := key_at cx I ra
      cases (show v = .ref ka from r1)
      cases (show u = .ref _ from r2)
      have room : (tupleKind (PySem.intKind X.prog X.w)).room X.A.in1 := by
        have := cx.room.un
        show X.A.units + 1 < cLine
        omega
      refine notIn_keyed room hka m (dict_at cx I h dn r) ?_
      rw [hasKey_is r]
      exact ⟨.bl _, _, I.tok _, rfl, q⟩
  | _ => cases hd
end
/-! ### dict(..) -/
section
variable {K : PySem.W.Frag} {A : Addr → Prop} {H : Hp}
abbrev Pt := Addr × List Int × Addr × Bool
def ptX (p : Pt) : List Int × Addr × Value := (p.2.1, p.2.2.1, .bool p.2.2.2)
theorem one_pair {u : V} {k : PyData} {t : Bool} (r : Rp K A H u (.tuple [k, .bool t])) : ∃ T w, u = .ref T ∧ SqT K H T [w, .bl t] ∧ Rp K A H w k := by
  cases r with
  | tup h n r =>
    cases r with
    | cons r1 r2 => cases r2 with
      | cons r3 r4 =>
        cases r3
        cases r4
        exact ⟨_, _, rfl, .inl h, r1⟩
  | tupK h r =>
    cases r with
    | cons r1 r2 => cases r2 with
      | cons r3 r4 =>
        cases r3
        cases r4
        exact ⟨_, _, rfl, SqT.ofK h, r1⟩
theorem rp_key {u : V} {ks : List Int} (r : Rp K A H u (keyTD ks)) : ∃ b, u = .ref b := by
  rw [keyTD] at r
  cases r with
  | tup h n r => exact ⟨_, rfl⟩
  | tupK h r => exact ⟨_, rfl⟩
theorem pairs_get : ∀ {us : List V} {ys : List PyData} {kvs : List (PyData × PyData)}, RpAll K A H us ys → keyPairs ys = some kvs → ∃ ps : List Pt, us = (ps.map fun p => V.ref p.1) ∧ RpKx K A H (ps.map ptX) kvs ∧ (∀ p, p ∈ ps → SqT K H p.1 [V.ref p.2.2.1, V.bl p.2.2.2]) ∧ ps.length = ys.length
  | _, _, kvs, .nil, e => by
    cases e
    exact ⟨[], rfl, .nil, fun p hp => absurd hp List.not_mem_nil, rfl⟩
  | _, _, kvs, .cons (d := d) (ds := ds) r rs, e => by
    unfold keyPairs at e
    split at e
    · rename_i heq
      cases heq
    · rename_i k t r' heq
      cases heq
      split at e
      · rename_i hk
        rw [Option.map_eq_some_iff] at e
        obtain ⟨kv2, e1, rfl⟩ := e
        obtain ⟨ps, rfl, h2, h3, h4⟩ := pairs_get rs e1
        obtain ⟨T, w, rfl, q1, q2⟩ := one_pair r
        obtain ⟨ks, rfl⟩ := keyI_is hk
        obtain ⟨b, rfl⟩ := rp_key q2
        refine ⟨(T, ks, b, t) :: ps, rfl, .cons q2 h2, fun p hp => ?_, by rw [List.length_cons, List.length_cons, h4]⟩
        rcases List.mem_cons.mp hp with rfl | hp
        · exact q1
        · exact h3 p hp
      · cases e
    · cases e
theorem kx_nodup : ∀ {xs : List (List Int × Addr × Value)} {ds : List (PyData × PyData)}, RpKx K A H xs ds → nodupK ds = true → (xs.map fun x => x.1).Nodup
  | _, _, .nil, _ => List.nodup_nil
  | _, _, .cons (k := l) (xs := xs) (ds := ds) r rs, h => by
    simp only [nodupK, Bool.and_eq_true, Bool.not_eq_true'] at h
    rw [List.map_cons, List.nodup_cons]
    refine ⟨fun hm => ?_, kx_nodup rs h.2⟩
    have := hasKey_is (k := l) rs
    rw [h.1] at this
    obtain ⟨x, hx, e⟩ := List.mem_map.mp hm
    unfold valueAt at this
    rw [Option.isSome_map, Bool.eq_false_iff] at this
    exact this (List.find?_isSome.mpr ⟨(x.1, x.2.2), List.mem_map.mpr ⟨x, hx, rfl⟩, decide_eq_true e⟩)
theorem stored_same : ∀ (ps acc : List (List Int × Addr × Value)), ((acc ++ ps).map fun x => x.1).Nodup → storedAllH acc ps = acc ++ ps
  | [], acc, _ => by rw [List.append_nil]; rfl
  | p :: ps, acc, h => by
    have hn : (atKey acc p.1).isSome = false := by
      unfold atKey
      rw [Option.isSome_map]
      cases e : acc.find? fun x => decide (x.1 = p.1) with
      | none => rfl
      | some x =>
        have h1 := List.mem_of_find?_eq_some e
        have h2 := List.find?_some e
        rw [List.map_append, List.nodup_append] at h
        exact absurd (of_decide_eq_true h2) (h.2.2 _ (List.mem_map.mpr ⟨x, h1, rfl⟩) _ (List.mem_map.mpr ⟨p, List.mem_cons_self, rfl⟩))
    show storedAllH (storedH acc p.1 p.2.1 p.2.2) ps = _
    unfold storedH
    rw [hn, if_neg (by decide), stored_same ps _ (by rw [List.append_assoc]; exact h), List.append_assoc]
    rfl
theorem refs_of : ∀ {ps : List Pt} {its : List Value}, Vals (ps.map fun p => V.ref p.1) its → its = ps.map fun p => Value.ref p.1
  | [], _, .nil => rfl
  | p :: ps, _, .cons r rr => by
    cases (show _ = Value.ref p.1 from r)
    rw [refs_of rr]
    rfl
end
end TM
end
section
set_option Elab.async false
set_option linter.all false
set_option autoImplicit false
set_option maxRecDepth 100000
set_option maxHeartbeats 1000000
/-! TM: comparisons, truth, subscripts, built-ins, methods. -/
namespace TM
open PySem PySem.Spec PyProof.Rows L2
section
variable {E : En} {P : Addr → Prop} {W : Wd} {ρ : Env} {S S' : Store} {σ : L2.St} {Q : VK}
abbrev NoA : Addr → Prop := fun _ => False
theorem RVs.rds1 (f : ∀ (u : V) (v : MV) (x : PyData), RV E.K P W u v → rd1 S v = some x → Rp E.K NoA W.H u x) : ∀ {us : List V} {vs : List MV} {xs : List PyData}, RVs E.K P W us vs → rds1 S vs = some xs → RpAll E.K NoA W.H us xs
  | _, _, _, .nil, e => by
    simp only [TM.rds1, Option.some.injEq] at e
    subst e
    exact .nil
  | _, _, xs, .cons r t, e => by
    simp only [TM.rds1] at e
    split at e
    · rename_i y ys e1 e2
      cases e
      exact .cons (f _ _ _ r e1) (RVs.rds1 f t e2)
    · cases e
theorem Cor.rd1I (c : Cor E.K P W ρ S σ) {u : V} {v : MV} {x : PyData} (r : RV E.K P W u v) (e : rd1 S v = some x) : Rp E.K NoA W.H u x := by
  cases v with
  | d y =>
    simp only [rd1, Option.some.injEq] at e
    subst e
    exact Rp.less (fun b z => z.elim) r
  | ref l =>
    simp only [rd1] at e
    split at e
    · rename_i cc hc
      obtain ⟨us, h1, h2, h3⟩ := c.refI r hc
      rw [Option.map_eq_some_iff] at e
      obtain ⟨ys, e1, rfl⟩ := e
      rw [h1]
      exact .lst h2 id ((h3.pures e1).less fun b z => z.elim)
    · cases e
theorem Cor.rdI (c : Cor E.K P W ρ S σ) {u : V} {v : MV} {x : PyData} (r : RV E.K P W u v) (e : rd S v = some x) : Rp E.K NoA W.H u x := by
  cases v with
  | d y =>
    simp only [rd, Option.some.injEq] at e
    subst e
    exact Rp.less (fun b z => z.elim) r
  | ref l =>
    simp only [rd] at e
    split at e
    · rename_i cc hc
      obtain ⟨us, h1, h2, h3⟩ := c.refI r hc
      rw [Option.map_eq_some_iff] at e
      obtain ⟨ys, e1, rfl⟩ := e
      rw [h1]
      exact .lst h2 id (h3.rds1 (fun u v x r e => c.rd1I r e) e1)
    · cases e
theorem reads_of {X : Cx} (cx : Ctx E X) {pins : List (Addr × Obj)} {s : Shared} {σ : L2.St} {H : Hp} (I : Inv X pins σ H s) {A : Addr → Prop} {u : V} {v : Value} {x : PyData} (r : Rp E.K A H u x) (p : x.plain = true) (rv : RelV u v) : ∃ as, Reads s.heap v x as :=
  Dp.reads I x u v (by rw [cx.K]; exact r.dp p) rv
theorem room64 {X : Cx} (cx : Ctx E X) {d d' : Nat} (h : d ≤ 64) : X.A.units + min d d' < cLine := by
  have := cx.room.un
  have h2 : min d d' ≤ d := Nat.min_le_left _ _
  omega
theorem room64' {X : Cx} (cx : Ctx E X) {d d' : Nat} (h : d' ≤ 64) : X.A.units + min d d' < cLine := by
  have := cx.room.un
  have h2 : min d d' ≤ d' := Nat.min_le_right _ _
  omega
theorem room65 {X : Cx} (cx : Ctx E X) {d d' : Nat} (h : d' ≤ 64) : X.A.units + 1 + min d d' < cLine := by
  have := cx.room.un
  have h2 : min d d' ≤ d' := Nat.min_le_right _ _
  omega
/-! ### comparisons -/
def cpOf : Cp → CmpOp
  | .eq => .Eq | .ne => .NotEq | .lt => .Lt | .le => .LtE | .gt => .Gt | .ge => .GtE | .isS => .Is | .isN => .IsNot | .inS => .In | .niS => .NotIn
theorem eqD_some {x y : PyData} {k : Bool} (e : eqD x y = some k) : x.plain = true ∧ y.plain = true ∧ x.depth ≤ 64 ∧ k = PyData.eqv x y := by
  unfold eqD at e
  split at e
  · rename_i h
    simp only [Bool.and_eq_true, decide_eq_true_eq] at h
    cases e
    exact ⟨h.1.1, h.1.2, h.2, rfl⟩
  · cases e
theorem ltD_some {x y : PyData} {k : Bool} (e : ltD x y = some k) : PySem.W.alike x y = true ∧ x ≠ .none ∧ x.depth ≤ 64 ∧ k = PySem.W.dataLt x y ∧ x.plain = true ∧ y.plain = true := by
  unfold ltD at e
  split at e
  · rename_i h
    simp only [Bool.and_eq_true, decide_eq_true_eq, Bool.not_eq_true'] at h
    cases e
    refine ⟨h.1.1.1, fun z => ?_, h.1.2, rfl, h.2.1, h.2.2⟩
    have := h.1.1.2
    rw [z, beqD_refl] at this
    cases this
  · cases e
/-- in a list or tuple -/
theorem in_ok (c : Cor E.K P W ρ S σ) {x y : MV} {a b : V} {k : Bool} (rx : RV E.K P W a x) (ry : RV E.K P W b y) (e : inD S x y = some k) :
    (Q (.bl k) W.H → OpA E (compareOp .In) a b W.H Q) ∧ (Q (.bl (!k)) W.H → OpA E (compareOp .NotIn) a b W.H Q) := by
  unfold inD at e
  split at e
  · cases e
  · rename_i d e1
    have rd := c.rdI rx e1
    have seq : ∀ z, TM.rd S y = some z → (match z with
        | .list ys => if PyData.plainAll ys && d.plain && decide (d.depth ≤ 64) then some (ys.any fun z => PyData.eqv z d) else none
        | .tuple ys => if PyData.plainAll ys && d.plain && decide (d.depth ≤ 64) then some (ys.any fun z => PyData.eqv z d) else none
        | _ => none) = some k → (Q (.bl k) W.H → OpA E (compareOp .In) a b W.H Q) ∧ (Q (.bl (!k)) W.H → OpA E (compareOp .NotIn) a b W.H Q) := fun z e2 e => by
      have rz := c.rdI ry e2
      split at e
      · rename_i ys
        split at e
        · rename_i hc
          simp only [Bool.and_eq_true, decide_eq_true_eq] at hc
          cases e
          refine ⟨fun q X cx pins s σ v u I r1 r2 => ?_, fun q X cx pins s σ v u I r1 r2 => ?_⟩
          · obtain ⟨as, h1⟩ := reads_of cx I rd hc.1.2 r1
            obtain ⟨bs, h2⟩ := reads_of cx I rz (by simpa [PyData.plain] using hc.1.1) r2
            exact SeqAt.in_list_data h2 h1 hc.1.1 hc.1.2 (room65 cx hc.2) ⟨.bl _, _, I, rfl, q⟩
          · obtain ⟨as, h1⟩ := reads_of cx I rd hc.1.2 r1
            obtain ⟨bs, h2⟩ := reads_of cx I rz (by simpa [PyData.plain] using hc.1.1) r2
            exact SeqAt.notIn_list_data h2 h1 hc.1.1 hc.1.2 (room65 cx hc.2) ⟨.bl _, _, I, rfl, q⟩
        · cases e
      · rename_i ys
        split at e
        · rename_i hc
          simp only [Bool.and_eq_true, decide_eq_true_eq] at hc
          cases e
          refine ⟨fun q X cx pins s σ v u I r1 r2 => ?_, fun q X cx pins s σ v u I r1 r2 => ?_⟩
          · obtain ⟨as, h1⟩ := reads_of cx I rd hc.1.2 r1
            obtain ⟨bs, h2⟩ := reads_of cx I rz (by simpa [PyData.plain] using hc.1.1) r2
            exact SeqAt.in_tuple_data h2 h1 hc.1.1 hc.1.2 (room65 cx hc.2) ⟨.bl _, _, I, rfl, q⟩
          · obtain ⟨as, h1⟩ := reads_of cx I rd hc.1.2 r1
            obtain ⟨bs, h2⟩ := reads_of cx I rz (by simpa [PyData.plain] using hc.1.1) r2
            exact SeqAt.notIn_tuple_data h2 h1 hc.1.1 hc.1.2 (room65 cx hc.2) ⟨.bl _, _, I, rfl, q⟩
        · cases e
      · cases e
    split at e
    · rename_i kvs
      split at e
      · rename_i hc
        rw [Bool.and_eq_true] at hc
        cases e
        exact dict_in rd ry hc.1 hc.2
      · cases e
    · rename_i z
      split at e
      · rename_i w
        cases e
        cases rd
        rw [ry.strI]
        exact ⟨fun q => OpA.of (fun X _ => op_in_str) fun X _ => ⟨w, z, rfl, rfl, q⟩, fun q => OpA.of (fun X _ => op_notin_str) fun X _ => ⟨w, z, rfl, rfl, q⟩⟩
      · cases e
    · split at e
      · rename_i ys e2
        exact seq _ e2 e
      · rename_i ys e2
        exact seq _ e2 e
      · cases e
theorem cmp_ok (c : Cor E.K P W ρ S σ) {o : Cp} {x y : MV} {a b : V} {k : Bool} (rx : RV E.K P W a x) (ry : RV E.K P W b y) (e : cmpM o x y S = some k) (q : Q (.bl k) W.H) : OpA E (compareOp (cpOf o)) a b W.H Q := by
  have two : ∀ d d', TM.rd S x = some d → TM.rd S y = some d' → (∀ X, Ctx E X → ∀ (pins : List (Addr × Obj)) (s : Shared) (σ : L2.St) (v u : Value), Inv X pins σ W.H s → RelV a v → RelV b u → Rp E.K NoA W.H a d → Rp E.K NoA W.H b d' → wpAny (model X.prog X.w) X.A (compareOp (cpOf o) v u) (EP X pins σ Q) X.xe s) → OpA E (compareOp (cpOf o)) a b W.H Q :=
    fun d d' e1 e2 f X cx pins s σ v u I r1 r2 => f X cx pins s σ v u I r1 r2 (c.rdI rx e1) (c.rdI ry e2)
  cases o with
  | isS =>
    simp only [cmpM] at e
    split at e
    · have hb : b = .non := ry.nonI
      subst hb
      refine OpA.of (fun X _ => op_isN) fun X _ => ⟨rfl, ?_⟩
      have hk : decide (a = V.non) = k := by
        split at e
        · cases e
          rw [rx.nonI]
          rfl
        · rename_i hx
          cases e
          refine decide_eq_false fun z => ?_
          subst z
          cases x with
          | d x => cases rx; exact hx rfl
          | ref l => exact nomatch rx.2
      rw [hk]
      exact q
    · rename_i b'
      split at e
      · cases e
        rw [rx.blI, ry.blI]
        exact OpA.of (fun X _ => op_isBl) fun X _ => ⟨_, _, rfl, rfl, q⟩
      · cases e
    · cases e
  | isN =>
    simp only [cmpM] at e
    split at e
    · have hb : b = .non := ry.nonI
      subst hb
      refine OpA.of (fun X _ => op_notN) fun X _ => ⟨rfl, ?_⟩
      have hk : (!decide (a = V.non)) = k := by
        split at e
        · cases e
          rw [rx.nonI]
          rfl
        · rename_i hx
          cases e
          have : decide (a = V.non) = false := by
            refine decide_eq_false fun z => ?_
            subst z
            cases x with
            | d x => cases rx; exact hx rfl
            | ref l => exact nomatch rx.2
          rw [this]
          rfl
      rw [hk]
      exact q
    · rename_i b'
      split at e
      · cases e
        rw [rx.blI, ry.blI]
        exact OpA.of (fun X _ => op_notBl) fun X _ => ⟨_, _, rfl, rfl, q⟩
      · cases e
    · cases e
  | inS => exact (in_ok c rx ry e).1 q
  | niS =>
    simp only [cmpM, Option.map_eq_some_iff] at e
    obtain ⟨k', e1, rfl⟩ := e
    exact (in_ok c rx ry e1).2 q
  | eq =>
    simp only [cmpM] at e
    split at e
    · rename_i d d' e1 e2
      obtain ⟨p1, p2, hd, rfl⟩ := eqD_some e
      refine two d d' e1 e2 fun X cx pins s σ v u I r1 r2 q1 q2 => ?_
      obtain ⟨as, h1⟩ := reads_of cx I q1 p1 r1
      obtain ⟨bs, h2⟩ := reads_of cx I q2 p2 r2
      exact SeqAt.eq_plain h1 h2 p1 p2 (room64 cx hd) ⟨.bl _, _, I, rfl, q⟩
    · cases e
  | ne =>
    simp only [cmpM] at e
    split at e
    · rename_i d d' e1 e2
      rw [Option.map_eq_some_iff] at e
      obtain ⟨k', e, rfl⟩ := e
      obtain ⟨p1, p2, hd, rfl⟩ := eqD_some e
      refine two d d' e1 e2 fun X cx pins s σ v u I r1 r2 q1 q2 => ?_
      obtain ⟨as, h1⟩ := reads_of cx I q1 p1 r1
      obtain ⟨bs, h2⟩ := reads_of cx I q2 p2 r2
      exact SeqAt.ne_plain h1 h2 p1 p2 (room64 cx hd) ⟨.bl _, _, I, rfl, q⟩
    · cases e
  | lt =>
    simp only [cmpM] at e
    split at e
    · rename_i d d' e1 e2
      obtain ⟨hal, hn, hd, rfl, p1, p2⟩ := ltD_some e
      refine two d d' e1 e2 fun X cx pins s σ v u I r1 r2 q1 q2 => ?_
      obtain ⟨as, h1⟩ := reads_of cx I q1 p1 r1
      obtain ⟨bs, h2⟩ := reads_of cx I q2 p2 r2
      exact PySem.W.lt_data h1 h2 hal hn (room64 cx hd) ⟨.bl _, _, I, rfl, q⟩
    · cases e
  | gt =>
    simp only [cmpM] at e
    split at e
    · rename_i d d' e1 e2
      obtain ⟨hal, hn, hd, rfl, p2, p1⟩ := ltD_some e
      refine two d d' e1 e2 fun X cx pins s σ v u I r1 r2 q1 q2 => ?_
      obtain ⟨as, h1⟩ := reads_of cx I q1 p1 r1
      obtain ⟨bs, h2⟩ := reads_of cx I q2 p2 r2
      exact PySem.W.gt_data h1 h2 (by rw [PySem.W.alike_comm]; exact hal) (PySem.W.ne_none_both hal hn) (room64' cx hd) ⟨.bl _, _, I, rfl, q⟩
    · cases e
  | le =>
    simp only [cmpM] at e
    split at e
    · rename_i d d' e1 e2
      rw [Option.map_eq_some_iff] at e
      obtain ⟨k', e, rfl⟩ := e
      obtain ⟨hal, hn, hd, rfl, p2, p1⟩ := ltD_some e
      refine two d d' e1 e2 fun X cx pins s σ v u I r1 r2 q1 q2 => ?_
      obtain ⟨as, h1⟩ := reads_of cx I q1 p1 r1
      obtain ⟨bs, h2⟩ := reads_of cx I q2 p2 r2
      exact PySem.W.le_data h1 h2 (by rw [PySem.W.alike_comm]; exact hal) (PySem.W.ne_none_both hal hn) (room64' cx hd) ⟨.bl _, _, I, rfl, q⟩
    · cases e
  | ge =>
    simp only [cmpM] at e
    split at e
    · rename_i d d' e1 e2
      rw [Option.map_eq_some_iff] at e
      obtain ⟨k', e, rfl⟩ := e
      obtain ⟨hal, hn, hd, rfl, p1, p2⟩ := ltD_some e
      refine two d d' e1 e2 fun X cx pins s σ v u I r1 r2 q1 q2 => ?_
      obtain ⟨as, h1⟩ := reads_of cx I q1 p1 r1
      obtain ⟨bs, h2⟩ := reads_of cx I q2 p2 r2
      exact PySem.W.ge_data h1 h2 hal hn (room64 cx hd) ⟨.bl _, _, I, rfl, q⟩
    · cases e
/-! ### truth -/
theorem RVs.isEmpty {us : List V} {vs : List MV} (r : RVs E.K P W us vs) : us.isEmpty = vs.isEmpty := by cases r <;> rfl
theorem RpAll.isEmpty {A : Addr → Prop} {H : Hp} {us : List V} {xs : List PyData} (r : RpAll E.K A H us xs) : us.isEmpty = xs.isEmpty := by cases r <;> rfl
theorem tru_is (c : Cor E.K P W ρ S σ) {x : MV} {a : V} {k : Bool} (rx : RV E.K P W a x) (e : truth S x = some k) : TruV E.K a W.H k := by
  cases x with
  | ref l =>
    simp only [truth, Option.map_eq_some_iff] at e
    obtain ⟨cs, e1, rfl⟩ := e
    obtain ⟨us, h1, h2, h3⟩ := c.refI rx e1
    subst h1
    exact .inl ⟨us, .inl (.inl h2), by rw [h3.isEmpty]⟩
  | d x =>
    cases x with
    | none => cases e; rw [rx.nonI]; rfl
    | bool b => cases e; rw [rx.blI]; rfl
    | int i => cases e; rw [rx.intI]; rfl
    | str z =>
      simp only [truth] at e
      split at e
      · rename_i hl
        cases e
        rw [rx.strI]
        refine ⟨hl, ?_⟩
        generalize z.length = n
        cases n with
        | zero => rfl
        | succ n => rfl
      · cases e
    | list xs =>
      cases e
      obtain ⟨p, us, rfl, h2, h3⟩ := rx.lstI
      exact .inl ⟨us, .inl h2, by rw [RpAll.isEmpty h3]⟩
    | tuple xs =>
      cases e
      obtain ⟨p, us, rfl, h2, h3⟩ := rx.tupI
      exact .inr (.inl ⟨us, h2, by rw [RpAll.isEmpty h3]⟩)
    | dict kvs => cases e
end
end TM
end
section
set_option Elab.async false
set_option linter.all false
set_option autoImplicit false
set_option maxRecDepth 100000
set_option maxHeartbeats 1000000
/-! TM: subscripts, built-ins, methods. -/
namespace TM
open PySem PySem.Spec PyProof.Rows L2
def IxA (E : En) : R2 := fun x y H Q => ∀ X, Ctx E X → ∀ (value slice : Expr) (pins : List (Addr × Obj)) (s : Shared) (σ : L2.St) (v u : Value), Inv X pins σ H s → RelV x v → RelV y u →
  subscripted slice false v u = operate [v, u] (getItem v u) → wpAny (model X.prog X.w) X.A (subscriptTail value slice v u) (EP X pins σ Q) X.xe s
def SlA (E : En) : V → Option Int → Option Int → Hp → VK → Prop := fun x lo hi H Q => ∀ X, Ctx E X → ∀ (pins : List (Addr × Obj)) (s : Shared) (σ : L2.St) (v vl vu : Value) (sl : Addr), Inv X pins σ H s → RelV x v → s.heap.IsSliceOf sl vl vu .none → IsPart vl lo → IsPart vu hi →
  ∃ T id, typeLookup (.type T) "__getitem__" = pure (some (.builtin id)) ∧ s.TypeIs v T ∧ wpAny (model X.prog X.w) X.A (getItem v (.ref sl)) (EP X pins σ Q) X.xe s
def MetA (E : En) (id : String) : V → List V → Hp → VK → Prop := fun x xs H Q => ∀ X, Ctx E X → ∀ (pins : List (Addr × Obj)) (s : Shared) (σ : L2.St) (v : Value) (us : List Value), Inv X pins σ H s → RelV x v → Vals xs us →
  wpAny (model X.prog X.w) X.A (call (.builtin id) (v :: us)) (EP X pins σ Q) X.xe s
section
variable {E : En}
theorem IxA.of {r : Cx → R2} (ho : ∀ X, Ctx E X → IxR X (r X)) {x y : V} {H : Hp} {Q : VK} (q : ∀ X, Ctx E X → r X x y H Q) : IxA E x y H Q := fun X c value slice pins s σ v u I rx ry hs => ho X c value slice pins s σ H x y v u Q I rx ry (q X c) hs
theorem SlA.of {r : Cx → V → Option Int → Option Int → Hp → VK → Prop} (ho : ∀ X, Ctx E X → SlR X (r X)) {x : V} {lo hi : Option Int} {H : Hp} {Q : VK} (q : ∀ X, Ctx E X → r X x lo hi H Q) : SlA E x lo hi H Q := fun X c pins s σ v vl vu sl I rx hs pl pu => ho X c pins s σ H x v vl vu lo hi sl Q I rx hs pl pu (q X c)
theorem MetA.of {id : String} {r : Cx → V → List V → Hp → VK → Prop} (ho : ∀ X, Ctx E X → MtR X id (r X)) {x : V} {xs : List V} {H : Hp} {Q : VK} (q : ∀ X, Ctx E X → r X x xs H Q) : MetA E id x xs H Q := fun X c pins s σ v us I rx rs => ho X c pins s σ H x xs v us Q I rx rs (q X c)
end
section
variable {E : En} {P : Addr → Prop} {W : Wd} {ρ : Env} {S S' : Store} {σ : L2.St} {Q : VK}
theorem RVs.atI {us : List V} {vs : List MV} {k : Int} {v : MV} (r : RVs E.K P W us vs) (e : L2.atI vs k = some v) : ∃ u, L2.atI us k = some u ∧ RV E.K P W u v := by
  unfold L2.atI at e ⊢
  rw [r.length]
  cases q : L2.ixN vs.length k with
  | none => rw [q] at e; cases e
  | some j =>
    rw [q] at e
    obtain ⟨u, h1, h2⟩ := r.get (show vs[j]? = some v from e)
    exact ⟨u, h1, h2⟩
theorem RV.scrI {u : V} {xs : List PyData} (r : RV E.K P W u (.d (.dict [(.none, .list xs)]))) : ∃ (a : Addr) (ns : List Int), u = .ref a ∧ xs = ns.map .int ∧ SqL E.K W.H a (ns.map V.int) := by
  have r : Rp E.K (W.A P) W.H u (.dict [(.none, .list xs)]) := r
  generalize hd : PyData.dict [(.none, .list xs)] = d at r
  cases r with
  | dX h n m d r =>
    cases hd
    exact nomatch r.noScr
  | scrF h n =>
    simp only [scrD, PyData.dict.injEq, List.cons.injEq, Prod.mk.injEq, true_and, and_true, PyData.list.injEq] at hd
    exact ⟨_, _, rfl, hd, .inl (.inr ⟨_, h⟩)⟩
  | scrK h =>
    simp only [scrD, PyData.dict.injEq, List.cons.injEq, Prod.mk.injEq, true_and, and_true, PyData.list.injEq] at hd
    refine ⟨_, _, rfl, hd, ?_⟩
    rcases h with (h | ⟨o, h⟩) | h
    · cases h
    · cases h
    · exact .inr h
  | _ => cases hd
theorem ix_ok (c : Cor E.K P W ρ S σ) {x y v : MV} {a b : V} (rx : RV E.K P W a x) (ry : RV E.K P W b y) (e : ixM x y S = some v) (h : Nx E.K P W ρ σ v S Q) : IxA E a b W.H Q := by
  have seq : ∀ k xs, itemsOf S x = some xs → y = .d (.int k) → L2.atI xs k = some v → IxA E a b W.H Q := fun k xs e1 e2 e3 => by
    subst e2
    obtain ⟨p, us, rfl, g, q⟩ := c.itemsI rx e1
    obtain ⟨u, h1, h2⟩ := q.atI e3
    rw [ry.intI]
    rcases g with ⟨_, g⟩ | ⟨_, g⟩
    · exact IxA.of (fun X _ => ix_list) fun X cx => ⟨p, us, k, u, rfl, rfl, .inl g, h1, h.same c h2⟩
    · exact IxA.of (fun X _ => ix_tup) fun X cx => ⟨p, us, k, u, rfl, rfl, by rw [cx.K]; exact g, h1, h.same c h2⟩
  unfold ixM at e
  split at e
  · rename_i z k
    split at e
    · rename_i hl
      rw [Option.map_eq_some_iff] at e
      obtain ⟨ch, e1, rfl⟩ := e
      rw [rx.strI, ry.intI]
      exact IxA.of (fun X _ => ix_str) fun X _ => ⟨z, k, ch, rfl, rfl, hl, e1, h.same c (.str _)⟩
    · cases e
  · rename_i xs k
    obtain ⟨p, ns, rfl, rfl, g⟩ := rx.scrI
    rw [ry.intI]
    unfold L2.atI at e
    rw [List.length_map, List.length_map] at e
    cases q : L2.ixN ns.length k with
    | none => rw [q] at e; cases e
    | some j =>
      rw [q, Option.bind_some, List.getElem?_map, List.getElem?_map, Option.map_map, Option.map_eq_some_iff] at e
      obtain ⟨n, e1, rfl⟩ := e
      refine IxA.of (fun X _ => ix_list) fun X cx => ⟨p, ns.map V.int, k, .int n, rfl, rfl, by rw [cx.K]; exact g, ?_, h.same c (.int n)⟩
      unfold L2.atI
      rw [List.length_map, q, Option.bind_some, List.getElem?_map, e1]
      rfl
  · cases e
  · rename_i k _ _ _
    split at e
    · rename_i xs e1
      exact seq k xs e1 rfl e
    · cases e
  · cases e
theorem RVs.cut {us : List V} {vs : List MV} (r : RVs E.K P W us vs) (lo hi : Option Int) : RVs E.K P W (cutV us lo hi) (TM.cut vs lo hi) := by
  unfold cutV TM.cut
  rw [r.length]
  exact (r.drop _).take _
theorem RpAll.drop {A : Addr → Prop} {H : Hp} : ∀ {us : List V} {vs : List PyData} (n : Nat), RpAll E.K A H us vs → RpAll E.K A H (us.drop n) (vs.drop n)
  | _, _, 0, r => r
  | _, _, _ + 1, .nil => .nil
  | _, _, n + 1, .cons _ t => RpAll.drop n t
theorem RpAll.take {A : Addr → Prop} {H : Hp} : ∀ {us : List V} {vs : List PyData} (n : Nat), RpAll E.K A H us vs → RpAll E.K A H (us.take n) (vs.take n)
  | _, _, 0, _ => .nil
  | _, _, _ + 1, .nil => .nil
  | _, _, n + 1, .cons r t => .cons r (RpAll.take n t)
theorem RpAll.cut {A : Addr → Prop} {H : Hp} {us : List V} {vs : List PyData} (r : RpAll E.K A H us vs) (lo hi : Option Int) : RpAll E.K A H (cutV us lo hi) (TM.cut vs lo hi) := by
  unfold cutV TM.cut
  rw [r.length]
  exact (r.drop _).take _
theorem sl_ok (c : Cor E.K P W ρ S σ) {r : Bool} {x v : MV} {a : V} {lo hi : Option Int} (rx : RV E.K P W a x) (e : slM r x lo hi S = some (v, S')) (h : Nx E.K P W ρ σ v S' Q) : SlA E a lo hi W.H Q := by
  unfold slM at e
  split at e
  · rename_i xs
    cases e
    obtain ⟨p, us, rfl, g, q⟩ := rx.tupI
    refine SlA.of (fun X _ => sl_tupA) fun X cx => ⟨p, us, rfl, by rw [cx.K]; exact g, fun z => ?_, fun _ => tup_new c (q.cut lo hi) h⟩
    have ew : TM.cut xs lo hi = xs := by
      unfold TM.cut
      rw [← q.length, z.1, z.2, q.length]
      simp
    rw [ew] at h
    exact h.same c rx
  · cases e
  · split at e
    · rename_i vs e1
      obtain ⟨p, us, rfl, g, q⟩ := c.listI rx e1
      obtain ⟨_, hq⟩ := mkL_new c (q.cut lo hi) e h
      exact SlA.of (fun X _ => sl_list) fun X _ => ⟨p, us, rfl, .inl g, hq⟩
    · cases e
/-! ### built-ins -/
theorem RVs.one {us : List V} {v : MV} (r : RVs E.K P W us [v]) : ∃ u, us = [u] ∧ RV E.K P W u v := by
  cases r with
  | cons r t => cases t; exact ⟨_, rfl, r⟩
theorem RVs.two {us : List V} {v w : MV} (r : RVs E.K P W us [v, w]) : ∃ u z, us = [u, z] ∧ RV E.K P W u v ∧ RV E.K P W z w := by
  cases r with
  | cons r t =>
    obtain ⟨z, rfl, q⟩ := t.one
    exact ⟨_, _, rfl, r, q⟩
theorem RVs.intsI : ∀ {us : List V} {vs : List MV} {ns : List Int}, RVs E.K P W us vs → intsM vs = some ns → us = ns.map V.int
  | _, _, _, .nil, e => by
    simp only [intsM, Option.some.injEq] at e
    subst e
    rfl
  | _, _, ns, .cons (v := .d (.int i)) r t, e => by
    simp only [intsM, Option.map_eq_some_iff] at e
    obtain ⟨ms, e1, rfl⟩ := e
    rw [List.map_cons, r.intI, RVs.intsI t e1]
  | _, _, ns, .cons (v := .ref l) r t, e => by simp [intsM] at e
  | _, _, ns, .cons (v := .d .none) r t, e => by simp [intsM] at e
  | _, _, ns, .cons (v := .d (.bool _)) r t, e => by simp [intsM] at e
  | _, _, ns, .cons (v := .d (.str _)) r t, e => by simp [intsM] at e
  | _, _, ns, .cons (v := .d (.list _)) r t, e => by simp [intsM] at e
  | _, _, ns, .cons (v := .d (.tuple _)) r t, e => by simp [intsM] at e
  | _, _, ns, .cons (v := .d (.dict _)) r t, e => by simp [intsM] at e
theorem RVs.boolsI : ∀ {us : List V} {vs : List MV} {ns : List Bool}, RVs E.K P W us vs → boolsM vs = some ns → us = ns.map V.bl
  | _, _, _, .nil, e => by
    simp only [boolsM, Option.some.injEq] at e
    subst e
    rfl
  | _, _, ns, .cons (v := .d (.bool i)) r t, e => by
    simp only [boolsM, Option.map_eq_some_iff] at e
    obtain ⟨ms, e1, rfl⟩ := e
    rw [List.map_cons, r.blI, RVs.boolsI t e1]
  | _, _, ns, .cons (v := .ref l) r t, e => by simp [boolsM] at e
  | _, _, ns, .cons (v := .d .none) r t, e => by simp [boolsM] at e
  | _, _, ns, .cons (v := .d (.int _)) r t, e => by simp [boolsM] at e
  | _, _, ns, .cons (v := .d (.str _)) r t, e => by simp [boolsM] at e
  | _, _, ns, .cons (v := .d (.list _)) r t, e => by simp [boolsM] at e
  | _, _, ns, .cons (v := .d (.tuple _)) r t, e => by simp [boolsM] at e
  | _, _, ns, .cons (v := .d (.dict _)) r t, e => by simp [boolsM] at e
/-- the built-in's value -/
def biOf : Bi → Value
  | .len => .builtin "len" | .tuple => .type "tuple" | .list => .type "list" | .sorted => .builtin "sorted" | .all => .builtin "all" | .any => .builtin "any" | .sum => .builtin "sum"
  | .abs => .builtin "abs" | .max2 => .builtin "max" | .min2 => .builtin "min" | .divmod => .builtin "divmod" | .int => .type "int" | .repr => .builtin "repr" | .isi _ => .builtin "isinstance"
  | .max1 => .builtin "max" | .min1 => .builtin "min" | .str => .type "str" | .dictT => .type "dict" | _ => .none
theorem len_ok (c : Cor E.K P W ρ S σ) {vs : List MV} {us : List V} {v : MV} (rs : RVs E.K P W us vs) (e : biLen vs S = some (v, S')) (h : Nx E.K P W ρ σ v S' Q) : CallA E (.builtin "len") us W.H Q := by
  unfold biLen at e
  split at e
  · rename_i x
    split at e
    · rename_i hl
      cases e
      obtain ⟨u, rfl, r1⟩ := rs.one
      rw [r1.strI]
      exact CallA.of (fun X _ => call_len) fun X _ => ⟨_, _, rfl, ⟨hl, rfl⟩, h.same c (.int _)⟩
    · cases e
  · rename_i xs
    cases e
    obtain ⟨u, rfl, r1⟩ := rs.one
    obtain ⟨p, ns, rfl, rfl, g⟩ := r1.scrI
    refine CallA.of (fun X _ => call_len) fun X cx => ⟨_, _, rfl, .inl ⟨ns.map V.int, by rw [cx.K]; exact g, rfl⟩, ?_⟩
    rw [List.length_map]
    have := h.same c (.int _)
    rw [List.length_map] at this
    exact this
  · rename_i y _ _
    rw [Option.map_eq_some_iff] at e
    obtain ⟨xs, e1, e2⟩ := e
    cases e2
    obtain ⟨u, rfl, r1⟩ := rs.one
    obtain ⟨p, us, rfl, g, q⟩ := c.itemsI r1 e1
    rw [← q.length] at h
    rcases g with ⟨_, g⟩ | ⟨_, g⟩
    · exact CallA.of (fun X _ => call_len) fun X _ => ⟨_, _, rfl, .inl ⟨us, .inl g, rfl⟩, h.same c (.int _)⟩
    · exact CallA.of (fun X _ => call_len) fun X cx => ⟨_, _, rfl, .inr ⟨us, by rw [cx.K]; exact g, rfl⟩, h.same c (.int _)⟩
  · cases e
theorem tuple_ok (c : Cor E.K P W ρ S σ) {vs : List MV} {us : List V} {v : MV} (rs : RVs E.K P W us vs) (e : biTuple vs S = some (v, S')) (h : Nx E.K P W ρ σ v S' Q) : CallA E (.type "tuple") us W.H Q := by
  unfold biTuple at e
  split at e
  · rename_i y
    obtain ⟨u, rfl, r1⟩ := rs.one
    split at e
    · rename_i xs e1
      rw [Option.map_eq_some_iff] at e
      obtain ⟨ys, e2, e3⟩ := e
      cases e3
      obtain ⟨p, us, rfl, g, q⟩ := c.itemsI r1 e1
      have hp := q.pures e2
      rcases g with ⟨_, g⟩ | ⟨gt, g⟩
      · exact CallA.of (fun X _ => call_tuple_of) fun X cx => ⟨p, us, rfl, .inl ⟨.inl g, tup_new c hp h⟩⟩
      · have hy : y = .d (.tuple ys) := by
          cases y with
          | ref l => cases gt
          | d z =>
            cases z with
            | tuple zs =>
              simp only [itemsOf, Option.some.injEq] at e1
              subst e1
              rw [pures_map] at e2
              cases e2
              rfl
            | _ => cases gt
        subst hy
        exact CallA.of (fun X _ => call_tuple_of) fun X cx => ⟨p, us, rfl, .inr ⟨by rw [cx.K]; exact g, h.same c r1⟩⟩
    · cases e
  · cases e
theorem list_ok (c : Cor E.K P W ρ S σ) {r : Bool} {vs : List MV} {us : List V} {v : MV} (rs : RVs E.K P W us vs) (e : biList r vs S = some (v, S')) (h : Nx E.K P W ρ σ v S' Q) : CallA E (.type "list") us W.H Q := by
  unfold biList at e
  split at e
  · rename_i y
    obtain ⟨u, rfl, r1⟩ := rs.one
    split at e
    · rename_i xs e1
      obtain ⟨p, us, rfl, g, q⟩ := c.itemsI r1 e1
      obtain ⟨_, hq⟩ := mkL_new c q e h
      rcases g with ⟨_, g⟩ | ⟨_, g⟩
      · exact CallA.of (fun X _ => call_list_of) fun X cx => ⟨p, us, rfl, .inl (.inl g), hq⟩
      · exact CallA.of (fun X _ => call_list_of) fun X cx => ⟨p, us, rfl, .inr (by rw [cx.K]; exact g), hq⟩
    · cases e
  · cases e
theorem all_ok (c : Cor E.K P W ρ S σ) {vs : List MV} {us : List V} {v : MV} (rs : RVs E.K P W us vs) (e : biAll vs S = some (v, S')) (h : Nx E.K P W ρ σ v S' Q) : CallA E (.builtin "all") us W.H Q := by
  unfold biAll at e
  split at e
  · obtain ⟨u, rfl, r1⟩ := rs.one
    split at e
    · rename_i xs e1
      rw [Option.map_eq_some_iff] at e
      obtain ⟨bs, e2, e3⟩ := e
      cases e3
      obtain ⟨p, us, rfl, g, q⟩ := c.listI r1 e1
      have := q.boolsI e2
      subst this
      exact CallA.of (fun X cx => cr_all cx.calm) fun X _ => ⟨p, bs, rfl, .inl g, h.same c (.bl _)⟩
    · cases e
  · cases e
theorem any_ok (c : Cor E.K P W ρ S σ) {vs : List MV} {us : List V} {v : MV} (rs : RVs E.K P W us vs) (e : biAny vs S = some (v, S')) (h : Nx E.K P W ρ σ v S' Q) : CallA E (.builtin "any") us W.H Q := by
  unfold biAny at e
  split at e
  · obtain ⟨u, rfl, r1⟩ := rs.one
    split at e
    · rename_i xs e1
      rw [Option.map_eq_some_iff] at e
      obtain ⟨bs, e2, e3⟩ := e
      cases e3
      obtain ⟨p, us, rfl, g, q⟩ := c.listI r1 e1
      have := q.boolsI e2
      subst this
      exact CallA.of (fun X cx => cr_any cx.calm) fun X _ => ⟨p, bs, rfl, .inl g, h.same c (.bl _)⟩
    · cases e
  · cases e
theorem sum_ok (c : Cor E.K P W ρ S σ) {vs : List MV} {us : List V} {v : MV} (rs : RVs E.K P W us vs) (e : biSum vs S = some (v, S')) (h : Nx E.K P W ρ σ v S' Q) : CallA E (.builtin "sum") us W.H Q := by
  unfold biSum at e
  split at e
  · obtain ⟨u, rfl, r1⟩ := rs.one
    split at e
    · rename_i xs e1
      rw [Option.map_eq_some_iff] at e
      obtain ⟨bs, e2, e3⟩ := e
      cases e3
      obtain ⟨p, us, rfl, g, q⟩ := c.listI r1 e1
      have := q.intsI e2
      subst this
      exact CallA.of (fun X cx => cr_sum cx.calm) fun X _ => ⟨p, bs, rfl, .inl g, h.same c (.int _)⟩
    · cases e
  · cases e
theorem abs_ok (c : Cor E.K P W ρ S σ) {vs : List MV} {us : List V} {v : MV} (rs : RVs E.K P W us vs) (e : biAbs vs S = some (v, S')) (h : Nx E.K P W ρ σ v S' Q) : CallA E (.builtin "abs") us W.H Q := by
  unfold biAbs at e
  split at e
  · cases e
    obtain ⟨u, rfl, r1⟩ := rs.one
    rw [r1.intI]
    exact CallA.of (fun X _ => call_abs) fun X _ => ⟨_, rfl, h.same c (.int _)⟩
  · cases e
theorem max2_ok (c : Cor E.K P W ρ S σ) {vs : List MV} {us : List V} {v : MV} (rs : RVs E.K P W us vs) (e : biMax2 vs S = some (v, S')) (h : Nx E.K P W ρ σ v S' Q) : CallA E (.builtin "max") us W.H Q := by
  unfold biMax2 at e
  split at e
  · cases e
    obtain ⟨u, z, rfl, r1, r2⟩ := rs.two
    rw [r1.intI, r2.intI]
    exact CallA.of (fun X cx => call_max2 cx.calm) fun X _ => ⟨_, _, rfl, h.same c (.int _)⟩
  · cases e
theorem min2_ok (c : Cor E.K P W ρ S σ) {vs : List MV} {us : List V} {v : MV} (rs : RVs E.K P W us vs) (e : biMin2 vs S = some (v, S')) (h : Nx E.K P W ρ σ v S' Q) : CallA E (.builtin "min") us W.H Q := by
  unfold biMin2 at e
  split at e
  · cases e
    obtain ⟨u, z, rfl, r1, r2⟩ := rs.two
    rw [r1.intI, r2.intI]
    exact CallA.of (fun X cx => call_min2 cx.calm) fun X _ => ⟨_, _, rfl, h.same c (.int _)⟩
  · cases e
theorem divmod_ok (c : Cor E.K P W ρ S σ) {vs : List MV} {us : List V} {v : MV} (rs : RVs E.K P W us vs) (e : biDivmod vs S = some (v, S')) (h : Nx E.K P W ρ σ v S' Q) : CallA E (.builtin "divmod") us W.H Q := by
  unfold biDivmod at e
  split at e
  · split at e
    · rename_i hc
      cases e
      simp only [Bool.and_eq_true, decide_eq_true_eq] at hc
      obtain ⟨u, z, rfl, r1, r2⟩ := rs.two
      rw [r1.intI, r2.intI]
      exact CallA.of (fun X _ => call_divmod) fun X _ => ⟨_, _, rfl, hc, tup_new c (.cons (.int _) (.cons (.int _) .nil)) h⟩
    · cases e
  · cases e
theorem int_ok (c : Cor E.K P W ρ S σ) {vs : List MV} {us : List V} {v : MV} (rs : RVs E.K P W us vs) (e : biInt vs S = some (v, S')) (h : Nx E.K P W ρ σ v S' Q) : CallA E (.type "int") us W.H Q := by
  unfold biInt at e
  split at e
  · cases e
    obtain ⟨u, rfl, r1⟩ := rs.one
    rw [r1.intI]
    exact CallA.of (fun X _ => call_int1) fun X _ => .inl ⟨_, rfl, h.same c (.int _)⟩
  · cases e
    obtain ⟨u, rfl, r1⟩ := rs.one
    rw [r1.blI]
    exact CallA.of (fun X _ => call_int1) fun X _ => .inr ⟨_, rfl, h.same c (.int _)⟩
  · cases e
end
mutual
theorem plain_noDict : ∀ d : PyData, d.plain = true → d.hasDict = false
  | .none, _ => by simp only [PyData.hasDict]
  | .bool _, _ => by simp only [PyData.hasDict]
  | .int _, _ => by simp only [PyData.hasDict]
  | .str _, _ => by simp only [PyData.hasDict]
  | .list xs, h => by simp only [PyData.hasDict]; exact plain_noDictAll xs (by simpa [PyData.plain] using h)
  | .tuple xs, h => by simp only [PyData.hasDict]; exact plain_noDictAll xs (by simpa [PyData.plain] using h)
  | .dict _, h => by simp [PyData.plain] at h
theorem plain_noDictAll : ∀ d : List PyData, PyData.plainAll d = true → PyData.hasDictAll d = false
  | [], _ => by simp only [PyData.hasDictAll]
  | x :: xs, h => by
    simp only [PyData.plainAll, Bool.and_eq_true] at h
    simp only [PyData.hasDictAll, plain_noDict x h.1, plain_noDictAll xs h.2, Bool.or_self]
end
section
variable {E : En} {P : Addr → Prop} {W : Wd} {ρ : Env} {S S' : Store} {σ : L2.St} {Q : VK}
theorem repr_ok (c : Cor E.K P W ρ S σ) {vs : List MV} {us : List V} {v : MV} (rs : RVs E.K P W us vs) (e : biRepr vs S = some (v, S')) (h : Nx E.K P W ρ σ v S' Q) : CallA E (.builtin "repr") us W.H Q := by
  unfold biRepr at e
  split at e
  · rename_i y
    obtain ⟨u, rfl, r1⟩ := rs.one
    split at e
    · rename_i x e1
      split at e
      · rename_i hc
        simp only [Bool.and_eq_true, decide_eq_true_eq] at hc
        obtain ⟨⟨⟨h1, h2⟩, h3⟩, h4⟩ := hc
        cases e
        have r2 := c.rdI r1 e1
        intro X cx pins s σ us I rv
        obtain ⟨w, rfl, rw⟩ := Vals.one rv
        have q : Q (.str x.shown) W.H := h.same c (.str _)
        have fin : ∀ (h' : Heap) (u' : Tok) (tk : Nat), (∀ b o, s.heap.get? b = some o → h'.get? b = some o) → EP X pins σ Q (.str x.shown u') { s with heap := h', toks := tk } := fun h' u' tk k => ⟨.str x.shown, W.H, I.kept k, ⟨u', rfl⟩, q⟩
        cases x with
        | none => cases r2; cases rw; exact PySem.P.repr_of_none (fin _ _ _ fun _ _ e => e)
        | bool b => cases r2; cases rw; exact PySem.P.repr_of_bool (fin _ _ _ fun _ _ e => e)
        | int i => cases r2; obtain ⟨t, rfl⟩ := rw; exact PySem.P.repr_of_int (of_decide_eq_true h1) (fin _ _ _ fun _ _ e => e)
        | str z => cases r2; obtain ⟨t, rfl⟩ := rw; exact PySem.P.repr_of_str (fin _ _ _ fun _ _ e => e) h4
        | list xs =>
          obtain ⟨as, hr⟩ := reads_of cx I r2 h2 rw
          cases r2
          cases rw
          exact repr_of_reads' hr h1 (fun z => by rw [plain_noDict _ h2] at z; cases z) cx.gd (by have := cx.room.un; omega) (fun _ _ e => e) fin h4
        | tuple xs =>
          obtain ⟨as, hr⟩ := reads_of cx I r2 h2 rw
          have hw : ∃ a, w = .ref a := by cases r2 <;> cases rw <;> exact ⟨_, rfl⟩
          obtain ⟨a, rfl⟩ := hw
          exact repr_of_reads' hr h1 (fun z => by rw [plain_noDict _ h2] at z; cases z) cx.gd (by have := cx.room.un; omega) (fun _ _ e => e) fin h4
        | dict kvs => simp [PyData.plain] at h2
      · cases e
    · cases e
  · cases e
end
end TM
end
section
set_option Elab.async false
set_option linter.all false
set_option autoImplicit false
set_option maxRecDepth 100000
set_option maxHeartbeats 1600000
/-! TM: dict(..) is the model's. -/
namespace TM
open PySem PySem.Spec PyProof.Rows L2
section
variable {E : En} {P : Addr → Prop} {W : Wd} {ρ : Env} {S S' : Store} {σ : L2.St} {Q : VK}
theorem dictT_ok (c : Cor E.K P W ρ S σ) {vs : List MV} {us : List V} {v : MV} (rs : RVs E.K P W us vs) (e : biDictT vs S = some (v, S')) (h : Nx E.K P W ρ σ v S' Q) : CallA E (.type "dict") us W.H Q := by
  unfold biDictT at e
  split at e
  · rename_i y
    split at e
    · rename_i xs e1
      split at e
      · rename_i ys e2
        split at e
        · rename_i kvs e3
          split at e
          · rename_i hc
            cases e
            simp only [Bool.and_eq_true, decide_eq_true_eq] at hc
            obtain ⟨u, rfl, r1⟩ := rs.one
            obtain ⟨p, us, rfl, g, q⟩ := c.listI r1 e1
            obtain ⟨ps, rfl, hx, hs, hl⟩ := pairs_get (q.pures e2) e3
            have nd := kx_nodup hx hc.1
            intro X cx pins s σ' us' I rv
            cases rv with
            | cons rv1 rv2 =>
              cases rv2
              cases (show _ = Value.ref p from rv1)
              obtain ⟨z, its, n, rvl, hlen, eo⟩ := Inv.lstR I g
              have hits := refs_of rvl
              subst hits
              have hh : X.A.handled = none := I.ok.hd cx.calm
              have room : (tupleKind (PySem.intKind X.prog X.w)).room X.A.in1.in1 := by
                have := cx.room.un
                show X.A.units + 1 + 1 < cLine
                omega
              refine call_dict_pairsH (knd := tupleKind (PySem.intKind X.prog X.w)) (ps := ps.map ptX) (PairArg.list p (ps.map fun p => Value.ref p.1).toArray (fun j => ((ps[j]?).map (·.1)).getD 0) (ps.map fun p => (Value.ref p.2.2.1, Value.bool p.2.2.2))) hh room ⟨⟨_, n, eo, rfl, rfl, rfl⟩, ?_, ?_⟩ ⟨?_, ?_⟩ ?_ ?_ ?_
              · simp
              · intro j k v hj
                rw [List.getElem?_map] at hj
                cases ej : ps[j]? with
                | none => rw [ej] at hj; cases hj
                | some pt =>
                  rw [ej] at hj
                  cases hj
                  refine ⟨by simp [ej], .inl ?_⟩
                  have hm : pt ∈ ps := List.mem_of_getElem? ej
                  have sq := hs pt hm
                  rw [← cx.K] at sq
                  obtain ⟨it2, rv2, tt, _⟩ := I.tuple sq
                  cases rv2 with
                  | cons q1 q2 => cases q2 with
                    | cons q3 q4 =>
                      cases q4
                      cases (show _ = Value.ref pt.2.2.1 from q1)
                      cases (show _ = Value.bool pt.2.2.2 from q3)
                      show s.heap.IsTuple (((ps[j]?).map (·.1)).getD 0) _
                      rw [ej]
                      exact tt
              · simp
              · intro i key v hj
                rw [PairRel, List.getElem?_map] at hj
                cases ej : ps[i]? with
                | none => rw [ej] at hj; cases hj
                | some pt =>
                  rw [ej] at hj
                  cases hj
                  exact ⟨pt.2.1, pt.2.2.1, by rw [List.getElem?_map, ej]; rfl, rfl⟩
              · intro h' keep x hxm
                obtain ⟨o, items, m, e1, e2, e3, e4⟩ := kx_keys cx I hx x hxm
                exact ⟨o, items, m, keep _ _ (Nat.ne_of_lt (Heap.lt_size e1)) List.not_mem_nil e1, e2, e3, e4⟩
              · rw [List.length_map, hl, sizeLine_eq]
                exact hc.2
              · intro h' tk dk keep
                have st := stored_same (ps.map ptX) [] (by rw [List.nil_append]; exact nd)
                rw [List.nil_append] at st
                rw [st] at dk
                obtain ⟨o, es, ep, d1, d2, d3, d4, d5, d6⟩ := dk
                have ok : ObjOk X.prog X.w (upd W.H s.heap.objs.size (.ext (DictX s.heap.objs.size (ps.map ptX)))) h' s.heap.objs.size (.ext (DictX s.heap.objs.size (ps.map ptX))) := by
                  unfold ObjOk
                  exact ⟨⟨o, es, ep, d1, d2, d3, d4⟩, ⟨o, d1⟩, fun h1 h2 ⟨o1, es1, ep1, q1, q2, q3, q4⟩ hk => ⟨o1, es1, ep1, hk _ q1, q2, q3, q4⟩⟩
                have hT : W.H s.heap.objs.size = none := I.fresh
                have big := I.big
                have ms : (s.heap.objs.size == sysModules) = false := by
                  rw [beq_eq_false_iff_ne]
                  exact Nat.ne_of_gt big
                have c1 := c.put (o := .ext (DictX s.heap.objs.size (ps.map ptX))) hT
                have rr : RpKx E.K ((W.put s.heap.objs.size (.ext (DictX s.heap.objs.size (ps.map ptX)))).A P) (W.put s.heap.objs.size (.ext (DictX s.heap.objs.size (ps.map ptX)))).H (ps.map ptX) kvs := hx.up (Wle.put hT).st
                exact ⟨.ref _, _, I.laid (t' := tk) (fun b o e => keep b o List.not_mem_nil e) (Nat.le_refl _) ok, rfl, h _ _ (Wle.put hT) c1 (Rp.dX upd_same (c.away hT) ms nd rr)⟩
          · cases e
        · cases e
      · cases e
    · cases e
  · cases e
end
end TM
end
section
set_option Elab.async false
set_option linter.all false
set_option autoImplicit false
set_option maxRecDepth 100000
set_option maxHeartbeats 1000000
/-! TM: isinstance, methods. -/
namespace TM
open PySem PySem.Spec PyProof.Rows L2
/-! ### isinstance -/
def tyN : PyData → String
  | .none => "NoneType" | .bool _ => "bool" | .int _ => "int" | .str _ => "str" | .list _ => "list" | .tuple _ => "tuple" | .dict _ => "dict"
def tyS : Ty → String
  | .int => "int" | .bool => "bool" | .str => "str" | .tuple => "tuple" | .list => "list" | .dict => "dict"
theorem kit_is (t : Ty) (x : PyData) : kitB (tyN x) (tyS t) = some (isTy t x) := by
  cases x <;> cases t <;> (simp only [tyN, tyS, isTy]; decide +kernel)
theorem kitAny_is {K : PySem.W.Frag} (x : PyData) : ∀ ts : List Ty, PySem.W.kitAny K (.type (tyN x)) (ts.map fun t => Value.type (tyS t)) = some (ts.any fun t => isTy t x)
  | [] => kitAny_nil
  | t :: ts => by
    refine kitAny_cons (b := isTy t x) (kit_ty (kit_is t x)) (fun hb => ?_) fun hb => ?_
    · rw [List.any_cons, hb, Bool.false_or]
      exact kitAny_is x ts
    · rw [List.any_cons, hb, Bool.true_or]
section
variable {E : En} {P : Addr → Prop} {W : Wd} {ρ : Env} {S S' : Store} {σ : L2.St} {Q : VK}
theorem Rp.tyx {A : Addr → Prop} {H : Hp} {u : V} {x : PyData} (r : Rp E.K A H u x) (hs : isDict x = false) : TyX E.K H u (.type (tyN x)) := by
  cases r with
  | non => exact .base .non
  | bl b => exact .base (.bl b)
  | int i => exact .base (.int i)
  | str x => exact .base (.str x)
  | lst h n r => exact .base (.lst h)
  | tup h n r =>
    rcases h with h | ⟨o, h⟩
    · exact .base (.tup h)
    · exact .fTuple h
  | tupK h r =>
    rcases h with (h | ⟨o, h⟩) | ⟨o, its, n, hk, hc, _⟩
    · cases h
    · cases h
    · exact .kTuple hk hc
  | dX h n m d r => exact nomatch hs
  | scrF h n => exact nomatch hs
  | scrK h => exact nomatch hs
theorem Cor.tyx (c : Cor E.K P W ρ S σ) {u : V} {v : MV} (r : RV E.K P W u v) (hs : isScrM v = false) : ∃ x, TyX E.K W.H u (.type (tyN x)) ∧ ∀ ts, isTyM ts v = ts.any fun t => isTy t x := by
  cases v with
  | d x => exact ⟨x, Rp.tyx r hs, fun _ => rfl⟩
  | ref l =>
    obtain ⟨hl, rfl⟩ := r
    have hl' : l < S.length := by rw [← c.n]; exact hl
    obtain ⟨us, e, _⟩ := c.cell l _ (List.getElem?_eq_getElem hl')
    exact ⟨.list [], .base (.lst e), fun _ => rfl⟩
theorem isi1_ok (c : Cor E.K P W ρ S σ) {x : MV} {u : V} (t : Ty) (r : RV E.K P W u x) (hs : isScrM x = false) (q : Q (.bl (isTyM [t] x)) W.H) : CallA E (.builtin "isinstance") [u, .ty (tyS t)] W.H Q := by
  obtain ⟨y, h1, h2⟩ := c.tyx r hs
  rw [h2] at q
  simp only [List.any_cons, List.any_nil, Bool.or_false] at q
  exact CallA.of (fun X _ => call_isi) fun X cx => ⟨u, .ty (tyS t), .type (tyN y), .type (tyS t), _, rfl, .ty _, by rw [cx.K]; exact h1, kit_ty (kit_is t y), q⟩
theorem clsV_all : ∀ ts : List Ty, Paired ClsV (ts.map fun t => V.ty (tyS t)) (ts.map fun t => Value.type (tyS t))
  | [] => .nil
  | t :: ts => .cons (.ty _) (clsV_all ts)
theorem isiT_ok (c : Cor E.K P W ρ S σ) {x : MV} {u : V} (ts : List Ty) (r : RV E.K P W u x) (hs : isScrM x = false) {tp : Addr} (ht : W.H tp = some (.tup (ts.map fun t => V.ty (tyS t)))) (q : Q (.bl (isTyM ts x)) W.H) : CallA E (.builtin "isinstance") [u, .ref tp] W.H Q := by
  obtain ⟨y, h1, h2⟩ := c.tyx r hs
  rw [h2] at q
  exact CallA.of (fun X _ => call_isiT) fun X cx => ⟨u, tp, _, .type (tyN y), _, _, rfl, ht, clsV_all ts, by rw [cx.K]; exact h1, kitAny_is y ts, q⟩
/-! ### methods -/
theorem append_ok (c : Cor E.K P W ρ S σ) {o v : MV} {vs : List MV} {a : V} {us : List V} (ro : RV E.K P W a o) (rs : RVs E.K P W us vs) (e : mtAppend o vs S = some (v, S')) (h : Nx E.K P W ρ σ v S' Q) :
    tyV E.K "list" a W.H ∧ MetA E "list.append" a us W.H Q := by
  unfold mtAppend at e
  split at e
  · rename_i l w
    split at e
    · rename_i cs e1
      split at e
      · rename_i hl
        cases e
        obtain ⟨u, rfl, r1⟩ := rs.one
        obtain ⟨zs, rfl, g, q⟩ := c.refI ro e1
        refine ⟨.inl ⟨rfl, zs, .inl (.inl g)⟩, MetA.of (fun X _ => mt_append) fun X _ => ⟨_, zs, u, rfl, rfl, g, by rw [q.length]; exact hl, ?_⟩⟩
        exact h (W.put (W.μ l) (.lst (zs ++ [u]))) _ (Wle.write ro.1) (c.write ro.1 (q.append (.cons r1 .nil))) .non
      · cases e
    · cases e
  · cases e
def rExtR : V → List V → Hp → VK → Prop := fun x vs H Q => ∃ l b xs zs, x = V.ref l ∧ vs = [V.ref b] ∧ H l = some (.lst xs) ∧ Rd H b (.lst zs) ∧ xs.length + zs.length ≤ sizeLine ∧ Q .non (upd H l (.lst (xs ++ zs)))
theorem mt_extR {X : Cx} : MtR X "list.extend" rExtR := by
  intro pins s σ H x vs v us Q I rx rv ⟨l, b, xs, zs, ex, ev, hl, hb, hz, q⟩
  subst ex ev
  cases rx
  obtain ⟨u, rfl, ru⟩ := Vals.one rv
  cases ru
  obtain ⟨_, i1, n1, r1, z1, g1⟩ := Inv.lstR I (.inl hl)
  obtain ⟨_, i2, n2, r2, z2, g2⟩ := Inv.lstR I hb
  have hs : i1.toArray.size + i2.toArray.size ≤ sizeLine := by
    rw [List.size_toArray, List.size_toArray, ← z1, ← z2]; exact hz
  have hg : ¬ (!i1.toArray.isEmpty && Builtin.List.listTooLong (i1.toArray.size + i2.toArray.size)) = true := by
    rw [notLongL hs, Bool.and_false]
    exact Bool.false_ne_true
  refine call_meets F.slot_list_extend ⟨_, g1, rfl⟩ F.entry_list_extend (F.args_list_extend_2 _ _) (AutoSeq1.list_extend_list_list_0 l i1.toArray n1 b i2.toArray n2 hg (by omega) (by omega)) ⟨g1, g2, ?_⟩
  exact ⟨.non, _, I.lset (its' := i1 ++ i2) hl g1 (by simp) (r1.append r2) (by rw [List.length_append]; exact hz), rfl, q⟩
theorem extend_ok (c : Cor E.K P W ρ S σ) {o v : MV} {vs : List MV} {a : V} {us : List V} (ro : RV E.K P W a o) (rs : RVs E.K P W us vs) (e : mtExtend o vs S = some (v, S')) (h : Nx E.K P W ρ σ v S' Q) :
    tyV E.K "list" a W.H ∧ MetA E "list.extend" a us W.H Q := by
  unfold mtExtend at e
  split at e
  · rename_i l w
    split at e
    · rename_i cs xs e1 e2
      split at e
      · rename_i hl
        cases e
        obtain ⟨u, rfl, r1⟩ := rs.one
        obtain ⟨zs, rfl, g, q⟩ := c.refI ro e1
        obtain ⟨b, ys, rfl, g2, q2⟩ := c.listI r1 e2
        refine ⟨.inl ⟨rfl, zs, .inl (.inl g)⟩, MetA.of (fun X _ => mt_extR) fun X _ => ⟨_, b, zs, ys, rfl, rfl, g, g2, by rw [q.length, q2.length]; exact hl, ?_⟩⟩
        exact h (W.put (W.μ l) (.lst (zs ++ ys))) _ (Wle.write ro.1) (c.write ro.1 (q.append q2)) .non
      · cases e
    · cases e
  · cases e
theorem pop_ok (c : Cor E.K P W ρ S σ) {o v : MV} {vs : List MV} {a : V} {us : List V} (ro : RV E.K P W a o) (rs : RVs E.K P W us vs) (e : mtPop o vs S = some (v, S')) (h : Nx E.K P W ρ σ v S' Q) :
    us = [] ∧ tyV E.K "list" a W.H ∧ MetA E "list.pop" a [] W.H Q := by
  unfold mtPop at e
  split at e
  · rename_i l
    split at e
    · rename_i cs e1
      split at e
      · rename_i w e2
        cases e
        cases rs
        obtain ⟨zs, rfl, g, q⟩ := c.refI ro e1
        rw [← q.length] at e2
        obtain ⟨u, e3, r3⟩ := q.get e2
        refine ⟨rfl, .inl ⟨rfl, zs, .inl (.inl g)⟩, MetA.of (fun X _ => mt_pop) fun X _ => ⟨_, zs, u, rfl, rfl, g, e3, ?_⟩⟩
        exact h (W.put (W.μ l) (.lst zs.dropLast)) _ (Wle.write ro.1) (c.write ro.1 q.dropLast) (r3.up (Wle.write ro.1))
      · cases e
    · cases e
  · cases e
theorem popAt_ok (c : Cor E.K P W ρ S σ) {o v : MV} {vs : List MV} {a : V} {us : List V} (ro : RV E.K P W a o) (rs : RVs E.K P W us vs) (e : mtPopAt o vs S = some (v, S')) (h : Nx E.K P W ρ σ v S' Q) :
    tyV E.K "list" a W.H ∧ MetA E "list.pop" a us W.H Q := by
  unfold mtPopAt at e
  split at e
  · rename_i l i
    split at e
    · rename_i cs e1
      split at e
      · rename_i hl
        split at e
        · rename_i k ek
          split at e
          · rename_i w e2
            cases e
            obtain ⟨u, rfl, r1⟩ := rs.one
            rw [r1.intI]
            obtain ⟨zs, rfl, g, q⟩ := c.refI ro e1
            obtain ⟨u, e3, r3⟩ := q.get e2
            rw [← q.length] at ek
            obtain ⟨k1, k2, k3, k4⟩ := ixN_seq ek
            have hl2 : zs.length ≤ 16777216 := by rw [q.length]; exact hl
            refine ⟨.inl ⟨rfl, zs, .inl (.inl g)⟩, MetA.of (fun X _ => mt_popAt) fun X _ => ⟨_, zs, i, k, u, rfl, rfl, g, by omega, by omega, k1, e3, ?_⟩⟩
            exact h (W.put (W.μ l) (.lst (zs.eraseIdx k))) _ (Wle.write ro.1) (c.write ro.1 (q.eraseIdx k)) (r3.up (Wle.write ro.1))
          · cases e
        · cases e
      · cases e
    · cases e
  · cases e
end
end TM
end
section
set_option Elab.async false
set_option linter.all false
set_option autoImplicit false
set_option maxRecDepth 100000
set_option maxHeartbeats 4000000
/-! TM: sorted of data, empty tuples among them. -/
namespace TM
open PySem PySem.Spec PyProof.Rows L2 PySem.W PySem.SeqAt
section
variable {prog : Program} {w : World} {A : Around} {E : Value → Shared → Prop} {s : Shared}
theorem oneLt_tups {xs ys : List PyData} {a b : Value} {as bs : List Addr} {Q : Bool → Shared → Prop} (ra : Reads s.heap a (.tuple xs) as) (rb : Reads s.heap b (.tuple ys) bs) (hal : alikeAll xs ys = true)
    (hu : A.units + min (PyData.tuple xs).depth (PyData.tuple ys).depth < cLine) (hq : Q (dataLt (.tuple xs) (.tuple ys)) s) : wpAny (model prog w) A (oneLt' true a b) Q E s := by
  cases ra with
  | @tuple l o vs n _ as₁ h1 h2 h3 h4 =>
    cases rb with
    | @tuple l' o' vs' n' _ bs₁ k1 k2 k3 k4 =>
      have n1 : vs.size = xs.length := by simpa using ReadsAll.length _ _ _ h4
      have n2 : vs'.size = ys.length := by simpa using ReadsAll.length _ _ _ k4
      rw [dataLt_tuple, ← firstLt_toks xs ys hal, ← n1, ← n2] at hq
      rw [oneLt'_eq]
      simp only [if_true]
      refine wpAny_bind (wpAny_cRoomFor (room_here hu) ?_)
      obtain ⟨⟨cls, dd, data, sl⟩, e1, c1, m1, d1⟩ : ∃ o : Obj, s.heap.get? l = some o ∧ o.cls = .type "tuple" ∧ ∃ m, o.data = .seq vs m := ⟨o, h1, h2, n, h3⟩
      obtain ⟨⟨cls2, dd2, data2, sl2⟩, e2, c2, m2, d2⟩ : ∃ o : Obj, s.heap.get? l' = some o ∧ o.cls = .type "tuple" ∧ ∃ m, o.data = .seq vs' m := ⟨o', k1, k2, n', k3⟩
      simp only at c1 d1 c2 d2
      subst c1 d1 c2 d2
      refine wpAny_bind (wpAny_callSpecialIfBound?_slot (T := "tuple") ⟨_, h1, h2⟩ F.slot_tuple_lt (call_meets F.slot_tuple_lt ⟨_, e1, rfl⟩ F.entry_tuple_lt (F.args_tuple_lt_2 _ _)
        (tuple_ltAt l l' vs vs' m1 m2 dd dd2 sl sl2 (pairEq xs ys) (fun j => dataLt (xs.getD j .none) (ys.getD j .none))) ⟨e1, e2, fun j j1 j2 => ?_, fun j j1 j2 hj => ?_, ?_⟩))
      · have := eqAt_alikeAll xs ys A.in1 s vs.toList vs'.toList _ _ h4 k4 hal (room_in hu) j (by simpa using j1) (by simpa using j2)
        simpa using this
      · have := rcLt_alikeAll xs ys A.in1 s vs.toList vs'.toList _ _ h4 k4 hal (room_in hu) j (by simpa using j1) (by simpa using j2) hj
        simpa using this
      · exact wpAny_truthy_bool hq
/-- a tuple's first item is looked for -/
theorem first_tup {v : Value} {xs : List PyData} {as : List Addr} {Q : Option Value → Shared → Prop} (r : Reads s.heap v (.tuple xs) as) (h : ∀ o : Option Value, (o.isSome = !xs.isEmpty) → Q o s) : wpAny (model prog w) A (firstOfTuple' v) Q E s := by
  cases r with
  | @tuple l o vs n _ as₁ h1 h2 h3 h4 =>
    rw [kas_first_eq]
    refine wpAny_bind (wpAny_typeOf ⟨o, h1, h2⟩ ?_)
    rw [if_neg (by decide)]
    have n1 : vs.size = xs.length := by simpa using ReadsAll.length _ _ _ h4
    refine wpAny_bind (listItems_at h1 h3 (wpAny_pure (h _ ?_)))
    cases xs with
    | nil =>
      have : vs = #[] := Array.eq_empty_of_size_eq_zero n1
      subst this
      rfl
    | cons x xs =>
      have h0 : 0 < vs.size := by rw [n1]; exact Nat.succ_pos _
      rw [Array.getElem?_eq_getElem h0]
      rfl
theorem firsts_tup {Q : List (Option Value) → Shared → Prop} : ∀ {vs : List Value} {ts : List (List PyData)}, EachIs (fun v t => ∃ as, Reads s.heap v (.tuple t) as) vs ts →
    (∀ os : List (Option Value), os.map Option.isSome = ts.map (fun t => !t.isEmpty) → Q os s) → wpAny (model prog w) A (vs.mapM firstOfTuple') Q E s
  | _, _, .nil, h => by
    rw [List.mapM_nil]
    exact wpAny_pure (h [] rfl)
  | _, _, .cons ⟨as, r⟩ t, h => by
    rw [List.mapM_cons]
    refine wpAny_bind (first_tup r fun o ho => wpAny_bind (firsts_tup t fun os hos => wpAny_pure (h (o :: os) ?_)))
    rw [List.map_cons, List.map_cons, ho, hos]
/-- the kind of keys that are tuples, one of them empty -/
theorem kind_mixed {vs : List Value} {ts : List (List PyData)} (e : EachIs (fun v t => ∃ as, Reads s.heap v (.tuple t) as) vs ts) (h2 : 2 ≤ vs.length) (hm : [] ∈ ts) :
    ∀ (E : Value → Shared → Prop) {Q : SortKind → Shared → Prop}, Q (if (ts.head?.map fun t => !t.isEmpty).getD false then general' else oneType') s → wpAny (model prog w) A (keyKind' vs.toArray) Q E s := by
  intro E Q hq
  rw [keyKind'_eq, List.mapM_toArray, map_eq_pure_bind]
  refine wpAny_bind (wpAny_bind (firsts_tup e fun os hos => wpAny_pure ?_))
  have hall : ¬ ((os.toArray.all fun o => o.isSome) = true) := by
    intro z
    simp only [List.all_toArray, List.all_eq_true] at z
    have hmem : false ∈ ts.map (fun t => !t.isEmpty) := List.mem_map.mpr ⟨[], hm, rfl⟩
    rw [← hos] at hmem
    obtain ⟨o, ho, eo⟩ := List.mem_map.mp hmem
    rw [z o ho] at eo
    cases eo
  rw [if_neg hall]
  have h0 : ((os.toArray[0]?).bind id).isSome = (ts.head?.map fun t => !t.isEmpty).getD false := by
    cases os with
    | nil =>
      cases ts with
      | nil => rfl
      | cons t ts => simp at hos
    | cons o os =>
      cases ts with
      | nil => simp at hos
      | cons t ts =>
        simp only [List.map_cons, List.cons.injEq] at hos
        show o.isSome = _
        rw [hos.1]
        rfl
  rw [h0]
  split
  · rename_i q
    rw [if_pos q] at hq
    exact wpAny_pure hq
  · rename_i q
    rw [if_neg q] at hq
    obtain ⟨v₁, v₂, rest, rfl⟩ : ∃ v₁ v₂ rest, vs = v₁ :: v₂ :: rest := by
      match vs, h2 with
      | [], h2 => simp at h2
      | [_], h2 => simp at h2
      | v₁ :: v₂ :: rest, _ => exact ⟨v₁, v₂, rest, rfl⟩
    rw [oneTypeOnly'_eq, List.mapM_toArray, map_eq_pure_bind]
    refine wpAny_bind (wpAny_bind (wpAny_bind (kas_mapM (r := Value.type "tuple") _ (fun v hv Q' hq' => ?_) (wpAny_pure ?_))))
    · obtain ⟨t, ht, as, r⟩ := e.left v hv
      exact (looks_reads r).here hq'
    · have hall2 : ((List.map (fun _ => Value.type "tuple") (v₁ :: v₂ :: rest)).toArray.all fun x => x == Value.type "tuple") = true := by
        simp only [List.all_toArray, List.all_map, List.all_eq_true]
        intro _ _
        rfl
      have h3 : (List.map (fun _ => Value.type "tuple") (v₁ :: v₂ :: rest)).toArray[0]? = some (Value.type "tuple") := by simp
      rw [h3]
      simp only [hall2, if_true]
      exact wpAny_pure (wpAny_pure hq)
theorem sorts_mixed {vs : List Value} {ts : List (List PyData)} (e : EachIs (fun v t => ∃ as, Reads s.heap v (.tuple t) as) vs ts) (hal : AllAlike (ts.map .tuple)) (hm : [] ∈ ts) (hu : ∀ t, t ∈ ts → A.units + (PyData.tuple t).depth < cLine) :
    SortsAt prog w A s (dataKind s.heap (ts.map .tuple)) vs := by
  refine ⟨fun v hv => ?_, ?_⟩
  · obtain ⟨t, ht, as, r⟩ := e.left v hv
    exact ⟨_, dataKind_some hal (List.mem_map.mpr ⟨t, ht, rfl⟩) r⟩
  · refine ⟨if (ts.head?.map fun t => !t.isEmpty).getD false then general' else oneType', ?_, fun h2 E Q hq => kind_mixed e h2 hm E hq⟩
    intro E x y a b Q ha hb hq
    obtain ⟨d, as, hd, ra, rfl⟩ := dataKind_inv ha
    obtain ⟨d', as', hd', rb, rfl⟩ := dataKind_inv hb
    have hdd := hal d hd d' hd'
    obtain ⟨t, ht, rfl⟩ := List.mem_map.mp hd
    obtain ⟨t', ht', rfl⟩ := List.mem_map.mp hd'
    have room : A.units + min (PyData.tuple t).depth (PyData.tuple t').depth < cLine := Nat.lt_of_le_of_lt (Nat.add_le_add_left (Nat.min_le_left _ _) _) (hu t ht)
    split
    · show wpAny (model prog w) A (oneLt' false x y) Q E s
      exact oneLt_alike (fun z => nomatch z) ra rb hdd (fun z => nomatch z) room hq
    · rw [keyLt'_oneType]
      exact oneLt_tups ra rb (by simpa [alike] using hdd) room hq
theorem tups_of : ∀ {ds : List PyData}, (∀ d ∈ ds, ∃ t, d = .tuple t) → ∃ ts : List (List PyData), ds = ts.map .tuple
  | [], _ => ⟨[], rfl⟩
  | d :: ds, h => by
    obtain ⟨t, rfl⟩ := h d (List.mem_cons_self ..)
    obtain ⟨ts, rfl⟩ := tups_of (ds := ds) fun x hx => h x (List.mem_cons_of_mem _ hx)
    exact ⟨t :: ts, rfl⟩
theorem each_of {R : Value → PyData → Prop} : ∀ {vs : List Value} {ts : List (List PyData)}, EachIs R vs (ts.map .tuple) → EachIs (fun v t => R v (.tuple t)) vs ts
  | _, [], .nil => .nil
  | _, _ :: _, .cons h t => .cons h (each_of t)
theorem sorts_any {vs : List Value} {ds : List PyData} (e : EachIs (fun v d => ∃ as, Reads s.heap v d as) vs ds) (hal : AllAlike ds) (hn : ∀ d ∈ ds, d ≠ .none) (hu : ∀ d, d ∈ ds → A.units + d.depth < cLine) : SortsAt prog w A s (dataKind s.heap ds) vs := by
  by_cases h1 : ∀ d ∈ ds, ∃ t, d = PyData.tuple t
  · obtain ⟨ts, rfl⟩ := tups_of h1
    by_cases hm : [] ∈ ts
    · exact sorts_mixed (each_of e) hal hm fun t ht => hu _ (List.mem_map.mpr ⟨t, ht, rfl⟩)
    · refine SortsAt.data e hal (.inl fun d hd => ?_) hu
      obtain ⟨t, ht, rfl⟩ := List.mem_map.mp hd
      cases t with
      | nil => exact absurd ht hm
      | cons x r => exact ⟨x, r, rfl⟩
  · refine SortsAt.data e hal (.inr fun d hd => ⟨hn d hd, fun xs z => h1 fun d' hd' => ?_⟩) hu
    subst z
    have := hal _ hd d' hd'
    cases d' with
    | tuple t => exact ⟨t, rfl⟩
    | _ => simp [alike] at this
/-- sorted(xs) of alike data -/
theorem sorted_any {l : Addr} {vs : List Value} {bs : List PyData} {R : Value → PyData → Prop} {Q : Value → Shared → Prop} (hl : s.heap.IsList l vs.toArray) (e : EachIs R vs bs) (er : EachIs (fun v b => ∃ as, Reads s.heap v b as) vs bs) (hal : AllAlike bs) (hn : ∀ d ∈ bs, d ≠ .none) (hL : bs.length ≤ sizeLine)
    (hu : ∀ b, b ∈ bs → A.units + 2 + b.depth < cLine) (h : ∀ out, out.length = bs.length → EachIs R out (bs.mergeSort (dataLe false id)) → Q (.ref (s.heap.objs.size + 1)) { s with heap := sortedAll s.heap vs (List.toArray out) }) :
    wpAny (model prog w) A (call (.builtin "sorted") [.ref l]) Q E s := by
  have e1 : EachIs (fun v b => ∃ as, Reads (sortingHeap (copyHeap s.heap vs) (s.heap.objs.size + 1) vs) v b as) vs bs := er.mono fun _ _ ⟨as, r⟩ => ⟨as, PyProof.Rows.Reads.keeps (fun _ _ => sorting_copy_old) r⟩
  have id1 : bs.map id = bs := List.map_id bs
  refine sorted_vals hl (sorts_any (A := A.in1.in1) (s := { s with heap := sortingHeap (copyHeap s.heap vs) (s.heap.objs.size + 1) vs }) e1 hal hn fun d hd => ?_) (by rw [e.length]; exact hL) (h _ ?_ ?_)
  · show A.units + 1 + 1 + d.depth < cLine
    exact hu d hd
  · rw [sortVals_length false rfl]
    exact e.length
  · have q := sortVals_data (enc := id) false e e1 (by rw [id1]; exact hal)
    rw [id1] at q
    exact q
end
section
variable {E : En} {P : Addr → Prop} {W : Wd} {ρ : Env} {S S' : Store} {σ : L2.St} {Q : VK}
theorem each_of_rp {X : Cx} (cx : Ctx E X) {pins : List (Addr × Obj)} {s : Shared} {σ : L2.St} {H : Hp} (I : Inv X pins σ H s) {A : Addr → Prop} : ∀ {us : List V} {xs : List PyData} {its : List Value}, RpAll E.K A H us xs → xs.all sortable = true → Vals us its →
    EachIs (fun v d => ∃ u, RelV u v ∧ Rp E.K A H u d) its xs ∧ EachIs (fun v d => ∃ as, Reads s.heap v d as) its xs
  | _, _, _, .nil, _, .nil => ⟨.nil, .nil⟩
  | _, _, _, .cons r rs, h, .cons q qs => by
    simp only [List.all_cons, Bool.and_eq_true] at h
    obtain ⟨k1, k2⟩ := each_of_rp cx I rs h.2 qs
    have hp : _ := h.1
    simp only [sortable, Bool.and_eq_true] at hp
    exact ⟨.cons ⟨_, q, r⟩ k1, .cons (reads_of cx I r hp.2 q) k2⟩
theorem rp_of_each {A : Addr → Prop} {H : Hp} : ∀ {its : List Value} {xs : List PyData}, EachIs (fun v d => ∃ u, RelV u v ∧ Rp E.K A H u d) its xs → ∃ us, Vals us its ∧ RpAll E.K A H us xs
  | _, _, .nil => ⟨[], .nil, .nil⟩
  | _, _, .cons ⟨u, q, r⟩ t => by
    obtain ⟨us, k1, k2⟩ := rp_of_each t
    exact ⟨u :: us, .cons q k1, .cons r k2⟩
theorem sorted_ok (c : Cor E.K P W ρ S σ) {r : Bool} {vs : List MV} {us : List V} {v : MV} (rs : RVs E.K P W us vs) (e : biSorted r vs S = some (v, S')) (h : Nx E.K P W ρ σ v S' Q) : CallA E (.builtin "sorted") us W.H Q := by
  unfold biSorted at e
  split at e
  · obtain ⟨u, rfl, r1⟩ := rs.one
    split at e
    · rename_i xs e1
      split at e
      · rename_i ys e2
        split at e
        · rename_i hc
          simp only [Bool.and_eq_true] at hc
          obtain ⟨h1, h2⟩ := hc
          obtain ⟨p, us, rfl, g, q⟩ := c.listI r1 e1
          have rp := q.pures e2
          intro X cx pins s σ1 us1 I rv
          rw [Vals.ref1 rv]
          obtain ⟨its, rv1, hl, hz⟩ := I.list (.inl g)
          obtain ⟨k1, k2⟩ := each_of_rp cx I rp h2 rv1
          have hal : AllAlike ys := fun d hd d' hd' => by
            have := List.all_eq_true.mp h1 d hd
            exact List.all_eq_true.mp this d' hd'
          have srt : ∀ d ∈ ys, d ≠ .none ∧ d.depth ≤ 64 := fun d hd => by
            have := List.all_eq_true.mp h2 d hd
            simp only [sortable, Bool.and_eq_true, Bool.not_eq_true', decide_eq_true_eq] at this
            refine ⟨fun z => ?_, this.1.2⟩
            have k := this.1.1
            rw [z, beqD_refl] at k
            cases k
          refine sorted_any hl.isList k1 k2 hal (fun d hd => (srt d hd).1) (by rw [← rp.length]; exact hz) (fun d hd => by have := cx.room.un; have := (srt d hd).2; omega) fun out hlen he => ?_
          obtain ⟨ws, w1, w2⟩ := rp_of_each he
          obtain ⟨hl2, hq⟩ := mkL_new c (RVs.of w2) e h
          obtain ⟨ep, ha⟩ := PyProof.Rows.sortedAll_at s.heap its out.toArray
          exact ⟨.ref _, upd W.H (s.heap.objs.size + 1) (.lst ws), I.laid (t' := s.toks) (fun _ _ => PyProof.Rows.sortedAll_old) (Nat.le_succ _) ⟨hl2, out, ep, w1, ha⟩, rfl, hq _ (I.hok.fresh (Nat.le_succ _))⟩
        · cases e
      · cases e
    · cases e
  · cases e
theorem readsAll_of {h : Heap} : ∀ {its : List Value} {xs : List PyData}, EachIs (fun v d => ∃ as, Reads h v d as) its xs → ∃ as, ReadsAll h its xs as
  | _, _, .nil => ⟨_, .nil⟩
  | _, _, .cons ⟨as, r⟩ t => by
    obtain ⟨bs, k⟩ := readsAll_of t
    exact ⟨_, .cons r k⟩
theorem depthAll_le {n : Nat} : ∀ {xs : List PyData}, (∀ d ∈ xs, d.depth ≤ n) → PyData.depthAll xs ≤ n
  | [], _ => by simp [PyData.depthAll]
  | x :: xs, h => by
    have h1 := h x List.mem_cons_self
    have h2 := depthAll_le fun d hd => h d (List.mem_cons_of_mem _ hd)
    simp only [PyData.depthAll]
    omega
theorem each_at {R : Value → PyData → Prop} : ∀ {vs : List Value} {ds : List PyData}, EachIs R vs ds → ∀ (i : Nat) (v : Value), vs[i]? = some v → ∃ d, ds[i]? = some d ∧ R v d
  | _, _, .nil, i, v, e => by simp at e
  | _, _, .cons h t, 0, v, e => by
    simp only [List.getElem?_cons_zero, Option.some.injEq] at e
    subst e
    exact ⟨_, rfl, h⟩
  | _, _, .cons h t, i + 1, v, e => by
    simp only [List.getElem?_cons_succ] at e ⊢
    exact each_at t i v e
theorem min1_ok (c : Cor E.K P W ρ S σ) {vs : List MV} {us : List V} {v : MV} (rs : RVs E.K P W us vs) (e : biMin1 vs S = some (v, S')) (h : Nx E.K P W ρ σ v S' Q) : CallA E (.builtin "min") us W.H Q := by
  unfold biMin1 at e
  split at e
  · obtain ⟨u, rfl, r1⟩ := rs.one
    split at e
    · rename_i xs e1
      split at e
      · rename_i y ys e2
        split at e
        · rename_i hc
          simp only [Bool.and_eq_true] at hc
          obtain ⟨h1, h2⟩ := hc
          cases e
          obtain ⟨p, us, rfl, g, q⟩ := c.listI r1 e1
          have rp := q.pures e2
          intro X cx pins s σ1 us1 I rv
          rw [Vals.ref1 rv]
          obtain ⟨its, rv1, hl, hz⟩ := I.list (.inl g)
          obtain ⟨k1, k2⟩ := each_of_rp cx I rp h2 rv1
          have srt : ∀ d ∈ y :: ys, d ≠ .none ∧ d.depth ≤ 64 := fun d hd => by
            have := List.all_eq_true.mp h2 d hd
            simp only [sortable, Bool.and_eq_true, Bool.not_eq_true', decide_eq_true_eq] at this
            refine ⟨fun z => ?_, this.1.2⟩
            have k := this.1.1
            rw [z, beqD_refl] at k
            cases k
          have hal : AlikeAll (y :: ys) := ⟨fun d hd d' hd' => by
            have := List.all_eq_true.mp h1 d hd
            exact List.all_eq_true.mp this d' hd', fun d hd => (srt d hd).1⟩
          obtain ⟨as, ra⟩ := readsAll_of k2
          refine min_list_data (I.ok.hd cx.calm) hl.isList (by simpa using ra) hal ?_ fun i w h' tk bs hv hr hk => ?_
          · have := cx.room.un
            have := depthAll_le fun d hd => (srt d hd).2
            omega
          · have hv' : its[i]? = some w := by simpa using hv
            obtain ⟨d, hd, u, ru, rd⟩ := each_at k1 i w hv'
            obtain ⟨d', hd', as', rr⟩ := each_at k2 i w hv'
            rw [hd] at hd'
            cases hd'
            have hd1 : d ∈ y :: ys := List.mem_of_getElem? hd
            have hp : d.plain = true := by
              have := List.all_eq_true.mp h2 d hd1
              simp only [sortable, Bool.and_eq_true] at this
              exact this.2
            have := plain_unique _ _ _ _ _ hp (reads_keeps hk rr) hr
            subst this
            exact ⟨u, W.H, I.kept hk, ru, h.same c rd⟩
        · cases e
      · cases e
    · cases e
  · cases e
end
end TM
end
section
set_option Elab.async false
set_option linter.all false
set_option autoImplicit false
set_option maxRecDepth 100000
set_option maxHeartbeats 3200000
/-! TM: sorted(set(..)) of a list of ints. -/
namespace TM
open PySem PySem.Spec PyProof.Rows L2
/-! ### lists of ints without doubles -/
theorem nubI_mem : ∀ {ns : List Int} {k : Int}, k ∈ nubI ns ↔ k ∈ ns
  | [], k => by simp [nubI]
  | n :: ns, k => by
    rw [nubI, List.mem_cons, List.mem_filter, nubI_mem (ns := ns), List.mem_cons]
    by_cases h : k = n
    · simp [h]
    · simp [h]
theorem nubI_nodup : ∀ ns : List Int, (nubI ns).Nodup
  | [] => List.nodup_nil
  | n :: ns => by
    rw [nubI, List.nodup_cons]
    refine ⟨by simp [List.mem_filter], (nubI_nodup ns).sublist List.filter_sublist⟩
theorem strict_eq : ∀ {xs ys : List Int}, xs.Pairwise (· < ·) → ys.Pairwise (· < ·) → (∀ k, k ∈ xs ↔ k ∈ ys) → xs = ys
  | [], [], _, _, _ => rfl
  | [], y :: ys, _, _, h => absurd ((h y).mpr List.mem_cons_self) (by simp)
  | x :: xs, [], _, _, h => absurd ((h x).mp List.mem_cons_self) (by simp)
  | x :: xs, y :: ys, hx, hy, h => by
    obtain ⟨hx1, hx2⟩ := List.pairwise_cons.mp hx
    obtain ⟨hy1, hy2⟩ := List.pairwise_cons.mp hy
    have e : x = y := by
      rcases List.mem_cons.mp ((h x).mp List.mem_cons_self) with e | m
      · exact e
      · rcases List.mem_cons.mp ((h y).mpr List.mem_cons_self) with e | m'
        · exact e.symm
        · have := hy1 x m
          have := hx1 y m'
          omega
    subst e
    congr 1
    refine strict_eq hx2 hy2 fun k => ⟨fun hk => ?_, fun hk => ?_⟩
    · rcases List.mem_cons.mp ((h k).mp (List.mem_cons_of_mem _ hk)) with e | m
      · have := hx1 k hk
        omega
      · exact m
    · rcases List.mem_cons.mp ((h k).mpr (List.mem_cons_of_mem _ hk)) with e | m
      · have := hy1 k hk
        omega
      · exact m
theorem sortI_strict {ns : List Int} (h : ns.Nodup) : (ns.mergeSort fun a b => decide (a ≤ b)).Pairwise (· < ·) := by
  have h1 := List.pairwise_mergeSort (le := fun a b : Int => decide (a ≤ b)) (fun a b c h1 h2 => by simp only [decide_eq_true_eq] at *; omega) (fun a b => by simp only [Bool.or_eq_true, decide_eq_true_eq]; omega) ns
  have h2 : (ns.mergeSort fun a b => decide (a ≤ b)).Nodup := (List.mergeSort_perm ns _).nodup_iff.mpr h
  have := h1.and h2
  refine this.imp fun {a b} ⟨p, q⟩ => ?_
  simp only [decide_eq_true_eq] at p
  omega
section
variable {P : Program} {w : World} {A : Around} {E : Value → Shared → Prop} {s : Shared}
/-- the new set, nothing in it -/
abbrev set0 (w : World) : Obj := { cls := .type "set", dict := none, data := .set #[] 0 (.fresh 0 0 (!w.params.followText "set-order")) }
set_option maxRecDepth 100000 in
/-- set(v): what its __init__ does with the fresh set -/
theorem set_called {v : Value} {Q : Value → Shared → Prop} (hin : wpAny (model P w) A.in1.in1 (Builtin.«set.__init__» ⟨[.ref s.heap.objs.size, v], []⟩) (fun fin s' => match fin with
        | .done f => wants (fun r s₂ => r = .none ∧ Q (.ref s.heap.objs.size) s₂) E (.ok f) s'
        | .again c' => c'.quiet = true ∧ codeAny (model P w) A.in1 c' (wants (fun r s₂ => r = .none ∧ Q (.ref s.heap.objs.size) s₂) E) s')
      (fun e s' => wants (fun r s₂ => r = .none ∧ Q (.ref s.heap.objs.size) s₂) E (.error e) s') { s with heap := s.heap.push (set0 w) }) : wpAny (model P w) A (call (.type "set") [v]) Q E s := by
  obtain ⟨c, tl, hmro⟩ := F.called_set.mro
  have facts := And.intro F.called_set.made (And.intro F.called_set.sub (And.intro F.called_set.notType F.called_set.canCreate))
  obtain ⟨hmade, hsub, h1, h2⟩ := facts
  have hct := F.typeCall_set_1 v
  refine wpAny_call (codeAny_of_tree ?_)
  show wpAny _ _ (callAny (.type "set") ⟨[v], []⟩) _ _ _
  refine wpAny_pure (And.intro (Code.quiet_builtin _ (by decide +kernel)) (codeAny_builtin F.entry_type_call ?_))
  rw [Around.under_plain (weight_type_call_type "set" [v] []) rfl]
  repeat (any_goals (first | assumption | wp_step))
  have fresh := code_set_led1 (P := P) (w := w) (A := A.in1) (s := s) (E := E) v (Q₁ := fun obj s₁ => obj = .ref s.heap.objs.size ∧ s₁ = { s with heap := s.heap.push (set0 w) }) (And.intro rfl rfl)
  refine codeAny_mono fresh fun r s₁ hr => ?_
  match r, hr with
  | .error e, hr => exact hr
  | .ok .next, hr => exact hr.elim
  | .ok .brk, hr => exact hr.elim
  | .ok .cont, hr => exact hr.elim
  | .ok (.ret obj), hr =>
    obtain ⟨rfl, rfl⟩ := hr
    have hT : Shared.TypeIs { s with heap := s.heap.push (set0 w) } (.ref s.heap.objs.size) "set" := ⟨_, Heap.get?_push_size _ rfl, rfl⟩
    have hli := F.called_set.init.lookup
    have hbi := F.called_set.init.bind (.ref s.heap.objs.size)
    repeat (any_goals (first | assumption | wp_step))
    have inner := codeAny_call_builtin (R := wants (fun r s₂ => r = .none ∧ Q (.ref s.heap.objs.size) s₂) E) F.called_set.init.plain F.entry_set_init (check_set_init_1 hT hin)
    refine codeAny_mono inner fun r₂ s₂ hr₂ => ?_
    match r₂, hr₂ with
    | .error e, hr₂ => exact hr₂
    | .ok .next, hr₂ => exact hr₂.elim
    | .ok .brk, hr₂ => exact hr₂.elim
    | .ok .cont, hr₂ => exact hr₂.elim
    | .ok (.ret r), hr₂ =>
      obtain ⟨rfl, hq⟩ := hr₂
      repeat (any_goals (first | assumption | wp_step))
theorem set_of_list {l : Addr} {items : Array Value} {ns : List Int} {Q : Value → Shared → Prop} (hit : IntsAre items.toList ns) (hl : s.heap.IsList l items) (hh : A.handled = none) (hb : ns.length + 1 < scanBound)
    (h : ∀ (h' : Heap) (tk c : Nat), (∀ b o, s.heap.get? b = some o → h'.get? b = some o) → SetR w h' s.heap.objs.size (fun j => decide (j ∈ ns)) c → Q (.ref s.heap.objs.size) { s with heap := h', toks := tk }) :
    wpAny (model P w) A (call (.type "set") [.ref l]) Q E s := by
  have many : items.size = ns.length := by
    have := hit.length
    rwa [Array.length_toList] at this
  refine set_called ?_
  have hS : (s.heap.push (set0 w)).get? s.heap.objs.size = some (set0 w) := Heap.get?_push_size _ rfl
  obtain ⟨ol, hol, hcl, nl, hdl⟩ := hl
  obtain ⟨ocls, odict, odata, oslots⟩ := ol
  cases (show ocls = _ from hcl)
  cases (show odata = _ from hdl)
  have old := Heap.get?_push_of_some (set0 w) hol
  have facts := And.intro F.sub_list_set F.sub_list_frozenset
  obtain ⟨hsls, hslf⟩ := facts
  have hne : (Value.type "list" == Value.type "dict") = false := by decide
  have lst : (s.heap.push (set0 w)).IsList l items := ⟨_, old, rfl, nl, rfl⟩
  unfold Builtin.«set.__init__» noKeywords Builtin.Frozenset.updateFrom
  generalize hIt : pyIter = It
  wp_walk
  subst hIt
  refine wpAny_pyIter_list lst ?_
  refine wpAny_bind (wpAny_runValue ?_)
  have below : l < s.heap.objs.size := Heap.lt_size hol
  have apart : l ≠ (s.heap.push (set0 w)).objs.size := by
    rw [Heap.size_push]
    exact Nat.ne_of_lt (Nat.lt_succ_of_lt below)
  have notin : s.heap.objs.size ∉ [(s.heap.push (set0 w)).objs.size, l] := by
    rw [Heap.size_push]
    simp only [List.mem_cons, List.not_mem_nil, or_false, not_or]
    exact And.intro (Nat.ne_of_lt (Nat.lt_succ_self _)) (Nat.ne_of_gt below)
  have vals : ∀ (i : Nat) (v : Value), items[i]? = some v → ∃ k t, ns[i]? = some k ∧ v = .int k t := fun i v hv => by
    have hi : i < ns.length := by
      rw [← many]
      exact (Array.getElem?_eq_some_iff.mp hv).1
    obtain ⟨t, e⟩ := PyProof.Rows.IntsAre.int_at hit i v (by rw [Array.getElem?_toList]; exact hv)
    rw [List.getD_eq_getElem?_getD, List.getElem?_eq_getElem hi] at e
    exact ⟨ns[i], t, List.getElem?_eq_getElem hi, e⟩
  have start : ((s.heap.push (set0 w)).push { cls := .type "list_iterator", data := .fields #[.ref l, .int 0 0] }).get? s.heap.objs.size = some (set0 w) := Heap.get?_push_of_some _ hS
  have ends : A.in1.in1.in1.handled = none := by simp [hh]
  refine set_update_ints ((Walks.list ends _ l apart items).toS) s.heap.objs.size notin ns many hb vals (items.size - 0) 0 _ (by omega) (Nat.zero_le _) ⟨⟨_, Heap.get?_push_size _ rfl, rfl, rfl⟩, (lst.push _)⟩ ⟨0, Nat.le_refl 0, setR_new_at start⟩ fun s' c' hm hc' hS' => ?_
  obtain ⟨h', g2, d', tk', os'⟩ := s'
  cases (show g2 = s.gens from hm.gens)
  cases (show d' = s.drawn from hm.drawn)
  cases (show os' = s.os from hm.os)
  show wpAny _ _ _ _ _ _
  refine wpAny_pure ?_
  show wpAny _ _ (ret Value.none) _ _ _
  refine wpAny_pure ⟨rfl, h h' tk' c' (fun b o e => ?_) hS'⟩
  have hb0 : b < s.heap.objs.size := Heap.lt_size e
  refine hm.heap b o ?_ (Heap.get?_push_of_some _ (Heap.get?_push_of_some _ e))
  rw [Heap.size_push]
  simp only [List.mem_cons, List.not_mem_nil, or_false, not_or]
  exact And.intro (Nat.ne_of_lt hb0) (Nat.ne_of_lt (Nat.lt_succ_of_lt hb0))
theorem set_of_tuple {l : Addr} {items : Array Value} {ns : List Int} {Q : Value → Shared → Prop} (hit : IntsAre items.toList ns) (hl : s.heap.IsTuple l items) (hh : A.handled = none) (hb : ns.length + 1 < scanBound)
    (h : ∀ (h' : Heap) (tk c : Nat), (∀ b o, s.heap.get? b = some o → h'.get? b = some o) → SetR w h' s.heap.objs.size (fun j => decide (j ∈ ns)) c → Q (.ref s.heap.objs.size) { s with heap := h', toks := tk }) :
    wpAny (model P w) A (call (.type "set") [.ref l]) Q E s := by
  have many : items.size = ns.length := by
    have := hit.length
    rwa [Array.length_toList] at this
  refine set_called ?_
  have hS : (s.heap.push (set0 w)).get? s.heap.objs.size = some (set0 w) := Heap.get?_push_size _ rfl
  obtain ⟨ol, hol, hcl, nl, hdl⟩ := hl
  obtain ⟨ocls, odict, odata, oslots⟩ := ol
  cases (show ocls = _ from hcl)
  cases (show odata = _ from hdl)
  have old := Heap.get?_push_of_some (set0 w) hol
  have facts := And.intro F.sub_tuple_set F.sub_tuple_frozenset
  obtain ⟨hsls, hslf⟩ := facts
  have hne : (Value.type "tuple" == Value.type "dict") = false := by decide
  have lst : (s.heap.push (set0 w)).IsTuple l items := ⟨_, old, rfl, nl, rfl⟩
  unfold Builtin.«set.__init__» noKeywords Builtin.Frozenset.updateFrom
  generalize hIt : pyIter = It
  wp_walk
  subst hIt
  refine wpAny_pyIter_tuple lst ?_
  refine wpAny_bind (wpAny_runValue ?_)
  have below : l < s.heap.objs.size := Heap.lt_size hol
  have apart : l ≠ (s.heap.push (set0 w)).objs.size := by
    rw [Heap.size_push]
    exact Nat.ne_of_lt (Nat.lt_succ_of_lt below)
  have notin : s.heap.objs.size ∉ [(s.heap.push (set0 w)).objs.size, l] := by
    rw [Heap.size_push]
    simp only [List.mem_cons, List.not_mem_nil, or_false, not_or]
    exact And.intro (Nat.ne_of_lt (Nat.lt_succ_self _)) (Nat.ne_of_gt below)
  have vals : ∀ (i : Nat) (v : Value), items[i]? = some v → ∃ k t, ns[i]? = some k ∧ v = .int k t := fun i v hv => by
    have hi : i < ns.length := by
      rw [← many]
      exact (Array.getElem?_eq_some_iff.mp hv).1
    obtain ⟨t, e⟩ := PyProof.Rows.IntsAre.int_at hit i v (by rw [Array.getElem?_toList]; exact hv)
    rw [List.getD_eq_getElem?_getD, List.getElem?_eq_getElem hi] at e
    exact ⟨ns[i], t, List.getElem?_eq_getElem hi, e⟩
  have start : ((s.heap.push (set0 w)).push { cls := .type "tuple_iterator", data := .fields #[.ref l, .int 0 0] }).get? s.heap.objs.size = some (set0 w) := Heap.get?_push_of_some _ hS
  have ends : A.in1.in1.in1.handled = none := by simp [hh]
  refine set_update_ints ((Walks.tuple ends _ l apart items).toS) s.heap.objs.size notin ns many hb vals (items.size - 0) 0 _ (by omega) (Nat.zero_le _) ⟨⟨_, Heap.get?_push_size _ rfl, rfl, rfl⟩, (lst.push _)⟩ ⟨0, Nat.le_refl 0, setR_new_at start⟩ fun s' c' hm hc' hS' => ?_
  obtain ⟨h', g2, d', tk', os'⟩ := s'
  cases (show g2 = s.gens from hm.gens)
  cases (show d' = s.drawn from hm.drawn)
  cases (show os' = s.os from hm.os)
  show wpAny _ _ _ _ _ _
  refine wpAny_pure ?_
  show wpAny _ _ (ret Value.none) _ _ _
  refine wpAny_pure ⟨rfl, h h' tk' c' (fun b o e => ?_) hS'⟩
  have hb0 : b < s.heap.objs.size := Heap.lt_size e
  refine hm.heap b o ?_ (Heap.get?_push_of_some _ (Heap.get?_push_of_some _ e))
  rw [Heap.size_push]
  simp only [List.mem_cons, List.not_mem_nil, or_false, not_or]
  exact And.intro (Nat.ne_of_lt hb0) (Nat.ne_of_lt (Nat.lt_succ_of_lt hb0))
end
section
variable {E : En} {P : Addr → Prop} {W : Wd} {ρ : Env} {S S' : Store} {σ : L2.St} {Q : VK}
/-- set(..) of a list of ints -/
def rSetOf (K : PySem.W.Frag) (w : World) : List V → Hp → VK → Prop := fun xs H Q => ∃ (a : Addr) (ns : List Int), xs = [V.ref a] ∧ (Rd H a (.lst (ns.map V.int)) ∨ SqT K H a (ns.map V.int)) ∧ ns.length < 4000 ∧ ∀ p, H p = none → Q (.ref p) (upd H p (SetO w p (fun j => decide (j ∈ ns)) (nubI ns).length))
theorem setR_len {w : World} {h : Heap} {a : Addr} {ns : List Int} {c : Nat} (R : SetR w h a (fun j => decide (j ∈ ns)) c) : c = (nubI ns).length := by
  obtain ⟨o, es, ep, t, _, _, _, _, nd, hm, _, _, hn, _⟩ := R
  have pm : (es.toList.map keyOf).Perm (nubI ns) := (List.perm_ext_iff_of_nodup nd (nubI_nodup ns)).mpr fun k => by
    rw [← hm k, nubI_mem, decide_eq_true_eq]
  rw [← hn, ← pm.length_eq, List.length_map, Array.length_toList]
theorem ints_val : ∀ {ns : List Int} {us : List Value}, Vals (ns.map V.int) us → IntsAre us ns
  | [], [], .nil => .nil
  | n :: ns, _ :: us, .cons r rr => by
    obtain ⟨t, e⟩ := r
    subst e
    exact .cons n t (ints_val rr)
theorem cr_setL {X : Cx} (hc : X.calm = true) : CallR X (.type "set") (rSetOf X.K X.w) := by
  intro pins s σ H xs us Q I r ⟨a, ns, ex, hl, hb, q⟩
  subst ex
  rw [Vals.ref1 r]
  have hn : H s.heap.objs.size = none := I.hok.fresh (Nat.le_refl _)
  rcases hl with hl | hl
  · obtain ⟨z, its, n, rv, hlen, e⟩ := Inv.lstR I hl
    refine set_of_list (ns := ns) (items := its.toArray) (ints_val rv) ⟨_, e, rfl, _, rfl⟩ (I.ok.hd hc) (by unfold scanBound; omega) fun h' tk c k R => ?_
    rw [setR_len R] at R
    exact ⟨.ref _, _, I.laid (t' := tk) k (Nat.le_refl _) (setO_new R), rfl, q _ hn⟩
  · obtain ⟨its, rv, e, _⟩ := I.tuple hl
    refine set_of_tuple (ns := ns) (items := its.toArray) (ints_val rv) e (I.ok.hd hc) (by unfold scanBound; omega) fun h' tk c k R => ?_
    rw [setR_len R] at R
    exact ⟨.ref _, _, I.laid (t' := tk) k (Nat.le_refl _) (setO_new R), rfl, q _ hn⟩
theorem sset_ok (c : Cor E.K P W ρ S σ) {r : Bool} {x v : MV} {a : V} (rx : RV E.K P W a x) (e : biSortedSet r [x] S = some (v, S')) (h : Nx E.K P W ρ σ v S' Q) : CallA E (.type "set") [a] W.H (fun y H1 => CallA E (.builtin "sorted") [y] H1 Q) := by
  unfold biSortedSet at e
  simp only at e
  split at e
  · rename_i xs e1
    split at e
    · rename_i ns e2
      split at e
      · rename_i hc
        simp only [Bool.and_eq_true, decide_eq_true_eq] at hc
        obtain ⟨p, us, rfl, g, q⟩ := c.itemsI rx e1
        have hus := q.intsI e2
        subst hus
        refine CallA.of (fun X cx => cr_setL cx.calm) fun X cx => ⟨p, ns, rfl, g.elim (fun z => .inl z.2) (fun z => .inr (by rw [cx.K]; exact z.2)), hc.1, fun T hT => ?_⟩
        have c1 := c.put (o := SetO X.w T (fun j => decide (j ∈ ns)) (nubI ns).length) hT
        refine CallA.of (fun X cx => cr_sortedSet cx.calm) fun X' cx' => ⟨T, _, _, rfl, by rw [cx'.w, ← cx.w]; exact upd_same, hc.2, fun ms p hs hm hl hp => ?_⟩
        have em : ms = (nubI ns).mergeSort fun a b => decide (a ≤ b) := strict_eq hs (sortI_strict (nubI_nodup ns)) fun k => by
          rw [hm k, decide_eq_true_eq, (List.mergeSort_perm _ _).mem_iff, nubI_mem]
        rw [em]
        have rz : ∀ zs : List Int, RVs E.K P (W.put T (SetO X.w T (fun j => decide (j ∈ ns)) (nubI ns).length)) (zs.map V.int) (zs.map fun n => .d (.int n)) := fun zs => by
          induction zs with
          | nil => exact .nil
          | cons z zs ih => exact .cons (.int z) ih
        exact (mkL_new c1 (rz _) e fun W' u w' c' r' => h W' u ((Wle.put hT).trans w') c' r').2 p hp
      · cases e
    · cases e
  · cases e
end
end TM
end
section
set_option Elab.async false
set_option linter.all false
set_option autoImplicit false
set_option maxRecDepth 100000
/-! TM: the machine's syntax is that of the text. -/
namespace TM
open PySem L2
structure Gs where
  tab : List Fi
  glo : List (Str × PyData)
  bi : List Str
  kw : List (Nat × List Str × List Nat)
def visB (sc : Scope) (x : Str) : Bool := match sc.names.lookup x with
  | some .local => true
  | some .cell => true
  | some .free => true
  | _ => false
def locB (sc : Scope) (x : Str) : Bool := match sc.names.lookup x with
  | some .local => true
  | some .cell => true
  | _ => false
def glB (sc : Scope) (x : Str) : Bool := decide (sc.names.lookup x = some .globalImplicit) && !(x == ("__debug__" : Str))
def okB (x : Str) : Bool := !(x == ("__debug__" : Str)) && !(x == ("__classdict__" : Str))
def biB (g : Gs) (sc : Scope) (x name : Str) : Bool := decide (x = name) && glB sc x && g.bi.contains x
def relSc (scope sc : Scope) : Scope := relS scope sc
def ownOf (N : List Str) (own : List Nat) : List (Str × Nat) := own.map fun i => ((N[i]?).getD Str.empty, i)
def constB : PyData → Const → Bool
  | .none, .none => true
  | .bool a, .bool b => decide (a = b)
  | .int a, .int b => decide (a = b)
  | .str a, .str b => decide (a = b)
  | _, _ => false
def isSetE : Expr → Bool
  | .Set .. => true
  | _ => false
def isSliceE : Expr → Bool
  | .Slice .. => true
  | _ => false
def starB : Expr → Bool
  | .Starred .. => true
  | _ => false
/-- tests that are told apart -/
def oddT : Expr → Bool
  | .UnaryOp .Not _ _ => true
  | .BoolOp .. => true
  | .IfExp .. => true
  | .Compare .. => true
  | _ => false
def tyB : Ty → Expr → Bool
  | t, .Name x _ => decide (x = (Str.ofString (tyS t)))
  | _, _ => false
def tysB (g : Gs) (sc : Scope) : List Ty → List Expr → Bool
  | [], [] => true
  | t :: ts, .Name x _ :: es => biB g sc x (Str.ofString (tyS t)) && tysB g sc ts es
  | _, _ => false
def lcB : Expr → Bool
  | .ListComp .. => true
  | .SetComp .. => true
  | .DictComp .. => true
  | _ => false
def biN : Bi → String
  | .len => "len" | .tuple => "tuple" | .list => "list" | .sorted => "sorted" | .all => "all" | .any => "any" | .sum => "sum" | .abs => "abs" | .max2 => "max" | .min2 => "min" | .divmod => "divmod"
  | .int => "int" | .repr => "repr" | .isi _ => "isinstance" | .max1 => "max" | .min1 => "min" | .str => "str" | .sortedSet => "sorted" | .lenSet => "len" | .listRange => "list" | .tupRange => "tuple" | .dictT => "dict"
/-- built-ins that are called with their arguments' values -/
def plainBi : Bi → Bool
  | .len | .tuple | .list | .sorted | .all | .any | .sum | .abs | .max2 | .min2 | .min1 | .divmod | .int | .repr | .dictT => true
  | _ => false
def mtN : Mt → String
  | .append => "append" | .extend => "extend" | .pop => "pop" | .popAt => "pop" | .index => "index"
/-- the receiver of a method: no call of a name without arguments -/
def recvB : Expr → Bool
  | .Name .. => true
  | .Subscript .. => true
  | _ => false
mutual
def chkE (g : Gs) (N : List Str) : Ex → Scope → Scope → Expr → Bool
  | .v i, sc, _, x => match x with
    | .Name x _ => decide (N[i]? = some x) && visB sc x && okB x
    | _ => false
  | .c d, _, _, x => match x with
    | .Constant k _ _ => constB d k
    | _ => false
  | .g x d, sc, _, e => match e with
    | .Name y _ => decide (x = y) && glB sc y && g.glo.any fun p => decide (p.1 = x) && beqD p.2 d
    | _ => false
  | .tup es, sc, own, x => match x with
    | .Tuple xs _ _ => chkEs g N es sc own xs
    | _ => false
  | .lst _ es, sc, own, x => match x with
    | .List xs _ => chkEs g N es sc own xs
    | _ => false
  | .bin _ o a b, sc, own, x => match x with
    | .BinOp l o' r _ => decide (opOf o = o') && chkE g N a sc own l && chkE g N b sc own r
    | _ => false
  | .neg a, sc, own, x => match x with
    | .UnaryOp .USub x _ => chkE g N a sc own x
    | _ => false
  | .cmp o a b, sc, own, x => match x with
    | .Compare l [o'] [r] _ => decide (cpOf o = o') && chkE g N a sc own l && chkE g N b sc own r && !isSetE r
    | _ => false
  | .chain o p a b c, sc, own, x => match x with
    | .Compare l [o', p'] [m, r] _ => decide (cpOf o = o') && decide (cpOf p = p') && chkE g N a sc own l && chkE g N b sc own m && chkE g N c sc own r && !isSetE r
    | _ => false
  | .and a b, sc, own, x => match x with
    | .BoolOp .And (x :: y :: r) pos => chkE g N a sc own x && (match r with | [] => chkE g N b sc own y | z :: r => chkE g N b sc own (.BoolOp .And (y :: z :: r) pos))
    | _ => false
  | .or a b, sc, own, x => match x with
    | .BoolOp .Or (x :: y :: r) pos => chkE g N a sc own x && (match r with | [] => chkE g N b sc own y | z :: r => chkE g N b sc own (.BoolOp .Or (y :: z :: r) pos))
    | _ => false
  | .not a, sc, own, x => match x with
    | .UnaryOp .Not x _ => chkE g N a sc own x
    | _ => false
  | .ife t a b, sc, own, x => match x with
    | .IfExp c x y _ => chkT g N t sc own c && chkE g N a sc own x && chkE g N b sc own y
    | _ => false
  | .idx a i, sc, own, x => match x with
    | .Subscript x y _ => chkE g N a sc own x && chkE g N i sc own y && !isSliceE y
    | _ => false
  | .sli _ a lo hi, sc, own, x => match x with
    | .Subscript x (.Slice l h none _) _ => chkE g N a sc own x && (match l with | none => isNil lo | some e => !isNil lo && chkE g N lo sc own e) && (match h with | none => isNil hi | some e => !isNil hi && chkE g N hi sc own e)
    | _ => false
  | .nil, _, _, _ => false
  | .rev _ a, sc, own, x => match x with
    | .Subscript x (.Slice none none (some (.UnaryOp .USub (.Constant (.int 1) _ _) _)) _) _ => chkE g N a sc own x
    | _ => false
  | .call _ f _ _ ks perm es, sc, own, x => match x with
    | .Call (.Name x _) args kws _ => (match g.tab[f]? with | some fi => decide (fi.name = x) | none => false) && glB sc x && okB x &&
        (if ks.isEmpty then kws.isEmpty && !args.isEmpty && chkEs g N es sc own args
         else args.isEmpty && g.kw.any (fun p => decide (p = (f, ks, perm))) && decide (kws.map (·.arg) = ks.map some) && chkEs g N es sc own (kws.map (·.value)))
    | _ => false
  | .bi b _ es, sc, own, x => match x with
    | .Call (.Name x _) args [] _ => (match b with
      | .isi ts => biB g sc x "isinstance" && (match args with
        | [a, c] => chkEs g N es sc own [a] && (match c with
          | .Tuple bs _ _ => tysB g sc ts bs && decide (ts.length ≤ 64)
          | c => tysB g sc ts [c] && decide (ts.length = 1))
        | _ => false)
      | .sortedSet => biB g sc x "sorted" && (match args with
        | [.Call (.Name y _) [a] [] _] => biB g sc y "set" && chkEs g N es sc own [a]
        | _ => false)
      | .listRange => biB g sc x "list" && (match args with
        | [.Call (.Name y _) as [] _] => biB g sc y "range" && chkEs g N es sc own as && (match as with
          | [_] => true
          | [_, _] => true
          | _ => false)
        | _ => false)
      | .tupRange => biB g sc x "tuple" && (match args with
        | [.Call (.Name y _) as [] _] => biB g sc y "range" && chkEs g N es sc own as && (match as with
          | [_] => true
          | [_, _] => true
          | _ => false)
        | _ => false)
      | b => plainBi b && biB g sc x (Str.ofString (biN b)) && !args.isEmpty && chkEs g N es sc own args)
    | _ => false
  | .met m _ o es, sc, own, x => match x with
    | .Call (.Attribute x name ap) args [] cp => decide (name = Str.ofString (mtN m)) && chkE g N o sc own x && (ap.endLine == cp.line) && recvB x &&
        chkEs g N es sc own args && (match m, args with
        | .pop, [] => true
        | .append, [_] => true
        | .extend, [_] => true
        | .popAt, [_] => true
        | _, _ => false)
    | _ => false
  | .lc _ ow t it q e, sc, own, x => match x with
    | .ListComp elt [⟨tg, iter, ifs, 0⟩] scope _ => !isSetE iter && blkC N sc scope (ownOf N ow) && chkI g N it sc own tg iter && tgIn ow t && chkG g N t (relSc scope sc) scope tg && chkE g N e (relSc scope sc) scope elt &&
      (match ifs with | [] => (match q with | .tt => true | _ => false) | [c] => chkT g N q (relSc scope sc) scope c | _ => false)
    | _ => false
def chkT (g : Gs) (N : List Str) : Ts → Scope → Scope → Expr → Bool
  | .and a b, sc, own, x => match x with
    | .BoolOp .And (x :: y :: r) pos => chkT g N a sc own x && (match r with | [] => chkT g N b sc own y | z :: r => chkT g N b sc own (.BoolOp .And (y :: z :: r) pos))
    | _ => false
  | .or a b, sc, own, x => match x with
    | .BoolOp .Or (x :: y :: r) pos => chkT g N a sc own x && (match r with | [] => chkT g N b sc own y | z :: r => chkT g N b sc own (.BoolOp .Or (y :: z :: r) pos))
    | _ => false
  | .not a, sc, own, x => match x with
    | .UnaryOp .Not x _ => chkT g N a sc own x
    | _ => false
  | .cmp o a b, sc, own, x => match x with
    | .Compare l [o'] [r] _ => decide (cpOf o = o') && chkE g N a sc own l && chkE g N b sc own r && !isSetE r
    | _ => false
  | .chain o p a b c, sc, own, x => match x with
    | .Compare l [o', p'] [m, r] _ => decide (cpOf o = o') && decide (cpOf p = p') && chkE g N a sc own l && chkE g N b sc own m && chkE g N c sc own r && !isSetE r
    | _ => false
  | .e x, sc, own, e => chkE g N x sc own e && !oddT e
  | .tt, _, _, _ => false
def chkEs (g : Gs) (N : List Str) : Exs → Scope → Scope → List Expr → Bool
  | .nil, _, _, xs => match xs with
    | [] => true
    | _ => false
  | .cons e es, sc, own, xs => match xs with
    | x :: xs => chkE g N e sc own x && !starB x && chkEs g N es sc own xs
    | _ => false
def chkI (g : Gs) (N : List Str) : It → Scope → Scope → Expr → Expr → Bool
  | .seq e, sc, own, _, x => chkE g N e sc own x
  | .rng es, sc, own, _, x => match x with
    | .Call (.Name x _) args [] _ => biB g sc x "range" && chkEs g N es sc own args && (match args with
      | [_] => true
      | [_, _] => true
      | _ => false)
    | _ => false
  | .zip a b, sc, own, tg, x => match tg, x with
    | .Tuple .., .Call (.Name x _) [l, r] [] _ => biB g sc x "zip" && chkE g N a sc own l && chkE g N b sc own r && !starB l && !starB r
    | _, _ => false
  | .enum a, sc, own, tg, x => match tg, x with
    | .Tuple .., .Call (.Name x _) [l] [] _ => biB g sc x "enumerate" && chkE g N a sc own l && !starB l
    | _, _ => false
def chkG (g : Gs) (N : List Str) : Tg → Scope → Scope → Expr → Bool
  | .nm i, _, own, x => match x with
    | .Name x _ => decide (N[i]? = some x) && locB own x
    | _ => false
  | .sub o i, sc, own, x => match x with
    | .Subscript x y _ => chkE g N o sc own x && chkE g N i sc own y && !isSliceE y
    | _ => false
  | .tp ts, sc, own, x => match x with
    | .Tuple xs _ _ => chkGs g N ts sc own xs
    | _ => false
def chkGs (g : Gs) (N : List Str) : Tgs → Scope → Scope → List Expr → Bool
  | .nil, _, _, xs => match xs with
    | [] => true
    | _ => false
  | .cons t ts, sc, own, xs => match xs with
    | x :: xs => chkG g N t sc own x && !starB x && chkGs g N ts sc own xs
    | _ => false
/-- only names of own -/
def tgIn (own : List Nat) : Tg → Bool
  | .nm i => own.contains i
  | .sub _ _ => false
  | .tp ts => tgsIn own ts
def tgsIn (own : List Nat) : Tgs → Bool
  | .nil => true
  | .cons t ts => tgIn own t && tgsIn own ts
end
/-! statements -/
def noNames (ts : List Expr) : Bool := ts.any fun t => match t with | .Name .. => false | _ => true
def locS (sc : Scope) (x : Str) : Bool := decide (sc.names.lookup x = some .local)
def notLoc (sc : Scope) : Expr → Bool
  | .Name y _ => !locS sc y
  | _ => true
/-- the values go through a real tuple -/
def realTup (sc : Scope) (ts vs : List Expr) : Bool := vs.all (foldedForSure 8) || !(ts.length == 2 || ts.length == 3) || noNames ts || ts.any (notLoc sc)
mutual
def chkS (g : Gs) (N : List Str) : Sm → Scope → Stmt → Bool
  | .set t e, sc, x => match x with
    | .Assign [.Name y py] v _ => chkG g N t sc sc (.Name y py) && chkE g N e sc sc v && (match v with
      | .ListComp _ _ scope lp => if locS sc y then (py.line == lp.line) && locS sc y && !(scope.names.any fun (n, k) => n == y && (k == .local || k == .cell)) else true
      | v => !lcB v)
    | .Assign [.Tuple ts k p] v _ => chkG g N t sc sc (.Tuple ts k p) && chkE g N e sc sc v && (match v with
      | .Tuple vs _ _ => realTup sc ts vs
      | _ => true)
    | .Assign [.Subscript o i p] v _ => chkG g N t sc sc (.Subscript o i p) && chkE g N e sc sc v
    | _ => false
  | .par is es, sc, x => match x with
    | .Assign [.Tuple [.Name y1 p1, .Name y2 p2] _ _] (.Tuple [a, b] _ _) _ => (match is with
      | [i, j] => decide (N[i]? = some y1) && decide (N[j]? = some y2) && decide (i ≠ j) && locS sc y1 && locS sc y2 && (p2.line == p1.line) && !(y2 == y1) && !([a, b].all (foldedForSure 8)) && !([a, b].all (constantsAlone 8)) && chkEs g N es sc sc [a, b] && !starB a && !starB b
      | _ => false)
    | .Assign [.Tuple [.Name y1 p1, .Name y2 p2, .Name y3 p3] _ _] (.Tuple [a, b, c] _ _) _ => (match is with
      | [i, j, k] => decide (N[i]? = some y1) && decide (N[j]? = some y2) && decide (N[k]? = some y3) && decide (i ≠ j) && decide (i ≠ k) && decide (j ≠ k) && locS sc y1 && locS sc y2 && locS sc y3 && (p2.line == p1.line) && (p3.line == p1.line) &&
          !(y2 == y1) && !(y3 == y1) && !(y3 == y2) && !([a, b, c].all (foldedForSure 8)) && !([a, b, c].all (constantsAlone 8)) && chkEs g N es sc sc [a, b, c] && !starB a && !starB b && !starB c
      | _ => false)
    | _ => false
  | .parT ts es, sc, x => match x with
    | .Assign [.Tuple xs _ _] (.Tuple vs _ _) _ => chkGs g N ts sc sc xs && chkEs g N es sc sc vs && realTup sc xs vs
    | _ => false
  | .ex e, sc, x => match x with
    | .Expr v _ => chkE g N e sc sc v && !lcB v
    | _ => false
  | .ifs t a b, sc, x => match x with
    | .If c p q _ => chkT g N t sc sc c && chkSs g N a sc p && chkSs g N b sc q
    | _ => false
  | .fr t it b, sc, x => match x with
    | .For tg iter body [] _ => chkG g N t sc sc tg && chkI g N it sc sc tg iter && chkSs g N b sc body && !isSetE iter
    | _ => false
  | .whl _ t b, sc, x => match x with
    | .While c body [] _ => chkT g N t sc sc c && chkSs g N b sc body
    | _ => false
  | .ret e, sc, x => match x with
    | .Return (some v) _ => chkE g N e sc sc v
    | .Return none _ => (match e with | .c .none => true | _ => false)
    | _ => false
  | .pass, _, x => match x with
    | .Pass _ => true
    | .Expr (.Constant (.str _) _ _) _ => true
    | _ => false
  | .brk, _, x => match x with
    | .Break _ => true
    | _ => false
  | .cont, _, x => match x with
    | .Continue _ => true
    | _ => false
  | .never, _, _ => true
def chkSs (g : Gs) (N : List Str) : Sms → Scope → List Stmt → Bool
  | .nil, _, xs => match xs with
    | [] => true
    | _ => false
  | .cons s ss, sc, xs => match xs with
    | x :: xs => chkS g N s sc x && chkSs g N ss sc xs
    | _ => false
end
end TM
end
section
set_option Elab.async false
set_option linter.all false
set_option autoImplicit false
set_option maxRecDepth 100000
set_option maxHeartbeats 1000000
/-! TM: the weakest readings of expressions, and when the machine's answer is one. -/
namespace TM
open PySem PySem.Spec PyProof.Rows L2
abbrev CxP := Cx → Prop
def TEw (Γ : CxP) (e : Expr) : TE := fun σ H Q => ∀ X, Γ X → ∀ (pins : List (Addr × Obj)) (s : Shared), Inv X pins σ H s → wpAny (model X.prog X.w) X.A (eval e X.env) (EP X pins σ Q) X.xe s
def TTw (Γ : CxP) (e : Expr) : TT := fun σ H Q => ∀ X, Γ X → ∀ (pins : List (Addr × Obj)) (s : Shared), Inv X pins σ H s → wpAny (model X.prog X.w) X.A (isTrue e X.env (eval e X.env)) (TP X pins σ Q) X.xe s
def TWw (Γ : CxP) (e : Expr) : TT := fun σ H Q => ∀ X, Γ X → ∀ (wh : Sem Value) (pins : List (Addr × Obj)) (s : Shared), Inv X pins σ H s → wpAny (model X.prog X.w) X.A (isTrue e X.env wh) (TP X pins σ Q) X.xe s
def TAw (Γ : CxP) (es : List Expr) : TA := fun σ H Q => ∀ X, Γ X → ∀ (pos : Pos) (pins : List (Addr × Obj)) (s : Shared), Inv X pins σ H s → wpAny (model X.prog X.w) X.A (spliced (backTo pos (starEach es X.env))) (AP X pins σ Q) X.xe s
def TIw (Γ : CxP) (tg it : Expr) : TI := fun σ H R => ∀ X, Γ X → ∀ (pins : List (Addr × Obj)) (s : Shared), Inv X pins σ H s → wpAny (model X.prog X.w) X.A (eval it X.env) (fun v s1 => wpAny (model X.prog X.w) X.A (pyIter v) (PIE X pins σ tg R) X.xe s1) X.xe s
def TGw (Γ : CxP) (tg : Expr) : TG := fun v σ H Q => ∀ X, Γ X → ∀ (pins : List (Addr × Obj)) (s : Shared) (u : Value), Inv X pins σ H s → RelV v u → wpAny (model X.prog X.w) X.A (assign tg X.env u) (fun _ s' => ∃ σ' H', Inv X pins σ' H' s' ∧ Q σ' H') X.xe s
def TGsw (Γ : CxP) (ts : List Expr) : TGs := fun vs σ H Q => ∀ X, Γ X → ∀ (pins : List (Addr × Obj)) (s : Shared) (us : List Value), Inv X pins σ H s → Vals vs us → wpAny (model X.prog X.w) X.A (assignInOrder ((assignEach ts X.env).map (·.2)) us) (fun _ s' => ∃ σ' H', Inv X pins σ' H' s' ∧ Q σ' H') X.xe s
section
variable {Γ : CxP} {X : Cx} {e tg : Expr} {es : List Expr}
theorem pe_w (h : Γ X) : PE X e (TEw Γ e) := ⟨fun pins s _ _ _ I q => q X h pins s I⟩
theorem pt_w (h : Γ X) : PT X e (TTw Γ e) := ⟨fun pins s _ _ _ I q => q X h pins s I⟩
theorem pw_w (h : Γ X) : PW X e (TWw Γ e) := ⟨fun wh pins s _ _ _ I q => q X h wh pins s I⟩
theorem pa_w (h : Γ X) : PA X es (TAw Γ es) := ⟨fun pos pins s _ _ _ I q => q X h pos pins s I⟩
theorem pi_w (h : Γ X) : PI X tg e (TIw Γ tg e) := ⟨fun pins s _ _ _ I q => q X h pins s I⟩
theorem pg_w (h : Γ X) : PG X tg (TGw Γ tg) := ⟨fun pins s _ _ _ u _ I r q => q X h pins s u I r⟩
theorem pgs_w (h : Γ X) : PGs X es (TGsw Γ es) := ⟨fun pins s _ _ _ us _ I r q => q X h pins s us I r⟩
end
variable {E : En} {Γ : CxP}
/-! ### what comes behind -/
def NxT (K : PySem.W.Frag) (P : Addr → Prop) (W : Wd) (ρ : Env) (σ : L2.St) (b : Bool) (S' : Store) (Q : Bool → Hp → Prop) : Prop := ∀ W', Wle W W' → Cor K P W' ρ S' σ → Q b W'.H
def NxA (K : PySem.W.Frag) (P : Addr → Prop) (W : Wd) (ρ : Env) (σ : L2.St) (vs : List MV) (S' : Store) (Q : List V → Hp → Prop) : Prop := ∀ W' us, Wle W W' → Cor K P W' ρ S' σ → RVs K P W' us vs → Q us W'.H
def NxG (K : PySem.W.Frag) (P : Addr → Prop) (W : Wd) (ρ' : Env) (σ : L2.St) (S' : Store) (t : List Nat → Bool) (Q : L2.St → Hp → Prop) : Prop := ∀ W' σ', Wle W W' → Cor K P W' ρ' S' σ' → (∀ own, t own = true → L2.wipe σ' own = L2.wipe σ own) → Q σ' W'.H
def GoodE (E : En) (Γ : CxP) (e : Expr) (f : Env → Store → Rs) : Prop := ∀ P W ρ S σ v S' Q, Cor E.K P W ρ S σ → f ρ S = some (v, S') → Nx E.K P W ρ σ v S' Q → TEw Γ e σ W.H Q
def GoodT (E : En) (Γ : CxP) (e : Expr) (f : Env → Store → Option (Bool × Store)) : Prop := ∀ P W ρ S σ b S' Q, Cor E.K P W ρ S σ → f ρ S = some (b, S') → NxT E.K P W ρ σ b S' Q → TTw Γ e σ W.H Q
def GoodW (E : En) (Γ : CxP) (e : Expr) (f : Env → Store → Option (Bool × Store)) : Prop := ∀ P W ρ S σ b S' Q, Cor E.K P W ρ S σ → f ρ S = some (b, S') → NxT E.K P W ρ σ b S' Q → TWw Γ e σ W.H Q
def GoodA (E : En) (Γ : CxP) (es : List Expr) (f : Env → Store → Option (List MV × Store)) : Prop := ∀ P W ρ S σ vs S' Q, Cor E.K P W ρ S σ → f ρ S = some (vs, S') → NxA E.K P W ρ σ vs S' Q → TAw Γ es σ W.H Q
def GoodG (E : En) (Γ : CxP) (e : Expr) (t : List Nat → Bool) (f : MV → Env → Store → Option (Env × Store)) : Prop := ∀ P W ρ S σ v u ρ' S' Q, Cor E.K P W ρ S σ → RV E.K P W u v → f v ρ S = some (ρ', S') → NxG E.K P W ρ' σ S' t Q → TGw Γ e u σ W.H Q
def GoodGs (E : En) (Γ : CxP) (es : List Expr) (t : List Nat → Bool) (f : List MV → Env → Store → Option (Env × Store)) : Prop := ∀ P W ρ S σ vs us ρ' S' Q, Cor E.K P W ρ S σ → RVs E.K P W us vs → f vs ρ S = some (ρ', S') → NxG E.K P W ρ' σ S' t Q → TGsw Γ es us σ W.H Q
theorem GoodW.t {e : Expr} {f : Env → Store → Option (Bool × Store)} (h : GoodW E Γ e f) : GoodT E Γ e f := fun P W ρ S σ b S' Q c e' q X hX pins s I => h P W ρ S σ b S' Q c e' q X hX _ pins s I
section
variable {P : Addr → Prop} {W W1 : Wd} {ρ : Env} {S S' : Store} {σ : L2.St} {K : PySem.W.Frag}
theorem Nx.le {v : MV} {Q : VK} (h : Nx K P W ρ σ v S' Q) (w : Wle W W1) : Nx K P W1 ρ σ v S' Q := fun W' u w' c r => h W' u (w.trans w') c r
theorem NxT.le {v : Bool} {Q : Bool → Hp → Prop} (h : NxT K P W ρ σ v S' Q) (w : Wle W W1) : NxT K P W1 ρ σ v S' Q := fun W' w' c => h W' (w.trans w') c
theorem NxA.le {v : List MV} {Q : List V → Hp → Prop} (h : NxA K P W ρ σ v S' Q) (w : Wle W W1) : NxA K P W1 ρ σ v S' Q := fun W' u w' c r => h W' u (w.trans w') c r
theorem NxG.le {ρ' : Env} {t : List Nat → Bool} {Q : L2.St → Hp → Prop} (h : NxG K P W ρ' σ S' t Q) (w : Wle W W1) : NxG K P W1 ρ' σ S' t Q := fun W' σ' w' c r => h W' σ' (w.trans w') c r
end
theorem bindI {α β : Type} {o : Option α} {f : α → Option β} {b : β} (h : o.bind f = some b) : ∃ a, o = some a ∧ f a = some b := Option.bind_eq_some_iff.mp h
theorem mapI {α β : Type} {o : Option α} {f : α → β} {b : β} (h : o.map f = some b) : ∃ a, o = some a ∧ f a = b := Option.map_eq_some_iff.mp h

/-! ### names and constants -/
section
variable {C : CallF}
theorem good_v {i : Nat} {x : Str} {pos : Pos} (hN : ∀ X, Γ X → X.N[i]? = some x) (hv : ∀ X, Γ X → Vis X.env.scope x) (hd : (x == ("__debug__" : Str)) = false) (hcd : (x == ("__classdict__" : Str)) = false) : GoodE E Γ (.Name x pos) (evE C (.v i)) := by
  intro P W ρ S σ v S' Q c e q X hX pins s I
  simp only [evE] at e
  split at e
  · rename_i w e1
    cases e
    obtain ⟨u, e2, r⟩ := c.slot i v e1
    exact (pe_var (hN X hX) (hv X hX) hd hcd).run pins s σ W.H Q I ⟨u, e2, q.same c r⟩
  · cases e
theorem good_c {d : PyData} {k : Const} {kk : Nat} {pos : Pos} (h : constB d k = true) : GoodE E Γ (.Constant k kk pos) (evE C (.c d)) := by
  intro P W ρ S σ v S' Q c e q X hX pins s I
  simp only [evE, Option.some.injEq, Prod.mk.injEq] at e
  obtain ⟨rfl, rfl⟩ := e
  cases d <;> cases k <;> simp only [constB, decide_eq_true_eq, Bool.false_eq_true] at h
  · exact pe_non.run pins s σ W.H Q I (q.same c .non)
  · subst h
    exact pe_bl.run pins s σ W.H Q I (q.same c (.bl _))
  · subst h
    exact pe_int.run pins s σ W.H Q I (q.same c (.int _))
  · subst h
    exact pe_str.run pins s σ W.H Q I (q.same c (.str _))
theorem good_g {x : Str} {d : PyData} {pos : Pos} (hg : ∀ X, Γ X → Gl X x) (hm : ∃ v u, (∀ X, Γ X → X.mg x = some u) ∧ RelV v u ∧ ∀ A H, Rp E.K A H v d) (hd : (x == ("__debug__" : Str)) = false) : GoodE E Γ (.Name x pos) (evE C (.g x d)) := by
  intro P W ρ S σ v S' Q c e q X hX pins s I
  simp only [evE, Option.some.injEq, Prod.mk.injEq] at e
  obtain ⟨rfl, rfl⟩ := e
  obtain ⟨w, u, h1, h2, h3⟩ := hm
  exact (pe_glob (hg X hX) (h1 X hX) h2 hd).run pins s σ W.H Q I (q.same c (h3 _ _))
end

/-! ### lists of arguments -/
theorem goodA_nil {f : Env → Store → Option (List MV × Store)} (hf : ∀ ρ S, f ρ S = some ([], S)) : GoodA E Γ [] f := by
  intro P W ρ S σ vs S' Q c e q X hX pos pins s I
  rw [hf] at e
  cases e
  exact pa_nil.run pos pins s σ W.H Q I (q W [] (Wle.refl W) c .nil)
theorem star_cons {e : Expr} {es : List Expr} {env : PySem.Env} (h : starB e = false) : starEach (e :: es) env = (false, eval e env) :: starEach es env := by
  cases e <;> first
    | rfl
    | simp [starB] at h
theorem goodA_cons {e : Expr} {es : List Expr} {f : Env → Store → Rs} {g : Env → Store → Option (List MV × Store)} (he : GoodE E Γ e f) (hs : starB e = false) (hr : GoodA E Γ es g) :
    GoodA E Γ (e :: es) (fun ρ S => (f ρ S).bind fun p => (g ρ p.2).bind fun q => some (p.1 :: q.1, q.2)) := by
  intro P W ρ S σ vs S' Q c e q X hX pos pins s I
  obtain ⟨⟨v, S1⟩, e1, e⟩ := bindI e
  obtain ⟨⟨ws, S2⟩, e2, e⟩ := bindI e
  cases e
  refine (pa_cons (pe_w hX) (pa_w hX) (star_cons hs)).run pos pins s σ W.H Q I ?_
  refine he P W ρ S σ v S1 _ c e1 fun W1 u w1 c1 r1 => ?_
  refine hr P W1 ρ S1 σ ws _ _ c1 e2 fun W2 us w2 c2 r2 => ?_
  exact q W2 _ (w1.trans w2) c2 (.cons (r1.up w2) r2)
theorem good_tup {es : List Expr} {k : Nat} {pos : Pos} {g : Env → Store → Option (List MV × Store)} (h : GoodA E Γ es g) :
    GoodE E Γ (.Tuple es k pos) (fun ρ S => (g ρ S).bind fun p => if p.1.length ≤ LINE then (pures p.1).map fun xs => (.d (.tuple xs), p.2) else none) := by
  intro P W ρ S σ v S' Q c e q X hX pins s I
  obtain ⟨⟨vs, S1⟩, e1, e⟩ := bindI e
  simp only at e
  split at e
  · rename_i hl
    obtain ⟨xs, e2, e⟩ := mapI e
    cases e
    refine (pe_tup (pa_w hX)).run pins s σ W.H Q I ?_
    refine h P W ρ S σ vs _ _ c e1 fun W1 us w1 c1 r1 => ⟨by rw [r1.length]; exact hl, ?_⟩
    exact tup_new c1 (r1.pures e2) (q.le w1)
  · cases e
theorem good_lst {r : Bool} {es : List Expr} {pos : Pos} {g : Env → Store → Option (List MV × Store)} (h : GoodA E Γ es g) :
    GoodE E Γ (.List es pos) (fun ρ S => (g ρ S).bind fun p => mkL r p.1 p.2) := by
  intro P W ρ S σ v S' Q c e q X hX pins s I
  obtain ⟨⟨vs, S1⟩, e1, e⟩ := bindI e
  refine (pe_lst (pa_w hX)).run pins s σ W.H Q I ?_
  exact h P W ρ S σ vs _ _ c e1 fun W1 us w1 c1 r1 => mkL_new c1 r1 e (q.le w1)

/-! ### operators -/
section
variable {a b d : Expr} {f g k : Env → Store → Rs} {pos : Pos}
theorem opA_or (hΓ : ∀ X, Γ X → Ctx E X) (h : Value → Value → Sem Value) {X : Cx} (hX : Γ X) : OpR X h (OpA E h) := fun pins s σ H x y v u Q I rx ry q => q X (hΓ X hX) pins s σ v u I rx ry
theorem mul_ok {P : Addr → Prop} {W : Wd} {ρ : Env} {S : Store} {σ : L2.St} {Q : VK} (c : Cor E.K P W ρ S σ) {x y : MV} {a b : V} (rx : RV E.K P W a x) (ry : RV E.K P W b y) {i j : Int} (hx : x = .d (.int i)) (hy : y = .d (.int j)) (hc : CMul i j) (h : Nx E.K P W ρ σ (.d (.int (i * j))) S Q) : OpA E (binaryOp .Mult) a b W.H Q := by
  subst hx hy
  rw [rx.intI, ry.intI]
  exact OpA.of (fun X _ => op_mul) fun X _ => ⟨i, j, rfl, rfl, hc, h.same c (.int _)⟩
end
end TM
end
section
set_option Elab.async false
set_option linter.all false
set_option autoImplicit false
set_option maxRecDepth 100000
set_option maxHeartbeats 1000000
/-! TM: operators, comparisons, tests, subscripts, calls of built-ins. -/
namespace TM
open PySem PySem.Spec PyProof.Rows L2
section
variable {E : En} {P : Addr → Prop} {W : Wd} {ρ : Env} {S S' : Store} {σ : L2.St} {Q : VK}
theorem Cor.listX (c : Cor E.K P W ρ S σ) {u : V} {v : MV} {vs : List MV} (r : RV E.K P W u v) (e : listOf S v = some vs) : ∃ a us, u = .ref a ∧ W.H a = some (.lst us) ∧ RVs E.K P W us vs := by
  cases v with
  | ref l =>
    obtain ⟨us, h1, h2, h3⟩ := c.refI r e
    exact ⟨_, us, h1, h2, h3⟩
  | d x =>
    cases x with
    | list xs =>
      simp only [listOf, Option.some.injEq] at e
      subst e
      cases r with
      | lst h n r => exact ⟨_, _, rfl, h, RVs.of r⟩
    | _ => simp [listOf] at e
theorem RVs.rep {us : List V} {vs : List MV} (r : RVs E.K P W us vs) : ∀ n : Nat, RVs E.K P W (List.replicate n us).flatten (List.replicate n vs).flatten
  | 0 => .nil
  | n + 1 => by
    rw [List.replicate_succ, List.replicate_succ, List.flatten_cons, List.flatten_cons]
    exact r.append (RVs.rep r n)
theorem times_ok (c : Cor E.K P W ρ S σ) {r : Bool} {x y v : MV} {a b : V} (rx : RV E.K P W a x) (ry : RV E.K P W b y) (e : op2 r .mul x y S = some (v, S')) (h : Nx E.K P W ρ σ v S' Q) : OpA E (binaryOp .Mult) a b W.H Q := by
  unfold op2 at e
  simp only at e
  split at e
  · rename_i i j
    split at e
    · rename_i hc
      cases e
      simp only [Bool.or_eq_true, Bool.and_eq_true, decide_eq_true_eq] at hc
      exact mul_ok c rx ry rfl rfl hc h
    · cases e
  · rename_i k _
    split at e
    · rename_i xs e1
      split at e
      · rename_i hc
        simp only [Bool.and_eq_true, decide_eq_true_eq] at hc
        obtain ⟨p, us, rfl, g, q⟩ := c.listX rx e1
        rw [ry.intI]
        obtain ⟨_, hq⟩ := mkL_new c (q.rep k.toNat) e h
        exact OpA.of (fun X _ => op_rep) fun X _ => ⟨p, k, us, rfl, rfl, g, hc.1.1, hc.1.2, by rw [q.length]; exact hc.2, hq⟩
      · cases e
    · cases e
  · cases e
theorem op2_ok (c : Cor E.K P W ρ S σ) {r : Bool} {o : Op} {x y v : MV} {a b : V} (rx : RV E.K P W a x) (ry : RV E.K P W b y) (e : op2 r o x y S = some (v, S')) (h : Nx E.K P W ρ σ v S' Q) : OpA E (binaryOp (opOf o)) a b W.H Q := by
  cases o with
  | add => exact add_ok c rx ry e h
  | sub => exact sub_ok c rx ry e h
  | mul => exact times_ok c rx ry e h
  | fdiv => exact fdiv_ok c rx ry e h
  | mod => exact mod_ok c rx ry e h
  | pow => exact pow_ok c rx ry e h
  | shl => exact shl_ok c rx ry e h
end
section
variable {E : En} {Γ : CxP} {a b d : Expr} {f g k : Env → Store → Rs} {pos : Pos}
theorem good_bin (hΓ : ∀ X, Γ X → Ctx E X) {r : Bool} {o : Op} (ha : GoodE E Γ a f) (hb : GoodE E Γ b g) :
    GoodE E Γ (.BinOp a (opOf o) b pos) (fun ρ S => (f ρ S).bind fun p => (g ρ p.2).bind fun q => op2 r o p.1 q.1 q.2) := by
  intro P W ρ S σ v S' Q c e q X hX pins s I
  obtain ⟨⟨x, S1⟩, e1, e⟩ := bindI e
  obtain ⟨⟨y, S2⟩, e2, e⟩ := bindI e
  refine (pe_op (opA_or hΓ _ hX) (pe_w hX) (pe_w hX)).run pins s σ W.H Q I ?_
  refine ha P W ρ S σ x S1 _ c e1 fun W1 u w1 c1 r1 => ?_
  refine hb P W1 ρ S1 σ y S2 _ c1 e2 fun W2 u2 w2 c2 r2 => ?_
  exact op2_ok c2 (r1.up w2) r2 e (q.le (w1.trans w2))
theorem good_neg (hΓ : ∀ X, Γ X → Ctx E X) (ha : GoodE E Γ a f) :
    GoodE E Γ (.UnaryOp .USub a pos) (fun ρ S => (f ρ S).bind fun p => match p.1 with
      | .d (.int i) => some (.d (.int (-i)), p.2)
      | _ => none) := by
  intro P W ρ S σ v S' Q c e q X hX pins s I
  obtain ⟨⟨x, S1⟩, e1, e⟩ := bindI e
  simp only at e
  split at e
  · rename_i i
    cases e
    refine (pe_un un_neg (pe_w hX)).run pins s σ W.H Q I ?_
    refine ha P W ρ S σ _ _ _ c e1 fun W1 u w1 c1 r1 => ⟨i, r1.intI, ?_⟩
    exact q W1 _ w1 c1 (.int _)
  · cases e
theorem nomarkB {o : CmpOp} {e : Expr} (h : isSetE e = false) : behindInMarks o e = false := by
  cases e <;> first
    | rfl
    | simp [isSetE] at h
theorem good_cmp (hΓ : ∀ X, Γ X → Ctx E X) {o : Cp} (ha : GoodE E Γ a f) (hb : GoodE E Γ b g) (hs : isSetE b = false) :
    GoodE E Γ (.Compare a [cpOf o] [b] pos) (fun ρ S => (f ρ S).bind fun p => (g ρ p.2).bind fun q => (cmpM o p.1 q.1 q.2).map fun k => (.d (.bool k), q.2)) := by
  intro P W ρ S σ v S' Q c e q X hX pins s I
  obtain ⟨⟨x, S1⟩, e1, e⟩ := bindI e
  obtain ⟨⟨y, S2⟩, e2, e⟩ := bindI e
  obtain ⟨m, e3, e⟩ := mapI e
  cases e
  refine (pe_cmpR (opA_or hΓ _ hX) (pe_w hX) (pe_w hX) (nomarkB hs)).run pins s σ W.H Q I ?_
  refine ha P W ρ S σ x S1 _ c e1 fun W1 u w1 c1 r1 => ?_
  refine hb P W1 ρ S1 σ y S2 _ c1 e2 fun W2 u2 w2 c2 r2 => ?_
  exact cmp_ok c2 (r1.up w2) r2 e3 (q W2 _ (w1.trans w2) c2 (.bl _))
theorem goodT_cmp (hΓ : ∀ X, Γ X → Ctx E X) {o : Cp} (ha : GoodE E Γ a f) (hb : GoodE E Γ b g) (hs : isSetE b = false) :
    GoodT E Γ (.Compare a [cpOf o] [b] pos) (fun ρ S => (f ρ S).bind fun p => (g ρ p.2).bind fun q => (cmpM o p.1 q.1 q.2).map fun k => (k, q.2)) := by
  intro P W ρ S σ v S' Q c e q X hX pins s I
  obtain ⟨⟨x, S1⟩, e1, e⟩ := bindI e
  obtain ⟨⟨y, S2⟩, e2, e⟩ := bindI e
  obtain ⟨m, e3, e⟩ := mapI e
  cases e
  refine (pt_cmpR (opA_or hΓ _ hX) (pe_w hX) (pe_w hX) (nomarkB hs)).run pins s σ W.H Q I ?_
  refine ha P W ρ S σ x S1 _ c e1 fun W1 u w1 c1 r1 => ?_
  refine hb P W1 ρ S1 σ y _ _ c1 e2 fun W2 u2 w2 c2 r2 => ?_
  exact cmp_ok c2 (r1.up w2) r2 e3 ⟨_, rfl, q W2 (w1.trans w2) c2⟩
theorem lastMarksB {o p : CmpOp} (h : isSetE d = false) : lastMarks [o, p] [b, d] = false := nomarkB h
theorem good_chain (hΓ : ∀ X, Γ X → Ctx E X) {o o' : Cp} (ha : GoodE E Γ a f) (hb : GoodE E Γ b g) (hd : GoodE E Γ d k) (hs : isSetE d = false) :
    GoodE E Γ (.Compare a [cpOf o, cpOf o'] [b, d] pos) (fun ρ S => (f ρ S).bind fun p => (g ρ p.2).bind fun q => (cmpM o p.1 q.1 q.2).bind fun m =>
      if m then (k ρ q.2).bind fun t => (cmpM o' q.1 t.1 t.2).map fun m => (.d (.bool m), t.2) else some (.d (.bool false), q.2)) := by
  intro P W ρ S σ v S' Q c e q X hX pins s I
  obtain ⟨⟨x, S1⟩, e1, e⟩ := bindI e
  obtain ⟨⟨y, S2⟩, e2, e⟩ := bindI e
  obtain ⟨m, e3, e⟩ := bindI e
  refine (pe_chain (opA_or hΓ _ hX) (opA_or hΓ _ hX) (pe_w hX) (pe_w hX) (pe_w hX) (lastMarksB hs)).run pins s σ W.H Q I ?_
  refine ha P W ρ S σ x S1 _ c e1 fun W1 u w1 c1 r1 => ?_
  refine hb P W1 ρ S1 σ y S2 _ c1 e2 fun W2 u2 w2 c2 r2 => ?_
  refine cmp_ok c2 (r1.up w2) r2 e3 ⟨m, rfl, ?_⟩
  cases m with
  | false =>
    cases e
    exact q W2 _ (w1.trans w2) c2 (.bl _)
  | true =>
    obtain ⟨⟨z, S3⟩, e4, e⟩ := bindI e
    obtain ⟨m', e5, e⟩ := mapI e
    cases e
    rw [if_pos rfl]
    refine hd P W2 ρ S2 σ z S3 _ c2 e4 fun W3 u3 w3 c3 r3 => ?_
    exact cmp_ok c3 (r2.up w3) r3 e5 (q W3 _ (w1.trans (w2.trans w3)) c3 (.bl _))
theorem goodT_chain (hΓ : ∀ X, Γ X → Ctx E X) {o o' : Cp} (ha : GoodE E Γ a f) (hb : GoodE E Γ b g) (hd : GoodE E Γ d k) (hs : isSetE d = false) :
    GoodT E Γ (.Compare a [cpOf o, cpOf o'] [b, d] pos) (fun ρ S => (f ρ S).bind fun p => (g ρ p.2).bind fun q => (cmpM o p.1 q.1 q.2).bind fun m =>
      if m then (k ρ q.2).bind fun t => (cmpM o' q.1 t.1 t.2).map fun m => (m, t.2) else some (false, q.2)) := by
  intro P W ρ S σ v S' Q c e q X hX pins s I
  obtain ⟨⟨x, S1⟩, e1, e⟩ := bindI e
  obtain ⟨⟨y, S2⟩, e2, e⟩ := bindI e
  obtain ⟨m, e3, e⟩ := bindI e
  refine (pt_chain (opA_or hΓ _ hX) (opA_or hΓ _ hX) (pe_w hX) (pe_w hX) (pe_w hX) (lastMarksB hs)).run pins s σ W.H Q I ?_
  refine ha P W ρ S σ x S1 _ c e1 fun W1 u w1 c1 r1 => ?_
  refine hb P W1 ρ S1 σ y S2 _ c1 e2 fun W2 u2 w2 c2 r2 => ?_
  refine cmp_ok c2 (r1.up w2) r2 e3 ⟨m, rfl, ?_⟩
  cases m with
  | false =>
    cases e
    exact ⟨false, rfl, q W2 (w1.trans w2) c2⟩
  | true =>
    obtain ⟨⟨z, S3⟩, e4, e⟩ := bindI e
    obtain ⟨m', e5, e⟩ := mapI e
    cases e
    rw [if_pos rfl]
    refine hd P W2 ρ S2 σ z _ _ c2 e4 fun W3 u3 w3 c3 r3 => ?_
    exact cmp_ok c3 (r2.up w3) r3 e5 ⟨_, rfl, q W3 (w1.trans (w2.trans w3)) c3⟩
/-! ### and, or, not, if -/
variable {rest : List Expr}
theorem good_and (ha : GoodE E Γ a f) (hb : GoodE E Γ (.BoolOp .And (b :: rest) pos) g) :
    GoodE E Γ (.BoolOp .And (a :: b :: rest) pos) (fun ρ S => (f ρ S).bind fun p => match p.1 with
      | .d (.bool true) => g ρ p.2
      | .d (.bool false) => some (.d (.bool false), p.2)
      | _ => none) := by
  intro P W ρ S σ v S' Q c e q X hX pins s I
  obtain ⟨⟨x, S1⟩, e1, e⟩ := bindI e
  refine (pe_and (pe_w hX) (pe_w hX)).run pins s σ W.H Q I ?_
  simp only at e
  split at e
  · refine ha P W ρ S σ _ _ _ c e1 fun W1 u w1 c1 r1 => ⟨true, r1.blI, ?_⟩
    rw [if_pos rfl]
    exact hb P W1 ρ S1 σ _ _ _ c1 e (q.le w1)
  · cases e
    refine ha P W ρ S σ _ _ _ c e1 fun W1 u w1 c1 r1 => ⟨false, r1.blI, ?_⟩
    exact q W1 _ w1 c1 (.bl _)
  · cases e
theorem good_or (ha : GoodE E Γ a f) (hb : GoodE E Γ (.BoolOp .Or (b :: rest) pos) g) :
    GoodE E Γ (.BoolOp .Or (a :: b :: rest) pos) (fun ρ S => (f ρ S).bind fun p => match p.1 with
      | .d (.bool true) => some (.d (.bool true), p.2)
      | .d (.bool false) => g ρ p.2
      | _ => none) := by
  intro P W ρ S σ v S' Q c e q X hX pins s I
  obtain ⟨⟨x, S1⟩, e1, e⟩ := bindI e
  refine (pe_or (pe_w hX) (pe_w hX)).run pins s σ W.H Q I ?_
  simp only at e
  split at e
  · cases e
    refine ha P W ρ S σ _ _ _ c e1 fun W1 u w1 c1 r1 => ⟨true, r1.blI, ?_⟩
    exact q W1 _ w1 c1 (.bl _)
  · refine ha P W ρ S σ _ _ _ c e1 fun W1 u w1 c1 r1 => ⟨false, r1.blI, ?_⟩
    rw [if_neg (by decide)]
    exact hb P W1 ρ S1 σ _ _ _ c1 e (q.le w1)
  · cases e
theorem good_one {o : BoolOp} (h : GoodE E Γ a f) : GoodE E Γ (.BoolOp o [a] pos) f := fun P W ρ S σ v S' Q c e q X hX pins s I => (pe_one (pe_w hX)).run pins s σ W.H Q I (h P W ρ S σ v S' Q c e q)
theorem good_not (ha : GoodE E Γ a f) : GoodE E Γ (.UnaryOp .Not a pos) (fun ρ S => (f ρ S).bind fun p => match p.1 with
    | .d (.bool k) => some (.d (.bool (!k)), p.2)
    | _ => none) := by
  intro P W ρ S σ v S' Q c e q X hX pins s I
  obtain ⟨⟨x, S1⟩, e1, e⟩ := bindI e
  simp only at e
  split at e
  · rename_i m
    cases e
    refine (pe_not (pe_w hX)).run pins s σ W.H Q I ?_
    refine ha P W ρ S σ _ _ _ c e1 fun W1 u w1 c1 r1 => ⟨m, r1.blI, ?_⟩
    exact q W1 _ w1 c1 (.bl _)
  · cases e
variable {h h' : Env → Store → Option (Bool × Store)}
theorem good_ife {t : Expr} (ht : GoodT E Γ t h) (ha : GoodE E Γ a f) (hb : GoodE E Γ b g) : GoodE E Γ (.IfExp t a b pos) (fun ρ S => (h ρ S).bind fun p => if p.1 then f ρ p.2 else g ρ p.2) := by
  intro P W ρ S σ v S' Q c e q X hX pins s I
  obtain ⟨⟨x, S1⟩, e1, e⟩ := bindI e
  refine (pe_ifExp (pt_w hX) (pe_w hX) (pe_w hX)).run pins s σ W.H Q I ?_
  refine ht P W ρ S σ _ _ _ c e1 fun W1 w1 c1 => ?_
  cases x with
  | true => rw [if_pos rfl]; exact ha P W1 ρ S1 σ _ _ _ c1 e (q.le w1)
  | false => rw [if_neg (by decide)]; exact hb P W1 ρ S1 σ _ _ _ c1 e (q.le w1)
theorem goodW_and (ha : GoodT E Γ a h) (hb : GoodW E Γ (.BoolOp .And (b :: rest) pos) h') :
    GoodW E Γ (.BoolOp .And (a :: b :: rest) pos) (fun ρ S => (h ρ S).bind fun p => if p.1 then h' ρ p.2 else some (false, p.2)) := by
  intro P W ρ S σ v S' Q c e q X hX wh pins s I
  obtain ⟨⟨x, S1⟩, e1, e⟩ := bindI e
  refine (pw_and (pt_w hX) (pw_w hX)).run wh pins s σ W.H Q I ?_
  refine ha P W ρ S σ _ _ _ c e1 fun W1 w1 c1 => ?_
  cases x with
  | true => rw [if_pos rfl]; exact hb P W1 ρ S1 σ _ _ _ c1 e (q.le w1)
  | false => cases e; rw [if_neg (by decide)]; exact q W1 w1 c1
theorem goodW_or (ha : GoodT E Γ a h) (hb : GoodW E Γ (.BoolOp .Or (b :: rest) pos) h') :
    GoodW E Γ (.BoolOp .Or (a :: b :: rest) pos) (fun ρ S => (h ρ S).bind fun p => if p.1 then some (true, p.2) else h' ρ p.2) := by
  intro P W ρ S σ v S' Q c e q X hX wh pins s I
  obtain ⟨⟨x, S1⟩, e1, e⟩ := bindI e
  refine (pw_or (pt_w hX) (pw_w hX)).run wh pins s σ W.H Q I ?_
  refine ha P W ρ S σ _ _ _ c e1 fun W1 w1 c1 => ?_
  cases x with
  | true => cases e; rw [if_pos rfl]; exact q W1 w1 c1
  | false => rw [if_neg (by decide)]; exact hb P W1 ρ S1 σ _ _ _ c1 e (q.le w1)
theorem goodW_and1 (ha : GoodT E Γ a h) : GoodW E Γ (.BoolOp .And [a] pos) h := fun P W ρ S σ v S' Q c e q X hX wh pins s I => (pw_and1 (pt_w hX)).run wh pins s σ W.H Q I (ha P W ρ S σ v S' Q c e q)
theorem goodW_or1 (ha : GoodT E Γ a h) : GoodW E Γ (.BoolOp .Or [a] pos) h := fun P W ρ S σ v S' Q c e q X hX wh pins s I => (pw_or1 (pt_w hX)).run wh pins s σ W.H Q I (ha P W ρ S σ v S' Q c e q)
theorem goodT_not (ha : GoodT E Γ a h) : GoodT E Γ (.UnaryOp .Not a pos) (fun ρ S => (h ρ S).bind fun p => some (!p.1, p.2)) := by
  intro P W ρ S σ v S' Q c e q X hX pins s I
  obtain ⟨⟨x, S1⟩, e1, e⟩ := bindI e
  cases e
  refine (pt_not (pt_w hX)).run pins s σ W.H Q I ?_
  exact ha P W ρ S σ _ _ _ c e1 fun W1 w1 c1 => q W1 w1 c1
theorem goodT_e (hΓ : ∀ X, Γ X → Ctx E X) (ha : GoodE E Γ a f) (ho : oddT a = false) : GoodT E Γ a (fun ρ S => (f ρ S).bind fun p => (truth p.2 p.1).map fun k => (k, p.2)) := by
  intro P W ρ S σ v S' Q c e q X hX pins s I
  obtain ⟨⟨x, S1⟩, e1, e⟩ := bindI e
  obtain ⟨m, e2, e⟩ := mapI e
  cases e
  refine (pt_truth (pe_w hX) ?_).run pins s σ W.H Q I ?_
  · intro wh
    cases a with
    | UnaryOp o _ _ => cases o <;> first
      | rfl
      | exact absurd ho (by simp [oddT])
    | _ => first
      | rfl
      | exact absurd ho (by simp [oddT])
  · refine ha P W ρ S σ _ _ _ c e1 fun W1 u w1 c1 r1 => ⟨_, ?_, q W1 w1 c1⟩
    rw [(hΓ X hX).K]
    exact tru_is c1 r1 e2
/-! ### subscripts -/
theorem plainIx {b : Expr} (h : isSliceE b = false) : PlainIx b := by
  intro o i
  cases b <;> first
    | rfl
    | simp [isSliceE] at h
theorem good_idx (hΓ : ∀ X, Γ X → Ctx E X) (ha : GoodE E Γ a f) (hb : GoodE E Γ b g) (hs : isSliceE b = false) :
    GoodE E Γ (.Subscript a b pos) (fun ρ S => (f ρ S).bind fun p => (g ρ p.2).bind fun q => (ixM p.1 q.1 q.2).map fun v => (v, q.2)) := by
  intro P W ρ S σ v S' Q c e q X hX pins s I
  obtain ⟨⟨x, S1⟩, e1, e⟩ := bindI e
  obtain ⟨⟨y, S2⟩, e2, e⟩ := bindI e
  obtain ⟨m, e3, e⟩ := mapI e
  cases e
  refine (pe_ix (r := IxA E) (fun value slice pins s σ H x y v u Q I rx ry q hs => q X (hΓ X hX) value slice pins s σ v u I rx ry hs) (pe_w hX) (pe_w hX) (plainIx hs)).run pins s σ W.H Q I ?_
  refine ha P W ρ S σ x S1 _ c e1 fun W1 u w1 c1 r1 => ?_
  refine hb P W1 ρ S1 σ y S2 _ c1 e2 fun W2 u2 w2 c2 r2 => ?_
  exact ix_ok c2 (r1.up w2) r2 e3 (q.le (w1.trans w2))
/-- a part of a slice -/
def GoodP (E : En) (Γ : CxP) (o : Option Expr) (f : Env → Store → Option (Option Int × Store)) : Prop := ∀ P W ρ S σ i S' (Q : Option Int → Hp → Prop), Cor E.K P W ρ S σ → f ρ S = some (i, S') → (∀ W', Wle W W' → Cor E.K P W' ρ S' σ → Q i W'.H) →
  ∀ X, Γ X → ∀ (pins : List (Addr × Obj)) (s : Shared), Inv X pins σ W.H s → wpAny (model X.prog X.w) X.A (evalPart o X.env) (fun u s' => ∃ o H', Inv X pins σ H' s' ∧ IsPart u o ∧ Q o H') X.xe s
theorem goodP_none : GoodP E Γ none (fun _ S => some (none, S)) := by
  intro P W ρ S σ i S' Q c e q X hX pins s I
  cases e
  exact po_none.run pins s σ W.H Q I (q W (Wle.refl W) c)
theorem goodP_some (ha : GoodE E Γ a f) : GoodP E Γ (some a) (fun ρ S => (f ρ S).bind fun q => (partOf q.1).map fun i => (i, q.2)) := by
  intro P W ρ S σ i S' Q c e q X hX pins s I
  obtain ⟨⟨x, S1⟩, e1, e⟩ := bindI e
  obtain ⟨m, e2, e⟩ := mapI e
  cases e
  refine (po_some (pe_w hX)).run pins s σ W.H Q I ?_
  refine ha P W ρ S σ x _ _ c e1 fun W1 u w1 c1 r1 => ?_
  simp only [partOf] at e2
  split at e2
  · cases e2
    exact ⟨_, r1.intI, q W1 w1 c1⟩
  · cases e2
def tPw (Γ : CxP) (o : Option Expr) : TO := fun σ H Q => ∀ X, Γ X → ∀ (pins : List (Addr × Obj)) (s : Shared), Inv X pins σ H s → wpAny (model X.prog X.w) X.A (evalPart o X.env) (fun u s' => ∃ o H', Inv X pins σ H' s' ∧ IsPart u o ∧ Q o H') X.xe s
theorem po_w {X : Cx} {o : Option Expr} (h : Γ X) : PO X o (tPw Γ o) := ⟨fun pins s _ _ _ I q => q X h pins s I⟩
theorem good_sli (hΓ : ∀ X, Γ X → Ctx E X) {r : Bool} {lo hi : Option Expr} {p2 : Pos} {fl fh : Env → Store → Option (Option Int × Store)} (ha : GoodE E Γ a f) (hl : GoodP E Γ lo fl) (hh : GoodP E Γ hi fh) :
    GoodE E Γ (.Subscript a (.Slice lo hi none p2) pos) (fun ρ S => (f ρ S).bind fun p => (fl ρ p.2).bind fun q => (fh ρ q.2).bind fun t => slM r p.1 q.1 t.1 t.2) := by
  intro P W ρ S σ v S' Q c e q X hX pins s I
  obtain ⟨⟨x, S1⟩, e1, e⟩ := bindI e
  obtain ⟨⟨i, S2⟩, e2, e⟩ := bindI e
  obtain ⟨⟨j, S3⟩, e3, e⟩ := bindI e
  refine (pe_slice (r := SlA E) (fun pins s σ H x v vl vu lo hi sl Q I rx hs pl pu q => q X (hΓ X hX) pins s σ v vl vu sl I rx hs pl pu) (pe_w hX) (po_w hX) (po_w hX)).run pins s σ W.H Q I ?_
  refine ha P W ρ S σ x S1 _ c e1 fun W1 u w1 c1 r1 => ?_
  refine hl P W1 ρ S1 σ i S2 _ c1 e2 fun W2 w2 c2 => ?_
  refine hh P W2 ρ S2 σ j S3 _ c2 e3 fun W3 w3 c3 => ?_
  exact sl_ok c3 (r1.up (w2.trans w3)) e (q.le (w1.trans (w2.trans w3)))
theorem good_rev (hΓ : ∀ X, Γ X → Ctx E X) {r : Bool} {k : Nat} {p1 p2 p3 : Pos} (ha : GoodE E Γ a f) :
    GoodE E Γ (.Subscript a (.Slice none none (some (.UnaryOp .USub (.Constant (.int 1) k p1) p2)) p3) pos) (fun ρ S => (f ρ S).bind fun p => match p.1 with
      | .d (.tuple _) => none
      | v => match listOf p.2 v with
        | some vs => mkL r vs.reverse p.2
        | none => none) := by
  intro P W ρ S σ v S' Q c e q X hX pins s I
  obtain ⟨⟨x, S1⟩, e1, e⟩ := bindI e
  refine (pe_revL (pe_w hX)).run pins s σ W.H Q I ?_
  refine ha P W ρ S σ x S1 _ c e1 fun W1 u w1 c1 r1 => ?_
  simp only at e
  split at e
  · cases e
  · split at e
    · rename_i vs e2
      obtain ⟨p, us, rfl, g, q1⟩ := c1.listI r1 e2
      obtain ⟨_, hq⟩ := mkL_new c1 q1.reverse e (q.le w1)
      exact ⟨p, us, rfl, .inl g, hq⟩
    · cases e
end
end TM
end
section
set_option Elab.async false
set_option linter.all false
set_option autoImplicit false
set_option maxRecDepth 100000
set_option maxHeartbeats 1000000
/-! TM: calls of built-ins, methods; what is walked; targets. -/
namespace TM
open PySem PySem.Spec PyProof.Rows L2
section
variable {E : En} {Γ : CxP} {a b d e : Expr} {es : List Expr} {f g k : Env → Store → Rs} {pos p : Pos} {x : Str} {ga : Env → Store → Option (List MV × Store)} {m : List MV → Store → Rs}
def CallOk (E : En) (f : Value) (m : List MV → Store → Rs) : Prop := ∀ P W ρ S σ vs us v S' Q, Cor E.K P W ρ S σ → RVs E.K P W us vs → m vs S = some (v, S') → Nx E.K P W ρ σ v S' Q → CallA E f us W.H Q
/-- a built-in's name -/
structure BiN (Γ : CxP) (x : Str) (v : Value) : Prop where
  gl : ∀ X, Γ X → Gl X x
  mg : ∀ X, Γ X → X.mg x = none
  boot : bootBuiltins x = some v
  nn : x ≠ "__name__"
  nd : (x == ("__debug__" : Str)) = false
theorem noStar : ∀ {es : List Expr}, (es.all fun e => !starB e) = true → ∀ {env : PySem.Env} {pos : Pos}, (backTo pos (starEach es env)).any (·.1) = false
  | [], _, _, _ => rfl
  | e :: es, h, env, pos => by
    simp only [List.all_cons, Bool.and_eq_true, Bool.not_eq_true'] at h
    rw [star_cons h.1]
    have ih := noStar h.2 (env := env) (pos := pos)
    simpa [backTo] using ih
theorem good_callB {id : String} (n : BiN Γ x (.builtin id)) (hΓ : ∀ X, Γ X → Ctx E X) (ok : CallOk E (.builtin id) m) (ha : GoodA E Γ (e :: es) ga) (hs : ((e :: es).all fun e => !starB e) = true) :
    GoodE E Γ (.Call (.Name x p) (e :: es) [] pos) (fun ρ S => (ga ρ S).bind fun p => m p.1 p.2) := by
  intro P W ρ S σ v S' Q c e' q X hX pins s I
  obtain ⟨⟨vs, S1⟩, e1, e'⟩ := bindI e'
  simp only [List.all_cons, Bool.and_eq_true, Bool.not_eq_true'] at hs
  refine (pe_callB (r := CallA E (.builtin id)) (fun pins s σ H xs us Q I r q => q X (hΓ X hX) pins s σ us I r) (n.gl X hX) (n.mg X hX) n.boot (pa_w hX) n.nn n.nd (star_cons hs.1) (noStar hs.2)).run pins s σ W.H Q I ?_
  exact ha P W ρ S σ vs S1 _ c e1 fun W1 us w1 c1 r1 => ok P W1 ρ S1 σ vs us v S' Q c1 r1 e' (q.le w1)
theorem good_callT {id : String} (n : BiN Γ x (.type id)) (hΓ : ∀ X, Γ X → Ctx E X) (ok : CallOk E (.type id) m) (ha : GoodA E Γ (e :: es) ga) (hs : ((e :: es).all fun e => !starB e) = true) :
    GoodE E Γ (.Call (.Name x p) (e :: es) [] pos) (fun ρ S => (ga ρ S).bind fun p => m p.1 p.2) := by
  intro P W ρ S σ v S' Q c e' q X hX pins s I
  obtain ⟨⟨vs, S1⟩, e1, e'⟩ := bindI e'
  simp only [List.all_cons, Bool.and_eq_true, Bool.not_eq_true'] at hs
  refine (pe_callTy (r := CallA E (.type id)) (fun pins s σ H xs us Q I r q => q X (hΓ X hX) pins s σ us I r) (n.gl X hX) (n.mg X hX) n.boot (pa_w hX) n.nn n.nd (star_cons hs.1) (noStar hs.2)).run pins s σ W.H Q I ?_
  exact ha P W ρ S σ vs S1 _ c e1 fun W1 us w1 c1 r1 => ok P W1 ρ S1 σ vs us v S' Q c1 r1 e' (q.le w1)
/-! ### isinstance -/
theorem good_isi1 {t : Ty} {y : Str} {py : Pos} (n : BiN Γ x (.builtin "isinstance")) (ny : BiN Γ y (.type (tyS t))) (hΓ : ∀ X, Γ X → Ctx E X) (ha : GoodE E Γ a f) (hs : starB a = false) :
    GoodE E Γ (.Call (.Name x p) [a, .Name y py] [] pos) (fun ρ S => (f ρ S).bind fun p => if isScrM p.1 then none else some (.d (.bool (isTyM [t] p.1)), p.2)) := by
  intro P W ρ S σ v S' Q c e' q X hX pins s I
  obtain ⟨⟨w, S1⟩, e1, e'⟩ := bindI e'
  simp only at e'
  split at e'
  · cases e'
  rename_i hsc
  rw [Bool.not_eq_true] at hsc
  cases e'
  refine (pe_callB (r := CallA E (.builtin "isinstance")) (fun pins s σ H xs us Q I r q => q X (hΓ X hX) pins s σ us I r) (n.gl X hX) (n.mg X hX) n.boot (pa_cons (pe_w hX) (pa_cons (pe_bltn (ny.gl X hX) (ny.mg X hX) ny.boot (v := .ty (tyS t)) rfl ny.nn ny.nd) pa_nil) (star_cons hs)) n.nn n.nd (star_cons hs) rfl).run pins s σ W.H Q I ?_
  exact ha P W ρ S σ w _ _ c e1 fun W1 u w1 c1 r1 => isi1_ok c1 t r1 hsc (q W1 _ w1 c1 (.bl _))
theorem pa_tys {X : Cx} (hX : Γ X) : ∀ {ts : List Ty} {bs : List Expr}, (∀ (i : Nat) (t : Ty), ts[i]? = some t → ∃ y py, bs[i]? = some (.Name y py) ∧ BiN Γ y (.type (tyS t))) → ts.length = bs.length → PA X bs (fun _ H Q => Q (ts.map fun t => V.ty (tyS t)) H)
  | [], [], _, _ => pa_nil
  | t :: ts, b :: bs, h, hl => by
    obtain ⟨y, py, e1, n⟩ := h 0 t rfl
    simp only [List.getElem?_cons_zero, Option.some.injEq] at e1
    subst e1
    have ih := pa_tys hX (ts := ts) (bs := bs) (fun i t' e => by simpa using h (i + 1) t' (by simpa using e)) (by simpa using hl)
    exact pa_cons (pe_bltn (n.gl X hX) (n.mg X hX) n.boot (v := .ty (tyS t)) rfl n.nn n.nd) ih
  | [], _ :: _, _, hl => by simp at hl
  | _ :: _, [], _, hl => by simp at hl
theorem good_isiT {ts : List Ty} {bs : List Expr} {k2 : Nat} {p2 : Pos} (n : BiN Γ x (.builtin "isinstance")) (h : ∀ (i : Nat) (t : Ty), ts[i]? = some t → ∃ y py, bs[i]? = some (.Name y py) ∧ BiN Γ y (.type (tyS t))) (hl : ts.length = bs.length) (hln : ts.length ≤ 64)
    (hΓ : ∀ X, Γ X → Ctx E X) (ha : GoodE E Γ a f) (hs : starB a = false) :
    GoodE E Γ (.Call (.Name x p) [a, .Tuple bs k2 p2] [] pos) (fun ρ S => (f ρ S).bind fun p => if isScrM p.1 then none else some (.d (.bool (isTyM ts p.1)), p.2)) := by
  intro P W ρ S σ v S' Q c e' q X hX pins s I
  obtain ⟨⟨w, S1⟩, e1, e'⟩ := bindI e'
  simp only at e'
  split at e'
  · cases e'
  rename_i hsc
  rw [Bool.not_eq_true] at hsc
  cases e'
  refine (pe_callB (r := CallA E (.builtin "isinstance")) (fun pins s σ H xs us Q I r q => q X (hΓ X hX) pins s σ us I r) (n.gl X hX) (n.mg X hX) n.boot (pa_cons (pe_w hX) (pa_cons (pe_tup (pa_tys hX h hl)) pa_nil) (star_cons hs)) n.nn n.nd (star_cons hs) rfl).run pins s σ W.H Q I ?_
  refine ha P W ρ S σ w _ _ c e1 fun W1 u w1 c1 r1 => ⟨?_, fun tp htp => ?_⟩
  · have h3 : (64 : Nat) ≤ sizeLine := by rw [sizeLine_eq]; decide
    rw [List.length_map]
    exact Nat.le_trans hln h3
  · have c2 := c1.put (o := .tup (ts.map fun t => V.ty (tyS t))) htp
    exact isiT_ok c2 ts (r1.up (Wle.put htp)) hsc upd_same (q (W1.put tp _) _ (w1.trans (Wle.put htp)) c2 (.bl _))
/-! ### methods of lists -/
theorem baseR {o : Expr} {env : PySem.Env} {name : Str} (h : recvB o = true) : attributeBase o name env (eval o env) = eval o env := by
  cases o <;> first
    | rfl
    | exact absurd h (by simp [recvB])
def metId : Mt → String
  | .append => "list.append" | .extend => "list.extend" | .pop => "list.pop" | .popAt => "list.pop" | .index => "list.index"
theorem tyV_ref {P : Addr → Prop} {W : Wd} {ρ : Env} {S : Store} {σ : L2.St} {u : V} {l : Nat} (c : Cor E.K P W ρ S σ) (r : RV E.K P W u (.ref l)) : tyV E.K "list" u W.H := by
  obtain ⟨us, e, _⟩ := c.cell l _ (List.getElem?_eq_getElem (by rw [← c.n]; exact r.1))
  rw [r.2]
  exact .inl ⟨rfl, us, .inl (.inl e)⟩
theorem good_met1 {nm : Str} {id : String} {ap : Pos} {mt : MV → List MV → Store → Rs} (slot : Slot "list" nm id) (hty : typeOf (.builtin id) = pure (.type "method_descriptor")) (hΓ : ∀ X, Γ X → Ctx E X)
    (hr : ∀ o vs S r, mt o vs S = some r → ∃ l, o = .ref l)
    (ok : ∀ P W ρ S σ o a vs us v S' Q, Cor E.K P W ρ S σ → RV E.K P W a o → RVs E.K P W us vs → mt o vs S = some (v, S') → Nx E.K P W ρ σ v S' Q → MetA E id a us W.H Q)
    (ho : GoodE E Γ d f) (ha : GoodE E Γ a g) (hb : recvB d = true) (hs : starB a = false) (hline : (ap.endLine == pos.line) = true) :
    GoodE E Γ (.Call (.Attribute d nm ap) [a] [] pos) (fun ρ S => (f ρ S).bind fun p => ((g ρ p.2).bind fun q => some ([q.1], q.2)).bind fun q => mt p.1 q.1 q.2) := by
  intro P W ρ S σ v S' Q c e q X hX pins s I
  obtain ⟨⟨o, S1⟩, e1, e⟩ := bindI e
  obtain ⟨⟨vs, S2⟩, e2, e⟩ := bindI e
  obtain ⟨⟨w, S3⟩, e3, e2⟩ := bindI e2
  cases e2
  refine (pe_bm F.plainAttrs_list slot hty (r := MetA E id) (fun pins s σ H x xs v us Q I rx rs q => q X (hΓ X hX) pins s σ v us I rx rs) (pe_w hX) (pa_cons (pe_w hX) pa_nil (star_cons hs)) (baseR hb) (by rw [star_cons hs]; rfl) hline (star_cons hs) rfl).run pins s σ W.H Q I ?_
  refine ho P W ρ S σ o S1 _ c e1 fun W1 u w1 c1 r1 => ?_
  obtain ⟨l, hl⟩ := hr _ _ _ _ e
  refine ⟨by rw [(hΓ X hX).K]; subst hl; exact tyV_ref c1 r1, ?_⟩
  refine ha P W1 ρ S1 σ w _ _ c1 e3 fun W2 u2 w2 c2 r2 => ?_
  exact ok P W2 ρ _ σ o u [w] [u2] v S' Q c2 (r1.up w2) (.cons r2 .nil) e (q.le (w1.trans w2))
theorem good_met0 {nm : Str} {id : String} {ap : Pos} {mt : MV → List MV → Store → Rs} (slot : Slot "list" nm id) (hty : typeOf (.builtin id) = pure (.type "method_descriptor")) (hΓ : ∀ X, Γ X → Ctx E X)
    (hr : ∀ o vs S r, mt o vs S = some r → ∃ l, o = .ref l)
    (ok : ∀ P W ρ S σ o a vs us v S' Q, Cor E.K P W ρ S σ → RV E.K P W a o → RVs E.K P W us vs → mt o vs S = some (v, S') → Nx E.K P W ρ σ v S' Q → MetA E id a us W.H Q)
    (ho : GoodE E Γ d f) (hb : recvB d = true) (hline : (ap.endLine == pos.line) = true) :
    GoodE E Γ (.Call (.Attribute d nm ap) [] [] pos) (fun ρ S => (f ρ S).bind fun p => mt p.1 [] p.2) := by
  intro P W ρ S σ v S' Q c e q X hX pins s I
  obtain ⟨⟨o, S1⟩, e1, e⟩ := bindI e
  refine (pe_bm0 F.plainAttrs_list slot hty (r := MetA E id) (fun pins s σ H x xs v us Q I rx rs q => q X (hΓ X hX) pins s σ v us I rx rs) (pe_w hX) (baseR hb) hline).run pins s σ W.H Q I ?_
  refine ho P W ρ S σ o S1 _ c e1 fun W1 u w1 c1 r1 => ?_
  obtain ⟨l, hl⟩ := hr _ _ _ _ e
  refine ⟨by rw [(hΓ X hX).K]; subst hl; exact tyV_ref c1 r1, ?_⟩
  exact ok P W1 ρ _ σ o u [] [] v S' Q c1 r1 .nil e (q.le w1)
end
/-! ### what is walked -/
/-- the machine's items stand behind the iterator J -/
inductive Yld (K : PySem.W.Frag) (P : Addr → Prop) (W : Wd) : L2.It → List MV → Src → Prop
  | lst {a : Addr} {v : MV} {vs : List MV} {src : Src} : RV K P W (.ref a) v → isTup v = false → (∀ S, stab S src = true → itemsOf S v = some vs) → Yld K P W (Itl K a) vs src
  | tup {a : Addr} {v : MV} {vs : List MV} {src : Src} : RV K P W (.ref a) v → isTup v = true → (∀ S, stab S src = true → itemsOf S v = some vs) → Yld K P W (Itt K a) vs src
  | rng {lo : Int} {n : Nat} {src : Src} : Yld K P W (Itr lo n) ((ups lo n).map fun i => .d (.int i)) src
  | enum {a : Addr} {v : MV} {xs vs : List MV} {src : Src} : RV K P W (.ref a) v → isTup v = false → (∀ S, stab S src = true → itemsOf S v = some xs) → enumD 0 xs = some vs → Yld K P W (Ite K a) vs src
  | zipL {a b : Addr} {v w : MV} {xs ys vs : List MV} {src : Src} : RV K P W (.ref a) v → RV K P W (.ref b) w → isTup v = false → isTup w = false → (∀ S, stab S src = true → itemsOf S v = some xs ∧ itemsOf S w = some ys) → zipD xs ys = some vs → Yld K P W (Itz K a b) vs src
  | zipT {a b : Addr} {v w : MV} {xs ys vs : List MV} {src : Src} : RV K P W (.ref a) v → RV K P W (.ref b) w → isTup v = true → isTup w = true → (∀ S, stab S src = true → itemsOf S v = some xs ∧ itemsOf S w = some ys) → zipD xs ys = some vs → Yld K P W (RZ.ItzT K a b) vs src
section
variable {K : PySem.W.Frag} {P : Addr → Prop} {W W' : Wd} {ρ : Env} {S : Store} {σ : L2.St} {J : L2.It} {vs : List MV} {src : Src}
theorem Yld.map {P' : Addr → Prop} (f : ∀ u v, RV K P W u v → RV K P' W' u v) (y : Yld K P W J vs src) : Yld K P' W' J vs src := by
  cases y with
  | lst r t h => exact .lst (f _ _ r) t h
  | tup r t h => exact .tup (f _ _ r) t h
  | rng => exact .rng
  | enum r t h e => exact .enum (f _ _ r) t h e
  | zipL r1 r2 t1 t2 h e => exact .zipL (f _ _ r1) (f _ _ r2) t1 t2 h e
  | zipT r1 r2 t1 t2 h e => exact .zipT (f _ _ r1) (f _ _ r2) t1 t2 h e
theorem enumD_get : ∀ {xs vs : List MV} {i : Int} {j : Nat} {v : MV}, enumD i xs = some vs → vs[j]? = some v → ∃ x, xs[j]? = some (.d x) ∧ v = .d (.tuple [.int (i + j), x])
  | [], vs, i, j, v, e, h => by
    simp only [enumD, Option.some.injEq] at e
    subst e
    simp at h
  | .ref l :: xs, vs, i, j, v, e, h => by simp [enumD] at e
  | .d x :: xs, vs, i, j, v, e, h => by
    simp only [enumD] at e
    obtain ⟨ws, e1, e⟩ := mapI e
    subst e
    cases j with
    | zero =>
      simp only [List.getElem?_cons_zero, Option.some.injEq] at h
      subst h
      exact ⟨x, rfl, by simp⟩
    | succ j =>
      obtain ⟨y, h1, h2⟩ := enumD_get e1 (by simpa using h)
      exact ⟨y, by simpa using h1, by rw [h2]; congr 4; omega⟩
theorem enumD_len : ∀ {xs vs : List MV} {i : Int}, enumD i xs = some vs → vs.length = xs.length
  | [], vs, i, e => by
    simp only [enumD, Option.some.injEq] at e
    subst e
    rfl
  | .ref l :: xs, vs, i, e => by simp [enumD] at e
  | .d x :: xs, vs, i, e => by
    simp only [enumD] at e
    obtain ⟨ws, e1, e⟩ := mapI e
    subst e
    simp [enumD_len e1]
theorem zipD_get : ∀ {xs ys vs : List MV} {j : Nat} {v : MV}, zipD xs ys = some vs → vs[j]? = some v → ∃ x y, xs[j]? = some (.d x) ∧ ys[j]? = some (.d y) ∧ v = .d (.tuple [x, y])
  | [], ys, vs, j, v, e, h => by
    simp only [zipD, Option.some.injEq] at e
    subst e
    simp at h
  | .d x :: xs, [], vs, j, v, e, h => by
    simp only [zipD, Option.some.injEq] at e
    subst e
    simp at h
  | .ref x :: xs, [], vs, j, v, e, h => by
    simp only [zipD, Option.some.injEq] at e
    subst e
    simp at h
  | .ref l :: xs, _ :: _, vs, j, v, e, h => by simp [zipD] at e
  | .d _ :: xs, .ref _ :: _, vs, j, v, e, h => by simp [zipD] at e
  | .d x :: xs, .d y :: ys, vs, j, v, e, h => by
    simp only [zipD] at e
    obtain ⟨ws, e1, e⟩ := mapI e
    subst e
    cases j with
    | zero =>
      simp only [List.getElem?_cons_zero, Option.some.injEq] at h
      subst h
      exact ⟨x, y, rfl, rfl, rfl⟩
    | succ j =>
      obtain ⟨x', y', h1, h2, h3⟩ := zipD_get e1 (by simpa using h)
      exact ⟨x', y', by simpa using h1, by simpa using h2, h3⟩
theorem zipD_len : ∀ {xs ys vs : List MV}, zipD xs ys = some vs → vs.length = min xs.length ys.length
  | [], ys, vs, e => by
    simp only [zipD, Option.some.injEq] at e
    subst e
    simp
  | .d x :: xs, [], vs, e => by
    simp only [zipD, Option.some.injEq] at e
    subst e
    simp
  | .ref x :: xs, [], vs, e => by
    simp only [zipD, Option.some.injEq] at e
    subst e
    simp
  | .ref l :: xs, _ :: _, vs, e => by simp [zipD] at e
  | .d _ :: xs, .ref _ :: _, vs, e => by simp [zipD] at e
  | .d x :: xs, .d y :: ys, vs, e => by
    simp only [zipD] at e
    obtain ⟨ws, e1, e⟩ := mapI e
    subst e
    have := zipD_len e1
    simp only [List.length_cons]
    omega
theorem ups_length : ∀ (lo : Int) (n : Nat), (ups lo n).length = n
  | _, 0 => rfl
  | lo, n + 1 => by rw [ups, List.length_cons, ups_length]
theorem ups_get : ∀ (lo : Int) (n i : Nat) (k : Int), (ups lo n)[i]? = some k → k = lo + i
  | _, 0, i, k, h => by simp [ups] at h
  | lo, n + 1, 0, k, h => by simp [ups] at h; omega
  | lo, n + 1, i + 1, k, h => by
    have := ups_get (lo + 1) n i k (by simpa [ups] using h)
    omega
end
section
variable {E : En} {P : Addr → Prop} {W : Wd} {ρ : Env} {S : Store} {σ : L2.St} {J : L2.It} {vs : List MV} {src : Src}
theorem Cor.lstAt (c : Cor E.K P W ρ S σ) {a : Addr} {v : MV} {xs : List MV} (r : RV E.K P W (.ref a) v) (t : isTup v = false) (e : itemsOf S v = some xs) : ∃ us, SqL E.K W.H a us ∧ RVs E.K P W us xs := by
  obtain ⟨a', us, h1, h2, h3⟩ := c.itemsI r e
  cases h1
  rcases h2 with ⟨_, h2⟩ | ⟨h2, _⟩
  · exact ⟨us, .inl h2, h3⟩
  · rw [t] at h2; cases h2
theorem Cor.tupAt (c : Cor E.K P W ρ S σ) {a : Addr} {v : MV} {xs : List MV} (r : RV E.K P W (.ref a) v) (t : isTup v = true) (e : itemsOf S v = some xs) : ∃ us, SqT E.K W.H a us ∧ RVs E.K P W us xs := by
  obtain ⟨a', us, h1, h2, h3⟩ := c.itemsI r e
  cases h1
  rcases h2 with ⟨h2, _⟩ | ⟨_, h2⟩
  · rw [t] at h2; cases h2
  · exact ⟨us, h2, h3⟩
theorem Yld.go (y : Yld E.K P W J vs src) (c : Cor E.K P W ρ S σ) (st : stab S src = true) {i : Nat} (hi : i < vs.length) : J.go i W.H := by
  cases y with
  | lst r t h =>
    obtain ⟨us, q, rs⟩ := c.lstAt r t (h S st)
    have hi' : i < us.length := by rw [rs.length]; exact hi
    exact ⟨us, us[i], q, by simp [hi']⟩
  | tup r t h =>
    obtain ⟨us, q, rs⟩ := c.tupAt r t (h S st)
    have hi' : i < us.length := by rw [rs.length]; exact hi
    exact ⟨us, us[i], q, by simp [hi']⟩
  | rng =>
    rw [List.length_map, ups_length] at hi
    exact hi
  | enum r t h e =>
    obtain ⟨us, q, rs⟩ := c.lstAt r t (h S st)
    have hi' : i < us.length := by rw [rs.length, ← enumD_len e]; exact hi
    exact ⟨us, us[i], q, by simp [hi']⟩
  | zipL r1 r2 t1 t2 h e =>
    obtain ⟨us, q, rs⟩ := c.lstAt r1 t1 (h S st).1
    obtain ⟨us2, q2, rs2⟩ := c.lstAt r2 t2 (h S st).2
    rw [zipD_len e] at hi
    have h1 : i < us.length := by rw [rs.length]; omega
    have h2 : i < us2.length := by rw [rs2.length]; omega
    exact ⟨us, us2, us[i], us2[i], q, q2, by simp [h1], by simp [h2]⟩
  | zipT r1 r2 t1 t2 h e =>
    obtain ⟨us, q, rs⟩ := c.tupAt r1 t1 (h S st).1
    obtain ⟨us2, q2, rs2⟩ := c.tupAt r2 t2 (h S st).2
    rw [zipD_len e] at hi
    have h1 : i < us.length := by rw [rs.length]; omega
    have h2 : i < us2.length := by rw [rs2.length]; omega
    exact ⟨us, us2, us[i], us2[i], q, q2, by simp [h1], by simp [h2]⟩
theorem Yld.stop (y : Yld E.K P W J vs src) (c : Cor E.K P W ρ S σ) (st : stab S src = true) : J.stop vs.length W.H := by
  cases y with
  | lst r t h =>
    obtain ⟨us, q, rs⟩ := c.lstAt r t (h S st)
    exact ⟨us, q, by rw [rs.length]; exact Nat.le_refl _⟩
  | tup r t h =>
    obtain ⟨us, q, rs⟩ := c.tupAt r t (h S st)
    exact ⟨us, q, by rw [rs.length]; exact Nat.le_refl _⟩
  | rng =>
    rw [List.length_map, ups_length]
    exact Nat.le_refl _
  | enum r t h e =>
    obtain ⟨us, q, rs⟩ := c.lstAt r t (h S st)
    exact ⟨us, q, by rw [rs.length, enumD_len e]; exact Nat.le_refl _⟩
  | zipL r1 r2 t1 t2 h e =>
    obtain ⟨us, q, rs⟩ := c.lstAt r1 t1 (h S st).1
    obtain ⟨us2, q2, rs2⟩ := c.lstAt r2 t2 (h S st).2
    exact ⟨us, us2, q, q2, by rw [rs.length, rs2.length, zipD_len e]; omega⟩
  | zipT r1 r2 t1 t2 h e =>
    obtain ⟨us, q, rs⟩ := c.tupAt r1 t1 (h S st).1
    obtain ⟨us2, q2, rs2⟩ := c.tupAt r2 t2 (h S st).2
    exact ⟨us, us2, q, q2, by rw [rs.length, rs2.length, zipD_len e]; omega⟩
theorem pair_new (c : Cor E.K P W ρ S σ) {T : Addr} {x y : V} {dx dy : PyData} (hT : W.H T = none) (rx : RV E.K P W x (.d dx)) (ry : RV E.K P W y (.d dy)) :
    ∃ W', W'.H = upd W.H T (.tup [x, y]) ∧ Wle W W' ∧ (∀ ρ' S' σ', Cor E.K P W ρ' S' σ' → Cor E.K P W' ρ' S' σ') ∧ RV E.K P W' (.ref T) (.d (.tuple [dx, dy])) :=
  ⟨W.put T (.tup [x, y]), rfl, Wle.put hT, fun _ _ _ c => c.put hT, .tup (.inl upd_same) (c.away hT) (.cons (RV.up (v := .d dx) (Wle.put hT) rx) (.cons (RV.up (v := .d dy) (Wle.put hT) ry) .nil))⟩
theorem Yld.yld (y : Yld E.K P W J vs src) (c : Cor E.K P W ρ S σ) (st : stab S src = true) {i : Nat} {v : MV} {x : V} {H' : Hp} (hv : vs[i]? = some v) (h : J.yld i W.H x H') :
    ∃ W', W'.H = H' ∧ Wle W W' ∧ (∀ ρ' S' σ', Cor E.K P W ρ' S' σ' → Cor E.K P W' ρ' S' σ') ∧ RV E.K P W' x v := by
  cases y with
  | lst r t k =>
    obtain ⟨us, q, rs⟩ := c.lstAt r t (k S st)
    obtain ⟨rfl, h⟩ := h
    obtain ⟨u, h1, h2⟩ := rs.get hv
    rw [h us q] at h1
    cases h1
    exact ⟨W, rfl, Wle.refl W, fun _ _ _ c => c, h2⟩
  | tup r t k =>
    obtain ⟨us, q, rs⟩ := c.tupAt r t (k S st)
    obtain ⟨rfl, h⟩ := h
    obtain ⟨u, h1, h2⟩ := rs.get hv
    rw [h us q] at h1
    cases h1
    exact ⟨W, rfl, Wle.refl W, fun _ _ _ c => c, h2⟩
  | rng =>
    obtain ⟨rfl, rfl⟩ := h
    rw [List.getElem?_map] at hv
    obtain ⟨m, e1, rfl⟩ := mapI hv
    have := ups_get _ _ _ _ e1
    subst this
    exact ⟨W, rfl, Wle.refl W, fun _ _ _ c => c, .int _⟩
  | enum r t k e =>
    obtain ⟨us, q, rs⟩ := c.lstAt r t (k S st)
    obtain ⟨T, z, rfl, hT, rfl, h⟩ := h
    obtain ⟨dx, h1, rfl⟩ := enumD_get e hv
    obtain ⟨u, h2, h3⟩ := rs.get h1
    rw [h us q] at h2
    cases h2
    rw [Int.zero_add]
    exact pair_new c hT (.int _) h3
  | zipL r1 r2 t1 t2 k e =>
    obtain ⟨us, q, rs⟩ := c.lstAt r1 t1 (k S st).1
    obtain ⟨us2, q2, rs2⟩ := c.lstAt r2 t2 (k S st).2
    obtain ⟨T, z, z', rfl, hT, rfl, h, h'⟩ := h
    obtain ⟨dx, dy, h1, h2, rfl⟩ := zipD_get e hv
    obtain ⟨u, h3, h4⟩ := rs.get h1
    obtain ⟨u2, h5, h6⟩ := rs2.get h2
    rw [h us q] at h3
    rw [h' us2 q2] at h5
    cases h3
    cases h5
    exact pair_new c hT h4 h6
  | zipT r1 r2 t1 t2 k e =>
    obtain ⟨us, q, rs⟩ := c.tupAt r1 t1 (k S st).1
    obtain ⟨us2, q2, rs2⟩ := c.tupAt r2 t2 (k S st).2
    obtain ⟨T, z, z', rfl, hT, rfl, h, h'⟩ := h
    obtain ⟨dx, dy, h1, h2, rfl⟩ := zipD_get e hv
    obtain ⟨u, h3, h4⟩ := rs.get h1
    obtain ⟨u2, h5, h6⟩ := rs2.get h2
    rw [h us q] at h3
    rw [h' us2 q2] at h5
    cases h3
    cases h5
    exact pair_new c hT h4 h6
end
end TM
end
section
set_option Elab.async false
set_option linter.all false
set_option autoImplicit false
set_option maxRecDepth 100000
set_option maxHeartbeats 1000000
/-! TM: iterables, targets, comprehensions. -/
namespace TM
open PySem PySem.Spec PyProof.Rows L2
section
variable {E : En} {Γ : CxP} {a b tg it : Expr} {es : List Expr} {f g : Env → Store → Rs} {pos p tpos : Pos}
def GoodI (E : En) (Γ : CxP) (tg it : Expr) (f : Env → Store → Option (List MV × Src × Store)) : Prop := ∀ P W ρ S σ vs src S' R, Cor E.K P W ρ S σ → f ρ S = some (vs, src, S') → (∀ W' J, Wle W W' → Cor E.K P W' ρ S' σ → Yld E.K P W' J vs src → R J W'.H) → TIw Γ tg it σ W.H R
theorem stab_src {v : MV} {S0 : Store} {vs : List MV} (e : itemsOf S0 v = some vs) {S : Store} (h : stab S (srcOf v vs) = true) : itemsOf S v = some vs := by
  cases v with
  | d x => cases x <;> first | exact e | cases e
  | ref l =>
    simp only [srcOf, stab, Bool.and_true] at h
    split at h
    · rename_i c e1
      rw [beqVs_eq h] at e1
      exact e1
    · cases h
theorem stab_app : ∀ {a b : Src} {S : Store}, stab S (a ++ b) = true → stab S a = true ∧ stab S b = true
  | [], b, S, h => ⟨rfl, h⟩
  | (l, c) :: a, b, S, h => by
    simp only [List.cons_append, stab, Bool.and_eq_true] at h
    obtain ⟨h1, h2⟩ := stab_app h.2
    exact ⟨by simp only [stab, Bool.and_eq_true]; exact ⟨h.1, h1⟩, h2⟩
theorem listOf_items {S : Store} {v : MV} {vs : List MV} (e : listOf S v = some vs) : itemsOf S v = some vs ∧ isTup v = false := by
  cases v with
  | d x => cases x <;> first | exact ⟨e, rfl⟩ | cases e
  | ref l => exact ⟨e, rfl⟩
theorem good_seq (hΓ : ∀ X, Γ X → Ctx E X) (ha : GoodE E Γ a f) : GoodI E Γ tg a (fun ρ S => (f ρ S).bind fun p => (itemsOf p.2 p.1).map fun vs => (vs, srcOf p.1 vs, p.2)) := by
  intro P W ρ S σ vs src S' R c e q X hX pins s I
  obtain ⟨⟨v, S1⟩, e1, e⟩ := bindI e
  obtain ⟨ws, e2, e⟩ := mapI e
  cases e
  have hK := (hΓ X hX).K
  cases ht : isTup v with
  | false =>
    refine (pi_list (pe_w hX)).run pins s σ W.H R I ?_
    refine ha P W ρ S σ v _ _ c e1 fun W1 u w1 c1 r1 => ?_
    obtain ⟨x, us, rfl, h2, h3⟩ := c1.itemsI r1 e2
    rcases h2 with ⟨_, h2⟩ | ⟨h2, _⟩
    · rw [hK]
      exact ⟨x, rfl, ⟨us, .inl h2⟩, q W1 _ w1 c1 (.lst r1 ht fun S h => stab_src e2 h)⟩
    · rw [ht] at h2; cases h2
  | true =>
    refine (pi_tup (pe_w hX)).run pins s σ W.H R I ?_
    refine ha P W ρ S σ v _ _ c e1 fun W1 u w1 c1 r1 => ?_
    obtain ⟨x, us, rfl, h2, h3⟩ := c1.itemsI r1 e2
    rcases h2 with ⟨h2, _⟩ | ⟨_, h2⟩
    · rw [ht] at h2; cases h2
    · rw [hK]
      exact ⟨x, rfl, ⟨us, h2⟩, q W1 _ w1 c1 (.tup r1 ht fun S h => stab_src e2 h)⟩
theorem rngI_some {i j : Int} {ns : List Int} (h : rngI i j = some ns) : (-(2 ^ 62) ≤ i ∧ i < 2 ^ 62 ∧ -(2 ^ 62) ≤ j ∧ j < 2 ^ 62) ∧ ns = ups i (j - i).toNat := by
  unfold rngI at h
  split at h
  · rename_i hc
    simp only [Bool.and_eq_true, decide_eq_true_eq] at hc
    cases h
    exact ⟨⟨hc.1.1.1.1, hc.1.1.1.2, hc.1.1.2, hc.1.2⟩, rfl⟩
  · cases h
theorem good_rng1 (hΓ : ∀ X, Γ X → Ctx E X) (n : BiN Γ "range" (.type "range")) (ha : GoodE E Γ a f) (hs : starB a = false) : GoodI E Γ tg (.Call (.Name "range" p) [a] [] pos)
    (fun ρ S => ((f ρ S).bind fun p => some ([p.1], p.2)).bind fun p => (rangeOf p.1).bind fun ab => (rngI ab.1 ab.2).map fun ns => (ns.map fun n => .d (.int n), [], p.2)) := by
  intro P W ρ S σ vs src S' R c e q X hX pins s I
  obtain ⟨⟨ws, S1⟩, e1, e⟩ := bindI e
  obtain ⟨⟨v, S2⟩, e0, e1⟩ := bindI e1
  cases e1
  obtain ⟨⟨i, j⟩, e2, e⟩ := bindI e
  obtain ⟨ns, e3, e⟩ := mapI e
  cases e
  obtain ⟨hb, rfl⟩ := rngI_some e3
  refine (pi_range1 (n.gl X hX) (n.mg X hX) (pa_cons (pe_w hX) pa_nil (star_cons hs)) (star_cons hs)).run pins s σ W.H R I ?_
  refine ha P W ρ S σ v _ _ c e0 fun W1 u w1 c1 r1 => ?_
  simp only [rangeOf] at e2
  split at e2
  · rename_i m hm
    cases hm
    cases e2
    refine ⟨j, by rw [RV.intI r1], hb.2.2.1, hb.2.2.2, ?_⟩
    have q1 := q W1 (Itr 0 (j - 0).toNat) w1 c1 .rng
    rw [Int.sub_zero] at q1
    exact q1
  · rename_i hm
    cases hm
  · cases e2
theorem good_rng2 (hΓ : ∀ X, Γ X → Ctx E X) (n : BiN Γ "range" (.type "range")) (ha : GoodE E Γ a f) (hb : GoodE E Γ b g) (hs : starB a = false) (hs2 : starB b = false) : GoodI E Γ tg (.Call (.Name "range" p) [a, b] [] pos)
    (fun ρ S => ((f ρ S).bind fun p => ((g ρ p.2).bind fun q => some ([q.1], q.2)).bind fun q => some (p.1 :: q.1, q.2)).bind fun p => (rangeOf p.1).bind fun ab => (rngI ab.1 ab.2).map fun ns => (ns.map fun n => .d (.int n), [], p.2)) := by
  intro P W ρ S σ vs src S' R c e q X hX pins s I
  obtain ⟨⟨ws, S1⟩, e1, e⟩ := bindI e
  obtain ⟨⟨v, S2⟩, e0, e1⟩ := bindI e1
  obtain ⟨⟨v', S3⟩, e4, e1⟩ := bindI e1
  obtain ⟨⟨v2, S4⟩, e5, e4⟩ := bindI e4
  cases e4
  cases e1
  obtain ⟨⟨i, j⟩, e2, e⟩ := bindI e
  obtain ⟨ns, e3, e⟩ := mapI e
  cases e
  obtain ⟨hb', rfl⟩ := rngI_some e3
  refine (pi_range2 (n.gl X hX) (n.mg X hX) (pa_cons (pe_w hX) (pa_cons (pe_w hX) pa_nil (star_cons hs2)) (star_cons hs)) (by rw [star_cons hs, star_cons hs2]; rfl) (star_cons hs2)).run pins s σ W.H R I ?_
  refine ha P W ρ S σ v _ _ c e0 fun W1 u w1 c1 r1 => ?_
  refine hb P W1 ρ _ σ v2 _ _ c1 e5 fun W2 u2 w2 c2 r2 => ?_
  simp only [rangeOf] at e2
  split at e2
  · rename_i hm
    cases hm
  · rename_i i' j' hm
    cases hm
    cases e2
    exact ⟨i, j, by rw [RV.intI r1, RV.intI r2], hb', q W2 _ (w1.trans w2) c2 .rng⟩
  · cases e2
theorem good_enum (hΓ : ∀ X, Γ X → Ctx E X) (n : BiN Γ "enumerate" (.type "enumerate")) {elts : List Expr} {kk : Nat} (ha : GoodE E Γ a f) (hs : starB a = false) : GoodI E Γ (.Tuple elts kk tpos) (.Call (.Name "enumerate" p) [a] [] pos)
    (fun ρ S => (f ρ S).bind fun p => (listOf p.2 p.1).bind fun vs => (enumD 0 vs).map fun ws => (ws, srcOf p.1 vs, p.2)) := by
  intro P W ρ S σ vs src S' R c e q X hX pins s I
  obtain ⟨⟨v, S1⟩, e1, e⟩ := bindI e
  obtain ⟨ws, e2, e⟩ := bindI e
  obtain ⟨zs, e3, e⟩ := mapI e
  cases e
  have hK := (hΓ X hX).K
  obtain ⟨e4, ht⟩ := listOf_items e2
  refine (pi_enum (n.gl X hX) (n.mg X hX) (pa_cons (pe_w hX) pa_nil (star_cons hs)) (star_cons hs)).run pins s σ W.H R I ?_
  refine ha P W ρ S σ v _ _ c e1 fun W1 u w1 c1 r1 => ?_
  obtain ⟨x, us, rfl, h2, h3⟩ := c1.listI r1 e2
  rw [hK]
  exact ⟨x, us, rfl, .inl h2, q W1 _ w1 c1 (.enum r1 ht (fun S h => stab_src e4 h) e3)⟩
theorem good_zip (hΓ : ∀ X, Γ X → Ctx E X) (n : BiN Γ "zip" (.type "zip")) {elts : List Expr} {kk : Nat} (ha : GoodE E Γ a f) (hb : GoodE E Γ b g) (hs : starB a = false) (hs2 : starB b = false) : GoodI E Γ (.Tuple elts kk tpos) (.Call (.Name "zip" p) [a, b] [] pos)
    (fun ρ S => (f ρ S).bind fun p => (g ρ p.2).bind fun q => match itemsOf q.2 p.1, itemsOf q.2 q.1 with
      | some xs, some ys => if bothKind p.1 q.1 then (zipD xs ys).map fun vs => (vs, srcOf p.1 xs ++ srcOf q.1 ys, q.2) else none
      | _, _ => none) := by
  intro P W ρ S σ vs src S' R c e q X hX pins s I
  obtain ⟨⟨v, S1⟩, e1, e⟩ := bindI e
  obtain ⟨⟨w, S2⟩, e2, e⟩ := bindI e
  simp only at e
  split at e
  · rename_i xs ys e3 e4
    split at e
    · rename_i hk
      obtain ⟨zs, e5, e⟩ := mapI e
      cases e
      have hK := (hΓ X hX).K
      refine (RZ.pi_zipA (n.gl X hX) (n.mg X hX) (pa_cons (pe_w hX) (pa_cons (pe_w hX) pa_nil (star_cons hs2)) (star_cons hs)) (star_cons hs) (by rw [star_cons hs2]; rfl)).run pins s σ W.H R I ?_
      refine ha P W ρ S σ v _ _ c e1 fun W1 u w1 c1 r1 => ?_
      refine hb P W1 ρ _ σ w _ _ c1 e2 fun W2 u2 w2 c2 r2 => ?_
      have r1' := r1.up w2
      obtain ⟨x, us, rfl, h2, h3⟩ := c2.itemsI r1' e3
      obtain ⟨y, us', rfl, h4, h5⟩ := c2.itemsI r2 e4
      rw [hK]
      refine ⟨x, y, us, us', rfl, ?_⟩
      have hst : ∀ S, stab S (srcOf v xs ++ srcOf w ys) = true → itemsOf S v = some xs ∧ itemsOf S w = some ys := fun S h => ⟨stab_src e3 (stab_app h).1, stab_src e4 (stab_app h).2⟩
      simp only [bothKind, Bool.or_eq_true, Bool.and_eq_true, Bool.not_eq_true'] at hk
      rcases hk with ⟨k1, k2⟩ | ⟨k1, k2⟩
      · right
        rcases h2 with ⟨h2, _⟩ | ⟨_, h2⟩
        · rw [k1] at h2; cases h2
        rcases h4 with ⟨h4, _⟩ | ⟨_, h4⟩
        · rw [k2] at h4; cases h4
        exact ⟨h2, h4, q W2 _ (w1.trans w2) c2 (.zipT r1' r2 k1 k2 hst e5)⟩
      · left
        rcases h2 with ⟨_, h2⟩ | ⟨h2, _⟩
        · rcases h4 with ⟨_, h4⟩ | ⟨h4, _⟩
          · exact ⟨.inl h2, .inl h4, q W2 _ (w1.trans w2) c2 (.zipL r1' r2 k1 k2 hst e5)⟩
          · rw [k2] at h4; cases h4
        · rw [k1] at h2; cases h2
    · cases e
  · cases e
/-! ### targets -/
theorem wipe_in {σ : L2.St} {i : Nat} {u : Option V} : ∀ {own : List Nat}, (i ∈ own → L2.wipe (σ.set i u) own = L2.wipe σ own) ∧ (i ∉ own → L2.wipe (σ.set i u) own = (L2.wipe σ own).set i u)
  | [] => ⟨fun h => (by simp at h), fun _ => rfl⟩
  | j :: own => by
    obtain ⟨h1, h2⟩ := wipe_in (σ := σ) (i := i) (u := u) (own := own)
    constructor
    · intro h
      unfold L2.wipe
      by_cases hi : i ∈ own
      · rw [h1 hi]
      · rw [h2 hi]
        have : i = j := by simpa [hi] using h
        subst this
        rw [List.set_set]
    · intro h
      simp only [List.mem_cons, not_or] at h
      unfold L2.wipe
      rw [h2 h.2, List.set_comm _ _ h.1]
theorem good_nm {C : CallF} {i : Nat} {x : Str} (hN : ∀ X, Γ X → X.N.Nodup ∧ X.N[i]? = some x ∧ Loc X.env.scope x ∧ (X.fn x = true ∨ X.env.scope.names.lookup x = some .local)) : GoodG E Γ (.Name x pos) (fun own => own.contains i) (asg C (.nm i)) := by
  intro P W ρ S σ v u ρ' S' Q c r e q X hX pins s w I rw'
  simp only [asg, Option.some.injEq, Prod.mk.injEq] at e
  obtain ⟨rfl, rfl⟩ := e
  obtain ⟨h1, h2, h3, h4⟩ := hN X hX
  refine (pg_name h1 h2 h3 h4).run pins s σ W.H u w Q I rw' ?_
  refine q W _ (Wle.refl W) (c.store r) fun own ho => wipe_in.1 (by simpa using ho)
theorem good_sub (hΓ : ∀ X, Γ X → Ctx E X) (ha : GoodE E Γ a f) (hb : GoodE E Γ b g) (hs : isSliceE b = false) : GoodG E Γ (.Subscript a b pos) (fun _ => false)
    (fun v ρ S => (f ρ S).bind fun p => (g ρ p.2).bind fun q => (setIx q.2 p.1 q.1 v).map fun S' => (ρ, S')) := by
  intro P W ρ S σ v u ρ' S' Q c r e q X hX pins s w I rw'
  obtain ⟨⟨o, S1⟩, e1, e⟩ := bindI e
  obtain ⟨⟨i, S2⟩, e2, e⟩ := bindI e
  obtain ⟨S3, e3, e⟩ := mapI e
  cases e
  refine (pg_sub (pe_w hX) (pe_w hX) set_list ?_).run pins s σ W.H u w Q I rw' ?_
  · intro v
    cases b <;> first
      | rfl
      | exact absurd hs (by simp [isSliceE])
  · refine ha P W ρ S σ o _ _ c e1 fun W1 z w1 c1 r1 => ?_
    refine hb P W1 ρ _ σ i _ _ c1 e2 fun W2 z2 w2 c2 r2 => ?_
    have r1' := r1.up w2
    have r0 := r.up (w1.trans w2)
    have key : ∀ l k, o = .ref l → i = .d (.int k) → rSetL z z2 u W2.H (fun H3 => Q σ H3) := fun l k ho hi => by
      subst ho hi
      simp only [setIx] at e3
      split at e3
      · rename_i cs e4
        obtain ⟨j, e5, rfl⟩ := mapI e3
        obtain ⟨us, rfl, g, rs⟩ := c2.refI r1' e4
        rw [← rs.length] at e5
        have h := q (W2.put (W2.μ l) (.lst (us.set j u))) σ ((w1.trans w2).trans (Wle.write r1'.1)) (c2.write r1'.1 (rs.set r0 j)) (fun own ho => by simp at ho)
        exact ⟨W2.μ l, us, k, j, rfl, r2.intI, g, e5, h⟩
      · cases e3
    cases o with
    | d x => simp [setIx] at e3
    | ref l => cases i with
      | ref _ => simp [setIx] at e3
      | d y => cases y with
        | int k => exact key l k rfl rfl
        | _ => simp [setIx] at e3
theorem assign_cons {e : Expr} {es : List Expr} {env : PySem.Env} (h : starB e = false) : assignEach (e :: es) env = (false, assign e env) :: assignEach es env := by
  cases e <;> first
    | rfl
    | simp [starB] at h
theorem assign_len : ∀ {es : List Expr} {env : PySem.Env}, (es.all fun e => !starB e) = true → (assignEach es env).length = es.length ∧ (assignEach es env).findIdx? (·.1) = none
  | [], _, _ => ⟨rfl, rfl⟩
  | e :: es, env, h => by
    simp only [List.all_cons, Bool.and_eq_true, Bool.not_eq_true'] at h
    obtain ⟨h1, h2⟩ := assign_len (env := env) h.2
    rw [assign_cons h.1]
    refine ⟨by rw [List.length_cons, List.length_cons, h1], ?_⟩
    rw [List.findIdx?_cons]
    simp [h2]
theorem goodGs_nil {f : List MV → Env → Store → Option (Env × Store)} {t : List Nat → Bool} (hf : ∀ vs ρ S r, f vs ρ S = some r → vs = [] ∧ r = (ρ, S)) : GoodGs E Γ [] t f := by
  intro P W ρ S σ vs us ρ' S' Q c rs e q X hX pins s ws I rw'
  obtain ⟨rfl, e2⟩ := hf _ _ _ _ e
  cases e2
  cases rs
  exact pgs_nil.run pins s σ W.H [] ws Q I rw' ⟨rfl, q W σ (Wle.refl W) c fun _ _ => rfl⟩
theorem goodGs_cons {t t1 t2 : List Nat → Bool} {fg : List MV → Env → Store → Option (Env × Store)} {f : MV → Env → Store → Option (Env × Store)} {g : List MV → Env → Store → Option (Env × Store)} (hs : starB a = false) (ha : GoodG E Γ a t1 f) (hb : GoodGs E Γ es t2 g)
    (hf : ∀ vs ρ S r, fg vs ρ S = some r → ∃ v vr, vs = v :: vr ∧ ((f v ρ S).bind fun p => g vr p.1 p.2) = some r) (ht : ∀ own, t own = true → t1 own = true ∧ t2 own = true) : GoodGs E Γ (a :: es) t fg := by
  intro P W ρ S σ vs us ρ' S' Q c rs e q X hX pins s ws I rw'
  obtain ⟨v, vr, rfl, e2⟩ := hf _ _ _ _ e
  obtain ⟨⟨ρ1, S1⟩, e1, e2⟩ := bindI e2
  cases rs with
  | cons r rs =>
    refine (pgs_cons (pg_w hX) (pgs_w hX) (by rw [assign_cons hs]; rfl)).run pins s σ W.H _ ws Q I rw' ⟨_, _, rfl, ?_⟩
    refine ha P W ρ S σ v _ ρ1 S1 _ c r e1 fun W1 σ1 w1 c1 h1 => ?_
    refine hb P W1 ρ1 S1 σ1 vr _ ρ' S' _ c1 (rs.up w1) e2 fun W2 σ2 w2 c2 h2 => ?_
    exact q W2 σ2 (w1.trans w2) c2 fun own ho => by
      obtain ⟨t1, t2⟩ := ht own ho
      rw [h2 own t2, h1 own t1]
theorem good_tp {t : List Nat → Bool} {k : Nat} {g : List MV → Env → Store → Option (Env × Store)} (hΓ : ∀ X, Γ X → Ctx E X) (hs : (es.all fun e => !starB e) = true) (h : GoodGs E Γ es t g) (hl : ∀ vs ρ S r, g vs ρ S = some r → vs.length = es.length) :
    GoodG E Γ (.Tuple es k pos) t (fun v ρ S => match v with
      | .d (.tuple xs) => g (xs.map .d) ρ S
      | _ => none) := by
  intro P W ρ S σ v u ρ' S' Q c r e q X hX pins s w I rw'
  simp only at e
  split at e
  · rename_i xs
    obtain ⟨x, us, rfl, h2, h3⟩ := r.tupI
    have hn := hl _ _ _ _ e
    rw [List.length_map] at hn
    refine (pg_tup (hΓ X hX).calm (pgs_w hX) (n := es.length) (assign_len hs).1 (assign_len hs).2).run pins s σ W.H _ w Q I rw' ⟨x, us, rfl, ?_, ?_, ?_⟩
    · rw [(hΓ X hX).K]; exact h2
    · rw [h3.length]; exact hn
    · exact h P W ρ S σ _ us ρ' S' Q c (RVs.of h3) e q
  · cases e
end
end TM
end
section
set_option Elab.async false
set_option linter.all false
set_option autoImplicit false
set_option maxRecDepth 100000
set_option maxHeartbeats 1000000
/-! TM: comprehensions. -/
namespace TM
open PySem PySem.Spec PyProof.Rows L2
def TQw (Γ : CxP) (ifs : List Expr) : TT := fun σ H Q => ∀ X, Γ X → ∀ (pins : List (Addr × Obj)) (s : Shared), Inv X pins σ H s →
  wpAny (model X.prog X.w) X.A (forIn ifs true fun c r => if r = true then do let ok ← isTrue c X.env (eval c X.env); pure (ForInStep.yield ok) else pure (ForInStep.yield r)) (TP X pins σ Q) X.xe s
section
variable {E : En} {Γ Γ' : CxP} {tg it elt : Expr} {ifs : List Expr} {pos : Pos}
theorem pts_w {X : Cx} (h : Γ X) : PTs X ifs (TQw Γ ifs) := ⟨fun pins s _ _ _ I q => q X h pins s I⟩
def GoodQ (E : En) (Γ : CxP) (ifs : List Expr) (f : Env → Store → Option (Bool × Store)) : Prop := ∀ P W ρ S σ b S' Q, Cor E.K P W ρ S σ → f ρ S = some (b, S') → NxT E.K P W ρ σ b S' Q → TQw Γ ifs σ W.H Q
theorem goodQ_nil : GoodQ E Γ [] (fun _ S => some (true, S)) := by
  intro P W ρ S σ b S' Q c e q X hX pins s I
  cases e
  exact pts_nil.run pins s σ W.H Q I (q W (Wle.refl W) c)
theorem goodQ_one {c : Expr} {f : Env → Store → Option (Bool × Store)} (h : GoodT E Γ c f) : GoodQ E Γ [c] f := fun P W ρ S σ b S' Q c e q X hX pins s I => (pts_one (pt_w hX)).run pins s σ W.H Q I (h P W ρ S σ b S' Q c e q)
theorem wipe_out {σ : L2.St} {i : Nat} : ∀ {own : List Nat}, i ∈ own → (L2.wipe σ own).set i none = L2.wipe σ own
  | [], h => by simp at h
  | j :: own, h => by
    unfold L2.wipe
    by_cases z : i = j
    · subst z
      rw [List.set_set]
    · have hi : i ∈ own := by simpa [z] using h
      rw [← List.set_comm _ _ z, wipe_out hi]
theorem wipe_sub {σ : L2.St} : ∀ {os own : List Nat}, (∀ i ∈ os, i ∈ own) → L2.wipe (L2.wipe σ own) os = L2.wipe σ own
  | [], own, _ => rfl
  | j :: os, own, h => by
    show (L2.wipe (L2.wipe σ own) os).set j none = _
    rw [wipe_sub fun i hi => h i (List.mem_cons_of_mem _ hi)]
    exact wipe_out (h j List.mem_cons_self)
theorem wipe_wipe {σ : L2.St} {own : List Nat} : L2.wipe (L2.wipe σ own) own = L2.wipe σ own := wipe_sub fun _ h => h
theorem isSet_fold {e : Expr} {env : PySem.Env} (h : isSetE e = false) (x : Value) : foldedSetIterable e env x = pure x := by
  cases e <;> first
    | rfl
    | exact absurd h (by simp [isSetE])
theorem lc_end {P : Addr → Prop} {W W' : Wd} {ρ : Env} {S S' : Store} {σ : L2.St} {Q : VK} {D : Addr} {acc : List V} {zs : List MV} {r : Bool} {v : MV} (w : Wle W W') (hD : W.H D = none) (hP : ¬ P D) (c : Cor E.K (fun a => P a ∨ a = D) W' ρ S σ) (hD' : W'.H D = some (.lst acc))
    (ra : RVs E.K (fun a => P a ∨ a = D) W' acc zs) (e : mkL r zs S = some (v, S')) (q : Nx E.K P W ρ σ v S' Q) : Q (.ref D) W'.H := by
  unfold mkL at e
  split at e
  · cases r with
    | true =>
      simp only [if_true, Option.some.injEq, Prod.mk.injEq] at e
      obtain ⟨rfl, rfl⟩ := e
      refine q (W'.add D) _ (Wle.add w hD) (Cor.add c hD' ra hP) ⟨?_, ?_⟩
      · show S.length < W'.n + 1
        rw [c.n]; exact Nat.lt_succ_self _
      · have : (W'.add D).μ S.length = D := by rw [← c.n]; exact Wd.add_new
        rw [this]
    | false =>
      simp only [Bool.false_eq_true, if_false] at e
      obtain ⟨xs, e1, e⟩ := mapI e
      cases e
      refine q W' _ w (c.less fun a h => .inl h) (.lst hD' (fun z => ?_) ((ra.pures e1).less fun b z => z.imp .inl id))
      rcases z with z | ⟨l, hl, z⟩
      · exact hP z
      · exact (c.prot D (.inr rfl)).1 l hl z
  · cases e
/-- the machine's turn of a comprehension -/
def lcF (own : List Nat) (fg : MV → Env → Store → Option (Env × Store)) (ft : Env → Store → Option (Bool × Store)) (fe : Env → Store → Rs) (ρ : Env) : MV → Store → Option (Option MV × Store) :=
  fun v S1 => (fg v (wipeE ρ own) S1).bind fun a => (ft a.1 a.2).bind fun b => if b.1 then (fe a.1 b.2).bind fun y => some (some y.1, y.2) else some (none, b.2)
theorem lc_reads {own : List Nat} {own' : List (Str × Nat)} {r : Bool} {t : List Nat → Bool} {fi : Env → Store → Option (List MV × Src × Store)} {fg : MV → Env → Store → Option (Env × Store)} {ft : Env → Store → Option (Bool × Store)} {fe : Env → Store → Rs} (ho : own'.map (·.2) = own)
    (hi : GoodI E Γ tg it fi) (hg : GoodG E Γ' tg t fg) (hq : GoodQ E Γ' ifs ft) (he : GoodE E Γ' elt fe) (ht : t own = true) (P : Addr → Prop) (W : Wd) (ρ : Env) (S : Store) (σ : L2.St) (v : MV) (S' : Store) (Q : VK) (c : Cor E.K P W ρ S σ)
    (e : ((fi ρ S).bind fun p => (lcGo p.2.1 (lcF own fg ft fe ρ) p.1 p.2.2).bind fun z => mkL r z.1 z.2) = some (v, S')) (q : Nx E.K P W ρ σ v S' Q) : tLc (TIw Γ tg it) (TGw Γ' tg) (TQw Γ' ifs) (TEw Γ' elt) (own'.map (·.2)) σ W.H Q := by
  subst ho
  obtain ⟨⟨vs, src, S1⟩, e1, e⟩ := bindI e
  obtain ⟨⟨zs, S2⟩, e2, e3⟩ := bindI e
  refine hi P W ρ S σ vs src S1 _ c e1 fun W1 J w1 c1 y1 => fun D hD => ?_
  have hP : ¬ P D := fun z => c1.away hD (.inl z)
  refine ⟨fun i m H => m = vs.length - i ∧ i ≤ vs.length ∧ ∃ W' S' acc av rest, W'.H = H ∧ Wle W1 W' ∧ Cor E.K (fun a => P a ∨ a = D) W' ρ S' σ ∧ Yld E.K (fun a => P a ∨ a = D) W' J vs src ∧ W'.H D = some (.lst acc) ∧ RVs E.K (fun a => P a ∨ a = D) W' acc av ∧ lcGo src (lcF (own'.map (·.2)) fg ft fe ρ) (vs.drop i) S' = some (rest, S2) ∧ av ++ rest = zs, ⟨vs.length, rfl, Nat.zero_le _, W1.put D (.lst []), S1, [], [], zs, rfl, Wle.put hD, c1.putAway hD, y1.map fun _ _ r => r.put hD, upd_same, .nil, e2, rfl⟩, ?_⟩
  rintro i m H ⟨rfl, hi', W', S', acc, av, rest, rfl, w', c', y', hD', ra, eg, ez⟩
  by_cases hlt : i < vs.length
  · rw [List.drop_eq_getElem_cons hlt] at eg
    simp only [lcGo] at eg
    split at eg
    · rename_i st
      obtain ⟨⟨o, S3⟩, ef, eg⟩ := bindI eg
      obtain ⟨⟨rest', S4⟩, eg', eq⟩ := bindI eg
      cases eq
      refine .inr ⟨y'.go c' st hlt, fun H => i + 1 ≤ vs.length ∧ ∃ W' S' acc av rest, W'.H = H ∧ Wle W1 W' ∧ Cor E.K (fun a => P a ∨ a = D) W' ρ S' σ ∧ Yld E.K (fun a => P a ∨ a = D) W' J vs src ∧ W'.H D = some (.lst acc) ∧ RVs E.K (fun a => P a ∨ a = D) W' acc av ∧ lcGo src (lcF (own'.map (·.2)) fg ft fe ρ) (vs.drop (i + 1)) S' = some (rest, S4) ∧ av ++ rest = zs,
        fun H' p' => ⟨vs.length - (i + 1), by omega, rfl, p'⟩, fun x H' hy => ?_⟩
      obtain ⟨W3, rfl, w3, cup, rx⟩ := y'.yld c' st (List.getElem?_eq_getElem hlt) hy
      have c3 := cup _ _ _ c'
      have ne3 := (c'.prot D (.inr rfl)).1
      have hD3 := (w3.k D _ ne3 hD')
      unfold lcF at ef
      obtain ⟨⟨ρa, Sa⟩, ea, ef⟩ := bindI ef
      obtain ⟨⟨b, Sb⟩, eb, ef⟩ := bindI ef
      refine hg _ W3 (wipeE ρ _) S' (L2.wipe σ _) _ x ρa Sa _ (c3.wipe _) rx ea fun W4 σ4 w4 c4 hw => ⟨(hw _ ht).trans wipe_wipe, ?_⟩
      refine hq _ W4 ρa Sa σ4 b Sb _ c4 eb fun W5 w5 c5 => ?_
      have w35 := w4.trans w5
      have hD5 := w35.k D _ hD3.1 hD3.2
      cases b with
      | false =>
        simp only [Bool.false_eq_true, if_false] at ef ⊢
        cases ef
        exact ⟨hlt, W5, _, acc, av, rest', rfl, w'.trans (w3.trans w35), c3.back w35 c5, y'.map fun _ _ r => (r.up w3).up w35, hD5.2, (ra.up w3).up w35, eg', ez⟩
      | true =>
        simp only [if_true] at ef ⊢
        obtain ⟨⟨yv, Sc⟩, ey, ef⟩ := bindI ef
        cases ef
        refine he _ W5 ρa Sb σ4 yv _ _ c5 ey fun W6 u6 w6 c6 r6 => ?_
        have w36 := w35.trans w6
        have hD6 := w6.k D _ hD5.1 hD5.2
        have hl : zs.length ≤ sizeLine := by
          unfold mkL at e3
          split at e3
          · assumption
          · cases e3
        refine ⟨acc, hD6.2, ?_, hlt, W6.put D (.lst (acc ++ [u6])), _, acc ++ [u6], av ++ [yv], rest', rfl, (w'.trans (w3.trans w36)).over hD, (c3.back w36 c6).paint (.inr rfl), y'.map fun _ _ r => ((r.up w3).up w36).paint (.inr rfl), upd_same, ((((ra.up w3).up w36).append (.cons r6 .nil)).paint (.inr rfl)), eg', ?_⟩
        · rw [← ez] at hl
          simp only [Option.toList_some, List.length_append, List.length_cons, List.length_nil] at hl
          rw [ra.length]
          omega
        · rw [← ez]
          simp
    · cases eg
  · have hil : i = vs.length := by omega
    subst hil
    rw [List.drop_length] at eg
    simp only [lcGo] at eg
    split at eg
    · rename_i st
      cases eg
      rw [List.append_nil] at ez
      subst ez
      exact .inl ⟨y'.stop c' st, lc_end w' hD hP c' hD' ra e3 (q.le w1)⟩
    · cases eg
theorem good_lc {scope : Scope} {own : List Nat} {own' : List (Str × Nat)} {r : Bool} {t : List Nat → Bool} {fi : Env → Store → Option (List MV × Src × Store)} {fg : MV → Env → Store → Option (Env × Store)} {ft : Env → Store → Option (Bool × Store)} {fe : Env → Store → Rs} (hΓ : ∀ X, Γ X → Ctx E X)
    (hB : ∀ X, Γ X → ∀ (s : Shared) (H : Hp) (C : Addr) (cl : List (Str × Addr)) (fp : List Addr), Γ' (X.blk s H scope (compEnvC scope cl C X.env) fp)) (ok : ∀ X, Γ X → BlkOk X.N X.env.scope scope own') (ho : own'.map (·.2) = own)
    (hi : GoodI E Γ tg it fi) (hg : GoodG E Γ' tg t fg) (hq : GoodQ E Γ' ifs ft) (he : GoodE E Γ' elt fe) (ht : t own = true) (hs : isSetE it = false) :
    GoodE E Γ (.ListComp elt [⟨tg, it, ifs, 0⟩] scope pos) (fun ρ S => (fi ρ S).bind fun p => (lcGo p.2.1 (lcF own fg ft fe ρ) p.1 p.2.2).bind fun z => mkL r z.1 z.2) := by
  intro P W ρ S σ v S' Q c e q X hX pins s I
  exact (pe_lc (hΓ X hX).calm (hΓ X hX).nd (pi_w hX) (ok X hX) (fun s H C cl fp => pg_w (hB X hX s H C cl fp)) (fun s H C cl fp => pts_w (hB X hX s H C cl fp)) (fun s H C cl fp => pe_w (hB X hX s H C cl fp)) (isSet_fold hs)).run pins s σ W.H Q I (lc_reads (r := r) ho hi hg hq he ht P W ρ S σ v S' Q c e q)
end
end TM
end
section
set_option Elab.async false
set_option linter.all false
set_option autoImplicit false
set_option maxRecDepth 100000
set_option maxHeartbeats 1000000
/-! TM: sorted(set(..)), list(range(..)), tuple(range(..)). -/
namespace TM
open PySem PySem.Spec PyProof.Rows L2
section
variable {E : En} {Γ : CxP} {a b : Expr} {f g : Env → Store → Rs} {pos p p2 pos2 : Pos} {x y : Str}
theorem good_sset {r : Bool} (hΓ : ∀ X, Γ X → Ctx E X) (n1 : BiN Γ x (.builtin "sorted")) (n2 : BiN Γ y (.type "set")) (ha : GoodE E Γ a f) (hs : starB a = false) :
    GoodE E Γ (.Call (.Name x p) [.Call (.Name y p2) [a] [] pos2] [] pos) (fun ρ S => ((f ρ S).bind fun p => some ([p.1], p.2)).bind fun p => biSortedSet r p.1 p.2) := by
  intro P W ρ S σ v S' Q c e q X hX pins s I
  obtain ⟨⟨vs, S1⟩, e0, e⟩ := bindI e
  obtain ⟨⟨w, S2⟩, e1, e0⟩ := bindI e0
  cases e0
  have inner : PE X (.Call (.Name y p2) [a] [] pos2) (tCB (CallA E (.type "set")) (tCons (TEw Γ a) tNil)) := pe_callTy (fun pins s σ H xs us Q I r q => q X (hΓ X hX) pins s σ us I r) (n2.gl X hX) (n2.mg X hX) n2.boot (pa_cons (pe_w hX) pa_nil (star_cons hs)) n2.nn n2.nd (star_cons hs) rfl
  refine (pe_callB (r := CallA E (.builtin "sorted")) (fun pins s σ H xs us Q I r q => q X (hΓ X hX) pins s σ us I r) (n1.gl X hX) (n1.mg X hX) n1.boot (pa_cons inner pa_nil) n1.nn n1.nd rfl rfl).run pins s σ W.H Q I ?_
  exact ha P W ρ S σ w _ _ c e1 fun W1 u w1 c1 r1 => sset_ok c1 r1 e (q.le w1)
theorem rg_vals {K : PySem.W.Frag} {A : Addr → Prop} {H : Hp} (lo hi : Int) : RpAll K A H (rgV lo hi) ((ups lo (hi - lo).toNat).map .int) := by
  unfold rgV
  generalize (hi - lo).toNat = n
  have : ∀ (n : Nat) (lo : Int), RpAll K A H ((List.range n).map fun i => V.int (lo + (i : Nat))) ((ups lo n).map .int) := fun n => by
    induction n with
    | zero => exact fun _ => .nil
    | succ n ih =>
      intro lo
      rw [List.range_succ_eq_map, List.map_cons, List.map_map, ups, List.map_cons]
      have h := ih (lo + 1)
      have e : ((fun i : Nat => V.int (lo + (i : Nat))) ∘ Nat.succ) = fun i : Nat => V.int (lo + 1 + (i : Nat)) := by
        funext i
        show V.int _ = V.int _
        congr 1
        omega
      rw [e]
      have e0 : lo + ((0 : Nat) : Int) = lo := by omega
      rw [e0]
      exact .cons (.int lo) h
  exact this n lo
theorem rg_ok {lo hi : Int} {ns : List Int} (h : rngI lo hi = some ns) : RgOk lo hi ∧ ns = ups lo (hi - lo).toNat := by
  unfold rngI at h
  split at h
  · rename_i hc
    simp only [Bool.and_eq_true, decide_eq_true_eq] at hc
    cases h
    have h5 : (hi - lo).toNat ≤ sizeLine := hc.2
    rw [sizeLine_eq] at h5
    exact ⟨⟨hc.1.1.1.1, hc.1.1.1.2, hc.1.1.2, hc.1.2, by omega⟩, rfl⟩
  · cases h
/-- a range as an argument -/
def GoodR (E : En) (Γ : CxP) (e : Expr) (f : Env → Store → Option (List MV × Store)) : Prop := ∀ X, Γ X → ∃ t, PRg X e t ∧ ∀ P W ρ S σ vs S' lo hi Q, Cor E.K P W ρ S σ → f ρ S = some (vs, S') → rangeOf vs = some (lo, hi) → (∀ W', Wle W W' → Cor E.K P W' ρ S' σ → Q lo hi W'.H) → t σ W.H Q
theorem goodR_1 (n : BiN Γ "range" (.type "range")) (ha : GoodE E Γ a f) (hs : starB a = false) : GoodR E Γ (.Call (.Name "range" p) [a] [] pos) (fun ρ S => (f ρ S).bind fun p => some ([p.1], p.2)) := by
  intro X hX
  refine ⟨_, prg_1 (n.gl X hX) (n.mg X hX) (pe_w hX) (star_cons hs), fun P W ρ S σ vs S' lo hi Q c e er q => ?_⟩
  obtain ⟨⟨w, S1⟩, e1, e⟩ := bindI e
  cases e
  refine ha P W ρ S σ w _ _ c e1 fun W1 u w1 c1 r1 => ?_
  simp only [rangeOf] at er
  split at er
  · rename_i m hm
    cases hm
    cases er
    exact ⟨_, RV.intI r1, q W1 w1 c1⟩
  · rename_i hm
    cases hm
  · cases er
theorem goodR_2 (n : BiN Γ "range" (.type "range")) (ha : GoodE E Γ a f) (hb : GoodE E Γ b g) (hs : starB a = false) (hs2 : starB b = false) : GoodR E Γ (.Call (.Name "range" p) [a, b] [] pos) (fun ρ S => (f ρ S).bind fun p => ((g ρ p.2).bind fun q => some ([q.1], q.2)).bind fun q => some (p.1 :: q.1, q.2)) := by
  intro X hX
  refine ⟨_, prg_2 (n.gl X hX) (n.mg X hX) (pe_w hX) (pe_w hX) (star_cons hs) (star_cons hs2) (by rw [star_cons hs2]; rfl), fun P W ρ S σ vs S' lo hi Q c e er q => ?_⟩
  obtain ⟨⟨w, S1⟩, e1, e⟩ := bindI e
  obtain ⟨⟨w', S2⟩, e2, e⟩ := bindI e
  obtain ⟨⟨w2, S3⟩, e3, e2⟩ := bindI e2
  cases e2
  cases e
  refine ha P W ρ S σ w _ _ c e1 fun W1 u w1 c1 r1 => ?_
  refine hb P W1 ρ _ σ w2 _ _ c1 e3 fun W2 u2 w2 c2 r2 => ?_
  simp only [rangeOf] at er
  split at er
  · rename_i hm
    cases hm
  · rename_i i j hm
    cases hm
    cases er
    exact ⟨_, _, RV.intI r1, RV.intI r2, q W2 (w1.trans w2) c2⟩
  · cases er
theorem good_lrg {r : Bool} {e : Expr} {fr : Env → Store → Option (List MV × Store)} (hΓ : ∀ X, Γ X → Ctx E X) (n : BiN Γ "list" (.type "list")) (hr : GoodR E Γ e fr) (hs : starB e = false) : GoodE E Γ (.Call (.Name "list" p) [e] [] pos) (fun ρ S => (fr ρ S).bind fun p => biListRange r p.1 p.2) := by
  intro P W ρ S σ v S' Q c e' q X hX pins s I
  obtain ⟨⟨vs, S1⟩, e1, e'⟩ := bindI e'
  simp only [biListRange] at e'
  split at e'
  · rename_i lo hi er
    split at e'
    · rename_i ns en
      obtain ⟨ok, rfl⟩ := rg_ok en
      obtain ⟨t, pr, good⟩ := hr X hX
      refine (pe_listRg (hΓ X hX).calm (n.gl X hX) (n.mg X hX) pr (star_cons hs)).run pins s σ W.H Q I ?_
      refine good P W ρ S σ vs S1 lo hi _ c e1 er fun W1 w1 c1 => ⟨ok, ?_⟩
      have rv : RVs E.K P W1 (rgV lo hi) ((ups lo (hi - lo).toNat).map fun n => .d (.int n)) := by
        have := RVs.of (rg_vals (K := E.K) (A := W1.A P) (H := W1.H) lo hi)
        rw [List.map_map] at this
        exact this
      exact (mkL_new c1 rv e' (q.le w1)).2
    · cases e'
  · cases e'
theorem good_trg {e : Expr} {fr : Env → Store → Option (List MV × Store)} (hΓ : ∀ X, Γ X → Ctx E X) (n : BiN Γ "tuple" (.type "tuple")) (hr : GoodR E Γ e fr) (hs : starB e = false) : GoodE E Γ (.Call (.Name "tuple" p) [e] [] pos) (fun ρ S => (fr ρ S).bind fun p => biTupRange p.1 p.2) := by
  intro P W ρ S σ v S' Q c e' q X hX pins s I
  obtain ⟨⟨vs, S1⟩, e1, e'⟩ := bindI e'
  simp only [biTupRange] at e'
  split at e'
  · rename_i lo hi er
    obtain ⟨ns, en, e'⟩ := mapI e'
    cases e'
    obtain ⟨ok, rfl⟩ := rg_ok en
    obtain ⟨t, pr, good⟩ := hr X hX
    refine (pe_tupRg (hΓ X hX).calm (n.gl X hX) (n.mg X hX) pr (star_cons hs)).run pins s σ W.H Q I ?_
    refine good P W ρ S σ vs _ lo hi _ c e1 er fun W1 w1 c1 => ⟨ok, ?_⟩
    exact tup_new c1 (rg_vals lo hi) (q.le w1)
  · cases e'
end
end TM
end
section
set_option Elab.async false
set_option linter.all false
set_option autoImplicit false
set_option maxRecDepth 100000
set_option maxHeartbeats 1000000
/-! TM: calls of the program's own functions. -/
namespace TM
open PySem PySem.Spec PyProof.Rows L2
/-- the lists handed on to be changed, and what they hold -/
inductive Cells (K : PySem.W.Frag) (A : Addr → Prop) (H : Hp) : List Addr → List (List PyData) → Prop
  | nil : Cells K A H [] []
  | cons {p : Addr} {ps : List Addr} {c : List PyData} {cs : List (List PyData)} {ws : List V} : H p = some (.lst ws) → RpAll K A H ws c → Cells K A H ps cs → Cells K A H (p :: ps) (c :: cs)
theorem Cells.length {K : PySem.W.Frag} {A : Addr → Prop} {H : Hp} : ∀ {ps : List Addr} {cs : List (List PyData)}, Cells K A H ps cs → ps.length = cs.length
  | _, _, .nil => rfl
  | _, _, .cons _ _ r => by rw [List.length_cons, List.length_cons, r.length]
theorem Cells.get {K : PySem.W.Frag} {A : Addr → Prop} {H : Hp} : ∀ {ps : List Addr} {cs : List (List PyData)} {i : Nat} {p : Addr}, Cells K A H ps cs → ps[i]? = some p → ∃ c ws, cs[i]? = some c ∧ H p = some (.lst ws) ∧ RpAll K A H ws c
  | _, _, i, p, .nil, e => by simp at e
  | _, _, 0, p, .cons h r _, e => by
    simp only [List.getElem?_cons_zero, Option.some.injEq] at e
    subst e
    exact ⟨_, _, rfl, h, r⟩
  | _, _, i + 1, p, .cons _ _ t, e => by
    obtain ⟨c, ws, h1, h2, h3⟩ := Cells.get (i := i) t (by simpa using e)
    exact ⟨c, ws, by simpa using h1, h2, h3⟩
theorem Cells.less {K : PySem.W.Frag} {A A' : Addr → Prop} {H : Hp} (h : ∀ b, A' b → A b) : ∀ {ps : List Addr} {cs : List (List PyData)}, Cells K A H ps cs → Cells K A' H ps cs
  | _, _, .nil => .nil
  | _, _, .cons e r t => .cons e (r.less h) (t.less h)
theorem RVs.map {K : PySem.W.Frag} {P P' : Addr → Prop} {W W' : Wd} (f : ∀ {u : V} {v : MV}, RV K P W u v → RV K P' W' u v) : ∀ {us : List V} {vs : List MV}, RVs K P W us vs → RVs K P' W' us vs
  | _, _, .nil => .nil
  | _, _, .cons r rs => .cons (f r) (rs.map f)
/-- a function's promise: what C computes -/
def spF (K : PySem.W.Frag) (C : CallF) (f : Nat) (vs : List V) (H : Hp) (Q : VK) : Prop :=
  ∃ (A : Addr → Prop) (ps : List Addr) (us : List V) (cs : List (List PyData)) (ds : List PyData) (x : PyData) (cs' : List (List PyData)), vs = ps.map .ref ++ us ∧ C f cs ds = some (x, cs') ∧ ps.Nodup ∧ (∀ a, A a → a ∈ ps ∨ NotT H a) ∧ (∀ p ∈ ps, A p) ∧ Cells K A H ps cs ∧ RpAll K A H us ds ∧
    ∀ u H', (∀ b o, b ∉ ps → H b = some o → H' b = some o) → Cells K A H' ps cs' → Rp K A H' u x → Q u H'
/-- a function of the program keeps its promise where no guard is set -/
structure FnG (P : Program) (w : World) (K : PySem.W.Frag) (mg : Str → Option Value) (base : Heap) (k : Nat) (f : Addr) (fd : FuncData) (ps : List Str) (sp : List V → Hp → VK → Prop) : Prop where
  len : ∀ vs H Q, sp vs H Q → vs.length = ps.length
  run : ∀ (A : Around) (outer : List PySem.Env) (s : Shared) (H : Hp), Room k A → A.guards = some [] → Env0 P w K mg base A outer s H →
    ∀ (args : Args) (us : List Value) (vs : List V) (Q : VK), BindsTo s fd args (ps.zip us) → Vals vs us → sp vs H Q → codeAny (model P w) A (.call (.ref f) args) (CR CX0 outer P w H s Q E0) s
section
variable {E : En} {X : Cx} {f : Addr} {fd : FuncData} {ps : List Str} {sp : List V → Hp → VK → Prop}
theorem fng_run (F : FnG E.P E.w E.K E.mg E.base E.k f fd ps sp) (cx : Ctx E X) {pins : List (Addr × Obj)} {σ : L2.St} {H : Hp} {s : Shared} {Q : VK} {us zs : List Value} {kw : List (Str × Value)} {vs : List V}
    (hb : BindsTo s fd ⟨us, kw⟩ (ps.zip zs)) (I : Inv X pins σ H s) (r : Vals vs zs) (h : sp vs H Q) : wpAny (model X.prog X.w) X.A (call (.ref f) us kw) (EP X pins σ Q) X.xe s := by
  have e0 := I.env0
  rw [cx.prog, cx.w, cx.K, cx.mg, cx.base] at e0
  have hrun := F.run X.A X.stack s H cx.room cx.gd e0 ⟨us, kw⟩ zs vs Q hb r h
  rw [← cx.prog, ← cx.w] at hrun
  refine wpAny_call (codeAny_mono hrun fun r s' hq => ?_)
  match r, hq with
  | .ok (.ret u), hq => exact I.after hq
  | .ok .next, hq => exact False.elim hq
  | .ok .brk, hq => exact False.elim hq
  | .ok .cont, hq => exact False.elim hq
  | .error e, hq => exact False.elim hq
end
/-- a body of the text keeps the promise -/
theorem fng_of {P : Program} {w : World} {K : PySem.W.Frag} {mg : Str → Option Value} {base : Heap} {k : Nat} {f : Addr} {nm qual : Str} {params : Arguments} {body : List Stmt} {scope : Scope} {dV kV doc pm cdv ct oc : Value} {an od : Option Addr} {osl : Array (Option Value)} {N ps : List Str} {sp : List V → Hp → VK → Prop}
    (S : FnScope N ps scope) (hcd : PySem.W.codeIn K cdv qual = true) (lk : K.lookup f = some ⟨oc, od, .func (PySem.W.fnOf nm qual params body scope dV kV doc pm an cdv ct), osl⟩) (len : ∀ vs H Q, sp vs H Q → vs.length = ps.length)
    (hbody : ∀ (A : Around) (outer : List PySem.Env) (s : Shared) (H : Hp) (vs : List V) (Q : VK), Room k (A.deeper (envOfC qual scope s.heap.objs.size f cdv)) → A.guards = some [] → sp vs H Q →
      ∀ (pins : List (Addr × Obj)) (s1 : Shared), Inv (cxOf CX0 P w K mg base N qual scope f cdv A outer s H E0) pins (start N vs) H s1 →
        wpAny (model P w) (A.deeper (envOfC qual scope s.heap.objs.size f cdv)) (execs body (envOfC qual scope s.heap.objs.size f cdv)) (SP (cxOf CX0 P w K mg base N qual scope f cdv A outer s H E0) pins { nx := fun _ H' => Q .non H', rt := Q }) (cxOf CX0 P w K mg base N qual scope f cdv A outer s H E0).xe s1) :
    FnG P w K mg base (k + 1) f (PySem.W.fnOf nm qual params body scope dV kV doc pm an cdv ct) ps sp := by
  refine ⟨len, fun A outer s H hr hgd e0 args us vs Q hb r hsp => ?_⟩
  have stands : ∀ b o, base.get? b = some o → s.heap.get? b = some o := fun b o e => (e0.bs b o e).1
  have inK := e0.mod.kin.keeps stands
  refine codeAny_call_function hr.depth (inK _ _ lk) rfl S.co S.gen rfl (PySem.W.codeRec_of inK hcd) (hb _ _ _ _ ?_)
  have seen : ∀ y ∈ ps.zip us, scope.names.lookup y.1 = some .local ∨ (scope.names.lookup y.1 = some .cell ∧ ((cellsFrom (s.heap.objs.size + 1) scope.names []).lookup y.1).isSome = true) := by
    rintro ⟨n, v⟩ hy
    exact (S.par n (List.of_mem_zip hy).1).imp id fun q => ⟨q, PySem.W.cellsFrom_some _ _ _ (.inl q)⟩
  refine wpAny_newFunctionEnv_cells S.kind seen fun env he s1 x => ?_
  subst he
  refine ⟨(e0.mod.nolimit.keeps stands).keeps x.toInCall.keep, codeAny_func ?_⟩
  have I := inv_start (CX := CX0) (E := E0) (N := N) S hr.hd e0 (len _ _ _ hsp) r x
  have done : ∀ {σ' : L2.St} {H' : Hp} {s' : Shared} {v : V} {u : Value}, Inv (cxOf CX0 P w K mg base N qual scope f cdv A outer s H E0) [] σ' H' s' → RelV v u → Q v H' → CE outer P w H s Q u s' := fun J rv q => ⟨_, _, J.os, J.bare, J.base, J.hok, rv, q⟩
  refine wpAny_mono (hbody A outer s H vs Q (hr.deeper _) hgd hsp [] s1 I) (fun fl s' hs => ?_) fun _ _ h => h
  match fl, hs with
  | .ret u, ⟨v, σ', H', J, rv, q⟩ => exact done J rv q
  | .next, ⟨σ', H', J, q⟩ => exact done (v := V.non) (u := Value.none) J rfl q
  | .brk, ⟨_, _, _, q⟩ => exact False.elim q
  | .cont, ⟨_, _, _, q⟩ => exact False.elim q
section
variable {E : En} {P : Addr → Prop} {W : Wd} {ρ : Env} {S S' : Store} {σ : L2.St} {Q : VK}
/-! ### the caller's side -/
theorem io_is (c : Cor E.K P W ρ S σ) : ∀ {vs : List MV} {us : List V} {seen ls : List Nat} {cs : List (List PyData)}, RVs E.K P W us vs → ioCells S vs seen = some (ls, cs) →
    us = (ls.map W.μ).map .ref ∧ (∀ l ∈ ls, l < W.n ∧ l ∉ seen) ∧ ls.Nodup ∧ Cells E.K (W.A P) W.H (ls.map W.μ) cs
  | [], _, seen, ls, cs, .nil, e => by
    simp only [ioCells, Option.some.injEq, Prod.mk.injEq] at e
    obtain ⟨rfl, rfl⟩ := e
    exact ⟨rfl, fun l h => by simp at h, List.nodup_nil, .nil⟩
  | .d _ :: _, _, seen, ls, cs, _, e => by simp [ioCells] at e
  | .ref l :: vs, _, seen, ls, cs, .cons r rs, e => by
    simp only [ioCells] at e
    split at e
    · cases e
    · rename_i hs
      split at e
      · rename_i cc ls' cs' e1 e2
        obtain ⟨x, e3, e⟩ := mapI e
        simp only [Prod.mk.injEq] at e
        obtain ⟨rfl, rfl⟩ := e
        obtain ⟨h1, h2, h3, h4⟩ := io_is c rs e2
        obtain ⟨ws, g, q⟩ := c.cell l _ e1
        refine ⟨by rw [r.2, h1]; rfl, fun k hk => ?_, ?_, .cons g (q.pures e3) h4⟩
        · rcases List.mem_cons.mp hk with rfl | hk
          · exact ⟨r.1, by simpa using hs⟩
          · obtain ⟨a, b⟩ := h2 k hk
            exact ⟨a, fun z => b (List.mem_cons_of_mem _ z)⟩
        · exact List.nodup_cons.mpr ⟨fun z => (h2 l z).2 List.mem_cons_self, h3⟩
      · cases e
theorem io_nodup (c : Cor E.K P W ρ S σ) {ls : List Nat} (h : ∀ l ∈ ls, l < W.n) (hn : ls.Nodup) : (ls.map W.μ).Nodup := by
  induction ls with
  | nil => exact List.nodup_nil
  | cons l ls ih =>
    obtain ⟨h1, h2⟩ := List.nodup_cons.mp hn
    rw [List.map_cons, List.nodup_cons]
    refine ⟨fun z => ?_, ih (fun l hl => h l (List.mem_cons_of_mem _ hl)) h2⟩
    obtain ⟨k, hk, e⟩ := List.mem_map.mp z
    have := c.inj k l (h k (List.mem_cons_of_mem _ hk)) (h l List.mem_cons_self) e
    subst this
    exact h1 hk
theorem rd_d : ∀ {vs : List MV} {us : List V} {ls : List Nat} {ds : List PyData}, RVs E.K P W us vs → allD vs = true → rdArgs S ls vs = some ds → RpAll E.K (W.A P) W.H us ds
  | [], _, ls, ds, .nil, _, e => by
    simp only [rdArgs, Option.some.injEq] at e
    subst e
    exact .nil
  | .ref _ :: _, _, ls, ds, _, h, _ => by simp [allD] at h
  | .d x :: vs, _, ls, ds, .cons r rs, h, e => by
    simp only [rdArgs] at e
    obtain ⟨xs, e1, e⟩ := mapI e
    subst e
    exact .cons r (rd_d rs (by simpa [allD] using h) e1)
theorem rd_list {v : Nat} {x : PyData} (e : rd S (.ref v) = some x) : ∃ ys, x = .list ys := by
  simp only [rd] at e
  split at e
  · obtain ⟨ys, _, e⟩ := mapI e
    exact ⟨ys, e.symm⟩
  · cases e
theorem rd1_list {v : Nat} {x : PyData} (e : rd1 S (.ref v) = some x) : ∃ ys, x = .list ys := by
  simp only [rd1] at e
  split at e
  · obtain ⟨ys, _, e⟩ := mapI e
    exact ⟨ys, e.symm⟩
  · cases e
theorem rd_nol : ∀ {vs : List MV} {us : List V} {ls : List Nat} {ds : List PyData}, RVs E.K P W us vs → rdArgs S ls vs = some ds → noLs ds = true → allD vs = true
  | [], _, ls, ds, .nil, _, _ => rfl
  | .ref l :: vs, _, ls, ds, .cons r rs, e, hn => by
    simp only [rdArgs] at e
    split at e
    · cases e
    · split at e
      · rename_i x xs e1 e2
        cases e
        have : ∃ ys, x = .list ys := by
          split at e1
          · exact rd_list e1
          · exact rd1_list e1
        obtain ⟨ys, rfl⟩ := this
        simp [noLs, noL] at hn
      · cases e
  | .d x :: vs, _, ls, ds, .cons r rs, e, hn => by
    simp only [rdArgs] at e
    obtain ⟨xs, e1, e⟩ := mapI e
    subst e
    simp only [noLs, Bool.and_eq_true] at hn
    show allD vs = true
    exact rd_nol rs e1 hn.2
/-- read away from the cells ls -/
theorem rd1_away (c : Cor E.K P W ρ S σ) {ls : List Nat} (h : ∀ l ∈ ls, l < W.n) {u : V} {v : MV} {x : PyData} (r : RV E.K P W u v) (hv : ∀ l, v = .ref l → l ∉ ls) (e : rd1 S v = some x) : Rp E.K (fun a => a ∈ ls.map W.μ) W.H u x := by
  have sub : ∀ b, b ∈ ls.map W.μ → W.A P b := fun b hb => by
    obtain ⟨k, hk, e⟩ := List.mem_map.mp hb
    exact .inr ⟨k, h k hk, e.symm⟩
  cases v with
  | d y =>
    simp only [rd1, Option.some.injEq] at e
    subst e
    exact Rp.less sub r
  | ref l =>
    simp only [rd1] at e
    split at e
    · rename_i cc hc
      obtain ⟨us, h1, h2, h3⟩ := c.refI r hc
      obtain ⟨ys, e1, rfl⟩ := mapI e
      rw [h1]
      refine .lst h2 (fun z => ?_) ((h3.pures e1).less sub)
      obtain ⟨k, hk, e⟩ := List.mem_map.mp z
      have := c.inj k l (h k hk) r.1 e
      subst this
      exact hv k rfl hk
    · cases e
theorem rd_away (c : Cor E.K P W ρ S σ) {ls : List Nat} (h : ∀ l ∈ ls, l < W.n) : ∀ {vs : List MV} {us : List V} {ds : List PyData}, RVs E.K P W us vs → rdArgs S ls vs = some ds → RpAll E.K (fun a => a ∈ ls.map W.μ) W.H us ds
  | [], _, ds, .nil, e => by
    simp only [rdArgs, Option.some.injEq] at e
    subst e
    exact .nil
  | .ref l :: vs, _, ds, .cons r rs, e => by
    simp only [rdArgs] at e
    split at e
    · cases e
    · rename_i hl
      split at e
      · rename_i x xs e1 e2
        cases e
        refine .cons ?_ (rd_away c h rs e2)
        split at e1
        · rename_i hm
          have : ls = [] := by simpa using hm
          subst this
          exact (c.rdI r e1).less fun b hb => by simp at hb
        · exact rd1_away c h r (fun k hk => by cases hk; simpa using hl) e1
      · cases e
  | .d x :: vs, _, ds, .cons r rs, e => by
    simp only [rdArgs] at e
    obtain ⟨xs, e1, e⟩ := mapI e
    subst e
    exact .cons (rd1_away c h r (fun l z => nomatch z) rfl) (rd_away c h rs e1)
theorem setCells_length : ∀ {ls : List Nat} {cs : List (List PyData)} {S : Store}, (setCells S ls cs).length = S.length
  | [], _, _ => by simp [setCells]
  | _ :: _, [], _ => by simp [setCells]
  | l :: ls, c :: cs, S => by rw [setCells, setCells_length, List.length_set]
theorem setCells_out : ∀ {ls : List Nat} {cs : List (List PyData)} {S : Store} {l : Nat}, l ∉ ls → (setCells S ls cs)[l]? = S[l]?
  | [], _, _, _, _ => by simp [setCells]
  | _ :: _, [], _, _, _ => by simp [setCells]
  | k :: ls, c :: cs, S, l, h => by
    simp only [List.mem_cons, not_or] at h
    rw [setCells, setCells_out h.2, List.getElem?_set_ne (Ne.symm h.1)]
theorem setCells_in : ∀ {ls : List Nat} {cs : List (List PyData)} {S : Store} {i l : Nat}, ls.Nodup → ls[i]? = some l → l < S.length → i < cs.length → (setCells S ls cs)[l]? = (cs[i]?).map fun c => c.map .d
  | [], _, _, i, l, _, e, _, _ => by simp at e
  | _ :: _, [], _, i, l, _, _, _, h => by simp at h
  | k :: ls, c :: cs, S, 0, l, hn, e, hl, _ => by
    simp only [List.getElem?_cons_zero, Option.some.injEq] at e
    subst e
    rw [setCells, setCells_out (List.nodup_cons.mp hn).1, List.getElem?_set_self hl]
    rfl
  | k :: ls, c :: cs, S, i + 1, l, hn, e, hl, hi => by
    rw [setCells, setCells_in (i := i) (List.nodup_cons.mp hn).2 (by simpa using e) (by rw [List.length_set]; exact hl) (by simpa using hi)]
    simp
/-- behind a call -/
theorem call_after (c : Cor E.K P W ρ S σ) {ls : List Nat} {cs : List (List PyData)} {H' : Hp} (h : ∀ l ∈ ls, l < W.n) (hn : ls.Nodup) (fr : ∀ b o, b ∉ ls.map W.μ → W.H b = some o → H' b = some o) (hc : Cells E.K (W.A P) H' (ls.map W.μ) cs) :
    Wle W ⟨W.μ, W.n, H'⟩ ∧ Cor E.K P ⟨W.μ, W.n, H'⟩ ρ (setCells S ls cs) σ := by
  have off : ∀ b, (∀ l, l < W.n → b ≠ W.μ l) → b ∉ ls.map W.μ := fun b hb z => by
    obtain ⟨k, hk, e⟩ := List.mem_map.mp z
    exact hb k (h k hk) e.symm
  have le : Wle W ⟨W.μ, W.n, H'⟩ := ⟨Nat.le_refl _, fun _ _ => rfl, fun b o hb e => ⟨hb, fr b o (off b hb) e⟩⟩
  refine ⟨le, ⟨by rw [setCells_length]; exact c.n, c.len, fun i v e => let ⟨u, e1, r⟩ := c.slot i v e; ⟨u, e1, r.up le⟩, fun l d e => ?_, c.inj, fun a q => ?_⟩⟩
  · have hl : l < W.n := by
      have := (List.getElem?_eq_some_iff.mp e).1
      rw [setCells_length, ← c.n] at this
      exact this
    by_cases hm : l ∈ ls
    · obtain ⟨i, hi⟩ := List.getElem?_of_mem hm
      obtain ⟨d', ws, e1, e2, e3⟩ := hc.get (i := i) (p := W.μ l) (by rw [List.getElem?_map, hi]; rfl)
      rw [setCells_in hn hi (by rw [← c.n]; exact hl) (List.getElem?_eq_some_iff.mp e1).1, e1] at e
      cases e
      exact ⟨ws, e2, RVs.of e3⟩
    · rw [setCells_out hm] at e
      obtain ⟨us, e1, r⟩ := c.cell l d e
      refine ⟨us, fr _ _ (fun z => ?_) e1, r.up le⟩
      obtain ⟨k, hk, e⟩ := List.mem_map.mp z
      have := c.inj k l (h k hk) hl e
      subst this
      exact hm hk
  · obtain ⟨n1, n2⟩ := c.prot a q
    obtain ⟨o, e⟩ := n2
    exact ⟨n1, o, fr a _ (off a n1) e⟩
theorem cells_nol {A A' : Addr → Prop} {H : Hp} (h : ∀ b, A' b → NotT H b) : ∀ {ps : List Addr} {cs : List (List PyData)}, Cells E.K A H ps cs → cs.all noLs = true → Cells E.K A' H ps cs
  | _, _, .nil, _ => .nil
  | _, _, .cons e r t, hn => by
    simp only [List.all_cons, Bool.and_eq_true] at hn
    exact .cons e (RpAll.nol r hn.1 h) (cells_nol h t hn.2)
theorem call_ok (c : Cor E.K P W ρ S σ) {C : CallF} {r : Bool} {f io : Nat} {vs : List MV} {us : List V} {v : MV} (rs : RVs E.K P W us vs) (e : callM C r f io vs S = some (v, S')) (q : Nx E.K P W ρ σ v S' Q) : spF E.K C f us W.H Q := by
  unfold callM at e
  split at e
  · cases e
  · rename_i ls cs e1
    split at e
    · cases e
    · rename_i ds e2
      split at e
      · cases e
      · rename_i x cs' e3
        obtain ⟨i1, i2, i3, i4⟩ := io_is c (rs.take io) e1
        have hl : ∀ l ∈ ls, l < W.n := fun l h => (i2 l h).1
        have hus : us = (ls.map W.μ).map .ref ++ us.drop io := by rw [← i1, List.take_append_drop]
        have rd := rs.drop io
        have nA : ∀ a, W.A P a → NotT W.H a := fun a ha => by
          rcases ha with ha | ⟨l, hl, rfl⟩
          · exact (c.prot a ha).2
          · obtain ⟨us, e, _⟩ := c.cell l _ (List.getElem?_eq_getElem (by rw [← c.n]; exact hl))
            exact NotT.lst e
        have inA : ∀ p ∈ ls.map W.μ, W.A P p := fun p hp => by
          obtain ⟨k, hk, e⟩ := List.mem_map.mp hp
          exact .inr ⟨k, hl k hk, e.symm⟩
        split at e
        · rename_i hr
          split at e
          · rename_i xs
            split at e
            · rename_i hc
              simp only [Bool.and_eq_true, decide_eq_true_eq, List.isEmpty_iff] at hc
              obtain ⟨⟨⟨h1, h2⟩, h3⟩, h4⟩ := hc
              subst h1
              cases e
              cases i4
              have ad := rd_nol rd e2 h2
              refine ⟨NotT W.H, [], us.drop io, [], ds, _, _, hus, e3, List.nodup_nil, fun a ha => .inr ha, fun p hp => by simp at hp, .nil, RpAll.nol (rd_d rd ad e2) h2 fun b ha => ha, fun u H' fr _ ru => ?_⟩
              cases ru with
              | lst g na ra =>
                rename_i p zs
                have hp : W.H p = none := by
                  cases e : W.H p with
                  | none => rfl
                  | some o =>
                    have := fr p o (by simp) e
                    rw [g] at this
                    cases this
                    exact absurd (NotT.lst e) na
                have le : Wle W ⟨W.μ, W.n, H'⟩ := ⟨Nat.le_refl _, fun _ _ => rfl, fun b o hb e => ⟨hb, fr b o (by simp) e⟩⟩
                have stp : ∀ b o, ¬ W.A P b → W.H b = some o → ¬ (Wd.A (fun a => P a ∨ a = p) ⟨W.μ, W.n, H'⟩) b ∧ H' b = some o := fun b o nb e => ⟨fun z => by
                  rcases z with (z | rfl) | z
                  · exact nb (.inl z)
                  · rw [hp] at e; cases e
                  · exact nb (.inr z), fr b o (by simp) e⟩
                have up : ∀ {u : V} {v : MV}, RV E.K P W u v → RV E.K (fun a => P a ∨ a = p) ⟨W.μ, W.n, H'⟩ u v := fun {u v} r => by
                  cases v with
                  | d y => exact Rp.up stp r
                  | ref l => exact r
                have ups : ∀ {us : List V} {vs : List MV}, RVs E.K P W us vs → RVs E.K (fun a => P a ∨ a = p) ⟨W.μ, W.n, H'⟩ us vs := fun r => r.map up
                have nt : ∀ b, NotT W.H b → NotT H' b := fun b ⟨us, e⟩ => ⟨us, fr b _ (by simp) e⟩
                have c1 : Cor E.K (fun a => P a ∨ a = p) ⟨W.μ, W.n, H'⟩ ρ S σ := ⟨c.n, c.len, fun i v e => let ⟨u, e1, r⟩ := c.slot i v e; ⟨u, e1, up r⟩, fun l d e => let ⟨us, e1, r⟩ := c.cell l d e; ⟨us, fr _ _ (by simp) e1, ups r⟩, c.inj, fun a ha => by
                  rcases ha with ha | rfl
                  · exact ⟨(c.prot a ha).1, nt a (c.prot a ha).2⟩
                  · refine ⟨fun l hl z => ?_, NotT.lst g⟩
                    obtain ⟨o, e⟩ := nA a (.inr ⟨l, hl, z⟩)
                    rw [hp] at e; cases e⟩
                have rz : RpAll E.K (Wd.A (fun a => P a ∨ a = p) ⟨W.μ, W.n, H'⟩) H' zs xs := RpAll.nol ra h3 fun b hb => by
                  have : NotT H' b := by
                    rcases hb with (hb | rfl) | ⟨l, hl, rfl⟩
                    · exact nt b (c.prot b hb).2
                    · exact NotT.lst g
                    · exact nt _ (nA _ (.inr ⟨l, hl, rfl⟩))
                  exact this
                have hP : ¬ P p := fun z => (c.prot p z).2.some hp
                refine q (Wd.add ⟨W.μ, W.n, H'⟩ p) _ (Wle.add le hp) (Cor.add c1 g (RVs.of rz) hP) ⟨?_, ?_⟩
                · show S.length < W.n + 1
                  rw [c.n]; exact Nat.lt_succ_self _
                · have : (Wd.add ⟨W.μ, W.n, H'⟩ p).μ S.length = p := by rw [← c.n]; exact Wd.add_new (W := ⟨W.μ, W.n, H'⟩)
                  rw [this]
            · cases e
          · cases e
        · split at e
          · rename_i hc
            cases e
            rw [Bool.or_eq_true] at hc
            have nd := io_nodup c hl i3
            rcases hc with hc | hc
            · refine ⟨W.A P, ls.map W.μ, us.drop io, cs, ds, x, cs', hus, e3, nd, fun a ha => .inr (nA a ha), inA, i4, rd_d rd hc e2, fun u H' fr hcs ru => ?_⟩
              obtain ⟨le, c1⟩ := call_after c hl i3 fr hcs
              exact q ⟨W.μ, W.n, H'⟩ u le c1 ru
            · rw [Bool.and_eq_true] at hc
              have i4' : Cells E.K (fun a => a ∈ ls.map W.μ) W.H (ls.map W.μ) cs := i4.less inA
              refine ⟨fun a => a ∈ ls.map W.μ, ls.map W.μ, us.drop io, cs, ds, x, cs', hus, e3, nd, fun a ha => .inl ha, fun p hp => hp, i4', rd_away c hl rd e2, fun u H' fr hcs ru => ?_⟩
              have nt : ∀ b, W.A P b → NotT H' b := fun b hb => by
                by_cases z : b ∈ ls.map W.μ
                · obtain ⟨i, hi⟩ := List.getElem?_of_mem z
                  obtain ⟨_, ws, _, e, _⟩ := hcs.get hi
                  exact NotT.lst e
                · obtain ⟨o, e⟩ := nA b hb
                  exact ⟨o, fr b _ z e⟩
              obtain ⟨le, c1⟩ := call_after c hl i3 fr (cells_nol nt hcs hc.2)
              exact q ⟨W.μ, W.n, H'⟩ u le c1 (Rp.nol ru hc.1 nt)
          · cases e
end
end TM
end
section
set_option Elab.async false
set_option linter.all false
set_option autoImplicit false
set_option maxRecDepth 100000
set_option maxHeartbeats 1000000
/-! TM: statements. -/
namespace TM
open PySem PySem.Spec PyProof.Rows L2
def TSw (Γ : CxP) (st : Stmt) : TS := fun D σ H => ∀ X, Γ X → ∀ (pins : List (Addr × Obj)) (s : Shared), Inv X pins σ H s → wpAny (model X.prog X.w) X.A (exec st X.env) (SP X pins D) X.xe s
def TSsw (Γ : CxP) (sts : List Stmt) : TS := fun D σ H => ∀ X, Γ X → ∀ (pins : List (Addr × Obj)) (s : Shared), Inv X pins σ H s → wpAny (model X.prog X.w) X.A (execs sts X.env) (SP X pins D) X.xe s
theorem ps_w {Γ : CxP} {X : Cx} {st : Stmt} (h : Γ X) : PS X st (TSw Γ st) := ⟨fun pins s _ _ _ I q => q X h pins s I⟩
theorem pss_w {Γ : CxP} {X : Cx} {st : List Stmt} (h : Γ X) : PSs X st (TSsw Γ st) := ⟨fun pins s _ _ _ I q => q X h pins s I⟩
def EndsOk (K : PySem.W.Frag) (P : Addr → Prop) (W : Wd) (D : Ends) : Fl → Prop
  | .nx ρ S => ∀ W' σ', Wle W W' → Cor K P W' ρ S σ' → D.nx σ' W'.H
  | .bk ρ S => ∀ W' σ', Wle W W' → Cor K P W' ρ S σ' → D.bk σ' W'.H
  | .ct ρ S => ∀ W' σ', Wle W W' → Cor K P W' ρ S σ' → D.ct σ' W'.H
  | .rt v S => ∀ W' u ρ' σ', Wle W W' → Cor K P W' ρ' S σ' → RV K P W' u v → D.rt u W'.H
theorem EndsOk.le {K : PySem.W.Frag} {P : Addr → Prop} {W W1 : Wd} {D : Ends} : ∀ {fl : Fl}, EndsOk K P W D fl → Wle W W1 → EndsOk K P W1 D fl
  | .nx _ _, h, w => fun W' σ' w' c => h W' σ' (w.trans w') c
  | .bk _ _, h, w => fun W' σ' w' c => h W' σ' (w.trans w') c
  | .ct _ _, h, w => fun W' σ' w' c => h W' σ' (w.trans w') c
  | .rt _ _, h, w => fun W' u ρ' σ' w' c r => h W' u ρ' σ' (w.trans w') c r
variable {E : En} {Γ : CxP}
def GoodS (E : En) (Γ : CxP) (st : Stmt) (f : Env → Store → Option Fl) : Prop := ∀ P W ρ S σ fl D, Cor E.K P W ρ S σ → f ρ S = some fl → EndsOk E.K P W D fl → TSw Γ st D σ W.H
def GoodSs (E : En) (Γ : CxP) (sts : List Stmt) (f : Env → Store → Option Fl) : Prop := ∀ P W ρ S σ fl D, Cor E.K P W ρ S σ → f ρ S = some fl → EndsOk E.K P W D fl → TSsw Γ sts D σ W.H
section
variable {st : Stmt} {rest a b : List Stmt} {e tg it : Expr} {es ts : List Expr} {f g : Env → Store → Option Fl} {fe : Env → Store → Rs} {ft : Env → Store → Option (Bool × Store)} {ga : Env → Store → Option (List MV × Store)} {pos : Pos}
theorem goodSs_nil : GoodSs E Γ [] (fun ρ S => some (.nx ρ S)) := by
  intro P W ρ S σ fl D c e q X hX pins s I
  cases e
  exact pss_nil.run pins s σ W.H D I (q W σ (Wle.refl W) c)
theorem goodSs_cons (h1 : GoodS E Γ st f) (h2 : GoodSs E Γ rest g) : GoodSs E Γ (st :: rest) (fun ρ S => (f ρ S).bind fun r => match r with
    | .nx ρ' S' => g ρ' S'
    | r => some r) := by
  intro P W ρ S σ fl D c e q X hX pins s I
  obtain ⟨r, e1, e⟩ := bindI e
  refine (pss_cons (ps_w hX) (pss_w hX)).run pins s σ W.H D I ?_
  cases r with
  | nx ρ' S' => exact h1 P W ρ S σ (.nx ρ' S') { D with nx := TSsw Γ rest D } c e1 fun W1 σ1 w1 c1 => h2 P W1 ρ' S' σ1 fl D c1 e (q.le w1)
  | rt v S' => cases e; exact h1 P W ρ S σ (.rt v S') { D with nx := TSsw Γ rest D } c e1 q
  | bk ρ' S' => cases e; exact h1 P W ρ S σ (.bk ρ' S') { D with nx := TSsw Γ rest D } c e1 q
  | ct ρ' S' => cases e; exact h1 P W ρ S σ (.ct ρ' S') { D with nx := TSsw Γ rest D } c e1 q
theorem goodS_pass : GoodS E Γ (.Pass pos) (fun ρ S => some (.nx ρ S)) := by
  intro P W ρ S σ fl D c e q X hX pins s I
  cases e
  exact ps_pass.run pins s σ W.H D I (q W σ (Wle.refl W) c)
theorem goodS_doc {x : Str} {j : Nat} {p : Pos} : GoodS E Γ (.Expr (.Constant (.str x) j p) pos) (fun ρ S => some (.nx ρ S)) := by
  intro P W ρ S σ fl D c e q X hX pins s I
  cases e
  exact ps_doc.run pins s σ W.H D I (q W σ (Wle.refl W) c)
theorem goodS_brk : GoodS E Γ (.Break pos) (fun ρ S => some (.bk ρ S)) := by
  intro P W ρ S σ fl D c e q X hX pins s I
  cases e
  exact ps_break.run pins s σ W.H D I (q W σ (Wle.refl W) c)
theorem goodS_cont : GoodS E Γ (.Continue pos) (fun ρ S => some (.ct ρ S)) := by
  intro P W ρ S σ fl D c e q X hX pins s I
  cases e
  exact ps_continue.run pins s σ W.H D I (q W σ (Wle.refl W) c)
theorem goodS_never : GoodS E Γ st (fun _ _ => none) := fun P W ρ S σ fl D c e q => nomatch e
theorem swaps_no {t : Option Expr} {l : Nat} {env : PySem.Env} (h : lcB e = false) : swapsWith e t l env = pure false := by
  cases e <;> first
    | rfl
    | exact absurd h (by simp [lcB])
theorem goodS_ex (he : GoodE E Γ e fe) (hl : lcB e = false) : GoodS E Γ (.Expr e pos) (fun ρ S => (fe ρ S).bind fun p => some (.nx ρ p.2)) := by
  intro P W ρ S σ fl D c e' q X hX pins s I
  obtain ⟨⟨v, S1⟩, e1, e'⟩ := bindI e'
  cases e'
  refine (ps_expr (pe_w hX) (swaps_no hl)).run pins s σ W.H D I ?_
  exact he P W ρ S σ v _ _ c e1 fun W1 u w1 c1 r1 => q W1 σ w1 c1
theorem goodS_ret (he : GoodE E Γ e fe) : GoodS E Γ (.Return (some e) pos) (fun ρ S => (fe ρ S).bind fun p => some (.rt p.1 p.2)) := by
  intro P W ρ S σ fl D c e' q X hX pins s I
  obtain ⟨⟨v, S1⟩, e1, e'⟩ := bindI e'
  cases e'
  refine (ps_ret (pe_w hX)).run pins s σ W.H D I ?_
  exact he P W ρ S σ v _ _ c e1 fun W1 u w1 c1 r1 => q W1 u ρ σ w1 c1 r1
theorem goodS_retN : GoodS E Γ (.Return none pos) (fun ρ S => some (.rt (.d .none) S)) := by
  intro P W ρ S σ fl D c e' q X hX pins s I
  cases e'
  exact ps_retN.run pins s σ W.H D I (q W .non ρ σ (Wle.refl W) c .non)
theorem goodS_if (ht : GoodT E Γ e ft) (ha : GoodSs E Γ a f) (hb : GoodSs E Γ b g) : GoodS E Γ (.If e a b pos) (fun ρ S => (ft ρ S).bind fun p => if p.1 then f ρ p.2 else g ρ p.2) := by
  intro P W ρ S σ fl D c e' q X hX pins s I
  obtain ⟨⟨x, S1⟩, e1, e'⟩ := bindI e'
  refine (ps_if (pt_w hX) (pss_w hX) (pss_w hX)).run pins s σ W.H D I ?_
  refine ht P W ρ S σ x _ _ c e1 fun W1 w1 c1 => ?_
  cases x with
  | true => rw [if_pos rfl]; exact ha P W1 ρ _ σ fl D c1 e' (q.le w1)
  | false => rw [if_neg (by decide)]; exact hb P W1 ρ _ σ fl D c1 e' (q.le w1)
/-! ### stores -/
theorem goodS_set {C : CallF} {i : Nat} {x : Str} {p : Pos} (hΓ : ∀ X, Γ X → Ctx E X) (he : GoodE E Γ e fe) (hl : lcB e = false) (hN : ∀ X, Γ X → X.N.Nodup ∧ X.N[i]? = some x ∧ Loc X.env.scope x ∧ (X.fn x = true ∨ X.env.scope.names.lookup x = some .local)) :
    GoodS E Γ (.Assign [.Name x p] e pos) (fun ρ S => (fe ρ S).bind fun p => (asg C (.nm i) p.1 ρ p.2).bind fun q => some (.nx q.1 q.2)) := by
  intro P W ρ S σ fl D c e' q X hX pins s I
  obtain ⟨⟨v, S1⟩, e1, e'⟩ := bindI e'
  obtain ⟨⟨ρ1, S2⟩, e2, e'⟩ := bindI e'
  simp only [asg, Option.some.injEq, Prod.mk.injEq] at e2
  obtain ⟨rfl, rfl⟩ := e2
  cases e'
  obtain ⟨h1, h2, h3, h4⟩ := hN X hX
  refine (ps_set h1 h2 h3 (pe_w hX) (swaps_no hl) h4).run pins s σ W.H D I ?_
  exact he P W ρ S σ v _ _ c e1 fun W1 u w1 c1 r1 => q W1 _ w1 (c1.store r1)
theorem goodS_asg {fg : MV → Env → Store → Option (Env × Store)} {t : List Nat → Bool} (he : GoodE E Γ e fe) (hg : GoodG E Γ tg t fg) (hs : ∀ X, Γ X → swapsWithSole [tg] e pos.line X.env = pure false) (hw : ∀ X, Γ X → swappedStores [tg] e X.env = pure none) (hst : starB tg = false) :
    GoodS E Γ (.Assign [tg] e pos) (fun ρ S => (fe ρ S).bind fun p => (fg p.1 ρ p.2).bind fun q => some (.nx q.1 q.2)) := by
  intro P W ρ S σ fl D c e' q X hX pins s I
  obtain ⟨⟨v, S1⟩, e1, e'⟩ := bindI e'
  obtain ⟨⟨ρ1, S2⟩, e2, e'⟩ := bindI e'
  cases e'
  refine (ps_asg (pe_w hX) (pg_w hX) (hs X hX) (hw X hX) (by rw [assign_cons hst]; rfl)).run pins s σ W.H D I ?_
  refine he P W ρ S σ v _ _ c e1 fun W1 u w1 c1 r1 => ?_
  exact hg P W1 ρ _ σ v u ρ1 _ _ c1 r1 e2 fun W2 σ2 w2 c2 _ => q W2 σ2 (w1.trans w2) c2
theorem kindOf_sc {env : PySem.Env} {sc : Scope} (h : env.scope = sc) (x : Str) : env.kindOf x = sc.names.lookup x := by
  subst h
  rfl
/-- name = [..] on one line -/
theorem goodS_setLc {Γ' : CxP} {C : CallF} {i : Nat} {y : Str} {py : Pos} {elt iter : Expr} {ifs : List Expr} {scope : Scope} {own : List Nat} {own' : List (Str × Nat)} {r : Bool} {t : List Nat → Bool} {lpos : Pos} {fi : Env → Store → Option (List MV × Src × Store)} {fg : MV → Env → Store → Option (Env × Store)}
    {fq : Env → Store → Option (Bool × Store)} (hΓ : ∀ X, Γ X → Ctx E X)
    (hB : ∀ X, Γ X → ∀ (s : Shared) (H : Hp) (C : Addr) (cl : List (Str × Addr)) (fp : List Addr), Γ' (X.blk s H scope (compEnvC scope cl C X.env) fp)) (ok : ∀ X, Γ X → BlkOk X.N X.env.scope scope own') (ho : own'.map (·.2) = own)
    (hi : GoodI E Γ tg iter fi) (hg : GoodG E Γ' tg t fg) (hq : GoodQ E Γ' ifs fq) (he : GoodE E Γ' elt fe) (ht : t own = true) (hs : isSetE iter = false)
    (hy : ∀ X, Γ X → X.N[i]? = some y ∧ X.env.scope.names.lookup y = some .local ∧ X.env.scope.kind = .function) (hln : (py.line == lpos.line) = true) (ha : (scope.names.any fun (n, k) => n == y && (k == .local || k == .cell)) = false) :
    GoodS E Γ (.Assign [.Name y py] (.ListComp elt [⟨tg, iter, ifs, 0⟩] scope lpos) pos) (fun ρ S => ((fi ρ S).bind fun p => (lcGo p.2.1 (lcF own fg fq fe ρ) p.1 p.2.2).bind fun z => mkL r z.1 z.2).bind fun p => (asg C (.nm i) p.1 ρ p.2).bind fun q => some (.nx q.1 q.2)) := by
  intro P W ρ S σ fl D c e' q X hX pins s I
  obtain ⟨⟨v, S1⟩, e1, e'⟩ := bindI e'
  obtain ⟨⟨ρ1, S2⟩, e2, e'⟩ := bindI e'
  simp only [asg, Option.some.injEq, Prod.mk.injEq] at e2
  obtain ⟨rfl, rfl⟩ := e2
  cases e'
  obtain ⟨h1, h2, h3⟩ := hy X hX
  have main := lc_reads (r := r) ho hi hg hq he ht P W ρ S σ v S1 (fun x H1 => gName i x σ H1 D.nx) c e1 fun W1 u w1 c1 r1 => q W1 _ w1 (c1.store r1)
  exact (ps_setLc (hΓ X hX).calm (hΓ X hX).nd h1 h2 (sw_true h3 h2 hln ha) (pi_w hX) (ok X hX) (fun s H C cl fp => pg_w (hB X hX s H C cl fp)) (fun s H C cl fp => pts_w (hB X hX s H C cl fp)) (fun s H C cl fp => pe_w (hB X hX s H C cl fp)) (isSet_fold hs)).run pins s σ W.H D I main
end
end TM
end
section
set_option Elab.async false
set_option linter.all false
set_option autoImplicit false
set_option maxRecDepth 100000
set_option maxHeartbeats 1000000
/-! TM: loops, stores of several names at once. -/
namespace TM
open PySem PySem.Spec PyProof.Rows L2
variable {E : En} {Γ : CxP}
section
variable {st : Stmt} {rest body : List Stmt} {e tg it a b d : Expr} {es ts : List Expr} {f g fb : Env → Store → Option Fl} {ft : Env → Store → Option (Bool × Store)} {ga : Env → Store → Option (List MV × Store)} {pos : Pos}
def Owns (Γ : CxP) : Prop := ∀ X, Γ X → PassesOwn (model X.prog X.w) X.A X.env X.xe
theorem goodS_for {fi : Env → Store → Option (List MV × Src × Store)} {fg : MV → Env → Store → Option (Env × Store)} {t : List Nat → Bool} (hO : Owns Γ) (hΓ : ∀ X, Γ X → Ctx E X) (hi : GoodI E Γ tg it fi) (hg : GoodG E Γ tg t fg) (hb : GoodSs E Γ body fb) (hs : isSetE it = false) :
    GoodS E Γ (.For tg it body [] pos) (fun ρ S => (fi ρ S).bind fun p => forGo p.2.1 (fun v ρ S => (fg v ρ S).bind fun q => fb q.1 q.2) p.1 ρ p.2.2) := by
  intro P W ρ S σ fl D c e q X hX pins s I
  obtain ⟨⟨vs, src, S1⟩, e1, e⟩ := bindI e
  simp only at e
  refine (ps_for (hO X hX) (hΓ X hX).calm (pi_w hX) (pg_w hX) (pss_w hX) (isSet_fold hs)).run pins s σ W.H D I ?_
  refine hi P W ρ S σ vs src S1 _ c e1 fun W1 J w1 c1 y1 => ?_
  refine ⟨fun i m σ' H => m = vs.length - i ∧ i ≤ vs.length ∧ ∃ W' ρ' S', W'.H = H ∧ Wle W1 W' ∧ Cor E.K P W' ρ' S' σ' ∧ Yld E.K P W' J vs src ∧ forGo src (fun v ρ S => (fg v ρ S).bind fun q => fb q.1 q.2) (vs.drop i) ρ' S' = some fl, ⟨vs.length, rfl, Nat.zero_le _, W1, ρ, S1, rfl, Wle.refl W1, c1, y1, e⟩, ?_⟩
  rintro i m σ' H ⟨rfl, hi', W', ρ', S', rfl, w', c', y', eg⟩
  by_cases hlt : i < vs.length
  · rw [List.drop_eq_getElem_cons hlt] at eg
    simp only [forGo] at eg
    split at eg
    · rename_i st
      obtain ⟨r, er, eg⟩ := bindI eg
      obtain ⟨⟨ρ2, S2⟩, ea, er⟩ := bindI er
      refine .inr ⟨y'.go c' st hlt, fun σ' H => i + 1 ≤ vs.length ∧ ∃ W' ρ' S', W'.H = H ∧ Wle W1 W' ∧ Cor E.K P W' ρ' S' σ' ∧ Yld E.K P W' J vs src ∧ forGo src (fun v ρ S => (fg v ρ S).bind fun q => fb q.1 q.2) (vs.drop (i + 1)) ρ' S' = some fl,
        fun σ' H' p' => ⟨vs.length - (i + 1), by omega, rfl, p'⟩, fun x H' hy => ?_⟩
      obtain ⟨W3, rfl, w3, cup, rx⟩ := y'.yld c' st (List.getElem?_eq_getElem hlt) hy
      refine hg P W3 ρ' S' σ' _ x ρ2 S2 _ (cup _ _ _ c') rx ea fun W4 σ4 w4 c4 _ => ?_
      have w14 := w'.trans (w3.trans w4)
      refine hb P W4 ρ2 S2 σ4 r _ c4 er ?_
      cases r with
      | nx ρ5 S5 => exact fun W5 σ5 w5 c5 => ⟨hlt, W5, ρ5, S5, rfl, w14.trans w5, c5, y'.map fun _ _ r => (r.up (w3.trans w4)).up w5, eg⟩
      | ct ρ5 S5 => exact fun W5 σ5 w5 c5 => ⟨hlt, W5, ρ5, S5, rfl, w14.trans w5, c5, y'.map fun _ _ r => (r.up (w3.trans w4)).up w5, eg⟩
      | bk ρ5 S5 =>
        cases eg
        exact fun W5 σ5 w5 c5 => q W5 σ5 (w1.trans (w14.trans w5)) c5
      | rt v S5 =>
        cases eg
        exact fun W5 u ρ5 σ5 w5 c5 r5 => q W5 u ρ5 σ5 (w1.trans (w14.trans w5)) c5 r5
    · cases eg
  · have hil : i = vs.length := by omega
    subst hil
    rw [List.drop_length] at eg
    simp only [forGo] at eg
    split at eg
    · rename_i st
      cases eg
      exact .inl ⟨y'.stop c' st, q W' σ' (w1.trans w') c'⟩
    · cases eg
theorem goodS_while {n : Nat} (hO : Owns Γ) (ht : GoodT E Γ e ft) (hb : GoodSs E Γ body fb) : GoodS E Γ (.While e body [] pos) (whGo ft fb n) := by
  intro P W ρ S σ fl D c e q X hX pins s I
  refine (ps_while (hO X hX) (pt_w hX) (pss_w hX)).run pins s σ W.H D I ?_
  refine ⟨fun m σ' H => ∃ W' ρ' S', W'.H = H ∧ Wle W W' ∧ Cor E.K P W' ρ' S' σ' ∧ whGo ft fb m ρ' S' = some fl, ⟨n, W, ρ, S, rfl, Wle.refl W, c, e⟩, ?_⟩
  rintro m σ' H ⟨W', ρ', S', rfl, w', c', eg⟩
  cases m with
  | zero => simp [whGo] at eg
  | succ m =>
    simp only [whGo] at eg
    obtain ⟨⟨b, S2⟩, e1, eg⟩ := bindI eg
    refine ht P W' ρ' S' σ' b S2 _ c' e1 fun W2 w2 c2 => ?_
    cases b with
    | false =>
      simp only [Bool.false_eq_true, if_false] at eg ⊢
      cases eg
      exact q W2 σ' (w'.trans w2) c2
    | true =>
      simp only [if_true] at eg ⊢
      obtain ⟨r, er, eg⟩ := bindI eg
      refine ⟨fun σ' H => ∃ W' ρ' S', W'.H = H ∧ Wle W W' ∧ Cor E.K P W' ρ' S' σ' ∧ whGo ft fb m ρ' S' = some fl, fun σ' H' p' => ⟨m, Nat.lt_succ_self m, p'⟩, ?_⟩
      refine hb P W2 ρ' S2 σ' r _ c2 er ?_
      have w02 := w'.trans w2
      cases r with
      | nx ρ5 S5 => exact fun W5 σ5 w5 c5 => ⟨W5, ρ5, S5, rfl, w02.trans w5, c5, eg⟩
      | ct ρ5 S5 => exact fun W5 σ5 w5 c5 => ⟨W5, ρ5, S5, rfl, w02.trans w5, c5, eg⟩
      | bk ρ5 S5 =>
        cases eg
        exact fun W5 σ5 w5 c5 => q W5 σ5 (w02.trans w5) c5
      | rt v S5 =>
        cases eg
        exact fun W5 u ρ5 σ5 w5 c5 r5 => q W5 u ρ5 σ5 (w02.trans w5) c5 r5
/-! ### several names at once -/
theorem swapped2 {env : PySem.Env} {x y : Str} {px py pt pt2 : Pos} {kt k2 : Nat} (hk : env.scope.kind = .function) (hx : env.scope.names.lookup x = some .local) (hy : env.scope.names.lookup y = some .local) (hl : (py.line == px.line) = true) (hxy : (y == x) = false)
    (h1 : starB a = false ∧ starB b = false) (h2 : [a, b].all (foldedForSure 8) = false) (h3 : [a, b].all (constantsAlone 8) = false) : swappedStores [.Tuple [.Name x px, .Name y py] kt pt] (.Tuple [a, b] k2 pt2) env = pure (some [x, y]) := by
  have kx : env.kindOf x = some .local := hx
  have ky : env.kindOf y = some .local := hy
  have hb : env.blockKind = .function := by unfold PySem.Env.blockKind; rw [hk]; rfl
  have hst : ([a, b].any fun | .Starred .. => true | _ => false) = false := by
    have e1 : ∀ e : Expr, starB e = false → (match e with | .Starred .. => true | _ => false) = false := fun e h => h
    simp only [List.any_cons, List.any_nil, Bool.or_false]
    rw [e1 a h1.1, e1 b h1.2]
    rfl
  unfold swappedStores
  simp only [hb, kx, ky, hl, List.length_cons, List.length_nil, List.head?_cons, Option.map_some, Option.getD_some, List.filterMap_cons, List.filterMap_nil, Expr.pos, beq_self_eq_true, Bool.and_self, if_true, hst, h2, h3]
  have ed : [x, y].eraseDups = [x, y] := by
    rw [List.eraseDups_cons]
    simp only [List.filter_cons, List.filter_nil, hxy]
    simp [List.eraseDups_cons]
  rw [ed]
  simp
  rintro (h | h)
  · exact nomatch (h.symm.trans h1.1)
  · exact nomatch (h.symm.trans h1.2)
theorem goodS_par2 {i j : Nat} {x y : Str} {px py pt pt2 : Pos} {kt k2 : Nat} (hΓ : ∀ X, Γ X → Ctx E X) (ha : GoodA E Γ [a, b] ga) (hij : i ≠ j)
    (hN : ∀ X, Γ X → X.N[i]? = some x ∧ X.N[j]? = some y ∧ X.env.scope.names.lookup x = some .local ∧ X.env.scope.names.lookup y = some .local ∧ X.env.scope.kind = .function)
    (hl : (py.line == px.line) = true) (hxy : (y == x) = false) (h1 : starB a = false ∧ starB b = false) (h2 : [a, b].all (foldedForSure 8) = false) (h3 : [a, b].all (constantsAlone 8) = false) :
    GoodS E Γ (.Assign [.Tuple [.Name x px, .Name y py] kt pt] (.Tuple [a, b] k2 pt2) pos) (fun ρ S => (ga ρ S).bind fun p => (setAll [i, j] p.1 ρ).bind fun ρ' => some (.nx ρ' p.2)) := by
  intro P W ρ S σ fl D c e q X hX pins s I
  obtain ⟨⟨vs, S1⟩, e1, e⟩ := bindI e
  obtain ⟨ρ1, e2, e⟩ := bindI e
  cases e
  obtain ⟨n1, n2, n3, n4, n5⟩ := hN X hX
  refine (ps_par (hΓ X hX).calm (hΓ X hX).nd n1 n2 hij n3 n4 (pa_w hX) (swapped2 n5 n3 n4 hl hxy h1 h2 h3) rfl).run pins s σ W.H D I ?_
  refine ha P W ρ S σ vs _ _ c e1 fun W1 us w1 c1 rs => ?_
  cases rs with
  | nil => simp [setAll] at e2
  | cons r rs =>
    cases rs with
    | nil => simp [setAll] at e2
    | cons r' rs =>
      cases rs with
      | cons _ _ => simp [setAll] at e2
      | nil =>
        simp only [setAll, Option.some.injEq] at e2
        subst e2
        exact ⟨_, _, rfl, q W1 _ w1 ((c1.store r).store r')⟩
/-- through a real tuple -/
theorem goodS_parT {g : List MV → Env → Store → Option (Env × Store)} {t : List Nat → Bool} {k k2 : Nat} {p p2 : Pos} {xs vs : List Expr} (hΓ : ∀ X, Γ X → Ctx E X) (ha : GoodA E Γ vs ga) (hg : GoodGs E Γ xs t g) (hst : (xs.all fun e => !starB e) = true) (hl : ∀ vs ρ S r, g vs ρ S = some r → vs.length = xs.length)
    (hw : ∀ X, Γ X → swappedStores [.Tuple xs k p] (.Tuple vs k2 p2) X.env = pure none) :
    GoodS E Γ (.Assign [.Tuple xs k p] (.Tuple vs k2 p2) pos) (fun ρ S => (ga ρ S).bind fun p => if p.1.length ≤ LINE then (g p.1 ρ p.2).bind fun q => some (.nx q.1 q.2) else none) := by
  intro P W ρ S σ fl D c e q X hX pins s I
  obtain ⟨⟨ws, S1⟩, e1, e⟩ := bindI e
  simp only at e
  split at e
  · rename_i hlen
    obtain ⟨⟨ρ1, S2⟩, e2, e⟩ := bindI e
    cases e
    refine (ps_asg (pe_tup (pa_w hX)) (pg_tup (hΓ X hX).calm (pgs_w hX) (n := xs.length) (assign_len hst).1 (assign_len hst).2) rfl (hw X hX) rfl).run pins s σ W.H D I ?_
    refine ha P W ρ S σ ws _ _ c e1 fun W1 us w1 c1 rs => ⟨by rw [rs.length]; exact hlen, fun T hT => ?_⟩
    refine ⟨T, us, rfl, by rw [(hΓ X hX).K]; exact .inl (.inl upd_same), by rw [rs.length]; exact hl _ _ _ _ e2, ?_⟩
    have le := Wle.put (o := .tup us) hT
    exact hg P (W1.put T (.tup us)) ρ _ σ ws us ρ1 _ _ (c1.put hT) (rs.up le) e2 fun W2 σ2 w2 c2 _ => q W2 σ2 (w1.trans (le.trans w2)) c2
  · cases e
theorem swapped3 {env : PySem.Env} {x y z : Str} {px py pz pt pt2 : Pos} {kt k2 : Nat} (hk : env.scope.kind = .function) (hx : env.scope.names.lookup x = some .local) (hy : env.scope.names.lookup y = some .local) (hz : env.scope.names.lookup z = some .local) (hl : (py.line == px.line) = true) (hl2 : (pz.line == px.line) = true)
    (hxy : (y == x) = false) (hxz : (z == x) = false) (hyz : (z == y) = false)
    (h1 : starB a = false ∧ starB b = false ∧ starB d = false) (h2 : [a, b, d].all (foldedForSure 8) = false) (h3 : [a, b, d].all (constantsAlone 8) = false) : swappedStores [.Tuple [.Name x px, .Name y py, .Name z pz] kt pt] (.Tuple [a, b, d] k2 pt2) env = pure (some [x, y, z]) := by
  have kx : env.kindOf x = some .local := hx
  have ky : env.kindOf y = some .local := hy
  have kz : env.kindOf z = some .local := hz
  have hb : env.blockKind = .function := by unfold PySem.Env.blockKind; rw [hk]; rfl
  have hst : ([a, b, d].any fun | .Starred .. => true | _ => false) = false := by
    have e1 : ∀ e : Expr, starB e = false → (match e with | .Starred .. => true | _ => false) = false := fun e h => h
    simp only [List.any_cons, List.any_nil, Bool.or_false]
    rw [e1 a h1.1, e1 b h1.2.1, e1 d h1.2.2]
    rfl
  unfold swappedStores
  simp only [hb, kx, ky, kz, hl, hl2, List.length_cons, List.length_nil, List.head?_cons, Option.map_some, Option.getD_some, List.filterMap_cons, List.filterMap_nil, Expr.pos, beq_self_eq_true, Bool.and_self, if_true, hst, h2, h3]
  have ed : [x, y, z].eraseDups = [x, y, z] := by
    rw [List.eraseDups_cons]
    simp only [List.filter_cons, List.filter_nil, hxy, hxz]
    simp only [Bool.not_false, if_true]
    rw [List.eraseDups_cons]
    simp only [List.filter_cons, List.filter_nil, hyz]
    simp [List.eraseDups_cons]
  rw [ed]
  simp
  rintro (h | h | h)
  · exact nomatch (h.symm.trans h1.1)
  · exact nomatch (h.symm.trans h1.2.1)
  · exact nomatch (h.symm.trans h1.2.2)
theorem goodS_par3 {i j k : Nat} {x y z : Str} {px py pz pt pt2 : Pos} {kt k2 : Nat} (hΓ : ∀ X, Γ X → Ctx E X) (ha : GoodA E Γ [a, b, d] ga) (hij : i ≠ j) (hik : i ≠ k) (hjk : j ≠ k)
    (hN : ∀ X, Γ X → X.N[i]? = some x ∧ X.N[j]? = some y ∧ X.N[k]? = some z ∧ X.env.scope.names.lookup x = some .local ∧ X.env.scope.names.lookup y = some .local ∧ X.env.scope.names.lookup z = some .local ∧ X.env.scope.kind = .function)
    (hl : (py.line == px.line) = true) (hl2 : (pz.line == px.line) = true) (hxy : (y == x) = false) (hxz : (z == x) = false) (hyz : (z == y) = false) (h1 : starB a = false ∧ starB b = false ∧ starB d = false) (h2 : [a, b, d].all (foldedForSure 8) = false) (h3 : [a, b, d].all (constantsAlone 8) = false) :
    GoodS E Γ (.Assign [.Tuple [.Name x px, .Name y py, .Name z pz] kt pt] (.Tuple [a, b, d] k2 pt2) pos) (fun ρ S => (ga ρ S).bind fun p => (setAll [i, j, k] p.1 ρ).bind fun ρ' => some (.nx ρ' p.2)) := by
  intro P W ρ S σ fl D c e q X hX pins s I
  obtain ⟨⟨vs, S1⟩, e1, e⟩ := bindI e
  obtain ⟨ρ1, e2, e⟩ := bindI e
  cases e
  obtain ⟨n1, n2, n3, n4, n5, n6, n7⟩ := hN X hX
  refine (ps_par3 (hΓ X hX).calm (hΓ X hX).nd n1 n2 n3 hij hik hjk n4 n5 n6 (pa_w hX) (swapped3 n7 n4 n5 n6 hl hl2 hxy hxz hyz h1 h2 h3) rfl).run pins s σ W.H D I ?_
  refine ha P W ρ S σ vs _ _ c e1 fun W1 us w1 c1 rs => ?_
  cases rs with
  | nil => simp [setAll] at e2
  | cons r rs =>
    cases rs with
    | nil => simp [setAll] at e2
    | cons r' rs =>
      cases rs with
      | nil => simp [setAll] at e2
      | cons r2 rs =>
        cases rs with
        | cons _ _ => simp [setAll] at e2
        | nil =>
          simp only [setAll, Option.some.injEq] at e2
          subst e2
          exact ⟨_, _, _, rfl, q W1 _ w1 (((c1.store r).store r').store r2)⟩
end
end TM
end
section
set_option Elab.async false
set_option linter.all false
set_option autoImplicit false
set_option maxRecDepth 100000
set_option maxHeartbeats 1000000
/-! TM: the machine's answers are the text's. -/
namespace TM
open PySem PySem.Spec PyProof.Rows L2
structure CtxS (E : En) (N : List Str) (sc own : Scope) (X : Cx) : Prop extends Ctx E X where
  hN : X.N = N
  hsc : X.env.scope = sc
  kf : sc.kind = .function
  st : ∀ x, locB own x = true → Loc sc x ∧ (X.fn x = true ∨ sc.names.lookup x = some .local)
def permG {α : Type} (vs : List α) : List Nat → Option (List α)
  | [] => some []
  | i :: is => match vs[i]?, permG vs is with
    | some v, some r => some (v :: r)
    | _, _ => none
/-- a call with keywords alone binds -/
def KwB (K : PySem.W.Frag) (fd : FuncData) (ps ks : List Str) (perm : List Nat) : Prop := ∀ (s : Shared) (us zs : List Value), K.In s.heap → us.length = ks.length → permG us perm = some zs → zs.length = ps.length → BindsTo s fd ⟨[], ks.zip us⟩ (ps.zip zs)
structure Wf (E : En) (g : Gs) (C : CallF) : Prop where
  glo : ∀ x d, (x, d) ∈ g.glo → ∃ v u, E.mg x = some u ∧ RelV v u ∧ ∀ A H, Rp E.K A H v d
  bi : ∀ x, g.bi.contains x = true → E.mg x = none
  fns : ∀ (i : Nat) (fi : Fi), g.tab[i]? = some fi → ∃ f fd, E.mg fi.name = some (.ref f) ∧ PySem.W.keepIn E.K (.ref f) = true ∧ Binds E.K fd fi.ps [] ∧ FnG E.P E.w E.K E.mg E.base E.k f fd fi.ps (spF E.K C i) ∧ ∀ ks perm, (i, ks, perm) ∈ g.kw → KwB E.K fd fi.ps ks perm
inductive AllG (E : En) (Γ : CxP) (C : CallF) : Exs → List Expr → Prop
  | nil : AllG E Γ C .nil []
  | cons {x : Ex} {xs : Exs} {e : Expr} {es : List Expr} : GoodE E Γ e (evE C x) → starB e = false → AllG E Γ C xs es → AllG E Γ C (.cons x xs) (e :: es)
section
variable {E : En} {Γ : CxP} {C : CallF}
theorem AllG.good : ∀ {xs : Exs} {es : List Expr}, AllG E Γ C xs es → GoodA E Γ es (evEs C xs)
  | _, _, .nil => goodA_nil fun _ _ => rfl
  | _, _, .cons h s r => goodA_cons h s r.good
theorem AllG.stars : ∀ {xs : Exs} {es : List Expr}, AllG E Γ C xs es → (es.all fun e => !starB e) = true
  | _, _, .nil => rfl
  | _, _, .cons h s r => by
    rw [List.all_cons, s, r.stars]
    rfl
/-! keywords -/
def TKw (Γ : CxP) (kws : List Keyword) : TA := fun σ H Q => ∀ X, Γ X → ∀ (pos : Pos) (pins : List (Addr × Obj)) (s : Shared), Inv X pins σ H s → wpAny (model X.prog X.w) X.A (evalAll ((backToKw pos (keywordEach kws X.env)).map (·.2))) (AP X pins σ Q) X.xe s
theorem pk_w {X : Cx} {kws : List Keyword} (h : Γ X) : PK X kws (TKw Γ kws) := ⟨fun pos pins s _ _ _ I q => q X h pos pins s I⟩
theorem good_kw : ∀ {kws : List Keyword} {xs : Exs}, AllG E Γ C xs (kws.map (·.value)) → ∀ P W ρ S σ vs S' (Q : List V → Hp → Prop), Cor E.K P W ρ S σ → evEs C xs ρ S = some (vs, S') → (∀ W' us, Wle W W' → Cor E.K P W' ρ S' σ → RVs E.K P W' us vs → us.length = kws.length → Q us W'.H) → TKw Γ kws σ W.H Q
  | [], .nil, _ => fun P W ρ S σ vs S' Q c e q X hX pos pins s I => by
    simp only [evEs, Option.some.injEq, Prod.mk.injEq] at e
    obtain ⟨rfl, rfl⟩ := e
    exact pk_nil.run pos pins s σ W.H Q I (q W [] (Wle.refl W) c .nil rfl)
  | [], .cons _ _, h => nomatch h
  | ⟨nm, e, kp⟩ :: kws, .nil, h => nomatch h
  | ⟨nm, e, kp⟩ :: kws, .cons x xs, .cons h s r => fun P W ρ S σ vs S' Q c e' q X hX pos pins s I => by
    simp only [evEs] at e'
    obtain ⟨⟨v, S1⟩, e1, e'⟩ := bindI e'
    obtain ⟨⟨ws, S2⟩, e2, e'⟩ := bindI e'
    cases e'
    refine (pk_cons (pe_w hX) (pk_w hX)).run pos pins s σ W.H Q I ?_
    refine h P W ρ S σ v S1 _ c e1 fun W1 u w1 c1 r1 => ?_
    refine good_kw r P W1 ρ S1 σ ws _ _ c1 e2 fun W2 us w2 c2 r2 hl => ?_
    exact q W2 _ (w1.trans w2) c2 (.cons (r1.up w2) r2) (by simp [hl])
theorem permV_g {K : PySem.W.Frag} {P : Addr → Prop} {W : Wd} {us : List V} {vs : List MV} (r : RVs K P W us vs) : ∀ {perm : List Nat} {ws : List MV}, permV vs perm = some ws → ∃ zs, permG us perm = some zs ∧ RVs K P W zs ws
  | [], ws, e => by
    simp only [permV, Option.some.injEq] at e
    subst e
    exact ⟨[], rfl, .nil⟩
  | i :: is, ws, e => by
    simp only [permV] at e
    split at e
    · rename_i v r' e1 e2
      cases e
      obtain ⟨u, h1, h2⟩ := r.get e1
      obtain ⟨zs, h3, h4⟩ := permV_g r e2
      exact ⟨u :: zs, by simp only [permG, h1, h3], .cons h2 h4⟩
    · cases e
theorem permG_vals {us : List V} {ws : List Value} (r : Vals us ws) : ∀ {perm : List Nat} {zs : List V}, permG us perm = some zs → ∃ ys, permG ws perm = some ys ∧ Vals zs ys
  | [], zs, e => by
    simp only [permG, Option.some.injEq] at e
    subst e
    exact ⟨[], rfl, .nil⟩
  | i :: is, zs, e => by
    simp only [permG] at e
    split at e
    · rename_i v r' e1 e2
      cases e
      obtain ⟨u, h1, h2⟩ := r.get e1
      obtain ⟨ys, h3, h4⟩ := permG_vals r e2
      exact ⟨u :: ys, by simp only [permG, h1, h3], .cons h2 h4⟩
    · cases e
/-! calls -/
theorem good_call {g : Gs} {i io np : Nat} {r : Bool} {fi : Fi} {x : Str} {p pos : Pos} {e : Expr} {es : List Expr} {xs : Exs} {perm : List Nat} (hΓ : ∀ X, Γ X → Ctx E X) (wf : Wf E g C) (hi : g.tab[i]? = some fi) (hx : fi.name = x) (hg : ∀ X, Γ X → Gl X x) (hd : (x == ("__debug__" : Str)) = false) (ha : AllG E Γ C xs (e :: es)) :
    GoodE E Γ (.Call (.Name x p) (e :: es) [] pos) (evE C (.call r i io np [] perm xs)) := by
  intro P W ρ S σ v S' Q c e' q X hX pins s I
  have cx := hΓ X hX
  obtain ⟨f, fd, hm, hk, hb, F, _⟩ := wf.fns i fi hi
  subst hx
  simp only [evE, List.isEmpty_nil, if_true] at e'
  obtain ⟨⟨vs, S1⟩, e1, e'⟩ := bindI e'
  obtain ⟨ws, e2, e'⟩ := bindI e'
  cases e2
  have st := ha.stars
  simp only [List.all_cons, Bool.and_eq_true, Bool.not_eq_true'] at st
  refine wpAny_Call_Name_kw (ld_glob I (hg X hX) (by rw [cx.mg]; exact hm) ?_ hd)
  refine PySem.W.callWith_K (K := E.K) (h₀ := X.base) (by rw [← cx.K]; exact I.ok.mod.kin) hk (thn ((pa_w hX).run pos pins s σ W.H (fun us H1 => spF E.K C i us H1 Q) I ?_) fun us s1 ⟨zs, H1, I1, rz, q1⟩ => ⟨by rw [← cx.K]; exact I1.kIn, ?_⟩) (star_cons st.1) (noStar st.2)
  · exact ha.good P W ρ S σ vs S1 _ c e1 fun W1 us w1 c1 r1 => call_ok c1 r1 e' (q.le w1)
  · have hl : us.length = fi.ps.length := by rw [← rz.length]; exact F.len _ _ _ q1
    have bd := hb s1 us (by rw [← cx.K]; exact I1.kIn) (by rw [List.append_nil]; exact hl)
    rw [List.append_nil] at bd
    exact fng_run F cx bd I1 rz q1
theorem kw_all {kws : List Keyword} {ks : List Str} (h : kws.map (·.arg) = ks.map some) {env : PySem.Env} {pos : Pos} : (backToKw pos (keywordEach kws env)).all (·.1.isSome) = true ∧ (backToKw pos (keywordEach kws env)).filterMap (·.1) = ks ∧ (backToKw pos (keywordEach kws env)).any (·.1.isNone) = false := by
  induction kws generalizing ks with
  | nil =>
    cases ks with
    | nil => exact ⟨rfl, rfl, rfl⟩
    | cons k ks => simp at h
  | cons k kws ih =>
    cases ks with
    | nil => simp at h
    | cons a ks =>
      simp only [List.map_cons, List.cons.injEq] at h
      obtain ⟨h1, h2⟩ := h
      obtain ⟨i1, i2, i3⟩ := ih h2
      obtain ⟨nm, e, kp⟩ := k
      simp only at h1
      subst h1
      refine ⟨?_, ?_, ?_⟩
      · show (true && (backToKw pos (keywordEach kws env)).all (·.1.isSome)) = true
        rw [i1]; rfl
      · show a :: (backToKw pos (keywordEach kws env)).filterMap (·.1) = _
        rw [i2]
      · show (false || (backToKw pos (keywordEach kws env)).any (·.1.isNone)) = false
        rw [i3]; rfl
theorem good_callK {g : Gs} {i io np : Nat} {r : Bool} {fi : Fi} {x : Str} {p pos : Pos} {kws : List Keyword} {xs : Exs} {ks : List Str} {perm : List Nat} (hΓ : ∀ X, Γ X → Ctx E X) (wf : Wf E g C) (hi : g.tab[i]? = some fi) (hx : fi.name = x) (hg : ∀ X, Γ X → Gl X x) (hd : (x == ("__debug__" : Str)) = false) (hks : ks.isEmpty = false)
    (hkw : (i, ks, perm) ∈ g.kw) (hn : kws.map (·.arg) = ks.map some) (ha : AllG E Γ C xs (kws.map (·.value))) :
    GoodE E Γ (.Call (.Name x p) [] kws pos) (evE C (.call r i io np ks perm xs)) := by
  intro P W ρ S σ v S' Q c e' q X hX pins s I
  have cx := hΓ X hX
  obtain ⟨f, fd, hm, hk, hb, F, hkb⟩ := wf.fns i fi hi
  subst hx
  simp only [evE, hks, Bool.false_eq_true, if_false] at e'
  obtain ⟨⟨vs, S1⟩, e1, e'⟩ := bindI e'
  obtain ⟨ws, e2, e'⟩ := bindI e'
  obtain ⟨k1, k2, k3⟩ := kw_all (env := X.env) (pos := pos) hn
  refine wpAny_Call_Name_kw (ld_glob I (hg X hX) (by rw [cx.mg]; exact hm) ?_ hd)
  refine PySem.W.callWith_KW0 (K := E.K) (h₀ := X.base) (by rw [← cx.K]; exact I.ok.mod.kin) hk k1 (thn ((pk_w hX).run pos pins s σ W.H (fun us H1 => us.length = kws.length ∧ ∃ zs, permG us perm = some zs ∧ spF E.K C i zs H1 Q) I ?_) fun us s1 ⟨zs, H1, I1, rz, hl, ys, hp, q1⟩ => ⟨by rw [← cx.K]; exact I1.kIn, ?_⟩) (by rw [k3]; rfl)
  · refine good_kw ha P W ρ S σ vs S1 _ c e1 fun W1 us w1 c1 r1 hl => ⟨hl, ?_⟩
    obtain ⟨zs, h1, h2⟩ := permV_g r1 e2
    exact ⟨zs, h1, call_ok c1 h2 e' (q.le w1)⟩
  · rw [k2]
    obtain ⟨us2, h1, h2⟩ := permG_vals rz hp
    have hl2 : us2.length = fi.ps.length := by rw [← h2.length]; exact F.len _ _ _ q1
    have hl3 : us.length = ks.length := by
      have e3 := congrArg List.length hn
      rw [List.length_map, List.length_map] at e3
      rw [← rz.length, hl, e3]
    exact fng_run F cx (hkb ks perm hkw s1 us us2 (by rw [← cx.K]; exact I1.kIn) hl3 h1 hl2) I1 h2 q1
end
end TM
end
section
set_option Elab.async false
set_option linter.all false
set_option autoImplicit false
set_option maxRecDepth 100000
set_option maxHeartbeats 4000000
/-! TM: the machine's answers are the text's: expressions. -/
namespace TM
open PySem PySem.Spec PyProof.Rows L2
section
variable {E : En} {N : List Str} {sc own scope : Scope} {X : Cx} {x : Str}
theorem loc_of (h : locB scope x = true) : scope.names.lookup x = some .local ∨ scope.names.lookup x = some .cell := by
  unfold locB at h
  split at h
  · rename_i e; exact .inl e
  · rename_i e; exact .inr e
  · cases h
theorem vis_of (h : visB scope x = true) : Vis scope x := by
  unfold visB at h
  split at h
  · rename_i e; exact .inl e
  · rename_i e; exact .inr (.inl e)
  · rename_i e; exact .inr (.inr e)
  · cases h
theorem gl_of (h : glB scope x = true) : scope.names.lookup x = some .globalImplicit ∧ (x == ("__debug__" : Str)) = false := by
  simpa [glB] using h
theorem ctx_blk (c : CtxS E N sc own X) (hk : scope.kind = .function) (s : Shared) (H : Hp) (C : Addr) (cl : List (Str × Addr)) (fp : List Addr) : CtxS E N (relSc scope sc) scope (X.blk s H scope (compEnvC scope cl C X.env) fp) where
  prog := c.prog
  w := c.w
  K := c.K
  mg := c.mg
  base := c.base
  calm := c.calm
  room := c.room
  gd := c.gd
  nd := c.nd
  hN := c.hN
  hsc := by
    show relS scope X.env.scope = _
    rw [c.hsc]
    rfl
  kf := hk
  st := fun x h => by
    rcases loc_of h with h | h
    · have := lookup_relS_keep (sc := sc) (by decide) h
      exact ⟨.inl this, .inr this⟩
    · have := lookup_relS_keep (sc := sc) (by decide) h
      refine ⟨.inr this, .inl ?_⟩
      show (scope.names.lookup x == some .cell) = true
      rw [h]
      rfl
end
section
variable {E : En} {g : Gs} {C : CallF} {N : List Str} {sc own : Scope} {Γ : CxP}
theorem bi_of (wf : Wf E g C) (hS : ∀ X, Γ X → CtxS E N sc own X) {x name : Str} {v : Value} (h : biB g sc x name = true) (hv : bootBuiltins name = some v) (hn : name ≠ "__name__") : BiN Γ x v := by
  simp only [biB, Bool.and_eq_true, decide_eq_true_eq] at h
  obtain ⟨⟨rfl, h1⟩, h2⟩ := h
  obtain ⟨h3, h4⟩ := gl_of h1
  exact ⟨fun X hX => (kindOf_sc (hS X hX).hsc x).trans h3, fun X hX => by rw [(hS X hX).mg]; exact wf.bi x h2, hv, hn, h4⟩
theorem tys_of (wf : Wf E g C) (hS : ∀ X, Γ X → CtxS E N sc own X) : ∀ {ts : List Ty} {bs : List Expr}, tysB g sc ts bs = true → ts.length = bs.length ∧ ∀ (i : Nat) (t : Ty), ts[i]? = some t → ∃ y py, bs[i]? = some (.Name y py) ∧ BiN Γ y (.type (tyS t))
  | [], [], _ => ⟨rfl, fun i t h => by simp at h⟩
  | t :: ts, .Name x p :: bs, h => by
    simp only [tysB, Bool.and_eq_true] at h
    obtain ⟨h1, h2⟩ := tys_of wf hS h.2
    refine ⟨by simp [h1], fun i t' e => ?_⟩
    cases i with
    | zero =>
      simp only [List.getElem?_cons_zero, Option.some.injEq] at e
      subst e
      refine ⟨x, p, rfl, bi_of wf hS h.1 ?_ ?_⟩
      · cases t
        · exact PyProof.Rows.boot_int
        · exact PyProof.Rows.boot_bool
        · exact PyProof.Rows.boot_str
        · exact PyProof.Rows.boot_tuple
        · exact PyProof.Rows.boot_list
        · exact PyProof.Rows.boot_dict
      · cases t <;> decide +kernel
    | succ i =>
      obtain ⟨y, py, q1, q2⟩ := h2 i t' (by simpa using e)
      exact ⟨y, py, by simpa using q1, q2⟩
  | [], _ :: _, h => by simp [tysB] at h
  | _ :: _, [], h => by simp [tysB] at h
  | t :: ts, e :: bs, h => by
    cases e <;> first
      | (simp only [tysB, Bool.and_eq_true] at h
         rename_i x p
         obtain ⟨h1, h2⟩ := tys_of wf hS h.2
         refine ⟨by simp [h1], fun i t' e => ?_⟩
         cases i with
         | zero =>
           simp only [List.getElem?_cons_zero, Option.some.injEq] at e
           subst e
           refine ⟨x, p, rfl, bi_of wf hS h.1 ?_ ?_⟩
           · cases t
             · exact PyProof.Rows.boot_int
             · exact PyProof.Rows.boot_bool
             · exact PyProof.Rows.boot_str
             · exact PyProof.Rows.boot_tuple
             · exact PyProof.Rows.boot_list
             · exact PyProof.Rows.boot_dict
           · cases t <;> decide +kernel
         | succ i =>
           obtain ⟨y, py, q1, q2⟩ := h2 i t' (by simpa using e)
           exact ⟨y, py, by simpa using q1, q2⟩)
      | exact absurd h (by simp [tysB])
end
/-- the built-in of b, called with values -/
theorem bi_ok {E : En} {r : Bool} : ∀ {b : Bi}, plainBi b = true → CallOk E (biOf b) (fun vs S => biM b r vs S)
  | .len, _ => fun P W ρ S σ vs us v S' Q c rs e q => len_ok c rs e q
  | .tuple, _ => fun P W ρ S σ vs us v S' Q c rs e q => tuple_ok c rs e q
  | .list, _ => fun P W ρ S σ vs us v S' Q c rs e q => list_ok c rs e q
  | .sorted, _ => fun P W ρ S σ vs us v S' Q c rs e q => sorted_ok c rs e q
  | .all, _ => fun P W ρ S σ vs us v S' Q c rs e q => all_ok c rs e q
  | .any, _ => fun P W ρ S σ vs us v S' Q c rs e q => any_ok c rs e q
  | .sum, _ => fun P W ρ S σ vs us v S' Q c rs e q => sum_ok c rs e q
  | .abs, _ => fun P W ρ S σ vs us v S' Q c rs e q => abs_ok c rs e q
  | .max2, _ => fun P W ρ S σ vs us v S' Q c rs e q => max2_ok c rs e q
  | .min2, _ => fun P W ρ S σ vs us v S' Q c rs e q => min2_ok c rs e q
  | .divmod, _ => fun P W ρ S σ vs us v S' Q c rs e q => divmod_ok c rs e q
  | .int, _ => fun P W ρ S σ vs us v S' Q c rs e q => int_ok c rs e q
  | .repr, _ => fun P W ρ S σ vs us v S' Q c rs e q => repr_ok c rs e q
  | .min1, _ => fun P W ρ S σ vs us v S' Q c rs e q => min1_ok c rs e q
  | .dictT, _ => fun P W ρ S σ vs us v S' Q c rs e q => dictT_ok c rs e q
theorem boot_len' : bootBuiltins "len" = some (.builtin "len") := by decide +kernel
theorem good_bi {E : En} {g : Gs} {C : CallF} {N : List Str} {sc own : Scope} {Γ : CxP} (wf : Wf E g C) (hS : ∀ X, Γ X → CtxS E N sc own X) {b : Bi} {r : Bool} {x : Str} {p pos : Pos} {e : Expr} {es : List Expr} {xs : Exs} (hp : plainBi b = true) (hx : biB g sc x (Str.ofString (biN b)) = true) (ha : AllG E Γ C xs (e :: es)) :
    GoodE E Γ (.Call (.Name x p) (e :: es) [] pos) (evE C (.bi b r xs)) := by
  have ok := bi_ok (E := E) (r := r) hp
  cases b <;> first
    | exact Bool.noConfusion (show false = true from hp)
    | exact good_callB (bi_of wf hS hx boot_len' (by decide +kernel)) (fun X h => (hS X h).toCtx) ok ha.good ha.stars
    | exact good_callT (bi_of wf hS hx PyProof.Rows.boot_tuple (by decide +kernel)) (fun X h => (hS X h).toCtx) ok ha.good ha.stars
    | exact good_callT (bi_of wf hS hx PyProof.Rows.boot_list (by decide +kernel)) (fun X h => (hS X h).toCtx) ok ha.good ha.stars
    | exact good_callB (bi_of wf hS hx PyProof.Rows.boot_sorted (by decide +kernel)) (fun X h => (hS X h).toCtx) ok ha.good ha.stars
    | exact good_callB (bi_of wf hS hx PyProof.Rows.boot_all (by decide +kernel)) (fun X h => (hS X h).toCtx) ok ha.good ha.stars
    | exact good_callB (bi_of wf hS hx PyProof.Rows.boot_any (by decide +kernel)) (fun X h => (hS X h).toCtx) ok ha.good ha.stars
    | exact good_callB (bi_of wf hS hx PyProof.Rows.boot_sum (by decide +kernel)) (fun X h => (hS X h).toCtx) ok ha.good ha.stars
    | exact good_callB (bi_of wf hS hx PyProof.Rows.boot_abs (by decide +kernel)) (fun X h => (hS X h).toCtx) ok ha.good ha.stars
    | exact good_callB (bi_of wf hS hx PyProof.Rows.boot_max (by decide +kernel)) (fun X h => (hS X h).toCtx) ok ha.good ha.stars
    | exact good_callB (bi_of wf hS hx PyProof.Rows.boot_min (by decide +kernel)) (fun X h => (hS X h).toCtx) ok ha.good ha.stars
    | exact good_callB (bi_of wf hS hx PyProof.Rows.boot_divmod (by decide +kernel)) (fun X h => (hS X h).toCtx) ok ha.good ha.stars
    | exact good_callT (bi_of wf hS hx PyProof.Rows.boot_int (by decide +kernel)) (fun X h => (hS X h).toCtx) ok ha.good ha.stars
    | exact good_callB (bi_of wf hS hx PyProof.Rows.boot_repr (by decide +kernel)) (fun X h => (hS X h).toCtx) ok ha.good ha.stars
    | exact good_callT (bi_of wf hS hx PyProof.Rows.boot_dict (by decide +kernel)) (fun X h => (hS X h).toCtx) ok ha.good ha.stars
end TM
end
section
set_option Elab.async false
set_option linter.all false
set_option autoImplicit false
set_option maxRecDepth 100000
set_option maxHeartbeats 4000000
/-! TM: the machine's answers are the text's: all expressions, statements, functions. -/
namespace TM
open PySem PySem.Spec PyProof.Rows L2
variable {E : En} {g : Gs} {C : CallF} {N : List Str}
theorem own_snd (N : List Str) : ∀ ow : List Nat, (ownOf N ow).map (·.2) = ow
  | [] => rfl
  | i :: ow => by
    have := own_snd N ow
    simp only [ownOf, List.map_cons, List.map_map] at this ⊢
    rw [this]
theorem part_none {C : CallF} {lo : Ex} {fb : Env → Store → Option (Option Int × Store)} (h : isNil lo = true) : (fun (ρ : Env) (S : Store) => if isNil lo = true then some (Option.none, S) else fb ρ S) = fun _ S => some (none, S) := by
  funext ρ S
  rw [if_pos h]
theorem part_some {C : CallF} {lo : Ex} {fb : Env → Store → Option (Option Int × Store)} (h : isNil lo = false) : (fun (ρ : Env) (S : Store) => if isNil lo = true then some (Option.none, S) else fb ρ S) = fb := by
  funext ρ S
  rw [if_neg (by rw [h]; decide)]
theorem GoodT.w {Γ : CxP} {o : BoolOp} {vs : List Expr} {pos : Pos} {f : Env → Store → Option (Bool × Store)} (h : GoodT E Γ (.BoolOp o vs pos) f) : GoodW E Γ (.BoolOp o vs pos) f := fun P W ρ S σ b S' Q c e q X hX wh pins s I => h P W ρ S σ b S' Q c e q X hX pins s I
mutual
theorem soundE (wf : Wf E g C) : ∀ (x : Ex) {Γ : CxP} {sc own : Scope} (hS : ∀ X, Γ X → CtxS E N sc own X) {e : Expr}, chkE g N x sc own e = true → GoodE E Γ e (evE C x)
  | .v i, Γ, sc, own, hS, e, h => by
    simp only [chkE] at h
    split at h
    · simp only [Bool.and_eq_true, decide_eq_true_eq, okB, Bool.not_eq_true'] at h
      exact good_v (fun X hX => by rw [(hS X hX).hN]; exact h.1.1) (fun X hX => by rw [(hS X hX).hsc]; exact vis_of h.1.2) h.2.1 h.2.2
    · cases h
  | .c d, Γ, sc, own, hS, e, h => by
    simp only [chkE] at h
    split at h
    · exact good_c h
    · cases h
  | .g x d, Γ, sc, own, hS, e, h => by
    simp only [chkE] at h
    split at h
    · simp only [Bool.and_eq_true, decide_eq_true_eq, List.any_eq_true] at h
      obtain ⟨⟨rfl, h1⟩, ⟨y, d'⟩, hm, hy, hd⟩ := h
      simp only at hy hd
      subst hy
      rw [beqD_eq hd] at hm
      obtain ⟨h3, h4⟩ := gl_of h1
      obtain ⟨v, u, q1, q2, q3⟩ := wf.glo _ _ hm
      exact good_g (fun X hX => (kindOf_sc (hS X hX).hsc _).trans h3) ⟨v, u, fun X hX => by rw [(hS X hX).mg]; exact q1, q2, q3⟩ h4
    · cases h
  | .tup es, Γ, sc, own, hS, e, h => by
    simp only [chkE] at h
    split at h
    · exact good_tup (soundEs wf es hS h).good
    · cases h
  | .lst r es, Γ, sc, own, hS, e, h => by
    simp only [chkE] at h
    split at h
    · exact good_lst (soundEs wf es hS h).good
    · cases h
  | .bin r o a b, Γ, sc, own, hS, e, h => by
    simp only [chkE] at h
    split at h
    · simp only [Bool.and_eq_true, decide_eq_true_eq] at h
      obtain ⟨⟨rfl, h1⟩, h2⟩ := h
      exact good_bin (fun X h => (hS X h).toCtx) (soundE wf a hS h1) (soundE wf b hS h2)
    · cases h
  | .neg a, Γ, sc, own, hS, e, h => by
    simp only [chkE] at h
    split at h
    · exact good_neg (fun X h => (hS X h).toCtx) (soundE wf a hS h)
    · cases h
  | .cmp o a b, Γ, sc, own, hS, e, h => by
    simp only [chkE] at h
    split at h
    · simp only [Bool.and_eq_true, decide_eq_true_eq, Bool.not_eq_true'] at h
      obtain ⟨⟨⟨rfl, h1⟩, h2⟩, h3⟩ := h
      exact good_cmp (fun X h => (hS X h).toCtx) (soundE wf a hS h1) (soundE wf b hS h2) h3
    · cases h
  | .chain o p a b c, Γ, sc, own, hS, e, h => by
    simp only [chkE] at h
    split at h
    · simp only [Bool.and_eq_true, decide_eq_true_eq, Bool.not_eq_true'] at h
      obtain ⟨⟨⟨⟨⟨rfl, rfl⟩, h1⟩, h2⟩, h3⟩, h4⟩ := h
      exact good_chain (fun X h => (hS X h).toCtx) (soundE wf a hS h1) (soundE wf b hS h2) (soundE wf c hS h3) h4
    · cases h
  | .and a b, Γ, sc, own, hS, e, h => by
    simp only [chkE] at h
    split at h
    · rw [Bool.and_eq_true] at h
      obtain ⟨h1, h2⟩ := h
      split at h2
      · exact good_and (soundE wf a hS h1) (good_one (soundE wf b hS h2))
      · exact good_and (soundE wf a hS h1) (soundE wf b hS h2)
    · cases h
  | .or a b, Γ, sc, own, hS, e, h => by
    simp only [chkE] at h
    split at h
    · rw [Bool.and_eq_true] at h
      obtain ⟨h1, h2⟩ := h
      split at h2
      · exact good_or (soundE wf a hS h1) (good_one (soundE wf b hS h2))
      · exact good_or (soundE wf a hS h1) (soundE wf b hS h2)
    · cases h
  | .not a, Γ, sc, own, hS, e, h => by
    simp only [chkE] at h
    split at h
    · exact good_not (soundE wf a hS h)
    · cases h
  | .ife t a b, Γ, sc, own, hS, e, h => by
    simp only [chkE] at h
    split at h
    · simp only [Bool.and_eq_true] at h
      exact good_ife (soundT wf t hS h.1.1) (soundE wf a hS h.1.2) (soundE wf b hS h.2)
    · cases h
  | .idx a i, Γ, sc, own, hS, e, h => by
    simp only [chkE] at h
    split at h
    · simp only [Bool.and_eq_true, Bool.not_eq_true'] at h
      exact good_idx (fun X h => (hS X h).toCtx) (soundE wf a hS h.1.1) (soundE wf i hS h.1.2) h.2
    · cases h
  | .sli r a lo hi, Γ, sc, own, hS, e, h => by
    simp only [chkE] at h
    split at h
    · rename_i xx l hh p2 pos
      simp only [Bool.and_eq_true] at h
      obtain ⟨⟨h1, h2⟩, h3⟩ := h
      have ga := soundE wf a hS h1
      have gl : GoodP E Γ l (fun ρ S => if isNil lo = true then some (Option.none, S) else (evE C lo ρ S).bind fun q => (partOf q.1).map fun i => (i, q.2)) := by
        cases l with
        | none => rw [part_none (C := C) h2]; exact goodP_none
        | some l =>
          simp only [Bool.and_eq_true, Bool.not_eq_true'] at h2
          rw [part_some (C := C) h2.1]
          exact goodP_some (soundE wf lo hS h2.2)
      have gh : GoodP E Γ hh (fun ρ S => if isNil hi = true then some (Option.none, S) else (evE C hi ρ S).bind fun q => (partOf q.1).map fun i => (i, q.2)) := by
        cases hh with
        | none => rw [part_none (C := C) h3]; exact goodP_none
        | some l =>
          simp only [Bool.and_eq_true, Bool.not_eq_true'] at h3
          rw [part_some (C := C) h3.1]
          exact goodP_some (soundE wf hi hS h3.2)
      exact good_sli (fun X h => (hS X h).toCtx) ga gl gh
    · cases h
  | .nil, Γ, sc, own, hS, e, h => by
    simp only [chkE] at h
    cases h
  | .rev r a, Γ, sc, own, hS, e, h => by
    simp only [chkE] at h
    split at h
    · exact good_rev (fun X h => (hS X h).toCtx) (soundE wf a hS h)
    · cases h
  | .call r f io np ks perm es, Γ, sc, own, hS, e, h => by
    simp only [chkE] at h
    split at h
    · rename_i x p args kws pos
      simp only [Bool.and_eq_true] at h
      obtain ⟨⟨⟨h1, h2⟩, h3⟩, h4⟩ := h
      split at h1
      · rename_i fi hfi
        simp only [decide_eq_true_eq] at h1
        obtain ⟨h5, h6⟩ := gl_of h2
        split at h4
        · rename_i hk
          simp only [Bool.and_eq_true, List.isEmpty_iff, Bool.not_eq_true'] at h4 hk
          obtain ⟨⟨rfl, h7⟩, h8⟩ := h4
          subst hk
          have ga := soundEs wf es hS h8
          cases args with
          | nil => simp at h7
          | cons a as => exact good_call (fun X h => (hS X h).toCtx) wf hfi h1 (fun X hX => (kindOf_sc (hS X hX).hsc _).trans h5) h6 ga
        · rename_i hk
          simp only [Bool.and_eq_true, List.isEmpty_iff, decide_eq_true_eq, List.any_eq_true] at h4
          obtain ⟨⟨⟨rfl, pp, hm, hp⟩, h7⟩, h8⟩ := h4
          subst hp
          have hk' : ks.isEmpty = false := by
            cases hb : ks.isEmpty with
            | true => exact absurd hb hk
            | false => rfl
          exact good_callK (fun X h => (hS X h).toCtx) wf hfi h1 (fun X hX => (kindOf_sc (hS X hX).hsc _).trans h5) h6 hk' hm h7 (soundEs wf es hS h8)
      · cases h1
    · cases h
  | .bi b r es, Γ, sc, own, hS, e, h => by
    simp only [chkE] at h
    split at h
    · rename_i x p args pos
      split at h
      · rename_i ts
        rw [Bool.and_eq_true] at h
        obtain ⟨h1, h2⟩ := h
        have nb : BiN Γ x (.builtin "isinstance") := bi_of wf hS h1 PyProof.Rows.boot_isinstance (by decide +kernel)
        split at h2
        · rename_i a c
          rw [Bool.and_eq_true] at h2
          obtain ⟨h3, h5⟩ := h2
          cases soundEs wf es hS h3 with
          | cons ga h4 rr =>
          rename_i ee _
          cases rr
          have key : ∀ {c : Expr}, GoodE E Γ (.Call (.Name x p) [a, c] [] pos) (fun ρ S => (evE C ee ρ S).bind fun p => if isScrM p.1 then none else some (.d (.bool (isTyM ts p.1)), p.2)) → GoodE E Γ (.Call (.Name x p) [a, c] [] pos) (evE C (.bi (.isi ts) r (.cons ee .nil))) := fun h P W ρ S σ v S' Q c e q => h P W ρ S σ v S' Q c (by
            simp only [evE, evEs, biM, biIsi] at e
            obtain ⟨⟨vs, S1⟩, e1, e⟩ := bindI e
            obtain ⟨⟨w, S2⟩, e2, e1⟩ := bindI e1
            obtain ⟨⟨w', S3⟩, e3, e1⟩ := bindI e1
            cases e3
            cases e1
            show ((evE C ee ρ S).bind fun p => if isScrM p.1 then none else some (MV.d (.bool (isTyM ts p.1)), p.2)) = some (v, S')
            rw [e2]
            exact e) q
          split at h5
          · rename_i bs k2 p2
            simp only [Bool.and_eq_true, decide_eq_true_eq] at h5
            obtain ⟨t1, t2⟩ := tys_of wf hS h5.1
            exact key (good_isiT nb t2 t1 h5.2 (fun X h => (hS X h).toCtx) ga h4)
          · rename_i c _
            simp only [Bool.and_eq_true, decide_eq_true_eq] at h5
            obtain ⟨t1, t2⟩ := tys_of wf hS h5.1
            match ts, h5.2 with
            | [t], _ =>
              obtain ⟨y, py, e1, ny⟩ := t2 0 t rfl
              simp only [List.getElem?_cons_zero, Option.some.injEq] at e1
              subst e1
              exact key (good_isi1 nb ny (fun X h => (hS X h).toCtx) ga h4)
        · cases h2
      · rw [Bool.and_eq_true] at h
        obtain ⟨h1, h2⟩ := h
        split at h2
        · rw [Bool.and_eq_true] at h2
          obtain ⟨h2, h3⟩ := h2
          cases soundEs wf es hS h3 with
          | cons ga h4 rr =>
          cases rr
          exact good_sset (fun X h => (hS X h).toCtx) (bi_of wf hS h1 PyProof.Rows.boot_sorted (by decide +kernel)) (bi_of wf hS h2 PyProof.Rows.boot_set (by decide +kernel)) ga h4
        · cases h2
      · rw [Bool.and_eq_true] at h
        obtain ⟨h1, h2⟩ := h
        have nb : BiN Γ x (.type "list") := bi_of wf hS h1 PyProof.Rows.boot_list (by decide +kernel)
        obtain rfl : x = "list" := by
          simp only [biB, Bool.and_eq_true, decide_eq_true_eq] at h1
          exact h1.1.1
        split at h2
        · rename_i y yp as ypos
          simp only [Bool.and_eq_true] at h2
          obtain ⟨⟨h2, h3⟩, h4⟩ := h2
          have nr : BiN Γ y (.type "range") := bi_of wf hS h2 PyProof.Rows.boot_range (by decide +kernel)
          obtain rfl : y = "range" := by
            simp only [biB, Bool.and_eq_true, decide_eq_true_eq] at h2
            exact h2.1.1
          have gs := soundEs wf es hS h3
          split at h4
          · cases gs with
            | cons ga hs rr =>
            cases rr
            exact good_lrg (fun X h => (hS X h).toCtx) nb (goodR_1 nr ga hs) rfl
          · cases gs with
            | cons ga hs rr =>
            cases rr with
            | cons gb hs2 rr =>
            cases rr
            exact good_lrg (fun X h => (hS X h).toCtx) nb (goodR_2 nr ga gb hs hs2) rfl
          · cases h4
        · cases h2
      · rw [Bool.and_eq_true] at h
        obtain ⟨h1, h2⟩ := h
        have nb : BiN Γ x (.type "tuple") := bi_of wf hS h1 PyProof.Rows.boot_tuple (by decide +kernel)
        obtain rfl : x = "tuple" := by
          simp only [biB, Bool.and_eq_true, decide_eq_true_eq] at h1
          exact h1.1.1
        split at h2
        · rename_i y yp as ypos
          simp only [Bool.and_eq_true] at h2
          obtain ⟨⟨h2, h3⟩, h4⟩ := h2
          have nr : BiN Γ y (.type "range") := bi_of wf hS h2 PyProof.Rows.boot_range (by decide +kernel)
          obtain rfl : y = "range" := by
            simp only [biB, Bool.and_eq_true, decide_eq_true_eq] at h2
            exact h2.1.1
          have gs := soundEs wf es hS h3
          split at h4
          · cases gs with
            | cons ga hs rr =>
            cases rr
            exact good_trg (fun X h => (hS X h).toCtx) nb (goodR_1 nr ga hs) rfl
          · cases gs with
            | cons ga hs rr =>
            cases rr with
            | cons gb hs2 rr =>
            cases rr
            exact good_trg (fun X h => (hS X h).toCtx) nb (goodR_2 nr ga gb hs hs2) rfl
          · cases h4
        · cases h2
      · simp only [Bool.and_eq_true, Bool.not_eq_true'] at h
        obtain ⟨⟨⟨h1, h2⟩, h3⟩, h4⟩ := h
        cases args with
        | nil => simp at h3
        | cons a as => exact good_bi wf hS h1 h2 (soundEs wf es hS h4)
    · cases h
  | .met m r o es, Γ, sc, own, hS, e, h => by
    simp only [chkE] at h
    split at h
    · rename_i x name ap args cp
      simp only [Bool.and_eq_true, decide_eq_true_eq] at h
      obtain ⟨⟨⟨⟨⟨rfl, h1⟩, h2⟩, h3⟩, h5⟩, h4⟩ := h
      have go := soundE wf o hS h1
      have gs := soundEs wf es hS h5
      split at h4
      · cases gs
        exact good_met0 (mt := mtPop) F.slot_list_pop F.type_list_pop (fun X h => (hS X h).toCtx) (fun o vs S r h => by
          unfold mtPop at h
          split at h
          · exact ⟨_, rfl⟩
          · cases h) (fun P W ρ S σ o a vs us v S' Q c ro rs e q => by
            obtain ⟨rfl, _, z⟩ := pop_ok c ro rs e q
            exact z) go h3 h2
      · cases gs with
        | cons ga hs rr =>
        cases rr
        exact good_met1 (mt := mtAppend) F.slot_list_append F.type_list_append (fun X h => (hS X h).toCtx) (fun o vs S r h => by
          unfold mtAppend at h
          split at h
          · exact ⟨_, rfl⟩
          · cases h) (fun P W ρ S σ o a vs us v S' Q c ro rs e q => (append_ok c ro rs e q).2) go ga h3 hs h2
      · cases gs with
        | cons ga hs rr =>
        cases rr
        exact good_met1 (mt := mtExtend) F.slot_list_extend F.type_list_extend (fun X h => (hS X h).toCtx) (fun o vs S r h => by
          unfold mtExtend at h
          split at h
          · exact ⟨_, rfl⟩
          · cases h) (fun P W ρ S σ o a vs us v S' Q c ro rs e q => (extend_ok c ro rs e q).2) go ga h3 hs h2
      · cases gs with
        | cons ga hs rr =>
        cases rr
        exact good_met1 (mt := mtPopAt) F.slot_list_pop F.type_list_pop (fun X h => (hS X h).toCtx) (fun o vs S r h => by
          unfold mtPopAt at h
          split at h
          · exact ⟨_, rfl⟩
          · cases h) (fun P W ρ S σ o a vs us v S' Q c ro rs e q => (popAt_ok c ro rs e q).2) go ga h3 hs h2
      · cases h4
    · cases h
  | .lc r ow t it q e', Γ, sc, own, hS, e, h => by
    simp only [chkE] at h
    split at h
    · rename_i elt tg iter ifs scope pos
      simp only [Bool.and_eq_true, Bool.not_eq_true'] at h
      obtain ⟨⟨⟨⟨⟨⟨h1, h2⟩, h3⟩, h4⟩, h5⟩, h6⟩, h7⟩ := h
      have ok := blkOk_by h2
      have hS' : ∀ X, CtxS E N (relSc scope sc) scope X → CtxS E N (relSc scope sc) scope X := fun _ h => h
      have gi := soundI wf it hS (tg := tg) h3
      have gg := soundG wf t hS' h5
      have ge := soundE wf e' hS' h6
      have gq : GoodQ E (CtxS E N (relSc scope sc) scope) ifs (evT C q) := by
        split at h7
        · split at h7
          · exact goodQ_nil
          · cases h7
        · exact goodQ_one (soundT wf q hS' h7)
        · cases h7
      exact good_lc (fun X h => (hS X h).toCtx) (fun X hX s H C cl fp => ctx_blk (hS X hX) ok.kind s H C cl fp) (fun X hX => by rw [(hS X hX).hN, (hS X hX).hsc]; exact ok) (own_snd N ow) gi gg gq ge h4 h1
    · cases h
theorem soundT (wf : Wf E g C) : ∀ (x : Ts) {Γ : CxP} {sc own : Scope} (hS : ∀ X, Γ X → CtxS E N sc own X) {e : Expr}, chkT g N x sc own e = true → GoodT E Γ e (evT C x)
  | .tt, Γ, sc, own, hS, e, h => by
    simp only [chkT] at h
    cases h
  | .and a b, Γ, sc, own, hS, e, h => by
    simp only [chkT] at h
    split at h
    · rw [Bool.and_eq_true] at h
      obtain ⟨h1, h2⟩ := h
      split at h2
      · exact (goodW_and (soundT wf a hS h1) (goodW_and1 (soundT wf b hS h2))).t
      · exact (goodW_and (soundT wf a hS h1) (soundT wf b hS h2).w).t
    · cases h
  | .or a b, Γ, sc, own, hS, e, h => by
    simp only [chkT] at h
    split at h
    · rw [Bool.and_eq_true] at h
      obtain ⟨h1, h2⟩ := h
      split at h2
      · exact (goodW_or (soundT wf a hS h1) (goodW_or1 (soundT wf b hS h2))).t
      · exact (goodW_or (soundT wf a hS h1) (soundT wf b hS h2).w).t
    · cases h
  | .not a, Γ, sc, own, hS, e, h => by
    simp only [chkT] at h
    split at h
    · exact goodT_not (soundT wf a hS h)
    · cases h
  | .cmp o a b, Γ, sc, own, hS, e, h => by
    simp only [chkT] at h
    split at h
    · simp only [Bool.and_eq_true, decide_eq_true_eq, Bool.not_eq_true'] at h
      obtain ⟨⟨⟨rfl, h1⟩, h2⟩, h3⟩ := h
      exact goodT_cmp (fun X h => (hS X h).toCtx) (soundE wf a hS h1) (soundE wf b hS h2) h3
    · cases h
  | .chain o p a b c, Γ, sc, own, hS, e, h => by
    simp only [chkT] at h
    split at h
    · simp only [Bool.and_eq_true, decide_eq_true_eq, Bool.not_eq_true'] at h
      obtain ⟨⟨⟨⟨⟨rfl, rfl⟩, h1⟩, h2⟩, h3⟩, h4⟩ := h
      exact goodT_chain (fun X h => (hS X h).toCtx) (soundE wf a hS h1) (soundE wf b hS h2) (soundE wf c hS h3) h4
    · cases h
  | .e x, Γ, sc, own, hS, e, h => by
    simp only [chkT, Bool.and_eq_true, Bool.not_eq_true'] at h
    exact goodT_e (fun X h => (hS X h).toCtx) (soundE wf x hS h.1) h.2
theorem soundEs (wf : Wf E g C) : ∀ (xs : Exs) {Γ : CxP} {sc own : Scope} (hS : ∀ X, Γ X → CtxS E N sc own X) {es : List Expr}, chkEs g N xs sc own es = true → AllG E Γ C xs es
  | .nil, Γ, sc, own, hS, es, h => by
    simp only [chkEs] at h
    split at h
    · exact .nil
    · cases h
  | .cons x xs, Γ, sc, own, hS, es, h => by
    simp only [chkEs] at h
    split at h
    · simp only [Bool.and_eq_true, Bool.not_eq_true'] at h
      exact .cons (soundE wf x hS h.1.1) h.1.2 (soundEs wf xs hS h.2)
    · cases h
theorem soundI (wf : Wf E g C) : ∀ (x : It) {Γ : CxP} {sc own : Scope} (hS : ∀ X, Γ X → CtxS E N sc own X) {tg e : Expr}, chkI g N x sc own tg e = true → GoodI E Γ tg e (evI C x)
  | .seq a, Γ, sc, own, hS, tg, e, h => by
    simp only [chkI] at h
    exact good_seq (fun X h => (hS X h).toCtx) (soundE wf a hS h)
  | .rng es, Γ, sc, own, hS, tg, e, h => by
    simp only [chkI] at h
    split at h
    · rename_i x p args pos
      simp only [Bool.and_eq_true] at h
      obtain ⟨⟨h1, h3⟩, h2⟩ := h
      have gs := soundEs wf es hS h3
      have nb : BiN Γ x (.type "range") := bi_of wf hS h1 PyProof.Rows.boot_range (by decide +kernel)
      obtain rfl : x = "range" := by
        simp only [biB, Bool.and_eq_true, decide_eq_true_eq] at h1
        exact h1.1.1
      split at h2
      · cases gs with
        | cons ga hs rr =>
        cases rr
        exact good_rng1 (fun X h => (hS X h).toCtx) nb ga hs
      · cases gs with
        | cons ga hs rr =>
        cases rr with
        | cons gb hs2 rr =>
        cases rr
        exact good_rng2 (fun X h => (hS X h).toCtx) nb ga gb hs hs2
      · cases h2
    · cases h
  | .zip a b, Γ, sc, own, hS, tg, e, h => by
    simp only [chkI] at h
    split at h
    · simp only [Bool.and_eq_true, Bool.not_eq_true'] at h
      obtain ⟨⟨⟨⟨h1, h2⟩, h3⟩, h4⟩, h5⟩ := h
      have nb := bi_of (v := .type "zip") wf hS h1 PyProof.Rows.boot_zip (by decide +kernel)
      rename_i x p l r pos
      obtain rfl : x = "zip" := by
        simp only [biB, Bool.and_eq_true, decide_eq_true_eq] at h1
        exact h1.1.1
      exact good_zip (fun X h => (hS X h).toCtx) nb (soundE wf a hS h2) (soundE wf b hS h3) h4 h5
    · cases h
  | .enum a, Γ, sc, own, hS, tg, e, h => by
    simp only [chkI] at h
    split at h
    · simp only [Bool.and_eq_true, Bool.not_eq_true'] at h
      obtain ⟨⟨h1, h2⟩, h3⟩ := h
      have nb := bi_of (v := .type "enumerate") wf hS h1 PyProof.Rows.boot_enumerate (by decide +kernel)
      rename_i x p l pos
      obtain rfl : x = "enumerate" := by
        simp only [biB, Bool.and_eq_true, decide_eq_true_eq] at h1
        exact h1.1.1
      exact good_enum (fun X h => (hS X h).toCtx) nb (soundE wf a hS h2) h3
    · cases h
theorem soundG (wf : Wf E g C) : ∀ (x : Tg) {Γ : CxP} {sc own : Scope} (hS : ∀ X, Γ X → CtxS E N sc own X) {e : Expr}, chkG g N x sc own e = true → GoodG E Γ e (fun ow => tgIn ow x) (asg C x)
  | .nm i, Γ, sc, own, hS, e, h => by
    simp only [chkG] at h
    split at h
    · simp only [Bool.and_eq_true, decide_eq_true_eq] at h
      exact good_nm fun X hX => ⟨(hS X hX).nd, by rw [(hS X hX).hN]; exact h.1, by rw [(hS X hX).hsc]; exact ((hS X hX).st _ h.2).1, by rw [(hS X hX).hsc]; exact ((hS X hX).st _ h.2).2⟩
    · cases h
  | .sub o i, Γ, sc, own, hS, e, h => by
    simp only [chkG] at h
    split at h
    · simp only [Bool.and_eq_true, Bool.not_eq_true'] at h
      exact good_sub (fun X h => (hS X h).toCtx) (soundE wf o hS h.1.1) (soundE wf i hS h.1.2) h.2
    · cases h
  | .tp ts, Γ, sc, own, hS, e, h => by
    simp only [chkG] at h
    split at h
    · obtain ⟨h1, h2, h3⟩ := soundGs wf ts hS h
      exact good_tp (fun X h => (hS X h).toCtx) h2 h1 h3
    · cases h
theorem soundGs (wf : Wf E g C) : ∀ (x : Tgs) {Γ : CxP} {sc own : Scope} (hS : ∀ X, Γ X → CtxS E N sc own X) {es : List Expr}, chkGs g N x sc own es = true →
    GoodGs E Γ es (fun ow => tgsIn ow x) (asgs C x) ∧ (es.all fun e => !starB e) = true ∧ ∀ vs ρ S r, asgs C x vs ρ S = some r → vs.length = es.length
  | .nil, Γ, sc, own, hS, es, h => by
    simp only [chkGs] at h
    split at h
    · refine ⟨goodGs_nil fun vs ρ S r e => ?_, rfl, fun vs ρ S r e => ?_⟩
      · cases vs with
        | nil =>
          simp only [asgs, Option.some.injEq] at e
          exact ⟨rfl, e.symm⟩
        | cons v vs => simp [asgs] at e
      · cases vs with
        | nil => rfl
        | cons v vs => simp [asgs] at e
    · cases h
  | .cons t ts, Γ, sc, own, hS, es, h => by
    simp only [chkGs] at h
    split at h
    · simp only [Bool.and_eq_true, Bool.not_eq_true'] at h
      obtain ⟨h1, h2, h3⟩ := soundGs wf ts hS h.2
      refine ⟨goodGs_cons h.1.2 (soundG wf t hS h.1.1) h1 (fun vs ρ S r e => ?_) (fun ow ho => ?_), ?_, fun vs ρ S r e => ?_⟩
      · cases vs with
        | nil => simp [asgs] at e
        | cons v vs =>
          simp only [asgs] at e
          exact ⟨v, vs, rfl, e⟩
      · simpa [tgsIn] using ho
      · rw [List.all_cons, h.1.2, h2]; rfl
      · cases vs with
        | nil => simp [asgs] at e
        | cons v vs =>
          simp only [asgs] at e
          obtain ⟨p, _, e⟩ := bindI e
          rw [List.length_cons, List.length_cons, h3 _ _ _ _ e]
    · cases h
end
end TM
end
section
set_option Elab.async false
set_option linter.all false
set_option autoImplicit false
set_option maxRecDepth 100000
set_option maxHeartbeats 4000000
/-! TM: the machine's answers are the text's: statements, functions. -/
namespace TM
open PySem PySem.Spec PyProof.Rows L2
variable {E : En} {g : Gs} {C : CallF} {N : List Str}
theorem names_less {f : Expr → Option Str} (hf : ∀ e y, f e = some y → ∃ x p, e = .Name x p) : ∀ {ts : List Expr}, (ts.filterMap f).length ≤ ts.length ∧ (noNames ts = true → (ts.filterMap f).length ≠ ts.length)
  | [] => ⟨Nat.le_refl _, fun h => by simp [noNames] at h⟩
  | t :: ts => by
    obtain ⟨h1, h2⟩ := names_less hf (ts := ts)
    rw [List.filterMap_cons]
    cases e : f t with
    | none => exact ⟨Nat.le_succ_of_le h1, fun _ => by simp only [List.length_cons]; omega⟩
    | some y =>
      refine ⟨by simpa using h1, fun h => ?_⟩
      obtain ⟨x, p, rfl⟩ := hf t y e
      simp only [List.length_cons, ne_eq, Nat.add_right_cancel_iff]
      exact h2 (by simpa [noNames] using h)
theorem less_one {α β : Type} {f : α → Option β} : ∀ {ts : List α}, (∃ t, t ∈ ts ∧ f t = none) → (ts.filterMap f).length < ts.length
  | [], ⟨_, h, _⟩ => absurd h List.not_mem_nil
  | t :: ts, ⟨u, hu, e⟩ => by
    have hl := List.length_filterMap_le f ts
    rw [List.filterMap_cons, List.length_cons]
    rcases List.mem_cons.mp hu with rfl | hu
    · simp only [e]
      omega
    · have := less_one (f := f) ⟨u, hu, e⟩
      split
      · omega
      · rw [List.length_cons]
        omega
theorem swapped_none {ts vs : List Expr} {k k2 : Nat} {p p2 : Pos} {env : PySem.Env} {sc : Scope} (hsc : env.scope = sc) (h : realTup sc ts vs = true) : swappedStores [.Tuple ts k p] (.Tuple vs k2 p2) env = pure none := by
  unfold swappedStores
  simp only
  split
  · rfl
  · rename_i h1
    split
    · rfl
    · split
      · rfl
      · rename_i h3
        simp only [realTup, Bool.or_eq_true] at h
        rcases h with ((h | h) | h) | h
        · rw [if_pos h]
        · exfalso
          rw [Bool.not_eq_true'] at h
          rw [h] at h1
          exact h1 rfl
        · exfalso
          simp only [Bool.or_eq_true, not_or] at h3
          have this := Decidable.not_not.mp (fun z => h3.1 (bne_iff_ne.mpr z))
          refine (names_less (fun e y he => ?_)).2 h this
          cases e <;> first
            | exact ⟨_, _, rfl⟩
            | cases he
        · exfalso
          simp only [Bool.or_eq_true, not_or] at h3
          have this := Decidable.not_not.mp (fun z => h3.1 (bne_iff_ne.mpr z))
          obtain ⟨t, ht, hn⟩ := List.any_eq_true.mp h
          refine absurd this (Nat.ne_of_lt (less_one ⟨t, ht, ?_⟩))
          cases t with
          | Name y q =>
            have hy : (env.kindOf y == some NameKind.local) = false := by
              rw [Bool.eq_false_iff]
              intro hh
              have h4 : env.kindOf y = some .local := eq_of_beq hh
              have h5 : sc.names.lookup y = some .local := by rw [← hsc]; exact h4
              simp [notLoc, locS, h5] at hn
            simp only [hy, Bool.false_and, Bool.false_eq_true, if_false]
          | _ => rfl
theorem asg_swaps {tg v : Expr} {l : Nat} {env : PySem.Env} (h : ∀ x p, tg ≠ .Name x p) : swapsWithSole [tg] v l env = pure false := by
  show swapsWith v (some tg) l env = pure false
  cases v <;> first
    | rfl
    | (cases tg <;> first
        | rfl
        | exact absurd rfl (h _ _))
theorem asg_cell {y : Str} {py lp : Pos} {elt : Expr} {gs : List Comprehension} {scope : Scope} {l : Nat} {env : PySem.Env} {sc : Scope} (hsc : env.scope = sc) (h : locS sc y = false) : swapsWithSole [.Name y py] (.ListComp elt gs scope lp) l env = pure false := by
  show swapsWith (.ListComp elt gs scope lp) (some (.Name y py)) l env = pure false
  have hy : (env.kindOf y == some NameKind.local) = false := by
    rw [Bool.eq_false_iff]
    intro hh
    have h4 : env.kindOf y = some .local := eq_of_beq hh
    have h5 : sc.names.lookup y = some .local := by rw [← hsc]; exact h4
    simp [locS, h5] at h
  unfold swapsWith
  simp only [hy, Bool.and_false, Bool.false_and]
mutual
theorem soundS (wf : Wf E g C) : ∀ (x : Sm) {Γ : CxP} {sc : Scope} (hS : ∀ X, Γ X → CtxS E N sc sc X) (hO : Owns Γ) {st : Stmt}, chkS g N x sc st = true → GoodS E Γ st (evS C x)
  | .set t e, Γ, sc, hS, hO, st, h => by
    simp only [chkS] at h
    split at h
    · rename_i y py v pos
      simp only [Bool.and_eq_true] at h
      obtain ⟨⟨h1, h2⟩, h3⟩ := h
      cases t with
      | sub o i => simp [chkG] at h1
      | tp ts => simp [chkG] at h1
      | nm i =>
        have hg1 := h1
        simp only [chkG, Bool.and_eq_true, decide_eq_true_eq] at h1
        have nm : ∀ X, Γ X → X.N.Nodup ∧ X.N[i]? = some y ∧ Loc X.env.scope y ∧ (X.fn y = true ∨ X.env.scope.names.lookup y = some .local) := fun X hX => ⟨(hS X hX).nd, by rw [(hS X hX).hN]; exact h1.1, by rw [(hS X hX).hsc]; exact ((hS X hX).st _ h1.2).1, by rw [(hS X hX).hsc]; exact ((hS X hX).st _ h1.2).2⟩
        split at h3
        · rename_i elt gs scope lp
          cases hL : locS sc y with
          | false => exact goodS_asg (soundE wf e hS h2) (soundG wf (.nm i) hS hg1) (fun X hX => asg_cell (hS X hX).hsc hL) (fun X hX => rfl) rfl
          | true =>
          rw [if_pos hL] at h3
          simp only [Bool.and_eq_true, Bool.not_eq_true', locS, decide_eq_true_eq] at h3
          cases e with
          | lc r ow t it q e' =>
            simp only [chkE] at h2
            split at h2
            · rename_i elt' tg iter ifs scope' pos' heq
              cases heq
              simp only [Bool.and_eq_true, Bool.not_eq_true'] at h2
              obtain ⟨⟨⟨⟨⟨⟨k1, k2⟩, k3⟩, k4⟩, k5⟩, k6⟩, k7⟩ := h2
              have ok := blkOk_by k2
              have hS' : ∀ X, CtxS E N (relSc scope sc) scope X → CtxS E N (relSc scope sc) scope X := fun _ h => h
              have gi := soundI wf it hS (tg := tg) k3
              have gg := soundG wf t hS' k5
              have ge := soundE wf e' hS' k6
              have gq : GoodQ E (CtxS E N (relSc scope sc) scope) ifs (evT C q) := by
                split at k7
                · split at k7
                  · exact goodQ_nil
                  · cases k7
                · exact goodQ_one (soundT wf q hS' k7)
                · cases k7
              exact goodS_setLc (fun X h => (hS X h).toCtx) (fun X hX s H C cl fp => ctx_blk (hS X hX) ok.kind s H C cl fp) (fun X hX => by rw [(hS X hX).hN, (hS X hX).hsc]; exact ok) (own_snd N ow) gi gg gq ge k4 k1
                (fun X hX => ⟨(nm X hX).2.1, by rw [(hS X hX).hsc]; exact h3.1.2, by rw [(hS X hX).hsc]; exact (hS X hX).kf⟩) h3.1.1 h3.2
            · cases h2
          | _ => simp [chkE] at h2
        · rw [Bool.not_eq_true'] at h3
          exact goodS_set (fun X h => (hS X h).toCtx) (soundE wf e hS h2) h3 nm
    · rename_i ts k p v pos
      simp only [Bool.and_eq_true] at h
      obtain ⟨⟨h1, h2⟩, h3⟩ := h
      refine goodS_asg (soundE wf e hS h2) (soundG wf t hS h1) (fun X hX => asg_swaps fun x p => nofun) (fun X hX => ?_) rfl
      split at h3
      · exact swapped_none (hS X hX).hsc h3
      · rename_i hv
        cases v <;> first
          | rfl
          | exact absurd rfl (hv _ _ _)
    · rename_i o i p v pos
      simp only [Bool.and_eq_true] at h
      exact goodS_asg (soundE wf e hS h.2) (soundG wf t hS h.1) (fun X hX => asg_swaps fun x p => nofun) (fun X hX => by cases v <;> rfl) rfl
    · cases h
  | .par is es, Γ, sc, hS, hO, st, h => by
    simp only [chkS] at h
    split at h
    · split at h
      · simp only [Bool.and_eq_true, decide_eq_true_eq, Bool.not_eq_true', locS] at h
        obtain ⟨⟨⟨⟨⟨⟨⟨⟨⟨⟨⟨n1, n2⟩, n3⟩, n4⟩, n5⟩, n6⟩, n7⟩, n8⟩, n9⟩, n10⟩, n11⟩, n12⟩ := h
        exact goodS_par2 (fun X h => (hS X h).toCtx) (soundEs wf es hS n10).good n3 (fun X hX => by rw [(hS X hX).hN, (hS X hX).hsc]; exact ⟨n1, n2, n4, n5, (hS X hX).kf⟩) n6 n7 ⟨n11, n12⟩ n8 n9
      · cases h
    · split at h
      · simp only [Bool.and_eq_true, decide_eq_true_eq, Bool.not_eq_true', locS] at h
        obtain ⟨⟨⟨⟨⟨⟨⟨⟨⟨⟨⟨⟨⟨⟨⟨⟨⟨⟨⟨n1, n2⟩, n3⟩, n4⟩, n5⟩, n6⟩, n7⟩, n8⟩, n9⟩, n10⟩, n11⟩, n12⟩, n13⟩, n14⟩, n15⟩, n16⟩, n17⟩, n18⟩, n19⟩, n20⟩ := h
        exact goodS_par3 (fun X h => (hS X h).toCtx) (soundEs wf es hS n17).good n4 n5 n6 (fun X hX => by rw [(hS X hX).hN, (hS X hX).hsc]; exact ⟨n1, n2, n3, n7, n8, n9, (hS X hX).kf⟩) n10 n11 n12 n13 n14 ⟨n18, n19, n20⟩ n15 n16
      · cases h
    · cases h
  | .parT ts es, Γ, sc, hS, hO, st, h => by
    simp only [chkS] at h
    split at h
    · simp only [Bool.and_eq_true] at h
      obtain ⟨⟨h1, h2⟩, h3⟩ := h
      obtain ⟨g1, g2, g3⟩ := soundGs wf ts hS h1
      exact goodS_parT (fun X h => (hS X h).toCtx) (soundEs wf es hS h2).good g1 g2 g3 (fun X hX => swapped_none (hS X hX).hsc h3)
    · cases h
  | .ex e, Γ, sc, hS, hO, st, h => by
    simp only [chkS] at h
    split at h
    · simp only [Bool.and_eq_true, Bool.not_eq_true'] at h
      exact goodS_ex (soundE wf e hS h.1) h.2
    · cases h
  | .ifs t a b, Γ, sc, hS, hO, st, h => by
    simp only [chkS] at h
    split at h
    · simp only [Bool.and_eq_true] at h
      exact goodS_if (soundT wf t hS h.1.1) (soundSs wf a hS hO h.1.2) (soundSs wf b hS hO h.2)
    · cases h
  | .fr t it b, Γ, sc, hS, hO, st, h => by
    simp only [chkS] at h
    split at h
    · simp only [Bool.and_eq_true, Bool.not_eq_true'] at h
      obtain ⟨⟨⟨h1, h2⟩, h3⟩, h4⟩ := h
      exact goodS_for hO (fun X h => (hS X h).toCtx) (soundI wf it hS h2) (soundG wf t hS h1) (soundSs wf b hS hO h3) h4
    · cases h
  | .whl n t b, Γ, sc, hS, hO, st, h => by
    simp only [chkS] at h
    split at h
    · simp only [Bool.and_eq_true] at h
      exact goodS_while hO (soundT wf t hS h.1) (soundSs wf b hS hO h.2)
    · cases h
  | .ret e, Γ, sc, hS, hO, st, h => by
    simp only [chkS] at h
    split at h
    · exact goodS_ret (soundE wf e hS h)
    · split at h
      · exact goodS_retN
      · cases h
    · cases h
  | .pass, Γ, sc, hS, hO, st, h => by
    simp only [chkS] at h
    split at h
    · exact goodS_pass
    · exact goodS_doc
    · cases h
  | .brk, Γ, sc, hS, hO, st, h => by
    simp only [chkS] at h
    split at h
    · exact goodS_brk
    · cases h
  | .cont, Γ, sc, hS, hO, st, h => by
    simp only [chkS] at h
    split at h
    · exact goodS_cont
    · cases h
  | .never, Γ, sc, hS, hO, st, h => goodS_never
theorem soundSs (wf : Wf E g C) : ∀ (x : Sms) {Γ : CxP} {sc : Scope} (hS : ∀ X, Γ X → CtxS E N sc sc X) (hO : Owns Γ) {sts : List Stmt}, chkSs g N x sc sts = true → GoodSs E Γ sts (evSs C x)
  | .nil, Γ, sc, hS, hO, sts, h => by
    simp only [chkSs] at h
    split at h
    · exact goodSs_nil
    · cases h
  | .cons s ss, Γ, sc, hS, hO, sts, h => by
    simp only [chkSs] at h
    split at h
    · simp only [Bool.and_eq_true] at h
      exact goodSs_cons (soundS wf s hS hO h.1) (soundSs wf ss hS hO h.2)
    · cases h
end
end TM
end
section
set_option Elab.async false
set_option linter.all false
set_option autoImplicit false
set_option maxRecDepth 100000
set_option maxHeartbeats 4000000
/-! TM: a function of the text keeps what the machine computes. -/
namespace TM
open PySem PySem.Spec PyProof.Rows L2
theorem RpAll.getA {K : PySem.W.Frag} {A : Addr → Prop} {H : Hp} {us : List V} {ds : List PyData} {i : Nat} {d : PyData} (r : RpAll K A H us ds) (e : ds[i]? = some d) : ∃ u, us[i]? = some u ∧ Rp K A H u d := r.get e
theorem refs_get : ∀ (n k i : Nat), (refs k n)[i]? = if i < n then some (some (.ref (k + i))) else none
  | 0, k, i => by simp [refs]
  | n + 1, k, 0 => by simp [refs]
  | n + 1, k, i + 1 => by
    rw [refs, List.getElem?_cons_succ, refs_get n (k + 1) i]
    by_cases h : i < n
    · rw [if_pos h, if_pos (by omega)]
      congr 3
      omega
    · rw [if_neg h, if_neg (by omega)]
theorem refs_len : ∀ (n k : Nat), (refs k n).length = n
  | 0, k => rfl
  | n + 1, k => by rw [refs, List.length_cons, refs_len]
/-- the world at a function's entry -/
theorem entry {K : PySem.W.Frag} {A : Addr → Prop} {H : Hp} {ps : List Addr} {us : List V} {cs : List (List PyData)} {ds : List PyData} {m : Nat} (nd : ps.Nodup) (hA : ∀ a, A a → a ∈ ps ∨ NotT H a) (hps : ∀ p ∈ ps, A p) (hc : Cells K A H ps cs) (hu : RpAll K A H us ds) (hm : ps.length + us.length ≤ m) :
    Cor K (fun a => A a ∧ a ∉ ps) ⟨fun i => ps.getD i 0, ps.length, H⟩ (refs 0 ps.length ++ ds.map (fun x => some (.d x)) ++ List.replicate (m - (ps.length + us.length)) none) (cs.map (·.map .d))
      ((ps.map V.ref ++ us).map some ++ List.replicate (m - (ps.map V.ref ++ us).length) none) := by
  have sub : ∀ b, Wd.A (fun a => A a ∧ a ∉ ps) ⟨fun i => ps.getD i 0, ps.length, H⟩ b → A b := fun b hb => by
    rcases hb with hb | ⟨l, hl, rfl⟩
    · exact hb.1
    · refine hps _ ?_
      show ps.getD l 0 ∈ ps
      rw [List.getD_eq_getElem?_getD, List.getElem?_eq_getElem hl]
      exact List.getElem_mem hl
  have at_ : ∀ l, (h : l < ps.length) → ps.getD l 0 = ps[l] := fun l h => by rw [List.getD_eq_getElem?_getD, List.getElem?_eq_getElem h]; rfl
  refine ⟨?_, ?_, fun i v e => ?_, fun l d e => ?_, fun l l' h h' e => ?_, fun a ha => ?_⟩
  · show ps.length = _
    rw [List.length_map, hc.length]
  · simp only [List.length_append, List.length_map, List.length_replicate, refs_len, hu.length]
  · by_cases h1 : i < ps.length
    · rw [List.append_assoc, List.getElem?_append_left (by rw [refs_len]; exact h1), refs_get, if_pos h1, Nat.zero_add] at e
      cases e
      refine ⟨.ref ps[i], ?_, h1, ?_⟩
      · rw [List.getElem?_append_left (by simp; omega), List.getElem?_map, List.getElem?_append_left (by simpa using h1), List.getElem?_map, List.getElem?_eq_getElem h1]
        rfl
      · show _ = V.ref (ps.getD i 0)
        rw [at_ i h1]
    · by_cases h2 : i < ps.length + us.length
      · rw [List.append_assoc, List.getElem?_append_right (by rw [refs_len]; omega), refs_len, List.getElem?_append_left (by rw [List.length_map, ← hu.length]; omega), List.getElem?_map] at e
        obtain ⟨x, e1, e2⟩ := mapI e
        cases e2
        obtain ⟨u, h3, h4⟩ := hu.get e1
        refine ⟨u, ?_, Rp.less sub h4⟩
        rw [List.getElem?_append_left (by simp; omega), List.getElem?_map, List.getElem?_append_right (by simp; omega), List.length_map, h3]
        rfl
      · rw [List.getElem?_append_right (by simp [refs_len, ← hu.length]; omega), List.getElem?_replicate] at e
        split at e <;> cases e
  · rw [List.getElem?_map] at e
    obtain ⟨c, e1, rfl⟩ := mapI e
    have hl : l < ps.length := by rw [hc.length]; exact (List.getElem?_eq_some_iff.mp e1).1
    obtain ⟨c', ws, h1, h2, h3⟩ := hc.get (List.getElem?_eq_getElem hl)
    rw [e1] at h1
    cases h1
    refine ⟨ws, ?_, RVs.of (h3.less sub)⟩
    show H (ps.getD l 0) = _
    rw [at_ l hl]
    exact h2
  · have h : l < ps.length := h
    have h' : l' < ps.length := h'
    have e : ps.getD l 0 = ps.getD l' 0 := e
    rw [at_ l h, at_ l' h'] at e
    have pw := List.pairwise_iff_getElem.mp nd
    rcases Nat.lt_trichotomy l l' with z | z | z
    · exact absurd e (pw l l' h h' z)
    · exact z
    · exact absurd e.symm (pw l' l h' h z)
  · refine ⟨fun l hl z => ha.2 ?_, ?_⟩
    · have hl : l < ps.length := hl
      have z : a = ps.getD l 0 := z
      rw [z, at_ l hl]
      exact List.getElem_mem hl
    · rcases hA a ha.1 with z | z
      · exact absurd z ha.2
      · exact z
theorem purAll_get : ∀ {S : Store} {cs : List (List PyData)} {l : Nat} {c : List MV}, purAll S = some cs → S[l]? = some c → ∃ d, cs[l]? = some d ∧ pures c = some d
  | [], _, _, _, _, e => by simp at e
  | s :: S, cs, l, c, e, h => by
    simp only [purAll] at e
    split at e
    · rename_i x xs e1 e2
      cases e
      cases l with
      | zero =>
        simp only [List.getElem?_cons_zero, Option.some.injEq] at h
        subst h
        exact ⟨x, rfl, e1⟩
      | succ l =>
        obtain ⟨d, h1, h2⟩ := purAll_get e2 (by simpa using h)
        exact ⟨d, by simpa using h1, h2⟩
    · cases e
theorem purAll_len : ∀ {S : Store} {cs : List (List PyData)}, purAll S = some cs → cs.length = S.length
  | [], cs, e => by
    simp only [purAll, Option.some.injEq] at e
    subst e
    rfl
  | s :: S, cs, e => by
    simp only [purAll] at e
    split at e
    · rename_i x xs e1 e2
      cases e
      rw [List.length_cons, List.length_cons, purAll_len e2]
    · cases e
theorem cells_of {K : PySem.W.Frag} {A : Addr → Prop} {H : Hp} : ∀ {ps : List Addr} {cs : List (List PyData)}, ps.length = cs.length → (∀ (i : Nat) (p : Addr) (c : List PyData), ps[i]? = some p → cs[i]? = some c → ∃ ws, H p = some (.lst ws) ∧ RpAll K A H ws c) → Cells K A H ps cs
  | [], [], _, _ => .nil
  | p :: ps, c :: cs, hl, h => by
    obtain ⟨ws, h1, h2⟩ := h 0 p c rfl rfl
    exact .cons h1 h2 (cells_of (by simpa using hl) fun i p c e1 e2 => h (i + 1) p c (by simpa using e1) (by simpa using e2))
  | [], _ :: _, hl, _ => by simp at hl
  | _ :: _, [], hl, _ => by simp at hl
section
variable {K : PySem.W.Frag} {A : Addr → Prop} {H : Hp} {ps : List Addr} {W : Wd} {ρ : Env} {S : Store} {σ : L2.St}
/-- what was to be kept away from is still -/
theorem exit_sub (w : Wle ⟨fun i => ps.getD i 0, ps.length, H⟩ W) : ∀ a, A a → W.A (fun a => A a ∧ a ∉ ps) a := fun a ha => by
  by_cases h : a ∈ ps
  · obtain ⟨i, hi⟩ := List.getElem?_of_mem h
    have hl : i < ps.length := (List.getElem?_eq_some_iff.mp hi).1
    refine .inr ⟨i, Nat.lt_of_lt_of_le hl w.n, ?_⟩
    rw [w.μ i hl]
    show a = ps.getD i 0
    rw [List.getD_eq_getElem?_getD, hi]
    rfl
  · exact .inl ⟨ha, h⟩
theorem exit_frame (w : Wle ⟨fun i => ps.getD i 0, ps.length, H⟩ W) : ∀ b o, b ∉ ps → H b = some o → W.H b = some o := fun b o hb e =>
  (w.k b o (fun l hl z => hb (by
    have hl : l < ps.length := hl
    have z : b = ps.getD l 0 := z
    rw [z, List.getD_eq_getElem?_getD, List.getElem?_eq_getElem hl]
    exact List.getElem_mem hl)) e).2
theorem exit_cells (w : Wle ⟨fun i => ps.getD i 0, ps.length, H⟩ W) (c : Cor K (fun a => A a ∧ a ∉ ps) W ρ S σ) {cs : List (List PyData)} (e : purAll (S.take ps.length) = some cs) : Cells K A W.H ps cs := by
  have hn : ps.length ≤ S.length := by rw [← c.n]; exact w.n
  refine cells_of ?_ fun i p d e1 e2 => ?_
  · rw [purAll_len e, List.length_take]; omega
  · have hl : i < ps.length := (List.getElem?_eq_some_iff.mp e1).1
    have hS : S[i]? = some S[i] := List.getElem?_eq_getElem (by omega)
    obtain ⟨d', h1, h2⟩ := purAll_get e (l := i) (c := S[i]) (by rw [List.getElem?_take_of_lt hl]; exact hS)
    rw [e2] at h1
    cases h1
    obtain ⟨us, h3, h4⟩ := c.cell i _ hS
    rw [w.μ i hl] at h3
    have : ps.getD i 0 = p := by rw [List.getD_eq_getElem?_getD, e1]; rfl
    rw [← this]
    exact ⟨us, h3, (h4.pures h2).less (exit_sub w)⟩
theorem exit_ref (w : Wle ⟨fun i => ps.getD i 0, ps.length, H⟩ W) (c : Cor K (fun a => A a ∧ a ∉ ps) W ρ S σ) (hA : ∀ a, A a → a ∈ ps ∨ NotT H a) {l : Nat} (h1 : ¬ l < ps.length) (h2 : l < W.n) : ¬ A (W.μ l) := fun ha => by
  by_cases h : W.μ l ∈ ps
  · obtain ⟨i, hi⟩ := List.getElem?_of_mem h
    have hl : i < ps.length := (List.getElem?_eq_some_iff.mp hi).1
    have e : W.μ i = W.μ l := by
      rw [w.μ i hl]
      show ps.getD i 0 = _
      rw [List.getD_eq_getElem?_getD, hi]
      rfl
    have := c.inj i l (Nat.lt_of_lt_of_le hl w.n) h2 e
    omega
  · exact (c.prot _ ⟨ha, h⟩).1 l h2 rfl
theorem exit_back (w : Wle ⟨fun i => ps.getD i 0, ps.length, H⟩ W) (c : Cor K (fun a => A a ∧ a ∉ ps) W ρ S σ) (hA : ∀ a, A a → a ∈ ps ∨ NotT H a) : ∀ {vs : List MV} {us : List V} {xs : List PyData}, RVs K (fun a => A a ∧ a ∉ ps) W us vs → backD.backAll ps.length S vs = some xs → RpAll K A W.H us xs
  | [], _, xs, .nil, e => by
    simp only [backD.backAll, Option.some.injEq] at e
    subst e
    exact .nil
  | .d y :: vs, _, xs, .cons r rs, e => by
    simp only [backD.backAll] at e
    obtain ⟨ys, e1, rfl⟩ := mapI e
    exact .cons (Rp.less (exit_sub w) r) (exit_back w c hA rs e1)
  | .ref l :: vs, _, xs, .cons r rs, e => by
    simp only [backD.backAll] at e
    split at e
    · cases e
    · rename_i hl
      split at e
      · rename_i cc ys e1 e2
        obtain ⟨zs, e3, rfl⟩ := mapI e
        obtain ⟨us, h3, h4⟩ := c.cell l cc e1
        refine .cons ?_ (exit_back w c hA rs e2)
        rw [r.2]
        exact .lst h3 (exit_ref w c hA hl r.1) ((h4.pures e3).less (exit_sub w))
      · cases e
theorem exit_val (w : Wle ⟨fun i => ps.getD i 0, ps.length, H⟩ W) (c : Cor K (fun a => A a ∧ a ∉ ps) W ρ S σ) (hA : ∀ a, A a → a ∈ ps ∨ NotT H a) {u : V} {v : MV} {x : PyData} (r : RV K (fun a => A a ∧ a ∉ ps) W u v) (e : backD ps.length S v = some x) : Rp K A W.H u x := by
  cases v with
  | d y =>
    simp only [backD, Option.some.injEq] at e
    subst e
    exact Rp.less (exit_sub w) r
  | ref l =>
    simp only [backD] at e
    split at e
    · cases e
    · rename_i hl
      split at e
      · rename_i cc e1
        obtain ⟨zs, e3, rfl⟩ := mapI e
        obtain ⟨us, h3, h4⟩ := c.cell l cc e1
        rw [r.2]
        exact .lst h3 (exit_ref w c hA hl r.1) (exit_back w c hA h4 e3)
      · cases e
end
theorem fn_sound {P : Program} {w : World} {K : PySem.W.Frag} {mg : Str → Option Value} {base : Heap} {k : Nat} {g : Gs} {C C' : CallF} {f : Addr} {fi : Fi} {i : Nat} {nm qual : Str} {params : Arguments} {body : List Stmt} {scope : Scope} {dV kV doc pm cdv ct oc : Value} {an od : Option Addr} {osl : Array (Option Value)}
    (S : FnScope fi.N fi.ps scope) (hcd : PySem.W.codeIn K cdv qual = true) (lk : K.lookup f = some ⟨oc, od, .func (PySem.W.fnOf nm qual params body scope dV kV doc pm an cdv ct), osl⟩) (hchk : chkSs g fi.N fi.body scope body = true) (wf : Wf ⟨P, w, K, mg, base, k⟩ g C) (hC : ∀ cs ds, C' i cs ds = evF C fi cs ds) :
    FnG P w K mg base (k + 1) f (PySem.W.fnOf nm qual params body scope dV kV doc pm an cdv ct) fi.ps (spF K C' i) := by
  have lens : ∀ {vs : List V} {H : Hp} {Q : VK}, spF K C' i vs H Q → vs.length = fi.ps.length := fun {vs H Q} ⟨A, ps, us, cs, ds, x, cs', e, h1, _, _, _, hc, hu, _⟩ => by
    rw [hC] at h1
    unfold evF at h1
    split at h1
    · rename_i hh
      rw [e, List.length_append, List.length_map, hc.length, hu.length, hh.1]
      exact hh.2
    · cases h1
  refine fng_of S hcd lk (fun vs H Q => lens) fun A0 outer s H vs Q hr hgd hsp pins s1 I => ?_
  obtain ⟨A, ps, us, cs, ds, x, cs', rfl, h1, nd, hA, hps, hc, hu, q⟩ := hsp
  rw [hC] at h1
  unfold evF at h1
  split at h1
  · rename_i hh
    obtain ⟨fl, e1, e2⟩ := bindI h1
    have hpl : fi.ps.length ≤ fi.N.length := by
      have := congrArg List.length S.pre
      rw [List.length_take] at this
      omega
    have hio : fi.io = ps.length := by rw [← hh.1, hc.length]
    have hds : ds.length = us.length := hu.length.symm
    rw [hio] at e1 e2 hh
    have c0 := entry (m := fi.N.length) nd hA hps hc hu (by omega)
    have e3 : fi.N.length - fi.ps.length = fi.N.length - (ps.length + us.length) := by omega
    rw [e3] at e1
    have hS : ∀ X, (CtxS ⟨P, w, K, mg, base, k⟩ fi.N scope scope X ∧ PassesOwn (model X.prog X.w) X.A X.env X.xe) → CtxS ⟨P, w, K, mg, base, k⟩ fi.N scope scope X := fun _ h => h.1
    have good := soundSs wf fi.body hS (fun _ h => h.2) hchk
    have hX : CtxS ⟨P, w, K, mg, base, k⟩ fi.N scope scope (cxOf CX0 P w K mg base fi.N qual scope f cdv A0 outer s H E0) := { prog := rfl, w := rfl, K := rfl, mg := rfl, base := rfl, calm := rfl, room := hr, gd := hgd, nd := S.nd, hN := rfl, hsc := rfl, kf := S.kind, st := fun y hy => ⟨loc_of hy, .inl rfl⟩ }
    refine good _ _ _ _ _ fl { nx := fun _ H' => Q .non H', rt := Q } c0 e1 ?_ _ ⟨hX, PassesOwn.leaving⟩ pins s1 I
    cases fl with
    | nx ρ' S' =>
      intro W' σ' w' c'
      simp only [endOf] at e2
      obtain ⟨zs, e4, e5⟩ := mapI e2
      cases e5
      exact q .non W'.H (exit_frame w') (exit_cells w' c' e4) .non
    | rt v S' =>
      intro W' u ρ' σ' w' c' r
      simp only [endOf] at e2
      split at e2
      · rename_i y zs e4 e5
        cases e2
        exact q u W'.H (exit_frame w') (exit_cells w' c' e5) (exit_val w' c' hA r e4)
      · cases e2
    | bk ρ' S' => simp [endOf] at e2
    | ct ρ' S' => simp [endOf] at e2
  · cases h1
end TM
end
section
set_option Elab.async false
set_option linter.all false
set_option autoImplicit false
set_option maxRecDepth 100000
set_option maxHeartbeats 4000000
/-! TM: binding, the table of functions, the law's call. -/
namespace TM
open PySem PySem.Spec PyProof.Rows L2
theorem lk_some : ∀ {ns : List Str} {us : List Value} {n : Str}, ns.length = us.length → n ∈ ns → ∃ v, (ns.zip us).lookup n = some v
  | [], _, n, _, h => by simp at h
  | a :: ns, [], n, hl, h => by simp at hl
  | a :: ns, u :: us, n, hl, h => by
    rw [List.zip_cons_cons, List.lookup_cons]
    cases e : n == a with
    | true => exact ⟨u, rfl⟩
    | false =>
      rcases List.mem_cons.mp h with rfl | h
      · simp at e
      · exact lk_some (us := us) (by simpa using hl) h
abbrev LpS := List (Str × Value) × List (Str × Value)
theorem bind_loop {names : List Str} (g : Str × Value → LpS → Sem (ForInStep LpS))
   (hg : ∀ k v ex sl, names.contains k = true → sl.lookup k = none → g (k, v) (sl, ex) = pure (.yield (sl ++ [(k, v)], ex))) : ∀ (kw : List (Str × Value)) (ex sl : List (Str × Value)), (∀ p ∈ kw, names.contains p.1 = true) → (kw.map (·.1)).Nodup → (∀ p ∈ kw, sl.lookup p.1 = none) →
   forIn kw ((sl, ex) : LpS) g = pure (sl ++ kw, ex)
  | [], ex, sl, _, _, _ => by rw [List.forIn_nil, List.append_nil]
  | (k, v) :: kw, ex, sl, h1, h2, h3 => by
    rw [List.forIn_cons, hg k v ex sl (h1 _ List.mem_cons_self) (h3 _ List.mem_cons_self)]
    simp only [List.map_cons, List.nodup_cons] at h2
    have ih := bind_loop g hg kw ex (sl ++ [(k, v)]) (fun p hp => h1 p (List.mem_cons_of_mem _ hp)) h2.2 (fun p hp => by
      rw [List.lookup_append, h3 p (List.mem_cons_of_mem _ hp)]
      have : (p.1 == k) = false := beq_eq_false_iff_ne.mpr fun z => h2.1 (z ▸ List.mem_map_of_mem hp)
      simp [List.lookup, this])
    show forIn kw _ g = _
    rw [ih, List.append_assoc]
    rfl
theorem bind_kw {fd : FuncData} {as : List Arg} (hp : fd.params = ⟨[], as, none, [], [], none, []⟩) (hd : fd.defaults = .none) (pos : List Value) (kw : List (Str × Value)) (hk : kw.map (·.1) = ((as.map (·.arg)).drop pos.length) ∨ pos = []) (hn : (kw.map (·.1)).Nodup)
    (hin : ∀ p ∈ kw, (as.map (·.arg)).contains p.1 = true) (hout : ∀ p ∈ kw, ((as.map (·.arg)).zip pos).lookup p.1 = none)
    (hall : ∀ n ∈ as.map (·.arg), ∃ v, ((as.map (·.arg)).zip pos ++ kw).lookup n = some v) (hl : pos.length ≤ as.length) : bindArgs fd ⟨pos, kw⟩ = pure ((as.map (·.arg)).filterMap fun n => (((as.map (·.arg)).zip pos ++ kw).lookup n).map (n, ·)) := by
  unfold bindArgs
  simp only [hp, hd, List.map_nil, List.nil_append, List.append_nil]
  rw [bind_loop (names := as.map (·.arg)) _ (fun k v ex sl h1 h2 => by
    simp only [h1, h2, Bool.true_or, if_true, Option.isSome_none, Bool.false_eq_true, if_false]) kw [] _ hin hn hout]
  generalize hsl : (as.map (·.arg)).zip pos ++ kw = sl at hall ⊢
  have pb : ∀ {α β : Type} (a : α) (F : α → Sem β), (pure a >>= F) = F a := fun _ _ => rfl
  have e0 : seqItems? Value.none = (pure none : Sem _) := rfl
  have h1 : decide (pos.length > (as.map (·.arg)).length) = false := by rw [List.length_map]; exact decide_eq_false (by omega)
  have h2 : ((as.map (·.arg)).filter fun n => (sl.lookup n).isNone) = [] := List.filter_eq_nil_iff.mpr fun n hn => by
    obtain ⟨v, e⟩ := hall n hn
    rw [e]; simp
  simp only [e0, pb, h1, Bool.false_and, Bool.false_eq_true, if_false, Option.getD_none, List.toList_toArray, Array.toList_empty, List.length_nil, Nat.zero_sub, List.drop_nil, Nat.sub_zero, List.take_length, h2, List.isEmpty_nil, Bool.not_true, List.zip_nil_right, List.forIn_nil]

theorem fm_congr {α β : Type} {f g : α → Option β} : ∀ {l : List α}, (∀ a ∈ l, f a = g a) → l.filterMap f = l.filterMap g
  | [], _ => rfl
  | a :: l, h => by rw [List.filterMap_cons, List.filterMap_cons, h a List.mem_cons_self, fm_congr fun b hb => h b (List.mem_cons_of_mem _ hb)]
theorem bound_pos : ∀ {ns : List Str} {us : List Value}, ns.Nodup → us.length = ns.length → (ns.filterMap fun n => ((ns.zip us).lookup n).map (n, ·)) = ns.zip us
  | [], [], _, _ => rfl
  | [], _ :: _, _, h => by simp at h
  | _ :: _, [], _, h => by simp at h
  | n :: ns, u :: us, nd, h => by
    obtain ⟨h1, h2⟩ := List.nodup_cons.mp nd
    rw [List.zip_cons_cons, List.filterMap_cons]
    simp only [List.lookup_cons, beq_self_eq_true, Option.map_some]
    congr 1
    rw [← bound_pos h2 (by simpa using h)]
    refine fm_congr fun m hm => ?_
    have : (m == n) = false := beq_eq_false_iff_ne.mpr fun z => h1 (z ▸ hm)
    rw [this, bound_pos h2 (by simpa using h)]
theorem lk_at : ∀ {ks : List Str} {us : List Value} {i : Nat} {k : Str} {u : Value}, ks.Nodup → ks[i]? = some k → us[i]? = some u → (ks.zip us).lookup k = some u
  | [], _, _, _, _, _, h, _ => by simp at h
  | _ :: _, [], _, _, _, _, _, h => by simp at h
  | a :: ks, b :: us, 0, k, u, _, h1, h2 => by
    simp only [List.getElem?_cons_zero, Option.some.injEq] at h1 h2
    subst h1 h2
    simp [List.lookup_cons]
  | a :: ks, b :: us, i + 1, k, u, nd, h1, h2 => by
    obtain ⟨n1, n2⟩ := List.nodup_cons.mp nd
    have h1' : ks[i]? = some k := by simpa using h1
    have : (k == a) = false := beq_eq_false_iff_ne.mpr fun z => n1 (z ▸ List.mem_of_getElem? h1')
    rw [List.zip_cons_cons, List.lookup_cons, this]
    exact lk_at n2 h1' (by simpa using h2)
theorem permG_at {α : Type} : ∀ {vs : List α} {perm : List Nat} {ws : List α}, permG vs perm = some ws → ws.length = perm.length ∧ ∀ (j i : Nat), perm[j]? = some i → ∃ v, vs[i]? = some v ∧ ws[j]? = some v
  | vs, [], ws, e => by
    simp only [permG, Option.some.injEq] at e
    subst e
    exact ⟨rfl, fun j i h => by simp at h⟩
  | vs, i :: is, ws, e => by
    simp only [permG] at e
    split at e
    · rename_i v r e1 e2
      cases e
      obtain ⟨h1, h2⟩ := permG_at e2
      refine ⟨by simp [h1], fun j k h => ?_⟩
      cases j with
      | zero =>
        simp only [List.getElem?_cons_zero, Option.some.injEq] at h
        subst h
        exact ⟨v, e1, rfl⟩
      | succ j => simpa using h2 j k (by simpa using h)
    · cases e
theorem bound_kw {ks : List Str} {us : List Value} (nd : ks.Nodup) : ∀ {perm : List Nat} {ps : List Str} {zs : List Value}, permG ks perm = some ps → permG us perm = some zs → (ps.filterMap fun n => ((ks.zip us).lookup n).map (n, ·)) = ps.zip zs
  | [], ps, zs, e1, e2 => by
    simp only [permG, Option.some.injEq] at e1 e2
    subst e1 e2
    rfl
  | i :: is, ps, zs, e1, e2 => by
    simp only [permG] at e1 e2
    split at e1
    · rename_i p ps' h1 h2
      cases e1
      split at e2
      · rename_i z zs' h3 h4
        cases e2
        rw [List.filterMap_cons, lk_at nd h1 h3]
        simp only [Option.map_some, List.zip_cons_cons]
        rw [bound_kw nd h2 h4]
      · cases e2
    · cases e1
/-- plain parameters -/
def plainP (a : Arguments) (ps : List Str) : Bool := match a with
  | ⟨[], as, none, [], [], none, []⟩ => decide (as.map (·.arg) = ps)
  | _ => false
theorem plainP_ok {a : Arguments} {ps : List Str} (h : plainP a ps = true) : ∃ as, a = ⟨[], as, none, [], [], none, []⟩ ∧ as.map (·.arg) = ps := by
  unfold plainP at h
  split at h
  · exact ⟨_, rfl, by simpa using h⟩
  · cases h
section
variable {nm qual : Str} {params : Arguments} {body : List Stmt} {scope : Scope} {kV doc pm cdv ct : Value} {an : Option Addr} {ps : List Str}
theorem binds_pos (h : plainP params ps = true) (nd : ps.Nodup) {us : List Value} (hl : us.length = ps.length) : bindArgs (PySem.W.fnOf nm qual params body scope .none kV doc pm an cdv ct) ⟨us, []⟩ = pure (ps.zip us) := by
  obtain ⟨as, rfl, rfl⟩ := plainP_ok h
  rw [bind_kw (as := as) rfl rfl us [] (by
    left
    rw [List.map_nil, List.drop_of_length_le (by omega)]) List.nodup_nil (fun p hp => by simp at hp) (fun p hp => by simp at hp) (fun n hn => by
    obtain ⟨v, e⟩ := lk_some hl.symm hn
    exact ⟨v, by rw [List.append_nil]; exact e⟩) (by rw [hl, List.length_map]; exact Nat.le_refl _)]
  rw [List.append_nil, bound_pos nd hl]
def kwOk (ps ks : List Str) (perm : List Nat) : Bool := decide (permG ks perm = some ps) && decide ks.Nodup && ks.all fun k => ps.contains k
theorem binds_kw (h : plainP params ps = true) {ks : List Str} {perm : List Nat} (hk : kwOk ps ks perm = true) {us zs : List Value} (hl : us.length = ks.length) (hz : permG us perm = some zs) :
    bindArgs (PySem.W.fnOf nm qual params body scope .none kV doc pm an cdv ct) ⟨[], ks.zip us⟩ = pure (ps.zip zs) := by
  obtain ⟨as, rfl, rfl⟩ := plainP_ok h
  simp only [kwOk, Bool.and_eq_true, decide_eq_true_eq, List.all_eq_true] at hk
  obtain ⟨⟨k1, k2⟩, k3⟩ := hk
  have hm : (ks.zip us).map (·.1) = ks := by rw [List.map_fst_zip]; omega
  rw [bind_kw (as := as) rfl rfl [] (ks.zip us) (.inr rfl) (by rw [hm]; exact k2) (fun p hp => k3 p.1 (List.of_mem_zip hp).1) (fun p hp => by rw [List.zip_nil_right]; rfl) (fun n hn => by
    obtain ⟨j, hj⟩ := List.getElem?_of_mem hn
    obtain ⟨l1, l2⟩ := permG_at k1
    have hjl : j < perm.length := by rw [← l1]; exact (List.getElem?_eq_some_iff.mp hj).1
    obtain ⟨v, h1, h2⟩ := l2 j _ (List.getElem?_eq_getElem hjl)
    rw [hj] at h2
    cases h2
    have hi : perm[j] < us.length := by rw [hl]; exact (List.getElem?_eq_some_iff.mp h1).1
    exact ⟨_, by rw [List.zip_nil_right, List.nil_append]; exact lk_at k2 h1 (List.getElem?_eq_getElem hi)⟩) (Nat.zero_le _)]
  rw [List.zip_nil_right, List.nil_append, bound_kw k2 k1 hz]
end
/-! ### the table -/
def nmOf : Stmt → Str
  | .FunctionDef x _ _ _ _ _ _ _ _ _ => x
  | _ => Str.empty
def dOf (st : Stmt) : He.DefD := ⟨(nmOf st, none), nmOf st, nmOf st, defArgs st, defBody st, defScope st, [], []⟩
def scB (N ps : List Str) (sc : Scope) : Bool := decide (sc.kind = .function) && !sc.isCoroutine && !sc.isGenerator && decide N.Nodup && decide (N.take ps.length = ps) && (ps.all fun x => locB sc x) && sc.names.all fun y => decide (y.2 ≠ .free)
theorem scB_ok {N ps : List Str} {sc : Scope} (h : scB N ps sc = true) : FnScope N ps sc := by
  simp only [scB, Bool.and_eq_true, decide_eq_true_eq, Bool.not_eq_true', List.all_eq_true] at h
  obtain ⟨⟨⟨⟨⟨⟨h1, h2⟩, h3⟩, h4⟩, h5⟩, h6⟩, h7⟩ := h
  exact ⟨h1, h2, h3, h4, h5, fun x hx => loc_of (h6 x hx), h7⟩
def chkFn (g : Gs) (i : Nat) (fi : Fi) (st : Stmt) : Bool := decide (nmOf st = fi.name) && plainP (defArgs st) fi.ps && scB fi.N fi.ps (defScope st) && chkSs g fi.N fi.body (defScope st) (defBody st) && g.kw.all fun q => decide (q.1 ≠ i) || kwOk fi.ps q.2.1 q.2.2
def chkTab (g : Gs) : Nat → List Fi → List Stmt → Bool
  | _, [], [] => true
  | i, fi :: fis, st :: sts => chkFn g i fi st && chkTab g (i + 1) fis sts
  | _, _, _ => false
theorem chkTab_at {g : Gs} : ∀ {fis : List Fi} {sts : List Stmt} {i j : Nat} {fi : Fi}, chkTab g i fis sts = true → fis[j]? = some fi → ∃ st, sts[j]? = some st ∧ chkFn g (i + j) fi st = true
  | [], _, i, j, fi, _, h => by simp at h
  | _ :: _, [], i, j, fi, h, _ => by simp [chkTab] at h
  | f :: fis, s :: sts, i, j, fi, h, e => by
    simp only [chkTab, Bool.and_eq_true] at h
    cases j with
    | zero =>
      simp only [List.getElem?_cons_zero, Option.some.injEq] at e
      subst e
      exact ⟨s, rfl, h.1⟩
    | succ j =>
      obtain ⟨st, h1, h2⟩ := chkTab_at (j := j) h.2 (by simpa using e)
      exact ⟨st, by simpa using h1, by rw [show i + (j + 1) = i + 1 + j by omega]; exact h2⟩
def gloFa : Str × PyData → He.Fa
  | (x, .int i) => .int x i
  | (x, .str z) => .str x z
  | (x, _) => .glo x
def flatD : PyData → Bool
  | .int _ => true
  | .str _ => true
  | _ => false
def gloOk : PyData → Bool
  | .int _ => true
  | .str _ => true
  | .tuple ds => ds.all flatD
  | _ => false
/-- a module's tuple of ints and texts, as it stands -/
def valB : Value → PyData → Bool
  | .str y _, .str z => decide (y = z)
  | .int i _, .int j => decide (i = j)
  | _, _ => false
def valsB : List Value → List PyData → Bool
  | [], [] => true
  | v :: vs, d :: ds => valB v d && valsB vs ds
  | _, _ => false
def tupB (K : PySem.W.Frag) (p : Str × PyData) : Bool := match p.2 with
  | .tuple ds => (match K.lookup (He.ga K p.1) with
    | some o => (match o.data with
      | .seq its _ => decide (o.cls = .type "tuple") && valsB its.toList ds && decide (its.size ≤ 4000)
      | _ => false)
    | none => false)
  | _ => true
theorem vals_rp {K : PySem.W.Frag} : ∀ {vs : List Value} {ds : List PyData}, valsB vs ds = true → ∃ xs, Vals xs vs ∧ ∀ A H, RpAll K A H xs ds
  | [], [], _ => ⟨[], .nil, fun _ _ => .nil⟩
  | v :: vs, d :: ds, h => by
    rw [valsB, Bool.and_eq_true] at h
    obtain ⟨xs, h1, h2⟩ := vals_rp h.2
    have hv := h.1
    cases v <;> cases d <;> first
      | (simp only [valB, decide_eq_true_eq] at hv
         subst hv
         first
          | exact ⟨.str _ :: xs, .cons ⟨_, rfl⟩ h1, fun A H => .cons (.str _) (h2 A H)⟩
          | exact ⟨.int _ :: xs, .cons ⟨_, rfl⟩ h1, fun A H => .cons (.int _) (h2 A H)⟩)
      | exact absurd hv (by simp [valB])
  | [], _ :: _, h | _ :: _, [], h => by simp [valsB] at h
/-- what the boot leaves, with the module's tuples -/
def obsT (n : Nat) (fa : List He.Fa) (fn : List He.DefD) (gl : List (Str × PyData)) (g : Addr → Option Obj) : Bool × He.AlD := (gl.all (tupB (He.frG g (He.asD g n))), He.obsDG n fa fn g)
theorem obsT_eq {n : Nat} {fa : List He.Fa} {fn : List He.DefD} {gl : List (Str × PyData)} {g h : Addr → Option Obj} (e : ∀ a, g a = h a) : obsT n fa fn gl g = obsT n fa fn gl h := by
  rw [show g = h from funext e]
theorem frG_in {g : Addr → Option Obj} {as : List Addr} {a : Addr} {o : Obj} (h : List.lookup a (He.frG g as) = some o) : g a = some o := by
  unfold He.frG at h
  induction as with
  | nil => cases h
  | cons b as ih =>
    rw [List.filterMap_cons] at h
    cases e : g b with
    | none =>
      rw [e] at h
      exact ih h
    | some ob =>
      rw [e] at h
      simp only [Option.map_some, List.lookup_cons] at h
      split at h
      · rename_i hab
        have : a = b := by simpa using hab
        subst this
        rw [e]
        exact h
      · exact ih h
def hookT (n : Nat) (fa : List He.Fa) (fn : List He.DefD) (gl : List (Str × PyData)) : PySem.W.Hook where
  α := Bool × He.AlD
  obs := fun s => obsT n fa fn gl s.heap.get?
  val := fun _ => (true, He.valD fn)
  says := fun _ h => ∃ K : PySem.W.Frag, K.In h ∧ He.SaysD fa fn K ∧ gl.all (tupB K) = true
  of := fun _ s h => by
    simp only [obsT, Prod.mk.injEq] at h
    exact ⟨He.frG s.heap.get? (He.asD s.heap.get? n), fun a o e => frG_in e, h.2, h.1⟩
  keeps := fun _ h h' ⟨K, k1, k2, k3⟩ keep => ⟨K, fun a o e => keep a o (k1 a o e), k2, k3⟩
def faOf (g : Gs) : List He.Fa := (g.tab.map fun fi => He.Fa.glo fi.name) ++ (g.bi.map He.Fa.free ++ g.glo.map gloFa)
section
variable {P : Program} {w : World} {K : PySem.W.Frag} {h : Heap} {mg : Str → Option Value} {base : Heap}
theorem fact_of {fa : List He.Fa} {fn : List He.DefD} (c : He.SaysD fa fn K) {f : He.Fa} (hf : f ∈ fa) : f.ok K = true := by
  obtain ⟨i, hi⟩ := List.getElem?_of_mem hf
  exact c.fact i hi
theorem tab_ok {g : Gs} {sts : List Stmt} (X : K.In h) (G : h.Ns mainGlobals mg) (c : He.SaysD (faOf g) (sts.map dOf) K) (ct : g.glo.all (tupB K) = true) (ht : chkTab g 0 g.tab sts = true) (hg : (g.glo.all fun p => gloOk p.2) = true) :
    ∀ k, Wf ⟨P, w, K, mg, base, k⟩ g (run g.tab k) := by
  have glo : ∀ x d, (x, d) ∈ g.glo → ∃ v u, mg x = some u ∧ RelV v u ∧ ∀ A H, Rp K A H v d := fun x d hm => by
    have ok := fact_of c (f := gloFa (x, d)) (List.mem_append_right _ (List.mem_append_right _ (List.mem_map_of_mem hm)))
    have hk : gloOk d = true := List.all_eq_true.mp hg _ hm
    cases d with
    | int i =>
      obtain ⟨t, e⟩ := He.int_ok X G (show (He.Fa.int x i).ok K = true from ok)
      exact ⟨.int i, _, e, ⟨t, rfl⟩, fun _ _ => .int i⟩
    | str z =>
      obtain ⟨t, e⟩ := He.str_ok X G (show (He.Fa.str x z).ok K = true from ok)
      exact ⟨.str z, _, e, ⟨t, rfl⟩, fun _ _ => .str z⟩
    | tuple ds =>
      have e := He.glo_ok X G (show (He.Fa.glo x).ok K = true from ok)
      have hb : tupB K (x, .tuple ds) = true := List.all_eq_true.mp ct _ hm
      unfold tupB at hb
      simp only at hb
      split at hb
      · rename_i o ho
        split at hb
        · rename_i its m hd
          simp only [Bool.and_eq_true, decide_eq_true_eq] at hb
          obtain ⟨xs, h1, h2⟩ := vals_rp (K := K) hb.1.2
          refine ⟨.ref (He.ga K x), _, e, rfl, fun A H => .tupK (.inr ⟨o, its, m, ho, hb.1.1, hd, ?_, h1⟩) (h2 A H)⟩
          have := hb.2
          have := sizeLine_eq
          omega
        · cases hb
      · cases hb
    | _ => cases hk
  have bi : ∀ x, g.bi.contains x = true → mg x = none := fun x hx => He.free_ok X G (fact_of c (f := .free x) (List.mem_append_right _ (List.mem_append_left _ (List.mem_map_of_mem (by simpa using hx)))))
  have fns : ∀ (i : Nat) (fi : Fi), g.tab[i]? = some fi → ∃ f fd, mg fi.name = some (.ref f) ∧ PySem.W.keepIn K (.ref f) = true ∧ Binds K fd fi.ps [] ∧ (∀ k, Wf ⟨P, w, K, mg, base, k⟩ g (run g.tab k) → FnG P w K mg base (k + 1) f fd fi.ps (spF K (run g.tab (k + 1)) i)) ∧ ∀ ks perm, (i, ks, perm) ∈ g.kw → KwB K fd fi.ps ks perm := fun i fi hi => by
    obtain ⟨st, hs, hc⟩ := chkTab_at ht hi
    rw [Nat.zero_add] at hc
    simp only [chkFn, Bool.and_eq_true, decide_eq_true_eq, List.all_eq_true, Bool.or_eq_true] at hc
    obtain ⟨⟨⟨⟨h1, h2⟩, h3⟩, h4⟩, h5⟩ := hc
    obtain ⟨fd, F⟩ := c.def_ i (d := dOf st) (by rw [List.getElem?_map, hs]; rfl)
    have hm := He.glo_ok X G (fact_of c (f := .glo fi.name) (List.mem_append_left _ (List.mem_map_of_mem (List.mem_of_getElem? hi))))
    have S := scB_ok h3
    have nd : fi.ps.Nodup := by rw [← S.pre]; exact S.nd.sublist (List.take_sublist _ _)
    have kp := F.kp
    obtain ⟨oc, od, dV, kV, doc, pm, an, cdv, ct, osl, rfl, lk, hcd, hD, hK⟩ := F.ex
    have e0 : He.fAd K (dOf st).at_ = He.ga K fi.name := by rw [← h1]; rfl
    rw [e0] at kp lk
    rcases hD with ⟨_, rfl⟩ | ⟨e, _⟩
    · exact ⟨_, _, hm, kp, .all fun us hl => binds_pos h2 nd hl, fun k wf => fn_sound S hcd lk h4 wf (fun cs ds => by simp only [run, hi]), fun ks perm hk s us zs _ hl hz _ => .of_eq (binds_kw h2 ((h5 _ hk).resolve_left fun z => z rfl) hl hz)⟩
    · exact absurd rfl e
  intro k
  induction k with
  | zero =>
    have none : ∀ i vs H Q, ¬ spF K (run g.tab 0) i vs H Q := fun i vs H Q ⟨_, _, _, _, _, _, _, _, e, _⟩ => by simp [run] at e
    refine ⟨glo, bi, fun i fi hi => ?_⟩
    obtain ⟨f, fd, m1, m2, m3, _, m5⟩ := fns i fi hi
    exact ⟨f, fd, m1, m2, m3, ⟨fun vs H Q z => (none _ _ _ _ z).elim, fun A outer s H _ _ _ args us vs Q _ _ z => (none _ _ _ _ z).elim⟩, m5⟩
  | succ k ih => exact ⟨glo, bi, fun i fi hi => let ⟨f, fd, m1, m2, m3, m4, m5⟩ := fns i fi hi; ⟨f, fd, m1, m2, m3, m4 k ih, m5⟩⟩
/-- what the script is, known to the object alone -/
def scrH (a : Addr) (o : Obj) (ns : List Int) : Hp := fun b => if b = a then some (.frz o (.lst (ns.map V.int))) else none
/-- a call of the law under the claim's caller -/
theorem law_runs {s1 : Shared} {k i : Nat} {C : CallF} {fa a : Addr} {fd : FuncData} {x : Str} {ns : List Int} {H : Hp} (F : FnG P w K mg (hidT s1.heap H) k fa fd [x] (spF K C i)) (hb : BindsTo s1 fd ⟨[.ref a], []⟩ [(x, .ref a)]) (hr : Room k callerA)
    (M : Mod K mg (hidT s1.heap H)) (hok : HOk P w H s1.heap) (hg : s1.gens = #[]) (hfz : ∀ b u, H b = some u → ∃ o, u = .frz o (.lst (ns.map V.int))) (hR : Rp K (fun _ => False) H (.ref a) (scrD ns)) (hC : C i [] [scrD ns] = some (.bool true, [])) :
    codeAny (model P w) callerA (.call (.ref fa) ⟨[.ref a], []⟩) (fun r s' => r = .ok (.ret (.bool true)) ∧ OldK s1.heap s'.heap ∧ s'.os = s1.os ∧ AllBare s'.gens) s1 := by
  have start : Env0 P w K mg (hidT s1.heap H) callerA [] s1 H := { frames := rfl, mod := M, bs := fun b o e => of_hidT e, bsz := Nat.le_of_eq (hidT_size _ _), funs := trivial, frf := (fun b hb => nomatch hb), hok := hok, bare := .of_eq hg }
  have told : spF K C i [.ref a] H (fun v _ => v = .bl true) := ⟨fun _ => False, [], [.ref a], [], [scrD ns], .bool true, [], rfl, hC, List.nodup_nil, fun _ z => z.elim, (fun _ z => nomatch z), .nil, .cons hR .nil, fun u H' _ _ r => by cases r; rfl⟩
  refine codeAny_mono (F.run callerA [] s1 H hr rfl start ⟨[.ref a], []⟩ [.ref a] [.ref a] _ hb (.cons rfl .nil) told) fun r s' got => ?_
  match r, got with
  | .ok (.ret u), ⟨v, H', os, bare, un, hok', rv, q⟩ =>
    have q : v = .bl true := q
    subst q
    cases rv
    refine ⟨rfl, OldK.of_keep fun b o e => ?_, os, bare⟩
    cases hb : H b with
    | none => exact un.keep b o e hb (fun z => nomatch z) (fun z => nomatch z)
    | some u =>
      obtain ⟨z, rfl⟩ := hfz b u hb
      have same : s1.heap.get? b = some z := (hok b _ hb).1
      rw [e] at same
      cases same
      exact (hok' b _ (un.frzs b _ _ hb)).1
  | .ok .next, got => exact False.elim got
  | .ok .brk, got => exact False.elim got
  | .ok .cont, got => exact False.elim got
  | .error e, got => exact False.elim got
theorem scr_mod {s1 : Shared} {mb : Str → Option Value} {a : Addr} {vs : List Value} {H : Hp} (KX : K.In s1.heap) (G : s1.heap.Ns mainGlobals mg) (B : s1.heap.Ns builtinsNs mb) (hb : ∀ x : Str, x ≠ "__name__" → mb x = bootBuiltins x) (L : s1.heap.NoLimit)
    (ha : s1.heap.get? a = some { cls := .type "list", data := .seq vs.toArray }) (hH : ∀ b u, H b = some u → b = a ∧ K.lookup a = none) : Mod K mg (hidT s1.heap H) := by
  have dict : ∀ {b : Addr} {o : Obj} {es : Array DictEntry} {ep : Nat}, s1.heap.get? b = some o → o.data = .dict es ep → (hidT s1.heap H).get? b = some o := fun {b o es ep} e d => by
    refine hidT_get e ?_
    cases hq : H b with
    | none => rfl
    | some u =>
      rw [(hH b u hq).1, ha, Option.some.injEq] at e
      subst e
      cases d
  have names : ∀ {b : Addr} {m : Str → Option Value}, s1.heap.Ns b m → (hidT s1.heap H).Ns b m := fun ⟨o, es, ep, e, d, r⟩ => ⟨o, es, ep, dict e d, d, r⟩
  refine ⟨fun b o e => hidT_get (KX b o e) ?_, names G, ⟨mb, names B, hb⟩, ?_⟩
  · cases hq : H b with
    | none => rfl
    | some u =>
      obtain ⟨rfl, hk⟩ := hH b u hq
      rw [hk] at e
      cases e
  · obtain ⟨mc, h1, h2⟩ := L
    exact ⟨mc, names h1, h2⟩
theorem walk_ofG {l : PySem.W.OpenLaw} {n k i : Nat} {q : Program} {loose : List Str} {XP : (Str → Option Value) → Heap → Prop} {YP : World → Heap → Prop} {d : DefRec} {x : Str} {g : Gs} {sts : List Stmt} {fi : Fi}
    (hn : l.most = some n) (hn2 : n ≤ sizeLine) (hdf : d.params.defaults = []) (hr : Room k callerA) (hY : ∀ w h, YP w h → ∃ K : PySem.W.Frag, K.In h ∧ He.SaysD (faOf g) (sts.map dOf) K ∧ g.glo.all (tupB K) = true) (ht : chkTab g 0 g.tab sts = true) (hgl : (g.glo.all fun p => gloOk p.2) = true)
    (hi : g.tab[i]? = some fi) (hx : fi.ps = [x]) (hname : fi.name = d.name) (hrun : ∀ ns : List Int, ns.length ≤ n → run g.tab k i [] [scrD ns] = some (.bool true, [])) :
    PySem.W.WalkO q loose XP YP l.row.toRowW d [] (fun f vs => PySem.call f vs) := by
  refine Att.attach_call hn hdf fun w s0 s1 mg mb fa o pm cd doc a vs ns G Y _ _ _ hmg hobj hints hlen hgen => ?_
  obtain ⟨K, KX, c, ct⟩ := hY w _ Y
  have main : ∀ H : Hp, (∀ b u, H b = some u → b = a ∧ K.lookup a = none) → (∀ b u, H b = some u → ∃ o, u = .frz o (.lst (ns.map V.int))) → HOk l.prog w H s1.heap → Rp K (fun _ => False) H (.ref a) (scrD ns) →
      codeAny (model l.prog w) callerA (.call (.ref fa) ⟨[.ref a], []⟩) (fun r s' => r = .ok (.ret (.bool true)) ∧ OldK s1.heap s'.heap ∧ s'.os = s1.os ∧ AllBare s'.gens) s1 := fun H h1 h2 h3 h4 => by
    have M := scr_mod KX G.T.g G.T.b G.T.builtins G.T.nolimit hobj h1
    obtain ⟨f, fd, e1, _, e3, e4, _⟩ := (tab_ok (P := l.prog) (w := w) (base := hidT s1.heap H) KX G.T.g c ct ht hgl k).fns i fi hi
    have e1 : mg fi.name = some (.ref f) := e1
    rw [hname, hmg] at e1
    cases e1
    have e3 : BindsTo s1 fd ⟨[.ref a], []⟩ (fi.ps.zip ([.ref a] ++ [])) := e3 s1 [.ref a] KX (by rw [hx]; rfl)
    have e4 : FnG l.prog w K mg (hidT s1.heap H) k fa fd fi.ps (spF K (run g.tab k) i) := e4
    rw [hx] at e3 e4
    exact law_runs e4 e3 hr M h3 hgen h2 h4 (hrun ns hlen)
  have rv := vals_ints hints
  have lenV := hints.length
  have small : ns.length ≤ sizeLine := Nat.le_trans hlen hn2
  cases hk : K.lookup a with
  | some ob =>
    have e := KX a ob hk
    rw [hobj, Option.some.injEq] at e
    subst e
    refine main (fun _ => none) (fun b u z => nomatch z) (fun b u z => nomatch z) (fun b u z => nomatch z) (.scrK (.inr ⟨_, vs.toArray, _, hk, rfl, rfl, rfl, ?_, ?_⟩))
    · rw [List.size_toArray, lenV]; exact small
    · simpa using rv
  | none =>
    have there : ∀ b u, scrH a { cls := .type "list", data := .seq vs.toArray } ns b = some u → b = a ∧ u = .frz { cls := .type "list", data := .seq vs.toArray } (.lst (ns.map V.int)) := fun b u z => by
      unfold scrH at z
      split at z
      · cases z; exact ⟨by assumption, rfl⟩
      · cases z
    refine main (scrH a { cls := .type "list", data := .seq vs.toArray } ns) (fun b u z => ⟨(there b u z).1, hk⟩) (fun b u z => ⟨_, (there b u z).2⟩) (fun b u z => ?_) (.scrF (z := { cls := .type "list", data := .seq vs.toArray }) (if_pos rfl) id)
    obtain ⟨rfl, rfl⟩ := there b u z
    exact ⟨hobj, by rw [List.length_map]; exact small, vs, _, rv, hobj⟩
end
end TM
end
section
set_option Elab.async false
set_option linter.all false
set_option autoImplicit false
set_option maxRecDepth 100000
set_option maxHeartbeats 1000000
/-! TM: plain facts about the machine's built-ins: order, sorting, loops, calls. -/
namespace TM
open PySem (PyData Str)
open PySem.W (alike alikeAll dataLt dataLe keyToks keyToksAll)
mutual
theorem eqv_eq : ∀ {x y : PyData}, alike x y = true → PyData.eqv x y = true → x = y
  | .none, .none, _, _ => rfl
  | .bool a, .bool b, _, h => by simp [PyData.eqv] at h; rw [h]
  | .int a, .int b, _, h => by simp [PyData.eqv] at h; rw [h]
  | .str a, .str b, _, h => by simp [PyData.eqv] at h; rw [h]
  | .list xs, .list ys, h, e => by rw [eqvAll_eq (x := xs) (y := ys) (by simpa [alike] using h) (by simpa [PyData.eqv] using e)]
  | .tuple xs, .tuple ys, h, e => by rw [eqvAll_eq (x := xs) (y := ys) (by simpa [alike] using h) (by simpa [PyData.eqv] using e)]
  | .none, .bool _, h, _ | .none, .int _, h, _ | .none, .str _, h, _ | .none, .list _, h, _ | .none, .tuple _, h, _ | .none, .dict _, h, _ => by simp [alike] at h
  | .bool _, .none, h, _ | .bool _, .int _, h, _ | .bool _, .str _, h, _ | .bool _, .list _, h, _ | .bool _, .tuple _, h, _ | .bool _, .dict _, h, _ => by simp [alike] at h
  | .int _, .none, h, _ | .int _, .bool _, h, _ | .int _, .str _, h, _ | .int _, .list _, h, _ | .int _, .tuple _, h, _ | .int _, .dict _, h, _ => by simp [alike] at h
  | .str _, .none, h, _ | .str _, .bool _, h, _ | .str _, .int _, h, _ | .str _, .list _, h, _ | .str _, .tuple _, h, _ | .str _, .dict _, h, _ => by simp [alike] at h
  | .list _, .none, h, _ | .list _, .bool _, h, _ | .list _, .int _, h, _ | .list _, .str _, h, _ | .list _, .tuple _, h, _ | .list _, .dict _, h, _ => by simp [alike] at h
  | .tuple _, .none, h, _ | .tuple _, .bool _, h, _ | .tuple _, .int _, h, _ | .tuple _, .str _, h, _ | .tuple _, .list _, h, _ | .tuple _, .dict _, h, _ => by simp [alike] at h
  | .dict _, .none, h, _ | .dict _, .bool _, h, _ | .dict _, .int _, h, _ | .dict _, .str _, h, _ | .dict _, .list _, h, _ | .dict _, .tuple _, h, _ | .dict _, .dict _, h, _ => by simp [alike] at h
theorem eqvAll_eq : ∀ {x y : List PyData}, alikeAll x y = true → PyData.eqvAll x y = true → x = y
  | [], [], _, _ => rfl
  | x :: xs, y :: ys, h, e => by
    simp only [alikeAll, Bool.and_eq_true] at h
    simp only [PyData.eqvAll, Bool.and_eq_true] at e
    rw [eqv_eq h.1 e.1, eqvAll_eq h.2 e.2]
  | [], _ :: _, _, e => by simp [PyData.eqvAll] at e
  | _ :: _, [], _, e => by simp [PyData.eqvAll] at e
end
/-- a <= b, as Python sorts -/
def dle (x y : PyData) : Bool := dataLe false id x y
theorem dle_lt (x y : PyData) : dle x y = !dataLt y x := rfl
theorem dle_anti {x y : PyData} (ha : alike x y = true) (h1 : dle x y = true) (h2 : dle y x = true) : x = y := by
  rw [dle_lt, Bool.not_eq_true'] at h1 h2
  have ek : keyToks x = keyToks y := PyProof.Rows.lex_total (O := PyProof.Rows.itemOrd) _ _ h2 h1
  cases e : PyData.eqv x y with
  | true => exact eqv_eq ha e
  | false =>
    have k := (PySem.W.toks_eqv x y ha).2 e [] [.inl 0]
    rw [ek] at k
    rw [PySem.W.lex_pre] at k
    have k2 := PyProof.Rows.lex_irrefl (O := PyProof.Rows.itemOrd) (keyToks y)
    rw [k2] at k
    cases k
theorem sorted_one {le : PyData → PyData → Bool} : ∀ {xs ys : List PyData}, xs.Perm ys → xs.Pairwise (fun a b => le a b = true) → ys.Pairwise (fun a b => le a b = true) → (∀ a ∈ xs, ∀ b ∈ xs, le a b = true → le b a = true → a = b) → xs = ys
  | [], ys, p, _, _, _ => by rw [List.nil_perm.mp p]
  | x :: xs, [], p, _, _, _ => by simp at p
  | x :: xs, y :: ys, p, hx, hy, an => by
    obtain ⟨hx1, hx2⟩ := List.pairwise_cons.mp hx
    obtain ⟨hy1, hy2⟩ := List.pairwise_cons.mp hy
    have e : x = y := by
      have mx : x ∈ y :: ys := p.mem_iff.mp List.mem_cons_self
      have my : y ∈ x :: xs := p.mem_iff.mpr List.mem_cons_self
      rcases List.mem_cons.mp mx with e | mx
      · exact e
      · rcases List.mem_cons.mp my with e | my'
        · exact e.symm
        · exact an x List.mem_cons_self y my (hx1 y my') (hy1 x mx)
    subst e
    rw [sorted_one (List.perm_cons x |>.mp p) hx2 hy2 fun a ha b hb => an a (List.mem_cons_of_mem _ ha) b (List.mem_cons_of_mem _ hb)]
/-- what sorted(..) gives: the one list in order -/
theorem sortD_is {xs ys : List PyData} (p : ys.Perm xs) (hs : ys.Pairwise (fun a b => dle a b = true)) (ha : ∀ a ∈ xs, ∀ b ∈ xs, alike a b = true) : sortD xs = ys := by
  have T := PySem.W.sortLe_total (PyProof.Rows.listOrd PyProof.Rows.itemOrd) false fun b : PyData => keyToks (id b)
  have s1 : (sortD xs).Pairwise (fun a b => dle a b = true) := List.pairwise_mergeSort (fun a b c => T.trans a b c) (fun a b => by
    rw [Bool.or_eq_true]
    exact T.total a b) xs
  have p1 : (sortD xs).Perm xs := List.mergeSort_perm _ _
  exact sorted_one (p1.trans p.symm) s1 hs fun a hA b hB h1 h2 => dle_anti (ha a (p1.mem_iff.mp hA) b (p1.mem_iff.mp hB)) h1 h2
theorem sortD_sorted (xs : List PyData) : (sortD xs).Pairwise (fun a b => dle a b = true) ∧ (sortD xs).Perm xs := by
  have T := PySem.W.sortLe_total (PyProof.Rows.listOrd PyProof.Rows.itemOrd) false fun b : PyData => keyToks (id b)
  exact ⟨List.pairwise_mergeSort (fun a b c => T.trans a b c) (fun a b => by
    rw [Bool.or_eq_true]
    exact T.total a b) xs, List.mergeSort_perm _ _⟩
/-! ### ints -/
section
variable (a b : Int) (S : Store)
theorem ltD_int : ltD (.int a) (.int b) = some (decide (a < b)) := by
  unfold ltD
  rw [if_pos (by simp [alike, beqD, PyData.depth, PyData.plain]), PySem.W.dataLt_int]
theorem eqD_int : eqD (.int a) (.int b) = some (decide (a = b)) := by
  unfold eqD
  rw [if_pos (by simp [PyData.depth, PyData.plain])]
  show some (a == b) = _
  congr 1
theorem lt_int : cmpM .lt (.d (.int a)) (.d (.int b)) S = some (decide (a < b)) := ltD_int a b
theorem gt_int : cmpM .gt (.d (.int a)) (.d (.int b)) S = some (decide (b < a)) := ltD_int b a
theorem le_int : cmpM .le (.d (.int a)) (.d (.int b)) S = some (decide (a ≤ b)) := by
  show (ltD (.int b) (.int a)).map (!·) = _
  rw [ltD_int, Option.map_some]
  congr 1
  rw [← decide_not]
  congr 1
  exact propext Int.not_lt
theorem ge_int : cmpM .ge (.d (.int a)) (.d (.int b)) S = some (decide (b ≤ a)) := le_int b a S
theorem eq_int : cmpM .eq (.d (.int a)) (.d (.int b)) S = some (decide (a = b)) := eqD_int a b
theorem ne_int : cmpM .ne (.d (.int a)) (.d (.int b)) S = some (!decide (a = b)) := by
  show (eqD (.int a) (.int b)).map (!·) = _
  rw [eqD_int, Option.map_some]
end
/-! ### loops -/
theorem lcGo_map {src : Src} {f : MV → Store → Option (Option MV × Store)} {S : Store} {g : MV → Option MV} (hs : stab S src = true) : ∀ {vs : List MV}, (∀ v ∈ vs, f v S = some (g v, S)) → lcGo src f vs S = some (vs.filterMap g, S)
  | [], _ => by simp only [lcGo, hs, if_true, List.filterMap_nil]
  | v :: vs, h => by
    simp only [lcGo, hs, if_true, h v List.mem_cons_self, Option.bind_some, lcGo_map hs fun w hw => h w (List.mem_cons_of_mem _ hw)]
    cases e : g v <;> simp [List.filterMap_cons, e]
/-- a for whose body always goes on: by an invariant over the items that are left -/
theorem forGo_all {src : Src} {f : MV → Env → Store → Option Fl} (Iv : List MV → Env → Store → Prop) (hst : ∀ vs ρ S, Iv vs ρ S → stab S src = true) (h : ∀ v vs ρ S, Iv (v :: vs) ρ S → ∃ ρ' S', (f v ρ S = some (.nx ρ' S') ∨ f v ρ S = some (.ct ρ' S')) ∧ Iv vs ρ' S') :
    ∀ (vs : List MV) (ρ : Env) (S : Store), Iv vs ρ S → ∃ ρ' S', forGo src f vs ρ S = some (.nx ρ' S') ∧ Iv [] ρ' S'
  | [], ρ, S, i => ⟨ρ, S, by simp only [forGo, hst _ _ _ i, if_true], i⟩
  | v :: vs, ρ, S, i => by
    obtain ⟨ρ', S', e, i'⟩ := h v vs ρ S i
    obtain ⟨ρ2, S2, e2, i2⟩ := forGo_all Iv hst h vs ρ' S' i'
    refine ⟨ρ2, S2, ?_, i2⟩
    rcases e with e | e <;> simp only [forGo, hst _ _ _ i, if_true, e, Option.bind_some, e2]
/-! ### calls -/
section
variable (C : CallF) (f : Nat) (S : Store) (a b c d e : PyData)
theorem call1 : callM C false f 0 [.d a] S = (C f [] [a]).map fun r => (.d r.1, S) := by
  unfold callM
  simp only [List.take_zero, ioCells, List.drop_zero, rdArgs, Option.map_some]
  cases C f [] [a] <;> simp [allD, setCells, Bool.false_and]
theorem call2 : callM C false f 0 [.d a, .d b] S = (C f [] [a, b]).map fun r => (.d r.1, S) := by
  unfold callM
  simp only [List.take_zero, ioCells, List.drop_zero, rdArgs, Option.map_some]
  cases C f [] [a, b] <;> simp [allD, setCells, Bool.false_and]
theorem call3 : callM C false f 0 [.d a, .d b, .d c] S = (C f [] [a, b, c]).map fun r => (.d r.1, S) := by
  unfold callM
  simp only [List.take_zero, ioCells, List.drop_zero, rdArgs, Option.map_some]
  cases C f [] [a, b, c] <;> simp [allD, setCells, Bool.false_and]
theorem call4 : callM C false f 0 [.d a, .d b, .d c, .d d] S = (C f [] [a, b, c, d]).map fun r => (.d r.1, S) := by
  unfold callM
  simp only [List.take_zero, ioCells, List.drop_zero, rdArgs, Option.map_some]
  cases C f [] [a, b, c, d] <;> simp [allD, setCells, Bool.false_and]
end
end TM
end
section
set_option Elab.async false
set_option linter.all false
set_option autoImplicit false
set_option maxRecDepth 100000
set_option maxHeartbeats 1000000
/-! TM: sorting of encoded things, membership, subsets. -/
namespace TM
open PySem (PyData Str)
open PySem.W (alike alikeAll dataLt dataLe keyToks keyToksAll)
/-! ### sorting by an encoding -/
section
variable {α : Type} (k : α → PyData)
def sortBy (ls : List α) : List α := ls.mergeSort fun a b => dle (k a) (k b)
theorem dle_total : ∀ a b : PyData, (dle a b || dle b a) = true := fun a b => by
  rw [Bool.or_eq_true]
  exact (PySem.W.sortLe_total (PyProof.Rows.listOrd PyProof.Rows.itemOrd) false fun b : PyData => keyToks (id b)).total a b
theorem dle_trans : ∀ a b c : PyData, dle a b = true → dle b c = true → dle a c = true := (PySem.W.sortLe_total (PyProof.Rows.listOrd PyProof.Rows.itemOrd) false fun b : PyData => keyToks (id b)).trans
theorem sortBy_map (ls : List α) : (sortBy k ls).map k = sortD (ls.map k) := List.map_mergeSort fun _ _ _ _ => rfl
theorem sortBy_perm (ls : List α) : (sortBy k ls).Perm ls := List.mergeSort_perm _ _
theorem sortBy_sorted (ls : List α) : (sortBy k ls).Pairwise (fun a b => dle (k a) (k b) = true) := List.pairwise_mergeSort (fun a b c => dle_trans (k a) (k b) (k c)) (fun a b => dle_total (k a) (k b)) ls
theorem sortBy_length (ls : List α) : (sortBy k ls).length = ls.length := (sortBy_perm k ls).length_eq
theorem sortBy_mem {ls : List α} {a : α} : a ∈ sortBy k ls ↔ a ∈ ls := (sortBy_perm k ls).mem_iff
variable {k}
theorem one_order : ∀ {xs ys : List α}, xs.Perm ys → xs.Pairwise (fun a b => dle (k a) (k b) = true) → ys.Pairwise (fun a b => dle (k a) (k b) = true) → (∀ a ∈ xs, ∀ b ∈ xs, dle (k a) (k b) = true → dle (k b) (k a) = true → a = b) → xs = ys
  | [], ys, p, _, _, _ => by rw [List.nil_perm.mp p]
  | x :: xs, [], p, _, _, _ => by simp at p
  | x :: xs, y :: ys, p, hx, hy, an => by
    obtain ⟨hx1, hx2⟩ := List.pairwise_cons.mp hx
    obtain ⟨hy1, hy2⟩ := List.pairwise_cons.mp hy
    have e : x = y := by
      rcases List.mem_cons.mp (p.mem_iff.mp List.mem_cons_self : x ∈ y :: ys) with e | mx
      · exact e
      · rcases List.mem_cons.mp (p.mem_iff.mpr List.mem_cons_self : y ∈ x :: xs) with e | my'
        · exact e.symm
        · exact an x List.mem_cons_self y (List.mem_cons_of_mem _ my') (hx1 y my') (hy1 x mx)
    subst e
    rw [one_order (List.perm_cons x |>.mp p) hx2 hy2 fun a ha b hb => an a (List.mem_cons_of_mem _ ha) b (List.mem_cons_of_mem _ hb)]
/-- k tells its things apart, and they compare -/
structure Enc (k : α → PyData) : Prop where
  inj : ∀ a b, k a = k b → a = b
  al : ∀ a b, alike (k a) (k b) = true
theorem Enc.anti (h : Enc k) {a b : α} (h1 : dle (k a) (k b) = true) (h2 : dle (k b) (k a) = true) : a = b := h.inj a b (dle_anti (h.al a b) h1 h2)
theorem sortBy_eq (h : Enc k) {xs ys : List α} (p : xs.Perm ys) : sortBy k xs = sortBy k ys :=
  one_order ((sortBy_perm k xs).trans (p.trans (sortBy_perm k ys).symm)) (sortBy_sorted k xs) (sortBy_sorted k ys) fun _ _ _ _ => h.anti
theorem sortBy_filter (h : Enc k) (q : α → Bool) (xs : List α) : (sortBy k xs).filter q = sortBy k (xs.filter q) :=
  one_order (((sortBy_perm k xs).filter q).trans (sortBy_perm k _).symm) ((sortBy_sorted k xs).sublist List.filter_sublist) (sortBy_sorted k _) fun _ _ _ _ => h.anti
theorem sortBy_id (h : Enc k) {xs : List α} (hs : xs.Pairwise (fun a b => dle (k a) (k b) = true)) : sortBy k xs = xs :=
  one_order (sortBy_perm k xs) (sortBy_sorted k xs) hs fun _ _ _ _ => h.anti
end
/-! ### tuples of ints -/
def tI (l : List Int) : PyData := .tuple (l.map .int)
def lI (l : List Int) : PyData := .list (l.map .int)
theorem ints_inj : ∀ {a b : List Int}, a.map PyData.int = b.map PyData.int → a = b
  | [], [], _ => rfl
  | [], _ :: _, h => by simp at h
  | _ :: _, [], h => by simp at h
  | x :: a, y :: b, h => by
    simp only [List.map_cons, List.cons.injEq, PyData.int.injEq] at h
    rw [h.1, ints_inj h.2]
theorem ints_alike : ∀ a b : List Int, alikeAll (a.map .int) (b.map .int) = true
  | [], _ => rfl
  | _ :: _, [] => rfl
  | x :: a, y :: b => by simp only [List.map_cons, alikeAll, alike, ints_alike a b, Bool.and_self]
theorem encT : Enc tI := ⟨fun a b h => ints_inj (by simpa [tI] using h), fun a b => by simp only [tI, alike, ints_alike]⟩
/-- (len(lot), lot) -/
def szT (l : List Int) : PyData := .tuple [.int l.length, tI l]
theorem encSz : Enc szT := ⟨fun a b h => ints_inj (by simp only [szT, tI, PyData.tuple.injEq, List.cons.injEq, and_true] at h; exact h.2), fun a b => by simp only [szT, alike, alikeAll, tI, ints_alike, Bool.and_self]⟩
theorem plain_ints : ∀ l : List Int, PyData.plainAll (l.map .int) = true
  | [] => rfl
  | _ :: l => by simp only [List.map_cons, PyData.plainAll, PyData.plain, plain_ints l, Bool.and_self]
theorem any_int (l : List Int) (c : Int) : ((l.map PyData.int).any fun z => PyData.eqv z (.int c)) = decide (c ∈ l) := by
  induction l with
  | nil => simp
  | cons x l ih =>
    rw [List.map_cons, List.any_cons, ih]
    show ((x == c) || _) = _
    by_cases h : c = x
    · subst h; simp
    · have : (x == c) = false := by simp [Ne.symm h]
      simp [this, h]
section
variable (S : Store) (c : Int) (l : List Int)
theorem inD_tI : inD S (.d (.int c)) (.d (tI l)) = some (decide (c ∈ l)) := by
  simp only [inD, rd, tI, plain_ints, PyData.plain, PyData.depth, any_int]
  rfl
theorem inD_lI : inD S (.d (.int c)) (.d (lI l)) = some (decide (c ∈ l)) := by
  simp only [inD, rd, lI, plain_ints, PyData.plain, PyData.depth, any_int]
  rfl
theorem in_tI : cmpM .inS (.d (.int c)) (.d (tI l)) S = some (decide (c ∈ l)) := inD_tI S c l
theorem in_lI : cmpM .inS (.d (.int c)) (.d (lI l)) S = some (decide (c ∈ l)) := inD_lI S c l
theorem ni_tI : cmpM .niS (.d (.int c)) (.d (tI l)) S = some (!decide (c ∈ l)) := by
  show (inD _ _ _).map _ = _
  rw [inD_tI]
  rfl
theorem ni_lI : cmpM .niS (.d (.int c)) (.d (lI l)) S = some (!decide (c ∈ l)) := by
  show (inD _ _ _).map _ = _
  rw [inD_lI]
  rfl
theorem ne_bool (a b : Bool) : cmpM .ne (.d (.bool a)) (.d (.bool b)) S = some (a != b) := by
  cases a <;> cases b <;> simp [cmpM, rd, eqD, PyData.eqv, PyData.plain, PyData.depth]
theorem eq_bool (a b : Bool) : cmpM .eq (.d (.bool a)) (.d (.bool b)) S = some (a == b) := by
  cases a <;> cases b <;> simp [cmpM, rd, eqD, PyData.eqv, PyData.plain, PyData.depth]
end
/-! ### pairs of ints -/
def pr (p : Int × Int) : PyData := .tuple [.int p.1, .int p.2]
theorem dataLt_cons {x y : PyData} {xs ys : List PyData} (h : alike x y = true) : dataLt (.tuple (x :: xs)) (.tuple (y :: ys)) = if PyData.eqv x y then dataLt (.tuple xs) (.tuple ys) else dataLt x y := by
  rw [PySem.W.dataLt_tuple]
  cases e : PyData.eqv x y with
  | true =>
    rw [PySem.W.dataLt_all_yes h e, if_pos rfl, PySem.W.dataLt_tuple]
  | false =>
    rw [PySem.W.dataLt_all_no h e, if_neg (by decide)]
def ltP (a b : Int × Int) : Bool := decide (a.1 < b.1) || (decide (a.1 = b.1) && decide (a.2 < b.2))
theorem dataLt_nil : dataLt (.tuple []) (.tuple []) = false := by
  rw [PySem.W.dataLt_tuple]
  exact PyProof.Rows.lex_irrefl (O := PyProof.Rows.itemOrd) _
theorem eqv_int (a b : Int) : PyData.eqv (.int a) (.int b) = decide (a = b) := rfl
theorem dataLt_pr (a b : Int × Int) : dataLt (pr a) (pr b) = ltP a b := by
  rw [pr, pr, dataLt_cons rfl, dataLt_cons rfl, dataLt_nil, eqv_int, eqv_int, PySem.W.dataLt_int, PySem.W.dataLt_int, ltP]
  by_cases h : a.1 = b.1
  · by_cases h2 : a.2 = b.2
    · simp [h, h2]
    · simp [h, h2]
  · simp [h]
theorem lt_pr (S : Store) (a b : Int × Int) : cmpM .lt (.d (pr a)) (.d (pr b)) S = some (ltP a b) := by
  show ltD (pr a) (pr b) = _
  unfold ltD
  rw [if_pos (by simp [pr, alike, alikeAll, beqD, PyData.depth, PyData.depthAll, PyData.plain, PyData.plainAll]), dataLt_pr]
theorem encP : Enc pr := ⟨fun a b h => by
    simp only [pr, PyData.tuple.injEq, List.cons.injEq, PyData.int.injEq, and_true] at h
    exact Prod.ext h.1 h.2, fun a b => rfl⟩
/-- strikes, a dispute -/
def sD (ss : List (Int × Int)) : PyData := .tuple (ss.map pr)
def dD (m : Int) (ss : List (Int × Int)) : PyData := .tuple [.str "dispute", .int m, sD ss]
theorem eqv_pr (a b : Int × Int) : PyData.eqv (pr a) (pr b) = decide (a = b) := by
  simp only [pr, PyData.eqv, PyData.eqvAll, Bool.and_true]
  rw [show (a.1 == b.1) = decide (a.1 = b.1) from rfl, show (a.2 == b.2) = decide (a.2 = b.2) from rfl, ← Bool.decide_and]
  congr 1
  exact propext ⟨fun h => Prod.ext h.1 h.2, fun h => by rw [h]; exact ⟨rfl, rfl⟩⟩
theorem any_pr (ss : List (Int × Int)) (c : Int × Int) : ((ss.map pr).any fun z => PyData.eqv z (pr c)) = decide (c ∈ ss) := by
  induction ss with
  | nil => simp
  | cons x ss ih =>
    rw [List.map_cons, List.any_cons, ih, eqv_pr]
    by_cases h : x = c
    · subst h; simp
    · have : ¬ c = x := fun z => h z.symm
      simp [h, this]
theorem plain_prs : ∀ ss : List (Int × Int), PyData.plainAll (ss.map pr) = true
  | [] => rfl
  | s :: ss => by
    rw [List.map_cons, PyData.plainAll, plain_prs ss]
    rfl
theorem in_sD (S : Store) (c : Int × Int) (ss : List (Int × Int)) : cmpM .inS (.d (pr c)) (.d (sD ss)) S = some (decide (c ∈ ss)) := by
  show inD S (.d (pr c)) (.d (sD ss)) = _
  simp only [inD, rd, sD, plain_prs, any_pr]
  rw [show (pr c).plain = true from rfl, show (pr c).depth = 1 from rfl]
  rfl
/-! ### all subsets, by doubling -/
def dbl (f : List (List Int)) (c : Int) : List (List Int) := f ++ f.map (· ++ [c])
def subs (l : List Int) : List (List Int) := l.foldl dbl [[]]
theorem dbl_length (f : List (List Int)) (c : Int) : (dbl f c).length = 2 * f.length := by
  rw [dbl, List.length_append, List.length_map]
  omega
theorem fold_length : ∀ (l : List Int) (f : List (List Int)), (l.foldl dbl f).length = 2 ^ l.length * f.length
  | [], f => by simp
  | c :: l, f => by
    rw [List.foldl_cons, fold_length l, dbl_length, List.length_cons, Nat.pow_succ]
    rw [Nat.mul_assoc]
theorem subs_length (l : List Int) : (subs l).length = 2 ^ l.length := by
  rw [subs, fold_length]
  simp
theorem fold_filter (out : List Int) : ∀ (l : List Int) (f : List (List Int)), (l.foldl dbl f).filter (fun s => s.all fun x => !decide (x ∈ out)) = (l.filter fun x => !decide (x ∈ out)).foldl dbl (f.filter fun s => s.all fun x => !decide (x ∈ out))
  | [], f => rfl
  | c :: l, f => by
    rw [List.foldl_cons, fold_filter out l, List.filter_cons]
    have e : (f.map (· ++ [c])).filter (fun s => s.all fun x => !decide (x ∈ out)) = if c ∈ out then [] else (f.filter fun s => s.all fun x => !decide (x ∈ out)).map (· ++ [c]) := by
      induction f with
      | nil => simp
      | cons s f ih =>
        rw [List.map_cons, List.filter_cons, ih, List.filter_cons]
        by_cases hc : c ∈ out
        · simp [hc]
        · cases hs : s.all fun x => !decide (x ∈ out) with
          | true =>
            have : ((s ++ [c]).all fun x => !decide (x ∈ out)) = true := by
              rw [List.all_append, hs]
              simp [hc]
            simp only [this, hc, if_true, if_false, List.map_cons]
          | false =>
            have : ((s ++ [c]).all fun x => !decide (x ∈ out)) = false := by
              rw [List.all_append, hs]
              rfl
            simp only [this, hc, Bool.false_eq_true, if_false]
    rw [dbl, List.filter_append, e]
    by_cases hc : c ∈ out
    · simp [hc]
    · simp only [hc, decide_false, Bool.not_false, if_true, if_false, List.foldl_cons, dbl]
theorem subs_filter (out l : List Int) : (subs l).filter (fun s => s.all fun x => !decide (x ∈ out)) = subs (l.filter fun x => !decide (x ∈ out)) := by
  rw [subs, fold_filter]
  rfl
/-- what a subset is made of -/
theorem fold_mem : ∀ (l : List Int) (f : List (List Int)) (s : List Int), s ∈ l.foldl dbl f → ∃ a b, a ∈ f ∧ b.Sublist l ∧ s = a ++ b
  | [], f, s, h => ⟨s, [], h, List.Sublist.refl _, by simp⟩
  | c :: l, f, s, h => by
    obtain ⟨a, b, ha, hb, e⟩ := fold_mem l _ s h
    rw [dbl, List.mem_append, List.mem_map] at ha
    rcases ha with ha | ⟨a', ha, rfl⟩
    · exact ⟨a, b, ha, hb.cons _, e⟩
    · exact ⟨a', c :: b, ha, hb.cons₂ _, by rw [e, List.append_assoc]; rfl⟩
theorem subs_mem {l s : List Int} (h : s ∈ subs l) : s.Sublist l := by
  obtain ⟨a, b, ha, hb, e⟩ := fold_mem l _ s h
  have : a = [] := by simpa using ha
  rw [e, this]
  exact hb
theorem fold_nil : ∀ (l : List Int) (f : List (List Int)), [] ∈ f → [] ∈ l.foldl dbl f
  | [], f, h => h
  | c :: l, f, h => fold_nil l _ (List.mem_append_left _ h)
theorem subs_nil (l : List Int) : [] ∈ subs l := fold_nil l _ (by simp)
end TM
end
section
set_option Elab.async false
set_option linter.all false
set_option autoImplicit false
set_option maxRecDepth 100000
set_option maxHeartbeats 1000000
/-! TM: how long a repr is. -/
namespace TM
open PySem (PyData Str)
mutual
/-- at least as long as the repr -/
def wt : PyData → Nat
  | .none => 4
  | .bool _ => 5
  | .int i => i.natAbs.log2 + 3
  | .str x => (PySem.reprText x).length
  | .list xs => wts xs + 3
  | .tuple xs => wts xs + 3
  | .dict _ => 0
def wts : List PyData → Nat
  | [] => 0
  | x :: xs => wt x + 2 + wts xs
end
def lens : List Str → Nat
  | [] => 0
  | t :: ts => t.length + 2 + lens ts
theorem from_len : ∀ (ts : List Str) (k : Nat) (acc : Str), (PySem.textFrom k acc ts).length ≤ acc.length + lens ts
  | [], k, acc => Nat.le_refl _
  | t :: ts, k, acc => by
    have ih := from_len ts (k + 1) (acc ++ (if k > 0 then ", " else "" : String) ++ t)
    have e : (acc ++ (if k > 0 then ", " else "" : String) ++ t).length ≤ acc.length + 2 + t.length := by
      rw [PySem.strLen_append, PySem.strLen_append]
      have : ((if k > 0 then ", " else "" : String) : Str).length ≤ 2 := by
        split
        · exact Nat.le_refl _
        · exact Nat.zero_le _
      omega
    show (PySem.textFrom (k + 1) (acc ++ (if k > 0 then ", " else "" : String) ++ t) ts).length ≤ _
    rw [lens]
    omega
theorem join_len : ∀ ts : List Str, (Str.join ", " ts).length ≤ lens ts
  | [] => Nat.zero_le _
  | [x] => by
    show x.length ≤ x.length + 2 + 0
    omega
  | x :: y :: r => by
    have ih := join_len (y :: r)
    show (x ++ ", " ++ Str.join ", " (y :: r)).length ≤ _
    rw [PySem.strLen_append, PySem.strLen_append, lens]
    have e2 : ((", " : String) : Str).length = 2 := rfl
    omega
mutual
theorem shown_len : ∀ x : PyData, x.showable = true → x.plain = true → x.shown.length ≤ wt x
  | .none, _, _ => Nat.le_refl _
  | .bool b, _, _ => by cases b <;> decide +kernel
  | .int i, h, _ => by
    have := PySem.int_text_length_le (a := i) (k := i.natAbs.log2 + 1) (by omega) (by omega)
    show (Str.ofString (toString i)).length ≤ _
    rw [PySem.ofString_length, wt]
    omega
  | .str x, _, _ => Nat.le_refl _
  | .list xs, h, p => by
    have ih := shownAll_len xs (by simpa [PyData.showable] using h) (by simpa [PyData.plain] using p)
    have h2 := from_len (PyData.shownAll xs) 0 "["
    show (PySem.textFrom 0 "[" (PyData.shownAll xs) ++ "]").length ≤ _
    rw [PySem.strLen_append, wt]
    have e1 : (("[" : String) : Str).length = 1 := rfl
    have e2 : (("]" : String) : Str).length = 1 := rfl
    omega
  | .tuple xs, h, p => by
    have ih := shownAll_len xs (by simpa [PyData.showable] using h) (by simpa [PyData.plain] using p)
    have h2 := join_len (PyData.shownAll xs)
    show (("(" : Str) ++ Str.join ", " (PyData.shownAll xs) ++ (if (PyData.shownAll xs).length == 1 then ",)" else ")" : String)).length ≤ _
    rw [PySem.strLen_append, PySem.strLen_append, wt]
    have e1 : (("(" : String) : Str).length = 1 := rfl
    have e2 : ((if (PyData.shownAll xs).length == 1 then ",)" else ")" : String) : Str).length ≤ 2 := by
      split
      · exact Nat.le_refl _
      · exact Nat.le_succ _
    omega
  | .dict _, _, p => by simp [PyData.plain] at p
theorem shownAll_len : ∀ xs : List PyData, PyData.showableAll xs = true → PyData.plainAll xs = true → lens (PyData.shownAll xs) ≤ wts xs
  | [], _, _ => Nat.le_refl _
  | x :: xs, h, p => by
    simp only [PyData.showableAll, Bool.and_eq_true] at h
    simp only [PyData.plainAll, Bool.and_eq_true] at p
    have h1 := shown_len x h.1 p.1
    have h2 := shownAll_len xs h.2 p.2
    show x.shown.length + 2 + lens (PyData.shownAll xs) ≤ wt x + 2 + wts xs
    omega
end
/-- the machine's repr -/
theorem repr_is {S : Store} {v : MV} {x : PyData} (h : rd S v = some x) (h1 : x.showable = true) (h2 : x.plain = true) (h3 : x.depth ≤ 64) (h4 : wt x ≤ LINE) : biRepr [v] S = some (.d (.str x.shown), S) := by
  have h5 : x.shown.length ≤ LINE := Nat.le_trans (shown_len x h1 h2) h4
  simp only [biRepr, h, h1, h2, h3, h5, decide_true, Bool.and_self, if_true]
/-! ### things of one make -/
theorem wts_le {α : Type} (f : α → PyData) (b : Nat) : ∀ (xs : List α), (∀ x ∈ xs, wt (f x) ≤ b) → wts (xs.map f) ≤ (b + 2) * xs.length
  | [], _ => Nat.zero_le _
  | x :: xs, h => by
    have h1 := h x List.mem_cons_self
    have h2 := wts_le f b xs fun y hy => h y (List.mem_cons_of_mem _ hy)
    rw [List.map_cons, wts, List.length_cons, Nat.mul_succ]
    omega
theorem showable_map {α : Type} (f : α → PyData) : ∀ (xs : List α), (∀ x ∈ xs, (f x).showable = true) → PyData.showableAll (xs.map f) = true
  | [], _ => rfl
  | x :: xs, h => by
    rw [List.map_cons, PyData.showableAll, h x List.mem_cons_self, showable_map f xs fun y hy => h y (List.mem_cons_of_mem _ hy)]
    rfl
theorem plain_map {α : Type} (f : α → PyData) : ∀ (xs : List α), (∀ x ∈ xs, (f x).plain = true) → PyData.plainAll (xs.map f) = true
  | [], _ => rfl
  | x :: xs, h => by
    rw [List.map_cons, PyData.plainAll, h x List.mem_cons_self, plain_map f xs fun y hy => h y (List.mem_cons_of_mem _ hy)]
    rfl
theorem depth_map {α : Type} (f : α → PyData) (d : Nat) : ∀ (xs : List α), (∀ x ∈ xs, (f x).depth ≤ d) → PyData.depthAll (xs.map f) ≤ d
  | [], _ => Nat.zero_le _
  | x :: xs, h => by
    rw [List.map_cons, PyData.depthAll]
    exact Nat.max_le.mpr ⟨h x List.mem_cons_self, depth_map f d xs fun y hy => h y (List.mem_cons_of_mem _ hy)⟩
end TM
end
section
set_option Elab.async false
set_option linter.all false
set_option autoImplicit false
set_option maxRecDepth 100000
set_option maxHeartbeats 1000000
/-! TM: the evaluator by equations, comprehensions left whole. -/
namespace TM
open PySem (PyData Str)
/-- not to be seen through by the kernel: else it runs the program -/
theorem obind {α β : Type} (a : α) (f : α → Option β) : (some a).bind f = f a := (rfl)
theorem omap {α β : Type} (a : α) (f : α → β) : (some a).map f = some (f a) := (rfl)
section
variable {C : CallF} {ρ : Env} {S : Store}
theorem eE_v {i : Nat} : evE C (.v i) ρ S = match ρ[i]? with
    | some (some v) => some (v, S)
    | _ => none := (rfl)
theorem eE_c {x : PyData} : evE C (.c x) ρ S = some (.d x, S) := (rfl)
theorem eE_g {y : Str} {d : PyData} : evE C (.g y d) ρ S = some (.d d, S) := (rfl)
theorem eE_tup {es : Exs} : evE C (.tup es) ρ S = (evEs C es ρ S).bind fun p => if p.1.length ≤ LINE then (pures p.1).map fun xs => (.d (.tuple xs), p.2) else none := (rfl)
theorem eE_lst {r : Bool} {es : Exs} : evE C (.lst r es) ρ S = (evEs C es ρ S).bind fun p => mkL r p.1 p.2 := (rfl)
theorem eE_bin {r : Bool} {o : Op} {a b : Ex} : evE C (.bin r o a b) ρ S = (evE C a ρ S).bind fun p => (evE C b ρ p.2).bind fun q => op2 r o p.1 q.1 q.2 := (rfl)
theorem eE_neg {a : Ex} : evE C (.neg a) ρ S = (evE C a ρ S).bind fun p => match p.1 with
    | .d (.int i) => some (.d (.int (-i)), p.2)
    | _ => none := (rfl)
theorem eE_cmp {o : Cp} {a b : Ex} : evE C (.cmp o a b) ρ S = (evE C a ρ S).bind fun p => (evE C b ρ p.2).bind fun q => (cmpM o p.1 q.1 q.2).map fun k => (.d (.bool k), q.2) := (rfl)
theorem eE_chain {o o' : Cp} {a b c : Ex} : evE C (.chain o o' a b c) ρ S = (evE C a ρ S).bind fun p => (evE C b ρ p.2).bind fun q => (cmpM o p.1 q.1 q.2).bind fun k =>
      if k then (evE C c ρ q.2).bind fun t => (cmpM o' q.1 t.1 t.2).map fun k => (.d (.bool k), t.2) else some (.d (.bool false), q.2) := (rfl)
theorem eE_and {a b : Ex} : evE C (.and a b) ρ S = (evE C a ρ S).bind fun p => match p.1 with
    | .d (.bool true) => evE C b ρ p.2
    | .d (.bool false) => some (.d (.bool false), p.2)
    | _ => none := (rfl)
theorem eE_or {a b : Ex} : evE C (.or a b) ρ S = (evE C a ρ S).bind fun p => match p.1 with
    | .d (.bool true) => some (.d (.bool true), p.2)
    | .d (.bool false) => evE C b ρ p.2
    | _ => none := (rfl)
theorem eE_not {a : Ex} : evE C (.not a) ρ S = (evE C a ρ S).bind fun p => match p.1 with
    | .d (.bool k) => some (.d (.bool (!k)), p.2)
    | _ => none := (rfl)
theorem eE_ife {t : Ts} {a b : Ex} : evE C (.ife t a b) ρ S = (evT C t ρ S).bind fun p => if p.1 then evE C a ρ p.2 else evE C b ρ p.2 := (rfl)
theorem eE_idx {a i : Ex} : evE C (.idx a i) ρ S = (evE C a ρ S).bind fun p => (evE C i ρ p.2).bind fun q => (ixM p.1 q.1 q.2).map fun v => (v, q.2) := (rfl)
theorem eE_sli {r : Bool} {a lo hi : Ex} : evE C (.sli r a lo hi) ρ S = (evE C a ρ S).bind fun p =>
      (if isNil lo then some (Option.none, p.2) else (evE C lo ρ p.2).bind fun q => (partOf q.1).map fun i => (i, q.2)).bind fun q =>
      (if isNil hi then some (Option.none, q.2) else (evE C hi ρ q.2).bind fun t => (partOf t.1).map fun i => (i, t.2)).bind fun t => slM r p.1 q.1 t.1 t.2 := (rfl)
theorem eE_rev {r : Bool} {a : Ex} : evE C (.rev r a) ρ S = (evE C a ρ S).bind fun p => match p.1 with
    | .d (.tuple _) => none
    | v => match listOf p.2 v with
      | some vs => mkL r vs.reverse p.2
      | none => none := (rfl)
/-- a call by positions -/
theorem eE_call {r : Bool} {f io np : Nat} {pm : List Nat} {es : Exs} : evE C (.call r f io np [] pm es) ρ S = (evEs C es ρ S).bind fun p => callM C r f io p.1 p.2 := (rfl)
/-- a call by names -/
theorem eE_callK {r : Bool} {f io np : Nat} {k : Str} {ks : List Str} {pm : List Nat} {es : Exs} : evE C (.call r f io np (k :: ks) pm es) ρ S = (evEs C es ρ S).bind fun p => (permV p.1 pm).bind fun vs => callM C r f io vs p.2 := (rfl)
theorem eE_bi {b : Bi} {r : Bool} {es : Exs} : evE C (.bi b r es) ρ S = (evEs C es ρ S).bind fun p => biM b r p.1 p.2 := (rfl)
theorem eE_met {m : Mt} {r : Bool} {o : Ex} {es : Exs} : evE C (.met m r o es) ρ S = (evE C o ρ S).bind fun p => (evEs C es ρ p.2).bind fun q => metM m r p.1 q.1 q.2 := (rfl)
theorem eEs_nil : evEs C .nil ρ S = some ([], S) := (rfl)
theorem eEs_cons {e : Ex} {es : Exs} : evEs C (.cons e es) ρ S = (evE C e ρ S).bind fun p => (evEs C es ρ p.2).bind fun q => some (p.1 :: q.1, q.2) := (rfl)
theorem eT_and {a b : Ts} : evT C (.and a b) ρ S = (evT C a ρ S).bind fun p => if p.1 then evT C b ρ p.2 else some (false, p.2) := (rfl)
theorem eT_or {a b : Ts} : evT C (.or a b) ρ S = (evT C a ρ S).bind fun p => if p.1 then some (true, p.2) else evT C b ρ p.2 := (rfl)
theorem eT_not {a : Ts} : evT C (.not a) ρ S = (evT C a ρ S).bind fun p => some (!p.1, p.2) := (rfl)
theorem eT_tt : evT C .tt ρ S = some (true, S) := (rfl)
theorem eT_cmp {o : Cp} {a b : Ex} : evT C (.cmp o a b) ρ S = (evE C a ρ S).bind fun p => (evE C b ρ p.2).bind fun q => (cmpM o p.1 q.1 q.2).map fun k => (k, q.2) := (rfl)
theorem eT_chain {o o' : Cp} {a b c : Ex} : evT C (.chain o o' a b c) ρ S = (evE C a ρ S).bind fun p => (evE C b ρ p.2).bind fun q => (cmpM o p.1 q.1 q.2).bind fun k =>
      if k then (evE C c ρ q.2).bind fun t => (cmpM o' q.1 t.1 t.2).map fun k => (k, t.2) else some (false, q.2) := (rfl)
theorem eT_e {x : Ex} : evT C (.e x) ρ S = (evE C x ρ S).bind fun p => (truth p.2 p.1).map fun k => (k, p.2) := (rfl)
theorem eI_seq {e : Ex} : evI C (.seq e) ρ S = (evE C e ρ S).bind fun p => (itemsOf p.2 p.1).map fun vs => (vs, srcOf p.1 vs, p.2) := (rfl)
theorem eI_rng {es : Exs} : evI C (.rng es) ρ S = (evEs C es ρ S).bind fun p => (rangeOf p.1).bind fun ab => (rngI ab.1 ab.2).map fun ns => (ns.map fun n => .d (.int n), [], p.2) := (rfl)
theorem eI_zip {a b : Ex} : evI C (.zip a b) ρ S = (evE C a ρ S).bind fun p => (evE C b ρ p.2).bind fun q => match itemsOf q.2 p.1, itemsOf q.2 q.1 with
      | some xs, some ys => if bothKind p.1 q.1 then (zipD xs ys).map fun vs => (vs, srcOf p.1 xs ++ srcOf q.1 ys, q.2) else none
      | _, _ => none := (rfl)
theorem eI_enum {a : Ex} : evI C (.enum a) ρ S = (evE C a ρ S).bind fun p => (listOf p.2 p.1).bind fun vs => (enumD 0 vs).map fun ws => (ws, srcOf p.1 vs, p.2) := (rfl)
theorem eG_nm {i : Nat} {v : MV} : asg C (.nm i) v ρ S = some (ρ.set i (some v), S) := (rfl)
theorem eG_sub {o i : Ex} {v : MV} : asg C (.sub o i) v ρ S = (evE C o ρ S).bind fun p => (evE C i ρ p.2).bind fun q => (setIx q.2 p.1 q.1 v).map fun S' => (ρ, S') := (rfl)
theorem eG_tp {ts : Tgs} {xs : List PyData} : asg C (.tp ts) (.d (.tuple xs)) ρ S = asgs C ts (xs.map .d) ρ S := (rfl)
theorem eGs_nil : asgs C .nil [] ρ S = some (ρ, S) := (rfl)
theorem eGs_cons {t : Tg} {ts : Tgs} {v : MV} {vs : List MV} : asgs C (.cons t ts) (v :: vs) ρ S = (asg C t v ρ S).bind fun p => asgs C ts vs p.1 p.2 := (rfl)
theorem eS_set {t : Tg} {e : Ex} : evS C (.set t e) ρ S = (evE C e ρ S).bind fun p => (asg C t p.1 ρ p.2).bind fun q => some (.nx q.1 q.2) := (rfl)
theorem eS_par {is : List Nat} {es : Exs} : evS C (.par is es) ρ S = (evEs C es ρ S).bind fun p => (setAll is p.1 ρ).bind fun ρ' => some (.nx ρ' p.2) := (rfl)
theorem eS_parT {ts : Tgs} {es : Exs} : evS C (.parT ts es) ρ S = (evEs C es ρ S).bind fun p => if p.1.length ≤ LINE then (asgs C ts p.1 ρ p.2).bind fun q => some (.nx q.1 q.2) else none := (rfl)
theorem eS_ex {e : Ex} : evS C (.ex e) ρ S = (evE C e ρ S).bind fun p => some (.nx ρ p.2) := (rfl)
theorem eS_ifs {t : Ts} {a b : Sms} : evS C (.ifs t a b) ρ S = (evT C t ρ S).bind fun p => if p.1 then evSs C a ρ p.2 else evSs C b ρ p.2 := (rfl)
theorem eS_ret {e : Ex} : evS C (.ret e) ρ S = (evE C e ρ S).bind fun p => some (.rt p.1 p.2) := (rfl)
theorem eS_pass : evS C .pass ρ S = some (.nx ρ S) := (rfl)
theorem eS_never : evS C .never ρ S = none := (rfl)
theorem eS_fr {t : Tg} {it : It} {b : Sms} : evS C (.fr t it b) ρ S = (evI C it ρ S).bind fun p => forGo p.2.1 (fun v ρ S => (asg C t v ρ S).bind fun q => evSs C b q.1 q.2) p.1 ρ p.2.2 := (rfl)
theorem eSs_nil : evSs C .nil ρ S = some (.nx ρ S) := (rfl)
theorem eSs_cons {s : Sm} {ss : Sms} : evSs C (.cons s ss) ρ S = (evS C s ρ S).bind fun r => match r with
    | .nx ρ' S' => evSs C ss ρ' S'
    | r => some r := (rfl)
end
/-! ### comprehensions -/
section
variable {α : Type} {C : CallF} {ρ : Env} {S S' : Store} {own : List Nat} {t : Tg} {it : It} {q : Ts} {e : Ex} {src : Src}
theorem lcGo_on {f : MV → Store → Option (Option MV × Store)} (hs : stab S src = true) (enc : α → MV) (p : α → Bool) (out : α → PyData) : ∀ (items : List α), (∀ a ∈ items, f (enc a) S = some (if p a then some (.d (out a)) else none, S)) → lcGo src f (items.map enc) S = some ((items.filter p).map fun a => .d (out a), S)
  | [], _ => by simp only [List.map_nil, lcGo, hs, if_true, List.filter_nil]
  | a :: items, h => by
    simp only [List.map_cons, lcGo, hs, if_true, h a List.mem_cons_self, Option.bind_some, lcGo_on hs enc p out items fun b hb => h b (List.mem_cons_of_mem _ hb), List.filter_cons]
    cases p a <;> simp
theorem mkL_data {xs : List PyData} (h : xs.length ≤ LINE) : mkL false (xs.map .d) S = some (.d (.list xs), S) := by
  unfold mkL
  rw [if_pos (by rw [List.length_map]; exact h), if_neg (by decide), pures_map']
  rfl
where pures_map' : ∀ {xs : List PyData}, pures (xs.map .d) = some xs
  | [] => rfl
  | x :: xs => by rw [List.map_cons, pures, pures_map']; rfl
theorem pures_of (xs : List PyData) : pures (xs.map .d) = some xs := mkL_data.pures_map'
/-- the machine's turn -/
def lcT (C : CallF) (own : List Nat) (t : Tg) (q : Ts) (e : Ex) (ρ : Env) (v : MV) (S1 : Store) : Option (Option MV × Store) := (asg C t v (wipeE ρ own) S1).bind fun a => (evT C q a.1 a.2).bind fun b =>
        if b.1 then (evE C e a.1 b.2).bind fun y => some (some y.1, y.2) else some (none, b.2)
theorem eE_lc {r : Bool} : evE C (.lc r own t it q e) ρ S = (evI C it ρ S).bind fun p => (lcGo p.2.1 (lcT C own t q e ρ) p.1 p.2.2).bind fun z => mkL r z.1 z.2 := (rfl)
/-- a comprehension that changes nothing and makes data -/
theorem lc_data (items : List α) (enc : α → MV) (p : α → Bool) (out : α → PyData) (hi : evI C it ρ S = some (items.map enc, src, S')) (hs : stab S' src = true) (hl : (items.filter p).length ≤ LINE) (h : ∀ a ∈ items, lcT C own t q e ρ (enc a) S' = some (if p a then some (.d (out a)) else none, S')) :
    evE C (.lc false own t it q e) ρ S = some (.d (.list ((items.filter p).map out)), S') := by
  rw [eE_lc, hi]
  simp only [Option.bind_some]
  rw [lcGo_on hs enc p out items h]
  simp only [Option.bind_some]
  have := mkL_data (S := S') (xs := (items.filter p).map out) (by rw [List.length_map]; exact hl)
  rw [List.map_map] at this
  exact this
theorem lc_filter (items : List α) (enc : α → MV) (p : α → Bool) (out : α → PyData) (src : Src) (hi : evI C it ρ S = some (items.map enc, src, S)) (hs : stab S src = true) (hl : (items.filter p).length ≤ LINE) (h : ∀ a ∈ items, lcT C own t q e ρ (enc a) S = some (if p a then some (.d (out a)) else none, S)) :
    evE C (.lc false own t it q e) ρ S = some (.d (.list ((items.filter p).map out)), S) := lc_data items enc p out hi hs hl h
theorem lc_map (items : List α) (enc : α → MV) (out : α → PyData) (src : Src) (hi : evI C it ρ S = some (items.map enc, src, S)) (hs : stab S src = true) (hl : items.length ≤ LINE) (h : ∀ a ∈ items, lcT C own t q e ρ (enc a) S = some (some (.d (out a)), S)) :
    evE C (.lc false own t it q e) ρ S = some (.d (.list (items.map out)), S) := by
  have f : items.filter (fun _ => true) = items := List.filter_eq_self.mpr fun _ _ => rfl
  have := lc_data items enc (fun _ => true) out hi hs (by rw [f]; exact hl) fun a ha => by rw [h a ha]; rfl
  rw [f] at this
  exact this
end
theorem zipD_of : ∀ (xs ys : List PyData), zipD (xs.map .d) (ys.map .d) = some ((xs.zip ys).map fun p => .d (.tuple [p.1, p.2]))
  | [], _ => by simp [zipD]
  | x :: xs, [] => by simp [zipD]
  | x :: xs, y :: ys => by simp only [List.map_cons, zipD, zipD_of xs ys, Option.map_some, List.zip_cons_cons]
theorem boolsM_of : ∀ (bs : List Bool), boolsM (bs.map fun b => .d (.bool b)) = some bs
  | [] => rfl
  | b :: bs => by simp only [List.map_cons, boolsM, boolsM_of bs, Option.map_some]
theorem intsM_of : ∀ (bs : List Int), intsM (bs.map fun b => .d (.int b)) = some bs
  | [] => rfl
  | b :: bs => by simp only [List.map_cons, intsM, intsM_of bs, Option.map_some]
/-- all of a list of truths -/
theorem all_of {S : Store} (bs : List Bool) : biAll [.d (.list (bs.map .bool))] S = some (.d (.bool (bs.all id)), S) := by
  simp only [biAll, listOf, List.map_map]
  rw [show ((MV.d ∘ PyData.bool) : Bool → MV) = fun b => .d (.bool b) from rfl, boolsM_of]
  rfl
theorem any_of {S : Store} (bs : List Bool) : biAny [.d (.list (bs.map .bool))] S = some (.d (.bool (bs.any id)), S) := by
  simp only [biAny, listOf, List.map_map]
  rw [show ((MV.d ∘ PyData.bool) : Bool → MV) = fun b => .d (.bool b) from rfl, boolsM_of]
  rfl
theorem all_map {α : Type} {S : Store} (xs : List α) (f : α → Bool) : biAll [.d (.list (xs.map fun a => .bool (f a)))] S = some (.d (.bool (xs.all f)), S) := by
  have := all_of (S := S) (xs.map f)
  rw [List.map_map] at this
  rw [show (fun a => PyData.bool (f a)) = PyData.bool ∘ f from rfl, this]
  simp [List.all_map, Function.comp_def]
theorem any_map {α : Type} {S : Store} (xs : List α) (f : α → Bool) : biAny [.d (.list (xs.map fun a => .bool (f a)))] S = some (.d (.bool (xs.any f)), S) := by
  have := any_of (S := S) (xs.map f)
  rw [List.map_map] at this
  rw [show (fun a => PyData.bool (f a)) = PyData.bool ∘ f from rfl, this]
  simp [List.any_map, Function.comp_def]
theorem cut_from {α : Type} (xs : List α) : cut xs (some 1) none = xs.drop 1 := by
  have e1 : HT.sIx xs.length 0 (some 1) = min 1 xs.length := HT.sIx_nat xs.length 0 1
  have e2 : HT.sIx xs.length xs.length none = xs.length := rfl
  unfold cut
  rw [e1, e2]
  cases xs with
  | nil => rfl
  | cons x xs =>
    have : min 1 (x :: xs).length = 1 := by simp only [List.length_cons]; omega
    rw [this]
    simp
/-! ### small steps -/
section
variable (S : Store)
theorem tr_bool (b : Bool) : truth S (.d (.bool b)) = some b := rfl
theorem tr_int (i : Int) : truth S (.d (.int i)) = some (i != 0) := rfl
theorem tr_list (xs : List PyData) : truth S (.d (.list xs)) = some !xs.isEmpty := rfl
theorem tr_tuple (xs : List PyData) : truth S (.d (.tuple xs)) = some !xs.isEmpty := rfl
theorem isi_str (x : Str) : biIsi [.str] [.d (.str x)] S = some (.d (.bool true), S) := rfl
theorem isi_tup (xs : List PyData) : biIsi [.tuple] [.d (.tuple xs)] S = some (.d (.bool true), S) := rfl
theorem isi_int (i : Int) : biIsi [.int] [.d (.int i)] S = some (.d (.bool true), S) := rfl
theorem isi_bool_int (i : Int) : biIsi [.bool] [.d (.int i)] S = some (.d (.bool false), S) := rfl
theorem len_tup (xs : List PyData) : biLen [.d (.tuple xs)] S = some (.d (.int xs.length), S) := by
  simp only [biLen, itemsOf, Option.map_some, List.length_map]
theorem len_list (xs : List PyData) : biLen [.d (.list xs)] S = some (.d (.int xs.length), S) := by
  simp only [biLen, itemsOf, Option.map_some, List.length_map]
theorem ne_str (a b : Str) : cmpM .ne (.d (.str a)) (.d (.str b)) S = some (!(a == b)) := by
  simp [cmpM, rd, eqD, PyData.eqv, PyData.plain, PyData.depth]
theorem eq_str (a b : Str) : cmpM .eq (.d (.str a)) (.d (.str b)) S = some (a == b) := by
  simp [cmpM, rd, eqD, PyData.eqv, PyData.plain, PyData.depth]
theorem add_int (r : Bool) (a b : Int) : op2 r .add (.d (.int a)) (.d (.int b)) S = some (.d (.int (a + b)), S) := rfl
theorem sub_int (r : Bool) (a b : Int) : op2 r .sub (.d (.int a)) (.d (.int b)) S = some (.d (.int (a - b)), S) := rfl
theorem ixN_nat {n k : Nat} (h : k < n) : L2.ixN n (k : Int) = some k := by
  unfold L2.ixN
  rw [if_pos (by omega), if_pos (by omega)]
  simp
theorem ix_at {xs : List PyData} {k : Nat} {x : PyData} (h : xs[k]? = some x) : ixM (.d (.tuple xs)) (.d (.int (k : Int))) S = some (.d x) := by
  have hk : k < xs.length := (List.getElem?_eq_some_iff.mp h).1
  show L2.atI (xs.map MV.d) (k : Int) = _
  unfold L2.atI
  rw [ixN_nat (by rw [List.length_map]; exact hk), Option.bind_some, List.getElem?_map, h]
  rfl
theorem ix_atL {xs : List PyData} {k : Nat} {x : PyData} (h : xs[k]? = some x) : ixM (.d (.list xs)) (.d (.int (k : Int))) S = some (.d x) := by
  have hk : k < xs.length := (List.getElem?_eq_some_iff.mp h).1
  show L2.atI (xs.map MV.d) (k : Int) = _
  unfold L2.atI
  rw [ixN_nat (by rw [List.length_map]; exact hk), Option.bind_some, List.getElem?_map, h]
  rfl
theorem ix0 (a : PyData) (xs : List PyData) : ixM (.d (.tuple (a :: xs))) (.d (.int 0)) S = some (.d a) := ix_at S (k := 0) rfl
theorem ix1 (a b : PyData) (xs : List PyData) : ixM (.d (.tuple (a :: b :: xs))) (.d (.int 1)) S = some (.d b) := ix_at S (k := 1) rfl
theorem ix2 (a b c : PyData) (xs : List PyData) : ixM (.d (.tuple (a :: b :: c :: xs))) (.d (.int 2)) S = some (.d c) := ix_at S (k := 2) rfl
end
section
variable {C : CallF} {ρ ρ' : Env} {S S' : Store} {s : Sm} {ss : Sms} {v : MV}
theorem ss_next (h : evS C s ρ S = some (.nx ρ' S')) : evSs C (.cons s ss) ρ S = evSs C ss ρ' S' := by
  rw [eSs_cons, h]
  rfl
theorem ss_ret (h : evS C s ρ S = some (.rt v S')) : evSs C (.cons s ss) ρ S = some (.rt v S') := by
  rw [eSs_cons, h]
  rfl
theorem end0 {x : PyData} {S : Store} : (some (Fl.rt (.d x) S)).bind (endOf 0) = some (x, []) := rfl
theorem endN {ρ : Env} {S : Store} : (some (Fl.nx ρ S)).bind (endOf 0) = some (.none, []) := rfl
end
/-- a for that folds -/
theorem for_fold {α β : Type} {src : Src} {f : MV → Env → Store → Option Fl} (enc : α → MV) (st : β → Env × Store) (step : β → α → β) (items : List α) (b : β) (hs : ∀ pre, pre <+: items → stab (st (pre.foldl step b)).2 src = true)
    (h : ∀ pre a post, items = pre ++ a :: post → f (enc a) (st (pre.foldl step b)).1 (st (pre.foldl step b)).2 = some (.nx (st (step (pre.foldl step b) a)).1 (st (step (pre.foldl step b) a)).2)) :
    forGo src f (items.map enc) (st b).1 (st b).2 = some (.nx (st (items.foldl step b)).1 (st (items.foldl step b)).2) := by
  have main : ∀ (post pre : List α), items = pre ++ post → forGo src f (post.map enc) (st (pre.foldl step b)).1 (st (pre.foldl step b)).2 = some (.nx (st (items.foldl step b)).1 (st (items.foldl step b)).2) := fun post => by
    induction post with
    | nil =>
      intro pre e
      rw [List.append_nil] at e
      subst e
      simp only [List.map_nil, forGo, hs items (List.prefix_refl _), if_true]
    | cons a post ih =>
      intro pre e
      have h1 := h pre a post e
      have h2 := ih (pre ++ [a]) (by rw [e, List.append_assoc]; rfl)
      rw [List.foldl_append] at h2
      simp only [List.map_cons, forGo, hs pre ⟨a :: post, e.symm⟩, if_true, h1, Option.bind_some]
      exact h2
  exact main items [] rfl
/-- list + list -/
theorem add_list {S : Store} (xs ys : List PyData) (h : xs.length + ys.length ≤ LINE) : op2 false .add (.d (.list xs)) (.d (.list ys)) S = some (.d (.list (xs ++ ys)), S) := by
  have := mkL_data (S := S) (xs := xs ++ ys) (by rw [List.length_append]; exact h)
  rw [List.map_append] at this
  exact this
theorem add_tup {S : Store} {r : Bool} (xs ys : List PyData) (h : xs.length + ys.length ≤ LINE) : op2 r .add (.d (.tuple xs)) (.d (.tuple ys)) S = some (.d (.tuple (xs ++ ys)), S) := by
  show (if xs.length + ys.length ≤ LINE then _ else none) = _
  rw [if_pos h]
theorem lineI : LINE = 16777216 := PySem.sizeLine_eq
/-- sorted of encoded things -/
theorem sorted_is {α : Type} {k : α → PyData} (hk : Enc k) {S : Store} (xs : List α) (hl : xs.length ≤ LINE) (hs : ∀ x ∈ xs, sortable (k x) = true) : biSorted false [.d (.list (xs.map k))] S = some (.d (.list ((sortBy k xs).map k)), S) := by
  have e1 : pures ((xs.map k).map .d) = some (xs.map k) := pures_of _
  have e2 : allAlike (xs.map k) = true := by
    simp only [allAlike, List.all_eq_true, List.mem_map]
    rintro _ ⟨a, _, rfl⟩ _ ⟨b, _, rfl⟩
    exact hk.al a b
  have e3 : (xs.map k).all sortable = true := by
    simp only [List.all_eq_true, List.mem_map]
    rintro _ ⟨a, ha, rfl⟩
    exact hs a ha
  have e4 := mkL_data (S := S) (xs := sortD (xs.map k)) (by rw [sortD, List.length_mergeSort, List.length_map]; exact hl)
  show (match pures ((xs.map k).map .d) with
      | some ys => if allAlike ys && ys.all sortable then mkL false ((sortD ys).map .d) S else none
      | none => none) = _
  rw [e1]
  simp only [e2, e3, Bool.and_self, if_true]
  rw [e4, sortBy_map]
theorem sortable_tI (l : List Int) : sortable (tI l) = true := by
  have d : ∀ l : List Int, PyData.depthAll (l.map .int) = 0 := fun l => by
    induction l with
    | nil => rfl
    | cons x l ih => rw [List.map_cons, PyData.depthAll, ih]; rfl
  have h : (tI l).depth ≤ 64 := by
    rw [tI, PyData.depth, d]
    decide
  have p : (tI l).plain = true := by
    rw [tI, PyData.plain]
    exact plain_ints l
  simp only [sortable, h, p, decide_true, Bool.and_true]
  rfl
theorem depth_tI (l : List Int) : (tI l).depth = 1 := by
  have d : ∀ l : List Int, PyData.depthAll (l.map .int) = 0 := fun l => by
    induction l with
    | nil => rfl
    | cons x l ih => rw [List.map_cons, PyData.depthAll, ih]; rfl
  rw [tI, PyData.depth, d]
theorem plain_tI (l : List Int) : (tI l).plain = true := by
  rw [tI, PyData.plain]
  exact plain_ints l
theorem sortable_szT (l : List Int) : sortable (szT l) = true := by
  have h : (szT l).depth ≤ 64 := by
    rw [szT, PyData.depth, PyData.depthAll, PyData.depthAll, depth_tI]
    show max 0 (max 1 0) + 1 ≤ 64
    decide
  have p : (szT l).plain = true := by
    rw [szT, PyData.plain, PyData.plainAll, PyData.plainAll, plain_tI]
    rfl
  simp only [sortable, h, p, decide_true, Bool.and_true]
  rfl
theorem fr_fold {α β : Type} {C : CallF} {t : Tg} {it : It} {body : Sms} (src : Src) (enc : α → MV) (st : β → Env × Store) (step : β → α → β) (items : List α) (b : β) (hi : evI C it (st b).1 (st b).2 = some (items.map enc, src, (st b).2)) (hs : ∀ pre, pre <+: items → stab (st (pre.foldl step b)).2 src = true)
    (h : ∀ pre a post, items = pre ++ a :: post → ((asg C t (enc a) (st (pre.foldl step b)).1 (st (pre.foldl step b)).2).bind fun q => evSs C body q.1 q.2) = some (.nx (st (step (pre.foldl step b) a)).1 (st (step (pre.foldl step b) a)).2)) :
    evS C (.fr t it body) (st b).1 (st b).2 = some (.nx (st (items.foldl step b)).1 (st (items.foldl step b)).2) := by
  rw [eS_fr, hi]
  exact for_fold enc st step items b hs h
/-- x == [] and x != [] -/
theorem eq_nil {S : Store} {x : MV} {xs : List PyData} (h : rd S x = some (.list xs)) (h1 : PyData.plainAll xs = true) (h2 : PyData.depthAll xs ≤ 63) : cmpM .eq x (.d (.list [])) S = some xs.isEmpty ∧ cmpM .ne x (.d (.list [])) S = some !xs.isEmpty := by
  have e : eqD (.list xs) (.list []) = some xs.isEmpty := by
    unfold eqD
    have h3 : PyData.depthAll xs + 1 ≤ 64 := by omega
    rw [if_pos (by
      simp only [PyData.plain, PyData.plainAll, h1, PyData.depth, Bool.true_and]
      exact decide_eq_true h3)]
    cases xs <;> rfl
  constructor
  · show (match rd S x, rd S (.d (.list [])) with
      | some a, some b => eqD a b
      | _, _ => none) = _
    rw [h]
    exact e
  · show (match rd S x, rd S (.d (.list [])) with
      | some a, some b => (eqD a b).map (!·)
      | _, _ => none) = _
    rw [h]
    show (eqD (.list xs) (.list [])).map (!·) = _
    rw [e]
    rfl
theorem depth_lots (ls : List (List Int)) : PyData.depthAll (ls.map tI) ≤ 63 := Nat.le_trans (depth_map tI 1 ls fun x _ => by rw [depth_tI]; exact Nat.le_refl _) (by decide)
theorem plain_lots (ls : List (List Int)) : PyData.plainAll (ls.map tI) = true := plain_map tI ls fun x _ => plain_tI x
theorem rd_cell {S : Store} {l : Nat} {xs : List PyData} (h : S[l]? = some (xs.map .d)) : rd S (.ref l) = some (.list xs) := by
  have r : ∀ xs : List PyData, rds1 S (xs.map .d) = some xs := fun xs => by
    induction xs with
    | nil => rfl
    | cons x xs ih => rw [List.map_cons, rds1, ih]; rfl
  simp only [rd, h, r, Option.map_some]
end TM
end
section
set_option Elab.async false
set_option linter.all false
set_option autoImplicit false
set_option maxRecDepth 100000
set_option maxHeartbeats 1000000
/-! TM: sorted(set(..)) of ints, told plainly. -/
namespace TM
open PySem (PyData Str)
theorem strict_len {hi : Int} : ∀ {xs : List Int} {lo : Int}, xs.Pairwise (· < ·) → (∀ x ∈ xs, lo ≤ x ∧ x < hi) → (xs.length : Int) ≤ hi - lo ∨ xs = []
  | [], _, _, _ => .inr rfl
  | x :: xs, lo, h, b => by
    obtain ⟨h1, h2⟩ := List.pairwise_cons.mp h
    have bx := b x List.mem_cons_self
    left
    rcases strict_len (lo := x + 1) h2 fun y hy => ⟨by have := h1 y hy; omega, (b y (List.mem_cons_of_mem _ hy)).2⟩ with e | e
    · rw [List.length_cons]
      omega
    · subst e
      simp only [List.length_cons, List.length_nil]
      omega
def sset (ns : List Int) : List Int := (nubI ns).mergeSort fun a b => decide (a ≤ b)
theorem sset_mem {ns : List Int} {k : Int} : k ∈ sset ns ↔ k ∈ ns := by
  rw [sset, (List.mergeSort_perm _ _).mem_iff, nubI_mem]
theorem sset_strict (ns : List Int) : (sset ns).Pairwise (· < ·) := sortI_strict (nubI_nodup ns)
theorem sset_length (ns : List Int) : (sset ns).length = (nubI ns).length := List.length_mergeSort _
theorem nub_few {b : Nat} {l : List Int} (h : ∀ x ∈ l, 0 ≤ x ∧ x < b) : (nubI l).length ≤ b := by
  rw [← sset_length]
  rcases strict_len (lo := 0) (hi := b) (sset_strict l) fun x hx => h x (sset_mem.mp hx) with e | e
  · omega
  · rw [e]; exact Nat.zero_le _
theorem sset_is {S : Store} {ns : List Int} (h1 : ns.length < 4000) (h2 : (nubI ns).length < 64) : biSortedSet false [.d (lI ns)] S = some (.d (lI (sset ns)), S) := by
  have h3 := intsM_of ns
  have e2 := mkL_data (S := S) (xs := (sset ns).map .int) (by
    rw [List.length_map, sset_length, show LINE = 16777216 from PySem.sizeLine_eq]
    omega)
  rw [List.map_map] at e2
  simp only [biSortedSet, itemsOf, lI, List.map_map, h1, h2, decide_true, Bool.and_self, if_true, show ((MV.d ∘ PyData.int) : Int → MV) = fun b => .d (.int b) from rfl, h3]
  exact e2
theorem sset_isT {S : Store} {ns : List Int} (h1 : ns.length < 4000) (h2 : (nubI ns).length < 64) : biSortedSet false [.d (tI ns)] S = some (.d (lI (sset ns)), S) := by
  rw [← sset_is h1 h2]
  simp only [biSortedSet, itemsOf, lI, tI]
/-- one list in strict order, by its members -/
theorem sset_eq {ns ms : List Int} (h : ∀ k, k ∈ ns ↔ k ∈ ms) : sset ns = sset ms := strict_eq (sset_strict ns) (sset_strict ms) fun k => by rw [sset_mem, sset_mem, h]
end TM
end
section
set_option Elab.async false
set_option linter.all false
set_option autoImplicit false
set_option maxRecDepth 100000
set_option maxHeartbeats 1000000
/-! TM: counting loops, calls that change a cell. -/
namespace TM
open PySem (PyData Str)
theorem for_ups {f : MV → Env → Store → Option Fl} (Iv : Int → Env → Store → Prop) : ∀ (k : Nat) (a : Int) (ρ : Env) (S : Store), Iv a ρ S → (∀ c ρ S, a ≤ c → c < a + k → Iv c ρ S → ∃ ρ' S', f (.d (.int c)) ρ S = some (.nx ρ' S') ∧ Iv (c + 1) ρ' S') →
    ∃ ρ' S', forGo [] f ((ups a k).map fun n => .d (.int n)) ρ S = some (.nx ρ' S') ∧ Iv (a + k) ρ' S'
  | 0, a, ρ, S, i, _ => ⟨ρ, S, rfl, by simpa using i⟩
  | k + 1, a, ρ, S, i, h => by
    obtain ⟨ρ1, S1, e1, i1⟩ := h a ρ S (Int.le_refl _) (by omega) i
    obtain ⟨ρ2, S2, e2, i2⟩ := for_ups Iv k (a + 1) ρ1 S1 i1 fun c ρ S h1 h2 => h c ρ S (by omega) (by omega)
    refine ⟨ρ2, S2, ?_, ?_⟩
    · rw [ups, List.map_cons]
      show (f (.d (.int a)) ρ S).bind _ = _
      rw [e1]
      exact e2
    · rw [show a + ((k + 1 : Nat) : Int) = a + 1 + (k : Int) by omega]
      exact i2
theorem fr_ups {C : CallF} {t : Tg} {it : It} {body : Sms} {ρ : Env} {S : Store} {a : Int} {k : Nat} (Iv : Int → Env → Store → Prop) (hi : evI C it ρ S = some ((ups a k).map (fun n => .d (.int n)), [], S)) (h0 : Iv a ρ S)
    (h : ∀ c ρ S, a ≤ c → c < a + k → Iv c ρ S → ∃ ρ' S', ((asg C t (.d (.int c)) ρ S).bind fun q => evSs C body q.1 q.2) = some (.nx ρ' S') ∧ Iv (c + 1) ρ' S') :
    ∃ ρ' S', evS C (.fr t it body) ρ S = some (.nx ρ' S') ∧ Iv (a + k) ρ' S' := by
  rw [eS_fr, hi]
  exact for_ups Iv k a ρ S h0 h
theorem rdArgs_d (S : Store) (ls : List Nat) : ∀ ds : List PyData, rdArgs S ls (ds.map .d) = some ds
  | [] => rfl
  | d :: ds => by rw [List.map_cons, rdArgs, rdArgs_d S ls ds]; rfl
theorem allD_d : ∀ ds : List PyData, allD (ds.map .d) = true
  | [] => rfl
  | d :: ds => by rw [List.map_cons, allD, allD_d ds]
/-- a call that changes its first argument -/
theorem call_io {C : CallF} {S : Store} {f l : Nat} {c c' : List PyData} {ds : List PyData} {x : PyData} (hS : S[l]? = some (c.map .d)) (hC : C f [c] ds = some (x, [c'])) : callM C false f 1 (.ref l :: ds.map .d) S = some (.d x, S.set l (c'.map .d)) := by
  unfold callM
  have e1 : ioCells S ((MV.ref l :: ds.map .d).take 1) [] = some ([l], [c]) := by
    show ioCells S [.ref l] [] = _
    unfold ioCells
    simp only [List.contains_nil, Bool.false_eq_true, if_false, hS, ioCells, pures_of, Option.map_some]
  rw [e1]
  simp only [List.drop_succ_cons, List.drop_zero, rdArgs_d, hC, allD_d, Bool.true_or, if_true, Bool.false_and, Bool.false_eq_true, if_false, setCells]
theorem call_io0 {C : CallF} {S : Store} {f l : Nat} {c c' : List PyData} {x : PyData} (hS : S[l]? = some (c.map .d)) (hC : C f [c] [] = some (x, [c'])) : callM C false f 1 [.ref l] S = some (.d x, S.set l (c'.map .d)) := call_io (ds := []) hS hC
theorem call_io1 {C : CallF} {S : Store} {f l : Nat} {c c' : List PyData} {a x : PyData} (hS : S[l]? = some (c.map .d)) (hC : C f [c] [a] = some (x, [c'])) : callM C false f 1 [.ref l, .d a] S = some (.d x, S.set l (c'.map .d)) := call_io (ds := [a]) hS hC
theorem call_io2 {C : CallF} {S : Store} {f l : Nat} {c c' : List PyData} {a b x : PyData} (hS : S[l]? = some (c.map .d)) (hC : C f [c] [a, b] = some (x, [c'])) : callM C false f 1 [.ref l, .d a, .d b] S = some (.d x, S.set l (c'.map .d)) := call_io (ds := [a, b]) hS hC
/-- a call whose answer is a new list -/
theorem call_new {C : CallF} {S : Store} {f : Nat} {ds xs : List PyData} (hC : C f [] ds = some (.list xs, [])) (h1 : noLs ds = true) (h2 : noLs xs = true) (h3 : xs.length ≤ LINE) : callM C true f 0 (ds.map .d) S = some (.ref S.length, S ++ [xs.map .d]) := by
  unfold callM
  simp only [List.take_zero, ioCells, List.drop_zero, rdArgs_d, hC, isLst, Bool.and_self, if_true, List.isEmpty_nil, h1, h2, h3, decide_true]
/-- a pot of draws -/
def Pot (c : List PyData) : Prop := ∃ p q : Int, c = [.int p, .int q] ∧ 0 ≤ p ∧ 0 ≤ q ∧ q < 2147483648
theorem app_ref {S : Store} {l : Nat} {c : List MV} {v : MV} {r : Bool} (h : S[l]? = some c) (hl : c.length < LINE) : metM .append r (.ref l) [v] S = some (.d .none, S.set l (c ++ [v])) := by
  show mtAppend (.ref l) [v] S = _
  unfold mtAppend
  simp only [h, if_pos hl]
theorem ix_cell {S : Store} {l : Nat} {c : List MV} {k : Nat} {v : MV} (h : S[l]? = some c) (hk : c[k]? = some v) : ixM (.ref l) (.d (.int (k : Int))) S = some v := by
  have hl : k < c.length := (List.getElem?_eq_some_iff.mp hk).1
  show (match S[l]? with
    | some vs => L2.atI vs (k : Int)
    | none => none) = _
  rw [h]
  show L2.atI c (k : Int) = _
  unfold L2.atI
  rw [ixN_nat hl, Option.bind_some, hk]
theorem scr_len {S : Store} {ns : List Int} : biLen [.d (scrD ns)] S = some (.d (.int ns.length), S) := by
  simp only [scrD, biLen, List.length_map]
theorem scr_ix {S : Store} {ns : List Int} {k : Nat} (h : k < ns.length) : ixM (.d (scrD ns)) (.d (.int (k : Int))) S = some (.d (.int ns[k])) := by
  simp only [scrD, ixM, List.map_map]
  unfold L2.atI
  rw [ixN_nat (by rw [List.length_map]; exact h), Option.bind_some, List.getElem?_map, List.getElem?_eq_getElem h]
  rfl
end TM
end
section
set_option Elab.async false
set_option linter.all false
set_option autoImplicit false
set_option maxRecDepth 100000
set_option maxHeartbeats 1000000
/-! TM: what can be shown, with bounds. -/
namespace TM
open PySem (PyData Str)
structure Rep (w d : Nat) (x : PyData) : Prop where
  sh : x.showable = true
  pl : x.plain = true
  dp : x.depth ≤ d
  wt : wt x ≤ w
theorem Rep.weak {w d w' d' : Nat} {x : PyData} (h : Rep w d x) (h1 : w ≤ w') (h2 : d ≤ d') : Rep w' d' x := ⟨h.sh, h.pl, Nat.le_trans h.dp h2, Nat.le_trans h.wt h1⟩
theorem Rep.int {i : Int} (h : i.natAbs < 2 ^ 64) : Rep 67 0 (.int i) := by
  have hl : i.natAbs.log2 < 64 := by
    by_cases h0 : i.natAbs = 0
    · rw [h0]
      decide
    · exact (Nat.log2_lt h0).mpr h
  refine ⟨?_, rfl, Nat.zero_le _, ?_⟩
  · rw [PyData.showable]
    exact decide_eq_true (by omega)
  · rw [TM.wt]
    omega
section
variable {α : Type} {f : α → PyData} {w d k : Nat} {xs : List α}
theorem rep_wts (h : ∀ x ∈ xs, Rep w d (f x)) (hk : xs.length ≤ k) : wts (xs.map f) ≤ (w + 2) * k := Nat.le_trans (wts_le f w xs fun x hx => (h x hx).wt) (Nat.mul_le_mul_left _ hk)
theorem Rep.list (h : ∀ x ∈ xs, Rep w d (f x)) (hk : xs.length ≤ k) : Rep ((w + 2) * k + 3) (d + 1) (.list (xs.map f)) := ⟨by
    rw [PyData.showable]
    exact showable_map f xs fun x hx => (h x hx).sh, by
    rw [PyData.plain]
    exact plain_map f xs fun x hx => (h x hx).pl, by
    rw [PyData.depth]
    exact Nat.succ_le_succ (depth_map f d xs fun x hx => (h x hx).dp), by
    rw [TM.wt]
    exact Nat.add_le_add_right (rep_wts h hk) 3⟩
theorem Rep.tup (h : ∀ x ∈ xs, Rep w d (f x)) (hk : xs.length ≤ k) : Rep ((w + 2) * k + 3) (d + 1) (.tuple (xs.map f)) := ⟨by
    rw [PyData.showable]
    exact showable_map f xs fun x hx => (h x hx).sh, by
    rw [PyData.plain]
    exact plain_map f xs fun x hx => (h x hx).pl, by
    rw [PyData.depth]
    exact Nat.succ_le_succ (depth_map f d xs fun x hx => (h x hx).dp), by
    rw [TM.wt]
    exact Nat.add_le_add_right (rep_wts h hk) 3⟩
end
theorem Rep.two {w d : Nat} {x y : PyData} (h1 : Rep w d x) (h2 : Rep w d y) : Rep ((w + 2) * 2 + 3) (d + 1) (.list [x, y]) := by
  have := Rep.list (f := id) (xs := [x, y]) (w := w) (d := d) (k := 2) (fun z hz => by
    simp only [List.mem_cons, List.not_mem_nil, or_false] at hz
    rcases hz with rfl | rfl
    · exact h1
    · exact h2) (Nat.le_refl _)
  exact this
theorem Rep.pair {w d : Nat} {x y : PyData} (h1 : Rep w d x) (h2 : Rep w d y) : Rep ((w + 2) * 2 + 3) (d + 1) (.tuple [x, y]) := by
  have := Rep.tup (f := id) (xs := [x, y]) (w := w) (d := d) (k := 2) (fun z hz => by
    simp only [List.mem_cons, List.not_mem_nil, or_false] at hz
    rcases hz with rfl | rfl
    · exact h1
    · exact h2) (Nat.le_refl _)
  exact this
theorem Rep.three {w d : Nat} {x y z : PyData} (h1 : Rep w d x) (h2 : Rep w d y) (h3 : Rep w d z) : Rep ((w + 2) * 3 + 3) (d + 1) (.tuple [x, y, z]) := by
  have := Rep.tup (f := id) (xs := [x, y, z]) (w := w) (d := d) (k := 3) (fun u hu => by
    simp only [List.mem_cons, List.not_mem_nil, or_false] at hu
    rcases hu with rfl | rfl | rfl
    · exact h1
    · exact h2
    · exact h3) (Nat.le_refl _)
  exact this
/-- repr of what can be shown -/
theorem rep_repr {S : Store} {v : MV} {x : PyData} {w d : Nat} (h : Rep w d x) (e : rd S v = some x) (h1 : w ≤ 16777216) (h2 : d ≤ 64) : biRepr [v] S = some (.d (.str x.shown), S) := repr_is e h.sh h.pl (Nat.le_trans h.dp h2) (by rw [lineI]; exact Nat.le_trans h.wt h1)
theorem rds_of {S : Store} : ∀ xs : List PyData, rds1 S (xs.map .d) = some xs
  | [] => rfl
  | x :: xs => by rw [List.map_cons, rds1, rds_of xs]; rfl
end TM
end
section
set_option Elab.async false
set_option linter.all false
set_option autoImplicit false
set_option maxRecDepth 1000000
set_option maxHeartbeats 2000000
/-! TM: disputes told plainly: strikes, lots, what can be shown. -/
namespace TM
open PySem (PyData Str)
def rises (l : List Int) : Bool := (l.zip (l.drop 1)).all fun p => decide (p.1 < p.2)
/-- within 0 .. b -/
def win (b x : Int) : Bool := decide (0 ≤ x) && decide (x ≤ b)
/-- a dispute as it must be -/
structure Good (m : Int) (ss : List (Int × Int)) : Prop where
  lo : 1 ≤ m
  hi : m ≤ 10
  win : ∀ p ∈ ss, (0 ≤ p.1 ∧ p.1 < m) ∧ 0 ≤ p.2 ∧ p.2 < m
  up : ss.Pairwise fun a b => ltP a b = true
  many : ss.length ≤ 100
theorem up_zip {ss : List (Int × Int)} (h : ss.Pairwise fun a b => ltP a b = true) : ((ss.zip (ss.drop 1)).all fun p => ltP p.1 p.2) = true := by
  induction ss with
  | nil => rfl
  | cons a ss ih =>
    cases ss with
    | nil => rfl
    | cons b ss =>
      obtain ⟨h1, h2⟩ := List.pairwise_cons.mp h
      have := ih h2
      simp only [List.drop_succ_cons, List.drop_zero, List.zip_cons_cons, List.all_cons, h1 b List.mem_cons_self, Bool.true_and] at this ⊢
      exact this
theorem hundred {k : Nat} (h : k ≤ 100) : k ≤ LINE := by
  rw [show LINE = 16777216 from PySem.sizeLine_eq]
  omega
/-- whom a lot strikes -/
def strk (ss : List (Int × Int)) (l : List Int) : List Int := sset ((ss.filter fun p => decide (p.1 ∈ l)).map (·.2))
theorem pow12 {k : Nat} (h : k ≤ 12) : 2 ^ k ≤ 4096 := Nat.pow_le_pow_right (n := 2) (by decide) h
/-- the claims of a dispute that a lot leaves -/
def rng (m : Int) : List Int := ups 0 m.toNat
def oth (m : Int) (lot : List Int) : List Int := (rng m).filter fun c => !decide (c ∈ lot)
theorem rng_len (m : Int) : (rng m).length = m.toNat := by
  have : ∀ (n : Nat) (lo : Int), (ups lo n).length = n := fun n => by
    induction n with
    | zero => exact fun _ => rfl
    | succ n ih => exact fun lo => by rw [ups, List.length_cons, ih]
  exact this _ _
theorem rngI_ok {m : Int} (h1 : 1 ≤ m) (h2 : m ≤ 10) : rngI 0 m = some (rng m) := by
  unfold rngI
  rw [if_pos (by simp only [lineI, Bool.and_eq_true, decide_eq_true_eq]; omega), Int.sub_zero]
  rfl
theorem oth_len {m : Int} (h : m ≤ 10) (lot : List Int) : (oth m lot).length ≤ 12 := by
  have := List.length_filter_le (fun c => !decide (c ∈ lot)) (rng m)
  have h2 := rng_len m
  rw [oth]
  omega
theorem ext_list {S : Store} {l : Nat} {c : List MV} {xs : List PyData} {r : Bool} (h : S[l]? = some c) (hl : c.length + xs.length ≤ LINE) : metM .extend r (.ref l) [.d (.list xs)] S = some (.d .none, S.set l (c ++ xs.map .d)) := by
  show mtExtend (.ref l) [.d (.list xs)] S = _
  unfold mtExtend
  simp only [h, TM.listOf, List.length_map, if_pos hl]
theorem back_lots {k : Nat} {S : Store} : ∀ ls : List (List Int), backD.backAll k S (ls.map fun l => .d (tI l)) = some (ls.map tI)
  | [] => rfl
  | x :: ls => by simp only [List.map_cons, backD.backAll, back_lots ls, Option.map_some]
def every (m : Int) : List (List Int) := sortBy tI (subs (rng m))
theorem subs10 {m : Int} (h : m ≤ 10) : (subs (rng m)).length ≤ 1024 := by
  rw [subs_length, rng_len]
  exact Nat.pow_le_pow_right (n := 2) (by decide) (show m.toNat ≤ 10 by omega)
theorem every_len {m : Int} (h : m ≤ 10) : (every m).length ≤ 1024 := by
  rw [every, sortBy_length]
  exact subs10 h
theorem every_sub {m : Int} {l : List Int} (h : l ∈ every m) : l.Sublist (rng m) := subs_mem ((sortBy_mem tI).mp h)
theorem mul_int {S : Store} {r : Bool} (i j : Int) (h : (-18446744073709551616 < i ∧ i < 18446744073709551616) ∨ (-18446744073709551616 < j ∧ j < 18446744073709551616)) : op2 r .mul (.d (.int i)) (.d (.int j)) S = some (.d (.int (i * j)), S) := by
  unfold op2
  simp only
  rw [if_pos (by simp only [Bool.or_eq_true, Bool.and_eq_true, decide_eq_true_eq]; omega)]
theorem mod_int {S : Store} {r : Bool} (i : Int) {j : Int} (h : 0 < j) : op2 r .mod (.d (.int i)) (.d (.int j)) S = some (.d (.int (i % j)), S) := by
  unfold op2
  simp only
  rw [if_pos (by simpa using h)]
/-- the strikes found so far -/
structure FG (m a s : Int) (found : List (Int × Int)) : Prop where
  inn : ∀ p ∈ found, (0 ≤ p.1 ∧ p.1 < m) ∧ (0 ≤ p.2 ∧ p.2 < m) ∧ (p.1 < a ∨ (p.1 = a ∧ p.2 < s))
  up : found.Pairwise fun a b => ltP a b = true
  len : (found.length : Int) ≤ 10 * a + s
theorem FG.step {m a s : Int} {found : List (Int × Int)} (h : FG m a s found) (ha : 0 ≤ a ∧ a < m) (hs : 0 ≤ s ∧ s < m) (b : Bool) : FG m a (s + 1) (found ++ if b then [(a, s)] else []) := by
  cases b with
  | false =>
    simp only [Bool.false_eq_true, if_false, List.append_nil]
    exact ⟨fun p hp => by
      have := h.inn p hp
      omega, h.up, by have := h.len; omega⟩
  | true =>
    simp only [if_true]
    refine ⟨fun p hp => ?_, ?_, ?_⟩
    · rcases List.mem_append.mp hp with hp | hp
      · have := h.inn p hp
        omega
      · simp only [List.mem_singleton] at hp
        subst hp
        exact ⟨ha, hs, Or.inr ⟨rfl, show s < s + 1 by omega⟩⟩
    · rw [List.pairwise_append]
      refine ⟨h.up, List.pairwise_singleton _ _, fun p hp q hq => ?_⟩
      simp only [List.mem_singleton] at hq
      subst hq
      have := h.inn p hp
      simp only [ltP, Bool.or_eq_true, Bool.and_eq_true, decide_eq_true_eq]
      exact this.2.2
    · have := h.len
      simp only [List.length_append, List.length_cons, List.length_nil]
      omega
theorem FG.next {m a : Int} {found : List (Int × Int)} (h : FG m a m found) (hm : m ≤ 10) : FG m (a + 1) 0 found := ⟨fun p hp => by
    have := h.inn p hp
    omega, h.up, by have := h.len; omega⟩
theorem ups_mem : ∀ (k : Nat) (a x : Int), x ∈ ups a k → a ≤ x ∧ x < a + k
  | 0, _, _, h => absurd h List.not_mem_nil
  | k + 1, a, x, h => by
    rcases List.mem_cons.mp h with rfl | h
    · omega
    · have := ups_mem k (a + 1) x h
      omega
theorem ups_up : ∀ (k : Nat) (a : Int), (ups a k).Pairwise (· < ·)
  | 0, _ => List.Pairwise.nil
  | k + 1, a => List.pairwise_cons.mpr ⟨fun x hx => by
    have := ups_mem k (a + 1) x hx
    omega, ups_up k (a + 1)⟩
theorem rng_mem {m x : Int} (h : x ∈ rng m) : 0 ≤ x ∧ x < m := by
  have := ups_mem _ _ _ h
  omega
theorem rises_of {l : List Int} (h : l.Pairwise (· < ·)) : rises l = true := by
  unfold rises
  induction l with
  | nil => rfl
  | cons a l ih =>
    cases l with
    | nil => rfl
    | cons b l =>
      obtain ⟨h1, h2⟩ := List.pairwise_cons.mp h
      have := ih h2
      simp only [List.drop_succ_cons, List.drop_zero, List.zip_cons_cons, List.all_cons, h1 b List.mem_cons_self, decide_true, Bool.true_and] at this ⊢
      exact this
theorem lot_ok {m : Int} {l : List Int} (h : l.Sublist (rng m)) : (l.all (win (m - 1)) && rises l) = true := by
  have h1 : l.all (win (m - 1)) = true := List.all_eq_true.mpr fun x hx => by
    have := rng_mem (h.subset hx)
    simp only [win, Bool.and_eq_true, decide_eq_true_eq]
    omega
  rw [h1, rises_of (List.Pairwise.sublist h (ups_up _ _))]
  rfl
/-- lots can be shown -/
theorem rep_lot {m : Int} (hm : m ≤ 10) {l : List Int} (h : l.Sublist (rng m)) : Rep 693 1 (tI l) := by
  have hl := h.length_le
  rw [rng_len] at hl
  exact Rep.tup (f := .int) (w := 67) (d := 0) (k := 10) (fun x hx => by
    have := rng_mem (h.subset hx)
    exact Rep.int (by omega)) (by omega)
theorem rep_lots {m : Int} (hm : m ≤ 10) {ls : List (List Int)} (h : ∀ l ∈ ls, l.Sublist (rng m)) (hl : ls.length ≤ 1024) : Rep 711683 2 (.list (ls.map tI)) := Rep.list (f := tI) (w := 693) (d := 1) (k := 1024) (fun l hl => rep_lot hm (h l hl)) hl
theorem rep_dD {m : Int} {ss : List (Int × Int)} (g : Good m ss) : Rep 50000 3 (dD m ss) := by
  have hm := g.hi
  have h0 := g.lo
  have s1 : Rep 14303 2 (sD ss) := Rep.tup (f := pr) (w := 141) (d := 1) (k := 100) (fun p hp => by
    have := g.win p hp
    exact Rep.pair (Rep.int (by omega)) (Rep.int (by omega))) g.many
  have s2 : Rep 14303 2 (.str "dispute") := ⟨rfl, rfl, Nat.zero_le _, by rw [wt]; decide +kernel⟩
  exact (Rep.three s2 ((Rep.int (i := m) (by omega)).weak (by omega) (by omega)) s1).weak (by omega) (by omega)
theorem oth_sub (m : Int) (lot : List Int) : (oth m lot).Sublist (rng m) := List.filter_sublist
theorem noLs_ints : ∀ l : List Int, noLs (l.map .int) = true
  | [] => rfl
  | x :: l => by rw [List.map_cons, noLs, noLs_ints l]; rfl
theorem noL_tI (l : List Int) : noL (tI l) = true := by rw [tI, noL, noLs_ints]
theorem noLs_lots : ∀ ls : List (List Int), noLs (ls.map tI) = true
  | [] => rfl
  | x :: ls => by rw [List.map_cons, noLs, noLs_lots ls, noL_tI]; rfl
theorem noLs_prs : ∀ ss : List (Int × Int), noLs (ss.map pr) = true
  | [] => rfl
  | x :: ss => by rw [List.map_cons, noLs, noLs_prs ss]; rfl
theorem noL_dD (m : Int) (ss : List (Int × Int)) : noL (dD m ss) = true := by
  have h : noL (sD ss) = true := by rw [sD, noL, noLs_prs]
  rw [dD, noL, noLs, noLs, noLs, h]
  rfl
end TM
end
section
set_option Elab.async false
set_option linter.all false
set_option autoImplicit false
set_option maxRecDepth 1000000
set_option maxHeartbeats 2000000
/-! TM: the plain lot of a dispute, lots that hold back: plain theory. -/
namespace TM
open PySem (PyData Str)
theorem ups_all : ∀ (k : Nat) (a x : Int), a ≤ x → x < a + k → x ∈ ups a k
  | 0, a, x, h1, h2 => by omega
  | k + 1, a, x, h1, h2 => by
    rw [ups]
    by_cases e : x = a
    · rw [e]; exact List.mem_cons_self
    · exact List.mem_cons_of_mem _ (ups_all k (a + 1) x (by omega) (by omega))
theorem mem_rng {m x : Int} : x ∈ rng m ↔ 0 ≤ x ∧ x < m := ⟨rng_mem, fun h => ups_all _ _ _ h.1 (by omega)⟩
theorem rng_strict (m : Int) : (rng m).Pairwise (· < ·) := ups_up _ _
theorem mem_oth {m x : Int} {l : List Int} : x ∈ oth m l ↔ x ∈ rng m ∧ x ∉ l := by
  rw [oth, List.mem_filter]
  simp
/-- two parts of one rising list with the same members -/
theorem sub_eq {l a b : List Int} (hl : l.Pairwise (· < ·)) (ha : a.Sublist l) (hb : b.Sublist l) (h : ∀ x, x ∈ a ↔ x ∈ b) : a = b := strict_eq (hl.sublist ha) (hl.sublist hb) h
theorem filter_sub {α : Type} {p q : α → Bool} : ∀ (l : List α), (∀ a ∈ l, p a = true → q a = true) → (l.filter p).Sublist (l.filter q)
  | [], _ => List.Sublist.refl _
  | a :: l, h => by
    have ih := filter_sub l fun b hb => h b (List.mem_cons_of_mem _ hb)
    rw [List.filter_cons, List.filter_cons]
    cases hp : p a with
    | true =>
      rw [if_pos rfl, if_pos (h a List.mem_cons_self hp)]
      exact ih.cons₂ a
    | false =>
      rw [if_neg (by decide)]
      split
      · exact ih.cons a
      · exact ih
/-- who strikes a claim -/
def stk (ss : List (Int × Int)) (c : Int) : List Int := (ss.filter fun p => decide (p.2 = c)).map (·.1)
theorem stk_mem {ss : List (Int × Int)} {c o : Int} : o ∈ stk ss c ↔ (o, c) ∈ ss := by
  rw [stk, List.mem_map]
  constructor
  · rintro ⟨⟨a, b⟩, h, rfl⟩
    obtain ⟨h1, h2⟩ := List.mem_filter.mp h
    have : b = c := of_decide_eq_true h2
    exact this ▸ h1
  · exact fun h => ⟨(o, c), List.mem_filter.mpr ⟨h, decide_eq_true rfl⟩, rfl⟩
theorem strk_mem {ss : List (Int × Int)} {l : List Int} {c : Int} : c ∈ strk ss l ↔ ∃ o, o ∈ l ∧ (o, c) ∈ ss := by
  rw [strk, sset_mem, List.mem_map]
  constructor
  · rintro ⟨⟨o, c'⟩, h, rfl⟩
    obtain ⟨h1, h2⟩ := List.mem_filter.mp h
    exact ⟨o, of_decide_eq_true h2, h1⟩
  · rintro ⟨o, ho, h⟩
    exact ⟨(o, c), List.mem_filter.mpr ⟨h, decide_eq_true ho⟩, rfl⟩
/-- the claims whom a lot defends -/
def dfn (m : Int) (ss : List (Int × Int)) (l : List Int) : List Int := (rng m).filter fun c => (stk ss c).all fun o => decide (o ∈ strk ss l)
theorem dfn_mem {m : Int} {ss : List (Int × Int)} {l : List Int} {c : Int} : c ∈ dfn m ss l ↔ c ∈ rng m ∧ ∀ o, (o, c) ∈ ss → ∃ a, a ∈ l ∧ (a, o) ∈ ss := by
  rw [dfn, List.mem_filter, List.all_eq_true]
  constructor
  · exact fun ⟨h1, h2⟩ => ⟨h1, fun o ho => strk_mem.mp (of_decide_eq_true (h2 o (stk_mem.mpr ho)))⟩
  · exact fun ⟨h1, h2⟩ => ⟨h1, fun o ho => decide_eq_true (strk_mem.mpr (h2 o (stk_mem.mp ho)))⟩
theorem dfn_sub (m : Int) (ss : List (Int × Int)) (l : List Int) : (dfn m ss l).Sublist (rng m) := List.filter_sublist
theorem dfn_mono (m : Int) (ss : List (Int × Int)) {l k : List Int} (h : ∀ x, x ∈ l → x ∈ k) : (dfn m ss l).Sublist (dfn m ss k) := filter_sub _ fun c _ hc => by
  rw [List.all_eq_true] at hc ⊢
  intro o ho
  obtain ⟨a, ha, e⟩ := strk_mem.mp (of_decide_eq_true (hc o ho))
  exact decide_eq_true (strk_mem.mpr ⟨a, h a ha, e⟩)
def itd (m : Int) (ss : List (Int × Int)) : Nat → List Int
  | 0 => []
  | k + 1 => dfn m ss (itd m ss k)
theorem itd_up (m : Int) (ss : List (Int × Int)) : ∀ k, (itd m ss k).Sublist (itd m ss (k + 1))
  | 0 => List.nil_sublist _
  | k + 1 => dfn_mono m ss fun x hx => (itd_up m ss k).subset hx
theorem itd_sub (m : Int) (ss : List (Int × Int)) : ∀ k, (itd m ss k).Sublist (rng m)
  | 0 => List.nil_sublist _
  | k + 1 => dfn_sub m ss _
theorem itd_le (m : Int) (ss : List (Int × Int)) {j : Nat} : ∀ {k : Nat}, j ≤ k → (itd m ss j).Sublist (itd m ss k)
  | 0, h => by rw [Nat.le_zero.mp h]; exact List.Sublist.refl _
  | k + 1, h => by
    rcases Nat.lt_or_ge k j with h1 | h1
    · rw [show j = k + 1 by omega]; exact List.Sublist.refl _
    · exact (itd_le m ss h1).trans (itd_up m ss k)
theorem itd_same {m : Int} {ss : List (Int × Int)} {k : Nat} (h : itd m ss (k + 1) = itd m ss k) : ∀ j, itd m ss (k + j) = itd m ss k
  | 0 => rfl
  | j + 1 => by
    show dfn m ss (itd m ss (k + j)) = _
    rw [itd_same h j]
    exact h
theorem itd_long (m : Int) (ss : List (Int × Int)) : ∀ k, (∀ j, j < k → itd m ss (j + 1) ≠ itd m ss j) → k ≤ (itd m ss k).length
  | 0, _ => Nat.zero_le _
  | k + 1, h => by
    have ih := itd_long m ss k fun j hj => h j (by omega)
    rcases Nat.lt_or_ge (itd m ss k).length (itd m ss (k + 1)).length with h1 | h1
    · omega
    · exact absurd (List.Sublist.eq_of_length_le (itd_up m ss k) h1).symm (h k (by omega))
theorem first_of {p : Nat → Prop} (n : Nat) (h : p n) : ∃ k, k ≤ n ∧ p k ∧ ∀ j, j < k → ¬ p j := by
  induction n using Nat.strongRecOn with
  | ind n ih =>
    by_cases e : ∃ j, j < n ∧ p j
    · obtain ⟨j, hj, pj⟩ := e
      obtain ⟨k, hk, r⟩ := ih j hj pj
      exact ⟨k, by omega, r⟩
    · exact ⟨n, Nat.le_refl _, h, fun j hj pj => e ⟨j, hj, pj⟩⟩
/-- where the going up ends -/
theorem itd_stop (m : Int) (ss : List (Int × Int)) : ∃ k, k ≤ m.toNat ∧ itd m ss (k + 1) = itd m ss k ∧ ∀ j, j < k → itd m ss (j + 1) ≠ itd m ss j := by
  have : ∃ n, itd m ss (n + 1) = itd m ss n := Classical.byContradiction fun h => by
    have := itd_long m ss (m.toNat + 1) fun j _ e => h ⟨j, e⟩
    have h2 := (itd_sub m ss (m.toNat + 1)).length_le
    rw [rng_len] at h2
    omega
  obtain ⟨n, hn⟩ := this
  obtain ⟨k, _, h1, h2⟩ := first_of (p := fun n => itd m ss (n + 1) = itd m ss n) n hn
  refine ⟨k, ?_, h1, h2⟩
  have h3 := itd_long m ss k h2
  have h4 := (itd_sub m ss k).length_le
  rw [rng_len] at h4
  omega
/-- the plain lot -/
def pla (m : Int) (ss : List (Int × Int)) : List Int := itd m ss m.toNat
theorem pla_is {m : Int} {ss : List (Int × Int)} {k : Nat} (hk : k ≤ m.toNat) (h : itd m ss (k + 1) = itd m ss k) : pla m ss = itd m ss k := by
  have := itd_same h (m.toNat - k)
  rw [show k + (m.toNat - k) = m.toNat by omega] at this
  exact this
theorem pla_fix (m : Int) (ss : List (Int × Int)) : dfn m ss (pla m ss) = pla m ss := by
  obtain ⟨k, hk, h, _⟩ := itd_stop m ss
  rw [pla_is hk h]
  exact h
theorem pla_sub (m : Int) (ss : List (Int × Int)) : (pla m ss).Sublist (rng m) := itd_sub m ss _
theorem itd_in {m : Int} {ss : List (Int × Int)} {l : List Int} (h : ∀ x, x ∈ dfn m ss l → x ∈ l) : ∀ k x, x ∈ itd m ss k → x ∈ l
  | 0, _, hx => absurd hx List.not_mem_nil
  | k + 1, x, hx => h x ((dfn_mono m ss (itd_in h k)).subset hx)
theorem pla_least {m : Int} {ss : List (Int × Int)} {l : List Int} (h : ∀ x, x ∈ dfn m ss l → x ∈ l) {x : Int} (hx : x ∈ pla m ss) : x ∈ l := itd_in h _ x hx
theorem itd_pla {m : Int} {ss : List (Int × Int)} (k : Nat) {x : Int} (h : x ∈ itd m ss k) : x ∈ pla m ss := itd_in (l := pla m ss) (fun y hy => by rw [pla_fix] at hy; exact hy) k x h
theorem itd_free {m : Int} {ss : List (Int × Int)} : ∀ k c o, c ∈ itd m ss k → o ∈ pla m ss → (o, c) ∉ ss
  | 0, _, _, h, _ => absurd h List.not_mem_nil
  | k + 1, c, o, h, ho => fun e => by
    obtain ⟨a, ha, e1⟩ := (dfn_mem.mp h).2 o e
    rw [← pla_fix] at ho
    obtain ⟨b, hb, e2⟩ := (dfn_mem.mp ho).2 a e1
    exact itd_free k a b ha hb e2
theorem pla_free {m : Int} {ss : List (Int × Int)} {c o : Int} (h : c ∈ pla m ss) (ho : o ∈ pla m ss) : (o, c) ∉ ss := itd_free _ c o h ho
/-! ### lots that hold back -/
def hb (m : Int) (ss : List (Int × Int)) (l : List Int) : Bool := l.all fun c => (stk ss c).any fun o => !decide (o ∈ strk ss (oth m l))
theorem hb_iff {m : Int} {ss : List (Int × Int)} {l : List Int} : hb m ss l = true ↔ ∀ c, c ∈ l → ∃ o, (o, c) ∈ ss ∧ ∀ a, a ∈ rng m → (a, o) ∈ ss → a ∈ l := by
  rw [hb, List.all_eq_true]
  constructor
  · intro h c hc
    obtain ⟨o, ho, h2⟩ := List.any_eq_true.mp (h c hc)
    refine ⟨o, stk_mem.mp ho, fun a ha e => Classical.byContradiction fun hn => ?_⟩
    have : o ∈ strk ss (oth m l) := strk_mem.mpr ⟨a, mem_oth.mpr ⟨ha, hn⟩, e⟩
    simp [this] at h2
  · intro h c hc
    obtain ⟨o, ho, h2⟩ := h c hc
    refine List.any_eq_true.mpr ⟨o, stk_mem.mpr ho, ?_⟩
    have : o ∉ strk ss (oth m l) := fun hs => by
      obtain ⟨a, ha, e⟩ := strk_mem.mp hs
      obtain ⟨h3, h4⟩ := mem_oth.mp ha
      exact h4 (h2 a h3 e)
    simp [this]
theorem hb_itd {m : Int} {ss : List (Int × Int)} {l : List Int} (h : hb m ss l = true) : ∀ k c, c ∈ l → c ∉ itd m ss k
  | 0, _, _ => List.not_mem_nil
  | k + 1, c, hc => fun hk => by
    obtain ⟨o, ho, h2⟩ := hb_iff.mp h c hc
    obtain ⟨a, ha, e⟩ := (dfn_mem.mp hk).2 o ho
    exact hb_itd h k a (h2 a ((itd_sub m ss k).subset ha) e) ha
theorem hb_pla {m : Int} {ss : List (Int × Int)} {l : List Int} (h : hb m ss l = true) {c : Int} (hc : c ∈ l) : c ∉ pla m ss := hb_itd h _ c hc
theorem hb_rest (m : Int) (ss : List (Int × Int)) : hb m ss (oth m (pla m ss)) = true := hb_iff.mpr fun c hc => by
  obtain ⟨h1, h2⟩ := mem_oth.mp hc
  refine Classical.byContradiction fun hn => h2 ?_
  rw [← pla_fix]
  refine dfn_mem.mpr ⟨h1, fun o ho => Classical.byContradiction fun h3 => hn ⟨o, ho, fun a ha e => mem_oth.mpr ⟨ha, fun hp => h3 ⟨a, hp, e⟩⟩⟩⟩
theorem hb_join {m : Int} {ss : List (Int × Int)} {l k j : List Int} (h1 : hb m ss l = true) (h2 : hb m ss k = true) (e : ∀ x, x ∈ j ↔ x ∈ l ∨ x ∈ k) : hb m ss j = true := hb_iff.mpr fun c hc => by
  rcases (e c).mp hc with hc | hc
  · obtain ⟨o, ho, h⟩ := hb_iff.mp h1 c hc
    exact ⟨o, ho, fun a ha he => (e a).mpr (.inl (h a ha he))⟩
  · obtain ⟨o, ho, h⟩ := hb_iff.mp h2 c hc
    exact ⟨o, ho, fun a ha he => (e a).mpr (.inr (h a ha he))⟩
/-! ### every part of a list is among its lots -/
theorem fold_keeps : ∀ (l : List Int) (f : List (List Int)) (a : List Int), a ∈ f → a ∈ l.foldl dbl f
  | [], _, _, h => h
  | c :: l, f, a, h => fold_keeps l _ a (List.mem_append_left _ h)
theorem mem_fold : ∀ (l : List Int) (f : List (List Int)) (a b : List Int), a ∈ f → b.Sublist l → a ++ b ∈ l.foldl dbl f
  | [], f, a, b, h, hb => by
    rw [List.sublist_nil.mp hb, List.append_nil]
    exact h
  | c :: l, f, a, b, h, hb => by
    rw [List.foldl_cons]
    cases hb with
    | cons _ h1 => exact mem_fold l _ a b (List.mem_append_left _ h) h1
    | cons_cons _ h1 =>
      rename_i b
      have := mem_fold l (dbl f c) (a ++ [c]) b (List.mem_append_right _ (List.mem_map.mpr ⟨a, h, rfl⟩)) h1
      rw [List.append_assoc] at this
      exact this
theorem mem_subs {l s : List Int} : s ∈ subs l ↔ s.Sublist l := ⟨subs_mem, fun h => mem_fold l [[]] [] s (by simp) h⟩
/-! ### the law's own plain lot -/
def lstk (m : Int) (ss : List (Int × Int)) (l : List Int) : List Int := (rng m).filter fun c => l.any fun o => decide ((o, c) ∈ ss)
theorem lstk_is {m : Int} {ss : List (Int × Int)} (g : Good m ss) (l : List Int) : lstk m ss l = strk ss l := strict_eq ((rng_strict m).sublist List.filter_sublist) (sset_strict _) fun c => by
  rw [lstk, List.mem_filter, List.any_eq_true, strk_mem]
  constructor
  · rintro ⟨_, o, ho, h⟩
    exact ⟨o, ho, of_decide_eq_true h⟩
  · rintro ⟨o, ho, h⟩
    exact ⟨mem_rng.mpr (g.win _ h).2, o, ho, decide_eq_true h⟩
/-- free of strikes, and defends just itself -/
def cpl (m : Int) (ss : List (Int × Int)) (l : List Int) : Bool := !((strk ss l).any fun o => decide (o ∈ l)) && decide (dfn m ss l = l)
theorem cpl_pla {m : Int} {ss : List (Int × Int)} : cpl m ss (pla m ss) = true := by
  have h : ((strk ss (pla m ss)).any fun o => decide (o ∈ pla m ss)) = false := by
    rw [List.any_eq_false]
    intro c hc hp
    obtain ⟨o, ho, e⟩ := strk_mem.mp hc
    exact pla_free (of_decide_eq_true hp) ho e
  rw [cpl, h, pla_fix]
  simp
theorem cpl_least {m : Int} {ss : List (Int × Int)} {l : List Int} (h : cpl m ss l = true) {x : Int} (hx : x ∈ pla m ss) : x ∈ l := by
  rw [cpl, Bool.and_eq_true] at h
  exact pla_least (fun y hy => by rwa [of_decide_eq_true h.2] at hy) hx
def isIn (a b : List Int) : Bool := a.all fun x => decide (x ∈ b)
theorem law_plain {m : Int} {ss : List (Int × Int)} {ls : List (List Int)} (h : ∀ l, l ∈ ls ↔ l.Sublist (rng m)) : ∃ r, (ls.filter (cpl m ss)).filter (fun l => (ls.filter (cpl m ss)).all fun o => isIn l o) = pla m ss :: r := by
  have mp : pla m ss ∈ ls.filter (cpl m ss) := List.mem_filter.mpr ⟨(h _).mpr (pla_sub m ss), cpl_pla⟩
  have mp2 : pla m ss ∈ (ls.filter (cpl m ss)).filter (fun l => (ls.filter (cpl m ss)).all fun o => isIn l o) := List.mem_filter.mpr ⟨mp, List.all_eq_true.mpr fun o ho => List.all_eq_true.mpr fun x hx => decide_eq_true (cpl_least (List.mem_filter.mp ho).2 hx)⟩
  cases e : (ls.filter (cpl m ss)).filter (fun l => (ls.filter (cpl m ss)).all fun o => isIn l o) with
  | nil => rw [e] at mp2; exact absurd mp2 List.not_mem_nil
  | cons a r =>
    have ha : a ∈ (ls.filter (cpl m ss)).filter (fun l => (ls.filter (cpl m ss)).all fun o => isIn l o) := by rw [e]; exact List.mem_cons_self
    obtain ⟨h1, h2⟩ := List.mem_filter.mp ha
    obtain ⟨h3, h4⟩ := List.mem_filter.mp h1
    have h5 := List.all_eq_true.mp h2 _ mp
    refine ⟨r, ?_⟩
    rw [sub_eq (rng_strict m) ((h a).mp h3) (pla_sub m ss) fun x => ⟨fun hx => of_decide_eq_true (List.all_eq_true.mp h5 x hx), fun hx => cpl_least h4 hx⟩]
end TM
end
section
set_option Elab.async false
set_option linter.all false
set_option autoImplicit false
set_option maxRecDepth 1000000
set_option maxHeartbeats 2000000
/-! TM: loops told by what is behind, while loops, rows of lists. -/
namespace TM
open PySem (PyData Str)
theorem foldl_snoc {α : Type} : ∀ (l b : List α), l.foldl (fun b a => b ++ [a]) b = b ++ l
  | [], b => (List.append_nil b).symm
  | a :: l, b => by rw [List.foldl_cons, foldl_snoc l, List.append_assoc]; rfl
/-- a for loop, told by the items behind -/
theorem fr_pre {α : Type} {C : CallF} {t : Tg} {it : It} {body : Sms} (src : Src) (enc : α → MV) (st : List α → Env × Store) (items : List α) (hi : evI C it (st []).1 (st []).2 = some (items.map enc, src, (st []).2)) (hs : ∀ pre, pre <+: items → stab (st pre).2 src = true)
    (h : ∀ pre a post, items = pre ++ a :: post → ((asg C t (enc a) (st pre).1 (st pre).2).bind fun q => evSs C body q.1 q.2) = some (.nx (st (pre ++ [a])).1 (st (pre ++ [a])).2)) :
    evS C (.fr t it body) (st []).1 (st []).2 = some (.nx (st items).1 (st items).2) := by
  have := fr_fold (C := C) (t := t) (it := it) (body := body) src enc st (fun b a => b ++ [a]) items [] hi (fun pre hp => by
    rw [foldl_snoc]
    exact hs pre hp) (fun pre a post e => by
    rw [foldl_snoc]
    exact h pre a post e)
  rw [foldl_snoc] at this
  exact this
/-- a while loop, by its states -/
theorem wh_iter {C : CallF} {t : Ts} {b : Sms} (st : Nat → Env × Store) : ∀ (k n : Nat), (∀ j, j < k → evT C t (st j).1 (st j).2 = some (true, (st j).2) ∧ evSs C b (st j).1 (st j).2 = some (.nx (st (j + 1)).1 (st (j + 1)).2)) → evT C t (st k).1 (st k).2 = some (false, (st k).2) → k < n → evS C (.whl n t b) (st 0).1 (st 0).2 = some (.nx (st k).1 (st k).2)
  | 0, 0, _, _, h => by omega
  | k + 1, 0, _, _, h => by omega
  | 0, n + 1, _, he, _ => by
    show ((evT C t (st 0).1 (st 0).2).bind _) = _
    rw [he]
    rfl
  | k + 1, n + 1, hs, he, hk => by
    have h0 := hs 0 (by omega)
    have ih := wh_iter (C := C) (t := t) (b := b) (fun j => st (j + 1)) k n (fun j hj => hs (j + 1) (by omega)) he (by omega)
    show ((evT C t (st 0).1 (st 0).2).bind _) = _
    rw [h0.1]
    show ((evSs C b (st 0).1 (st 0).2).bind _) = _
    rw [h0.2]
    exact ih
theorem ups_getI : ∀ (k : Nat) (a : Int) (i : Nat), i < k → (ups a k)[i]? = some (a + i)
  | 0, _, _, h => by omega
  | k + 1, a, 0, _ => by rw [ups, List.getElem?_cons_zero]; simp
  | k + 1, a, i + 1, h => by
    rw [ups, List.getElem?_cons_succ, ups_getI k (a + 1) i (by omega)]
    congr 1
    omega
theorem rng_get {m c : Int} (h : c ∈ rng m) : (rng m)[c.toNat]? = some c := by
  have := rng_mem h
  rw [rng, ups_getI _ _ _ (by omega)]
  congr 1
  omega
theorem nat_of {m c : Int} (h : c ∈ rng m) : ((c.toNat : Nat) : Int) = c := by
  have := rng_mem h
  omega
section
variable {m c : Int} {S : Store} (f : Int → PyData)
theorem ix_rngL (h : c ∈ rng m) : ixM (.d (.list ((rng m).map f))) (.d (.int c)) S = some (.d (f c)) := by
  have := ix_atL S (xs := (rng m).map f) (k := c.toNat) (x := f c) (by rw [List.getElem?_map, rng_get h]; rfl)
  rw [nat_of h] at this
  exact this
theorem ix_rngT (h : c ∈ rng m) : ixM (.d (.tuple ((rng m).map f))) (.d (.int c)) S = some (.d (f c)) := by
  have := ix_at S (xs := (rng m).map f) (k := c.toNat) (x := f c) (by rw [List.getElem?_map, rng_get h]; rfl)
  rw [nat_of h] at this
  exact this
end
theorem set_rng {β : Type} {m s : Int} {F G : Int → β} (h : s ∈ rng m) (he : ∀ c, c ∈ rng m → c ≠ s → G c = F c) : ((rng m).map F).set s.toNat (G s) = (rng m).map G := by
  apply List.ext_getElem?
  intro i
  rw [List.getElem?_set, List.getElem?_map, List.getElem?_map, List.length_map, rng_len]
  by_cases hi : s.toNat = i
  · subst hi
    have := rng_mem h
    rw [if_pos rfl, if_pos (by omega), rng_get h]
    rfl
  · rw [if_neg hi]
    by_cases hl : i < m.toNat
    · have hc : (i : Int) ∈ rng m := mem_rng.mpr (by omega)
      have h1 := rng_get hc
      rw [Int.toNat_natCast] at h1
      rw [h1]
      show some (F i) = some (G i)
      rw [he _ hc (by omega)]
    · rw [List.getElem?_eq_none (by rw [rng_len]; omega)]
      rfl
/-- a row of new lists -/
theorem lcGo_new {f : MV → Store → Option (Option MV × Store)} (h : ∀ v S, f v S = some (some (.ref S.length), S ++ [[]])) : ∀ (vs : List MV) (S : Store), lcGo [] f vs S = some ((List.range' S.length vs.length).map MV.ref, S ++ List.replicate vs.length [])
  | [], S => by simp [lcGo, stab]
  | v :: vs, S => by
    have ih := lcGo_new h vs (S ++ [[]])
    simp only [lcGo, stab, if_true, h, Option.bind_some, ih, List.length_append, List.length_cons, List.length_nil, List.range'_succ, List.map_cons, Option.toList, List.append_assoc, List.cons_append, List.nil_append, List.replicate_succ]
theorem lc_cells {C : CallF} {own : List Nat} {i : Nat} {it : It} {ρ : Env} {vs : List MV} (hi : evI C it ρ [] = some (vs, [], [])) (hl : vs.length ≤ LINE) : evE C (.lc true own (.nm i) it .tt (.lst true .nil)) ρ [] = some (.ref vs.length, List.replicate vs.length [] ++ [(List.range' 0 vs.length).map MV.ref]) := by
  rw [eE_lc, hi]
  simp only [Option.bind_some]
  rw [lcGo_new (fun v S => by
    simp only [lcT, eG_nm, Option.bind_some, eT_tt, if_true, eE_lst, eEs_nil, mkL, List.length_nil, Nat.zero_le])]
  simp only [Option.bind_some, mkL, List.length_map, List.length_range', hl, if_true, List.nil_append, List.length_replicate, List.length_nil]
theorem back_refs {S : Store} (g : Nat → List PyData) : ∀ ls : List Nat, (∀ l ∈ ls, S[l]? = some ((g l).map .d)) → backD.backAll 0 S (ls.map .ref) = some (ls.map fun l => .list (g l))
  | [], _ => rfl
  | l :: ls, h => by
    rw [List.map_cons, backD.backAll, if_neg (by omega), h l List.mem_cons_self, back_refs g ls fun k hk => h k (List.mem_cons_of_mem _ hk)]
    simp only [pures_of, Option.map_some, List.map_cons]
/-! ### comparing lots -/
theorem eqv_ints : ∀ a b : List Int, PyData.eqvAll (a.map .int) (b.map .int) = decide (a = b)
  | [], [] => rfl
  | [], _ :: _ => rfl
  | _ :: _, [] => rfl
  | x :: a, y :: b => by
    rw [List.map_cons, List.map_cons, PyData.eqvAll, eqv_ints a b, eqv_int]
    by_cases h : x = y
    · by_cases h2 : a = b
      · simp [h, h2]
      · simp [h, h2]
    · simp [h]
theorem eqD_tI (a b : List Int) : eqD (tI a) (tI b) = some (decide (a = b)) := by
  unfold eqD
  rw [if_pos (by rw [plain_tI, plain_tI, depth_tI]; decide)]
  show some (PyData.eqvAll _ _) = _
  rw [eqv_ints]
theorem depth_lI (l : List Int) : (lI l).depth = 1 := depth_tI l
theorem plain_lI (l : List Int) : (lI l).plain = true := plain_tI l
theorem eqD_lI (a b : List Int) : eqD (lI a) (lI b) = some (decide (a = b)) := by
  unfold eqD
  rw [if_pos (by rw [plain_lI, plain_lI, depth_lI]; decide)]
  show some (PyData.eqvAll _ _) = _
  rw [eqv_ints]
section
variable (S : Store) (a b : List Int)
theorem eq_tI : cmpM .eq (.d (tI a)) (.d (tI b)) S = some (decide (a = b)) := eqD_tI a b
theorem ne_tI : cmpM .ne (.d (tI a)) (.d (tI b)) S = some (!decide (a = b)) := by
  show (eqD (tI a) (tI b)).map _ = _
  rw [eqD_tI]
  rfl
theorem eq_lI : cmpM .eq (.d (lI a)) (.d (lI b)) S = some (decide (a = b)) := eqD_lI a b
theorem ne_lI : cmpM .ne (.d (lI a)) (.d (lI b)) S = some (!decide (a = b)) := by
  show (eqD (lI a) (lI b)).map _ = _
  rw [eqD_lI]
  rfl
theorem ne_tI_none : cmpM .ne (.d (tI a)) (.d .none) S = some true := by
  show (eqD (tI a) .none).map _ = _
  unfold eqD
  rw [if_pos (by rw [plain_tI, depth_tI]; decide)]
  rfl
theorem is_true (k : Bool) : cmpM .isS (.d (.bool k)) (.d (.bool true)) S = some k := by
  cases k <;> rfl
theorem isn_true (k : Bool) : cmpM .isN (.d (.bool k)) (.d (.bool true)) S = some !k := by
  cases k <;> rfl
end
/-! ### lots among lots -/
theorem eqv_tI (a b : List Int) : PyData.eqv (tI a) (tI b) = decide (a = b) := eqv_ints a b
theorem any_tI (ls : List (List Int)) (l : List Int) : ((ls.map tI).any fun z => PyData.eqv z (tI l)) = decide (l ∈ ls) := by
  induction ls with
  | nil => simp
  | cons x ls ih =>
    rw [List.map_cons, List.any_cons, ih, eqv_tI]
    by_cases h : x = l
    · subst h; simp
    · have : ¬ l = x := fun z => h z.symm
      simp [h, this]
theorem in_lots {S : Store} {x : MV} (ls : List (List Int)) (l : List Int) (h : rd S x = some (.list (ls.map tI))) : cmpM .inS (.d (tI l)) x S = some (decide (l ∈ ls)) ∧ cmpM .niS (.d (tI l)) x S = some (!decide (l ∈ ls)) := by
  have e : inD S (.d (tI l)) x = some (decide (l ∈ ls)) := by
    cases x with
    | d x =>
      cases h
      simp only [inD, rd, plain_lots, plain_tI, depth_tI, any_tI]
      rfl
    | ref k =>
      simp only [inD, h]
      simp only [rd, plain_lots, plain_tI, depth_tI, any_tI]
      rfl
  refine ⟨e, ?_⟩
  show (inD _ _ _).map _ = _
  rw [e]
  rfl
end TM
end
section
set_option Elab.async false
set_option linter.all false
set_option autoImplicit false
set_option maxRecDepth 1000000
set_option maxHeartbeats 2000000
/-! TM: comprehensions that draw. -/
namespace TM
open PySem (PyData Str)
theorem lcGo_ups {f : MV → Store → Option (Option MV × Store)} (Iv : Int → List PyData → Store → Prop) : ∀ (k : Nat) (a : Int) (acc : List PyData) (S : Store), Iv a acc S → (∀ c acc S, a ≤ c → c < a + k → Iv c acc S → ∃ o S', f (.d (.int c)) S = some (Option.map MV.d o, S') ∧ Iv (c + 1) (acc ++ o.toList) S') →
    ∃ out S', lcGo [] f ((ups a k).map fun n => .d (.int n)) S = some (out.map .d, S') ∧ Iv (a + k) (acc ++ out) S'
  | 0, a, acc, S, i, _ => ⟨[], S, rfl, by simpa using i⟩
  | k + 1, a, acc, S, i, h => by
    obtain ⟨o, S1, e1, i1⟩ := h a acc S (Int.le_refl _) (by omega) i
    obtain ⟨out, S2, e2, i2⟩ := lcGo_ups Iv k (a + 1) _ S1 i1 fun c acc S h1 h2 => h c acc S (by omega) (by omega)
    refine ⟨o.toList ++ out, S2, ?_, ?_⟩
    · rw [ups, List.map_cons]
      show ((f (.d (.int a)) S).bind _) = _
      rw [e1, Option.bind_some]
      show ((lcGo [] f _ S1).bind _) = _
      rw [e2]
      cases o <;> simp
    · rw [show a + ((k + 1 : Nat) : Int) = a + 1 + (k : Int) by omega, ← List.append_assoc]
      exact i2
/-- a comprehension over a range that draws and makes data -/
theorem lc_ups {C : CallF} {ρ : Env} {S S0 : Store} {own : List Nat} {t : Tg} {it : It} {q : Ts} {e : Ex} {k : Nat} (Iv : Int → List PyData → Store → Prop) (hi : evI C it ρ S = some ((ups 0 k).map (fun n => .d (.int n)), [], S0)) (h0 : Iv 0 [] S0)
    (h : ∀ (c : Int) acc S, 0 ≤ c → c < k → Iv c acc S → ∃ o S', lcT C own t q e ρ (.d (.int c)) S = some (Option.map MV.d o, S') ∧ Iv (c + 1) (acc ++ o.toList) S') (hl : ∀ acc S, Iv k acc S → acc.length ≤ LINE) :
    ∃ out S', evE C (.lc false own t it q e) ρ S = some (.d (.list out), S') ∧ Iv k out S' := by
  obtain ⟨out, S', e1, i⟩ := lcGo_ups (f := lcT C own t q e ρ) Iv k 0 [] S0 h0 (fun c acc S h1 h2 => h c acc S h1 (by omega))
  rw [Int.zero_add, List.nil_append] at i
  refine ⟨out, S', ?_, i⟩
  rw [eE_lc, hi]
  simp only [Option.bind_some]
  rw [e1]
  exact mkL_data (hl _ _ i)
/-- a call that changes its first argument and reads a cell behind -/
theorem call_ioR {C : CallF} {S : Store} {f l k : Nat} {c c' xs : List PyData} {x : PyData} (hS : S[l]? = some (c.map .d)) (hk : S[k]? = some (xs.map .d)) (hne : k ≠ l) (hC : C f [c] [.list xs] = some (x, [c'])) (h1 : noL x = true) (h2 : noLs c' = true) : callM C false f 1 [.ref l, .ref k] S = some (.d x, S.set l (c'.map .d)) := by
  unfold callM
  have e1 : ioCells S ([MV.ref l, MV.ref k].take 1) [] = some ([l], [c]) := by
    show ioCells S [.ref l] [] = _
    unfold ioCells
    simp only [List.contains_nil, Bool.false_eq_true, if_false, hS, ioCells, pures_of, Option.map_some]
  rw [e1]
  have e2 : rdArgs S [l] ([MV.ref l, MV.ref k].drop 1) = some [.list xs] := by
    show rdArgs S [l] [.ref k] = _
    unfold rdArgs
    have : ([l] : List Nat).contains k = false := by simp [hne]
    simp only [this, Bool.false_eq_true, if_false, List.isEmpty_cons, rd1, hk, pures_of, Option.map_some, rdArgs]
  simp only [e2, hC, Bool.false_and, Bool.false_eq_true, if_false, h1, h2, List.all_cons, List.all_nil, Bool.and_self, Bool.or_true, if_true, setCells]
theorem Pot.noL {c : List PyData} (h : Pot c) : noLs c = true := by
  obtain ⟨p, q, rfl, _⟩ := h
  rfl
/-- a call for a new list whose answer is no list -/
theorem call_newN {C : CallF} {S : Store} {f : Nat} {ds : List PyData} {x : PyData} (hC : C f [] ds = some (x, [])) (h1 : isLst x = false) : callM C true f 0 (ds.map .d) S = some (.d x, S) := by
  unfold callM
  simp only [List.take_zero, ioCells, List.drop_zero, rdArgs_d, hC, h1, Bool.and_false, Bool.false_eq_true, if_false, allD_d, Bool.true_or, if_true, setCells]
/-- a call that reads a cell alone -/
theorem call_rd {C : CallF} {S : Store} {f k : Nat} {ds : List PyData} {xs : List PyData} {x : PyData} (hk : S[k]? = some (xs.map .d)) (hC : C f [] (.list xs :: ds) = some (x, [])) (h1 : noL x = true) : callM C false f 0 (.ref k :: ds.map .d) S = some (.d x, S) := by
  unfold callM
  simp only [List.take_zero, ioCells, List.drop_zero]
  have e2 : rdArgs S [] (MV.ref k :: ds.map .d) = some (.list xs :: ds) := by
    unfold rdArgs
    rw [if_neg (by simp)]
    simp only [List.isEmpty_nil, if_true, rd_cell hk, rdArgs_d]
  rw [e2]
  simp only [hC, Bool.false_and, Bool.false_eq_true, if_false, h1, List.all_nil, Bool.and_self, Bool.or_true, if_true, setCells]
end TM
end
section
set_option Elab.async false
set_option linter.all false
set_option autoImplicit false
set_option maxRecDepth 1000000
set_option maxHeartbeats 2000000
/-! TM: loops that may end early, two reprs of data. -/
namespace TM
open PySem (PyData Str)
/-- a for loop over things that changes no list and hands back v at the first thing that is not right -/
theorem for_all {α : Type} {src : Src} {f : MV → Env → Store → Option Fl} {S : Store} (enc : α → MV) (q : α → Bool) (v : MV) (hs : stab S src = true) : ∀ (items : List α) (st : List α → Env) (pre : List α), (∀ p a post, pre ++ items = p ++ a :: post → pre.length ≤ p.length → f (enc a) (st p) S = if q a then some (.nx (st (p ++ [a])) S) else some (.rt v S)) →
    forGo src f (items.map enc) (st pre) S = if items.all q then some (.nx (st (pre ++ items)) S) else some (.rt v S)
  | [], st, pre, _ => by simp only [List.map_nil, forGo, hs, if_true, List.append_nil, List.all_nil]
  | a :: items, st, pre, h => by
    have h1 := h pre a items rfl (Nat.le_refl _)
    simp only [List.map_cons, forGo, hs, if_true, h1]
    cases hq : q a with
    | false => simp only [Bool.false_eq_true, if_false, Option.bind_some, List.all_cons, hq, Bool.false_and]
    | true =>
      simp only [if_true, Option.bind_some]
      have ih := for_all enc q v hs items st (pre ++ [a]) (fun p b post e hl => h p b post (by rw [← e, List.append_assoc]; rfl) (by rw [List.length_append] at hl; omega))
      rw [ih]
      simp only [List.all_cons, hq, Bool.true_and, List.append_assoc, List.cons_append, List.nil_append]
theorem fr_all {α : Type} {C : CallF} {t : Tg} {it : It} {body : Sms} {S : Store} (src : Src) (enc : α → MV) (q : α → Bool) (v : MV) (st : List α → Env) (items : List α) (hi : evI C it (st []) S = some (items.map enc, src, S)) (hs : stab S src = true)
    (h : ∀ pre a post, items = pre ++ a :: post → ((asg C t (enc a) (st pre) S).bind fun p => evSs C body p.1 p.2) = if q a then some (.nx (st (pre ++ [a])) S) else some (.rt v S)) :
    evS C (.fr t it body) (st []) S = if items.all q then some (.nx (st items) S) else some (.rt v S) := by
  rw [eS_fr, hi]
  exact for_all enc q v hs items st [] fun p a post e _ => h p a post e
theorem Rep.bool (b : Bool) : Rep 67 0 (.bool b) := ⟨rfl, rfl, Nat.le_refl _, by rw [TM.wt]; omega⟩
theorem Rep.none : Rep 67 0 .none := ⟨rfl, rfl, Nat.le_refl _, by rw [TM.wt]; omega⟩
/-- repr([x, x]) != repr([x, x]), of data -/
theorem two_data {S : Store} {x : PyData} {w d : Nat} (h : Rep w d x) (h1 : (w + 2) * 2 + 3 ≤ 16777216) (h2 : d + 1 ≤ 64) : biRepr [.d (.list [x, x])] S = some (.d (.str (PyData.list [x, x]).shown), S) := rep_repr (Rep.two h h) rfl h1 h2
theorem mk2 {S : Store} (x y : PyData) : mkL false [.d x, .d y] S = some (.d (.list [x, y]), S) := mkL_data (xs := [x, y]) (by rw [lineI]; simp only [List.length_cons, List.length_nil]; omega)
theorem ne_str_self {S : Store} (a : Str) : cmpM .ne (.d (.str a)) (.d (.str a)) S = some false := by rw [ne_str, beq_self_eq_true]; rfl
theorem eq_str_self {S : Store} (a : Str) : cmpM .eq (.d (.str a)) (.d (.str a)) S = some true := by rw [eq_str, beq_self_eq_true]
/-- a rising list of claims is a part of all claims -/
theorem sub_of {m : Int} {xs : List Int} (h : xs.Pairwise (· < ·)) (hm : ∀ x, x ∈ xs → x ∈ rng m) : xs.Sublist (rng m) := by
  have : xs = (rng m).filter fun x => decide (x ∈ xs) := strict_eq h ((rng_strict m).sublist List.filter_sublist) fun x => by
    rw [List.mem_filter]
    constructor
    · exact fun hx => ⟨hm x hx, decide_eq_true hx⟩
    · exact fun hx => of_decide_eq_true hx.2
  rw [this]
  exact List.filter_sublist
/-- a comprehension over a range whose turns are all True, whatever they leave behind -/
theorem lc_trues {C : CallF} {ρ : Env} {S : Store} {own : List Nat} {t : Tg} {it : It} {e : Ex} {k : Nat} (hk : k ≤ LINE) (hi : ∀ S, evI C it ρ S = some ((ups 0 k).map (fun n => .d (.int n)), [], S))
    (h : ∀ (c : Nat) S, c < k → ∃ S', lcT C own t .tt e ρ (.d (.int (c : Int))) S = some (some (.d (.bool true)), S')) :
    ∃ S', evE C (.lc false own t it .tt e) ρ S = some (.d (.list ((List.replicate k true).map .bool)), S') := by
  obtain ⟨out, S', e1, i⟩ := lc_ups (C := C) (ρ := ρ) (S := S) (own := own) (t := t) (it := it) (q := .tt) (e := e) (k := k) (fun c acc _ => acc = (List.replicate c.toNat true).map .bool) (hi S) rfl (fun c acc S c0 c1 i => by
    obtain ⟨j, rfl⟩ := Int.eq_ofNat_of_zero_le c0
    obtain ⟨S', e⟩ := h j S (by omega)
    refine ⟨some (.bool true), S', e, ?_⟩
    rw [i, Int.toNat_natCast, show ((j : Int) + 1).toNat = j + 1 by omega, List.replicate_succ', List.map_append]
    rfl) (fun acc S i => by
    rw [i, List.length_map, List.length_replicate, Int.toNat_natCast]
    exact hk)
  rw [Int.toNat_natCast] at i
  exact ⟨S', by rw [e1, i]⟩
theorem all_trues {S : Store} (k : Nat) : biAll [.d (.list ((List.replicate k true).map .bool))] S = some (.d (.bool true), S) := by
  rw [all_of]
  simp
end TM
end
section
set_option Elab.async false
set_option linter.all false
set_option autoImplicit false
set_option maxRecDepth 1000000
set_option maxHeartbeats 2000000
/-! TM: lots that show why a claim stands: plain theory; loops that find. -/
namespace TM
open PySem (PyData Str)
theorem few_of {α : Type} [DecidableEq α] : ∀ {l k : List α}, l.Nodup → (∀ x, x ∈ l → x ∈ k) → l.length ≤ k.length
  | [], _, _, _ => Nat.zero_le _
  | a :: l, k, hn, h => by
    obtain ⟨h1, h2⟩ := List.nodup_cons.mp hn
    have ha := h a List.mem_cons_self
    have ih := few_of (l := l) (k := k.erase a) h2 fun x hx => by
      have : x ≠ a := fun e => h1 (e ▸ hx)
      exact (List.mem_erase_of_ne this).mpr (h x (List.mem_cons_of_mem _ hx))
    have hl := List.length_erase_of_mem ha
    have hp := List.length_pos_of_mem ha
    rw [List.length_cons]
    omega
theorem all_of_few {α : Type} [DecidableEq α] {l k : List α} (hn : l.Nodup) (h : ∀ x, x ∈ l → x ∈ k) (hl : k.length ≤ l.length) {x : α} (hx : x ∈ k) : x ∈ l := Classical.byContradiction fun hc => by
  have := few_of (l := x :: l) (k := k) (List.nodup_cons.mpr ⟨hc, hn⟩) fun y hy => by
    rcases List.mem_cons.mp hy with rfl | hy
    · exact hx
    · exact h y hy
  rw [List.length_cons] at this
  omega
section
variable (m : Int) (ss : List (Int × Int)) (lot : List Int)
/-- the claims of the lot that come next -/
def lateOf (h : List Int) : List Int := lot.filter fun o => !decide (o ∈ h) && decide (o ∈ dfn m ss h)
def shw : Nat → List Int
  | 0 => []
  | k + 1 => shw k ++ lateOf m ss lot (shw k)
def shows : Bool := decide ((shw m ss lot lot.length).length = lot.length)
variable {m ss lot}
theorem shw_in : ∀ k x, x ∈ shw m ss lot k → x ∈ lot
  | 0, _, h => absurd h List.not_mem_nil
  | k + 1, x, h => by
    rcases List.mem_append.mp h with h | h
    · exact shw_in k x h
    · exact (List.mem_filter.mp h).1
theorem shw_nodup (hn : lot.Nodup) : ∀ k, (shw m ss lot k).Nodup
  | 0 => List.nodup_nil
  | k + 1 => by
    rw [shw, List.nodup_append]
    refine ⟨shw_nodup hn k, hn.sublist List.filter_sublist, fun a ha b hb e => ?_⟩
    subst e
    have := (List.mem_filter.mp hb).2
    simp [ha] at this
theorem shw_len (hn : lot.Nodup) (k : Nat) : (shw m ss lot k).length ≤ lot.length := few_of (shw_nodup hn k) (shw_in k)
theorem shw_same {k : Nat} (h : lateOf m ss lot (shw m ss lot k) = []) : ∀ j, shw m ss lot (k + j) = shw m ss lot k
  | 0 => rfl
  | j + 1 => by
    show shw m ss lot (k + j) ++ lateOf m ss lot (shw m ss lot (k + j)) = _
    rw [shw_same h j, h, List.append_nil]
theorem shw_long : ∀ k, (∀ j, j < k → lateOf m ss lot (shw m ss lot j) ≠ []) → k ≤ (shw m ss lot k).length
  | 0, _ => Nat.zero_le _
  | k + 1, h => by
    have ih := shw_long k fun j hj => h j (by omega)
    have h1 := List.length_pos_iff.mpr (h k (by omega))
    rw [shw, List.length_append]
    omega
/-- where it ends -/
theorem shw_stop (hn : lot.Nodup) : ∃ k, k ≤ lot.length ∧ lateOf m ss lot (shw m ss lot k) = [] ∧ ∀ j, j < k → lateOf m ss lot (shw m ss lot j) ≠ [] := by
  have : ∃ n, lateOf m ss lot (shw m ss lot n) = [] := Classical.byContradiction fun h => by
    have h1 := shw_long (m := m) (ss := ss) (lot := lot) (lot.length + 1) fun j _ e => h ⟨j, e⟩
    have h2 := shw_len (m := m) (ss := ss) hn (lot.length + 1)
    omega
  obtain ⟨n, e⟩ := this
  obtain ⟨k, _, h1, h2⟩ := first_of (p := fun n => lateOf m ss lot (shw m ss lot n) = []) n e
  refine ⟨k, ?_, h1, h2⟩
  have h3 := shw_long k h2
  have h4 := shw_len (m := m) (ss := ss) hn k
  omega
theorem shw_end {k : Nat} (hk : k ≤ lot.length) (h : lateOf m ss lot (shw m ss lot k) = []) : shw m ss lot lot.length = shw m ss lot k := by
  have := shw_same h (lot.length - k)
  rw [show k + (lot.length - k) = lot.length by omega] at this
  exact this
theorem shw_pla : ∀ k x, x ∈ shw m ss lot k → x ∈ pla m ss
  | 0, _, h => absurd h List.not_mem_nil
  | k + 1, x, h => by
    rcases List.mem_append.mp h with h | h
    · exact shw_pla k x h
    · have h1 := (List.mem_filter.mp h).2
      simp only [Bool.and_eq_true, decide_eq_true_eq] at h1
      rw [← pla_fix]
      exact (dfn_mono m ss (shw_pla k)).subset h1.2
theorem shows_all (hn : lot.Nodup) (h : shows m ss lot = true) {x : Int} (hx : x ∈ lot) : x ∈ shw m ss lot lot.length := all_of_few (shw_nodup hn _) (shw_in _) (by rw [of_decide_eq_true h]; exact Nat.le_refl _) hx
theorem shows_pla (hn : lot.Nodup) (h : shows m ss lot = true) {x : Int} (hx : x ∈ lot) : x ∈ pla m ss := shw_pla _ x (shows_all hn h hx)
end
/-! ### sorting ints -/
theorem encI : Enc PyData.int := ⟨fun a b h => by simpa using h, fun a b => rfl⟩
theorem sortable_int (i : Int) : sortable (.int i) = true := rfl
theorem dle_int (a b : Int) : dle (.int a) (.int b) = decide (a ≤ b) := by
  rw [dle_lt, PySem.W.dataLt_int, ← decide_not]
  congr 1
  exact propext Int.not_lt
theorem strict_nodup {l : List Int} (h : l.Pairwise (· < ·)) : l.Nodup := h.imp fun {a b} hab e => by omega
theorem sortI_is {l lot : List Int} (hn : l.Nodup) (hs : lot.Pairwise (· < ·)) (h : ∀ x, x ∈ l → x ∈ lot) : (sortBy .int l = lot) ↔ l.length = lot.length := by
  constructor
  · intro e
    rw [← e, sortBy_length]
  · intro e
    have s1 := sortBy_sorted PyData.int l
    have n1 : (sortBy PyData.int l).Nodup := (sortBy_perm .int l).nodup_iff.mpr hn
    have st : (sortBy PyData.int l).Pairwise (· < ·) := (s1.and n1).imp fun {a b} ⟨p, q⟩ => by
      rw [dle_int, decide_eq_true_eq] at p
      omega
    refine strict_eq st hs fun x => ?_
    rw [sortBy_mem]
    exact ⟨h x, fun hx => all_of_few hn h (by omega) hx⟩
/-! ### the first lot that shows a claim -/
def sfirst (m : Int) (ss : List (Int × Int)) (c : Int) : Option (List Int) := (sortBy szT (subs (rng m))).find? fun l => decide (c ∈ l) && shows m ss l
theorem lots_pla (m : Int) (ss : List (Int × Int)) : sortBy szT (subs (pla m ss)) = (sortBy szT (subs (rng m))).filter fun s => s.all fun x => !decide (x ∈ oth m (pla m ss)) := by
  rw [sortBy_filter encSz, subs_filter]
  congr 2
  refine sub_eq (rng_strict m) (pla_sub m ss) List.filter_sublist fun x => ?_
  rw [List.mem_filter]
  constructor
  · intro hx
    have : x ∉ oth m (pla m ss) := fun h => (mem_oth.mp h).2 hx
    exact ⟨(pla_sub m ss).subset hx, by simp [this]⟩
  · rintro ⟨h1, h2⟩
    refine Classical.byContradiction fun hn => ?_
    have : x ∈ oth m (pla m ss) := mem_oth.mpr ⟨h1, hn⟩
    simp [this] at h2
theorem find_filter {α : Type} {p q : α → Bool} : ∀ (l : List α), (∀ a, a ∈ l → q a = true → p a = true) → (l.filter p).find? q = l.find? q
  | [], _ => rfl
  | a :: l, h => by
    have ih := find_filter l fun b hb => h b (List.mem_cons_of_mem _ hb)
    rw [List.filter_cons, List.find?_cons]
    cases hq : q a with
    | true =>
      rw [if_pos (h a List.mem_cons_self hq), List.find?_cons, hq]
    | false =>
      split
      · rw [List.find?_cons, hq, ih]
      · exact ih
theorem rng_nodup (m : Int) : (rng m).Nodup := strict_nodup (rng_strict m)
theorem sfirst_pla (m : Int) (ss : List (Int × Int)) (c : Int) : (sortBy szT (subs (pla m ss))).find? (fun l => decide (c ∈ l) && shows m ss l) = sfirst m ss c := by
  rw [lots_pla, sfirst, find_filter]
  intro l hl h
  rw [Bool.and_eq_true] at h
  have hs := mem_subs.mp ((sortBy_mem szT).mp hl)
  rw [List.all_eq_true]
  intro x hx
  have : x ∉ oth m (pla m ss) := fun ho => (mem_oth.mp ho).2 (shows_pla ((rng_nodup m).sublist hs) h.2 hx)
  simp [this]
theorem sfirst_none {m : Int} {ss : List (Int × Int)} {c : Int} (h : c ∉ pla m ss) : sfirst m ss c = none := by
  rw [← sfirst_pla, List.find?_eq_none]
  intro l hl hc
  rw [Bool.and_eq_true] at hc
  have hs := mem_subs.mp ((sortBy_mem szT).mp hl)
  exact h (hs.subset (of_decide_eq_true hc.1))
theorem sfirst_sub {m : Int} {ss : List (Int × Int)} {c : Int} {l : List Int} (h : sfirst m ss c = some l) : l.Sublist (rng m) := mem_subs.mp ((sortBy_mem szT).mp (List.mem_of_find?_eq_some h))
/-! ### loops that find -/
theorem for_find {α : Type} {src : Src} {f : MV → Env → Store → Option Fl} {S : Store} (enc : α → MV) (q : α → Bool) (hs : stab S src = true) : ∀ (items : List α) (st : List α → Env) (pre : List α), (∀ p a post, pre ++ items = p ++ a :: post → pre.length ≤ p.length → f (enc a) (st p) S = if q a then some (.rt (enc a) S) else some (.nx (st (p ++ [a])) S)) →
    forGo src f (items.map enc) (st pre) S = match items.find? q with
      | some a => some (.rt (enc a) S)
      | none => some (.nx (st (pre ++ items)) S)
  | [], st, pre, _ => by simp only [List.map_nil, forGo, hs, if_true, List.append_nil, List.find?_nil]
  | a :: items, st, pre, h => by
    have h1 := h pre a items rfl (Nat.le_refl _)
    simp only [List.map_cons, forGo, hs, if_true, h1, List.find?_cons]
    cases hq : q a with
    | true => simp only [if_true, Option.bind_some]
    | false =>
      simp only [Bool.false_eq_true, if_false, Option.bind_some]
      have ih := for_find enc q hs items st (pre ++ [a]) (fun p b post e hl => h p b post (by rw [← e, List.append_assoc]; rfl) (by rw [List.length_append] at hl; omega))
      rw [ih]
      simp only [List.append_assoc, List.cons_append, List.nil_append]
theorem fr_find {α : Type} {C : CallF} {t : Tg} {it : It} {body : Sms} {S : Store} (src : Src) (enc : α → MV) (q : α → Bool) (st : List α → Env) (items : List α) (hi : evI C it (st []) S = some (items.map enc, src, S)) (hs : stab S src = true)
    (h : ∀ pre a post, items = pre ++ a :: post → ((asg C t (enc a) (st pre) S).bind fun p => evSs C body p.1 p.2) = if q a then some (.rt (enc a) S) else some (.nx (st (pre ++ [a])) S)) :
    evS C (.fr t it body) (st []) S = match items.find? q with
      | some a => some (.rt (enc a) S)
      | none => some (.nx (st items) S) := by
  rw [eS_fr, hi]
  exact for_find enc q hs items st [] fun p a post e _ => h p a post e
/-! ### two reprs, one of them of a list that is changed later -/
theorem two_refs {C : CallF} {ρ : Env} {S : Store} {i j l w d : Nat} {ce : Ex} {xs : List PyData} (h1 : ρ[i]? = some (some (.ref l))) (h2 : S[l]? = some (xs.map .d)) (h3 : evE C ce ρ S = some (.d (.list xs), S)) (h4 : ρ[j]? = some (some (.d (.list xs)))) (hr : Rep w d (.list xs)) (hw : (w + 2) * 2 + 3 ≤ 16777216) (hd : d + 1 ≤ 64) :
    evS C (.ifs (.cmp .ne (.bi .repr false (.cons (.lst true (.cons (.v i) (.cons ce .nil))) .nil)) (.bi .repr false (.cons (.lst false (.cons (.v j) (.cons (.v j) .nil))) .nil))) (.cons (.ret (.c (.bool false))) .nil) .nil) ρ S = some (.nx ρ (S ++ [[.ref l, .d (.list xs)]])) := by
  have line := lineI
  have e1 : rd (S ++ [[.ref l, .d (.list xs)]]) (.ref S.length) = some (.list [.list xs, .list xs]) := by
    have hl : l < S.length := (List.getElem?_eq_some_iff.mp h2).1
    have e2 : rd1 (S ++ [[.ref l, .d (.list xs)]]) (.ref l) = some (.list xs) := by
      simp only [rd1, List.getElem?_append_left hl, h2, pures_of, Option.map_some]
    have e3 : (S ++ [[MV.ref l, .d (.list xs)]])[S.length]? = some [.ref l, .d (.list xs)] := by simp
    simp only [rd, e3, rds1, e2]
    rfl
  have e4 : biRepr [.ref S.length] (S ++ [[.ref l, .d (.list xs)]]) = some (.d (.str (PyData.list [.list xs, .list xs]).shown), S ++ [[.ref l, .d (.list xs)]]) := rep_repr (Rep.two hr hr) e1 hw hd
  have e5 : biRepr [.d (.list [.list xs, .list xs])] (S ++ [[.ref l, .d (.list xs)]]) = some (.d (.str (PyData.list [.list xs, .list xs]).shown), S ++ [[.ref l, .d (.list xs)]]) := rep_repr (Rep.two hr hr) rfl hw hd
  have e7 : mkL true [.ref l, .d (.list xs)] S = some (.ref S.length, S ++ [[.ref l, .d (.list xs)]]) := by
    unfold mkL
    rw [if_pos (by simp only [List.length_cons, List.length_nil]; omega), if_pos rfl]
  simp only [eS_ifs, eT_cmp, eE_bi, eEs_cons, eEs_nil, eE_lst, eE_v, h1, h3, h4, Option.bind_some, Option.map_some, e7, biM, e4, mk2, e5, ne_str, beq_self_eq_true, Bool.not_true, Bool.false_eq_true, if_false, eSs_nil]
/-- the same of data that is no list -/
theorem two_flat {C : CallF} {ρ : Env} {S : Store} {i j w d : Nat} {ce : Ex} {x : PyData} (h1 : ρ[i]? = some (some (.d x))) (h3 : evE C ce ρ S = some (.d x, S)) (h4 : ρ[j]? = some (some (.d x))) (hr : Rep w d x) (hw : (w + 2) * 2 + 3 ≤ 16777216) (hd : d + 1 ≤ 64) :
    evS C (.ifs (.cmp .ne (.bi .repr false (.cons (.lst true (.cons (.v i) (.cons ce .nil))) .nil)) (.bi .repr false (.cons (.lst false (.cons (.v j) (.cons (.v j) .nil))) .nil))) (.cons (.ret (.c (.bool false))) .nil) .nil) ρ S = some (.nx ρ (S ++ [[.d x, .d x]])) := by
  have line := lineI
  have e1 : rd (S ++ [[.d x, .d x]]) (.ref S.length) = some (.list [x, x]) := rd_cell (xs := [x, x]) (by simp)
  have e4 : biRepr [.ref S.length] (S ++ [[.d x, .d x]]) = some (.d (.str (PyData.list [x, x]).shown), S ++ [[.d x, .d x]]) := rep_repr (Rep.two hr hr) e1 hw hd
  have e5 : biRepr [.d (.list [x, x])] (S ++ [[.d x, .d x]]) = some (.d (.str (PyData.list [x, x]).shown), S ++ [[.d x, .d x]]) := rep_repr (Rep.two hr hr) rfl hw hd
  have e7 : mkL true [.d x, .d x] S = some (.ref S.length, S ++ [[.d x, .d x]]) := by
    unfold mkL
    rw [if_pos (by simp only [List.length_cons, List.length_nil]; omega), if_pos rfl]
  simp only [eS_ifs, eT_cmp, eE_bi, eEs_cons, eEs_nil, eE_lst, eE_v, h1, h3, h4, Option.bind_some, Option.map_some, e7, biM, e4, mk2, e5, ne_str, beq_self_eq_true, Bool.not_true, Bool.false_eq_true, if_false, eSs_nil]
theorem rep_lI {m : Int} (hm : m ≤ 10) {l : List Int} (h : l.Sublist (rng m)) : Rep 693 1 (lI l) := by
  have hl := h.length_le
  rw [rng_len] at hl
  exact Rep.list (f := .int) (w := 67) (d := 0) (k := 10) (fun x hx => by
    have := rng_mem (h.subset hx)
    exact Rep.int (by omega)) (by omega)
theorem lots_is (m : Int) : sortBy szT (subs (rng m)) = sortBy szT (subs (rng m)) := rfl
end TM
end
section
set_option Elab.async false
set_option linter.all false
set_option autoImplicit false
set_option maxRecDepth 1000000
set_option maxHeartbeats 2000000
/-! TM: lots by size: the slots of the loop that doubles. -/
namespace TM
open PySem (PyData Str)
def stLbs (x : PyData) (b : List (List Int) × Option MV) : TM.Env × Store := ([some (.d x), some (.d (.list (b.1.map tI))), b.2, none, none], [])
def stepLbs (b : List (List Int) × Option MV) (c : Int) : List (List Int) × Option MV := (dbl b.1 c, some (.d (.int c)))
theorem foldLbs : ∀ (l : List Int) (b : List (List Int) × Option MV), (l.foldl stepLbs b).1 = l.foldl dbl b.1
  | [], _ => rfl
  | c :: l, b => by rw [List.foldl_cons, foldLbs l, List.foldl_cons]; rfl
/-- lots by size -/
def lots (l : List Int) : List (List Int) := sortBy szT (subs l)
theorem mem_lots {l s : List Int} : s ∈ lots l ↔ s.Sublist l := by rw [lots, sortBy_mem, mem_subs]
theorem lots_len {l : List Int} (h : l.length ≤ 12) : (lots l).length ≤ 4096 := by rw [lots, sortBy_length, subs_length]; exact pow12 h
theorem ne_nil_lI (S : Store) (l : List Int) : cmpM .ne (.d (lI l)) (.d (.list [])) S = some !l.isEmpty := by
  have := ne_lI S l []
  rw [show lI [] = .list [] from rfl] at this
  rw [this]
  cases l <;> rfl
theorem dfn_dec {m : Int} {ss : List (Int × Int)} {h : List Int} {o : Int} (ho : o ∈ rng m) : decide (o ∈ dfn m ss h) = (stk ss o).all fun x => decide (x ∈ strk ss h) := by
  rw [Bool.eq_iff_iff, decide_eq_true_iff, dfn, List.mem_filter]
  exact ⟨fun z => z.2, fun z => ⟨ho, z⟩⟩
def dueD : Option (List Int) → PyData
  | none => .none
  | some l => lI l
end TM
end
section
set_option Elab.async false
set_option linter.all false
set_option autoImplicit false
set_option maxRecDepth 1000000
set_option maxHeartbeats 4000000
/-! TM: facts about things that stand in the program's text, to be counted by the kernel: without sorting. -/
namespace TM
open PySem (PyData Str)
theorem pw_of_zip {α : Type} (k : α → PyData) : ∀ l : List α, ((l.zip (l.drop 1)).all fun p => dle (k p.1) (k p.2)) = true → l.Pairwise fun a b => dle (k a) (k b) = true
  | [], _ => List.Pairwise.nil
  | [a], _ => List.pairwise_singleton _ _
  | a :: b :: l, h => by
    simp only [List.drop_succ_cons, List.drop_zero, List.zip_cons_cons, List.all_cons, Bool.and_eq_true] at h
    have ih := pw_of_zip k (b :: l) (by simpa only [List.drop_succ_cons, List.drop_zero] using h.2)
    refine List.pairwise_cons.mpr ⟨fun x hx => ?_, ih⟩
    rcases List.mem_cons.mp hx with rfl | hx
    · exact h.1
    · exact dle_trans _ _ _ h.1 ((List.pairwise_cons.mp ih).1 x hx)
theorem sort_to {α : Type} [DecidableEq α] {k : α → PyData} (hk : Enc k) {xs ys : List α} (h : (ys.isPerm xs && (ys.zip (ys.drop 1)).all fun p => dle (k p.1) (k p.2)) = true) : sortBy k xs = ys := by
  obtain ⟨h1, h2⟩ := Bool.and_eq_true_iff.mp h
  exact one_order ((sortBy_perm k xs).trans (List.isPerm_iff.mp h1).symm) (sortBy_sorted k xs) (pw_of_zip k ys h2) fun _ _ _ _ => hk.anti
def lexS : List Int → List (List Int)
  | [] => [[]]
  | x :: xs => [] :: ((lexS xs).map (x :: ·) ++ (lexS xs).drop 1)
def cand (m : Int) : List (List Int) := (List.range (m.toNat + 1)).flatMap fun k => (lexS (rng m)).filter fun l => l.length == k
theorem good_of {m : Int} {ss : List (Int × Int)} (h : (decide (1 ≤ m) && decide (m ≤ 10) && (ss.all fun p => decide (0 ≤ p.1) && decide (p.1 < m) && (decide (0 ≤ p.2) && decide (p.2 < m))) && decide (ss.Pairwise fun a b => ltP a b = true) && decide (ss.length ≤ 100)) = true) : Good m ss := by
  simp only [Bool.and_eq_true, decide_eq_true_eq, List.all_eq_true] at h
  obtain ⟨⟨⟨⟨h1, h2⟩, h3⟩, h4⟩, h5⟩ := h
  exact ⟨h1, h2, fun p hp => ⟨(h3 p hp).1, (h3 p hp).2⟩, h4, h5⟩
/-- all lots of a rising list, by size -/
def candL (l : List Int) : List (List Int) := (List.range (l.length + 1)).flatMap fun k => (lexS l).filter fun s => s.length == k
def dfn' (m : Int) (ss : List (Int × Int)) (l : List Int) : List Int := (rng m).filter fun c => (stk ss c).all fun o => l.any fun a => decide ((a, o) ∈ ss)
theorem strk_any (ss : List (Int × Int)) (l : List Int) (c : Int) : decide (c ∈ strk ss l) = l.any fun a => decide ((a, c) ∈ ss) := by
  rw [Bool.eq_iff_iff, decide_eq_true_iff, strk_mem, List.any_eq_true]
  exact ⟨fun ⟨o, h1, h2⟩ => ⟨o, h1, decide_eq_true h2⟩, fun ⟨o, h1, h2⟩ => ⟨o, h1, of_decide_eq_true h2⟩⟩
theorem dfn_is (m : Int) (ss : List (Int × Int)) (l : List Int) : dfn m ss l = dfn' m ss l := by
  simp only [dfn, dfn', strk_any]
def itd' (m : Int) (ss : List (Int × Int)) : Nat → List Int
  | 0 => []
  | k + 1 => dfn' m ss (itd' m ss k)
theorem itd_is (m : Int) (ss : List (Int × Int)) : ∀ k, itd m ss k = itd' m ss k
  | 0 => rfl
  | k + 1 => by rw [itd, itd', itd_is m ss k, dfn_is]
def pla' (m : Int) (ss : List (Int × Int)) : List Int := itd' m ss m.toNat
theorem pla_eq (m : Int) (ss : List (Int × Int)) : pla m ss = pla' m ss := itd_is m ss _
def shw' (m : Int) (ss : List (Int × Int)) (lot : List Int) : Nat → List Int
  | 0 => []
  | k + 1 => let h := shw' m ss lot k
    let d := dfn' m ss h
    h ++ lot.filter fun o => !decide (o ∈ h) && decide (o ∈ d)
theorem shw_is (m : Int) (ss : List (Int × Int)) (lot : List Int) : ∀ k, shw m ss lot k = shw' m ss lot k
  | 0 => rfl
  | k + 1 => by rw [shw, shw_is m ss lot k, lateOf, dfn_is]; rfl
def shows' (m : Int) (ss : List (Int × Int)) (lot : List Int) : Bool := decide ((shw' m ss lot lot.length).length = lot.length)
theorem shows_is (m : Int) (ss : List (Int × Int)) (lot : List Int) : shows m ss lot = shows' m ss lot := by rw [shows, shows', shw_is]
theorem sfirst_fact {m : Int} {ss : List (Int × Int)} {c : Int} {r : Option (List Int)} (h1 : sortBy szT (subs (pla' m ss)) = candL (pla' m ss)) (h2 : (candL (pla' m ss)).find? (fun l => decide (c ∈ l) && shows' m ss l) = r) : sfirst m ss c = r := by
  rw [← sfirst_pla, pla_eq, h1, ← h2]
  congr 1
  funext l
  rw [shows_is]
theorem eqD_self {x : PyData} (h1 : x.plain = true) (h2 : x.depth ≤ 64) : eqD x x = some true := by
  unfold eqD
  rw [if_pos (by simp only [h1, h2, decide_true, Bool.and_self]), PySem.SeqAt.eqv_refl_plain x h1]
theorem sorted_ref {S : Store} {l : Nat} {xs : List PyData} (h : S[l]? = some (xs.map .d)) : biSorted false [.ref l] S = biSorted false [.d (.list xs)] S := by
  simp only [biSorted, TM.listOf, h]
theorem sortable_pr (p : Int × Int) : sortable (pr p) = true := rfl
end TM
end
section
set_option Elab.async false
set_option linter.all false
set_option autoImplicit false
set_option maxRecDepth 1000000
set_option maxHeartbeats 2000000
/-! TM: quiet lots: plain theory; dicts of strikes. -/
namespace TM
open PySem (PyData Str)
/-! short rows of values -/
section
variable (a b c d e : MV)
theorem le1 : ([a].length ≤ LINE) = True := by simp [lineI]
theorem le2 : ([a, b].length ≤ LINE) = True := by simp [lineI]
theorem le3 : ([a, b, c].length ≤ LINE) = True := by simp [lineI]
theorem le4 : ([a, b, c, d].length ≤ LINE) = True := by simp [lineI]
theorem le5 : ([a, b, c, d, e].length ≤ LINE) = True := by simp [lineI]
end
def quiet (ss : List (Int × Int)) (l : List Int) : Bool := !((strk ss l).any fun o => decide (o ∈ l))
theorem quiet_iff {ss : List (Int × Int)} {l : List Int} : quiet ss l = true ↔ ∀ a, a ∈ l → ∀ b, b ∈ l → (a, b) ∉ ss := by
  rw [quiet, Bool.not_eq_true', List.any_eq_false]
  constructor
  · intro h a ha b hb e
    exact h b (strk_mem.mpr ⟨a, ha, e⟩) (decide_eq_true hb)
  · intro h b hb hl
    obtain ⟨a, ha, e⟩ := strk_mem.mp hb
    exact h a ha b (of_decide_eq_true hl) e
/-- as the laws look at it -/
def quiet' (ss : List (Int × Int)) (l : List Int) : Bool := !(ss.any fun p => decide (p.1 ∈ l) && decide (p.2 ∈ l))
theorem quiet_is (ss : List (Int × Int)) (l : List Int) : quiet ss l = quiet' ss l := by
  rw [Bool.eq_iff_iff, quiet_iff, quiet', Bool.not_eq_true', List.any_eq_false]
  constructor
  · rintro h ⟨a, b⟩ hp hc
    rw [Bool.and_eq_true] at hc
    exact h a (of_decide_eq_true hc.1) b (of_decide_eq_true hc.2) hp
  · intro h a ha b hb e
    exact h (a, b) e (by simp [ha, hb])
def qrow (ss : List (Int × Int)) (c : Int) (l : List Int) : Bool := !(l.any fun o => decide ((c, o) ∈ ss) || decide ((o, c) ∈ ss))
def qstep (ss : List (Int × Int)) (f : List (List Int)) (c : Int) : List (List Int) := if (c, c) ∈ ss then f else f ++ (f.filter (qrow ss c)).map (· ++ [c])
theorem quiet_snoc (ss : List (Int × Int)) (s : List Int) (c : Int) : quiet ss (s ++ [c]) = (quiet ss s && qrow ss c s && !decide ((c, c) ∈ ss)) := by
  rw [Bool.eq_iff_iff, quiet_iff]
  simp only [Bool.and_eq_true, quiet_iff, qrow, Bool.not_eq_true', List.any_eq_false, Bool.or_eq_true, decide_eq_true_eq, decide_eq_false_iff_not, List.mem_append, List.mem_singleton, not_or]
  constructor
  · intro h
    exact ⟨⟨fun a ha b hb => h a (.inl ha) b (.inl hb), fun o ho => ⟨h c (.inr rfl) o (.inl ho), h o (.inl ho) c (.inr rfl)⟩⟩, h c (.inr rfl) c (.inr rfl)⟩
  · rintro ⟨⟨h1, h2⟩, h3⟩ a (ha | rfl) b (hb | rfl)
    · exact h1 a ha b hb
    · exact (h2 a ha).2
    · exact (h2 b hb).1
    · exact h3
theorem quiet_map (ss : List (Int × Int)) (c : Int) (F : List (List Int)) : (F.map (· ++ [c])).filter (quiet ss) = if (c, c) ∈ ss then [] else ((F.filter (quiet ss)).filter (qrow ss c)).map (· ++ [c]) := by
  induction F with
  | nil => simp
  | cons s F ih =>
    rw [List.map_cons, List.filter_cons, ih, quiet_snoc]
    by_cases hc : (c, c) ∈ ss
    · simp [hc]
    · simp only [hc, decide_false, Bool.not_false, Bool.and_true, if_false]
      rw [List.filter_cons]
      cases h1 : quiet ss s with
      | false => simp
      | true =>
        simp only [Bool.true_and, if_true, List.filter_cons]
        cases h2 : qrow ss c s <;> simp
theorem qfold (ss : List (Int × Int)) : ∀ (l : List Int) (F : List (List Int)), l.foldl (qstep ss) (F.filter (quiet ss)) = (l.foldl dbl F).filter (quiet ss)
  | [], F => rfl
  | c :: l, F => by
    rw [List.foldl_cons, List.foldl_cons, ← qfold ss l (dbl F c), dbl, List.filter_append, quiet_map, qstep]
    by_cases hc : (c, c) ∈ ss
    · simp [hc]
    · simp [hc]
theorem quiet_nil (ss : List (Int × Int)) : quiet ss [] = true := quiet_iff.mpr fun a ha => absurd ha List.not_mem_nil
theorem qfold_all (ss : List (Int × Int)) (l : List Int) : l.foldl (qstep ss) [[]] = (subs l).filter (quiet ss) := by
  have := qfold ss l [[]]
  rw [List.filter_cons, quiet_nil, if_pos rfl, List.filter_nil] at this
  exact this
/-- all quiet lots, in order -/
def qlots (m : Int) (ss : List (Int × Int)) : List (List Int) := sortBy tI ((subs (rng m)).filter (quiet ss))
theorem qlots_every (m : Int) (ss : List (Int × Int)) : (every m).filter (quiet ss) = qlots m ss := by rw [every, sortBy_filter encT]; rfl
theorem qlots_mem {m : Int} {ss : List (Int × Int)} {l : List Int} : l ∈ qlots m ss ↔ l.Sublist (rng m) ∧ quiet ss l = true := by rw [qlots, sortBy_mem, List.mem_filter, mem_subs]
theorem qlots_len {m : Int} {ss : List (Int × Int)} (h : m ≤ 10) : (qlots m ss).length ≤ 1024 := by
  rw [qlots, sortBy_length]
  exact Nat.le_trans (List.length_filter_le _ _) (subs10 h)
theorem qlots_count (m : Int) (ss : List (Int × Int)) : (qlots m ss).length = ((subs (rng m)).filter (quiet' ss)).length := by
  rw [qlots, sortBy_length]
  congr 1
  apply List.filter_congr
  intro l _
  exact quiet_is ss l
/-! ### a dict of strikes -/
def kvs (ss : List (Int × Int)) : List (PyData × PyData) := ss.map fun p => (pr p, .bool true)
def pD (ss : List (Int × Int)) : PyData := .dict (kvs ss)
theorem beqD_pr (a b : Int × Int) : beqD (pr a) (pr b) = decide (a = b) := by
  rw [Bool.eq_iff_iff, decide_eq_true_iff]
  exact ⟨fun h => encP.inj a b (beqD_eq h), fun h => by rw [h]; exact beqD_refl _⟩
theorem hasKey_kvs (p : Int × Int) : ∀ ss : List (Int × Int), hasKey (pr p) (kvs ss) = decide (p ∈ ss)
  | [] => by simp [kvs, hasKey]
  | a :: ss => by
    have ih := hasKey_kvs p ss
    rw [kvs, List.map_cons, hasKey, beqD_pr, show hasKey (pr p) (ss.map fun p => (pr p, PyData.bool true)) = decide (p ∈ ss) from ih]
    by_cases h : a = p
    · subst h; simp
    · have : ¬ p = a := fun e => h e.symm
      simp [h, this]
theorem kvs_keys (ss : List (Int × Int)) : (kvs ss).all (fun p => isKeyI p.1) = true := by
  rw [kvs, List.all_map, List.all_eq_true]
  intro p _
  rfl
theorem in_pD (S : Store) (p : Int × Int) (ss : List (Int × Int)) : cmpM .inS (.d (pr p)) (.d (pD ss)) S = some (decide (p ∈ ss)) := by
  show inD S (.d (pr p)) (.d (.dict (kvs ss))) = _
  simp only [inD, rd]
  rw [kvs_keys, show isKeyI (pr p) = true from rfl, hasKey_kvs]
  rfl
theorem ni_pD (S : Store) (p : Int × Int) (ss : List (Int × Int)) : cmpM .niS (.d (pr p)) (.d (pD ss)) S = some (!decide (p ∈ ss)) := by
  show (cmpM .inS (.d (pr p)) (.d (pD ss)) S).map _ = _
  rw [in_pD]
  rfl
theorem in_pD2 (S : Store) (a b : Int) (ss : List (Int × Int)) : cmpM .inS (.d (.tuple [.int a, .int b])) (.d (pD ss)) S = some (decide ((a, b) ∈ ss)) := in_pD S (a, b) ss
theorem ni_pD2 (S : Store) (a b : Int) (ss : List (Int × Int)) : cmpM .niS (.d (.tuple [.int a, .int b])) (.d (pD ss)) S = some (!decide ((a, b) ∈ ss)) := ni_pD S (a, b) ss
theorem ltP_irrefl (a : Int × Int) : ltP a a = false := by simp [ltP]
theorem nodup_up : ∀ {ss : List (Int × Int)}, ss.Pairwise (fun a b => ltP a b = true) → nodupK (kvs ss) = true
  | [], _ => rfl
  | a :: ss, h => by
    obtain ⟨h1, h2⟩ := List.pairwise_cons.mp h
    have hn : a ∉ ss := fun hm => by
      have := h1 a hm
      rw [ltP_irrefl] at this
      cases this
    rw [kvs, List.map_cons, nodupK, show (ss.map fun p => (pr p, PyData.bool true)) = kvs ss from rfl, hasKey_kvs, nodup_up h2]
    simp [hn]
theorem keyPairs_of : ∀ ss : List (Int × Int), keyPairs (ss.map fun p => .tuple [pr p, .bool true]) = some (kvs ss)
  | [] => rfl
  | a :: ss => by
    rw [List.map_cons, keyPairs, if_pos (by rfl), keyPairs_of ss]
    rfl
theorem dict_is {m : Int} {ss : List (Int × Int)} (g : Good m ss) (S : Store) : biDictT [.d (.list (ss.map fun p => .tuple [pr p, .bool true]))] S = some (.d (pD ss), S) := by
  have hm := g.many
  unfold biDictT
  simp only [TM.listOf, pures_of, keyPairs_of, nodup_up g.up, List.length_map, Bool.true_and]
  rw [if_pos (by rw [decide_eq_true_iff]; omega)]
  rfl
end TM
end
section
set_option Elab.async false
set_option linter.all false
set_option autoImplicit false
set_option maxRecDepth 1000000
set_option maxHeartbeats 2000000
/-! TM: settled lots: plain theory. -/
namespace TM
open PySem (PyData Str)
def stl (m : Int) (ss : List (Int × Int)) (l : List Int) : Bool := decide (strk ss l = oth m l)
theorem stl_quiet {m : Int} {ss : List (Int × Int)} {l : List Int} (h : stl m ss l = true) : quiet ss l = true := quiet_iff.mpr fun a ha b hb e => by
  have h1 : b ∈ strk ss l := strk_mem.mpr ⟨a, ha, e⟩
  rw [of_decide_eq_true h] at h1
  exact (mem_oth.mp h1).2 hb
/-- all settled lots, in order -/
def settles (m : Int) (ss : List (Int × Int)) : List (List Int) := sortBy tI ((subs (rng m)).filter (stl m ss))
theorem settles_quiet (m : Int) (ss : List (Int × Int)) : (qlots m ss).filter (stl m ss) = settles m ss := by
  rw [qlots, sortBy_filter encT, List.filter_filter, settles]
  congr 1
  apply List.filter_congr
  intro l _
  cases h : stl m ss l with
  | false => rfl
  | true => rw [stl_quiet h]; rfl
theorem settles_every (m : Int) (ss : List (Int × Int)) : (every m).filter (stl m ss) = settles m ss := by rw [every, sortBy_filter encT]; rfl
theorem settles_mem {m : Int} {ss : List (Int × Int)} {l : List Int} : l ∈ settles m ss ↔ l.Sublist (rng m) ∧ stl m ss l = true := by rw [settles, sortBy_mem, List.mem_filter, mem_subs]
theorem settles_len {m : Int} {ss : List (Int × Int)} (h : m ≤ 10) : (settles m ss).length ≤ 1024 := by
  rw [settles, sortBy_length]
  exact Nat.le_trans (List.length_filter_le _ _) (subs10 h)
theorem oth_strict (m : Int) (l : List Int) : (oth m l).Pairwise (· < ·) := (rng_strict m).sublist (oth_sub m l)
theorem strk_rng {m : Int} {ss : List (Int × Int)} (g : Good m ss) {l : List Int} {c : Int} (h : c ∈ strk ss l) : c ∈ rng m := by
  obtain ⟨o, _, e⟩ := strk_mem.mp h
  exact mem_rng.mpr (g.win _ e).2
/-- as the laws look at it -/
theorem law_stl {m : Int} {ss : List (Int × Int)} (g : Good m ss) (l : List Int) : ((rng m).all fun c => decide (c ∈ strk ss l) != decide (c ∈ l)) = stl m ss l := by
  rw [Bool.eq_iff_iff, List.all_eq_true, stl, decide_eq_true_iff]
  constructor
  · intro h
    refine strict_eq (sset_strict _) (oth_strict m l) fun c => ?_
    rw [mem_oth]
    constructor
    · intro hc
      have hr := strk_rng g hc
      have := h c hr
      refine ⟨hr, fun hl => ?_⟩
      simp [show c ∈ strk ss l from hc, hl] at this
    · rintro ⟨hr, hl⟩
      have := h c hr
      simp only [hl, decide_false, bne_iff_ne, ne_eq, Bool.not_eq_false, decide_eq_true_eq] at this
      exact this
  · intro h c hr
    rw [h]
    by_cases hl : c ∈ l
    · have : c ∉ oth m l := fun z => (mem_oth.mp z).2 hl
      simp [hl, this]
    · have : c ∈ oth m l := mem_oth.mpr ⟨hr, hl⟩
      simp [hl, this]
/-- no settled lot is within another one -/
theorem stl_max {m : Int} {ss : List (Int × Int)} {a b : List Int} (ha : a.Sublist (rng m)) (hb : b.Sublist (rng m)) (sa : stl m ss a = true) (sb : stl m ss b = true) (h : ∀ x, x ∈ a → x ∈ b) : a = b := sub_eq (rng_strict m) ha hb fun x => ⟨h x, fun hx => Classical.byContradiction fun hn => by
  have h1 : x ∈ oth m a := mem_oth.mpr ⟨hb.subset hx, hn⟩
  rw [← of_decide_eq_true sa] at h1
  obtain ⟨o, ho, e⟩ := strk_mem.mp h1
  have h2 : x ∈ strk ss b := strk_mem.mpr ⟨o, h o ho, e⟩
  rw [of_decide_eq_true sb] at h2
  exact (mem_oth.mp h2).2 hx⟩
/-- of a case -/
def ofc (ins outs l : List Int) : Bool := (ins.all fun x => decide (x ∈ l)) && !(outs.any fun x => decide (x ∈ l))
/-- to be counted by the kernel -/
def stl' (m : Int) (ss : List (Int × Int)) (l : List Int) : Bool := (rng m).all fun c => (l.any fun a => decide ((a, c) ∈ ss)) != decide (c ∈ l)
theorem stl_is {m : Int} {ss : List (Int × Int)} (g : Good m ss) (l : List Int) : stl m ss l = stl' m ss l := by
  rw [← law_stl g, stl']
  simp only [strk_any]
theorem settles_fact {m : Int} {ss : List (Int × Int)} {r : List (List Int)} (g : Good m ss) (h : sortBy tI ((subs (rng m)).filter (stl' m ss)) = r) : settles m ss = r := by
  rw [settles, ← h]
  congr 1
  apply List.filter_congr
  intro l _
  exact stl_is g l
def allC (m : Int) (ls : List (List Int)) : List Int := (rng m).filter fun c => ls.all fun l => decide (c ∈ l)
def someC (m : Int) (ls : List (List Int)) : List Int := (rng m).filter fun c => ls.any fun l => decide (c ∈ l)
end TM
end
section
set_option Elab.async false
set_option linter.all false
set_option autoImplicit false
set_option maxRecDepth 1000000
set_option maxHeartbeats 2000000
/-! TM: wanted strikes of a lot: plain theory. -/
namespace TM
open PySem (PyData Str)
/-! ### all parts of a list -/
section
variable {α : Type}
def gdbl (f : List (List α)) (c : α) : List (List α) := f ++ f.map (· ++ [c])
def gsubs (l : List α) : List (List α) := l.foldl gdbl [[]]
theorem gdbl_length (f : List (List α)) (c : α) : (gdbl f c).length = 2 * f.length := by
  rw [gdbl, List.length_append, List.length_map]
  omega
theorem gfold_length : ∀ (l : List α) (f : List (List α)), (l.foldl gdbl f).length = 2 ^ l.length * f.length
  | [], f => by simp
  | c :: l, f => by
    rw [List.foldl_cons, gfold_length l, gdbl_length, List.length_cons, Nat.pow_succ, Nat.mul_assoc]
theorem gsubs_length (l : List α) : (gsubs l).length = 2 ^ l.length := by
  rw [gsubs, gfold_length]
  simp
theorem gfold_mem : ∀ (l : List α) (f : List (List α)) (s : List α), s ∈ l.foldl gdbl f → ∃ a b, a ∈ f ∧ b.Sublist l ∧ s = a ++ b
  | [], f, s, h => ⟨s, [], h, List.Sublist.refl _, by simp⟩
  | c :: l, f, s, h => by
    obtain ⟨a, b, ha, hb, e⟩ := gfold_mem l _ s h
    rw [gdbl, List.mem_append, List.mem_map] at ha
    rcases ha with ha | ⟨a', ha, rfl⟩
    · exact ⟨a, b, ha, hb.cons _, e⟩
    · exact ⟨a', c :: b, ha, hb.cons₂ _, by rw [e, List.append_assoc]; rfl⟩
theorem mem_gfold : ∀ (l : List α) (f : List (List α)) (a b : List α), a ∈ f → b.Sublist l → a ++ b ∈ l.foldl gdbl f
  | [], f, a, b, h, hb => by
    rw [List.sublist_nil.mp hb, List.append_nil]
    exact h
  | c :: l, f, a, b, h, hb => by
    rw [List.foldl_cons]
    cases hb with
    | cons _ h1 => exact mem_gfold l _ a b (List.mem_append_left _ h) h1
    | cons_cons _ h1 =>
      rename_i b
      have := mem_gfold l (gdbl f c) (a ++ [c]) b (List.mem_append_right _ (List.mem_map.mpr ⟨a, h, rfl⟩)) h1
      rw [List.append_assoc] at this
      exact this
theorem mem_gsubs {l s : List α} : s ∈ gsubs l ↔ s.Sublist l := by
  constructor
  · intro h
    obtain ⟨a, b, ha, hb, e⟩ := gfold_mem l _ s h
    have : a = [] := by simpa using ha
    rw [e, this]
    exact hb
  · exact fun h => mem_gfold l [[]] [] s (by simp) h
end
/-! ### wanted strikes; st: is all to be settled, up: is the lot to be upheld -/
def wantB (ss : List (Int × Int)) (up : Bool) (lot : List Int) (p : Int × Int) : Bool := decide (p.2 ∈ lot) && (decide (p.1 ∈ lot) || (up && !decide (p.1 ∈ strk ss lot)))
def gap (m : Int) (ss : List (Int × Int)) (lot : List Int) : Bool := (rng m).any fun c => !decide (c ∈ lot) && !decide (c ∈ strk ss lot)
def wnt (m : Int) (ss : List (Int × Int)) (st up : Bool) (lot : List Int) : Option (List (Int × Int)) := if st && gap m ss lot then none else some (ss.filter (wantB ss up lot))
def stkL (m : Int) (ss : List (Int × Int)) (c : Int) : List Int := (rng m).filter fun a => decide ((a, c) ∈ ss)
def soB (m : Int) (ss : List (Int × Int)) (st up : Bool) (lot : List Int) : Bool := quiet ss lot && (if up then lot.all fun c => (stkL m ss c).all fun o => (stkL m ss o).any fun x => decide (x ∈ lot) else if st then (rng m).all fun c => decide (c ∈ lot) || (stkL m ss c).any fun x => decide (x ∈ lot) else true)
def wo (ss s : List (Int × Int)) : List (Int × Int) := ss.filter fun p => !decide (p ∈ s)
theorem wo_mem {ss s : List (Int × Int)} {p : Int × Int} : p ∈ wo ss s ↔ p ∈ ss ∧ p ∉ s := by
  rw [wo, List.mem_filter]
  simp
theorem wo_good {m : Int} {ss : List (Int × Int)} (g : Good m ss) (s : List (Int × Int)) : Good m (wo ss s) := ⟨g.lo, g.hi, fun p hp => g.win p (wo_mem.mp hp).1, g.up.sublist List.filter_sublist, Nat.le_trans (List.length_filter_le _ _) g.many⟩
theorem stkL_mem {m : Int} {ss : List (Int × Int)} (g : Good m ss) {c o : Int} : o ∈ stkL m ss c ↔ (o, c) ∈ ss := by
  rw [stkL, List.mem_filter, decide_eq_true_iff]
  exact ⟨fun h => h.2, fun h => ⟨mem_rng.mpr (g.win _ h).1, h⟩⟩
theorem gap_no {m : Int} {ss : List (Int × Int)} {lot : List Int} (h : gap m ss lot = false) {c : Int} (hr : c ∈ rng m) (hc : c ∉ lot) : c ∈ strk ss lot := Classical.byContradiction fun hn => by
  rw [gap, List.any_eq_false] at h
  exact h c hr (by simp [hc, hn])
/-- without the wanted strikes the lot is so -/
theorem want_so {m : Int} {ss : List (Int × Int)} (g : Good m ss) {st up : Bool} {lot : List Int} {W : List (Int × Int)} (h : wnt m ss st up lot = some W) (hs : ¬ (st = true ∧ up = true)) : soB m (wo ss W) st up lot = true := by
  unfold wnt at h
  split at h
  · cases h
  · rename_i hg
    cases h
    rw [soB, Bool.and_eq_true]
    constructor
    · refine quiet_iff.mpr fun a ha b hb e => ?_
      obtain ⟨e1, e2⟩ := wo_mem.mp e
      exact e2 (List.mem_filter.mpr ⟨e1, by simp [wantB, ha, hb]⟩)
    · cases up with
      | true =>
        rw [if_pos rfl, List.all_eq_true]
        intro c hc
        rw [List.all_eq_true]
        intro o ho
        obtain ⟨e1, e2⟩ := wo_mem.mp ((stkL_mem (wo_good g _)).mp ho)
        have hw : wantB ss true lot (o, c) = false := by
          rw [Bool.eq_false_iff]
          exact fun hw => e2 (List.mem_filter.mpr ⟨e1, hw⟩)
        simp only [wantB, hc, decide_true, Bool.true_and, Bool.or_eq_false_iff, decide_eq_false_iff_not, Bool.not_eq_false', decide_eq_true_eq] at hw
        obtain ⟨x, hx, e3⟩ := strk_mem.mp hw.2
        refine List.any_eq_true.mpr ⟨x, (stkL_mem (wo_good g _)).mpr (wo_mem.mpr ⟨e3, fun hf => ?_⟩), decide_eq_true hx⟩
        have := (List.mem_filter.mp hf).2
        simp [wantB, hw.1] at this
      | false =>
        rw [if_neg (by decide)]
        cases st with
        | false => rfl
        | true =>
          simp only [Bool.true_and, Bool.not_eq_true] at hg
          rw [if_pos rfl, List.all_eq_true]
          intro c hr
          by_cases hc : c ∈ lot
          · simp [hc]
          · obtain ⟨x, hx, e3⟩ := strk_mem.mp (gap_no hg hr hc)
            rw [Bool.or_eq_true]
            refine .inr (List.any_eq_true.mpr ⟨x, (stkL_mem (wo_good g _)).mpr (wo_mem.mpr ⟨e3, fun hf => ?_⟩), decide_eq_true hx⟩)
            have := (List.mem_filter.mp hf).2
            simp [wantB, hc] at this
/-- each lot of strikes that makes it so has them all -/
theorem want_all {m : Int} {ss s : List (Int × Int)} (g : Good m ss) {st up : Bool} {lot : List Int} {W : List (Int × Int)} (h : wnt m ss st up lot = some W) (hs : soB m (wo ss s) st up lot = true) {p : Int × Int} (hp : p ∈ W) : p ∈ s := by
  unfold wnt at h
  split at h
  · cases h
  · cases h
    obtain ⟨h1, h2⟩ := List.mem_filter.mp hp
    refine Classical.byContradiction fun hn => ?_
    have hw : p ∈ wo ss s := wo_mem.mpr ⟨h1, hn⟩
    rw [soB, Bool.and_eq_true] at hs
    simp only [wantB, Bool.and_eq_true, Bool.or_eq_true, decide_eq_true_eq, Bool.not_eq_true', decide_eq_false_iff_not] at h2
    rcases h2.2 with ha | ⟨hu, ha⟩
    · exact quiet_iff.mp hs.1 p.1 ha p.2 h2.1 hw
    · subst hu
      have h3 := hs.2
      rw [if_pos rfl, List.all_eq_true] at h3
      have h4 := List.all_eq_true.mp (h3 p.2 h2.1) p.1 ((stkL_mem (wo_good g _)).mpr hw)
      obtain ⟨x, hx, e⟩ := List.any_eq_true.mp h4
      exact ha (strk_mem.mpr ⟨x, of_decide_eq_true e, (wo_mem.mp ((stkL_mem (wo_good g _)).mp hx)).1⟩)
/-- where none are told no lot of strikes makes it so -/
theorem want_none {m : Int} {ss s : List (Int × Int)} (g : Good m ss) {st up : Bool} {lot : List Int} (h : wnt m ss st up lot = none) (hu : up = false) : soB m (wo ss s) st up lot = false := by
  unfold wnt at h
  split at h
  · rename_i hg
    rw [Bool.and_eq_true] at hg
    obtain ⟨rfl, hg⟩ := hg
    subst hu
    obtain ⟨c, hr, hc⟩ := List.any_eq_true.mp hg
    simp only [Bool.and_eq_true, Bool.not_eq_true', decide_eq_false_iff_not] at hc
    rw [Bool.eq_false_iff]
    intro hs
    rw [soB, Bool.and_eq_true, if_neg (by decide), if_pos rfl, List.all_eq_true] at hs
    have := hs.2 c hr
    rw [Bool.or_eq_true, decide_eq_true_iff] at this
    rcases this with h1 | h1
    · exact hc.1 h1
    · obtain ⟨x, hx, e⟩ := List.any_eq_true.mp h1
      exact hc.2 (strk_mem.mpr ⟨x, of_decide_eq_true e, (wo_mem.mp ((stkL_mem (wo_good g _)).mp hx)).1⟩)
  · cases h
def making (m : Int) (ss : List (Int × Int)) (st up : Bool) (lot : List Int) : List (List (Int × Int)) := (gsubs ss).filter fun s => soB m (wo ss s) st up lot
/-! ### prices -/
def psum (ss : List (Int × Int)) (ps : List Int) (W : List (Int × Int)) : Int := (((ss.zip ps).filter fun q => decide (q.1 ∈ W)).map (·.2)).sum
def costD (m : Int) (ss : List (Int × Int)) (ps : List Int) (st up : Bool) (lot : List Int) : PyData := match wnt m ss st up lot with
  | none => .none
  | some W => .int (psum ss ps W)
def fits (m : Int) (ss : List (Int × Int)) (ps : List Int) (st up : Bool) (price : Int) (lot : List Int) : Bool := match wnt m ss st up lot with
  | none => false
  | some W => decide (psum ss ps W ≤ price)
def wntD (m : Int) (ss : List (Int × Int)) (st up : Bool) (lot : List Int) : PyData := match wnt m ss st up lot with
  | none => .none
  | some W => .list (W.map pr)
def within (m : Int) (ss : List (Int × Int)) (ps : List Int) (st up : Bool) (price : Int) : List (List Int) := (every m).filter (fits m ss ps st up price)
theorem in_prL (S : Store) (c : Int × Int) (ss : List (Int × Int)) : cmpM .inS (.d (pr c)) (.d (.list (ss.map pr))) S = some (decide (c ∈ ss)) ∧ cmpM .niS (.d (pr c)) (.d (.list (ss.map pr))) S = some (!decide (c ∈ ss)) := by
  have e : inD S (.d (pr c)) (.d (.list (ss.map pr))) = some (decide (c ∈ ss)) := by
    simp only [inD, rd, plain_prs, any_pr]
    rw [show (pr c).plain = true from rfl, show (pr c).depth = 1 from rfl]
    rfl
  refine ⟨e, ?_⟩
  show (inD S (.d (pr c)) (.d (.list (ss.map pr)))).map _ = _
  rw [e]
  rfl
theorem ni_sD (S : Store) (c : Int × Int) (ss : List (Int × Int)) : cmpM .niS (.d (pr c)) (.d (sD ss)) S = some (!decide (c ∈ ss)) := by
  show (cmpM .inS (.d (pr c)) (.d (sD ss)) S).map _ = _
  rw [in_sD]
  rfl
theorem sum_ints {S : Store} (l : List Int) : biSum [.d (.list (l.map .int))] S = some (.d (.int l.sum), S) := by
  simp only [biSum, TM.listOf, List.map_map]
  rw [show ((MV.d ∘ PyData.int) : Int → MV) = fun b => .d (.int b) from rfl, intsM_of]
  rfl
end TM
end
section
set_option Elab.async false
set_option linter.all false
set_option autoImplicit false
set_option maxRecDepth 1000000
set_option maxHeartbeats 2000000
/-! TM: the least of encoded things; least prices. -/
namespace TM
open PySem (PyData Str)
open PySem.W (alike alikeAll dataLt minD)
section
variable {α : Type} (k : α → PyData)
def minBy (x : α) (xs : List α) : α := xs.foldl (fun a y => if dataLt (k y) (k a) then y else a) x
theorem minBy_map : ∀ (xs : List α) (x : α), minD (k x) (xs.map k) = k (minBy k x xs)
  | [], x => rfl
  | y :: xs, x => by
    show minD (if dataLt (k y) (k x) then k y else k x) (xs.map k) = k (minBy k (if dataLt (k y) (k x) then y else x) xs)
    cases dataLt (k y) (k x) with
    | true => exact minBy_map xs y
    | false => exact minBy_map xs x
theorem dle_self (x : PyData) : dle x x = true := by
  have := dle_total x x
  simpa using this
theorem minBy_both : ∀ (xs : List α) (x : α), minBy k x xs ∈ x :: xs ∧ ∀ y ∈ x :: xs, dle (k (minBy k x xs)) (k y) = true
  | [], x => ⟨List.mem_cons_self, fun y hy => by
    rw [List.mem_singleton] at hy
    subst hy
    exact dle_self _⟩
  | z :: xs, x => by
    have e0 : minBy k x (z :: xs) = minBy k (if dataLt (k z) (k x) then z else x) xs := rfl
    rw [e0]
    cases e : dataLt (k z) (k x) with
    | true =>
      rw [if_pos rfl]
      obtain ⟨h1, h2⟩ := minBy_both xs z
      have hz : dle (k z) (k x) = true := by
        have t := dle_total (k z) (k x)
        rw [dle_lt (k x) (k z), e] at t
        simpa using t
      refine ⟨List.mem_cons_of_mem _ h1, fun y hy => ?_⟩
      rcases List.mem_cons.mp hy with rfl | hy
      · exact dle_trans _ _ _ (h2 z List.mem_cons_self) hz
      · exact h2 y hy
    | false =>
      rw [if_neg (by decide)]
      obtain ⟨h1, h2⟩ := minBy_both xs x
      have hz : dle (k x) (k z) = true := by rw [dle_lt, e]; rfl
      refine ⟨?_, fun y hy => ?_⟩
      · rcases List.mem_cons.mp h1 with h | h
        · rw [h]; exact List.mem_cons_self
        · exact List.mem_cons_of_mem _ (List.mem_cons_of_mem _ h)
      · rcases List.mem_cons.mp hy with rfl | hy
        · exact h2 _ List.mem_cons_self
        · rcases List.mem_cons.mp hy with rfl | hy
          · exact dle_trans _ _ _ (h2 x List.mem_cons_self) hz
          · exact h2 y (List.mem_cons_of_mem _ hy)
variable {k}
theorem minBy_one (h : Enc k) {xs : List α} {x a : α} (ha : a ∈ x :: xs) (hl : ∀ y ∈ x :: xs, dle (k a) (k y) = true) : minBy k x xs = a :=
  h.anti ((minBy_both k xs x).2 a ha) (hl _ (minBy_both k xs x).1)
theorem minBy_same (h : Enc k) {xs ys : List α} {x y : α} (hm : ∀ z, z ∈ x :: xs ↔ z ∈ y :: ys) : minBy k x xs = minBy k y ys :=
  minBy_one h ((hm _).mpr (minBy_both k ys y).1) fun z hz => (minBy_both k ys y).2 z ((hm z).mp hz)
end
/-! ### rows: price, size, lot -/
def rowT (q : Int × List Int) : PyData := .tuple [.int q.1, .int q.2.length, tI q.2]
theorem encR : Enc rowT := ⟨fun a b h => by
    simp only [rowT, tI, PyData.tuple.injEq, List.cons.injEq, PyData.int.injEq, and_true] at h
    exact Prod.ext h.1 (ints_inj h.2.2), fun a b => by simp only [rowT, alike, alikeAll, tI, ints_alike, Bool.and_self]⟩
theorem rowT_le {a b : Int × List Int} (h : dle (rowT a) (rowT b) = true) : a.1 ≤ b.1 := by
  rw [dle_lt, rowT, rowT, dataLt_cons rfl, eqv_int] at h
  by_cases e : b.1 = a.1
  · omega
  · rw [decide_eq_false e, if_neg (by decide), PySem.W.dataLt_int] at h
    simp only [Bool.not_eq_true', decide_eq_false_iff_not] at h
    omega
def rowOf (m : Int) (ss : List (Int × Int)) (ps : List Int) (st up : Bool) (c : Int) (l : List Int) : List (Int × List Int) := if decide (c ∈ l) then (match wnt m ss st up l with | some W => [(psum ss ps W, l)] | none => []) else []
def rowsOf (m : Int) (ss : List (Int × Int)) (ps : List Int) (st up : Bool) (c : Int) (ls : List (List Int)) : List (Int × List Int) := (ls.map (rowOf m ss ps st up c)).flatten
theorem rowsOf_mem {m : Int} {ss : List (Int × Int)} {ps : List Int} {st up : Bool} {c : Int} {ls : List (List Int)} {q : Int × List Int} : q ∈ rowsOf m ss ps st up c ls ↔ q.2 ∈ ls ∧ c ∈ q.2 ∧ ∃ W, wnt m ss st up q.2 = some W ∧ q.1 = psum ss ps W := by
  rw [rowsOf, List.mem_flatten]
  constructor
  · rintro ⟨r, hr, hq⟩
    obtain ⟨l, hl, rfl⟩ := List.mem_map.mp hr
    unfold rowOf at hq
    split at hq
    · rename_i hc
      split at hq
      · rename_i W hW
        rw [List.mem_singleton] at hq
        subst hq
        exact ⟨hl, of_decide_eq_true hc, W, hW, rfl⟩
      · cases hq
    · cases hq
  · rintro ⟨h1, h2, W, h3, h4⟩
    refine ⟨_, List.mem_map.mpr ⟨q.2, h1, rfl⟩, ?_⟩
    rw [rowOf, if_pos (decide_eq_true h2), h3]
    exact List.mem_singleton.mpr (Prod.ext h4 rfl)
def leastOf : List (Int × List Int) → Int × List Int
  | [] => (0, [])
  | x :: xs => minBy rowT x xs
def cheap (m : Int) (ss : List (Int × Int)) (ps : List Int) (st up : Bool) (c : Int) : Int × List Int := leastOf (rowsOf m ss ps st up c (every m))
theorem mem_every {m : Int} {l : List Int} : l ∈ every m ↔ l.Sublist (rng m) := by rw [every, sortBy_mem, mem_subs]
theorem rows_some {m : Int} {ss : List (Int × Int)} {ps : List Int} {st up : Bool} {c : Int} (hc : c ∈ rng m) {ls : List (List Int)} (h : rng m ∈ ls) : rowsOf m ss ps st up c ls ≠ [] := by
  have hg : gap m ss (rng m) = false := by
    rw [gap, List.any_eq_false]
    intro x hx
    simp [hx]
  have : (psum ss ps (ss.filter (wantB ss up (rng m))), rng m) ∈ rowsOf m ss ps st up c ls := rowsOf_mem.mpr ⟨h, hc, _, by rw [wnt, hg, Bool.and_false, if_neg (by decide)], rfl⟩
  intro z
  rw [z] at this
  cases this
theorem least_spec : ∀ {rs : List (Int × List Int)}, rs ≠ [] → leastOf rs ∈ rs ∧ ∀ y ∈ rs, dle (rowT (leastOf rs)) (rowT y) = true
  | [], h => absurd rfl h
  | x :: xs, _ => minBy_both rowT xs x
theorem least_same {rs ts : List (Int × List Int)} (hr : rs ≠ []) (h : ∀ z, z ∈ rs ↔ z ∈ ts) : leastOf rs = leastOf ts := by
  cases rs with
  | nil => exact absurd rfl hr
  | cons x xs =>
    cases ts with
    | nil => exact absurd ((h x).mp List.mem_cons_self) List.not_mem_nil
    | cons y ys => exact minBy_same encR h
theorem cheap_subs {m : Int} {ss : List (Int × Int)} {ps : List Int} {st up : Bool} {c : Int} (hc : c ∈ rng m) : leastOf (rowsOf m ss ps st up c (subs (rng m))) = cheap m ss ps st up c :=
  least_same (rows_some hc (mem_subs.mpr (List.Sublist.refl _))) fun z => by
    rw [rowsOf_mem, rowsOf_mem, mem_subs, mem_every]
theorem cheap_in {m : Int} {ss : List (Int × Int)} {ps : List Int} {st up : Bool} {c : Int} (hc : c ∈ rng m) : (cheap m ss ps st up c).2.Sublist (rng m) ∧ c ∈ (cheap m ss ps st up c).2 ∧ ∃ W, wnt m ss st up (cheap m ss ps st up c).2 = some W ∧ (cheap m ss ps st up c).1 = psum ss ps W := by
  have := rowsOf_mem.mp (least_spec (rows_some (ss := ss) (ps := ps) (st := st) (up := up) hc (mem_every.mpr (List.Sublist.refl (rng m))))).1
  exact ⟨mem_every.mp this.1, this.2⟩
theorem cheap_le {m : Int} {ss : List (Int × Int)} {ps : List Int} {st up : Bool} {c : Int} {l : List Int} {W : List (Int × Int)} (hc : c ∈ l) (hl : l.Sublist (rng m)) (hw : wnt m ss st up l = some W) : (cheap m ss ps st up c).1 ≤ psum ss ps W :=
  rowT_le ((least_spec (rows_some (ss := ss) (ps := ps) (st := st) (up := up) (hl.subset hc) (mem_every.mpr (List.Sublist.refl (rng m))))).2 (psum ss ps W, l) (rowsOf_mem.mpr ⟨mem_every.mpr hl, hc, W, hw, rfl⟩))
/-! ### sums of prices -/
theorem psum_cons (s : Int × Int) (ss : List (Int × Int)) (p : Int) (ps : List Int) (W : List (Int × Int)) : psum (s :: ss) (p :: ps) W = (if s ∈ W then p else 0) + psum ss ps W := by
  unfold psum
  rw [List.zip_cons_cons, List.filter_cons]
  by_cases h : s ∈ W
  · simp [h]
  · simp [h]
theorem psum_mono : ∀ (ss : List (Int × Int)) (ps qs : List Int) (W V : List (Int × Int)), qs.length = ps.length → (∀ (i : Nat) (p q : Int), ps[i]? = some p → qs[i]? = some q → p ≤ q) → (∀ q ∈ qs, (0 : Int) ≤ q) → (∀ x ∈ ss, x ∈ W → x ∈ V) → psum ss ps W ≤ psum ss qs V
  | [], ps, qs, W, V, _, _, _, _ => by simp [psum]
  | s :: ss, [], [], W, V, _, _, _, _ => by simp [psum]
  | s :: ss, [], q :: qs, W, V, h, _, _, _ => by simp at h
  | s :: ss, p :: ps, [], W, V, h, _, _, _ => by simp at h
  | s :: ss, p :: ps, q :: qs, W, V, h, hle, h0, hw => by
    rw [psum_cons, psum_cons]
    have ih := psum_mono ss ps qs W V (by simpa using h) (fun i p q h1 h2 => hle (i + 1) p q (by simpa using h1) (by simpa using h2)) (fun q hq => h0 q (List.mem_cons_of_mem _ hq)) (fun x hx => hw x (List.mem_cons_of_mem _ hx))
    have hpq := hle 0 p q rfl rfl
    have hq0 := h0 q List.mem_cons_self
    have hsv := hw s List.mem_cons_self
    by_cases h1 : s ∈ W
    · rw [if_pos h1, if_pos (hsv h1)]
      omega
    · rw [if_neg h1]
      by_cases h2 : s ∈ V
      · rw [if_pos h2]; omega
      · rw [if_neg h2]; omega
theorem psum_nil (ss : List (Int × Int)) (ps : List Int) : psum ss ps [] = 0 := by
  unfold psum
  rw [List.filter_eq_nil_iff.mpr (fun a _ => by simp)]
  rfl
theorem psum_up {ss : List (Int × Int)} {ps : List Int} {W V : List (Int × Int)} (h0 : ∀ q ∈ ps, (0 : Int) ≤ q) (h : ∀ x ∈ W, x ∈ V) : psum ss ps W ≤ psum ss ps V :=
  psum_mono ss ps ps W V rfl (fun i p q h1 h2 => by rw [h1] at h2; cases h2; exact Int.le_refl _) h0 fun x _ hx => h x hx
theorem psum_pos {ss : List (Int × Int)} {ps : List Int} (h0 : ∀ q ∈ ps, (0 : Int) ≤ q) (W : List (Int × Int)) : 0 ≤ psum ss ps W := by
  have := psum_up (ss := ss) h0 (W := []) (V := W) (fun x hx => absurd hx List.not_mem_nil)
  rw [psum_nil] at this
  exact this
/-! ### what the law asks of least prices -/
theorem cheap_more {m : Int} {ss : List (Int × Int)} {ps qs : List Int} {st up : Bool} {c : Int} (hc : c ∈ rng m) (hl : qs.length = ps.length) (hle : ∀ (i : Nat) (p q : Int), ps[i]? = some p → qs[i]? = some q → p ≤ q) (h0 : ∀ q ∈ qs, (0 : Int) ≤ q) : (cheap m ss ps st up c).1 ≤ (cheap m ss qs st up c).1 := by
  obtain ⟨h1, h2, W, h3, h4⟩ := cheap_in (ss := ss) (ps := qs) (st := st) (up := up) hc
  rw [h4]
  exact Int.le_trans (cheap_le h2 h1 h3) (psum_mono ss ps qs W W hl hle h0 fun x _ h => h)
theorem wo_nil (ss : List (Int × Int)) : wo ss [] = ss := by simp [wo]
theorem cheap_so {m : Int} {ss : List (Int × Int)} (g : Good m ss) {ps : List Int} {st up : Bool} (hs : ¬ (st = true ∧ up = true)) {c : Int} (h0 : ∀ q ∈ ps, (0 : Int) ≤ q) {l : List Int} (hl : l.Sublist (rng m)) (hc : c ∈ l) (h : soB m ss st up l = true) : (cheap m ss ps st up c).1 = 0 := by
  have hso : soB m (wo ss []) st up l = true := by rw [wo_nil]; exact h
  obtain ⟨h1, h2, W', h3, h4⟩ := cheap_in (ss := ss) (ps := ps) (st := st) (up := up) (hl.subset hc)
  have hp := psum_pos (ss := ss) h0 W'
  cases hw : wnt m ss st up l with
  | none =>
    have hu : up = false := by
      cases up with
      | false => rfl
      | true =>
        unfold wnt at hw
        split at hw
        · rename_i hg
          rw [Bool.and_eq_true] at hg
          exact absurd ⟨hg.1, rfl⟩ hs
        · cases hw
    rw [want_none g hw hu] at hso
    cases hso
  | some W =>
    have hW : W = [] := List.eq_nil_iff_forall_not_mem.mpr fun p hp => List.not_mem_nil (want_all g hw hso hp)
    have := cheap_le (ps := ps) hc hl hw
    rw [hW, psum_nil] at this
    omega
theorem cheap_qu {m : Int} {ss : List (Int × Int)} {ps : List Int} {c : Int} (hc : c ∈ rng m) (h0 : ∀ q ∈ ps, (0 : Int) ≤ q) : (cheap m ss ps false false c).1 ≤ (cheap m ss ps false true c).1 := by
  obtain ⟨h1, h2, W, h3, h4⟩ := cheap_in (ss := ss) (ps := ps) (st := false) (up := true) hc
  rw [h4]
  refine Int.le_trans (cheap_le (W := ss.filter (wantB ss false (cheap m ss ps false true c).2)) h2 h1 (by rw [wnt]; rfl)) (psum_up h0 fun x hx => ?_)
  rw [wnt, Bool.false_and, if_neg (by decide)] at h3
  cases h3
  obtain ⟨e1, e2⟩ := List.mem_filter.mp hx
  refine List.mem_filter.mpr ⟨e1, ?_⟩
  simp only [wantB, Bool.false_and, Bool.or_false, Bool.and_eq_true] at e2
  simp [wantB, of_decide_eq_true e2.1, of_decide_eq_true e2.2]
theorem cheap_us {m : Int} {ss : List (Int × Int)} (g : Good m ss) {ps : List Int} {c : Int} (hc : c ∈ rng m) (h0 : ∀ q ∈ ps, (0 : Int) ≤ q) : (cheap m ss ps false true c).1 ≤ (cheap m ss ps true false c).1 := by
  obtain ⟨h1, h2, W, h3, h4⟩ := cheap_in (ss := ss) (ps := ps) (st := true) (up := false) hc
  rw [h4]
  refine Int.le_trans (cheap_le (W := ss.filter (wantB ss true (cheap m ss ps true false c).2)) h2 h1 (by rw [wnt]; rfl)) (psum_up h0 fun x hx => ?_)
  unfold wnt at h3
  split at h3
  · cases h3
  · rename_i hg
    simp only [Bool.true_and, Bool.not_eq_true] at hg
    cases h3
    obtain ⟨e1, e2⟩ := List.mem_filter.mp hx
    refine List.mem_filter.mpr ⟨e1, ?_⟩
    simp only [wantB, Bool.true_and, Bool.and_eq_true, Bool.or_eq_true, decide_eq_true_eq, Bool.not_eq_true', decide_eq_false_iff_not] at e2
    rcases e2.2 with h | h
    · simp [wantB, h, e2.1]
    · by_cases hx1 : x.1 ∈ (cheap m ss ps true false c).2
      · simp [wantB, hx1, e2.1]
      · exact absurd (gap_no hg (mem_rng.mpr (g.win _ e1).1) hx1) h
theorem sortable_row (q : Int × List Int) : sortable (rowT q) = true := by
  have hp := plain_ints q.2
  have hd := depth_tI q.2
  have hb : beqD (rowT q) .none = false := rfl
  rw [sortable, hb]
  have h1 : (rowT q).depth ≤ 64 := by
    simp only [rowT, PyData.depth, PyData.depthAll, hd]
    decide
  have h2 : (rowT q).plain = true := by simp [rowT, PyData.plain, PyData.plainAll, tI, hp]
  simp [h1, h2]
theorem rows_alike (rs : List (Int × List Int)) : allAlike (rs.map rowT) = true := by
  refine List.all_eq_true.mpr fun a ha => List.all_eq_true.mpr fun b hb => ?_
  obtain ⟨x, _, rfl⟩ := List.mem_map.mp ha
  obtain ⟨y, _, rfl⟩ := List.mem_map.mp hb
  exact encR.al x y
/-- min of rows -/
theorem min_rows {S : Store} {v : MV} : ∀ {rs : List (Int × List Int)}, rs ≠ [] → listOf S v = some ((rs.map rowT).map .d) → biMin1 [v] S = some (.d (rowT (leastOf rs)), S)
  | [], h, _ => absurd rfl h
  | x :: xs, _, e => by
    have hs : ((x :: xs).map rowT).all sortable = true := List.all_eq_true.mpr fun a ha => by
      obtain ⟨y, _, rfl⟩ := List.mem_map.mp ha
      exact sortable_row y
    have ha := rows_alike (x :: xs)
    rw [List.map_cons] at ha hs
    have hp := pures_of ((x :: xs).map rowT)
    simp only [List.map_cons] at hp
    unfold biMin1
    simp only [e, hp, List.map_cons, ha, hs, Bool.and_self, if_true, minBy_map]
    rfl
end TM
end
section
set_option Elab.async false
set_option linter.all false
set_option autoImplicit false
set_option maxRecDepth 1000000
set_option maxHeartbeats 2000000
/-! TM: loops that keep a thing; how often a law's turn is taken. -/
namespace TM
open PySem (PyData Str)
theorem go_inv {f : MV → Env → Store → Option Fl} (Iv : Env → Store → Prop) : ∀ (items : List MV) (ρ : Env) (S : Store), Iv ρ S → (∀ v ρ S, v ∈ items → Iv ρ S → ∃ ρ' S', f v ρ S = some (.nx ρ' S') ∧ Iv ρ' S') → ∃ ρ' S', forGo [] f items ρ S = some (.nx ρ' S') ∧ Iv ρ' S'
  | [], ρ, S, h0, _ => ⟨ρ, S, rfl, h0⟩
  | v :: vs, ρ, S, h0, h => by
    obtain ⟨ρ1, S1, e1, i1⟩ := h v ρ S List.mem_cons_self h0
    obtain ⟨ρ2, S2, e2, i2⟩ := go_inv Iv vs ρ1 S1 i1 fun w ρ S hw => h w ρ S (List.mem_cons_of_mem _ hw)
    refine ⟨ρ2, S2, ?_, i2⟩
    simp only [forGo, stab, if_true, e1, obind, e2]
theorem fr_inv {C : CallF} {t : Tg} {it : It} {body : Sms} {ρ : Env} {S : Store} {items : List MV} (Iv : Env → Store → Prop) (hi : evI C it ρ S = some (items, [], S)) (h0 : Iv ρ S)
    (h : ∀ v ρ S, v ∈ items → Iv ρ S → ∃ ρ' S', ((asg C t v ρ S).bind fun q => evSs C body q.1 q.2) = some (.nx ρ' S') ∧ Iv ρ' S') : ∃ ρ' S', evS C (.fr t it body) ρ S = some (.nx ρ' S') ∧ Iv ρ' S' := by
  rw [eS_fr, hi]
  exact go_inv Iv items ρ S h0 h
theorem times_of (len : Nat) : ∃ K : Nat, 1 ≤ K ∧ K ≤ 2 ∧ ∀ S : Store, (biMin2 [.d (.int 2), .d (.int len)] S).bind (fun p => biMax2 [.d (.int 1), p.1] p.2) = some (.d (.int (K : Int)), S) := by
  by_cases h2 : len < 2
  · refine ⟨1, by omega, by omega, fun S => ?_⟩
    simp only [biMin2, biMax2, Option.bind_some]
    rw [if_pos (show (len : Int) < 2 by omega), if_neg (show ¬ ((len : Int) > 1) by omega)]
    rfl
  · refine ⟨2, by omega, by omega, fun S => ?_⟩
    simp only [biMin2, biMax2, Option.bind_some]
    rw [if_neg (show ¬ ((len : Int) < 2) by omega), if_pos (show (2 : Int) > 1 by omega)]
    rfl
theorem turns_are (C : CallF) (ns : List Int) (K : Nat) (hK0 : 1 ≤ K) (hK : K ≤ 2) (hk : ∀ S : Store, (biMin2 [.d (.int 2), .d (.int ns.length)] S).bind (fun p => biMax2 [.d (.int 1), p.1] p.2) = some (.d (.int (K : Int)), S)) (v : Option MV) (S : Store) : evI C (.rng (.cons (.bi .max2 false (.cons (.c (.int 1)) (.cons (.bi .min2 false (.cons (.c (.int 2)) (.cons (.bi .len false (.cons (.v 0) .nil)) .nil))) .nil))) .nil)) [some (.d (scrD ns)), v] S = some ((ups 0 K).map (fun n => .d (.int n)), [], S) := by
  have e := rngI_ok (m := (K : Int)) (by omega) (by omega)
  rw [rng, Int.toNat_natCast] at e
  have e1 : evE C (.bi .len false (.cons (.v 0) .nil)) [some (.d (scrD ns)), v] S = some (.d (.int ns.length), S) := by
    rw [eE_bi, eEs_cons, eE_v]
    show biLen [.d (scrD ns)] S = _
    exact scr_len
  have e2 : evE C (.bi .min2 false (.cons (.c (.int 2)) (.cons (.bi .len false (.cons (.v 0) .nil)) .nil))) [some (.d (scrD ns)), v] S = biMin2 [.d (.int 2), .d (.int ns.length)] S := by
    rw [eE_bi, eEs_cons, eE_c, obind, eEs_cons, e1]
    rfl
  have e3 : evE C (.bi .max2 false (.cons (.c (.int 1)) (.cons (.bi .min2 false (.cons (.c (.int 2)) (.cons (.bi .len false (.cons (.v 0) .nil)) .nil))) .nil))) [some (.d (scrD ns)), v] S = (biMin2 [.d (.int 2), .d (.int ns.length)] S).bind (fun p => biMax2 [.d (.int 1), p.1] p.2) := by
    rw [eE_bi, eEs_cons, eE_c, obind, eEs_cons, e2]
    cases biMin2 [.d (.int 2), .d (.int ns.length)] S <;> rfl
  rw [eI_rng, eEs_cons, e3, hk, obind, eEs_nil, obind, obind, show rangeOf [.d (.int (K : Int))] = some (0, (K : Int)) from rfl, obind, e]
  rfl
end TM
end
section
set_option Elab.async false
set_option linter.all false
set_option maxRecDepth 1000000
namespace K05
open TM PySem
def f_is_integer : Fi := { name := "is_integer", ps := ["value"], io := 0, N := ["value"], body := .cons (.ret (.and (.bi (.isi [.int]) false (.cons (.v 0) .nil)) (.not (.bi (.isi [.bool]) false (.cons (.v 0) .nil))))) .nil }
def f_is_within : Fi := { name := "is_within", ps := ["value", "least", "most"], io := 0, N := ["value", "least", "most"], body := .cons (.ret (.and (.call false 0 0 1 [] [] (.cons (.v 0) .nil)) (.chain .le .le (.v 1) (.v 0) (.v 2)))) .nil }
def f_is_tuple : Fi := { name := "is_tuple", ps := ["value", "many"], io := 0, N := ["value", "many"], body := .cons (.ret (.and (.bi (.isi [.tuple]) false (.cons (.v 0) .nil)) (.cmp .eq (.bi .len false (.cons (.v 0) .nil)) (.v 1)))) .nil }
def f_is_strike_among : Fi := { name := "is_strike_among", ps := ["many", "value"], io := 0, N := ["many", "value", "one"], body := .cons (.ret (.and (.call false 2 0 2 [] [] (.cons (.v 1) (.cons (.c (.int 2)) .nil))) (.bi .all false (.cons (.lc false [2] (.nm 2) (.seq (.v 1)) .tt (.call false 1 0 3 [] [] (.cons (.v 2) (.cons (.c (.int 0)) (.cons (.bin false .sub (.v 0) (.c (.int 1))) .nil))))) .nil)))) .nil }
def f_is_dispute_any : Fi := { name := "is_dispute_any", ps := ["value"], io := 0, N := ["value", "one", "near", "far"], body := .cons (.ifs (.or (.not (.e (.call false 2 0 2 [] [] (.cons (.v 0) (.cons (.c (.int 3)) .nil))))) (.or (.not (.e (.bi (.isi [.str]) false (.cons (.idx (.v 0) (.c (.int 0))) .nil)))) (.cmp .ne (.idx (.v 0) (.c (.int 0))) (.g "DISPUTE" (.str "dispute"))))) (.cons (.ret (.c (.bool false))) .nil) (.nil)) (.cons (.ifs (.or (.not (.e (.call false 1 0 3 [] [] (.cons (.idx (.v 0) (.c (.int 1))) (.cons (.c (.int 1)) (.cons (.g "MOST_CLAIMS" (.int 10)) .nil)))))) (.not (.e (.bi (.isi [.tuple]) false (.cons (.idx (.v 0) (.c (.int 2))) .nil))))) (.cons (.ret (.c (.bool false))) .nil) (.nil)) (.cons (.ifs (.not (.e (.bi .all false (.cons (.lc false [1] (.nm 1) (.seq (.idx (.v 0) (.c (.int 2)))) .tt (.call false 3 0 2 [] [] (.cons (.idx (.v 0) (.c (.int 1))) (.cons (.v 1) .nil)))) .nil)))) (.cons (.ret (.c (.bool false))) .nil) (.nil)) (.cons (.ret (.bi .all false (.cons (.lc false [2, 3] (.tp (.cons (.nm 2) (.cons (.nm 3) .nil))) (.zip (.idx (.v 0) (.c (.int 2))) (.sli false (.idx (.v 0) (.c (.int 2))) (.c (.int 1)) .nil)) .tt (.cmp .lt (.v 2) (.v 3))) .nil))) .nil))) }
def f_is_claim_of : Fi := { name := "is_claim_of", ps := ["dispute", "value"], io := 0, N := ["dispute", "value"], body := .cons (.ret (.call false 1 0 3 [] [] (.cons (.v 1) (.cons (.c (.int 0)) (.cons (.bin false .sub (.idx (.v 0) (.c (.int 1))) (.c (.int 1))) .nil))))) .nil }
def f_want_dispute : Fi := { name := "want_dispute", ps := ["dispute"], io := 0, N := ["dispute"], body := .cons (.ifs (.not (.e (.call false 4 0 1 [] [] (.cons (.v 0) .nil)))) (.cons .never .nil) (.nil)) .nil }
def f_want_claim : Fi := { name := "want_claim", ps := ["dispute", "claim"], io := 0, N := ["dispute", "claim"], body := .cons (.ifs (.not (.e (.call false 5 0 2 [] [] (.cons (.v 0) (.cons (.v 1) .nil))))) (.cons .never .nil) (.nil)) .nil }
def f_struck_by : Fi := { name := "struck_by", ps := ["dispute", "lot"], io := 0, N := ["dispute", "lot", "claim", "struck"], body := .cons (.ret (.bi .sortedSet false (.cons (.lc false [2, 3] (.tp (.cons (.nm 2) (.cons (.nm 3) .nil))) (.seq (.idx (.v 0) (.c (.int 2)))) (.cmp .inS (.v 2) (.v 1)) (.v 3)) .nil))) .nil }
def f_wanted_of : Fi := { name := "wanted_of", ps := ["dispute", "aim", "lot"], io := 0, N := ["dispute", "aim", "lot", "struck", "found", "claim", "one"], body := .cons (.set (.nm 3) (.call false 8 0 2 [] [] (.cons (.v 0) (.cons (.v 2) .nil)))) (.cons (.ifs (.and (.cmp .eq (.v 1) (.g "SETTLED" (.str "settled"))) (.e (.bi .any false (.cons (.lc false [5] (.nm 5) (.rng (.cons (.idx (.v 0) (.c (.int 1))) .nil)) .tt (.and (.cmp .niS (.v 5) (.v 2)) (.cmp .niS (.v 5) (.v 3)))) .nil)))) (.cons (.ret (.c .none)) .nil) (.nil)) (.cons (.set (.nm 4) (.lst true (.nil))) (.cons (.fr (.tp (.cons (.nm 5) (.cons (.nm 6) .nil))) (.seq (.idx (.v 0) (.c (.int 2)))) (.cons (.ifs (.and (.cmp .inS (.v 6) (.v 2)) (.or (.cmp .inS (.v 5) (.v 2)) (.and (.cmp .eq (.v 1) (.g "UPHELD" (.str "upheld"))) (.cmp .niS (.v 5) (.v 3))))) (.cons (.ex (.met .append false (.v 4) (.cons (.tup (.cons (.v 5) (.cons (.v 6) .nil))) .nil))) .nil) (.nil)) .nil)) (.cons (.ret (.v 4)) .nil)))) }
def f_sum_of : Fi := { name := "sum_of", ps := ["dispute", "prices", "strikes"], io := 0, N := ["dispute", "prices", "strikes", "strike", "price"], body := .cons (.ret (.bi .sum false (.cons (.lc false [3, 4] (.tp (.cons (.nm 3) (.cons (.nm 4) .nil))) (.zip (.idx (.v 0) (.c (.int 2))) (.v 1)) (.cmp .inS (.v 3) (.v 2)) (.v 4)) .nil))) .nil }
def f_price_of : Fi := { name := "price_of", ps := ["dispute", "prices", "aim", "lot"], io := 0, N := ["dispute", "prices", "aim", "lot", "strikes"], body := .cons (.set (.nm 4) (.call false 9 0 3 [] [] (.cons (.v 0) (.cons (.v 2) (.cons (.v 3) .nil))))) (.cons (.ret (.ife (.cmp .isS (.v 4) (.c .none)) (.c .none) (.call false 10 0 3 [] [] (.cons (.v 0) (.cons (.v 1) (.cons (.v 4) .nil)))))) .nil) }
def f_all_lots : Fi := { name := "all_lots", ps := ["many"], io := 0, N := ["many", "found", "claim", "lot"], body := .cons (.set (.nm 1) (.lst false (.cons (.tup (.nil)) .nil))) (.cons (.fr (.nm 2) (.rng (.cons (.v 0) .nil)) (.cons (.set (.nm 1) (.bin false .add (.v 1) (.lc false [3] (.nm 3) (.seq (.v 1)) .tt (.bin false .add (.v 3) (.tup (.cons (.v 2) .nil)))))) .nil)) (.cons (.ret (.bi .sorted false (.cons (.v 1) .nil))) .nil)) }
def f_cheapest_of : Fi := { name := "cheapest_of", ps := ["dispute", "prices", "aim", "claim"], io := 0, N := ["dispute", "prices", "aim", "claim", "found", "lot", "price"], body := .cons (.set (.nm 4) (.lst true (.nil))) (.cons (.fr (.nm 5) (.seq (.call false 12 0 1 [] [] (.cons (.idx (.v 0) (.c (.int 1))) .nil))) (.cons (.set (.nm 6) (.ife (.cmp .inS (.v 3) (.v 5)) (.call false 11 0 4 [] [] (.cons (.v 0) (.cons (.v 1) (.cons (.v 2) (.cons (.v 5) .nil))))) (.c .none))) (.cons (.ex (.met .extend false (.v 4) (.cons (.ife (.cmp .isN (.v 6) (.c .none)) (.lst false (.cons (.tup (.cons (.v 6) (.cons (.bi .len false (.cons (.v 5) .nil)) (.cons (.v 5) .nil)))) .nil)) (.lst false (.nil))) .nil))) .nil))) (.cons (.ret (.bi .min1 false (.cons (.v 4) .nil))) .nil)) }
def f_want_aim : Fi := { name := "want_aim", ps := ["aim"], io := 0, N := ["aim"], body := .cons (.ifs (.or (.not (.e (.bi (.isi [.str]) false (.cons (.v 0) .nil)))) (.cmp .niS (.v 0) (.g "AIMS" (.tuple [.str "quiet", .str "upheld", .str "settled"])))) (.cons .never .nil) (.nil)) .nil }
def f_want_prices : Fi := { name := "want_prices", ps := ["dispute", "prices", "aim"], io := 0, N := ["dispute", "prices", "aim", "one"], body := .cons (.ex (.call false 6 0 1 [] [] (.cons (.v 0) .nil))) (.cons (.ifs (.or (.not (.e (.call false 2 0 2 [] [] (.cons (.v 1) (.cons (.bi .len false (.cons (.idx (.v 0) (.c (.int 2))) .nil)) .nil))))) (.not (.e (.bi .all false (.cons (.lc false [3] (.nm 3) (.seq (.v 1)) .tt (.call false 1 0 3 [] [] (.cons (.v 3) (.cons (.c (.int 0)) (.cons (.g "MOST_PRICE" (.int 9)) .nil))))) .nil))))) (.cons .never .nil) (.nil)) (.cons (.ex (.call false 14 0 1 [] [] (.cons (.v 2) .nil))) .nil)) }
def f_claim_price : Fi := { name := "claim_price", ps := ["dispute", "prices", "aim", "claim"], io := 0, N := ["dispute", "prices", "aim", "claim"], body := .cons (.ex (.call false 15 0 3 [] [] (.cons (.v 0) (.cons (.v 1) (.cons (.v 2) .nil))))) (.cons (.ex (.call false 7 0 2 [] [] (.cons (.v 0) (.cons (.v 3) .nil)))) (.cons (.ret (.idx (.call false 13 0 4 [] [] (.cons (.v 0) (.cons (.v 1) (.cons (.v 2) (.cons (.v 3) .nil))))) (.c (.int 0)))) .nil)) }
def f_cheapest_lot : Fi := { name := "cheapest_lot", ps := ["dispute", "prices", "aim", "claim"], io := 0, N := ["dispute", "prices", "aim", "claim"], body := .cons (.ex (.call false 15 0 3 [] [] (.cons (.v 0) (.cons (.v 1) (.cons (.v 2) .nil))))) (.cons (.ex (.call false 7 0 2 [] [] (.cons (.v 0) (.cons (.v 3) .nil)))) (.cons (.ret (.idx (.call false 13 0 4 [] [] (.cons (.v 0) (.cons (.v 1) (.cons (.v 2) (.cons (.v 3) .nil))))) (.c (.int 2)))) .nil)) }
def f__law_pot : Fi := { name := "_law_pot", ps := ["script", "k"], io := 0, N := ["script", "k", "cell"], body := .cons (.set (.nm 2) (.ife (.cmp .lt (.v 1) (.bi .len false (.cons (.v 0) .nil))) (.bi .abs false (.cons (.idx (.v 0) (.v 1)) .nil)) (.bin false .add (.bin false .mul (.c (.int 7333)) (.v 1)) (.c (.int 997))))) (.cons (.ret (.lst false (.cons (.bi .max2 false (.cons (.c (.int 0)) (.cons (.bin false .sub (.v 2) (.bin false .pow (.c (.int 10)) (.c (.int 18)))) .nil))) (.cons (.bin false .add (.bin false .mod (.bi .int false (.cons (.bin false .add (.bin false .add (.bin false .mul (.bin false .mod (.bi .int false (.cons (.v 2) .nil)) (.c (.int 2147483549))) (.c (.int 40692))) (.bin false .mul (.c (.int 7333)) (.v 1))) (.c (.int 997))) .nil)) (.c (.int 2147483563))) (.c (.int 1))) .nil)))) .nil) }
def f__law_draw : Fi := { name := "_law_draw", ps := ["pot", "many"], io := 1, N := ["pot", "many", "digit"], body := .cons (.ifs (.cmp .gt (.idx (.v 0) (.c (.int 0))) (.c (.int 0))) (.cons (.set (.tp (.cons (.sub (.v 0) (.c (.int 0))) (.cons (.nm 2) .nil))) (.bi .divmod false (.cons (.idx (.v 0) (.c (.int 0))) (.cons (.v 1) .nil)))) (.cons (.ret (.v 2)) .nil)) (.nil)) (.cons (.set (.sub (.v 0) (.c (.int 1))) (.bin false .mod (.bi .int false (.cons (.bin false .add (.bin false .mul (.idx (.v 0) (.c (.int 1))) (.c (.int 39373))) (.c (.int 7349))) .nil)) (.c (.int 2147483587)))) (.cons (.ret (.bin false .mod (.bi .int false (.cons (.bin false .fdiv (.bin false .mod (.bi .int false (.cons (.bin false .mul (.idx (.v 0) (.c (.int 1))) (.idx (.v 0) (.c (.int 1)))) .nil)) (.c (.int 2147483549))) (.c (.int 577))) .nil)) (.v 1))) .nil)) }
def f__law_pick : Fi := { name := "_law_pick", ps := ["pot", "some"], io := 1, N := ["pot", "some"], body := .cons (.ret (.idx (.v 1) (.call false 19 1 2 [] [] (.cons (.v 0) (.cons (.bi .len false (.cons (.v 1) .nil)) .nil))))) .nil }
def f__law_dispute : Fi := { name := "_law_dispute", ps := ["pot", "most"], io := 1, N := ["pot", "most", "found", "claim", "many", "share", "struck"], body := .cons (.par [4, 5] (.cons (.bin false .add (.c (.int 1)) (.call false 19 1 2 [] [] (.cons (.v 0) (.cons (.v 1) .nil)))) (.cons (.call false 20 1 2 [] [] (.cons (.v 0) (.cons (.lst false (.cons (.c (.int 3)) (.cons (.c (.int 3)) (.cons (.c (.int 4)) (.cons (.c (.int 2)) (.cons (.c (.int 6)) .nil)))))) .nil))) .nil))) (.cons (.set (.nm 2) (.lst true (.nil))) (.cons (.fr (.nm 3) (.rng (.cons (.v 4) .nil)) (.cons (.fr (.nm 6) (.rng (.cons (.v 4) .nil)) (.cons (.ifs (.cmp .eq (.call false 19 1 2 [] [] (.cons (.v 0) (.cons (.ife (.cmp .ne (.v 3) (.v 6)) (.v 5) (.bin false .mul (.c (.int 3)) (.v 5))) .nil))) (.c (.int 0))) (.cons (.ex (.met .append false (.v 2) (.cons (.tup (.cons (.v 3) (.cons (.v 6) .nil))) .nil))) .nil) (.nil)) .nil)) .nil)) (.cons (.ret (.tup (.cons (.c (.str "dispute")) (.cons (.v 4) (.cons (.bi .tuple false (.cons (.v 2) .nil)) .nil))))) .nil))) }
def f__law_strikers : Fi := { name := "_law_strikers", ps := ["dispute"], io := 0, N := ["dispute", "struck", "claim"], body := .cons (.ret (.lc false [1] (.nm 1) (.rng (.cons (.idx (.v 0) (.c (.int 1))) .nil)) .tt (.lc false [2] (.nm 2) (.rng (.cons (.idx (.v 0) (.c (.int 1))) .nil)) (.cmp .inS (.tup (.cons (.v 2) (.cons (.v 1) .nil))) (.idx (.v 0) (.c (.int 2)))) (.v 2)))) .nil }
def f__law_is_quiet : Fi := { name := "_law_is_quiet", ps := ["dispute", "lot"], io := 0, N := ["dispute", "lot", "claim", "struck"], body := .cons (.ret (.not (.bi .any false (.cons (.lc false [2, 3] (.tp (.cons (.nm 2) (.cons (.nm 3) .nil))) (.seq (.idx (.v 0) (.c (.int 2)))) .tt (.and (.cmp .inS (.v 2) (.v 1)) (.cmp .inS (.v 3) (.v 1)))) .nil)))) .nil }
def f__law_prices : Fi := { name := "_law_prices", ps := ["pot", "dispute"], io := 1, N := ["pot", "dispute", "strike"], body := .cons (.ret (.bi .tuple false (.cons (.lc false [2] (.nm 2) (.seq (.idx (.v 1) (.c (.int 2)))) .tt (.call false 19 1 2 [] [] (.cons (.v 0) (.cons (.call false 20 1 2 [] [] (.cons (.v 0) (.cons (.lst false (.cons (.c (.int 2)) (.cons (.c (.int 4)) (.cons (.c (.int 10)) .nil)))) .nil))) .nil)))) .nil))) .nil }
def f__law_without : Fi := { name := "_law_without", ps := ["dispute", "strikes"], io := 0, N := ["dispute", "strikes", "one"], body := .cons (.ret (.tup (.cons (.c (.str "dispute")) (.cons (.idx (.v 0) (.c (.int 1))) (.cons (.bi .tuple false (.cons (.lc false [2] (.nm 2) (.seq (.idx (.v 0) (.c (.int 2)))) (.cmp .niS (.v 2) (.v 1)) (.v 2)) .nil)) .nil))))) .nil }
def f__law_is_so : Fi := { name := "_law_is_so", ps := ["dispute", "aim", "lot"], io := 0, N := ["dispute", "aim", "lot", "strikers", "claim", "one", "other"], body := .cons (.set (.nm 3) (.call false 22 0 1 [] [] (.cons (.v 0) .nil))) (.cons (.ifs (.not (.e (.call false 23 0 2 [] [] (.cons (.v 0) (.cons (.v 2) .nil))))) (.cons (.ret (.c (.bool false))) .nil) (.nil)) (.cons (.ifs (.cmp .eq (.v 1) (.c (.str "upheld"))) (.cons (.ret (.bi .all false (.cons (.lc false [4] (.nm 4) (.seq (.v 2)) .tt (.bi .all false (.cons (.lc false [5] (.nm 5) (.seq (.idx (.v 3) (.v 4))) .tt (.bi .any false (.cons (.lc false [6] (.nm 6) (.seq (.idx (.v 3) (.v 5))) .tt (.cmp .inS (.v 6) (.v 2))) .nil))) .nil))) .nil))) .nil) (.nil)) (.cons (.ifs (.cmp .eq (.v 1) (.c (.str "settled"))) (.cons (.ret (.bi .all false (.cons (.lc false [4] (.nm 4) (.rng (.cons (.idx (.v 0) (.c (.int 1))) .nil)) .tt (.or (.cmp .inS (.v 4) (.v 2)) (.bi .any false (.cons (.lc false [5] (.nm 5) (.seq (.idx (.v 3) (.v 4))) .tt (.cmp .inS (.v 5) (.v 2))) .nil)))) .nil))) .nil) (.nil)) (.cons (.ret (.c (.bool true))) .nil)))) }
def f__law_sum : Fi := { name := "_law_sum", ps := ["dispute", "prices", "strikes"], io := 0, N := ["dispute", "prices", "strikes", "one", "price"], body := .cons (.ret (.bi .sum false (.cons (.lc false [3, 4] (.tp (.cons (.nm 3) (.cons (.nm 4) .nil))) (.zip (.idx (.v 0) (.c (.int 2))) (.v 1)) (.cmp .inS (.v 3) (.v 2)) (.v 4)) .nil))) .nil }
def f__law_wanted : Fi := { name := "_law_wanted", ps := ["dispute", "aim", "lot"], io := 0, N := ["dispute", "aim", "lot", "strikers", "found", "claim", "struck", "one"], body := .cons (.parT (.cons (.nm 3) (.cons (.nm 4) .nil)) (.cons (.call false 22 0 1 [] [] (.cons (.v 0) .nil)) (.cons (.lst true (.nil)) .nil))) (.cons (.ifs (.and (.cmp .eq (.v 1) (.c (.str "settled"))) (.e (.bi .any false (.cons (.lc false [5] (.nm 5) (.rng (.cons (.idx (.v 0) (.c (.int 1))) .nil)) .tt (.and (.cmp .niS (.v 5) (.v 2)) (.not (.bi .any false (.cons (.lc false [7] (.nm 7) (.seq (.idx (.v 3) (.v 5))) .tt (.cmp .inS (.v 7) (.v 2))) .nil))))) .nil)))) (.cons (.ret (.c .none)) .nil) (.nil)) (.cons (.fr (.tp (.cons (.nm 5) (.cons (.nm 6) .nil))) (.seq (.idx (.v 0) (.c (.int 2)))) (.cons (.ifs (.and (.cmp .inS (.v 6) (.v 2)) (.or (.cmp .inS (.v 5) (.v 2)) (.and (.cmp .eq (.v 1) (.c (.str "upheld"))) (.not (.e (.bi .any false (.cons (.lc false [7] (.nm 7) (.seq (.idx (.v 3) (.v 5))) .tt (.cmp .inS (.v 7) (.v 2))) .nil))))))) (.cons (.ex (.met .append false (.v 4) (.cons (.tup (.cons (.v 5) (.cons (.v 6) .nil))) .nil))) .nil) (.nil)) .nil)) (.cons (.ret (.v 4)) .nil))) }
def f__law_lots : Fi := { name := "_law_lots", ps := ["many"], io := 0, N := ["many", "found", "one", "lot"], body := .cons (.set (.nm 1) (.lst false (.cons (.tup (.nil)) .nil))) (.cons (.fr (.nm 2) (.rng (.cons (.v 0) .nil)) (.cons (.set (.nm 1) (.bin false .add (.v 1) (.lc false [3] (.nm 3) (.seq (.v 1)) .tt (.bin false .add (.v 3) (.tup (.cons (.v 2) .nil)))))) .nil)) (.cons (.ret (.v 1)) .nil)) }
def f__law_cheapest : Fi := { name := "_law_cheapest", ps := ["dispute", "prices", "aim", "claim"], io := 0, N := ["dispute", "prices", "aim", "claim", "found", "lot", "strikes"], body := .cons (.set (.nm 4) (.lst true (.nil))) (.cons (.fr (.nm 5) (.seq (.call false 29 0 1 [] [] (.cons (.idx (.v 0) (.c (.int 1))) .nil))) (.cons (.set (.nm 6) (.ife (.cmp .inS (.v 3) (.v 5)) (.call false 28 0 3 [] [] (.cons (.v 0) (.cons (.v 2) (.cons (.v 5) .nil)))) (.c .none))) (.cons (.ex (.met .extend false (.v 4) (.cons (.ife (.cmp .isN (.v 6) (.c .none)) (.lst false (.cons (.tup (.cons (.call false 27 0 3 [] [] (.cons (.v 0) (.cons (.v 1) (.cons (.v 6) .nil)))) (.cons (.bi .len false (.cons (.v 5) .nil)) (.cons (.v 5) .nil)))) .nil)) (.lst false (.nil))) .nil))) .nil))) (.cons (.ret (.bi .min1 false (.cons (.v 4) .nil))) .nil)) }
def f__law_right : Fi := { name := "_law_right", ps := ["pot"], io := 1, N := ["pot", "dispute", "more", "claim", "prices", "shown", "costs", "aim", "least", "price", "lot"], body := .cons (.set (.nm 1) (.call false 21 1 2 [] [] (.cons (.v 0) (.cons (.c (.int 6)) .nil)))) (.cons (.par [4, 5] (.cons (.call false 24 1 2 [] [] (.cons (.v 0) (.cons (.v 1) .nil))) (.cons (.bi .repr false (.cons (.v 1) .nil)) .nil))) (.cons (.set (.nm 2) (.bi .tuple false (.cons (.lc false [9] (.nm 9) (.seq (.v 4)) .tt (.bi .min2 false (.cons (.c (.int 9)) (.cons (.bin false .add (.v 9) (.call false 19 1 2 [] [] (.cons (.v 0) (.cons (.c (.int 3)) .nil)))) .nil)))) .nil))) (.cons (.fr (.nm 3) (.rng (.cons (.idx (.v 1) (.c (.int 1))) .nil)) (.cons (.set (.nm 6) (.lst true (.nil))) (.cons (.fr (.nm 7) (.seq (.lst false (.cons (.c (.str "quiet")) (.cons (.c (.str "upheld")) (.cons (.c (.str "settled")) .nil))))) (.cons (.set (.nm 8) (.call false 30 0 4 [] [] (.cons (.v 1) (.cons (.v 4) (.cons (.v 7) (.cons (.v 3) .nil)))))) (.cons (.ifs (.cmp .ne (.bi .repr false (.cons (.lst false (.cons (.call false 16 0 4 [] [] (.cons (.v 1) (.cons (.v 4) (.cons (.v 7) (.cons (.v 3) .nil))))) (.cons (.call false 16 0 0 ["claim", "aim", "prices", "dispute"] [3, 2, 1, 0] (.cons (.v 3) (.cons (.v 7) (.cons (.v 4) (.cons (.v 1) .nil))))) .nil))) .nil)) (.bi .repr false (.cons (.bin false .mul (.lst false (.cons (.idx (.v 8) (.c (.int 0))) .nil)) (.c (.int 2))) .nil))) (.cons (.ret (.c (.bool false))) .nil) (.nil)) (.cons (.ifs (.cmp .ne (.bi .repr false (.cons (.lst false (.cons (.call false 17 0 4 [] [] (.cons (.v 1) (.cons (.v 4) (.cons (.v 7) (.cons (.v 3) .nil))))) (.cons (.call false 17 0 0 ["claim", "aim", "prices", "dispute"] [3, 2, 1, 0] (.cons (.v 3) (.cons (.v 7) (.cons (.v 4) (.cons (.v 1) .nil))))) .nil))) .nil)) (.bi .repr false (.cons (.bin false .mul (.lst false (.cons (.idx (.v 8) (.c (.int 2))) .nil)) (.c (.int 2))) .nil))) (.cons (.ret (.c (.bool false))) .nil) (.nil)) (.cons (.ifs (.cmp .lt (.call false 16 0 4 [] [] (.cons (.v 1) (.cons (.v 2) (.cons (.v 7) (.cons (.v 3) .nil))))) (.idx (.v 8) (.c (.int 0)))) (.cons (.ret (.c (.bool false))) .nil) (.nil)) (.cons (.ifs (.and (.e (.bi .any false (.cons (.lc false [10] (.nm 10) (.seq (.call false 29 0 1 [] [] (.cons (.idx (.v 1) (.c (.int 1))) .nil))) .tt (.and (.cmp .inS (.v 3) (.v 10)) (.call false 26 0 3 [] [] (.cons (.v 1) (.cons (.v 7) (.cons (.v 10) .nil)))))) .nil))) (.cmp .ne (.idx (.v 8) (.c (.int 0))) (.c (.int 0)))) (.cons (.ret (.c (.bool false))) .nil) (.nil)) (.cons (.ex (.met .append false (.v 6) (.cons (.idx (.v 8) (.c (.int 0))) .nil))) .nil))))))) (.cons (.ifs (.or (.cmp .gt (.idx (.v 6) (.c (.int 0))) (.idx (.v 6) (.c (.int 1)))) (.cmp .gt (.idx (.v 6) (.c (.int 1))) (.idx (.v 6) (.c (.int 2))))) (.cons (.ret (.c (.bool false))) .nil) (.nil)) .nil)))) (.cons (.ret (.cmp .eq (.bi .repr false (.cons (.v 1) .nil)) (.v 5))) .nil)))) }
def f_law : Fi := { name := "law", ps := ["script"], io := 0, N := ["script", "k"], body := .cons (.ret (.bi .all false (.cons (.lc false [1] (.nm 1) (.rng (.cons (.bi .max2 false (.cons (.c (.int 1)) (.cons (.bi .min2 false (.cons (.c (.int 2)) (.cons (.bi .len false (.cons (.v 0) .nil)) .nil))) .nil))) .nil)) .tt (.call false 31 1 1 [] [] (.cons (.call true 18 0 2 [] [] (.cons (.v 0) (.cons (.v 1) .nil))) .nil))) .nil))) .nil }
def tab : List Fi := f_is_integer :: f_is_within :: f_is_tuple :: f_is_strike_among :: f_is_dispute_any :: f_is_claim_of :: f_want_dispute :: f_want_claim :: f_struck_by :: f_wanted_of :: f_sum_of :: f_price_of :: f_all_lots :: f_cheapest_of :: f_want_aim :: f_want_prices :: f_claim_price :: f_cheapest_lot :: f__law_pot :: f__law_draw :: f__law_pick :: f__law_dispute :: f__law_strikers :: f__law_is_quiet :: f__law_prices :: f__law_without :: f__law_is_so :: f__law_sum :: f__law_wanted :: f__law_lots :: f__law_cheapest :: f__law_right :: f_law :: []
def gs : Gs := { tab := tab, glo := [("AIMS", .tuple [.str "quiet", .str "upheld", .str "settled"]), ("DISPUTE", .str "dispute"), ("MOST_CLAIMS", .int 10), ("MOST_PRICE", .int 9), ("SETTLED", .str "settled"), ("UPHELD", .str "upheld")], bi := ["abs", "all", "any", "bool", "divmod", "int", "isinstance", "len", "max", "min", "range", "repr", "set", "sorted", "str", "sum", "tuple", "zip"], kw := [(16, ["claim", "aim", "prices", "dispute"], [3, 2, 1, 0]), (17, ["claim", "aim", "prices", "dispute"], [3, 2, 1, 0])] }
def places : List Nat := [1, 2, 3, 13, 14, 15, 16, 17, 19, 26, 27, 28, 29, 30, 31, 32, 33, 34, 36, 37, 38, 39, 40, 41, 42, 43, 44, 45, 46, 47, 48, 49, 50]
theorem r_is_integer (n : Nat) (a0 : PyData) : run tab (n + 1) 0 [] [a0] = (evSs (run tab n) f_is_integer.body [some (.d a0)] []).bind (endOf 0) := rfl
theorem r_is_within (n : Nat) (a0 a1 a2 : PyData) : run tab (n + 1) 1 [] [a0, a1, a2] = (evSs (run tab n) f_is_within.body [some (.d a0), some (.d a1), some (.d a2)] []).bind (endOf 0) := rfl
theorem r_is_tuple (n : Nat) (a0 a1 : PyData) : run tab (n + 1) 2 [] [a0, a1] = (evSs (run tab n) f_is_tuple.body [some (.d a0), some (.d a1)] []).bind (endOf 0) := rfl
theorem r_is_strike_among (n : Nat) (a0 a1 : PyData) : run tab (n + 1) 3 [] [a0, a1] = (evSs (run tab n) f_is_strike_among.body [some (.d a0), some (.d a1), none] []).bind (endOf 0) := rfl
theorem r_is_dispute_any (n : Nat) (a0 : PyData) : run tab (n + 1) 4 [] [a0] = (evSs (run tab n) f_is_dispute_any.body [some (.d a0), none, none, none] []).bind (endOf 0) := rfl
theorem r_is_claim_of (n : Nat) (a0 a1 : PyData) : run tab (n + 1) 5 [] [a0, a1] = (evSs (run tab n) f_is_claim_of.body [some (.d a0), some (.d a1)] []).bind (endOf 0) := rfl
theorem r_want_dispute (n : Nat) (a0 : PyData) : run tab (n + 1) 6 [] [a0] = (evSs (run tab n) f_want_dispute.body [some (.d a0)] []).bind (endOf 0) := rfl
theorem r_want_claim (n : Nat) (a0 a1 : PyData) : run tab (n + 1) 7 [] [a0, a1] = (evSs (run tab n) f_want_claim.body [some (.d a0), some (.d a1)] []).bind (endOf 0) := rfl
theorem r_struck_by (n : Nat) (a0 a1 : PyData) : run tab (n + 1) 8 [] [a0, a1] = (evSs (run tab n) f_struck_by.body [some (.d a0), some (.d a1), none, none] []).bind (endOf 0) := rfl
theorem r_wanted_of (n : Nat) (a0 a1 a2 : PyData) : run tab (n + 1) 9 [] [a0, a1, a2] = (evSs (run tab n) f_wanted_of.body [some (.d a0), some (.d a1), some (.d a2), none, none, none, none] []).bind (endOf 0) := rfl
theorem r_sum_of (n : Nat) (a0 a1 a2 : PyData) : run tab (n + 1) 10 [] [a0, a1, a2] = (evSs (run tab n) f_sum_of.body [some (.d a0), some (.d a1), some (.d a2), none, none] []).bind (endOf 0) := rfl
theorem r_price_of (n : Nat) (a0 a1 a2 a3 : PyData) : run tab (n + 1) 11 [] [a0, a1, a2, a3] = (evSs (run tab n) f_price_of.body [some (.d a0), some (.d a1), some (.d a2), some (.d a3), none] []).bind (endOf 0) := rfl
theorem r_all_lots (n : Nat) (a0 : PyData) : run tab (n + 1) 12 [] [a0] = (evSs (run tab n) f_all_lots.body [some (.d a0), none, none, none] []).bind (endOf 0) := rfl
theorem r_cheapest_of (n : Nat) (a0 a1 a2 a3 : PyData) : run tab (n + 1) 13 [] [a0, a1, a2, a3] = (evSs (run tab n) f_cheapest_of.body [some (.d a0), some (.d a1), some (.d a2), some (.d a3), none, none, none] []).bind (endOf 0) := rfl
theorem r_want_aim (n : Nat) (a0 : PyData) : run tab (n + 1) 14 [] [a0] = (evSs (run tab n) f_want_aim.body [some (.d a0)] []).bind (endOf 0) := rfl
theorem r_want_prices (n : Nat) (a0 a1 a2 : PyData) : run tab (n + 1) 15 [] [a0, a1, a2] = (evSs (run tab n) f_want_prices.body [some (.d a0), some (.d a1), some (.d a2), none] []).bind (endOf 0) := rfl
theorem r_claim_price (n : Nat) (a0 a1 a2 a3 : PyData) : run tab (n + 1) 16 [] [a0, a1, a2, a3] = (evSs (run tab n) f_claim_price.body [some (.d a0), some (.d a1), some (.d a2), some (.d a3)] []).bind (endOf 0) := rfl
theorem r_cheapest_lot (n : Nat) (a0 a1 a2 a3 : PyData) : run tab (n + 1) 17 [] [a0, a1, a2, a3] = (evSs (run tab n) f_cheapest_lot.body [some (.d a0), some (.d a1), some (.d a2), some (.d a3)] []).bind (endOf 0) := rfl
theorem r__law_pot (n : Nat) (a0 a1 : PyData) : run tab (n + 1) 18 [] [a0, a1] = (evSs (run tab n) f__law_pot.body [some (.d a0), some (.d a1), none] []).bind (endOf 0) := rfl
theorem r__law_draw (n : Nat) (c0 : List PyData) (a0 : PyData) : run tab (n + 1) 19 [c0] [a0] = (evSs (run tab n) f__law_draw.body [some (.ref 0), some (.d a0), none] [c0.map .d]).bind (endOf 1) := rfl
theorem r__law_pick (n : Nat) (c0 : List PyData) (a0 : PyData) : run tab (n + 1) 20 [c0] [a0] = (evSs (run tab n) f__law_pick.body [some (.ref 0), some (.d a0)] [c0.map .d]).bind (endOf 1) := rfl
theorem r__law_dispute (n : Nat) (c0 : List PyData) (a0 : PyData) : run tab (n + 1) 21 [c0] [a0] = (evSs (run tab n) f__law_dispute.body [some (.ref 0), some (.d a0), none, none, none, none, none] [c0.map .d]).bind (endOf 1) := rfl
theorem r__law_strikers (n : Nat) (a0 : PyData) : run tab (n + 1) 22 [] [a0] = (evSs (run tab n) f__law_strikers.body [some (.d a0), none, none] []).bind (endOf 0) := rfl
theorem r__law_is_quiet (n : Nat) (a0 a1 : PyData) : run tab (n + 1) 23 [] [a0, a1] = (evSs (run tab n) f__law_is_quiet.body [some (.d a0), some (.d a1), none, none] []).bind (endOf 0) := rfl
theorem r__law_prices (n : Nat) (c0 : List PyData) (a0 : PyData) : run tab (n + 1) 24 [c0] [a0] = (evSs (run tab n) f__law_prices.body [some (.ref 0), some (.d a0), none] [c0.map .d]).bind (endOf 1) := rfl
theorem r__law_without (n : Nat) (a0 a1 : PyData) : run tab (n + 1) 25 [] [a0, a1] = (evSs (run tab n) f__law_without.body [some (.d a0), some (.d a1), none] []).bind (endOf 0) := rfl
theorem r__law_is_so (n : Nat) (a0 a1 a2 : PyData) : run tab (n + 1) 26 [] [a0, a1, a2] = (evSs (run tab n) f__law_is_so.body [some (.d a0), some (.d a1), some (.d a2), none, none, none, none] []).bind (endOf 0) := rfl
theorem r__law_sum (n : Nat) (a0 a1 a2 : PyData) : run tab (n + 1) 27 [] [a0, a1, a2] = (evSs (run tab n) f__law_sum.body [some (.d a0), some (.d a1), some (.d a2), none, none] []).bind (endOf 0) := rfl
theorem r__law_wanted (n : Nat) (a0 a1 a2 : PyData) : run tab (n + 1) 28 [] [a0, a1, a2] = (evSs (run tab n) f__law_wanted.body [some (.d a0), some (.d a1), some (.d a2), none, none, none, none, none] []).bind (endOf 0) := rfl
theorem r__law_lots (n : Nat) (a0 : PyData) : run tab (n + 1) 29 [] [a0] = (evSs (run tab n) f__law_lots.body [some (.d a0), none, none, none] []).bind (endOf 0) := rfl
theorem r__law_cheapest (n : Nat) (a0 a1 a2 a3 : PyData) : run tab (n + 1) 30 [] [a0, a1, a2, a3] = (evSs (run tab n) f__law_cheapest.body [some (.d a0), some (.d a1), some (.d a2), some (.d a3), none, none, none] []).bind (endOf 0) := rfl
theorem r__law_right (n : Nat) (c0 : List PyData) : run tab (n + 1) 31 [c0] [] = (evSs (run tab n) f__law_right.body [some (.ref 0), none, none, none, none, none, none, none, none, none, none] [c0.map .d]).bind (endOf 1) := rfl
theorem r_law (n : Nat) (a0 : PyData) : run tab (n + 1) 32 [] [a0] = (evSs (run tab n) f_law.body [some (.d a0), none] []).bind (endOf 0) := rfl
-- top statements: 51
end K05
end
section
set_option Elab.async false
set_option linter.all false
set_option autoImplicit false
set_option maxRecDepth 1000000
set_option maxHeartbeats 2000000
namespace K05
open TM PySem
theorem s_is_integer (n : Nat) (v : Int) : run tab (n + 1) 0 [] [.int v] = some (.bool true, []) := rfl
theorem s_is_within (n : Nat) (v a b : Int) : run tab (n + 2) 1 [] [.int v, .int a, .int b] = some (.bool (decide (a ≤ v) && decide (v ≤ b)), []) := by
  rw [r_is_within]
  simp only [eSs_nil, eS_set, eS_par, eS_parT, eS_ex, eS_ifs, eS_ret, eS_pass, eS_never, eE_v, eE_c, eE_g, eE_tup, eE_lst, eE_bin, eE_neg, eE_cmp, eE_chain, eE_and, eE_or, eE_not, eE_ife, eE_idx, eE_sli, eE_rev, eE_call, eE_callK, eE_bi, eE_met, eEs_nil, eEs_cons, eT_and, eT_or, eT_not, eT_tt, eT_cmp, eT_chain, eT_e, eG_nm, eG_sub, eG_tp, eGs_nil, eGs_cons, setAll, List.set_cons_zero, List.set_cons_succ, obind, omap, List.getElem?_cons_zero, List.getElem?_cons_succ, if_true, Bool.false_eq_true, if_false, biM, tr_bool, tr_int, tr_list, tr_tuple, isi_str, isi_tup, isi_int, isi_bool_int, len_tup, len_list, add_int, sub_int, ix0, ix1, ix2, le_int, lt_int, gt_int, ge_int, eq_int, ne_int, eq_bool, ne_bool, eq_str, ne_str, decide_true, decide_false, Bool.not_true, Bool.not_false, Bool.and_self, Bool.true_and, Bool.and_true, Bool.false_and, call1, call2, call3, call4, wipeE, isNil, partOf, List.map_cons, List.map_nil, f_is_within, s_is_integer, eSs_cons]
  by_cases h : a ≤ v <;> simp [h, endOf, backD, purAll]
theorem s_is_tuple (n : Nat) (xs : List PyData) (k : Int) : run tab (n + 1) 2 [] [.tuple xs, .int k] = some (.bool (decide ((xs.length : Int) = k)), []) := by
  rw [r_is_tuple]
  simp only [eSs_nil, eS_set, eS_par, eS_parT, eS_ex, eS_ifs, eS_ret, eS_pass, eS_never, eE_v, eE_c, eE_g, eE_tup, eE_lst, eE_bin, eE_neg, eE_cmp, eE_chain, eE_and, eE_or, eE_not, eE_ife, eE_idx, eE_sli, eE_rev, eE_call, eE_callK, eE_bi, eE_met, eEs_nil, eEs_cons, eT_and, eT_or, eT_not, eT_tt, eT_cmp, eT_chain, eT_e, eG_nm, eG_sub, eG_tp, eGs_nil, eGs_cons, setAll, List.set_cons_zero, List.set_cons_succ, obind, omap, List.getElem?_cons_zero, List.getElem?_cons_succ, if_true, Bool.false_eq_true, if_false, biM, tr_bool, tr_int, tr_list, tr_tuple, isi_str, isi_tup, isi_int, isi_bool_int, len_tup, len_list, add_int, sub_int, ix0, ix1, ix2, le_int, lt_int, gt_int, ge_int, eq_int, ne_int, eq_bool, ne_bool, eq_str, ne_str, decide_true, decide_false, Bool.not_true, Bool.not_false, Bool.and_self, Bool.true_and, Bool.and_true, Bool.false_and, call1, call2, call3, call4, wipeE, isNil, partOf, List.map_cons, List.map_nil, f_is_tuple, biIsi, biLen, isScrM, isScr, isDict, isTyM, List.any_cons, List.any_nil, isTy, Bool.or_false, itemsOf, List.length_map, eSs_cons]
  rfl
theorem s_is_strike_among (n : Nat) (m : Int) (p : Int × Int) : run tab (n + 3) 3 [] [.int m, pr p] = some (.bool (win (m - 1) p.1 && win (m - 1) p.2), []) := by
  rw [r_is_strike_among]
  simp only [eSs_nil, eS_set, eS_par, eS_parT, eS_ex, eS_ifs, eS_ret, eS_pass, eS_never, eE_v, eE_c, eE_g, eE_tup, eE_lst, eE_bin, eE_neg, eE_cmp, eE_chain, eE_and, eE_or, eE_not, eE_ife, eE_idx, eE_sli, eE_rev, eE_call, eE_callK, eE_bi, eE_met, eEs_nil, eEs_cons, eT_and, eT_or, eT_not, eT_tt, eT_cmp, eT_chain, eT_e, eG_nm, eG_sub, eG_tp, eGs_nil, eGs_cons, setAll, List.set_cons_zero, List.set_cons_succ, obind, omap, List.getElem?_cons_zero, List.getElem?_cons_succ, if_true, Bool.false_eq_true, if_false, biM, tr_bool, tr_int, tr_list, tr_tuple, isi_str, isi_tup, isi_int, isi_bool_int, len_tup, len_list, add_int, sub_int, ix0, ix1, ix2, le_int, lt_int, gt_int, ge_int, eq_int, ne_int, eq_bool, ne_bool, eq_str, ne_str, decide_true, decide_false, Bool.not_true, Bool.not_false, Bool.and_self, Bool.true_and, Bool.and_true, Bool.false_and, call1, call2, call3, call4, wipeE, isNil, partOf, List.map_cons, List.map_nil, f_is_strike_among, pr, s_is_tuple, eSs_cons]
  rw [lc_map [p.1, p.2] (fun x => .d (.int x)) (fun x => .bool (win (m - 1) x)) []]
  · simp only [eSs_nil, eS_set, eS_par, eS_parT, eS_ex, eS_ifs, eS_ret, eS_pass, eS_never, eE_v, eE_c, eE_g, eE_tup, eE_lst, eE_bin, eE_neg, eE_cmp, eE_chain, eE_and, eE_or, eE_not, eE_ife, eE_idx, eE_sli, eE_rev, eE_call, eE_callK, eE_bi, eE_met, eEs_nil, eEs_cons, eT_and, eT_or, eT_not, eT_tt, eT_cmp, eT_chain, eT_e, eG_nm, eG_sub, eG_tp, eGs_nil, eGs_cons, setAll, List.set_cons_zero, List.set_cons_succ, obind, omap, List.getElem?_cons_zero, List.getElem?_cons_succ, if_true, Bool.false_eq_true, if_false, biM, tr_bool, tr_int, tr_list, tr_tuple, isi_str, isi_tup, isi_int, isi_bool_int, len_tup, len_list, add_int, sub_int, ix0, ix1, ix2, le_int, lt_int, gt_int, ge_int, eq_int, ne_int, eq_bool, ne_bool, eq_str, ne_str, decide_true, decide_false, Bool.not_true, Bool.not_false, Bool.and_self, Bool.true_and, Bool.and_true, Bool.false_and, call1, call2, call3, call4, wipeE, isNil, partOf, List.map_cons, List.map_nil, List.length_cons, List.length_nil]
    have h := all_map (S := []) [p.1, p.2] (win (m - 1))
    simp only [List.map_cons, List.map_nil] at h
    simp [h, endOf, backD, purAll]
  · simp only [eSs_nil, eS_set, eS_par, eS_parT, eS_ex, eS_ifs, eS_ret, eS_pass, eS_never, eE_v, eE_c, eE_g, eE_tup, eE_lst, eE_bin, eE_neg, eE_cmp, eE_chain, eE_and, eE_or, eE_not, eE_ife, eE_idx, eE_sli, eE_rev, eE_call, eE_callK, eE_bi, eE_met, eEs_nil, eEs_cons, eT_and, eT_or, eT_not, eT_tt, eT_cmp, eT_chain, eT_e, eG_nm, eG_sub, eG_tp, eGs_nil, eGs_cons, setAll, List.set_cons_zero, List.set_cons_succ, obind, omap, List.getElem?_cons_zero, List.getElem?_cons_succ, if_true, Bool.false_eq_true, if_false, biM, tr_bool, tr_int, tr_list, tr_tuple, isi_str, isi_tup, isi_int, isi_bool_int, len_tup, len_list, add_int, sub_int, ix0, ix1, ix2, le_int, lt_int, gt_int, ge_int, eq_int, ne_int, eq_bool, ne_bool, eq_str, ne_str, decide_true, decide_false, Bool.not_true, Bool.not_false, Bool.and_self, Bool.true_and, Bool.and_true, Bool.false_and, call1, call2, call3, call4, wipeE, isNil, partOf, List.map_cons, List.map_nil, eI_seq, itemsOf, srcOf]
  · rfl
  · show 2 ≤ LINE
    rw [show LINE = 16777216 from PySem.sizeLine_eq]
    decide
  · intro x _
    simp only [eSs_nil, eS_set, eS_par, eS_parT, eS_ex, eS_ifs, eS_ret, eS_pass, eS_never, eE_v, eE_c, eE_g, eE_tup, eE_lst, eE_bin, eE_neg, eE_cmp, eE_chain, eE_and, eE_or, eE_not, eE_ife, eE_idx, eE_sli, eE_rev, eE_call, eE_callK, eE_bi, eE_met, eEs_nil, eEs_cons, eT_and, eT_or, eT_not, eT_tt, eT_cmp, eT_chain, eT_e, eG_nm, eG_sub, eG_tp, eGs_nil, eGs_cons, setAll, List.set_cons_zero, List.set_cons_succ, obind, omap, List.getElem?_cons_zero, List.getElem?_cons_succ, if_true, Bool.false_eq_true, if_false, biM, tr_bool, tr_int, tr_list, tr_tuple, isi_str, isi_tup, isi_int, isi_bool_int, len_tup, len_list, add_int, sub_int, ix0, ix1, ix2, le_int, lt_int, gt_int, ge_int, eq_int, ne_int, eq_bool, ne_bool, eq_str, ne_str, decide_true, decide_false, Bool.not_true, Bool.not_false, Bool.and_self, Bool.true_and, Bool.and_true, Bool.false_and, call1, call2, call3, call4, wipeE, isNil, partOf, List.map_cons, List.map_nil, lcT, s_is_within, win]
theorem tup3 (n : Nat) (a b c : PyData) : run tab (n + 1) 2 [] [.tuple [a, b, c], .int 3] = some (.bool true, []) := s_is_tuple n [a, b, c] 3
theorem s_is_dispute_any (n : Nat) {m : Int} {ss : List (Int × Int)} (g : Good m ss) : run tab (n + 4) 4 [] [dD m ss] = some (.bool true, []) := by
  rw [r_is_dispute_any]
  simp only [f_is_dispute_any, dD]
  rw [ss_next (ρ' := [some (.d (dD m ss)), none, none, none]) (S' := []) (by
    simp only [eSs_nil, eS_set, eS_par, eS_parT, eS_ex, eS_ifs, eS_ret, eS_pass, eS_never, eE_v, eE_c, eE_g, eE_tup, eE_lst, eE_bin, eE_neg, eE_cmp, eE_chain, eE_and, eE_or, eE_not, eE_ife, eE_idx, eE_sli, eE_rev, eE_call, eE_callK, eE_bi, eE_met, eEs_nil, eEs_cons, eT_and, eT_or, eT_not, eT_tt, eT_cmp, eT_chain, eT_e, eG_nm, eG_sub, eG_tp, eGs_nil, eGs_cons, setAll, List.set_cons_zero, List.set_cons_succ, obind, omap, List.getElem?_cons_zero, List.getElem?_cons_succ, if_true, Bool.false_eq_true, if_false, biM, tr_bool, tr_int, tr_list, tr_tuple, isi_str, isi_tup, isi_int, isi_bool_int, len_tup, len_list, add_int, sub_int, ix0, ix1, ix2, le_int, lt_int, gt_int, ge_int, eq_int, ne_int, eq_bool, ne_bool, eq_str, ne_str, decide_true, decide_false, Bool.not_true, Bool.not_false, Bool.and_self, Bool.true_and, Bool.and_true, Bool.false_and, call1, call2, call3, call4, wipeE, isNil, partOf, List.map_cons, List.map_nil, tup3, beq_self_eq_true, eSs_cons]
    rfl)]
  rw [ss_next (ρ' := [some (.d (dD m ss)), none, none, none]) (S' := []) (by
    have w := s_is_within (n + 1) m 1 10
    have h1 := g.lo
    have h2 := g.hi
    simp only [h1, h2, decide_true, Bool.and_self] at w
    simp only [eSs_nil, eS_set, eS_par, eS_parT, eS_ex, eS_ifs, eS_ret, eS_pass, eS_never, eE_v, eE_c, eE_g, eE_tup, eE_lst, eE_bin, eE_neg, eE_cmp, eE_chain, eE_and, eE_or, eE_not, eE_ife, eE_idx, eE_sli, eE_rev, eE_call, eE_callK, eE_bi, eE_met, eEs_nil, eEs_cons, eT_and, eT_or, eT_not, eT_tt, eT_cmp, eT_chain, eT_e, eG_nm, eG_sub, eG_tp, eGs_nil, eGs_cons, setAll, List.set_cons_zero, List.set_cons_succ, obind, omap, List.getElem?_cons_zero, List.getElem?_cons_succ, if_true, Bool.false_eq_true, if_false, biM, tr_bool, tr_int, tr_list, tr_tuple, isi_str, isi_tup, isi_int, isi_bool_int, len_tup, len_list, add_int, sub_int, ix0, ix1, ix2, le_int, lt_int, gt_int, ge_int, eq_int, ne_int, eq_bool, ne_bool, eq_str, ne_str, decide_true, decide_false, Bool.not_true, Bool.not_false, Bool.and_self, Bool.true_and, Bool.and_true, Bool.false_and, call1, call2, call3, call4, wipeE, isNil, partOf, List.map_cons, List.map_nil, dD, sD, w, eSs_cons]
    )]
  have all1 : ss.all (fun p => win (m - 1) p.1 && win (m - 1) p.2) = true := List.all_eq_true.mpr fun p hp => by
    obtain ⟨⟨h1, h2⟩, h3, h4⟩ := g.win p hp
    simp only [win, Bool.and_eq_true, decide_eq_true_eq]
    omega
  rw [ss_next (ρ' := [some (.d (dD m ss)), none, none, none]) (S' := []) (by
    simp only [eSs_nil, eS_set, eS_par, eS_parT, eS_ex, eS_ifs, eS_ret, eS_pass, eS_never, eE_v, eE_c, eE_g, eE_tup, eE_lst, eE_bin, eE_neg, eE_cmp, eE_chain, eE_and, eE_or, eE_not, eE_ife, eE_idx, eE_sli, eE_rev, eE_call, eE_callK, eE_bi, eE_met, eEs_nil, eEs_cons, eT_and, eT_or, eT_not, eT_tt, eT_cmp, eT_chain, eT_e, eG_nm, eG_sub, eG_tp, eGs_nil, eGs_cons, setAll, List.set_cons_zero, List.set_cons_succ, obind, omap, List.getElem?_cons_zero, List.getElem?_cons_succ, if_true, Bool.false_eq_true, if_false, biM, tr_bool, tr_int, tr_list, tr_tuple, isi_str, isi_tup, isi_int, isi_bool_int, len_tup, len_list, add_int, sub_int, ix0, ix1, ix2, le_int, lt_int, gt_int, ge_int, eq_int, ne_int, eq_bool, ne_bool, eq_str, ne_str, decide_true, decide_false, Bool.not_true, Bool.not_false, Bool.and_self, Bool.true_and, Bool.and_true, Bool.false_and, call1, call2, call3, call4, wipeE, isNil, partOf, List.map_cons, List.map_nil, dD]
    rw [lc_map ss (fun p => .d (pr p)) (fun p => .bool (win (m - 1) p.1 && win (m - 1) p.2)) [] (by
      simp only [eSs_nil, eS_set, eS_par, eS_parT, eS_ex, eS_ifs, eS_ret, eS_pass, eS_never, eE_v, eE_c, eE_g, eE_tup, eE_lst, eE_bin, eE_neg, eE_cmp, eE_chain, eE_and, eE_or, eE_not, eE_ife, eE_idx, eE_sli, eE_rev, eE_call, eE_callK, eE_bi, eE_met, eEs_nil, eEs_cons, eT_and, eT_or, eT_not, eT_tt, eT_cmp, eT_chain, eT_e, eG_nm, eG_sub, eG_tp, eGs_nil, eGs_cons, setAll, List.set_cons_zero, List.set_cons_succ, obind, omap, List.getElem?_cons_zero, List.getElem?_cons_succ, if_true, Bool.false_eq_true, if_false, biM, tr_bool, tr_int, tr_list, tr_tuple, isi_str, isi_tup, isi_int, isi_bool_int, len_tup, len_list, add_int, sub_int, ix0, ix1, ix2, le_int, lt_int, gt_int, ge_int, eq_int, ne_int, eq_bool, ne_bool, eq_str, ne_str, decide_true, decide_false, Bool.not_true, Bool.not_false, Bool.and_self, Bool.true_and, Bool.and_true, Bool.false_and, call1, call2, call3, call4, wipeE, isNil, partOf, List.map_cons, List.map_nil, eI_seq, sD, itemsOf, srcOf, List.map_map]
      rfl) rfl (hundred g.many) (fun p _ => by
      simp only [eSs_nil, eS_set, eS_par, eS_parT, eS_ex, eS_ifs, eS_ret, eS_pass, eS_never, eE_v, eE_c, eE_g, eE_tup, eE_lst, eE_bin, eE_neg, eE_cmp, eE_chain, eE_and, eE_or, eE_not, eE_ife, eE_idx, eE_sli, eE_rev, eE_call, eE_callK, eE_bi, eE_met, eEs_nil, eEs_cons, eT_and, eT_or, eT_not, eT_tt, eT_cmp, eT_chain, eT_e, eG_nm, eG_sub, eG_tp, eGs_nil, eGs_cons, setAll, List.set_cons_zero, List.set_cons_succ, obind, omap, List.getElem?_cons_zero, List.getElem?_cons_succ, if_true, Bool.false_eq_true, if_false, biM, tr_bool, tr_int, tr_list, tr_tuple, isi_str, isi_tup, isi_int, isi_bool_int, len_tup, len_list, add_int, sub_int, ix0, ix1, ix2, le_int, lt_int, gt_int, ge_int, eq_int, ne_int, eq_bool, ne_bool, eq_str, ne_str, decide_true, decide_false, Bool.not_true, Bool.not_false, Bool.and_self, Bool.true_and, Bool.and_true, Bool.false_and, call1, call2, call3, call4, wipeE, isNil, partOf, List.map_cons, List.map_nil, lcT, s_is_strike_among])]
    simp only [eSs_nil, eS_set, eS_par, eS_parT, eS_ex, eS_ifs, eS_ret, eS_pass, eS_never, eE_v, eE_c, eE_g, eE_tup, eE_lst, eE_bin, eE_neg, eE_cmp, eE_chain, eE_and, eE_or, eE_not, eE_ife, eE_idx, eE_sli, eE_rev, eE_call, eE_callK, eE_bi, eE_met, eEs_nil, eEs_cons, eT_and, eT_or, eT_not, eT_tt, eT_cmp, eT_chain, eT_e, eG_nm, eG_sub, eG_tp, eGs_nil, eGs_cons, setAll, List.set_cons_zero, List.set_cons_succ, obind, omap, List.getElem?_cons_zero, List.getElem?_cons_succ, if_true, Bool.false_eq_true, if_false, biM, tr_bool, tr_int, tr_list, tr_tuple, isi_str, isi_tup, isi_int, isi_bool_int, len_tup, len_list, add_int, sub_int, ix0, ix1, ix2, le_int, lt_int, gt_int, ge_int, eq_int, ne_int, eq_bool, ne_bool, eq_str, ne_str, decide_true, decide_false, Bool.not_true, Bool.not_false, Bool.and_self, Bool.true_and, Bool.and_true, Bool.false_and, call1, call2, call3, call4, wipeE, isNil, partOf, List.map_cons, List.map_nil, all_map, all1])]
  rw [ss_ret (v := .d (.bool true)) (S' := []) (by
    simp only [eSs_nil, eS_set, eS_par, eS_parT, eS_ex, eS_ifs, eS_ret, eS_pass, eS_never, eE_v, eE_c, eE_g, eE_tup, eE_lst, eE_bin, eE_neg, eE_cmp, eE_chain, eE_and, eE_or, eE_not, eE_ife, eE_idx, eE_sli, eE_rev, eE_call, eE_callK, eE_bi, eE_met, eEs_nil, eEs_cons, eT_and, eT_or, eT_not, eT_tt, eT_cmp, eT_chain, eT_e, eG_nm, eG_sub, eG_tp, eGs_nil, eGs_cons, setAll, List.set_cons_zero, List.set_cons_succ, obind, omap, List.getElem?_cons_zero, List.getElem?_cons_succ, if_true, Bool.false_eq_true, if_false, biM, tr_bool, tr_int, tr_list, tr_tuple, isi_str, isi_tup, isi_int, isi_bool_int, len_tup, len_list, add_int, sub_int, ix0, ix1, ix2, le_int, lt_int, gt_int, ge_int, eq_int, ne_int, eq_bool, ne_bool, eq_str, ne_str, decide_true, decide_false, Bool.not_true, Bool.not_false, Bool.and_self, Bool.true_and, Bool.and_true, Bool.false_and, call1, call2, call3, call4, wipeE, isNil, partOf, List.map_cons, List.map_nil, dD]
    rw [lc_map (ss.zip (ss.drop 1)) (fun p => .d (.tuple [pr p.1, pr p.2])) (fun p => .bool (ltP p.1 p.2)) [] (by
      simp only [eSs_nil, eS_set, eS_par, eS_parT, eS_ex, eS_ifs, eS_ret, eS_pass, eS_never, eE_v, eE_c, eE_g, eE_tup, eE_lst, eE_bin, eE_neg, eE_cmp, eE_chain, eE_and, eE_or, eE_not, eE_ife, eE_idx, eE_sli, eE_rev, eE_call, eE_callK, eE_bi, eE_met, eEs_nil, eEs_cons, eT_and, eT_or, eT_not, eT_tt, eT_cmp, eT_chain, eT_e, eG_nm, eG_sub, eG_tp, eGs_nil, eGs_cons, setAll, List.set_cons_zero, List.set_cons_succ, obind, omap, List.getElem?_cons_zero, List.getElem?_cons_succ, if_true, Bool.false_eq_true, if_false, biM, tr_bool, tr_int, tr_list, tr_tuple, isi_str, isi_tup, isi_int, isi_bool_int, len_tup, len_list, add_int, sub_int, ix0, ix1, ix2, le_int, lt_int, gt_int, ge_int, eq_int, ne_int, eq_bool, ne_bool, eq_str, ne_str, decide_true, decide_false, Bool.not_true, Bool.not_false, Bool.and_self, Bool.true_and, Bool.and_true, Bool.false_and, call1, call2, call3, call4, wipeE, isNil, partOf, List.map_cons, List.map_nil, eI_zip, sD, slM, cut_from, itemsOf, bothKind, isTup, Bool.or_true, Bool.true_or, srcOf, List.append_nil]
      rw [zipD_of, ← List.map_drop, List.zip_map]
      simp) rfl (by
      have := g.many
      have : (ss.zip (ss.drop 1)).length ≤ 100 := by
        simp only [List.length_zip, List.length_drop]
        omega
      exact hundred this) (fun p _ => by
      simp only [eSs_nil, eS_set, eS_par, eS_parT, eS_ex, eS_ifs, eS_ret, eS_pass, eS_never, eE_v, eE_c, eE_g, eE_tup, eE_lst, eE_bin, eE_neg, eE_cmp, eE_chain, eE_and, eE_or, eE_not, eE_ife, eE_idx, eE_sli, eE_rev, eE_call, eE_callK, eE_bi, eE_met, eEs_nil, eEs_cons, eT_and, eT_or, eT_not, eT_tt, eT_cmp, eT_chain, eT_e, eG_nm, eG_sub, eG_tp, eGs_nil, eGs_cons, setAll, List.set_cons_zero, List.set_cons_succ, obind, omap, List.getElem?_cons_zero, List.getElem?_cons_succ, if_true, Bool.false_eq_true, if_false, biM, tr_bool, tr_int, tr_list, tr_tuple, isi_str, isi_tup, isi_int, isi_bool_int, len_tup, len_list, add_int, sub_int, ix0, ix1, ix2, le_int, lt_int, gt_int, ge_int, eq_int, ne_int, eq_bool, ne_bool, eq_str, ne_str, decide_true, decide_false, Bool.not_true, Bool.not_false, Bool.and_self, Bool.true_and, Bool.and_true, Bool.false_and, call1, call2, call3, call4, wipeE, isNil, partOf, List.map_cons, List.map_nil, lcT, lt_pr])]
    simp only [eSs_nil, eS_set, eS_par, eS_parT, eS_ex, eS_ifs, eS_ret, eS_pass, eS_never, eE_v, eE_c, eE_g, eE_tup, eE_lst, eE_bin, eE_neg, eE_cmp, eE_chain, eE_and, eE_or, eE_not, eE_ife, eE_idx, eE_sli, eE_rev, eE_call, eE_callK, eE_bi, eE_met, eEs_nil, eEs_cons, eT_and, eT_or, eT_not, eT_tt, eT_cmp, eT_chain, eT_e, eG_nm, eG_sub, eG_tp, eGs_nil, eGs_cons, setAll, List.set_cons_zero, List.set_cons_succ, obind, omap, List.getElem?_cons_zero, List.getElem?_cons_succ, if_true, Bool.false_eq_true, if_false, biM, tr_bool, tr_int, tr_list, tr_tuple, isi_str, isi_tup, isi_int, isi_bool_int, len_tup, len_list, add_int, sub_int, ix0, ix1, ix2, le_int, lt_int, gt_int, ge_int, eq_int, ne_int, eq_bool, ne_bool, eq_str, ne_str, decide_true, decide_false, Bool.not_true, Bool.not_false, Bool.and_self, Bool.true_and, Bool.and_true, Bool.false_and, call1, call2, call3, call4, wipeE, isNil, partOf, List.map_cons, List.map_nil, all_map, up_zip g.up])]
  exact end0
theorem s_want_dispute (n : Nat) {m : Int} {ss : List (Int × Int)} (g : Good m ss) : run tab (n + 5) 6 [] [dD m ss] = some (.none, []) := by
  rw [r_want_dispute]
  simp only [eSs_nil, eS_set, eS_par, eS_parT, eS_ex, eS_ifs, eS_ret, eS_pass, eS_never, eE_v, eE_c, eE_g, eE_tup, eE_lst, eE_bin, eE_neg, eE_cmp, eE_chain, eE_and, eE_or, eE_not, eE_ife, eE_idx, eE_sli, eE_rev, eE_call, eE_callK, eE_bi, eE_met, eEs_nil, eEs_cons, eT_and, eT_or, eT_not, eT_tt, eT_cmp, eT_chain, eT_e, eG_nm, eG_sub, eG_tp, eGs_nil, eGs_cons, setAll, List.set_cons_zero, List.set_cons_succ, obind, omap, List.getElem?_cons_zero, List.getElem?_cons_succ, if_true, Bool.false_eq_true, if_false, biM, tr_bool, tr_int, tr_list, tr_tuple, isi_str, isi_tup, isi_int, isi_bool_int, len_tup, len_list, add_int, sub_int, ix0, ix1, ix2, le_int, lt_int, gt_int, ge_int, eq_int, ne_int, eq_bool, ne_bool, eq_str, ne_str, decide_true, decide_false, Bool.not_true, Bool.not_false, Bool.and_self, Bool.true_and, Bool.and_true, Bool.false_and, call1, call2, call3, call4, wipeE, isNil, partOf, List.map_cons, List.map_nil, f_want_dispute, s_is_dispute_any n g, eSs_cons]
  rfl
theorem s_struck_by (n : Nat) {m : Int} {ss : List (Int × Int)} (g : Good m ss) (l : List Int) : run tab (n + 1) 8 [] [dD m ss, tI l] = some (lI (strk ss l), []) := by
  rw [r_struck_by]
  simp only [eSs_nil, eS_set, eS_par, eS_parT, eS_ex, eS_ifs, eS_ret, eS_pass, eS_never, eE_v, eE_c, eE_g, eE_tup, eE_lst, eE_bin, eE_neg, eE_cmp, eE_chain, eE_and, eE_or, eE_not, eE_ife, eE_idx, eE_sli, eE_rev, eE_call, eE_callK, eE_bi, eE_met, eEs_nil, eEs_cons, eT_and, eT_or, eT_not, eT_tt, eT_cmp, eT_chain, eT_e, eG_nm, eG_sub, eG_tp, eGs_nil, eGs_cons, setAll, List.set_cons_zero, List.set_cons_succ, obind, omap, List.getElem?_cons_zero, List.getElem?_cons_succ, if_true, Bool.false_eq_true, if_false, biM, tr_bool, tr_int, tr_list, tr_tuple, isi_str, isi_tup, isi_int, isi_bool_int, len_tup, len_list, add_int, sub_int, ix0, ix1, ix2, le_int, lt_int, gt_int, ge_int, eq_int, ne_int, eq_bool, ne_bool, eq_str, ne_str, decide_true, decide_false, Bool.not_true, Bool.not_false, Bool.and_self, Bool.true_and, Bool.and_true, Bool.false_and, call1, call2, call3, call4, wipeE, isNil, partOf, List.map_cons, List.map_nil, f_struck_by, dD, eSs_cons]
  rw [lc_filter ss (fun p => .d (pr p)) (fun p => decide (p.1 ∈ l)) (fun p => .int p.2) [] (by
      simp only [eSs_nil, eS_set, eS_par, eS_parT, eS_ex, eS_ifs, eS_ret, eS_pass, eS_never, eE_v, eE_c, eE_g, eE_tup, eE_lst, eE_bin, eE_neg, eE_cmp, eE_chain, eE_and, eE_or, eE_not, eE_ife, eE_idx, eE_sli, eE_rev, eE_call, eE_callK, eE_bi, eE_met, eEs_nil, eEs_cons, eT_and, eT_or, eT_not, eT_tt, eT_cmp, eT_chain, eT_e, eG_nm, eG_sub, eG_tp, eGs_nil, eGs_cons, setAll, List.set_cons_zero, List.set_cons_succ, obind, omap, List.getElem?_cons_zero, List.getElem?_cons_succ, if_true, Bool.false_eq_true, if_false, biM, tr_bool, tr_int, tr_list, tr_tuple, isi_str, isi_tup, isi_int, isi_bool_int, len_tup, len_list, add_int, sub_int, ix0, ix1, ix2, le_int, lt_int, gt_int, ge_int, eq_int, ne_int, eq_bool, ne_bool, eq_str, ne_str, decide_true, decide_false, Bool.not_true, Bool.not_false, Bool.and_self, Bool.true_and, Bool.and_true, Bool.false_and, call1, call2, call3, call4, wipeE, isNil, partOf, List.map_cons, List.map_nil, eI_seq, sD, itemsOf, srcOf, List.map_map]
      rfl) rfl (hundred (Nat.le_trans (List.length_filter_le _ _) g.many)) (fun p _ => by
      simp only [eSs_nil, eS_set, eS_par, eS_parT, eS_ex, eS_ifs, eS_ret, eS_pass, eS_never, eE_v, eE_c, eE_g, eE_tup, eE_lst, eE_bin, eE_neg, eE_cmp, eE_chain, eE_and, eE_or, eE_not, eE_ife, eE_idx, eE_sli, eE_rev, eE_call, eE_callK, eE_bi, eE_met, eEs_nil, eEs_cons, eT_and, eT_or, eT_not, eT_tt, eT_cmp, eT_chain, eT_e, eG_nm, eG_sub, eG_tp, eGs_nil, eGs_cons, setAll, List.set_cons_zero, List.set_cons_succ, obind, omap, List.getElem?_cons_zero, List.getElem?_cons_succ, if_true, Bool.false_eq_true, if_false, biM, tr_bool, tr_int, tr_list, tr_tuple, isi_str, isi_tup, isi_int, isi_bool_int, len_tup, len_list, add_int, sub_int, ix0, ix1, ix2, le_int, lt_int, gt_int, ge_int, eq_int, ne_int, eq_bool, ne_bool, eq_str, ne_str, decide_true, decide_false, Bool.not_true, Bool.not_false, Bool.and_self, Bool.true_and, Bool.and_true, Bool.false_and, call1, call2, call3, call4, wipeE, isNil, partOf, List.map_cons, List.map_nil, lcT, pr, in_tI]
      cases decide (p.1 ∈ l) <;> rfl)]
  have few : (nubI ((ss.filter fun p => decide (p.1 ∈ l)).map (·.2))).length ≤ 10 := nub_few fun x hx => by
    obtain ⟨p, hp, rfl⟩ := List.mem_map.mp hx
    have := g.win p (List.mem_filter.mp hp).1
    have := g.hi
    omega
  have many : ((ss.filter fun p => decide (p.1 ∈ l)).map (·.2)).length ≤ 100 := by
    rw [List.length_map]
    exact Nat.le_trans (List.length_filter_le _ _) g.many
  have si := sset_is (S := []) (ns := (ss.filter fun p => decide (p.1 ∈ l)).map (·.2)) (by omega) (by omega)
  rw [lI, List.map_map] at si
  simp only [eSs_nil, eS_set, eS_par, eS_parT, eS_ex, eS_ifs, eS_ret, eS_pass, eS_never, eE_v, eE_c, eE_g, eE_tup, eE_lst, eE_bin, eE_neg, eE_cmp, eE_chain, eE_and, eE_or, eE_not, eE_ife, eE_idx, eE_sli, eE_rev, eE_call, eE_callK, eE_bi, eE_met, eEs_nil, eEs_cons, eT_and, eT_or, eT_not, eT_tt, eT_cmp, eT_chain, eT_e, eG_nm, eG_sub, eG_tp, eGs_nil, eGs_cons, setAll, List.set_cons_zero, List.set_cons_succ, obind, omap, List.getElem?_cons_zero, List.getElem?_cons_succ, if_true, Bool.false_eq_true, if_false, biM, tr_bool, tr_int, tr_list, tr_tuple, isi_str, isi_tup, isi_int, isi_bool_int, len_tup, len_list, add_int, sub_int, ix0, ix1, ix2, le_int, lt_int, gt_int, ge_int, eq_int, ne_int, eq_bool, ne_bool, eq_str, ne_str, decide_true, decide_false, Bool.not_true, Bool.not_false, Bool.and_self, Bool.true_and, Bool.and_true, Bool.false_and, call1, call2, call3, call4, wipeE, isNil, partOf, List.map_cons, List.map_nil, eSs_cons]
  rw [show (List.map (fun p : Int × Int => PyData.int p.2) (ss.filter fun p => decide (p.1 ∈ l))) = List.map (PyData.int ∘ fun x : Int × Int => x.2) (ss.filter fun p => decide (p.1 ∈ l)) from rfl, si]
  rfl
theorem s_is_claim_of (n : Nat) {m : Int} {ss : List (Int × Int)} (c : Int) : run tab (n + 3) 5 [] [dD m ss, .int c] = some (.bool (win (m - 1) c), []) := by
  rw [r_is_claim_of]
  simp only [eSs_nil, eS_set, eS_par, eS_parT, eS_ex, eS_ifs, eS_ret, eS_pass, eS_never, eE_v, eE_c, eE_g, eE_tup, eE_lst, eE_bin, eE_neg, eE_cmp, eE_chain, eE_and, eE_or, eE_not, eE_ife, eE_idx, eE_sli, eE_rev, eE_call, eE_callK, eE_bi, eE_met, eEs_nil, eEs_cons, eT_and, eT_or, eT_not, eT_tt, eT_cmp, eT_chain, eT_e, eG_nm, eG_sub, eG_tp, eGs_nil, eGs_cons, setAll, List.set_cons_zero, List.set_cons_succ, obind, omap, List.getElem?_cons_zero, List.getElem?_cons_succ, if_true, Bool.false_eq_true, if_false, biM, tr_bool, tr_int, tr_list, tr_tuple, isi_str, isi_tup, isi_int, isi_bool_int, len_tup, len_list, add_int, sub_int, ix0, ix1, ix2, le_int, lt_int, gt_int, ge_int, eq_int, ne_int, eq_bool, ne_bool, eq_str, ne_str, decide_true, decide_false, Bool.not_true, Bool.not_false, Bool.and_self, Bool.true_and, Bool.and_true, Bool.false_and, call1, call2, call3, call4, wipeE, isNil, partOf, List.map_cons, List.map_nil, f_is_claim_of, dD, s_is_within, eSs_cons]
  rfl
theorem s_want_claim (n : Nat) {m : Int} {ss : List (Int × Int)} {c : Int} (h : c ∈ rng m) : run tab (n + 4) 7 [] [dD m ss, .int c] = some (.none, []) := by
  have w : win (m - 1) c = true := by
    have := rng_mem h
    simp only [win, Bool.and_eq_true, decide_eq_true_eq]
    omega
  rw [r_want_claim]
  simp only [eSs_nil, eS_set, eS_par, eS_parT, eS_ex, eS_ifs, eS_ret, eS_pass, eS_never, eE_v, eE_c, eE_g, eE_tup, eE_lst, eE_bin, eE_neg, eE_cmp, eE_chain, eE_and, eE_or, eE_not, eE_ife, eE_idx, eE_sli, eE_rev, eE_call, eE_callK, eE_bi, eE_met, eEs_nil, eEs_cons, eT_and, eT_or, eT_not, eT_tt, eT_cmp, eT_chain, eT_e, eG_nm, eG_sub, eG_tp, eGs_nil, eGs_cons, setAll, List.set_cons_zero, List.set_cons_succ, obind, omap, List.getElem?_cons_zero, List.getElem?_cons_succ, if_true, Bool.false_eq_true, if_false, biM, tr_bool, tr_int, tr_list, tr_tuple, isi_str, isi_tup, isi_int, isi_bool_int, len_tup, len_list, add_int, sub_int, ix0, ix1, ix2, le_int, lt_int, gt_int, ge_int, eq_int, ne_int, eq_bool, ne_bool, eq_str, ne_str, decide_true, decide_false, Bool.not_true, Bool.not_false, Bool.and_self, Bool.true_and, Bool.and_true, Bool.false_and, call1, call2, call3, call4, wipeE, isNil, partOf, List.map_cons, List.map_nil, f_want_claim, s_is_claim_of, w, eSs_cons]
  rfl
end K05
end
section
set_option Elab.async false
set_option linter.all false
set_option autoImplicit false
set_option maxRecDepth 1000000
set_option maxHeartbeats 2000000
namespace K05
open TM PySem
/-! the module prices -/
inductive Aim where | q | u | s
def Aim.st : Aim → Bool
  | .s => true
  | _ => false
def Aim.up : Aim → Bool
  | .u => true
  | _ => false
def Aim.nm : Aim → Str
  | .q => "quiet"
  | .u => "upheld"
  | .s => "settled"
theorem Aim.is_s (a : Aim) : (a.nm == ("settled" : Str)) = a.st := by cases a <;> decide
theorem Aim.is_u (a : Aim) : (a.nm == ("upheld" : Str)) = a.up := by cases a <;> decide
theorem Aim.two (a : Aim) : ¬ (a.st = true ∧ a.up = true) := by cases a <;> simp [Aim.st, Aim.up]
theorem back_d {k : Nat} {S : Store} : ∀ xs : List PyData, backD.backAll k S (xs.map .d) = some xs
  | [] => rfl
  | x :: xs => by simp only [List.map_cons, backD.backAll, back_d xs, Option.map_some]
def stAl (m : Int) (b : List (List Int) × Option MV) : TM.Env × Store := ([some (.d (.int m)), some (.d (.list (b.1.map tI))), b.2, none], [])
theorem s_all_lots (n : Nat) {m : Int} (h1 : 1 ≤ m) (h2 : m ≤ 10) : run tab (n + 1) 12 [] [.int m] = some (.list ((every m).map tI), []) := by
  have line := lineI
  have hr : (rng m).length ≤ 10 := by rw [rng_len]; omega
  rw [r_all_lots]
  simp only [f_all_lots]
  rw [ss_next (ρ' := (stAl m ([[]], none)).1) (S' := (stAl m ([[]], none)).2) (by
    simp only [eSs_nil, eS_set, eS_par, eS_parT, eS_ex, eS_ifs, eS_ret, eS_pass, eS_never, eE_v, eE_c, eE_g, eE_tup, eE_lst, eE_bin, eE_neg, eE_cmp, eE_chain, eE_and, eE_or, eE_not, eE_ife, eE_idx, eE_sli, eE_rev, eE_call, eE_callK, eE_bi, eE_met, eEs_nil, eEs_cons, eT_and, eT_or, eT_not, eT_tt, eT_cmp, eT_chain, eT_e, eG_nm, eG_sub, eG_tp, eGs_nil, eGs_cons, setAll, List.set_cons_zero, List.set_cons_succ, obind, omap, List.getElem?_cons_zero, List.getElem?_cons_succ, if_true, Bool.false_eq_true, if_false, biM, tr_bool, tr_int, tr_list, tr_tuple, isi_str, isi_tup, isi_int, isi_bool_int, len_tup, len_list, add_int, sub_int, ix0, ix1, ix2, le_int, lt_int, gt_int, ge_int, eq_int, ne_int, eq_bool, ne_bool, eq_str, ne_str, decide_true, decide_false, Bool.not_true, Bool.not_false, Bool.and_self, Bool.true_and, Bool.and_true, Bool.false_and, call1, call2, call3, call4, wipeE, isNil, partOf, List.map_cons, List.map_nil, stAl, mkL, pures]
    rfl)]
  rw [ss_next (fr_fold [] (fun c : Int => .d (.int c)) (stAl m) stepLbs (rng m) ([[]], none) (by
    simp only [eSs_nil, eS_set, eS_par, eS_parT, eS_ex, eS_ifs, eS_ret, eS_pass, eS_never, eE_v, eE_c, eE_g, eE_tup, eE_lst, eE_bin, eE_neg, eE_cmp, eE_chain, eE_and, eE_or, eE_not, eE_ife, eE_idx, eE_sli, eE_rev, eE_call, eE_callK, eE_bi, eE_met, eEs_nil, eEs_cons, eT_and, eT_or, eT_not, eT_tt, eT_cmp, eT_chain, eT_e, eG_nm, eG_sub, eG_tp, eGs_nil, eGs_cons, setAll, List.set_cons_zero, List.set_cons_succ, obind, omap, List.getElem?_cons_zero, List.getElem?_cons_succ, if_true, Bool.false_eq_true, if_false, biM, tr_bool, tr_int, tr_list, tr_tuple, isi_str, isi_tup, isi_int, isi_bool_int, len_tup, len_list, add_int, sub_int, ix0, ix1, ix2, le_int, lt_int, gt_int, ge_int, eq_int, ne_int, eq_bool, ne_bool, eq_str, ne_str, decide_true, decide_false, Bool.not_true, Bool.not_false, Bool.and_self, Bool.true_and, Bool.and_true, Bool.false_and, call1, call2, call3, call4, wipeE, isNil, partOf, List.map_cons, List.map_nil, eI_rng, stAl, rangeOf, rngI_ok h1 h2]) (fun _ _ => rfl) (fun pre c post e => by
    have hp : pre.length < 10 := by
      have := congrArg List.length e
      rw [List.length_append, List.length_cons] at this
      omega
    generalize hb : pre.foldl stepLbs ([[]], none) = b
    have hlen : b.1.length ≤ 2048 := by
      rw [← hb, foldLbs, fold_length]
      have := Nat.pow_le_pow_right (n := 2) (by decide) (show pre.length ≤ 11 by omega)
      simp only [List.length_cons, List.length_nil]
      omega
    have short : ∀ s ∈ b.1, s.length ≤ 12 := fun s hs => by
      rw [← hb, foldLbs] at hs
      have := (subs_mem (l := pre) hs).length_le
      omega
    simp only [eSs_nil, eS_set, eS_par, eS_parT, eS_ex, eS_ifs, eS_ret, eS_pass, eS_never, eE_v, eE_c, eE_g, eE_tup, eE_lst, eE_bin, eE_neg, eE_cmp, eE_chain, eE_and, eE_or, eE_not, eE_ife, eE_idx, eE_sli, eE_rev, eE_call, eE_callK, eE_bi, eE_met, eEs_nil, eEs_cons, eT_and, eT_or, eT_not, eT_tt, eT_cmp, eT_chain, eT_e, eG_nm, eG_sub, eG_tp, eGs_nil, eGs_cons, setAll, List.set_cons_zero, List.set_cons_succ, obind, omap, List.getElem?_cons_zero, List.getElem?_cons_succ, if_true, Bool.false_eq_true, if_false, biM, tr_bool, tr_int, tr_list, tr_tuple, isi_str, isi_tup, isi_int, isi_bool_int, len_tup, len_list, add_int, sub_int, ix0, ix1, ix2, le_int, lt_int, gt_int, ge_int, eq_int, ne_int, eq_bool, ne_bool, eq_str, ne_str, decide_true, decide_false, Bool.not_true, Bool.not_false, Bool.and_self, Bool.true_and, Bool.and_true, Bool.false_and, call1, call2, call3, call4, wipeE, isNil, partOf, List.map_cons, List.map_nil, stAl, stepLbs, eSs_cons]
    rw [lc_map b.1 (fun s => .d (tI s)) (fun s => tI (s ++ [c])) [] (by
      simp only [eSs_nil, eS_set, eS_par, eS_parT, eS_ex, eS_ifs, eS_ret, eS_pass, eS_never, eE_v, eE_c, eE_g, eE_tup, eE_lst, eE_bin, eE_neg, eE_cmp, eE_chain, eE_and, eE_or, eE_not, eE_ife, eE_idx, eE_sli, eE_rev, eE_call, eE_callK, eE_bi, eE_met, eEs_nil, eEs_cons, eT_and, eT_or, eT_not, eT_tt, eT_cmp, eT_chain, eT_e, eG_nm, eG_sub, eG_tp, eGs_nil, eGs_cons, setAll, List.set_cons_zero, List.set_cons_succ, obind, omap, List.getElem?_cons_zero, List.getElem?_cons_succ, if_true, Bool.false_eq_true, if_false, biM, tr_bool, tr_int, tr_list, tr_tuple, isi_str, isi_tup, isi_int, isi_bool_int, len_tup, len_list, add_int, sub_int, ix0, ix1, ix2, le_int, lt_int, gt_int, ge_int, eq_int, ne_int, eq_bool, ne_bool, eq_str, ne_str, decide_true, decide_false, Bool.not_true, Bool.not_false, Bool.and_self, Bool.true_and, Bool.and_true, Bool.false_and, call1, call2, call3, call4, wipeE, isNil, partOf, List.map_cons, List.map_nil, eI_seq, itemsOf, srcOf, List.map_map]
      rfl) rfl (by omega) (fun s hs => by
      have := short s hs
      simp only [eSs_nil, eS_set, eS_par, eS_parT, eS_ex, eS_ifs, eS_ret, eS_pass, eS_never, eE_v, eE_c, eE_g, eE_tup, eE_lst, eE_bin, eE_neg, eE_cmp, eE_chain, eE_and, eE_or, eE_not, eE_ife, eE_idx, eE_sli, eE_rev, eE_call, eE_callK, eE_bi, eE_met, eEs_nil, eEs_cons, eT_and, eT_or, eT_not, eT_tt, eT_cmp, eT_chain, eT_e, eG_nm, eG_sub, eG_tp, eGs_nil, eGs_cons, setAll, List.set_cons_zero, List.set_cons_succ, obind, omap, List.getElem?_cons_zero, List.getElem?_cons_succ, if_true, Bool.false_eq_true, if_false, biM, tr_bool, tr_int, tr_list, tr_tuple, isi_str, isi_tup, isi_int, isi_bool_int, len_tup, len_list, add_int, sub_int, ix0, ix1, ix2, le_int, lt_int, gt_int, ge_int, eq_int, ne_int, eq_bool, ne_bool, eq_str, ne_str, decide_true, decide_false, Bool.not_true, Bool.not_false, Bool.and_self, Bool.true_and, Bool.and_true, Bool.false_and, call1, call2, call3, call4, wipeE, isNil, partOf, List.map_cons, List.map_nil, lcT, pures, tI]
      rw [if_pos (by simp only [List.length_cons, List.length_nil]; omega)]
      simp only [eSs_nil, eS_set, eS_par, eS_parT, eS_ex, eS_ifs, eS_ret, eS_pass, eS_never, eE_v, eE_c, eE_g, eE_tup, eE_lst, eE_bin, eE_neg, eE_cmp, eE_chain, eE_and, eE_or, eE_not, eE_ife, eE_idx, eE_sli, eE_rev, eE_call, eE_callK, eE_bi, eE_met, eEs_nil, eEs_cons, eT_and, eT_or, eT_not, eT_tt, eT_cmp, eT_chain, eT_e, eG_nm, eG_sub, eG_tp, eGs_nil, eGs_cons, setAll, List.set_cons_zero, List.set_cons_succ, obind, omap, List.getElem?_cons_zero, List.getElem?_cons_succ, if_true, Bool.false_eq_true, if_false, biM, tr_bool, tr_int, tr_list, tr_tuple, isi_str, isi_tup, isi_int, isi_bool_int, len_tup, len_list, add_int, sub_int, ix0, ix1, ix2, le_int, lt_int, gt_int, ge_int, eq_int, ne_int, eq_bool, ne_bool, eq_str, ne_str, decide_true, decide_false, Bool.not_true, Bool.not_false, Bool.and_self, Bool.true_and, Bool.and_true, Bool.false_and, call1, call2, call3, call4, wipeE, isNil, partOf, List.map_cons, List.map_nil]
      rw [add_tup _ _ (by simp only [List.length_map, List.length_cons, List.length_nil]; omega)]
      simp)]
    simp only [eSs_nil, eS_set, eS_par, eS_parT, eS_ex, eS_ifs, eS_ret, eS_pass, eS_never, eE_v, eE_c, eE_g, eE_tup, eE_lst, eE_bin, eE_neg, eE_cmp, eE_chain, eE_and, eE_or, eE_not, eE_ife, eE_idx, eE_sli, eE_rev, eE_call, eE_callK, eE_bi, eE_met, eEs_nil, eEs_cons, eT_and, eT_or, eT_not, eT_tt, eT_cmp, eT_chain, eT_e, eG_nm, eG_sub, eG_tp, eGs_nil, eGs_cons, setAll, List.set_cons_zero, List.set_cons_succ, obind, omap, List.getElem?_cons_zero, List.getElem?_cons_succ, if_true, Bool.false_eq_true, if_false, biM, tr_bool, tr_int, tr_list, tr_tuple, isi_str, isi_tup, isi_int, isi_bool_int, len_tup, len_list, add_int, sub_int, ix0, ix1, ix2, le_int, lt_int, gt_int, ge_int, eq_int, ne_int, eq_bool, ne_bool, eq_str, ne_str, decide_true, decide_false, Bool.not_true, Bool.not_false, Bool.and_self, Bool.true_and, Bool.and_true, Bool.false_and, call1, call2, call3, call4, wipeE, isNil, partOf, List.map_cons, List.map_nil]
    rw [add_list _ _ (by simp only [List.length_map]; omega)]
    simp only [eSs_nil, eS_set, eS_par, eS_parT, eS_ex, eS_ifs, eS_ret, eS_pass, eS_never, eE_v, eE_c, eE_g, eE_tup, eE_lst, eE_bin, eE_neg, eE_cmp, eE_chain, eE_and, eE_or, eE_not, eE_ife, eE_idx, eE_sli, eE_rev, eE_call, eE_callK, eE_bi, eE_met, eEs_nil, eEs_cons, eT_and, eT_or, eT_not, eT_tt, eT_cmp, eT_chain, eT_e, eG_nm, eG_sub, eG_tp, eGs_nil, eGs_cons, setAll, List.set_cons_zero, List.set_cons_succ, obind, omap, List.getElem?_cons_zero, List.getElem?_cons_succ, if_true, Bool.false_eq_true, if_false, biM, tr_bool, tr_int, tr_list, tr_tuple, isi_str, isi_tup, isi_int, isi_bool_int, len_tup, len_list, add_int, sub_int, ix0, ix1, ix2, le_int, lt_int, gt_int, ge_int, eq_int, ne_int, eq_bool, ne_bool, eq_str, ne_str, decide_true, decide_false, Bool.not_true, Bool.not_false, Bool.and_self, Bool.true_and, Bool.and_true, Bool.false_and, call1, call2, call3, call4, wipeE, isNil, partOf, List.map_cons, List.map_nil]
    rw [dbl, List.map_append, List.map_map]
    rfl))]
  generalize hb : (rng m).foldl stepLbs ([[]], none) = b
  have hb1 : b.1 = subs (rng m) := by rw [← hb, foldLbs]; rfl
  have hlen := subs10 h2
  rw [ss_ret (v := .d (.list ((every m).map tI))) (S' := []) (by
    simp only [eSs_nil, eS_set, eS_par, eS_parT, eS_ex, eS_ifs, eS_ret, eS_pass, eS_never, eE_v, eE_c, eE_g, eE_tup, eE_lst, eE_bin, eE_neg, eE_cmp, eE_chain, eE_and, eE_or, eE_not, eE_ife, eE_idx, eE_sli, eE_rev, eE_call, eE_callK, eE_bi, eE_met, eEs_nil, eEs_cons, eT_and, eT_or, eT_not, eT_tt, eT_cmp, eT_chain, eT_e, eG_nm, eG_sub, eG_tp, eGs_nil, eGs_cons, setAll, List.set_cons_zero, List.set_cons_succ, obind, omap, List.getElem?_cons_zero, List.getElem?_cons_succ, if_true, Bool.false_eq_true, if_false, biM, tr_bool, tr_int, tr_list, tr_tuple, isi_str, isi_tup, isi_int, isi_bool_int, len_tup, len_list, add_int, sub_int, ix0, ix1, ix2, le_int, lt_int, gt_int, ge_int, eq_int, ne_int, eq_bool, ne_bool, eq_str, ne_str, decide_true, decide_false, Bool.not_true, Bool.not_false, Bool.and_self, Bool.true_and, Bool.and_true, Bool.false_and, call1, call2, call3, call4, wipeE, isNil, partOf, List.map_cons, List.map_nil, stAl, hb1]
    rw [sorted_is encT _ (by omega) fun s _ => sortable_tI s]
    rfl)]
  exact end0
def stW (m : Int) (ss : List (Int × Int)) (a : Aim) (lot : List Int) (pre : List (Int × Int)) : TM.Env × Store :=
  ([some (.d (dD m ss)), some (.d (.str a.nm)), some (.d (tI lot)), some (.d (lI (strk ss lot))), some (.ref 0), pre.getLast?.map fun p => .d (.int p.1), pre.getLast?.map fun p => .d (.int p.2)], [((pre.filter (wantB ss a.up lot)).map pr).map .d])
theorem s_wanted_of (n : Nat) {m : Int} {ss : List (Int × Int)} (g : Good m ss) (a : Aim) (lot : List Int) : run tab (n + 2) 9 [] [dD m ss, .str a.nm, tI lot] = some (wntD m ss a.st a.up lot, []) := by
  have line := lineI
  have hm := g.hi
  have hms := g.many
  have hr : (rng m).length ≤ 10 := by rw [rng_len]; omega
  rw [r_wanted_of]
  simp only [f_wanted_of]
  rw [ss_next (ρ' := [some (.d (dD m ss)), some (.d (.str a.nm)), some (.d (tI lot)), some (.d (lI (strk ss lot))), none, none, none]) (S' := []) (by
    simp only [eSs_nil, eS_set, eS_par, eS_parT, eS_ex, eS_ifs, eS_ret, eS_pass, eS_never, eE_v, eE_c, eE_g, eE_tup, eE_lst, eE_bin, eE_neg, eE_cmp, eE_chain, eE_and, eE_or, eE_not, eE_ife, eE_idx, eE_sli, eE_rev, eE_call, eE_callK, eE_bi, eE_met, eEs_nil, eEs_cons, eT_and, eT_or, eT_not, eT_tt, eT_cmp, eT_chain, eT_e, eG_nm, eG_sub, eG_tp, eGs_nil, eGs_cons, setAll, List.set_cons_zero, List.set_cons_succ, obind, omap, List.getElem?_cons_zero, List.getElem?_cons_succ, if_true, Bool.false_eq_true, if_false, biM, tr_bool, tr_int, tr_list, tr_tuple, isi_str, isi_tup, isi_int, isi_bool_int, len_tup, len_list, add_int, sub_int, ix0, ix1, ix2, le_int, lt_int, gt_int, ge_int, eq_int, ne_int, eq_bool, ne_bool, eq_str, ne_str, decide_true, decide_false, Bool.not_true, Bool.not_false, Bool.and_self, Bool.true_and, Bool.and_true, Bool.false_and, call1, call2, call3, call4, wipeE, isNil, partOf, List.map_cons, List.map_nil, s_struck_by n g lot])]
  have eg : evE (TM.run tab (n + 1)) (.lc false [5] (.nm 5) (.rng (.cons (.idx (.v 0) (.c (.int 1))) .nil)) .tt (.and (.cmp .niS (.v 5) (.v 2)) (.cmp .niS (.v 5) (.v 3)))) [some (.d (dD m ss)), some (.d (.str a.nm)), some (.d (tI lot)), some (.d (lI (strk ss lot))), none, none, none] [] = some (.d (.list ((rng m).map fun c => .bool (!decide (c ∈ lot) && !decide (c ∈ strk ss lot)))), []) :=
    lc_map (rng m) (fun c => .d (.int c)) (fun c => .bool (!decide (c ∈ lot) && !decide (c ∈ strk ss lot))) [] (by
      simp only [eSs_nil, eS_set, eS_par, eS_parT, eS_ex, eS_ifs, eS_ret, eS_pass, eS_never, eE_v, eE_c, eE_g, eE_tup, eE_lst, eE_bin, eE_neg, eE_cmp, eE_chain, eE_and, eE_or, eE_not, eE_ife, eE_idx, eE_sli, eE_rev, eE_call, eE_callK, eE_bi, eE_met, eEs_nil, eEs_cons, eT_and, eT_or, eT_not, eT_tt, eT_cmp, eT_chain, eT_e, eG_nm, eG_sub, eG_tp, eGs_nil, eGs_cons, setAll, List.set_cons_zero, List.set_cons_succ, obind, omap, List.getElem?_cons_zero, List.getElem?_cons_succ, if_true, Bool.false_eq_true, if_false, biM, tr_bool, tr_int, tr_list, tr_tuple, isi_str, isi_tup, isi_int, isi_bool_int, len_tup, len_list, add_int, sub_int, ix0, ix1, ix2, le_int, lt_int, gt_int, ge_int, eq_int, ne_int, eq_bool, ne_bool, eq_str, ne_str, decide_true, decide_false, Bool.not_true, Bool.not_false, Bool.and_self, Bool.true_and, Bool.and_true, Bool.false_and, call1, call2, call3, call4, wipeE, isNil, partOf, List.map_cons, List.map_nil, eI_rng, dD, rangeOf, rngI_ok g.lo g.hi]) rfl (by omega) (fun c _ => by
      simp only [eSs_nil, eS_set, eS_par, eS_parT, eS_ex, eS_ifs, eS_ret, eS_pass, eS_never, eE_v, eE_c, eE_g, eE_tup, eE_lst, eE_bin, eE_neg, eE_cmp, eE_chain, eE_and, eE_or, eE_not, eE_ife, eE_idx, eE_sli, eE_rev, eE_call, eE_callK, eE_bi, eE_met, eEs_nil, eEs_cons, eT_and, eT_or, eT_not, eT_tt, eT_cmp, eT_chain, eT_e, eG_nm, eG_sub, eG_tp, eGs_nil, eGs_cons, setAll, List.set_cons_zero, List.set_cons_succ, obind, omap, List.getElem?_cons_zero, List.getElem?_cons_succ, if_true, Bool.false_eq_true, if_false, biM, tr_bool, tr_int, tr_list, tr_tuple, isi_str, isi_tup, isi_int, isi_bool_int, len_tup, len_list, add_int, sub_int, ix0, ix1, ix2, le_int, lt_int, gt_int, ge_int, eq_int, ne_int, eq_bool, ne_bool, eq_str, ne_str, decide_true, decide_false, Bool.not_true, Bool.not_false, Bool.and_self, Bool.true_and, Bool.and_true, Bool.false_and, call1, call2, call3, call4, wipeE, isNil, partOf, List.map_cons, List.map_nil, lcT, ni_tI]
      cases decide (c ∈ lot) with
      | true => simp only [eSs_nil, eS_set, eS_par, eS_parT, eS_ex, eS_ifs, eS_ret, eS_pass, eS_never, eE_v, eE_c, eE_g, eE_tup, eE_lst, eE_bin, eE_neg, eE_cmp, eE_chain, eE_and, eE_or, eE_not, eE_ife, eE_idx, eE_sli, eE_rev, eE_call, eE_callK, eE_bi, eE_met, eEs_nil, eEs_cons, eT_and, eT_or, eT_not, eT_tt, eT_cmp, eT_chain, eT_e, eG_nm, eG_sub, eG_tp, eGs_nil, eGs_cons, setAll, List.set_cons_zero, List.set_cons_succ, obind, omap, List.getElem?_cons_zero, List.getElem?_cons_succ, if_true, Bool.false_eq_true, if_false, biM, tr_bool, tr_int, tr_list, tr_tuple, isi_str, isi_tup, isi_int, isi_bool_int, len_tup, len_list, add_int, sub_int, ix0, ix1, ix2, le_int, lt_int, gt_int, ge_int, eq_int, ne_int, eq_bool, ne_bool, eq_str, ne_str, decide_true, decide_false, Bool.not_true, Bool.not_false, Bool.and_self, Bool.true_and, Bool.and_true, Bool.false_and, call1, call2, call3, call4, wipeE, isNil, partOf, List.map_cons, List.map_nil]
      | false => simp only [eSs_nil, eS_set, eS_par, eS_parT, eS_ex, eS_ifs, eS_ret, eS_pass, eS_never, eE_v, eE_c, eE_g, eE_tup, eE_lst, eE_bin, eE_neg, eE_cmp, eE_chain, eE_and, eE_or, eE_not, eE_ife, eE_idx, eE_sli, eE_rev, eE_call, eE_callK, eE_bi, eE_met, eEs_nil, eEs_cons, eT_and, eT_or, eT_not, eT_tt, eT_cmp, eT_chain, eT_e, eG_nm, eG_sub, eG_tp, eGs_nil, eGs_cons, setAll, List.set_cons_zero, List.set_cons_succ, obind, omap, List.getElem?_cons_zero, List.getElem?_cons_succ, if_true, Bool.false_eq_true, if_false, biM, tr_bool, tr_int, tr_list, tr_tuple, isi_str, isi_tup, isi_int, isi_bool_int, len_tup, len_list, add_int, sub_int, ix0, ix1, ix2, le_int, lt_int, gt_int, ge_int, eq_int, ne_int, eq_bool, ne_bool, eq_str, ne_str, decide_true, decide_false, Bool.not_true, Bool.not_false, Bool.and_self, Bool.true_and, Bool.and_true, Bool.false_and, call1, call2, call3, call4, wipeE, isNil, partOf, List.map_cons, List.map_nil, ni_lI])
  have eg2 : ∀ S : Store, biAny [.d (.list ((rng m).map fun c => .bool (!decide (c ∈ lot) && !decide (c ∈ strk ss lot))))] S = some (.d (.bool (gap m ss lot)), S) := fun S => any_map _ _
  rw [wntD, wnt]
  cases h : (a.st && gap m ss lot) with
  | true =>
    rw [Bool.and_eq_true] at h
    rw [ss_ret (v := .d .none) (S' := []) (by
      simp only [eSs_nil, eS_set, eS_par, eS_parT, eS_ex, eS_ifs, eS_ret, eS_pass, eS_never, eE_v, eE_c, eE_g, eE_tup, eE_lst, eE_bin, eE_neg, eE_cmp, eE_chain, eE_and, eE_or, eE_not, eE_ife, eE_idx, eE_sli, eE_rev, eE_call, eE_callK, eE_bi, eE_met, eEs_nil, eEs_cons, eT_and, eT_or, eT_not, eT_tt, eT_cmp, eT_chain, eT_e, eG_nm, eG_sub, eG_tp, eGs_nil, eGs_cons, setAll, List.set_cons_zero, List.set_cons_succ, obind, omap, List.getElem?_cons_zero, List.getElem?_cons_succ, if_true, Bool.false_eq_true, if_false, biM, tr_bool, tr_int, tr_list, tr_tuple, isi_str, isi_tup, isi_int, isi_bool_int, len_tup, len_list, add_int, sub_int, ix0, ix1, ix2, le_int, lt_int, gt_int, ge_int, eq_int, ne_int, eq_bool, ne_bool, eq_str, ne_str, decide_true, decide_false, Bool.not_true, Bool.not_false, Bool.and_self, Bool.true_and, Bool.and_true, Bool.false_and, call1, call2, call3, call4, wipeE, isNil, partOf, List.map_cons, List.map_nil, a.is_s, h.1, eg, eg2, h.2, eSs_cons])]
    exact end0
  | false =>
    rw [ss_next (ρ' := [some (.d (dD m ss)), some (.d (.str a.nm)), some (.d (tI lot)), some (.d (lI (strk ss lot))), none, none, none]) (S' := []) (by
      simp only [eSs_nil, eS_set, eS_par, eS_parT, eS_ex, eS_ifs, eS_ret, eS_pass, eS_never, eE_v, eE_c, eE_g, eE_tup, eE_lst, eE_bin, eE_neg, eE_cmp, eE_chain, eE_and, eE_or, eE_not, eE_ife, eE_idx, eE_sli, eE_rev, eE_call, eE_callK, eE_bi, eE_met, eEs_nil, eEs_cons, eT_and, eT_or, eT_not, eT_tt, eT_cmp, eT_chain, eT_e, eG_nm, eG_sub, eG_tp, eGs_nil, eGs_cons, setAll, List.set_cons_zero, List.set_cons_succ, obind, omap, List.getElem?_cons_zero, List.getElem?_cons_succ, if_true, Bool.false_eq_true, if_false, biM, tr_bool, tr_int, tr_list, tr_tuple, isi_str, isi_tup, isi_int, isi_bool_int, len_tup, len_list, add_int, sub_int, ix0, ix1, ix2, le_int, lt_int, gt_int, ge_int, eq_int, ne_int, eq_bool, ne_bool, eq_str, ne_str, decide_true, decide_false, Bool.not_true, Bool.not_false, Bool.and_self, Bool.true_and, Bool.and_true, Bool.false_and, call1, call2, call3, call4, wipeE, isNil, partOf, List.map_cons, List.map_nil, a.is_s]
      cases hs : a.st with
      | false => simp only [eSs_nil, eS_set, eS_par, eS_parT, eS_ex, eS_ifs, eS_ret, eS_pass, eS_never, eE_v, eE_c, eE_g, eE_tup, eE_lst, eE_bin, eE_neg, eE_cmp, eE_chain, eE_and, eE_or, eE_not, eE_ife, eE_idx, eE_sli, eE_rev, eE_call, eE_callK, eE_bi, eE_met, eEs_nil, eEs_cons, eT_and, eT_or, eT_not, eT_tt, eT_cmp, eT_chain, eT_e, eG_nm, eG_sub, eG_tp, eGs_nil, eGs_cons, setAll, List.set_cons_zero, List.set_cons_succ, obind, omap, List.getElem?_cons_zero, List.getElem?_cons_succ, if_true, Bool.false_eq_true, if_false, biM, tr_bool, tr_int, tr_list, tr_tuple, isi_str, isi_tup, isi_int, isi_bool_int, len_tup, len_list, add_int, sub_int, ix0, ix1, ix2, le_int, lt_int, gt_int, ge_int, eq_int, ne_int, eq_bool, ne_bool, eq_str, ne_str, decide_true, decide_false, Bool.not_true, Bool.not_false, Bool.and_self, Bool.true_and, Bool.and_true, Bool.false_and, call1, call2, call3, call4, wipeE, isNil, partOf, List.map_cons, List.map_nil]
      | true =>
        rw [hs, Bool.true_and] at h
        simp only [eSs_nil, eS_set, eS_par, eS_parT, eS_ex, eS_ifs, eS_ret, eS_pass, eS_never, eE_v, eE_c, eE_g, eE_tup, eE_lst, eE_bin, eE_neg, eE_cmp, eE_chain, eE_and, eE_or, eE_not, eE_ife, eE_idx, eE_sli, eE_rev, eE_call, eE_callK, eE_bi, eE_met, eEs_nil, eEs_cons, eT_and, eT_or, eT_not, eT_tt, eT_cmp, eT_chain, eT_e, eG_nm, eG_sub, eG_tp, eGs_nil, eGs_cons, setAll, List.set_cons_zero, List.set_cons_succ, obind, omap, List.getElem?_cons_zero, List.getElem?_cons_succ, if_true, Bool.false_eq_true, if_false, biM, tr_bool, tr_int, tr_list, tr_tuple, isi_str, isi_tup, isi_int, isi_bool_int, len_tup, len_list, add_int, sub_int, ix0, ix1, ix2, le_int, lt_int, gt_int, ge_int, eq_int, ne_int, eq_bool, ne_bool, eq_str, ne_str, decide_true, decide_false, Bool.not_true, Bool.not_false, Bool.and_self, Bool.true_and, Bool.and_true, Bool.false_and, call1, call2, call3, call4, wipeE, isNil, partOf, List.map_cons, List.map_nil, eg, eg2, h])]
    rw [ss_next (ρ' := (stW m ss a lot []).1) (S' := (stW m ss a lot []).2) (by
      simp only [eSs_nil, eS_set, eS_par, eS_parT, eS_ex, eS_ifs, eS_ret, eS_pass, eS_never, eE_v, eE_c, eE_g, eE_tup, eE_lst, eE_bin, eE_neg, eE_cmp, eE_chain, eE_and, eE_or, eE_not, eE_ife, eE_idx, eE_sli, eE_rev, eE_call, eE_callK, eE_bi, eE_met, eEs_nil, eEs_cons, eT_and, eT_or, eT_not, eT_tt, eT_cmp, eT_chain, eT_e, eG_nm, eG_sub, eG_tp, eGs_nil, eGs_cons, setAll, List.set_cons_zero, List.set_cons_succ, obind, omap, List.getElem?_cons_zero, List.getElem?_cons_succ, if_true, Bool.false_eq_true, if_false, biM, tr_bool, tr_int, tr_list, tr_tuple, isi_str, isi_tup, isi_int, isi_bool_int, len_tup, len_list, add_int, sub_int, ix0, ix1, ix2, le_int, lt_int, gt_int, ge_int, eq_int, ne_int, eq_bool, ne_bool, eq_str, ne_str, decide_true, decide_false, Bool.not_true, Bool.not_false, Bool.and_self, Bool.true_and, Bool.and_true, Bool.false_and, call1, call2, call3, call4, wipeE, isNil, partOf, List.map_cons, List.map_nil, stW, mkL, List.length_nil, Nat.zero_le]
      rfl)]
    rw [ss_next (fr_pre [] (fun p : Int × Int => .d (pr p)) (stW m ss a lot) ss (by
      simp only [eSs_nil, eS_set, eS_par, eS_parT, eS_ex, eS_ifs, eS_ret, eS_pass, eS_never, eE_v, eE_c, eE_g, eE_tup, eE_lst, eE_bin, eE_neg, eE_cmp, eE_chain, eE_and, eE_or, eE_not, eE_ife, eE_idx, eE_sli, eE_rev, eE_call, eE_callK, eE_bi, eE_met, eEs_nil, eEs_cons, eT_and, eT_or, eT_not, eT_tt, eT_cmp, eT_chain, eT_e, eG_nm, eG_sub, eG_tp, eGs_nil, eGs_cons, setAll, List.set_cons_zero, List.set_cons_succ, obind, omap, List.getElem?_cons_zero, List.getElem?_cons_succ, if_true, Bool.false_eq_true, if_false, biM, tr_bool, tr_int, tr_list, tr_tuple, isi_str, isi_tup, isi_int, isi_bool_int, len_tup, len_list, add_int, sub_int, ix0, ix1, ix2, le_int, lt_int, gt_int, ge_int, eq_int, ne_int, eq_bool, ne_bool, eq_str, ne_str, decide_true, decide_false, Bool.not_true, Bool.not_false, Bool.and_self, Bool.true_and, Bool.and_true, Bool.false_and, call1, call2, call3, call4, wipeE, isNil, partOf, List.map_cons, List.map_nil, eI_seq, stW, dD, sD, itemsOf, srcOf, List.map_map]
      rfl) (fun _ _ => rfl) (fun pre p post e => by
      have hpl : pre.length ≤ 100 := by
        have := congrArg List.length e
        rw [List.length_append, List.length_cons] at this
        omega
      have hf := List.length_filter_le (wantB ss a.up lot) pre
      rw [show (stW m ss a lot (pre ++ [p])).1 = [some (.d (dD m ss)), some (.d (.str a.nm)), some (.d (tI lot)), some (.d (lI (strk ss lot))), some (.ref 0), some (.d (.int p.1)), some (.d (.int p.2))] from by simp [stW]]
      rw [show (stW m ss a lot (pre ++ [p])).2 = [((pre.filter (wantB ss a.up lot)).map pr).map .d ++ if wantB ss a.up lot p then [.d (pr p)] else []] from by
        simp only [stW, List.filter_append, List.map_append]
        cases h : wantB ss a.up lot p <;> simp [h]]
      simp only [eSs_nil, eS_set, eS_par, eS_parT, eS_ex, eS_ifs, eS_ret, eS_pass, eS_never, eE_v, eE_c, eE_g, eE_tup, eE_lst, eE_bin, eE_neg, eE_cmp, eE_chain, eE_and, eE_or, eE_not, eE_ife, eE_idx, eE_sli, eE_rev, eE_call, eE_callK, eE_bi, eE_met, eEs_nil, eEs_cons, eT_and, eT_or, eT_not, eT_tt, eT_cmp, eT_chain, eT_e, eG_nm, eG_sub, eG_tp, eGs_nil, eGs_cons, setAll, List.set_cons_zero, List.set_cons_succ, obind, omap, List.getElem?_cons_zero, List.getElem?_cons_succ, if_true, Bool.false_eq_true, if_false, biM, tr_bool, tr_int, tr_list, tr_tuple, isi_str, isi_tup, isi_int, isi_bool_int, len_tup, len_list, add_int, sub_int, ix0, ix1, ix2, le_int, lt_int, gt_int, ge_int, eq_int, ne_int, eq_bool, ne_bool, eq_str, ne_str, decide_true, decide_false, Bool.not_true, Bool.not_false, Bool.and_self, Bool.true_and, Bool.and_true, Bool.false_and, call1, call2, call3, call4, wipeE, isNil, partOf, List.map_cons, List.map_nil, stW, pr]
      rw [eSs_cons, eS_ifs]
      have et : evT (TM.run tab (n + 1)) (.and (.cmp .inS (.v 6) (.v 2)) (.or (.cmp .inS (.v 5) (.v 2)) (.and (.cmp .eq (.v 1) (.g "UPHELD" (.str "upheld"))) (.cmp .niS (.v 5) (.v 3))))) [some (.d (dD m ss)), some (.d (.str a.nm)), some (.d (tI lot)), some (.d (lI (strk ss lot))), some (.ref 0), some (.d (.int p.1)), some (.d (.int p.2))] [((pre.filter (wantB ss a.up lot)).map pr).map .d] = some (wantB ss a.up lot p, [((pre.filter (wantB ss a.up lot)).map pr).map .d]) := by
        rw [wantB]
        simp only [eSs_nil, eS_set, eS_par, eS_parT, eS_ex, eS_ifs, eS_ret, eS_pass, eS_never, eE_v, eE_c, eE_g, eE_tup, eE_lst, eE_bin, eE_neg, eE_cmp, eE_chain, eE_and, eE_or, eE_not, eE_ife, eE_idx, eE_sli, eE_rev, eE_call, eE_callK, eE_bi, eE_met, eEs_nil, eEs_cons, eT_and, eT_or, eT_not, eT_tt, eT_cmp, eT_chain, eT_e, eG_nm, eG_sub, eG_tp, eGs_nil, eGs_cons, setAll, List.set_cons_zero, List.set_cons_succ, obind, omap, List.getElem?_cons_zero, List.getElem?_cons_succ, if_true, Bool.false_eq_true, if_false, biM, tr_bool, tr_int, tr_list, tr_tuple, isi_str, isi_tup, isi_int, isi_bool_int, len_tup, len_list, add_int, sub_int, ix0, ix1, ix2, le_int, lt_int, gt_int, ge_int, eq_int, ne_int, eq_bool, ne_bool, eq_str, ne_str, decide_true, decide_false, Bool.not_true, Bool.not_false, Bool.and_self, Bool.true_and, Bool.and_true, Bool.false_and, call1, call2, call3, call4, wipeE, isNil, partOf, List.map_cons, List.map_nil, in_tI]
        cases decide (p.2 ∈ lot) with
        | false => rfl
        | true =>
          simp only [eSs_nil, eS_set, eS_par, eS_parT, eS_ex, eS_ifs, eS_ret, eS_pass, eS_never, eE_v, eE_c, eE_g, eE_tup, eE_lst, eE_bin, eE_neg, eE_cmp, eE_chain, eE_and, eE_or, eE_not, eE_ife, eE_idx, eE_sli, eE_rev, eE_call, eE_callK, eE_bi, eE_met, eEs_nil, eEs_cons, eT_and, eT_or, eT_not, eT_tt, eT_cmp, eT_chain, eT_e, eG_nm, eG_sub, eG_tp, eGs_nil, eGs_cons, setAll, List.set_cons_zero, List.set_cons_succ, obind, omap, List.getElem?_cons_zero, List.getElem?_cons_succ, if_true, Bool.false_eq_true, if_false, biM, tr_bool, tr_int, tr_list, tr_tuple, isi_str, isi_tup, isi_int, isi_bool_int, len_tup, len_list, add_int, sub_int, ix0, ix1, ix2, le_int, lt_int, gt_int, ge_int, eq_int, ne_int, eq_bool, ne_bool, eq_str, ne_str, decide_true, decide_false, Bool.not_true, Bool.not_false, Bool.and_self, Bool.true_and, Bool.and_true, Bool.false_and, call1, call2, call3, call4, wipeE, isNil, partOf, List.map_cons, List.map_nil, in_tI]
          cases decide (p.1 ∈ lot) with
          | true => rfl
          | false =>
            simp only [eSs_nil, eS_set, eS_par, eS_parT, eS_ex, eS_ifs, eS_ret, eS_pass, eS_never, eE_v, eE_c, eE_g, eE_tup, eE_lst, eE_bin, eE_neg, eE_cmp, eE_chain, eE_and, eE_or, eE_not, eE_ife, eE_idx, eE_sli, eE_rev, eE_call, eE_callK, eE_bi, eE_met, eEs_nil, eEs_cons, eT_and, eT_or, eT_not, eT_tt, eT_cmp, eT_chain, eT_e, eG_nm, eG_sub, eG_tp, eGs_nil, eGs_cons, setAll, List.set_cons_zero, List.set_cons_succ, obind, omap, List.getElem?_cons_zero, List.getElem?_cons_succ, if_true, Bool.false_eq_true, if_false, biM, tr_bool, tr_int, tr_list, tr_tuple, isi_str, isi_tup, isi_int, isi_bool_int, len_tup, len_list, add_int, sub_int, ix0, ix1, ix2, le_int, lt_int, gt_int, ge_int, eq_int, ne_int, eq_bool, ne_bool, eq_str, ne_str, decide_true, decide_false, Bool.not_true, Bool.not_false, Bool.and_self, Bool.true_and, Bool.and_true, Bool.false_and, call1, call2, call3, call4, wipeE, isNil, partOf, List.map_cons, List.map_nil, a.is_u]
            cases a.up with
            | false => rfl
            | true =>
              simp only [eSs_nil, eS_set, eS_par, eS_parT, eS_ex, eS_ifs, eS_ret, eS_pass, eS_never, eE_v, eE_c, eE_g, eE_tup, eE_lst, eE_bin, eE_neg, eE_cmp, eE_chain, eE_and, eE_or, eE_not, eE_ife, eE_idx, eE_sli, eE_rev, eE_call, eE_callK, eE_bi, eE_met, eEs_nil, eEs_cons, eT_and, eT_or, eT_not, eT_tt, eT_cmp, eT_chain, eT_e, eG_nm, eG_sub, eG_tp, eGs_nil, eGs_cons, setAll, List.set_cons_zero, List.set_cons_succ, obind, omap, List.getElem?_cons_zero, List.getElem?_cons_succ, if_true, Bool.false_eq_true, if_false, biM, tr_bool, tr_int, tr_list, tr_tuple, isi_str, isi_tup, isi_int, isi_bool_int, len_tup, len_list, add_int, sub_int, ix0, ix1, ix2, le_int, lt_int, gt_int, ge_int, eq_int, ne_int, eq_bool, ne_bool, eq_str, ne_str, decide_true, decide_false, Bool.not_true, Bool.not_false, Bool.and_self, Bool.true_and, Bool.and_true, Bool.false_and, call1, call2, call3, call4, wipeE, isNil, partOf, List.map_cons, List.map_nil, ni_lI]
              rfl
      rw [et]
      cases wantB ss a.up lot p with
      | false => simp only [eSs_nil, eS_set, eS_par, eS_parT, eS_ex, eS_ifs, eS_ret, eS_pass, eS_never, eE_v, eE_c, eE_g, eE_tup, eE_lst, eE_bin, eE_neg, eE_cmp, eE_chain, eE_and, eE_or, eE_not, eE_ife, eE_idx, eE_sli, eE_rev, eE_call, eE_callK, eE_bi, eE_met, eEs_nil, eEs_cons, eT_and, eT_or, eT_not, eT_tt, eT_cmp, eT_chain, eT_e, eG_nm, eG_sub, eG_tp, eGs_nil, eGs_cons, setAll, List.set_cons_zero, List.set_cons_succ, obind, omap, List.getElem?_cons_zero, List.getElem?_cons_succ, if_true, Bool.false_eq_true, if_false, biM, tr_bool, tr_int, tr_list, tr_tuple, isi_str, isi_tup, isi_int, isi_bool_int, len_tup, len_list, add_int, sub_int, ix0, ix1, ix2, le_int, lt_int, gt_int, ge_int, eq_int, ne_int, eq_bool, ne_bool, eq_str, ne_str, decide_true, decide_false, Bool.not_true, Bool.not_false, Bool.and_self, Bool.true_and, Bool.and_true, Bool.false_and, call1, call2, call3, call4, wipeE, isNil, partOf, List.map_cons, List.map_nil, List.append_nil, eSs_cons]
      | true =>
        simp only [eSs_nil, eS_set, eS_par, eS_parT, eS_ex, eS_ifs, eS_ret, eS_pass, eS_never, eE_v, eE_c, eE_g, eE_tup, eE_lst, eE_bin, eE_neg, eE_cmp, eE_chain, eE_and, eE_or, eE_not, eE_ife, eE_idx, eE_sli, eE_rev, eE_call, eE_callK, eE_bi, eE_met, eEs_nil, eEs_cons, eT_and, eT_or, eT_not, eT_tt, eT_cmp, eT_chain, eT_e, eG_nm, eG_sub, eG_tp, eGs_nil, eGs_cons, setAll, List.set_cons_zero, List.set_cons_succ, obind, omap, List.getElem?_cons_zero, List.getElem?_cons_succ, if_true, Bool.false_eq_true, if_false, biM, tr_bool, tr_int, tr_list, tr_tuple, isi_str, isi_tup, isi_int, isi_bool_int, len_tup, len_list, add_int, sub_int, ix0, ix1, ix2, le_int, lt_int, gt_int, ge_int, eq_int, ne_int, eq_bool, ne_bool, eq_str, ne_str, decide_true, decide_false, Bool.not_true, Bool.not_false, Bool.and_self, Bool.true_and, Bool.and_true, Bool.false_and, call1, call2, call3, call4, wipeE, isNil, partOf, List.map_cons, List.map_nil, le2, pures, eSs_cons]
        rw [app_ref (c := ((pre.filter (wantB ss a.up lot)).map pr).map .d) rfl (by rw [List.length_map, List.length_map]; omega)]
        simp only [eSs_nil, eS_set, eS_par, eS_parT, eS_ex, eS_ifs, eS_ret, eS_pass, eS_never, eE_v, eE_c, eE_g, eE_tup, eE_lst, eE_bin, eE_neg, eE_cmp, eE_chain, eE_and, eE_or, eE_not, eE_ife, eE_idx, eE_sli, eE_rev, eE_call, eE_callK, eE_bi, eE_met, eEs_nil, eEs_cons, eT_and, eT_or, eT_not, eT_tt, eT_cmp, eT_chain, eT_e, eG_nm, eG_sub, eG_tp, eGs_nil, eGs_cons, setAll, List.set_cons_zero, List.set_cons_succ, obind, omap, List.getElem?_cons_zero, List.getElem?_cons_succ, if_true, Bool.false_eq_true, if_false, biM, tr_bool, tr_int, tr_list, tr_tuple, isi_str, isi_tup, isi_int, isi_bool_int, len_tup, len_list, add_int, sub_int, ix0, ix1, ix2, le_int, lt_int, gt_int, ge_int, eq_int, ne_int, eq_bool, ne_bool, eq_str, ne_str, decide_true, decide_false, Bool.not_true, Bool.not_false, Bool.and_self, Bool.true_and, Bool.and_true, Bool.false_and, call1, call2, call3, call4, wipeE, isNil, partOf, List.map_cons, List.map_nil, eSs_cons]
        try rfl))]
    rw [ss_ret (v := .ref 0) (S' := (stW m ss a lot ss).2) (by simp only [eSs_nil, eS_set, eS_par, eS_parT, eS_ex, eS_ifs, eS_ret, eS_pass, eS_never, eE_v, eE_c, eE_g, eE_tup, eE_lst, eE_bin, eE_neg, eE_cmp, eE_chain, eE_and, eE_or, eE_not, eE_ife, eE_idx, eE_sli, eE_rev, eE_call, eE_callK, eE_bi, eE_met, eEs_nil, eEs_cons, eT_and, eT_or, eT_not, eT_tt, eT_cmp, eT_chain, eT_e, eG_nm, eG_sub, eG_tp, eGs_nil, eGs_cons, setAll, List.set_cons_zero, List.set_cons_succ, obind, omap, List.getElem?_cons_zero, List.getElem?_cons_succ, if_true, Bool.false_eq_true, if_false, biM, tr_bool, tr_int, tr_list, tr_tuple, isi_str, isi_tup, isi_int, isi_bool_int, len_tup, len_list, add_int, sub_int, ix0, ix1, ix2, le_int, lt_int, gt_int, ge_int, eq_int, ne_int, eq_bool, ne_bool, eq_str, ne_str, decide_true, decide_false, Bool.not_true, Bool.not_false, Bool.and_self, Bool.true_and, Bool.and_true, Bool.false_and, call1, call2, call3, call4, wipeE, isNil, partOf, List.map_cons, List.map_nil, stW])]
    show (match (backD.backAll 0 _ (((ss.filter (wantB ss a.up lot)).map pr).map .d)).map PyData.list, purAll ([].take 0) with
      | some x, some cs => some (x, cs)
      | _, _ => none) = _
    rw [back_d]
    rfl
theorem zip_items {C : CallF} {ρ : TM.Env} {S : Store} {a b : Ex} (ss : List (Int × Int)) (ps : List Int) (ha : evE C a ρ S = some (.d (sD ss), S)) (hb : evE C b ρ S = some (.d (tI ps), S)) : evI C (.zip a b) ρ S = some ((ss.zip ps).map (fun q => .d (.tuple [pr q.1, .int q.2])), [], S) := by
  rw [eI_zip, ha, obind, hb, obind]
  simp only [sD, tI, itemsOf, bothKind, isTup, Bool.and_self, Bool.true_or, if_true, srcOf, List.append_nil]
  rw [zipD_of, List.zip_map, List.map_map]
  rfl
theorem s_sum_of (n : Nat) {m : Int} {ss : List (Int × Int)} (g : Good m ss) (ps : List Int) (W : List (Int × Int)) : run tab (n + 1) 10 [] [dD m ss, tI ps, .list (W.map pr)] = some (.int (psum ss ps W), []) := by
  have line := lineI
  have hms := g.many
  have hz : (ss.zip ps).length ≤ 100 := by rw [List.length_zip]; omega
  rw [r_sum_of]
  simp only [f_sum_of]
  rw [ss_ret (v := .d (.int (psum ss ps W))) (S' := []) (by
    simp only [eSs_nil, eS_set, eS_par, eS_parT, eS_ex, eS_ifs, eS_ret, eS_pass, eS_never, eE_v, eE_c, eE_g, eE_tup, eE_lst, eE_bin, eE_neg, eE_cmp, eE_chain, eE_and, eE_or, eE_not, eE_ife, eE_idx, eE_sli, eE_rev, eE_call, eE_callK, eE_bi, eE_met, eEs_nil, eEs_cons, eT_and, eT_or, eT_not, eT_tt, eT_cmp, eT_chain, eT_e, eG_nm, eG_sub, eG_tp, eGs_nil, eGs_cons, setAll, List.set_cons_zero, List.set_cons_succ, obind, omap, List.getElem?_cons_zero, List.getElem?_cons_succ, if_true, Bool.false_eq_true, if_false, biM, tr_bool, tr_int, tr_list, tr_tuple, isi_str, isi_tup, isi_int, isi_bool_int, len_tup, len_list, add_int, sub_int, ix0, ix1, ix2, le_int, lt_int, gt_int, ge_int, eq_int, ne_int, eq_bool, ne_bool, eq_str, ne_str, decide_true, decide_false, Bool.not_true, Bool.not_false, Bool.and_self, Bool.true_and, Bool.and_true, Bool.false_and, call1, call2, call3, call4, wipeE, isNil, partOf, List.map_cons, List.map_nil]
    rw [lc_filter (ss.zip ps) (fun q => .d (.tuple [pr q.1, .int q.2])) (fun q => decide (q.1 ∈ W)) (fun q => .int q.2) [] (zip_items ss ps (by simp only [eSs_nil, eS_set, eS_par, eS_parT, eS_ex, eS_ifs, eS_ret, eS_pass, eS_never, eE_v, eE_c, eE_g, eE_tup, eE_lst, eE_bin, eE_neg, eE_cmp, eE_chain, eE_and, eE_or, eE_not, eE_ife, eE_idx, eE_sli, eE_rev, eE_call, eE_callK, eE_bi, eE_met, eEs_nil, eEs_cons, eT_and, eT_or, eT_not, eT_tt, eT_cmp, eT_chain, eT_e, eG_nm, eG_sub, eG_tp, eGs_nil, eGs_cons, setAll, List.set_cons_zero, List.set_cons_succ, obind, omap, List.getElem?_cons_zero, List.getElem?_cons_succ, if_true, Bool.false_eq_true, if_false, biM, tr_bool, tr_int, tr_list, tr_tuple, isi_str, isi_tup, isi_int, isi_bool_int, len_tup, len_list, add_int, sub_int, ix0, ix1, ix2, le_int, lt_int, gt_int, ge_int, eq_int, ne_int, eq_bool, ne_bool, eq_str, ne_str, decide_true, decide_false, Bool.not_true, Bool.not_false, Bool.and_self, Bool.true_and, Bool.and_true, Bool.false_and, call1, call2, call3, call4, wipeE, isNil, partOf, List.map_cons, List.map_nil, dD]) (by simp only [eSs_nil, eS_set, eS_par, eS_parT, eS_ex, eS_ifs, eS_ret, eS_pass, eS_never, eE_v, eE_c, eE_g, eE_tup, eE_lst, eE_bin, eE_neg, eE_cmp, eE_chain, eE_and, eE_or, eE_not, eE_ife, eE_idx, eE_sli, eE_rev, eE_call, eE_callK, eE_bi, eE_met, eEs_nil, eEs_cons, eT_and, eT_or, eT_not, eT_tt, eT_cmp, eT_chain, eT_e, eG_nm, eG_sub, eG_tp, eGs_nil, eGs_cons, setAll, List.set_cons_zero, List.set_cons_succ, obind, omap, List.getElem?_cons_zero, List.getElem?_cons_succ, if_true, Bool.false_eq_true, if_false, biM, tr_bool, tr_int, tr_list, tr_tuple, isi_str, isi_tup, isi_int, isi_bool_int, len_tup, len_list, add_int, sub_int, ix0, ix1, ix2, le_int, lt_int, gt_int, ge_int, eq_int, ne_int, eq_bool, ne_bool, eq_str, ne_str, decide_true, decide_false, Bool.not_true, Bool.not_false, Bool.and_self, Bool.true_and, Bool.and_true, Bool.false_and, call1, call2, call3, call4, wipeE, isNil, partOf, List.map_cons, List.map_nil])) rfl (by
      have := List.length_filter_le (fun q : (Int × Int) × Int => decide (q.1 ∈ W)) (ss.zip ps)
      omega) (fun q _ => by
      simp only [eSs_nil, eS_set, eS_par, eS_parT, eS_ex, eS_ifs, eS_ret, eS_pass, eS_never, eE_v, eE_c, eE_g, eE_tup, eE_lst, eE_bin, eE_neg, eE_cmp, eE_chain, eE_and, eE_or, eE_not, eE_ife, eE_idx, eE_sli, eE_rev, eE_call, eE_callK, eE_bi, eE_met, eEs_nil, eEs_cons, eT_and, eT_or, eT_not, eT_tt, eT_cmp, eT_chain, eT_e, eG_nm, eG_sub, eG_tp, eGs_nil, eGs_cons, setAll, List.set_cons_zero, List.set_cons_succ, obind, omap, List.getElem?_cons_zero, List.getElem?_cons_succ, if_true, Bool.false_eq_true, if_false, biM, tr_bool, tr_int, tr_list, tr_tuple, isi_str, isi_tup, isi_int, isi_bool_int, len_tup, len_list, add_int, sub_int, ix0, ix1, ix2, le_int, lt_int, gt_int, ge_int, eq_int, ne_int, eq_bool, ne_bool, eq_str, ne_str, decide_true, decide_false, Bool.not_true, Bool.not_false, Bool.and_self, Bool.true_and, Bool.and_true, Bool.false_and, call1, call2, call3, call4, wipeE, isNil, partOf, List.map_cons, List.map_nil, lcT, (in_prL [] q.1 W).1]
      cases decide (q.1 ∈ W) <;> rfl)]
    simp only [eSs_nil, eS_set, eS_par, eS_parT, eS_ex, eS_ifs, eS_ret, eS_pass, eS_never, eE_v, eE_c, eE_g, eE_tup, eE_lst, eE_bin, eE_neg, eE_cmp, eE_chain, eE_and, eE_or, eE_not, eE_ife, eE_idx, eE_sli, eE_rev, eE_call, eE_callK, eE_bi, eE_met, eEs_nil, eEs_cons, eT_and, eT_or, eT_not, eT_tt, eT_cmp, eT_chain, eT_e, eG_nm, eG_sub, eG_tp, eGs_nil, eGs_cons, setAll, List.set_cons_zero, List.set_cons_succ, obind, omap, List.getElem?_cons_zero, List.getElem?_cons_succ, if_true, Bool.false_eq_true, if_false, biM, tr_bool, tr_int, tr_list, tr_tuple, isi_str, isi_tup, isi_int, isi_bool_int, len_tup, len_list, add_int, sub_int, ix0, ix1, ix2, le_int, lt_int, gt_int, ge_int, eq_int, ne_int, eq_bool, ne_bool, eq_str, ne_str, decide_true, decide_false, Bool.not_true, Bool.not_false, Bool.and_self, Bool.true_and, Bool.and_true, Bool.false_and, call1, call2, call3, call4, wipeE, isNil, partOf, List.map_cons, List.map_nil]
    have := sum_ints (S := []) (((ss.zip ps).filter fun q => decide (q.1 ∈ W)).map (·.2))
    rw [List.map_map] at this
    rw [show (List.map (fun q : (Int × Int) × Int => PyData.int q.2) ((ss.zip ps).filter fun q => decide (q.1 ∈ W))) = List.map (PyData.int ∘ fun x : (Int × Int) × Int => x.2) ((ss.zip ps).filter fun q => decide (q.1 ∈ W)) from rfl, this]
    rfl)]
  exact end0
theorem s_price_of (n : Nat) {m : Int} {ss : List (Int × Int)} (g : Good m ss) (ps : List Int) (a : Aim) (lot : List Int) : run tab (n + 3) 11 [] [dD m ss, tI ps, .str a.nm, tI lot] = some (costD m ss ps a.st a.up lot, []) := by
  rw [r_price_of]
  simp only [f_price_of]
  rw [ss_next (ρ' := [some (.d (dD m ss)), some (.d (tI ps)), some (.d (.str a.nm)), some (.d (tI lot)), some (.d (wntD m ss a.st a.up lot))]) (S' := []) (by
    simp only [eSs_nil, eS_set, eS_par, eS_parT, eS_ex, eS_ifs, eS_ret, eS_pass, eS_never, eE_v, eE_c, eE_g, eE_tup, eE_lst, eE_bin, eE_neg, eE_cmp, eE_chain, eE_and, eE_or, eE_not, eE_ife, eE_idx, eE_sli, eE_rev, eE_call, eE_callK, eE_bi, eE_met, eEs_nil, eEs_cons, eT_and, eT_or, eT_not, eT_tt, eT_cmp, eT_chain, eT_e, eG_nm, eG_sub, eG_tp, eGs_nil, eGs_cons, setAll, List.set_cons_zero, List.set_cons_succ, obind, omap, List.getElem?_cons_zero, List.getElem?_cons_succ, if_true, Bool.false_eq_true, if_false, biM, tr_bool, tr_int, tr_list, tr_tuple, isi_str, isi_tup, isi_int, isi_bool_int, len_tup, len_list, add_int, sub_int, ix0, ix1, ix2, le_int, lt_int, gt_int, ge_int, eq_int, ne_int, eq_bool, ne_bool, eq_str, ne_str, decide_true, decide_false, Bool.not_true, Bool.not_false, Bool.and_self, Bool.true_and, Bool.and_true, Bool.false_and, call1, call2, call3, call4, wipeE, isNil, partOf, List.map_cons, List.map_nil, s_wanted_of n g a lot])]
  rw [ss_ret (v := .d (costD m ss ps a.st a.up lot)) (S' := []) (by
    rw [wntD, costD]
    cases wnt m ss a.st a.up lot with
    | none =>
      simp only [eSs_nil, eS_set, eS_par, eS_parT, eS_ex, eS_ifs, eS_ret, eS_pass, eS_never, eE_v, eE_c, eE_g, eE_tup, eE_lst, eE_bin, eE_neg, eE_cmp, eE_chain, eE_and, eE_or, eE_not, eE_ife, eE_idx, eE_sli, eE_rev, eE_call, eE_callK, eE_bi, eE_met, eEs_nil, eEs_cons, eT_and, eT_or, eT_not, eT_tt, eT_cmp, eT_chain, eT_e, eG_nm, eG_sub, eG_tp, eGs_nil, eGs_cons, setAll, List.set_cons_zero, List.set_cons_succ, obind, omap, List.getElem?_cons_zero, List.getElem?_cons_succ, if_true, Bool.false_eq_true, if_false, biM, tr_bool, tr_int, tr_list, tr_tuple, isi_str, isi_tup, isi_int, isi_bool_int, len_tup, len_list, add_int, sub_int, ix0, ix1, ix2, le_int, lt_int, gt_int, ge_int, eq_int, ne_int, eq_bool, ne_bool, eq_str, ne_str, decide_true, decide_false, Bool.not_true, Bool.not_false, Bool.and_self, Bool.true_and, Bool.and_true, Bool.false_and, call1, call2, call3, call4, wipeE, isNil, partOf, List.map_cons, List.map_nil]
      rfl
    | some W => simp only [eSs_nil, eS_set, eS_par, eS_parT, eS_ex, eS_ifs, eS_ret, eS_pass, eS_never, eE_v, eE_c, eE_g, eE_tup, eE_lst, eE_bin, eE_neg, eE_cmp, eE_chain, eE_and, eE_or, eE_not, eE_ife, eE_idx, eE_sli, eE_rev, eE_call, eE_callK, eE_bi, eE_met, eEs_nil, eEs_cons, eT_and, eT_or, eT_not, eT_tt, eT_cmp, eT_chain, eT_e, eG_nm, eG_sub, eG_tp, eGs_nil, eGs_cons, setAll, List.set_cons_zero, List.set_cons_succ, obind, omap, List.getElem?_cons_zero, List.getElem?_cons_succ, if_true, Bool.false_eq_true, if_false, biM, tr_bool, tr_int, tr_list, tr_tuple, isi_str, isi_tup, isi_int, isi_bool_int, len_tup, len_list, add_int, sub_int, ix0, ix1, ix2, le_int, lt_int, gt_int, ge_int, eq_int, ne_int, eq_bool, ne_bool, eq_str, ne_str, decide_true, decide_false, Bool.not_true, Bool.not_false, Bool.and_self, Bool.true_and, Bool.and_true, Bool.false_and, call1, call2, call3, call4, wipeE, isNil, partOf, List.map_cons, List.map_nil, show cmpM .isS (.d (.list (W.map pr))) (.d .none) [] = some false from rfl, s_sum_of (n + 1) g ps W])]
  exact end0
theorem s_want_aim (n : Nat) (a : Aim) : run tab (n + 1) 14 [] [.str a.nm] = some (.none, []) := by
  have e : cmpM .niS (.d (.str a.nm)) (.d (.tuple [.str "quiet", .str "upheld", .str "settled"])) [] = some false := by cases a <;> rfl
  rw [r_want_aim]
  simp only [eSs_nil, eS_set, eS_par, eS_parT, eS_ex, eS_ifs, eS_ret, eS_pass, eS_never, eE_v, eE_c, eE_g, eE_tup, eE_lst, eE_bin, eE_neg, eE_cmp, eE_chain, eE_and, eE_or, eE_not, eE_ife, eE_idx, eE_sli, eE_rev, eE_call, eE_callK, eE_bi, eE_met, eEs_nil, eEs_cons, eT_and, eT_or, eT_not, eT_tt, eT_cmp, eT_chain, eT_e, eG_nm, eG_sub, eG_tp, eGs_nil, eGs_cons, setAll, List.set_cons_zero, List.set_cons_succ, obind, omap, List.getElem?_cons_zero, List.getElem?_cons_succ, if_true, Bool.false_eq_true, if_false, biM, tr_bool, tr_int, tr_list, tr_tuple, isi_str, isi_tup, isi_int, isi_bool_int, len_tup, len_list, add_int, sub_int, ix0, ix1, ix2, le_int, lt_int, gt_int, ge_int, eq_int, ne_int, eq_bool, ne_bool, eq_str, ne_str, decide_true, decide_false, Bool.not_true, Bool.not_false, Bool.and_self, Bool.true_and, Bool.and_true, Bool.false_and, call1, call2, call3, call4, wipeE, isNil, partOf, List.map_cons, List.map_nil, f_want_aim, e, eSs_cons]
  rfl
/-- prices as they must be -/
structure Pri (ss : List (Int × Int)) (ps : List Int) : Prop where
  len : ps.length = ss.length
  win : ∀ p, p ∈ ps → 0 ≤ p ∧ p ≤ 9
theorem s_want_prices (n : Nat) {m : Int} {ss : List (Int × Int)} (g : Good m ss) {ps : List Int} (hp : Pri ss ps) (a : Aim) : run tab (n + 6) 15 [] [dD m ss, tI ps, .str a.nm] = some (.none, []) := by
  have line := lineI
  have hms := g.many
  have hl := hp.len
  rw [r_want_prices]
  simp only [f_want_prices]
  rw [ss_next (ρ' := [some (.d (dD m ss)), some (.d (tI ps)), some (.d (.str a.nm)), none]) (S' := []) (by
    simp only [eSs_nil, eS_set, eS_par, eS_parT, eS_ex, eS_ifs, eS_ret, eS_pass, eS_never, eE_v, eE_c, eE_g, eE_tup, eE_lst, eE_bin, eE_neg, eE_cmp, eE_chain, eE_and, eE_or, eE_not, eE_ife, eE_idx, eE_sli, eE_rev, eE_call, eE_callK, eE_bi, eE_met, eEs_nil, eEs_cons, eT_and, eT_or, eT_not, eT_tt, eT_cmp, eT_chain, eT_e, eG_nm, eG_sub, eG_tp, eGs_nil, eGs_cons, setAll, List.set_cons_zero, List.set_cons_succ, obind, omap, List.getElem?_cons_zero, List.getElem?_cons_succ, if_true, Bool.false_eq_true, if_false, biM, tr_bool, tr_int, tr_list, tr_tuple, isi_str, isi_tup, isi_int, isi_bool_int, len_tup, len_list, add_int, sub_int, ix0, ix1, ix2, le_int, lt_int, gt_int, ge_int, eq_int, ne_int, eq_bool, ne_bool, eq_str, ne_str, decide_true, decide_false, Bool.not_true, Bool.not_false, Bool.and_self, Bool.true_and, Bool.and_true, Bool.false_and, call1, call2, call3, call4, wipeE, isNil, partOf, List.map_cons, List.map_nil, s_want_dispute n g])]
  have e1 : run tab (n + 5) 2 [] [tI ps, .int (ss.length : Int)] = some (.bool true, []) := by
    have := s_is_tuple (n + 4) (ps.map .int) (ss.length : Int)
    rw [List.length_map, hl, decide_eq_true rfl] at this
    exact this
  have e2 : ps.all (fun p => decide (0 ≤ p) && decide (p ≤ 9)) = true := List.all_eq_true.mpr fun p h => by
    have := hp.win p h
    simp [this.1, this.2]
  rw [ss_next (ρ' := [some (.d (dD m ss)), some (.d (tI ps)), some (.d (.str a.nm)), none]) (S' := []) (by
    simp only [eSs_nil, eS_set, eS_par, eS_parT, eS_ex, eS_ifs, eS_ret, eS_pass, eS_never, eE_v, eE_c, eE_g, eE_tup, eE_lst, eE_bin, eE_neg, eE_cmp, eE_chain, eE_and, eE_or, eE_not, eE_ife, eE_idx, eE_sli, eE_rev, eE_call, eE_callK, eE_bi, eE_met, eEs_nil, eEs_cons, eT_and, eT_or, eT_not, eT_tt, eT_cmp, eT_chain, eT_e, eG_nm, eG_sub, eG_tp, eGs_nil, eGs_cons, setAll, List.set_cons_zero, List.set_cons_succ, obind, omap, List.getElem?_cons_zero, List.getElem?_cons_succ, if_true, Bool.false_eq_true, if_false, biM, tr_bool, tr_int, tr_list, tr_tuple, isi_str, isi_tup, isi_int, isi_bool_int, len_tup, len_list, add_int, sub_int, ix0, ix1, ix2, le_int, lt_int, gt_int, ge_int, eq_int, ne_int, eq_bool, ne_bool, eq_str, ne_str, decide_true, decide_false, Bool.not_true, Bool.not_false, Bool.and_self, Bool.true_and, Bool.and_true, Bool.false_and, call1, call2, call3, call4, wipeE, isNil, partOf, List.map_cons, List.map_nil, dD, sD, List.length_map, e1]
    rw [lc_map ps (fun p => .d (.int p)) (fun p => .bool (decide (0 ≤ p) && decide (p ≤ 9))) [] (by
      simp only [eSs_nil, eS_set, eS_par, eS_parT, eS_ex, eS_ifs, eS_ret, eS_pass, eS_never, eE_v, eE_c, eE_g, eE_tup, eE_lst, eE_bin, eE_neg, eE_cmp, eE_chain, eE_and, eE_or, eE_not, eE_ife, eE_idx, eE_sli, eE_rev, eE_call, eE_callK, eE_bi, eE_met, eEs_nil, eEs_cons, eT_and, eT_or, eT_not, eT_tt, eT_cmp, eT_chain, eT_e, eG_nm, eG_sub, eG_tp, eGs_nil, eGs_cons, setAll, List.set_cons_zero, List.set_cons_succ, obind, omap, List.getElem?_cons_zero, List.getElem?_cons_succ, if_true, Bool.false_eq_true, if_false, biM, tr_bool, tr_int, tr_list, tr_tuple, isi_str, isi_tup, isi_int, isi_bool_int, len_tup, len_list, add_int, sub_int, ix0, ix1, ix2, le_int, lt_int, gt_int, ge_int, eq_int, ne_int, eq_bool, ne_bool, eq_str, ne_str, decide_true, decide_false, Bool.not_true, Bool.not_false, Bool.and_self, Bool.true_and, Bool.and_true, Bool.false_and, call1, call2, call3, call4, wipeE, isNil, partOf, List.map_cons, List.map_nil, eI_seq, tI, itemsOf, srcOf, List.map_map]
      rfl) rfl (by omega) (fun p _ => by
      simp only [eSs_nil, eS_set, eS_par, eS_parT, eS_ex, eS_ifs, eS_ret, eS_pass, eS_never, eE_v, eE_c, eE_g, eE_tup, eE_lst, eE_bin, eE_neg, eE_cmp, eE_chain, eE_and, eE_or, eE_not, eE_ife, eE_idx, eE_sli, eE_rev, eE_call, eE_callK, eE_bi, eE_met, eEs_nil, eEs_cons, eT_and, eT_or, eT_not, eT_tt, eT_cmp, eT_chain, eT_e, eG_nm, eG_sub, eG_tp, eGs_nil, eGs_cons, setAll, List.set_cons_zero, List.set_cons_succ, obind, omap, List.getElem?_cons_zero, List.getElem?_cons_succ, if_true, Bool.false_eq_true, if_false, biM, tr_bool, tr_int, tr_list, tr_tuple, isi_str, isi_tup, isi_int, isi_bool_int, len_tup, len_list, add_int, sub_int, ix0, ix1, ix2, le_int, lt_int, gt_int, ge_int, eq_int, ne_int, eq_bool, ne_bool, eq_str, ne_str, decide_true, decide_false, Bool.not_true, Bool.not_false, Bool.and_self, Bool.true_and, Bool.and_true, Bool.false_and, call1, call2, call3, call4, wipeE, isNil, partOf, List.map_cons, List.map_nil, lcT, s_is_within])]
    simp only [eSs_nil, eS_set, eS_par, eS_parT, eS_ex, eS_ifs, eS_ret, eS_pass, eS_never, eE_v, eE_c, eE_g, eE_tup, eE_lst, eE_bin, eE_neg, eE_cmp, eE_chain, eE_and, eE_or, eE_not, eE_ife, eE_idx, eE_sli, eE_rev, eE_call, eE_callK, eE_bi, eE_met, eEs_nil, eEs_cons, eT_and, eT_or, eT_not, eT_tt, eT_cmp, eT_chain, eT_e, eG_nm, eG_sub, eG_tp, eGs_nil, eGs_cons, setAll, List.set_cons_zero, List.set_cons_succ, obind, omap, List.getElem?_cons_zero, List.getElem?_cons_succ, if_true, Bool.false_eq_true, if_false, biM, tr_bool, tr_int, tr_list, tr_tuple, isi_str, isi_tup, isi_int, isi_bool_int, len_tup, len_list, add_int, sub_int, ix0, ix1, ix2, le_int, lt_int, gt_int, ge_int, eq_int, ne_int, eq_bool, ne_bool, eq_str, ne_str, decide_true, decide_false, Bool.not_true, Bool.not_false, Bool.and_self, Bool.true_and, Bool.and_true, Bool.false_and, call1, call2, call3, call4, wipeE, isNil, partOf, List.map_cons, List.map_nil, all_map, e2])]
  rw [ss_next (ρ' := [some (.d (dD m ss)), some (.d (tI ps)), some (.d (.str a.nm)), none]) (S' := []) (by
    simp only [eSs_nil, eS_set, eS_par, eS_parT, eS_ex, eS_ifs, eS_ret, eS_pass, eS_never, eE_v, eE_c, eE_g, eE_tup, eE_lst, eE_bin, eE_neg, eE_cmp, eE_chain, eE_and, eE_or, eE_not, eE_ife, eE_idx, eE_sli, eE_rev, eE_call, eE_callK, eE_bi, eE_met, eEs_nil, eEs_cons, eT_and, eT_or, eT_not, eT_tt, eT_cmp, eT_chain, eT_e, eG_nm, eG_sub, eG_tp, eGs_nil, eGs_cons, setAll, List.set_cons_zero, List.set_cons_succ, obind, omap, List.getElem?_cons_zero, List.getElem?_cons_succ, if_true, Bool.false_eq_true, if_false, biM, tr_bool, tr_int, tr_list, tr_tuple, isi_str, isi_tup, isi_int, isi_bool_int, len_tup, len_list, add_int, sub_int, ix0, ix1, ix2, le_int, lt_int, gt_int, ge_int, eq_int, ne_int, eq_bool, ne_bool, eq_str, ne_str, decide_true, decide_false, Bool.not_true, Bool.not_false, Bool.and_self, Bool.true_and, Bool.and_true, Bool.false_and, call1, call2, call3, call4, wipeE, isNil, partOf, List.map_cons, List.map_nil, s_want_aim (n + 4) a])]
  rw [eSs_nil]
  exact endN
end K05
end
section
set_option Elab.async false
set_option linter.all false
set_option autoImplicit false
set_option maxRecDepth 1000000
set_option maxHeartbeats 2000000
namespace K05
open TM PySem
theorem s_pot (n : Nat) (ns : List Int) (k : Nat) (hk : k < 64) : ∃ c, Pot c ∧ run tab (n + 1) 18 [] [scrD ns, .int (k : Int)] = some (.list c, []) := by
  obtain ⟨c, e⟩ : ∃ c : Int, evE (run tab n) (.ife (.cmp .lt (.v 1) (.bi .len false (.cons (.v 0) .nil))) (.bi .abs false (.cons (.idx (.v 0) (.v 1)) .nil)) (.bin false .add (.bin false .mul (.c (.int 7333)) (.v 1)) (.c (.int 997)))) [some (.d (scrD ns)), some (.d (.int (k : Int))), none] [] = some (.d (.int c), []) := by
    simp only [eSs_nil, eS_set, eS_par, eS_parT, eS_ex, eS_ifs, eS_ret, eS_pass, eS_never, eE_v, eE_c, eE_g, eE_tup, eE_lst, eE_bin, eE_neg, eE_cmp, eE_chain, eE_and, eE_or, eE_not, eE_ife, eE_idx, eE_sli, eE_rev, eE_call, eE_callK, eE_bi, eE_met, eEs_nil, eEs_cons, eT_and, eT_or, eT_not, eT_tt, eT_cmp, eT_chain, eT_e, eG_nm, eG_sub, eG_tp, eGs_nil, eGs_cons, setAll, List.set_cons_zero, List.set_cons_succ, obind, omap, List.getElem?_cons_zero, List.getElem?_cons_succ, if_true, Bool.false_eq_true, if_false, biM, tr_bool, tr_int, tr_list, tr_tuple, isi_str, isi_tup, isi_int, isi_bool_int, len_tup, len_list, add_int, sub_int, ix0, ix1, ix2, le_int, lt_int, gt_int, ge_int, eq_int, ne_int, eq_bool, ne_bool, eq_str, ne_str, decide_true, decide_false, Bool.not_true, Bool.not_false, Bool.and_self, Bool.true_and, Bool.and_true, Bool.false_and, call1, call2, call3, call4, wipeE, isNil, partOf, List.map_cons, List.map_nil]
    rw [scr_len]
    simp only [eSs_nil, eS_set, eS_par, eS_parT, eS_ex, eS_ifs, eS_ret, eS_pass, eS_never, eE_v, eE_c, eE_g, eE_tup, eE_lst, eE_bin, eE_neg, eE_cmp, eE_chain, eE_and, eE_or, eE_not, eE_ife, eE_idx, eE_sli, eE_rev, eE_call, eE_callK, eE_bi, eE_met, eEs_nil, eEs_cons, eT_and, eT_or, eT_not, eT_tt, eT_cmp, eT_chain, eT_e, eG_nm, eG_sub, eG_tp, eGs_nil, eGs_cons, setAll, List.set_cons_zero, List.set_cons_succ, obind, omap, List.getElem?_cons_zero, List.getElem?_cons_succ, if_true, Bool.false_eq_true, if_false, biM, tr_bool, tr_int, tr_list, tr_tuple, isi_str, isi_tup, isi_int, isi_bool_int, len_tup, len_list, add_int, sub_int, ix0, ix1, ix2, le_int, lt_int, gt_int, ge_int, eq_int, ne_int, eq_bool, ne_bool, eq_str, ne_str, decide_true, decide_false, Bool.not_true, Bool.not_false, Bool.and_self, Bool.true_and, Bool.and_true, Bool.false_and, call1, call2, call3, call4, wipeE, isNil, partOf, List.map_cons, List.map_nil]
    by_cases h : k < ns.length
    · rw [if_pos (by simpa using h), scr_ix h]
      simp only [eSs_nil, eS_set, eS_par, eS_parT, eS_ex, eS_ifs, eS_ret, eS_pass, eS_never, eE_v, eE_c, eE_g, eE_tup, eE_lst, eE_bin, eE_neg, eE_cmp, eE_chain, eE_and, eE_or, eE_not, eE_ife, eE_idx, eE_sli, eE_rev, eE_call, eE_callK, eE_bi, eE_met, eEs_nil, eEs_cons, eT_and, eT_or, eT_not, eT_tt, eT_cmp, eT_chain, eT_e, eG_nm, eG_sub, eG_tp, eGs_nil, eGs_cons, setAll, List.set_cons_zero, List.set_cons_succ, obind, omap, List.getElem?_cons_zero, List.getElem?_cons_succ, if_true, Bool.false_eq_true, if_false, biM, tr_bool, tr_int, tr_list, tr_tuple, isi_str, isi_tup, isi_int, isi_bool_int, len_tup, len_list, add_int, sub_int, ix0, ix1, ix2, le_int, lt_int, gt_int, ge_int, eq_int, ne_int, eq_bool, ne_bool, eq_str, ne_str, decide_true, decide_false, Bool.not_true, Bool.not_false, Bool.and_self, Bool.true_and, Bool.and_true, Bool.false_and, call1, call2, call3, call4, wipeE, isNil, partOf, List.map_cons, List.map_nil, biAbs]
      exact ⟨_, rfl⟩
    · rw [if_neg (by simpa using h)]
      simp only [eSs_nil, eS_set, eS_par, eS_parT, eS_ex, eS_ifs, eS_ret, eS_pass, eS_never, eE_v, eE_c, eE_g, eE_tup, eE_lst, eE_bin, eE_neg, eE_cmp, eE_chain, eE_and, eE_or, eE_not, eE_ife, eE_idx, eE_sli, eE_rev, eE_call, eE_callK, eE_bi, eE_met, eEs_nil, eEs_cons, eT_and, eT_or, eT_not, eT_tt, eT_cmp, eT_chain, eT_e, eG_nm, eG_sub, eG_tp, eGs_nil, eGs_cons, setAll, List.set_cons_zero, List.set_cons_succ, obind, omap, List.getElem?_cons_zero, List.getElem?_cons_succ, if_true, Bool.false_eq_true, if_false, biM, tr_bool, tr_int, tr_list, tr_tuple, isi_str, isi_tup, isi_int, isi_bool_int, len_tup, len_list, add_int, sub_int, ix0, ix1, ix2, le_int, lt_int, gt_int, ge_int, eq_int, ne_int, eq_bool, ne_bool, eq_str, ne_str, decide_true, decide_false, Bool.not_true, Bool.not_false, Bool.and_self, Bool.true_and, Bool.and_true, Bool.false_and, call1, call2, call3, call4, wipeE, isNil, partOf, List.map_cons, List.map_nil, op2]
      rw [if_pos (by simp only [Bool.or_eq_true, Bool.and_eq_true, decide_eq_true_eq]; omega)]
      simp only [eSs_nil, eS_set, eS_par, eS_parT, eS_ex, eS_ifs, eS_ret, eS_pass, eS_never, eE_v, eE_c, eE_g, eE_tup, eE_lst, eE_bin, eE_neg, eE_cmp, eE_chain, eE_and, eE_or, eE_not, eE_ife, eE_idx, eE_sli, eE_rev, eE_call, eE_callK, eE_bi, eE_met, eEs_nil, eEs_cons, eT_and, eT_or, eT_not, eT_tt, eT_cmp, eT_chain, eT_e, eG_nm, eG_sub, eG_tp, eGs_nil, eGs_cons, setAll, List.set_cons_zero, List.set_cons_succ, obind, omap, List.getElem?_cons_zero, List.getElem?_cons_succ, if_true, Bool.false_eq_true, if_false, biM, tr_bool, tr_int, tr_list, tr_tuple, isi_str, isi_tup, isi_int, isi_bool_int, len_tup, len_list, add_int, sub_int, ix0, ix1, ix2, le_int, lt_int, gt_int, ge_int, eq_int, ne_int, eq_bool, ne_bool, eq_str, ne_str, decide_true, decide_false, Bool.not_true, Bool.not_false, Bool.and_self, Bool.true_and, Bool.and_true, Bool.false_and, call1, call2, call3, call4, wipeE, isNil, partOf, List.map_cons, List.map_nil]
      exact ⟨_, rfl⟩
  have hq : 0 ≤ (c % 2147483549 * 40692 + 7333 * (k : Int) + 997) % 2147483563 ∧ (c % 2147483549 * 40692 + 7333 * (k : Int) + 997) % 2147483563 < 2147483563 := ⟨Int.emod_nonneg _ (by decide), Int.emod_lt_of_pos _ (by decide)⟩
  refine ⟨[.int (if c - 10 ^ 18 > 0 then c - 10 ^ 18 else 0), .int ((c % 2147483549 * 40692 + 7333 * (k : Int) + 997) % 2147483563 + 1)], ⟨_, _, rfl, ?_, by omega, by omega⟩, ?_⟩
  · split <;> omega
  · rw [r__law_pot]
    simp only [f__law_pot]
    rw [eSs_cons, eS_set, e]
    have h1 : 0 ≤ c % 2147483549 ∧ c % 2147483549 < 2147483549 := ⟨Int.emod_nonneg _ (by decide), Int.emod_lt_of_pos _ (by decide)⟩
    simp only [eSs_nil, eS_set, eS_par, eS_parT, eS_ex, eS_ifs, eS_ret, eS_pass, eS_never, eE_v, eE_c, eE_g, eE_tup, eE_lst, eE_bin, eE_neg, eE_cmp, eE_chain, eE_and, eE_or, eE_not, eE_ife, eE_idx, eE_sli, eE_rev, eE_call, eE_callK, eE_bi, eE_met, eEs_nil, eEs_cons, eT_and, eT_or, eT_not, eT_tt, eT_cmp, eT_chain, eT_e, eG_nm, eG_sub, eG_tp, eGs_nil, eGs_cons, setAll, List.set_cons_zero, List.set_cons_succ, obind, omap, List.getElem?_cons_zero, List.getElem?_cons_succ, if_true, Bool.false_eq_true, if_false, biM, tr_bool, tr_int, tr_list, tr_tuple, isi_str, isi_tup, isi_int, isi_bool_int, len_tup, len_list, add_int, sub_int, ix0, ix1, ix2, le_int, lt_int, gt_int, ge_int, eq_int, ne_int, eq_bool, ne_bool, eq_str, ne_str, decide_true, decide_false, Bool.not_true, Bool.not_false, Bool.and_self, Bool.true_and, Bool.and_true, Bool.false_and, call1, call2, call3, call4, wipeE, isNil, partOf, List.map_cons, List.map_nil, eSs_cons]
    rw [show op2 false .pow (.d (.int 10)) (.d (.int 18)) [] = some (.d (.int (10 ^ 18)), []) from rfl]
    simp only [eSs_nil, eS_set, eS_par, eS_parT, eS_ex, eS_ifs, eS_ret, eS_pass, eS_never, eE_v, eE_c, eE_g, eE_tup, eE_lst, eE_bin, eE_neg, eE_cmp, eE_chain, eE_and, eE_or, eE_not, eE_ife, eE_idx, eE_sli, eE_rev, eE_call, eE_callK, eE_bi, eE_met, eEs_nil, eEs_cons, eT_and, eT_or, eT_not, eT_tt, eT_cmp, eT_chain, eT_e, eG_nm, eG_sub, eG_tp, eGs_nil, eGs_cons, setAll, List.set_cons_zero, List.set_cons_succ, obind, omap, List.getElem?_cons_zero, List.getElem?_cons_succ, if_true, Bool.false_eq_true, if_false, biM, tr_bool, tr_int, tr_list, tr_tuple, isi_str, isi_tup, isi_int, isi_bool_int, len_tup, len_list, add_int, sub_int, ix0, ix1, ix2, le_int, lt_int, gt_int, ge_int, eq_int, ne_int, eq_bool, ne_bool, eq_str, ne_str, decide_true, decide_false, Bool.not_true, Bool.not_false, Bool.and_self, Bool.true_and, Bool.and_true, Bool.false_and, call1, call2, call3, call4, wipeE, isNil, partOf, List.map_cons, List.map_nil, biMax2, biInt, eSs_cons]
    rw [show op2 false .mod (.d (.int c)) (.d (.int 2147483549)) [] = some (.d (.int (c % 2147483549)), []) from rfl]
    simp only [eSs_nil, eS_set, eS_par, eS_parT, eS_ex, eS_ifs, eS_ret, eS_pass, eS_never, eE_v, eE_c, eE_g, eE_tup, eE_lst, eE_bin, eE_neg, eE_cmp, eE_chain, eE_and, eE_or, eE_not, eE_ife, eE_idx, eE_sli, eE_rev, eE_call, eE_callK, eE_bi, eE_met, eEs_nil, eEs_cons, eT_and, eT_or, eT_not, eT_tt, eT_cmp, eT_chain, eT_e, eG_nm, eG_sub, eG_tp, eGs_nil, eGs_cons, setAll, List.set_cons_zero, List.set_cons_succ, obind, omap, List.getElem?_cons_zero, List.getElem?_cons_succ, if_true, Bool.false_eq_true, if_false, biM, tr_bool, tr_int, tr_list, tr_tuple, isi_str, isi_tup, isi_int, isi_bool_int, len_tup, len_list, add_int, sub_int, ix0, ix1, ix2, le_int, lt_int, gt_int, ge_int, eq_int, ne_int, eq_bool, ne_bool, eq_str, ne_str, decide_true, decide_false, Bool.not_true, Bool.not_false, Bool.and_self, Bool.true_and, Bool.and_true, Bool.false_and, call1, call2, call3, call4, wipeE, isNil, partOf, List.map_cons, List.map_nil, eSs_cons]
    rw [mul_int (c % 2147483549) 40692 (by omega)]
    simp only [eSs_nil, eS_set, eS_par, eS_parT, eS_ex, eS_ifs, eS_ret, eS_pass, eS_never, eE_v, eE_c, eE_g, eE_tup, eE_lst, eE_bin, eE_neg, eE_cmp, eE_chain, eE_and, eE_or, eE_not, eE_ife, eE_idx, eE_sli, eE_rev, eE_call, eE_callK, eE_bi, eE_met, eEs_nil, eEs_cons, eT_and, eT_or, eT_not, eT_tt, eT_cmp, eT_chain, eT_e, eG_nm, eG_sub, eG_tp, eGs_nil, eGs_cons, setAll, List.set_cons_zero, List.set_cons_succ, obind, omap, List.getElem?_cons_zero, List.getElem?_cons_succ, if_true, Bool.false_eq_true, if_false, biM, tr_bool, tr_int, tr_list, tr_tuple, isi_str, isi_tup, isi_int, isi_bool_int, len_tup, len_list, add_int, sub_int, ix0, ix1, ix2, le_int, lt_int, gt_int, ge_int, eq_int, ne_int, eq_bool, ne_bool, eq_str, ne_str, decide_true, decide_false, Bool.not_true, Bool.not_false, Bool.and_self, Bool.true_and, Bool.and_true, Bool.false_and, call1, call2, call3, call4, wipeE, isNil, partOf, List.map_cons, List.map_nil, eSs_cons]
    rw [mul_int 7333 (k : Int) (by omega)]
    simp only [eSs_nil, eS_set, eS_par, eS_parT, eS_ex, eS_ifs, eS_ret, eS_pass, eS_never, eE_v, eE_c, eE_g, eE_tup, eE_lst, eE_bin, eE_neg, eE_cmp, eE_chain, eE_and, eE_or, eE_not, eE_ife, eE_idx, eE_sli, eE_rev, eE_call, eE_callK, eE_bi, eE_met, eEs_nil, eEs_cons, eT_and, eT_or, eT_not, eT_tt, eT_cmp, eT_chain, eT_e, eG_nm, eG_sub, eG_tp, eGs_nil, eGs_cons, setAll, List.set_cons_zero, List.set_cons_succ, obind, omap, List.getElem?_cons_zero, List.getElem?_cons_succ, if_true, Bool.false_eq_true, if_false, biM, tr_bool, tr_int, tr_list, tr_tuple, isi_str, isi_tup, isi_int, isi_bool_int, len_tup, len_list, add_int, sub_int, ix0, ix1, ix2, le_int, lt_int, gt_int, ge_int, eq_int, ne_int, eq_bool, ne_bool, eq_str, ne_str, decide_true, decide_false, Bool.not_true, Bool.not_false, Bool.and_self, Bool.true_and, Bool.and_true, Bool.false_and, call1, call2, call3, call4, wipeE, isNil, partOf, List.map_cons, List.map_nil, eSs_cons]
    rw [show ∀ x : Int, op2 false .mod (.d (.int x)) (.d (.int 2147483563)) [] = some (.d (.int (x % 2147483563)), []) from fun x => rfl]
    simp only [eSs_nil, eS_set, eS_par, eS_parT, eS_ex, eS_ifs, eS_ret, eS_pass, eS_never, eE_v, eE_c, eE_g, eE_tup, eE_lst, eE_bin, eE_neg, eE_cmp, eE_chain, eE_and, eE_or, eE_not, eE_ife, eE_idx, eE_sli, eE_rev, eE_call, eE_callK, eE_bi, eE_met, eEs_nil, eEs_cons, eT_and, eT_or, eT_not, eT_tt, eT_cmp, eT_chain, eT_e, eG_nm, eG_sub, eG_tp, eGs_nil, eGs_cons, setAll, List.set_cons_zero, List.set_cons_succ, obind, omap, List.getElem?_cons_zero, List.getElem?_cons_succ, if_true, Bool.false_eq_true, if_false, biM, tr_bool, tr_int, tr_list, tr_tuple, isi_str, isi_tup, isi_int, isi_bool_int, len_tup, len_list, add_int, sub_int, ix0, ix1, ix2, le_int, lt_int, gt_int, ge_int, eq_int, ne_int, eq_bool, ne_bool, eq_str, ne_str, decide_true, decide_false, Bool.not_true, Bool.not_false, Bool.and_self, Bool.true_and, Bool.and_true, Bool.false_and, call1, call2, call3, call4, wipeE, isNil, partOf, List.map_cons, List.map_nil, eSs_cons]
    rw [show ∀ a b : PyData, mkL false [.d a, .d b] [] = some (.d (.list [a, b]), []) from fun a b => mkL_data (xs := [a, b]) (by rw [lineI]; simp only [List.length_cons, List.length_nil]; omega)]
    rfl
theorem s_draw (n : Nat) {c : List PyData} (h : Pot c) {many : Int} (h1 : 0 < many) (h2 : many < 1073741824) : ∃ d c', Pot c' ∧ 0 ≤ d ∧ d < many ∧ run tab (n + 1) 19 [c] [.int many] = some (.int d, [c']) := by
  obtain ⟨p, q, rfl, hp, hq, hq2⟩ := h
  rw [r__law_draw]
  simp only [f__law_draw]
  by_cases pos : 0 < p
  · refine ⟨p % many, [.int (p / many), .int q], ⟨_, _, rfl, Int.ediv_nonneg hp (by omega), hq, hq2⟩, Int.emod_nonneg _ (by omega), Int.emod_lt_of_pos _ h1, ?_⟩
    rw [eSs_cons, eS_ifs]
    simp only [eSs_nil, eS_set, eS_par, eS_parT, eS_ex, eS_ifs, eS_ret, eS_pass, eS_never, eE_v, eE_c, eE_g, eE_tup, eE_lst, eE_bin, eE_neg, eE_cmp, eE_chain, eE_and, eE_or, eE_not, eE_ife, eE_idx, eE_sli, eE_rev, eE_call, eE_callK, eE_bi, eE_met, eEs_nil, eEs_cons, eT_and, eT_or, eT_not, eT_tt, eT_cmp, eT_chain, eT_e, eG_nm, eG_sub, eG_tp, eGs_nil, eGs_cons, setAll, List.set_cons_zero, List.set_cons_succ, obind, omap, List.getElem?_cons_zero, List.getElem?_cons_succ, if_true, Bool.false_eq_true, if_false, biM, tr_bool, tr_int, tr_list, tr_tuple, isi_str, isi_tup, isi_int, isi_bool_int, len_tup, len_list, add_int, sub_int, ix0, ix1, ix2, le_int, lt_int, gt_int, ge_int, eq_int, ne_int, eq_bool, ne_bool, eq_str, ne_str, decide_true, decide_false, Bool.not_true, Bool.not_false, Bool.and_self, Bool.true_and, Bool.and_true, Bool.false_and, call1, call2, call3, call4, wipeE, isNil, partOf, List.map_cons, List.map_nil]
    rw [show ixM (.ref 0) (.d (.int 0)) [[.d (.int p), .d (.int q)]] = some (.d (.int p)) from rfl]
    simp only [eSs_nil, eS_set, eS_par, eS_parT, eS_ex, eS_ifs, eS_ret, eS_pass, eS_never, eE_v, eE_c, eE_g, eE_tup, eE_lst, eE_bin, eE_neg, eE_cmp, eE_chain, eE_and, eE_or, eE_not, eE_ife, eE_idx, eE_sli, eE_rev, eE_call, eE_callK, eE_bi, eE_met, eEs_nil, eEs_cons, eT_and, eT_or, eT_not, eT_tt, eT_cmp, eT_chain, eT_e, eG_nm, eG_sub, eG_tp, eGs_nil, eGs_cons, setAll, List.set_cons_zero, List.set_cons_succ, obind, omap, List.getElem?_cons_zero, List.getElem?_cons_succ, if_true, Bool.false_eq_true, if_false, biM, tr_bool, tr_int, tr_list, tr_tuple, isi_str, isi_tup, isi_int, isi_bool_int, len_tup, len_list, add_int, sub_int, ix0, ix1, ix2, le_int, lt_int, gt_int, ge_int, eq_int, ne_int, eq_bool, ne_bool, eq_str, ne_str, decide_true, decide_false, Bool.not_true, Bool.not_false, Bool.and_self, Bool.true_and, Bool.and_true, Bool.false_and, call1, call2, call3, call4, wipeE, isNil, partOf, List.map_cons, List.map_nil, pos, eSs_cons]
    rw [show ixM (.ref 0) (.d (.int 0)) [[.d (.int p), .d (.int q)]] = some (.d (.int p)) from rfl]
    simp only [eSs_nil, eS_set, eS_par, eS_parT, eS_ex, eS_ifs, eS_ret, eS_pass, eS_never, eE_v, eE_c, eE_g, eE_tup, eE_lst, eE_bin, eE_neg, eE_cmp, eE_chain, eE_and, eE_or, eE_not, eE_ife, eE_idx, eE_sli, eE_rev, eE_call, eE_callK, eE_bi, eE_met, eEs_nil, eEs_cons, eT_and, eT_or, eT_not, eT_tt, eT_cmp, eT_chain, eT_e, eG_nm, eG_sub, eG_tp, eGs_nil, eGs_cons, setAll, List.set_cons_zero, List.set_cons_succ, obind, omap, List.getElem?_cons_zero, List.getElem?_cons_succ, if_true, Bool.false_eq_true, if_false, biM, tr_bool, tr_int, tr_list, tr_tuple, isi_str, isi_tup, isi_int, isi_bool_int, len_tup, len_list, add_int, sub_int, ix0, ix1, ix2, le_int, lt_int, gt_int, ge_int, eq_int, ne_int, eq_bool, ne_bool, eq_str, ne_str, decide_true, decide_false, Bool.not_true, Bool.not_false, Bool.and_self, Bool.true_and, Bool.and_true, Bool.false_and, call1, call2, call3, call4, wipeE, isNil, partOf, List.map_cons, List.map_nil, eSs_cons]
    rw [show biDivmod [.d (.int p), .d (.int many)] [[.d (.int p), .d (.int q)]] = some (.d (.tuple [.int (p / many), .int (p % many)]), [[.d (.int p), .d (.int q)]]) from by
      show (if _ then _ else _) = _
      rw [if_pos (by simp only [Bool.and_eq_true, decide_eq_true_eq]; omega)]]
    simp only [eSs_nil, eS_set, eS_par, eS_parT, eS_ex, eS_ifs, eS_ret, eS_pass, eS_never, eE_v, eE_c, eE_g, eE_tup, eE_lst, eE_bin, eE_neg, eE_cmp, eE_chain, eE_and, eE_or, eE_not, eE_ife, eE_idx, eE_sli, eE_rev, eE_call, eE_callK, eE_bi, eE_met, eEs_nil, eEs_cons, eT_and, eT_or, eT_not, eT_tt, eT_cmp, eT_chain, eT_e, eG_nm, eG_sub, eG_tp, eGs_nil, eGs_cons, setAll, List.set_cons_zero, List.set_cons_succ, obind, omap, List.getElem?_cons_zero, List.getElem?_cons_succ, if_true, Bool.false_eq_true, if_false, biM, tr_bool, tr_int, tr_list, tr_tuple, isi_str, isi_tup, isi_int, isi_bool_int, len_tup, len_list, add_int, sub_int, ix0, ix1, ix2, le_int, lt_int, gt_int, ge_int, eq_int, ne_int, eq_bool, ne_bool, eq_str, ne_str, decide_true, decide_false, Bool.not_true, Bool.not_false, Bool.and_self, Bool.true_and, Bool.and_true, Bool.false_and, call1, call2, call3, call4, wipeE, isNil, partOf, List.map_cons, List.map_nil, eSs_cons]
    rfl
  · have m1 : 0 ≤ (q * 39373 + 7349) % 2147483587 ∧ (q * 39373 + 7349) % 2147483587 < 2147483587 := ⟨Int.emod_nonneg _ (by decide), Int.emod_lt_of_pos _ (by decide)⟩
    refine ⟨(((q * 39373 + 7349) % 2147483587) * ((q * 39373 + 7349) % 2147483587) % 2147483549 / 577) % many, [.int p, .int ((q * 39373 + 7349) % 2147483587)], ⟨_, _, rfl, hp, m1.1, by omega⟩, Int.emod_nonneg _ (by omega), Int.emod_lt_of_pos _ h1, ?_⟩
    rw [eSs_cons, eS_ifs]
    simp only [eSs_nil, eS_set, eS_par, eS_parT, eS_ex, eS_ifs, eS_ret, eS_pass, eS_never, eE_v, eE_c, eE_g, eE_tup, eE_lst, eE_bin, eE_neg, eE_cmp, eE_chain, eE_and, eE_or, eE_not, eE_ife, eE_idx, eE_sli, eE_rev, eE_call, eE_callK, eE_bi, eE_met, eEs_nil, eEs_cons, eT_and, eT_or, eT_not, eT_tt, eT_cmp, eT_chain, eT_e, eG_nm, eG_sub, eG_tp, eGs_nil, eGs_cons, setAll, List.set_cons_zero, List.set_cons_succ, obind, omap, List.getElem?_cons_zero, List.getElem?_cons_succ, if_true, Bool.false_eq_true, if_false, biM, tr_bool, tr_int, tr_list, tr_tuple, isi_str, isi_tup, isi_int, isi_bool_int, len_tup, len_list, add_int, sub_int, ix0, ix1, ix2, le_int, lt_int, gt_int, ge_int, eq_int, ne_int, eq_bool, ne_bool, eq_str, ne_str, decide_true, decide_false, Bool.not_true, Bool.not_false, Bool.and_self, Bool.true_and, Bool.and_true, Bool.false_and, call1, call2, call3, call4, wipeE, isNil, partOf, List.map_cons, List.map_nil]
    rw [show ixM (.ref 0) (.d (.int 0)) [[.d (.int p), .d (.int q)]] = some (.d (.int p)) from rfl]
    simp only [eSs_nil, eS_set, eS_par, eS_parT, eS_ex, eS_ifs, eS_ret, eS_pass, eS_never, eE_v, eE_c, eE_g, eE_tup, eE_lst, eE_bin, eE_neg, eE_cmp, eE_chain, eE_and, eE_or, eE_not, eE_ife, eE_idx, eE_sli, eE_rev, eE_call, eE_callK, eE_bi, eE_met, eEs_nil, eEs_cons, eT_and, eT_or, eT_not, eT_tt, eT_cmp, eT_chain, eT_e, eG_nm, eG_sub, eG_tp, eGs_nil, eGs_cons, setAll, List.set_cons_zero, List.set_cons_succ, obind, omap, List.getElem?_cons_zero, List.getElem?_cons_succ, if_true, Bool.false_eq_true, if_false, biM, tr_bool, tr_int, tr_list, tr_tuple, isi_str, isi_tup, isi_int, isi_bool_int, len_tup, len_list, add_int, sub_int, ix0, ix1, ix2, le_int, lt_int, gt_int, ge_int, eq_int, ne_int, eq_bool, ne_bool, eq_str, ne_str, decide_true, decide_false, Bool.not_true, Bool.not_false, Bool.and_self, Bool.true_and, Bool.and_true, Bool.false_and, call1, call2, call3, call4, wipeE, isNil, partOf, List.map_cons, List.map_nil, pos, eSs_cons]
    rw [show ixM (.ref 0) (.d (.int 1)) [[.d (.int p), .d (.int q)]] = some (.d (.int q)) from rfl]
    simp only [eSs_nil, eS_set, eS_par, eS_parT, eS_ex, eS_ifs, eS_ret, eS_pass, eS_never, eE_v, eE_c, eE_g, eE_tup, eE_lst, eE_bin, eE_neg, eE_cmp, eE_chain, eE_and, eE_or, eE_not, eE_ife, eE_idx, eE_sli, eE_rev, eE_call, eE_callK, eE_bi, eE_met, eEs_nil, eEs_cons, eT_and, eT_or, eT_not, eT_tt, eT_cmp, eT_chain, eT_e, eG_nm, eG_sub, eG_tp, eGs_nil, eGs_cons, setAll, List.set_cons_zero, List.set_cons_succ, obind, omap, List.getElem?_cons_zero, List.getElem?_cons_succ, if_true, Bool.false_eq_true, if_false, biM, tr_bool, tr_int, tr_list, tr_tuple, isi_str, isi_tup, isi_int, isi_bool_int, len_tup, len_list, add_int, sub_int, ix0, ix1, ix2, le_int, lt_int, gt_int, ge_int, eq_int, ne_int, eq_bool, ne_bool, eq_str, ne_str, decide_true, decide_false, Bool.not_true, Bool.not_false, Bool.and_self, Bool.true_and, Bool.and_true, Bool.false_and, call1, call2, call3, call4, wipeE, isNil, partOf, List.map_cons, List.map_nil, eSs_cons]
    rw [mul_int q 39373 (by omega)]
    simp only [eSs_nil, eS_set, eS_par, eS_parT, eS_ex, eS_ifs, eS_ret, eS_pass, eS_never, eE_v, eE_c, eE_g, eE_tup, eE_lst, eE_bin, eE_neg, eE_cmp, eE_chain, eE_and, eE_or, eE_not, eE_ife, eE_idx, eE_sli, eE_rev, eE_call, eE_callK, eE_bi, eE_met, eEs_nil, eEs_cons, eT_and, eT_or, eT_not, eT_tt, eT_cmp, eT_chain, eT_e, eG_nm, eG_sub, eG_tp, eGs_nil, eGs_cons, setAll, List.set_cons_zero, List.set_cons_succ, obind, omap, List.getElem?_cons_zero, List.getElem?_cons_succ, if_true, Bool.false_eq_true, if_false, biM, tr_bool, tr_int, tr_list, tr_tuple, isi_str, isi_tup, isi_int, isi_bool_int, len_tup, len_list, add_int, sub_int, ix0, ix1, ix2, le_int, lt_int, gt_int, ge_int, eq_int, ne_int, eq_bool, ne_bool, eq_str, ne_str, decide_true, decide_false, Bool.not_true, Bool.not_false, Bool.and_self, Bool.true_and, Bool.and_true, Bool.false_and, call1, call2, call3, call4, wipeE, isNil, partOf, List.map_cons, List.map_nil, eSs_cons]
    simp only [eSs_nil, eS_set, eS_par, eS_parT, eS_ex, eS_ifs, eS_ret, eS_pass, eS_never, eE_v, eE_c, eE_g, eE_tup, eE_lst, eE_bin, eE_neg, eE_cmp, eE_chain, eE_and, eE_or, eE_not, eE_ife, eE_idx, eE_sli, eE_rev, eE_call, eE_callK, eE_bi, eE_met, eEs_nil, eEs_cons, eT_and, eT_or, eT_not, eT_tt, eT_cmp, eT_chain, eT_e, eG_nm, eG_sub, eG_tp, eGs_nil, eGs_cons, setAll, List.set_cons_zero, List.set_cons_succ, obind, omap, List.getElem?_cons_zero, List.getElem?_cons_succ, if_true, Bool.false_eq_true, if_false, biM, tr_bool, tr_int, tr_list, tr_tuple, isi_str, isi_tup, isi_int, isi_bool_int, len_tup, len_list, add_int, sub_int, ix0, ix1, ix2, le_int, lt_int, gt_int, ge_int, eq_int, ne_int, eq_bool, ne_bool, eq_str, ne_str, decide_true, decide_false, Bool.not_true, Bool.not_false, Bool.and_self, Bool.true_and, Bool.and_true, Bool.false_and, call1, call2, call3, call4, wipeE, isNil, partOf, List.map_cons, List.map_nil, biInt, eSs_cons]
    rw [show ∀ (x : Int) S, op2 false .mod (.d (.int x)) (.d (.int 2147483587)) S = some (.d (.int (x % 2147483587)), S) from fun x S => rfl]
    generalize (q * 39373 + 7349) % 2147483587 = w at m1
    simp only [eSs_nil, eS_set, eS_par, eS_parT, eS_ex, eS_ifs, eS_ret, eS_pass, eS_never, eE_v, eE_c, eE_g, eE_tup, eE_lst, eE_bin, eE_neg, eE_cmp, eE_chain, eE_and, eE_or, eE_not, eE_ife, eE_idx, eE_sli, eE_rev, eE_call, eE_callK, eE_bi, eE_met, eEs_nil, eEs_cons, eT_and, eT_or, eT_not, eT_tt, eT_cmp, eT_chain, eT_e, eG_nm, eG_sub, eG_tp, eGs_nil, eGs_cons, setAll, List.set_cons_zero, List.set_cons_succ, obind, omap, List.getElem?_cons_zero, List.getElem?_cons_succ, if_true, Bool.false_eq_true, if_false, biM, tr_bool, tr_int, tr_list, tr_tuple, isi_str, isi_tup, isi_int, isi_bool_int, len_tup, len_list, add_int, sub_int, ix0, ix1, ix2, le_int, lt_int, gt_int, ge_int, eq_int, ne_int, eq_bool, ne_bool, eq_str, ne_str, decide_true, decide_false, Bool.not_true, Bool.not_false, Bool.and_self, Bool.true_and, Bool.and_true, Bool.false_and, call1, call2, call3, call4, wipeE, isNil, partOf, List.map_cons, List.map_nil, eSs_cons]
    rw [show setIx [[.d (.int p), .d (.int q)]] (.ref 0) (.d (.int 1)) (.d (.int w)) = some [[.d (.int p), .d (.int w)]] from rfl]
    simp only [eSs_nil, eS_set, eS_par, eS_parT, eS_ex, eS_ifs, eS_ret, eS_pass, eS_never, eE_v, eE_c, eE_g, eE_tup, eE_lst, eE_bin, eE_neg, eE_cmp, eE_chain, eE_and, eE_or, eE_not, eE_ife, eE_idx, eE_sli, eE_rev, eE_call, eE_callK, eE_bi, eE_met, eEs_nil, eEs_cons, eT_and, eT_or, eT_not, eT_tt, eT_cmp, eT_chain, eT_e, eG_nm, eG_sub, eG_tp, eGs_nil, eGs_cons, setAll, List.set_cons_zero, List.set_cons_succ, obind, omap, List.getElem?_cons_zero, List.getElem?_cons_succ, if_true, Bool.false_eq_true, if_false, biM, tr_bool, tr_int, tr_list, tr_tuple, isi_str, isi_tup, isi_int, isi_bool_int, len_tup, len_list, add_int, sub_int, ix0, ix1, ix2, le_int, lt_int, gt_int, ge_int, eq_int, ne_int, eq_bool, ne_bool, eq_str, ne_str, decide_true, decide_false, Bool.not_true, Bool.not_false, Bool.and_self, Bool.true_and, Bool.and_true, Bool.false_and, call1, call2, call3, call4, wipeE, isNil, partOf, List.map_cons, List.map_nil, eSs_cons]
    rw [show ixM (.ref 0) (.d (.int 1)) [[.d (.int p), .d (.int w)]] = some (.d (.int w)) from rfl]
    simp only [eSs_nil, eS_set, eS_par, eS_parT, eS_ex, eS_ifs, eS_ret, eS_pass, eS_never, eE_v, eE_c, eE_g, eE_tup, eE_lst, eE_bin, eE_neg, eE_cmp, eE_chain, eE_and, eE_or, eE_not, eE_ife, eE_idx, eE_sli, eE_rev, eE_call, eE_callK, eE_bi, eE_met, eEs_nil, eEs_cons, eT_and, eT_or, eT_not, eT_tt, eT_cmp, eT_chain, eT_e, eG_nm, eG_sub, eG_tp, eGs_nil, eGs_cons, setAll, List.set_cons_zero, List.set_cons_succ, obind, omap, List.getElem?_cons_zero, List.getElem?_cons_succ, if_true, Bool.false_eq_true, if_false, biM, tr_bool, tr_int, tr_list, tr_tuple, isi_str, isi_tup, isi_int, isi_bool_int, len_tup, len_list, add_int, sub_int, ix0, ix1, ix2, le_int, lt_int, gt_int, ge_int, eq_int, ne_int, eq_bool, ne_bool, eq_str, ne_str, decide_true, decide_false, Bool.not_true, Bool.not_false, Bool.and_self, Bool.true_and, Bool.and_true, Bool.false_and, call1, call2, call3, call4, wipeE, isNil, partOf, List.map_cons, List.map_nil, eSs_cons]
    rw [show ixM (.ref 0) (.d (.int 1)) [[.d (.int p), .d (.int w)]] = some (.d (.int w)) from rfl]
    simp only [eSs_nil, eS_set, eS_par, eS_parT, eS_ex, eS_ifs, eS_ret, eS_pass, eS_never, eE_v, eE_c, eE_g, eE_tup, eE_lst, eE_bin, eE_neg, eE_cmp, eE_chain, eE_and, eE_or, eE_not, eE_ife, eE_idx, eE_sli, eE_rev, eE_call, eE_callK, eE_bi, eE_met, eEs_nil, eEs_cons, eT_and, eT_or, eT_not, eT_tt, eT_cmp, eT_chain, eT_e, eG_nm, eG_sub, eG_tp, eGs_nil, eGs_cons, setAll, List.set_cons_zero, List.set_cons_succ, obind, omap, List.getElem?_cons_zero, List.getElem?_cons_succ, if_true, Bool.false_eq_true, if_false, biM, tr_bool, tr_int, tr_list, tr_tuple, isi_str, isi_tup, isi_int, isi_bool_int, len_tup, len_list, add_int, sub_int, ix0, ix1, ix2, le_int, lt_int, gt_int, ge_int, eq_int, ne_int, eq_bool, ne_bool, eq_str, ne_str, decide_true, decide_false, Bool.not_true, Bool.not_false, Bool.and_self, Bool.true_and, Bool.and_true, Bool.false_and, call1, call2, call3, call4, wipeE, isNil, partOf, List.map_cons, List.map_nil, eSs_cons]
    rw [mul_int w w (by omega)]
    simp only [eSs_nil, eS_set, eS_par, eS_parT, eS_ex, eS_ifs, eS_ret, eS_pass, eS_never, eE_v, eE_c, eE_g, eE_tup, eE_lst, eE_bin, eE_neg, eE_cmp, eE_chain, eE_and, eE_or, eE_not, eE_ife, eE_idx, eE_sli, eE_rev, eE_call, eE_callK, eE_bi, eE_met, eEs_nil, eEs_cons, eT_and, eT_or, eT_not, eT_tt, eT_cmp, eT_chain, eT_e, eG_nm, eG_sub, eG_tp, eGs_nil, eGs_cons, setAll, List.set_cons_zero, List.set_cons_succ, obind, omap, List.getElem?_cons_zero, List.getElem?_cons_succ, if_true, Bool.false_eq_true, if_false, biM, tr_bool, tr_int, tr_list, tr_tuple, isi_str, isi_tup, isi_int, isi_bool_int, len_tup, len_list, add_int, sub_int, ix0, ix1, ix2, le_int, lt_int, gt_int, ge_int, eq_int, ne_int, eq_bool, ne_bool, eq_str, ne_str, decide_true, decide_false, Bool.not_true, Bool.not_false, Bool.and_self, Bool.true_and, Bool.and_true, Bool.false_and, call1, call2, call3, call4, wipeE, isNil, partOf, List.map_cons, List.map_nil, eSs_cons]
    rw [show ∀ (x : Int) S, op2 false .mod (.d (.int x)) (.d (.int 2147483549)) S = some (.d (.int (x % 2147483549)), S) from fun x S => rfl]
    simp only [eSs_nil, eS_set, eS_par, eS_parT, eS_ex, eS_ifs, eS_ret, eS_pass, eS_never, eE_v, eE_c, eE_g, eE_tup, eE_lst, eE_bin, eE_neg, eE_cmp, eE_chain, eE_and, eE_or, eE_not, eE_ife, eE_idx, eE_sli, eE_rev, eE_call, eE_callK, eE_bi, eE_met, eEs_nil, eEs_cons, eT_and, eT_or, eT_not, eT_tt, eT_cmp, eT_chain, eT_e, eG_nm, eG_sub, eG_tp, eGs_nil, eGs_cons, setAll, List.set_cons_zero, List.set_cons_succ, obind, omap, List.getElem?_cons_zero, List.getElem?_cons_succ, if_true, Bool.false_eq_true, if_false, biM, tr_bool, tr_int, tr_list, tr_tuple, isi_str, isi_tup, isi_int, isi_bool_int, len_tup, len_list, add_int, sub_int, ix0, ix1, ix2, le_int, lt_int, gt_int, ge_int, eq_int, ne_int, eq_bool, ne_bool, eq_str, ne_str, decide_true, decide_false, Bool.not_true, Bool.not_false, Bool.and_self, Bool.true_and, Bool.and_true, Bool.false_and, call1, call2, call3, call4, wipeE, isNil, partOf, List.map_cons, List.map_nil, eSs_cons]
    rw [show ∀ (x : Int) S, op2 false .fdiv (.d (.int x)) (.d (.int 577)) S = some (.d (.int (x / 577)), S) from fun x S => rfl]
    simp only [eSs_nil, eS_set, eS_par, eS_parT, eS_ex, eS_ifs, eS_ret, eS_pass, eS_never, eE_v, eE_c, eE_g, eE_tup, eE_lst, eE_bin, eE_neg, eE_cmp, eE_chain, eE_and, eE_or, eE_not, eE_ife, eE_idx, eE_sli, eE_rev, eE_call, eE_callK, eE_bi, eE_met, eEs_nil, eEs_cons, eT_and, eT_or, eT_not, eT_tt, eT_cmp, eT_chain, eT_e, eG_nm, eG_sub, eG_tp, eGs_nil, eGs_cons, setAll, List.set_cons_zero, List.set_cons_succ, obind, omap, List.getElem?_cons_zero, List.getElem?_cons_succ, if_true, Bool.false_eq_true, if_false, biM, tr_bool, tr_int, tr_list, tr_tuple, isi_str, isi_tup, isi_int, isi_bool_int, len_tup, len_list, add_int, sub_int, ix0, ix1, ix2, le_int, lt_int, gt_int, ge_int, eq_int, ne_int, eq_bool, ne_bool, eq_str, ne_str, decide_true, decide_false, Bool.not_true, Bool.not_false, Bool.and_self, Bool.true_and, Bool.and_true, Bool.false_and, call1, call2, call3, call4, wipeE, isNil, partOf, List.map_cons, List.map_nil, biInt, eSs_cons]
    rw [show ∀ (x : Int) S, op2 false .mod (.d (.int x)) (.d (.int many)) S = some (.d (.int (x % many)), S) from fun x S => by
      show (if _ then _ else _) = _
      rw [if_pos (by simpa using h1)]]
    rfl
/-- a pick of a list of data -/
theorem s_pick (n : Nat) {c : List PyData} (h : Pot c) {xs : List PyData} (h1 : 0 < xs.length) (h2 : xs.length < 1073741824) : ∃ x c', Pot c' ∧ x ∈ xs ∧ run tab (n + 2) 20 [c] [.list xs] = some (x, [c']) := by
  obtain ⟨d, c', hc', d0, d1, e⟩ := s_draw n h (many := (xs.length : Int)) (by omega) (by omega)
  obtain ⟨k, rfl⟩ := Int.eq_ofNat_of_zero_le d0
  have hk : k < xs.length := by omega
  refine ⟨xs[k], c', hc', List.getElem_mem hk, ?_⟩
  rw [r__law_pick]
  simp only [f__law_pick]
  simp only [eSs_nil, eS_set, eS_par, eS_parT, eS_ex, eS_ifs, eS_ret, eS_pass, eS_never, eE_v, eE_c, eE_g, eE_tup, eE_lst, eE_bin, eE_neg, eE_cmp, eE_chain, eE_and, eE_or, eE_not, eE_ife, eE_idx, eE_sli, eE_rev, eE_call, eE_callK, eE_bi, eE_met, eEs_nil, eEs_cons, eT_and, eT_or, eT_not, eT_tt, eT_cmp, eT_chain, eT_e, eG_nm, eG_sub, eG_tp, eGs_nil, eGs_cons, setAll, List.set_cons_zero, List.set_cons_succ, obind, omap, List.getElem?_cons_zero, List.getElem?_cons_succ, if_true, Bool.false_eq_true, if_false, biM, tr_bool, tr_int, tr_list, tr_tuple, isi_str, isi_tup, isi_int, isi_bool_int, len_tup, len_list, add_int, sub_int, ix0, ix1, ix2, le_int, lt_int, gt_int, ge_int, eq_int, ne_int, eq_bool, ne_bool, eq_str, ne_str, decide_true, decide_false, Bool.not_true, Bool.not_false, Bool.and_self, Bool.true_and, Bool.and_true, Bool.false_and, call1, call2, call3, call4, wipeE, isNil, partOf, List.map_cons, List.map_nil, eSs_cons]
  rw [call_io1 (S := [c.map .d]) (c := c) rfl e]
  simp only [eSs_nil, eS_set, eS_par, eS_parT, eS_ex, eS_ifs, eS_ret, eS_pass, eS_never, eE_v, eE_c, eE_g, eE_tup, eE_lst, eE_bin, eE_neg, eE_cmp, eE_chain, eE_and, eE_or, eE_not, eE_ife, eE_idx, eE_sli, eE_rev, eE_call, eE_callK, eE_bi, eE_met, eEs_nil, eEs_cons, eT_and, eT_or, eT_not, eT_tt, eT_cmp, eT_chain, eT_e, eG_nm, eG_sub, eG_tp, eGs_nil, eGs_cons, setAll, List.set_cons_zero, List.set_cons_succ, obind, omap, List.getElem?_cons_zero, List.getElem?_cons_succ, if_true, Bool.false_eq_true, if_false, biM, tr_bool, tr_int, tr_list, tr_tuple, isi_str, isi_tup, isi_int, isi_bool_int, len_tup, len_list, add_int, sub_int, ix0, ix1, ix2, le_int, lt_int, gt_int, ge_int, eq_int, ne_int, eq_bool, ne_bool, eq_str, ne_str, decide_true, decide_false, Bool.not_true, Bool.not_false, Bool.and_self, Bool.true_and, Bool.and_true, Bool.false_and, call1, call2, call3, call4, wipeE, isNil, partOf, List.map_cons, List.map_nil, eSs_cons]
  rw [ix_atL _ (List.getElem?_eq_getElem hk)]
  simp only [Option.map_some, Option.bind_some, endOf, backD, List.set_cons_zero, List.take_succ_cons, List.take_zero, purAll, pures_of]
theorem new_pot (N : Nat) (ns : List Int) (k : Nat) (hk : k < 64) (S : Store) : ∃ c, Pot c ∧ callM (TM.run tab (N + 1)) true 18 0 [.d (scrD ns), .d (.int (k : Int))] S = some (.ref S.length, S ++ [c.map .d]) := by
  obtain ⟨c, hc, e⟩ := s_pot N ns k hk
  refine ⟨c, hc, call_new (ds := [scrD ns, .int (k : Int)]) e rfl ?_ ?_⟩
  · obtain ⟨p, q, rfl, _⟩ := hc
    rfl
  · obtain ⟨p, q, rfl, _⟩ := hc
    rw [lineI]
    simp only [List.length_cons, List.length_nil]
    omega
end K05
end
section
set_option Elab.async false
set_option linter.all false
set_option autoImplicit false
set_option maxRecDepth 1000000
set_option maxHeartbeats 2000000
namespace K05
open TM PySem
/-! the laws of k01 .. k08: how a dispute is drawn -/
theorem good_fg {m : Int} {found : List (Int × Int)} (h1 : 1 ≤ m) (h2 : m ≤ 10) (fg : FG m m 0 found) : Good m found := ⟨h1, h2, fun p hp => ⟨(fg.inn p hp).1, (fg.inn p hp).2.1⟩, fg.up, by
  have := fg.len
  omega⟩
def inSt (m o most : Int) (a s : Int) (v3 : Option MV) (ρ : TM.Env) (S : Store) : Prop := ∃ c found v6, Pot c ∧ FG m a s found ∧ ρ = [some (.ref 0), some (.d (.int most)), some (.ref 1), v3, some (.d (.int m)), some (.d (.int o)), v6] ∧ S = [c.map .d, found.map fun p => .d (pr p)]
theorem drawn_one (n : Nat) {m o most : Int} (o1 : 1 ≤ o) (o2 : o ≤ 64) {a s : Int} (a0 : 0 ≤ a) (a1 : a < m) (s0 : 0 ≤ s) (s1 : s < m) (hm : m ≤ 10) {ρ : TM.Env} {S : Store} (i : inSt m o most a s (some (.d (.int a))) ρ S) : ∃ ρ' S', ((asg (TM.run tab (n + 1)) (.nm 6) (.d (.int s)) ρ S).bind fun q => evSs (TM.run tab (n + 1)) (.cons (.ifs (.cmp .eq (.call false 19 1 2 [] [] (.cons (.v 0) (.cons (.ife (.cmp .ne (.v 3) (.v 6)) (.v 5) (.bin false .mul (.c (.int 3)) (.v 5))) .nil))) (.c (.int 0))) (.cons (.ex (.met .append false (.v 2) (.cons (.tup (.cons (.v 3) (.cons (.v 6) .nil))) .nil))) .nil) (.nil)) .nil) q.1 q.2) = some (.nx ρ' S') ∧ inSt m o most a (s + 1) (some (.d (.int a))) ρ' S' := by
  have line := lineI
  obtain ⟨c, found, v6, hp, fg, rfl, rfl⟩ := i
  obtain ⟨w, w1, w2, ew⟩ : ∃ w : Int, 1 ≤ w ∧ w ≤ 200 ∧ evE (TM.run tab (n + 1)) (.ife (.cmp .ne (.v 3) (.v 6)) (.v 5) (.bin false .mul (.c (.int 3)) (.v 5))) [some (.ref 0), some (.d (.int most)), some (.ref 1), some (.d (.int a)), some (.d (.int m)), some (.d (.int o)), some (.d (.int s))] [c.map .d, found.map fun p => .d (pr p)] = some (.d (.int w), [c.map .d, found.map fun p => .d (pr p)]) := by
    simp only [eSs_nil, eS_set, eS_par, eS_parT, eS_ex, eS_ifs, eS_ret, eS_pass, eS_never, eE_v, eE_c, eE_g, eE_tup, eE_lst, eE_bin, eE_neg, eE_cmp, eE_chain, eE_and, eE_or, eE_not, eE_ife, eE_idx, eE_sli, eE_rev, eE_call, eE_callK, eE_bi, eE_met, eEs_nil, eEs_cons, eT_and, eT_or, eT_not, eT_tt, eT_cmp, eT_chain, eT_e, eG_nm, eG_sub, eG_tp, eGs_nil, eGs_cons, setAll, List.set_cons_zero, List.set_cons_succ, obind, omap, List.getElem?_cons_zero, List.getElem?_cons_succ, if_true, Bool.false_eq_true, if_false, biM, tr_bool, tr_int, tr_list, tr_tuple, isi_str, isi_tup, isi_int, isi_bool_int, len_tup, len_list, add_int, sub_int, ix0, ix1, ix2, le_int, lt_int, gt_int, ge_int, eq_int, ne_int, eq_bool, ne_bool, eq_str, ne_str, decide_true, decide_false, Bool.not_true, Bool.not_false, Bool.and_self, Bool.true_and, Bool.and_true, Bool.false_and, call1, call2, call3, call4, wipeE, isNil, partOf, List.map_cons, List.map_nil]
    by_cases eq : a = s
    · refine ⟨3 * o, by omega, by omega, ?_⟩
      simp only [eSs_nil, eS_set, eS_par, eS_parT, eS_ex, eS_ifs, eS_ret, eS_pass, eS_never, eE_v, eE_c, eE_g, eE_tup, eE_lst, eE_bin, eE_neg, eE_cmp, eE_chain, eE_and, eE_or, eE_not, eE_ife, eE_idx, eE_sli, eE_rev, eE_call, eE_callK, eE_bi, eE_met, eEs_nil, eEs_cons, eT_and, eT_or, eT_not, eT_tt, eT_cmp, eT_chain, eT_e, eG_nm, eG_sub, eG_tp, eGs_nil, eGs_cons, setAll, List.set_cons_zero, List.set_cons_succ, obind, omap, List.getElem?_cons_zero, List.getElem?_cons_succ, if_true, Bool.false_eq_true, if_false, biM, tr_bool, tr_int, tr_list, tr_tuple, isi_str, isi_tup, isi_int, isi_bool_int, len_tup, len_list, add_int, sub_int, ix0, ix1, ix2, le_int, lt_int, gt_int, ge_int, eq_int, ne_int, eq_bool, ne_bool, eq_str, ne_str, decide_true, decide_false, Bool.not_true, Bool.not_false, Bool.and_self, Bool.true_and, Bool.and_true, Bool.false_and, call1, call2, call3, call4, wipeE, isNil, partOf, List.map_cons, List.map_nil, eq]
      rw [mul_int 3 o (by omega)]
    · refine ⟨o, by omega, by omega, ?_⟩
      simp only [eSs_nil, eS_set, eS_par, eS_parT, eS_ex, eS_ifs, eS_ret, eS_pass, eS_never, eE_v, eE_c, eE_g, eE_tup, eE_lst, eE_bin, eE_neg, eE_cmp, eE_chain, eE_and, eE_or, eE_not, eE_ife, eE_idx, eE_sli, eE_rev, eE_call, eE_callK, eE_bi, eE_met, eEs_nil, eEs_cons, eT_and, eT_or, eT_not, eT_tt, eT_cmp, eT_chain, eT_e, eG_nm, eG_sub, eG_tp, eGs_nil, eGs_cons, setAll, List.set_cons_zero, List.set_cons_succ, obind, omap, List.getElem?_cons_zero, List.getElem?_cons_succ, if_true, Bool.false_eq_true, if_false, biM, tr_bool, tr_int, tr_list, tr_tuple, isi_str, isi_tup, isi_int, isi_bool_int, len_tup, len_list, add_int, sub_int, ix0, ix1, ix2, le_int, lt_int, gt_int, ge_int, eq_int, ne_int, eq_bool, ne_bool, eq_str, ne_str, decide_true, decide_false, Bool.not_true, Bool.not_false, Bool.and_self, Bool.true_and, Bool.and_true, Bool.false_and, call1, call2, call3, call4, wipeE, isNil, partOf, List.map_cons, List.map_nil, eq]
  obtain ⟨d, c', hc', d0, d1, ed⟩ := s_draw n hp (many := w) (by omega) (by omega)
  have hlen : found.length ≤ 1000 := by
    have := fg.len
    omega
  refine ⟨[some (.ref 0), some (.d (.int most)), some (.ref 1), some (.d (.int a)), some (.d (.int m)), some (.d (.int o)), some (.d (.int s))], [c'.map .d, (found ++ (if decide (d = 0) then [(a, s)] else [])).map fun p => .d (pr p)], ?_, c', found ++ (if decide (d = 0) then [(a, s)] else []), some (.d (.int s)), hc', fg.step ⟨a0, a1⟩ ⟨s0, s1⟩ _, rfl, rfl⟩
  simp only [eG_nm, Option.bind_some, List.set_cons_succ, List.set_cons_zero]
  rw [eSs_cons, eS_ifs, eT_cmp, eE_call]
  simp only [eEs_cons, eE_v, List.getElem?_cons_zero, obind, ew, eEs_nil]
  rw [call_io1 (c := c) rfl ed]
  simp only [eSs_nil, eS_set, eS_par, eS_parT, eS_ex, eS_ifs, eS_ret, eS_pass, eS_never, eE_v, eE_c, eE_g, eE_tup, eE_lst, eE_bin, eE_neg, eE_cmp, eE_chain, eE_and, eE_or, eE_not, eE_ife, eE_idx, eE_sli, eE_rev, eE_call, eE_callK, eE_bi, eE_met, eEs_nil, eEs_cons, eT_and, eT_or, eT_not, eT_tt, eT_cmp, eT_chain, eT_e, eG_nm, eG_sub, eG_tp, eGs_nil, eGs_cons, setAll, List.set_cons_zero, List.set_cons_succ, obind, omap, List.getElem?_cons_zero, List.getElem?_cons_succ, if_true, Bool.false_eq_true, if_false, biM, tr_bool, tr_int, tr_list, tr_tuple, isi_str, isi_tup, isi_int, isi_bool_int, len_tup, len_list, add_int, sub_int, ix0, ix1, ix2, le_int, lt_int, gt_int, ge_int, eq_int, ne_int, eq_bool, ne_bool, eq_str, ne_str, decide_true, decide_false, Bool.not_true, Bool.not_false, Bool.and_self, Bool.true_and, Bool.and_true, Bool.false_and, call1, call2, call3, call4, wipeE, isNil, partOf, List.map_cons, List.map_nil]
  cases decide (d = 0) with
  | false => simp only [eSs_nil, eS_set, eS_par, eS_parT, eS_ex, eS_ifs, eS_ret, eS_pass, eS_never, eE_v, eE_c, eE_g, eE_tup, eE_lst, eE_bin, eE_neg, eE_cmp, eE_chain, eE_and, eE_or, eE_not, eE_ife, eE_idx, eE_sli, eE_rev, eE_call, eE_callK, eE_bi, eE_met, eEs_nil, eEs_cons, eT_and, eT_or, eT_not, eT_tt, eT_cmp, eT_chain, eT_e, eG_nm, eG_sub, eG_tp, eGs_nil, eGs_cons, setAll, List.set_cons_zero, List.set_cons_succ, obind, omap, List.getElem?_cons_zero, List.getElem?_cons_succ, if_true, Bool.false_eq_true, if_false, biM, tr_bool, tr_int, tr_list, tr_tuple, isi_str, isi_tup, isi_int, isi_bool_int, len_tup, len_list, add_int, sub_int, ix0, ix1, ix2, le_int, lt_int, gt_int, ge_int, eq_int, ne_int, eq_bool, ne_bool, eq_str, ne_str, decide_true, decide_false, Bool.not_true, Bool.not_false, Bool.and_self, Bool.true_and, Bool.and_true, Bool.false_and, call1, call2, call3, call4, wipeE, isNil, partOf, List.map_cons, List.map_nil, List.append_nil, eSs_cons]
  | true =>
    simp only [eSs_nil, eS_set, eS_par, eS_parT, eS_ex, eS_ifs, eS_ret, eS_pass, eS_never, eE_v, eE_c, eE_g, eE_tup, eE_lst, eE_bin, eE_neg, eE_cmp, eE_chain, eE_and, eE_or, eE_not, eE_ife, eE_idx, eE_sli, eE_rev, eE_call, eE_callK, eE_bi, eE_met, eEs_nil, eEs_cons, eT_and, eT_or, eT_not, eT_tt, eT_cmp, eT_chain, eT_e, eG_nm, eG_sub, eG_tp, eGs_nil, eGs_cons, setAll, List.set_cons_zero, List.set_cons_succ, obind, omap, List.getElem?_cons_zero, List.getElem?_cons_succ, if_true, Bool.false_eq_true, if_false, biM, tr_bool, tr_int, tr_list, tr_tuple, isi_str, isi_tup, isi_int, isi_bool_int, len_tup, len_list, add_int, sub_int, ix0, ix1, ix2, le_int, lt_int, gt_int, ge_int, eq_int, ne_int, eq_bool, ne_bool, eq_str, ne_str, decide_true, decide_false, Bool.not_true, Bool.not_false, Bool.and_self, Bool.true_and, Bool.and_true, Bool.false_and, call1, call2, call3, call4, wipeE, isNil, partOf, List.map_cons, List.map_nil, le2, pures, eSs_cons]
    rw [app_ref (c := found.map fun p => .d (pr p)) rfl (by rw [List.length_map]; omega)]
    simp only [eSs_nil, eS_set, eS_par, eS_parT, eS_ex, eS_ifs, eS_ret, eS_pass, eS_never, eE_v, eE_c, eE_g, eE_tup, eE_lst, eE_bin, eE_neg, eE_cmp, eE_chain, eE_and, eE_or, eE_not, eE_ife, eE_idx, eE_sli, eE_rev, eE_call, eE_callK, eE_bi, eE_met, eEs_nil, eEs_cons, eT_and, eT_or, eT_not, eT_tt, eT_cmp, eT_chain, eT_e, eG_nm, eG_sub, eG_tp, eGs_nil, eGs_cons, setAll, List.set_cons_zero, List.set_cons_succ, obind, omap, List.getElem?_cons_zero, List.getElem?_cons_succ, if_true, Bool.false_eq_true, if_false, biM, tr_bool, tr_int, tr_list, tr_tuple, isi_str, isi_tup, isi_int, isi_bool_int, len_tup, len_list, add_int, sub_int, ix0, ix1, ix2, le_int, lt_int, gt_int, ge_int, eq_int, ne_int, eq_bool, ne_bool, eq_str, ne_str, decide_true, decide_false, Bool.not_true, Bool.not_false, Bool.and_self, Bool.true_and, Bool.and_true, Bool.false_and, call1, call2, call3, call4, wipeE, isNil, partOf, List.map_cons, List.map_nil, List.map_append, eSs_cons]
    rfl
theorem s_law_dispute (n : Nat) {c : List PyData} (h : Pot c) {most : Int} (q1 : 1 ≤ most) (q2 : most ≤ 10) : ∃ m ss c', Pot c' ∧ Good m ss ∧ m ≤ most ∧ run tab (n + 3) 21 [c] [.int most] = some (dD m ss, [c']) := by
  have line := lineI
  obtain ⟨d, c1, hc1, d0, d1, e1⟩ := s_draw (n + 1) h (many := most) (by omega) (by omega)
  obtain ⟨x, c2, hc2, hx, e2⟩ := s_pick n hc1 (xs := [.int 3, .int 3, .int 4, .int 2, .int 6]) (by decide) (by decide)
  obtain ⟨o, rfl, o1, o2⟩ : ∃ o : Int, x = .int o ∧ 1 ≤ o ∧ o ≤ 64 := by
    simp only [List.mem_cons, List.not_mem_nil, or_false] at hx
    rcases hx with rfl | rfl | rfl | rfl | rfl <;> exact ⟨_, rfl, by decide, by decide⟩
  have h1 : 1 ≤ 1 + d := by omega
  have h2 : 1 + d ≤ 10 := by omega
  have hq : 1 + d ≤ most := by omega
  have hm : (((1 + d).toNat : Nat) : Int) = 1 + d := by omega
  have e4 : mkL false [.d (.int 3), .d (.int 3), .d (.int 4), .d (.int 2), .d (.int 6)] [c1.map .d] = some (.d (.list [.int 3, .int 3, .int 4, .int 2, .int 6]), [c1.map .d]) := mkL_data (xs := [.int 3, .int 3, .int 4, .int 2, .int 6]) (by simp only [List.length_cons, List.length_nil]; omega)
  obtain ⟨ρ', S', e, v3, c3, found, v6, hp3, fg, rfl, rfl⟩ := fr_ups (C := TM.run tab (n + 2)) (t := .nm 3) (it := .rng (.cons (.v 4) .nil)) (body := .cons (.fr (.nm 6) (.rng (.cons (.v 4) .nil)) (.cons (.ifs (.cmp .eq (.call false 19 1 2 [] [] (.cons (.v 0) (.cons (.ife (.cmp .ne (.v 3) (.v 6)) (.v 5) (.bin false .mul (.c (.int 3)) (.v 5))) .nil))) (.c (.int 0))) (.cons (.ex (.met .append false (.v 2) (.cons (.tup (.cons (.v 3) (.cons (.v 6) .nil))) .nil))) .nil) (.nil)) .nil)) .nil)
    (ρ := [some (.ref 0), some (.d (.int most)), some (.ref 1), none, some (.d (.int (1 + d))), some (.d (.int o)), none]) (S := [c2.map .d, []]) (a := 0) (k := (1 + d).toNat) (fun a ρ S => ∃ v3, inSt (1 + d) o most a 0 v3 ρ S) (by
    simp only [eSs_nil, eS_set, eS_par, eS_parT, eS_ex, eS_ifs, eS_ret, eS_pass, eS_never, eE_v, eE_c, eE_g, eE_tup, eE_lst, eE_bin, eE_neg, eE_cmp, eE_chain, eE_and, eE_or, eE_not, eE_ife, eE_idx, eE_sli, eE_rev, eE_call, eE_callK, eE_bi, eE_met, eEs_nil, eEs_cons, eT_and, eT_or, eT_not, eT_tt, eT_cmp, eT_chain, eT_e, eG_nm, eG_sub, eG_tp, eGs_nil, eGs_cons, setAll, List.set_cons_zero, List.set_cons_succ, obind, omap, List.getElem?_cons_zero, List.getElem?_cons_succ, if_true, Bool.false_eq_true, if_false, biM, tr_bool, tr_int, tr_list, tr_tuple, isi_str, isi_tup, isi_int, isi_bool_int, len_tup, len_list, add_int, sub_int, ix0, ix1, ix2, le_int, lt_int, gt_int, ge_int, eq_int, ne_int, eq_bool, ne_bool, eq_str, ne_str, decide_true, decide_false, Bool.not_true, Bool.not_false, Bool.and_self, Bool.true_and, Bool.and_true, Bool.false_and, call1, call2, call3, call4, wipeE, isNil, partOf, List.map_cons, List.map_nil, eI_rng, rangeOf, rngI_ok h1 h2]
    rfl) ⟨none, c2, [], none, hc2, ⟨fun p hp => absurd hp List.not_mem_nil, List.Pairwise.nil, by simp⟩, rfl, rfl⟩ (fun a ρ S a0 a1 i => by
    obtain ⟨v3, c, found, v6, hp, fg, rfl, rfl⟩ := i
    obtain ⟨ρ', S', e, c, found, v6, hp, fg, rfl, rfl⟩ := fr_ups (C := TM.run tab (n + 2)) (t := .nm 6) (it := .rng (.cons (.v 4) .nil)) (body := .cons (.ifs (.cmp .eq (.call false 19 1 2 [] [] (.cons (.v 0) (.cons (.ife (.cmp .ne (.v 3) (.v 6)) (.v 5) (.bin false .mul (.c (.int 3)) (.v 5))) .nil))) (.c (.int 0))) (.cons (.ex (.met .append false (.v 2) (.cons (.tup (.cons (.v 3) (.cons (.v 6) .nil))) .nil))) .nil) (.nil)) .nil)
      (ρ := [some (.ref 0), some (.d (.int most)), some (.ref 1), some (.d (.int a)), some (.d (.int (1 + d))), some (.d (.int o)), v6]) (S := [c.map .d, found.map fun p => .d (pr p)]) (a := 0) (k := (1 + d).toNat) (fun s ρ S => inSt (1 + d) o most a s (some (.d (.int a))) ρ S) (by
      simp only [eSs_nil, eS_set, eS_par, eS_parT, eS_ex, eS_ifs, eS_ret, eS_pass, eS_never, eE_v, eE_c, eE_g, eE_tup, eE_lst, eE_bin, eE_neg, eE_cmp, eE_chain, eE_and, eE_or, eE_not, eE_ife, eE_idx, eE_sli, eE_rev, eE_call, eE_callK, eE_bi, eE_met, eEs_nil, eEs_cons, eT_and, eT_or, eT_not, eT_tt, eT_cmp, eT_chain, eT_e, eG_nm, eG_sub, eG_tp, eGs_nil, eGs_cons, setAll, List.set_cons_zero, List.set_cons_succ, obind, omap, List.getElem?_cons_zero, List.getElem?_cons_succ, if_true, Bool.false_eq_true, if_false, biM, tr_bool, tr_int, tr_list, tr_tuple, isi_str, isi_tup, isi_int, isi_bool_int, len_tup, len_list, add_int, sub_int, ix0, ix1, ix2, le_int, lt_int, gt_int, ge_int, eq_int, ne_int, eq_bool, ne_bool, eq_str, ne_str, decide_true, decide_false, Bool.not_true, Bool.not_false, Bool.and_self, Bool.true_and, Bool.and_true, Bool.false_and, call1, call2, call3, call4, wipeE, isNil, partOf, List.map_cons, List.map_nil, eI_rng, rangeOf, rngI_ok h1 h2]
      rfl) ⟨c, found, v6, hp, fg, rfl, rfl⟩ (fun s ρ S s0 s1 i => drawn_one (n + 1) o1 o2 a0 (by omega) s0 (by omega) h2 i)
    rw [Int.zero_add, hm] at fg
    refine ⟨_, _, ?_, some (.d (.int a)), c, found, v6, hp, fg.next h2, rfl, rfl⟩
    simp only [eG_nm, Option.bind_some, List.set_cons_succ, List.set_cons_zero]
    rw [ss_next e, eSs_nil])
  rw [Int.zero_add, hm] at fg
  have hl : found.length ≤ 1000 := by
    have := fg.len
    omega
  refine ⟨1 + d, found, c3, hp3, good_fg h1 h2 fg, hq, ?_⟩
  rw [r__law_dispute]
  simp only [f__law_dispute]
  rw [ss_next (ρ' := [some (.ref 0), some (.d (.int most)), none, none, some (.d (.int (1 + d))), some (.d (.int o)), none]) (S' := [c2.map .d]) (by
    simp only [eSs_nil, eS_set, eS_par, eS_parT, eS_ex, eS_ifs, eS_ret, eS_pass, eS_never, eE_v, eE_c, eE_g, eE_tup, eE_lst, eE_bin, eE_neg, eE_cmp, eE_chain, eE_and, eE_or, eE_not, eE_ife, eE_idx, eE_sli, eE_rev, eE_call, eE_callK, eE_bi, eE_met, eEs_nil, eEs_cons, eT_and, eT_or, eT_not, eT_tt, eT_cmp, eT_chain, eT_e, eG_nm, eG_sub, eG_tp, eGs_nil, eGs_cons, setAll, List.set_cons_zero, List.set_cons_succ, obind, omap, List.getElem?_cons_zero, List.getElem?_cons_succ, if_true, Bool.false_eq_true, if_false, biM, tr_bool, tr_int, tr_list, tr_tuple, isi_str, isi_tup, isi_int, isi_bool_int, len_tup, len_list, add_int, sub_int, ix0, ix1, ix2, le_int, lt_int, gt_int, ge_int, eq_int, ne_int, eq_bool, ne_bool, eq_str, ne_str, decide_true, decide_false, Bool.not_true, Bool.not_false, Bool.and_self, Bool.true_and, Bool.and_true, Bool.false_and, call1, call2, call3, call4, wipeE, isNil, partOf, List.map_cons, List.map_nil]
    rw [call_io1 (c := c) rfl e1]
    simp only [eSs_nil, eS_set, eS_par, eS_parT, eS_ex, eS_ifs, eS_ret, eS_pass, eS_never, eE_v, eE_c, eE_g, eE_tup, eE_lst, eE_bin, eE_neg, eE_cmp, eE_chain, eE_and, eE_or, eE_not, eE_ife, eE_idx, eE_sli, eE_rev, eE_call, eE_callK, eE_bi, eE_met, eEs_nil, eEs_cons, eT_and, eT_or, eT_not, eT_tt, eT_cmp, eT_chain, eT_e, eG_nm, eG_sub, eG_tp, eGs_nil, eGs_cons, setAll, List.set_cons_zero, List.set_cons_succ, obind, omap, List.getElem?_cons_zero, List.getElem?_cons_succ, if_true, Bool.false_eq_true, if_false, biM, tr_bool, tr_int, tr_list, tr_tuple, isi_str, isi_tup, isi_int, isi_bool_int, len_tup, len_list, add_int, sub_int, ix0, ix1, ix2, le_int, lt_int, gt_int, ge_int, eq_int, ne_int, eq_bool, ne_bool, eq_str, ne_str, decide_true, decide_false, Bool.not_true, Bool.not_false, Bool.and_self, Bool.true_and, Bool.and_true, Bool.false_and, call1, call2, call3, call4, wipeE, isNil, partOf, List.map_cons, List.map_nil, e4]
    rw [call_io1 (c := c1) rfl e2]
    simp only [eSs_nil, eS_set, eS_par, eS_parT, eS_ex, eS_ifs, eS_ret, eS_pass, eS_never, eE_v, eE_c, eE_g, eE_tup, eE_lst, eE_bin, eE_neg, eE_cmp, eE_chain, eE_and, eE_or, eE_not, eE_ife, eE_idx, eE_sli, eE_rev, eE_call, eE_callK, eE_bi, eE_met, eEs_nil, eEs_cons, eT_and, eT_or, eT_not, eT_tt, eT_cmp, eT_chain, eT_e, eG_nm, eG_sub, eG_tp, eGs_nil, eGs_cons, setAll, List.set_cons_zero, List.set_cons_succ, obind, omap, List.getElem?_cons_zero, List.getElem?_cons_succ, if_true, Bool.false_eq_true, if_false, biM, tr_bool, tr_int, tr_list, tr_tuple, isi_str, isi_tup, isi_int, isi_bool_int, len_tup, len_list, add_int, sub_int, ix0, ix1, ix2, le_int, lt_int, gt_int, ge_int, eq_int, ne_int, eq_bool, ne_bool, eq_str, ne_str, decide_true, decide_false, Bool.not_true, Bool.not_false, Bool.and_self, Bool.true_and, Bool.and_true, Bool.false_and, call1, call2, call3, call4, wipeE, isNil, partOf, List.map_cons, List.map_nil, le2])]
  rw [ss_next (ρ' := [some (.ref 0), some (.d (.int most)), some (.ref 1), none, some (.d (.int (1 + d))), some (.d (.int o)), none]) (S' := [c2.map .d, []]) (by
    simp only [eSs_nil, eS_set, eS_par, eS_parT, eS_ex, eS_ifs, eS_ret, eS_pass, eS_never, eE_v, eE_c, eE_g, eE_tup, eE_lst, eE_bin, eE_neg, eE_cmp, eE_chain, eE_and, eE_or, eE_not, eE_ife, eE_idx, eE_sli, eE_rev, eE_call, eE_callK, eE_bi, eE_met, eEs_nil, eEs_cons, eT_and, eT_or, eT_not, eT_tt, eT_cmp, eT_chain, eT_e, eG_nm, eG_sub, eG_tp, eGs_nil, eGs_cons, setAll, List.set_cons_zero, List.set_cons_succ, obind, omap, List.getElem?_cons_zero, List.getElem?_cons_succ, if_true, Bool.false_eq_true, if_false, biM, tr_bool, tr_int, tr_list, tr_tuple, isi_str, isi_tup, isi_int, isi_bool_int, len_tup, len_list, add_int, sub_int, ix0, ix1, ix2, le_int, lt_int, gt_int, ge_int, eq_int, ne_int, eq_bool, ne_bool, eq_str, ne_str, decide_true, decide_false, Bool.not_true, Bool.not_false, Bool.and_self, Bool.true_and, Bool.and_true, Bool.false_and, call1, call2, call3, call4, wipeE, isNil, partOf, List.map_cons, List.map_nil, mkL, List.length_nil, Nat.zero_le]
    try rfl)]
  rw [ss_next e]
  rw [ss_ret (v := .d (dD (1 + d) found)) (S' := [c3.map .d, found.map fun p => .d (pr p)]) (by
    simp only [eSs_nil, eS_set, eS_par, eS_parT, eS_ex, eS_ifs, eS_ret, eS_pass, eS_never, eE_v, eE_c, eE_g, eE_tup, eE_lst, eE_bin, eE_neg, eE_cmp, eE_chain, eE_and, eE_or, eE_not, eE_ife, eE_idx, eE_sli, eE_rev, eE_call, eE_callK, eE_bi, eE_met, eEs_nil, eEs_cons, eT_and, eT_or, eT_not, eT_tt, eT_cmp, eT_chain, eT_e, eG_nm, eG_sub, eG_tp, eGs_nil, eGs_cons, setAll, List.set_cons_zero, List.set_cons_succ, obind, omap, List.getElem?_cons_zero, List.getElem?_cons_succ, if_true, Bool.false_eq_true, if_false, biM, tr_bool, tr_int, tr_list, tr_tuple, isi_str, isi_tup, isi_int, isi_bool_int, len_tup, len_list, add_int, sub_int, ix0, ix1, ix2, le_int, lt_int, gt_int, ge_int, eq_int, ne_int, eq_bool, ne_bool, eq_str, ne_str, decide_true, decide_false, Bool.not_true, Bool.not_false, Bool.and_self, Bool.true_and, Bool.and_true, Bool.false_and, call1, call2, call3, call4, wipeE, isNil, partOf, List.map_cons, List.map_nil, biTuple, itemsOf]
    have := pures_of (found.map pr)
    rw [List.map_map] at this
    rw [show (found.map fun p => MV.d (pr p)) = found.map (MV.d ∘ pr) from rfl, this]
    simp only [eSs_nil, eS_set, eS_par, eS_parT, eS_ex, eS_ifs, eS_ret, eS_pass, eS_never, eE_v, eE_c, eE_g, eE_tup, eE_lst, eE_bin, eE_neg, eE_cmp, eE_chain, eE_and, eE_or, eE_not, eE_ife, eE_idx, eE_sli, eE_rev, eE_call, eE_callK, eE_bi, eE_met, eEs_nil, eEs_cons, eT_and, eT_or, eT_not, eT_tt, eT_cmp, eT_chain, eT_e, eG_nm, eG_sub, eG_tp, eGs_nil, eGs_cons, setAll, List.set_cons_zero, List.set_cons_succ, obind, omap, List.getElem?_cons_zero, List.getElem?_cons_succ, if_true, Bool.false_eq_true, if_false, biM, tr_bool, tr_int, tr_list, tr_tuple, isi_str, isi_tup, isi_int, isi_bool_int, len_tup, len_list, add_int, sub_int, ix0, ix1, ix2, le_int, lt_int, gt_int, ge_int, eq_int, ne_int, eq_bool, ne_bool, eq_str, ne_str, decide_true, decide_false, Bool.not_true, Bool.not_false, Bool.and_self, Bool.true_and, Bool.and_true, Bool.false_and, call1, call2, call3, call4, wipeE, isNil, partOf, List.map_cons, List.map_nil, le3, pures]
    try rfl)]
  simp only [Option.bind_some, endOf, backD, List.take_succ_cons, List.take_zero, purAll, pures_of]
end K05
end
section
set_option Elab.async false
set_option linter.all false
set_option autoImplicit false
set_option maxRecDepth 1000000
set_option maxHeartbeats 4000000
namespace K05
open TM PySem
def skD (m : Int) (ss : List (Int × Int)) : PyData := .list ((rng m).map fun c => lI (stkL m ss c))
theorem s_law_strikers (n : Nat) {m : Int} {ss : List (Int × Int)} (g : Good m ss) : run tab (n + 1) 22 [] [dD m ss] = some (skD m ss, []) := by
  have line := lineI
  have hm := g.hi
  have hr : (rng m).length ≤ 10 := by rw [rng_len]; omega
  rw [r__law_strikers]
  simp only [f__law_strikers]
  rw [ss_ret (v := .d (skD m ss)) (S' := []) (by
    simp only [eSs_nil, eS_set, eS_par, eS_parT, eS_ex, eS_ifs, eS_ret, eS_pass, eS_never, eE_v, eE_c, eE_g, eE_tup, eE_lst, eE_bin, eE_neg, eE_cmp, eE_chain, eE_and, eE_or, eE_not, eE_ife, eE_idx, eE_sli, eE_rev, eE_call, eE_callK, eE_bi, eE_met, eEs_nil, eEs_cons, eT_and, eT_or, eT_not, eT_tt, eT_cmp, eT_chain, eT_e, eG_nm, eG_sub, eG_tp, eGs_nil, eGs_cons, setAll, List.set_cons_zero, List.set_cons_succ, obind, omap, List.getElem?_cons_zero, List.getElem?_cons_succ, if_true, Bool.false_eq_true, if_false, biM, tr_bool, tr_int, tr_list, tr_tuple, isi_str, isi_tup, isi_int, isi_bool_int, len_tup, len_list, add_int, sub_int, ix0, ix1, ix2, le_int, lt_int, gt_int, ge_int, eq_int, ne_int, eq_bool, ne_bool, eq_str, ne_str, decide_true, decide_false, Bool.not_true, Bool.not_false, Bool.and_self, Bool.true_and, Bool.and_true, Bool.false_and, call1, call2, call3, call4, wipeE, isNil, partOf, List.map_cons, List.map_nil]
    rw [lc_map (rng m) (fun c => .d (.int c)) (fun c => lI (stkL m ss c)) [] (by
      simp only [eSs_nil, eS_set, eS_par, eS_parT, eS_ex, eS_ifs, eS_ret, eS_pass, eS_never, eE_v, eE_c, eE_g, eE_tup, eE_lst, eE_bin, eE_neg, eE_cmp, eE_chain, eE_and, eE_or, eE_not, eE_ife, eE_idx, eE_sli, eE_rev, eE_call, eE_callK, eE_bi, eE_met, eEs_nil, eEs_cons, eT_and, eT_or, eT_not, eT_tt, eT_cmp, eT_chain, eT_e, eG_nm, eG_sub, eG_tp, eGs_nil, eGs_cons, setAll, List.set_cons_zero, List.set_cons_succ, obind, omap, List.getElem?_cons_zero, List.getElem?_cons_succ, if_true, Bool.false_eq_true, if_false, biM, tr_bool, tr_int, tr_list, tr_tuple, isi_str, isi_tup, isi_int, isi_bool_int, len_tup, len_list, add_int, sub_int, ix0, ix1, ix2, le_int, lt_int, gt_int, ge_int, eq_int, ne_int, eq_bool, ne_bool, eq_str, ne_str, decide_true, decide_false, Bool.not_true, Bool.not_false, Bool.and_self, Bool.true_and, Bool.and_true, Bool.false_and, call1, call2, call3, call4, wipeE, isNil, partOf, List.map_cons, List.map_nil, eI_rng, dD, rangeOf, rngI_ok g.lo g.hi]) rfl (by omega) (fun c _ => by
      simp only [eSs_nil, eS_set, eS_par, eS_parT, eS_ex, eS_ifs, eS_ret, eS_pass, eS_never, eE_v, eE_c, eE_g, eE_tup, eE_lst, eE_bin, eE_neg, eE_cmp, eE_chain, eE_and, eE_or, eE_not, eE_ife, eE_idx, eE_sli, eE_rev, eE_call, eE_callK, eE_bi, eE_met, eEs_nil, eEs_cons, eT_and, eT_or, eT_not, eT_tt, eT_cmp, eT_chain, eT_e, eG_nm, eG_sub, eG_tp, eGs_nil, eGs_cons, setAll, List.set_cons_zero, List.set_cons_succ, obind, omap, List.getElem?_cons_zero, List.getElem?_cons_succ, if_true, Bool.false_eq_true, if_false, biM, tr_bool, tr_int, tr_list, tr_tuple, isi_str, isi_tup, isi_int, isi_bool_int, len_tup, len_list, add_int, sub_int, ix0, ix1, ix2, le_int, lt_int, gt_int, ge_int, eq_int, ne_int, eq_bool, ne_bool, eq_str, ne_str, decide_true, decide_false, Bool.not_true, Bool.not_false, Bool.and_self, Bool.true_and, Bool.and_true, Bool.false_and, call1, call2, call3, call4, wipeE, isNil, partOf, List.map_cons, List.map_nil, lcT]
      rw [lc_filter (rng m) (fun a => .d (.int a)) (fun a => decide ((a, c) ∈ ss)) (fun a => .int a) [] (by
        simp only [eSs_nil, eS_set, eS_par, eS_parT, eS_ex, eS_ifs, eS_ret, eS_pass, eS_never, eE_v, eE_c, eE_g, eE_tup, eE_lst, eE_bin, eE_neg, eE_cmp, eE_chain, eE_and, eE_or, eE_not, eE_ife, eE_idx, eE_sli, eE_rev, eE_call, eE_callK, eE_bi, eE_met, eEs_nil, eEs_cons, eT_and, eT_or, eT_not, eT_tt, eT_cmp, eT_chain, eT_e, eG_nm, eG_sub, eG_tp, eGs_nil, eGs_cons, setAll, List.set_cons_zero, List.set_cons_succ, obind, omap, List.getElem?_cons_zero, List.getElem?_cons_succ, if_true, Bool.false_eq_true, if_false, biM, tr_bool, tr_int, tr_list, tr_tuple, isi_str, isi_tup, isi_int, isi_bool_int, len_tup, len_list, add_int, sub_int, ix0, ix1, ix2, le_int, lt_int, gt_int, ge_int, eq_int, ne_int, eq_bool, ne_bool, eq_str, ne_str, decide_true, decide_false, Bool.not_true, Bool.not_false, Bool.and_self, Bool.true_and, Bool.and_true, Bool.false_and, call1, call2, call3, call4, wipeE, isNil, partOf, List.map_cons, List.map_nil, eI_rng, dD, rangeOf, rngI_ok g.lo g.hi]) rfl (by
        have := List.length_filter_le (fun a => decide ((a, c) ∈ ss)) (rng m)
        omega) (fun a _ => by
        have := in_sD [] (a, c) ss
        rw [pr] at this
        simp only [eSs_nil, eS_set, eS_par, eS_parT, eS_ex, eS_ifs, eS_ret, eS_pass, eS_never, eE_v, eE_c, eE_g, eE_tup, eE_lst, eE_bin, eE_neg, eE_cmp, eE_chain, eE_and, eE_or, eE_not, eE_ife, eE_idx, eE_sli, eE_rev, eE_call, eE_callK, eE_bi, eE_met, eEs_nil, eEs_cons, eT_and, eT_or, eT_not, eT_tt, eT_cmp, eT_chain, eT_e, eG_nm, eG_sub, eG_tp, eGs_nil, eGs_cons, setAll, List.set_cons_zero, List.set_cons_succ, obind, omap, List.getElem?_cons_zero, List.getElem?_cons_succ, if_true, Bool.false_eq_true, if_false, biM, tr_bool, tr_int, tr_list, tr_tuple, isi_str, isi_tup, isi_int, isi_bool_int, len_tup, len_list, add_int, sub_int, ix0, ix1, ix2, le_int, lt_int, gt_int, ge_int, eq_int, ne_int, eq_bool, ne_bool, eq_str, ne_str, decide_true, decide_false, Bool.not_true, Bool.not_false, Bool.and_self, Bool.true_and, Bool.and_true, Bool.false_and, call1, call2, call3, call4, wipeE, isNil, partOf, List.map_cons, List.map_nil, lcT, le2, pures, dD, this]
        cases decide ((a, c) ∈ ss) <;> rfl)]
      simp only [eSs_nil, eS_set, eS_par, eS_parT, eS_ex, eS_ifs, eS_ret, eS_pass, eS_never, eE_v, eE_c, eE_g, eE_tup, eE_lst, eE_bin, eE_neg, eE_cmp, eE_chain, eE_and, eE_or, eE_not, eE_ife, eE_idx, eE_sli, eE_rev, eE_call, eE_callK, eE_bi, eE_met, eEs_nil, eEs_cons, eT_and, eT_or, eT_not, eT_tt, eT_cmp, eT_chain, eT_e, eG_nm, eG_sub, eG_tp, eGs_nil, eGs_cons, setAll, List.set_cons_zero, List.set_cons_succ, obind, omap, List.getElem?_cons_zero, List.getElem?_cons_succ, if_true, Bool.false_eq_true, if_false, biM, tr_bool, tr_int, tr_list, tr_tuple, isi_str, isi_tup, isi_int, isi_bool_int, len_tup, len_list, add_int, sub_int, ix0, ix1, ix2, le_int, lt_int, gt_int, ge_int, eq_int, ne_int, eq_bool, ne_bool, eq_str, ne_str, decide_true, decide_false, Bool.not_true, Bool.not_false, Bool.and_self, Bool.true_and, Bool.and_true, Bool.false_and, call1, call2, call3, call4, wipeE, isNil, partOf, List.map_cons, List.map_nil]
      rfl)]
    rfl)]
  exact end0
theorem s_law_is_quiet (n : Nat) {m : Int} {ss : List (Int × Int)} (g : Good m ss) (l : List Int) : run tab (n + 1) 23 [] [dD m ss, tI l] = some (.bool (quiet ss l), []) := by
  have line := lineI
  have hms := g.many
  rw [r__law_is_quiet]
  simp only [f__law_is_quiet]
  rw [ss_ret (v := .d (.bool (quiet ss l))) (S' := []) (by
    simp only [eSs_nil, eS_set, eS_par, eS_parT, eS_ex, eS_ifs, eS_ret, eS_pass, eS_never, eE_v, eE_c, eE_g, eE_tup, eE_lst, eE_bin, eE_neg, eE_cmp, eE_chain, eE_and, eE_or, eE_not, eE_ife, eE_idx, eE_sli, eE_rev, eE_call, eE_callK, eE_bi, eE_met, eEs_nil, eEs_cons, eT_and, eT_or, eT_not, eT_tt, eT_cmp, eT_chain, eT_e, eG_nm, eG_sub, eG_tp, eGs_nil, eGs_cons, setAll, List.set_cons_zero, List.set_cons_succ, obind, omap, List.getElem?_cons_zero, List.getElem?_cons_succ, if_true, Bool.false_eq_true, if_false, biM, tr_bool, tr_int, tr_list, tr_tuple, isi_str, isi_tup, isi_int, isi_bool_int, len_tup, len_list, add_int, sub_int, ix0, ix1, ix2, le_int, lt_int, gt_int, ge_int, eq_int, ne_int, eq_bool, ne_bool, eq_str, ne_str, decide_true, decide_false, Bool.not_true, Bool.not_false, Bool.and_self, Bool.true_and, Bool.and_true, Bool.false_and, call1, call2, call3, call4, wipeE, isNil, partOf, List.map_cons, List.map_nil]
    rw [lc_map ss (fun p => .d (pr p)) (fun p => .bool (decide (p.1 ∈ l) && decide (p.2 ∈ l))) [] (by
      simp only [eSs_nil, eS_set, eS_par, eS_parT, eS_ex, eS_ifs, eS_ret, eS_pass, eS_never, eE_v, eE_c, eE_g, eE_tup, eE_lst, eE_bin, eE_neg, eE_cmp, eE_chain, eE_and, eE_or, eE_not, eE_ife, eE_idx, eE_sli, eE_rev, eE_call, eE_callK, eE_bi, eE_met, eEs_nil, eEs_cons, eT_and, eT_or, eT_not, eT_tt, eT_cmp, eT_chain, eT_e, eG_nm, eG_sub, eG_tp, eGs_nil, eGs_cons, setAll, List.set_cons_zero, List.set_cons_succ, obind, omap, List.getElem?_cons_zero, List.getElem?_cons_succ, if_true, Bool.false_eq_true, if_false, biM, tr_bool, tr_int, tr_list, tr_tuple, isi_str, isi_tup, isi_int, isi_bool_int, len_tup, len_list, add_int, sub_int, ix0, ix1, ix2, le_int, lt_int, gt_int, ge_int, eq_int, ne_int, eq_bool, ne_bool, eq_str, ne_str, decide_true, decide_false, Bool.not_true, Bool.not_false, Bool.and_self, Bool.true_and, Bool.and_true, Bool.false_and, call1, call2, call3, call4, wipeE, isNil, partOf, List.map_cons, List.map_nil, eI_seq, dD, sD, itemsOf, srcOf, List.map_map]
      rfl) rfl (by omega) (fun p _ => by
      simp only [eSs_nil, eS_set, eS_par, eS_parT, eS_ex, eS_ifs, eS_ret, eS_pass, eS_never, eE_v, eE_c, eE_g, eE_tup, eE_lst, eE_bin, eE_neg, eE_cmp, eE_chain, eE_and, eE_or, eE_not, eE_ife, eE_idx, eE_sli, eE_rev, eE_call, eE_callK, eE_bi, eE_met, eEs_nil, eEs_cons, eT_and, eT_or, eT_not, eT_tt, eT_cmp, eT_chain, eT_e, eG_nm, eG_sub, eG_tp, eGs_nil, eGs_cons, setAll, List.set_cons_zero, List.set_cons_succ, obind, omap, List.getElem?_cons_zero, List.getElem?_cons_succ, if_true, Bool.false_eq_true, if_false, biM, tr_bool, tr_int, tr_list, tr_tuple, isi_str, isi_tup, isi_int, isi_bool_int, len_tup, len_list, add_int, sub_int, ix0, ix1, ix2, le_int, lt_int, gt_int, ge_int, eq_int, ne_int, eq_bool, ne_bool, eq_str, ne_str, decide_true, decide_false, Bool.not_true, Bool.not_false, Bool.and_self, Bool.true_and, Bool.and_true, Bool.false_and, call1, call2, call3, call4, wipeE, isNil, partOf, List.map_cons, List.map_nil, lcT, pr, in_tI]
      cases decide (p.1 ∈ l) with
      | false => simp only [eSs_nil, eS_set, eS_par, eS_parT, eS_ex, eS_ifs, eS_ret, eS_pass, eS_never, eE_v, eE_c, eE_g, eE_tup, eE_lst, eE_bin, eE_neg, eE_cmp, eE_chain, eE_and, eE_or, eE_not, eE_ife, eE_idx, eE_sli, eE_rev, eE_call, eE_callK, eE_bi, eE_met, eEs_nil, eEs_cons, eT_and, eT_or, eT_not, eT_tt, eT_cmp, eT_chain, eT_e, eG_nm, eG_sub, eG_tp, eGs_nil, eGs_cons, setAll, List.set_cons_zero, List.set_cons_succ, obind, omap, List.getElem?_cons_zero, List.getElem?_cons_succ, if_true, Bool.false_eq_true, if_false, biM, tr_bool, tr_int, tr_list, tr_tuple, isi_str, isi_tup, isi_int, isi_bool_int, len_tup, len_list, add_int, sub_int, ix0, ix1, ix2, le_int, lt_int, gt_int, ge_int, eq_int, ne_int, eq_bool, ne_bool, eq_str, ne_str, decide_true, decide_false, Bool.not_true, Bool.not_false, Bool.and_self, Bool.true_and, Bool.and_true, Bool.false_and, call1, call2, call3, call4, wipeE, isNil, partOf, List.map_cons, List.map_nil]
      | true => simp only [eSs_nil, eS_set, eS_par, eS_parT, eS_ex, eS_ifs, eS_ret, eS_pass, eS_never, eE_v, eE_c, eE_g, eE_tup, eE_lst, eE_bin, eE_neg, eE_cmp, eE_chain, eE_and, eE_or, eE_not, eE_ife, eE_idx, eE_sli, eE_rev, eE_call, eE_callK, eE_bi, eE_met, eEs_nil, eEs_cons, eT_and, eT_or, eT_not, eT_tt, eT_cmp, eT_chain, eT_e, eG_nm, eG_sub, eG_tp, eGs_nil, eGs_cons, setAll, List.set_cons_zero, List.set_cons_succ, obind, omap, List.getElem?_cons_zero, List.getElem?_cons_succ, if_true, Bool.false_eq_true, if_false, biM, tr_bool, tr_int, tr_list, tr_tuple, isi_str, isi_tup, isi_int, isi_bool_int, len_tup, len_list, add_int, sub_int, ix0, ix1, ix2, le_int, lt_int, gt_int, ge_int, eq_int, ne_int, eq_bool, ne_bool, eq_str, ne_str, decide_true, decide_false, Bool.not_true, Bool.not_false, Bool.and_self, Bool.true_and, Bool.and_true, Bool.false_and, call1, call2, call3, call4, wipeE, isNil, partOf, List.map_cons, List.map_nil, in_tI])]
    simp only [eSs_nil, eS_set, eS_par, eS_parT, eS_ex, eS_ifs, eS_ret, eS_pass, eS_never, eE_v, eE_c, eE_g, eE_tup, eE_lst, eE_bin, eE_neg, eE_cmp, eE_chain, eE_and, eE_or, eE_not, eE_ife, eE_idx, eE_sli, eE_rev, eE_call, eE_callK, eE_bi, eE_met, eEs_nil, eEs_cons, eT_and, eT_or, eT_not, eT_tt, eT_cmp, eT_chain, eT_e, eG_nm, eG_sub, eG_tp, eGs_nil, eGs_cons, setAll, List.set_cons_zero, List.set_cons_succ, obind, omap, List.getElem?_cons_zero, List.getElem?_cons_succ, if_true, Bool.false_eq_true, if_false, biM, tr_bool, tr_int, tr_list, tr_tuple, isi_str, isi_tup, isi_int, isi_bool_int, len_tup, len_list, add_int, sub_int, ix0, ix1, ix2, le_int, lt_int, gt_int, ge_int, eq_int, ne_int, eq_bool, ne_bool, eq_str, ne_str, decide_true, decide_false, Bool.not_true, Bool.not_false, Bool.and_self, Bool.true_and, Bool.and_true, Bool.false_and, call1, call2, call3, call4, wipeE, isNil, partOf, List.map_cons, List.map_nil, any_map, quiet_is, quiet'])]
  exact end0
theorem s_law_without (n : Nat) {m : Int} {ss : List (Int × Int)} (g : Good m ss) (s : List (Int × Int)) : run tab (n + 1) 25 [] [dD m ss, sD s] = some (dD m (wo ss s), []) := by
  have line := lineI
  have hms := g.many
  rw [r__law_without]
  simp only [f__law_without]
  rw [ss_ret (v := .d (dD m (wo ss s))) (S' := []) (by
    simp only [eSs_nil, eS_set, eS_par, eS_parT, eS_ex, eS_ifs, eS_ret, eS_pass, eS_never, eE_v, eE_c, eE_g, eE_tup, eE_lst, eE_bin, eE_neg, eE_cmp, eE_chain, eE_and, eE_or, eE_not, eE_ife, eE_idx, eE_sli, eE_rev, eE_call, eE_callK, eE_bi, eE_met, eEs_nil, eEs_cons, eT_and, eT_or, eT_not, eT_tt, eT_cmp, eT_chain, eT_e, eG_nm, eG_sub, eG_tp, eGs_nil, eGs_cons, setAll, List.set_cons_zero, List.set_cons_succ, obind, omap, List.getElem?_cons_zero, List.getElem?_cons_succ, if_true, Bool.false_eq_true, if_false, biM, tr_bool, tr_int, tr_list, tr_tuple, isi_str, isi_tup, isi_int, isi_bool_int, len_tup, len_list, add_int, sub_int, ix0, ix1, ix2, le_int, lt_int, gt_int, ge_int, eq_int, ne_int, eq_bool, ne_bool, eq_str, ne_str, decide_true, decide_false, Bool.not_true, Bool.not_false, Bool.and_self, Bool.true_and, Bool.and_true, Bool.false_and, call1, call2, call3, call4, wipeE, isNil, partOf, List.map_cons, List.map_nil, dD]
    rw [lc_filter ss (fun p => .d (pr p)) (fun p => !decide (p ∈ s)) pr [] (by
      simp only [eSs_nil, eS_set, eS_par, eS_parT, eS_ex, eS_ifs, eS_ret, eS_pass, eS_never, eE_v, eE_c, eE_g, eE_tup, eE_lst, eE_bin, eE_neg, eE_cmp, eE_chain, eE_and, eE_or, eE_not, eE_ife, eE_idx, eE_sli, eE_rev, eE_call, eE_callK, eE_bi, eE_met, eEs_nil, eEs_cons, eT_and, eT_or, eT_not, eT_tt, eT_cmp, eT_chain, eT_e, eG_nm, eG_sub, eG_tp, eGs_nil, eGs_cons, setAll, List.set_cons_zero, List.set_cons_succ, obind, omap, List.getElem?_cons_zero, List.getElem?_cons_succ, if_true, Bool.false_eq_true, if_false, biM, tr_bool, tr_int, tr_list, tr_tuple, isi_str, isi_tup, isi_int, isi_bool_int, len_tup, len_list, add_int, sub_int, ix0, ix1, ix2, le_int, lt_int, gt_int, ge_int, eq_int, ne_int, eq_bool, ne_bool, eq_str, ne_str, decide_true, decide_false, Bool.not_true, Bool.not_false, Bool.and_self, Bool.true_and, Bool.and_true, Bool.false_and, call1, call2, call3, call4, wipeE, isNil, partOf, List.map_cons, List.map_nil, eI_seq]
      simp only [eSs_nil, eS_set, eS_par, eS_parT, eS_ex, eS_ifs, eS_ret, eS_pass, eS_never, eE_v, eE_c, eE_g, eE_tup, eE_lst, eE_bin, eE_neg, eE_cmp, eE_chain, eE_and, eE_or, eE_not, eE_ife, eE_idx, eE_sli, eE_rev, eE_call, eE_callK, eE_bi, eE_met, eEs_nil, eEs_cons, eT_and, eT_or, eT_not, eT_tt, eT_cmp, eT_chain, eT_e, eG_nm, eG_sub, eG_tp, eGs_nil, eGs_cons, setAll, List.set_cons_zero, List.set_cons_succ, obind, omap, List.getElem?_cons_zero, List.getElem?_cons_succ, if_true, Bool.false_eq_true, if_false, biM, tr_bool, tr_int, tr_list, tr_tuple, isi_str, isi_tup, isi_int, isi_bool_int, len_tup, len_list, add_int, sub_int, ix0, ix1, ix2, le_int, lt_int, gt_int, ge_int, eq_int, ne_int, eq_bool, ne_bool, eq_str, ne_str, decide_true, decide_false, Bool.not_true, Bool.not_false, Bool.and_self, Bool.true_and, Bool.and_true, Bool.false_and, call1, call2, call3, call4, wipeE, isNil, partOf, List.map_cons, List.map_nil, sD, itemsOf, srcOf, List.map_map]
      rfl) rfl (by
      have := List.length_filter_le (fun p => !decide (p ∈ s)) ss
      omega) (fun p _ => by
      simp only [eSs_nil, eS_set, eS_par, eS_parT, eS_ex, eS_ifs, eS_ret, eS_pass, eS_never, eE_v, eE_c, eE_g, eE_tup, eE_lst, eE_bin, eE_neg, eE_cmp, eE_chain, eE_and, eE_or, eE_not, eE_ife, eE_idx, eE_sli, eE_rev, eE_call, eE_callK, eE_bi, eE_met, eEs_nil, eEs_cons, eT_and, eT_or, eT_not, eT_tt, eT_cmp, eT_chain, eT_e, eG_nm, eG_sub, eG_tp, eGs_nil, eGs_cons, setAll, List.set_cons_zero, List.set_cons_succ, obind, omap, List.getElem?_cons_zero, List.getElem?_cons_succ, if_true, Bool.false_eq_true, if_false, biM, tr_bool, tr_int, tr_list, tr_tuple, isi_str, isi_tup, isi_int, isi_bool_int, len_tup, len_list, add_int, sub_int, ix0, ix1, ix2, le_int, lt_int, gt_int, ge_int, eq_int, ne_int, eq_bool, ne_bool, eq_str, ne_str, decide_true, decide_false, Bool.not_true, Bool.not_false, Bool.and_self, Bool.true_and, Bool.and_true, Bool.false_and, call1, call2, call3, call4, wipeE, isNil, partOf, List.map_cons, List.map_nil, lcT, ni_sD]
      cases decide (p ∈ s) <;> rfl)]
    simp only [eSs_nil, eS_set, eS_par, eS_parT, eS_ex, eS_ifs, eS_ret, eS_pass, eS_never, eE_v, eE_c, eE_g, eE_tup, eE_lst, eE_bin, eE_neg, eE_cmp, eE_chain, eE_and, eE_or, eE_not, eE_ife, eE_idx, eE_sli, eE_rev, eE_call, eE_callK, eE_bi, eE_met, eEs_nil, eEs_cons, eT_and, eT_or, eT_not, eT_tt, eT_cmp, eT_chain, eT_e, eG_nm, eG_sub, eG_tp, eGs_nil, eGs_cons, setAll, List.set_cons_zero, List.set_cons_succ, obind, omap, List.getElem?_cons_zero, List.getElem?_cons_succ, if_true, Bool.false_eq_true, if_false, biM, tr_bool, tr_int, tr_list, tr_tuple, isi_str, isi_tup, isi_int, isi_bool_int, len_tup, len_list, add_int, sub_int, ix0, ix1, ix2, le_int, lt_int, gt_int, ge_int, eq_int, ne_int, eq_bool, ne_bool, eq_str, ne_str, decide_true, decide_false, Bool.not_true, Bool.not_false, Bool.and_self, Bool.true_and, Bool.and_true, Bool.false_and, call1, call2, call3, call4, wipeE, isNil, partOf, List.map_cons, List.map_nil, biTuple, itemsOf, pures_of, le3, pures]
    rfl)]
  exact end0
theorem s_law_is_so (n : Nat) {m : Int} {ss : List (Int × Int)} (g : Good m ss) (a : Aim) {lot : List Int} (hl : lot.Sublist (rng m)) : run tab (n + 2) 26 [] [dD m ss, .str a.nm, tI lot] = some (.bool (soB m ss a.st a.up lot), []) := by
  have line := lineI
  have hm := g.hi
  have hr : (rng m).length ≤ 10 := by rw [rng_len]; omega
  have hll := hl.length_le
  have hk : ∀ c, (stkL m ss c).length ≤ 10 := fun c => Nat.le_trans (List.length_filter_le _ _) hr
  rw [r__law_is_so]
  simp only [f__law_is_so]
  rw [ss_next (ρ' := [some (.d (dD m ss)), some (.d (.str a.nm)), some (.d (tI lot)), some (.d (skD m ss)), none, none, none]) (S' := []) (by
    simp only [eSs_nil, eS_set, eS_par, eS_parT, eS_ex, eS_ifs, eS_ret, eS_pass, eS_never, eE_v, eE_c, eE_g, eE_tup, eE_lst, eE_bin, eE_neg, eE_cmp, eE_chain, eE_and, eE_or, eE_not, eE_ife, eE_idx, eE_sli, eE_rev, eE_call, eE_callK, eE_bi, eE_met, eEs_nil, eEs_cons, eT_and, eT_or, eT_not, eT_tt, eT_cmp, eT_chain, eT_e, eG_nm, eG_sub, eG_tp, eGs_nil, eGs_cons, setAll, List.set_cons_zero, List.set_cons_succ, obind, omap, List.getElem?_cons_zero, List.getElem?_cons_succ, if_true, Bool.false_eq_true, if_false, biM, tr_bool, tr_int, tr_list, tr_tuple, isi_str, isi_tup, isi_int, isi_bool_int, len_tup, len_list, add_int, sub_int, ix0, ix1, ix2, le_int, lt_int, gt_int, ge_int, eq_int, ne_int, eq_bool, ne_bool, eq_str, ne_str, decide_true, decide_false, Bool.not_true, Bool.not_false, Bool.and_self, Bool.true_and, Bool.and_true, Bool.false_and, call1, call2, call3, call4, wipeE, isNil, partOf, List.map_cons, List.map_nil, s_law_strikers n g])]
  rw [soB]
  cases hq : quiet ss lot with
  | false =>
    rw [ss_ret (v := .d (.bool false)) (S' := []) (by
      simp only [eSs_nil, eS_set, eS_par, eS_parT, eS_ex, eS_ifs, eS_ret, eS_pass, eS_never, eE_v, eE_c, eE_g, eE_tup, eE_lst, eE_bin, eE_neg, eE_cmp, eE_chain, eE_and, eE_or, eE_not, eE_ife, eE_idx, eE_sli, eE_rev, eE_call, eE_callK, eE_bi, eE_met, eEs_nil, eEs_cons, eT_and, eT_or, eT_not, eT_tt, eT_cmp, eT_chain, eT_e, eG_nm, eG_sub, eG_tp, eGs_nil, eGs_cons, setAll, List.set_cons_zero, List.set_cons_succ, obind, omap, List.getElem?_cons_zero, List.getElem?_cons_succ, if_true, Bool.false_eq_true, if_false, biM, tr_bool, tr_int, tr_list, tr_tuple, isi_str, isi_tup, isi_int, isi_bool_int, len_tup, len_list, add_int, sub_int, ix0, ix1, ix2, le_int, lt_int, gt_int, ge_int, eq_int, ne_int, eq_bool, ne_bool, eq_str, ne_str, decide_true, decide_false, Bool.not_true, Bool.not_false, Bool.and_self, Bool.true_and, Bool.and_true, Bool.false_and, call1, call2, call3, call4, wipeE, isNil, partOf, List.map_cons, List.map_nil, s_law_is_quiet n g lot, hq, eSs_cons])]
    exact end0
  | true =>
    rw [ss_next (ρ' := [some (.d (dD m ss)), some (.d (.str a.nm)), some (.d (tI lot)), some (.d (skD m ss)), none, none, none]) (S' := []) (by
      simp only [eSs_nil, eS_set, eS_par, eS_parT, eS_ex, eS_ifs, eS_ret, eS_pass, eS_never, eE_v, eE_c, eE_g, eE_tup, eE_lst, eE_bin, eE_neg, eE_cmp, eE_chain, eE_and, eE_or, eE_not, eE_ife, eE_idx, eE_sli, eE_rev, eE_call, eE_callK, eE_bi, eE_met, eEs_nil, eEs_cons, eT_and, eT_or, eT_not, eT_tt, eT_cmp, eT_chain, eT_e, eG_nm, eG_sub, eG_tp, eGs_nil, eGs_cons, setAll, List.set_cons_zero, List.set_cons_succ, obind, omap, List.getElem?_cons_zero, List.getElem?_cons_succ, if_true, Bool.false_eq_true, if_false, biM, tr_bool, tr_int, tr_list, tr_tuple, isi_str, isi_tup, isi_int, isi_bool_int, len_tup, len_list, add_int, sub_int, ix0, ix1, ix2, le_int, lt_int, gt_int, ge_int, eq_int, ne_int, eq_bool, ne_bool, eq_str, ne_str, decide_true, decide_false, Bool.not_true, Bool.not_false, Bool.and_self, Bool.true_and, Bool.and_true, Bool.false_and, call1, call2, call3, call4, wipeE, isNil, partOf, List.map_cons, List.map_nil, s_law_is_quiet n g lot, hq])]
    cases hu : a.up with
    | true =>
      rw [ss_ret (v := .d (.bool (lot.all fun c => (stkL m ss c).all fun o => (stkL m ss o).any fun x => decide (x ∈ lot)))) (S' := []) (by
        simp only [eSs_nil, eS_set, eS_par, eS_parT, eS_ex, eS_ifs, eS_ret, eS_pass, eS_never, eE_v, eE_c, eE_g, eE_tup, eE_lst, eE_bin, eE_neg, eE_cmp, eE_chain, eE_and, eE_or, eE_not, eE_ife, eE_idx, eE_sli, eE_rev, eE_call, eE_callK, eE_bi, eE_met, eEs_nil, eEs_cons, eT_and, eT_or, eT_not, eT_tt, eT_cmp, eT_chain, eT_e, eG_nm, eG_sub, eG_tp, eGs_nil, eGs_cons, setAll, List.set_cons_zero, List.set_cons_succ, obind, omap, List.getElem?_cons_zero, List.getElem?_cons_succ, if_true, Bool.false_eq_true, if_false, biM, tr_bool, tr_int, tr_list, tr_tuple, isi_str, isi_tup, isi_int, isi_bool_int, len_tup, len_list, add_int, sub_int, ix0, ix1, ix2, le_int, lt_int, gt_int, ge_int, eq_int, ne_int, eq_bool, ne_bool, eq_str, ne_str, decide_true, decide_false, Bool.not_true, Bool.not_false, Bool.and_self, Bool.true_and, Bool.and_true, Bool.false_and, call1, call2, call3, call4, wipeE, isNil, partOf, List.map_cons, List.map_nil, a.is_u, hu, eSs_cons]
        rw [lc_map lot (fun c => .d (.int c)) (fun c => .bool ((stkL m ss c).all fun o => (stkL m ss o).any fun x => decide (x ∈ lot))) [] (by
          simp only [eSs_nil, eS_set, eS_par, eS_parT, eS_ex, eS_ifs, eS_ret, eS_pass, eS_never, eE_v, eE_c, eE_g, eE_tup, eE_lst, eE_bin, eE_neg, eE_cmp, eE_chain, eE_and, eE_or, eE_not, eE_ife, eE_idx, eE_sli, eE_rev, eE_call, eE_callK, eE_bi, eE_met, eEs_nil, eEs_cons, eT_and, eT_or, eT_not, eT_tt, eT_cmp, eT_chain, eT_e, eG_nm, eG_sub, eG_tp, eGs_nil, eGs_cons, setAll, List.set_cons_zero, List.set_cons_succ, obind, omap, List.getElem?_cons_zero, List.getElem?_cons_succ, if_true, Bool.false_eq_true, if_false, biM, tr_bool, tr_int, tr_list, tr_tuple, isi_str, isi_tup, isi_int, isi_bool_int, len_tup, len_list, add_int, sub_int, ix0, ix1, ix2, le_int, lt_int, gt_int, ge_int, eq_int, ne_int, eq_bool, ne_bool, eq_str, ne_str, decide_true, decide_false, Bool.not_true, Bool.not_false, Bool.and_self, Bool.true_and, Bool.and_true, Bool.false_and, call1, call2, call3, call4, wipeE, isNil, partOf, List.map_cons, List.map_nil, eI_seq, tI, itemsOf, srcOf, List.map_map]
          rfl) rfl (by omega) (fun c hc => by
          simp only [eSs_nil, eS_set, eS_par, eS_parT, eS_ex, eS_ifs, eS_ret, eS_pass, eS_never, eE_v, eE_c, eE_g, eE_tup, eE_lst, eE_bin, eE_neg, eE_cmp, eE_chain, eE_and, eE_or, eE_not, eE_ife, eE_idx, eE_sli, eE_rev, eE_call, eE_callK, eE_bi, eE_met, eEs_nil, eEs_cons, eT_and, eT_or, eT_not, eT_tt, eT_cmp, eT_chain, eT_e, eG_nm, eG_sub, eG_tp, eGs_nil, eGs_cons, setAll, List.set_cons_zero, List.set_cons_succ, obind, omap, List.getElem?_cons_zero, List.getElem?_cons_succ, if_true, Bool.false_eq_true, if_false, biM, tr_bool, tr_int, tr_list, tr_tuple, isi_str, isi_tup, isi_int, isi_bool_int, len_tup, len_list, add_int, sub_int, ix0, ix1, ix2, le_int, lt_int, gt_int, ge_int, eq_int, ne_int, eq_bool, ne_bool, eq_str, ne_str, decide_true, decide_false, Bool.not_true, Bool.not_false, Bool.and_self, Bool.true_and, Bool.and_true, Bool.false_and, call1, call2, call3, call4, wipeE, isNil, partOf, List.map_cons, List.map_nil, lcT]
          rw [lc_map (stkL m ss c) (fun o => .d (.int o)) (fun o => .bool ((stkL m ss o).any fun x => decide (x ∈ lot))) [] (by
            simp only [eSs_nil, eS_set, eS_par, eS_parT, eS_ex, eS_ifs, eS_ret, eS_pass, eS_never, eE_v, eE_c, eE_g, eE_tup, eE_lst, eE_bin, eE_neg, eE_cmp, eE_chain, eE_and, eE_or, eE_not, eE_ife, eE_idx, eE_sli, eE_rev, eE_call, eE_callK, eE_bi, eE_met, eEs_nil, eEs_cons, eT_and, eT_or, eT_not, eT_tt, eT_cmp, eT_chain, eT_e, eG_nm, eG_sub, eG_tp, eGs_nil, eGs_cons, setAll, List.set_cons_zero, List.set_cons_succ, obind, omap, List.getElem?_cons_zero, List.getElem?_cons_succ, if_true, Bool.false_eq_true, if_false, biM, tr_bool, tr_int, tr_list, tr_tuple, isi_str, isi_tup, isi_int, isi_bool_int, len_tup, len_list, add_int, sub_int, ix0, ix1, ix2, le_int, lt_int, gt_int, ge_int, eq_int, ne_int, eq_bool, ne_bool, eq_str, ne_str, decide_true, decide_false, Bool.not_true, Bool.not_false, Bool.and_self, Bool.true_and, Bool.and_true, Bool.false_and, call1, call2, call3, call4, wipeE, isNil, partOf, List.map_cons, List.map_nil, eI_seq, skD, ix_rngL (fun c => lI (stkL m ss c)) (hl.subset hc)]
            simp only [eSs_nil, eS_set, eS_par, eS_parT, eS_ex, eS_ifs, eS_ret, eS_pass, eS_never, eE_v, eE_c, eE_g, eE_tup, eE_lst, eE_bin, eE_neg, eE_cmp, eE_chain, eE_and, eE_or, eE_not, eE_ife, eE_idx, eE_sli, eE_rev, eE_call, eE_callK, eE_bi, eE_met, eEs_nil, eEs_cons, eT_and, eT_or, eT_not, eT_tt, eT_cmp, eT_chain, eT_e, eG_nm, eG_sub, eG_tp, eGs_nil, eGs_cons, setAll, List.set_cons_zero, List.set_cons_succ, obind, omap, List.getElem?_cons_zero, List.getElem?_cons_succ, if_true, Bool.false_eq_true, if_false, biM, tr_bool, tr_int, tr_list, tr_tuple, isi_str, isi_tup, isi_int, isi_bool_int, len_tup, len_list, add_int, sub_int, ix0, ix1, ix2, le_int, lt_int, gt_int, ge_int, eq_int, ne_int, eq_bool, ne_bool, eq_str, ne_str, decide_true, decide_false, Bool.not_true, Bool.not_false, Bool.and_self, Bool.true_and, Bool.and_true, Bool.false_and, call1, call2, call3, call4, wipeE, isNil, partOf, List.map_cons, List.map_nil, lI, itemsOf, srcOf, List.map_map]
            rfl) rfl (by have := hk c; omega) (fun o ho => by
            have hor : o ∈ rng m := (List.mem_filter.mp ho).1
            simp only [eSs_nil, eS_set, eS_par, eS_parT, eS_ex, eS_ifs, eS_ret, eS_pass, eS_never, eE_v, eE_c, eE_g, eE_tup, eE_lst, eE_bin, eE_neg, eE_cmp, eE_chain, eE_and, eE_or, eE_not, eE_ife, eE_idx, eE_sli, eE_rev, eE_call, eE_callK, eE_bi, eE_met, eEs_nil, eEs_cons, eT_and, eT_or, eT_not, eT_tt, eT_cmp, eT_chain, eT_e, eG_nm, eG_sub, eG_tp, eGs_nil, eGs_cons, setAll, List.set_cons_zero, List.set_cons_succ, obind, omap, List.getElem?_cons_zero, List.getElem?_cons_succ, if_true, Bool.false_eq_true, if_false, biM, tr_bool, tr_int, tr_list, tr_tuple, isi_str, isi_tup, isi_int, isi_bool_int, len_tup, len_list, add_int, sub_int, ix0, ix1, ix2, le_int, lt_int, gt_int, ge_int, eq_int, ne_int, eq_bool, ne_bool, eq_str, ne_str, decide_true, decide_false, Bool.not_true, Bool.not_false, Bool.and_self, Bool.true_and, Bool.and_true, Bool.false_and, call1, call2, call3, call4, wipeE, isNil, partOf, List.map_cons, List.map_nil, lcT]
            rw [lc_map (stkL m ss o) (fun x => .d (.int x)) (fun x => .bool (decide (x ∈ lot))) [] (by
              simp only [eSs_nil, eS_set, eS_par, eS_parT, eS_ex, eS_ifs, eS_ret, eS_pass, eS_never, eE_v, eE_c, eE_g, eE_tup, eE_lst, eE_bin, eE_neg, eE_cmp, eE_chain, eE_and, eE_or, eE_not, eE_ife, eE_idx, eE_sli, eE_rev, eE_call, eE_callK, eE_bi, eE_met, eEs_nil, eEs_cons, eT_and, eT_or, eT_not, eT_tt, eT_cmp, eT_chain, eT_e, eG_nm, eG_sub, eG_tp, eGs_nil, eGs_cons, setAll, List.set_cons_zero, List.set_cons_succ, obind, omap, List.getElem?_cons_zero, List.getElem?_cons_succ, if_true, Bool.false_eq_true, if_false, biM, tr_bool, tr_int, tr_list, tr_tuple, isi_str, isi_tup, isi_int, isi_bool_int, len_tup, len_list, add_int, sub_int, ix0, ix1, ix2, le_int, lt_int, gt_int, ge_int, eq_int, ne_int, eq_bool, ne_bool, eq_str, ne_str, decide_true, decide_false, Bool.not_true, Bool.not_false, Bool.and_self, Bool.true_and, Bool.and_true, Bool.false_and, call1, call2, call3, call4, wipeE, isNil, partOf, List.map_cons, List.map_nil, eI_seq, skD, ix_rngL (fun c => lI (stkL m ss c)) hor]
              simp only [eSs_nil, eS_set, eS_par, eS_parT, eS_ex, eS_ifs, eS_ret, eS_pass, eS_never, eE_v, eE_c, eE_g, eE_tup, eE_lst, eE_bin, eE_neg, eE_cmp, eE_chain, eE_and, eE_or, eE_not, eE_ife, eE_idx, eE_sli, eE_rev, eE_call, eE_callK, eE_bi, eE_met, eEs_nil, eEs_cons, eT_and, eT_or, eT_not, eT_tt, eT_cmp, eT_chain, eT_e, eG_nm, eG_sub, eG_tp, eGs_nil, eGs_cons, setAll, List.set_cons_zero, List.set_cons_succ, obind, omap, List.getElem?_cons_zero, List.getElem?_cons_succ, if_true, Bool.false_eq_true, if_false, biM, tr_bool, tr_int, tr_list, tr_tuple, isi_str, isi_tup, isi_int, isi_bool_int, len_tup, len_list, add_int, sub_int, ix0, ix1, ix2, le_int, lt_int, gt_int, ge_int, eq_int, ne_int, eq_bool, ne_bool, eq_str, ne_str, decide_true, decide_false, Bool.not_true, Bool.not_false, Bool.and_self, Bool.true_and, Bool.and_true, Bool.false_and, call1, call2, call3, call4, wipeE, isNil, partOf, List.map_cons, List.map_nil, lI, itemsOf, srcOf, List.map_map]
              rfl) rfl (by have := hk o; omega) (fun x _ => by
              simp only [eSs_nil, eS_set, eS_par, eS_parT, eS_ex, eS_ifs, eS_ret, eS_pass, eS_never, eE_v, eE_c, eE_g, eE_tup, eE_lst, eE_bin, eE_neg, eE_cmp, eE_chain, eE_and, eE_or, eE_not, eE_ife, eE_idx, eE_sli, eE_rev, eE_call, eE_callK, eE_bi, eE_met, eEs_nil, eEs_cons, eT_and, eT_or, eT_not, eT_tt, eT_cmp, eT_chain, eT_e, eG_nm, eG_sub, eG_tp, eGs_nil, eGs_cons, setAll, List.set_cons_zero, List.set_cons_succ, obind, omap, List.getElem?_cons_zero, List.getElem?_cons_succ, if_true, Bool.false_eq_true, if_false, biM, tr_bool, tr_int, tr_list, tr_tuple, isi_str, isi_tup, isi_int, isi_bool_int, len_tup, len_list, add_int, sub_int, ix0, ix1, ix2, le_int, lt_int, gt_int, ge_int, eq_int, ne_int, eq_bool, ne_bool, eq_str, ne_str, decide_true, decide_false, Bool.not_true, Bool.not_false, Bool.and_self, Bool.true_and, Bool.and_true, Bool.false_and, call1, call2, call3, call4, wipeE, isNil, partOf, List.map_cons, List.map_nil, lcT, in_tI])]
            simp only [eSs_nil, eS_set, eS_par, eS_parT, eS_ex, eS_ifs, eS_ret, eS_pass, eS_never, eE_v, eE_c, eE_g, eE_tup, eE_lst, eE_bin, eE_neg, eE_cmp, eE_chain, eE_and, eE_or, eE_not, eE_ife, eE_idx, eE_sli, eE_rev, eE_call, eE_callK, eE_bi, eE_met, eEs_nil, eEs_cons, eT_and, eT_or, eT_not, eT_tt, eT_cmp, eT_chain, eT_e, eG_nm, eG_sub, eG_tp, eGs_nil, eGs_cons, setAll, List.set_cons_zero, List.set_cons_succ, obind, omap, List.getElem?_cons_zero, List.getElem?_cons_succ, if_true, Bool.false_eq_true, if_false, biM, tr_bool, tr_int, tr_list, tr_tuple, isi_str, isi_tup, isi_int, isi_bool_int, len_tup, len_list, add_int, sub_int, ix0, ix1, ix2, le_int, lt_int, gt_int, ge_int, eq_int, ne_int, eq_bool, ne_bool, eq_str, ne_str, decide_true, decide_false, Bool.not_true, Bool.not_false, Bool.and_self, Bool.true_and, Bool.and_true, Bool.false_and, call1, call2, call3, call4, wipeE, isNil, partOf, List.map_cons, List.map_nil, any_map])]
          simp only [eSs_nil, eS_set, eS_par, eS_parT, eS_ex, eS_ifs, eS_ret, eS_pass, eS_never, eE_v, eE_c, eE_g, eE_tup, eE_lst, eE_bin, eE_neg, eE_cmp, eE_chain, eE_and, eE_or, eE_not, eE_ife, eE_idx, eE_sli, eE_rev, eE_call, eE_callK, eE_bi, eE_met, eEs_nil, eEs_cons, eT_and, eT_or, eT_not, eT_tt, eT_cmp, eT_chain, eT_e, eG_nm, eG_sub, eG_tp, eGs_nil, eGs_cons, setAll, List.set_cons_zero, List.set_cons_succ, obind, omap, List.getElem?_cons_zero, List.getElem?_cons_succ, if_true, Bool.false_eq_true, if_false, biM, tr_bool, tr_int, tr_list, tr_tuple, isi_str, isi_tup, isi_int, isi_bool_int, len_tup, len_list, add_int, sub_int, ix0, ix1, ix2, le_int, lt_int, gt_int, ge_int, eq_int, ne_int, eq_bool, ne_bool, eq_str, ne_str, decide_true, decide_false, Bool.not_true, Bool.not_false, Bool.and_self, Bool.true_and, Bool.and_true, Bool.false_and, call1, call2, call3, call4, wipeE, isNil, partOf, List.map_cons, List.map_nil, all_map])]
        simp only [eSs_nil, eS_set, eS_par, eS_parT, eS_ex, eS_ifs, eS_ret, eS_pass, eS_never, eE_v, eE_c, eE_g, eE_tup, eE_lst, eE_bin, eE_neg, eE_cmp, eE_chain, eE_and, eE_or, eE_not, eE_ife, eE_idx, eE_sli, eE_rev, eE_call, eE_callK, eE_bi, eE_met, eEs_nil, eEs_cons, eT_and, eT_or, eT_not, eT_tt, eT_cmp, eT_chain, eT_e, eG_nm, eG_sub, eG_tp, eGs_nil, eGs_cons, setAll, List.set_cons_zero, List.set_cons_succ, obind, omap, List.getElem?_cons_zero, List.getElem?_cons_succ, if_true, Bool.false_eq_true, if_false, biM, tr_bool, tr_int, tr_list, tr_tuple, isi_str, isi_tup, isi_int, isi_bool_int, len_tup, len_list, add_int, sub_int, ix0, ix1, ix2, le_int, lt_int, gt_int, ge_int, eq_int, ne_int, eq_bool, ne_bool, eq_str, ne_str, decide_true, decide_false, Bool.not_true, Bool.not_false, Bool.and_self, Bool.true_and, Bool.and_true, Bool.false_and, call1, call2, call3, call4, wipeE, isNil, partOf, List.map_cons, List.map_nil, all_map, eSs_cons])]
      exact end0
    | false =>
      rw [ss_next (ρ' := [some (.d (dD m ss)), some (.d (.str a.nm)), some (.d (tI lot)), some (.d (skD m ss)), none, none, none]) (S' := []) (by
        simp only [eSs_nil, eS_set, eS_par, eS_parT, eS_ex, eS_ifs, eS_ret, eS_pass, eS_never, eE_v, eE_c, eE_g, eE_tup, eE_lst, eE_bin, eE_neg, eE_cmp, eE_chain, eE_and, eE_or, eE_not, eE_ife, eE_idx, eE_sli, eE_rev, eE_call, eE_callK, eE_bi, eE_met, eEs_nil, eEs_cons, eT_and, eT_or, eT_not, eT_tt, eT_cmp, eT_chain, eT_e, eG_nm, eG_sub, eG_tp, eGs_nil, eGs_cons, setAll, List.set_cons_zero, List.set_cons_succ, obind, omap, List.getElem?_cons_zero, List.getElem?_cons_succ, if_true, Bool.false_eq_true, if_false, biM, tr_bool, tr_int, tr_list, tr_tuple, isi_str, isi_tup, isi_int, isi_bool_int, len_tup, len_list, add_int, sub_int, ix0, ix1, ix2, le_int, lt_int, gt_int, ge_int, eq_int, ne_int, eq_bool, ne_bool, eq_str, ne_str, decide_true, decide_false, Bool.not_true, Bool.not_false, Bool.and_self, Bool.true_and, Bool.and_true, Bool.false_and, call1, call2, call3, call4, wipeE, isNil, partOf, List.map_cons, List.map_nil, a.is_u, hu])]
      cases hs : a.st with
      | true =>
        rw [ss_ret (v := .d (.bool ((rng m).all fun c => decide (c ∈ lot) || (stkL m ss c).any fun x => decide (x ∈ lot)))) (S' := []) (by
          simp only [eSs_nil, eS_set, eS_par, eS_parT, eS_ex, eS_ifs, eS_ret, eS_pass, eS_never, eE_v, eE_c, eE_g, eE_tup, eE_lst, eE_bin, eE_neg, eE_cmp, eE_chain, eE_and, eE_or, eE_not, eE_ife, eE_idx, eE_sli, eE_rev, eE_call, eE_callK, eE_bi, eE_met, eEs_nil, eEs_cons, eT_and, eT_or, eT_not, eT_tt, eT_cmp, eT_chain, eT_e, eG_nm, eG_sub, eG_tp, eGs_nil, eGs_cons, setAll, List.set_cons_zero, List.set_cons_succ, obind, omap, List.getElem?_cons_zero, List.getElem?_cons_succ, if_true, Bool.false_eq_true, if_false, biM, tr_bool, tr_int, tr_list, tr_tuple, isi_str, isi_tup, isi_int, isi_bool_int, len_tup, len_list, add_int, sub_int, ix0, ix1, ix2, le_int, lt_int, gt_int, ge_int, eq_int, ne_int, eq_bool, ne_bool, eq_str, ne_str, decide_true, decide_false, Bool.not_true, Bool.not_false, Bool.and_self, Bool.true_and, Bool.and_true, Bool.false_and, call1, call2, call3, call4, wipeE, isNil, partOf, List.map_cons, List.map_nil, a.is_s, hs, eSs_cons]
          rw [lc_map (rng m) (fun c => .d (.int c)) (fun c => .bool (decide (c ∈ lot) || (stkL m ss c).any fun x => decide (x ∈ lot))) [] (by
            simp only [eSs_nil, eS_set, eS_par, eS_parT, eS_ex, eS_ifs, eS_ret, eS_pass, eS_never, eE_v, eE_c, eE_g, eE_tup, eE_lst, eE_bin, eE_neg, eE_cmp, eE_chain, eE_and, eE_or, eE_not, eE_ife, eE_idx, eE_sli, eE_rev, eE_call, eE_callK, eE_bi, eE_met, eEs_nil, eEs_cons, eT_and, eT_or, eT_not, eT_tt, eT_cmp, eT_chain, eT_e, eG_nm, eG_sub, eG_tp, eGs_nil, eGs_cons, setAll, List.set_cons_zero, List.set_cons_succ, obind, omap, List.getElem?_cons_zero, List.getElem?_cons_succ, if_true, Bool.false_eq_true, if_false, biM, tr_bool, tr_int, tr_list, tr_tuple, isi_str, isi_tup, isi_int, isi_bool_int, len_tup, len_list, add_int, sub_int, ix0, ix1, ix2, le_int, lt_int, gt_int, ge_int, eq_int, ne_int, eq_bool, ne_bool, eq_str, ne_str, decide_true, decide_false, Bool.not_true, Bool.not_false, Bool.and_self, Bool.true_and, Bool.and_true, Bool.false_and, call1, call2, call3, call4, wipeE, isNil, partOf, List.map_cons, List.map_nil, eI_rng, dD, rangeOf, rngI_ok g.lo g.hi]) rfl (by omega) (fun c hc => by
            simp only [eSs_nil, eS_set, eS_par, eS_parT, eS_ex, eS_ifs, eS_ret, eS_pass, eS_never, eE_v, eE_c, eE_g, eE_tup, eE_lst, eE_bin, eE_neg, eE_cmp, eE_chain, eE_and, eE_or, eE_not, eE_ife, eE_idx, eE_sli, eE_rev, eE_call, eE_callK, eE_bi, eE_met, eEs_nil, eEs_cons, eT_and, eT_or, eT_not, eT_tt, eT_cmp, eT_chain, eT_e, eG_nm, eG_sub, eG_tp, eGs_nil, eGs_cons, setAll, List.set_cons_zero, List.set_cons_succ, obind, omap, List.getElem?_cons_zero, List.getElem?_cons_succ, if_true, Bool.false_eq_true, if_false, biM, tr_bool, tr_int, tr_list, tr_tuple, isi_str, isi_tup, isi_int, isi_bool_int, len_tup, len_list, add_int, sub_int, ix0, ix1, ix2, le_int, lt_int, gt_int, ge_int, eq_int, ne_int, eq_bool, ne_bool, eq_str, ne_str, decide_true, decide_false, Bool.not_true, Bool.not_false, Bool.and_self, Bool.true_and, Bool.and_true, Bool.false_and, call1, call2, call3, call4, wipeE, isNil, partOf, List.map_cons, List.map_nil, lcT, in_tI]
            cases decide (c ∈ lot) with
            | true => rfl
            | false =>
              simp only [eSs_nil, eS_set, eS_par, eS_parT, eS_ex, eS_ifs, eS_ret, eS_pass, eS_never, eE_v, eE_c, eE_g, eE_tup, eE_lst, eE_bin, eE_neg, eE_cmp, eE_chain, eE_and, eE_or, eE_not, eE_ife, eE_idx, eE_sli, eE_rev, eE_call, eE_callK, eE_bi, eE_met, eEs_nil, eEs_cons, eT_and, eT_or, eT_not, eT_tt, eT_cmp, eT_chain, eT_e, eG_nm, eG_sub, eG_tp, eGs_nil, eGs_cons, setAll, List.set_cons_zero, List.set_cons_succ, obind, omap, List.getElem?_cons_zero, List.getElem?_cons_succ, if_true, Bool.false_eq_true, if_false, biM, tr_bool, tr_int, tr_list, tr_tuple, isi_str, isi_tup, isi_int, isi_bool_int, len_tup, len_list, add_int, sub_int, ix0, ix1, ix2, le_int, lt_int, gt_int, ge_int, eq_int, ne_int, eq_bool, ne_bool, eq_str, ne_str, decide_true, decide_false, Bool.not_true, Bool.not_false, Bool.and_self, Bool.true_and, Bool.and_true, Bool.false_and, call1, call2, call3, call4, wipeE, isNil, partOf, List.map_cons, List.map_nil]
              rw [lc_map (stkL m ss c) (fun x => .d (.int x)) (fun x => .bool (decide (x ∈ lot))) [] (by
                simp only [eSs_nil, eS_set, eS_par, eS_parT, eS_ex, eS_ifs, eS_ret, eS_pass, eS_never, eE_v, eE_c, eE_g, eE_tup, eE_lst, eE_bin, eE_neg, eE_cmp, eE_chain, eE_and, eE_or, eE_not, eE_ife, eE_idx, eE_sli, eE_rev, eE_call, eE_callK, eE_bi, eE_met, eEs_nil, eEs_cons, eT_and, eT_or, eT_not, eT_tt, eT_cmp, eT_chain, eT_e, eG_nm, eG_sub, eG_tp, eGs_nil, eGs_cons, setAll, List.set_cons_zero, List.set_cons_succ, obind, omap, List.getElem?_cons_zero, List.getElem?_cons_succ, if_true, Bool.false_eq_true, if_false, biM, tr_bool, tr_int, tr_list, tr_tuple, isi_str, isi_tup, isi_int, isi_bool_int, len_tup, len_list, add_int, sub_int, ix0, ix1, ix2, le_int, lt_int, gt_int, ge_int, eq_int, ne_int, eq_bool, ne_bool, eq_str, ne_str, decide_true, decide_false, Bool.not_true, Bool.not_false, Bool.and_self, Bool.true_and, Bool.and_true, Bool.false_and, call1, call2, call3, call4, wipeE, isNil, partOf, List.map_cons, List.map_nil, eI_seq, skD, ix_rngL (fun c => lI (stkL m ss c)) hc]
                simp only [eSs_nil, eS_set, eS_par, eS_parT, eS_ex, eS_ifs, eS_ret, eS_pass, eS_never, eE_v, eE_c, eE_g, eE_tup, eE_lst, eE_bin, eE_neg, eE_cmp, eE_chain, eE_and, eE_or, eE_not, eE_ife, eE_idx, eE_sli, eE_rev, eE_call, eE_callK, eE_bi, eE_met, eEs_nil, eEs_cons, eT_and, eT_or, eT_not, eT_tt, eT_cmp, eT_chain, eT_e, eG_nm, eG_sub, eG_tp, eGs_nil, eGs_cons, setAll, List.set_cons_zero, List.set_cons_succ, obind, omap, List.getElem?_cons_zero, List.getElem?_cons_succ, if_true, Bool.false_eq_true, if_false, biM, tr_bool, tr_int, tr_list, tr_tuple, isi_str, isi_tup, isi_int, isi_bool_int, len_tup, len_list, add_int, sub_int, ix0, ix1, ix2, le_int, lt_int, gt_int, ge_int, eq_int, ne_int, eq_bool, ne_bool, eq_str, ne_str, decide_true, decide_false, Bool.not_true, Bool.not_false, Bool.and_self, Bool.true_and, Bool.and_true, Bool.false_and, call1, call2, call3, call4, wipeE, isNil, partOf, List.map_cons, List.map_nil, lI, itemsOf, srcOf, List.map_map]
                rfl) rfl (by have := hk c; omega) (fun x _ => by
                simp only [eSs_nil, eS_set, eS_par, eS_parT, eS_ex, eS_ifs, eS_ret, eS_pass, eS_never, eE_v, eE_c, eE_g, eE_tup, eE_lst, eE_bin, eE_neg, eE_cmp, eE_chain, eE_and, eE_or, eE_not, eE_ife, eE_idx, eE_sli, eE_rev, eE_call, eE_callK, eE_bi, eE_met, eEs_nil, eEs_cons, eT_and, eT_or, eT_not, eT_tt, eT_cmp, eT_chain, eT_e, eG_nm, eG_sub, eG_tp, eGs_nil, eGs_cons, setAll, List.set_cons_zero, List.set_cons_succ, obind, omap, List.getElem?_cons_zero, List.getElem?_cons_succ, if_true, Bool.false_eq_true, if_false, biM, tr_bool, tr_int, tr_list, tr_tuple, isi_str, isi_tup, isi_int, isi_bool_int, len_tup, len_list, add_int, sub_int, ix0, ix1, ix2, le_int, lt_int, gt_int, ge_int, eq_int, ne_int, eq_bool, ne_bool, eq_str, ne_str, decide_true, decide_false, Bool.not_true, Bool.not_false, Bool.and_self, Bool.true_and, Bool.and_true, Bool.false_and, call1, call2, call3, call4, wipeE, isNil, partOf, List.map_cons, List.map_nil, lcT, in_tI])]
              simp only [eSs_nil, eS_set, eS_par, eS_parT, eS_ex, eS_ifs, eS_ret, eS_pass, eS_never, eE_v, eE_c, eE_g, eE_tup, eE_lst, eE_bin, eE_neg, eE_cmp, eE_chain, eE_and, eE_or, eE_not, eE_ife, eE_idx, eE_sli, eE_rev, eE_call, eE_callK, eE_bi, eE_met, eEs_nil, eEs_cons, eT_and, eT_or, eT_not, eT_tt, eT_cmp, eT_chain, eT_e, eG_nm, eG_sub, eG_tp, eGs_nil, eGs_cons, setAll, List.set_cons_zero, List.set_cons_succ, obind, omap, List.getElem?_cons_zero, List.getElem?_cons_succ, if_true, Bool.false_eq_true, if_false, biM, tr_bool, tr_int, tr_list, tr_tuple, isi_str, isi_tup, isi_int, isi_bool_int, len_tup, len_list, add_int, sub_int, ix0, ix1, ix2, le_int, lt_int, gt_int, ge_int, eq_int, ne_int, eq_bool, ne_bool, eq_str, ne_str, decide_true, decide_false, Bool.not_true, Bool.not_false, Bool.and_self, Bool.true_and, Bool.and_true, Bool.false_and, call1, call2, call3, call4, wipeE, isNil, partOf, List.map_cons, List.map_nil, any_map, Bool.false_or])]
          simp only [eSs_nil, eS_set, eS_par, eS_parT, eS_ex, eS_ifs, eS_ret, eS_pass, eS_never, eE_v, eE_c, eE_g, eE_tup, eE_lst, eE_bin, eE_neg, eE_cmp, eE_chain, eE_and, eE_or, eE_not, eE_ife, eE_idx, eE_sli, eE_rev, eE_call, eE_callK, eE_bi, eE_met, eEs_nil, eEs_cons, eT_and, eT_or, eT_not, eT_tt, eT_cmp, eT_chain, eT_e, eG_nm, eG_sub, eG_tp, eGs_nil, eGs_cons, setAll, List.set_cons_zero, List.set_cons_succ, obind, omap, List.getElem?_cons_zero, List.getElem?_cons_succ, if_true, Bool.false_eq_true, if_false, biM, tr_bool, tr_int, tr_list, tr_tuple, isi_str, isi_tup, isi_int, isi_bool_int, len_tup, len_list, add_int, sub_int, ix0, ix1, ix2, le_int, lt_int, gt_int, ge_int, eq_int, ne_int, eq_bool, ne_bool, eq_str, ne_str, decide_true, decide_false, Bool.not_true, Bool.not_false, Bool.and_self, Bool.true_and, Bool.and_true, Bool.false_and, call1, call2, call3, call4, wipeE, isNil, partOf, List.map_cons, List.map_nil, all_map, eSs_cons])]
        exact end0
      | false =>
        rw [ss_next (ρ' := [some (.d (dD m ss)), some (.d (.str a.nm)), some (.d (tI lot)), some (.d (skD m ss)), none, none, none]) (S' := []) (by
          simp only [eSs_nil, eS_set, eS_par, eS_parT, eS_ex, eS_ifs, eS_ret, eS_pass, eS_never, eE_v, eE_c, eE_g, eE_tup, eE_lst, eE_bin, eE_neg, eE_cmp, eE_chain, eE_and, eE_or, eE_not, eE_ife, eE_idx, eE_sli, eE_rev, eE_call, eE_callK, eE_bi, eE_met, eEs_nil, eEs_cons, eT_and, eT_or, eT_not, eT_tt, eT_cmp, eT_chain, eT_e, eG_nm, eG_sub, eG_tp, eGs_nil, eGs_cons, setAll, List.set_cons_zero, List.set_cons_succ, obind, omap, List.getElem?_cons_zero, List.getElem?_cons_succ, if_true, Bool.false_eq_true, if_false, biM, tr_bool, tr_int, tr_list, tr_tuple, isi_str, isi_tup, isi_int, isi_bool_int, len_tup, len_list, add_int, sub_int, ix0, ix1, ix2, le_int, lt_int, gt_int, ge_int, eq_int, ne_int, eq_bool, ne_bool, eq_str, ne_str, decide_true, decide_false, Bool.not_true, Bool.not_false, Bool.and_self, Bool.true_and, Bool.and_true, Bool.false_and, call1, call2, call3, call4, wipeE, isNil, partOf, List.map_cons, List.map_nil, a.is_s, hs])]
        rw [ss_ret (v := .d (.bool true)) (S' := []) (by
          simp only [eSs_nil, eS_set, eS_par, eS_parT, eS_ex, eS_ifs, eS_ret, eS_pass, eS_never, eE_v, eE_c, eE_g, eE_tup, eE_lst, eE_bin, eE_neg, eE_cmp, eE_chain, eE_and, eE_or, eE_not, eE_ife, eE_idx, eE_sli, eE_rev, eE_call, eE_callK, eE_bi, eE_met, eEs_nil, eEs_cons, eT_and, eT_or, eT_not, eT_tt, eT_cmp, eT_chain, eT_e, eG_nm, eG_sub, eG_tp, eGs_nil, eGs_cons, setAll, List.set_cons_zero, List.set_cons_succ, obind, omap, List.getElem?_cons_zero, List.getElem?_cons_succ, if_true, Bool.false_eq_true, if_false, biM, tr_bool, tr_int, tr_list, tr_tuple, isi_str, isi_tup, isi_int, isi_bool_int, len_tup, len_list, add_int, sub_int, ix0, ix1, ix2, le_int, lt_int, gt_int, ge_int, eq_int, ne_int, eq_bool, ne_bool, eq_str, ne_str, decide_true, decide_false, Bool.not_true, Bool.not_false, Bool.and_self, Bool.true_and, Bool.and_true, Bool.false_and, call1, call2, call3, call4, wipeE, isNil, partOf, List.map_cons, List.map_nil])]
        exact end0
theorem s_law_sum (n : Nat) {m : Int} {ss : List (Int × Int)} (g : Good m ss) (ps : List Int) (W : List (Int × Int)) : run tab (n + 1) 27 [] [dD m ss, tI ps, .list (W.map pr)] = some (.int (psum ss ps W), []) := by
  have line := lineI
  have hms := g.many
  have hz : (ss.zip ps).length ≤ 100 := by rw [List.length_zip]; omega
  rw [r__law_sum]
  simp only [f__law_sum]
  rw [ss_ret (v := .d (.int (psum ss ps W))) (S' := []) (by
    simp only [eSs_nil, eS_set, eS_par, eS_parT, eS_ex, eS_ifs, eS_ret, eS_pass, eS_never, eE_v, eE_c, eE_g, eE_tup, eE_lst, eE_bin, eE_neg, eE_cmp, eE_chain, eE_and, eE_or, eE_not, eE_ife, eE_idx, eE_sli, eE_rev, eE_call, eE_callK, eE_bi, eE_met, eEs_nil, eEs_cons, eT_and, eT_or, eT_not, eT_tt, eT_cmp, eT_chain, eT_e, eG_nm, eG_sub, eG_tp, eGs_nil, eGs_cons, setAll, List.set_cons_zero, List.set_cons_succ, obind, omap, List.getElem?_cons_zero, List.getElem?_cons_succ, if_true, Bool.false_eq_true, if_false, biM, tr_bool, tr_int, tr_list, tr_tuple, isi_str, isi_tup, isi_int, isi_bool_int, len_tup, len_list, add_int, sub_int, ix0, ix1, ix2, le_int, lt_int, gt_int, ge_int, eq_int, ne_int, eq_bool, ne_bool, eq_str, ne_str, decide_true, decide_false, Bool.not_true, Bool.not_false, Bool.and_self, Bool.true_and, Bool.and_true, Bool.false_and, call1, call2, call3, call4, wipeE, isNil, partOf, List.map_cons, List.map_nil]
    rw [lc_filter (ss.zip ps) (fun q => .d (.tuple [pr q.1, .int q.2])) (fun q => decide (q.1 ∈ W)) (fun q => .int q.2) [] (zip_items ss ps (by simp only [eSs_nil, eS_set, eS_par, eS_parT, eS_ex, eS_ifs, eS_ret, eS_pass, eS_never, eE_v, eE_c, eE_g, eE_tup, eE_lst, eE_bin, eE_neg, eE_cmp, eE_chain, eE_and, eE_or, eE_not, eE_ife, eE_idx, eE_sli, eE_rev, eE_call, eE_callK, eE_bi, eE_met, eEs_nil, eEs_cons, eT_and, eT_or, eT_not, eT_tt, eT_cmp, eT_chain, eT_e, eG_nm, eG_sub, eG_tp, eGs_nil, eGs_cons, setAll, List.set_cons_zero, List.set_cons_succ, obind, omap, List.getElem?_cons_zero, List.getElem?_cons_succ, if_true, Bool.false_eq_true, if_false, biM, tr_bool, tr_int, tr_list, tr_tuple, isi_str, isi_tup, isi_int, isi_bool_int, len_tup, len_list, add_int, sub_int, ix0, ix1, ix2, le_int, lt_int, gt_int, ge_int, eq_int, ne_int, eq_bool, ne_bool, eq_str, ne_str, decide_true, decide_false, Bool.not_true, Bool.not_false, Bool.and_self, Bool.true_and, Bool.and_true, Bool.false_and, call1, call2, call3, call4, wipeE, isNil, partOf, List.map_cons, List.map_nil, dD]) (by simp only [eSs_nil, eS_set, eS_par, eS_parT, eS_ex, eS_ifs, eS_ret, eS_pass, eS_never, eE_v, eE_c, eE_g, eE_tup, eE_lst, eE_bin, eE_neg, eE_cmp, eE_chain, eE_and, eE_or, eE_not, eE_ife, eE_idx, eE_sli, eE_rev, eE_call, eE_callK, eE_bi, eE_met, eEs_nil, eEs_cons, eT_and, eT_or, eT_not, eT_tt, eT_cmp, eT_chain, eT_e, eG_nm, eG_sub, eG_tp, eGs_nil, eGs_cons, setAll, List.set_cons_zero, List.set_cons_succ, obind, omap, List.getElem?_cons_zero, List.getElem?_cons_succ, if_true, Bool.false_eq_true, if_false, biM, tr_bool, tr_int, tr_list, tr_tuple, isi_str, isi_tup, isi_int, isi_bool_int, len_tup, len_list, add_int, sub_int, ix0, ix1, ix2, le_int, lt_int, gt_int, ge_int, eq_int, ne_int, eq_bool, ne_bool, eq_str, ne_str, decide_true, decide_false, Bool.not_true, Bool.not_false, Bool.and_self, Bool.true_and, Bool.and_true, Bool.false_and, call1, call2, call3, call4, wipeE, isNil, partOf, List.map_cons, List.map_nil])) rfl (by
      have := List.length_filter_le (fun q : (Int × Int) × Int => decide (q.1 ∈ W)) (ss.zip ps)
      omega) (fun q _ => by
      simp only [eSs_nil, eS_set, eS_par, eS_parT, eS_ex, eS_ifs, eS_ret, eS_pass, eS_never, eE_v, eE_c, eE_g, eE_tup, eE_lst, eE_bin, eE_neg, eE_cmp, eE_chain, eE_and, eE_or, eE_not, eE_ife, eE_idx, eE_sli, eE_rev, eE_call, eE_callK, eE_bi, eE_met, eEs_nil, eEs_cons, eT_and, eT_or, eT_not, eT_tt, eT_cmp, eT_chain, eT_e, eG_nm, eG_sub, eG_tp, eGs_nil, eGs_cons, setAll, List.set_cons_zero, List.set_cons_succ, obind, omap, List.getElem?_cons_zero, List.getElem?_cons_succ, if_true, Bool.false_eq_true, if_false, biM, tr_bool, tr_int, tr_list, tr_tuple, isi_str, isi_tup, isi_int, isi_bool_int, len_tup, len_list, add_int, sub_int, ix0, ix1, ix2, le_int, lt_int, gt_int, ge_int, eq_int, ne_int, eq_bool, ne_bool, eq_str, ne_str, decide_true, decide_false, Bool.not_true, Bool.not_false, Bool.and_self, Bool.true_and, Bool.and_true, Bool.false_and, call1, call2, call3, call4, wipeE, isNil, partOf, List.map_cons, List.map_nil, lcT, (in_prL [] q.1 W).1]
      cases decide (q.1 ∈ W) <;> rfl)]
    simp only [eSs_nil, eS_set, eS_par, eS_parT, eS_ex, eS_ifs, eS_ret, eS_pass, eS_never, eE_v, eE_c, eE_g, eE_tup, eE_lst, eE_bin, eE_neg, eE_cmp, eE_chain, eE_and, eE_or, eE_not, eE_ife, eE_idx, eE_sli, eE_rev, eE_call, eE_callK, eE_bi, eE_met, eEs_nil, eEs_cons, eT_and, eT_or, eT_not, eT_tt, eT_cmp, eT_chain, eT_e, eG_nm, eG_sub, eG_tp, eGs_nil, eGs_cons, setAll, List.set_cons_zero, List.set_cons_succ, obind, omap, List.getElem?_cons_zero, List.getElem?_cons_succ, if_true, Bool.false_eq_true, if_false, biM, tr_bool, tr_int, tr_list, tr_tuple, isi_str, isi_tup, isi_int, isi_bool_int, len_tup, len_list, add_int, sub_int, ix0, ix1, ix2, le_int, lt_int, gt_int, ge_int, eq_int, ne_int, eq_bool, ne_bool, eq_str, ne_str, decide_true, decide_false, Bool.not_true, Bool.not_false, Bool.and_self, Bool.true_and, Bool.and_true, Bool.false_and, call1, call2, call3, call4, wipeE, isNil, partOf, List.map_cons, List.map_nil]
    have := sum_ints (S := []) (((ss.zip ps).filter fun q => decide (q.1 ∈ W)).map (·.2))
    rw [List.map_map] at this
    rw [show (List.map (fun q : (Int × Int) × Int => PyData.int q.2) ((ss.zip ps).filter fun q => decide (q.1 ∈ W))) = List.map (PyData.int ∘ fun x : (Int × Int) × Int => x.2) ((ss.zip ps).filter fun q => decide (q.1 ∈ W)) from rfl, this]
    rfl)]
  exact end0
/-- all lots, as the law tells them -/
theorem s_law_lots (n : Nat) {m : Int} (h1 : 1 ≤ m) (h2 : m ≤ 10) : run tab (n + 1) 29 [] [.int m] = some (.list ((subs (rng m)).map tI), []) := by
  have line := lineI
  have hr : (rng m).length ≤ 10 := by rw [rng_len]; omega
  rw [r__law_lots]
  simp only [f__law_lots]
  rw [ss_next (ρ' := (stAl m ([[]], none)).1) (S' := (stAl m ([[]], none)).2) (by
    simp only [eSs_nil, eS_set, eS_par, eS_parT, eS_ex, eS_ifs, eS_ret, eS_pass, eS_never, eE_v, eE_c, eE_g, eE_tup, eE_lst, eE_bin, eE_neg, eE_cmp, eE_chain, eE_and, eE_or, eE_not, eE_ife, eE_idx, eE_sli, eE_rev, eE_call, eE_callK, eE_bi, eE_met, eEs_nil, eEs_cons, eT_and, eT_or, eT_not, eT_tt, eT_cmp, eT_chain, eT_e, eG_nm, eG_sub, eG_tp, eGs_nil, eGs_cons, setAll, List.set_cons_zero, List.set_cons_succ, obind, omap, List.getElem?_cons_zero, List.getElem?_cons_succ, if_true, Bool.false_eq_true, if_false, biM, tr_bool, tr_int, tr_list, tr_tuple, isi_str, isi_tup, isi_int, isi_bool_int, len_tup, len_list, add_int, sub_int, ix0, ix1, ix2, le_int, lt_int, gt_int, ge_int, eq_int, ne_int, eq_bool, ne_bool, eq_str, ne_str, decide_true, decide_false, Bool.not_true, Bool.not_false, Bool.and_self, Bool.true_and, Bool.and_true, Bool.false_and, call1, call2, call3, call4, wipeE, isNil, partOf, List.map_cons, List.map_nil, stAl, mkL, pures]
    rfl)]
  rw [ss_next (fr_fold [] (fun c : Int => .d (.int c)) (stAl m) stepLbs (rng m) ([[]], none) (by
    simp only [eSs_nil, eS_set, eS_par, eS_parT, eS_ex, eS_ifs, eS_ret, eS_pass, eS_never, eE_v, eE_c, eE_g, eE_tup, eE_lst, eE_bin, eE_neg, eE_cmp, eE_chain, eE_and, eE_or, eE_not, eE_ife, eE_idx, eE_sli, eE_rev, eE_call, eE_callK, eE_bi, eE_met, eEs_nil, eEs_cons, eT_and, eT_or, eT_not, eT_tt, eT_cmp, eT_chain, eT_e, eG_nm, eG_sub, eG_tp, eGs_nil, eGs_cons, setAll, List.set_cons_zero, List.set_cons_succ, obind, omap, List.getElem?_cons_zero, List.getElem?_cons_succ, if_true, Bool.false_eq_true, if_false, biM, tr_bool, tr_int, tr_list, tr_tuple, isi_str, isi_tup, isi_int, isi_bool_int, len_tup, len_list, add_int, sub_int, ix0, ix1, ix2, le_int, lt_int, gt_int, ge_int, eq_int, ne_int, eq_bool, ne_bool, eq_str, ne_str, decide_true, decide_false, Bool.not_true, Bool.not_false, Bool.and_self, Bool.true_and, Bool.and_true, Bool.false_and, call1, call2, call3, call4, wipeE, isNil, partOf, List.map_cons, List.map_nil, eI_rng, stAl, rangeOf, rngI_ok h1 h2]) (fun _ _ => rfl) (fun pre c post e => by
    have hp : pre.length < 10 := by
      have := congrArg List.length e
      rw [List.length_append, List.length_cons] at this
      omega
    generalize hb : pre.foldl stepLbs ([[]], none) = b
    have hlen : b.1.length ≤ 2048 := by
      rw [← hb, foldLbs, fold_length]
      have := Nat.pow_le_pow_right (n := 2) (by decide) (show pre.length ≤ 11 by omega)
      simp only [List.length_cons, List.length_nil]
      omega
    have short : ∀ s ∈ b.1, s.length ≤ 12 := fun s hs => by
      rw [← hb, foldLbs] at hs
      have := (subs_mem (l := pre) hs).length_le
      omega
    simp only [eSs_nil, eS_set, eS_par, eS_parT, eS_ex, eS_ifs, eS_ret, eS_pass, eS_never, eE_v, eE_c, eE_g, eE_tup, eE_lst, eE_bin, eE_neg, eE_cmp, eE_chain, eE_and, eE_or, eE_not, eE_ife, eE_idx, eE_sli, eE_rev, eE_call, eE_callK, eE_bi, eE_met, eEs_nil, eEs_cons, eT_and, eT_or, eT_not, eT_tt, eT_cmp, eT_chain, eT_e, eG_nm, eG_sub, eG_tp, eGs_nil, eGs_cons, setAll, List.set_cons_zero, List.set_cons_succ, obind, omap, List.getElem?_cons_zero, List.getElem?_cons_succ, if_true, Bool.false_eq_true, if_false, biM, tr_bool, tr_int, tr_list, tr_tuple, isi_str, isi_tup, isi_int, isi_bool_int, len_tup, len_list, add_int, sub_int, ix0, ix1, ix2, le_int, lt_int, gt_int, ge_int, eq_int, ne_int, eq_bool, ne_bool, eq_str, ne_str, decide_true, decide_false, Bool.not_true, Bool.not_false, Bool.and_self, Bool.true_and, Bool.and_true, Bool.false_and, call1, call2, call3, call4, wipeE, isNil, partOf, List.map_cons, List.map_nil, stAl, stepLbs, eSs_cons]
    rw [lc_map b.1 (fun s => .d (tI s)) (fun s => tI (s ++ [c])) [] (by
      simp only [eSs_nil, eS_set, eS_par, eS_parT, eS_ex, eS_ifs, eS_ret, eS_pass, eS_never, eE_v, eE_c, eE_g, eE_tup, eE_lst, eE_bin, eE_neg, eE_cmp, eE_chain, eE_and, eE_or, eE_not, eE_ife, eE_idx, eE_sli, eE_rev, eE_call, eE_callK, eE_bi, eE_met, eEs_nil, eEs_cons, eT_and, eT_or, eT_not, eT_tt, eT_cmp, eT_chain, eT_e, eG_nm, eG_sub, eG_tp, eGs_nil, eGs_cons, setAll, List.set_cons_zero, List.set_cons_succ, obind, omap, List.getElem?_cons_zero, List.getElem?_cons_succ, if_true, Bool.false_eq_true, if_false, biM, tr_bool, tr_int, tr_list, tr_tuple, isi_str, isi_tup, isi_int, isi_bool_int, len_tup, len_list, add_int, sub_int, ix0, ix1, ix2, le_int, lt_int, gt_int, ge_int, eq_int, ne_int, eq_bool, ne_bool, eq_str, ne_str, decide_true, decide_false, Bool.not_true, Bool.not_false, Bool.and_self, Bool.true_and, Bool.and_true, Bool.false_and, call1, call2, call3, call4, wipeE, isNil, partOf, List.map_cons, List.map_nil, eI_seq, itemsOf, srcOf, List.map_map]
      rfl) rfl (by omega) (fun s hs => by
      have := short s hs
      simp only [eSs_nil, eS_set, eS_par, eS_parT, eS_ex, eS_ifs, eS_ret, eS_pass, eS_never, eE_v, eE_c, eE_g, eE_tup, eE_lst, eE_bin, eE_neg, eE_cmp, eE_chain, eE_and, eE_or, eE_not, eE_ife, eE_idx, eE_sli, eE_rev, eE_call, eE_callK, eE_bi, eE_met, eEs_nil, eEs_cons, eT_and, eT_or, eT_not, eT_tt, eT_cmp, eT_chain, eT_e, eG_nm, eG_sub, eG_tp, eGs_nil, eGs_cons, setAll, List.set_cons_zero, List.set_cons_succ, obind, omap, List.getElem?_cons_zero, List.getElem?_cons_succ, if_true, Bool.false_eq_true, if_false, biM, tr_bool, tr_int, tr_list, tr_tuple, isi_str, isi_tup, isi_int, isi_bool_int, len_tup, len_list, add_int, sub_int, ix0, ix1, ix2, le_int, lt_int, gt_int, ge_int, eq_int, ne_int, eq_bool, ne_bool, eq_str, ne_str, decide_true, decide_false, Bool.not_true, Bool.not_false, Bool.and_self, Bool.true_and, Bool.and_true, Bool.false_and, call1, call2, call3, call4, wipeE, isNil, partOf, List.map_cons, List.map_nil, lcT, pures, tI]
      rw [if_pos (by simp only [List.length_cons, List.length_nil]; omega)]
      simp only [eSs_nil, eS_set, eS_par, eS_parT, eS_ex, eS_ifs, eS_ret, eS_pass, eS_never, eE_v, eE_c, eE_g, eE_tup, eE_lst, eE_bin, eE_neg, eE_cmp, eE_chain, eE_and, eE_or, eE_not, eE_ife, eE_idx, eE_sli, eE_rev, eE_call, eE_callK, eE_bi, eE_met, eEs_nil, eEs_cons, eT_and, eT_or, eT_not, eT_tt, eT_cmp, eT_chain, eT_e, eG_nm, eG_sub, eG_tp, eGs_nil, eGs_cons, setAll, List.set_cons_zero, List.set_cons_succ, obind, omap, List.getElem?_cons_zero, List.getElem?_cons_succ, if_true, Bool.false_eq_true, if_false, biM, tr_bool, tr_int, tr_list, tr_tuple, isi_str, isi_tup, isi_int, isi_bool_int, len_tup, len_list, add_int, sub_int, ix0, ix1, ix2, le_int, lt_int, gt_int, ge_int, eq_int, ne_int, eq_bool, ne_bool, eq_str, ne_str, decide_true, decide_false, Bool.not_true, Bool.not_false, Bool.and_self, Bool.true_and, Bool.and_true, Bool.false_and, call1, call2, call3, call4, wipeE, isNil, partOf, List.map_cons, List.map_nil]
      rw [add_tup _ _ (by simp only [List.length_map, List.length_cons, List.length_nil]; omega)]
      simp)]
    simp only [eSs_nil, eS_set, eS_par, eS_parT, eS_ex, eS_ifs, eS_ret, eS_pass, eS_never, eE_v, eE_c, eE_g, eE_tup, eE_lst, eE_bin, eE_neg, eE_cmp, eE_chain, eE_and, eE_or, eE_not, eE_ife, eE_idx, eE_sli, eE_rev, eE_call, eE_callK, eE_bi, eE_met, eEs_nil, eEs_cons, eT_and, eT_or, eT_not, eT_tt, eT_cmp, eT_chain, eT_e, eG_nm, eG_sub, eG_tp, eGs_nil, eGs_cons, setAll, List.set_cons_zero, List.set_cons_succ, obind, omap, List.getElem?_cons_zero, List.getElem?_cons_succ, if_true, Bool.false_eq_true, if_false, biM, tr_bool, tr_int, tr_list, tr_tuple, isi_str, isi_tup, isi_int, isi_bool_int, len_tup, len_list, add_int, sub_int, ix0, ix1, ix2, le_int, lt_int, gt_int, ge_int, eq_int, ne_int, eq_bool, ne_bool, eq_str, ne_str, decide_true, decide_false, Bool.not_true, Bool.not_false, Bool.and_self, Bool.true_and, Bool.and_true, Bool.false_and, call1, call2, call3, call4, wipeE, isNil, partOf, List.map_cons, List.map_nil]
    rw [add_list _ _ (by simp only [List.length_map]; omega)]
    simp only [eSs_nil, eS_set, eS_par, eS_parT, eS_ex, eS_ifs, eS_ret, eS_pass, eS_never, eE_v, eE_c, eE_g, eE_tup, eE_lst, eE_bin, eE_neg, eE_cmp, eE_chain, eE_and, eE_or, eE_not, eE_ife, eE_idx, eE_sli, eE_rev, eE_call, eE_callK, eE_bi, eE_met, eEs_nil, eEs_cons, eT_and, eT_or, eT_not, eT_tt, eT_cmp, eT_chain, eT_e, eG_nm, eG_sub, eG_tp, eGs_nil, eGs_cons, setAll, List.set_cons_zero, List.set_cons_succ, obind, omap, List.getElem?_cons_zero, List.getElem?_cons_succ, if_true, Bool.false_eq_true, if_false, biM, tr_bool, tr_int, tr_list, tr_tuple, isi_str, isi_tup, isi_int, isi_bool_int, len_tup, len_list, add_int, sub_int, ix0, ix1, ix2, le_int, lt_int, gt_int, ge_int, eq_int, ne_int, eq_bool, ne_bool, eq_str, ne_str, decide_true, decide_false, Bool.not_true, Bool.not_false, Bool.and_self, Bool.true_and, Bool.and_true, Bool.false_and, call1, call2, call3, call4, wipeE, isNil, partOf, List.map_cons, List.map_nil]
    rw [dbl, List.map_append, List.map_map]
    rfl))]
  generalize hb : (rng m).foldl stepLbs ([[]], none) = b
  have hb1 : b.1 = subs (rng m) := by rw [← hb, foldLbs]; rfl
  rw [ss_ret (v := .d (.list ((subs (rng m)).map tI))) (S' := []) (by
    simp only [eSs_nil, eS_set, eS_par, eS_parT, eS_ex, eS_ifs, eS_ret, eS_pass, eS_never, eE_v, eE_c, eE_g, eE_tup, eE_lst, eE_bin, eE_neg, eE_cmp, eE_chain, eE_and, eE_or, eE_not, eE_ife, eE_idx, eE_sli, eE_rev, eE_call, eE_callK, eE_bi, eE_met, eEs_nil, eEs_cons, eT_and, eT_or, eT_not, eT_tt, eT_cmp, eT_chain, eT_e, eG_nm, eG_sub, eG_tp, eGs_nil, eGs_cons, setAll, List.set_cons_zero, List.set_cons_succ, obind, omap, List.getElem?_cons_zero, List.getElem?_cons_succ, if_true, Bool.false_eq_true, if_false, biM, tr_bool, tr_int, tr_list, tr_tuple, isi_str, isi_tup, isi_int, isi_bool_int, len_tup, len_list, add_int, sub_int, ix0, ix1, ix2, le_int, lt_int, gt_int, ge_int, eq_int, ne_int, eq_bool, ne_bool, eq_str, ne_str, decide_true, decide_false, Bool.not_true, Bool.not_false, Bool.and_self, Bool.true_and, Bool.and_true, Bool.false_and, call1, call2, call3, call4, wipeE, isNil, partOf, List.map_cons, List.map_nil, stAl, hb1])]
  exact end0
/-- what the law wants left out -/
theorem any_stk {m : Int} {ss : List (Int × Int)} (g : Good m ss) (lot : List Int) (c : Int) : ((stkL m ss c).any fun x => decide (x ∈ lot)) = decide (c ∈ strk ss lot) := by
  rw [Bool.eq_iff_iff, List.any_eq_true, decide_eq_true_iff, strk_mem]
  constructor
  · rintro ⟨x, h1, h2⟩
    exact ⟨x, of_decide_eq_true h2, (stkL_mem g).mp h1⟩
  · rintro ⟨x, h1, h2⟩
    exact ⟨x, (stkL_mem g).mpr h2, decide_eq_true h1⟩
def stV (m : Int) (ss : List (Int × Int)) (a : Aim) (lot : List Int) (pre : List (Int × Int)) : TM.Env × Store :=
  ([some (.d (dD m ss)), some (.d (.str a.nm)), some (.d (tI lot)), some (.d (skD m ss)), some (.ref 0), pre.getLast?.map fun p => .d (.int p.1), pre.getLast?.map fun p => .d (.int p.2), none], [((pre.filter (wantB ss a.up lot)).map pr).map .d])
theorem any_at (C : CallF) {m : Int} {ss : List (Int × Int)} (g : Good m ss) (lot : List Int) (x1 x4 x6 : Option MV) {c : Int} (hc : c ∈ rng m) (S : Store) : evE C (.lc false [7] (.nm 7) (.seq (.idx (.v 3) (.v 5))) .tt (.cmp .inS (.v 7) (.v 2))) [some (.d (dD m ss)), x1, some (.d (tI lot)), some (.d (skD m ss)), x4, some (.d (.int c)), x6, none] S = some (.d (.list ((stkL m ss c).map fun x => .bool (decide (x ∈ lot)))), S) := by
  have line := lineI
  have hm := g.hi
  have hr : (rng m).length ≤ 10 := by rw [rng_len]; omega
  have hk : (stkL m ss c).length ≤ 10 := Nat.le_trans (List.length_filter_le _ _) hr
  exact lc_map (stkL m ss c) (fun x => .d (.int x)) (fun x => .bool (decide (x ∈ lot))) [] (by
    simp only [eSs_nil, eS_set, eS_par, eS_parT, eS_ex, eS_ifs, eS_ret, eS_pass, eS_never, eE_v, eE_c, eE_g, eE_tup, eE_lst, eE_bin, eE_neg, eE_cmp, eE_chain, eE_and, eE_or, eE_not, eE_ife, eE_idx, eE_sli, eE_rev, eE_call, eE_callK, eE_bi, eE_met, eEs_nil, eEs_cons, eT_and, eT_or, eT_not, eT_tt, eT_cmp, eT_chain, eT_e, eG_nm, eG_sub, eG_tp, eGs_nil, eGs_cons, setAll, List.set_cons_zero, List.set_cons_succ, obind, omap, List.getElem?_cons_zero, List.getElem?_cons_succ, if_true, Bool.false_eq_true, if_false, biM, tr_bool, tr_int, tr_list, tr_tuple, isi_str, isi_tup, isi_int, isi_bool_int, len_tup, len_list, add_int, sub_int, ix0, ix1, ix2, le_int, lt_int, gt_int, ge_int, eq_int, ne_int, eq_bool, ne_bool, eq_str, ne_str, decide_true, decide_false, Bool.not_true, Bool.not_false, Bool.and_self, Bool.true_and, Bool.and_true, Bool.false_and, call1, call2, call3, call4, wipeE, isNil, partOf, List.map_cons, List.map_nil, eI_seq, skD, ix_rngL (fun c => lI (stkL m ss c)) hc]
    simp only [eSs_nil, eS_set, eS_par, eS_parT, eS_ex, eS_ifs, eS_ret, eS_pass, eS_never, eE_v, eE_c, eE_g, eE_tup, eE_lst, eE_bin, eE_neg, eE_cmp, eE_chain, eE_and, eE_or, eE_not, eE_ife, eE_idx, eE_sli, eE_rev, eE_call, eE_callK, eE_bi, eE_met, eEs_nil, eEs_cons, eT_and, eT_or, eT_not, eT_tt, eT_cmp, eT_chain, eT_e, eG_nm, eG_sub, eG_tp, eGs_nil, eGs_cons, setAll, List.set_cons_zero, List.set_cons_succ, obind, omap, List.getElem?_cons_zero, List.getElem?_cons_succ, if_true, Bool.false_eq_true, if_false, biM, tr_bool, tr_int, tr_list, tr_tuple, isi_str, isi_tup, isi_int, isi_bool_int, len_tup, len_list, add_int, sub_int, ix0, ix1, ix2, le_int, lt_int, gt_int, ge_int, eq_int, ne_int, eq_bool, ne_bool, eq_str, ne_str, decide_true, decide_false, Bool.not_true, Bool.not_false, Bool.and_self, Bool.true_and, Bool.and_true, Bool.false_and, call1, call2, call3, call4, wipeE, isNil, partOf, List.map_cons, List.map_nil, lI, itemsOf, srcOf, List.map_map]
    rfl) rfl (by omega) (fun x _ => by
    simp only [eSs_nil, eS_set, eS_par, eS_parT, eS_ex, eS_ifs, eS_ret, eS_pass, eS_never, eE_v, eE_c, eE_g, eE_tup, eE_lst, eE_bin, eE_neg, eE_cmp, eE_chain, eE_and, eE_or, eE_not, eE_ife, eE_idx, eE_sli, eE_rev, eE_call, eE_callK, eE_bi, eE_met, eEs_nil, eEs_cons, eT_and, eT_or, eT_not, eT_tt, eT_cmp, eT_chain, eT_e, eG_nm, eG_sub, eG_tp, eGs_nil, eGs_cons, setAll, List.set_cons_zero, List.set_cons_succ, obind, omap, List.getElem?_cons_zero, List.getElem?_cons_succ, if_true, Bool.false_eq_true, if_false, biM, tr_bool, tr_int, tr_list, tr_tuple, isi_str, isi_tup, isi_int, isi_bool_int, len_tup, len_list, add_int, sub_int, ix0, ix1, ix2, le_int, lt_int, gt_int, ge_int, eq_int, ne_int, eq_bool, ne_bool, eq_str, ne_str, decide_true, decide_false, Bool.not_true, Bool.not_false, Bool.and_self, Bool.true_and, Bool.and_true, Bool.false_and, call1, call2, call3, call4, wipeE, isNil, partOf, List.map_cons, List.map_nil, lcT, in_tI])
theorem s_law_wanted (n : Nat) {m : Int} {ss : List (Int × Int)} (g : Good m ss) (a : Aim) (lot : List Int) : run tab (n + 2) 28 [] [dD m ss, .str a.nm, tI lot] = some (wntD m ss a.st a.up lot, []) := by
  have line := lineI
  have hm := g.hi
  have hms := g.many
  have hr : (rng m).length ≤ 10 := by rw [rng_len]; omega
  rw [r__law_wanted]
  simp only [f__law_wanted]
  rw [ss_next (ρ' := (stV m ss a lot []).1) (S' := (stV m ss a lot []).2) (by
    simp only [eSs_nil, eS_set, eS_par, eS_parT, eS_ex, eS_ifs, eS_ret, eS_pass, eS_never, eE_v, eE_c, eE_g, eE_tup, eE_lst, eE_bin, eE_neg, eE_cmp, eE_chain, eE_and, eE_or, eE_not, eE_ife, eE_idx, eE_sli, eE_rev, eE_call, eE_callK, eE_bi, eE_met, eEs_nil, eEs_cons, eT_and, eT_or, eT_not, eT_tt, eT_cmp, eT_chain, eT_e, eG_nm, eG_sub, eG_tp, eGs_nil, eGs_cons, setAll, List.set_cons_zero, List.set_cons_succ, obind, omap, List.getElem?_cons_zero, List.getElem?_cons_succ, if_true, Bool.false_eq_true, if_false, biM, tr_bool, tr_int, tr_list, tr_tuple, isi_str, isi_tup, isi_int, isi_bool_int, len_tup, len_list, add_int, sub_int, ix0, ix1, ix2, le_int, lt_int, gt_int, ge_int, eq_int, ne_int, eq_bool, ne_bool, eq_str, ne_str, decide_true, decide_false, Bool.not_true, Bool.not_false, Bool.and_self, Bool.true_and, Bool.and_true, Bool.false_and, call1, call2, call3, call4, wipeE, isNil, partOf, List.map_cons, List.map_nil, s_law_strikers n g, stV, mkL, List.length_nil, Nat.zero_le]
    try rfl)]
  have eg : ∀ (S : Store), evE (TM.run tab (n + 1)) (.lc false [5] (.nm 5) (.rng (.cons (.idx (.v 0) (.c (.int 1))) .nil)) .tt (.and (.cmp .niS (.v 5) (.v 2)) (.not (.bi .any false (.cons (.lc false [7] (.nm 7) (.seq (.idx (.v 3) (.v 5))) .tt (.cmp .inS (.v 7) (.v 2))) .nil))))) [some (.d (dD m ss)), some (.d (.str a.nm)), some (.d (tI lot)), some (.d (skD m ss)), some (.ref 0), none, none, none] S = some (.d (.list ((rng m).map fun c => .bool (!decide (c ∈ lot) && !decide (c ∈ strk ss lot)))), S) := fun S =>
    lc_map (rng m) (fun c => .d (.int c)) (fun c => .bool (!decide (c ∈ lot) && !decide (c ∈ strk ss lot))) [] (by
      simp only [eSs_nil, eS_set, eS_par, eS_parT, eS_ex, eS_ifs, eS_ret, eS_pass, eS_never, eE_v, eE_c, eE_g, eE_tup, eE_lst, eE_bin, eE_neg, eE_cmp, eE_chain, eE_and, eE_or, eE_not, eE_ife, eE_idx, eE_sli, eE_rev, eE_call, eE_callK, eE_bi, eE_met, eEs_nil, eEs_cons, eT_and, eT_or, eT_not, eT_tt, eT_cmp, eT_chain, eT_e, eG_nm, eG_sub, eG_tp, eGs_nil, eGs_cons, setAll, List.set_cons_zero, List.set_cons_succ, obind, omap, List.getElem?_cons_zero, List.getElem?_cons_succ, if_true, Bool.false_eq_true, if_false, biM, tr_bool, tr_int, tr_list, tr_tuple, isi_str, isi_tup, isi_int, isi_bool_int, len_tup, len_list, add_int, sub_int, ix0, ix1, ix2, le_int, lt_int, gt_int, ge_int, eq_int, ne_int, eq_bool, ne_bool, eq_str, ne_str, decide_true, decide_false, Bool.not_true, Bool.not_false, Bool.and_self, Bool.true_and, Bool.and_true, Bool.false_and, call1, call2, call3, call4, wipeE, isNil, partOf, List.map_cons, List.map_nil, eI_rng, dD, rangeOf, rngI_ok g.lo g.hi]) rfl (by omega) (fun c hc => by
      simp only [eSs_nil, eS_set, eS_par, eS_parT, eS_ex, eS_ifs, eS_ret, eS_pass, eS_never, eE_v, eE_c, eE_g, eE_tup, eE_lst, eE_bin, eE_neg, eE_cmp, eE_chain, eE_and, eE_or, eE_not, eE_ife, eE_idx, eE_sli, eE_rev, eE_call, eE_callK, eE_bi, eE_met, eEs_nil, eEs_cons, eT_and, eT_or, eT_not, eT_tt, eT_cmp, eT_chain, eT_e, eG_nm, eG_sub, eG_tp, eGs_nil, eGs_cons, setAll, List.set_cons_zero, List.set_cons_succ, obind, omap, List.getElem?_cons_zero, List.getElem?_cons_succ, if_true, Bool.false_eq_true, if_false, biM, tr_bool, tr_int, tr_list, tr_tuple, isi_str, isi_tup, isi_int, isi_bool_int, len_tup, len_list, add_int, sub_int, ix0, ix1, ix2, le_int, lt_int, gt_int, ge_int, eq_int, ne_int, eq_bool, ne_bool, eq_str, ne_str, decide_true, decide_false, Bool.not_true, Bool.not_false, Bool.and_self, Bool.true_and, Bool.and_true, Bool.false_and, call1, call2, call3, call4, wipeE, isNil, partOf, List.map_cons, List.map_nil, lcT, ni_tI]
      cases decide (c ∈ lot) with
      | true => rfl
      | false => simp only [eSs_nil, eS_set, eS_par, eS_parT, eS_ex, eS_ifs, eS_ret, eS_pass, eS_never, eE_v, eE_c, eE_g, eE_tup, eE_lst, eE_bin, eE_neg, eE_cmp, eE_chain, eE_and, eE_or, eE_not, eE_ife, eE_idx, eE_sli, eE_rev, eE_call, eE_callK, eE_bi, eE_met, eEs_nil, eEs_cons, eT_and, eT_or, eT_not, eT_tt, eT_cmp, eT_chain, eT_e, eG_nm, eG_sub, eG_tp, eGs_nil, eGs_cons, setAll, List.set_cons_zero, List.set_cons_succ, obind, omap, List.getElem?_cons_zero, List.getElem?_cons_succ, if_true, Bool.false_eq_true, if_false, biM, tr_bool, tr_int, tr_list, tr_tuple, isi_str, isi_tup, isi_int, isi_bool_int, len_tup, len_list, add_int, sub_int, ix0, ix1, ix2, le_int, lt_int, gt_int, ge_int, eq_int, ne_int, eq_bool, ne_bool, eq_str, ne_str, decide_true, decide_false, Bool.not_true, Bool.not_false, Bool.and_self, Bool.true_and, Bool.and_true, Bool.false_and, call1, call2, call3, call4, wipeE, isNil, partOf, List.map_cons, List.map_nil, any_at (TM.run tab (n + 1)) g lot _ _ _ hc, any_map, any_stk g])
  have eg2 : ∀ S : Store, biAny [.d (.list ((rng m).map fun c => .bool (!decide (c ∈ lot) && !decide (c ∈ strk ss lot))))] S = some (.d (.bool (gap m ss lot)), S) := fun S => any_map _ _
  rw [wntD, wnt]
  cases h : (a.st && gap m ss lot) with
  | true =>
    rw [Bool.and_eq_true] at h
    rw [ss_ret (v := .d .none) (S' := (stV m ss a lot []).2) (by
      simp only [eSs_nil, eS_set, eS_par, eS_parT, eS_ex, eS_ifs, eS_ret, eS_pass, eS_never, eE_v, eE_c, eE_g, eE_tup, eE_lst, eE_bin, eE_neg, eE_cmp, eE_chain, eE_and, eE_or, eE_not, eE_ife, eE_idx, eE_sli, eE_rev, eE_call, eE_callK, eE_bi, eE_met, eEs_nil, eEs_cons, eT_and, eT_or, eT_not, eT_tt, eT_cmp, eT_chain, eT_e, eG_nm, eG_sub, eG_tp, eGs_nil, eGs_cons, setAll, List.set_cons_zero, List.set_cons_succ, obind, omap, List.getElem?_cons_zero, List.getElem?_cons_succ, if_true, Bool.false_eq_true, if_false, biM, tr_bool, tr_int, tr_list, tr_tuple, isi_str, isi_tup, isi_int, isi_bool_int, len_tup, len_list, add_int, sub_int, ix0, ix1, ix2, le_int, lt_int, gt_int, ge_int, eq_int, ne_int, eq_bool, ne_bool, eq_str, ne_str, decide_true, decide_false, Bool.not_true, Bool.not_false, Bool.and_self, Bool.true_and, Bool.and_true, Bool.false_and, call1, call2, call3, call4, wipeE, isNil, partOf, List.map_cons, List.map_nil, stV, a.is_s, h.1, List.getLast?_nil, Option.map_none, eg, eg2, h.2, eSs_cons])]
    rfl
  | false =>
    rw [ss_next (ρ' := (stV m ss a lot []).1) (S' := (stV m ss a lot []).2) (by
      simp only [eSs_nil, eS_set, eS_par, eS_parT, eS_ex, eS_ifs, eS_ret, eS_pass, eS_never, eE_v, eE_c, eE_g, eE_tup, eE_lst, eE_bin, eE_neg, eE_cmp, eE_chain, eE_and, eE_or, eE_not, eE_ife, eE_idx, eE_sli, eE_rev, eE_call, eE_callK, eE_bi, eE_met, eEs_nil, eEs_cons, eT_and, eT_or, eT_not, eT_tt, eT_cmp, eT_chain, eT_e, eG_nm, eG_sub, eG_tp, eGs_nil, eGs_cons, setAll, List.set_cons_zero, List.set_cons_succ, obind, omap, List.getElem?_cons_zero, List.getElem?_cons_succ, if_true, Bool.false_eq_true, if_false, biM, tr_bool, tr_int, tr_list, tr_tuple, isi_str, isi_tup, isi_int, isi_bool_int, len_tup, len_list, add_int, sub_int, ix0, ix1, ix2, le_int, lt_int, gt_int, ge_int, eq_int, ne_int, eq_bool, ne_bool, eq_str, ne_str, decide_true, decide_false, Bool.not_true, Bool.not_false, Bool.and_self, Bool.true_and, Bool.and_true, Bool.false_and, call1, call2, call3, call4, wipeE, isNil, partOf, List.map_cons, List.map_nil, stV, a.is_s]
      cases hs : a.st with
      | false => simp only [eSs_nil, eS_set, eS_par, eS_parT, eS_ex, eS_ifs, eS_ret, eS_pass, eS_never, eE_v, eE_c, eE_g, eE_tup, eE_lst, eE_bin, eE_neg, eE_cmp, eE_chain, eE_and, eE_or, eE_not, eE_ife, eE_idx, eE_sli, eE_rev, eE_call, eE_callK, eE_bi, eE_met, eEs_nil, eEs_cons, eT_and, eT_or, eT_not, eT_tt, eT_cmp, eT_chain, eT_e, eG_nm, eG_sub, eG_tp, eGs_nil, eGs_cons, setAll, List.set_cons_zero, List.set_cons_succ, obind, omap, List.getElem?_cons_zero, List.getElem?_cons_succ, if_true, Bool.false_eq_true, if_false, biM, tr_bool, tr_int, tr_list, tr_tuple, isi_str, isi_tup, isi_int, isi_bool_int, len_tup, len_list, add_int, sub_int, ix0, ix1, ix2, le_int, lt_int, gt_int, ge_int, eq_int, ne_int, eq_bool, ne_bool, eq_str, ne_str, decide_true, decide_false, Bool.not_true, Bool.not_false, Bool.and_self, Bool.true_and, Bool.and_true, Bool.false_and, call1, call2, call3, call4, wipeE, isNil, partOf, List.map_cons, List.map_nil]
      | true =>
        rw [hs, Bool.true_and] at h
        simp only [eSs_nil, eS_set, eS_par, eS_parT, eS_ex, eS_ifs, eS_ret, eS_pass, eS_never, eE_v, eE_c, eE_g, eE_tup, eE_lst, eE_bin, eE_neg, eE_cmp, eE_chain, eE_and, eE_or, eE_not, eE_ife, eE_idx, eE_sli, eE_rev, eE_call, eE_callK, eE_bi, eE_met, eEs_nil, eEs_cons, eT_and, eT_or, eT_not, eT_tt, eT_cmp, eT_chain, eT_e, eG_nm, eG_sub, eG_tp, eGs_nil, eGs_cons, setAll, List.set_cons_zero, List.set_cons_succ, obind, omap, List.getElem?_cons_zero, List.getElem?_cons_succ, if_true, Bool.false_eq_true, if_false, biM, tr_bool, tr_int, tr_list, tr_tuple, isi_str, isi_tup, isi_int, isi_bool_int, len_tup, len_list, add_int, sub_int, ix0, ix1, ix2, le_int, lt_int, gt_int, ge_int, eq_int, ne_int, eq_bool, ne_bool, eq_str, ne_str, decide_true, decide_false, Bool.not_true, Bool.not_false, Bool.and_self, Bool.true_and, Bool.and_true, Bool.false_and, call1, call2, call3, call4, wipeE, isNil, partOf, List.map_cons, List.map_nil, List.getLast?_nil, Option.map_none, eg, eg2, h])]
    rw [ss_next (fr_pre [] (fun p : Int × Int => .d (pr p)) (stV m ss a lot) ss (by
      simp only [eSs_nil, eS_set, eS_par, eS_parT, eS_ex, eS_ifs, eS_ret, eS_pass, eS_never, eE_v, eE_c, eE_g, eE_tup, eE_lst, eE_bin, eE_neg, eE_cmp, eE_chain, eE_and, eE_or, eE_not, eE_ife, eE_idx, eE_sli, eE_rev, eE_call, eE_callK, eE_bi, eE_met, eEs_nil, eEs_cons, eT_and, eT_or, eT_not, eT_tt, eT_cmp, eT_chain, eT_e, eG_nm, eG_sub, eG_tp, eGs_nil, eGs_cons, setAll, List.set_cons_zero, List.set_cons_succ, obind, omap, List.getElem?_cons_zero, List.getElem?_cons_succ, if_true, Bool.false_eq_true, if_false, biM, tr_bool, tr_int, tr_list, tr_tuple, isi_str, isi_tup, isi_int, isi_bool_int, len_tup, len_list, add_int, sub_int, ix0, ix1, ix2, le_int, lt_int, gt_int, ge_int, eq_int, ne_int, eq_bool, ne_bool, eq_str, ne_str, decide_true, decide_false, Bool.not_true, Bool.not_false, Bool.and_self, Bool.true_and, Bool.and_true, Bool.false_and, call1, call2, call3, call4, wipeE, isNil, partOf, List.map_cons, List.map_nil, eI_seq, stV, dD, sD, itemsOf, srcOf, List.map_map]
      rfl) (fun _ _ => rfl) (fun pre p post e => by
      have hpl : pre.length ≤ 100 := by
        have := congrArg List.length e
        rw [List.length_append, List.length_cons] at this
        omega
      have hpr : p.1 ∈ rng m := mem_rng.mpr (g.win p (by rw [e]; simp)).1
      have hf := List.length_filter_le (wantB ss a.up lot) pre
      rw [show (stV m ss a lot (pre ++ [p])).1 = [some (.d (dD m ss)), some (.d (.str a.nm)), some (.d (tI lot)), some (.d (skD m ss)), some (.ref 0), some (.d (.int p.1)), some (.d (.int p.2)), none] from by simp [stV]]
      rw [show (stV m ss a lot (pre ++ [p])).2 = [((pre.filter (wantB ss a.up lot)).map pr).map .d ++ if wantB ss a.up lot p then [.d (pr p)] else []] from by
        simp only [stV, List.filter_append, List.map_append]
        cases h : wantB ss a.up lot p <;> simp [h]]
      simp only [eSs_nil, eS_set, eS_par, eS_parT, eS_ex, eS_ifs, eS_ret, eS_pass, eS_never, eE_v, eE_c, eE_g, eE_tup, eE_lst, eE_bin, eE_neg, eE_cmp, eE_chain, eE_and, eE_or, eE_not, eE_ife, eE_idx, eE_sli, eE_rev, eE_call, eE_callK, eE_bi, eE_met, eEs_nil, eEs_cons, eT_and, eT_or, eT_not, eT_tt, eT_cmp, eT_chain, eT_e, eG_nm, eG_sub, eG_tp, eGs_nil, eGs_cons, setAll, List.set_cons_zero, List.set_cons_succ, obind, omap, List.getElem?_cons_zero, List.getElem?_cons_succ, if_true, Bool.false_eq_true, if_false, biM, tr_bool, tr_int, tr_list, tr_tuple, isi_str, isi_tup, isi_int, isi_bool_int, len_tup, len_list, add_int, sub_int, ix0, ix1, ix2, le_int, lt_int, gt_int, ge_int, eq_int, ne_int, eq_bool, ne_bool, eq_str, ne_str, decide_true, decide_false, Bool.not_true, Bool.not_false, Bool.and_self, Bool.true_and, Bool.and_true, Bool.false_and, call1, call2, call3, call4, wipeE, isNil, partOf, List.map_cons, List.map_nil, stV, pr]
      rw [eSs_cons, eS_ifs]
      have et : evT (TM.run tab (n + 1)) (.and (.cmp .inS (.v 6) (.v 2)) (.or (.cmp .inS (.v 5) (.v 2)) (.and (.cmp .eq (.v 1) (.c (.str "upheld"))) (.not (.e (.bi .any false (.cons (.lc false [7] (.nm 7) (.seq (.idx (.v 3) (.v 5))) .tt (.cmp .inS (.v 7) (.v 2))) .nil))))))) [some (.d (dD m ss)), some (.d (.str a.nm)), some (.d (tI lot)), some (.d (skD m ss)), some (.ref 0), some (.d (.int p.1)), some (.d (.int p.2)), none] [((pre.filter (wantB ss a.up lot)).map pr).map .d] = some (wantB ss a.up lot p, [((pre.filter (wantB ss a.up lot)).map pr).map .d]) := by
        rw [wantB]
        simp only [eSs_nil, eS_set, eS_par, eS_parT, eS_ex, eS_ifs, eS_ret, eS_pass, eS_never, eE_v, eE_c, eE_g, eE_tup, eE_lst, eE_bin, eE_neg, eE_cmp, eE_chain, eE_and, eE_or, eE_not, eE_ife, eE_idx, eE_sli, eE_rev, eE_call, eE_callK, eE_bi, eE_met, eEs_nil, eEs_cons, eT_and, eT_or, eT_not, eT_tt, eT_cmp, eT_chain, eT_e, eG_nm, eG_sub, eG_tp, eGs_nil, eGs_cons, setAll, List.set_cons_zero, List.set_cons_succ, obind, omap, List.getElem?_cons_zero, List.getElem?_cons_succ, if_true, Bool.false_eq_true, if_false, biM, tr_bool, tr_int, tr_list, tr_tuple, isi_str, isi_tup, isi_int, isi_bool_int, len_tup, len_list, add_int, sub_int, ix0, ix1, ix2, le_int, lt_int, gt_int, ge_int, eq_int, ne_int, eq_bool, ne_bool, eq_str, ne_str, decide_true, decide_false, Bool.not_true, Bool.not_false, Bool.and_self, Bool.true_and, Bool.and_true, Bool.false_and, call1, call2, call3, call4, wipeE, isNil, partOf, List.map_cons, List.map_nil, in_tI]
        cases decide (p.2 ∈ lot) with
        | false => rfl
        | true =>
          simp only [eSs_nil, eS_set, eS_par, eS_parT, eS_ex, eS_ifs, eS_ret, eS_pass, eS_never, eE_v, eE_c, eE_g, eE_tup, eE_lst, eE_bin, eE_neg, eE_cmp, eE_chain, eE_and, eE_or, eE_not, eE_ife, eE_idx, eE_sli, eE_rev, eE_call, eE_callK, eE_bi, eE_met, eEs_nil, eEs_cons, eT_and, eT_or, eT_not, eT_tt, eT_cmp, eT_chain, eT_e, eG_nm, eG_sub, eG_tp, eGs_nil, eGs_cons, setAll, List.set_cons_zero, List.set_cons_succ, obind, omap, List.getElem?_cons_zero, List.getElem?_cons_succ, if_true, Bool.false_eq_true, if_false, biM, tr_bool, tr_int, tr_list, tr_tuple, isi_str, isi_tup, isi_int, isi_bool_int, len_tup, len_list, add_int, sub_int, ix0, ix1, ix2, le_int, lt_int, gt_int, ge_int, eq_int, ne_int, eq_bool, ne_bool, eq_str, ne_str, decide_true, decide_false, Bool.not_true, Bool.not_false, Bool.and_self, Bool.true_and, Bool.and_true, Bool.false_and, call1, call2, call3, call4, wipeE, isNil, partOf, List.map_cons, List.map_nil, in_tI]
          cases decide (p.1 ∈ lot) with
          | true => rfl
          | false =>
            simp only [eSs_nil, eS_set, eS_par, eS_parT, eS_ex, eS_ifs, eS_ret, eS_pass, eS_never, eE_v, eE_c, eE_g, eE_tup, eE_lst, eE_bin, eE_neg, eE_cmp, eE_chain, eE_and, eE_or, eE_not, eE_ife, eE_idx, eE_sli, eE_rev, eE_call, eE_callK, eE_bi, eE_met, eEs_nil, eEs_cons, eT_and, eT_or, eT_not, eT_tt, eT_cmp, eT_chain, eT_e, eG_nm, eG_sub, eG_tp, eGs_nil, eGs_cons, setAll, List.set_cons_zero, List.set_cons_succ, obind, omap, List.getElem?_cons_zero, List.getElem?_cons_succ, if_true, Bool.false_eq_true, if_false, biM, tr_bool, tr_int, tr_list, tr_tuple, isi_str, isi_tup, isi_int, isi_bool_int, len_tup, len_list, add_int, sub_int, ix0, ix1, ix2, le_int, lt_int, gt_int, ge_int, eq_int, ne_int, eq_bool, ne_bool, eq_str, ne_str, decide_true, decide_false, Bool.not_true, Bool.not_false, Bool.and_self, Bool.true_and, Bool.and_true, Bool.false_and, call1, call2, call3, call4, wipeE, isNil, partOf, List.map_cons, List.map_nil, a.is_u]
            cases a.up with
            | false => rfl
            | true =>
              simp only [eSs_nil, eS_set, eS_par, eS_parT, eS_ex, eS_ifs, eS_ret, eS_pass, eS_never, eE_v, eE_c, eE_g, eE_tup, eE_lst, eE_bin, eE_neg, eE_cmp, eE_chain, eE_and, eE_or, eE_not, eE_ife, eE_idx, eE_sli, eE_rev, eE_call, eE_callK, eE_bi, eE_met, eEs_nil, eEs_cons, eT_and, eT_or, eT_not, eT_tt, eT_cmp, eT_chain, eT_e, eG_nm, eG_sub, eG_tp, eGs_nil, eGs_cons, setAll, List.set_cons_zero, List.set_cons_succ, obind, omap, List.getElem?_cons_zero, List.getElem?_cons_succ, if_true, Bool.false_eq_true, if_false, biM, tr_bool, tr_int, tr_list, tr_tuple, isi_str, isi_tup, isi_int, isi_bool_int, len_tup, len_list, add_int, sub_int, ix0, ix1, ix2, le_int, lt_int, gt_int, ge_int, eq_int, ne_int, eq_bool, ne_bool, eq_str, ne_str, decide_true, decide_false, Bool.not_true, Bool.not_false, Bool.and_self, Bool.true_and, Bool.and_true, Bool.false_and, call1, call2, call3, call4, wipeE, isNil, partOf, List.map_cons, List.map_nil, any_at (TM.run tab (n + 1)) g lot _ _ _ hpr, any_map, any_stk g]
              rfl
      rw [et]
      cases wantB ss a.up lot p with
      | false => simp only [eSs_nil, eS_set, eS_par, eS_parT, eS_ex, eS_ifs, eS_ret, eS_pass, eS_never, eE_v, eE_c, eE_g, eE_tup, eE_lst, eE_bin, eE_neg, eE_cmp, eE_chain, eE_and, eE_or, eE_not, eE_ife, eE_idx, eE_sli, eE_rev, eE_call, eE_callK, eE_bi, eE_met, eEs_nil, eEs_cons, eT_and, eT_or, eT_not, eT_tt, eT_cmp, eT_chain, eT_e, eG_nm, eG_sub, eG_tp, eGs_nil, eGs_cons, setAll, List.set_cons_zero, List.set_cons_succ, obind, omap, List.getElem?_cons_zero, List.getElem?_cons_succ, if_true, Bool.false_eq_true, if_false, biM, tr_bool, tr_int, tr_list, tr_tuple, isi_str, isi_tup, isi_int, isi_bool_int, len_tup, len_list, add_int, sub_int, ix0, ix1, ix2, le_int, lt_int, gt_int, ge_int, eq_int, ne_int, eq_bool, ne_bool, eq_str, ne_str, decide_true, decide_false, Bool.not_true, Bool.not_false, Bool.and_self, Bool.true_and, Bool.and_true, Bool.false_and, call1, call2, call3, call4, wipeE, isNil, partOf, List.map_cons, List.map_nil, List.append_nil, eSs_cons]
      | true =>
        simp only [eSs_nil, eS_set, eS_par, eS_parT, eS_ex, eS_ifs, eS_ret, eS_pass, eS_never, eE_v, eE_c, eE_g, eE_tup, eE_lst, eE_bin, eE_neg, eE_cmp, eE_chain, eE_and, eE_or, eE_not, eE_ife, eE_idx, eE_sli, eE_rev, eE_call, eE_callK, eE_bi, eE_met, eEs_nil, eEs_cons, eT_and, eT_or, eT_not, eT_tt, eT_cmp, eT_chain, eT_e, eG_nm, eG_sub, eG_tp, eGs_nil, eGs_cons, setAll, List.set_cons_zero, List.set_cons_succ, obind, omap, List.getElem?_cons_zero, List.getElem?_cons_succ, if_true, Bool.false_eq_true, if_false, biM, tr_bool, tr_int, tr_list, tr_tuple, isi_str, isi_tup, isi_int, isi_bool_int, len_tup, len_list, add_int, sub_int, ix0, ix1, ix2, le_int, lt_int, gt_int, ge_int, eq_int, ne_int, eq_bool, ne_bool, eq_str, ne_str, decide_true, decide_false, Bool.not_true, Bool.not_false, Bool.and_self, Bool.true_and, Bool.and_true, Bool.false_and, call1, call2, call3, call4, wipeE, isNil, partOf, List.map_cons, List.map_nil, le2, pures, eSs_cons]
        rw [app_ref (c := ((pre.filter (wantB ss a.up lot)).map pr).map .d) rfl (by rw [List.length_map, List.length_map]; omega)]
        simp only [eSs_nil, eS_set, eS_par, eS_parT, eS_ex, eS_ifs, eS_ret, eS_pass, eS_never, eE_v, eE_c, eE_g, eE_tup, eE_lst, eE_bin, eE_neg, eE_cmp, eE_chain, eE_and, eE_or, eE_not, eE_ife, eE_idx, eE_sli, eE_rev, eE_call, eE_callK, eE_bi, eE_met, eEs_nil, eEs_cons, eT_and, eT_or, eT_not, eT_tt, eT_cmp, eT_chain, eT_e, eG_nm, eG_sub, eG_tp, eGs_nil, eGs_cons, setAll, List.set_cons_zero, List.set_cons_succ, obind, omap, List.getElem?_cons_zero, List.getElem?_cons_succ, if_true, Bool.false_eq_true, if_false, biM, tr_bool, tr_int, tr_list, tr_tuple, isi_str, isi_tup, isi_int, isi_bool_int, len_tup, len_list, add_int, sub_int, ix0, ix1, ix2, le_int, lt_int, gt_int, ge_int, eq_int, ne_int, eq_bool, ne_bool, eq_str, ne_str, decide_true, decide_false, Bool.not_true, Bool.not_false, Bool.and_self, Bool.true_and, Bool.and_true, Bool.false_and, call1, call2, call3, call4, wipeE, isNil, partOf, List.map_cons, List.map_nil, eSs_cons]
        try rfl))]
    rw [ss_ret (v := .ref 0) (S' := (stV m ss a lot ss).2) (by simp only [eSs_nil, eS_set, eS_par, eS_parT, eS_ex, eS_ifs, eS_ret, eS_pass, eS_never, eE_v, eE_c, eE_g, eE_tup, eE_lst, eE_bin, eE_neg, eE_cmp, eE_chain, eE_and, eE_or, eE_not, eE_ife, eE_idx, eE_sli, eE_rev, eE_call, eE_callK, eE_bi, eE_met, eEs_nil, eEs_cons, eT_and, eT_or, eT_not, eT_tt, eT_cmp, eT_chain, eT_e, eG_nm, eG_sub, eG_tp, eGs_nil, eGs_cons, setAll, List.set_cons_zero, List.set_cons_succ, obind, omap, List.getElem?_cons_zero, List.getElem?_cons_succ, if_true, Bool.false_eq_true, if_false, biM, tr_bool, tr_int, tr_list, tr_tuple, isi_str, isi_tup, isi_int, isi_bool_int, len_tup, len_list, add_int, sub_int, ix0, ix1, ix2, le_int, lt_int, gt_int, ge_int, eq_int, ne_int, eq_bool, ne_bool, eq_str, ne_str, decide_true, decide_false, Bool.not_true, Bool.not_false, Bool.and_self, Bool.true_and, Bool.and_true, Bool.false_and, call1, call2, call3, call4, wipeE, isNil, partOf, List.map_cons, List.map_nil, stV])]
    show (match (backD.backAll 0 _ (((ss.filter (wantB ss a.up lot)).map pr).map .d)).map PyData.list, purAll ([].take 0) with
      | some x, some cs => some (x, cs)
      | _, _ => none) = _
    rw [back_d]
    rfl
/-- prices that are drawn -/
theorem s_law_prices (n : Nat) {c : List PyData} (h : Pot c) {m : Int} {ss : List (Int × Int)} (g : Good m ss) : ∃ ps c', Pot c' ∧ Pri ss ps ∧ run tab (n + 3) 24 [c] [dD m ss] = some (tI ps, [c']) := by
  have line := lineI
  have hms := g.many
  have e3 : ∀ S : Store, mkL false [.d (.int 2), .d (.int 4), .d (.int 10)] S = some (.d (.list [.int 2, .int 4, .int 10]), S) := fun S => mkL_data (xs := [.int 2, .int 4, .int 10]) (by simp only [List.length_cons, List.length_nil]; omega)
  have go : ∀ (l : List (Int × Int)) (c : List PyData), Pot c → ∃ (ps : List Int) (c' : List PyData), Pot c' ∧ ps.length = l.length ∧ (∀ p, p ∈ ps → 0 ≤ p ∧ p ≤ 9) ∧ lcGo [] (lcT (TM.run tab (n + 2)) [2] (.nm 2) .tt (.call false 19 1 2 [] [] (.cons (.v 0) (.cons (.call false 20 1 2 [] [] (.cons (.v 0) (.cons (.lst false (.cons (.c (.int 2)) (.cons (.c (.int 4)) (.cons (.c (.int 10)) .nil)))) .nil))) .nil))) [some (.ref 0), some (.d (dD m ss)), none]) (l.map fun p => .d (pr p)) [c.map .d] = some (ps.map fun x => .d (.int x), [c'.map .d]) := fun l => by
    induction l with
    | nil => exact fun c hc => ⟨[], c, hc, rfl, fun p hp => absurd hp List.not_mem_nil, rfl⟩
    | cons x l ih =>
      intro c hc
      obtain ⟨y, c1, hc1, hy, e1⟩ := s_pick n hc (xs := [.int 2, .int 4, .int 10]) (by decide) (by decide)
      obtain ⟨o, rfl, o1, o2⟩ : ∃ o : Int, y = .int o ∧ 1 ≤ o ∧ o ≤ 10 := by
        simp only [List.mem_cons, List.not_mem_nil, or_false] at hy
        rcases hy with rfl | rfl | rfl <;> exact ⟨_, rfl, by decide, by decide⟩
      obtain ⟨d, c2, hc2, d0, d1, e2⟩ := s_draw (n + 1) hc1 (many := o) (by omega) (by omega)
      obtain ⟨ps, c3, hc3, h1, h2, ek⟩ := ih c2 hc2
      have et : lcT (TM.run tab (n + 2)) [2] (.nm 2) .tt (.call false 19 1 2 [] [] (.cons (.v 0) (.cons (.call false 20 1 2 [] [] (.cons (.v 0) (.cons (.lst false (.cons (.c (.int 2)) (.cons (.c (.int 4)) (.cons (.c (.int 10)) .nil)))) .nil))) .nil))) [some (.ref 0), some (.d (dD m ss)), none] (.d (pr x)) [c.map .d] = some (some (.d (.int d)), [c2.map .d]) := by
        simp only [eSs_nil, eS_set, eS_par, eS_parT, eS_ex, eS_ifs, eS_ret, eS_pass, eS_never, eE_v, eE_c, eE_g, eE_tup, eE_lst, eE_bin, eE_neg, eE_cmp, eE_chain, eE_and, eE_or, eE_not, eE_ife, eE_idx, eE_sli, eE_rev, eE_call, eE_callK, eE_bi, eE_met, eEs_nil, eEs_cons, eT_and, eT_or, eT_not, eT_tt, eT_cmp, eT_chain, eT_e, eG_nm, eG_sub, eG_tp, eGs_nil, eGs_cons, setAll, List.set_cons_zero, List.set_cons_succ, obind, omap, List.getElem?_cons_zero, List.getElem?_cons_succ, if_true, Bool.false_eq_true, if_false, biM, tr_bool, tr_int, tr_list, tr_tuple, isi_str, isi_tup, isi_int, isi_bool_int, len_tup, len_list, add_int, sub_int, ix0, ix1, ix2, le_int, lt_int, gt_int, ge_int, eq_int, ne_int, eq_bool, ne_bool, eq_str, ne_str, decide_true, decide_false, Bool.not_true, Bool.not_false, Bool.and_self, Bool.true_and, Bool.and_true, Bool.false_and, call1, call2, call3, call4, wipeE, isNil, partOf, List.map_cons, List.map_nil, lcT, e3]
        rw [call_io1 (c := c) rfl e1]
        simp only [eSs_nil, eS_set, eS_par, eS_parT, eS_ex, eS_ifs, eS_ret, eS_pass, eS_never, eE_v, eE_c, eE_g, eE_tup, eE_lst, eE_bin, eE_neg, eE_cmp, eE_chain, eE_and, eE_or, eE_not, eE_ife, eE_idx, eE_sli, eE_rev, eE_call, eE_callK, eE_bi, eE_met, eEs_nil, eEs_cons, eT_and, eT_or, eT_not, eT_tt, eT_cmp, eT_chain, eT_e, eG_nm, eG_sub, eG_tp, eGs_nil, eGs_cons, setAll, List.set_cons_zero, List.set_cons_succ, obind, omap, List.getElem?_cons_zero, List.getElem?_cons_succ, if_true, Bool.false_eq_true, if_false, biM, tr_bool, tr_int, tr_list, tr_tuple, isi_str, isi_tup, isi_int, isi_bool_int, len_tup, len_list, add_int, sub_int, ix0, ix1, ix2, le_int, lt_int, gt_int, ge_int, eq_int, ne_int, eq_bool, ne_bool, eq_str, ne_str, decide_true, decide_false, Bool.not_true, Bool.not_false, Bool.and_self, Bool.true_and, Bool.and_true, Bool.false_and, call1, call2, call3, call4, wipeE, isNil, partOf, List.map_cons, List.map_nil]
        rw [call_io1 (c := c1) rfl e2]
        simp only [eSs_nil, eS_set, eS_par, eS_parT, eS_ex, eS_ifs, eS_ret, eS_pass, eS_never, eE_v, eE_c, eE_g, eE_tup, eE_lst, eE_bin, eE_neg, eE_cmp, eE_chain, eE_and, eE_or, eE_not, eE_ife, eE_idx, eE_sli, eE_rev, eE_call, eE_callK, eE_bi, eE_met, eEs_nil, eEs_cons, eT_and, eT_or, eT_not, eT_tt, eT_cmp, eT_chain, eT_e, eG_nm, eG_sub, eG_tp, eGs_nil, eGs_cons, setAll, List.set_cons_zero, List.set_cons_succ, obind, omap, List.getElem?_cons_zero, List.getElem?_cons_succ, if_true, Bool.false_eq_true, if_false, biM, tr_bool, tr_int, tr_list, tr_tuple, isi_str, isi_tup, isi_int, isi_bool_int, len_tup, len_list, add_int, sub_int, ix0, ix1, ix2, le_int, lt_int, gt_int, ge_int, eq_int, ne_int, eq_bool, ne_bool, eq_str, ne_str, decide_true, decide_false, Bool.not_true, Bool.not_false, Bool.and_self, Bool.true_and, Bool.and_true, Bool.false_and, call1, call2, call3, call4, wipeE, isNil, partOf, List.map_cons, List.map_nil]
      refine ⟨d :: ps, c3, hc3, by rw [List.length_cons, List.length_cons, h1], fun p hp => ?_, ?_⟩
      · rcases List.mem_cons.mp hp with rfl | hp
        · omega
        · exact h2 p hp
      · simp only [List.map_cons, lcGo, stab, if_true, et, ek, obind]
        rfl
  obtain ⟨ps, c', hc', h1, h2, e⟩ := go ss c h
  refine ⟨ps, c', hc', ⟨h1, h2⟩, ?_⟩
  rw [r__law_prices]
  simp only [f__law_prices]
  rw [ss_ret (v := .d (tI ps)) (S' := [c'.map .d]) (by
    rw [eS_ret, eE_bi, eEs_cons, eE_lc]
    rw [show evI (TM.run tab (n + 2)) (.seq (.idx (.v 1) (.c (.int 2)))) [some (.ref 0), some (.d (dD m ss)), none] [c.map .d] = some (ss.map fun p => .d (pr p), [], [c.map .d]) from by
      simp only [eSs_nil, eS_set, eS_par, eS_parT, eS_ex, eS_ifs, eS_ret, eS_pass, eS_never, eE_v, eE_c, eE_g, eE_tup, eE_lst, eE_bin, eE_neg, eE_cmp, eE_chain, eE_and, eE_or, eE_not, eE_ife, eE_idx, eE_sli, eE_rev, eE_call, eE_callK, eE_bi, eE_met, eEs_nil, eEs_cons, eT_and, eT_or, eT_not, eT_tt, eT_cmp, eT_chain, eT_e, eG_nm, eG_sub, eG_tp, eGs_nil, eGs_cons, setAll, List.set_cons_zero, List.set_cons_succ, obind, omap, List.getElem?_cons_zero, List.getElem?_cons_succ, if_true, Bool.false_eq_true, if_false, biM, tr_bool, tr_int, tr_list, tr_tuple, isi_str, isi_tup, isi_int, isi_bool_int, len_tup, len_list, add_int, sub_int, ix0, ix1, ix2, le_int, lt_int, gt_int, ge_int, eq_int, ne_int, eq_bool, ne_bool, eq_str, ne_str, decide_true, decide_false, Bool.not_true, Bool.not_false, Bool.and_self, Bool.true_and, Bool.and_true, Bool.false_and, call1, call2, call3, call4, wipeE, isNil, partOf, List.map_cons, List.map_nil, eI_seq, dD, sD, itemsOf, srcOf, List.map_map]
      rfl]
    simp only [obind]
    rw [e]
    have := mkL_data (S := [c'.map MV.d]) (xs := ps.map .int) (by rw [List.length_map]; omega)
    rw [List.map_map] at this
    simp only [obind]
    rw [show (ps.map fun x => MV.d (.int x)) = ps.map (MV.d ∘ PyData.int) from rfl, this]
    simp only [obind, eEs_nil, biM, biTuple, itemsOf, pures_of, omap]
    rfl)]
  simp only [Option.bind_some, endOf, backD, List.take_succ_cons, List.take_zero, purAll, pures_of]
end K05
end
section
set_option Elab.async false
set_option linter.all false
set_option autoImplicit false
set_option maxRecDepth 1000000
set_option maxHeartbeats 4000000
namespace K05
open TM PySem
theorem rowsOf_snoc (m : Int) (ss : List (Int × Int)) (ps : List Int) (st up : Bool) (c : Int) (pre : List (List Int)) (l : List Int) : rowsOf m ss ps st up c (pre ++ [l]) = rowsOf m ss ps st up c pre ++ rowOf m ss ps st up c l := by simp [rowsOf]
theorem rowOf_len (m : Int) (ss : List (Int × Int)) (ps : List Int) (st up : Bool) (c : Int) (l : List Int) : (rowOf m ss ps st up c l).length ≤ 1 := by
  unfold rowOf
  split
  · split <;> simp
  · simp
theorem rowsOf_len (m : Int) (ss : List (Int × Int)) (ps : List Int) (st up : Bool) (c : Int) : ∀ ls : List (List Int), (rowsOf m ss ps st up c ls).length ≤ ls.length
  | [] => by simp [rowsOf]
  | l :: ls => by
    have h1 := rowOf_len m ss ps st up c l
    have h2 := rowsOf_len m ss ps st up c ls
    simp only [rowsOf, List.map_cons, List.flatten_cons, List.length_append, List.length_cons] at h2 ⊢
    omega
def prD (m : Int) (ss : List (Int × Int)) (ps : List Int) (st up : Bool) (c : Int) (l : List Int) : PyData := if decide (c ∈ l) then costD m ss ps st up l else .none
def stC (m : Int) (ss : List (Int × Int)) (ps : List Int) (a : Aim) (c : Int) (pre : List (List Int)) : TM.Env × Store :=
  ([some (.d (dD m ss)), some (.d (tI ps)), some (.d (.str a.nm)), some (.d (.int c)), some (.ref 0), pre.getLast?.map fun l => .d (tI l), pre.getLast?.map fun l => .d (prD m ss ps a.st a.up c l)], [((rowsOf m ss ps a.st a.up c pre).map rowT).map .d])
theorem len_tI (S : Store) (l : List Int) : biLen [.d (tI l)] S = some (.d (.int l.length), S) := by
  simp only [tI, len_tup, List.length_map]
theorem ext_cell {S : Store} {l : Nat} {c : List MV} {xs : List PyData} (h : S[l]? = some c) (hl : c.length + xs.length ≤ LINE) : mtExtend (.ref l) [.d (.list xs)] S = some (.d .none, S.set l (c ++ xs.map .d)) := by
  unfold mtExtend
  simp only [h, TM.listOf, List.length_map]
  rw [if_pos hl]
theorem row_mk (C : CallF) (ρ : TM.Env) (S : Store) (p : Int) (l : List Int) : (pures [.d (.int p), .d (.int l.length), .d (tI l)]) = some [.int p, .int l.length, tI l] := rfl
theorem s_cheapest_of (n : Nat) {m : Int} {ss : List (Int × Int)} (g : Good m ss) (ps : List Int) (a : Aim) {c : Int} (hc : c ∈ rng m) : run tab (n + 4) 13 [] [dD m ss, tI ps, .str a.nm, .int c] = some (rowT (cheap m ss ps a.st a.up c), []) := by
  have line := lineI
  have he := every_len g.hi
  rw [r_cheapest_of]
  simp only [f_cheapest_of]
  rw [ss_next (ρ' := (stC m ss ps a c []).1) (S' := (stC m ss ps a c []).2) (by
    simp only [eSs_nil, eS_set, eS_par, eS_parT, eS_ex, eS_ifs, eS_ret, eS_pass, eS_never, eE_v, eE_c, eE_g, eE_tup, eE_lst, eE_bin, eE_neg, eE_cmp, eE_chain, eE_and, eE_or, eE_not, eE_ife, eE_idx, eE_sli, eE_rev, eE_call, eE_callK, eE_bi, eE_met, eEs_nil, eEs_cons, eT_and, eT_or, eT_not, eT_tt, eT_cmp, eT_chain, eT_e, eG_nm, eG_sub, eG_tp, eGs_nil, eGs_cons, setAll, List.set_cons_zero, List.set_cons_succ, obind, omap, List.getElem?_cons_zero, List.getElem?_cons_succ, if_true, Bool.false_eq_true, if_false, biM, tr_bool, tr_int, tr_list, tr_tuple, isi_str, isi_tup, isi_int, isi_bool_int, len_tup, len_list, add_int, sub_int, ix0, ix1, ix2, le_int, lt_int, gt_int, ge_int, eq_int, ne_int, eq_bool, ne_bool, eq_str, ne_str, decide_true, decide_false, Bool.not_true, Bool.not_false, Bool.and_self, Bool.true_and, Bool.and_true, Bool.false_and, call1, call2, call3, call4, wipeE, isNil, partOf, List.map_cons, List.map_nil, stC, mkL, List.length_nil, Nat.zero_le]
    rfl)]
  rw [ss_next (fr_pre [] (fun l : List Int => .d (tI l)) (stC m ss ps a c) (every m) (by
    simp only [eSs_nil, eS_set, eS_par, eS_parT, eS_ex, eS_ifs, eS_ret, eS_pass, eS_never, eE_v, eE_c, eE_g, eE_tup, eE_lst, eE_bin, eE_neg, eE_cmp, eE_chain, eE_and, eE_or, eE_not, eE_ife, eE_idx, eE_sli, eE_rev, eE_call, eE_callK, eE_bi, eE_met, eEs_nil, eEs_cons, eT_and, eT_or, eT_not, eT_tt, eT_cmp, eT_chain, eT_e, eG_nm, eG_sub, eG_tp, eGs_nil, eGs_cons, setAll, List.set_cons_zero, List.set_cons_succ, obind, omap, List.getElem?_cons_zero, List.getElem?_cons_succ, if_true, Bool.false_eq_true, if_false, biM, tr_bool, tr_int, tr_list, tr_tuple, isi_str, isi_tup, isi_int, isi_bool_int, len_tup, len_list, add_int, sub_int, ix0, ix1, ix2, le_int, lt_int, gt_int, ge_int, eq_int, ne_int, eq_bool, ne_bool, eq_str, ne_str, decide_true, decide_false, Bool.not_true, Bool.not_false, Bool.and_self, Bool.true_and, Bool.and_true, Bool.false_and, call1, call2, call3, call4, wipeE, isNil, partOf, List.map_cons, List.map_nil, eI_seq, stC, dD, s_all_lots (n + 2) g.lo g.hi, itemsOf, srcOf, List.map_map]
    rfl) (fun _ _ => rfl) (fun pre l post e => by
    have hpl : pre.length ≤ 1024 := by
      have := congrArg List.length e
      rw [List.length_append, List.length_cons] at this
      omega
    have hf := rowsOf_len m ss ps a.st a.up c pre
    rw [show (stC m ss ps a c (pre ++ [l])).1 = [some (.d (dD m ss)), some (.d (tI ps)), some (.d (.str a.nm)), some (.d (.int c)), some (.ref 0), some (.d (tI l)), some (.d (prD m ss ps a.st a.up c l))] from by simp [stC]]
    rw [show (stC m ss ps a c (pre ++ [l])).2 = [((rowsOf m ss ps a.st a.up c pre).map rowT).map .d ++ ((rowOf m ss ps a.st a.up c l).map rowT).map .d] from by
      simp only [stC, rowsOf_snoc, List.map_append]]
    simp only [eSs_nil, eS_set, eS_par, eS_parT, eS_ex, eS_ifs, eS_ret, eS_pass, eS_never, eE_v, eE_c, eE_g, eE_tup, eE_lst, eE_bin, eE_neg, eE_cmp, eE_chain, eE_and, eE_or, eE_not, eE_ife, eE_idx, eE_sli, eE_rev, eE_call, eE_callK, eE_bi, eE_met, eEs_nil, eEs_cons, eT_and, eT_or, eT_not, eT_tt, eT_cmp, eT_chain, eT_e, eG_nm, eG_sub, eG_tp, eGs_nil, eGs_cons, setAll, List.set_cons_zero, List.set_cons_succ, obind, omap, List.getElem?_cons_zero, List.getElem?_cons_succ, if_true, Bool.false_eq_true, if_false, biM, tr_bool, tr_int, tr_list, tr_tuple, isi_str, isi_tup, isi_int, isi_bool_int, len_tup, len_list, add_int, sub_int, ix0, ix1, ix2, le_int, lt_int, gt_int, ge_int, eq_int, ne_int, eq_bool, ne_bool, eq_str, ne_str, decide_true, decide_false, Bool.not_true, Bool.not_false, Bool.and_self, Bool.true_and, Bool.and_true, Bool.false_and, call1, call2, call3, call4, wipeE, isNil, partOf, List.map_cons, List.map_nil, stC]
    rw [ss_next (ρ' := [some (.d (dD m ss)), some (.d (tI ps)), some (.d (.str a.nm)), some (.d (.int c)), some (.ref 0), some (.d (tI l)), some (.d (prD m ss ps a.st a.up c l))]) (S' := [((rowsOf m ss ps a.st a.up c pre).map rowT).map .d]) (by
      simp only [eSs_nil, eS_set, eS_par, eS_parT, eS_ex, eS_ifs, eS_ret, eS_pass, eS_never, eE_v, eE_c, eE_g, eE_tup, eE_lst, eE_bin, eE_neg, eE_cmp, eE_chain, eE_and, eE_or, eE_not, eE_ife, eE_idx, eE_sli, eE_rev, eE_call, eE_callK, eE_bi, eE_met, eEs_nil, eEs_cons, eT_and, eT_or, eT_not, eT_tt, eT_cmp, eT_chain, eT_e, eG_nm, eG_sub, eG_tp, eGs_nil, eGs_cons, setAll, List.set_cons_zero, List.set_cons_succ, obind, omap, List.getElem?_cons_zero, List.getElem?_cons_succ, if_true, Bool.false_eq_true, if_false, biM, tr_bool, tr_int, tr_list, tr_tuple, isi_str, isi_tup, isi_int, isi_bool_int, len_tup, len_list, add_int, sub_int, ix0, ix1, ix2, le_int, lt_int, gt_int, ge_int, eq_int, ne_int, eq_bool, ne_bool, eq_str, ne_str, decide_true, decide_false, Bool.not_true, Bool.not_false, Bool.and_self, Bool.true_and, Bool.and_true, Bool.false_and, call1, call2, call3, call4, wipeE, isNil, partOf, List.map_cons, List.map_nil, in_tI, prD]
      cases decide (c ∈ l) with
      | true => simp only [eSs_nil, eS_set, eS_par, eS_parT, eS_ex, eS_ifs, eS_ret, eS_pass, eS_never, eE_v, eE_c, eE_g, eE_tup, eE_lst, eE_bin, eE_neg, eE_cmp, eE_chain, eE_and, eE_or, eE_not, eE_ife, eE_idx, eE_sli, eE_rev, eE_call, eE_callK, eE_bi, eE_met, eEs_nil, eEs_cons, eT_and, eT_or, eT_not, eT_tt, eT_cmp, eT_chain, eT_e, eG_nm, eG_sub, eG_tp, eGs_nil, eGs_cons, setAll, List.set_cons_zero, List.set_cons_succ, obind, omap, List.getElem?_cons_zero, List.getElem?_cons_succ, if_true, Bool.false_eq_true, if_false, biM, tr_bool, tr_int, tr_list, tr_tuple, isi_str, isi_tup, isi_int, isi_bool_int, len_tup, len_list, add_int, sub_int, ix0, ix1, ix2, le_int, lt_int, gt_int, ge_int, eq_int, ne_int, eq_bool, ne_bool, eq_str, ne_str, decide_true, decide_false, Bool.not_true, Bool.not_false, Bool.and_self, Bool.true_and, Bool.and_true, Bool.false_and, call1, call2, call3, call4, wipeE, isNil, partOf, List.map_cons, List.map_nil, s_price_of n g ps a l]
      | false => simp only [eSs_nil, eS_set, eS_par, eS_parT, eS_ex, eS_ifs, eS_ret, eS_pass, eS_never, eE_v, eE_c, eE_g, eE_tup, eE_lst, eE_bin, eE_neg, eE_cmp, eE_chain, eE_and, eE_or, eE_not, eE_ife, eE_idx, eE_sli, eE_rev, eE_call, eE_callK, eE_bi, eE_met, eEs_nil, eEs_cons, eT_and, eT_or, eT_not, eT_tt, eT_cmp, eT_chain, eT_e, eG_nm, eG_sub, eG_tp, eGs_nil, eGs_cons, setAll, List.set_cons_zero, List.set_cons_succ, obind, omap, List.getElem?_cons_zero, List.getElem?_cons_succ, if_true, Bool.false_eq_true, if_false, biM, tr_bool, tr_int, tr_list, tr_tuple, isi_str, isi_tup, isi_int, isi_bool_int, len_tup, len_list, add_int, sub_int, ix0, ix1, ix2, le_int, lt_int, gt_int, ge_int, eq_int, ne_int, eq_bool, ne_bool, eq_str, ne_str, decide_true, decide_false, Bool.not_true, Bool.not_false, Bool.and_self, Bool.true_and, Bool.and_true, Bool.false_and, call1, call2, call3, call4, wipeE, isNil, partOf, List.map_cons, List.map_nil])]
    rw [ss_next (ρ' := [some (.d (dD m ss)), some (.d (tI ps)), some (.d (.str a.nm)), some (.d (.int c)), some (.ref 0), some (.d (tI l)), some (.d (prD m ss ps a.st a.up c l))]) (S' := [((rowsOf m ss ps a.st a.up c pre).map rowT).map .d ++ ((rowOf m ss ps a.st a.up c l).map rowT).map .d]) (by
      have e0 : mkL false [] [((rowsOf m ss ps a.st a.up c pre).map rowT).map MV.d] = some (.d (.list []), [((rowsOf m ss ps a.st a.up c pre).map rowT).map .d]) := mkL_data (xs := []) (by simp)
      have x0 := ext_cell (S := [((rowsOf m ss ps a.st a.up c pre).map rowT).map MV.d]) (l := 0) (xs := []) rfl (by rw [List.length_map, List.length_map, List.length_nil]; omega)
      rw [rowOf, prD]
      cases decide (c ∈ l) with
      | false => simp only [eSs_nil, eS_set, eS_par, eS_parT, eS_ex, eS_ifs, eS_ret, eS_pass, eS_never, eE_v, eE_c, eE_g, eE_tup, eE_lst, eE_bin, eE_neg, eE_cmp, eE_chain, eE_and, eE_or, eE_not, eE_ife, eE_idx, eE_sli, eE_rev, eE_call, eE_callK, eE_bi, eE_met, eEs_nil, eEs_cons, eT_and, eT_or, eT_not, eT_tt, eT_cmp, eT_chain, eT_e, eG_nm, eG_sub, eG_tp, eGs_nil, eGs_cons, setAll, List.set_cons_zero, List.set_cons_succ, obind, omap, List.getElem?_cons_zero, List.getElem?_cons_succ, if_true, Bool.false_eq_true, if_false, biM, tr_bool, tr_int, tr_list, tr_tuple, isi_str, isi_tup, isi_int, isi_bool_int, len_tup, len_list, add_int, sub_int, ix0, ix1, ix2, le_int, lt_int, gt_int, ge_int, eq_int, ne_int, eq_bool, ne_bool, eq_str, ne_str, decide_true, decide_false, Bool.not_true, Bool.not_false, Bool.and_self, Bool.true_and, Bool.and_true, Bool.false_and, call1, call2, call3, call4, wipeE, isNil, partOf, List.map_cons, List.map_nil, show cmpM .isN (.d .none) (.d .none) [((rowsOf m ss ps a.st a.up c pre).map rowT).map MV.d] = some false from rfl, e0, metM, x0]
      | true =>
        rw [costD]
        cases wnt m ss a.st a.up l with
        | none => simp only [eSs_nil, eS_set, eS_par, eS_parT, eS_ex, eS_ifs, eS_ret, eS_pass, eS_never, eE_v, eE_c, eE_g, eE_tup, eE_lst, eE_bin, eE_neg, eE_cmp, eE_chain, eE_and, eE_or, eE_not, eE_ife, eE_idx, eE_sli, eE_rev, eE_call, eE_callK, eE_bi, eE_met, eEs_nil, eEs_cons, eT_and, eT_or, eT_not, eT_tt, eT_cmp, eT_chain, eT_e, eG_nm, eG_sub, eG_tp, eGs_nil, eGs_cons, setAll, List.set_cons_zero, List.set_cons_succ, obind, omap, List.getElem?_cons_zero, List.getElem?_cons_succ, if_true, Bool.false_eq_true, if_false, biM, tr_bool, tr_int, tr_list, tr_tuple, isi_str, isi_tup, isi_int, isi_bool_int, len_tup, len_list, add_int, sub_int, ix0, ix1, ix2, le_int, lt_int, gt_int, ge_int, eq_int, ne_int, eq_bool, ne_bool, eq_str, ne_str, decide_true, decide_false, Bool.not_true, Bool.not_false, Bool.and_self, Bool.true_and, Bool.and_true, Bool.false_and, call1, call2, call3, call4, wipeE, isNil, partOf, List.map_cons, List.map_nil, show cmpM .isN (.d .none) (.d .none) [((rowsOf m ss ps a.st a.up c pre).map rowT).map MV.d] = some false from rfl, e0, metM, x0]
        | some W =>
          have e1 : mkL false [.d (rowT (psum ss ps W, l))] [((rowsOf m ss ps a.st a.up c pre).map rowT).map MV.d] = some (.d (.list [rowT (psum ss ps W, l)]), [((rowsOf m ss ps a.st a.up c pre).map rowT).map .d]) := mkL_data (xs := [rowT (psum ss ps W, l)]) (by simp only [List.length_cons, List.length_nil]; omega)
          have x1 := ext_cell (S := [((rowsOf m ss ps a.st a.up c pre).map rowT).map MV.d]) (l := 0) (xs := [rowT (psum ss ps W, l)]) rfl (by rw [List.length_map, List.length_map, List.length_cons, List.length_nil]; omega)
          rw [rowT] at e1
          simp only [eSs_nil, eS_set, eS_par, eS_parT, eS_ex, eS_ifs, eS_ret, eS_pass, eS_never, eE_v, eE_c, eE_g, eE_tup, eE_lst, eE_bin, eE_neg, eE_cmp, eE_chain, eE_and, eE_or, eE_not, eE_ife, eE_idx, eE_sli, eE_rev, eE_call, eE_callK, eE_bi, eE_met, eEs_nil, eEs_cons, eT_and, eT_or, eT_not, eT_tt, eT_cmp, eT_chain, eT_e, eG_nm, eG_sub, eG_tp, eGs_nil, eGs_cons, setAll, List.set_cons_zero, List.set_cons_succ, obind, omap, List.getElem?_cons_zero, List.getElem?_cons_succ, if_true, Bool.false_eq_true, if_false, biM, tr_bool, tr_int, tr_list, tr_tuple, isi_str, isi_tup, isi_int, isi_bool_int, len_tup, len_list, add_int, sub_int, ix0, ix1, ix2, le_int, lt_int, gt_int, ge_int, eq_int, ne_int, eq_bool, ne_bool, eq_str, ne_str, decide_true, decide_false, Bool.not_true, Bool.not_false, Bool.and_self, Bool.true_and, Bool.and_true, Bool.false_and, call1, call2, call3, call4, wipeE, isNil, partOf, List.map_cons, List.map_nil, show ∀ i : Int, cmpM .isN (.d (.int i)) (.d .none) [((rowsOf m ss ps a.st a.up c pre).map rowT).map MV.d] = some true from fun _ => rfl, len_tI, le3, pures, e1, metM]
          rw [rowT] at x1
          simp only [x1, obind]
          rfl)]
    rw [eSs_nil]))]
  rw [ss_ret (v := .d (rowT (cheap m ss ps a.st a.up c))) (S' := (stC m ss ps a c (every m)).2) (by
    simp only [eSs_nil, eS_set, eS_par, eS_parT, eS_ex, eS_ifs, eS_ret, eS_pass, eS_never, eE_v, eE_c, eE_g, eE_tup, eE_lst, eE_bin, eE_neg, eE_cmp, eE_chain, eE_and, eE_or, eE_not, eE_ife, eE_idx, eE_sli, eE_rev, eE_call, eE_callK, eE_bi, eE_met, eEs_nil, eEs_cons, eT_and, eT_or, eT_not, eT_tt, eT_cmp, eT_chain, eT_e, eG_nm, eG_sub, eG_tp, eGs_nil, eGs_cons, setAll, List.set_cons_zero, List.set_cons_succ, obind, omap, List.getElem?_cons_zero, List.getElem?_cons_succ, if_true, Bool.false_eq_true, if_false, biM, tr_bool, tr_int, tr_list, tr_tuple, isi_str, isi_tup, isi_int, isi_bool_int, len_tup, len_list, add_int, sub_int, ix0, ix1, ix2, le_int, lt_int, gt_int, ge_int, eq_int, ne_int, eq_bool, ne_bool, eq_str, ne_str, decide_true, decide_false, Bool.not_true, Bool.not_false, Bool.and_self, Bool.true_and, Bool.and_true, Bool.false_and, call1, call2, call3, call4, wipeE, isNil, partOf, List.map_cons, List.map_nil, stC]
    rw [min_rows (rs := rowsOf m ss ps a.st a.up c (every m)) (rows_some hc (mem_every.mpr (List.Sublist.refl _))) rfl]
    rfl)]
  rfl
theorem s_claim_price (n : Nat) {m : Int} {ss : List (Int × Int)} (g : Good m ss) {ps : List Int} (hp : Pri ss ps) (a : Aim) {c : Int} (hc : c ∈ rng m) : run tab (n + 7) 16 [] [dD m ss, tI ps, .str a.nm, .int c] = some (.int (cheap m ss ps a.st a.up c).1, []) := by
  rw [r_claim_price]
  simp only [eSs_nil, eS_set, eS_par, eS_parT, eS_ex, eS_ifs, eS_ret, eS_pass, eS_never, eE_v, eE_c, eE_g, eE_tup, eE_lst, eE_bin, eE_neg, eE_cmp, eE_chain, eE_and, eE_or, eE_not, eE_ife, eE_idx, eE_sli, eE_rev, eE_call, eE_callK, eE_bi, eE_met, eEs_nil, eEs_cons, eT_and, eT_or, eT_not, eT_tt, eT_cmp, eT_chain, eT_e, eG_nm, eG_sub, eG_tp, eGs_nil, eGs_cons, setAll, List.set_cons_zero, List.set_cons_succ, obind, omap, List.getElem?_cons_zero, List.getElem?_cons_succ, if_true, Bool.false_eq_true, if_false, biM, tr_bool, tr_int, tr_list, tr_tuple, isi_str, isi_tup, isi_int, isi_bool_int, len_tup, len_list, add_int, sub_int, ix0, ix1, ix2, le_int, lt_int, gt_int, ge_int, eq_int, ne_int, eq_bool, ne_bool, eq_str, ne_str, decide_true, decide_false, Bool.not_true, Bool.not_false, Bool.and_self, Bool.true_and, Bool.and_true, Bool.false_and, call1, call2, call3, call4, wipeE, isNil, partOf, List.map_cons, List.map_nil, f_claim_price, s_want_prices n g hp a, s_want_claim (n + 2) (ss := ss) hc, s_cheapest_of (n + 2) g ps a hc, rowT, eSs_cons]
  rfl
theorem s_cheapest_lot (n : Nat) {m : Int} {ss : List (Int × Int)} (g : Good m ss) {ps : List Int} (hp : Pri ss ps) (a : Aim) {c : Int} (hc : c ∈ rng m) : run tab (n + 7) 17 [] [dD m ss, tI ps, .str a.nm, .int c] = some (tI (cheap m ss ps a.st a.up c).2, []) := by
  rw [r_cheapest_lot]
  simp only [eSs_nil, eS_set, eS_par, eS_parT, eS_ex, eS_ifs, eS_ret, eS_pass, eS_never, eE_v, eE_c, eE_g, eE_tup, eE_lst, eE_bin, eE_neg, eE_cmp, eE_chain, eE_and, eE_or, eE_not, eE_ife, eE_idx, eE_sli, eE_rev, eE_call, eE_callK, eE_bi, eE_met, eEs_nil, eEs_cons, eT_and, eT_or, eT_not, eT_tt, eT_cmp, eT_chain, eT_e, eG_nm, eG_sub, eG_tp, eGs_nil, eGs_cons, setAll, List.set_cons_zero, List.set_cons_succ, obind, omap, List.getElem?_cons_zero, List.getElem?_cons_succ, if_true, Bool.false_eq_true, if_false, biM, tr_bool, tr_int, tr_list, tr_tuple, isi_str, isi_tup, isi_int, isi_bool_int, len_tup, len_list, add_int, sub_int, ix0, ix1, ix2, le_int, lt_int, gt_int, ge_int, eq_int, ne_int, eq_bool, ne_bool, eq_str, ne_str, decide_true, decide_false, Bool.not_true, Bool.not_false, Bool.and_self, Bool.true_and, Bool.and_true, Bool.false_and, call1, call2, call3, call4, wipeE, isNil, partOf, List.map_cons, List.map_nil, f_cheapest_lot, s_want_prices n g hp a, s_want_claim (n + 2) (ss := ss) hc, s_cheapest_of (n + 2) g ps a hc, rowT, eSs_cons]
  rfl
/-- the law's own -/
def prL (m : Int) (ss : List (Int × Int)) (st up : Bool) (c : Int) (l : List Int) : PyData := if decide (c ∈ l) then wntD m ss st up l else .none
def stL (m : Int) (ss : List (Int × Int)) (ps : List Int) (a : Aim) (c : Int) (pre : List (List Int)) : TM.Env × Store :=
  ([some (.d (dD m ss)), some (.d (tI ps)), some (.d (.str a.nm)), some (.d (.int c)), some (.ref 0), pre.getLast?.map fun l => .d (tI l), pre.getLast?.map fun l => .d (prL m ss a.st a.up c l)], [((rowsOf m ss ps a.st a.up c pre).map rowT).map .d])
theorem s_law_cheapest (n : Nat) {m : Int} {ss : List (Int × Int)} (g : Good m ss) (ps : List Int) (a : Aim) {c : Int} (hc : c ∈ rng m) : run tab (n + 3) 30 [] [dD m ss, tI ps, .str a.nm, .int c] = some (rowT (cheap m ss ps a.st a.up c), []) := by
  have line := lineI
  have he := subs10 g.hi
  rw [r__law_cheapest]
  simp only [f__law_cheapest]
  rw [ss_next (ρ' := (stL m ss ps a c []).1) (S' := (stL m ss ps a c []).2) (by
    simp only [eSs_nil, eS_set, eS_par, eS_parT, eS_ex, eS_ifs, eS_ret, eS_pass, eS_never, eE_v, eE_c, eE_g, eE_tup, eE_lst, eE_bin, eE_neg, eE_cmp, eE_chain, eE_and, eE_or, eE_not, eE_ife, eE_idx, eE_sli, eE_rev, eE_call, eE_callK, eE_bi, eE_met, eEs_nil, eEs_cons, eT_and, eT_or, eT_not, eT_tt, eT_cmp, eT_chain, eT_e, eG_nm, eG_sub, eG_tp, eGs_nil, eGs_cons, setAll, List.set_cons_zero, List.set_cons_succ, obind, omap, List.getElem?_cons_zero, List.getElem?_cons_succ, if_true, Bool.false_eq_true, if_false, biM, tr_bool, tr_int, tr_list, tr_tuple, isi_str, isi_tup, isi_int, isi_bool_int, len_tup, len_list, add_int, sub_int, ix0, ix1, ix2, le_int, lt_int, gt_int, ge_int, eq_int, ne_int, eq_bool, ne_bool, eq_str, ne_str, decide_true, decide_false, Bool.not_true, Bool.not_false, Bool.and_self, Bool.true_and, Bool.and_true, Bool.false_and, call1, call2, call3, call4, wipeE, isNil, partOf, List.map_cons, List.map_nil, stL, mkL, List.length_nil, Nat.zero_le]
    rfl)]
  rw [ss_next (fr_pre [] (fun l : List Int => .d (tI l)) (stL m ss ps a c) (subs (rng m)) (by
    simp only [eSs_nil, eS_set, eS_par, eS_parT, eS_ex, eS_ifs, eS_ret, eS_pass, eS_never, eE_v, eE_c, eE_g, eE_tup, eE_lst, eE_bin, eE_neg, eE_cmp, eE_chain, eE_and, eE_or, eE_not, eE_ife, eE_idx, eE_sli, eE_rev, eE_call, eE_callK, eE_bi, eE_met, eEs_nil, eEs_cons, eT_and, eT_or, eT_not, eT_tt, eT_cmp, eT_chain, eT_e, eG_nm, eG_sub, eG_tp, eGs_nil, eGs_cons, setAll, List.set_cons_zero, List.set_cons_succ, obind, omap, List.getElem?_cons_zero, List.getElem?_cons_succ, if_true, Bool.false_eq_true, if_false, biM, tr_bool, tr_int, tr_list, tr_tuple, isi_str, isi_tup, isi_int, isi_bool_int, len_tup, len_list, add_int, sub_int, ix0, ix1, ix2, le_int, lt_int, gt_int, ge_int, eq_int, ne_int, eq_bool, ne_bool, eq_str, ne_str, decide_true, decide_false, Bool.not_true, Bool.not_false, Bool.and_self, Bool.true_and, Bool.and_true, Bool.false_and, call1, call2, call3, call4, wipeE, isNil, partOf, List.map_cons, List.map_nil, eI_seq, stL, dD, s_law_lots (n + 1) g.lo g.hi, itemsOf, srcOf, List.map_map]
    rfl) (fun _ _ => rfl) (fun pre l post e => by
    have hpl : pre.length ≤ 1024 := by
      have := congrArg List.length e
      rw [List.length_append, List.length_cons] at this
      omega
    have hf := rowsOf_len m ss ps a.st a.up c pre
    rw [show (stL m ss ps a c (pre ++ [l])).1 = [some (.d (dD m ss)), some (.d (tI ps)), some (.d (.str a.nm)), some (.d (.int c)), some (.ref 0), some (.d (tI l)), some (.d (prL m ss a.st a.up c l))] from by simp [stL]]
    rw [show (stL m ss ps a c (pre ++ [l])).2 = [((rowsOf m ss ps a.st a.up c pre).map rowT).map .d ++ ((rowOf m ss ps a.st a.up c l).map rowT).map .d] from by
      simp only [stL, rowsOf_snoc, List.map_append]]
    simp only [eSs_nil, eS_set, eS_par, eS_parT, eS_ex, eS_ifs, eS_ret, eS_pass, eS_never, eE_v, eE_c, eE_g, eE_tup, eE_lst, eE_bin, eE_neg, eE_cmp, eE_chain, eE_and, eE_or, eE_not, eE_ife, eE_idx, eE_sli, eE_rev, eE_call, eE_callK, eE_bi, eE_met, eEs_nil, eEs_cons, eT_and, eT_or, eT_not, eT_tt, eT_cmp, eT_chain, eT_e, eG_nm, eG_sub, eG_tp, eGs_nil, eGs_cons, setAll, List.set_cons_zero, List.set_cons_succ, obind, omap, List.getElem?_cons_zero, List.getElem?_cons_succ, if_true, Bool.false_eq_true, if_false, biM, tr_bool, tr_int, tr_list, tr_tuple, isi_str, isi_tup, isi_int, isi_bool_int, len_tup, len_list, add_int, sub_int, ix0, ix1, ix2, le_int, lt_int, gt_int, ge_int, eq_int, ne_int, eq_bool, ne_bool, eq_str, ne_str, decide_true, decide_false, Bool.not_true, Bool.not_false, Bool.and_self, Bool.true_and, Bool.and_true, Bool.false_and, call1, call2, call3, call4, wipeE, isNil, partOf, List.map_cons, List.map_nil, stL]
    rw [ss_next (ρ' := [some (.d (dD m ss)), some (.d (tI ps)), some (.d (.str a.nm)), some (.d (.int c)), some (.ref 0), some (.d (tI l)), some (.d (prL m ss a.st a.up c l))]) (S' := [((rowsOf m ss ps a.st a.up c pre).map rowT).map .d]) (by
      simp only [eSs_nil, eS_set, eS_par, eS_parT, eS_ex, eS_ifs, eS_ret, eS_pass, eS_never, eE_v, eE_c, eE_g, eE_tup, eE_lst, eE_bin, eE_neg, eE_cmp, eE_chain, eE_and, eE_or, eE_not, eE_ife, eE_idx, eE_sli, eE_rev, eE_call, eE_callK, eE_bi, eE_met, eEs_nil, eEs_cons, eT_and, eT_or, eT_not, eT_tt, eT_cmp, eT_chain, eT_e, eG_nm, eG_sub, eG_tp, eGs_nil, eGs_cons, setAll, List.set_cons_zero, List.set_cons_succ, obind, omap, List.getElem?_cons_zero, List.getElem?_cons_succ, if_true, Bool.false_eq_true, if_false, biM, tr_bool, tr_int, tr_list, tr_tuple, isi_str, isi_tup, isi_int, isi_bool_int, len_tup, len_list, add_int, sub_int, ix0, ix1, ix2, le_int, lt_int, gt_int, ge_int, eq_int, ne_int, eq_bool, ne_bool, eq_str, ne_str, decide_true, decide_false, Bool.not_true, Bool.not_false, Bool.and_self, Bool.true_and, Bool.and_true, Bool.false_and, call1, call2, call3, call4, wipeE, isNil, partOf, List.map_cons, List.map_nil, in_tI, prL]
      cases decide (c ∈ l) with
      | true => simp only [eSs_nil, eS_set, eS_par, eS_parT, eS_ex, eS_ifs, eS_ret, eS_pass, eS_never, eE_v, eE_c, eE_g, eE_tup, eE_lst, eE_bin, eE_neg, eE_cmp, eE_chain, eE_and, eE_or, eE_not, eE_ife, eE_idx, eE_sli, eE_rev, eE_call, eE_callK, eE_bi, eE_met, eEs_nil, eEs_cons, eT_and, eT_or, eT_not, eT_tt, eT_cmp, eT_chain, eT_e, eG_nm, eG_sub, eG_tp, eGs_nil, eGs_cons, setAll, List.set_cons_zero, List.set_cons_succ, obind, omap, List.getElem?_cons_zero, List.getElem?_cons_succ, if_true, Bool.false_eq_true, if_false, biM, tr_bool, tr_int, tr_list, tr_tuple, isi_str, isi_tup, isi_int, isi_bool_int, len_tup, len_list, add_int, sub_int, ix0, ix1, ix2, le_int, lt_int, gt_int, ge_int, eq_int, ne_int, eq_bool, ne_bool, eq_str, ne_str, decide_true, decide_false, Bool.not_true, Bool.not_false, Bool.and_self, Bool.true_and, Bool.and_true, Bool.false_and, call1, call2, call3, call4, wipeE, isNil, partOf, List.map_cons, List.map_nil, s_law_wanted n g a l]
      | false => simp only [eSs_nil, eS_set, eS_par, eS_parT, eS_ex, eS_ifs, eS_ret, eS_pass, eS_never, eE_v, eE_c, eE_g, eE_tup, eE_lst, eE_bin, eE_neg, eE_cmp, eE_chain, eE_and, eE_or, eE_not, eE_ife, eE_idx, eE_sli, eE_rev, eE_call, eE_callK, eE_bi, eE_met, eEs_nil, eEs_cons, eT_and, eT_or, eT_not, eT_tt, eT_cmp, eT_chain, eT_e, eG_nm, eG_sub, eG_tp, eGs_nil, eGs_cons, setAll, List.set_cons_zero, List.set_cons_succ, obind, omap, List.getElem?_cons_zero, List.getElem?_cons_succ, if_true, Bool.false_eq_true, if_false, biM, tr_bool, tr_int, tr_list, tr_tuple, isi_str, isi_tup, isi_int, isi_bool_int, len_tup, len_list, add_int, sub_int, ix0, ix1, ix2, le_int, lt_int, gt_int, ge_int, eq_int, ne_int, eq_bool, ne_bool, eq_str, ne_str, decide_true, decide_false, Bool.not_true, Bool.not_false, Bool.and_self, Bool.true_and, Bool.and_true, Bool.false_and, call1, call2, call3, call4, wipeE, isNil, partOf, List.map_cons, List.map_nil])]
    rw [ss_next (ρ' := [some (.d (dD m ss)), some (.d (tI ps)), some (.d (.str a.nm)), some (.d (.int c)), some (.ref 0), some (.d (tI l)), some (.d (prL m ss a.st a.up c l))]) (S' := [((rowsOf m ss ps a.st a.up c pre).map rowT).map .d ++ ((rowOf m ss ps a.st a.up c l).map rowT).map .d]) (by
      have e0 : mkL false [] [((rowsOf m ss ps a.st a.up c pre).map rowT).map MV.d] = some (.d (.list []), [((rowsOf m ss ps a.st a.up c pre).map rowT).map .d]) := mkL_data (xs := []) (by simp)
      have x0 := ext_cell (S := [((rowsOf m ss ps a.st a.up c pre).map rowT).map MV.d]) (l := 0) (xs := []) rfl (by rw [List.length_map, List.length_map, List.length_nil]; omega)
      rw [rowOf, prL]
      cases decide (c ∈ l) with
      | false => simp only [eSs_nil, eS_set, eS_par, eS_parT, eS_ex, eS_ifs, eS_ret, eS_pass, eS_never, eE_v, eE_c, eE_g, eE_tup, eE_lst, eE_bin, eE_neg, eE_cmp, eE_chain, eE_and, eE_or, eE_not, eE_ife, eE_idx, eE_sli, eE_rev, eE_call, eE_callK, eE_bi, eE_met, eEs_nil, eEs_cons, eT_and, eT_or, eT_not, eT_tt, eT_cmp, eT_chain, eT_e, eG_nm, eG_sub, eG_tp, eGs_nil, eGs_cons, setAll, List.set_cons_zero, List.set_cons_succ, obind, omap, List.getElem?_cons_zero, List.getElem?_cons_succ, if_true, Bool.false_eq_true, if_false, biM, tr_bool, tr_int, tr_list, tr_tuple, isi_str, isi_tup, isi_int, isi_bool_int, len_tup, len_list, add_int, sub_int, ix0, ix1, ix2, le_int, lt_int, gt_int, ge_int, eq_int, ne_int, eq_bool, ne_bool, eq_str, ne_str, decide_true, decide_false, Bool.not_true, Bool.not_false, Bool.and_self, Bool.true_and, Bool.and_true, Bool.false_and, call1, call2, call3, call4, wipeE, isNil, partOf, List.map_cons, List.map_nil, show cmpM .isN (.d .none) (.d .none) [((rowsOf m ss ps a.st a.up c pre).map rowT).map MV.d] = some false from rfl, e0, metM, x0]
      | true =>
        rw [wntD]
        cases wnt m ss a.st a.up l with
        | none => simp only [eSs_nil, eS_set, eS_par, eS_parT, eS_ex, eS_ifs, eS_ret, eS_pass, eS_never, eE_v, eE_c, eE_g, eE_tup, eE_lst, eE_bin, eE_neg, eE_cmp, eE_chain, eE_and, eE_or, eE_not, eE_ife, eE_idx, eE_sli, eE_rev, eE_call, eE_callK, eE_bi, eE_met, eEs_nil, eEs_cons, eT_and, eT_or, eT_not, eT_tt, eT_cmp, eT_chain, eT_e, eG_nm, eG_sub, eG_tp, eGs_nil, eGs_cons, setAll, List.set_cons_zero, List.set_cons_succ, obind, omap, List.getElem?_cons_zero, List.getElem?_cons_succ, if_true, Bool.false_eq_true, if_false, biM, tr_bool, tr_int, tr_list, tr_tuple, isi_str, isi_tup, isi_int, isi_bool_int, len_tup, len_list, add_int, sub_int, ix0, ix1, ix2, le_int, lt_int, gt_int, ge_int, eq_int, ne_int, eq_bool, ne_bool, eq_str, ne_str, decide_true, decide_false, Bool.not_true, Bool.not_false, Bool.and_self, Bool.true_and, Bool.and_true, Bool.false_and, call1, call2, call3, call4, wipeE, isNil, partOf, List.map_cons, List.map_nil, show cmpM .isN (.d .none) (.d .none) [((rowsOf m ss ps a.st a.up c pre).map rowT).map MV.d] = some false from rfl, e0, metM, x0]
        | some W =>
          have e1 : mkL false [.d (rowT (psum ss ps W, l))] [((rowsOf m ss ps a.st a.up c pre).map rowT).map MV.d] = some (.d (.list [rowT (psum ss ps W, l)]), [((rowsOf m ss ps a.st a.up c pre).map rowT).map .d]) := mkL_data (xs := [rowT (psum ss ps W, l)]) (by simp only [List.length_cons, List.length_nil]; omega)
          have x1 := ext_cell (S := [((rowsOf m ss ps a.st a.up c pre).map rowT).map MV.d]) (l := 0) (xs := [rowT (psum ss ps W, l)]) rfl (by rw [List.length_map, List.length_map, List.length_cons, List.length_nil]; omega)
          rw [rowT] at e1
          simp only [eSs_nil, eS_set, eS_par, eS_parT, eS_ex, eS_ifs, eS_ret, eS_pass, eS_never, eE_v, eE_c, eE_g, eE_tup, eE_lst, eE_bin, eE_neg, eE_cmp, eE_chain, eE_and, eE_or, eE_not, eE_ife, eE_idx, eE_sli, eE_rev, eE_call, eE_callK, eE_bi, eE_met, eEs_nil, eEs_cons, eT_and, eT_or, eT_not, eT_tt, eT_cmp, eT_chain, eT_e, eG_nm, eG_sub, eG_tp, eGs_nil, eGs_cons, setAll, List.set_cons_zero, List.set_cons_succ, obind, omap, List.getElem?_cons_zero, List.getElem?_cons_succ, if_true, Bool.false_eq_true, if_false, biM, tr_bool, tr_int, tr_list, tr_tuple, isi_str, isi_tup, isi_int, isi_bool_int, len_tup, len_list, add_int, sub_int, ix0, ix1, ix2, le_int, lt_int, gt_int, ge_int, eq_int, ne_int, eq_bool, ne_bool, eq_str, ne_str, decide_true, decide_false, Bool.not_true, Bool.not_false, Bool.and_self, Bool.true_and, Bool.and_true, Bool.false_and, call1, call2, call3, call4, wipeE, isNil, partOf, List.map_cons, List.map_nil, show ∀ x : List PyData, cmpM .isN (.d (.list x)) (.d .none) [((rowsOf m ss ps a.st a.up c pre).map rowT).map MV.d] = some true from fun _ => rfl, s_law_sum (n + 1) g ps W, len_tI, le3, pures, e1, metM]
          rw [rowT] at x1
          simp only [x1, obind]
          rfl)]
    rw [eSs_nil]))]
  rw [ss_ret (v := .d (rowT (cheap m ss ps a.st a.up c))) (S' := (stL m ss ps a c (subs (rng m))).2) (by
    simp only [eSs_nil, eS_set, eS_par, eS_parT, eS_ex, eS_ifs, eS_ret, eS_pass, eS_never, eE_v, eE_c, eE_g, eE_tup, eE_lst, eE_bin, eE_neg, eE_cmp, eE_chain, eE_and, eE_or, eE_not, eE_ife, eE_idx, eE_sli, eE_rev, eE_call, eE_callK, eE_bi, eE_met, eEs_nil, eEs_cons, eT_and, eT_or, eT_not, eT_tt, eT_cmp, eT_chain, eT_e, eG_nm, eG_sub, eG_tp, eGs_nil, eGs_cons, setAll, List.set_cons_zero, List.set_cons_succ, obind, omap, List.getElem?_cons_zero, List.getElem?_cons_succ, if_true, Bool.false_eq_true, if_false, biM, tr_bool, tr_int, tr_list, tr_tuple, isi_str, isi_tup, isi_int, isi_bool_int, len_tup, len_list, add_int, sub_int, ix0, ix1, ix2, le_int, lt_int, gt_int, ge_int, eq_int, ne_int, eq_bool, ne_bool, eq_str, ne_str, decide_true, decide_false, Bool.not_true, Bool.not_false, Bool.and_self, Bool.true_and, Bool.and_true, Bool.false_and, call1, call2, call3, call4, wipeE, isNil, partOf, List.map_cons, List.map_nil, stL]
    rw [min_rows (rs := rowsOf m ss ps a.st a.up c (subs (rng m))) (rows_some hc (mem_subs.mpr (List.Sublist.refl _))) rfl, cheap_subs hc]
    rfl)]
  rfl
end K05
end
section
set_option Elab.async false
set_option linter.all false
set_option autoImplicit false
set_option maxRecDepth 1000000
set_option maxHeartbeats 4000000
namespace K05
open TM PySem
theorem psum_hi : ∀ (ss : List (Int × Int)) (ps : List Int) (W : List (Int × Int)), (∀ q ∈ ps, (0 : Int) ≤ q ∧ q ≤ 9) → 0 ≤ psum ss ps W ∧ psum ss ps W ≤ 9 * (ss.length : Int)
  | [], ps, W, _ => by simp [psum]
  | s :: ss, [], W, _ => by
    have : psum (s :: ss) [] W = 0 := by simp [psum]
    rw [this]
    omega
  | s :: ss, p :: ps, W, h => by
    have ih := psum_hi ss ps W fun q hq => h q (List.mem_cons_of_mem _ hq)
    have hp := h p List.mem_cons_self
    rw [psum_cons, List.length_cons]
    split <;> omega
theorem rep_price {m : Int} {ss : List (Int × Int)} (g : Good m ss) {ps : List Int} (hp : Pri ss ps) (a : Aim) {c : Int} (hc : c ∈ rng m) : Rep 67 0 (.int (cheap m ss ps a.st a.up c).1) := by
  obtain ⟨h1, h2, W, h3, h4⟩ := cheap_in (ss := ss) (ps := ps) (st := a.st) (up := a.up) hc
  rw [h4]
  have := psum_hi ss ps W hp.win
  have hms := g.many
  exact Rep.int (by omega)
def more (ps qs : List Int) : Prop := qs.length = ps.length ∧ ∀ (i : Nat) (p q : Int), ps[i]? = some p → qs[i]? = some q → p ≤ q
abbrev moreB : Ex := .bi .min2 false (.cons (.c (.int 9)) (.cons (.bin false .add (.v 9) (.call false 19 1 2 [] [] (.cons (.v 0) (.cons (.c (.int 3)) .nil)))) .nil))
theorem more_go (n : Nat) (x1 x4 x5 : Option MV) : ∀ (l : List Int) (c : List PyData), Pot c → (∀ p, p ∈ l → 0 ≤ p ∧ p ≤ 9) → ∃ (qs : List Int) (c' : List PyData), Pot c' ∧ more l qs ∧ (∀ q, q ∈ qs → 0 ≤ q ∧ q ≤ 9) ∧ lcGo [] (lcT (TM.run tab (n + 1)) [9] (.nm 9) .tt moreB [some (.ref 0), x1, none, none, x4, x5, none, none, none, none, none]) (l.map fun p => .d (.int p)) [c.map .d] = some (qs.map fun x => .d (.int x), [c'.map .d])
  | [], c, hc, _ => ⟨[], c, hc, ⟨rfl, fun i p q h => by simp at h⟩, fun p hp => absurd hp List.not_mem_nil, rfl⟩
  | x :: l, c, hc, hl => by
    obtain ⟨d, c1, hc1, d0, d1, e1⟩ := s_draw n hc (many := 3) (by decide) (by decide)
    obtain ⟨qs, c2, hc2, h1, h2, ek⟩ := more_go n x1 x4 x5 l c1 hc1 fun p hp => hl p (List.mem_cons_of_mem _ hp)
    have hx := hl x List.mem_cons_self
    obtain ⟨q, q0, q9, qx, eq⟩ : ∃ q : Int, 0 ≤ q ∧ q ≤ 9 ∧ x ≤ q ∧ (if x + d < 9 then x + d else 9) = q := by
      by_cases h : x + d < 9
      · exact ⟨x + d, by omega, by omega, by omega, if_pos h⟩
      · exact ⟨9, by omega, by omega, by omega, if_neg h⟩
    have et : lcT (TM.run tab (n + 1)) [9] (.nm 9) .tt moreB [some (.ref 0), x1, none, none, x4, x5, none, none, none, none, none] (.d (.int x)) [c.map .d] = some (some (.d (.int q)), [c1.map .d]) := by
      simp only [eSs_nil, eS_set, eS_par, eS_parT, eS_ex, eS_ifs, eS_ret, eS_pass, eS_never, eE_v, eE_c, eE_g, eE_tup, eE_lst, eE_bin, eE_neg, eE_cmp, eE_chain, eE_and, eE_or, eE_not, eE_ife, eE_idx, eE_sli, eE_rev, eE_call, eE_callK, eE_bi, eE_met, eEs_nil, eEs_cons, eT_and, eT_or, eT_not, eT_tt, eT_cmp, eT_chain, eT_e, eG_nm, eG_sub, eG_tp, eGs_nil, eGs_cons, setAll, List.set_cons_zero, List.set_cons_succ, obind, omap, List.getElem?_cons_zero, List.getElem?_cons_succ, if_true, Bool.false_eq_true, if_false, biM, tr_bool, tr_int, tr_list, tr_tuple, isi_str, isi_tup, isi_int, isi_bool_int, len_tup, len_list, add_int, sub_int, ix0, ix1, ix2, le_int, lt_int, gt_int, ge_int, eq_int, ne_int, eq_bool, ne_bool, eq_str, ne_str, decide_true, decide_false, Bool.not_true, Bool.not_false, Bool.and_self, Bool.true_and, Bool.and_true, Bool.false_and, call1, call2, call3, call4, wipeE, isNil, partOf, List.map_cons, List.map_nil, lcT, moreB]
      rw [call_io1 (c := c) rfl e1]
      simp only [eSs_nil, eS_set, eS_par, eS_parT, eS_ex, eS_ifs, eS_ret, eS_pass, eS_never, eE_v, eE_c, eE_g, eE_tup, eE_lst, eE_bin, eE_neg, eE_cmp, eE_chain, eE_and, eE_or, eE_not, eE_ife, eE_idx, eE_sli, eE_rev, eE_call, eE_callK, eE_bi, eE_met, eEs_nil, eEs_cons, eT_and, eT_or, eT_not, eT_tt, eT_cmp, eT_chain, eT_e, eG_nm, eG_sub, eG_tp, eGs_nil, eGs_cons, setAll, List.set_cons_zero, List.set_cons_succ, obind, omap, List.getElem?_cons_zero, List.getElem?_cons_succ, if_true, Bool.false_eq_true, if_false, biM, tr_bool, tr_int, tr_list, tr_tuple, isi_str, isi_tup, isi_int, isi_bool_int, len_tup, len_list, add_int, sub_int, ix0, ix1, ix2, le_int, lt_int, gt_int, ge_int, eq_int, ne_int, eq_bool, ne_bool, eq_str, ne_str, decide_true, decide_false, Bool.not_true, Bool.not_false, Bool.and_self, Bool.true_and, Bool.and_true, Bool.false_and, call1, call2, call3, call4, wipeE, isNil, partOf, List.map_cons, List.map_nil, biMin2, eq]
    refine ⟨q :: qs, c2, hc2, ⟨by rw [List.length_cons, List.length_cons, h1.1], fun i p r hi hr => ?_⟩, fun p hp => ?_, ?_⟩
    · cases i with
      | zero =>
        simp only [List.getElem?_cons_zero, Option.some.injEq] at hi hr
        omega
      | succ i => exact h1.2 i p r (by simpa using hi) (by simpa using hr)
    · rcases List.mem_cons.mp hp with rfl | hp
      · exact ⟨q0, q9⟩
      · exact h2 p hp
    · simp only [List.map_cons, lcGo, stab, if_true, et, ek, obind]
      rfl
def aims : List Aim := [.q, .u, .s]
theorem aim_items (C : CallF) (ρ : TM.Env) (S : Store) : evI C (.seq (.lst false (.cons (.c (.str "quiet")) (.cons (.c (.str "upheld")) (.cons (.c (.str "settled")) .nil))))) ρ S = some (aims.map (fun a => .d (.str a.nm)), [], S) := by
  have e3 : mkL false [.d (.str "quiet"), .d (.str "upheld"), .d (.str "settled")] S = some (.d (.list [.str "quiet", .str "upheld", .str "settled"]), S) := mkL_data (xs := [.str "quiet", .str "upheld", .str "settled"]) (by rw [lineI]; simp only [List.length_cons, List.length_nil]; omega)
  simp only [eSs_nil, eS_set, eS_par, eS_parT, eS_ex, eS_ifs, eS_ret, eS_pass, eS_never, eE_v, eE_c, eE_g, eE_tup, eE_lst, eE_bin, eE_neg, eE_cmp, eE_chain, eE_and, eE_or, eE_not, eE_ife, eE_idx, eE_sli, eE_rev, eE_call, eE_callK, eE_bi, eE_met, eEs_nil, eEs_cons, eT_and, eT_or, eT_not, eT_tt, eT_cmp, eT_chain, eT_e, eG_nm, eG_sub, eG_tp, eGs_nil, eGs_cons, setAll, List.set_cons_zero, List.set_cons_succ, obind, omap, List.getElem?_cons_zero, List.getElem?_cons_succ, if_true, Bool.false_eq_true, if_false, biM, tr_bool, tr_int, tr_list, tr_tuple, isi_str, isi_tup, isi_int, isi_bool_int, len_tup, len_list, add_int, sub_int, ix0, ix1, ix2, le_int, lt_int, gt_int, ge_int, eq_int, ne_int, eq_bool, ne_bool, eq_str, ne_str, decide_true, decide_false, Bool.not_true, Bool.not_false, Bool.and_self, Bool.true_and, Bool.and_true, Bool.false_and, call1, call2, call3, call4, wipeE, isNil, partOf, List.map_cons, List.map_nil, eI_seq, e3, itemsOf, srcOf]
  rfl
theorem mul_one2 {S : Store} (x : PyData) : op2 false .mul (.d (.list [x])) (.d (.int 2)) S = some (.d (.list [x, x]), S) := by
  have line := lineI
  show (match TM.listOf S (.d (.list [x])) with
    | some xs => if decide (-(2 ^ 63) ≤ (2 : Int)) && decide ((2 : Int) < 2 ^ 63) && decide (xs.length * (2 : Int).toNat ≤ LINE) then mkL false (List.replicate (2 : Int).toNat xs).flatten S else none
    | none => none) = _
  simp only [TM.listOf, List.map_cons, List.map_nil, List.length_cons, List.length_nil]
  rw [if_pos (by simp [line])]
  exact mk2 x x
def enR (c m : Int) (ss : List (Int × Int)) (ps qs : List Int) (sh : Str) (k : Nat) (v7 v8 : Option MV) : TM.Env := [some (.ref 0), some (.d (dD m ss)), some (.d (tI qs)), some (.d (.int c)), some (.d (tI ps)), some (.d (.str sh)), some (.ref k), v7, v8, none, none]
def soR (c m : Int) (ss : List (Int × Int)) (ps : List Int) (F : List MV) (T : Store) (pre : List Aim) : Store := F :: (T ++ [pre.map fun a => .d (.int (cheap m ss ps a.st a.up c).1)])
abbrev aimB : Sms := .cons (.set (.nm 8) (.call false 30 0 4 [] [] (.cons (.v 1) (.cons (.v 4) (.cons (.v 7) (.cons (.v 3) .nil)))))) (.cons (.ifs (.cmp .ne (.bi .repr false (.cons (.lst false (.cons (.call false 16 0 4 [] [] (.cons (.v 1) (.cons (.v 4) (.cons (.v 7) (.cons (.v 3) .nil))))) (.cons (.call false 16 0 0 ["claim", "aim", "prices", "dispute"] [3, 2, 1, 0] (.cons (.v 3) (.cons (.v 7) (.cons (.v 4) (.cons (.v 1) .nil))))) .nil))) .nil)) (.bi .repr false (.cons (.bin false .mul (.lst false (.cons (.idx (.v 8) (.c (.int 0))) .nil)) (.c (.int 2))) .nil))) (.cons (.ret (.c (.bool false))) .nil) (.nil)) (.cons (.ifs (.cmp .ne (.bi .repr false (.cons (.lst false (.cons (.call false 17 0 4 [] [] (.cons (.v 1) (.cons (.v 4) (.cons (.v 7) (.cons (.v 3) .nil))))) (.cons (.call false 17 0 0 ["claim", "aim", "prices", "dispute"] [3, 2, 1, 0] (.cons (.v 3) (.cons (.v 7) (.cons (.v 4) (.cons (.v 1) .nil))))) .nil))) .nil)) (.bi .repr false (.cons (.bin false .mul (.lst false (.cons (.idx (.v 8) (.c (.int 2))) .nil)) (.c (.int 2))) .nil))) (.cons (.ret (.c (.bool false))) .nil) (.nil)) (.cons (.ifs (.cmp .lt (.call false 16 0 4 [] [] (.cons (.v 1) (.cons (.v 2) (.cons (.v 7) (.cons (.v 3) .nil))))) (.idx (.v 8) (.c (.int 0)))) (.cons (.ret (.c (.bool false))) .nil) (.nil)) (.cons (.ifs (.and (.e (.bi .any false (.cons (.lc false [10] (.nm 10) (.seq (.call false 29 0 1 [] [] (.cons (.idx (.v 1) (.c (.int 1))) .nil))) .tt (.and (.cmp .inS (.v 3) (.v 10)) (.call false 26 0 3 [] [] (.cons (.v 1) (.cons (.v 7) (.cons (.v 10) .nil)))))) .nil))) (.cmp .ne (.idx (.v 8) (.c (.int 0))) (.c (.int 0)))) (.cons (.ret (.c (.bool false))) .nil) (.nil)) (.cons (.ex (.met .append false (.v 6) (.cons (.idx (.v 8) (.c (.int 0))) .nil))) .nil)))))
theorem aim_turn (n : Nat) {m : Int} {ss : List (Int × Int)} (g : Good m ss) {ps qs : List Int} (hp : Pri ss ps) (hq : Pri ss qs) (hmq : more ps qs) (sh : Str) {c : Int} (hc : c ∈ rng m) (F : List MV) (T : Store) (pre : List Aim) (hpre : pre.length ≤ 3) (a : Aim) (v7 v8 : Option MV) :
    ((asg (TM.run tab (n + 7)) (.nm 7) (.d (.str a.nm)) (enR c m ss ps qs sh (T.length + 1) v7 v8) (soR c m ss ps F T pre)).bind fun q => evSs (TM.run tab (n + 7)) aimB q.1 q.2) = some (.nx (enR c m ss ps qs sh (T.length + 1) (some (.d (.str a.nm))) (some (.d (rowT (cheap m ss ps a.st a.up c))))) (soR c m ss ps F T (pre ++ [a]))) := by
  have line := lineI
  have hm := g.hi
  have he := subs10 hm
  have r1 : Rep 141 1 (.list [.int (cheap m ss ps a.st a.up c).1, .int (cheap m ss ps a.st a.up c).1]) := (Rep.two (rep_price g hp a hc) (rep_price g hp a hc)).weak (by decide) (by decide)
  obtain ⟨l1, l2, _⟩ := cheap_in (ss := ss) (ps := ps) (st := a.st) (up := a.up) hc
  have rT : Rep 693 1 (tI (cheap m ss ps a.st a.up c).2) := rep_lot hm l1
  have r2 := Rep.two rT rT
  have ecl := s_law_cheapest (n + 4) g ps a hc
  have ecp := s_claim_price n g hp a hc
  have ecq := s_claim_price n g hq a hc
  have ect := s_cheapest_lot n g hp a hc
  have hle : (cheap m ss ps a.st a.up c).1 ≤ (cheap m ss qs a.st a.up c).1 := cheap_more hc hmq.1 hmq.2 fun q h => (hq.win q h).1
  have hso : ∀ l, l ∈ subs (rng m) → c ∈ l → soB m ss a.st a.up l = true → (cheap m ss ps a.st a.up c).1 = 0 := fun l h1 h2 h3 => cheap_so g a.two (fun q h => (hp.win q h).1) (mem_subs.mp h1) h2 h3
  rw [show soR c m ss ps F T (pre ++ [a]) = F :: (T ++ [pre.map (fun a => .d (.int (cheap m ss ps a.st a.up c).1)) ++ [.d (.int (cheap m ss ps a.st a.up c).1)]]) from by simp [soR]]
  simp only [enR, soR, eG_nm, Option.bind_some, List.set_cons_succ, List.set_cons_zero]
  generalize hQ : cheap m ss ps a.st a.up c = q at *
  generalize hS : (F :: (T ++ [pre.map fun a => MV.d (.int (cheap m ss ps a.st a.up c).1)]) : Store) = S
  have er1 : biRepr [.d (.list [.int q.1, .int q.1])] S = some (.d (.str (PyData.list [.int q.1, .int q.1]).shown), S) := rep_repr r1 rfl (by decide) (by decide)
  have er2 : biRepr [.d (.list [tI q.2, tI q.2])] S = some (.d (.str (PyData.list [tI q.2, tI q.2]).shown), S) := rep_repr r2 rfl (by decide) (by decide)
  have m1 := mul_one2 (S := S) (.int q.1)
  have m2 := mul_one2 (S := S) (tI q.2)
  have k1 : mkL false [.d (.int q.1)] S = some (.d (.list [.int q.1]), S) := mkL_data (xs := [.int q.1]) (by simp only [List.length_cons, List.length_nil]; omega)
  have k2 : mkL false [.d (tI q.2)] S = some (.d (.list [tI q.2]), S) := mkL_data (xs := [tI q.2]) (by simp only [List.length_cons, List.length_nil]; omega)
  generalize hE : ([some (.ref 0), some (.d (dD m ss)), some (.d (tI qs)), some (.d (.int c)), some (.d (tI ps)), some (.d (.str sh)), some (.ref (T.length + 1)), some (.d (.str a.nm)), some (.d (rowT q)), none, none] : TM.Env) = ρ1
  rw [ss_next (ρ' := ρ1) (S' := S) (by
    simp only [eSs_nil, eS_set, eS_par, eS_parT, eS_ex, eS_ifs, eS_ret, eS_pass, eS_never, eE_v, eE_c, eE_g, eE_tup, eE_lst, eE_bin, eE_neg, eE_cmp, eE_chain, eE_and, eE_or, eE_not, eE_ife, eE_idx, eE_sli, eE_rev, eE_call, eE_callK, eE_bi, eE_met, eEs_nil, eEs_cons, eT_and, eT_or, eT_not, eT_tt, eT_cmp, eT_chain, eT_e, eG_nm, eG_sub, eG_tp, eGs_nil, eGs_cons, setAll, List.set_cons_zero, List.set_cons_succ, obind, omap, List.getElem?_cons_zero, List.getElem?_cons_succ, if_true, Bool.false_eq_true, if_false, biM, tr_bool, tr_int, tr_list, tr_tuple, isi_str, isi_tup, isi_int, isi_bool_int, len_tup, len_list, add_int, sub_int, ix0, ix1, ix2, le_int, lt_int, gt_int, ge_int, eq_int, ne_int, eq_bool, ne_bool, eq_str, ne_str, decide_true, decide_false, Bool.not_true, Bool.not_false, Bool.and_self, Bool.true_and, Bool.and_true, Bool.false_and, call1, call2, call3, call4, wipeE, isNil, partOf, List.map_cons, List.map_nil, ecl, ← hE])]
  rw [ss_next (ρ' := ρ1) (S' := S) (by
    simp only [eSs_nil, eS_set, eS_par, eS_parT, eS_ex, eS_ifs, eS_ret, eS_pass, eS_never, eE_v, eE_c, eE_g, eE_tup, eE_lst, eE_bin, eE_neg, eE_cmp, eE_chain, eE_and, eE_or, eE_not, eE_ife, eE_idx, eE_sli, eE_rev, eE_call, eE_callK, eE_bi, eE_met, eEs_nil, eEs_cons, eT_and, eT_or, eT_not, eT_tt, eT_cmp, eT_chain, eT_e, eG_nm, eG_sub, eG_tp, eGs_nil, eGs_cons, setAll, List.set_cons_zero, List.set_cons_succ, obind, omap, List.getElem?_cons_zero, List.getElem?_cons_succ, if_true, Bool.false_eq_true, if_false, biM, tr_bool, tr_int, tr_list, tr_tuple, isi_str, isi_tup, isi_int, isi_bool_int, len_tup, len_list, add_int, sub_int, ix0, ix1, ix2, le_int, lt_int, gt_int, ge_int, eq_int, ne_int, eq_bool, ne_bool, eq_str, ne_str, decide_true, decide_false, Bool.not_true, Bool.not_false, Bool.and_self, Bool.true_and, Bool.and_true, Bool.false_and, call1, call2, call3, call4, wipeE, isNil, partOf, List.map_cons, List.map_nil, ← hE, ecp, permV, mk2, er1, rowT, k1, m1, beq_self_eq_true])]
  rw [ss_next (ρ' := ρ1) (S' := S) (by
    simp only [eSs_nil, eS_set, eS_par, eS_parT, eS_ex, eS_ifs, eS_ret, eS_pass, eS_never, eE_v, eE_c, eE_g, eE_tup, eE_lst, eE_bin, eE_neg, eE_cmp, eE_chain, eE_and, eE_or, eE_not, eE_ife, eE_idx, eE_sli, eE_rev, eE_call, eE_callK, eE_bi, eE_met, eEs_nil, eEs_cons, eT_and, eT_or, eT_not, eT_tt, eT_cmp, eT_chain, eT_e, eG_nm, eG_sub, eG_tp, eGs_nil, eGs_cons, setAll, List.set_cons_zero, List.set_cons_succ, obind, omap, List.getElem?_cons_zero, List.getElem?_cons_succ, if_true, Bool.false_eq_true, if_false, biM, tr_bool, tr_int, tr_list, tr_tuple, isi_str, isi_tup, isi_int, isi_bool_int, len_tup, len_list, add_int, sub_int, ix0, ix1, ix2, le_int, lt_int, gt_int, ge_int, eq_int, ne_int, eq_bool, ne_bool, eq_str, ne_str, decide_true, decide_false, Bool.not_true, Bool.not_false, Bool.and_self, Bool.true_and, Bool.and_true, Bool.false_and, call1, call2, call3, call4, wipeE, isNil, partOf, List.map_cons, List.map_nil, ← hE, ect, permV, mk2, er2, rowT, k2, m2, beq_self_eq_true])]
  rw [ss_next (ρ' := ρ1) (S' := S) (by
    have : ¬ (cheap m ss qs a.st a.up c).1 < q.1 := by omega
    simp only [eSs_nil, eS_set, eS_par, eS_parT, eS_ex, eS_ifs, eS_ret, eS_pass, eS_never, eE_v, eE_c, eE_g, eE_tup, eE_lst, eE_bin, eE_neg, eE_cmp, eE_chain, eE_and, eE_or, eE_not, eE_ife, eE_idx, eE_sli, eE_rev, eE_call, eE_callK, eE_bi, eE_met, eEs_nil, eEs_cons, eT_and, eT_or, eT_not, eT_tt, eT_cmp, eT_chain, eT_e, eG_nm, eG_sub, eG_tp, eGs_nil, eGs_cons, setAll, List.set_cons_zero, List.set_cons_succ, obind, omap, List.getElem?_cons_zero, List.getElem?_cons_succ, if_true, Bool.false_eq_true, if_false, biM, tr_bool, tr_int, tr_list, tr_tuple, isi_str, isi_tup, isi_int, isi_bool_int, len_tup, len_list, add_int, sub_int, ix0, ix1, ix2, le_int, lt_int, gt_int, ge_int, eq_int, ne_int, eq_bool, ne_bool, eq_str, ne_str, decide_true, decide_false, Bool.not_true, Bool.not_false, Bool.and_self, Bool.true_and, Bool.and_true, Bool.false_and, call1, call2, call3, call4, wipeE, isNil, partOf, List.map_cons, List.map_nil, ← hE, ecq, rowT, this])]
  rw [ss_next (ρ' := ρ1) (S' := S) (by
    have ea : evE (TM.run tab (n + 7)) (.lc false [10] (.nm 10) (.seq (.call false 29 0 1 [] [] (.cons (.idx (.v 1) (.c (.int 1))) .nil))) .tt (.and (.cmp .inS (.v 3) (.v 10)) (.call false 26 0 3 [] [] (.cons (.v 1) (.cons (.v 7) (.cons (.v 10) .nil)))))) ρ1 S = some (.d (.list ((subs (rng m)).map fun l => .bool (decide (c ∈ l) && soB m ss a.st a.up l))), S) :=
      lc_map (subs (rng m)) (fun l => .d (tI l)) (fun l => .bool (decide (c ∈ l) && soB m ss a.st a.up l)) [] (by
        simp only [eSs_nil, eS_set, eS_par, eS_parT, eS_ex, eS_ifs, eS_ret, eS_pass, eS_never, eE_v, eE_c, eE_g, eE_tup, eE_lst, eE_bin, eE_neg, eE_cmp, eE_chain, eE_and, eE_or, eE_not, eE_ife, eE_idx, eE_sli, eE_rev, eE_call, eE_callK, eE_bi, eE_met, eEs_nil, eEs_cons, eT_and, eT_or, eT_not, eT_tt, eT_cmp, eT_chain, eT_e, eG_nm, eG_sub, eG_tp, eGs_nil, eGs_cons, setAll, List.set_cons_zero, List.set_cons_succ, obind, omap, List.getElem?_cons_zero, List.getElem?_cons_succ, if_true, Bool.false_eq_true, if_false, biM, tr_bool, tr_int, tr_list, tr_tuple, isi_str, isi_tup, isi_int, isi_bool_int, len_tup, len_list, add_int, sub_int, ix0, ix1, ix2, le_int, lt_int, gt_int, ge_int, eq_int, ne_int, eq_bool, ne_bool, eq_str, ne_str, decide_true, decide_false, Bool.not_true, Bool.not_false, Bool.and_self, Bool.true_and, Bool.and_true, Bool.false_and, call1, call2, call3, call4, wipeE, isNil, partOf, List.map_cons, List.map_nil, ← hE, eI_seq, dD, s_law_lots (n + 6) g.lo g.hi, itemsOf, srcOf, List.map_map]
        rfl) rfl (by omega) (fun l hl => by
        simp only [eSs_nil, eS_set, eS_par, eS_parT, eS_ex, eS_ifs, eS_ret, eS_pass, eS_never, eE_v, eE_c, eE_g, eE_tup, eE_lst, eE_bin, eE_neg, eE_cmp, eE_chain, eE_and, eE_or, eE_not, eE_ife, eE_idx, eE_sli, eE_rev, eE_call, eE_callK, eE_bi, eE_met, eEs_nil, eEs_cons, eT_and, eT_or, eT_not, eT_tt, eT_cmp, eT_chain, eT_e, eG_nm, eG_sub, eG_tp, eGs_nil, eGs_cons, setAll, List.set_cons_zero, List.set_cons_succ, obind, omap, List.getElem?_cons_zero, List.getElem?_cons_succ, if_true, Bool.false_eq_true, if_false, biM, tr_bool, tr_int, tr_list, tr_tuple, isi_str, isi_tup, isi_int, isi_bool_int, len_tup, len_list, add_int, sub_int, ix0, ix1, ix2, le_int, lt_int, gt_int, ge_int, eq_int, ne_int, eq_bool, ne_bool, eq_str, ne_str, decide_true, decide_false, Bool.not_true, Bool.not_false, Bool.and_self, Bool.true_and, Bool.and_true, Bool.false_and, call1, call2, call3, call4, wipeE, isNil, partOf, List.map_cons, List.map_nil, ← hE, lcT, in_tI]
        cases decide (c ∈ l) with
        | false => rfl
        | true => simp only [eSs_nil, eS_set, eS_par, eS_parT, eS_ex, eS_ifs, eS_ret, eS_pass, eS_never, eE_v, eE_c, eE_g, eE_tup, eE_lst, eE_bin, eE_neg, eE_cmp, eE_chain, eE_and, eE_or, eE_not, eE_ife, eE_idx, eE_sli, eE_rev, eE_call, eE_callK, eE_bi, eE_met, eEs_nil, eEs_cons, eT_and, eT_or, eT_not, eT_tt, eT_cmp, eT_chain, eT_e, eG_nm, eG_sub, eG_tp, eGs_nil, eGs_cons, setAll, List.set_cons_zero, List.set_cons_succ, obind, omap, List.getElem?_cons_zero, List.getElem?_cons_succ, if_true, Bool.false_eq_true, if_false, biM, tr_bool, tr_int, tr_list, tr_tuple, isi_str, isi_tup, isi_int, isi_bool_int, len_tup, len_list, add_int, sub_int, ix0, ix1, ix2, le_int, lt_int, gt_int, ge_int, eq_int, ne_int, eq_bool, ne_bool, eq_str, ne_str, decide_true, decide_false, Bool.not_true, Bool.not_false, Bool.and_self, Bool.true_and, Bool.and_true, Bool.false_and, call1, call2, call3, call4, wipeE, isNil, partOf, List.map_cons, List.map_nil, s_law_is_so (n + 5) g a (mem_subs.mp hl)])
    have ez : ((subs (rng m)).any fun l => decide (c ∈ l) && soB m ss a.st a.up l) = true → q.1 = 0 := fun h => by
      obtain ⟨l, h1, h2⟩ := List.any_eq_true.mp h
      rw [Bool.and_eq_true, decide_eq_true_iff] at h2
      exact hso l h1 h2.1 h2.2
    simp only [eSs_nil, eS_set, eS_par, eS_parT, eS_ex, eS_ifs, eS_ret, eS_pass, eS_never, eE_v, eE_c, eE_g, eE_tup, eE_lst, eE_bin, eE_neg, eE_cmp, eE_chain, eE_and, eE_or, eE_not, eE_ife, eE_idx, eE_sli, eE_rev, eE_call, eE_callK, eE_bi, eE_met, eEs_nil, eEs_cons, eT_and, eT_or, eT_not, eT_tt, eT_cmp, eT_chain, eT_e, eG_nm, eG_sub, eG_tp, eGs_nil, eGs_cons, setAll, List.set_cons_zero, List.set_cons_succ, obind, omap, List.getElem?_cons_zero, List.getElem?_cons_succ, if_true, Bool.false_eq_true, if_false, biM, tr_bool, tr_int, tr_list, tr_tuple, isi_str, isi_tup, isi_int, isi_bool_int, len_tup, len_list, add_int, sub_int, ix0, ix1, ix2, le_int, lt_int, gt_int, ge_int, eq_int, ne_int, eq_bool, ne_bool, eq_str, ne_str, decide_true, decide_false, Bool.not_true, Bool.not_false, Bool.and_self, Bool.true_and, Bool.and_true, Bool.false_and, call1, call2, call3, call4, wipeE, isNil, partOf, List.map_cons, List.map_nil, ea, any_map]
    cases hz : (subs (rng m)).any fun l => decide (c ∈ l) && soB m ss a.st a.up l with
    | false => simp only [eSs_nil, eS_set, eS_par, eS_parT, eS_ex, eS_ifs, eS_ret, eS_pass, eS_never, eE_v, eE_c, eE_g, eE_tup, eE_lst, eE_bin, eE_neg, eE_cmp, eE_chain, eE_and, eE_or, eE_not, eE_ife, eE_idx, eE_sli, eE_rev, eE_call, eE_callK, eE_bi, eE_met, eEs_nil, eEs_cons, eT_and, eT_or, eT_not, eT_tt, eT_cmp, eT_chain, eT_e, eG_nm, eG_sub, eG_tp, eGs_nil, eGs_cons, setAll, List.set_cons_zero, List.set_cons_succ, obind, omap, List.getElem?_cons_zero, List.getElem?_cons_succ, if_true, Bool.false_eq_true, if_false, biM, tr_bool, tr_int, tr_list, tr_tuple, isi_str, isi_tup, isi_int, isi_bool_int, len_tup, len_list, add_int, sub_int, ix0, ix1, ix2, le_int, lt_int, gt_int, ge_int, eq_int, ne_int, eq_bool, ne_bool, eq_str, ne_str, decide_true, decide_false, Bool.not_true, Bool.not_false, Bool.and_self, Bool.true_and, Bool.and_true, Bool.false_and, call1, call2, call3, call4, wipeE, isNil, partOf, List.map_cons, List.map_nil]
    | true =>
      have := ez hz
      simp only [eSs_nil, eS_set, eS_par, eS_parT, eS_ex, eS_ifs, eS_ret, eS_pass, eS_never, eE_v, eE_c, eE_g, eE_tup, eE_lst, eE_bin, eE_neg, eE_cmp, eE_chain, eE_and, eE_or, eE_not, eE_ife, eE_idx, eE_sli, eE_rev, eE_call, eE_callK, eE_bi, eE_met, eEs_nil, eEs_cons, eT_and, eT_or, eT_not, eT_tt, eT_cmp, eT_chain, eT_e, eG_nm, eG_sub, eG_tp, eGs_nil, eGs_cons, setAll, List.set_cons_zero, List.set_cons_succ, obind, omap, List.getElem?_cons_zero, List.getElem?_cons_succ, if_true, Bool.false_eq_true, if_false, biM, tr_bool, tr_int, tr_list, tr_tuple, isi_str, isi_tup, isi_int, isi_bool_int, len_tup, len_list, add_int, sub_int, ix0, ix1, ix2, le_int, lt_int, gt_int, ge_int, eq_int, ne_int, eq_bool, ne_bool, eq_str, ne_str, decide_true, decide_false, Bool.not_true, Bool.not_false, Bool.and_self, Bool.true_and, Bool.and_true, Bool.false_and, call1, call2, call3, call4, wipeE, isNil, partOf, List.map_cons, List.map_nil, ← hE, rowT, this])]
  rw [ss_next (ρ' := ρ1) (S' := F :: (T ++ [pre.map (fun a => .d (.int (cheap m ss ps a.st a.up c).1)) ++ [.d (.int q.1)]])) (by
    simp only [eSs_nil, eS_set, eS_par, eS_parT, eS_ex, eS_ifs, eS_ret, eS_pass, eS_never, eE_v, eE_c, eE_g, eE_tup, eE_lst, eE_bin, eE_neg, eE_cmp, eE_chain, eE_and, eE_or, eE_not, eE_ife, eE_idx, eE_sli, eE_rev, eE_call, eE_callK, eE_bi, eE_met, eEs_nil, eEs_cons, eT_and, eT_or, eT_not, eT_tt, eT_cmp, eT_chain, eT_e, eG_nm, eG_sub, eG_tp, eGs_nil, eGs_cons, setAll, List.set_cons_zero, List.set_cons_succ, obind, omap, List.getElem?_cons_zero, List.getElem?_cons_succ, if_true, Bool.false_eq_true, if_false, biM, tr_bool, tr_int, tr_list, tr_tuple, isi_str, isi_tup, isi_int, isi_bool_int, len_tup, len_list, add_int, sub_int, ix0, ix1, ix2, le_int, lt_int, gt_int, ge_int, eq_int, ne_int, eq_bool, ne_bool, eq_str, ne_str, decide_true, decide_false, Bool.not_true, Bool.not_false, Bool.and_self, Bool.true_and, Bool.and_true, Bool.false_and, call1, call2, call3, call4, wipeE, isNil, partOf, List.map_cons, List.map_nil, ← hE, ← hS, rowT]
    rw [app_ref (c := pre.map fun a => MV.d (.int (cheap m ss ps a.st a.up c).1)) (by simp) (by rw [List.length_map]; omega)]
    simp)]
  rw [eSs_nil, ← hE]
end K05
end
section
set_option Elab.async false
set_option linter.all false
set_option autoImplicit false
set_option maxRecDepth 1000000
set_option maxHeartbeats 4000000
namespace K05
open TM PySem
def inR (m : Int) (ss : List (Int × Int)) (ps qs : List Int) (sh : Str) (F : List MV) (ρ : TM.Env) (S : Store) : Prop := ∃ T v3 v6 v7 v8, ρ = [some (.ref 0), some (.d (dD m ss)), some (.d (tI qs)), v3, some (.d (tI ps)), some (.d (.str sh)), v6, v7, v8, none, none] ∧ S = F :: T
theorem claim_turn (n : Nat) {m : Int} {ss : List (Int × Int)} (g : Good m ss) {ps qs : List Int} (hp : Pri ss ps) (hq : Pri ss qs) (hmq : more ps qs) (sh : Str) {c : Int} (hc : c ∈ rng m) (F : List MV) {ρ : TM.Env} {S : Store} (i : inR m ss ps qs sh F ρ S) :
    ∃ ρ' S', ((asg (TM.run tab (n + 7)) (.nm 3) (.d (.int c)) ρ S).bind fun q => evSs (TM.run tab (n + 7)) (.cons (.set (.nm 6) (.lst true (.nil))) (.cons (.fr (.nm 7) (.seq (.lst false (.cons (.c (.str "quiet")) (.cons (.c (.str "upheld")) (.cons (.c (.str "settled")) .nil))))) aimB) (.cons (.ifs (.or (.cmp .gt (.idx (.v 6) (.c (.int 0))) (.idx (.v 6) (.c (.int 1)))) (.cmp .gt (.idx (.v 6) (.c (.int 1))) (.idx (.v 6) (.c (.int 2))))) (.cons (.ret (.c (.bool false))) .nil) (.nil)) .nil))) q.1 q.2) = some (.nx ρ' S') ∧ inR m ss ps qs sh F ρ' S' := by
  have line := lineI
  obtain ⟨T, v3, v6, v7, v8, rfl, rfl⟩ := i
  simp only [eG_nm, Option.bind_some, List.set_cons_succ, List.set_cons_zero]
  rw [ss_next (ρ' := enR c m ss ps qs sh (T.length + 1) v7 v8) (S' := soR c m ss ps F T []) (by
    simp only [eSs_nil, eS_set, eS_par, eS_parT, eS_ex, eS_ifs, eS_ret, eS_pass, eS_never, eE_v, eE_c, eE_g, eE_tup, eE_lst, eE_bin, eE_neg, eE_cmp, eE_chain, eE_and, eE_or, eE_not, eE_ife, eE_idx, eE_sli, eE_rev, eE_call, eE_callK, eE_bi, eE_met, eEs_nil, eEs_cons, eT_and, eT_or, eT_not, eT_tt, eT_cmp, eT_chain, eT_e, eG_nm, eG_sub, eG_tp, eGs_nil, eGs_cons, setAll, List.set_cons_zero, List.set_cons_succ, obind, omap, List.getElem?_cons_zero, List.getElem?_cons_succ, if_true, Bool.false_eq_true, if_false, biM, tr_bool, tr_int, tr_list, tr_tuple, isi_str, isi_tup, isi_int, isi_bool_int, len_tup, len_list, add_int, sub_int, ix0, ix1, ix2, le_int, lt_int, gt_int, ge_int, eq_int, ne_int, eq_bool, ne_bool, eq_str, ne_str, decide_true, decide_false, Bool.not_true, Bool.not_false, Bool.and_self, Bool.true_and, Bool.and_true, Bool.false_and, call1, call2, call3, call4, wipeE, isNil, partOf, List.map_cons, List.map_nil, mkL, List.length_nil, Nat.zero_le, List.length_cons]
    rfl)]
  have e0 := aim_turn n g hp hq hmq sh hc F T [] (by decide) .q v7 v8
  have e1 := aim_turn n g hp hq hmq sh hc F T [.q] (by decide) .u (some (.d (.str Aim.q.nm))) (some (.d (rowT (cheap m ss ps Aim.q.st Aim.q.up c))))
  have e2 := aim_turn n g hp hq hmq sh hc F T [.q, .u] (by decide) .s (some (.d (.str Aim.u.nm))) (some (.d (rowT (cheap m ss ps Aim.u.st Aim.u.up c))))
  rw [ss_next (ρ' := enR c m ss ps qs sh (T.length + 1) (some (.d (.str Aim.s.nm))) (some (.d (rowT (cheap m ss ps Aim.s.st Aim.s.up c))))) (S' := soR c m ss ps F T [.q, .u, .s]) (by
    rw [eS_fr, aim_items, obind]
    simp only [aims, List.map_cons, List.map_nil, forGo, stab, if_true]
    rw [e0, obind]
    simp only [List.nil_append]
    rw [e1, obind]
    simp only [List.cons_append, List.nil_append]
    rw [e2, obind]
    rfl)]
  have h0 : ∀ q, q ∈ ps → (0 : Int) ≤ q := fun q h => (hp.win q h).1
  have c1 : ¬ (cheap m ss ps false false c).1 > (cheap m ss ps false true c).1 := by have := cheap_qu (ss := ss) hc h0; omega
  have c2 : ¬ (cheap m ss ps false true c).1 > (cheap m ss ps true false c).1 := by have := cheap_us g hc h0; omega
  have eS : soR c m ss ps F T [.q, .u, .s] = F :: (T ++ [[.d (.int (cheap m ss ps false false c).1), .d (.int (cheap m ss ps false true c).1), .d (.int (cheap m ss ps true false c).1)]]) := rfl
  rw [eS]
  generalize hS : (F :: (T ++ [[MV.d (.int (cheap m ss ps false false c).1), .d (.int (cheap m ss ps false true c).1), .d (.int (cheap m ss ps true false c).1)]]) : Store) = S
  have i0 : ixM (.ref (T.length + 1)) (.d (.int 0)) S = some (.d (.int (cheap m ss ps false false c).1)) := ix_cell (c := [.d (.int (cheap m ss ps false false c).1), .d (.int (cheap m ss ps false true c).1), .d (.int (cheap m ss ps true false c).1)]) (k := 0) (by rw [← hS]; simp) rfl
  have i1 : ixM (.ref (T.length + 1)) (.d (.int 1)) S = some (.d (.int (cheap m ss ps false true c).1)) := ix_cell (c := [.d (.int (cheap m ss ps false false c).1), .d (.int (cheap m ss ps false true c).1), .d (.int (cheap m ss ps true false c).1)]) (k := 1) (by rw [← hS]; simp) rfl
  have i2 : ixM (.ref (T.length + 1)) (.d (.int 2)) S = some (.d (.int (cheap m ss ps true false c).1)) := ix_cell (c := [.d (.int (cheap m ss ps false false c).1), .d (.int (cheap m ss ps false true c).1), .d (.int (cheap m ss ps true false c).1)]) (k := 2) (by rw [← hS]; simp) rfl
  refine ⟨_, S, ?_, T ++ [[.d (.int (cheap m ss ps false false c).1), .d (.int (cheap m ss ps false true c).1), .d (.int (cheap m ss ps true false c).1)]], some (.d (.int c)), some (.ref (T.length + 1)), some (.d (.str Aim.s.nm)), some (.d (rowT (cheap m ss ps Aim.s.st Aim.s.up c))), rfl, by rw [← hS]⟩
  rw [enR]
  simp only [eSs_nil, eS_set, eS_par, eS_parT, eS_ex, eS_ifs, eS_ret, eS_pass, eS_never, eE_v, eE_c, eE_g, eE_tup, eE_lst, eE_bin, eE_neg, eE_cmp, eE_chain, eE_and, eE_or, eE_not, eE_ife, eE_idx, eE_sli, eE_rev, eE_call, eE_callK, eE_bi, eE_met, eEs_nil, eEs_cons, eT_and, eT_or, eT_not, eT_tt, eT_cmp, eT_chain, eT_e, eG_nm, eG_sub, eG_tp, eGs_nil, eGs_cons, setAll, List.set_cons_zero, List.set_cons_succ, obind, omap, List.getElem?_cons_zero, List.getElem?_cons_succ, if_true, Bool.false_eq_true, if_false, biM, tr_bool, tr_int, tr_list, tr_tuple, isi_str, isi_tup, isi_int, isi_bool_int, len_tup, len_list, add_int, sub_int, ix0, ix1, ix2, le_int, lt_int, gt_int, ge_int, eq_int, ne_int, eq_bool, ne_bool, eq_str, ne_str, decide_true, decide_false, Bool.not_true, Bool.not_false, Bool.and_self, Bool.true_and, Bool.and_true, Bool.false_and, call1, call2, call3, call4, wipeE, isNil, partOf, List.map_cons, List.map_nil, i0, i1, i2, c1, c2, eSs_cons]
theorem s_law_right (n : Nat) {c : List PyData} (h : Pot c) : ∃ c', run tab (n + 8) 31 [c] [] = some (.bool true, [c']) := by
  have line := lineI
  obtain ⟨m, ss, c1, hc1, g, _, ed⟩ := s_law_dispute (n + 4) h (most := 6) (by decide) (by decide)
  obtain ⟨ps, c2, hc2, hp, epr⟩ := s_law_prices (n + 4) hc1 g
  have hms := g.many
  have hpl := hp.len
  obtain ⟨sh, esh⟩ : ∃ sh : Str, ∀ S, biRepr [.d (dD m ss)] S = some (.d (.str sh), S) := ⟨_, fun S => rep_repr (rep_dD g) rfl (by decide) (by decide)⟩
  obtain ⟨qs, c3, hc3, hmq, hqw, em⟩ := more_go (n + 6) (some (.d (dD m ss))) (some (.d (tI ps))) (some (.d (.str sh))) ps c2 hc2 hp.win
  have hq : Pri ss qs := ⟨by rw [hmq.1, hpl], hqw⟩
  obtain ⟨ρ', S', e, T, v3, v6, v7, v8, rfl, rfl⟩ := fr_inv (C := TM.run tab (n + 7)) (t := .nm 3) (it := .rng (.cons (.idx (.v 1) (.c (.int 1))) .nil)) (body := .cons (.set (.nm 6) (.lst true (.nil))) (.cons (.fr (.nm 7) (.seq (.lst false (.cons (.c (.str "quiet")) (.cons (.c (.str "upheld")) (.cons (.c (.str "settled")) .nil))))) aimB) (.cons (.ifs (.or (.cmp .gt (.idx (.v 6) (.c (.int 0))) (.idx (.v 6) (.c (.int 1)))) (.cmp .gt (.idx (.v 6) (.c (.int 1))) (.idx (.v 6) (.c (.int 2))))) (.cons (.ret (.c (.bool false))) .nil) (.nil)) .nil)))
    (ρ := [some (.ref 0), some (.d (dD m ss)), some (.d (tI qs)), none, some (.d (tI ps)), some (.d (.str sh)), none, none, none, none, none]) (S := [c3.map .d]) (items := (rng m).map fun c => .d (.int c)) (inR m ss ps qs sh (c3.map .d)) (by
    simp only [eSs_nil, eS_set, eS_par, eS_parT, eS_ex, eS_ifs, eS_ret, eS_pass, eS_never, eE_v, eE_c, eE_g, eE_tup, eE_lst, eE_bin, eE_neg, eE_cmp, eE_chain, eE_and, eE_or, eE_not, eE_ife, eE_idx, eE_sli, eE_rev, eE_call, eE_callK, eE_bi, eE_met, eEs_nil, eEs_cons, eT_and, eT_or, eT_not, eT_tt, eT_cmp, eT_chain, eT_e, eG_nm, eG_sub, eG_tp, eGs_nil, eGs_cons, setAll, List.set_cons_zero, List.set_cons_succ, obind, omap, List.getElem?_cons_zero, List.getElem?_cons_succ, if_true, Bool.false_eq_true, if_false, biM, tr_bool, tr_int, tr_list, tr_tuple, isi_str, isi_tup, isi_int, isi_bool_int, len_tup, len_list, add_int, sub_int, ix0, ix1, ix2, le_int, lt_int, gt_int, ge_int, eq_int, ne_int, eq_bool, ne_bool, eq_str, ne_str, decide_true, decide_false, Bool.not_true, Bool.not_false, Bool.and_self, Bool.true_and, Bool.and_true, Bool.false_and, call1, call2, call3, call4, wipeE, isNil, partOf, List.map_cons, List.map_nil, eI_rng, dD, rangeOf, rngI_ok g.lo g.hi]) ⟨[], none, none, none, none, rfl, rfl⟩ (fun v ρ S hv i => by
    obtain ⟨x, hx, rfl⟩ := List.mem_map.mp hv
    exact claim_turn n g hp hq hmq sh hx _ i)
  refine ⟨c3, ?_⟩
  rw [r__law_right]
  simp only [f__law_right]
  rw [ss_next (ρ' := [some (.ref 0), some (.d (dD m ss)), none, none, none, none, none, none, none, none, none]) (S' := [c1.map .d]) (by
    simp only [eSs_nil, eS_set, eS_par, eS_parT, eS_ex, eS_ifs, eS_ret, eS_pass, eS_never, eE_v, eE_c, eE_g, eE_tup, eE_lst, eE_bin, eE_neg, eE_cmp, eE_chain, eE_and, eE_or, eE_not, eE_ife, eE_idx, eE_sli, eE_rev, eE_call, eE_callK, eE_bi, eE_met, eEs_nil, eEs_cons, eT_and, eT_or, eT_not, eT_tt, eT_cmp, eT_chain, eT_e, eG_nm, eG_sub, eG_tp, eGs_nil, eGs_cons, setAll, List.set_cons_zero, List.set_cons_succ, obind, omap, List.getElem?_cons_zero, List.getElem?_cons_succ, if_true, Bool.false_eq_true, if_false, biM, tr_bool, tr_int, tr_list, tr_tuple, isi_str, isi_tup, isi_int, isi_bool_int, len_tup, len_list, add_int, sub_int, ix0, ix1, ix2, le_int, lt_int, gt_int, ge_int, eq_int, ne_int, eq_bool, ne_bool, eq_str, ne_str, decide_true, decide_false, Bool.not_true, Bool.not_false, Bool.and_self, Bool.true_and, Bool.and_true, Bool.false_and, call1, call2, call3, call4, wipeE, isNil, partOf, List.map_cons, List.map_nil]
    rw [call_io1 (c := c) rfl ed]
    simp only [eSs_nil, eS_set, eS_par, eS_parT, eS_ex, eS_ifs, eS_ret, eS_pass, eS_never, eE_v, eE_c, eE_g, eE_tup, eE_lst, eE_bin, eE_neg, eE_cmp, eE_chain, eE_and, eE_or, eE_not, eE_ife, eE_idx, eE_sli, eE_rev, eE_call, eE_callK, eE_bi, eE_met, eEs_nil, eEs_cons, eT_and, eT_or, eT_not, eT_tt, eT_cmp, eT_chain, eT_e, eG_nm, eG_sub, eG_tp, eGs_nil, eGs_cons, setAll, List.set_cons_zero, List.set_cons_succ, obind, omap, List.getElem?_cons_zero, List.getElem?_cons_succ, if_true, Bool.false_eq_true, if_false, biM, tr_bool, tr_int, tr_list, tr_tuple, isi_str, isi_tup, isi_int, isi_bool_int, len_tup, len_list, add_int, sub_int, ix0, ix1, ix2, le_int, lt_int, gt_int, ge_int, eq_int, ne_int, eq_bool, ne_bool, eq_str, ne_str, decide_true, decide_false, Bool.not_true, Bool.not_false, Bool.and_self, Bool.true_and, Bool.and_true, Bool.false_and, call1, call2, call3, call4, wipeE, isNil, partOf, List.map_cons, List.map_nil])]
  rw [ss_next (ρ' := [some (.ref 0), some (.d (dD m ss)), none, none, some (.d (tI ps)), some (.d (.str sh)), none, none, none, none, none]) (S' := [c2.map .d]) (by
    simp only [eSs_nil, eS_set, eS_par, eS_parT, eS_ex, eS_ifs, eS_ret, eS_pass, eS_never, eE_v, eE_c, eE_g, eE_tup, eE_lst, eE_bin, eE_neg, eE_cmp, eE_chain, eE_and, eE_or, eE_not, eE_ife, eE_idx, eE_sli, eE_rev, eE_call, eE_callK, eE_bi, eE_met, eEs_nil, eEs_cons, eT_and, eT_or, eT_not, eT_tt, eT_cmp, eT_chain, eT_e, eG_nm, eG_sub, eG_tp, eGs_nil, eGs_cons, setAll, List.set_cons_zero, List.set_cons_succ, obind, omap, List.getElem?_cons_zero, List.getElem?_cons_succ, if_true, Bool.false_eq_true, if_false, biM, tr_bool, tr_int, tr_list, tr_tuple, isi_str, isi_tup, isi_int, isi_bool_int, len_tup, len_list, add_int, sub_int, ix0, ix1, ix2, le_int, lt_int, gt_int, ge_int, eq_int, ne_int, eq_bool, ne_bool, eq_str, ne_str, decide_true, decide_false, Bool.not_true, Bool.not_false, Bool.and_self, Bool.true_and, Bool.and_true, Bool.false_and, call1, call2, call3, call4, wipeE, isNil, partOf, List.map_cons, List.map_nil]
    rw [call_io1 (c := c1) rfl epr]
    simp only [eSs_nil, eS_set, eS_par, eS_parT, eS_ex, eS_ifs, eS_ret, eS_pass, eS_never, eE_v, eE_c, eE_g, eE_tup, eE_lst, eE_bin, eE_neg, eE_cmp, eE_chain, eE_and, eE_or, eE_not, eE_ife, eE_idx, eE_sli, eE_rev, eE_call, eE_callK, eE_bi, eE_met, eEs_nil, eEs_cons, eT_and, eT_or, eT_not, eT_tt, eT_cmp, eT_chain, eT_e, eG_nm, eG_sub, eG_tp, eGs_nil, eGs_cons, setAll, List.set_cons_zero, List.set_cons_succ, obind, omap, List.getElem?_cons_zero, List.getElem?_cons_succ, if_true, Bool.false_eq_true, if_false, biM, tr_bool, tr_int, tr_list, tr_tuple, isi_str, isi_tup, isi_int, isi_bool_int, len_tup, len_list, add_int, sub_int, ix0, ix1, ix2, le_int, lt_int, gt_int, ge_int, eq_int, ne_int, eq_bool, ne_bool, eq_str, ne_str, decide_true, decide_false, Bool.not_true, Bool.not_false, Bool.and_self, Bool.true_and, Bool.and_true, Bool.false_and, call1, call2, call3, call4, wipeE, isNil, partOf, List.map_cons, List.map_nil, esh]
    try rfl)]
  rw [ss_next (ρ' := [some (.ref 0), some (.d (dD m ss)), some (.d (tI qs)), none, some (.d (tI ps)), some (.d (.str sh)), none, none, none, none, none]) (S' := [c3.map .d]) (by
    rw [eS_set, eE_bi, eEs_cons, eE_lc]
    rw [show evI (TM.run tab (n + 7)) (.seq (.v 4)) [some (.ref 0), some (.d (dD m ss)), none, none, some (.d (tI ps)), some (.d (.str sh)), none, none, none, none, none] [c2.map .d] = some (ps.map fun p => .d (.int p), [], [c2.map .d]) from by
      simp only [eSs_nil, eS_set, eS_par, eS_parT, eS_ex, eS_ifs, eS_ret, eS_pass, eS_never, eE_v, eE_c, eE_g, eE_tup, eE_lst, eE_bin, eE_neg, eE_cmp, eE_chain, eE_and, eE_or, eE_not, eE_ife, eE_idx, eE_sli, eE_rev, eE_call, eE_callK, eE_bi, eE_met, eEs_nil, eEs_cons, eT_and, eT_or, eT_not, eT_tt, eT_cmp, eT_chain, eT_e, eG_nm, eG_sub, eG_tp, eGs_nil, eGs_cons, setAll, List.set_cons_zero, List.set_cons_succ, obind, omap, List.getElem?_cons_zero, List.getElem?_cons_succ, if_true, Bool.false_eq_true, if_false, biM, tr_bool, tr_int, tr_list, tr_tuple, isi_str, isi_tup, isi_int, isi_bool_int, len_tup, len_list, add_int, sub_int, ix0, ix1, ix2, le_int, lt_int, gt_int, ge_int, eq_int, ne_int, eq_bool, ne_bool, eq_str, ne_str, decide_true, decide_false, Bool.not_true, Bool.not_false, Bool.and_self, Bool.true_and, Bool.and_true, Bool.false_and, call1, call2, call3, call4, wipeE, isNil, partOf, List.map_cons, List.map_nil, eI_seq, tI, itemsOf, srcOf, List.map_map]
      rfl]
    simp only [obind]
    rw [em]
    have := mkL_data (S := [c3.map MV.d]) (xs := qs.map .int) (by rw [List.length_map, hmq.1]; omega)
    rw [List.map_map] at this
    simp only [obind]
    rw [show (qs.map fun x => MV.d (.int x)) = qs.map (MV.d ∘ PyData.int) from rfl, this]
    simp only [obind, eEs_nil, biM, biTuple, itemsOf, pures_of, omap, eG_nm, List.set_cons_succ, List.set_cons_zero]
    rfl)]
  rw [ss_next e]
  rw [ss_ret (v := .d (.bool true)) (S' := c3.map .d :: T) (by
    simp only [eSs_nil, eS_set, eS_par, eS_parT, eS_ex, eS_ifs, eS_ret, eS_pass, eS_never, eE_v, eE_c, eE_g, eE_tup, eE_lst, eE_bin, eE_neg, eE_cmp, eE_chain, eE_and, eE_or, eE_not, eE_ife, eE_idx, eE_sli, eE_rev, eE_call, eE_callK, eE_bi, eE_met, eEs_nil, eEs_cons, eT_and, eT_or, eT_not, eT_tt, eT_cmp, eT_chain, eT_e, eG_nm, eG_sub, eG_tp, eGs_nil, eGs_cons, setAll, List.set_cons_zero, List.set_cons_succ, obind, omap, List.getElem?_cons_zero, List.getElem?_cons_succ, if_true, Bool.false_eq_true, if_false, biM, tr_bool, tr_int, tr_list, tr_tuple, isi_str, isi_tup, isi_int, isi_bool_int, len_tup, len_list, add_int, sub_int, ix0, ix1, ix2, le_int, lt_int, gt_int, ge_int, eq_int, ne_int, eq_bool, ne_bool, eq_str, ne_str, decide_true, decide_false, Bool.not_true, Bool.not_false, Bool.and_self, Bool.true_and, Bool.and_true, Bool.false_and, call1, call2, call3, call4, wipeE, isNil, partOf, List.map_cons, List.map_nil, esh, beq_self_eq_true])]
  simp only [Option.bind_some, endOf, backD, List.take_succ_cons, List.take_zero, purAll, pures_of]
theorem s_law (n : Nat) (ns : List Int) : run tab (n + 9) 32 [] [scrD ns] = some (.bool true, []) := by
  obtain ⟨K, hK0, hK, eK⟩ := times_of ns.length
  rw [r_law]
  simp only [f_law]
  obtain ⟨S1, e1⟩ := lc_trues (C := TM.run tab (n + 8)) (ρ := [some (.d (scrD ns)), none]) (S := []) (own := [1]) (t := .nm 1) (it := .rng (.cons (.bi .max2 false (.cons (.c (.int 1)) (.cons (.bi .min2 false (.cons (.c (.int 2)) (.cons (.bi .len false (.cons (.v 0) .nil)) .nil))) .nil))) .nil)) (e := .call false 31 1 1 [] [] (.cons (.call true 18 0 2 [] [] (.cons (.v 0) (.cons (.v 1) .nil))) .nil)) (k := K) (by rw [lineI]; omega) (fun S => turns_are _ ns K hK0 hK eK _ S) (fun k S hk => by
    obtain ⟨c, hc, e⟩ := new_pot (n + 7) ns k (by omega) S
    obtain ⟨c', er⟩ := s_law_right n hc
    have ec : callM (TM.run tab (n + 8)) false 31 1 [.ref S.length] (S ++ [c.map .d]) = some (.d (.bool true), (S ++ [c.map MV.d]).set S.length (c'.map MV.d)) := call_io0 (by simp) er
    refine ⟨(S ++ [c.map MV.d]).set S.length (c'.map MV.d), ?_⟩
    simp only [eSs_nil, eS_set, eS_par, eS_parT, eS_ex, eS_ifs, eS_ret, eS_pass, eS_never, eE_v, eE_c, eE_g, eE_tup, eE_lst, eE_bin, eE_neg, eE_cmp, eE_chain, eE_and, eE_or, eE_not, eE_ife, eE_idx, eE_sli, eE_rev, eE_call, eE_callK, eE_bi, eE_met, eEs_nil, eEs_cons, eT_and, eT_or, eT_not, eT_tt, eT_cmp, eT_chain, eT_e, eG_nm, eG_sub, eG_tp, eGs_nil, eGs_cons, setAll, List.set_cons_zero, List.set_cons_succ, obind, omap, List.getElem?_cons_zero, List.getElem?_cons_succ, if_true, Bool.false_eq_true, if_false, biM, tr_bool, tr_int, tr_list, tr_tuple, isi_str, isi_tup, isi_int, isi_bool_int, len_tup, len_list, add_int, sub_int, ix0, ix1, ix2, le_int, lt_int, gt_int, ge_int, eq_int, ne_int, eq_bool, ne_bool, eq_str, ne_str, decide_true, decide_false, Bool.not_true, Bool.not_false, Bool.and_self, Bool.true_and, Bool.and_true, Bool.false_and, call1, call2, call3, call4, wipeE, isNil, partOf, List.map_cons, List.map_nil, lcT, e, ec])
  rw [ss_ret (v := .d (.bool true)) (S' := S1) (by
    rw [eS_ret, eE_bi]
    simp only [eEs_cons, eEs_nil, e1, obind, biM, all_trues])]
  exact end0
end K05
end
section
set_option Elab.async false
set_option linter.all false
set_option maxRecDepth 1000000
set_option maxHeartbeats 0
namespace K05
open TM PySem PySem.Spec PyProof.Rows L2
def top (i : Nat) : Stmt := PySem.Challenge.pw_stillsaid_k05_whole_prices_of_claims.main.body.getD i (.Pass ⟨0, 0, 0, 0⟩)
def sts : List Stmt := places.map top
theorem chk : chkTab gs 0 tab sts = true := by kernel_rfl
def loose0 : List Str := ["is_integer", "is_within", "is_tuple", "DisputeError", "InvalidDispute", "InvalidClaim", "InvalidAim", "InvalidPrices", "DISPUTE", "MOST_CLAIMS", "is_strike_among", "is_dispute_any", "is_claim_of", "want_dispute", "want_claim", "struck_by", "QUIET", "UPHELD", "SETTLED", "AIMS"]
def loose1 : List Str := ["MOST_PRICE", "wanted_of", "sum_of", "price_of", "all_lots", "cheapest_of", "want_aim", "want_prices", "claim_price", "cheapest_lot", "_law_pot", "_law_draw", "_law_pick", "_law_dispute", "_law_strikers", "_law_is_quiet", "_law_prices", "_law_without", "_law_is_so", "_law_sum"]
def loose2 : List Str := ["_law_wanted", "_law_lots", "_law_cheapest", "_law_right"]
def loose : List Str := loose0 ++ loose1 ++ loose2
abbrev R : PySem.W.OpenRow := PySem.W.OpenLaw.row PySem.Challenge.rw_stillsaid_k05_whole_prices_of_claims
def fa : List He.Fa := faOf gs
def fn : List He.DefD := sts.map dOf
abbrev hk : PySem.W.Hook := TM.hookT 4 fa fn gs.glo
def ob (s : PySem.W.SharedT) : Bool × He.AlD := TM.obsT 4 fa fn gs.glo (HandSHeadRun.getT s)
theorem ob_eq (s : PySem.W.SharedT) : ob s = hk.obs s.abs := TM.obsT_eq (HandSHeadRun.getT_eq s)
theorem boots (w : World) : HandSHeadRun.RunEq R (PySem.W.view R.prog [50]) hk ob 9000 loose w := by
  intro os
  kernel_rfl
theorem law_ok (ns : List Int) (h : ns.length ≤ 63) : run gs.tab 100 32 [] [scrD ns] = some (.bool true, []) := s_law 91 ns
end K05
open PySem PySem.W PySem.Calls PyProof.Rows
theorem PySem.Challenge.cw_stillsaid_k05_whole_prices_of_claims_holds : PySem.Challenge.rw_stillsaid_k05_whole_prices_of_claims.Holds := by
  w_on; o_law
  refine HandSHeadRun.head_any (r := OpenLaw.row PySem.Challenge.rw_stillsaid_k05_whole_prices_of_claims) (q := view (OpenLaw.row PySem.Challenge.rw_stillsaid_k05_whole_prices_of_claims).prog [50]) (H := K05.hk) (ob := K05.ob) (M := 9000) (loose := K05.loose) (d := HandSHeadRun.topDef (OpenLaw.row PySem.Challenge.rw_stillsaid_k05_whole_prices_of_claims).prog 50) (kwd := []) K05.ob_eq
    (by kernel_rfl) (fun s => by kernel_rfl) K05.boots (by kernel_rfl) (by kernel_rfl) (by kernel_rfl) (by rfl) (by first | assumption | decide +kernel) (by decide +kernel) ⟨rfl, rfl, rfl, rfl, rfl, by decide +kernel⟩ ?hw ?hc
  case hw => w_witness2
  case hc =>
    exact TM.walk_ofG (l := PySem.Challenge.rw_stillsaid_k05_whole_prices_of_claims) (n := 63) (k := 100) (i := 32) (x := "script") (g := K05.gs) (sts := K05.sts) (fi := K05.f_law) rfl (by decide) (by kernel_rfl) ⟨rfl, by decide, by decide⟩ (fun w h Y => Y) K05.chk (by kernel_rfl) rfl rfl (by kernel_rfl) K05.law_ok
end
