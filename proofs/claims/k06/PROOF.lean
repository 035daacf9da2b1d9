import PyProof.Rows.All
import Wide.All
import OpenK.AllK
import Wide.FinOn
import KE.KStateDown
import Lean
import HandS.Base
import HandS.Call
import HandS.Ends
import HandS.More
import HandS.Words
import HandS.WordsExc
import HandS.Defaults
import HandS.Head0
import HandS.Head1
import HandS.Head2
import HandS.HeadEnd
import HandS.HeadHook1
import HandS.HeadHook2
import HandS.List
import KE.DataMinMax
import KE.SortData
import KE.DataAny
import HandS.ForMost
import HandS.Exc
import HandS.TryOnly
import HandS.ExcOwn
import HandS.Flow
import HandS.Style
import HandS.TupAny
import HandS.TupMul
import HandS.Zip
import HandS.Rev
import HandS.RevTup
import HandS.Wide
import HandS.Deep
import HandS.IsInst
import HandS.CallLocal
import HandS.AnyAll
import KE.KDictKeyed
import KE.KDictWalk
import KE.DataFind
import HandS.SortKw
import HandS.SetFor
import HandS.Strs
import HandS.GenList
import HandS.TupSets
import KE.GoesMore
import HandS.WideMore
import HandS.TryMany
import HandS.Small
import HandS.HotCalls
import HandS.ExcIs
import HandS.HeadHook4
import HandS.HeadWalk
import PySem.Challenge.RW_wovenwhole_k06_floats_and_crossings
set_option autoImplicit false
set_option linter.all false
namespace Wv
open PySem

/-! the texts as plain data: slots in the place of names -/
inductive Bop | add | sub | mul | fdiv | mod | pow | eq | ne | lt | le | gt | ge | is_ | isn | in_ | nin
  deriving DecidableEq, Repr
inductive P1 | len | abs | sum | max | min | sorted | sortedr | list | tuple | int | bool | str | any | all
  deriving DecidableEq, Repr
inductive P2 | max | min
  deriving DecidableEq, Repr
inductive Ty | int | bool | str | tuple | list
  deriving DecidableEq, Repr
inductive Tg | nm (i : Nat) | t0 | tc (a b : Tg)
  deriving DecidableEq, Repr
mutual
inductive E
  | var (i : Nat) | pk (i : Nat) | lit (d : PyData) | glb (k : Nat)
  | bin (o : Bop) (a b : E) | chain (o1 o2 : Bop) (a b c : E)
  | neg (a : E) | not_ (a : E) | bo (isAnd : Bool) (es : Es) | ite (c a b : E)
  | tup (es : Es) | lst (es : Es) | dic (es : Es)
  | ix (a b : E) | sl (a lo hi st : E)
  | call (f : Nat) (b : Bool) (es : Es) | callv (i : Nat) (fs : List Nat) (es : Es) | draw (i : Nat) (e : E) | gfn (f : Nat)
  | b1 (p : P1) (a : E) | b2 (p : P2) (a b : E) | isa (a : E) (t : Ty)
  | mcount (a b : E) | mindex (a b : E) | mget (a b c : E) | mjoin (a b : E) | msplit (a b : E)
  | rng (es : Es) | rev (a : E) | enm (a : E) | zp (a b : E) | zp3 (a b c : E) | items (a : E) | vals (a : E) | setof (a : E)
  | comp (t : Tg) (it : E) (ts : Es) (e : E) | comp2 (t : Tg) (it : E) (ts : Es) (t2 : Tg) (it2 : E) (ts2 : Es) (e : E)
  | dcomp (t : Tg) (it : E) (ts : Es) (k v : E) | dcomp2 (t : Tg) (it : E) (t2 : Tg) (it2 : E) (k v : E)
  | gen (isAll : Bool) (t : Tg) (it e : E) | gen2 (isAll : Bool) (t : Tg) (it : E) (t2 : Tg) (it2 e : E)
  | bt (isAnd : Bool) (es : Es) | sset (a : E)
  | fstr (es : Es) | sget (i k : Nat) | slen (i : Nat) | scell (i j : Nat)
inductive Es
  | nil | cons (e : E) (es : Es)
end
/-- what a clause 'except' returns -/
inductive Hd | lit (d : PyData) | lstP (x : Str) | tupP (x : Str)
inductive S
  | skip | seq (a b : S) | pass
  | asg (t : Tg) (e : E) | par (t : Tg) (es : Es)
  | aug (i : Nat) (o : Bop) (e : E)
  | setix (i : Nat) (k v : E) | augix (i : Nat) (o : Bop) (k v : E) | delix (i : Nat) (k : E) | swapix (i : Nat) (a b c d : E)
  | app (i : Nat) (e : E) | ext (i : Nat) (e : E) | rem (i : Nat) (e : E) | popTo (t : Tg) (i : Nat)
  | appix (i : Nat) (k e : E) | setix2 (i : Nat) (k l v : E)
  | sdef (i : Nat) (k v : E) (a : S)
  | expr (e : E) | ret (e : E) | retn | st0 (i j : Nat)
  | ite (c : E) (a b : S) | wh (c : E) (b : S) | for_ (t : Tg) (it : E) (b : S) | forPop (t : Tg) (f : Nat) (es : Es) (i : Nat) (b : S)
  | brk | cnt
  | raise (c : Nat) | raiseP (c : Nat) (e : E)
  | try_ (r : Bool) (e : E) (hs : List (Nat × Hd)) | sset (i k : Nat) (e : E)

/-! the state of the draws; what an evaluation gives -/
structure Orc where
  a : Int
  b : Int
  scr : List Int
  c : Int
inductive R (α : Type) | ok (a : α) (w : Orc) | exc (c : Nat) (p : PyData) (w : Orc) | stuck
def M (α : Type) : Type := Orc → R α
namespace M
variable {α β γ : Type}
def ret (a : α) : M α := fun w => .ok a w
def bnd (m : M α) (f : α → M β) : M β := fun w => match m w with
  | .ok a w' => f a w'
  | .exc c p w' => .exc c p w'
  | .stuck => .stuck
instance : Monad M where
  pure := ret
  bind := bnd
def stuck : M α := fun _ => .stuck
def raise (c : Nat) (p : PyData) : M α := fun w => .exc c p w
def guard (c : Bool) (m : M α) : M α := if c = true then m else stuck
def ofO (o : Option α) : M α := match o with
  | some a => pure a
  | none => stuck
def noexc (m : M α) : M α := fun w => match m w with
  | .ok a w' => .ok a w'
  | _ => .stuck
theorem bnd_def (m : M α) (f : α → M β) : (m >>= f) = bnd m f := rfl
theorem pure_def (a : α) : (pure a : M α) = ret a := rfl
@[simp] theorem pure_bnd (a : α) (f : α → M β) : (pure a >>= f) = f a := rfl
@[simp] theorem bnd_pure (m : M α) : (m >>= pure) = m := by
  funext w; show bnd m ret w = m w; unfold bnd; cases m w <;> rfl
@[simp] theorem bnd_assoc (m : M α) (f : α → M β) (g : β → M γ) : (m >>= f >>= g) = (m >>= fun a => f a >>= g) := by
  funext w; show bnd (bnd m f) g w = bnd m (fun a => bnd (f a) g) w; unfold bnd; cases m w <;> rfl
@[simp] theorem stuck_bnd (f : α → M β) : (stuck >>= f) = stuck := rfl
@[simp] theorem raise_bnd (c : Nat) (p : PyData) (f : α → M β) : (raise c p >>= f) = raise c p := rfl
@[simp] theorem guard_true (m : M α) : guard true m = m := rfl
@[simp] theorem ofO_some (a : α) : ofO (some a) = (pure a : M α) := rfl
@[simp] theorem noexc_pure (a : α) : noexc (pure a) = pure a := rfl
instance : LawfulMonad M := LawfulMonad.mk' M (id_map := fun x => by
  show (x >>= fun a => pure (id a)) = x; exact bnd_pure x) (pure_bind := fun _ _ => rfl) (bind_assoc := bnd_assoc)
@[simp] theorem map_def (f : α → β) (m : M α) : (f <$> m) = (m >>= fun a => pure (f a)) := rfl
end M
open M

inductive Slot
  | un | v (own : Bool) (d : PyData) | f (i : Nat) | s | x (c : Nat) (p : PyData)
abbrev Env := List Slot

/-! values -/
def gO {α : Type} (c : Bool) (m : Option α) : Option α := if c = true then m else none
@[simp] theorem gO_true {α : Type} (m : Option α) : gO true m = m := rfl
theorem gO_some {α : Type} {c : Bool} {m : Option α} {a : α} (h : gO c m = some a) : c = true ∧ m = some a := by
  unfold gO at h; cases c with
  | true => exact ⟨rfl, h⟩
  | false => cases h
abbrev sizeL : Nat := sizeLine
def scal : PyData → Bool
  | .none | .bool _ | .int _ | .str _ => true
  | _ => false
/-- what is not proved yet is left out -/
abbrev later : Bool := false
def evHd (p : PyData) : Hd → PyData
  | .lit d => d
  | .lstP x => .list [.str x, p]
  | .tupP x => .tuple [.str x, p]
def isDic : PyData → Bool
  | .dict _ => true
  | _ => false
def tru : PyData → Option Bool
  | .none => some false
  | .bool b => some b
  | .int i => some (i != 0)
  | .str s => gO (decide (s.length ≤ sizeLine)) (some (s.length != 0))
  | .list xs => some (!xs.isEmpty)
  | .tuple xs => some (!xs.isEmpty)
  | .dict kvs => some (!kvs.isEmpty)
def tbl : PyData → Bool
  | .none | .bool _ | .int _ => true
  | .str s => decide (s.length ≤ sizeLine)
  | .list xs => PyData.plainAll xs && decide (xs.length ≤ 1000000)
  | .tuple xs => PyData.plainAll xs && decide (xs.length ≤ 1000000)
  | .dict _ => false
def itemsOf : PyData → Option (List PyData)
  | .list xs => some xs
  | .tuple xs => some xs
  | .str s => some (s.cps.toList.map fun c => .str ⟨#[c]⟩)
  | .dict kvs => gO later (some (kvs.map (·.1)))
  | _ => none
/-- the members of a list or a tuple -/
def seqOf : PyData → Option (List PyData)
  | .list xs => some xs
  | .tuple xs => some xs
  | _ => none
def lstOf : PyData → Option (List PyData)
  | .list xs => some xs
  | .tuple xs => gO later (some xs)
  | _ => none
/-- a dict's key: an int, or a text -/
def leafKey : PyData → Bool
  | .int _ | .str _ => true
  | _ => false
def dfind (kvs : List (PyData × PyData)) (k : PyData) : Option PyData := (kvs.find? fun p => PyData.eqv p.1 k).map (·.2)
def dput (kvs : List (PyData × PyData)) (k v : PyData) : List (PyData × PyData) :=
  if (kvs.any fun p => PyData.eqv p.1 k) = true then kvs.map fun p => if PyData.eqv p.1 k = true then (p.1, v) else p else kvs ++ [(k, v)]
def ddel (kvs : List (PyData × PyData)) (k : PyData) : List (PyData × PyData) := kvs.filter fun p => !PyData.eqv p.1 k
def shp (d : PyData) : Bool := SeqAt.shaped d
/-- may the two be asked which is less -/
def cmpOk (a b : PyData) : Bool := W.alike a b && (match a with
  | .none => false
  | _ => true) && shp a && shp b
def bigOk (i j : Int) : Bool := decide (i.natAbs.log2 + j.natAbs.log2 < 900000) || (decide (i.natAbs < 2 ^ 64) || decide (j.natAbs < 2 ^ 64))
def divOk (j : Int) : Bool := decide (j ≠ 0) && decide (j.natAbs.log2 < 8000)
def rep (k : Int) (xs : List PyData) : List PyData := (List.replicate k.toNat xs).flatten
def strOf (i : Int) : Str := Str.ofString (toString i)
def isD : PyData → PyData → Option Bool
  | .none, .none => some true
  | _, .none => some false
  | .bool a, .bool b => some (a == b)
  | _, .bool _ => some false
  | _, _ => none
def subStr (i j : Str) : Bool := !(Builtin.Str.occurrences j i 0 j.length 1).isEmpty
def inD (x : PyData) : PyData → Option Bool
  | .list ds => gO (shp x && shp (.list ds)) (some (ds.any fun z => PyData.eqv z x))
  | .tuple ds => gO (shp x && shp (.tuple ds)) (some (ds.any fun z => PyData.eqv z x))
  | .dict kvs => gO (leafKey x) (some (dfind kvs x).isSome)
  | .str j => match x with
    | .str i => some (subStr i j)
    | _ => none
  | _ => none
def bop : Bop → PyData → PyData → Option PyData
  | .add, .int i, .int j => some (.int (i + j))
  | .add, .str i, .str j => gO (decide (i.length + j.length ≤ sizeLine)) (some (.str (i ++ j)))
  | .add, .list xs, .list ys => gO (decide (xs.length + ys.length ≤ sizeLine)) (some (.list (xs ++ ys)))
  | .add, .tuple xs, .tuple ys => gO (decide (xs.length + ys.length ≤ sizeLine)) (some (.tuple (xs ++ ys)))
  | .sub, .int i, .int j => some (.int (i - j))
  | .mul, .int i, .int j => gO (bigOk i j) (some (.int (i * j)))
  | .mul, .list xs, .int k => gO (decide (-(2 ^ 62) < k) && decide (k ≤ 1000) && decide (xs.length ≤ 1000)) (some (.list (rep k xs)))
  | .mul, .tuple xs, .int k => gO (decide (-(2 ^ 62) < k) && decide (k ≤ 1000) && decide (xs.length ≤ 1000)) (some (.tuple (rep k xs)))
  | .fdiv, .int i, .int j => gO (divOk j) (some (.int (i.fdiv j)))
  | .mod, .int i, .int j => gO (decide (j ≠ 0)) (some (.int (i.fmod j)))
  | .pow, .int i, .int j => gO (decide (0 ≤ j) && decide (j ≤ 1000000) && decide (i.natAbs < 2 ^ 64)) (some (.int (i ^ j.toNat)))
  | .eq, a, b => gO (shp a && shp b) (some (.bool (PyData.eqv a b)))
  | .ne, a, b => gO (shp a && shp b) (some (.bool (!PyData.eqv a b)))
  | .lt, a, b => gO (cmpOk a b) (some (.bool (W.dataLt a b)))
  | .le, a, b => gO (cmpOk a b) (some (.bool (!W.dataLt b a)))
  | .gt, a, b => gO (cmpOk a b) (some (.bool (W.dataLt b a)))
  | .ge, a, b => gO (cmpOk a b) (some (.bool (!W.dataLt a b)))
  | .is_, a, b => do some (.bool (← isD a b))
  | .isn, a, b => do some (.bool (!(← isD a b)))
  | .in_, a, b => do some (.bool (← inD a b))
  | .nin, a, b => do some (.bool (!(← inD a b)))
  | _, _, _ => none
def intsOf : List PyData → Option (List Int)
  | [] => some []
  | .int i :: r => (intsOf r).map (i :: ·)
  | _ :: _ => none
def allAlike (xs : List PyData) : Bool := xs.all fun a => xs.all fun b => cmpOk a b
def sortOk (xs : List PyData) : Bool := (xs.all fun d => match d with
    | .tuple (_ :: _) => true
    | _ => false) || (xs.all fun d => match d with
    | .tuple _ => false
    | .none => false
    | _ => true)
/-- what sorted walks: a list, a tuple, a dict's few keys that are ints -/
def srtOf : PyData → Option (List PyData)
  | .list xs => some xs
  | .tuple xs => some xs
  | .dict kvs => gO (decide (kvs.length < 64) && (intsOf (kvs.map (·.1))).isSome) (some (kvs.map (·.1)))
  | _ => none
def ddp {α : Type} [BEq α] (xs : List α) : List α := xs.foldl (fun acc x => if acc.any (· == x) = true then acc else acc ++ [x]) []
def p1 : P1 → PyData → Option PyData
  | .len, .list xs => some (.int xs.length)
  | .len, .tuple xs => some (.int xs.length)
  | .len, .dict xs => some (.int xs.length)
  | .len, .str s => gO (decide (s.length ≤ sizeLine)) (some (.int s.length))
  | .abs, .int i => some (.int (if i < 0 then -i else i))
  | .sum, .list xs => (intsOf xs).map fun ns => .int ns.sum
  | .sum, .tuple xs => (intsOf xs).map fun ns => .int ns.sum
  | .max, .list (x :: xs) => gO (allAlike (x :: xs)) (some (W.maxD x xs))
  | .max, .tuple (x :: xs) => gO (allAlike (x :: xs)) (some (W.maxD x xs))
  | .min, .list (x :: xs) => gO (allAlike (x :: xs)) (some (W.minD x xs))
  | .min, .tuple (x :: xs) => gO (allAlike (x :: xs)) (some (W.minD x xs))
  | .sorted, d => do
    let xs ← srtOf d
    gO (allAlike xs && sortOk xs) (some (.list (xs.mergeSort (W.dataLe false id))))
  | .sortedr, d => do
    let xs ← seqOf d
    gO (allAlike xs && sortOk xs) (some (.list (xs.mergeSort (W.dataLe true id))))
  | .list, d => do some (.list (← seqOf d))
  | .tuple, .tuple xs => some (.tuple xs)
  | .tuple, d => do some (.tuple (← seqOf d))
  | .int, .int i => some (.int i)
  | .int, .bool b => some (.int (if b then 1 else 0))
  | .int, .str x => match intText? x with
    | some n => gO (decide (x.length ≤ 640)) (some (.int n))
    | none => none
  | .bool, d => gO later (do some (.bool (← tru d)))
  | .str, .int i => gO (decide (i.natAbs.log2 < 1900)) (some (.str (strOf i)))
  | .str, .str x => gO later (some (.str x))
  | .any, .list xs => gO (xs.all tbl) (some (.bool (xs.any PyData.truthy)))
  | .any, .tuple xs => gO (xs.all tbl) (some (.bool (xs.any PyData.truthy)))
  | .all, .list xs => gO (xs.all tbl) (some (.bool (xs.all PyData.truthy)))
  | .all, .tuple xs => gO (xs.all tbl) (some (.bool (xs.all PyData.truthy)))
  | _, _ => none
def p2 : P2 → PyData → PyData → Option PyData
  | .max, .int a, .int b => some (.int (if b > a then b else a))
  | .min, .int a, .int b => some (.int (if b < a then b else a))
  | _, _, _ => none
def isaD : PyData → Ty → Bool
  | .int _, .int => true
  | .bool _, .int => true
  | .bool _, .bool => true
  | .str _, .str => true
  | .tuple _, .tuple => true
  | .list _, .list => true
  | _, _ => false
def ixD : PyData → PyData → Option PyData
  | .list xs, .int i => (L2.atI xs i)
  | .tuple xs, .int i => (L2.atI xs i)
  | .str s, .int i => gO (decide (s.length ≤ sizeLine)) (((L2.atI s.cps.toList i).map fun c => .str ⟨#[c]⟩))
  | .dict kvs, k => gO (leafKey k) (dfind kvs k)
  | _, _ => none
def cutL {α : Type} (xs : List α) (lo hi : Option Int) : List α := (xs.drop (HT.sIx xs.length 0 lo)).take (HT.sIx xs.length xs.length hi - HT.sIx xs.length 0 lo)
/-- a list's slice with a step -/
def stpL {α : Type} (xs : List α) (lo hi : Option Int) (k : Int) : List α :=
  (sliceRange (sliceBounds lo hi (some k) xs.length).1 (sliceBounds lo hi (some k) xs.length).2.1 (sliceBounds lo hi (some k) xs.length).2.2).filterMap fun i => xs[i]?
/-- a tuple's slice with a step -/
def stpT {α : Type} (xs : List α) (lo hi : Option Int) (k : Int) : List α :=
  (List.range (Builtin.Slice.slicePlaces (Builtin.Slice.sliceAdjust lo hi k (xs.length : Int)).1 (Builtin.Slice.sliceAdjust lo hi k (xs.length : Int)).2 k)).filterMap fun (m : Nat) => xs[((Builtin.Slice.sliceAdjust lo hi k (xs.length : Int)).1 + (m : Int) * k).toNat]?
def partI : PyData → Option (Option Int)
  | .none => some none
  | .int i => some (some i)
  | _ => none
def slD (a : PyData) (lo hi st : Option Int) : Option PyData := match st with
  | none => match a with
    | .list xs => some (.list (cutL xs lo hi))
    | .tuple xs => some (.tuple (cutL xs lo hi))
    | .str s => gO (decide (s.length ≤ sizeLine)) (some (.str ⟨(cutL s.cps.toList lo hi).toArray⟩))
    | _ => none
  | some k => match a with
    | .list xs => gO (decide (k ≠ 0)) (some (.list (stpL xs lo hi k)))
    | .tuple xs => gO (decide (k ≠ 0) && decide (k ≠ 1) && decide ((stpT xs lo hi k).length ≤ 1000000)) (some (.tuple (stpT xs lo hi k)))
    | _ => none
def zipD : List PyData → List PyData → List PyData
  | x :: xs, y :: ys => .tuple [x, y] :: zipD xs ys
  | _, _ => []
def zip3D : List PyData → List PyData → List PyData → List PyData
  | x :: xs, y :: ys, z :: zs => .tuple [x, y, z] :: zip3D xs ys zs
  | _, _, _ => []
def enumD : Nat → List PyData → List PyData
  | _, [] => []
  | k, x :: xs => .tuple [.int k, x] :: enumD (k + 1) xs
def rangeD (lo : Int) : Nat → Int → List PyData
  | 0, _ => []
  | n + 1, c => .int lo :: rangeD (lo + c) n c
def rngN (lo hi c : Int) : Nat := if 0 < c then ((hi - lo + c - 1) / c).toNat else ((lo - hi - c - 1) / (-c)).toNat
def rngD : List PyData → Option PyData
  | [.int n] => gO (decide (n ≤ 1000000) && decide (-(2 ^ 60) < n)) (some (.list (rangeD 0 n.toNat 1)))
  | [.int a, .int b] => gO (decide (b - a ≤ 1000000) && decide (-(2 ^ 60) < a) && decide (a < 2 ^ 60) && decide (-(2 ^ 60) < b) && decide (b < 2 ^ 60)) (some (.list (rangeD a (b - a).toNat 1)))
  | [.int a, .int b, .int c] => gO (decide (c ≠ 0) && decide (rngN a b c ≤ 1000000) && decide (-(2 ^ 60) < a) && decide (a < 2 ^ 60) && decide (-(2 ^ 60) < b) && decide (b < 2 ^ 60) && decide (c.natAbs < 2 ^ 30)) (some (.list (rangeD a (rngN a b c) c)))
  | _ => none
def strsOf : List PyData → Option (List Str)
  | [] => some []
  | .str i :: r => (strsOf r).map (i :: ·)
  | _ :: _ => none
def joinS (sep : Str) : List Str → Str
  | [] => ⟨#[]⟩
  | [x] => x
  | x :: r => x ++ sep ++ joinS sep r
def splitL (sep : Nat) : List Nat → List (List Nat)
  | [] => [[]]
  | c :: r => if c = sep then [] :: splitL sep r else match splitL sep r with
    | [] => [[c]]
    | w :: ws => (c :: w) :: ws
def catS : List PyData → Option PyData
  | [] => some (.str ⟨#[]⟩)
  | .str x :: r => do match ← catS r with
    | .str y => gO (decide (x.length + y.length ≤ sizeLine)) (some (.str (x ++ y)))
    | _ => none
  | .int i :: r => do match ← catS r with
    | .str y => gO (decide (i.natAbs.log2 < 1900)) (some (.str (strOf i ++ y)))
    | _ => none
  | _ :: _ => none
def isSeqD : PyData → Bool
  | .list _ | .tuple _ => true
  | _ => false
def mcountD (x y : PyData) : Option PyData := match x with
  | .list xs => gO (shp y && shp (.list xs)) (some (.int ((xs.countP fun z => PyData.eqv z y : Nat))))
  | .tuple xs => gO (shp y && shp (.tuple xs)) (some (.int ((xs.countP fun z => PyData.eqv z y : Nat))))
  | _ => none
def mindexD (x y : PyData) : Option PyData := match x with
  | .list xs => gO (shp y && shp (.list xs)) ((xs.findIdx? fun z => PyData.eqv z y).map fun k => .int k)
  | .tuple xs => gO (shp y && shp (.tuple xs)) ((xs.findIdx? fun z => PyData.eqv z y).map fun k => .int k)
  | .str s => match y with
    | .str c => gO (decide (c.length = 1)) ((s.cps.toList.findIdx? fun z => [z] == c.cps.toList).map fun k => .int k)
    | _ => none
  | _ => none
def mgetD (x y z : PyData) : Option PyData := match x with
  | .dict kvs => gO (leafKey y) (some ((dfind kvs y).getD z))
  | _ => none
def joinD (x y : PyData) : Option PyData := match x with
  | .str sep => do match strsOf (← itemsOf y) with
    | some ws => some (.str (joinS sep ws))
    | none => none
  | _ => none
def splitD (x y : PyData) : Option PyData := match x, y with
  | .str s, .str c => match c.cps.toList with
    | [k] => some (.list ((splitL k s.cps.toList).map fun w => .str ⟨w.toArray⟩))
    | _ => none
  | _, _ => none
def revD (x : PyData) : Option PyData := do some (.list (← seqOf x).reverse)
def enmD (x : PyData) : Option PyData := do some (.list (enumD 0 (← seqOf x)))
def zpD (x y : PyData) : Option PyData := do some (.list (zipD (← itemsOf x) (← itemsOf y)))
def zp3D (x y z : PyData) : Option PyData := do some (.list (zip3D (← itemsOf x) (← itemsOf y) (← itemsOf z)))
def itmD : PyData → Option PyData
  | .dict kvs => some (.list (kvs.map fun p => .tuple [p.1, p.2]))
  | _ => none
def valD : PyData → Option PyData
  | .dict kvs => some (.list (kvs.map fun p => p.2))
  | _ => none
def rowsOf : List PyData → Option (List (List Int))
  | [] => some []
  | .tuple xs :: r => match intsOf xs, rowsOf r with
    | some ns, some ms => some (ns :: ms)
    | _, _ => none
  | _ :: _ => none
def isLst : PyData → Bool
  | .list _ => true
  | _ => false
/-- of ints, or of tuples of ints -/
def setD (x : PyData) : Option PyData := do
  let xs ← seqOf x
  match intsOf xs with
  | some ns => gO (decide (ns.length ≤ 4000)) (some (.list ((ddp ns).map .int)))
  | none => match rowsOf xs with
    | some ms => gO (decide (ms.length < 64) && isLst x) (some (.list ((ddp ms).map fun ns => .tuple (ns.map .int))))
    | none => none
/-- sorted(set(t)) of ints -/
def ssetD (x : PyData) : Option PyData := match x with
  | .tuple xs => match intsOf xs with
    | some ns => gO (decide (ns.length < 64)) (some (.list (((ddp ns).map PyData.int).mergeSort (W.dataLe false id))))
    | none => none
  | _ => none
/-- the draw -/
def drawFn (w : Orc) (n : Int) : Int × Orc :=
  let w1 : Orc := if w.a < n then
      let cell : Int := if w.b < w.scr.length then w.scr.getD w.b.toNat 0 else 0
      if cell ≥ 10 ^ 18 then { w with a := cell, b := w.b + 1 }
      else
        let c := ((w.c + cell % 2147483629 + w.b + 1) * 48271) % 2147483647
        let m := (c * 69621 + 11) % 2147483629
        { a := m * 2147483647 + (m * 30011 + c) % 2147483587, b := w.b + 1, scr := w.scr, c := c }
    else w
  (w1.a % n, { w1 with a := w1.a / n })
def draw (n : Int) : M Int := fun w => if 0 < n ∧ n < 2 ^ 64 then .ok (drawFn w n).1 (drawFn w n).2 else .stuck

/-! targets -/
def setS (ρ : Env) (i : Nat) (s : Slot) : Env := ρ.set i s
def asgT : Tg → Bool → PyData → Env → M Env
  | .nm i, o, d, ρ => pure (ρ.set i (.v o d))
  | .t0, _, .tuple [], ρ => pure ρ
  | .tc a b, o, .tuple (x :: xs), ρ => do asgT b false (.tuple xs) (← asgT a false x ρ)
  | _, _, _, _ => stuck
/-- the slots of a target -/
def tgS : Tg → List Nat
  | .nm i => [i]
  | .t0 => []
  | .tc a b => tgS a ++ tgS b
/-- the slots of a block's own names forgotten -/
def clr : List Nat → Env → Env
  | [], ρ => ρ
  | i :: is, ρ => clr is (ρ.set i .un)
def compM (f : PyData → M (Option PyData)) : List PyData → M (List PyData)
  | [] => pure []
  | x :: xs => do match ← f x with
    | none => compM f xs
    | some y => do pure (y :: (← compM f xs))
def comp2M (f : PyData → M (List PyData)) : List PyData → M (List PyData)
  | [] => pure []
  | x :: xs => do pure ((← f x) ++ (← comp2M f xs))
def dcompM (f : PyData → M (Option (PyData × PyData))) : List PyData → List (PyData × PyData) → M (List (PyData × PyData))
  | [], acc => pure acc
  | x :: xs, acc => do match ← f x with
    | none => dcompM f xs acc
    | some (k, v) => dcompM f xs (dput acc k v)
def boolD : PyData → Option Bool
  | .bool b => some b
  | _ => none
/-- all (b = true), any (b = false), with a short end -/
def genM (b : Bool) (f : PyData → M Bool) : List PyData → M Bool
  | [] => pure b
  | x :: xs => do if (← f x) = b then genM b f xs else pure (!b)
def freshE : E → Bool
  | .lst _ | .dic _ | .sset _ | .comp .. | .comp2 .. | .dcomp .. | .dcomp2 .. | .b1 .list _ | .b1 .sorted _ | .b1 .sortedr _ | .sl .. | .bin .mul _ _ => true
  | _ => false
def ownV (f : Bool) : PyData → Bool
  | .list _ => f
  | .dict _ => f
  | _ => false
def okEl (d : PyData) : Bool := !isDic d

def getV : Option Slot → M PyData
  | some (.v false d) => pure d
  | _ => stuck
def getP : Option Slot → M PyData
  | some (.v _ d) => pure d
  | _ => stuck
/-- an argument -/
def argS (e : E) (ρ : Env) (m : M PyData) : M Slot := match e with
  | .gfn f => pure (Slot.f f)
  | .var i => match ρ[i]? with
    | some (.v false d) => pure (.v false d)
    | some (.f k) => pure (.f k)
    | some .s => pure .s
    | _ => stuck
  | _ => do pure (.v false (← m))
section
variable (gt : Nat → Option PyData) (call : Nat → List Slot → M PyData)
mutual
def evalE : E → Env → M PyData
  | .var i, ρ => getV ρ[i]?
  | .pk i, ρ => getP ρ[i]?
  | .lit d, _ => pure d
  | .glb k, _ => ofO (gt k)
  | .bin o a b, ρ => do let x ← evalE a ρ; let y ← evalE b ρ; ofO (bop o x y)
  | .chain o1 o2 a b c, ρ => do
    let x ← evalE a ρ
    let y ← evalE b ρ
    match ← ofO (bop o1 x y) with
    | .bool true => do let z ← evalE c ρ; ofO (bop o2 y z)
    | .bool false => pure (.bool false)
    | _ => stuck
  | .neg a, ρ => do match ← evalE a ρ with
    | .int i => pure (.int (-i))
    | _ => stuck
  | .not_ a, ρ => do let x ← evalE a ρ; let b ← ofO (tru x); pure (.bool (!b))
  | .bo isAnd es, ρ => evalB isAnd es ρ
  | .ite c a b, ρ => do let x ← evalE c ρ; let t ← ofO (tru x); if t = true then evalE a ρ else evalE b ρ
  | .tup es, ρ => do let xs ← evalEs es ρ; guard (xs.all okEl) (pure (.tuple xs))
  | .lst es, ρ => do let xs ← evalEs es ρ; guard (xs.all okEl) (pure (.list xs))
  | .dic es, ρ => do pure (.dict (← evalKV es [] ρ))
  | .ix a b, ρ => do let x ← evalE a ρ; let y ← evalE b ρ; ofO (ixD x y)
  | .sl a lo hi st, ρ => do
    let x ← evalE a ρ
    let l ← evalE lo ρ
    let l ← ofO (partI l)
    let h ← evalE hi ρ
    let h ← ofO (partI h)
    let s ← evalE st ρ
    let s ← ofO (partI s)
    ofO (slD x l h s)
  | .call f b es, ρ => do
    let xs ← evalAs es ρ
    let d ← call f xs
    guard (!b || scal d) (pure d)
  | .callv i fs es, ρ => match ρ[i]? with
    | some (.f k) => guard (fs.contains k) (do let xs ← evalAs es ρ; call k xs)
    | _ => stuck
  | .draw i e, ρ => match ρ[i]? with
    | some .s => do match ← evalE e ρ with
      | .int n => do pure (.int (← draw n))
      | _ => stuck
    | _ => stuck
  | .gfn _, _ => stuck
  | .b1 p a, ρ => do let x ← evalE a ρ; ofO (p1 p x)
  | .b2 p a b, ρ => do let x ← evalE a ρ; let y ← evalE b ρ; ofO (p2 p x y)
  | .isa a t, ρ => do let x ← evalE a ρ; guard (!isDic x) (pure (.bool (isaD x t)))
  | .mcount a b, ρ => do let x ← evalE a ρ; guard (isSeqD x) (do let y ← evalE b ρ; ofO (mcountD x y))
  | .mindex a b, ρ => do let x ← evalE a ρ; guard (isSeqD x) (do let y ← evalE b ρ; ofO (mindexD x y))
  | .mget a b c, ρ => do let x ← evalE a ρ; guard (isDic x) (do let y ← evalE b ρ; let z ← evalE c ρ; ofO (mgetD x y z))
  | .mjoin a b, ρ => do let x ← evalE a ρ; let y ← evalE b ρ; ofO (joinD x y)
  | .msplit a b, ρ => do let x ← evalE a ρ; let y ← evalE b ρ; ofO (splitD x y)
  | .rng es, ρ => do let xs ← evalEs es ρ; ofO (rngD xs)
  | .rev a, ρ => do let x ← evalE a ρ; ofO (revD x)
  | .enm a, ρ => do let x ← evalE a ρ; ofO (enmD x)
  | .zp a b, ρ => do let x ← evalE a ρ; let y ← evalE b ρ; ofO (zpD x y)
  | .zp3 a b c, ρ => do let x ← evalE a ρ; let y ← evalE b ρ; let z ← evalE c ρ; ofO (zp3D x y z)
  | .items a, ρ => do let x ← evalE a ρ; ofO (itmD x)
  | .vals a, ρ => do let x ← evalE a ρ; ofO (valD x)
  | .setof a, ρ => do let x ← evalE a ρ; ofO (setD x)
  | .sset a, ρ => do let x ← evalE a ρ; ofO (ssetD x)
  | .comp t it ts e, ρ => noexc (do
    let x0 ← evalE it ρ
    let xs ← ofO (itemsOf x0)
    let ρ := clr (tgS t) ρ
    guard (decide (xs.length ≤ 1000000)) (do
    let ys ← compM (fun x => do
      let ρ' ← asgT t false x ρ
      let b ← evalT ts ρ'
      if b = true then do let y ← evalE e ρ'; guard (okEl y) (pure (some y)) else pure none) xs
    pure (.list ys)))
  | .comp2 t it ts t2 it2 ts2 e, ρ => noexc (do
    let x0 ← evalE it ρ
    let xs ← ofO (itemsOf x0)
    let ρ := clr (tgS t ++ tgS t2) ρ
    guard (decide (xs.length ≤ 1000)) (do
    let ys ← comp2M (fun x => do
      let ρ' ← asgT t false x ρ
      let b ← evalT ts ρ'
      if b = true then do
        let z0 ← evalE it2 ρ'
        let zs ← ofO (itemsOf z0)
        guard (decide (zs.length ≤ 1000)) (compM (fun z => do
          let ρ2 ← asgT t2 false z (clr (tgS t2) ρ')
          let b ← evalT ts2 ρ2
          if b = true then do let y ← evalE e ρ2; guard (okEl y) (pure (some y)) else pure none) zs)
      else pure []) xs
    pure (.list ys)))
  | .dcomp t it ts k v, ρ => noexc (do
    let x0 ← evalE it ρ
    let xs ← ofO (itemsOf x0)
    let ρ := clr (tgS t) ρ
    let kvs ← dcompM (fun x => do
      let ρ' ← asgT t false x ρ
      if (← evalT ts ρ') = true then do let a ← evalE k ρ'; let b ← evalE v ρ'; guard (shp a && okEl b) (pure (some (a, b))) else pure none) xs []
    pure (.dict kvs))
  | .dcomp2 t it t2 it2 k v, ρ => noexc (do
    let x0 ← evalE it ρ
    let xs ← ofO (itemsOf x0)
    let ρ := clr (tgS t ++ tgS t2) ρ
    let ps ← comp2M (fun x => do
      let ρ' ← asgT t false x ρ
      let z0 ← evalE it2 ρ'
      let zs ← ofO (itemsOf z0)
      compM (fun z => do
        let ρ2 ← asgT t2 false z ρ'
        let a ← evalE k ρ2
        let b ← evalE v ρ2
        guard (shp a && okEl b) (pure (some (.tuple [a, b])))) zs) xs
    let kvs ← dcompM (fun p => match p with
      | .tuple [a, b] => pure (some (a, b))
      | _ => stuck) ps []
    pure (.dict kvs))
  | .gen isAll t it e, ρ => noexc (do
    let x0 ← evalE it ρ
    let xs ← ofO (itemsOf x0)
    let ρ := clr (tgS t) ρ
    let b ← genM isAll (fun x => do
      let ρ' ← asgT t false x ρ
      let y ← evalE e ρ'
      ofO (boolD y)) xs
    pure (.bool b))
  | .gen2 isAll t it t2 it2 e, ρ => noexc (do
    let x0 ← evalE it ρ
    let xs ← ofO (itemsOf x0)
    let ρ := clr (tgS t ++ tgS t2) ρ
    pure (.bool (← genM isAll (fun x => do
      let ρ' ← asgT t false x ρ
      let z0 ← evalE it2 ρ'
      let zs ← ofO (itemsOf z0)
      genM isAll (fun z => do
        let ρ2 ← asgT t2 false z ρ'
        let y ← evalE e ρ2
        ofO (tru y)) zs) xs)))
  | .bt isAnd es, ρ => do let b ← evalBt isAnd es ρ; pure (.bool b)
  | .fstr es, ρ => do let xs ← evalEs es ρ; ofO (catS xs)
  | .sget i k, ρ => match ρ[i]? with
    | some .s => fun w => match k with
      | 0 => .ok (.int w.a) w
      | 1 => .ok (.int w.b) w
      | 3 => .ok (.int w.c) w
      | _ => .stuck
    | _ => stuck
  | .slen i, ρ => match ρ[i]? with
    | some .s => fun w => .ok (.int w.scr.length) w
    | _ => stuck
  | .scell i j, ρ => match ρ[i]? with
    | some .s => do match ← getV ρ[j]? with
      | .int j => fun w => match L2.atI w.scr j with
        | some v => .ok (.int v) w
        | none => .stuck
      | _ => stuck
    | _ => stuck
def evalEs : Es → Env → M (List PyData)
  | .nil, _ => pure []
  | .cons e es, ρ => do let x ← evalE e ρ; let xs ← evalEs es ρ; pure (x :: xs)
/-- a chain of and, or -/
def evalB (isAnd : Bool) : Es → Env → M PyData
  | .nil, _ => stuck
  | .cons e es, ρ => do
    let x ← evalE e ρ
    match es with
    | .nil => pure x
    | .cons _ _ => do let t ← ofO (tru x); if t = isAnd then evalB isAnd es ρ else pure x
/-- a chain of and, or, that is but tested -/
def evalBt (isAnd : Bool) : Es → Env → M Bool
  | .nil, _ => stuck
  | .cons e es, ρ => do
    let x ← evalE e ρ
    let t ← ofO (tru x)
    match es with
    | .nil => pure t
    | .cons _ _ => if t = isAnd then evalBt isAnd es ρ else pure t
/-- the tests of a comprehension -/
def evalT : Es → Env → M Bool
  | .nil, _ => pure true
  | .cons e es, ρ => do let x ← evalE e ρ; let t ← ofO (tru x); if t = true then evalT es ρ else pure false
def evalKV : Es → List (PyData × PyData) → Env → M (List (PyData × PyData))
  | .nil, acc, _ => pure acc
  | .cons e es, acc, ρ => do
    let k ← evalE e ρ
    match es with
    | .nil => stuck
    | .cons e2 es2 => do let v ← evalE e2 ρ; guard (shp k && okEl v) (evalKV es2 (dput acc k v) ρ)
/-- arguments -/
def evalAs : Es → Env → M (List Slot)
  | .nil, _ => pure []
  | .cons e es, ρ => do
    let x ← argS e ρ (evalE e ρ)
    let xs ← evalAs es ρ
    pure (x :: xs)
end
end

/-- the slots that an expression lets out -/
def escG : E → Env → Env := fun _ ρ => ρ
mutual
def esc : E → List Nat
  | .var i => [i]
  | .pk _ | .lit _ | .glb _ | .gfn _ | .draw _ _ | .sget _ _ | .slen _ | .scell _ _ => []
  | .bin _ a b => esc a ++ esc b
  | .chain _ _ a b c => esc a ++ (esc b ++ esc c)
  | .neg a | .not_ a | .b1 _ a | .isa a _ | .rev a | .enm a | .items a | .vals a | .setof a | .sset a => esc a
  | .bt _ es | .bo _ es | .tup es | .lst es | .dic es | .call _ _ es | .callv _ _ es | .rng es | .fstr es => escs es
  | .ite c a b => esc c ++ (esc a ++ esc b)
  | .ix a b | .b2 _ a b | .mcount a b | .mindex a b | .mjoin a b | .msplit a b | .zp a b => esc a ++ esc b
  | .mget a b c | .zp3 a b c => esc a ++ (esc b ++ esc c)
  | .sl a l h s => esc a ++ (esc l ++ (esc h ++ esc s))
  | .comp _ it ts e => esc it ++ (escs ts ++ esc e)
  | .comp2 _ it ts _ it2 ts2 e => esc it ++ (escs ts ++ (esc it2 ++ (escs ts2 ++ esc e)))
  | .dcomp _ it ts k v => esc it ++ (escs ts ++ (esc k ++ esc v))
  | .dcomp2 _ it _ it2 k v => esc it ++ (esc it2 ++ (esc k ++ esc v))
  | .gen _ _ it e => esc it ++ esc e
  | .gen2 _ _ it _ it2 e => esc it ++ (esc it2 ++ esc e)
def escs : Es → List Nat
  | .nil => []
  | .cons e es => esc e ++ escs es
end
def frz1 : Slot → Slot
  | .v _ d => .v false d
  | s => s
def frz : List Nat → Env → Env
  | [], ρ => ρ
  | i :: is, ρ => frz is (ρ.modify i frz1)

inductive Out
  | nx (ρ : Env) | rt (d : PyData) | bk (ρ : Env) | ct (ρ : Env)
def andThen (m : M Out) (f : Env → M Out) : M Out := do match ← m with
  | .nx ρ => f ρ
  | o => pure o
def forM_ (f : PyData → Env → M Out) : List PyData → Env → M Out
  | [], ρ => pure (.nx ρ)
  | x :: xs, ρ => do match ← f x ρ with
    | .nx ρ' => forM_ f xs ρ'
    | .ct ρ' => forM_ f xs ρ'
    | .bk ρ' => pure (.nx ρ')
    | .rt d => pure (.rt d)
def whM (c : Env → M (Bool × Env)) (f : Env → M Out) : Nat → Env → M Out
  | 0, _ => stuck
  | n + 1, ρ => do
    let r ← c ρ
    if r.1 = true then do
      match ← f r.2 with
      | .nx ρ' => whM c f n ρ'
      | .ct ρ' => whM c f n ρ'
      | .bk ρ' => pure (.nx ρ')
      | .rt d => pure (.rt d)
    else pure (.nx r.2)
def whFuel : Nat := 10 ^ 3000
def parT : Tg → Es → List PyData → Env → M Env
  | .t0, .nil, [], ρ => pure ρ
  | .tc a b, .cons e es, x :: xs, ρ => do parT b es xs (← asgT a (ownV (freshE e) x) x ρ)
  | _, _, _, _ => stuck
def appD (y : PyData) : PyData → M PyData
  | .list xs => guard (okEl y && decide (xs.length < 1000000)) (pure (.list (xs ++ [y])))
  | _ => stuck
def extD (y : PyData) : PyData → M PyData
  | .list xs => match y with
    | .list ys => guard (decide (xs.length + ys.length < 1000000)) (pure (.list (xs ++ ys)))
    | _ => stuck
  | _ => stuck
def setAt (ρ : Env) (i : Nat) (f : PyData → M PyData) : M Env := match ρ[i]? with
  | some (.v true d) => do pure (ρ.set i (.v true (← f d)))
  | _ => stuck
/-- an own list, or dict -/
def ownL : Option Slot → Bool
  | some (.v true (.list _)) => true
  | _ => false
def ownC : Option Slot → Bool
  | some (.v true (.list _)) => true
  | some (.v true (.dict _)) => true
  | _ => false
def putIx (k v : PyData) : PyData → M PyData
  | .list xs => match k with
    | .int i => match L2.ixN xs.length i with
      | some j => guard (okEl v) (pure (.list (xs.set j v)))
      | none => stuck
    | _ => stuck
  | .dict kvs => guard (leafKey k && okEl v && decide (kvs.length < 1000000)) (pure (.dict (dput kvs k v)))
  | _ => stuck
section
variable (gt : Nat → Option PyData) (call : Nat → List Slot → M PyData)
def evalS : S → Env → M Out
  | .skip, ρ => pure (.nx ρ)
  | .pass, ρ => pure (.nx ρ)
  | .seq a b, ρ => andThen (evalS a ρ) (evalS b)
  | .asg t e, ρ => do
    let ρ := frz (esc e) ρ
    let d ← evalE gt call e ρ
    pure (.nx (← asgT t (ownV (freshE e) d) d ρ))
  | .par t es, ρ => do
    let ρ := frz (escs es) ρ
    let ds ← evalEs gt call es ρ
    pure (.nx (← parT t es ds ρ))
  | .aug i o e, ρ => do
    let ρ := frz (esc e) ρ
    match ρ[i]? with
    | some (.v false x) => do
      let y ← evalE gt call e ρ
      match x with
      | .int _ => do let z ← ofO (bop o x y); pure (.nx (ρ.set i (.v false z)))
      | .list _ => stuck
      | _ => do let z ← ofO (gO later (bop o x y)); pure (.nx (ρ.set i (.v false z)))
    | _ => stuck
  | .setix i k v, ρ => do
    let ρ := frz (esc v ++ esc k) ρ
    let y ← evalE gt call v ρ
    M.guard (ownC ρ[i]?) (do
      let x ← evalE gt call k ρ
      let ρ' ← setAt ρ i (putIx x y)
      pure (.nx ρ'))
  | .augix i o k v, ρ => do
    let ρ := frz (esc k ++ esc v) ρ
    M.guard (ownC ρ[i]?) (do
      let x ← evalE gt call k ρ
      match ρ[i]? with
      | some (.v true d) => do
        let old ← ofO (ixD d x)
        match old with
        | .int _ => do
          let y ← evalE gt call v ρ
          let z ← ofO (bop o old y)
          let ρ' ← setAt ρ i (putIx x z)
          pure (.nx ρ')
        | _ => stuck
      | _ => stuck)
  | .delix i k, ρ => do
    let x ← evalE gt call k ρ
    pure (.nx (← setAt ρ i fun d => match d with
      | .dict kvs => if (dfind kvs x).isSome then pure (.dict (ddel kvs x)) else stuck
      | _ => stuck))
  | .swapix i a b c d, ρ => do
    let ρ := frz (esc c ++ (esc d ++ (esc a ++ esc b))) ρ
    let u ← evalE gt call c ρ
    let v ← evalE gt call d ρ
    let x ← evalE gt call a ρ
    let ρ ← setAt ρ i (putIx x u)
    let y ← evalE gt call b ρ
    pure (.nx (← setAt ρ i (putIx y v)))
  | .app i e, ρ => do
    let ρ := frz (esc e) ρ
    M.guard (ownL ρ[i]?) (do
      let y ← evalE gt call e ρ
      let ρ' ← setAt ρ i (appD y)
      pure (.nx ρ'))
  | .ext i e, ρ => do
    let ρ := frz (esc e) ρ
    M.guard (ownL ρ[i]?) (do
      let y ← evalE gt call e ρ
      let ρ' ← setAt ρ i (extD y)
      pure (.nx ρ'))
  | .rem i e, ρ => do
    let ρ := frz (esc e) ρ
    let y ← evalE gt call e ρ
    pure (.nx (← setAt ρ i fun d => match d with
      | .list xs => match xs.findIdx? fun z => PyData.eqv z y with
        | some k => guard (shp y && shp (.list xs)) (pure (.list (xs.eraseIdx k)))
        | none => stuck
      | _ => stuck))
  | .popTo t i, ρ => match ρ[i]? with
    | some (.v true (.list xs)) => match xs.getLast? with
      | some d => do pure (.nx (← asgT t false d (ρ.set i (.v true (.list xs.dropLast)))))
      | none => stuck
    | _ => stuck
  | .appix i k e, ρ => do
    let ρ := frz (esc e) ρ
    let x ← evalE gt call k ρ
    let y ← evalE gt call e ρ
    pure (.nx (← setAt ρ i fun d => do match ← ofO (ixD d x) with
      | .list xs => guard (okEl y) (match d with
        | .dict kvs => pure (.dict (dput kvs x (.list (xs ++ [y]))))
        | d => putIx x (.list (xs ++ [y])) d)
      | _ => stuck))
  | .setix2 i k l v, ρ => do
    let ρ := frz (esc v) ρ
    let z ← evalE gt call v ρ
    let x ← evalE gt call k ρ
    let y ← evalE gt call l ρ
    pure (.nx (← setAt ρ i fun d => do let u ← ofO (ixD d x); let t ← putIx y z u; putIx x t d))
  | .sdef i k v a, ρ => do
    let ρ := frz (esc v ++ esc k) ρ
    let x ← evalE gt call k ρ
    let y ← evalE gt call v ρ
    match ρ[i]? with
    | some (.v true (.dict kvs)) => match dfind kvs x with
      | some z => guard (shp z && shp y && shp x) (if PyData.eqv z y = true then pure (.nx ρ) else evalS a ρ)
      | none => guard (shp x && okEl y && shp y) (pure (.nx (ρ.set i (.v true (.dict (dput kvs x y))))))
    | _ => stuck
  | .expr e, ρ => do
    let ρ := frz (esc e) ρ
    let _ ← evalE gt call e ρ
    pure (.nx ρ)
  | .ret e, ρ => do
    let ρ := frz (esc e) ρ
    pure (.rt (← evalE gt call e ρ))
  | .retn, _ => pure (.rt .none)
  | .st0 i j, ρ => match ρ[j]? with
    | some (.v false (.list xs)) => match intsOf xs with
      | some ns => fun _ => .ok (.nx (ρ.set i .s)) ⟨0, 0, ns, 1⟩
      | none => stuck
    | _ => stuck
  | .ite c a b, ρ => do
    let ρ := frz (esc c) ρ
    let x ← evalE gt call c ρ
    let t ← ofO (tru x)
    if t = true then evalS a ρ else evalS b ρ
  | .wh c b, ρ => whM (fun ρ => do
      let ρ := frz (esc c) ρ
      let x ← evalE gt call c ρ
      let t ← ofO (tru x)
      pure (t, ρ)) (evalS b) whFuel ρ
  | .for_ t it b, ρ => do
    let ρ := frz (esc it) ρ
    let x0 ← evalE gt call it ρ
    let xs ← ofO (itemsOf x0)
    forM_ (fun x ρ => do evalS b (← asgT t false x ρ)) xs ρ
  | .forPop t f es i b, ρ => do
    let ρ := frz (escs es) ρ
    match ρ[i]? with
    | some (.v true (.list ws)) => match ws.getLast? with
      | some d => do
        let as ← evalAs gt call es ρ
        let ρ := ρ.set i (.v true (.list ws.dropLast))
        let x0 ← call f (as ++ [.v false d])
        let xs ← ofO (itemsOf x0)
        forM_ (fun x ρ => do evalS b (← asgT t false x ρ)) xs ρ
      | none => stuck
    | _ => stuck
  | .brk, ρ => pure (.bk ρ)
  | .cnt, ρ => pure (.ct ρ)
  | .raise c, _ => M.raise c .none
  | .raiseP c e, ρ => do M.raise c (← evalE gt call e ρ)
  | .try_ r e hs, ρ => fun w =>
    let ρ := frz (esc e) ρ
    match evalE gt call e ρ w with
    | .ok d w' => .ok (if r = true then .rt d else .nx ρ) w'
    | .exc c p w' => match hs.lookup c with
      | some h => .ok (.rt (evHd p h)) w'
      | none => .exc c p w'
    | .stuck => .stuck
  | .sset i k e, ρ => match ρ[i]? with
    | some .s => do match ← evalE gt call e ρ with
      | .int v => fun w => match k with
        | 0 => .ok (.nx ρ) { w with a := v }
        | 1 => if 0 ≤ v then .ok (.nx ρ) { w with b := v } else .stuck
        | 3 => if 0 ≤ v ∧ v < 2 ^ 31 then .ok (.nx ρ) { w with c := v } else .stuck
        | _ => .stuck
      | _ => stuck
    | _ => stuck
end
/-- a def: its parameters, its slots, its text -/
structure Def where
  ar : Nat
  ns : Nat
  body : S
def entry (d : Def) (as : List Slot) : Env := as ++ List.replicate (d.ns - d.ar) .un
def outD : Out → M PyData
  | .rt d => pure d
  | .nx _ => pure .none
  | _ => stuck
def run (gt : Nat → Option PyData) (P : Nat → Option Def) : Nat → Nat → List Slot → M PyData
  | 0, _, _ => stuck
  | n + 1, f, as => match P f with
    | some d => guard (decide (as.length = d.ar)) (do outD (← evalS gt (run gt P n) d.body (entry d as)))
    | none => stuck
end Wv

set_option autoImplicit false
set_option linter.all false
set_option maxRecDepth 100000
namespace Wv
open PySem
theorem dle_int (i j : Int) : PySem.W.dataLe false id (.int i) (.int j) = decide (i ≤ j) := by
  show (!(PyProof.Rows.lexLt PyProof.Rows.itemOrd [.inl j] [.inl i])) = _
  rw [PyProof.Rows.lex_cons]
  show (!(decide (j < i) || (!decide (i < j) && PyProof.Rows.lexLt PyProof.Rows.itemOrd [] []))) = _
  have : PyProof.Rows.lexLt PyProof.Rows.itemOrd [] [] = false := rfl
  rw [this, Bool.and_false, Bool.or_false]
  by_cases h : i ≤ j
  · rw [decide_eq_true h, decide_eq_false (by omega)]; rfl
  · rw [decide_eq_false h, decide_eq_true (by omega)]; rfl
/-- the ints of ints, sorted -/
theorem srt_uniq {ns ms : List Int} (hp : ms.Perm ns) (hs : ms.Pairwise (· ≤ ·)) : (ns.map PyData.int).mergeSort (PySem.W.dataLe false id) = ms.map PyData.int := by
  have tr : ∀ a b c : PyData, PySem.W.dataLe false id a b = true → PySem.W.dataLe false id b c = true → PySem.W.dataLe false id a c = true := fun a b c => (PySem.W.sortLe_total _ false _).trans a b c
  have tt : ∀ a b : PyData, (PySem.W.dataLe false id a b || PySem.W.dataLe false id b a) = true := fun a b => Bool.or_eq_true_iff.mpr ((PySem.W.sortLe_total _ false _).total a b)
  have h1 := List.pairwise_mergeSort tr tt (ns.map PyData.int)
  have h2 : ((ns.map PyData.int).mergeSort (PySem.W.dataLe false id)).Perm (ms.map PyData.int) := (List.mergeSort_perm _ _).trans (hp.symm.map _)
  have h3 : (ms.map PyData.int).Pairwise (fun a b => PySem.W.dataLe false id a b = true) := by
    rw [List.pairwise_map]
    exact hs.imp fun {a b} h => by rw [dle_int]; exact decide_eq_true h
  refine List.Perm.eq_of_pairwise (le := fun a b => PySem.W.dataLe false id a b = true) (fun a b ha hb h4 h5 => ?_) h1 h3 h2
  obtain ⟨i, _, rfl⟩ := List.mem_map.mp (h2.mem_iff.mp ha)
  obtain ⟨j, _, rfl⟩ := List.mem_map.mp hb
  rw [dle_int] at h4 h5
  have h4 := of_decide_eq_true h4
  have h5 := of_decide_eq_true h5
  rw [show i = j by omega]
theorem ddp_go {α : Type} [BEq α] [LawfulBEq α] : ∀ (xs acc : List α), acc.Nodup → (xs.foldl (fun acc x => if acc.any (· == x) = true then acc else acc ++ [x]) acc).Nodup ∧ ∀ y, y ∈ xs.foldl (fun acc x => if acc.any (· == x) = true then acc else acc ++ [x]) acc ↔ y ∈ acc ∨ y ∈ xs
  | [], acc, h => ⟨h, fun y => by simp⟩
  | x :: xs, acc, h => by
    rw [List.foldl_cons]
    by_cases hx : acc.any (· == x) = true
    · rw [if_pos hx]
      obtain ⟨h1, h2⟩ := ddp_go xs acc h
      refine ⟨h1, fun y => ?_⟩
      rw [h2 y, List.mem_cons]
      have : x ∈ acc := by
        obtain ⟨z, hz, e⟩ := List.any_eq_true.mp hx
        rw [← eq_of_beq e]; exact hz
      constructor
      · rintro (z | z)
        · exact .inl z
        · exact .inr (.inr z)
      · rintro (z | z | z)
        · exact .inl z
        · rw [z]; exact .inl this
        · exact .inr z
    · rw [if_neg hx]
      have hn : x ∉ acc := fun z => hx (List.any_eq_true.mpr ⟨x, z, by simp⟩)
      have hd : (acc ++ [x]).Nodup := by
        rw [List.nodup_append]
        exact ⟨h, by simp, fun a ha b hb => by
          rw [List.mem_singleton.mp hb]
          exact fun e => hn (e ▸ ha)⟩
      obtain ⟨h1, h2⟩ := ddp_go xs (acc ++ [x]) hd
      refine ⟨h1, fun y => ?_⟩
      rw [h2 y, List.mem_append, List.mem_singleton, List.mem_cons, or_assoc]
theorem ddp_ok {α : Type} [BEq α] [LawfulBEq α] (xs : List α) : (ddp xs).Nodup ∧ ∀ y, y ∈ ddp xs ↔ y ∈ xs := by
  obtain ⟨h1, h2⟩ := ddp_go xs [] List.nodup_nil
  exact ⟨h1, fun y => (h2 y).trans (by simp)⟩
theorem len_same {α : Type} [DecidableEq α] {l m : List α} (h1 : l.Nodup) (h2 : m.Nodup) (h : ∀ y, y ∈ l ↔ y ∈ m) : l.length = m.length :=
  ((List.perm_ext_iff_of_nodup h1 h2).mpr h).length_eq
end Wv

set_option autoImplicit false
set_option linter.all false
set_option maxRecDepth 100000
set_option maxHeartbeats 4000000
namespace Wv
open PySem PySem.Spec PyProof.Rows L2

/-! ### what stands where -/
/-- a dict's object, as it stands -/
def rawO (a : Addr) (o : Obj) : HO := .ext fun h => h.get? a = some o
/-- the frozen part lies in the heap -/
def Fit (F H : Hp) : Prop := ∀ a o, F a = some o → H a = some o
structure Ext (H F H' F' : Hp) : Prop where
  hs : Same H H'
  fs : Same F F'
  fit : Fit F' H'
  new : ∀ a o, F' a = some o → F a = some o ∨ H a = none
structure Grow (Ex : Addr → Prop) (H F H' F' : Hp) : Prop where
  hs : ∀ a o, ¬ Ex a → H a = some o → H' a = some o
  ex : ∀ a, H' a = none → H a = none
  fs : Same F F'
  fit : Fit F' H'
  new : ∀ a o, F' a = some o → F a = some o ∨ H a = none
section
variable {Ex : Addr → Prop} {H F H' F' H2 F2 : Hp}
theorem Ext.refl (f : Fit F H) : Ext H F H F := ⟨Same.refl _, Same.refl _, f, fun _ _ h => .inl h⟩
theorem Ext.grow (e : Ext H F H' F') : Grow Ex H F H' F' := ⟨fun a o _ h => e.hs a o h, fun _ h => e.hs.free h, e.fs, e.fit, e.new⟩
theorem Grow.refl (f : Fit F H) : Grow Ex H F H F := ⟨fun _ _ _ h => h, fun _ h => h, Same.refl _, f, fun _ _ h => .inl h⟩
theorem Ext.trans (a : Ext H F H' F') (b : Ext H' F' H2 F2) : Ext H F H2 F2 := ⟨a.hs.trans b.hs, a.fs.trans b.fs, b.fit, fun c o h => by
  rcases b.new c o h with q | q
  · exact a.new c o q
  · exact .inr (a.hs.free q)⟩
theorem Grow.trans (a : Grow Ex H F H' F') (b : Grow Ex H' F' H2 F2) : Grow Ex H F H2 F2 := ⟨fun c o n h => b.hs c o n (a.hs c o n h), fun c h => a.ex c (b.ex c h), a.fs.trans b.fs, b.fit, fun c o h => by
  rcases b.new c o h with q | q
  · exact a.new c o q
  · exact .inr (a.ex c q)⟩
theorem fit_upd {p : Addr} {o : HO} (f : Fit F H) : Fit (upd F p o) (upd H p o) := fun a u h => by
  by_cases e : a = p
  · subst e; rw [upd_same] at h ⊢; exact h
  · rw [upd_ne e] at h ⊢; exact f a u h
theorem same_upd {p : Addr} {o : HO} (h : H p = none) : Same H (upd H p o) := fun b u e => by
  rw [upd_ne (ne_of_none e h)]; exact e
theorem Fit.none {p : Addr} (f : Fit F H) (h : H p = none) : F p = none := by
  cases e : F p with
  | none => rfl
  | some o => rw [f p o e] at h; cases h
/-- a new object, frozen at once -/
theorem Ext.mk1 {p : Addr} {o : HO} (f : Fit F H) (h : H p = none) : Ext H F (upd H p o) (upd F p o) :=
  ⟨same_upd h, same_upd (f.none h), fit_upd f, fun a u e => by
    by_cases q : a = p
    · subst q; exact .inr h
    · rw [upd_ne q] at e; exact .inl e⟩
/-- a new object, not frozen -/
theorem Ext.mk0 {p : Addr} {o : HO} (f : Fit F H) (h : H p = none) : Ext H F (upd H p o) F :=
  ⟨same_upd h, Same.refl _, fun a u e => same_upd h a u (f a u e), fun a u e => .inl e⟩
end

section
variable {K : PySem.W.Frag} {F H F' H' : Hp}
theorem rd_mono {a : Addr} {u : HO} (s : Same F F') (h : Rd F a u) : Rd F' a u := by
  rcases h with h | ⟨o, h⟩
  · exact .inl (s _ _ h)
  · exact .inr ⟨o, s _ _ h⟩
theorem sqL_mono {a : Addr} {xs : List V} (s : Same F F') (h : SqL K F a xs) : SqL K F' a xs := h.imp (rd_mono s) id
/-- a tuple that has no dict -/
def SqZ (H : Hp) (a : Addr) (xs : List V) : Prop := ∃ o, H a = some (.frz o (.tup xs)) ∧ o.dict = none
theorem SqZ.sq {a : Addr} {xs : List V} (h : SqZ F a xs) : SqT K F a xs := let ⟨o, e, _⟩ := h; .inl (.inr ⟨o, e⟩)
theorem sqZ_mono {a : Addr} {xs : List V} (s : Same F F') (h : SqZ F a xs) : SqZ F' a xs := let ⟨o, e, q⟩ := h; ⟨o, s _ _ e, q⟩
theorem sqT_mono {a : Addr} {xs : List V} (s : Same F F') (h : SqZ F a xs) : SqT K F' a xs := (sqZ_mono s h).sq
mutual
inductive Dq (K : PySem.W.Frag) (H : Hp) : V → PyData → Prop
  | non : Dq K H .non .none
  | bl (b : Bool) : Dq K H (.bl b) (.bool b)
  | int (i : Int) : Dq K H (.int i) (.int i)
  | str (x : Str) : Dq K H (.str x) (.str x)
  | lst {a : Addr} {xs : List V} {ds : List PyData} : H a = some (.lst xs) → DqAll K H xs ds → Dq K H (.ref a) (.list ds)
  | tup {a : Addr} {xs : List V} {ds : List PyData} : SqZ H a xs → DqAll K H xs ds → Dq K H (.ref a) (.tuple ds)
inductive DqAll (K : PySem.W.Frag) (H : Hp) : List V → List PyData → Prop
  | nil : DqAll K H [] []
  | cons {v : V} {vs : List V} {d : PyData} {ds : List PyData} : Dq K H v d → DqAll K H vs ds → DqAll K H (v :: vs) (d :: ds)
end
mutual
theorem dq_dp : ∀ (d : PyData) (v : V), Dq K F v d → Dp K F v d
  | .none, _, h => by cases h; exact .non
  | .bool b, _, h => by cases h; exact .bl b
  | .int i, _, h => by cases h; exact .int i
  | .str x, _, h => by cases h; exact .str x
  | .list ds, _, h => by cases h with
    | lst a b => exact .lst (.inl (.inl a)) (dq_dpAll ds _ b)
  | .tuple ds, _, h => by cases h with
    | tup a b => exact .tup a.sq (dq_dpAll ds _ b)
  | .dict _, _, h => by cases h
theorem dq_dpAll : ∀ (ds : List PyData) (vs : List V), DqAll K F vs ds → DpAll K F vs ds
  | [], _, h => by cases h; exact .nil
  | d :: ds, _, h => by cases h with
    | cons a b => exact .cons (dq_dp d _ a) (dq_dpAll ds _ b)
end
mutual
theorem dp_mono (s : Same F F') : ∀ (d : PyData) (v : V), Dq K F v d → Dq K F' v d
  | .none, _, h => by cases h; exact .non
  | .bool b, _, h => by cases h; exact .bl b
  | .int i, _, h => by cases h; exact .int i
  | .str x, _, h => by cases h; exact .str x
  | .list ds, _, h => by cases h with
    | lst a b => exact .lst (s _ _ a) (dpAll_mono s ds _ b)
  | .tuple ds, _, h => by cases h with
    | tup a b => exact .tup (sqZ_mono s a) (dpAll_mono s ds _ b)
  | .dict _, _, h => by cases h
theorem dpAll_mono (s : Same F F') : ∀ (ds : List PyData) (vs : List V), DqAll K F vs ds → DqAll K F' vs ds
  | [], _, h => by cases h; exact .nil
  | d :: ds, _, h => by cases h with
    | cons a b => exact .cons (dp_mono s d _ a) (dpAll_mono s ds _ b)
end
theorem dpa_len : ∀ {vs : List V} {ds : List PyData}, DqAll K F vs ds → vs.length = ds.length
  | _, _, .nil => rfl
  | _, _, .cons _ t => by rw [List.length_cons, List.length_cons, dpa_len t]
theorem dpa_app : ∀ {vs ws : List V} {ds es : List PyData}, DqAll K F vs ds → DqAll K F ws es → DqAll K F (vs ++ ws) (ds ++ es)
  | _, _, _, _, .nil, h => h
  | _, _, _, _, .cons a t, h => .cons a (dpa_app t h)
theorem dpa_get : ∀ {vs : List V} {ds : List PyData} {i : Nat} {d : PyData}, DqAll K F vs ds → ds[i]? = some d → ∃ v, vs[i]? = some v ∧ Dq K F v d
  | _, _, i, d, .nil, h => by simp at h
  | _, _, 0, d, .cons a _, h => by simp at h; subst h; exact ⟨_, rfl, a⟩
  | _, _, i + 1, d, .cons _ t, h => by
    obtain ⟨v, e, q⟩ := dpa_get (i := i) t (by simpa using h)
    exact ⟨v, by simpa using e, q⟩
theorem dpa_get' : ∀ {vs : List V} {ds : List PyData} {i : Nat} {v : V}, DqAll K F vs ds → vs[i]? = some v → ∃ d, ds[i]? = some d ∧ Dq K F v d
  | _, _, i, d, .nil, h => by simp at h
  | _, _, 0, d, .cons a _, h => by simp at h; subst h; exact ⟨_, rfl, a⟩
  | _, _, i + 1, d, .cons _ t, h => by
    obtain ⟨v, e, q⟩ := dpa_get' (i := i) t (by simpa using h)
    exact ⟨v, by simpa using e, q⟩
theorem dpa_take : ∀ {vs : List V} {ds : List PyData} (n : Nat), DqAll K F vs ds → DqAll K F (vs.take n) (ds.take n)
  | _, _, 0, _ => .nil
  | _, _, _ + 1, .nil => .nil
  | _, _, n + 1, .cons a t => .cons a (dpa_take n t)
theorem dpa_drop : ∀ {vs : List V} {ds : List PyData} (n : Nat), DqAll K F vs ds → DqAll K F (vs.drop n) (ds.drop n)
  | _, _, 0, h => h
  | _, _, _ + 1, .nil => .nil
  | _, _, n + 1, .cons _ t => dpa_drop n t
theorem dpa_set : ∀ {vs : List V} {ds : List PyData} (n : Nat) {v : V} {d : PyData}, DqAll K F vs ds → Dq K F v d → DqAll K F (vs.set n v) (ds.set n d)
  | _, _, _, _, _, .nil, _ => .nil
  | _, _, 0, _, _, .cons _ t, h => .cons h t
  | _, _, n + 1, _, _, .cons a t, h => .cons a (dpa_set n t h)
theorem dpa_rev {vs : List V} {ds : List PyData} (h : DqAll K F vs ds) : DqAll K F vs.reverse ds.reverse := by
  induction h using DqAll.rec (motive_1 := fun _ _ _ => True) with
  | nil => exact .nil
  | cons a t _ ih => rw [List.reverse_cons, List.reverse_cons]; exact dpa_app ih (.cons a .nil)
  | _ => trivial
theorem dpa_ints : ∀ {vs : List V} {ds : List PyData} {ns : List Int}, DqAll K F vs ds → intsOf ds = some ns → vs = ns.map V.int
  | _, _, ns, .nil, h => by simp [intsOf] at h; subst h; rfl
  | v :: vs, d :: ds, ns, .cons a t, h => by
    cases d with
    | int i =>
      cases a
      simp only [intsOf, Option.map_eq_some_iff] at h
      obtain ⟨m, h1, rfl⟩ := h
      rw [dpa_ints t h1]; rfl
    | _ => simp [intsOf] at h
end

/-! ### how a value is told -/
/-- a key -/
def kOf : PyData → Option L2.Key
  | .int i => some (.inl i)
  | .str x => some (.inr x)
  | _ => none
variable (K : PySem.W.Frag) (w : World)
/-- an entry of a dict -/
def EntAt (F : Hp) (p : PyData × PyData) (e : L2.Key × V) : Prop := kOf p.1 = some e.1 ∧ Dq K F e.2 p.2
/-- at a stands a dict -/
def DicAt (F H : Hp) (a : Addr) (kvs : List (PyData × PyData)) : Prop := ∃ ks : List (L2.Key × V), H a = some (.dK ks) ∧ Paired (EntAt K F) kvs ks
inductive RepF (K : PySem.W.Frag) (w : World) (F : Hp) : V → PyData → Prop
  | dat {v : V} {d : PyData} : Dq K F v d → RepF K w F v d
  | dic {a : Addr} {kvs : List (PyData × PyData)} : DicAt K F F a kvs → RepF K w F (.ref a) (.dict kvs)
inductive RepP (K : PySem.W.Frag) (w : World) (Ex : Addr → Prop) (F H : Hp) : V → PyData → Prop
  | frz {v : V} {d : PyData} : RepF K w F v d → RepP K w Ex F H v d
  | lst {a : Addr} {vs : List V} {ds : List PyData} : ¬ Ex a → F a = none → H a = some (.lst vs) → DqAll K F vs ds → RepP K w Ex F H (.ref a) (.list ds)
  | dic {a : Addr} {kvs : List (PyData × PyData)} : ¬ Ex a → F a = none → DicAt K F H a kvs → RepP K w Ex F H (.ref a) (.dict kvs)
variable {K w} {F H F' H' : Hp}
theorem entAt_mono {p : PyData × PyData} {e : L2.Key × V} (s : Same F F') (h : EntAt K F p e) : EntAt K F' p e := ⟨h.1, dp_mono s _ _ h.2⟩
theorem dicAt_mono {a : Addr} {kvs : List (PyData × PyData)} (s : Same F F') (t : ∀ o, H a = some o → H' a = some o) (h : DicAt K F H a kvs) : DicAt K F' H' a kvs := by
  obtain ⟨ks, h1, h2⟩ := h
  exact ⟨ks, t _ h1, Paired.mapP h2 fun _ _ q => entAt_mono s q⟩
theorem RepF.mono {v : V} {d : PyData} (s : Same F F') (h : RepF K w F v d) : RepF K w F' v d := by
  cases h with
  | dat h => exact .dat (dp_mono s _ _ h)
  | dic h => exact .dic (dicAt_mono s (s _) h)
theorem RepP.grow {Ex : Addr → Prop} {v : V} {d : PyData} (g : Grow Ex H F H' F') (h : RepP K w Ex F H v d) : RepP K w Ex F' H' v d := by
  have nf : ∀ a o, F a = none → H a = some o → F' a = none := fun a o h1 h2 => by
    cases e : F' a with
    | none => rfl
    | some u =>
      rcases g.new a u e with q | q
      · rw [h1] at q; cases q
      · rw [h2] at q; cases q
  cases h with
  | frz h => exact .frz (h.mono g.fs)
  | lst h0 h1 h2 h3 => exact .lst h0 (nf _ _ h1 h2) (g.hs _ _ h0 h2) (dpAll_mono g.fs _ _ h3)
  | dic h0 h1 h2 =>
    obtain ⟨ks, q, r⟩ := id h2
    exact .dic h0 (nf _ _ h1 q) (dicAt_mono g.fs (fun o h => g.hs _ _ h0 h) h2)
section
variable {v : V} {Ex : Addr → Prop}
theorem RepF.list {ds : List PyData} (h : RepF K w F v (.list ds)) : ∃ a vs, v = .ref a ∧ F a = some (.lst vs) ∧ DqAll K F vs ds := by
  cases h with
  | dat h => cases h with
    | lst a b => exact ⟨_, _, rfl, a, b⟩
theorem RepF.tuple {ds : List PyData} (h : RepF K w F v (.tuple ds)) : ∃ a vs, v = .ref a ∧ SqZ F a vs ∧ DqAll K F vs ds := by
  cases h with
  | dat h => cases h with
    | tup a b => exact ⟨_, _, rfl, a, b⟩
theorem RepP.list {ds : List PyData} (f : Fit F H) (h : RepP K w Ex F H v (.list ds)) : ∃ a vs, v = .ref a ∧ H a = some (.lst vs) ∧ DqAll K F vs ds := by
  cases h with
  | frz h =>
    obtain ⟨a, vs, e, h1, h2⟩ := h.list
    exact ⟨a, vs, e, f _ _ h1, h2⟩
  | lst _ _ h2 h3 => exact ⟨_, _, rfl, h2, h3⟩
theorem RepP.tuple {ds : List PyData} (h : RepP K w Ex F H v (.tuple ds)) : ∃ a vs, v = .ref a ∧ SqZ F a vs ∧ DqAll K F vs ds := by
  cases h with
  | frz h => exact h.tuple
theorem RepP.int {i : Int} (h : RepP K w Ex F H v (.int i)) : v = .int i := by
  cases h with
  | frz h => cases h with
    | dat h => cases h; rfl
theorem RepP.bool {i : Bool} (h : RepP K w Ex F H v (.bool i)) : v = .bl i := by
  cases h with
  | frz h => cases h with
    | dat h => cases h; rfl
theorem RepP.str {i : Str} (h : RepP K w Ex F H v (.str i)) : v = .str i := by
  cases h with
  | frz h => cases h with
    | dat h => cases h; rfl
theorem RepP.none (h : RepP K w Ex F H v .none) : v = .non := by
  cases h with
  | frz h => cases h with
    | dat h => cases h; rfl
theorem RepP.dict {kvs : List (PyData × PyData)} (f : Fit F H) (h : RepP K w Ex F H v (.dict kvs)) : ∃ a, v = .ref a ∧ DicAt K F H a kvs := by
  cases h with
  | frz h => cases h with
    | dat h => cases h
    | dic h => exact ⟨_, rfl, dicAt_mono (Same.refl _) (f _) h⟩
  | dic _ _ h => exact ⟨_, rfl, h⟩
/-- data is read in the whole heap -/
theorem RepP.dp {d : PyData} (f : Fit F H) (n : isDic d = false) (h : RepP K w Ex F H v d) : Dp K H v d := by
  refine dq_dp _ _ ?_
  cases h with
  | frz h => cases h with
    | dat h => exact dp_mono f _ _ h
    | dic h => cases n
  | lst _ _ h2 h3 => exact .lst h2 (dpAll_mono f _ _ h3)
  | dic _ _ h => cases n
theorem RepF.dp {d : PyData} (n : isDic d = false) (h : RepF K w F v d) : Dq K F v d := by
  cases h with
  | dat h => exact h
  | dic h => cases n
theorem RepF.scal {d : PyData} (n : scal d = true) (h : RepP K w Ex F H v d) : RepF K w F' v d := by
  cases d with
  | none => rw [h.none]; exact .dat .non
  | bool b => rw [h.bool]; exact .dat (.bl b)
  | int i => rw [h.int]; exact .dat (.int i)
  | str x => rw [h.str]; exact .dat (.str x)
  | _ => cases n
end
end Wv

set_option autoImplicit false
set_option linter.all false
set_option maxRecDepth 100000
set_option maxHeartbeats 4000000
namespace Wv
open PySem PySem.Spec PyProof.Rows L2

/-! ### operators by values -/
section
variable {X : Cx}
def rB (K : PySem.W.Frag) (w : World) (o : Bop) : R2 := fun x y H Q => ∃ Ex F d1 d2 d3, Fit F H ∧ RepP K w Ex F H x d1 ∧ RepP K w Ex F H y d2 ∧ bop o d1 d2 = some d3 ∧ ∀ v H' F', Ext H F H' F' → RepF K w F' v d3 → Q v H'
variable {K : PySem.W.Frag} {w : World} {F H : Hp} {Q : VK} {Ex : Addr → Prop}
theorem q_int {i : Int} (f : Fit F H) (q : ∀ v H' F', Ext H F H' F' → RepF K w F' v (.int i) → Q v H') : Q (.int i) H := q _ H F (Ext.refl f) (.dat (.int i))
theorem q_bl {i : Bool} (f : Fit F H) (q : ∀ v H' F', Ext H F H' F' → RepF K w F' v (.bool i) → Q v H') : Q (.bl i) H := q _ H F (Ext.refl f) (.dat (.bl i))
theorem q_str {i : Str} (f : Fit F H) (q : ∀ v H' F', Ext H F H' F' → RepF K w F' v (.str i) → Q v H') : Q (.str i) H := q _ H F (Ext.refl f) (.dat (.str i))
theorem q_lst {vs : List V} {ds : List PyData} (f : Fit F H) (h : DqAll K F vs ds) (q : ∀ v H' F', Ext H F H' F' → RepF K w F' v (.list ds) → Q v H') : ∀ p, H p = none → Q (.ref p) (upd H p (.lst vs)) := fun p np =>
  q _ _ _ (Ext.mk1 f np) (.dat (.lst upd_same (dpAll_mono (same_upd (f.none np)) _ _ h)))
theorem q_tup {vs : List V} {ds : List PyData} (f : Fit F H) (h : DqAll K F vs ds) (q : ∀ v H' F', Ext H F H' F' → RepF K w F' v (.tuple ds) → Q v H') : ∀ p o, H p = none → o.dict = none → Q (.ref p) (upd H p (.frz o (.tup vs))) := fun p o np nd =>
  q _ _ _ (Ext.mk1 f np) (.dat (.tup ⟨o, upd_same, nd⟩ (dpAll_mono (same_upd (f.none np)) _ _ h)))
/-- a new tuple -/
theorem Inv.laidT {pins : List (Addr × Obj)} {σ : L2.St} {s : Shared} {vs : List V} {its : List Value} (I : Inv X pins σ H s) (r : Vals vs its) (hz : vs.length ≤ sizeLine) (q : ∀ p o, H p = none → o.dict = none → Q (.ref p) (upd H p (.frz o (.tup vs)))) :
    EP X pins σ Q (.ref s.heap.objs.size) { s with heap := s.heap.push { cls := .type "tuple", data := .seq its.toArray } } :=
  ⟨.ref s.heap.objs.size, _, I.laid (t' := s.toks) (o := .frz { cls := .type "tuple", data := .seq its.toArray } (.tup vs)) (fun b ob q => Heap.get?_push_of_some _ q) (Nat.le_refl _) ⟨Heap.get?_push_size _ rfl, hz, _, r, IsTup.new _ _⟩, rfl, q _ _ (I.hok.fresh (Nat.le_refl _)) rfl⟩
/-- t + u -/
def rCatZ (K : PySem.W.Frag) : R2 := fun x y H Q => ∃ a b xs ys, x = .ref a ∧ y = .ref b ∧ SqT K H a xs ∧ SqT K H b ys ∧ xs.length + ys.length ≤ sizeLine ∧
  (xs = [] → Q (.ref b) H) ∧ (xs ≠ [] → ys = [] → Q (.ref a) H) ∧ (xs ≠ [] → ys ≠ [] → ∀ p o, H p = none → o.dict = none → Q (.ref p) (upd H p (.frz o (.tup (xs ++ ys)))))
theorem op_catZ : OpR X (binaryOp .Add) (rCatZ X.K) := by
  intro pins s σ H x y v u Q I rx ry h
  obtain ⟨a, b, xs, ys, rfl, rfl, ha, hb, hz, q0, q1, q2⟩ := h
  cases rx
  cases ry
  obtain ⟨its, r1, p1, _⟩ := I.tuple ha
  obtain ⟨its2, r2, p2, _⟩ := I.tuple hb
  by_cases hx : xs = []
  · subst hx
    cases r1
    exact cat_tup0 p1 p2 ⟨.ref b, H, I, rfl, q0 rfl⟩
  · refine HT.cat_tup p1 p2 (fun z => hx (r1.nil_iff.mp z)) (fun z => ⟨.ref a, H, I, rfl, q1 hx (r2.nil_iff.mp z)⟩) (fun z => ?_) (by rw [← r1.length, ← r2.length]; exact hz)
    exact Inv.laidT I (r1.append r2) (by rw [List.length_append]; exact hz) (q2 hx fun w => z (r2.nil_iff.mpr w))
theorem dpa_nil {vs : List V} (h : DqAll K F vs []) : vs = [] := by cases h; rfl
theorem dpa_ne {vs : List V} {ds : List PyData} (h : DqAll K F vs ds) (e : ds ≠ []) : vs ≠ [] := fun z => by
  subst z; cases h; exact e rfl

theorem or_add : OpR X (binaryOp .Add) (rB X.K X.w .add) := by
  intro pins s σ H x y v u Q I rx ry ⟨Ex, F, d1, d2, d3, f, r1, r2, hb, q⟩
  cases d1 <;> cases d2 <;> try (cases hb; done)
  case int.int i j =>
    cases hb
    exact op_add pins s σ H x y v u Q I rx ry ⟨i, j, r1.int, r2.int, q_int f q⟩
  case str.str i j =>
    obtain ⟨hl, hb⟩ := gO_some hb
    cases hb
    exact op_add_str pins s σ H x y v u Q I rx ry ⟨i, j, r1.str, r2.str, of_decide_eq_true hl, q_str f q⟩
  case list.list xs ys =>
    obtain ⟨hl, hb⟩ := gO_some hb
    cases hb
    obtain ⟨a, vs, rfl, h1, h2⟩ := r1.list f
    obtain ⟨b, ws, rfl, h3, h4⟩ := r2.list f
    refine op_cat pins s σ H _ _ v u Q I rx ry ⟨a, b, vs, ws, rfl, rfl, h1, h3, ?_, q_lst f (dpa_app h2 h4) q⟩
    rw [dpa_len h2, dpa_len h4]; exact of_decide_eq_true hl
  case tuple.tuple xs ys =>
    obtain ⟨hl, hb⟩ := gO_some hb
    cases hb
    obtain ⟨a, vs, rfl, h1, h2⟩ := r1.tuple
    obtain ⟨b, ws, rfl, h3, h4⟩ := r2.tuple
    refine op_catZ pins s σ H _ _ v u Q I rx ry ⟨a, b, vs, ws, rfl, rfl, sqT_mono f h1, sqT_mono f h3, ?_, fun e => ?_, fun e e2 => ?_, fun e e2 => q_tup f (dpa_app h2 h4) q⟩
    · rw [dpa_len h2, dpa_len h4]; exact of_decide_eq_true hl
    · subst e
      cases h2
      exact q _ H F (Ext.refl f) (.dat (.tup h3 h4))
    · subst e2
      cases h4
      refine q _ H F (Ext.refl f) (.dat (.tup h1 ?_))
      rw [List.append_nil]; exact h2
theorem or_sub : OpR X (binaryOp .Sub) (rB X.K X.w .sub) := by
  intro pins s σ H x y v u Q I rx ry ⟨Ex, F, d1, d2, d3, f, r1, r2, hb, q⟩
  cases d1 <;> cases d2 <;> try (cases hb; done)
  case int.int i j =>
    cases hb
    exact op_sub pins s σ H x y v u Q I rx ry ⟨i, j, r1.int, r2.int, q_int f q⟩
theorem dpa_rep {vs : List V} {ds : List PyData} (h : DqAll K F vs ds) : ∀ k : Nat, DqAll K F (List.replicate k vs).flatten (List.replicate k ds).flatten
  | 0 => .nil
  | k + 1 => by
    rw [List.replicate_succ, List.replicate_succ, List.flatten_cons, List.flatten_cons]
    exact dpa_app h (dpa_rep h k)
/-- t * k where it is t itself, or nothing -/
theorem tuple_mulS (l : Addr) (items : Array Value) (n : Nat) (sl : Array (Option Value)) (dd : Option Addr) (x : Int) (u : Tok) (c0 : (decide (x < -(2 ^ 63)) || decide (x ≥ 2 ^ 63)) = false) (c1 : (items.isEmpty || x == 1) = true) :
    Meets (Builtin.«tuple.__mul__» ⟨[.ref l, .int x u], []⟩) (fun _ R s => s.heap.get? l = some { cls := .type "tuple", dict := dd, data := .seq items n, slots := sl } ∧
      R (.ok (.ret (Value.ref l))) s) :=
  .of_wp fun prog w A R s h => by
    obtain ⟨hp, g, d, tk, os⟩ := s
    obtain ⟨hl, h⟩ := h
    have f1 := AutoSeq1.idx_int
    wp_walk using wpAny_loadPart' hl
    repeat (first
      | (refine wpAny_ite_false (decide_eq_false (by rw [c0]; exact Bool.false_ne_true)) ?_; wp_walk using wpAny_loadPart' hl)
      | (refine wpAny_ite_true (decide_eq_true c1) ?_; wp_walk using wpAny_loadPart' hl))
    exact ⟨_, rfl, h⟩
end
end Wv

set_option autoImplicit false
set_option linter.all false
set_option maxRecDepth 100000
set_option maxHeartbeats 4000000
namespace Wv
open PySem PySem.Spec PyProof.Rows L2
section
variable {X : Cx}
variable {K : PySem.W.Frag} {w : World} {F H : Hp} {Q : VK} {Ex : Addr → Prop}
theorem tuple_mul0 (l : Addr) (items : Array Value) (n : Nat) (sl : Array (Option Value)) (dd : Option Addr) (x : Int) (u : Tok) (c0 : (decide (x < -(2 ^ 63)) || decide (x ≥ 2 ^ 63)) = false) (c1 : (items.isEmpty || x == 1) = false) (c2 : (decide (x ≤ 0) || items.isEmpty) = true) :
    Meets (Builtin.«tuple.__mul__» ⟨[.ref l, .int x u], []⟩) (fun _ R s => s.heap.get? l = some { cls := .type "tuple", dict := dd, data := .seq items n, slots := sl } ∧
      R (.ok (.ret (Value.ref s.heap.objs.size))) { s with heap := s.heap.push { cls := Value.type "tuple", data := Data.seq #[] }, toks := s.toks }) :=
  .of_wp fun prog w A R s h => by
    obtain ⟨hp, g, d, tk, os⟩ := s
    obtain ⟨hl, h⟩ := h
    have f1 := AutoSeq1.idx_int
    have hz : (#[] : Array Value).size ≤ sizeLine := Nat.zero_le _
    wp_walk using wpAny_loadPart' hl
    repeat (first
      | (refine wpAny_ite_false (decide_eq_false (by rw [c0]; exact Bool.false_ne_true)) ?_; wp_walk using wpAny_loadPart' hl)
      | (refine wpAny_ite_false (decide_eq_false (by rw [c1]; exact Bool.false_ne_true)) ?_; wp_walk using wpAny_loadPart' hl)
      | (refine wpAny_ite_true (decide_eq_true c2) ?_; wp_walk using wpAny_loadPart' hl))
    exact ⟨_, rfl, h⟩
def rRepZ (K : PySem.W.Frag) : R2 := fun x y H Q => ∃ l k xs, x = .ref l ∧ y = .int k ∧ SqT K H l xs ∧ xs ≠ [] ∧ 2 ≤ k ∧ k ≤ 1000 ∧ xs.length ≤ 1000 ∧ ∀ p o, H p = none → o.dict = none → Q (.ref p) (upd H p (.frz o (.tup (List.replicate k.toNat xs).flatten)))
theorem op_repZ : OpR X (binaryOp .Mult) (rRepZ X.K) := by
  intro pins s σ H x y v u Q I rx ry h
  obtain ⟨l, k, xs, rfl, rfl, hT, hne, h1, h2, hz, q⟩ := h
  cases rx
  obtain ⟨t, rfl⟩ := ry
  obtain ⟨its, r, ⟨⟨cls, dd, data, sl⟩, ho, hc, n, hd⟩, hs⟩ := Inv.tuple I hT
  simp only at hc hd
  subst hc hd
  have hle : its.length = xs.length := r.length.symm
  have hn : its ≠ [] := fun e => hne (by
    rw [e] at hle
    exact List.eq_nil_of_length_eq_zero hle.symm)
  have hi : its.toArray.isEmpty = false := by
    cases its with
    | nil => exact absurd rfl hn
    | cons a b => rfl
  have hsz0 : its.toArray.size = xs.length := by rw [List.size_toArray, hle]
  have hm : ((its.toArray.size : Nat) : Int) * k ≤ 1000000 := by
    rw [hsz0]
    have a1 : ((xs.length : Nat) : Int) * k ≤ 1000 * k := Int.mul_le_mul_of_nonneg_right (by omega) (by omega)
    omega
  have flen : (List.replicate k.toNat its).flatten.length ≤ sizeLine := by
    rw [PyProof.Rows.lm_len_rep_flat, hle, sizeLine_eq]
    have a1 : k.toNat * xs.length ≤ 1000 * 1000 := Nat.mul_le_mul (by omega) hz
    omega
  have c0 : (decide (k < -(2 ^ 63)) || decide (k ≥ 2 ^ 63)) = false := by
    rw [decide_eq_false (by omega), decide_eq_false (by omega)] <;> rfl
  have c1 : (its.toArray.isEmpty || k == 1) = false := by
    rw [hi, Bool.false_or]
    exact beq_eq_false_iff_ne.mpr (by omega)
  have c2 : (decide (k ≤ 0) || its.toArray.isEmpty) = false := by
    rw [hi, Bool.or_false]
    exact decide_eq_false (by omega)
  have c4 : Builtin.Tuple.tupleTooMany (((its.toArray.size : Nat) : Int) * k) = false := by
    unfold Builtin.Tuple.tupleTooMany
    rw [sizeLine_eq]
    exact decide_eq_false (by omega)
  refine wpAny_binaryOp_repeat_ref (T := "tuple") (U := "int") (by decide) ⟨_, ho, rfl⟩ (fun s' => typeIs_int s' k t) noFill_tuple_mul F.fills_int_mul F.slot_int_rmul repeat_tuple F.slot_int_index.lookup
    (call_meets F.slot_int_rmul (typeIs_int s k t) F.entry_int_rmul (F.args_int_rmul_2 _ _) (int_rmul_tuple k t l its.toArray n dd sl)
      ⟨ho, rfl, ⟨_, ho, rfl⟩, call_meets F.slot_tuple_mul ⟨_, ho, rfl⟩ F.entry_tuple_mul (F.args_tuple_mul_2 _ _) (tuple_mulW l its.toArray n dd sl k t c0 c1 c2 (by omega) c4 (by rw [size_rep, List.size_toArray]; exact flen)) ⟨ho, ?_⟩⟩)
  rw [size_rep]
  exact Inv.laidT I (r.rep k.toNat) (by rw [PyProof.Rows.lm_len_rep_flat, sizeLine_eq]; have a1 : k.toNat * xs.length ≤ 1000 * 1000 := Nat.mul_le_mul (by omega) hz; omega) q
theorem mul_tup {pins : List (Addr × Obj)} {σ : L2.St} {s : Shared} {l : Addr} {xs : List V} {k : Int} {t : Tok} (I : Inv X pins σ H s) (hT : SqT X.K H l xs) (h1 : -(2 ^ 62) < k) (h2 : k ≤ 1000) (hz : xs.length ≤ 1000)
    (q1 : (List.replicate k.toNat xs).flatten = xs → Q (.ref l) H) (q : ∀ p o, H p = none → o.dict = none → Q (.ref p) (upd H p (.frz o (.tup (List.replicate k.toNat xs).flatten)))) : wpAny (model X.prog X.w) X.A (binaryOp .Mult (.ref l) (.int k t)) (EP X pins σ Q) X.xe s := by
  by_cases hb : xs ≠ [] ∧ 2 ≤ k
  · exact op_repZ pins s σ H (.ref l) (.int k) _ _ Q I rfl ⟨t, rfl⟩ ⟨l, k, xs, rfl, rfl, hT, hb.1, hb.2, h2, hz, q⟩
  · obtain ⟨its, r, ⟨⟨cls, dd, data, sl⟩, ho, hc, n, hd⟩, hs⟩ := Inv.tuple I hT
    simp only at hc hd
    subst hc hd
    have hle : its.length = xs.length := r.length.symm
    have c0 : (decide (k < -(2 ^ 63)) || decide (k ≥ 2 ^ 63)) = false := by
      rw [decide_eq_false (by omega), decide_eq_false (by omega)] <;> rfl
    by_cases c1 : (its.toArray.isEmpty || k == 1) = true
    · refine wpAny_binaryOp_repeat_ref (T := "tuple") (U := "int") (by decide) ⟨_, ho, rfl⟩ (fun s' => typeIs_int s' k t) noFill_tuple_mul F.fills_int_mul F.slot_int_rmul repeat_tuple F.slot_int_index.lookup
        (call_meets F.slot_int_rmul (typeIs_int s k t) F.entry_int_rmul (F.args_int_rmul_2 _ _) (int_rmul_tuple k t l its.toArray n dd sl)
          ⟨ho, rfl, ⟨_, ho, rfl⟩, call_meets F.slot_tuple_mul ⟨_, ho, rfl⟩ F.entry_tuple_mul (F.args_tuple_mul_2 _ _) (tuple_mulS l its.toArray n sl dd k t c0 c1) ⟨ho, ?_⟩⟩)
      refine ⟨.ref l, H, I, rfl, q1 ?_⟩
      rcases Bool.or_eq_true_iff.mp c1 with e | e
      · have : xs = [] := by
          cases its with
          | nil => exact List.eq_nil_of_length_eq_zero hle.symm
          | cons a b => simp at e
        subst this
        simp
      · have : k = 1 := by simpa using e
        subst this
        simp
    · have c1 : (its.toArray.isEmpty || k == 1) = false := by simpa using c1
      have hne : its.toArray.isEmpty = false ∧ (k == 1) = false := by simpa using c1
      have hx : xs ≠ [] := fun e => by
        subst e
        have : its = [] := List.eq_nil_of_length_eq_zero hle
        subst this
        simp at hne
      have hk1 : k ≠ 1 := by simpa using hne.2
      have hk0 : k ≤ 0 := by
        have : ¬ 2 ≤ k := fun z => hb ⟨hx, z⟩
        omega
      refine wpAny_binaryOp_repeat_ref (T := "tuple") (U := "int") (by decide) ⟨_, ho, rfl⟩ (fun s' => typeIs_int s' k t) noFill_tuple_mul F.fills_int_mul F.slot_int_rmul repeat_tuple F.slot_int_index.lookup
        (call_meets F.slot_int_rmul (typeIs_int s k t) F.entry_int_rmul (F.args_int_rmul_2 _ _) (int_rmul_tuple k t l its.toArray n dd sl)
          ⟨ho, rfl, ⟨_, ho, rfl⟩, call_meets F.slot_tuple_mul ⟨_, ho, rfl⟩ F.entry_tuple_mul (F.args_tuple_mul_2 _ _) (tuple_mul0 l its.toArray n sl dd k t c0 c1 (by simp [hk0])) ⟨ho, ?_⟩⟩)
      have e0 : (List.replicate k.toNat xs).flatten = [] := by
        rw [show k.toNat = 0 by omega]; rfl
      rw [e0] at q
      exact Inv.laidT (vs := []) (its := []) I .nil (Nat.zero_le _) q
theorem or_mul : OpR X (binaryOp .Mult) (rB X.K X.w .mul) := by
  intro pins s σ H x y v u Q I rx ry ⟨Ex, F, d1, d2, d3, f, r1, r2, hb, q⟩
  cases d1 <;> cases d2 <;> try (cases hb; done)
  case int.int i j =>
    obtain ⟨hl, hb⟩ := gO_some hb
    cases hb
    rcases Bool.or_eq_true_iff.mp hl with hl | hl
    · refine op_mulW pins s σ H x y v u Q I rx ry ⟨i, j, r1.int, r2.int, ?_, q_int f q⟩
      have := of_decide_eq_true hl
      unfold CMulW
      omega
    · refine op_mul pins s σ H x y v u Q I rx ry ⟨i, j, r1.int, r2.int, ?_, q_int f q⟩
      rcases Bool.or_eq_true_iff.mp hl with hl | hl
      · have := of_decide_eq_true hl
        exact .inl (by omega)
      · have := of_decide_eq_true hl
        exact .inr (by omega)
  case list.int xs k =>
    obtain ⟨hl, hb⟩ := gO_some hb
    cases hb
    obtain ⟨hl, h3⟩ := Bool.and_eq_true_iff.mp hl
    obtain ⟨h1, h2⟩ := Bool.and_eq_true_iff.mp hl
    have h1 := of_decide_eq_true h1
    have h2 := of_decide_eq_true h2
    have h3 := of_decide_eq_true h3
    obtain ⟨a, vs, rfl, e1, e2⟩ := r1.list f
    have hl := dpa_len e2
    refine op_rep pins s σ H _ _ v u Q I rx ry ⟨a, k, vs, rfl, r2.int, e1, by omega, by omega, ?_, q_lst f (dpa_rep e2 _) q⟩
    have : vs.length * k.toNat ≤ 1000 * 1000 := Nat.mul_le_mul (by omega) (by omega)
    rw [sizeLine_eq]; omega
  case tuple.int xs k =>
    obtain ⟨hl, hb⟩ := gO_some hb
    cases hb
    obtain ⟨hl, h3⟩ := Bool.and_eq_true_iff.mp hl
    obtain ⟨h1, h2⟩ := Bool.and_eq_true_iff.mp hl
    have h1 := of_decide_eq_true h1
    have h2 := of_decide_eq_true h2
    have h3 := of_decide_eq_true h3
    obtain ⟨a, vs, rfl, e1, e2⟩ := r1.tuple
    have hl := dpa_len e2
    rw [r2.int] at ry
    obtain ⟨t, rfl⟩ := ry
    cases rx
    refine mul_tup I (sqT_mono f e1) h1 h2 (by omega) (fun e => ?_) (q_tup f (dpa_rep e2 _) q)
    refine q _ H F (Ext.refl f) (.dat (.tup e1 ?_))
    have := dpa_rep e2 k.toNat
    rw [e] at this
    exact this
theorem or_fdiv : OpR X (binaryOp .FloorDiv) (rB X.K X.w .fdiv) := by
  intro pins s σ H x y v u Q I rx ry ⟨Ex, F, d1, d2, d3, f, r1, r2, hb, q⟩
  cases d1 <;> cases d2 <;> try (cases hb; done)
  case int.int i j =>
    obtain ⟨hl, hb⟩ := gO_some hb
    cases hb
    obtain ⟨h1, h2⟩ := Bool.and_eq_true_iff.mp hl
    have h1 := of_decide_eq_true h1
    have h2 := of_decide_eq_true h2
    have op_fd : OpR X (binaryOp .FloorDiv) (rI (fun _ j => j ≠ 0 ∧ j.natAbs.log2 < 8000) fun i j => .int (i.fdiv j)) := opI fun _ _ _ _ _ _ _ hc q => floordiv_int hc.1 q (.inl (PyProof.noPylong_of_log2 (by have := hc.2; omega)))
    exact op_fd pins s σ H x y v u Q I rx ry ⟨i, j, r1.int, r2.int, ⟨h1, h2⟩, q_int f q⟩
theorem or_mod : OpR X (binaryOp .Mod) (rB X.K X.w .mod) := by
  intro pins s σ H x y v u Q I rx ry ⟨Ex, F, d1, d2, d3, f, r1, r2, hb, q⟩
  cases d1 <;> cases d2 <;> try (cases hb; done)
  case int.int i j =>
    obtain ⟨hl, hb⟩ := gO_some hb
    cases hb
    exact op_modN pins s σ H x y v u Q I rx ry ⟨i, j, r1.int, r2.int, of_decide_eq_true hl, q_int f q⟩
theorem or_pow : OpR X (binaryOp .Pow) (rB X.K X.w .pow) := by
  intro pins s σ H x y v u Q I rx ry ⟨Ex, F, d1, d2, d3, f, r1, r2, hb, q⟩
  cases d1 <;> cases d2 <;> try (cases hb; done)
  case int.int i j =>
    obtain ⟨hl, hb⟩ := gO_some hb
    cases hb
    obtain ⟨hl, h3⟩ := Bool.and_eq_true_iff.mp hl
    obtain ⟨h1, h2⟩ := Bool.and_eq_true_iff.mp hl
    exact op_pow pins s σ H x y v u Q I rx ry ⟨i, j, r1.int, r2.int, ⟨of_decide_eq_true h1, of_decide_eq_true h2, of_decide_eq_true h3⟩, q_int f q⟩
/-! comparisons -/
theorem shp_nd {d : PyData} (h : shp d = true) : isDic d = false := by
  cases d with
  | dict kvs => simp [shp, SeqAt.shaped, PyData.canLay0] at h
  | _ => rfl
theorem or_eq (hu : X.A.units + 64 < cLine) : OpR X (compareOp .Eq) (rB X.K X.w .eq) := by
  intro pins s σ H x y v u Q I rx ry ⟨Ex, F, d1, d2, d3, f, r1, r2, hb, q⟩
  obtain ⟨hl, hb⟩ := gO_some (show gO (shp d1 && shp d2) (some (PyData.bool (PyData.eqv d1 d2))) = some d3 by cases d1 <;> exact hb)
  cases hb
  obtain ⟨h1, h2⟩ := Bool.and_eq_true_iff.mp hl
  exact op_eqD hu pins s σ H x y v u Q I rx ry ⟨d1, d2, r1.dp f (shp_nd h1), r2.dp f (shp_nd h2), h1, h2, q_bl f q⟩
theorem or_ne (hu : X.A.units + 64 < cLine) : OpR X (compareOp .NotEq) (rB X.K X.w .ne) := by
  intro pins s σ H x y v u Q I rx ry ⟨Ex, F, d1, d2, d3, f, r1, r2, hb, q⟩
  obtain ⟨hl, hb⟩ := gO_some (show gO (shp d1 && shp d2) (some (PyData.bool (!PyData.eqv d1 d2))) = some d3 by cases d1 <;> exact hb)
  cases hb
  obtain ⟨h1, h2⟩ := Bool.and_eq_true_iff.mp hl
  exact op_neD hu pins s σ H x y v u Q I rx ry ⟨d1, d2, r1.dp f (shp_nd h1), r2.dp f (shp_nd h2), h1, h2, q_bl f q⟩
theorem cmp_ok {a b : PyData} (h : cmpOk a b = true) : W.alike a b = true ∧ a ≠ .none ∧ shp a = true ∧ shp b = true := by
  unfold cmpOk at h
  rw [Bool.and_eq_true, Bool.and_eq_true, Bool.and_eq_true] at h
  refine ⟨h.1.1.1, fun e => ?_, h.1.2, h.2⟩
  subst e
  exact nomatch h.1.1.2
theorem room_cmp {A : Around} {a b : PyData} (h1 : shp a = true) (h2 : shp b = true) (hu : A.units + 64 < cLine) : A.units + min a.depth b.depth < cLine := SeqAt.room_of_shaped h1 hu
theorem or_lt (hu : X.A.units + 64 < cLine) : OpR X (compareOp .Lt) (rB X.K X.w .lt) := by
  intro pins s σ H x y v u Q I rx ry ⟨Ex, F, d1, d2, d3, f, r1, r2, hb, q⟩
  obtain ⟨hl, hb⟩ := gO_some (show gO (cmpOk d1 d2) (some (PyData.bool (W.dataLt d1 d2))) = some d3 by cases d1 <;> exact hb)
  cases hb
  obtain ⟨h1, h2, h3, h4⟩ := cmp_ok hl
  obtain ⟨as, e1⟩ := Dp.reads I d1 x v (r1.dp f (shp_nd h3)) rx
  obtain ⟨bs, e2⟩ := Dp.reads I d2 y u (r2.dp f (shp_nd h4)) ry
  exact W.lt_data e1 e2 h1 h2 (room_cmp h3 h4 hu) ⟨.bl _, H, I, rfl, q_bl f q⟩
theorem or_gt (hu : X.A.units + 64 < cLine) : OpR X (compareOp .Gt) (rB X.K X.w .gt) := by
  intro pins s σ H x y v u Q I rx ry ⟨Ex, F, d1, d2, d3, f, r1, r2, hb, q⟩
  obtain ⟨hl, hb⟩ := gO_some (show gO (cmpOk d1 d2) (some (PyData.bool (W.dataLt d2 d1))) = some d3 by cases d1 <;> exact hb)
  cases hb
  obtain ⟨h1, h2, h3, h4⟩ := cmp_ok hl
  obtain ⟨as, e1⟩ := Dp.reads I d1 x v (r1.dp f (shp_nd h3)) rx
  obtain ⟨bs, e2⟩ := Dp.reads I d2 y u (r2.dp f (shp_nd h4)) ry
  exact W.gt_data e1 e2 h1 h2 (room_cmp h3 h4 hu) ⟨.bl _, H, I, rfl, q_bl f q⟩
theorem or_le (hu : X.A.units + 64 < cLine) : OpR X (compareOp .LtE) (rB X.K X.w .le) := by
  intro pins s σ H x y v u Q I rx ry ⟨Ex, F, d1, d2, d3, f, r1, r2, hb, q⟩
  obtain ⟨hl, hb⟩ := gO_some (show gO (cmpOk d1 d2) (some (PyData.bool (!W.dataLt d2 d1))) = some d3 by cases d1 <;> exact hb)
  cases hb
  obtain ⟨h1, h2, h3, h4⟩ := cmp_ok hl
  obtain ⟨as, e1⟩ := Dp.reads I d1 x v (r1.dp f (shp_nd h3)) rx
  obtain ⟨bs, e2⟩ := Dp.reads I d2 y u (r2.dp f (shp_nd h4)) ry
  exact W.le_data e1 e2 h1 h2 (room_cmp h3 h4 hu) ⟨.bl _, H, I, rfl, q_bl f q⟩
theorem or_ge (hu : X.A.units + 64 < cLine) : OpR X (compareOp .GtE) (rB X.K X.w .ge) := by
  intro pins s σ H x y v u Q I rx ry ⟨Ex, F, d1, d2, d3, f, r1, r2, hb, q⟩
  obtain ⟨hl, hb⟩ := gO_some (show gO (cmpOk d1 d2) (some (PyData.bool (!W.dataLt d1 d2))) = some d3 by cases d1 <;> exact hb)
  cases hb
  obtain ⟨h1, h2, h3, h4⟩ := cmp_ok hl
  obtain ⟨as, e1⟩ := Dp.reads I d1 x v (r1.dp f (shp_nd h3)) rx
  obtain ⟨bs, e2⟩ := Dp.reads I d2 y u (r2.dp f (shp_nd h4)) ry
  exact W.ge_data e1 e2 h1 h2 (room_cmp h3 h4 hu) ⟨.bl _, H, I, rfl, q_bl f q⟩
def isNo : PyData → Bool
  | .none => true
  | _ => false
theorem or_is : OpR X (compareOp .Is) (rB X.K X.w .is_) := by
  intro pins s σ H x y v u Q I rx ry ⟨Ex, F, d1, d2, d3, f, r1, r2, hb, q⟩
  cases d2 with
  | none =>
    have e : d3 = .bool (isNo d1) := by
      cases d1 <;> (cases hb; rfl)
    subst e
    refine op_isN pins s σ H x y v u Q I rx ry ⟨r2.none, ?_⟩
    have e2 : decide (x = .non) = (isNo d1) := by
      cases d1 with
      | none => rw [r1.none]; rfl
      | bool b => rw [r1.bool]; rfl
      | int b => rw [r1.int]; rfl
      | str b => rw [r1.str]; rfl
      | list b => obtain ⟨a, vs, rfl, _⟩ := r1.list f; rfl
      | tuple b => obtain ⟨a, vs, rfl, _⟩ := r1.tuple; rfl
      | dict b => obtain ⟨a, rfl, _⟩ := r1.dict f; rfl
    rw [e2]
    exact q_bl f q
  | bool b =>
    rw [r2.bool] at ry
    cases ry
    have nb : ∀ {t : Bool}, (match d1 with | .bool _ => False | _ => True) → wpAny (model X.prog X.w) X.A (compareOp .Is v (.bool b)) (EP X pins σ Q) X.xe s := fun {t} n => by
      have hq : Q (.bl false) H := by
        have e : d3 = .bool false := by
          cases d1 <;> first | exact n.elim | (cases hb; rfl)
        subst e
        exact q_bl f q
      cases d1 with
      | bool b => exact n.elim
      | none => rw [r1.none] at rx; cases rx; exact wpAny_is_other rfl (fun z => nomatch z) ⟨.bl false, H, I, rfl, hq⟩
      | int b => rw [r1.int] at rx; obtain ⟨t, rfl⟩ := rx; exact wpAny_is_other rfl (fun z => nomatch z) ⟨.bl false, H, I, rfl, hq⟩
      | str b => rw [r1.str] at rx; obtain ⟨t, rfl⟩ := rx; exact wpAny_is_other rfl (fun z => nomatch z) ⟨.bl false, H, I, rfl, hq⟩
      | list b => obtain ⟨a, vs, rfl, _⟩ := r1.list f; cases rx; exact wpAny_is_other rfl (fun z => nomatch z) ⟨.bl false, H, I, rfl, hq⟩
      | tuple b => obtain ⟨a, vs, rfl, _⟩ := r1.tuple; cases rx; exact wpAny_is_other rfl (fun z => nomatch z) ⟨.bl false, H, I, rfl, hq⟩
      | dict b => obtain ⟨a, rfl, _⟩ := r1.dict f; cases rx; exact wpAny_is_other rfl (fun z => nomatch z) ⟨.bl false, H, I, rfl, hq⟩
    cases d1 with
    | bool c =>
      cases hb
      refine op_isBl pins s σ H x (.bl b) v _ Q I rx rfl ⟨c, b, r1.bool, rfl, ?_⟩
      have : (c == b) = decide (c = b) := by cases c <;> cases b <;> rfl
      rw [← this]
      exact q_bl f q
    | _ => exact nb (t := b) trivial
  | _ => cases d1 <;> cases hb
theorem or_isn : OpR X (compareOp .IsNot) (rB X.K X.w .isn) := by
  intro pins s σ H x y v u Q I rx ry ⟨Ex, F, d1, d2, d3, f, r1, r2, hb, q⟩
  cases d2 with
  | none =>
    have e : d3 = .bool (!isNo d1) := by
      cases d1 <;> (cases hb; rfl)
    subst e
    refine op_notN pins s σ H x y v u Q I rx ry ⟨r2.none, ?_⟩
    have e2 : decide (x = .non) = (isNo d1) := by
      cases d1 with
      | none => rw [r1.none]; rfl
      | bool b => rw [r1.bool]; rfl
      | int b => rw [r1.int]; rfl
      | str b => rw [r1.str]; rfl
      | list b => obtain ⟨a, vs, rfl, _⟩ := r1.list f; rfl
      | tuple b => obtain ⟨a, vs, rfl, _⟩ := r1.tuple; rfl
      | dict b => obtain ⟨a, rfl, _⟩ := r1.dict f; rfl
    rw [e2]
    exact q_bl f q
  | bool b =>
    rw [r2.bool] at ry
    cases ry
    have nb : ∀ {t : Bool}, (match d1 with | .bool _ => False | _ => True) → wpAny (model X.prog X.w) X.A (compareOp .IsNot v (.bool b)) (EP X pins σ Q) X.xe s := fun {t} n => by
      have hq : Q (.bl true) H := by
        have e : d3 = .bool true := by
          cases d1 <;> first | exact n.elim | (cases hb; rfl)
        subst e
        exact q_bl f q
      cases d1 with
      | bool b => exact n.elim
      | none => rw [r1.none] at rx; cases rx; exact wpAny_isNot_other rfl (fun z => nomatch z) ⟨.bl true, H, I, rfl, hq⟩
      | int b => rw [r1.int] at rx; obtain ⟨t, rfl⟩ := rx; exact wpAny_isNot_other rfl (fun z => nomatch z) ⟨.bl true, H, I, rfl, hq⟩
      | str b => rw [r1.str] at rx; obtain ⟨t, rfl⟩ := rx; exact wpAny_isNot_other rfl (fun z => nomatch z) ⟨.bl true, H, I, rfl, hq⟩
      | list b => obtain ⟨a, vs, rfl, _⟩ := r1.list f; cases rx; exact wpAny_isNot_other rfl (fun z => nomatch z) ⟨.bl true, H, I, rfl, hq⟩
      | tuple b => obtain ⟨a, vs, rfl, _⟩ := r1.tuple; cases rx; exact wpAny_isNot_other rfl (fun z => nomatch z) ⟨.bl true, H, I, rfl, hq⟩
      | dict b => obtain ⟨a, rfl, _⟩ := r1.dict f; cases rx; exact wpAny_isNot_other rfl (fun z => nomatch z) ⟨.bl true, H, I, rfl, hq⟩
    cases d1 with
    | bool c =>
      cases hb
      refine op_notBl pins s σ H x (.bl b) v _ Q I rx rfl ⟨c, b, r1.bool, rfl, ?_⟩
      have : (c == b) = decide (c = b) := by cases c <;> cases b <;> rfl
      rw [← this]
      exact q_bl f q
    | _ => exact nb (t := b) trivial
  | _ => cases d1 <;> cases hb
end
end Wv

set_option autoImplicit false
set_option linter.all false
set_option maxRecDepth 100000
set_option maxHeartbeats 4000000
namespace Wv
open PySem PySem.Spec PyProof.Rows L2
/-! dicts of few kinds of keys -/
section
variable {K : PySem.W.Frag} {w : World} {F H : Hp} {Ex : Addr → Prop}
theorem kOf_leaf {d : PyData} (h : leafKey d = true) : ∃ k, kOf d = some k := by
  cases d <;> first | exact ⟨_, rfl⟩ | cases h
theorem kOf_inj {a b : PyData} {k : L2.Key} (h1 : kOf a = some k) (h2 : kOf b = some k) : a = b := by
  cases a <;> cases b <;> simp [kOf] at h1 h2 <;> first
    | (rw [← h2] at h1; simp at h1; rw [h1])
    | (rw [← h2] at h1; simp at h1)
theorem kOf_val {d : PyData} {k : L2.Key} {x : V} (h : kOf d = some k) (r : RepP K w Ex F H x d) : x = kV k := by
  cases d with
  | int i => cases h; exact r.int
  | str i => cases h; exact r.str
  | _ => cases h
theorem kOf_shp {d : PyData} {k : L2.Key} (h : kOf d = some k) : isDic d = false := by
  cases d <;> first | rfl | cases h
theorem eqv_key {a b : PyData} {i j : L2.Key} (h1 : kOf a = some i) (h2 : kOf b = some j) : PyData.eqv a b = decide (i = j) := by
  cases a <;> cases b <;> simp [kOf] at h1 h2 <;> subst h1 h2 <;> simp [PyData.eqv] <;> exact Bool.eq_iff_iff.mpr (by simp)
theorem dic_val : ∀ {kvs : List (PyData × PyData)} {ks : List (L2.Key × V)} {y : PyData} {k : L2.Key}, Paired (EntAt K F) kvs ks → kOf y = some k →
    (∀ v, dfind kvs y = some v → ∃ z, valV ks k = some z ∧ Dq K F z v) ∧ (dfind kvs y = none → valV ks k = none)
  | [], _, y, k, h, _ => by
    cases h
    exact ⟨fun v e => by simp [dfind] at e, fun _ => rfl⟩
  | p :: ps, _, y, k, h, hk => by
    cases h with
    | @cons _ q _ qs hq hr =>
      obtain ⟨i1, i2⟩ := dic_val hr hk
      have e := eqv_key hq.1 hk
      unfold dfind at i1 i2 ⊢
      rw [List.find?_cons, e]
      by_cases c : q.1 = k
      · rw [decide_eq_true c, valV_pos c]
        exact ⟨fun v e => by cases e; exact ⟨_, rfl, hq.2⟩, fun e => by cases e⟩
      · rw [decide_eq_false c, valV_neg c]
        exact ⟨i1, i2⟩
theorem dic_any : ∀ {kvs : List (PyData × PyData)} {ks : List (L2.Key × V)} {y : PyData} {k : L2.Key}, Paired (EntAt K F) kvs ks → kOf y = some k →
    (kvs.any fun p => PyData.eqv p.1 y) = (ks.any fun kv => decide (kv.1 = k))
  | [], _, y, k, h, _ => by cases h; rfl
  | p :: ps, _, y, k, h, hk => by
    cases h with
    | cons hq hr => rw [List.any_cons, List.any_cons, dic_any hr hk, eqv_key hq.1 hk]
theorem dic_map : ∀ {kvs : List (PyData × PyData)} {ks : List (L2.Key × V)} {y v : PyData} {k : L2.Key} {z : V}, Paired (EntAt K F) kvs ks → kOf y = some k → Dq K F z v →
    Paired (EntAt K F) (kvs.map fun p => if PyData.eqv p.1 y = true then (p.1, v) else p) (ks.map fun kv => if kv.1 = k then (kv.1, z) else kv)
  | [], _, y, v, k, z, h, _, _ => by cases h; exact .nil
  | p :: ps, _, y, v, k, z, h, hk, hz => by
    cases h with
    | @cons _ q _ qs hq hr =>
      rw [List.map_cons, List.map_cons, eqv_key hq.1 hk]
      refine .cons ?_ (dic_map hr hk hz)
      by_cases c : q.1 = k
      · rw [if_pos (decide_eq_true c), if_pos c]; exact ⟨hq.1, hz⟩
      · rw [if_neg (by simpa using c), if_neg c]; exact hq
theorem dic_snoc : ∀ {kvs : List (PyData × PyData)} {ks : List (L2.Key × V)} {p : PyData × PyData} {q : L2.Key × V}, Paired (EntAt K F) kvs ks → EntAt K F p q → Paired (EntAt K F) (kvs ++ [p]) (ks ++ [q])
  | [], _, p, q, h, hq => by cases h; exact .cons hq .nil
  | _ :: ps, _, p, q, h, hq => by
    cases h with
    | cons a r => exact .cons a (dic_snoc r hq)
theorem dic_put {kvs : List (PyData × PyData)} {ks : List (L2.Key × V)} {y v : PyData} {k : L2.Key} {z : V} (h : Paired (EntAt K F) kvs ks) (hk : kOf y = some k) (hz : Dq K F z v) : Paired (EntAt K F) (dput kvs y v) (putK ks k z) := by
  unfold dput putK
  rw [dic_any h hk]
  split
  · exact dic_map h hk hz
  · exact dic_snoc h ⟨hk, hz⟩
theorem dic_len {kvs : List (PyData × PyData)} {ks : List (L2.Key × V)} (h : Paired (EntAt K F) kvs ks) : ks.length = kvs.length := (Paired.length h).symm
theorem dic_keysI : ∀ {kvs : List (PyData × PyData)} {ks : List (L2.Key × V)} {ns : List Int}, Paired (EntAt K F) kvs ks → intsOf (kvs.map (·.1)) = some ns → ks.map (·.1) = ns.map Sum.inl
  | [], _, ns, h, e => by cases h; simp [intsOf] at e; subst e; rfl
  | p :: ps, _, ns, h, e => by
    cases h with
    | @cons _ q _ qs a r =>
      obtain ⟨pk, pv⟩ := p
      cases pk with
      | int i =>
        simp only [List.map_cons, intsOf, Option.map_eq_some_iff] at e
        obtain ⟨m, e1, rfl⟩ := e
        have := a.1
        simp [kOf] at this
        rw [List.map_cons, List.map_cons, ← this, dic_keysI r e1]
      | _ => simp [intsOf] at e
/-- a dict's place, as the rules want it -/
theorem dic_get {a : Addr} {kvs : List (PyData × PyData)} {y : PyData} {x : V} (h : DicAt K F H a kvs) (hl : leafKey y = true) (ry : RepP K w Ex F H x y) :
    ∃ o, DGet H a x o ∧ (∀ v, dfind kvs y = some v → ∃ z, o = some z ∧ Dq K F z v) ∧ (dfind kvs y = none → o = none) := by
  obtain ⟨ks, h1, h2⟩ := h
  obtain ⟨k, hk⟩ := kOf_leaf hl
  have := kOf_val hk ry
  subst this
  obtain ⟨i1, i2⟩ := dic_val h2 hk
  exact ⟨_, DGet.k h1, i1, i2⟩
end
end Wv

set_option autoImplicit false
set_option linter.all false
set_option maxRecDepth 100000
set_option maxHeartbeats 4000000
namespace Wv
open PySem PySem.Spec PyProof.Rows L2
section
variable {X : Cx}
variable {K : PySem.W.Frag} {w : World} {F H : Hp} {Q : VK} {Ex : Addr → Prop}
theorem shp_can {d : PyData} (h : shp d = true) : d.canLay0 = true := SeqAt.canLay_of_shaped h
theorem shp_plain {d : PyData} (h : shp d = true) : d.plain = true := PyData.plain_of_canLay0 d (shp_can h)
theorem shp_list {ds : List PyData} (h : shp (.list ds) = true) : PyData.canLayAll0 ds = true ∧ PyData.depthAll ds + 1 ≤ 64 := by
  obtain ⟨a, b⟩ := Bool.and_eq_true_iff.mp h
  exact ⟨by simpa [PyData.canLay0] using a, by simpa [PyData.depth] using of_decide_eq_true b⟩
theorem shp_tup {ds : List PyData} (h : shp (.tuple ds) = true) : PyData.canLayAll0 ds = true ∧ PyData.depthAll ds + 1 ≤ 64 := by
  obtain ⟨a, b⟩ := Bool.and_eq_true_iff.mp h
  exact ⟨by simpa [PyData.canLay0] using a, by simpa [PyData.depth] using of_decide_eq_true b⟩
theorem room_in {A : Around} {ds : List PyData} {d : PyData} (h : PyData.depthAll ds + 1 ≤ 64) (hu : A.units + 65 < cLine) : A.units + 1 + min (PyData.depthAll ds) d.depth < cLine := by
  have := Nat.min_le_left (PyData.depthAll ds) d.depth
  omega
theorem or_in (hu : X.A.units + 100 < cLine) : OpR X (compareOp .In) (rB X.K X.w .in_) := by
  intro pins s σ H x y v u Q I rx ry ⟨Ex, F, d1, d2, d3, f, r1, r2, hb, q⟩
  obtain ⟨b, hb2, e⟩ : ∃ b, inD d1 d2 = some b ∧ d3 = .bool b := by
    have hb : (inD d1 d2).bind (fun b => some (PyData.bool b)) = some d3 := by cases d1 <;> exact hb
    obtain ⟨b, h1, h2⟩ := Option.bind_eq_some_iff.mp hb
    cases h2
    exact ⟨b, h1, rfl⟩
  subst e
  clear hb
  cases d2 with
  | list ds =>
    obtain ⟨hl, hb⟩ := gO_some hb2
    cases hb
    obtain ⟨h1, h2⟩ := Bool.and_eq_true_iff.mp hl
    exact op_inD (by omega) pins s σ H x y v u Q I rx ry ⟨d1, ds, r1.dp f (shp_nd h1), r2.dp f rfl, h1, h2, q_bl f q⟩
  | tuple ds =>
    obtain ⟨hl, hb⟩ := gO_some hb2
    cases hb
    obtain ⟨h1, h2⟩ := Bool.and_eq_true_iff.mp hl
    obtain ⟨as, e1⟩ := Dp.reads I d1 x v (r1.dp f (shp_nd h1)) rx
    obtain ⟨bs, e2⟩ := Dp.reads I (.tuple ds) y u (r2.dp f rfl) ry
    obtain ⟨h3, h4⟩ := shp_tup h2
    exact SeqAt.in_tuple_data e2 e1 (PyData.plainAll_of_canLay0 ds h3) (shp_plain h1) (room_in h4 (by omega)) ⟨.bl _, H, I, rfl, q_bl f q⟩
  | dict kvs =>
    obtain ⟨hl, hb⟩ := gO_some hb2
    cases hb
    obtain ⟨a, rfl, hd⟩ := r2.dict f
    obtain ⟨o, g1, g2, g3⟩ := dic_get hd hl r1
    cases ry
    refine d_in (by omega) I g1 rx fun s' I' => ⟨.bl _, H, I', rfl, ?_⟩
    have : o.isSome = (dfind kvs d1).isSome := by
      cases e : dfind kvs d1 with
      | none => rw [g3 e]; rfl
      | some v => obtain ⟨z, ez, _⟩ := g2 v e; rw [ez]; rfl
    rw [this]
    exact q_bl f q
  | str j =>
    cases d1 with
    | str i =>
      cases hb2
      exact op_in_str pins s σ H x y v u Q I rx ry ⟨i, j, r1.str, r2.str, q_bl f q⟩
    | _ => cases hb2
  | _ => cases hb2
theorem or_nin (hu : X.A.units + 100 < cLine) : OpR X (compareOp .NotIn) (rB X.K X.w .nin) := by
  intro pins s σ H x y v u Q I rx ry ⟨Ex, F, d1, d2, d3, f, r1, r2, hb, q⟩
  obtain ⟨b, hb2, e⟩ : ∃ b, inD d1 d2 = some b ∧ d3 = .bool (!b) := by
    have hb : (inD d1 d2).bind (fun b => some (PyData.bool (!b))) = some d3 := by cases d1 <;> exact hb
    obtain ⟨b, h1, h2⟩ := Option.bind_eq_some_iff.mp hb
    cases h2
    exact ⟨b, h1, rfl⟩
  subst e
  clear hb
  cases d2 with
  | list ds =>
    obtain ⟨hl, hb⟩ := gO_some hb2
    cases hb
    obtain ⟨h1, h2⟩ := Bool.and_eq_true_iff.mp hl
    exact op_notInD (by omega) pins s σ H x y v u Q I rx ry ⟨d1, ds, r1.dp f (shp_nd h1), r2.dp f rfl, h1, h2, q_bl f q⟩
  | tuple ds =>
    obtain ⟨hl, hb⟩ := gO_some hb2
    cases hb
    obtain ⟨h1, h2⟩ := Bool.and_eq_true_iff.mp hl
    obtain ⟨as, e1⟩ := Dp.reads I d1 x v (r1.dp f (shp_nd h1)) rx
    obtain ⟨bs, e2⟩ := Dp.reads I (.tuple ds) y u (r2.dp f rfl) ry
    obtain ⟨h3, h4⟩ := shp_tup h2
    exact SeqAt.notIn_tuple_data e2 e1 (PyData.plainAll_of_canLay0 ds h3) (shp_plain h1) (room_in h4 (by omega)) ⟨.bl _, H, I, rfl, q_bl f q⟩
  | dict kvs =>
    obtain ⟨hl, hb⟩ := gO_some hb2
    cases hb
    obtain ⟨a, rfl, hd⟩ := r2.dict f
    obtain ⟨o, g1, g2, g3⟩ := dic_get hd hl r1
    cases ry
    refine d_notIn (by omega) I g1 rx fun s' I' => ⟨.bl _, H, I', rfl, ?_⟩
    have : o.isSome = (dfind kvs d1).isSome := by
      cases e : dfind kvs d1 with
      | none => rw [g3 e]; rfl
      | some v => obtain ⟨z, ez, _⟩ := g2 v e; rw [ez]; rfl
    rw [this]
    exact q_bl f q
  | str j =>
    cases d1 with
    | str i =>
      cases hb2
      exact op_notin_str pins s σ H x y v u Q I rx ry ⟨i, j, r1.str, r2.str, q_bl f q⟩
    | _ => cases hb2
  | _ => cases hb2

/-! truth -/
theorem dpa_empty {vs : List V} {ds : List PyData} (h : DqAll K F vs ds) : vs.isEmpty = ds.isEmpty := by cases h <;> rfl
def rT (K : PySem.W.Frag) (w : World) : V → Hp → (Bool → Hp → Prop) → Prop := fun x H Q => ∃ Ex F d b, Fit F H ∧ RepP K w Ex F H x d ∧ tru d = some b ∧ Q b H
theorem tr_ok : TruR X (rT X.K X.w) := by
  intro pins s σ H x v Q I rx ⟨Ex, F, d, b, f, r, hb, q⟩
  have go : TruV X.K x H b → wpAny (model X.prog X.w) X.A (truthy v) (TP X pins σ Q) X.xe s := fun h => tru_ok pins s σ H x v Q I rx ⟨b, h, q⟩
  cases d with
  | none => cases hb; rw [r.none] at go; exact go rfl
  | bool c => cases hb; rw [r.bool] at go; exact go rfl
  | int i => cases hb; rw [r.int] at go; exact go rfl
  | str z =>
    obtain ⟨hl, hb⟩ := gO_some hb
    cases hb
    rw [r.str] at go
    refine go ⟨of_decide_eq_true hl, ?_⟩
    cases e : z.length with
    | zero => rfl
    | succ n => simp; omega
  | list ds =>
    cases hb
    obtain ⟨a, vs, rfl, h1, h2⟩ := r.list f
    exact go (.inl ⟨vs, .inl (.inl h1), by rw [dpa_empty h2]⟩)
  | tuple ds =>
    cases hb
    obtain ⟨a, vs, rfl, h1, h2⟩ := r.tuple
    exact go (.inr (.inl ⟨vs, sqT_mono f h1, by rw [dpa_empty h2]⟩))
  | dict kvs =>
    cases hb
    obtain ⟨a, rfl, ks, hd, hp⟩ := r.dict f
    cases rx
    refine d_truth I (.inl hd) fun s' I' => ⟨H, I', ?_⟩
    have : ks.isEmpty = kvs.isEmpty := by cases hp <;> rfl
    rw [this]
    exact q

/-! calls of one argument -/
def rP1 (K : PySem.W.Frag) (w : World) (p : P1) : List V → Hp → VK → Prop := fun xs H Q => ∃ Ex F x d d', xs = [x] ∧ Fit F H ∧ RepP K w Ex F H x d ∧ p1 p d = some d' ∧ ∀ v H' F', Ext H F H' F' → RepF K w F' v d' → Q v H'
theorem cr_len : CallR X (.builtin "len") (rP1 X.K X.w .len) := by
  intro pins s σ H xs us Q I r ⟨Ex, F, x, d, d', e, f, r1, hb, q⟩
  subst e
  cases d with
  | str z =>
    obtain ⟨hl, hb⟩ := gO_some hb
    cases hb
    exact call_len_str pins s σ H _ us Q I r ⟨z, by rw [r1.str], of_decide_eq_true hl, q_int f q⟩
  | list ds =>
    cases hb
    obtain ⟨a, vs, rfl, h1, h2⟩ := r1.list f
    exact call_len_seq pins s σ H _ us Q I r ⟨a, vs, rfl, .inl (.inl (.inl h1)), by rw [dpa_len h2]; exact q_int f q⟩
  | tuple ds =>
    cases hb
    obtain ⟨a, vs, rfl, h1, h2⟩ := r1.tuple
    exact call_len_seq pins s σ H _ us Q I r ⟨a, vs, rfl, .inr (sqT_mono f h1), by rw [dpa_len h2]; exact q_int f q⟩
  | dict kvs =>
    cases hb
    obtain ⟨a, rfl, ks, hd, hp⟩ := r1.dict f
    rw [Vals.ref1 r]
    refine d_len I (.inl hd) fun t s' I' => ⟨.int ks.length, H, I', ⟨t, rfl⟩, ?_⟩
    rw [dic_len hp]
    exact q_int f q
  | _ => cases hb
theorem cr_absD : CallR X (.builtin "abs") (rP1 X.K X.w .abs) := by
  intro pins s σ H xs us Q I r ⟨Ex, F, x, d, d', e, f, r1, hb, q⟩
  subst e
  cases d with
  | int i =>
    cases hb
    exact call_abs pins s σ H _ us Q I r ⟨i, by rw [r1.int], q_int f q⟩
  | _ => cases hb
theorem cr_int : CallR X (.type "int") (rP1 X.K X.w .int) := by
  intro pins s σ H xs us Q I r ⟨Ex, F, x, d, d', e, f, r1, hb, q⟩
  subst e
  cases d with
  | int i =>
    cases hb
    exact call_int1 pins s σ H _ us Q I r (.inl ⟨i, by rw [r1.int], q_int f q⟩)
  | bool b =>
    cases hb
    exact call_int1 pins s σ H _ us Q I r (.inr ⟨b, by rw [r1.bool], q_int f q⟩)
  | str z =>
    have hb : (match intText? z with
      | some n => gO (decide (z.length ≤ 640)) (some (PyData.int n))
      | none => none) = some d' := hb
    cases e : intText? z with
    | none => rw [e] at hb; cases hb
    | some n =>
      rw [e] at hb
      obtain ⟨hl, hb⟩ := gO_some hb
      cases hb
      exact call_int_str pins s σ H _ us Q I r ⟨z, n, by rw [r1.str], e, of_decide_eq_true hl, q_int f q⟩
  | _ => cases hb
theorem cr_boolD : CallR X (.type "bool") (rP1 X.K X.w .bool) := by
  intro pins s σ H xs us Q I r ⟨Ex, F, x, d, d', e, f, r1, hb, q⟩
  exact absurd (gO_some (show gO later (do some (.bool (← tru d))) = some d' by cases d <;> exact hb)).1 (by decide)
theorem cr_strD : CallR X (.type "str") (rP1 X.K X.w .str) := by
  intro pins s σ H xs us Q I r ⟨Ex, F, x, d, d', e, f, r1, hb, q⟩
  subst e
  cases d with
  | int i =>
    obtain ⟨hl, hb⟩ := gO_some hb
    cases hb
    exact call_str_int pins s σ H _ us Q I r ⟨i, by rw [r1.int], by have := of_decide_eq_true hl; omega, q_str f q⟩
  | str z => exact absurd (gO_some hb).1 (by decide)
  | _ => cases hb
/-! sums -/
theorem preSum_app (ns : List Int) : ∀ k, k ≤ ns.length → preSum (fun i => ns.getD i 0) k = (ns.take k).sum
  | 0, _ => rfl
  | k + 1, h => by
    rw [preSum, preSum_app ns k (by omega), List.take_add_one, List.sum_append, List.getD_eq_getElem?_getD]
    rw [List.getElem?_eq_getElem (by omega)]
    simp
theorem getD_sum (ns : List Int) : preSum (fun i => ns.getD i 0) ns.length = ns.sum := by
  rw [preSum_app ns _ (Nat.le_refl _), List.take_length]
theorem ints_at {its : List Value} {ns : List Int} (h : IntsAre its ns) (i : Nat) (v : Value) (e : its.toArray[i]? = some v) : ∃ t, v = .int (ns.getD i 0) t := by
  induction h generalizing i with
  | nil => simp at e
  | cons n t _ ih =>
    cases i with
    | zero => simp at e; subst e; exact ⟨_, rfl⟩
    | succ i => exact ih i (by simpa using e)
theorem cr_sumD (hc : X.calm = true) : CallR X (.builtin "sum") (rP1 X.K X.w .sum) := by
  intro pins s σ H xs us Q I r ⟨Ex, F, x, d, d', e, f, r1, hb, q⟩
  subst e
  cases d with
  | list ds =>
    obtain ⟨ns, h1, rfl⟩ := Option.map_eq_some_iff.mp hb
    obtain ⟨a, vs, rfl, h3, h2⟩ := r1.list f
    have := dpa_ints h2 h1
    subst this
    exact L2.cr_sum hc pins s σ H _ us Q I r ⟨a, ns, rfl, .inl (.inl h3), q_int f q⟩
  | tuple ds =>
    obtain ⟨ns, h1, rfl⟩ := Option.map_eq_some_iff.mp hb
    obtain ⟨a, vs, rfl, h3, h2⟩ := r1.tuple
    have := dpa_ints h2 h1
    subst this
    obtain ⟨its, rv, ht, hz⟩ := I.tuple (sqT_mono f h3)
    rw [Vals.ref1 r]
    have hi := rv.ints
    have hl : its.toArray.size = ns.length := by rw [List.size_toArray, ← rv.length, List.length_map]
    refine call_sum_walkAnyS (W.iter_tupleW (A := X.A.in1) (I.ok.hd hc) ht fun s₂ e Wk st hfp hw hk => ?_)
    refine ⟨_, _, _, _, _, _, _, (fun i => ns.getD i 0), rfl, Wk, st, hfp, fun i v hP => ints_at hi i v hP, fun s' t' m => ?_⟩
    obtain ⟨h', tk, rfl, hk'⟩ := PySem.W.moved_old e rfl m
    refine ⟨.int _, H, I.kept hk', ⟨t', ?_⟩, q_int f q⟩
    rw [hl, getD_sum]
  | _ => cases hb
end
end Wv

set_option autoImplicit false
set_option linter.all false
set_option maxRecDepth 100000
set_option maxHeartbeats 4000000
namespace Wv
open PySem PySem.Spec PyProof.Rows L2
section
variable {X : Cx}
variable {K : PySem.W.Frag} {w : World} {F H : Hp} {Q : VK} {Ex : Addr → Prop} {s : Shared} {pins : List (Addr × Obj)} {σ : L2.St}
theorem cmpOk_of {a b : PyData} (h : cmpOk a b = true) : W.alike a b = true ∧ a ≠ .none ∧ shp a = true ∧ shp b = true := by
  unfold cmpOk at h
  simp only [Bool.and_eq_true] at h
  obtain ⟨⟨⟨h1, h2⟩, h3⟩, h4⟩ := h
  refine ⟨h1, fun e => ?_, h3, h4⟩
  subst e; cases h2
theorem all_mem {xs : List PyData} (h : allAlike xs = true) {a b : PyData} (ha : a ∈ xs) (hb : b ∈ xs) : cmpOk a b = true := by
  unfold allAlike at h
  exact List.all_eq_true.mp (List.all_eq_true.mp h a ha) b hb
theorem alike_of {xs : List PyData} (h : allAlike xs = true) : W.AlikeAll xs ∧ ∀ x ∈ xs, shp x = true :=
  ⟨⟨fun x hx y hy => (cmpOk_of (all_mem h hx hy)).1, fun x hx => (cmpOk_of (all_mem h hx hx)).2.1⟩, fun x hx => (cmpOk_of (all_mem h hx hx)).2.2.1⟩
theorem shp_depth {d : PyData} (h : shp d = true) : d.depth ≤ 64 := SeqAt.depth_of_shaped h
theorem depthAll_le : ∀ {ds : List PyData}, (∀ d ∈ ds, d.depth ≤ 64) → PyData.depthAll ds ≤ 64
  | [], _ => by simp [PyData.depthAll]
  | d :: ds, h => by
    rw [PyData.depthAll]
    exact Nat.max_le.mpr ⟨h d List.mem_cons_self, depthAll_le fun e he => h e (List.mem_cons_of_mem _ he)⟩
theorem best_mem (f : PyData → PyData → Bool) : ∀ (xs : List PyData) (x : PyData), xs.foldl (fun a y => if f a y = true then y else a) x ∈ x :: xs
  | [], x => List.mem_cons_self
  | y :: ys, x => by
    rw [List.foldl_cons]
    have := best_mem f ys (if f x y = true then y else x)
    rcases List.mem_cons.mp this with e | e
    · rw [e]
      split
      · exact List.mem_cons_of_mem _ List.mem_cons_self
      · exact List.mem_cons_self
    · exact List.mem_cons_of_mem _ (List.mem_cons_of_mem _ e)
theorem minD_mem (x : PyData) (xs : List PyData) : W.minD x xs ∈ x :: xs := best_mem (fun a y => W.dataLt y a) xs x
theorem maxD_mem (x : PyData) (xs : List PyData) : W.maxD x xs ∈ x :: xs := best_mem (fun a y => W.dataLt a y) xs x
theorem vals_at : ∀ {xs : List V} {us : List Value} {i : Nat} {v : Value}, Vals xs us → us[i]? = some v → ∃ z, xs[i]? = some z ∧ RelV z v
  | _, _, i, v, .nil, h => by simp at h
  | _, _, 0, v, .cons r _, h => by simp at h; subst h; exact ⟨_, rfl, r⟩
  | _, _, i + 1, v, .cons _ t, h => by
    obtain ⟨z, e, q⟩ := vals_at (i := i) t (by simpa using h)
    exact ⟨z, by simpa using e, q⟩
theorem pick_at {vs : List V} {ds : List PyData} {its : List Value} {i : Nat} {v : Value} {d : PyData} {bs : List Addr} {h' : Heap} (I : Inv X pins σ H s) (f : Fit F H) (r : Vals vs its) (h : DqAll X.K F vs ds) (hi : its[i]? = some v) (rd : Reads h' v d bs) (hp : d.plain = true) (hk : ∀ b o, s.heap.get? b = some o → h'.get? b = some o) (hd : ∀ e ∈ ds, shp e = true) :
    ∃ z, RelV z v ∧ Dq X.K F z d := by
  obtain ⟨z, e1, e2⟩ := vals_at r hi
  obtain ⟨e, e3, e4⟩ := dpa_get' h e1
  obtain ⟨as, e5⟩ := Dp.reads I e z v (dq_dp _ _ (dp_mono f _ _ e4)) e2
  have e6 := SeqAt.readOf_plain (shp_plain (hd e (List.mem_of_getElem? e3))) (PyProof.Rows.Reads.keeps hk e5)
  have e7 := SeqAt.readOf_plain hp rd
  rw [e6] at e7
  subst e7
  exact ⟨z, e2, e4⟩
theorem reads_of {vs : List V} {ds : List PyData} {its : List Value} (I : Inv X pins σ H s) (f : Fit F H) (r : Vals vs its) (h : DqAll X.K F vs ds) : ∃ as, ReadsAll s.heap its ds as :=
  Dp.readsAll I ds vs its (dq_dpAll _ _ (dpAll_mono f _ _ h)) r
theorem cr_maxD (hc : X.calm = true) (hu : X.A.units + 100 < cLine) : CallR X (.builtin "max") (rP1 X.K X.w .max) := by
  intro pins s σ H xs us Q I r ⟨Ex, F, x, d, d', e, f, r1, hb, q⟩
  subst e
  cases d with
  | list ds =>
    cases ds with
    | nil => cases hb
    | cons d ds =>
      obtain ⟨ha, hb⟩ := gO_some hb
      cases hb
      obtain ⟨h1, h2⟩ := alike_of ha
      obtain ⟨a, vs, rfl, h3, h4⟩ := r1.list f
      obtain ⟨its, rv, hl, hz⟩ := I.list (SqL.of h3)
      rw [Vals.ref1 r]
      obtain ⟨as, e1⟩ := reads_of I f rv h4
      have hm := maxD_mem d ds
      refine W.max_list_data (I.ok.hd hc) hl.isList e1 h1 (by have := depthAll_le fun e he => shp_depth (h2 e he); omega) fun i v h' tk bs hi rd hk => ?_
      obtain ⟨z, e2, e3⟩ := pick_at I f rv h4 (by simpa using hi) rd (shp_plain (h2 _ hm)) hk h2
      exact ⟨z, H, I.kept hk, e2, q z H F (Ext.refl f) (.dat e3)⟩
  | tuple ds =>
    cases ds with
    | nil => cases hb
    | cons d ds =>
      obtain ⟨ha, hb⟩ := gO_some hb
      cases hb
      obtain ⟨h1, h2⟩ := alike_of ha
      obtain ⟨a, vs, rfl, h3, h4⟩ := r1.tuple
      obtain ⟨its, rv, hl, hz⟩ := I.tuple (sqT_mono f h3)
      rw [Vals.ref1 r]
      obtain ⟨as, e1⟩ := reads_of I f rv h4
      have hm := maxD_mem d ds
      refine W.max_tuple_data (I.ok.hd hc) hl e1 h1 (by have := depthAll_le fun e he => shp_depth (h2 e he); omega) fun i v h' tk bs hi rd hk => ?_
      obtain ⟨z, e2, e3⟩ := pick_at I f rv h4 (by simpa using hi) rd (shp_plain (h2 _ hm)) hk h2
      exact ⟨z, H, I.kept hk, e2, q z H F (Ext.refl f) (.dat e3)⟩
  | _ => cases hb
theorem cr_minD (hc : X.calm = true) (hu : X.A.units + 100 < cLine) : CallR X (.builtin "min") (rP1 X.K X.w .min) := by
  intro pins s σ H xs us Q I r ⟨Ex, F, x, d, d', e, f, r1, hb, q⟩
  subst e
  cases d with
  | list ds =>
    cases ds with
    | nil => cases hb
    | cons d ds =>
      obtain ⟨ha, hb⟩ := gO_some hb
      cases hb
      obtain ⟨h1, h2⟩ := alike_of ha
      obtain ⟨a, vs, rfl, h3, h4⟩ := r1.list f
      obtain ⟨its, rv, hl, hz⟩ := I.list (SqL.of h3)
      rw [Vals.ref1 r]
      obtain ⟨as, e1⟩ := reads_of I f rv h4
      have hm := minD_mem d ds
      refine W.min_list_data (I.ok.hd hc) hl.isList e1 h1 (by have := depthAll_le fun e he => shp_depth (h2 e he); omega) fun i v h' tk bs hi rd hk => ?_
      obtain ⟨z, e2, e3⟩ := pick_at I f rv h4 (by simpa using hi) rd (shp_plain (h2 _ hm)) hk h2
      exact ⟨z, H, I.kept hk, e2, q z H F (Ext.refl f) (.dat e3)⟩
  | tuple ds =>
    cases ds with
    | nil => cases hb
    | cons d ds =>
      obtain ⟨ha, hb⟩ := gO_some hb
      cases hb
      obtain ⟨h1, h2⟩ := alike_of ha
      obtain ⟨a, vs, rfl, h3, h4⟩ := r1.tuple
      obtain ⟨its, rv, hl, hz⟩ := I.tuple (sqT_mono f h3)
      rw [Vals.ref1 r]
      obtain ⟨as, e1⟩ := reads_of I f rv h4
      have hm := minD_mem d ds
      refine W.min_tuple_data (I.ok.hd hc) hl e1 h1 (by have := depthAll_le fun e he => shp_depth (h2 e he); omega) fun i v h' tk bs hi rd hk => ?_
      obtain ⟨z, e2, e3⟩ := pick_at I f rv h4 (by simpa using hi) rd (shp_plain (h2 _ hm)) hk h2
      exact ⟨z, H, I.kept hk, e2, q z H F (Ext.refl f) (.dat e3)⟩
  | _ => cases hb
/-! any, all -/
theorem tbl_ok {ds : List PyData} (h : ds.all tbl = true) : PyData.plainAll ds = true ∧ ∀ d ∈ ds, d.fits63 := by
  induction ds with
  | nil => exact ⟨by simp [PyData.plainAll], fun d hd => by cases hd⟩
  | cons d ds ih =>
    rw [List.all_cons, Bool.and_eq_true] at h
    obtain ⟨h1, h2⟩ := ih h.2
    have hd : d.plain = true ∧ d.fits63 := by
      have h := h.1
      cases d with
      | none => exact ⟨by simp [PyData.plain], trivial⟩
      | bool b => exact ⟨by simp [PyData.plain], trivial⟩
      | int i => exact ⟨by simp [PyData.plain], trivial⟩
      | str x =>
        have h := of_decide_eq_true (show decide (x.length ≤ sizeLine) = true from h)
        refine ⟨by simp [PyData.plain], ?_⟩
        show (x.length : Int) < 2 ^ 63
        rw [sizeLine_eq] at h
        omega
      | list xs =>
        obtain ⟨h1, h2⟩ := Bool.and_eq_true_iff.mp (show (PyData.plainAll xs && decide (xs.length ≤ 1000000)) = true from h)
        have h2 := of_decide_eq_true h2
        exact ⟨by simpa [PyData.plain] using h1, by show (xs.length : Int) < 2 ^ 63; omega⟩
      | tuple xs =>
        obtain ⟨h1, h2⟩ := Bool.and_eq_true_iff.mp (show (PyData.plainAll xs && decide (xs.length ≤ 1000000)) = true from h)
        have h2 := of_decide_eq_true h2
        exact ⟨by simpa [PyData.plain] using h1, by show (xs.length : Int) < 2 ^ 63; omega⟩
      | dict kvs => cases h
    refine ⟨by simp [PyData.plainAll, hd.1, h1], fun e he => ?_⟩
    rcases List.mem_cons.mp he with z | z
    · subst z; exact hd.2
    · exact h2 e z
theorem cr_anyD (hc : X.calm = true) : CallR X (.builtin "any") (rP1 X.K X.w .any) := by
  intro pins s σ H xs us Q I r ⟨Ex, F, x, d, d', e, f, r1, hb, q⟩
  subst e
  cases d with
  | list ds =>
    obtain ⟨ha, hb⟩ := gO_some hb
    cases hb
    obtain ⟨h1, h2⟩ := tbl_ok ha
    obtain ⟨a, vs, rfl, h3, h4⟩ := r1.list f
    obtain ⟨its, rv, hl, hz⟩ := I.list (SqL.of h3)
    rw [Vals.ref1 r]
    obtain ⟨as, e1⟩ := reads_of I f rv h4
    exact W.any_list_data (I.ok.hd hc) hl.isList e1 h1 h2 fun h' tk hk => ⟨.bl _, H, I.kept hk, rfl, q_bl f q⟩
  | tuple ds =>
    obtain ⟨ha, hb⟩ := gO_some hb
    cases hb
    obtain ⟨h1, h2⟩ := tbl_ok ha
    obtain ⟨a, vs, rfl, h3, h4⟩ := r1.tuple
    obtain ⟨its, rv, hl, hz⟩ := I.tuple (sqT_mono f h3)
    rw [Vals.ref1 r]
    obtain ⟨as, e1⟩ := reads_of I f rv h4
    exact W.any_tuple_data (I.ok.hd hc) hl e1 h1 h2 fun h' tk hk => ⟨.bl _, H, I.kept hk, rfl, q_bl f q⟩
  | _ => cases hb
theorem cr_allD (hc : X.calm = true) : CallR X (.builtin "all") (rP1 X.K X.w .all) := by
  intro pins s σ H xs us Q I r ⟨Ex, F, x, d, d', e, f, r1, hb, q⟩
  subst e
  cases d with
  | list ds =>
    obtain ⟨ha, hb⟩ := gO_some hb
    cases hb
    obtain ⟨h1, h2⟩ := tbl_ok ha
    obtain ⟨a, vs, rfl, h3, h4⟩ := r1.list f
    obtain ⟨its, rv, hl, hz⟩ := I.list (SqL.of h3)
    rw [Vals.ref1 r]
    obtain ⟨as, e1⟩ := reads_of I f rv h4
    exact W.all_list_data (I.ok.hd hc) hl.isList e1 h1 h2 fun h' tk hk => ⟨.bl _, H, I.kept hk, rfl, q_bl f q⟩
  | tuple ds =>
    obtain ⟨ha, hb⟩ := gO_some hb
    cases hb
    obtain ⟨h1, h2⟩ := tbl_ok ha
    obtain ⟨a, vs, rfl, h3, h4⟩ := r1.tuple
    obtain ⟨its, rv, hl, hz⟩ := I.tuple (sqT_mono f h3)
    rw [Vals.ref1 r]
    obtain ⟨as, e1⟩ := reads_of I f rv h4
    exact W.all_tuple_data (I.ok.hd hc) hl e1 h1 h2 fun h' tk hk => ⟨.bl _, H, I.kept hk, rfl, q_bl f q⟩
  | _ => cases hb
theorem seq_tup {d : PyData} {d' : PyData} (h : p1 .tuple d = some d') : (∃ ds, d = .list ds ∧ d' = .tuple ds) ∨ ∃ ds, d = .tuple ds ∧ d' = .tuple ds := by
  cases d with
  | list ds => cases h; exact .inl ⟨ds, rfl, rfl⟩
  | tuple ds => cases h; exact .inr ⟨ds, rfl, rfl⟩
  | _ => cases h
theorem call_tupleZ : CallR X (.type "tuple") (fun xs H Q => ∃ p ys, xs = [.ref p] ∧ ((SqL X.K H p ys ∧ ∀ l o, H l = none → o.dict = none → Q (.ref l) (upd H l (.frz o (.tup ys)))) ∨ (SqT X.K H p ys ∧ Q (.ref p) H))) := by
  intro pins s σ H xs us Q I r h
  obtain ⟨p, ys, rfl, h⟩ := h
  obtain ⟨u, rfl, rx⟩ := vals1 r
  cases rx
  rcases h with ⟨hq, q⟩ | ⟨hq, q⟩
  · obtain ⟨its, r', pl, hz⟩ := I.list hq
    have hlen := r'.length
    refine call_tuple_list pl.isList (fun h' kp => ?_) (by simp only [List.size_toArray] <;> omega)
    have I1 : Inv X pins σ H { s with heap := h' } := I.kept (t' := s.toks) kp
    exact Inv.laidT I1 r' hz q
  · obtain ⟨its, r', pl, hz⟩ := I.tuple hq
    exact call_tuple_same pl ⟨.ref p, H, I, rfl, q⟩
theorem cr_tupleD : CallR X (.type "tuple") (rP1 X.K X.w .tuple) := by
  intro pins s σ H xs us Q I r ⟨Ex, F, x, d, d', e, f, r1, hb, q⟩
  subst e
  rcases seq_tup hb with ⟨ds, rfl, rfl⟩ | ⟨ds, rfl, rfl⟩
  · obtain ⟨a, vs, rfl, h1, h2⟩ := r1.list f
    exact call_tupleZ pins s σ H _ us Q I r ⟨a, vs, rfl, .inl ⟨.inl (.inl h1), q_tup f h2 q⟩⟩
  · obtain ⟨a, vs, rfl, h1, h2⟩ := r1.tuple
    exact call_tupleZ pins s σ H _ us Q I r ⟨a, vs, rfl, .inr ⟨sqT_mono f h1, q _ H F (Ext.refl f) (.dat (.tup h1 h2))⟩⟩
end
end Wv

set_option autoImplicit false
set_option linter.all false
set_option maxRecDepth 100000
set_option maxHeartbeats 4000000
namespace Wv
open PySem PySem.Spec PyProof.Rows L2

/-! ### what is fixed in a run -/
structure G where
  gt : Nat → Option PyData
  fa : Nat → Addr
  ca : Nat → Addr
  ts : List Addr
  nc : Nat
/-- the names -/
structure Ck where
  N : List Str
  fn : List Str
  gl : List Str
  cl : List Str
  dk : Option Nat
  /-- generator expressions are allowed -/
  rm : Nat
def ExA (g : G) (A : Option Addr) (a : Addr) : Prop := A = some a ∨ a ∈ g.ts
structure OrcOk (ω : Orc) : Prop where
  b : 0 ≤ ω.b
  c0 : 0 ≤ ω.c
  c1 : ω.c < 2 ^ 31
structure StOk (g : G) (A : Option Addr) (H F : Hp) (ω : Orc) : Prop where
  st : ∀ a, A = some a → F a = none ∧ a ∉ g.ts ∧ OrcOk ω ∧ ∃ b, H a = some (.lst [.int ω.a, .int ω.b, .ref b, .int ω.c]) ∧ F b = some (.lst (ω.scr.map V.int))
  tab : ∀ p ∈ g.ts, GxR.TabG H p
  ft : ∀ p ∈ g.ts, F p = none
def OwnAt (K : PySem.W.Frag) (w : World) (F H : Hp) (a : Addr) : PyData → Prop
  | .list ds => ∃ vs, H a = some (.lst vs) ∧ DqAll K F vs ds
  | .dict kvs => DicAt K F H a kvs
  | _ => False
def SlRel (g : G) (K : PySem.W.Frag) (w : World) (A : Option Addr) (H0 H F : Hp) (o : Option (Option V)) : Slot → Prop
  | .un => True
  | .v false d => ∃ v, o = some (some v) ∧ RepF K w F v d
  | .v true d => ∃ a, o = some (some (.ref a)) ∧ F a = none ∧ ¬ ExA g A a ∧ OwnAt K w F H a d ∧ H0 a = none
  | .f k => o = some (some (.ref (g.fa k)))
  | .s => ∃ a, A = some a ∧ o = some (some (.ref a))
  | .x _ _ => False
structure Rel (g : G) (K : PySem.W.Frag) (w : World) (A : Option Addr) (H0 F0 : Hp) (ρ : Env) (σ : L2.St) (H F : Hp) (ω : Orc) : Prop where
  gr : Grow (ExA g A) H0 F0 H F
  len : ρ.length = σ.length
  sl : ∀ (i : Nat) (s : Slot), ρ[i]? = some s → SlRel g K w A H0 H F σ[i]? s
  own : ∀ (i j : Nat) (d e : PyData) (a : Addr), ρ[i]? = some (.v true d) → ρ[j]? = some (.v true e) → σ[i]? = some (some (.ref a)) → σ[j]? = some (some (.ref a)) → i = j
  st : StOk g A H F ω
section
variable {g : G} {K : PySem.W.Frag} {w : World} {A : Option Addr} {H0 F0 H F H' F' : Hp} {ρ : Env} {σ : L2.St} {ω ω' : Orc}
theorem Rel.fit (r : Rel g K w A H0 F0 ρ σ H F ω) : Fit F H := r.gr.fit
theorem Grow.nf {Ex : Addr → Prop} (gr : Grow Ex H F H' F') {a : Addr} {o : HO} (h1 : F a = none) (h2 : H a = some o) : F' a = none := by
  cases e : F' a with
  | none => rfl
  | some u =>
    rcases gr.new a u e with q | q
    · rw [h1] at q; cases q
    · rw [h2] at q; cases q
theorem OwnAt.obj {a : Addr} {d : PyData} (h : OwnAt K w F H a d) : ∃ o, H a = some o := by
  cases d with
  | list ds => obtain ⟨vs, e, _⟩ := h; exact ⟨_, e⟩
  | dict kvs => obtain ⟨ks, e, _⟩ := h; exact ⟨_, e⟩
  | _ => exact h.elim
theorem OwnAt.mono {a : Addr} {d : PyData} (s : Same F F') (t : ∀ o, H a = some o → H' a = some o) (h : OwnAt K w F H a d) : OwnAt K w F' H' a d := by
  cases d with
  | list ds => obtain ⟨vs, e, q⟩ := h; exact ⟨vs, t _ e, dpAll_mono s _ _ q⟩
  | dict kvs => exact dicAt_mono s t h
  | _ => exact h.elim
theorem Rel.grow (r : Rel g K w A H0 F0 ρ σ H F ω) (gr : Grow (ExA g A) H F H' F') (st : StOk g A H' F' ω') : Rel g K w A H0 F0 ρ σ H' F' ω' where
  gr := r.gr.trans gr
  len := r.len
  sl := fun i s e => by
    have h := r.sl i s e
    cases s with
    | un => trivial
    | v o d =>
      cases o with
      | false => obtain ⟨v, h1, h2⟩ := h; exact ⟨v, h1, h2.mono gr.fs⟩
      | true =>
        obtain ⟨a, h1, h2, h3, h4, h5⟩ := h
        obtain ⟨o, ho⟩ := h4.obj
        exact ⟨a, h1, gr.nf h2 ho, h3, h4.mono gr.fs (fun o e => gr.hs a o h3 e), h5⟩
    | f k => exact h
    | s => exact h
    | x c p => exact h
  own := r.own
  st := st
end

/-! ### readings -/
/-- what an exception bears -/
def PayOk (g : G) (k : Nat) (K : PySem.W.Frag) (H F : Hp) (p : PyData) (d : Option Addr) : Prop := k < g.nc ∧ p = .none ∧ d = none
def RPost {α : Type} (g : G) (K : PySem.W.Frag) (W : WX) (σ : L2.St) (A : Option Addr) (H F : Hp) (r : R α) (ok : α → Orc → Hp → Hp → Prop) : Prop := match r with
  | .ok d ω' => ∀ H' F', Grow (ExA g A) H F H' F' → StOk g A H' F' ω' → ok d ω' H' F'
  | .exc c p ω' => ∀ H' F' dx, Grow (ExA g A) H F H' F' → StOk g A H' F' ω' → PayOk g c K H' F' p dx → W (.ref (g.ca c)) dx σ H'
  | .stuck => False
section
variable {α β : Type} {g : G} {K : PySem.W.Frag} {W : WX} {σ : L2.St} {A : Option Addr} {H F H1 F1 : Hp} {ok ok' : α → Orc → Hp → Hp → Prop}
theorem RPost.mono {r : R α} (gr : Grow (ExA g A) H F H1 F1) (h : RPost g K W σ A H F r ok) : RPost g K W σ A H1 F1 r ok := by
  cases r with
  | ok a ω => exact fun H' F' g2 st => h H' F' (gr.trans g2) st
  | exc c p ω => exact fun H' F' dx g2 st => h H' F' dx (gr.trans g2) st
  | stuck => exact h
theorem RPost.imp {r : R α} (h : RPost g K W σ A H F r ok) (q : ∀ a ω' H' F', Grow (ExA g A) H F H' F' → StOk g A H' F' ω' → ok a ω' H' F' → ok' a ω' H' F') : RPost g K W σ A H F r ok' := by
  cases r with
  | ok a ω => exact fun H' F' g2 st => q a ω H' F' g2 st (h H' F' g2 st)
  | exc c p ω => exact h
  | stuck => exact h
theorem RPost.bind {m : M α} {f : α → M β} {ω : Orc} {ok : β → Orc → Hp → Hp → Prop} (h : RPost g K W σ A H F ((m >>= f) ω) ok) : RPost g K W σ A H F (m ω) (fun a ω1 H1 F1 => RPost g K W σ A H1 F1 (f a ω1) ok) := by
  have e : (m >>= f) ω = (match m ω with | .ok a w' => f a w' | .exc c p w' => .exc c p w' | .stuck => .stuck) := rfl
  rw [e] at h
  cases q : m ω with
  | ok a ω1 => rw [q] at h; exact fun H' F' gr st => h.mono gr
  | exc c p ω1 => rw [q] at h; exact h
  | stuck => rw [q] at h; exact h
/-- the end: a value is at hand -/
theorem RPost.ofO {o : Option α} {ω : Orc} (h : RPost g K W σ A H F (M.ofO o ω) ok) : ∃ a, o = some a ∧ ∀ H' F', Grow (ExA g A) H F H' F' → StOk g A H' F' ω → ok a ω H' F' := by
  cases o with
  | some a => exact ⟨a, rfl, h⟩
  | none => exact h.elim
theorem RPost.pure {a : α} {ω : Orc} (h : RPost g K W σ A H F ((Pure.pure a : M α) ω) ok) : ∀ H' F', Grow (ExA g A) H F H' F' → StOk g A H' F' ω → ok a ω H' F' := h
theorem RPost.guard {c : Bool} {m : M α} {ω : Orc} (h : RPost g K W σ A H F (M.guard c m ω) ok) : c = true ∧ RPost g K W σ A H F (m ω) ok := by
  cases c with
  | true => exact ⟨rfl, h⟩
  | false => exact h.elim
theorem StOk.ext {ω : Orc} (st : StOk g A H F ω) (e : Ext H F H1 F1) : StOk g A H1 F1 ω where
  st := fun a ha => by
    obtain ⟨h1, h2, h3, b, h4, h5⟩ := st.st a ha
    exact ⟨(e.grow (Ex := fun _ => False)).nf h1 h4, h2, h3, b, e.hs _ _ h4, e.fs _ _ h5⟩
  tab := fun p hp => by
    obtain ⟨ps, h1, h2⟩ := st.tab p hp
    exact ⟨ps, e.hs _ _ h1, h2⟩
  ft := fun p hp => by
    obtain ⟨ps, h1, h2⟩ := st.tab p hp
    exact (e.grow (Ex := fun _ => False)).nf (st.ft p hp) h1
end
def isPk : E → Bool
  | .rev a | .enm a => isPk a
  | .pk _ => true
  | _ => false
def RepR (K : PySem.W.Frag) (w : World) (Ex : Addr → Prop) (pk : Bool) (F H : Hp) (v : V) (d : PyData) : Prop := if pk = true then RepP K w Ex F H v d else RepF K w F v d
theorem RepR.p {K : PySem.W.Frag} {w : World} {Ex : Addr → Prop} {pk : Bool} {F H : Hp} {v : V} {d : PyData} (h : RepR K w Ex pk F H v d) : RepP K w Ex F H v d := by
  cases pk with
  | true => exact h
  | false => exact .frz h
end Wv

set_option autoImplicit false
set_option linter.all false
set_option maxRecDepth 100000
set_option maxHeartbeats 4000000
namespace Wv
open PySem PySem.Spec PyProof.Rows L2

/-! ### the looks: does a text's tree say what the plain text says -/
def visB (sc : Scope) (x : Str) : Bool := match sc.names.lookup x with
  | some .local => true
  | some .cell => true
  | some .free => true
  | _ => false
def glB (sc : Scope) (x : Str) : Bool := sc.names.lookup x == some NameKind.globalImplicit
def plainN (x : Str) : Bool := !(x == ("__debug__" : Str)) && !(x == ("__classdict__" : Str)) && !(x == ("__name__" : Str))
def varB (c : Ck) (sc : Scope) (i : Nat) (x : Str) : Bool := (c.N[i]? == some x) && visB sc x && plainN x
def litB : PyData → Const → Bool
  | .none, .none => true
  | .bool a, .bool b => a == b
  | .int i, .int j => i == j
  | .str x, .str y => x == y
  | _, _ => false
def isCmp : Bop → Option CmpOp
  | .eq => some .Eq | .ne => some .NotEq | .lt => some .Lt | .le => some .LtE | .gt => some .Gt | .ge => some .GtE
  | .is_ => some .Is | .isn => some .IsNot | .in_ => some .In | .nin => some .NotIn
  | _ => none
def isBin : Bop → Option Operator
  | .add => some .Add | .sub => some .Sub | .mul => some .Mult | .fdiv => some .FloorDiv | .mod => some .Mod | .pow => some .Pow
  | _ => none
def noStar : PySem.Expr → Bool
  | .Starred .. => false
  | _ => true
/-- its test is its value's truth -/
def plainT : PySem.Expr → Bool
  | .UnaryOp .Not _ _ => false
  | .BoolOp .. => false
  | .IfExp .. => false
  | .Compare .. => false
  | _ => true
def noSlice : PySem.Expr → Bool
  | .Slice .. => false
  | _ => true
def p1Name : P1 → String
  | .len => "len" | .abs => "abs" | .sum => "sum" | .max => "max" | .min => "min" | .sorted => "sorted" | .sortedr => "sorted" | .list => "list" | .tuple => "tuple"
  | .int => "int" | .bool => "bool" | .str => "str" | .any => "any" | .all => "all"
/-! ### the context -/
def ArgRel (g : G) (K : PySem.W.Frag) (w : World) (A : Option Addr) (F : Hp) (v : V) : Slot → Prop
  | .v false d => RepF K w F v d
  | .f k => v = .ref (g.fa k)
  | .s => ∃ a, A = some a ∧ v = .ref a
  | _ => False
def spF (g : G) (K : PySem.W.Frag) (w : World) (call : Nat → List Slot → M PyData) (f : Nat) : Sp := fun vs H Q E =>
  ∃ A F ω as, Fit F H ∧ StOk g A H F ω ∧ Paired (ArgRel g K w A F) vs as ∧ RPost g K (fun cls d _ H' => E cls d H') [] A H F (call f as ω) (fun d _ H' F' => ∀ v, RepF K w F' v d → Q v H')
/-- the built-in names that are used -/
def bltN : List String := ["abs", "all", "any", "bool", "enumerate", "int", "isinstance", "len", "list", "max", "min", "range", "reversed", "set", "sorted", "str", "sum", "tuple", "zip"]
theorem p1_blt (p : P1) : p1Name p ∈ bltN := by cases p <;> decide
/-- the draw -/
def spD (g : G) : Sp := fun vs H Q E => ∃ a F ω n, vs = [.ref a, .int n] ∧ Fit F H ∧ StOk g (some a) H F ω ∧ 0 < n ∧ n < 2 ^ 64 ∧
  ∀ H' F', Grow (ExA g (some a)) H F H' F' → StOk g (some a) H' F' (drawFn ω n).2 → Q (.int (drawFn ω n).1) H'
/-- how many generator expressions deep one may still go -/
def rmOf (c : Ck) (sc : Scope) : Nat := if sc.isGenerator = true then 0 else c.rm
structure Gd (g : G) (c : Ck) (call : Nat → List Slot → M PyData) (X : Cx) (scp : Scope) : Prop where
  sc : X.env.scope = scp
  N : X.N = c.N
  nd : c.N.Nodup
  calm : X.calm = true
  fns : ∃ n, Room (n + rmOf c scp) X.A ∧ ∀ (f : Nat) (x : Str), c.fn[f]? = some x → ∃ fd ps, X.mg x = some (.ref (g.fa f)) ∧ PySem.W.keepIn X.K (.ref (g.fa f)) = true ∧ Binds X.K fd ps [] ∧
    FnOk X.prog X.w X.K X.mg X.base (L2.CX X.prog X.w) n (g.fa f) fd ps (spF g X.K X.w call f)
  drw : ∀ k, c.dk = some k → ∃ n x fd ps, Room (n + rmOf c scp) X.A ∧ c.fn[k]? = some x ∧ X.mg x = some (.ref (g.fa k)) ∧ PySem.W.keepIn X.K (.ref (g.fa k)) = true ∧ Binds X.K fd ps [] ∧
    FnOk X.prog X.w X.K X.mg X.base (L2.CX X.prog X.w) n (g.fa k) fd ps (spD g)
  rm : Room (rmOf c scp) X.A
  gn : 0 < rmOf c scp → ∃ cc P, X.env.code = .ref cc ∧ GxR.TabB X.base X.mg cc P ∧ P ∈ g.ts
  frn : ∀ x : String, x ∈ bltN → X.mg (Str.ofString x) = none
section
variable {g : G} {c : Ck} {call : Nat → List Slot → M PyData} {X : Cx} {sc : Scope} {W : WX}
theorem Gd.hu (d : Gd g c call X sc) : X.A.units + 200 < cLine := by
  have := (d.rm.mono (Nat.zero_le _)).un
  omega

def tE (g : G) (call : Nat → List Slot → M PyData) (X : Cx) (W : WX) (e : E) : TE := fun σ H Q => ∃ A H0 F0 ρ F ω, Rel g X.K X.w A H0 F0 ρ σ H F ω ∧
  RPost g X.K W σ A H F (evalE g.gt call e ρ ω) (fun d _ H' F' => ∀ v, RepR X.K X.w (ExA g A) (isPk e) F' H' v d → Q v H')
def tT (g : G) (call : Nat → List Slot → M PyData) (X : Cx) (W : WX) (e : E) : TT := fun σ H Q => ∃ A H0 F0 ρ F ω, Rel g X.K X.w A H0 F0 ρ σ H F ω ∧
  RPost g X.K W σ A H F ((evalE g.gt call e ρ >>= fun d => M.ofO (tru d)) ω) (fun b _ H' F' => Q b H')
def tEs (g : G) (call : Nat → List Slot → M PyData) (X : Cx) (W : WX) (es : Es) : TA := fun σ H Q => ∃ A H0 F0 ρ F ω, Rel g X.K X.w A H0 F0 ρ σ H F ω ∧
  RPost g X.K W σ A H F (evalEs g.gt call es ρ ω) (fun ds _ H' F' => ∀ vs, Paired (RepF X.K X.w F') vs ds → Q vs H')
theorem PE.wk {e : PySem.Expr} {t t' : TE} (h : PE X e t) (i : ∀ σ H Q, t' σ H Q → t σ H Q) : PE X e t' := ⟨fun pins s σ H Q I q => h.run pins s σ H Q I (i σ H Q q)⟩
theorem PT.wk {e : PySem.Expr} {t t' : TT} (h : PT X e t) (i : ∀ σ H Q, t' σ H Q → t σ H Q) : PT X e t' := ⟨fun pins s σ H Q I q => h.run pins s σ H Q I (i σ H Q q)⟩
theorem PA.wk {e : List PySem.Expr} {t t' : TA} (h : PA X e t) (i : ∀ σ H Q, t' σ H Q → t σ H Q) : PA X e t' := ⟨fun pos pins s σ H Q I q => h.run pos pins s σ H Q I (i σ H Q q)⟩

/-! names and constants -/
theorem vis_of {x : Str} (h : visB sc x = true) : Vis sc x := by
  unfold visB at h
  split at h
  · exact .inl ‹_›
  · exact .inr (.inl ‹_›)
  · exact .inr (.inr ‹_›)
  · cases h
theorem var_of {i : Nat} {x : Str} (h : varB c sc i x = true) : c.N[i]? = some x ∧ Vis sc x ∧ (x == ("__debug__" : Str)) = false ∧ (x == ("__classdict__" : Str)) = false := by
  unfold varB plainN at h
  simp only [Bool.and_eq_true, Bool.not_eq_true', beq_iff_eq] at h
  exact ⟨h.1.1, vis_of h.1.2, h.2.1.1, h.2.1.2⟩
theorem snd_name {i : Nat} {x : Str} {pos : Pos} (G : Gd g c call X sc) (h : varB c sc i x = true) : PE X (.Name x pos) (tVar i) := by
  obtain ⟨h1, h2, h3, h4⟩ := var_of h
  exact pe_var (by rw [G.N]; exact h1) (by rw [G.sc]; exact h2) h3 h4
theorem getV_post {σ : L2.St} {A : Option Addr} {H F : Hp} {s : Option Slot} {ω : Orc} {ok : PyData → Orc → Hp → Hp → Prop} (h : RPost g X.K W σ A H F (getV s ω) ok) : ∃ d, s = some (.v false d) ∧ ∀ H' F', Grow (ExA g A) H F H' F' → StOk g A H' F' ω → ok d ω H' F' := by
  unfold getV at h
  split at h
  · exact ⟨_, rfl, h⟩
  · exact h.elim
theorem getP_post {σ : L2.St} {A : Option Addr} {H F : Hp} {s : Option Slot} {ω : Orc} {ok : PyData → Orc → Hp → Hp → Prop} (h : RPost g X.K W σ A H F (getP s ω) ok) : ∃ o d, s = some (.v o d) ∧ ∀ H' F', Grow (ExA g A) H F H' F' → StOk g A H' F' ω → ok d ω H' F' := by
  unfold getP at h
  split at h
  · exact ⟨_, _, rfl, h⟩
  · exact h.elim
theorem snd_var {i : Nat} {x : Str} {pos : Pos} (G : Gd g c call X sc) (h : varB c sc i x = true) : PE X (.Name x pos) (tE g call X W (.var i)) := by
  refine PE.wk (snd_name G h) fun σ H Q ⟨A, H0, F0, ρ, F, ω, r, q⟩ => ?_
  rw [evalE] at q
  obtain ⟨d, e, q⟩ := getV_post q
  obtain ⟨v, h1, h2⟩ := r.sl _ _ e
  exact ⟨v, h1, q H F (Grow.refl r.fit) r.st v h2⟩
theorem snd_pk {i : Nat} {x : Str} {pos : Pos} (G : Gd g c call X sc) (h : varB c sc i x = true) : PE X (.Name x pos) (tE g call X W (.pk i)) := by
  refine PE.wk (snd_name G h) fun σ H Q ⟨A, H0, F0, ρ, F, ω, r, q⟩ => ?_
  rw [evalE] at q
  obtain ⟨o, d, e, q⟩ := getP_post q
  cases o with
  | false =>
    obtain ⟨v, h1, h2⟩ := r.sl _ _ e
    exact ⟨v, h1, q H F (Grow.refl r.fit) r.st v (.frz h2)⟩
  | true =>
    obtain ⟨a, h1, h2, h3, h4, h5⟩ := r.sl _ _ e
    refine ⟨.ref a, h1, q H F (Grow.refl r.fit) r.st _ ?_⟩
    cases d with
    | list ds => obtain ⟨vs, e1, e2⟩ := h4; exact .lst h3 h2 e1 e2
    | dict kvs => exact .dic h3 h2 h4
    | _ => exact h4.elim
theorem snd_lit {d : PyData} {k : Const} {j : Nat} {pos : Pos} (h : litB d k = true) : PE X (.Constant k j pos) (tE g call X W (.lit d)) := by
  have go : ∀ {v : V}, PE X (.Constant k j pos) (tC v) → (∀ F, RepF X.K X.w F v d) → PE X (.Constant k j pos) (tE g call X W (.lit d)) := fun {v} p r0 =>
    PE.wk p fun σ H Q ⟨A, H0, F0, ρ, F, ω, r, q⟩ => by
      rw [evalE] at q
      exact RPost.pure q H F (Grow.refl r.fit) r.st v (r0 _)
  cases d <;> cases k <;> try (cases h; done)
  · exact go pe_non fun F => .dat .non
  · have e := eq_of_beq (show (_ == _) = true from h); subst e; exact go pe_bl fun F => .dat (.bl _)
  · have e := eq_of_beq (show (_ == _) = true from h); subst e; exact go pe_int fun F => .dat (.int _)
  · have e := eq_of_beq (show (_ == _) = true from h); subst e; exact go pe_str fun F => .dat (.str _)

/-! two operands -/
theorem two_ok {a b : E} {f : PyData → PyData → Option PyData} {r2 : R2} (hr : ∀ {x y : V} {H F : Hp} {Ex : Addr → Prop} {d1 d2 d3 : PyData} {Q : VK}, Fit F H → RepP X.K X.w Ex F H x d1 → RepP X.K X.w Ex F H y d2 → f d1 d2 = some d3 → (∀ v H' F', Ext H F H' F' → RepF X.K X.w F' v d3 → Q v H') → r2 x y H Q)
    {σ : L2.St} {H : Hp} {Q : VK} (h : ∃ A H0 F0 ρ F ω, Rel g X.K X.w A H0 F0 ρ σ H F ω ∧
      RPost g X.K W σ A H F ((do let x ← evalE g.gt call a ρ; let y ← evalE g.gt call b ρ; M.ofO (f x y)) ω) (fun d _ H' F' => ∀ v, RepF X.K X.w F' v d → Q v H')) :
    tOp r2 (tE g call X W a) (tE g call X W b) σ H Q := by
  obtain ⟨A, H0, F0, ρ, F, ω, r, q⟩ := h
  refine ⟨A, H0, F0, ρ, F, ω, r, (RPost.bind q).imp fun d1 ω1 H1 F1 g1 s1 q1 x rx => ?_⟩
  refine ⟨A, H0, F0, ρ, F1, ω1, r.grow g1 s1, (RPost.bind q1).imp fun d2 ω2 H2 F2 g2 s2 q2 y ry => ?_⟩
  obtain ⟨d3, e3, q3⟩ := RPost.ofO q2
  exact hr g2.fit (rx.p.grow g2) ry.p e3 fun v H' F' e rv => q3 H' F' e.grow (s2.ext e) v rv
theorem bin_ok {o : Bop} {p : Operator} (h : isBin o = some p) : OpR X (binaryOp p) (rB X.K X.w o) := by
  cases o <;> cases h
  · exact or_add
  · exact or_sub
  · exact or_mul
  · exact or_fdiv
  · exact or_mod
  · exact or_pow
theorem cmpR_ok (G : Gd g c call X sc) {o : Bop} {p : CmpOp} (h : isCmp o = some p) : OpR X (compareOp p) (rB X.K X.w o) := by
  have hu := G.hu
  cases o <;> cases h
  · exact or_eq (by omega)
  · exact or_ne (by omega)
  · exact or_lt (by omega)
  · exact or_le (by omega)
  · exact or_gt (by omega)
  · exact or_ge (by omega)
  · exact or_is
  · exact or_isn
  · exact or_in (by omega)
  · exact or_nin (by omega)
theorem bin_rd {o : Bop} {a b : E} {σ : L2.St} {H : Hp} {Q : VK} (h : tE g call X W (.bin o a b) σ H Q) : tOp (rB X.K X.w o) (tE g call X W a) (tE g call X W b) σ H Q := by
  refine two_ok (f := bop o) (fun f r1 r2 e q => ⟨_, _, _, _, _, f, r1, r2, e, q⟩) ?_
  obtain ⟨A, H0, F0, ρ, F, ω, r, q⟩ := h
  rw [evalE] at q
  exact ⟨A, H0, F0, ρ, F, ω, r, q⟩
end
end Wv

set_option autoImplicit false
set_option linter.all false
set_option maxRecDepth 100000
set_option maxHeartbeats 4000000
namespace Wv
open PySem PySem.Spec PyProof.Rows L2
section
variable {g : G} {c : Ck} {call : Nat → List Slot → M PyData} {X : Cx} {sc : Scope} {W : WX} {a b : PySem.Expr} {rest : List PySem.Expr} {pos : Pos}
/-! truth by my own rule -/
theorem pe_andR {ta tb : TE} (ha : PE X a ta) (hb : PE X (.BoolOp .And (b :: rest) pos) tb) : PE X (.BoolOp .And (a :: b :: rest) pos) (fun σ H Q => ta σ H fun x H1 => rT X.K X.w x H1 fun k H2 => if k = true then tb σ H2 Q else Q x H2) := by
  refine ⟨fun pins s σ H Q I h => ?_⟩
  refine BoolOp_and (thn (ha.run pins s σ H _ I h) fun v s1 ⟨x, H1, I1, r1, q1⟩ => ?_)
  refine thn (tr_ok pins s1 σ H1 x v _ I1 r1 q1) fun k s2 ⟨H2, I2, q2⟩ => ?_
  cases k with
  | true => exact hb.run pins s2 σ H2 Q I2 q2
  | false => exact ⟨x, H2, I2, r1, q2⟩
theorem pe_orR {ta tb : TE} (ha : PE X a ta) (hb : PE X (.BoolOp .Or (b :: rest) pos) tb) : PE X (.BoolOp .Or (a :: b :: rest) pos) (fun σ H Q => ta σ H fun x H1 => rT X.K X.w x H1 fun k H2 => if k = true then Q x H2 else tb σ H2 Q) := by
  refine ⟨fun pins s σ H Q I h => ?_⟩
  refine BoolOp_or (thn (ha.run pins s σ H _ I h) fun v s1 ⟨x, H1, I1, r1, q1⟩ => ?_)
  refine thn (tr_ok pins s1 σ H1 x v _ I1 r1 q1) fun k s2 ⟨H2, I2, q2⟩ => ?_
  cases k with
  | false => exact hb.run pins s2 σ H2 Q I2 q2
  | true => exact ⟨x, H2, I2, r1, q2⟩
theorem pe_notR {ta : TE} (ha : PE X a ta) : PE X (.UnaryOp .Not a pos) (fun σ H Q => ta σ H fun x H1 => rT X.K X.w x H1 fun k H2 => Q (.bl (!k)) H2) := by
  refine ⟨fun pins s σ H Q I h => ?_⟩
  refine UnaryOp_ (thn (ha.run pins s σ H _ I h) fun v s1 ⟨x, H1, I1, r1, q1⟩ => ?_)
  exact not_of (thn (tr_ok pins s1 σ H1 x v _ I1 r1 q1) fun k s2 ⟨H2, I2, q2⟩ => ⟨.bl (!k), H2, I2, rfl, q2⟩)
theorem pt_plain {ta : TE} (ha : PE X a ta) (hp : plainT a = true) : PT X a (fun σ H Q => ta σ H fun x H1 => rT X.K X.w x H1 Q) := by
  refine ⟨fun pins s σ H Q I h => ?_⟩
  refine isTrue_plain (thn (ha.run pins s σ H _ I h) fun v s1 ⟨x, H1, I1, r1, q1⟩ => tr_ok pins s1 σ H1 x v Q I1 r1 q1) ?_
  cases a with
  | UnaryOp o x p => cases o <;> first | rfl | cases hp
  | BoolOp => cases hp
  | IfExp => cases hp
  | Compare => cases hp
  | _ => rfl

/-! truth of what the plain text says -/
theorem rt_of {A : Option Addr} {H F : Hp} {x : V} {d : PyData} {ω : Orc} {σ : L2.St} {β : Type} {f : Bool → M β} {ok : β → Orc → Hp → Hp → Prop} {Q : Bool → Hp → Prop} (fi : Fit F H) (st : StOk g A H F ω) (r : RepP X.K X.w (ExA g A) F H x d)
    (h : RPost g X.K W σ A H F ((M.ofO (tru d) >>= f) ω) ok) (q : ∀ k, RPost g X.K W σ A H F (f k ω) ok → Q k H) : rT X.K X.w x H Q := by
  cases e : tru d with
  | none => rw [e] at h; exact h.elim
  | some k => rw [e] at h; exact ⟨_, F, d, k, fi, r, e, q k h⟩
theorem not_rd {e : E} {σ : L2.St} {H : Hp} {Q : VK} (h : tE g call X W (.not_ e) σ H Q) : tE g call X W e σ H fun x H1 => rT X.K X.w x H1 fun k H2 => Q (.bl (!k)) H2 := by
  obtain ⟨A, H0, F0, ρ, F, ω, r, q⟩ := h
  rw [evalE] at q
  refine ⟨A, H0, F0, ρ, F, ω, r, (RPost.bind q).imp fun d ω1 H1 F1 g1 s1 q1 x rx => ?_⟩
  refine rt_of g1.fit s1 rx.p q1 fun k q2 => ?_
  exact q2 H1 F1 (Grow.refl g1.fit) s1 _ (.dat (.bl _))
theorem notT_rd {e : E} {σ : L2.St} {H : Hp} {Q : Bool → Hp → Prop} (h : tT g call X W (.not_ e) σ H Q) : tT g call X W e σ H fun k H1 => Q (!k) H1 := by
  obtain ⟨A, H0, F0, ρ, F, ω, r, q⟩ := h
  rw [evalE, M.bnd_assoc] at q
  refine ⟨A, H0, F0, ρ, F, ω, r, ?_⟩
  have : (evalE g.gt call e ρ >>= fun x => (M.ofO (tru x) >>= fun b => pure (.bool (!b))) >>= fun d => M.ofO (tru d)) = (evalE g.gt call e ρ >>= fun x => M.ofO (tru x)) >>= fun b => pure (!b) := by
    rw [M.bnd_assoc]
    congr 1
    funext x
    rw [M.bnd_assoc]
    rfl
  rw [this] at q
  exact (RPost.bind q).imp fun k ω1 H1 F1 g1 s1 q1 => q1 H1 F1 (Grow.refl g1.fit) s1
theorem plainT_rd {e : E} {σ : L2.St} {H : Hp} {Q : Bool → Hp → Prop} (h : tT g call X W e σ H Q) : tE g call X W e σ H fun x H1 => rT X.K X.w x H1 Q := by
  obtain ⟨A, H0, F0, ρ, F, ω, r, q⟩ := h
  refine ⟨A, H0, F0, ρ, F, ω, r, (RPost.bind q).imp fun d ω1 H1 F1 g1 s1 q1 x rx => ?_⟩
  refine rt_of (f := fun k => pure k) (ok := fun b _ H' F' => Q b H') g1.fit s1 rx.p (by rw [M.bnd_pure]; exact q1) fun k q2 => q2 H1 F1 (Grow.refl g1.fit) s1
theorem cmp_bool {o : Bop} {p : CmpOp} (h : isCmp o = some p) {d1 d2 d3 : PyData} (e : bop o d1 d2 = some d3) : ∃ b, d3 = .bool b := by
  have gg : ∀ {x : Bool} {b : Bool}, gO x (some (PyData.bool b)) = some d3 → ∃ b, d3 = .bool b := fun {x b} e => by
    obtain ⟨_, e⟩ := gO_some e
    cases e
    exact ⟨_, rfl⟩
  have gb : ∀ {x : Option Bool} {f : Bool → Bool}, (x.bind fun b => some (PyData.bool (f b))) = some d3 → ∃ b, d3 = .bool b := fun {x f} e => by
    obtain ⟨b, _, e⟩ := Option.bind_eq_some_iff.mp e
    cases e
    exact ⟨_, rfl⟩
  cases o <;> cases h
  · exact gg (x := shp d1 && shp d2) (b := PyData.eqv d1 d2) (by cases d1 <;> exact e)
  · exact gg (x := shp d1 && shp d2) (b := !PyData.eqv d1 d2) (by cases d1 <;> exact e)
  · exact gg (x := cmpOk d1 d2) (b := W.dataLt d1 d2) (by cases d1 <;> exact e)
  · exact gg (x := cmpOk d1 d2) (b := !W.dataLt d2 d1) (by cases d1 <;> exact e)
  · exact gg (x := cmpOk d1 d2) (b := W.dataLt d2 d1) (by cases d1 <;> exact e)
  · exact gg (x := cmpOk d1 d2) (b := !W.dataLt d1 d2) (by cases d1 <;> exact e)
  · exact gb (x := isD d1 d2) (f := id) (by cases d1 <;> exact e)
  · exact gb (x := isD d1 d2) (f := not) (by cases d1 <;> exact e)
  · exact gb (x := inD d1 d2) (f := id) (by cases d1 <;> exact e)
  · exact gb (x := inD d1 d2) (f := not) (by cases d1 <;> exact e)
theorem cmpT_rd {o : Bop} {p : CmpOp} (ho : isCmp o = some p) {e1 e2 : E} {σ : L2.St} {H : Hp} {Q : Bool → Hp → Prop} (h : tT g call X W (.bin o e1 e2) σ H Q) :
    tTest (tOp (rB X.K X.w o) (tE g call X W e1) (tE g call X W e2)) σ H Q := by
  obtain ⟨A, H0, F0, ρ, F, ω, r, q⟩ := h
  rw [evalE, M.bnd_assoc] at q
  refine ⟨A, H0, F0, ρ, F, ω, r, (RPost.bind q).imp fun d1 ω1 H1 F1 g1 s1 q1 x rx => ?_⟩
  rw [M.bnd_assoc] at q1
  refine ⟨A, H0, F0, ρ, F1, ω1, r.grow g1 s1, (RPost.bind q1).imp fun d2 ω2 H2 F2 g2 s2 q2 y ry => ?_⟩
  cases e3 : bop o d1 d2 with
  | none => rw [e3] at q2; exact q2.elim
  | some d3 =>
    rw [e3] at q2
    obtain ⟨b, rfl⟩ := cmp_bool ho e3
    refine ⟨_, F2, d1, d2, _, g2.fit, rx.p.grow g2, ry.p, e3, fun v H' F' e rv => ⟨b, ?_, q2 H' F' e.grow (s2.ext e)⟩⟩
    exact (RepP.frz (Ex := fun _ => False) (H := H') rv).bool
theorem neg_rd {e : E} {σ : L2.St} {H : Hp} {Q : VK} (h : tE g call X W (.neg e) σ H Q) : tUn (rU fun i => .int (-i)) (tE g call X W e) σ H Q := by
  obtain ⟨A, H0, F0, ρ, F, ω, r, q⟩ := h
  rw [evalE] at q
  refine ⟨A, H0, F0, ρ, F, ω, r, (RPost.bind q).imp fun d ω1 H1 F1 g1 s1 q1 x rx => ?_⟩
  cases d with
  | int i =>
    rw [rx.p.int]
    exact ⟨i, rfl, q1 H1 F1 (Grow.refl g1.fit) s1 _ (.dat (.int _))⟩
  | _ => exact q1.elim
/-! displays -/
theorem el_dq {ds : List PyData} {F : Hp} : ∀ {vs : List V}, Paired (RepF X.K X.w F) vs ds → ds.all okEl = true → DqAll X.K F vs ds := fun {vs} h e => by
  induction h with
  | nil => exact .nil
  | cons h1 h2 ih =>
    rw [List.all_cons, Bool.and_eq_true] at e
    refine .cons ?_ (ih e.2)
    cases h1 with
    | dat h => exact h
    | dic h => cases e.1
theorem paired_len {α β : Type} {R : α → β → Prop} {xs : List α} {ys : List β} (h : Paired R xs ys) : xs.length = ys.length := Paired.length h
def lenEs : Es → Nat
  | .nil => 0
  | .cons _ es => lenEs es + 1
theorem evalEs_len : ∀ (es : Es) (ρ : Env) (ω ω' : Orc) (ds : List PyData), evalEs g.gt call es ρ ω = .ok ds ω' → ds.length = lenEs es
  | .nil, ρ, ω, ω', ds, h => by
    rw [evalEs] at h
    cases h; rfl
  | .cons e es, ρ, ω, ω', ds, h => by
    rw [evalEs] at h
    have h : M.bnd (evalE g.gt call e ρ) (fun x => M.bnd (evalEs g.gt call es ρ) fun xs => M.ret (x :: xs)) ω = .ok ds ω' := h
    unfold M.bnd at h
    cases e1 : evalE g.gt call e ρ ω with
    | ok x w1 =>
      rw [e1] at h
      simp only at h
      cases e2 : evalEs g.gt call es ρ w1 with
      | ok xs w2 =>
        rw [e2] at h
        cases h
        rw [List.length_cons, evalEs_len es ρ _ _ xs e2]; rfl
      | exc => rw [e2] at h; cases h
      | stuck => rw [e2] at h; cases h
    | exc => rw [e1] at h; cases h
    | stuck => rw [e1] at h; cases h
/-- what was given, with the result at hand -/
theorem RPost.with {α : Type} {σ : L2.St} {A : Option Addr} {H F : Hp} {r : R α} {ok ok' : α → Orc → Hp → Hp → Prop} (h : RPost g X.K W σ A H F r ok) (q : ∀ a ω' H' F', r = .ok a ω' → Grow (ExA g A) H F H' F' → StOk g A H' F' ω' → ok a ω' H' F' → ok' a ω' H' F') : RPost g X.K W σ A H F r ok' := by
  cases r with
  | ok a ω => exact fun H' F' g2 st => q a ω H' F' rfl g2 st (h H' F' g2 st)
  | exc c p ω => exact h
  | stuck => exact h
/-- a tuple, a list of written items -/
def tTupZ (t : TA) : TE := fun σ H Q => t σ H fun xs H1 => xs.length ≤ sizeLine ∧ ∀ p o, H1 p = none → o.dict = none → Q (.ref p) (upd H1 p (.frz o (.tup xs)))
theorem pe_tupZ {x1} {es : List PySem.Expr} {t : TA} {pos : Pos} (h : PA X es t) : PE X (.Tuple es x1 pos) (tTupZ t) := by
  refine ⟨fun pins s σ H Q I hq => ?_⟩
  refine wpAny_Tuple_spliced (thn (h.run pos pins s σ H _ I hq) fun us s1 ⟨xs, H1, I1, r, z, q⟩ => ⟨by rw [← r.length]; exact z, ?_⟩)
  exact Inv.laidT I1 r z q
theorem tup_rd {es : Es} (hn : lenEs es ≤ sizeLine) {σ : L2.St} {H : Hp} {Q : VK} (h : tE g call X W (.tup es) σ H Q) : tTupZ (tEs g call X W es) σ H Q := by
  obtain ⟨A, H0, F0, ρ, F, ω, r, q⟩ := h
  rw [evalE] at q
  refine ⟨A, H0, F0, ρ, F, ω, r, (RPost.bind q).with fun ds ω1 H1 F1 e g1 s1 q1 vs hv => ?_⟩
  obtain ⟨hc, q1⟩ := RPost.guard q1
  refine ⟨by rw [paired_len hv, evalEs_len _ _ _ _ _ e]; exact hn, fun p o np nd => ?_⟩
  exact q_tup (K := X.K) (w := X.w) g1.fit (el_dq hv hc) (fun v H' F' ex rv => q1 H' F' ex.grow (s1.ext ex) v rv) p o np nd
end
end Wv

set_option autoImplicit false
set_option linter.all false
set_option maxRecDepth 100000
set_option maxHeartbeats 4000000
namespace Wv
open PySem PySem.Spec PyProof.Rows L2
section
variable {g : G} {c : Ck} {call : Nat → List Slot → M PyData} {X : Cx} {sc : Scope} {W : WX} {a b : PySem.Expr} {rest : List PySem.Expr} {pos : Pos}
theorem lst_rd {es : Es} (hn : lenEs es ≤ sizeLine) {σ : L2.St} {H : Hp} {Q : VK} (h : tE g call X W (.lst es) σ H Q) : tLst (tEs g call X W es) σ H Q := by
  obtain ⟨A, H0, F0, ρ, F, ω, r, q⟩ := h
  rw [evalE] at q
  refine ⟨A, H0, F0, ρ, F, ω, r, (RPost.bind q).with fun ds ω1 H1 F1 e g1 s1 q1 vs hv => ?_⟩
  obtain ⟨hc, q1⟩ := RPost.guard q1
  refine ⟨by rw [paired_len hv, evalEs_len _ _ _ _ _ e]; exact hn, fun p np => ?_⟩
  exact q_lst (K := X.K) (w := X.w) g1.fit (el_dq hv hc) (fun v H' F' ex rv => q1 H' F' ex.grow (s1.ext ex) v rv) p np
theorem nil_rd {σ : L2.St} {H : Hp} {Q : List V → Hp → Prop} (h : tEs g call X W .nil σ H Q) : tNil σ H Q := by
  obtain ⟨A, H0, F0, ρ, F, ω, r, q⟩ := h
  rw [evalEs] at q
  exact q H F (Grow.refl r.fit) r.st [] .nil
theorem cons_rd {e : E} {es : Es} (hp : isPk e = false) {σ : L2.St} {H : Hp} {Q : List V → Hp → Prop} (h : tEs g call X W (.cons e es) σ H Q) : tCons (tE g call X W e) (tEs g call X W es) σ H Q := by
  obtain ⟨A, H0, F0, ρ, F, ω, r, q⟩ := h
  rw [evalEs] at q
  refine ⟨A, H0, F0, ρ, F, ω, r, (RPost.bind q).imp fun d ω1 H1 F1 g1 s1 q1 x rx => ?_⟩
  rw [hp] at rx
  refine ⟨A, H0, F0, ρ, F1, ω1, r.grow g1 s1, (RPost.bind q1).imp fun ds ω2 H2 F2 g2 s2 q2 xs rxs => ?_⟩
  exact q2 H2 F2 (Grow.refl g2.fit) s2 _ (.cons (RepF.mono g2.fs rx) rxs)
/-! a if t else b -/
theorem ite_rd {t a b : E} (ha : isPk a = false) (hb : isPk b = false) {σ : L2.St} {H : Hp} {Q : VK} (h : tE g call X W (.ite t a b) σ H Q) : tIf (tT g call X W t) (tE g call X W a) (tE g call X W b) σ H Q := by
  obtain ⟨A, H0, F0, ρ, F, ω, r, q⟩ := h
  rw [evalE] at q
  have : (evalE g.gt call t ρ >>= fun x => M.ofO (tru x) >>= fun k => if k = true then evalE g.gt call a ρ else evalE g.gt call b ρ) = (evalE g.gt call t ρ >>= fun x => M.ofO (tru x)) >>= fun k => if k = true then evalE g.gt call a ρ else evalE g.gt call b ρ := by
    rw [M.bnd_assoc]
  rw [this] at q
  refine ⟨A, H0, F0, ρ, F, ω, r, (RPost.bind q).imp fun k ω1 H1 F1 g1 s1 q1 => ?_⟩
  cases k with
  | true =>
    rw [if_pos rfl] at q1 ⊢
    exact ⟨A, H0, F0, ρ, F1, ω1, r.grow g1 s1, q1.imp fun d _ H' F' _ _ q v hv => q v (by rw [ha] at hv; exact hv)⟩
  | false =>
    rw [if_neg Bool.false_ne_true] at q1 ⊢
    exact ⟨A, H0, F0, ρ, F1, ω1, r.grow g1 s1, q1.imp fun d _ H' F' _ _ q v hv => q v (by rw [hb] at hv; exact hv)⟩
/-! and, or -/
def tBv (g : G) (call : Nat → List Slot → M PyData) (X : Cx) (W : WX) (k : Bool) (es : Es) : TE := fun σ H Q => ∃ A H0 F0 ρ F ω, Rel g X.K X.w A H0 F0 ρ σ H F ω ∧
  RPost g X.K W σ A H F (evalB g.gt call k es ρ ω) (fun d _ H' F' => ∀ v, RepF X.K X.w F' v d → Q v H')
theorem b1_rd {k : Bool} {e : E} (hp : isPk e = false) {σ : L2.St} {H : Hp} {Q : VK} (h : tBv g call X W k (.cons e .nil) σ H Q) : tE g call X W e σ H Q := by
  obtain ⟨A, H0, F0, ρ, F, ω, r, q⟩ := h
  rw [evalB] at q
  refine ⟨A, H0, F0, ρ, F, ω, r, (RPost.bind q).imp fun d ω1 H1 F1 g1 s1 q1 x rx => ?_⟩
  rw [hp] at rx
  exact q1 H1 F1 (Grow.refl g1.fit) s1 x rx
theorem b2_rd {k : Bool} {e e2 : E} {es : Es} (hp : isPk e = false) {σ : L2.St} {H : Hp} {Q : VK} (h : tBv g call X W k (.cons e (.cons e2 es)) σ H Q) :
    tE g call X W e σ H fun x H1 => rT X.K X.w x H1 fun t H2 => if t = k then tBv g call X W k (.cons e2 es) σ H2 Q else Q x H2 := by
  obtain ⟨A, H0, F0, ρ, F, ω, r, q⟩ := h
  rw [evalB] at q
  refine ⟨A, H0, F0, ρ, F, ω, r, (RPost.bind q).imp fun d ω1 H1 F1 g1 s1 q1 x rx => ?_⟩
  rw [hp] at rx
  refine rt_of g1.fit s1 (.frz rx) q1 fun t q2 => ?_
  by_cases e : t = k
  · rw [if_pos e] at q2 ⊢
    exact ⟨A, H0, F0, ρ, F1, ω1, r.grow g1 s1, q2⟩
  · rw [if_neg e] at q2 ⊢
    exact q2 H1 F1 (Grow.refl g1.fit) s1 x rx
theorem bo_rd {k : Bool} {es : Es} {σ : L2.St} {H : Hp} {Q : VK} (h : tE g call X W (.bo k es) σ H Q) : tBv g call X W k es σ H Q := by
  obtain ⟨A, H0, F0, ρ, F, ω, r, q⟩ := h
  rw [evalE] at q
  exact ⟨A, H0, F0, ρ, F, ω, r, q⟩
/-- .. as tests -/
def tBt (g : G) (call : Nat → List Slot → M PyData) (X : Cx) (W : WX) (k : Bool) (es : Es) : TT := fun σ H Q => ∃ A H0 F0 ρ F ω, Rel g X.K X.w A H0 F0 ρ σ H F ω ∧
  RPost g X.K W σ A H F ((evalB g.gt call k es ρ >>= fun d => M.ofO (tru d)) ω) (fun b _ H' F' => Q b H')
theorem boT_rd {k : Bool} {es : Es} {σ : L2.St} {H : Hp} {Q : Bool → Hp → Prop} (h : tT g call X W (.bo k es) σ H Q) : tBt g call X W k es σ H Q := by
  obtain ⟨A, H0, F0, ρ, F, ω, r, q⟩ := h
  rw [evalE] at q
  exact ⟨A, H0, F0, ρ, F, ω, r, q⟩
theorem b1T_rd {k : Bool} {e : E} {σ : L2.St} {H : Hp} {Q : Bool → Hp → Prop} (h : tBt g call X W k (.cons e .nil) σ H Q) : tT g call X W e σ H Q := by
  obtain ⟨A, H0, F0, ρ, F, ω, r, q⟩ := h
  rw [evalB] at q
  have : (evalE g.gt call e ρ >>= fun x => (Pure.pure x : M PyData)) = evalE g.gt call e ρ := M.bnd_pure _
  rw [this] at q
  exact ⟨A, H0, F0, ρ, F, ω, r, q⟩
theorem b2T_rd {k : Bool} {e e2 : E} {es : Es} {σ : L2.St} {H : Hp} {Q : Bool → Hp → Prop} (h : tBt g call X W k (.cons e (.cons e2 es)) σ H Q) :
    tT g call X W e σ H fun t H1 => if t = k then tBt g call X W k (.cons e2 es) σ H1 Q else Q (!k) H1 := by
  obtain ⟨A, H0, F0, ρ, F, ω, r, q⟩ := h
  rw [evalB] at q
  have : ((evalE g.gt call e ρ >>= fun x => M.ofO (tru x) >>= fun t => if t = k then evalB g.gt call k (.cons e2 es) ρ else pure x) >>= fun d => M.ofO (tru d)) =
      (evalE g.gt call e ρ >>= fun x => M.ofO (tru x)) >>= fun t => if t = k then (evalB g.gt call k (.cons e2 es) ρ >>= fun d => M.ofO (tru d)) else pure t := by
    rw [M.bnd_assoc, M.bnd_assoc]
    congr 1
    funext x
    cases ex : tru x with
    | none => rfl
    | some t =>
      show (if t = k then evalB g.gt call k (.cons e2 es) ρ else pure x) >>= (fun d => M.ofO (tru d)) = (if t = k then (evalB g.gt call k (.cons e2 es) ρ >>= fun d => M.ofO (tru d)) else pure t)
      by_cases et : t = k
      · rw [if_pos et, if_pos et]
      · rw [if_neg et, if_neg et]
        show M.ofO (tru x) = _
        rw [ex]; rfl
  rw [this] at q
  refine ⟨A, H0, F0, ρ, F, ω, r, (RPost.bind q).imp fun t ω1 H1 F1 g1 s1 q1 => ?_⟩
  by_cases e : t = k
  · rw [if_pos e] at q1 ⊢
    exact ⟨A, H0, F0, ρ, F1, ω1, r.grow g1 s1, q1⟩
  · rw [if_neg e] at q1 ⊢
    have : (!k) = t := by cases t <;> cases k <;> first | rfl | exact absurd rfl e
    rw [this]
    exact q1 H1 F1 (Grow.refl g1.fit) s1
/-! a def's call -/
def tAs (g : G) (call : Nat → List Slot → M PyData) (X : Cx) (W : WX) (es : Es) : TA := fun σ H Q => ∃ A H0 F0 ρ F ω, Rel g X.K X.w A H0 F0 ρ σ H F ω ∧
  RPost g X.K W σ A H F (evalAs g.gt call es ρ ω) (fun as _ H' F' => ∀ vs, Paired (ArgRel g X.K X.w A F') vs as → Q vs H')
theorem call_rd {f : Nat} {es : Es} {σ : L2.St} {H : Hp} {Q : VK} (h : tE g call X W (.call f false es) σ H Q) : tCallS (spF g X.K X.w call f) (WE W) (tAs g call X W es) σ H Q := by
  obtain ⟨A, H0, F0, ρ, F, ω, r, q⟩ := h
  rw [evalE] at q
  refine ⟨A, H0, F0, ρ, F, ω, r, (RPost.bind q).imp fun as ω1 H1 F1 g1 s1 q1 vs rv => ?_⟩
  refine ⟨A, F1, ω1, as, g1.fit, s1, rv, ?_⟩
  have q2 := RPost.bind q1
  cases e : call f as ω1 with
  | ok d ω2 =>
    rw [e] at q2
    exact fun H' F' g2 s2 => (RPost.guard (q2 H' F' g2 s2)).2 H' F' (Grow.refl g2.fit) s2
  | exc k p ω2 => rw [e] at q2; exact q2
  | stuck => rw [e] at q2; exact q2.elim
end
end Wv

set_option autoImplicit false
set_option linter.all false
set_option maxRecDepth 100000
set_option maxHeartbeats 4000000
namespace Wv
open PySem PySem.Spec PyProof.Rows L2
section
variable {g : G} {c : Ck} {call : Nat → List Slot → M PyData} {X : Cx} {sc : Scope} {W : WX} {K : PySem.W.Frag} {w : World} {F H : Hp} {Q : VK} {Ex : Addr → Prop}
theorem star_of {e : PySem.Expr} {es : List PySem.Expr} {env : PySem.Env} (h : noStar e = true) : starEach (e :: es) env = (false, eval e env) :: starEach es env := by
  cases e <;> first | rfl | cases h
theorem plainIx_of {e : PySem.Expr} (h : noSlice e = true) : PlainIx e := by
  intro o i
  cases e <;> first | rfl | cases h
/-! a[b] -/
def rIxD (K : PySem.W.Frag) (w : World) : R2 := fun x y H Q => ∃ Ex F d1 d2 d3, Fit F H ∧ RepP K w Ex F H x d1 ∧ RepP K w Ex F H y d2 ∧ ixD d1 d2 = some d3 ∧ ∀ v H' F', Ext H F H' F' → RepF K w F' v d3 → Q v H'
theorem atI_map {α : Type} {vs : List V} {ds : List PyData} {i : Int} {d : PyData} (h : DqAll K F vs ds) (e : atI ds i = some d) : ∃ v, atI vs i = some v ∧ Dq K F v d := by
  unfold atI at e ⊢
  rw [dpa_len h]
  obtain ⟨j, h1, h2⟩ := Option.bind_eq_some_iff.mp e
  obtain ⟨v, h3, h4⟩ := dpa_get h h2
  exact ⟨v, by rw [h1]; exact h3, h4⟩
theorem ixr_ok (hu : X.A.units + 100 < cLine) : IxR X (rIxD X.K X.w) := by
  intro value slice pins s σ H x y v u Q I rx ry ⟨Ex, F, d1, d2, d3, f, r1, r2, hb, q⟩ hs
  cases d1 with
  | list ds =>
    cases d2 with
    | int i =>
      obtain ⟨a, vs, rfl, h1, h2⟩ := r1.list f
      obtain ⟨z, e1, e2⟩ := atI_map (α := Unit) h2 hb
      exact ix_list value slice pins s σ H _ _ v u Q I rx ry ⟨a, vs, i, z, rfl, r2.int, .inl (.inl h1), e1, q z H F (Ext.refl f) (.dat e2)⟩ hs
    | _ => cases hb
  | tuple ds =>
    cases d2 with
    | int i =>
      obtain ⟨a, vs, rfl, h1, h2⟩ := r1.tuple
      obtain ⟨z, e1, e2⟩ := atI_map (α := Unit) h2 hb
      exact ix_tup value slice pins s σ H _ _ v u Q I rx ry ⟨a, vs, i, z, rfl, r2.int, sqT_mono f h1, e1, q z H F (Ext.refl f) (.dat e2)⟩ hs
    | _ => cases hb
  | str z =>
    cases d2 with
    | int i =>
      obtain ⟨hl, hb⟩ := gO_some hb
      obtain ⟨k, e1, rfl⟩ := Option.map_eq_some_iff.mp hb
      exact ix_str value slice pins s σ H _ _ v u Q I rx ry ⟨z, i, k, r1.str, r2.int, of_decide_eq_true hl, e1, q_str f q⟩ hs
    | _ => cases hb
  | dict kvs =>
    obtain ⟨hl, hb⟩ := gO_some (show gO (leafKey d2) (dfind kvs d2) = some d3 by cases d2 <;> exact hb)
    obtain ⟨a, rfl, hd⟩ := r1.dict f
    obtain ⟨o, g1, g2, _⟩ := dic_get hd hl r2
    obtain ⟨z, ez, hz⟩ := g2 d3 hb
    subst ez
    cases rx
    exact tail_any (dict_typeIs I g1) PySem.F.slot_dict_getitem.lookup (d_getItem (by omega) I g1 ry fun w' s3 I3 rw' => ⟨z, H, I3, rw', q z H F (Ext.refl f) (.dat hz)⟩) hs
  | _ => cases d2 <;> cases hb
theorem ix_rd {a b : E} {σ : L2.St} {H : Hp} {Q : VK} (h : tE g call X W (.ix a b) σ H Q) : tOp (rIxD X.K X.w) (tE g call X W a) (tE g call X W b) σ H Q := by
  refine two_ok (f := ixD) (fun f r1 r2 e q => ⟨_, _, _, _, _, f, r1, r2, e, q⟩) ?_
  obtain ⟨A, H0, F0, ρ, F, ω, r, q⟩ := h
  rw [evalE] at q
  exact ⟨A, H0, F0, ρ, F, ω, r, q⟩
/-! one operand -/
def rP1r (K : PySem.W.Frag) (w : World) (f : PyData → Option PyData) : List V → Hp → VK → Prop := fun xs H Q => ∃ Ex F x d d', xs = [x] ∧ Fit F H ∧ RepP K w Ex F H x d ∧ f d = some d' ∧ ∀ v H' F', Ext H F H' F' → RepF K w F' v d' → Q v H'
theorem b1_rdP {p : P1} {a : E} {σ : L2.St} {H : Hp} {Q : VK} (h : tE g call X W (.b1 p a) σ H Q) : tCB (rP1 X.K X.w p) (tCons (tE g call X W a) tNil) σ H Q := by
  obtain ⟨A, H0, F0, ρ, F, ω, r, q⟩ := h
  rw [evalE] at q
  refine ⟨A, H0, F0, ρ, F, ω, r, (RPost.bind q).imp fun d ω1 H1 F1 g1 s1 q1 x rx => ?_⟩
  obtain ⟨d', e, q2⟩ := RPost.ofO q1
  exact ⟨_, F1, x, d, d', rfl, g1.fit, rx.p, e, fun v H' F' ex rv => q2 H' F' ex.grow (s1.ext ex) v rv⟩
end
end Wv

set_option autoImplicit false
set_option linter.all false
set_option maxRecDepth 100000
set_option maxHeartbeats 4000000
namespace Wv
open PySem PySem.Spec PyProof.Rows L2
section
variable {g : G} {c : Ck} {call : Nat → List Slot → M PyData} {X : Cx} {sc : Scope} {W : WX} {K : PySem.W.Frag} {w : World} {F F' H : Hp} {Q : VK} {A : Option Addr}
/-! arguments -/
theorem ArgRel.mono {v : V} {s : Slot} (sm : Same F F') (h : ArgRel g K w A F v s) : ArgRel g K w A F' v s := by
  cases s with
  | v o d => cases o with
    | false => exact RepF.mono sm h
    | true => exact h
  | _ => exact h
abbrev argM (gt : Nat → Option PyData) (call : Nat → List Slot → M PyData) (e : E) (ρ : Env) : M Slot := argS e ρ (evalE gt call e ρ)
theorem evalAs_cons {gt : Nat → Option PyData} {e : E} {es : Es} {ρ : Env} : evalAs gt call (.cons e es) ρ = (do let x ← argM gt call e ρ; let xs ← evalAs gt call es ρ; pure (x :: xs)) := by
  rw [evalAs]
def tArg (g : G) (call : Nat → List Slot → M PyData) (X : Cx) (W : WX) (e : E) : TE := fun σ H Q => ∃ A H0 F0 ρ F ω, Rel g X.K X.w A H0 F0 ρ σ H F ω ∧
  RPost g X.K W σ A H F (argM g.gt call e ρ ω) (fun s _ H' F' => ∀ v, ArgRel g X.K X.w A F' v s → Q v H')
theorem asnil_rd {σ : L2.St} {H : Hp} {Q : List V → Hp → Prop} (h : tAs g call X W .nil σ H Q) : tNil σ H Q := by
  obtain ⟨A, H0, F0, ρ, F, ω, r, q⟩ := h
  rw [evalAs] at q
  exact q H F (Grow.refl r.fit) r.st [] .nil
theorem ascons_rd {e : E} {es : Es} {σ : L2.St} {H : Hp} {Q : List V → Hp → Prop} (h : tAs g call X W (.cons e es) σ H Q) : tCons (tArg g call X W e) (tAs g call X W es) σ H Q := by
  obtain ⟨A, H0, F0, ρ, F, ω, r, q⟩ := h
  rw [evalAs_cons] at q
  refine ⟨A, H0, F0, ρ, F, ω, r, (RPost.bind q).imp fun s ω1 H1 F1 g1 s1 q1 x rx => ?_⟩
  refine ⟨A, H0, F0, ρ, F1, ω1, r.grow g1 s1, (RPost.bind q1).imp fun ds ω2 H2 F2 g2 s2 q2 xs rxs => ?_⟩
  exact q2 H2 F2 (Grow.refl g2.fit) s2 _ (.cons (ArgRel.mono g2.fs rx) rxs)
def argGen : E → Bool
  | .gfn _ | .var _ | .pk _ | .rev _ | .enm _ => false
  | _ => true
theorem arg_gen {e : E} (he : argGen e = true) {σ : L2.St} {H : Hp} {Q : VK} (h : tArg g call X W e σ H Q) : tE g call X W e σ H Q := by
  obtain ⟨A, H0, F0, ρ, F, ω, r, q⟩ := h
  have hp : isPk e = false := by cases e <;> first | rfl | cases he
  have e1 : argM g.gt call e ρ = (do pure (Slot.v false (← evalE g.gt call e ρ))) := by cases e <;> first | rfl | cases he
  rw [e1] at q
  refine ⟨A, H0, F0, ρ, F, ω, r, (RPost.bind q).imp fun d ω1 H1 F1 g1 s1 q1 x rx => ?_⟩
  rw [hp] at rx
  exact q1 H1 F1 (Grow.refl g1.fit) s1 x rx
theorem arg_var {i : Nat} {σ : L2.St} {H : Hp} {Q : VK} (h : tArg g call X W (.var i) σ H Q) : tVar i σ H Q := by
  obtain ⟨A, H0, F0, ρ, F, ω, r, q⟩ := h
  have q : RPost g X.K W σ A H F ((match ρ[i]? with
    | some (.v false d) => (pure (Slot.v false d) : M Slot)
    | some (.f k) => pure (.f k)
    | some .s => pure .s
    | _ => M.stuck) ω) (fun s _ H' F' => ∀ v, ArgRel g X.K X.w A F' v s → Q v H') := q
  cases e : ρ[i]? with
  | none => rw [e] at q; exact q.elim
  | some s =>
    rw [e] at q
    have r1 := r.sl i s e
    cases s with
    | v o d =>
      cases o with
      | false =>
        obtain ⟨v, h1, h2⟩ := r1
        exact ⟨v, h1, q H F (Grow.refl r.fit) r.st v h2⟩
      | true => exact q.elim
    | f k => exact ⟨_, r1, q H F (Grow.refl r.fit) r.st _ rfl⟩
    | s =>
      obtain ⟨a, h1, h2⟩ := r1
      exact ⟨_, h2, q H F (Grow.refl r.fit) r.st _ ⟨a, h1, rfl⟩⟩
    | _ => exact q.elim
theorem arg_gfn {f : Nat} {σ : L2.St} {H : Hp} {Q : VK} (h : tArg g call X W (.gfn f) σ H Q) : tC (.ref (g.fa f)) σ H Q := by
  obtain ⟨A, H0, F0, ρ, F, ω, r, q⟩ := h
  exact q H F (Grow.refl r.fit) r.st _ rfl
/-! the draw -/
def tDrawA (g : G) (call : Nat → List Slot → M PyData) (X : Cx) (W : WX) (i : Nat) (e : E) : TA := tCons (tVar i) (tCons (tE g call X W e) tNil)
theorem draw_rd {i : Nat} {e : E} {E0 : L2.St → XK} (hp : isPk e = false) {σ : L2.St} {H : Hp} {Q : VK} (h : tE g call X W (.draw i e) σ H Q) : tCallS (spD g) E0 (tDrawA g call X W i e) σ H Q := by
  obtain ⟨A, H0, F0, ρ, F, ω, r, q⟩ := h
  rw [evalE] at q
  cases es : ρ[i]? with
  | none => rw [es] at q; exact q.elim
  | some s =>
    rw [es] at q
    cases s with
    | s =>
      obtain ⟨a, ha, h2⟩ := r.sl i _ es
      refine ⟨_, h2, A, H0, F0, ρ, F, ω, r, (RPost.bind q).imp fun d ω1 H1 F1 g1 s1 q1 x rx => ?_⟩
      rw [hp] at rx
      cases d with
      | int n =>
        have q1 : RPost g X.K W σ A H1 F1 ((draw n >>= fun k => pure (PyData.int k)) ω1) (fun d _ H' F' => ∀ v, RepR X.K X.w (ExA g A) false F' H' v d → Q v H') := q1
        by_cases hn : 0 < n ∧ n < 2 ^ 64
        · have ee : (draw n >>= fun k => (pure (PyData.int k) : M PyData)) ω1 = R.ok (PyData.int (drawFn ω1 n).1) (drawFn ω1 n).2 := by
            show M.bnd (draw n) _ ω1 = _
            unfold M.bnd draw
            rw [if_pos hn]; rfl
          rw [ee] at q1
          subst ha
          have hx : x = .int n := (RepP.frz (Ex := fun _ => False) (H := H1) rx).int
          refine ⟨a, F1, ω1, n, by rw [hx], g1.fit, s1, hn.1, hn.2, fun H' F' g2 s2 => q1 H' F' g2 s2 _ (.dat (.int _))⟩
        · exfalso
          have ee : (draw n >>= fun k => (pure (PyData.int k) : M PyData)) ω1 = R.stuck := by
            show M.bnd (draw n) _ ω1 = _
            unfold M.bnd draw
            rw [if_neg hn]
          rw [ee] at q1
          exact q1
      | _ => exact q1.elim
    | _ => exact q.elim
/-! the state's own places -/
theorem fun_bnd {α β : Type} {f : Orc → R α} {k : α → M β} {ω : Orc} : ((f : M α) >>= k) ω = (match f ω with | .ok a w' => k a w' | .exc c p w' => .exc c p w' | .stuck => .stuck) := rfl
theorem sget_rd {i k : Nat} {σ : L2.St} {H : Hp} {Q : VK} (h : tE g call X W (.sget i k) σ H Q) : tOp (rIxL X.K) (tVar i) (tC (.int (k : Nat))) σ H Q := by
  obtain ⟨A, H0, F0, ρ, F, ω, r, q⟩ := h
  rw [evalE] at q
  cases es : ρ[i]? with
  | none => rw [es] at q; exact q.elim
  | some s =>
    rw [es] at q
    cases s with
    | s =>
      obtain ⟨a, ha, h2⟩ := r.sl i _ es
      obtain ⟨_, _, _, b, h3, h4⟩ := r.st.st a ha
      have go : ∀ (k : Nat) (z : Int), atI [V.int ω.a, V.int ω.b, V.ref b, V.int ω.c] (k : Nat) = some (.int z) → Q (.int z) H → tOp (rIxL X.K) (tVar i) (tC (.int (k : Nat))) σ H Q := fun k z e1 e2 =>
        ⟨_, h2, a, _, _, _, rfl, rfl, .inl (.inl h3), e1, e2⟩
      match k with
      | 0 => exact go 0 _ rfl (q H F (Grow.refl r.fit) r.st _ (.dat (.int _)))
      | 1 => exact go 1 _ rfl (q H F (Grow.refl r.fit) r.st _ (.dat (.int _)))
      | 2 => exact q.elim
      | 3 => exact go 3 _ rfl (q H F (Grow.refl r.fit) r.st _ (.dat (.int _)))
      | k + 4 => exact q.elim
    | _ => exact q.elim
/-- the script's cells -/
def tScr (i : Nat) : TE := tOp (rIxL X.K) (tVar i) (tC (.int 2))
theorem slen_rd {i : Nat} {σ : L2.St} {H : Hp} {Q : VK} (h : tE g call X W (.slen i) σ H Q) : tOp (rIxL X.K) (tVar i) (tC (.int 2)) σ H fun x H1 => ∃ b, x = .ref b ∧ ∃ zs, SqL X.K H1 b zs ∧ Q (.int zs.length) H1 := by
  obtain ⟨A, H0, F0, ρ, F, ω, r, q⟩ := h
  rw [evalE] at q
  cases es : ρ[i]? with
  | none => rw [es] at q; exact q.elim
  | some s =>
    rw [es] at q
    cases s with
    | s =>
      obtain ⟨a, ha, h2⟩ := r.sl i _ es
      obtain ⟨_, _, _, b, h3, h4⟩ := r.st.st a ha
      refine ⟨_, h2, a, _, _, _, rfl, rfl, .inl (.inl h3), rfl, b, rfl, _, .inl (.inl (r.fit _ _ h4)), ?_⟩
      rw [List.length_map]
      exact q H F (Grow.refl r.fit) r.st _ (.dat (.int _))
    | _ => exact q.elim
theorem atI_int {xs : List Int} {j v : Int} (h : atI xs j = some v) : atI (xs.map V.int) j = some (V.int v) := by
  unfold atI at h ⊢
  rw [List.length_map]
  obtain ⟨k, h1, h2⟩ := Option.bind_eq_some_iff.mp h
  rw [h1]
  show (xs.map V.int)[k]? = _
  rw [List.getElem?_map, h2]; rfl
theorem scell_rd {i j : Nat} {σ : L2.St} {H : Hp} {Q : VK} (h : tE g call X W (.scell i j) σ H Q) : tOp (rIxL X.K) (tOp (rIxL X.K) (tVar i) (tC (.int 2))) (tVar j) σ H Q := by
  obtain ⟨A, H0, F0, ρ, F, ω, r, q⟩ := h
  rw [evalE] at q
  cases es : ρ[i]? with
  | none => rw [es] at q; exact q.elim
  | some s =>
    rw [es] at q
    cases s with
    | s =>
      obtain ⟨a, ha, h2⟩ := r.sl i _ es
      obtain ⟨_, _, _, b, h3, h4⟩ := r.st.st a ha
      refine ⟨_, h2, a, _, _, _, rfl, rfl, .inl (.inl h3), rfl, ?_⟩
      obtain ⟨d, e, q⟩ := getV_post (RPost.bind q)
      obtain ⟨v, h5, h6⟩ := r.sl _ _ e
      refine ⟨v, h5, ?_⟩
      have q1 := q H F (Grow.refl r.fit) r.st
      cases d with
      | int j =>
        have hv : v = .int j := (RepP.frz (Ex := fun _ => False) (H := H) h6).int
        have q1 : RPost g X.K W σ A H F (match atI ω.scr j with | some v => R.ok (PyData.int v) ω | none => R.stuck) (fun d _ H' F' => ∀ v, RepR X.K X.w (ExA g A) false F' H' v d → Q v H') := q1
        cases e2 : atI ω.scr j with
        | none => rw [e2] at q1; exact q1.elim
        | some z =>
          rw [e2] at q1
          exact ⟨b, _, j, _, rfl, hv, .inl (.inl (r.fit _ _ h4)), atI_int e2, q1 H F (Grow.refl r.fit) r.st _ (.dat (.int _))⟩
      | _ => exact q1.elim
    | _ => exact q.elim
/-! a chain of two -/
theorem chain_rd {o1 o2 : Bop} {p1 p2 : CmpOp} (h1 : isCmp o1 = some p1) {a b d : E} {σ : L2.St} {H : Hp} {Q : VK} (h : tE g call X W (.chain o1 o2 a b d) σ H Q) :
    tChain (rB X.K X.w o1) (rB X.K X.w o2) (tE g call X W a) (tE g call X W b) (tE g call X W d) σ H Q := by
  obtain ⟨A, H0, F0, ρ, F, ω, r, q⟩ := h
  rw [evalE] at q
  refine ⟨A, H0, F0, ρ, F, ω, r, (RPost.bind q).imp fun d1 ω1 H1 F1 g1 s1 q1 x rx => ?_⟩
  refine ⟨A, H0, F0, ρ, F1, ω1, r.grow g1 s1, (RPost.bind q1).imp fun d2 ω2 H2 F2 g2 s2 q2 y ry => ?_⟩
  cases e3 : bop o1 d1 d2 with
  | none => rw [e3] at q2; exact q2.elim
  | some d3 =>
    rw [e3] at q2
    obtain ⟨k, rfl⟩ := cmp_bool h1 e3
    refine ⟨_, F2, d1, d2, _, g2.fit, rx.p.grow g2, ry.p, e3, fun v H' F' e rv => ⟨k, (RepP.frz (Ex := fun _ => False) (H := H') rv).bool, ?_⟩⟩
    have q3 := q2.mono (H1 := H') (F1 := F') e.grow
    have s3 := s2.ext e
    cases k with
    | false => exact q3 H' F' (Grow.refl e.fit) s3 _ (.dat (.bl _))
    | true =>
      rw [if_pos rfl]
      have q3 : RPost g X.K W σ A H' F' ((evalE g.gt call d ρ >>= fun z => M.ofO (bop o2 d2 z)) ω2) (fun d _ H' F' => ∀ v, RepR X.K X.w (ExA g A) false F' H' v d → Q v H') := q3
      refine ⟨A, H0, F0, ρ, F', ω2, (r.grow g1 s1 |>.grow g2 s2).grow e.grow s3, (RPost.bind q3).imp fun d4 ω4 H4 F4 g4 s4 q4 z rz => ?_⟩
      obtain ⟨d5, e5, q5⟩ := RPost.ofO q4
      exact ⟨_, F4, d2, d4, d5, g4.fit, (ry.p.grow e.grow).grow g4, rz.p, e5, fun v H5 F5 ex rv => q5 H5 F5 ex.grow (s4.ext ex) v rv⟩
/-! isinstance -/
def tyN : Ty → String
  | .int => "int" | .bool => "bool" | .str => "str" | .tuple => "tuple" | .list => "list"
def ofD : PyData → String
  | .none => "NoneType" | .bool _ => "bool" | .int _ => "int" | .str _ => "str" | .list _ => "list" | .tuple _ => "tuple" | .dict _ => "dict"
theorem isa_kit : ∀ (d : PyData) (t : Ty), kitB (ofD d) (tyN t) = some (isaD d t) := by
  intro d t
  cases d <;> cases t <;> kernel_rfl
theorem isa_ty {Ex : Addr → Prop} {x : V} {d : PyData} (f : Fit F H) (n : isDic d = false) (r : RepP K w Ex F H x d) : TyX K H x (.type (ofD d)) := by
  have r := r.dp f n
  cases r with
  | non => exact .base .non
  | bl => exact .base (.bl _)
  | int => exact .base (.int _)
  | str => exact .base (.str _)
  | lst h _ =>
    rcases h with (h | ⟨o, h⟩) | ⟨o, its, n, hk, hc, _⟩
    · exact .base (.lst h)
    · exact .base (.frz h)
    · exact .kList hk hc
  | tup h _ =>
    rcases h with (h | ⟨o, h⟩) | ⟨o, its, n, hk, hc, _⟩
    · exact .base (.tup h)
    · exact .fTuple h
    · exact .kTuple hk hc
def tIsa (g : G) (call : Nat → List Slot → M PyData) (X : Cx) (W : WX) (a : E) (t : Ty) : TE := tCB (rIsi X.K) (tCons (tE g call X W a) (tCons (tC (.ty (tyN t))) tNil))
theorem isa_rd {a : E} {t : Ty} {σ : L2.St} {H : Hp} {Q : VK} (h : tE g call X W (.isa a t) σ H Q) : tIsa g call X W a t σ H Q := by
  obtain ⟨A, H0, F0, ρ, F, ω, r, q⟩ := h
  rw [evalE] at q
  refine ⟨A, H0, F0, ρ, F, ω, r, (RPost.bind q).imp fun d ω1 H1 F1 g1 s1 q1 x rx => ?_⟩
  obtain ⟨hc, q2⟩ := RPost.guard q1
  refine ⟨x, _, _, _, _, rfl, .ty _, isa_ty g1.fit (by simpa using hc) rx.p, kit_ty (isa_kit d t), ?_⟩
  exact q2 H1 F1 (Grow.refl g1.fit) s1 _ (.dat (.bl _))
end
end Wv

set_option autoImplicit false
set_option linter.all false
set_option maxRecDepth 100000
set_option maxHeartbeats 4000000
namespace Wv
open PySem PySem.Spec PyProof.Rows L2
section
variable {g : G} {c : Ck} {call : Nat → List Slot → M PyData} {X : Cx} {sc : Scope} {W : WX} {K : PySem.W.Frag} {w : World} {F F' H H1 F1 : Hp} {Q : VK} {A : Option Addr} {tg l : PySem.Expr} {tl : TE} {Ex : Addr → Prop}
/-! what is walked -/
def iSeq (K : PySem.W.Frag) (tl : TE) : TI := fun σ H R => tl σ H fun x H1 => (∃ a, x = .ref a ∧ (∃ xs, SqL K H1 a xs) ∧ R (Itl K a) H1) ∨ (∃ a, x = .ref a ∧ (∃ xs, SqT K H1 a xs) ∧ R (Itt K a) H1) ∨ (∃ y, x = .str y ∧ R (Its y) H1)
theorem pi_seq (hl : PE X l tl) : PI X tg l (iSeq X.K tl) := by
  refine ⟨fun pins s σ H R I h => ?_⟩
  refine thn (hl.run pins s σ H _ I h) fun v s1 ⟨x, H1, I1, r1, q1⟩ => ?_
  rcases q1 with ⟨a, e, ⟨xs, hq⟩, q⟩ | ⟨a, e, ⟨xs, hq⟩, q⟩ | ⟨y, e, q⟩
  · subst e
    cases r1
    obtain ⟨its, rv, p, hz⟩ := I1.list hq
    refine wpAny_pyIter_list p.isList ?_
    refine ⟨s1.heap.objs.size, [s1.heap.objs.size], _, _, H1, rfl, I1.kept (t' := s1.toks) fun b o e => Heap.get?_push_of_some _ e, turn_list a _, ⟨_, Heap.get?_push_size _ rfl, rfl, rfl⟩, fun b hb => ?_, q⟩
    have e : b = s1.heap.objs.size := by simpa using hb
    subst e
    exact I1.fpOk (Nat.le_refl _) (I1.hok.fresh (Nat.le_refl _))
  · subst e
    cases r1
    obtain ⟨its, rv, p, hz⟩ := I1.tuple hq
    refine wpAny_pyIter_tuple (show s1.heap.IsTuple a its.toArray from p) ?_
    refine ⟨s1.heap.objs.size, [s1.heap.objs.size], _, _, H1, rfl, I1.kept (t' := s1.toks) fun b o e => Heap.get?_push_of_some _ e, turn_tuple a _, ⟨_, Heap.get?_push_size _ rfl, rfl, rfl⟩, fun b hb => ?_, q⟩
    have e : b = s1.heap.objs.size := by simpa using hb
    subst e
    exact I1.fpOk (Nat.le_refl _) (I1.hok.fresh (Nat.le_refl _))
  · subst e
    obtain ⟨t, rfl⟩ := r1
    cases ha : y.cps.all (· < 128)
    · exact wpAny_pyIter_wide ha (pi_one (tk := s1.toks) I1 _ (turn_str _ y t "str_iterator" (.inr rfl)) ⟨_, Heap.get?_push_size _ rfl, rfl, rfl⟩ q)
    · exact wpAny_pyIter_ascii ha (pi_one (tk := s1.toks) I1 _ (turn_str _ y t "str_ascii_iterator" (.inl rfl)) ⟨_, Heap.get?_push_size _ rfl, rfl, rfl⟩ q)
/-- the heaps that a walk may pass -/
def Pz (z : Bool) (Ex : Addr → Prop) (H1 F1 : Hp) : Hp → Hp → Prop := fun H F => if z = true then Same F1 F ∧ Fit F H else Grow Ex H1 F1 H F
theorem Pz.fs {z : Bool} (h : Pz z Ex H1 F1 H F) : Same F1 F := by
  cases z with
  | true => exact h.1
  | false => exact Grow.fs h
theorem Pz.fit {z : Bool} (h : Pz z Ex H1 F1 H F) : Fit F H := by
  cases z with
  | true => exact h.2
  | false => exact Grow.fit h
theorem Pz.of {z : Bool} (h : Grow Ex H1 F1 H F) : Pz z Ex H1 F1 H F := by
  cases z with
  | true => exact ⟨h.fs, h.fit⟩
  | false => exact h
structure Wk (K : PySem.W.Frag) (w : World) (P : Hp → Hp → Prop) (J : It) (xs : List PyData) : Prop where
  go : ∀ (i : Nat) (H F : Hp) (d : PyData), P H F → xs[i]? = some d → J.go i H ∧ ∀ x H', J.yld i H x H' → ∃ F', Ext H F H' F' ∧ RepF K w F' x d
  stop : ∀ (H F : Hp), P H F → J.stop xs.length H
theorem wk_list {P : Hp → Hp → Prop} {a : Addr} {vs : List V} {ds : List PyData} (h : ∀ H F, P H F → SqL K H a vs ∧ DqAll K F vs ds ∧ Fit F H) : Wk K w P (Itl K a) ds where
  go := fun i H F d p e => by
    obtain ⟨h1, h2, h3⟩ := h H F p
    obtain ⟨v, e1, e2⟩ := dpa_get h2 e
    refine ⟨⟨vs, v, h1, e1⟩, fun x H' ⟨y1, y2⟩ => ?_⟩
    subst y1
    have := y2 vs h1
    rw [e1] at this
    cases this
    exact ⟨F, Ext.refl h3, .dat e2⟩
  stop := fun H F p => by
    obtain ⟨h1, h2, h3⟩ := h H F p
    exact ⟨vs, h1, by rw [dpa_len h2]; exact Nat.le_refl _⟩
theorem wk_tup {P : Hp → Hp → Prop} {a : Addr} {vs : List V} {ds : List PyData} (h : ∀ H F, P H F → SqT K H a vs ∧ DqAll K F vs ds ∧ Fit F H) : Wk K w P (Itt K a) ds where
  go := fun i H F d p e => by
    obtain ⟨h1, h2, h3⟩ := h H F p
    obtain ⟨v, e1, e2⟩ := dpa_get h2 e
    refine ⟨⟨vs, v, h1, e1⟩, fun x H' ⟨y1, y2⟩ => ?_⟩
    subst y1
    have := y2 vs h1
    rw [e1] at this
    cases this
    exact ⟨F, Ext.refl h3, .dat e2⟩
  stop := fun H F p => by
    obtain ⟨h1, h2, h3⟩ := h H F p
    exact ⟨vs, h1, by rw [dpa_len h2]; exact Nat.le_refl _⟩
theorem wk_str {P : Hp → Hp → Prop} {y : Str} (h : ∀ H F, P H F → Fit F H) : Wk K w P (Its y) (y.cps.toList.map fun c => .str ⟨#[c]⟩) where
  go := fun i H F d p e => by
    rw [List.getElem?_map] at e
    obtain ⟨k, e1, rfl⟩ := Option.map_eq_some_iff.mp e
    have hi : i < y.cps.size := by
      have := (List.getElem?_eq_some_iff.mp e1).1
      simpa using this
    refine ⟨hi, fun x H' ⟨y1, k2, e2, e3⟩ => ?_⟩
    subst y1 e3
    have : y.cps[i]? = some k := by rw [← e1]; simp
    rw [this] at e2
    cases e2
    exact ⟨F, Ext.refl (h _ _ p), .dat (.str _)⟩
  stop := fun H F p => by
    show y.cps.size ≤ _
    simp
theorem rangeD_len : ∀ (n : Nat) (lo c : Int), (rangeD lo n c).length = n
  | 0, _, _ => rfl
  | n + 1, lo, c => by rw [rangeD, List.length_cons, rangeD_len n]
theorem rangeD_get : ∀ (n : Nat) (lo c : Int) (i : Nat) (d : PyData), (rangeD lo n c)[i]? = some d → i < n ∧ d = .int (lo + i * c)
  | 0, _, _, i, d, h => by simp [rangeD] at h
  | n + 1, lo, c, 0, d, h => by
    rw [rangeD] at h
    simp at h
    exact ⟨by omega, by rw [← h]; simp⟩
  | n + 1, lo, c, i + 1, d, h => by
    rw [rangeD] at h
    obtain ⟨h1, h2⟩ := rangeD_get n (lo + c) c i d (by simpa using h)
    refine ⟨by omega, ?_⟩
    rw [h2]
    congr 1
    rw [Int.natCast_add, Int.add_mul]
    omega
theorem wk_rng {P : Hp → Hp → Prop} {lo : Int} {n : Nat} (h : ∀ H F, P H F → Fit F H) : Wk K w P (Itr lo n) (rangeD lo n 1) where
  go := fun i H F d p e => by
    obtain ⟨h1, h2⟩ := rangeD_get n lo 1 i d e
    refine ⟨h1, fun x H' ⟨y1, y2⟩ => ?_⟩
    subst y1 y2 h2
    exact ⟨F, Ext.refl (h _ _ p), by rw [Int.mul_one]; exact .dat (.int _)⟩
  stop := fun H F p => by
    show n ≤ _
    rw [rangeD_len]; exact Nat.le_refl _
theorem wk_rngc {P : Hp → Hp → Prop} {lo c : Int} {n : Nat} (h : ∀ H F, P H F → Fit F H) : Wk K w P (Itc lo c n) (rangeD lo n c) where
  go := fun i H F d p e => by
    obtain ⟨h1, h2⟩ := rangeD_get n lo c i d e
    refine ⟨h1, fun x H' ⟨y1, y2⟩ => ?_⟩
    subst y1 y2 h2
    exact ⟨F, Ext.refl (h _ _ p), .dat (.int _)⟩
  stop := fun H F p => by
    show n ≤ _
    rw [rangeD_len]; exact Nat.le_refl _
/-! the reading of what is walked -/
def tI (g : G) (call : Nat → List Slot → M PyData) (X : Cx) (W : WX) (z : Bool) (e : E) : TI := fun σ H R => ∃ A H0 F0 ρ F ω, Rel g X.K X.w A H0 F0 ρ σ H F ω ∧
  RPost g X.K W σ A H F ((evalE g.gt call e ρ >>= fun d => M.ofO (itemsOf d)) ω) (fun xs _ H' F' => ∀ J, Wk X.K X.w (Pz z (ExA g A) H' F') J xs → R J H')
theorem PI.wk {t t' : TI} (h : PI X tg l t) (i : ∀ σ H R, t' σ H R → t σ H R) : PI X tg l t' := ⟨fun pins s σ H R I q => h.run pins s σ H R I (i σ H R q)⟩
end
section
variable {g : G} {c : Ck} {call : Nat → List Slot → M PyData} {X : Cx} {sc : Scope} {W : WX} {K : PySem.W.Frag} {tg l : PySem.Expr}
theorem seq_rd {z : Bool} {e : E} (hz : (z && isPk e) = false) {σ : L2.St} {H : Hp} {R : It → Hp → Prop} (h : tI g call X W z e σ H R) : iSeq X.K (tE g call X W e) σ H R := by
  obtain ⟨A, H0, F0, ρ, F, ω, r, q⟩ := h
  refine ⟨A, H0, F0, ρ, F, ω, r, (RPost.bind q).imp fun d ω1 H1 F1 g1 s1 q1 x rx => ?_⟩
  obtain ⟨xs, e1, q2⟩ := RPost.ofO q1
  have q3 := q2 H1 F1 (Grow.refl g1.fit) s1
  cases d with
  | list ds =>
    cases e1
    refine .inl ?_
    cases hp : isPk e with
    | false =>
      rw [hp] at rx
      obtain ⟨a, vs, rfl, h1, h2⟩ := RepF.list rx
      refine ⟨a, rfl, ⟨vs, .inl (.inl (g1.fit _ _ h1))⟩, q3 _ (wk_list (vs := vs) fun H F p => ⟨.inl (.inl (p.fit _ _ (p.fs _ _ h1))), dpAll_mono p.fs _ _ h2, p.fit⟩)⟩
    | true =>
      have z0 : z = false := by rw [hp, Bool.and_true] at hz; exact hz
      subst z0
      rw [hp] at rx
      cases rx with
      | frz h =>
        obtain ⟨a, vs, rfl, h1, h2⟩ := h.list
        exact ⟨a, rfl, ⟨vs, .inl (.inl (g1.fit _ _ h1))⟩, q3 _ (wk_list (vs := vs) fun H F p => ⟨.inl (.inl (p.fit _ _ (p.fs _ _ h1))), dpAll_mono p.fs _ _ h2, p.fit⟩)⟩
      | lst h0 _ h2 h3 =>
        exact ⟨_, rfl, ⟨_, .inl (.inl h2)⟩, q3 _ (wk_list fun H F p => ⟨.inl (.inl (Grow.hs p _ _ h0 h2)), dpAll_mono p.fs _ _ h3, p.fit⟩)⟩
  | tuple ds =>
    cases e1
    refine .inr (.inl ?_)
    obtain ⟨a, vs, rfl, h1, h2⟩ := rx.p.tuple
    exact ⟨a, rfl, ⟨vs, sqT_mono g1.fit h1⟩, q3 _ (wk_tup (vs := vs) fun H F p => ⟨sqT_mono p.fit (sqZ_mono p.fs h1), dpAll_mono p.fs _ _ h2, p.fit⟩)⟩
  | str y =>
    cases e1
    refine .inr (.inr ⟨y, rx.p.str, q3 _ (wk_str fun H F p => p.fit)⟩)
  | dict kvs => exact absurd (gO_some (show gO later (some (kvs.map (·.1))) = some xs from e1)).1 (by decide)
  | _ => cases e1
theorem rng1_rd {z : Bool} {a : E} (ha : isPk a = false) {σ : L2.St} {H : Hp} {R : It → Hp → Prop} (h : tI g call X W z (.rng (.cons a .nil)) σ H R) : iRng1 (tCons (tE g call X W a) tNil) σ H R := by
  obtain ⟨A, H0, F0, ρ, F, ω, r, q⟩ := h
  rw [evalE, M.bnd_assoc, evalEs, M.bnd_assoc] at q
  refine ⟨A, H0, F0, ρ, F, ω, r, (RPost.bind q).imp fun d ω1 H1 F1 g1 s1 q1 x rx => ?_⟩
  rw [ha] at rx
  rw [evalEs] at q1
  cases d with
  | int n =>
    have q1 : RPost g X.K W σ A H1 F1 ((M.ofO (rngD [.int n]) >>= fun d => M.ofO (itemsOf d)) ω1) (fun xs _ H' F' => ∀ J, Wk X.K X.w (Pz z (ExA g A) H' F') J xs → R J H') := q1
    obtain ⟨d, e1, q2⟩ := RPost.ofO (RPost.bind q1)
    obtain ⟨hc, e2⟩ := gO_some (show gO (decide (n ≤ 1000000) && decide (-(2 ^ 60) < n)) (some (PyData.list (rangeD 0 n.toNat 1))) = some d from e1)
    cases e2
    have q3 := q2 H1 F1 (Grow.refl g1.fit) s1 H1 F1 (Grow.refl g1.fit) s1
    simp only [Bool.and_eq_true, decide_eq_true_eq] at hc
    exact ⟨n, by rw [RepP.int (K := X.K) (w := X.w) (F := F1) (H := H1) (Ex := fun _ => False) (.frz rx)], by omega, by omega, q3 _ (wk_rng fun H F p => p.fit)⟩
  | _ => exact q1.elim
theorem rng2_rd {z : Bool} {a b : E} (ha : isPk a = false) (hb : isPk b = false) {σ : L2.St} {H : Hp} {R : It → Hp → Prop} (h : tI g call X W z (.rng (.cons a (.cons b .nil))) σ H R) : iRng2 (tCons (tE g call X W a) (tCons (tE g call X W b) tNil)) σ H R := by
  obtain ⟨A, H0, F0, ρ, F, ω, r, q⟩ := h
  rw [evalE, M.bnd_assoc, evalEs, M.bnd_assoc] at q
  refine ⟨A, H0, F0, ρ, F, ω, r, (RPost.bind q).imp fun d ω1 H1 F1 g1 s1 q1 x rx => ?_⟩
  rw [ha] at rx
  rw [evalEs, M.bnd_assoc, M.bnd_assoc] at q1
  refine ⟨A, H0, F0, ρ, F1, ω1, r.grow g1 s1, (RPost.bind q1).imp fun d2 ω2 H2 F2 g2 s2 q2 y ry => ?_⟩
  rw [hb] at ry
  rw [evalEs] at q2
  have hi : ∀ {n : Int}, d = .int n → x = .int n := fun {n} e => by subst e; exact RepP.int (K := X.K) (w := X.w) (F := F1) (H := H1) (Ex := fun _ => False) (.frz rx)
  cases d with
  | int m =>
    cases d2 with
    | int n =>
      have q2 : RPost g X.K W σ A H2 F2 ((M.ofO (rngD [.int m, .int n]) >>= fun d => M.ofO (itemsOf d)) ω2) (fun xs _ H' F' => ∀ J, Wk X.K X.w (Pz z (ExA g A) H' F') J xs → R J H') := q2
      obtain ⟨d, e1, q2⟩ := RPost.ofO (RPost.bind q2)
      obtain ⟨hc, e2⟩ := gO_some (show gO (decide (n - m ≤ 1000000) && decide (-(2 ^ 60) < m) && decide (m < 2 ^ 60) && decide (-(2 ^ 60) < n) && decide (n < 2 ^ 60)) (some (PyData.list (rangeD m (n - m).toNat 1))) = some d from e1)
      cases e2
      have q3 := q2 H2 F2 (Grow.refl g2.fit) s2 H2 F2 (Grow.refl g2.fit) s2
      simp only [Bool.and_eq_true, decide_eq_true_eq] at hc
      exact ⟨m, n, by rw [hi rfl, RepP.int (K := X.K) (w := X.w) (F := F2) (H := H2) (Ex := fun _ => False) (.frz ry)], by omega, q3 _ (wk_rng fun H F p => p.fit)⟩
    | _ => exact q2.elim
  | _ => exact q2.elim
end
end Wv

set_option autoImplicit false
set_option linter.all false
set_option maxRecDepth 100000
set_option maxHeartbeats 4000000
namespace Wv
open PySem PySem.Spec PyProof.Rows L2
section
variable {g : G} {c : Ck} {call : Nat → List Slot → M PyData} {X : Cx} {sc : Scope} {W : WX} {K : PySem.W.Frag} {w : World} {H0 F0 F F' H H' : Hp} {Q : VK} {A : Option Addr} {ρ ρ' : Env} {σ σ' : L2.St} {ω ω' : Orc}
/-! the slots -/
theorem set_get {α : Type} {l : List α} {i j : Nat} {x : α} : (l.set i x)[j]? = if i = j then (if i < l.length then some x else none) else l[j]? := by
  by_cases h : i = j
  · subst h
    rw [if_pos rfl]
    by_cases hl : i < l.length
    · rw [if_pos hl, List.getElem?_set_self hl]
    · rw [if_neg hl, List.getElem?_eq_none (by simpa using hl)]
  · rw [if_neg h, List.getElem?_set_ne h]
theorem Rel.set (r : Rel g K w A H0 F0 ρ σ H F ω) {i : Nat} {v : V} {d : PyData} (h : RepF K w F v d) : Rel g K w A H0 F0 (ρ.set i (.v false d)) (σ.set i (some v)) H F ω where
  gr := r.gr
  len := by rw [List.length_set, List.length_set]; exact r.len
  sl := fun j s e => by
    rw [set_get] at e
    rw [set_get]
    by_cases hij : i = j
    · rw [if_pos hij] at e ⊢
      by_cases hl : i < ρ.length
      · rw [if_pos hl] at e
        cases e
        rw [if_pos (by rw [← r.len]; exact hl)]
        exact ⟨v, rfl, h⟩
      · rw [if_neg hl] at e; cases e
    · rw [if_neg hij] at e ⊢
      exact r.sl j s e
  own := fun j k d1 d2 a e1 e2 e3 e4 => by
    rw [set_get] at e1 e2 e3 e4
    have hj : ¬ i = j := fun z => by
      rw [if_pos z] at e1
      split at e1 <;> cases e1
    have hk : ¬ i = k := fun z => by
      rw [if_pos z] at e2
      split at e2 <;> cases e2
    rw [if_neg hj] at e1 e3
    rw [if_neg hk] at e2 e4
    exact r.own j k d1 d2 a e1 e2 e3 e4
  st := r.st
theorem Rel.un (r : Rel g K w A H0 F0 ρ σ H F ω) {i : Nat} : Rel g K w A H0 F0 (ρ.set i .un) (σ.set i none) H F ω where
  gr := r.gr
  len := by rw [List.length_set, List.length_set]; exact r.len
  sl := fun j s e => by
    rw [set_get] at e
    rw [set_get]
    by_cases hij : i = j
    · rw [if_pos hij] at e
      split at e
      · cases e; trivial
      · cases e
    · rw [if_neg hij] at e ⊢
      exact r.sl j s e
  own := fun j k d1 d2 a e1 e2 e3 e4 => by
    rw [set_get] at e1 e2 e3 e4
    have hj : ¬ i = j := fun z => by
      rw [if_pos z] at e1
      split at e1 <;> cases e1
    have hk : ¬ i = k := fun z => by
      rw [if_pos z] at e2
      split at e2 <;> cases e2
    rw [if_neg hj] at e1 e3
    rw [if_neg hk] at e2 e4
    exact r.own j k d1 d2 a e1 e2 e3 e4
  st := r.st
theorem clr_set (i : Nat) : ∀ (vs : List Nat) (ρ : Env), clr vs (ρ.set i .un) = (clr vs ρ).set i .un
  | [], _ => rfl
  | v :: vs, ρ => by
    show clr vs ((ρ.set i .un).set v .un) = (clr vs (ρ.set v .un)).set i .un
    rw [← clr_set i vs]
    congr 1
    by_cases h : i = v
    · subst h; rfl
    · rw [List.set_comm _ _ h]
theorem Rel.clr (r : Rel g K w A H0 F0 ρ σ H F ω) : ∀ vs : List Nat, Rel g K w A H0 F0 (Wv.clr vs ρ) (wipe σ vs) H F ω
  | [] => r
  | v :: vs => by
    show Rel g K w A H0 F0 (Wv.clr vs (ρ.set v .un)) ((wipe σ vs).set v none) H F ω
    rw [clr_set]
    exact (Rel.clr r vs).un
theorem wipe_set {i : Nat} {x : Option V} : ∀ {vs : List Nat} {σ : L2.St}, i ∈ vs → wipe (σ.set i x) vs = wipe σ vs
  | [], _, h => by cases h
  | v :: vs, σ, h => by
    unfold wipe
    by_cases hv : i = v
    · subst hv
      by_cases hm : i ∈ vs
      · rw [wipe_set hm]
      · have : ∀ (vs : List Nat) (σ : L2.St), i ∉ vs → wipe (σ.set i x) vs = (wipe σ vs).set i x := by
          intro vs
          induction vs with
          | nil => intro σ _; rfl
          | cons u us ih =>
            intro σ hn
            unfold wipe
            rw [ih σ (fun z => hn (List.mem_cons_of_mem _ z)), List.set_comm _ _ (fun z => hn (by rw [z]; exact List.mem_cons_self))]
        rw [this vs σ hm, List.set_set]
    · rcases List.mem_cons.mp h with e | e
      · exact absurd e hv
      · rw [wipe_set e]
/-! targets -/
def tgE (c : Ck) (fnb : Str → Bool) (sc : Scope) (i : Nat) (x : Str) : Bool := (c.N[i]? == some x) && (sc.names.lookup x == some .local || (sc.names.lookup x == some .cell && fnb x))
def chkTg (c : Ck) (fnb : Str → Bool) (sc : Scope) : Tg → PySem.Expr → Bool
  | .nm i, .Name x _ => tgE c fnb sc i x
  | .t0, .Tuple xs _ _ => xs.isEmpty
  | .tc a b, .Tuple (x :: xs) k p => chkTg c fnb sc a x && chkTg c fnb sc b (.Tuple xs k p)
  | _, _ => false
theorem asg_each {x : PySem.Expr} {xs : List PySem.Expr} {env : PySem.Env} (h : noStar x = true) : assignEach (x :: xs) env = (false, assign x env) :: assignEach xs env := by
  cases x <;> first | rfl | cases h
theorem tg_noStar {fnb : Str → Bool} {t : Tg} {x : PySem.Expr} (h : chkTg c fnb sc t x = true) : noStar x = true := by
  cases x <;> first | rfl | (cases t <;> cases h)
theorem asg_len {fnb : Str → Bool} {k : Nat} {p : Pos} {env : PySem.Env} : ∀ (t : Tg) (xs : List PySem.Expr), chkTg c fnb sc t (.Tuple xs k p) = true → (assignEach xs env).length = xs.length ∧ (assignEach xs env).findIdx? (·.1) = none
  | .nm i, xs, h => by cases h
  | .t0, [], h => ⟨rfl, rfl⟩
  | .t0, x :: xs, h => by cases h
  | .tc a b, [], h => by cases h
  | .tc a b, x :: xs, h => by
    obtain ⟨h1, h2⟩ := Bool.and_eq_true_iff.mp (show (chkTg c fnb sc a x && chkTg c fnb sc b (.Tuple xs k p)) = true from h)
    obtain ⟨h3, h4⟩ := asg_len (env := env) b xs h2
    rw [asg_each (tg_noStar h1)]
    refine ⟨by rw [List.length_cons, List.length_cons, h3], ?_⟩
    rw [List.findIdx?_cons]
    show (if (false = true) then _ else _) = none
    rw [if_neg Bool.false_ne_true, h4]; rfl
/-- what a store is to reach: own slots of σ changed within vs alone -/
def tG (g : G) (X : Cx) (vs : List Nat) (t : Tg) : TG := fun v σ H Q => ∃ A H0 F0 ρ F ω d ρ', Rel g X.K X.w A H0 F0 ρ σ H F ω ∧ RepF X.K X.w F v d ∧ asgT t false d ρ ω = .ok ρ' ω ∧ (∀ i ∈ tgS t, i ∈ vs) ∧
  ∀ σ', wipe σ' vs = wipe σ vs → Rel g X.K X.w A H0 F0 ρ' σ' H F ω → Q σ' H
def tGs (g : G) (X : Cx) (vs : List Nat) (t : Tg) : TGs := fun us σ H Q => ∃ A H0 F0 ρ F ω ds ρ', Rel g X.K X.w A H0 F0 ρ σ H F ω ∧ Paired (RepF X.K X.w F) us ds ∧ asgT t false (.tuple ds) ρ ω = .ok ρ' ω ∧ (∀ i ∈ tgS t, i ∈ vs) ∧
  ∀ σ', wipe σ' vs = wipe σ vs → Rel g X.K X.w A H0 F0 ρ' σ' H F ω → Q σ' H
theorem asg_ok : ∀ (t : Tg) (o : Bool) (d : PyData) (ρ ρ' : Env) (ω ω' : Orc), asgT t o d ρ ω = .ok ρ' ω' → ω' = ω
  | .nm i, o, d, ρ, ρ', ω, ω', h => by cases h; rfl
  | .t0, o, .tuple [], ρ, ρ', ω, ω', h => by cases h; rfl
  | .tc a b, o, .tuple (x :: xs), ρ, ρ', ω, ω', h => by
    rw [asgT] at h
    have h : M.bnd (asgT a false x ρ) (fun r => asgT b false (.tuple xs) r) ω = .ok ρ' ω' := h
    unfold M.bnd at h
    cases e : asgT a false x ρ ω with
    | ok r w1 =>
      rw [e] at h
      rw [asg_ok b _ _ _ _ _ _ h, asg_ok a _ _ _ _ _ _ e]
    | exc => rw [e] at h; cases h
    | stuck => rw [e] at h; cases h
  | .t0, o, .tuple (_ :: _), ρ, ρ', ω, ω', h => by cases h
  | .t0, o, .none, ρ, ρ', ω, ω', h => by cases h
  | .t0, o, .bool _, ρ, ρ', ω, ω', h => by cases h
  | .t0, o, .int _, ρ, ρ', ω, ω', h => by cases h
  | .t0, o, .str _, ρ, ρ', ω, ω', h => by cases h
  | .t0, o, .list _, ρ, ρ', ω, ω', h => by cases h
  | .t0, o, .dict _, ρ, ρ', ω, ω', h => by cases h
  | .tc _ _, o, .tuple [], ρ, ρ', ω, ω', h => by cases h
  | .tc _ _, o, .none, ρ, ρ', ω, ω', h => by cases h
  | .tc _ _, o, .bool _, ρ, ρ', ω, ω', h => by cases h
  | .tc _ _, o, .int _, ρ, ρ', ω, ω', h => by cases h
  | .tc _ _, o, .str _, ρ, ρ', ω, ω', h => by cases h
  | .tc _ _, o, .list _, ρ, ρ', ω, ω', h => by cases h
  | .tc _ _, o, .dict _, ρ, ρ', ω, ω', h => by cases h
theorem pg_name' {fnb : Str → Bool} {i : Nat} {x : Str} {pos : Pos} {vs : List Nat} (G : Gd g c call X sc) (hf : ∀ x, fnb x = true → X.fn x = true) (h : tgE c fnb sc i x = true) : PG X (.Name x pos) (tG g X vs (.nm i)) := by
  unfold tgE at h
  obtain ⟨h1, h2⟩ := Bool.and_eq_true_iff.mp h
  have hl : Loc X.env.scope x ∧ (X.fn x = true ∨ X.env.scope.names.lookup x = some .local) := by
    rw [G.sc]
    rcases Bool.or_eq_true_iff.mp h2 with h | h
    · exact ⟨.inl (eq_of_beq h), .inr (eq_of_beq h)⟩
    · obtain ⟨h3, h4⟩ := Bool.and_eq_true_iff.mp h
      exact ⟨.inr (eq_of_beq h3), .inl (hf _ h4)⟩
  refine ⟨fun pins s σ H v u Q I r ⟨A, H0, F0, ρ, F, ω, d, ρ', rl, rv, ea, hv, q⟩ => ?_⟩
  refine (pg_name (by rw [G.N]; exact G.nd) (by rw [G.N]; exact eq_of_beq h1) hl.1 hl.2).run pins s σ H v u Q I r ?_
  cases ea
  exact q _ (wipe_set (hv i (by simp [tgS]))) (rl.set rv)
theorem data_cases {P : PyData → Prop} (d : PyData) (h1 : ∀ ds, P (.tuple ds)) (h2 : ∀ d, (∀ ds, d ≠ .tuple ds) → P d) : P d := by
  cases d with
  | tuple ds => exact h1 ds
  | _ => exact h2 _ (fun _ z => by cases z)
theorem asg_tup {a b : Tg} {o : Bool} {d : PyData} {ρ ρ' : Env} {ω ω' : Orc} (h : asgT (.tc a b) o d ρ ω = .ok ρ' ω') : ∃ x xs r, d = .tuple (x :: xs) ∧ asgT a false x ρ ω = .ok r ω ∧ asgT b false (.tuple xs) r ω = .ok ρ' ω' := by
  cases d with
  | tuple ds =>
    cases ds with
    | nil => cases h
    | cons x xs =>
      have h2 : M.bnd (asgT a false x ρ) (fun r => asgT b false (.tuple xs) r) ω = .ok ρ' ω' := h
      unfold M.bnd at h2
      cases e : asgT a false x ρ ω with
      | ok r w1 =>
        rw [e] at h2
        have := asg_ok _ _ _ _ _ _ _ e
        subst this
        exact ⟨x, xs, r, rfl, e, h2⟩
      | exc => rw [e] at h2; cases h2
      | stuck => rw [e] at h2; cases h2
  | _ => cases h
theorem asg_t0 {o : Bool} {d : PyData} {ρ ρ' : Env} {ω ω' : Orc} (h : asgT .t0 o d ρ ω = .ok ρ' ω') : d = .tuple [] ∧ ρ' = ρ := by
  cases d with
  | tuple ds =>
    cases ds with
    | nil => cases h; exact ⟨rfl, rfl⟩
    | cons => cases h
  | _ => cases h
theorem paired_dqa {vs : List V} {ds : List PyData} {F : Hp} (h : DqAll K F vs ds) : Paired (RepF K w F) vs ds := by
  induction vs generalizing ds with
  | nil => cases h; exact .nil
  | cons v vs ih => cases h with
    | cons a t => exact .cons (.dat a) (ih t)
theorem asg_tupLen {fnb : Str → Bool} {k : Nat} {p : Pos} : ∀ (t : Tg) (xs : List PySem.Expr) (ds : List PyData) (o : Bool) (ρ ρ' : Env) (ω : Orc), chkTg c fnb sc t (.Tuple xs k p) = true → asgT t o (.tuple ds) ρ ω = .ok ρ' ω → ds.length = xs.length
  | .nm i, xs, ds, o, ρ, ρ', ω, h, e => by cases h
  | .t0, [], ds, o, ρ, ρ', ω, h, e => by
    have := (asg_t0 e).1
    cases this; rfl
  | .t0, x :: xs, ds, o, ρ, ρ', ω, h, e => by cases h
  | .tc a b, [], ds, o, ρ, ρ', ω, h, e => by cases h
  | .tc a b, x :: xs, ds, o, ρ, ρ', ω, h, e => by
    obtain ⟨h1, h2⟩ := Bool.and_eq_true_iff.mp (show (chkTg c fnb sc a x && chkTg c fnb sc b (.Tuple xs k p)) = true from h)
    obtain ⟨y, ys, r, e1, e2, e3⟩ := asg_tup e
    cases e1
    rw [List.length_cons, List.length_cons, asg_tupLen b xs ys _ _ _ _ h2 e3]
mutual
theorem snd_tg {fnb : Str → Bool} {vs : List Nat} (G : Gd g c call X sc) (hf : ∀ x, fnb x = true → X.fn x = true) : ∀ (t : Tg) (x : PySem.Expr), chkTg c fnb sc t x = true → PG X x (tG g X vs t)
  | .nm i, x, h => by
    cases x <;> first | exact pg_name' G hf h | cases h
  | .t0, x, h => by
    cases x with
    | Tuple xs k p =>
      obtain ⟨h1, h2⟩ := asg_len (env := X.env) .t0 xs h
      have hp : PG X (.Tuple xs k p) (gTup X.K xs.length (tGs g X vs .t0)) := pg_tup G.calm (snd_tgs G hf .t0 xs k p h) h1 h2
      refine ⟨fun pins s σ H v u Q I r ⟨A, H0, F0, ρ, F, ω, d, ρ', rl, rv, ea, hv, q⟩ => hp.run pins s σ H v u Q I r ?_⟩
      obtain ⟨rfl, rfl⟩ := asg_t0 ea
      obtain ⟨a, us, rfl, q1, q2⟩ := rv.tuple
      refine ⟨a, us, rfl, sqT_mono rl.fit q1, by rw [dpa_len q2, asg_tupLen .t0 xs [] _ _ _ _ h ea], A, H0, F0, ρ', F, ω, [], ρ', rl, paired_dqa q2, ea, hv, q⟩
    | _ => cases h
  | .tc a b, x, h => by
    cases x with
    | Tuple xs k p =>
      obtain ⟨h1, h2⟩ := asg_len (env := X.env) (.tc a b) xs h
      have hp : PG X (.Tuple xs k p) (gTup X.K xs.length (tGs g X vs (.tc a b))) := pg_tup G.calm (snd_tgs G hf (.tc a b) xs k p h) h1 h2
      refine ⟨fun pins s σ H v u Q I r ⟨A, H0, F0, ρ, F, ω, d, ρ', rl, rv, ea, hv, q⟩ => hp.run pins s σ H v u Q I r ?_⟩
      obtain ⟨y, ys, r, rfl, _, _⟩ := asg_tup ea
      obtain ⟨ad, us, rfl, q1, q2⟩ := rv.tuple
      exact ⟨ad, us, rfl, sqT_mono rl.fit q1, by rw [dpa_len q2, asg_tupLen (.tc a b) xs _ _ _ _ _ h ea], A, H0, F0, ρ, F, ω, _, ρ', rl, paired_dqa q2, ea, hv, q⟩
    | _ => cases h
theorem snd_tgs {fnb : Str → Bool} {vs : List Nat} (G : Gd g c call X sc) (hf : ∀ x, fnb x = true → X.fn x = true) : ∀ (t : Tg) (xs : List PySem.Expr) (k : Nat) (p : Pos), chkTg c fnb sc t (.Tuple xs k p) = true → PGs X xs (tGs g X vs t)
  | .nm i, xs, k, p, h => by cases h
  | .t0, [], k, p, h => ⟨fun pins s σ H us ws Q I r ⟨A, H0, F0, ρ, F, ω, ds, ρ', rl, rv, ea, hv, q⟩ => by
    refine pgs_nil.run pins s σ H us ws Q I r ?_
    obtain ⟨e1, rfl⟩ := asg_t0 ea
    cases e1
    cases rv
    exact ⟨rfl, q σ rfl rl⟩⟩
  | .t0, x :: xs, k, p, h => by cases h
  | .tc a b, [], k, p, h => by cases h
  | .tc a b, x :: xs, k, p, h => by
    obtain ⟨h1, h2⟩ := Bool.and_eq_true_iff.mp (show (chkTg c fnb sc a x && chkTg c fnb sc b (.Tuple xs k p)) = true from h)
    have hc := pgs_cons (snd_tg (vs := vs) G hf a x h1) (snd_tgs (vs := vs) G hf b xs k p h2) (by rw [asg_each (tg_noStar h1)]; rfl)
    refine ⟨fun pins s σ H us ws Q I r ⟨A, H0, F0, ρ, F, ω, ds, ρ', rl, rv, ea, hv, q⟩ => hc.run pins s σ H us ws Q I r ?_⟩
    obtain ⟨y, ys, r1, e1, e2, e3⟩ := asg_tup ea
    cases e1
    cases rv with
    | cons r0 rr =>
      refine ⟨_, _, rfl, A, H0, F0, ρ, F, ω, y, r1, rl, r0, e2, fun i hi => hv i (by simp [tgS, hi]), fun σ1 w1 rl1 => ?_⟩
      exact ⟨A, H0, F0, r1, F, ω, ys, ρ', rl1, rr, e3, fun i hi => hv i (by simp [tgS, hi]), fun σ2 w2 rl2 => q σ2 (w2.trans w1) rl2⟩
end
end
end Wv

set_option autoImplicit false
set_option linter.all false
set_option maxRecDepth 100000
set_option maxHeartbeats 4000000
namespace Wv
open PySem PySem.Spec PyProof.Rows L2
section
variable {g : G} {c : Ck} {call : Nat → List Slot → M PyData} {X : Cx} {sc : Scope} {W W' : WX} {K : PySem.W.Frag} {w : World} {H0 F0 F F' H H' H1 F1 : Hp} {Q : VK} {A : Option Addr} {ρ ρ' : Env} {σ σ' : L2.St} {ω ω' : Orc} {α β : Type} {ok : α → Orc → Hp → Hp → Prop}
/-! new objects -/
def RepN (K : PySem.W.Frag) (w : World) (H F' H' : Hp) (v : V) (d : PyData) : Prop := if ownV true d = true then ∃ a, v = .ref a ∧ H a = none ∧ F' a = none ∧ OwnAt K w F' H' a d else RepF K w F' v d
def tN (g : G) (call : Nat → List Slot → M PyData) (X : Cx) (W : WX) (e : E) : TE := fun σ H Q => ∃ A H0 F0 ρ F ω, Rel g X.K X.w A H0 F0 ρ σ H F ω ∧
  RPost g X.K W σ A H F (evalE g.gt call e ρ ω) (fun d _ H' F' => ∀ v, RepN X.K X.w H F' H' v d → Q v H')
theorem StOk.nA (st : StOk g A H F ω) {a : Addr} (h : H a = none) : ¬ ExA g A a := fun e => by
  rcases e with e | e
  · obtain ⟨_, _, _, b, h1, _⟩ := st.st a e
    rw [h] at h1; cases h1
  · obtain ⟨ps, h1, _⟩ := st.tab a e
    rw [h] at h1; cases h1
theorem StOk.frz (st : StOk g A H F ω) {a : Addr} {o : HO} (h : ¬ ExA g A a) (hF : F a = none) : StOk g A H (upd F a o) ω where
  st := fun b hb => by
    obtain ⟨h1, h2, h3, d, h4, h5⟩ := st.st b hb
    have e : b ≠ a := fun z => h (.inl (by rw [hb, z]))
    refine ⟨by rw [upd_ne e]; exact h1, h2, h3, d, h4, ?_⟩
    rw [upd_ne (fun z => by rw [z, hF] at h5; cases h5)]
    exact h5
  tab := st.tab
  ft := fun p hp => by
    rw [upd_ne (fun z => h (.inr (by rw [← z]; exact hp)))]
    exact st.ft p hp
theorem StOk.upd (st : StOk g A H F ω) {a : Addr} {o : HO} (h : ¬ ExA g A a) (hF : F a = none) : StOk g A (upd H a o) F ω where
  st := fun b hb => by
    obtain ⟨h1, h2, h3, d, h4, h5⟩ := st.st b hb
    have e : b ≠ a := fun z => h (.inl (by rw [hb, z]))
    refine ⟨h1, h2, h3, d, by rw [upd_ne e]; exact h4, h5⟩
  tab := fun p hp => by
    obtain ⟨ps, h1, h2⟩ := st.tab p hp
    exact ⟨ps, by rw [upd_ne (fun z => h (.inr (by rw [← z]; exact hp)))]; exact h1, h2⟩
  ft := st.ft
theorem Grow.frz {Ex : Addr → Prop} (gr : Grow Ex H F H' F') {a : Addr} {o : HO} (h : H a = none) (h1 : F' a = none) (h2 : H' a = some o) : Grow Ex H F H' (upd F' a o) where
  hs := gr.hs
  ex := gr.ex
  fs := gr.fs.trans (same_upd h1)
  fit := fun b u e => by
    by_cases z : b = a
    · subst z; rw [upd_same] at e; cases e; exact h2
    · rw [upd_ne z] at e; exact gr.fit b u e
  new := fun b u e => by
    by_cases z : b = a
    · subst z; exact .inr h
    · rw [upd_ne z] at e; exact gr.new b u e
theorem Grow.updN {Ex : Addr → Prop} (gr : Grow Ex H F H' F') {a : Addr} {o : HO} (h : H a = none) (h1 : F' a = none) : Grow Ex H F (upd H' a o) F' where
  hs := fun b u n e => by
    have z : b ≠ a := fun z => by rw [z, h] at e; cases e
    rw [upd_ne z]; exact gr.hs b u n e
  ex := fun b e => by
    by_cases z : b = a
    · rw [z]; exact h
    · rw [upd_ne z] at e; exact gr.ex b e
  fs := gr.fs
  fit := fun b u e => by
    have z : b ≠ a := fun z => by rw [z, h1] at e; cases e
    rw [upd_ne z]; exact gr.fit b u e
  new := gr.new
theorem dicAt_obj {a : Addr} {kvs : List (PyData × PyData)} (h : DicAt K F H a kvs) : ∃ o, H a = some o := by
  obtain ⟨ks, h1, _⟩ := h
  exact ⟨_, h1⟩
theorem tN_of {e : E} (hp : isPk e = false) (h : tE g call X W e σ H Q) : tN g call X W e σ H Q := by
  obtain ⟨A, H0, F0, ρ, F, ω, r, q⟩ := h
  refine ⟨A, H0, F0, ρ, F, ω, r, ?_⟩
  cases ev : evalE g.gt call e ρ ω with
  | exc => rw [ev] at q; exact q
  | stuck => rw [ev] at q; exact q
  | ok d ω1 =>
    rw [ev] at q
    intro H' F' gr st v hv
    have q : ∀ H' F', Grow (ExA g A) H F H' F' → StOk g A H' F' ω1 → ∀ v, RepR X.K X.w (ExA g A) (isPk e) F' H' v d → Q v H' := q
    rw [hp] at q
    unfold RepN at hv
    cases ho : ownV true d with
    | false => rw [ho, if_neg Bool.false_ne_true] at hv; exact q H' F' gr st v hv
    | true =>
      rw [ho, if_pos rfl] at hv
      obtain ⟨a, rfl, h1, h2, h3⟩ := hv
      have nA := r.st.nA h1
      cases d with
      | list ds =>
        obtain ⟨vs, e1, e2⟩ := h3
        have sm : Same F' (upd F' a (.lst vs)) := same_upd h2
        exact q H' (upd F' a (.lst vs)) (gr.frz h1 h2 e1) (st.frz nA h2) _ (.dat (.lst upd_same (dpAll_mono sm _ _ e2)))
      | dict kvs =>
        obtain ⟨o, e1⟩ := dicAt_obj h3
        have sm : Same F' (upd F' a o) := same_upd h2
        refine q H' (upd F' a o) (gr.frz h1 h2 e1) (st.frz nA h2) _ (.dic ?_)
        refine dicAt_mono sm (fun u hu => ?_) h3
        rw [upd_same, ← e1]; exact hu
      | _ => cases ho
/-! results -/
theorem RPost.sig {r : R α} (h : RPost g K (fun _ _ _ _ => False) σ A H F r ok) : RPost g K W σ' A H F r ok := by
  cases r with
  | ok a ω => exact h
  | exc c p ω => exact fun H' F' dx g2 st pk => (h H' F' dx g2 st pk).elim
  | stuck => exact h
theorem RPost.nox {m : M α} (h : RPost g K W σ A H F (M.noexc m ω) ok) : RPost g K (fun _ _ _ _ => False) σ A H F (m ω) ok := by
  have e : M.noexc m ω = (match m ω with | .ok a w' => .ok a w' | _ => .stuck) := rfl
  rw [e] at h
  cases q : m ω with
  | ok a w' => rw [q] at h; exact h
  | exc => rw [q] at h; exact h.elim
  | stuck => rw [q] at h; exact h
theorem RPost.bindB {m : M α} {f : α → M β} {ok : β → Orc → Hp → Hp → Prop} (h : RPost g K W σ A H F ((m >>= f) ω) ok) : RPost g K W σ A H F (m ω) (fun a ω1 _ _ => RPost g K W σ A H F (f a ω1) ok) := by
  have e : (m >>= f) ω = (match m ω with | .ok a w' => f a w' | .exc c p w' => .exc c p w' | .stuck => .stuck) := rfl
  rw [e] at h
  cases q : m ω with
  | ok a ω1 => rw [q] at h; exact fun H' F' gr st => h
  | exc c p ω1 => rw [q] at h; exact h
  | stuck => rw [q] at h; exact h
theorem asg_res : ∀ (t : Tg) (o : Bool) (d : PyData) (ρ : Env) (ω : Orc), (∃ ρ', asgT t o d ρ ω = .ok ρ' ω) ∨ asgT t o d ρ ω = .stuck
  | .nm i, o, d, ρ, ω => .inl ⟨_, rfl⟩
  | .t0, o, d, ρ, ω => by
    cases d with
    | tuple ds => cases ds with
      | nil => exact .inl ⟨_, rfl⟩
      | cons => exact .inr rfl
    | _ => exact .inr rfl
  | .tc a b, o, d, ρ, ω => by
    cases d with
    | tuple ds => cases ds with
      | nil => exact .inr rfl
      | cons x xs =>
        have e : asgT (.tc a b) o (.tuple (x :: xs)) ρ ω = M.bnd (asgT a false x ρ) (fun r => asgT b false (.tuple xs) r) ω := rfl
        rw [e]
        unfold M.bnd
        rcases asg_res a false x ρ ω with ⟨r, e1⟩ | e1
        · rw [e1]; exact asg_res b false (.tuple xs) r ω
        · rw [e1]; exact .inr rfl
    | _ => exact .inr rfl
theorem RPost.asg {t : Tg} {o : Bool} {d : PyData} {f : Env → M α} (h : RPost g K W σ A H F ((asgT t o d ρ >>= f) ω) ok) : ∃ ρ', asgT t o d ρ ω = .ok ρ' ω ∧ RPost g K W σ A H F (f ρ' ω) ok := by
  have e : (asgT t o d ρ >>= f) ω = M.bnd (asgT t o d ρ) f ω := rfl
  rw [e] at h
  unfold M.bnd at h
  rcases asg_res t o d ρ ω with ⟨r, e1⟩ | e1
  · rw [e1] at h; exact ⟨r, e1, h⟩
  · rw [e1] at h; exact h.elim
theorem wipe_wipe : ∀ (vs : List Nat) (σ : L2.St), wipe (wipe σ vs) vs = wipe σ vs := by
  have go : ∀ (us vs : List Nat) (σ : L2.St), (∀ i ∈ us, i ∈ vs) → wipe (wipe σ us) vs = wipe σ vs := by
    intro us
    induction us with
    | nil => intro vs σ _; rfl
    | cons u us ih =>
      intro vs σ h
      show wipe ((wipe σ us).set u none) vs = _
      rw [wipe_set (h u List.mem_cons_self)]
      exact ih vs σ fun i hi => h i (List.mem_cons_of_mem _ hi)
  exact fun vs σ => go vs vs σ fun _ h => h
/-! tests -/
def tTs (g : G) (call : Nat → List Slot → M PyData) (X : Cx) (W : WX) (ts : Es) : TT := fun σ H Q => ∃ A H0 F0 ρ F ω, Rel g X.K X.w A H0 F0 ρ σ H F ω ∧
  RPost g X.K W σ A H F (evalT g.gt call ts ρ ω) (fun b _ H' F' => Q b H')
theorem ts0_rd {Q : Bool → Hp → Prop} (h : tTs g call X W .nil σ H Q) : tYes σ H Q := by
  obtain ⟨A, H0, F0, ρ, F, ω, r, q⟩ := h
  rw [evalT] at q
  exact q H F (Grow.refl r.fit) r.st
theorem ts1_rd {t : E} {Q : Bool → Hp → Prop} (h : tTs g call X W (.cons t .nil) σ H Q) : tT g call X W t σ H Q := by
  obtain ⟨A, H0, F0, ρ, F, ω, r, q⟩ := h
  rw [evalT] at q
  have : (evalE g.gt call t ρ >>= fun x => M.ofO (tru x) >>= fun b => if b = true then evalT g.gt call .nil ρ else pure false) = (evalE g.gt call t ρ >>= fun x => M.ofO (tru x)) := by
    congr 1
    funext x
    cases tru x with
    | none => rfl
    | some b => cases b <;> rfl
  rw [this] at q
  exact ⟨A, H0, F0, ρ, F, ω, r, q⟩
/-! [e for t in it if ts] -/
def bodyM (gt : Nat → Option PyData) (call : Nat → List Slot → M PyData) (t : Tg) (ts : Es) (e : E) (ρ : Env) (x : PyData) : M (Option PyData) := do
  let ρ' ← asgT t false x ρ
  let b ← evalT gt call ts ρ'
  if b = true then do let y ← evalE gt call e ρ'; M.guard (okEl y) (pure (some y)) else pure none
theorem evalE_comp {gt : Nat → Option PyData} {t : Tg} {it : E} {ts : Es} {e : E} : evalE gt call (.comp t it ts e) ρ = M.noexc ((evalE gt call it ρ >>= fun d => M.ofO (itemsOf d)) >>= fun xs => M.guard (decide (xs.length ≤ 1000000)) (compM (bodyM gt call t ts e (clr (tgS t) ρ)) xs >>= fun ys => pure (.list ys))) := by
  rw [evalE, M.bnd_assoc]
  rfl
theorem drop_cons {l : List α} {i : Nat} {x : α} (h : l[i]? = some x) : l.drop i = x :: l.drop (i + 1) := by
  obtain ⟨hi, e⟩ := List.getElem?_eq_some_iff.mp h
  rw [List.drop_eq_getElem_cons hi, e]
abbrev W0 : WX := fun _ _ _ _ => False
theorem comp_rd {t : Tg} {it : E} {ts : Es} {e : E} (he : isPk e = false) (h : tN g call X W (.comp t it ts e) σ H Q) :
    tLc (tI g call X W false it) (tG g X (tgS t) t) (tTs g call X W0 ts) (tE g call X W0 e) (tgS t) σ H Q := by
  obtain ⟨A, H0, F0, ρ, F, ω, r, q⟩ := h
  rw [evalE_comp] at q
  have q := RPost.nox q
  refine ⟨A, H0, F0, ρ, F, ω, r, (RPost.sig (RPost.bind q)).imp fun xs ω1 H1 F1 g1 s1 q2 J hJ => ?_⟩
  obtain ⟨hlen, q2⟩ := RPost.guard q2
  have hlen : xs.length ≤ 1000000 := of_decide_eq_true hlen
  intro D hD
  have nD : ¬ ExA g A D := s1.nA hD
  have hHD : H D = none := g1.ex _ hD
  let Inv : Nat → Nat → Hp → Prop := fun i m H' => ∃ F' ω' acc ds, i ≤ xs.length ∧ m = xs.length - i ∧ Grow (ExA g A) H1 F1 H' F' ∧ StOk g A H' F' ω' ∧ H' D = some (.lst acc) ∧ F' D = none ∧ acc.length ≤ i ∧ DqAll X.K F' acc ds ∧
    RPost g X.K W0 σ A H1 F1 ((compM (bodyM g.gt call t ts e (clr (tgS t) ρ)) (xs.drop i) >>= fun ys => pure (PyData.list (ds ++ ys))) ω') (fun d _ H' F' => ∀ v, RepN X.K X.w H F' H' v d → Q v H')
  have fD : F1 D = none := g1.fit.none hD
  have e0 : Ext H1 F1 (upd H1 D (.lst [])) F1 := Ext.mk0 g1.fit hD
  refine ⟨Inv, ⟨xs.length, F1, ω1, [], [], Nat.zero_le _, by simp, e0.grow, s1.ext e0, upd_same, fD, Nat.le_refl _, .nil, ?_⟩, ?_⟩
  · rw [List.drop_zero]; exact q2
  rintro i m H2 ⟨F2, ω2, acc, ds, hi, rfl, g2, s2, hd2, fd2, hac, hds, q3⟩
  by_cases hlt : i < xs.length
  case neg =>
    have ei : i = xs.length := by omega
    refine .inl ⟨by rw [ei]; exact hJ.stop H2 F2 (Pz.of g2), ?_⟩
    rw [ei, List.drop_length] at q3
    have q4 : RPost g X.K W0 σ A H1 F1 ((pure (PyData.list (ds ++ [])) : M PyData) ω2) _ := q3
    refine q4 H2 F2 g2 s2 _ ?_
    rw [List.append_nil]
    exact ⟨D, rfl, hHD, fd2, acc, hd2, hds⟩
  have ex : xs[i]? = some xs[i] := List.getElem?_eq_getElem hlt
  obtain ⟨hgo, hy⟩ := hJ.go i H2 F2 xs[i] (Pz.of g2) ex
  refine .inr ⟨hgo, fun H' => Inv (i + 1) (xs.length - (i + 1)) H', fun H' h => ⟨_, by omega, h⟩, fun x H3 yl => ?_⟩
  obtain ⟨F3, e3, rx⟩ := hy x H3 yl
  rw [drop_cons ex] at q3
  have q3 : RPost g X.K W0 σ A H1 F1 (((bodyM g.gt call t ts e (clr (tgS t) ρ) xs[i] >>= fun o => match o with
      | none => compM (bodyM g.gt call t ts e (clr (tgS t) ρ)) (xs.drop (i + 1))
      | some y => do pure (y :: (← compM (bodyM g.gt call t ts e (clr (tgS t) ρ)) (xs.drop (i + 1))))) >>= fun ys => pure (PyData.list (ds ++ ys))) ω2) (fun d _ H' F' => ∀ v, RepN X.K X.w H F' H' v d → Q v H') := q3
  unfold bodyM at q3
  simp only [M.bnd_assoc] at q3
  obtain ⟨ρ2, ea, q4⟩ := RPost.asg q3
  have g3 := g2.trans e3.grow
  have s3 := s2.ext e3
  have r3 : Rel g X.K X.w A H0 F0 (clr (tgS t) ρ) (wipe σ (tgS t)) H3 F3 ω2 := ((r.grow g1 s1).grow g3 s3).clr _
  have hd3 : H3 D = some (.lst acc) := e3.grow.hs (Ex := ExA g A) _ _ nD hd2
  have fd3 : F3 D = none := (e3.grow (Ex := ExA g A)).nf fd2 hd2
  refine ⟨A, H0, F0, _, F3, ω2, _, _, r3, rx, ea, fun _ h => h, fun σ2 hw r4 => ⟨by rw [hw, wipe_wipe], ?_⟩⟩
  refine ⟨A, H0, F0, ρ2, F3, ω2, r4, ((RPost.sig (RPost.bindB q4)).mono g3).imp fun b ω4 H4 F4 g4 s4 q5 => ?_⟩
  have hd4 : H4 D = some (.lst acc) := g4.hs _ _ nD hd3
  have fd4 : F4 D = none := g4.nf fd3 hd3
  cases b with
  | false =>
    rw [if_neg Bool.false_ne_true] at q5
    show Inv (i + 1) (xs.length - (i + 1)) H4
    exact ⟨F4, ω4, acc, ds, hlt, rfl, g3.trans g4, s4, hd4, fd4, by omega, dpAll_mono (e3.fs.trans g4.fs) _ _ hds, q5⟩
  | true =>
    rw [if_pos rfl] at q5
    simp only [M.bnd_assoc] at q5
    show tE g call X W0 e σ2 H4 _
    refine ⟨A, H0, F0, ρ2, F4, ω4, r4.grow g4 s4, ((RPost.sig (RPost.bindB q5)).mono (g3.trans g4)).imp fun y ω5 H5 F5 g5 s5 q6 v rv => ?_⟩
    rw [he] at rv
    have hd5 : H5 D = some (.lst acc) := g5.hs _ _ nD hd4
    have fd5 : F5 D = none := g5.nf fd4 hd4
    refine ⟨acc, hd5, by rw [sizeLine_eq]; omega, ?_⟩
    have hk : okEl y = true ∧ RPost g X.K W0 σ A H1 F1 ((compM (bodyM g.gt call t ts e (clr (tgS t) ρ)) (xs.drop (i + 1)) >>= fun ys => pure (PyData.list (ds ++ [y] ++ ys))) ω5) (fun d _ H' F' => ∀ v, RepN X.K X.w H F' H' v d → Q v H') := by
      cases hk : okEl y with
      | false => rw [hk] at q6; exact q6.elim
      | true =>
        rw [hk] at q6
        refine ⟨rfl, ?_⟩
        have : (compM (bodyM g.gt call t ts e (clr (tgS t) ρ)) (xs.drop (i + 1)) >>= fun ys => (pure (PyData.list (ds ++ [y] ++ ys)) : M PyData)) = compM (bodyM g.gt call t ts e (clr (tgS t) ρ)) (xs.drop (i + 1)) >>= fun ys => pure (PyData.list (ds ++ y :: ys)) := by
          congr 1
          funext ys
          rw [List.append_assoc]; rfl
        rw [this]
        have q6 : RPost g X.K W0 σ A H1 F1 (((compM (bodyM g.gt call t ts e (clr (tgS t) ρ)) (xs.drop (i + 1)) >>= fun ys => pure (y :: ys)) >>= fun ys => pure (PyData.list (ds ++ ys))) ω5) (fun d _ H' F' => ∀ v, RepN X.K X.w H F' H' v d → Q v H') := q6
        rw [M.bnd_assoc] at q6
        exact q6
    have hdq : Dq X.K F5 v y := by
      cases rv with
      | dat h => exact h
      | dic h => exact absurd hk.1 (by simp [okEl, isDic])
    refine ⟨F5, ω5, acc ++ [v], ds ++ [y], hlt, rfl, ((g3.trans g4).trans g5).updN hD fd5, s5.upd nD fd5, upd_same, fd5, by rw [List.length_append]; simp; omega, dpa_app (dpAll_mono ((e3.fs.trans g4.fs).trans g5.fs) _ _ hds) (.cons hdq .nil), hk.2⟩
end
end Wv

set_option autoImplicit false
set_option linter.all false
set_option maxRecDepth 100000
set_option maxHeartbeats 4000000
namespace Wv
open PySem PySem.Spec PyProof.Rows L2
/-! sorted: of a tuple, backwards; the order of ints -/
section
variable {prog : Program} {w : World} {A : Around} {E : Value → Shared → Prop} {s : Shared}
theorem collect_tup {l : Addr} {vs : List Value} {Q : List Value → Shared → Prop} (hl : IsTup s.heap l vs.toArray)
    (h : Q vs { s with heap := (s.heap.push (seqObj "list" #[] 0)).update s.heap.objs.size (Obj.mapSeq (· ++ vs.toArray)) }) (hsz : vs.length ≤ sizeLine) :
    wpAny (model prog w) A (collect (.ref l)) Q E s := by
  obtain ⟨o, ho, hc, n, hd⟩ := id hl
  unfold collect
  refine wpAny_bind (wpAny_runValue (codeAny_builtin entry_proto_collect' ?_))
  show wpAny _ _ (do again (.builtin "list.__iadd__" ⟨[← newList [], .ref l], []⟩)) _ _ s
  refine wpAny_bind (wpAny_newList (wpAny_pure ⟨Code.quiet_builtin _ (by decide +kernel), codeAny_builtin entry_list_iadd' ?_⟩))
  show wpAny _ _ (Builtin.List.listExtendWith (.ref s.heap.objs.size) (.ref l) (.ref s.heap.objs.size)) _ _ { s with heap := s.heap.push (seqObj "list" #[] 0) }
  unfold Builtin.List.listExtendWith
  have ho' : (s.heap.push (seqObj "list" #[] 0)).get? l = some o := Heap.get?_push_of_some _ ho
  refine wpAny_bind (wpAny_typeOf (T := "tuple") ⟨o, ho', hc⟩ ?_)
  have ht : (Value.type "tuple" == Value.type "tuple") = true := by rfl
  rw [if_pos (by rw [ht]; simp)]
  refine wpAny_bind (listItems_at ho' hd ?_)
  refine wpAny_bind (listItems_at (xs := #[]) (n := 0) (Heap.get?_push_size _ rfl) rfl ?_)
  rw [if_neg (by simp)]
  refine wpAny_bind (listUpdate_at (xs := #[]) (n := 0) (Heap.get?_push_size _ rfl) rfl ?_ (Nat.zero_le _) (by show (#[] ++ vs.toArray).size ≤ sizeLine + 1; simp only [Array.size_append, List.size_toArray, List.length_nil]; omega))
  refine wpAny_pure ?_
  show wpAny (model prog w) A (do
      let o ← load s.heap.objs.size
      match o.data with
      | .seq xs _ => pure xs.toList
      | _ => unsupported "internal:collect") Q E { s with heap := (s.heap.push (seqObj "list" #[] 0)).update s.heap.objs.size (Obj.mapSeq (· ++ vs.toArray)) }
  refine wpAny_bind (wpAny_load (get?_update_seq (Heap.get?_push_size _ rfl) _) ?_)
  show wpAny _ _ (pure ((#[] : Array Value) ++ vs.toArray).toList) Q E _
  rw [show ((#[] : Array Value) ++ vs.toArray).toList = vs by simp]
  exact wpAny_pure h
/-- sorted(t, ..) of a tuple t is list.sort(..) on a new list -/
theorem sorted_of_sortT {l : Addr} {vs : List Value} {kw : List (Str × Value)} {Q : Value → Shared → Prop} (hl : IsTup s.heap l vs.toArray) (hL : vs.length ≤ sizeLine) (ha1 : argsOk "sorted" ⟨[.ref l], kw⟩) (ha2 : ∀ x, argsOk "list.sort" ⟨[.ref x], kw⟩)
    (body : ∀ E' : Value → Shared → Prop, wpAny (model prog w) A.in1.in1 (Builtin.«list.sort» ⟨[.ref (s.heap.objs.size + 1)], kw⟩) (fun f s' => f = .done (.ret .none) ∧ Q (.ref (s.heap.objs.size + 1)) s') E' { s with heap := PySem.W.copyHeap s.heap vs }) :
    wpAny (model prog w) A (call (.builtin "sorted") [.ref l] kw) Q E s := by
  refine call_function_entry_kw kind_sorted plain_sorted entry_sorted ha1 ?_
  unfold Builtin.«sorted»
  refine wpAny_bind (m := checkCount "sorted" 1 1 _) (wpAny_pure ?_)
  refine wpAny_bind (collect_tup hl ?_ hL)
  refine wpAny_bind (wpAny_newList ?_ hL)
  have hsz : ((s.heap.push (seqObj "list" #[] 0)).update s.heap.objs.size (Obj.mapSeq (· ++ vs.toArray))).objs.size = s.heap.objs.size + 1 := by
    rw [Heap.size_update, size_push']
  show wpAny _ _ _ _ _ { s with heap := PySem.W.copyHeap s.heap vs }
  rw [hsz]
  refine wpAny_bind (wpAny_holding (wpAny_call_entry_kw slot_list_sort ⟨_, PySem.W.copyHeap_at s.heap vs, rfl⟩ entry_list_sort ?body (ha2 _)))
  case body =>
    show wpAny (model prog w) A.in1.in1 (Builtin.«list.sort» ⟨[.ref (s.heap.objs.size + 1)], kw⟩) _ _ _
    refine wpAny_mono (body _) (fun f s' hf => ?_) fun _ _ e => e
    obtain ⟨rfl, hq⟩ := hf
    exact ⟨_, rfl, wpAny_pure ⟨_, rfl, hq⟩⟩
variable {β : Type} {vs : List Value} {bs : List β} {enc : β → PyData} {R : Value → β → Prop}
theorem sorted_rev_dataT {l : Addr} {b : Bool} {Q : Value → Shared → Prop} (hl : IsTup s.heap l vs.toArray) (e : PySem.W.EachIs R vs bs) (er : PySem.W.EachIs (fun v b => ∃ as, Reads s.heap v (enc b) as) vs bs) (hal : PySem.W.AllAlike (bs.map enc)) (hk : PySem.W.Sortable (bs.map enc)) (hL : bs.length ≤ sizeLine)
    (hu : ∀ b, b ∈ bs → A.units + 2 + (enc b).depth < cLine) (h : ∀ out, out.length = bs.length → PySem.W.EachIs R out (bs.mergeSort (PySem.W.dataLe b enc)) → Q (.ref (s.heap.objs.size + 1)) { s with heap := sortedAll s.heap vs (List.toArray out) }) :
    wpAny (model prog w) A (call (.builtin "sorted") [.ref l] [(Str.ofString "reverse", .bool b)]) Q E s := by
  have er' : PySem.W.EachIs (fun v b => ∃ as, Reads (PySem.W.sortingHeap (PySem.W.copyHeap s.heap vs) (s.heap.objs.size + 1) vs) v (enc b) as) vs bs := er.mono fun _ _ ⟨as, r⟩ => ⟨as, PyProof.Rows.Reads.keeps (fun _ _ => PySem.W.sorting_copy_old) r⟩
  have hLv : vs.length ≤ sizeLine := by rw [e.length]; exact hL
  exact sorted_of_sortT hl hLv (args_sorted_rev _ _) (fun _ => args_list_sort_rev _ _) fun _ => PySem.W.list_sort_rev_vals (s := { s with heap := PySem.W.copyHeap s.heap vs }) (PySem.W.copyHeap_at s.heap vs)
    (PySem.W.SortsAt.data (s := { s with heap := PySem.W.sortingHeap (PySem.W.copyHeap s.heap vs) (s.heap.objs.size + 1) vs }) (PySem.W.each_map (R := fun v d => ∃ as, Reads (PySem.W.sortingHeap (PySem.W.copyHeap s.heap vs) (s.heap.objs.size + 1) vs) v d as) enc er') hal hk (PySem.W.bound_map hu)) hLv
    ⟨rfl, h _ (by rw [PySem.W.sortVals_length b rfl]; exact e.length) (PySem.W.sortVals_data b e er' hal)⟩
theorem sorted_dataT {l : Addr} {Q : Value → Shared → Prop} (hl : IsTup s.heap l vs.toArray) (e : PySem.W.EachIs R vs bs) (er : PySem.W.EachIs (fun v b => ∃ as, Reads s.heap v (enc b) as) vs bs) (hal : PySem.W.AllAlike (bs.map enc)) (hk : PySem.W.Sortable (bs.map enc)) (hL : bs.length ≤ sizeLine)
    (hu : ∀ b, b ∈ bs → A.units + 2 + (enc b).depth < cLine) (h : ∀ out, out.length = bs.length → PySem.W.EachIs R out (bs.mergeSort (PySem.W.dataLe false enc)) → Q (.ref (s.heap.objs.size + 1)) { s with heap := sortedAll s.heap vs (List.toArray out) }) :
    wpAny (model prog w) A (call (.builtin "sorted") [.ref l]) Q E s := by
  have er' : PySem.W.EachIs (fun v b => ∃ as, Reads (PySem.W.sortingHeap (PySem.W.copyHeap s.heap vs) (s.heap.objs.size + 1) vs) v (enc b) as) vs bs := er.mono fun _ _ ⟨as, r⟩ => ⟨as, PyProof.Rows.Reads.keeps (fun _ _ => PySem.W.sorting_copy_old) r⟩
  have hLv : vs.length ≤ sizeLine := by rw [e.length]; exact hL
  exact sorted_of_sortT hl hLv (args_sorted1 _) (fun _ => args_list_sort _) fun _ => PySem.W.list_sort_vals (s := { s with heap := PySem.W.copyHeap s.heap vs }) (PySem.W.copyHeap_at s.heap vs)
    (PySem.W.SortsAt.data (s := { s with heap := PySem.W.sortingHeap (PySem.W.copyHeap s.heap vs) (s.heap.objs.size + 1) vs }) (PySem.W.each_map (R := fun v d => ∃ as, Reads (PySem.W.sortingHeap (PySem.W.copyHeap s.heap vs) (s.heap.objs.size + 1) vs) v d as) enc er') hal hk (PySem.W.bound_map hu)) hLv
    ⟨rfl, h _ (by rw [PySem.W.sortVals_length false rfl]; exact e.length) (PySem.W.sortVals_data false e er' hal)⟩
end
end Wv

set_option autoImplicit false
set_option linter.all false
set_option maxRecDepth 100000
set_option maxHeartbeats 4000000
namespace Wv
open PySem PySem.Spec PyProof.Rows L2
section
variable {X : Cx} {pins : List (Addr × Obj)} {σ : L2.St} {H : Hp} {s : Shared}
/-- the context of a generator expression's frame -/
abbrev gblk (X : Cx) (s : Shared) (H : Hp) (cenv : PySem.Env) (fp : List Addr) (A : Around) (pn : List (Addr × Obj)) : Cx :=
  { X with A := A, s_0 := s, H_0 := H, env := cenv, outer := X.stack, stack := cenv :: X.stack, ex := fp, fn := fun _ => false, pn := pn, xe := fun _ _ => False }
/-- the same heap -/
theorem inv_heap {s' : Shared} (I : Inv X pins σ H s) (h : s'.heap = s.heap) (ho : s'.os = s.os) (hg : AllBare s'.gens) : Inv X pins σ H s' := by
  refine ⟨I.ok, ho.trans I.os, hg, ?_, ?_, ?_, I.free, I.freeC, ?_, ?_, I.len⟩
  · rw [h]; exact I.base
  · rw [h]; exact I.loc
  · rw [h]; exact I.cell
  · rw [h]; exact I.pin
  · rw [h]; exact I.hok
theorem gblock_start {scope : Scope} {own : List (Str × Nat)} {fp : List Addr} {cenv : PySem.Env} {A : Around} {s' : Shared} {m : Str → Option Value} {code : Value} {a : Addr} {go : Obj} (I : Inv X pins σ H s) (ok : BlkOk X.N X.env.scope scope own) (nc : ∀ y ∈ scope.names, y.2 ≠ .cell) (hN : X.N.Nodup)
    (hfp : ∀ b ∈ fp, FpOk X pins H b ∧ b < s.heap.objs.size) (he : cenv = genEnv scope (cloFrom X.env.cells scope.names []) s.heap.objs.size code builtinsNs X.env) (hA1 : X.calm = true → A.handled = none) (hA2 : A.frames = some (cenv :: X.stack))
    (kp : ∀ b o, s.heap.get? b = some o → s'.heap.get? b = some o) (hn : s'.heap.Ns s.heap.objs.size m) (ha : s'.heap.get? a = some go) (hga : s.heap.objs.size < a) (hgo : ∀ v, go.data ≠ .cell v) (hos : s'.os = s.os) (hb : AllBare s'.gens) :
    Inv (gblk X s H cenv fp A [(a, go)]) [] (wipe σ (own.map (·.2))) H s' := by
  have hfree : ∀ y ∈ scope.names, y.2 = .free → ∃ c, X.env.cells.lookup y.1 = some c := fun y hy e => by
    rcases ok.free y hy e with k | k
    · exact I.ok.has _ (.inl k)
    · exact I.ok.has _ (.inr k)
  have hL : cenv.locals = s.heap.objs.size := by rw [he]; rfl
  have hcl : cenv.cells = cloFrom X.env.cells scope.names [] := by rw [he]; rfl
  have hsc : cenv.scope = scope := by rw [he]; rfl
  have mem : ∀ {y c}, cenv.cells.lookup y = some c → X.env.cells.lookup y = some c ∧ c < s.heap.objs.size := fun {y c} e => by
    rw [hcl] at e
    rcases cloFrom_mem (PySem.mem_of_lookup e) with hm | ⟨h1, rfl⟩
    · cases hm
    · obtain ⟨c, hc⟩ := hfree _ h1 rfl
      rw [hc]
      obtain ⟨w, z⟩ := I.cell _ _ hc
      exact ⟨rfl, z.lt⟩
  have look : ∀ {y}, scope.names.lookup y = some .free → ∃ c, cenv.cells.lookup y = some c ∧ X.env.cells.lookup y = some c := fun {y} hl => by
    have hy : (y, NameKind.free) ∈ scope.names := PySem.mem_of_lookup hl
    obtain ⟨c', e'⟩ := mem_lookup (cloFrom_has (cells := X.env.cells) (acc := []) hy)
    rw [← hcl] at e'
    exact ⟨c', e', (mem e').1⟩
  have okB : (gblk X s H cenv fp A [(a, go)]).Ok := by
    refine ⟨I.ok.mod, by show cenv.scope.kind = _; rw [hsc]; exact ok.kind, by show cenv.globals = _; rw [he]; exact I.ok.glob, by show cenv.builtins = _; rw [he]; rfl, by show s.heap.objs.size ≤ cenv.locals; rw [hL]; exact Nat.le_refl _,
      fun y z c e1 e2 => ?_, fun y hy => ?_, fun y c z e => ?_, hA1, hA2, .inr ⟨rfl, ?_⟩, fun b hb => ⟨?_, fun y c e z => ?_⟩, I.bs, Nat.le_trans I.ok.bsz I.sz, fun b o e hb => ?_, fun b hb z => ?_, I.stack, I.stkFree⟩
    · exact I.ok.inj y z c (mem e1).1 (mem e2).1
    · show ∃ c, cenv.cells.lookup y = some c
      have key : cenv.kindOf y = some .free → ∃ c, cenv.cells.lookup y = some c := fun hk => by
        unfold PySem.Env.kindOf at hk
        rw [hsc] at hk
        obtain ⟨c, h1, _⟩ := look hk
        exact ⟨c, h1⟩
      rcases hy with hy | hy
      · have hy : cenv.kindOf y = some .cell := hy
        unfold PySem.Env.kindOf at hy
        rw [hsc] at hy
        exact (nc _ (PySem.mem_of_lookup hy) rfl).elim
      · exact key hy
    · cases z
    · show cenv.frame = some cenv.locals
      rw [he]; rfl
    · show b ≠ cenv.locals
      rw [hL]; exact Nat.ne_of_lt (hfp b hb).2
    · exact (hfp b hb).1.2.2.2.2.1 y c (mem e).1 z
    · rcases (hfp b hb).1.2.2.2.1 with z | z
      · exact I.ok.noex b o e z
      · exact absurd (Nat.lt_of_lt_of_le (Heap.lt_size e) (Nat.le_trans I.ok.bsz z)) (Nat.lt_irrefl _)
    · rcases List.mem_cons.mp (I.stkSub b z) with z | z
      · exact (hfp b hb).1.2.1 z
      · exact (hfp b hb).1.2.2.1 z
  refine ⟨okB, hos, hb, Un.kept kp, ⟨m, ?_, fun i y av e1 e2 e3 => ?_⟩, fun y c e => ?_, ?_, fun y c e => ?_, fun p hp => ?_, I.hok.kept kp, by rw [wipe_length]; exact I.len⟩
  · show Heap.Ns _ cenv.locals _
    rw [hL]; exact hn
  · obtain ⟨e2, hne⟩ := wipe_some e2
    have hfr : scope.names.lookup y = some .free := by
      have no : ∀ k', scope.names.lookup y = some k' → ¬ (k' = .local ∨ k' = .cell) := fun k' e hh => by
        rcases ok.own _ (PySem.mem_of_lookup e) hh with e' | e'
        · obtain ⟨p, hp, hpy⟩ := List.mem_map.mp e'
          have e3 := ok.ix p hp
          have : p.1 = y := hpy
          rw [this] at e3
          exact hne (List.mem_map.mpr ⟨p, hp, nodup_ix hN e3 e1⟩)
        · exact e' (List.mem_of_getElem? e1)
      have e3 : Vis cenv.scope y := e3
      rw [hsc] at e3
      rcases e3 with e3 | e3 | e3
      · exact (no _ e3 (.inl rfl)).elim
      · exact (no _ e3 (.inr rfl)).elim
      · exact e3
    have hkf : cenv.kindOf y = some .free := by
      unfold PySem.Env.kindOf
      rw [hsc]; exact hfr
    obtain ⟨m', hn', hl⟩ := I.loc
    have hvis : Vis X.env.scope y := (ok.free _ (PySem.mem_of_lookup hfr) rfl).elim (fun k => .inr (.inl k)) (fun k => .inr (.inr k))
    obtain ⟨w, r, q⟩ := hl i y av e1 e2 hvis
    refine ⟨w, r, .inr ⟨.inr hkf, ?_⟩⟩
    obtain ⟨c, h1, h2⟩ := look hfr
    rcases q with ⟨k, _⟩ | ⟨_, c', e', z⟩
    · have k : X.env.scope.names.lookup y = some .local := k
      rcases ok.free _ (PySem.mem_of_lookup hfr) rfl with k' | k' <;> rw [show X.env.scope.names.lookup y = _ from k'] at k <;> cases k
    · rw [h2] at e'; cases e'
      exact ⟨c, h1, z.keeps kp⟩
  · obtain ⟨w, z⟩ := I.cell y c (mem e).1
    exact ⟨w, z.keeps kp⟩
  · show H cenv.locals = none
    rw [hL]; exact I.hok.fresh (Nat.le_refl _)
  · exact I.freeC y c (mem e).1
  · have hp : p ∈ [(a, go)] ++ [] := hp
    have : p = (a, go) := by simpa using hp
    subst this
    refine ⟨ha, I.hok.fresh (Nat.le_of_lt hga), ?_, ?_, hgo⟩
    · show a ≠ cenv.locals
      rw [hL]; exact Nat.ne_of_gt hga
    · show a ∉ frs X.stack
      intro z
      rcases List.mem_cons.mp (I.stkSub a z) with z | z
      · exact absurd (Nat.lt_trans I.lt hga) (by rw [z]; exact Nat.lt_irrefl _)
      · exact I.nofs (Nat.le_of_lt hga) z
end
end Wv

set_option autoImplicit false
set_option linter.all false
set_option maxRecDepth 100000
set_option maxHeartbeats 4000000
namespace Wv
open PySem PySem.Spec PyProof.Rows L2
section
/-- how a generator expression's frame goes on -/
def gR (Xg : Cx) (Q : VK) (isAll : Bool) : GenEnd := fun n s₀ r s₁ => r = .ok .next ∧ ∃ σ H, Inv Xg [] σ H s₁ ∧ Q (.bl isAll) H
def gY (Xg : Cx) (Q : VK) (isAll : Bool) : Protocol := fun n s₀ v s₁ kap => ∃ ps σ H b, Inv Xg ps σ H s₁ ∧ v = .bool b ∧ ((b = isAll ∧ ∀ s', s'.heap = s₁.heap → s'.os = s₁.os → AllBare s'.gens → kap (.send .none) s') ∨ (b = !isAll ∧ Q (.bl (!isAll)) H))
/-- one turn's wish -/
def gTurn (J : It) (g : TG) (te : TE) (vs : List Nat) (σ : L2.St) (isAll : Bool) (Q : VK) (W : Nat → Nat → Hp → Prop) : Prop := ∀ i m H, W i m H →
  (J.stop i H ∧ Q (.bl isAll) H) ∨ (J.go i H ∧ ∃ Nx : Hp → Prop, (∀ H', Nx H' → ∃ m', m' < m ∧ W (i + 1) m' H') ∧ ∀ x H', J.yld i H x H' → g x (wipe σ vs) H' fun σ2 H2 => wipe σ2 vs = wipe σ vs ∧ te σ2 H2 fun y H3 => ∃ b, y = .bl b ∧
    if b = isAll then Nx H3 else Q (.bl (!isAll)) H3)
variable {Xg : Cx} {elt tg iter : Expr} {scope : Scope} {gpos : Pos} {it : Addr} {fp : List Addr} {tn : Nat → Heap → Prop} {J : It} {g : TG} {te : TE} {vs : List Nat} {σ : L2.St} {isAll : Bool} {Q : VK} {W : Nat → Nat → Hp → Prop} {Aw : Around}
theorem seg_gen (hA : Aw.over (.compLoop (.GeneratorExp elt [⟨tg, iter, [], 0⟩] scope gpos) 0 (.ref it) .none Xg.env) [] = Xg.A) (hco : Xg.env.scope.isCoroutine = false) (hx : Xg.xe = fun _ _ => False) (hc : Xg.calm = true)
    (hex : ∀ b ∈ fp, b ∈ Xg.ex) (hpn : ∀ p ∈ Xg.pn, p.1 ∉ fp) (T : Turn Xg.prog Xg.w Xg.K tg J fp it tn) (pg : PG Xg tg g) (pe : PE Xg elt te) (turn : gTurn J g te vs σ isAll Q W) :
    ∀ (m n i : Nat) (s₀ s : Shared) (H : Hp), m < n → Inv Xg [] (wipe σ vs) H s → tn i s.heap → (∀ b ∈ fp, H b = none) → W i m H →
      Seg (model Xg.prog Xg.w) Aw (gR Xg Q isAll) (gY Xg Q isAll) n s₀ (.compLoop (.GeneratorExp elt [⟨tg, iter, [], 0⟩] scope gpos) 0 (.ref it) .none Xg.env)
        ((model Xg.prog Xg.w).den (.compLoop (.GeneratorExp elt [⟨tg, iter, [], 0⟩] scope gpos) 0 (.ref it) .none Xg.env)) [] s := by
  have stat : ∀ {σ' : L2.St} {H' : Hp} {s' : Shared}, Inv Xg [] σ' H' s' → (∀ b ∈ fp, H' b = none) → ∀ b ∈ fp, FpOk Xg [] H' b := fun {σ' H' s'} I' hn b hb =>
    ⟨hn b hb, (I'.ok.exf b (hex b hb)).1, I'.ok.exfs b (hex b hb), .inl (hex b hb), fun x c e => (I'.ok.exf b (hex b hb)).2 x c e, fun p hp z => hpn p (by simpa using hp) (z ▸ hb)⟩
  have hE : ∀ (e : Value) (s : Shared), Xg.xe e s → False := fun e s h => by rw [hx] at h; exact h
  intro m
  induction m using Nat.strongRecOn with
  | ind m ih =>
  intro n i s₀ s H hmn I st hn w
  obtain ⟨n, rfl⟩ : ∃ k, n = k + 1 := ⟨n - 1, by omega⟩
  show Seg _ Aw _ _ _ s₀ _ ((compTurn (.GeneratorExp elt [⟨tg, iter, [], 0⟩] scope gpos) 0 (.ref it) .none Xg.env).onRaise (leaving Xg.env)) [] s
  rw [compTurn_gen, Sem.onRaise_eq_wrap]
  refine seg_bind_wrap (wpAny_standAt ?_)
  rcases turn i m H w with ⟨stop, qq⟩ | ⟨go, Nx, hNx, step⟩
  · refine seg_bind_wrap ?_
    rw [hA]
    refine wpAny_mono (T.done Xg rfl rfl rfl hc i [] s _ H (fun _ _ => False) I (stat I hn) st stop) (fun r s6 ⟨hr, I6⟩ => ?_) fun _ _ z => z.elim
    subst hr
    exact seg_end (.ok .next) ⟨rfl, _, _, I6, qq⟩
  · refine seg_bind_wrap ?_
    rw [hA]
    refine wpAny_mono (T.item Xg rfl rfl rfl hc i [] s _ H (fun _ _ => False) I (stat I hn) st go) (fun r s6 ⟨u, hr, h6⟩ => ?_) fun _ _ z => z.elim
    subst hr
    refine seg_bind_wrap ?_
    rw [hA]
    refine wpAny_mono h6 (fun _ s7 ⟨x, H7, I7, r7, y7, st7, n7⟩ => ?_) fun _ _ z => z.elim
    have I7' := I7.pinned (stat I7 n7) (T.obj _ _ st7)
    refine seg_bind_wrap ?_
    rw [hA]
    refine wpAny_mono (pg.run _ s7 _ H7 x u _ I7' r7 (step x H7 y7)) (fun _ s8 ⟨σ8, H8, I8, hw8, q8⟩ => ?_) fun e s z => (hE e s z).elim
    refine seg_bind_wrap (wpAny_pure ?_)
    simp only [if_true]
    have hy : ∀ v, yieldOut Xg.env v = yieldValue v := fun v => by simp only [yieldOut, hco, Bool.false_eq_true, if_false]
    simp only [hy]
    rw [Sem.bind_eq_wrap', Sem.bind_eq_wrap', Sem.wrap_wrap, Sem.wrap_wrap]
    refine seg_wrap ?_
    rw [hA]
    refine wpAny_mono (pe.run _ s8 σ8 H8 _ I8 q8) (fun z s10 hz => ?_) fun e s z => (hE e s z).elim
    obtain ⟨y, H10, I10, r10, b, rfl, nx⟩ := hz
    refine seg_at (seg_yield rfl rfl rfl ⟨_, σ8, H10, b, I10, r10, ?_⟩)
    cases hb : (b == isAll) with
    | false =>
      have : b = !isAll := by cases b <;> cases isAll <;> first | rfl | cases hb
      refine .inr ⟨this, ?_⟩
      rw [if_neg (by rw [this]; cases isAll <;> decide)] at nx
      exact nx
    | true =>
      have hb := eq_of_beq hb
      rw [if_pos hb] at nx
      refine .inl ⟨hb, fun s' hh ho hg => ?_⟩
      obtain ⟨m', hm, w'⟩ := hNx H10 nx
      have pin' : ∀ b ∈ fp, ∀ o, s7.heap.get? b = some o → s10.heap.get? b = some o ∧ H10 b = none := fun b hb o e =>
        let z := I10.pin (b, o) (List.mem_append_right _ (List.mem_append_right _ (mem_pinsAt hb e)))
        ⟨z.1, z.2.1⟩
      have hl : (wipe σ vs).length = σ8.length := by rw [← hw8, wipe_length]
      refine seg_again rfl (ih m' hm n (i + 1) s' s' H10 (by omega) (inv_heap ((I10.unpinned (pins := [])).weak hl (fun j v e => ?_)) hh ho hg) (T.keep _ _ _ st7 fun b hb o e => ?_) (fun b hb => ?_) w')
      · rw [← hw8] at e
        exact (wipe_some e).1
      · rw [hh]; exact (pin' b hb o e).1
      · obtain ⟨o, e, _⟩ := T.obj _ _ st7 b hb
        exact (pin' b hb o e).2
theorem seg_gen0 (hA : Aw.over (.compLoop (.GeneratorExp elt [⟨tg, iter, [], 0⟩] scope gpos) 0 (.ref it) .none Xg.env) [] = Xg.A) (hco : Xg.env.scope.isCoroutine = false) (hx : Xg.xe = fun _ _ => False) (hc : Xg.calm = true)
    (hex : ∀ b ∈ fp, b ∈ Xg.ex) (hpn : ∀ p ∈ Xg.pn, p.1 ∉ fp) (T : Turn Xg.prog Xg.w Xg.K tg J fp it tn) (pg : PG Xg tg g) (pe : PE Xg elt te) (turn : gTurn J g te vs σ isAll Q W)
    {m n : Nat} {s₀ s : Shared} {H : Hp} (hmn : m < n) (I : Inv Xg [] (wipe σ vs) H s) (st : tn 0 s.heap) (hn : ∀ b ∈ fp, H b = none) (w : W 0 m H) :
      Seg (model Xg.prog Xg.w) Aw (gR Xg Q isAll) (gY Xg Q isAll) n s₀ (.compStart (.GeneratorExp elt [⟨tg, iter, [], 0⟩] scope gpos) 0 (.ref it) .none Xg.env)
        ((model Xg.prog Xg.w).den (.compStart (.GeneratorExp elt [⟨tg, iter, [], 0⟩] scope gpos) 0 (.ref it) .none Xg.env)) [] s := by
  have loop := seg_gen hA hco hx hc hex hpn T pg pe turn m n 0 s₀ s H hmn I st hn w
  show Seg _ Aw _ _ _ s₀ _ ((compStart (.GeneratorExp elt [⟨tg, iter, [], 0⟩] scope gpos) 0 (.ref it) .none Xg.env).onRaise (leaving Xg.env)) [] s
  unfold compStart
  rw [Sem.onRaise_eq_wrap]
  show Seg _ Aw _ _ _ s₀ _ ((ask >>= _).wrap _ _ _ _) [] s
  refine seg_bind_wrap (wpAny_askSetting ?_)
  split
  · exact seg_again rfl loop
  · first
      | exact seg_bind_wrap (wpAny_rule (seg_bind_wrap (wpAny_standAt (seg_bind_wrap (T.self _ 0 s _ _ st (seg_again rfl loop))))))
      | (refine seg_bind_wrap (wpAny_rule ?_); show Seg _ Aw _ _ _ s₀ _ ((standAt iter.pos >>= _).wrap _ _ _ _) [] s; exact seg_bind_wrap (wpAny_standAt (seg_bind_wrap (T.self _ 0 s _ _ st (seg_again rfl loop)))))
end
end Wv

set_option autoImplicit false
set_option linter.all false
set_option maxRecDepth 100000
set_option maxHeartbeats 4000000
namespace Wv
open PySem PySem.Spec PyProof.Rows L2 GenW
section
variable {Xg : Cx} {Q : VK} {isAll : Bool} {a : Addr} {gi : Nat} {A : Around} {R : Result → Shared → Prop} {go : Obj}
def loopName (isAll : Bool) : String := if isAll = true then "all.loop" else "any.loop"
/-- the consumer, all or any -/
theorem gen_drain (hh : A.handled = none) (hd : A.depth < recursionLimit) (hgo : ∀ h : Heap, h.get? a = some go → h.IsGen a gi) (hpn : (a, go) ∈ Xg.pn)
    (hend : ∀ s' σ H b, Inv Xg [] σ H s' → Q (.bl b) H → R (.ok (.ret (.bool b))) s') :
    ∀ (n : Nat) (s : Shared), s.heap.IsGen a gi → s.heap.NoLimit →
      (∃ gs, s.gens[gi]? = some gs ∧ gs.Goes (model Xg.prog Xg.w) A.in1.in1 (gR Xg Q isAll) (gY Xg Q isAll) n (.send .none) (s.setGen gi .running)) →
      codeAny (model Xg.prog Xg.w) A (.builtin (loopName isAll) ⟨[.ref a], []⟩) R s := by
  have goes : ∀ {gs : GenState} {B : Around} {n : Nat} {r : Resume} {s : Shared}, gs.Goes (model Xg.prog Xg.w) B (gR Xg Q isAll) (gY Xg Q isAll) n r s →
      gs.Goes (model Xg.prog Xg.w) B (fun n s₀ r s1 => r = .ok .next ∧ (fun n s₀ s1 => ∃ σ H, Inv Xg [] σ H s1 ∧ Q (.bl isAll) H) n s₀ s1) (gY Xg Q isAll) n r s := fun h => h
  have key : ∀ (n : Nat) (s : Shared), s.heap.IsGen a gi → s.heap.NoLimit →
      (∃ gs, s.gens[gi]? = some gs ∧ gs.Goes (model Xg.prog Xg.w) A.in1.in1 (gR Xg Q isAll) (gY Xg Q isAll) n (.send .none) (s.setGen gi .running)) →
      (∀ (s1 : Shared) gs', 0 < n → gi < s1.gens.size → s1.heap.IsGen a gi → s1.heap.NoLimit → AllBare s1.gens → gs'.bare = true → (∀ s', s'.heap = s1.heap → s'.os = s1.os → AllBare s'.gens → gs'.Goes (model Xg.prog Xg.w) A.in1.in1 (gR Xg Q isAll) (gY Xg Q isAll) (n - 1) (.send .none) s') →
        codeAny (model Xg.prog Xg.w) A (.builtin (loopName isAll) ⟨[.ref a], []⟩) R (s1.setGen gi gs')) →
      wpAny (model Xg.prog Xg.w) A.in1 (pyNext (.ref a)) (fun r s' => match r with
        | none => R (.ok (.ret (.bool isAll))) s'
        | some v => ∃ b, v = .bool b ∧ ((b = isAll ∧ codeAny (model Xg.prog Xg.w) A (.builtin (loopName isAll) ⟨[.ref a], []⟩) R s') ∨ (b = !isAll ∧ R (.ok (.ret (.bool (!isAll)))) s'))) (fun _ _ => False) s := by
    intro n s hg hl ⟨gs, hgs, hgo2⟩ ih
    have hgl : gi < s.gens.size := (Array.getElem?_eq_some_iff.mp hgs).1
    refine wpAny_mono (wpAny_gsz (n := gi + 1) (E := fun _ _ => False) hgl (wpAny_pyNext_genexpQ (A := A.in1) (P := fun n s₀ s1 => ∃ σ H, Inv Xg [] σ H s1 ∧ Q (.bl isAll) H) (Q := fun r s' => gi + 1 ≤ s'.gens.size → match r with
        | none => R (.ok (.ret (.bool isAll))) s'
        | some v => ∃ b, v = .bool b ∧ ((b = isAll ∧ codeAny (model Xg.prog Xg.w) A (.builtin (loopName isAll) ⟨[.ref a], []⟩) R s') ∨ (b = !isAll ∧ R (.ok (.ret (.bool (!isAll)))) s'))) hh hl hd hg hgs (goes hgo2) (fun v s1 gs' hbare hv => ?_) (fun s1 hp h' hk => ?_))) (fun r s' h => h) (fun _ _ z => z)
    · intro hsz
      obtain ⟨ps, σ, H, b, I, rfl, hv⟩ := hv
      refine ⟨b, rfl, ?_⟩
      rcases hv with ⟨hb, hk⟩ | ⟨hb, hq⟩
      · refine .inl ⟨hb, ?_⟩
        have hsz1 : gi < s1.gens.size := by
          have q : (s1.setGen gi gs').gens.size = s1.gens.size := setGen_size _ _ _
          have hsz' : gi + 1 ≤ (s1.setGen gi gs').gens.size := hsz
          omega
        have n0 : 0 < n := by
          rcases Nat.eq_zero_or_pos n with z | z
          · subst z
            exact (hk s1 rfl rfl I.bare).elim
          · exact z
        refine ih s1 gs' n0 hsz1 (hgo _ (I.pin _ (List.mem_append_left _ hpn)).1) I.nolimit I.bare hbare fun s' h1 h2 h3 => ?_
        have q := hk s' h1 h2 h3
        obtain ⟨k, rfl⟩ : ∃ k, n = k + 1 := ⟨n - 1, by omega⟩
        exact q
      · refine .inr ⟨hb, ?_⟩
        have I0 : Inv Xg [] σ H s1 := I.pins_of fun p hp => by cases hp
        exact hend _ σ H _ (inv_heap I0 rfl rfl (allBare_setGen I.bare hbare)) hq
    · intro hsz
      obtain ⟨σ, H, I, hq⟩ := hp
      have I1 : Inv Xg [] σ H { s1.setGen gi .finished with heap := h' } := by
        have I2 : Inv Xg [] σ H (s1.setGen gi .finished) := inv_heap I rfl rfl (allBare_setGen I.bare rfl)
        exact I2.kept (t' := (s1.setGen gi .finished).toks) hk
      exact hend _ σ H _ I1 hq
  have fold : ∀ (s : Shared), wpAny (model Xg.prog Xg.w) A.in1 (pyNext (.ref a)) (fun r s' => match r with
        | none => R (.ok (.ret (.bool isAll))) s'
        | some v => ∃ b, v = .bool b ∧ ((b = isAll ∧ codeAny (model Xg.prog Xg.w) A (.builtin (loopName isAll) ⟨[.ref a], []⟩) R s') ∨ (b = !isAll ∧ R (.ok (.ret (.bool (!isAll)))) s'))) (fun _ _ => False) s →
      codeAny (model Xg.prog Xg.w) A (.builtin (loopName isAll) ⟨[.ref a], []⟩) R s := by
    intro s kk
    cases isAll with
    | true =>
      show codeAny (model Xg.prog Xg.w) A (.builtin "all.loop" ⟨[.ref a], []⟩) R s
      refine codeAny_builtin F.entry_all_loop ?_
      rw [Around.under_plainId F.plain_all_loop _]
      show wpAny _ A.in1 (pyNext (.ref a) >>= _) _ _ s
      refine wpAny_bind (wpAny_mono kk (fun r s' h => ?_) fun _ _ z => z.elim)
      cases r with
      | none => exact wpAny_bind (wpAny_rule (wpAny_pure h))
      | some v =>
        obtain ⟨b, rfl, h⟩ := h
        refine wpAny_bind (wpAny_holding (wpAny_truthy_bool ?_))
        refine wpAny_bind (wpAny_letGo ?_)
        rcases h with ⟨hb, h⟩ | ⟨hb, h⟩
        · subst hb
          exact wpAny_pure ⟨plainId_quiet F.plain_all_loop _, h⟩
        · subst hb
          exact wpAny_bind (wpAny_rule (wpAny_pure h))
    | false =>
      show codeAny (model Xg.prog Xg.w) A (.builtin "any.loop" ⟨[.ref a], []⟩) R s
      refine codeAny_builtin F.entry_any_loop ?_
      rw [Around.under_plainId F.plain_any_loop _]
      show wpAny _ A.in1 (pyNext (.ref a) >>= _) _ _ s
      refine wpAny_bind (wpAny_mono kk (fun r s' h => ?_) fun _ _ z => z.elim)
      cases r with
      | none => exact wpAny_bind (wpAny_rule (wpAny_pure h))
      | some v =>
        obtain ⟨b, rfl, h⟩ := h
        refine wpAny_bind (wpAny_holding (wpAny_truthy_bool ?_))
        refine wpAny_bind (wpAny_letGo ?_)
        rcases h with ⟨hb, h⟩ | ⟨hb, h⟩
        · subst hb
          exact wpAny_pure ⟨plainId_quiet F.plain_any_loop _, h⟩
        · subst hb
          exact wpAny_bind (wpAny_rule (wpAny_pure h))
  intro n
  induction n with
  | zero =>
    intro s hg hl hgs
    exact fold s (key 0 s hg hl hgs (fun s1 gs' z => absurd z (Nat.lt_irrefl _)))
  | succ n ih =>
    intro s hg hl hgs
    refine fold s (key (n + 1) s hg hl hgs (fun s1 gs' _ h1 h2 h3 hb1 h4 h5 => ?_))
    refine ih (s1.setGen gi gs') h2 h3 ⟨gs', setGen_at h1, h5 _ rfl rfl ?_⟩
    exact allBare_setGen (allBare_setGen hb1 h4) rfl
end
end Wv

set_option autoImplicit false
set_option linter.all false
set_option maxRecDepth 100000
set_option maxHeartbeats 4000000
namespace Wv
open PySem PySem.Spec PyProof.Rows L2 GenW
def cName (isAll : Bool) : String := if isAll = true then "all" else "any"
/-- a generator expression's frame is a step deeper -/
def Nearer (X : Cx) (A : Around) : Prop := ∀ n, Room (n + 1) X.A → Room n A
def tGen (P : Addr) (isAll : Bool) (wi : TI) (g : TG) (te : TE) (vs : List Nat) : TE := fun σ H Q => wi σ H fun J H1 => GxR.TabG H1 P ∧ ∀ H2, GxR.Tabbed P H1 H2 → ∃ W : Nat → Nat → Hp → Prop, (∃ m, W 0 m H2) ∧ gTurn J g te vs σ isAll Q W
section
theorem call_gen {prog : Program} {w : World} {A : Around} {Q : Value → Shared → Prop} {E : Value → Shared → Prop} {isAll : Bool} {a : Addr} {gi : Nat} {s : Shared} (hg : s.heap.IsGen a gi)
    (h : codeAny (model prog w) A (.builtin (loopName isAll) ⟨[.ref a], []⟩) (fun r s' => match r with
      | .ok (.ret v) => Q v s'
      | _ => False) s) :
    wpAny (model prog w) A (call (.builtin (cName isAll)) [.ref a]) Q E s := by
  cases isAll with
  | true =>
    refine call_function_tree F.kind_all F.plain_all F.entry_all (F.args_all1 _) ?_
    unfold Builtin.«all»
    refine wpAny_bind (m := oneArg "all" _) (wpAny_pure ?_)
    refine wpAny_bind (wpAny_pyIter_gen hg ?_)
    refine wpAny_pure ⟨plainId_quiet F.plain_all_loop _, codeAny_mono (show codeAny (model prog w) A (.builtin "all.loop" ⟨[.ref a], []⟩) _ s from h) fun r s' hq => ?_⟩
    cases r with
    | error e => exact hq.elim
    | ok f => cases f <;> exact hq
  | false =>
    refine call_function_tree F.kind_any F.plain_any F.entry_any (F.args_any1 _) ?_
    unfold Builtin.«any»
    refine wpAny_bind (m := oneArg "any" _) (wpAny_pure ?_)
    refine wpAny_bind (wpAny_pyIter_gen hg ?_)
    refine wpAny_pure ⟨plainId_quiet F.plain_any_loop _, codeAny_mono (show codeAny (model prog w) A (.builtin "any.loop" ⟨[.ref a], []⟩) _ s from h) fun r s' hq => ?_⟩
    cases r with
    | error e => exact hq.elim
    | ok f => cases f <;> exact hq
theorem over_near {X : Cx} {e : PySem.Expr} {it acc : Value} {env : PySem.Env} {gs : List Comprehension} {sc : Scope} {p : Pos} : Nearer X (X.A.in1.in1.over (.compLoop (.GeneratorExp e gs sc p) 0 it acc env) []) := fun n r => by
  refine ⟨r.hd, ?_, ?_⟩
  · have := r.dp
    show X.A.depth + 0 + 1 + 3 * n + 5 < _
    omega
  · have := r.un
    show X.A.units + 1 + 1 + 0 + 3 + 16 * n + 200 < _
    omega
theorem mk_shared (s s' : Shared) (h : s'.os = s.os) : ({ s with heap := s'.heap, gens := s'.gens, drawn := s'.drawn, toks := s'.toks } : Shared) = s' := GxR.sh_eta s s' h
variable {X : Cx} {c P : Addr} {nm : Str} {isAll : Bool} {elt tg iter : PySem.Expr} {scope : Scope} {gpos p pos : Pos} {own : List (Str × Nat)} {wi : TI} {g : TG} {te : TE}
theorem pe_gen (hr : Room 1 X.A) (hG : Gl X nm) (hm : X.mg nm = none) (hb : bootBuiltins nm = some (.builtin (cName isAll))) (hnm : nm ≠ "__name__") (hdb : (nm == ("__debug__" : Str)) = false) (TB : GxR.TabB X.base X.mg c P) (hcode : X.env.code = .ref c)
    (ok : BlkOk X.N X.env.scope scope own) (co : scope.isCoroutine = false) (nc : ∀ y ∈ scope.names, y.2 ≠ .cell) (dot : scope.names.lookup (".0" : Str) = some NameKind.local) (hN : X.N.Nodup) (hc : X.calm = true) (hi : PI X tg iter wi) (hs : ∀ v, genFold iter X.env v = pure v)
    (hg : ∀ (s : Shared) (H : Hp) (cenv : PySem.Env) (fp : List Addr) (A : Around) (pn : List (Addr × Obj)), cenv.scope = scope → Nearer X A → PG (gblk X s H cenv fp A pn) tg g)
    (he : ∀ (s : Shared) (H : Hp) (cenv : PySem.Env) (fp : List Addr) (A : Around) (pn : List (Addr × Obj)), cenv.scope = scope → Nearer X A → PE (gblk X s H cenv fp A pn) elt te)
    (hst : starEach [.GeneratorExp elt [⟨tg, iter, [], 0⟩] scope gpos] X.env = (false, eval (.GeneratorExp elt [⟨tg, iter, [], 0⟩] scope gpos) X.env) :: starEach [] X.env := by rfl) :
    PE X (.Call (.Name nm p) [.GeneratorExp elt [⟨tg, iter, [], 0⟩] scope gpos] [] pos) (tGen P isAll wi g te (own.map (·.2))) := by
  refine ⟨fun pins s σ H Q I h => ?_⟩
  refine wpAny_Call_Name_kw (ld_blt I hG hm hb ?_ hnm hdb)
  refine PyProof.Rows.callWith_builtin1 ?_ hst (by rfl)
  rw [hst]
  show wpAny _ _ (spliced ((false, eval (.GeneratorExp elt [⟨tg, iter, [], 0⟩] scope gpos) X.env) :: backTo pos (starEach [] X.env))) _ _ s
  refine Calls.spliced_cons ?_
  have hfree : ∀ y ∈ scope.names, y.2 = .free → ∃ c, X.env.cells.lookup y.1 = some c := fun y hy e => by
    rcases ok.free y hy e with k | k
    · exact I.ok.has _ (.inl k)
    · exact I.ok.has _ (.inr k)
  refine wpAny_GeneratorExp_make co (closure_ok hfree) nc dot ok.kind (by have := hr.dp; omega) ?_ hs
  refine thn (hi.run pins s σ H _ I h) fun xv s1 hx => thn hx fun itv s2 h2 => ?_
  obtain ⟨it, fp, tn, J, H1, rfl, I1, T, st2, f2, ⟨ps, hP, ht⟩, q⟩ := h2
  refine ⟨I1.nolimit, ?_⟩
  have hPs : s2.heap.get? P = some { cls := .none, data := .fields ps } := I1.hok P _ hP
  have cd : PySem.W.CodeHd s2.heap c P := TB.code.keeps I1.bk
  have fpP : ∀ b ∈ fp, b ≠ P := fun b hb z => by
    have := (f2 b hb).1
    rw [z, hP] at this; cases this
  have cont : ∀ (code : Value) (h3 : Heap) (tk : Nat) (ps' : Array Value), Heap.ExtBut P s2.heap h3 → s2.heap.objs.size ≤ h3.objs.size → h3.get? P = some { cls := .none, data := .fields ps' } → (∃ more, ps' = ps ++ more) → TriplesOk ps'.toList →
      wpAny (model X.prog X.w) X.A (builtinsFor X.env.globals X.env.builtins) (fun bi s₄ => ∀ h', h'.Ns s₄.heap.objs.size (fun y => if y = ".0" then some (.ref it) else none) → Heap.SameBut s₄.heap.objs.size (s₄.heap.push { cls := .type "frame", data := .dict #[] }) h' →
          (fun v s' => wpAny (model X.prog X.w) X.A (spliced (backTo pos (starEach [] X.env))) (fun vs s₁ => wpAny (model X.prog X.w) X.A (call (.builtin (cName isAll)) (v :: vs)) (EP X pins σ Q) X.xe s₁) X.xe s') (.ref h'.objs.size) { s₄ with
            gens := s₄.gens.push (.fresh (.compStart (.GeneratorExp elt [⟨tg, iter, [], 0⟩] scope gpos) 0 (.ref it) .none (genEnv scope (cloFrom X.env.cells scope.names []) s₄.heap.objs.size code bi X.env))),
            toks := s₄.toks + 1 + 1 + 1,
            heap := h'.push { cls := .type "generator", data := .fields #[.int s₄.gens.size 0, .str "<genexpr>" (s₄.toks + 1), .str (X.env.qual ++ "<genexpr>") (s₄.toks + 1 + 1)] } }) X.xe { s2 with heap := h3, toks := tk } := by
    intro code h3 tk ps' hx hsz hP3 ⟨more, em⟩ ht3
    obtain ⟨bm, ob, e1, e2, e3, e4, e5, e6, e7, e8⟩ := TB.bm
    have keep3 : ∀ b u, b ≠ P → s2.heap.get? b = some u → h3.get? b = some u := fun b u hb e => hx b u hb e
    refine wpAny_builtinsFor (m := X.mg) (by rw [I1.ok.glob]; exact (I1.mod.glob.keeps I1.bk).extBut hx TB.gP) e1 e2 (keep3 _ _ e4 (I1.bk _ _ e5)) e6 e7 e8 ?_
    intro h' hn' hs'
    have I3 : Inv X pins σ (upd H1 P (.tbl (ps ++ more))) { s2 with heap := h3, toks := tk } :=
      GxR.inv_tab (more := more) (h' := h3) (g' := s2.gens) (d' := s2.drawn) (t' := tk) I1 hP keep3 (by rw [← em]; exact hP3) I1.bare
    generalize hH3 : upd H1 P (.tbl (ps ++ more)) = H3 at I3
    have hTb : GxR.Tabbed P H1 H3 := by
      subst hH3
      exact ⟨⟨ps ++ more, upd_same, by rw [← em]; exact ht3⟩, fun b hb => upd_ne hb⟩
    obtain ⟨W, ⟨m0, w0⟩, turn⟩ := q H3 hTb
    have f3 : ∀ b ∈ fp, FpOk X pins H3 b ∧ b < h3.objs.size := fun b hb => by
      obtain ⟨o, e, _⟩ := T.obj _ _ st2 b hb
      refine ⟨⟨?_, (f2 b hb).2⟩, Nat.lt_of_lt_of_le (Heap.lt_size e) hsz⟩
      rw [hTb.2 b (fpP b hb)]
      exact (f2 b hb).1
    have st3 : tn 0 h3 := T.keep _ _ _ st2 fun b hb o e => keep3 b o (fpP b hb) e
    have hsz' : h'.objs.size = h3.objs.size + 1 := by
      have := hs'.1
      rw [this, Heap.size_push]
    have keep4 : ∀ b o, h3.get? b = some o → h'.get? b = some o := fun b o e => hs'.extBut b o (Nat.ne_of_lt (Heap.lt_size e)) (Heap.get?_push_of_some _ e)
    generalize hgo : ({ cls := .type "generator", data := .fields #[.int s2.gens.size 0, .str "<genexpr>" (tk + 1), .str (X.env.qual ++ "<genexpr>") (tk + 1 + 1)] } : Obj) = go
    have isg : ∀ h : Heap, h.get? h'.objs.size = some go → h.IsGen h'.objs.size s2.gens.size := fun h e => by
      subst hgo
      exact ⟨_, _, _, e, rfl, rfl, rfl⟩
    have gcell : ∀ v, go.data ≠ .cell v := fun v z => by subst hgo; cases z
    have gpush : (h'.push go).get? h'.objs.size = some go := by
      subst hgo
      exact Heap.get?_push_size _ rfl
    have keep5 : ∀ b o, h3.get? b = some o → (h'.push go).get? b = some o := fun b o e => Heap.get?_push_of_some _ (keep4 b o e)
    generalize hce : genEnv scope (cloFrom X.env.cells scope.names []) h3.objs.size code builtinsNs X.env = ce
    have csc : ce.scope = scope := by subst hce; rfl
    generalize hs5 : ({ s2 with heap := h'.push go, gens := s2.gens.push (.fresh (.compStart (.GeneratorExp elt [⟨tg, iter, [], 0⟩] scope gpos) 0 (.ref it) .none ce)), toks := tk + 1 + 1 + 1 } : Shared) = s5
    have h5 : s5.heap = h'.push go := by rw [← hs5]
    have b5 : AllBare s5.gens := by rw [← hs5]; exact I1.bare.push rfl
    have I5 := gblock_start (A := X.A.in1.in1.over (.compLoop (.GeneratorExp elt [⟨tg, iter, [], 0⟩] scope gpos) 0 (.ref it) .none ce) []) (s' := s5) (code := code) (cenv := ce) (a := h'.objs.size) (go := go) (fp := fp) I3 ok nc hN f3 hce.symm
      (fun _ => I3.ok.hd hc) (by
        show pushEnvs [ce] (pushEnvs [] X.A.frames) = _
        rw [I3.ok.frames]; rfl) (fun b o e => by rw [h5]; exact keep5 b o e) (by rw [h5]; exact hn'.push _) (by rw [h5]; exact gpush) (by show h3.objs.size < _; omega) gcell (by rw [← hs5]) b5
    refine Calls.spliced_nil ?_
    show wpAny _ _ (call (.builtin (cName isAll)) [.ref h'.objs.size]) _ _ s5
    have sg := seg_gen0 (Xg := gblk X { s2 with heap := h3, toks := tk } H3 ce fp (X.A.in1.in1.over (.compLoop (.GeneratorExp elt [⟨tg, iter, [], 0⟩] scope gpos) 0 (.ref it) .none ce) []) [(h'.objs.size, go)]) (Aw := X.A.in1.in1) (iter := iter) (scope := scope) (gpos := gpos) (it := it) (s₀ := s5.setGen s2.gens.size .running) (s := s5.setGen s2.gens.size .running) (n := m0 + 1) rfl (by rw [csc]; exact co) rfl hc
      (fun b hb => hb) (fun p hp => ?_) T (hg _ _ _ _ _ _ csc over_near) (he _ _ _ _ _ _ csc over_near) turn (Nat.lt_succ_self m0) (inv_heap I5 rfl rfl (allBare_setGen b5 rfl)) (T.keep _ _ _ st3 fun b hb o e => ?_) (fun b hb => (f3 b hb).1.1) w0
    · refine call_gen (isg _ (by rw [h5]; exact gpush)) ?_
      refine gen_drain (Xg := gblk X { s2 with heap := h3, toks := tk } H3 ce fp (X.A.in1.in1.over (.compLoop (.GeneratorExp elt [⟨tg, iter, [], 0⟩] scope gpos) 0 (.ref it) .none ce) []) [(h'.objs.size, go)]) (Q := Q) (gi := s2.gens.size) (go := go) (I3.ok.hd hc) hr.depth isg (List.mem_singleton.mpr rfl) (fun s' σ' H' b J qq => ?_) (m0 + 1) s5 (isg _ (by rw [h5]; exact gpush)) I5.nolimit ⟨.fresh (.compStart (.GeneratorExp elt [⟨tg, iter, [], 0⟩] scope gpos) 0 (.ref it) .none ce), by rw [← hs5]; exact Array.getElem?_push_size .., rfl, sg⟩
      refine ⟨.bl b, H', ?_, rfl, qq⟩
      exact I3.call' (ch := fp) J.os J.base J.hok J.bare fun b hb => ⟨(f3 b hb).1.2.2.2.1, (f3 b hb).1.2.1, (f3 b hb).1.2.2.2.2.1, (f3 b hb).1.2.2.2.2.2⟩
    · have : p = (h'.objs.size, go) := by simpa using hp
      subst this
      intro z
      have := (f3 _ z).2
      have z2 : h'.objs.size < h3.objs.size := this
      omega
    · show s5.heap.get? b = some o
      rw [h5]; exact keep5 b o e
  cases hf : codeAmong gpos ps.toList with
  | none =>
    refine wpAny_genexprCodeX hcode (cd.code hPs ht) (cd.tab hPs) hf fun c' h' tk hx hge hlt hco' _ htab' _ => ?_
    obtain ⟨o1, vs, f1, tf, fl, tg, inF, tx, tt, op, _, _, _, _, _, _, _, _, _, htr, _⟩ := hco'
    exact cont _ h' tk _ hx (Nat.le_trans hge (Nat.le_of_lt hlt)) htab'.2 ⟨_, rfl⟩ htr
  | some cv =>
    refine wpAny_genexprCode_hit hcode (cd.code hPs ht) hf ?_
    exact cont cv s2.heap s2.toks ps (Heap.ExtBut.refl _ _) (Nat.le_refl _) hPs ⟨#[], by simp⟩ ht
end
end Wv

set_option autoImplicit false
set_option linter.all false
set_option maxRecDepth 100000
set_option maxHeartbeats 4000000
namespace Wv
open PySem PySem.Spec PyProof.Rows L2
section
variable {g : G} {c : Ck} {call : Nat → List Slot → M PyData} {X : Cx} {sc : Scope} {W : WX} {F H : Hp} {Q : VK} {A : Option Addr} {ρ : Env} {σ : L2.St} {ω : Orc} {P : Addr}
def bodyG (gt : Nat → Option PyData) (call : Nat → List Slot → M PyData) (t : Tg) (e : E) (ρ : Env) (x : PyData) : M Bool := do
  let ρ' ← asgT t false x ρ
  let y ← evalE gt call e ρ'
  M.ofO (boolD y)
theorem evalE_gen {gt : Nat → Option PyData} {q : Bool} {t : Tg} {it : E} {e : E} : evalE gt call (.gen q t it e) ρ = M.noexc ((evalE gt call it ρ >>= fun d => M.ofO (itemsOf d)) >>= fun xs => genM q (bodyG gt call t e (clr (tgS t) ρ)) xs >>= fun b => pure (.bool b)) := by
  rw [evalE, M.bnd_assoc]
  rfl
/-- the table has grown -/
theorem tab_grow {H2 : Hp} (f : Fit F H) (st : StOk g A H F ω) (hP : P ∈ g.ts) (hT : GxR.Tabbed P H H2) : Grow (ExA g A) H F H2 F ∧ StOk g A H2 F ω := by
  obtain ⟨⟨ps, h1, h2⟩, h3⟩ := hT
  have ne : ∀ b, F b ≠ none → b ≠ P := fun b h z => h (by rw [z]; exact st.ft P hP)
  refine ⟨⟨fun b o n e => ?_, fun b e => ?_, Same.refl _, fun b u e => ?_, fun b u e => .inl e⟩, ⟨fun a ha => ?_, fun p hp => ?_, st.ft⟩⟩
  · rw [h3 b (fun z => n (.inr (by rw [z]; exact hP)))]; exact e
  · by_cases z : b = P
    · rw [z, h1] at e; cases e
    · rw [← h3 b z]; exact e
  · rw [h3 b (ne b (by rw [e]; exact fun z => by cases z))]; exact f b u e
  · obtain ⟨k1, k2, k3, d, k4, k5⟩ := st.st a ha
    have : a ≠ P := fun z => k2 (by rw [z]; exact hP)
    exact ⟨k1, k2, k3, d, by rw [h3 a this]; exact k4, k5⟩
  · by_cases z : p = P
    · rw [z]; exact ⟨ps, h1, h2⟩
    · obtain ⟨qs, k1, k2⟩ := st.tab p hp
      exact ⟨qs, by rw [h3 p z]; exact k1, k2⟩
theorem gen_rd {b0 : Bool} {t : Tg} {it e : E} (he : isPk e = false) (hP : P ∈ g.ts) (h : tE g call X W (.gen b0 t it e) σ H Q) :
    tGen P b0 (tI g call X W false it) (tG g X (tgS t) t) (tE g call X W0 e) (tgS t) σ H Q := by
  obtain ⟨A, H0, F0, ρ, F, ω, r, q⟩ := h
  rw [evalE_gen] at q
  have q := RPost.nox q
  refine ⟨A, H0, F0, ρ, F, ω, r, (RPost.sig (RPost.bind q)).imp fun xs ω1 H1 F1 g1 s1 q2 J hJ => ⟨s1.tab P hP, fun H2 hT => ?_⟩⟩
  obtain ⟨gT, sT⟩ := tab_grow g1.fit s1 hP hT
  have fin : ∀ {b : Bool} {H' F' : Hp} {ω' : Orc}, Grow (ExA g A) H1 F1 H' F' → StOk g A H' F' ω' → RPost g X.K W0 σ A H1 F1 ((pure (PyData.bool b) : M PyData) ω') (fun d _ H' F' => ∀ v, RepR X.K X.w (ExA g A) (isPk (.gen b0 t it e)) F' H' v d → Q v H') → Q (.bl b) H' := fun {b H' F' ω'} g st q => q H' F' g st _ (.dat (.bl b))
  let Inv : Nat → Nat → Hp → Prop := fun i m H' => ∃ F' ω', i ≤ xs.length ∧ m = xs.length - i ∧ Grow (ExA g A) H1 F1 H' F' ∧ StOk g A H' F' ω' ∧
    RPost g X.K W0 σ A H1 F1 ((genM b0 (bodyG g.gt call t e (clr (tgS t) ρ)) (xs.drop i) >>= fun b => pure (PyData.bool b)) ω') (fun d _ H' F' => ∀ v, RepR X.K X.w (ExA g A) (isPk (.gen b0 t it e)) F' H' v d → Q v H')
  refine ⟨Inv, ⟨xs.length, F1, ω1, Nat.zero_le _, by simp, gT, sT, ?_⟩, ?_⟩
  · rw [List.drop_zero]; exact q2
  rintro i m H2 ⟨F2, ω2, hi, rfl, g2, s2, q3⟩
  by_cases hlt : i < xs.length
  case neg =>
    have ei : i = xs.length := by omega
    refine .inl ⟨by rw [ei]; exact hJ.stop H2 F2 (Pz.of g2), ?_⟩
    rw [ei, List.drop_length] at q3
    exact fin g2 s2 q3
  have ex : xs[i]? = some xs[i] := List.getElem?_eq_getElem hlt
  obtain ⟨hgo, hy⟩ := hJ.go i H2 F2 xs[i] (Pz.of g2) ex
  refine .inr ⟨hgo, fun H' => Inv (i + 1) (xs.length - (i + 1)) H', fun H' h => ⟨_, by omega, h⟩, fun x H3 yl => ?_⟩
  obtain ⟨F3, e3, rx⟩ := hy x H3 yl
  rw [drop_cons ex] at q3
  have q3 : RPost g X.K W0 σ A H1 F1 (((bodyG g.gt call t e (clr (tgS t) ρ) xs[i] >>= fun b => if b = b0 then genM b0 (bodyG g.gt call t e (clr (tgS t) ρ)) (xs.drop (i + 1)) else pure (!b0)) >>= fun b => pure (PyData.bool b)) ω2) (fun d _ H' F' => ∀ v, RepR X.K X.w (ExA g A) (isPk (.gen b0 t it e)) F' H' v d → Q v H') := q3
  unfold bodyG at q3
  simp only [M.bnd_assoc] at q3
  obtain ⟨ρ2, ea, q4⟩ := RPost.asg q3
  have g3 := g2.trans e3.grow
  have s3 := s2.ext e3
  have r3 : Rel g X.K X.w A H0 F0 (clr (tgS t) ρ) (wipe σ (tgS t)) H3 F3 ω2 := ((r.grow g1 s1).grow g3 s3).clr _
  refine ⟨A, H0, F0, _, F3, ω2, _, _, r3, rx, ea, fun _ h => h, fun σ2 hw r4 => ⟨by rw [hw, wipe_wipe], ?_⟩⟩
  refine ⟨A, H0, F0, ρ2, F3, ω2, r4, ((RPost.sig (RPost.bindB q4)).mono g3).imp fun y ω4 H4 F4 g4 s4 q5 v rv => ?_⟩
  rw [he] at rv
  cases y with
  | bool b =>
    have ev : v = .bl b := (RepP.frz (Ex := fun _ => False) (H := H4) rv).bool
    refine ⟨b, ev, ?_⟩
    have q5 : RPost g X.K W0 σ A H1 F1 (((if b = b0 then genM b0 (bodyG g.gt call t e (clr (tgS t) ρ)) (xs.drop (i + 1)) else pure (!b0)) >>= fun b => pure (PyData.bool b)) ω4) (fun d _ H' F' => ∀ v, RepR X.K X.w (ExA g A) (isPk (.gen b0 t it e)) F' H' v d → Q v H') := q5
    by_cases hb : b = b0
    · rw [if_pos hb] at q5 ⊢
      exact ⟨F4, ω4, hlt, rfl, g3.trans g4, s4, q5⟩
    · rw [if_neg hb] at q5 ⊢
      exact fin (g3.trans g4) s4 q5
  | _ => exact q5.elim
theorem gblk_gd {s : Shared} {scope : Scope} {cenv : PySem.Env} {fp : List Addr} {Ag : Around} {pn : List (Addr × Obj)} (G : Gd g c call X sc) (h0 : 0 < rmOf c sc) (hs : cenv.scope = scope) (hg : scope.isGenerator = true) (hn : Nearer X Ag) : Gd g c call (gblk X s H cenv fp Ag pn) scope := by
  have z : rmOf c scope = 0 := if_pos hg
  refine ⟨hs, G.N, G.nd, G.calm, ?_, fun k e => ?_, ?_, ?_, G.frn⟩
  · obtain ⟨n, hr, h⟩ := G.fns
    exact ⟨n, by rw [z]; exact hn n (hr.mono (by omega)), h⟩
  · obtain ⟨n, x, fd, ps, hr, h⟩ := G.drw k e
    exact ⟨n, x, fd, ps, by rw [z]; exact hn n (hr.mono (by omega)), h⟩
  · rw [z]; exact hn 0 (G.rm.mono (by omega))
  · intro h; rw [z] at h; exact absurd h (Nat.lt_irrefl _)
end
end Wv

set_option autoImplicit false
set_option linter.all false
set_option maxRecDepth 100000
set_option maxHeartbeats 4000000
namespace Wv
open PySem PySem.Spec PyProof.Rows L2
/-! a tuple's slice with a step -/
section
variable {prog : Program} {w : World} {A : Around} {E : Value → Shared → Prop} {s : Shared}
theorem sliceApplied_step {sl : Addr} {vl vu vk : Value} {lo hi : Option Int} {k : Int} {n : Nat} {Q : Int × Int × Nat → Shared → Prop} (hs : s.heap.IsSliceOf sl vl vu vk) (pl : IsPart vl lo) (pu : IsPart vu hi) (pk : IsPart vk (some k)) (h0 : k ≠ 0)
    (h : Q ((Builtin.Slice.sliceAdjust lo hi k (n : Int)).1, k, Builtin.Slice.slicePlaces (Builtin.Slice.sliceAdjust lo hi k (n : Int)).1 (Builtin.Slice.sliceAdjust lo hi k (n : Int)).2 k) s) : wpAny (model prog w) A (Builtin.Slice.sliceApplied (.ref sl) (pure (n : Int))) Q E s := by
  obtain ⟨os, hos, hcs, hds⟩ := id hs
  unfold Builtin.Slice.sliceApplied Builtin.Slice.sliceFields
  refine wpAny_bind (wpAny_bind (wpAny_field hos hds (x := vl) rfl (wpAny_bind (wpAny_field hos hds (x := vu) rfl (wpAny_bind (wpAny_field hos hds (x := vk) rfl (wpAny_pure ?_)))))))
  refine wpAny_bind (HT.slicePart_ pk ?_)
  show wpAny _ _ (if (k == 0) = true then _ else _) _ _ s
  rw [if_neg (by simpa using h0)]
  refine wpAny_bind (HT.slicePart_ pl (wpAny_bind (HT.slicePart_ pu (wpAny_bind (wpAny_pure ?_)))))
  exact wpAny_pure h
theorem getItem_tuple_step {t sl : Addr} {items : Array Value} {vl vu vk : Value} {lo hi : Option Int} {k : Int} {Q : Value → Shared → Prop} (ht : IsTup s.heap t items) (hs : s.heap.IsSliceOf sl vl vu vk) (pl : IsPart vl lo) (pu : IsPart vu hi) (pk : IsPart vk (some k)) (h0 : k ≠ 0) (h1 : k ≠ 1)
    (h : Q (.ref s.heap.objs.size) { s with heap := s.heap.push { cls := .type "tuple", data := .seq (stpT items.toList lo hi k).toArray } })
    (hsz : (stpT items.toList lo hi k).length ≤ sizeLine) : wpAny (model prog w) A (getItem (.ref t) (.ref sl)) Q E s := by
  have htake : sizeOk (.seq (stpT items.toList lo hi k).toArray) := by
    show (stpT items.toList lo hi k).toArray.size ≤ sizeLine
    rw [List.size_toArray]; exact hsz
  obtain ⟨os, hos, hcs, hds⟩ := id hs
  have hTs : s.TypeIs (.ref sl) "slice" := ⟨os, hos, hcs⟩
  unfold getItem
  try with_reducible refine wpAny_holding ?_
  first | refine wpAny_bind (wpAny_pure ?_) | skip
  refine wpAny_bind (wpAny_sequenceKey ht.typeIs (by decide) ?_)
  refine wpAny_bind (wpAny_callSpecial?_slot (name := Str.ofString "__getitem__") ht.typeIs PyProof.Rows.slot_tuple_getitem
    (wpAny_call_entry PyProof.Rows.slot_tuple_getitem ht.typeIs entry_tuple_getitem ?_ (args_tuple_getitem _ _)))
  show wpAny _ _ (Builtin.Tuple.tupleItemsOf (.ref t) >>= _) _ _ s
  refine wpAny_bind (PyProof.Rows.tupleItemsOf_ ht ?_)
  refine wpAny_bind (wpAny_typeOf hTs ?_)
  rw [if_pos (by decide)]
  refine wpAny_bind (sliceApplied_step hs pl pu pk h0 ?_)
  have hno : ¬ (((Builtin.Slice.sliceAdjust lo hi k (items.size : Int)).1 == 0 && k == 1 && Builtin.Slice.slicePlaces (Builtin.Slice.sliceAdjust lo hi k (items.size : Int)).1 (Builtin.Slice.sliceAdjust lo hi k (items.size : Int)).2 k == items.size) = true) := by
    intro q
    rw [Bool.and_eq_true, Bool.and_eq_true] at q
    exact h1 (eq_of_beq q.1.2)
  show wpAny _ _ (if ((Builtin.Slice.sliceAdjust lo hi k (items.size : Int)).1 == 0 && k == 1 && Builtin.Slice.slicePlaces (Builtin.Slice.sliceAdjust lo hi k (items.size : Int)).1 (Builtin.Slice.sliceAdjust lo hi k (items.size : Int)).2 k == items.size) = true then _ else _) _ _ s
  rw [if_neg hno]
  have e : ((List.range (Builtin.Slice.slicePlaces (Builtin.Slice.sliceAdjust lo hi k (items.size : Int)).1 (Builtin.Slice.sliceAdjust lo hi k (items.size : Int)).2 k)).filterMap fun (m : Nat) => items[((Builtin.Slice.sliceAdjust lo hi k (items.size : Int)).1 + (m : Int) * k).toNat]?) = stpT items.toList lo hi k := by
    unfold stpT
    simp only [Array.length_toList, Array.getElem?_toList]
  rw [e]
  first
    | exact wpAny_bind (m := Builtin.Tuple.tupleExact _) (wpAny_newObj_type (wpAny_pure ⟨_, rfl, wpAny_pure h⟩) htake)
    | exact wpAny_bind (m := Builtin.Tuple.tupleExact _) (wpAny_newObj_type (wpAny_bind (wpAny_pure (wpAny_pure ⟨_, rfl, wpAny_pure h⟩))) htake)
    | exact wpAny_bind (wpAny_bind (m := Builtin.Tuple.tupleExact _) (wpAny_newObj_type (wpAny_pure (wpAny_pure ⟨_, rfl, wpAny_pure h⟩)) htake))
    | exact wpAny_bind (wpAny_bind (m := Builtin.Tuple.tupleExact _) (wpAny_newObj_type (wpAny_pure ⟨_, rfl, wpAny_pure h⟩) htake))
end
section
variable {g : G} {c : Ck} {call : Nat → List Slot → M PyData} {X : Cx} {sc : Scope} {W W' : WX} {K : PySem.W.Frag} {w : World} {H0 F0 F F' H H' H1 F1 : Hp} {Q : VK} {A : Option Addr} {ρ ρ' : Env} {σ σ' : L2.St} {ω ω' : Orc} {α β : Type} {ok : α → Orc → Hp → Hp → Prop}
/-! slices -/
def SlR3 (X : Cx) (r : V → Option Int → Option Int → Option Int → Hp → VK → Prop) : Prop :=
  ∀ (pins : List (Addr × Obj)) (s : Shared) (σ : L2.St) (H : Hp) (x : V) (v vl vu vk : Value) (lo hi st : Option Int) (sl : Addr) (Q : VK), Inv X pins σ H s → RelV x v → s.heap.IsSliceOf sl vl vu vk → IsPart vl lo → IsPart vu hi → IsPart vk st → r x lo hi st H Q →
    ∃ T id, typeLookup (.type T) "__getitem__" = pure (some (.builtin id)) ∧ s.TypeIs v T ∧ wpAny (model X.prog X.w) X.A (getItem v (.ref sl)) (EP X pins σ Q) X.xe s
def tSl3 (r : V → Option Int → Option Int → Option Int → Hp → VK → Prop) (te : TE) (tl th ts : TO) : TE := fun σ H Q => te σ H fun x H1 => tl σ H1 fun l H2 => th σ H2 fun u H3 => ts σ H3 fun k H4 => r x l u k H4 Q
theorem pe_slice3 {r : V → Option Int → Option Int → Option Int → Hp → VK → Prop} {e : PySem.Expr} {te : TE} {lo hi st : Option PySem.Expr} {tl th ts : TO} {pos p2 : Pos} (hr : SlR3 X r) (he : PE X e te) (hl : PO X lo tl) (hu : PO X hi th) (hk : PO X st ts) : PE X (.Subscript e (.Slice lo hi st p2) pos) (tSl3 r te tl th ts) := by
  refine ⟨fun pins s σ H Q I h => ?_⟩
  refine Subscript_ (thn (he.run pins s σ H _ I h) fun v s1 ⟨x, H1, I1, r1, q1⟩ => ?_)
  refine wpAny_Slice (thn (hl.run pins s1 σ H1 _ I1 q1) fun vl s2 ⟨l, H2, I2, pl, q2⟩ => thn (hu.run pins s2 σ H2 _ I2 q2) fun vu s3 ⟨u, H3, I3, pu, q3⟩ => thn (hk.run pins s3 σ H3 _ I3 q3) fun vk s4 ⟨k, H4, I4, pk, q4⟩ => ?_)
  have I5 : Inv X pins σ H4 { s4 with heap := s4.heap.push { cls := .type "slice", data := .fields #[vl, vu, vk] } } := I4.kept (t' := s4.toks) fun b ob q => Heap.get?_push_of_some _ q
  obtain ⟨T, id, hT, ht, hg⟩ := hr pins { s4 with heap := s4.heap.push { cls := .type "slice", data := .fields #[vl, vu, vk] } } σ H4 x v vl vu vk l u k s4.heap.objs.size Q I5 r1 (Heap.IsSliceOf.new ..) pl pu pk q4
  show wpAny (model X.prog X.w) X.A (subscriptTail e (.Slice lo hi st p2) v (.ref s4.heap.objs.size)) (EP X pins σ Q) X.xe { s4 with heap := s4.heap.push { cls := .type "slice", data := .fields #[vl, vu, vk] } }
  cases st with
  | none => exact tail_any (ops := [.ref s4.heap.objs.size, v]) ht hT hg (by with_unfolding_all rfl)
  | some y => exact tail_any (ops := [v, .ref s4.heap.objs.size]) ht hT hg (by with_unfolding_all rfl)
def tPartD (t : TE) : TO := fun σ H Q => t σ H fun x H1 => (∃ i, x = .int i ∧ Q (some i) H1) ∨ (x = .non ∧ Q none H1)
theorem po_someD {e : PySem.Expr} {te : TE} (h : PE X e te) : PO X (some e) (tPartD te) := by
  refine ⟨fun pins s σ H Q I hw => ?_⟩
  rw [evalPart_some]
  refine thn (h.run pins s σ H _ I hw) fun u s1 ⟨x, H1, I1, r1, q1⟩ => ?_
  rcases q1 with ⟨i, rfl, q⟩ | ⟨rfl, q⟩
  · obtain ⟨t, rfl⟩ := r1
    exact ⟨some i, H1, I1, .int i t, q⟩
  · cases r1
    exact ⟨none, H1, I1, .none, q⟩
def rSlD (K : PySem.W.Frag) (w : World) : V → Option Int → Option Int → Option Int → Hp → VK → Prop := fun x lo hi st H Q => ∃ Ex F d d', Fit F H ∧ RepP K w Ex F H x d ∧ slD d lo hi st = some d' ∧ ∀ v H' F', Ext H F H' F' → RepN K w H F' H' v d' → Q v H'
theorem dpa_cut {vs : List V} {ds : List PyData} (h : DqAll K F vs ds) (lo hi : Option Int) : DqAll K F (cutV vs lo hi) (cutL ds lo hi) := by
  unfold cutV cutL
  rw [dpa_len h]
  exact dpa_take _ (dpa_drop _ h)
theorem dpa_pick {vs : List V} {ds : List PyData} (h : DqAll K F vs ds) : ∀ (is : List Nat), DqAll K F (is.filterMap fun i => vs[i]?) (is.filterMap fun i => ds[i]?)
  | [] => .nil
  | i :: is => by
    rw [List.filterMap_cons, List.filterMap_cons]
    cases e : ds[i]? with
    | none =>
      have : vs[i]? = none := by
        cases e2 : vs[i]? with
        | none => rfl
        | some v =>
          obtain ⟨d, e3, _⟩ := dpa_get' h e2
          rw [e] at e3; cases e3
      rw [this]
      exact dpa_pick h is
    | some d =>
      obtain ⟨v, e1, e2⟩ := dpa_get h e
      rw [e1]
      exact .cons e2 (dpa_pick h is)
theorem dpa_stp {vs : List V} {ds : List PyData} (h : DqAll K F vs ds) (lo hi : Option Int) (k : Int) : DqAll K F (stpL vs lo hi k) (stpL ds lo hi k) := by
  unfold stpL
  rw [dpa_len h]
  exact dpa_pick h _
theorem fm_comp {γ : Type} (vs : List γ) (f : Nat → Nat) (is : List Nat) : (is.filterMap fun m => vs[f m]?) = (is.map f).filterMap fun i => vs[i]? := by
  rw [List.filterMap_map]; rfl
theorem dpa_stpT {vs : List V} {ds : List PyData} (h : DqAll K F vs ds) (lo hi : Option Int) (k : Int) : DqAll K F (stpT vs lo hi k) (stpT ds lo hi k) := by
  unfold stpT
  rw [dpa_len h, fm_comp vs, fm_comp ds]
  exact dpa_pick h _
theorem vals_pick {vs : List V} {its : List Value} (h : Vals vs its) : ∀ (is : List Nat), Vals (is.filterMap fun i => vs[i]?) (is.filterMap fun i => its[i]?)
  | [] => .nil
  | i :: is => by
    rw [List.filterMap_cons, List.filterMap_cons]
    have hl := h.length
    cases e : vs[i]? with
    | none =>
      have : its[i]? = none := by
        have := List.getElem?_eq_none_iff.mp e
        exact List.getElem?_eq_none (by omega)
      rw [this]
      exact vals_pick h is
    | some d =>
      obtain ⟨v, e1, e2⟩ := h.get e
      rw [e1]
      exact .cons e2 (vals_pick h is)
theorem slr_ok : SlR3 X (rSlD X.K X.w) := by
  intro pins s σ H x v vl vu vk lo hi st sl Q I rx hs pl pu pk ⟨Ex, F, d, d', f, r1, hb, q⟩
  cases st with
  | none =>
    cases pk
    cases d with
    | list ds =>
      cases hb
      obtain ⟨a, vs, rfl, h1, h2⟩ := r1.list f
      exact sl_list pins s σ H _ v vl vu lo hi sl Q I rx hs pl pu ⟨a, vs, rfl, .inl (.inl h1), fun p np => q _ _ F (Ext.mk0 f np) ⟨p, rfl, np, f.none np, _, upd_same, dpa_cut h2 lo hi⟩⟩
    | tuple ds =>
      cases hb
      obtain ⟨a, vs, rfl, h1, h2⟩ := r1.tuple
      cases rx
      obtain ⟨its, r, ht, hz⟩ := I.tuple (sqT_mono f h1)
      have hlen : its.toArray.size = vs.length := by rw [List.size_toArray]; exact r.length.symm
      refine ⟨"tuple", _, PyProof.Rows.slot_tuple_getitem.lookup, ht.typeIs, ?_⟩
      by_cases hw : HT.sIx vs.length 0 lo = 0 ∧ HT.sIx vs.length vs.length hi = vs.length
      · refine getItem_tuple_whole ht hs pl pu (by rw [hlen]; exact hw) ⟨.ref a, H, I, rfl, ?_⟩
        refine q _ H F (Ext.refl f) (show RepF X.K X.w F _ _ from .dat (.tup h1 ?_))
        have e := dpa_cut h2 lo hi
        have e2 : cutV vs lo hi = vs := by
          unfold cutV
          rw [hw.1, hw.2, List.drop_zero, Nat.sub_zero, List.take_length]
        rw [e2] at e
        exact e
      · refine HT.getItem_tuple_cut ht hs pl pu (by rw [hlen]; exact hw) ?_ (by rw [hlen]; exact hz)
        rw [hlen]
        exact Inv.laidT I ((r.drop (HT.sIx vs.length 0 lo)).take (HT.sIx vs.length vs.length hi - HT.sIx vs.length 0 lo)) (Nat.le_trans (cutV_length vs lo hi) hz) (q_tup f (dpa_cut h2 lo hi) fun v H' F' e rv => q v H' F' e (show RepF X.K X.w F' _ _ from rv))
    | str z =>
      obtain ⟨hl, hb⟩ := gO_some hb
      cases hb
      exact sl_str pins s σ H _ v vl vu lo hi sl Q I rx hs pl pu ⟨z, r1.str, of_decide_eq_true hl, q_str f fun v H' F' e rv => q v H' F' e (show RepF X.K X.w F' _ _ from rv)⟩
    | _ => cases hb
  | some k =>
    cases d with
    | list ds =>
      obtain ⟨hk, hb⟩ := gO_some hb
      cases hb
      have hk := of_decide_eq_true hk
      obtain ⟨a, vs, rfl, h1, h2⟩ := r1.list f
      cases rx
      obtain ⟨its, r, ht, hz⟩ := I.list (SqL.of h1)
      have hlen := r.length
      refine ⟨"list", _, slot_list_getitem.lookup, ht.isList.typeIs, ?_⟩
      have hp : slicePick its.toArray lo hi (some k) = (stpL its lo hi k).toArray := by
        unfold slicePick stpL
        simp only [List.size_toArray, List.getElem?_toArray]
      have hle := slicePick_size_le its.toArray lo hi (some k)
      refine wpAny_getItem_list_slice ht.isList hs pl pu pk (by simpa using hk) ?_ (by rw [List.size_toArray] <;> omega)
      rw [hp] at hle ⊢
      have hv : Vals (stpL vs lo hi k) (stpL its lo hi k) := by
        unfold stpL
        rw [hlen]
        exact vals_pick r _
      have hsz : (stpL vs lo hi k).length ≤ sizeLine := by
        rw [hv.length]
        rw [List.size_toArray, List.size_toArray] at hle
        omega
      refine ⟨.ref s.heap.objs.size, _, I.laid (t' := s.toks) (o := .lst (stpL vs lo hi k)) (fun b ob q => Heap.get?_push_of_some _ q) (Nat.le_refl _) ?_, rfl, ?_⟩
      · exact ⟨hsz, _, 0, hv, Heap.get?_push_size _ rfl⟩
      · have np := I.hok.fresh (Nat.le_refl s.heap.objs.size)
        exact q _ _ F (Ext.mk0 f np) ⟨_, rfl, np, f.none np, _, upd_same, dpa_stp h2 lo hi k⟩
    | tuple ds =>
      obtain ⟨hk, hb⟩ := gO_some hb
      cases hb
      simp only [Bool.and_eq_true, decide_eq_true_eq] at hk
      obtain ⟨⟨hk0, hk1⟩, hk2⟩ := hk
      obtain ⟨a, vs, rfl, h1, h2⟩ := r1.tuple
      cases rx
      obtain ⟨its, r, ht, hz⟩ := I.tuple (sqT_mono f h1)
      have hlen := r.length
      have hv : Vals (stpT vs lo hi k) (stpT its lo hi k) := by
        unfold stpT
        rw [hlen, fm_comp vs, fm_comp its]
        exact vals_pick r _
      have hd := dpa_stpT h2 lo hi k
      have hn : (stpT vs lo hi k).length ≤ sizeLine := by rw [dpa_len hd, sizeLine_eq]; omega
      refine ⟨"tuple", _, PyProof.Rows.slot_tuple_getitem.lookup, ht.typeIs, ?_⟩
      refine getItem_tuple_step ht hs pl pu pk hk0 hk1 ?_ (by rw [List.toList_toArray, ← hv.length]; exact hn)
      rw [List.toList_toArray]
      exact Inv.laidT I hv hn (q_tup f hd fun v H' F' e rv => q v H' F' e (show RepF X.K X.w F' _ _ from rv))
    | _ => cases hb
theorem repN_up {v : V} {d : PyData} (h : ∀ a, H1 a = none → H a = none) (r : RepN K w H1 F' H' v d) : RepN K w H F' H' v d := by
  unfold RepN at r ⊢
  cases ho : ownV true d with
  | false => rw [ho, if_neg Bool.false_ne_true] at r; rw [if_neg Bool.false_ne_true]; exact r
  | true =>
    rw [ho, if_pos rfl] at r
    rw [if_pos rfl]
    obtain ⟨p, e1, e2, e4, e5⟩ := r
    exact ⟨p, e1, h _ e2, e4, e5⟩
def tO (g : G) (call : Nat → List Slot → M PyData) (X : Cx) (W : WX) (e : E) : Option PySem.Expr → TO
  | none => tNoPart
  | some _ => tPartD (tE g call X W e)
theorem part_rd {e : E} {x : Option PySem.Expr} {f : Option Int → M β} {ok : β → Orc → Hp → Hp → Prop} {Q : Option Int → Hp → Prop} (hx : x = none → e = .lit .none) (he : isPk e = false) (r : Rel g X.K X.w A H0 F0 ρ σ H F ω)
    (h : RPost g X.K W σ A H F ((evalE g.gt call e ρ >>= fun l => M.ofO (partI l) >>= f) ω) ok)
    (k : ∀ o ω1 H1 F1, Grow (ExA g A) H F H1 F1 → StOk g A H1 F1 ω1 → RPost g X.K W σ A H1 F1 (f o ω1) ok → Q o H1) : tO g call X W e x σ H Q := by
  cases x with
  | none =>
    rw [hx rfl] at h
    rw [evalE] at h
    exact k none ω H F (Grow.refl r.fit) r.st h
  | some y =>
    refine ⟨A, H0, F0, ρ, F, ω, r, (RPost.bind h).imp fun d ω1 H1 F1 g1 s1 q1 v rv => ?_⟩
    rw [he] at rv
    cases d with
    | none => exact .inr ⟨(RepP.frz (Ex := fun _ => False) (H := H) rv).none, k none ω1 H1 F1 g1 s1 q1⟩
    | int i => exact .inl ⟨i, (RepP.frz (Ex := fun _ => False) (H := H) rv).int, k (some i) ω1 H1 F1 g1 s1 q1⟩
    | _ => exact q1.elim
theorem sl_rd {a lo hi st : E} {xl xh xs : Option PySem.Expr} (h1 : xl = none → lo = .lit .none) (h2 : xh = none → hi = .lit .none) (h3 : xs = none → st = .lit .none) (p1 : isPk lo = false) (p2 : isPk hi = false) (p3 : isPk st = false)
    (h : tN g call X W (.sl a lo hi st) σ H Q) : tSl3 (rSlD X.K X.w) (tE g call X W a) (tO g call X W lo xl) (tO g call X W hi xh) (tO g call X W st xs) σ H Q := by
  obtain ⟨A, H0, F0, ρ, F, ω, r, q⟩ := h
  rw [evalE] at q
  refine ⟨A, H0, F0, ρ, F, ω, r, (RPost.bind q).imp fun d ω1 H1 F1 g1 s1 q1 x rx => ?_⟩
  refine part_rd h1 p1 (r.grow g1 s1) q1 fun l ω2 H2 F2 g2 s2 q2 => ?_
  refine part_rd h2 p2 ((r.grow g1 s1).grow g2 s2) q2 fun u ω3 H3 F3 g3 s3 q3 => ?_
  refine part_rd h3 p3 (((r.grow g1 s1).grow g2 s2).grow g3 s3) q3 fun k ω4 H4 F4 g4 s4 q4 => ?_
  obtain ⟨d3, e3, q5⟩ := RPost.ofO q4
  have gg := (g2.trans g3).trans g4
  exact ⟨_, F4, d, d3, g4.fit, rx.p.grow gg, e3, fun v H' F' e rv => q5 H' F' e.grow (s4.ext e) v (repN_up (g1.trans gg).ex rv)⟩
/-! list(x), sorted(x): new lists -/
def rP1N (K : PySem.W.Frag) (w : World) (p : P1) : List V → Hp → VK → Prop := fun xs H Q => ∃ Ex F x d d', xs = [x] ∧ Fit F H ∧ RepP K w Ex F H x d ∧ p1 p d = some d' ∧ ∀ v H' F', Ext H F H' F' → RepN K w H F' H' v d' → Q v H'
theorem cr_listN : CallR X (.type "list") (rP1N X.K X.w .list) := by
  intro pins s σ H xs us Q I r ⟨Ex, F, x, d, d', e, f, r1, hb, q⟩
  subst e
  have hh : (∃ ds, d = .list ds ∧ d' = .list ds) ∨ ∃ ds, d = .tuple ds ∧ d' = .list ds := by
    cases d with
    | list ds => cases hb; exact .inl ⟨ds, rfl, rfl⟩
    | tuple ds => cases hb; exact .inr ⟨ds, rfl, rfl⟩
    | _ => cases hb
  rcases hh with ⟨ds, rfl, rfl⟩ | ⟨ds, rfl, rfl⟩
  · obtain ⟨a, vs, rfl, h1, h2⟩ := r1.list f
    exact call_list_of pins s σ H _ us Q I r ⟨a, vs, rfl, .inl (.inl (.inl h1)), fun p np => q _ _ F (Ext.mk0 f np) ⟨p, rfl, np, f.none np, vs, upd_same, h2⟩⟩
  · obtain ⟨a, vs, rfl, h1, h2⟩ := r1.tuple
    exact call_list_of pins s σ H _ us Q I r ⟨a, vs, rfl, .inr (sqT_mono f h1), fun p np => q _ _ F (Ext.mk0 f np) ⟨p, rfl, np, f.none np, vs, upd_same, h2⟩⟩
theorem each_of : ∀ {vs : List V} {ds : List PyData} {its : List Value}, Vals vs its → DqAll K F vs ds → PySem.W.EachIs (fun v d => ∃ x, RelV x v ∧ Dq K F x d) its ds
  | _, _, _, .nil, h => by cases h; exact .nil
  | _, _, _, .cons r t, h => by
    cases h with
    | cons a b => exact .cons ⟨_, r, a⟩ (each_of t b)
theorem of_each : ∀ {ds : List PyData} {its : List Value}, PySem.W.EachIs (fun v d => ∃ x, RelV x v ∧ Dq K F x d) its ds → ∃ vs, Vals vs its ∧ DqAll K F vs ds
  | _, _, .nil => ⟨[], .nil, .nil⟩
  | _, _, .cons ⟨x, r, a⟩ t => by
    obtain ⟨vs, h1, h2⟩ := of_each t
    exact ⟨x :: vs, .cons r h1, .cons a h2⟩
theorem sortable_of {ds : List PyData} (h : sortOk ds = true) : PySem.W.Sortable (ds.map id) := by
  rw [List.map_id]
  unfold sortOk at h
  rcases Bool.or_eq_true_iff.mp h with h | h
  · refine .inl fun d hd => ?_
    have := List.all_eq_true.mp h d hd
    cases d with
    | tuple xs => cases xs with
      | nil => cases this
      | cons x r => exact ⟨x, r, rfl⟩
    | _ => cases this
  · refine .inr fun d hd => ?_
    have := List.all_eq_true.mp h d hd
    refine ⟨fun e => ?_, fun xs e => ?_⟩
    · subst e; cases this
    · subst e; cases this
/-- sorted by what is known of the items -/
def rSrt (K : PySem.W.Frag) (w : World) (b : Bool) : V → Hp → VK → Prop := fun x H Q => ∃ Ex F d xs, Fit F H ∧ RepP K w Ex F H x d ∧ seqOf d = some xs ∧ (allAlike xs && sortOk xs) = true ∧ ∀ v H' F', Ext H F H' F' → RepN K w H F' H' v (.list (xs.mergeSort (PySem.W.dataLe b id))) → Q v H'
theorem srt_core (hu : X.A.units + 100 < cLine) {b : Bool} {kw : Bool} (hk : kw = false → b = false) {pins : List (Addr × Obj)} {s : Shared} {u : Value} {x : V} (I : Inv X pins σ H s) (rx : RelV x u) (h : rSrt X.K X.w b x H Q) :
    wpAny (model X.prog X.w) X.A (PySem.call (.builtin "sorted") [u] (if kw = true then [(Str.ofString "reverse", .bool b)] else [])) (EP X pins σ Q) X.xe s := by
  obtain ⟨Ex, F, d, ds, f, r1, e, hc, q⟩ := h
  obtain ⟨ha, hs⟩ := Bool.and_eq_true_iff.mp hc
  obtain ⟨b1, b2⟩ := alike_of ha
  have hd : ∀ b' ∈ ds, X.A.units + 2 + (id b').depth < cLine := fun b hb => by have := shp_depth (b2 b hb); simp only [id]; omega
  have fin : ∀ (vs : List V) (its out : List Value), vs.length ≤ sizeLine → ds.length = vs.length → PySem.W.EachIs (fun v d => ∃ x, RelV x v ∧ Dq X.K F x d) out (ds.mergeSort (PySem.W.dataLe b id)) →
      EP X pins σ Q (.ref (s.heap.objs.size + 1)) { s with heap := sortedAll s.heap its out.toArray } := fun vs its out hz el he => by
    obtain ⟨ws, w1, w2⟩ := of_each he
    obtain ⟨ep, he'⟩ := PyProof.Rows.sortedAll_at s.heap its out.toArray
    have hlen : ws.length ≤ sizeLine := by rw [dpa_len w2, List.length_mergeSort, el]; exact hz
    have np : H (s.heap.objs.size + 1) = none := I.hok.fresh (Nat.le_succ _)
    exact ⟨.ref _, upd H (s.heap.objs.size + 1) (.lst ws), I.laid (t' := s.toks) (fun _ _ => PyProof.Rows.sortedAll_old) (Nat.le_succ _) ⟨hlen, out, ep, w1, he'⟩, rfl, q _ _ F (Ext.mk0 f np) ⟨_, rfl, np, f.none np, ws, upd_same, w2⟩⟩
  cases d with
  | list xs =>
    cases e
    obtain ⟨a, vs, rfl, h1, h2⟩ := r1.list f
    obtain ⟨its, rv, hl, hz⟩ := I.list (SqL.of h1)
    cases rx
    obtain ⟨as, e1⟩ := reads_of I f rv h2
    have el : ds.length = vs.length := (dpa_len h2).symm
    cases kw with
    | true =>
      rw [if_pos rfl]
      exact PySem.W.sorted_rev_data (β := PyData) (enc := id) (bs := ds) (R := fun v d => ∃ x, RelV x v ∧ Dq X.K F x d) hl.isList (each_of rv h2) (PySem.W.readsAll_each id (by rw [List.map_id]; exact e1)) (by rw [List.map_id]; exact b1.1) (sortable_of hs) (by rw [el]; exact hz) hd fun out ho he => fin vs its out hz el he
    | false =>
      have := hk rfl
      subst this
      exact PySem.W.sorted_data (β := PyData) (enc := id) (bs := ds) (R := fun v d => ∃ x, RelV x v ∧ Dq X.K F x d) hl.isList (each_of rv h2) (PySem.W.readsAll_each id (by rw [List.map_id]; exact e1)) (by rw [List.map_id]; exact b1.1) (sortable_of hs) (by rw [el]; exact hz) hd fun out ho he => fin vs its out hz el he
  | tuple xs =>
    cases e
    obtain ⟨a, vs, rfl, h1, h2⟩ := r1.tuple
    obtain ⟨its, rv, hl, hz⟩ := I.tuple (sqT_mono f h1)
    cases rx
    obtain ⟨as, e1⟩ := reads_of I f rv h2
    have el : ds.length = vs.length := (dpa_len h2).symm
    cases kw with
    | true =>
      rw [if_pos rfl]
      exact sorted_rev_dataT (β := PyData) (enc := id) (bs := ds) (R := fun v d => ∃ x, RelV x v ∧ Dq X.K F x d) hl (each_of rv h2) (PySem.W.readsAll_each id (by rw [List.map_id]; exact e1)) (by rw [List.map_id]; exact b1.1) (sortable_of hs) (by rw [el]; exact hz) hd fun out ho he => fin vs its out hz el he
    | false =>
      have := hk rfl
      subst this
      exact sorted_dataT (β := PyData) (enc := id) (bs := ds) (R := fun v d => ∃ x, RelV x v ∧ Dq X.K F x d) hl (each_of rv h2) (PySem.W.readsAll_each id (by rw [List.map_id]; exact e1)) (by rw [List.map_id]; exact b1.1) (sortable_of hs) (by rw [el]; exact hz) hd fun out ho he => fin vs its out hz el he
  | _ => cases e
theorem dqa_ints : ∀ ns : List Int, DqAll K F (ns.map V.int) (ns.map PyData.int)
  | [] => .nil
  | n :: ns => .cons (.int n) (dqa_ints ns)
theorem ints_map : ∀ {ds : List PyData} {ns : List Int}, intsOf ds = some ns → ds = ns.map PyData.int
  | [], ns, h => by simp [intsOf] at h; subst h; rfl
  | d :: ds, ns, h => by
    cases d with
    | int i =>
      simp only [intsOf, Option.map_eq_some_iff] at h
      obtain ⟨m, h1, rfl⟩ := h
      rw [ints_map h1]; rfl
    | _ => simp [intsOf] at h
theorem cr_sortedN (hc : X.calm = true) (hu : X.A.units + 100 < cLine) : CallR X (.builtin "sorted") (rP1N X.K X.w .sorted) := by
  intro pins s σ H xs us Q I r ⟨Ex, F, x, d, d', e, f, r1, hb, q⟩
  subst e
  obtain ⟨u, rfl, ru⟩ := vals1 r
  obtain ⟨zs, e1, hb⟩ := Option.bind_eq_some_iff.mp (show (srtOf d).bind (fun xs => gO (allAlike xs && sortOk xs) (some (PyData.list (xs.mergeSort (PySem.W.dataLe false id))))) = some d' by cases d <;> exact hb)
  obtain ⟨h1, h2⟩ := gO_some hb
  cases h2
  cases d with
  | list ds => exact srt_core hu (b := false) (kw := false) (fun _ => rfl) I ru ⟨Ex, F, _, _, f, r1, e1, h1, q⟩
  | tuple ds => exact srt_core hu (b := false) (kw := false) (fun _ => rfl) I ru ⟨Ex, F, _, _, f, r1, e1, h1, q⟩
  | dict kvs =>
    obtain ⟨h3, h4⟩ := gO_some (show gO (decide (kvs.length < 64) && (intsOf (kvs.map (·.1))).isSome) (some (kvs.map (·.1))) = some zs from e1)
    cases h4
    obtain ⟨h5, h6⟩ := Bool.and_eq_true_iff.mp h3
    obtain ⟨ns, hn⟩ := Option.isSome_iff_exists.mp h6
    obtain ⟨a, rfl, ks, hd, hp⟩ := r1.dict f
    have hk := dic_keysI hp hn
    have hl : ns.length = kvs.length := by
      have := congrArg List.length (ints_map hn)
      rw [List.length_map, List.length_map] at this
      exact this.symm
    refine call_sortedDI hc pins s σ H _ _ Q I (.cons ru .nil) ⟨a, ks, ns, rfl, .inl hd, hk, by rw [hl]; exact of_decide_eq_true h5, fun ys p y1 y2 np => ?_⟩
    have e2 : (kvs.map (·.1)).mergeSort (PySem.W.dataLe false id) = ys.map PyData.int := by rw [ints_map hn]; exact srt_uniq y1 y2
    rw [e2] at q
    exact q _ _ F (Ext.mk0 f np) ⟨_, rfl, np, f.none np, _, upd_same, dqa_ints ys⟩
  | _ => cases e1
theorem cr_sortedR (hu : X.A.units + 100 < cLine) : CallRK X (.builtin "sorted") [Str.ofString "reverse"] (fun xs zs H Q => ∃ x b, xs = [x] ∧ zs = [.bl b] ∧ rSrt X.K X.w b x H Q) := by
  intro pins s σ H xs zs us ws Q I r rz ⟨x, b, e1, e2, h⟩
  subst e1 e2
  obtain ⟨u, rfl, ru⟩ := vals1 r
  obtain ⟨w1, rfl, e1⟩ := vals1 rz
  obtain rfl : w1 = Value.bool b := e1
  exact srt_core hu (b := b) (kw := true) (fun h => by cases h) I ru h
theorem sortedr_rd {a : E} (h : tN g call X W (.b1 .sortedr a) σ H Q) : tCKw (fun xs zs H Q => ∃ x b, xs = [x] ∧ zs = [.bl b] ∧ rSrt X.K X.w b x H Q) (tCons (tE g call X W a) tNil) (tCons (tC (.bl true)) tNil) σ H Q := by
  obtain ⟨A, H0, F0, ρ, F, ω, r, q⟩ := h
  rw [evalE] at q
  refine ⟨A, H0, F0, ρ, F, ω, r, (RPost.bind q).imp fun d ω1 H1 F1 g1 s1 q1 x rx => ?_⟩
  obtain ⟨d', e, q2⟩ := RPost.ofO q1
  obtain ⟨zs, e1, hb⟩ := Option.bind_eq_some_iff.mp (show (seqOf d).bind (fun xs => gO (allAlike xs && sortOk xs) (some (PyData.list (xs.mergeSort (PySem.W.dataLe true id))))) = some d' by cases d <;> exact e)
  obtain ⟨h1, h2⟩ := gO_some hb
  cases h2
  exact ⟨x, true, rfl, rfl, _, F1, d, zs, g1.fit, rx.p, e1, h1, fun v H' F' ex rv => q2 H' F' ex.grow (s1.ext ex) v (repN_up g1.ex rv)⟩
theorem b1N_rd {p : P1} {a : E} (h : tN g call X W (.b1 p a) σ H Q) : tCB (rP1N X.K X.w p) (tCons (tE g call X W a) tNil) σ H Q := by
  obtain ⟨A, H0, F0, ρ, F, ω, r, q⟩ := h
  rw [evalE] at q
  refine ⟨A, H0, F0, ρ, F, ω, r, (RPost.bind q).imp fun d ω1 H1 F1 g1 s1 q1 x rx => ?_⟩
  obtain ⟨d', e, q2⟩ := RPost.ofO q1
  exact ⟨_, F1, x, d, d', rfl, g1.fit, rx.p, e, fun v H' F' ex rv => q2 H' F' ex.grow (s1.ext ex) v (repN_up g1.ex rv)⟩
end
end Wv

set_option autoImplicit false
set_option linter.all false
set_option maxRecDepth 100000
set_option maxHeartbeats 4000000
namespace Wv
open PySem PySem.Spec PyProof.Rows L2
section
variable {g : G} {c : Ck} {call : Nat → List Slot → M PyData} {X : Cx} {sc : Scope} {W W' : WX} {K : PySem.W.Frag} {w : World} {H0 F0 F F' H H' H1 F1 : Hp} {Q : VK} {A : Option Addr} {ρ ρ' : Env} {σ σ' : L2.St} {ω ω' : Orc} {α β : Type} {ok : α → Orc → Hp → Hp → Prop}
/-! methods of a list, a tuple: the type is known when the value is -/
def noCall0 : PySem.Expr → Bool
  | .Call .. => false
  | _ => true
theorem base_of {o : PySem.Expr} {name : Str} {env : PySem.Env} (h : noCall0 o = true) : attributeBase o name env (eval o env) = eval o env := by
  cases o <;> first | rfl | cases h
def IsTy (X : Cx) (H : Hp) (x : V) (T : String) : Prop := ∀ pins s σ v, Inv X pins σ H s → RelV x v → s.TypeIs v T ∧ ∀ a, v = .ref a → ∃ ob, s.heap.get? a = some ob ∧ ob.dict = none
theorem isTy_list {a : Addr} {xs : List V} (h : H a = some (.lst xs)) : IsTy X H (.ref a) "list" := fun pins s σ v I r => tyV_is I r (.inl ⟨rfl, xs, SqL.of h⟩)
theorem isTy_tup {a : Addr} {xs : List V} (h : SqZ H a xs) : IsTy X H (.ref a) "tuple" := fun pins s σ v I r => by
  obtain ⟨o, h1, h2⟩ := h
  cases r
  obtain ⟨e, _, its, _, o', e2, hc, n, hd⟩ := I.hok a _ h1
  rw [e] at e2
  cases e2
  exact ⟨⟨o, e, hc⟩, fun b hb => by cases hb; exact ⟨o, e, h2⟩⟩
def tBMD (X : Cx) (name : Str) (to : TE) (t : TA) : TE := fun σ H Q => to σ H fun x H1 => ∃ T id r, PlainAttrs T ∧ PySem.Slot T name id ∧ (typeOf (.builtin id) = pure (.type "method_descriptor")) ∧ MtR X id r ∧ IsTy X H1 x T ∧ t σ H1 fun xs H2 => r x xs H2 Q
theorem pe_bmD {o e : PySem.Expr} {to : TE} {t : TA} {name : Str} {apos cpos : Pos} (ho : PE X o to) (ha : PA X [e] t) (hb : noCall0 o = true) (hs : noStar e = true) (hline : (apos.endLine == cpos.line) = true) :
    PE X (.Call (.Attribute o name apos) [e] [] cpos) (tBMD X name to t) := by
  have hst : starEach [e] X.env = (false, eval e X.env) :: starEach [] X.env := star_of hs
  refine ⟨fun pins s σ H Q I h => ?_⟩
  refine wpAny_Call_method_late (base_of hb) (by rw [hst]; rfl) hline rfl (thn (ho.run pins s σ H _ I h) fun v s1 ⟨x, H1, I1, r1, T, id, r, pa, slot, hty, hm, ty, q1⟩ => ?_)
  obtain ⟨h1, h2⟩ := ty pins s1 σ v I1 r1
  refine ⟨T, id, pa, slot, hty, h1, h2, ?_⟩
  have hA := ha.run cpos pins s1 σ H1 _ I1 q1
  rw [hst] at hA ⊢
  refine Calls.callWith_builtin rfl (Calls.evalArgs_plain ?_)
  exact thn hA fun us s2 ⟨vs, H2, I2, r2, q2⟩ => hm pins s2 σ H2 x vs v us Q I2 r1 r2 q2
def rMD (K : PySem.W.Frag) (w : World) (f : PyData → PyData → Option PyData) : V → List V → Hp → VK → Prop := fun x xs H Q => ∃ Ex F y d1 d2 d3, xs = [y] ∧ Fit F H ∧ RepP K w Ex F H x d1 ∧ RepP K w Ex F H y d2 ∧ f d1 d2 = some d3 ∧ ∀ v H' F', Ext H F H' F' → RepF K w F' v d3 → Q v H'
def onList (f : PyData → PyData → Option PyData) : PyData → PyData → Option PyData
  | .list xs, y => f (.list xs) y
  | _, _ => none
def onTup (f : PyData → PyData → Option PyData) : PyData → PyData → Option PyData
  | .tuple xs, y => f (.tuple xs) y
  | _, _ => none
theorem mt_countL (hu : X.A.units + 100 < cLine) : MtR X "list.count" (rMD X.K X.w (onList mcountD)) := by
  intro pins s σ H x xs v us Q I rx rxs ⟨Ex, F, y, d1, d2, d3, e, f, r1, r2, hb, q⟩
  subst e
  obtain ⟨u, rfl, ru⟩ := vals1 rxs
  cases d1 with
  | list ds =>
    obtain ⟨hc, hb⟩ := gO_some (show gO (shp d2 && shp (.list ds)) (some (PyData.int (ds.countP fun z => PyData.eqv z d2 : Nat))) = some d3 from hb)
    cases hb
    obtain ⟨h1, h2⟩ := Bool.and_eq_true_iff.mp hc
    obtain ⟨a, vs, rfl, h3, h4⟩ := r1.list f
    cases rx
    obtain ⟨its, rv, hl, hz⟩ := I.list (SqL.of h3)
    obtain ⟨as, e1⟩ := reads_of I f rv h4
    obtain ⟨bs, e2⟩ := Dp.reads I d2 y u (r2.dp f (shp_nd h1)) ru
    obtain ⟨h5, h6⟩ := shp_list h2
    exact SeqAt.count_list_data hl.isList (vs := its.toArray) (by simpa using e1) e2 (PyData.plainAll_of_canLay0 ds h5) (shp_plain h1) (room_in h6 (by omega)) ⟨.int _, H, I.tok _, ⟨_, rfl⟩, q_int f q⟩
  | _ => cases hb
theorem mt_countT (hu : X.A.units + 100 < cLine) : MtR X "tuple.count" (rMD X.K X.w (onTup mcountD)) := by
  intro pins s σ H x xs v us Q I rx rxs ⟨Ex, F, y, d1, d2, d3, e, f, r1, r2, hb, q⟩
  subst e
  obtain ⟨u, rfl, ru⟩ := vals1 rxs
  cases d1 with
  | tuple ds =>
    obtain ⟨hc, hb⟩ := gO_some (show gO (shp d2 && shp (.tuple ds)) (some (PyData.int (ds.countP fun z => PyData.eqv z d2 : Nat))) = some d3 from hb)
    cases hb
    obtain ⟨h1, h2⟩ := Bool.and_eq_true_iff.mp hc
    obtain ⟨a, vs, rfl, h3, h4⟩ := r1.tuple
    cases rx
    obtain ⟨its, rv, hl, hz⟩ := I.tuple (sqT_mono f h3)
    obtain ⟨as, e1⟩ := reads_of I f rv h4
    obtain ⟨bs, e2⟩ := Dp.reads I d2 y u (r2.dp f (shp_nd h1)) ru
    obtain ⟨h5, h6⟩ := shp_tup h2
    exact SeqAt.count_tuple_data hl (vs := its.toArray) (by simpa using e1) e2 (PyData.plainAll_of_canLay0 ds h5) (shp_plain h1) (room_in h6 (by omega)) ⟨.int _, H, I.tok _, ⟨_, rfl⟩, q_int f q⟩
  | _ => cases hb
theorem mcount_rd {a b : E} (hu : X.A.units + 100 < cLine) (h : tE g call X W (.mcount a b) σ H Q) : tBMD X (Str.ofString "count") (tE g call X W a) (tCons (tE g call X W b) tNil) σ H Q := by
  obtain ⟨A, H0, F0, ρ, F, ω, r, q⟩ := h
  rw [evalE] at q
  refine ⟨A, H0, F0, ρ, F, ω, r, (RPost.bind q).imp fun d1 ω1 H1 F1 g1 s1 q1 x rx => ?_⟩
  obtain ⟨hc, q1⟩ := RPost.guard q1
  cases d1 with
  | list ds =>
    obtain ⟨a', vs, rfl, h1, h2⟩ := rx.p.list g1.fit
    refine ⟨"list", "list.count", _, PySem.F.plainAttrs_list, PySem.F.slot_list_count, PySem.F.type_list_count, mt_countL hu, isTy_list h1, A, H0, F0, ρ, F1, ω1, r.grow g1 s1, (RPost.bind q1).imp fun d2 ω2 H2 F2 g2 s2 q2 y ry => ?_⟩
    obtain ⟨d3, e3, q3⟩ := RPost.ofO q2
    exact ⟨_, F2, y, _, d2, d3, rfl, g2.fit, rx.p.grow g2, ry.p, e3, fun v H' F' e rv => q3 H' F' e.grow (s2.ext e) v rv⟩
  | tuple ds =>
    obtain ⟨a', vs, rfl, h1, h2⟩ := rx.p.tuple
    refine ⟨"tuple", "tuple.count", _, PySem.F.plainAttrs_tuple, PySem.F.slot_tuple_count, PySem.F.type_tuple_count, mt_countT hu, isTy_tup (sqZ_mono g1.fit h1), A, H0, F0, ρ, F1, ω1, r.grow g1 s1, (RPost.bind q1).imp fun d2 ω2 H2 F2 g2 s2 q2 y ry => ?_⟩
    obtain ⟨d3, e3, q3⟩ := RPost.ofO q2
    exact ⟨_, F2, y, _, d2, d3, rfl, g2.fit, rx.p.grow g2, ry.p, e3, fun v H' F' e rv => q3 H' F' e.grow (s2.ext e) v rv⟩
  | _ => cases hc
/-! max, min of two ints -/
def p2Name : P2 → String
  | .max => "max"
  | .min => "min"
def rP2 (K : PySem.W.Frag) (w : World) (p : P2) : List V → Hp → VK → Prop := fun xs H Q => ∃ Ex F x y d1 d2 d3, xs = [x, y] ∧ Fit F H ∧ RepP K w Ex F H x d1 ∧ RepP K w Ex F H y d2 ∧ p2 p d1 d2 = some d3 ∧ ∀ v H' F', Ext H F H' F' → RepF K w F' v d3 → Q v H'
theorem cr_p2 {p : P2} (hc : X.calm = true) : CallR X (.builtin (p2Name p)) (rP2 X.K X.w p) := by
  intro pins s σ H xs us Q I r ⟨Ex, F, x, y, d1, d2, d3, e, f, r1, r2, hb, q⟩
  subst e
  cases p <;> cases d1 <;> cases d2 <;> cases hb
  · exact call_max2 hc pins s σ H _ us Q I r ⟨_, _, by rw [r1.int, r2.int], q_int f q⟩
  · exact call_min2 hc pins s σ H _ us Q I r ⟨_, _, by rw [r1.int, r2.int], q_int f q⟩
theorem b2_rdP {p : P2} {a b : E} (h : tE g call X W (.b2 p a b) σ H Q) : tCB (rP2 X.K X.w p) (tCons (tE g call X W a) (tCons (tE g call X W b) tNil)) σ H Q := by
  obtain ⟨A, H0, F0, ρ, F, ω, r, q⟩ := h
  rw [evalE] at q
  refine ⟨A, H0, F0, ρ, F, ω, r, (RPost.bind q).imp fun d1 ω1 H1 F1 g1 s1 q1 x rx => ?_⟩
  refine ⟨A, H0, F0, ρ, F1, ω1, r.grow g1 s1, (RPost.bind q1).imp fun d2 ω2 H2 F2 g2 s2 q2 y ry => ?_⟩
  obtain ⟨d3, e3, q3⟩ := RPost.ofO q2
  exact ⟨_, F2, x, y, d1, d2, d3, rfl, g2.fit, rx.p.grow g2, ry.p, e3, fun v H' F' e rv => q3 H' F' e.grow (s2.ext e) v rv⟩
/-! reversed, enumerate -/
theorem rev_at {γ : Type} {ds : List γ} {i : Nat} {d : γ} (h : ds.reverse[i]? = some d) : i < ds.length ∧ ds[ds.length - 1 - i]? = some d := by
  have hi : i < ds.length := by
    have := (List.getElem?_eq_some_iff.mp h).1
    simpa using this
  rw [List.getElem?_reverse hi] at h
  exact ⟨hi, h⟩
theorem wk_revL {P : Hp → Hp → Prop} {a : Addr} {vs : List V} {ds : List PyData} (h : ∀ H F, P H F → SqL K H a vs ∧ DqAll K F vs ds ∧ Fit F H) : Wk K w P (Itv K a vs.length) ds.reverse where
  go := fun i H F d p e => by
    obtain ⟨h1, h2, h3⟩ := h H F p
    obtain ⟨hi, e⟩ := rev_at e
    obtain ⟨v, e1, e2⟩ := dpa_get h2 e
    have hl := dpa_len h2
    rw [← hl] at e1 hi
    refine ⟨⟨hi, vs, v, h1, e1⟩, fun x H' ⟨y1, y2⟩ => ?_⟩
    subst y1
    have := y2 vs h1
    rw [e1] at this
    cases this
    exact ⟨F, Ext.refl h3, .dat e2⟩
  stop := fun H F p => by
    obtain ⟨h1, h2, h3⟩ := h H F p
    show vs.length ≤ _
    rw [List.length_reverse, dpa_len h2]; exact Nat.le_refl _
theorem wk_revT {P : Hp → Hp → Prop} {a : Addr} {vs : List V} {ds : List PyData} (h : ∀ H F, P H F → SqT K H a vs ∧ DqAll K F vs ds ∧ Fit F H) : Wk K w P (RT.ItvT K a vs.length) ds.reverse where
  go := fun i H F d p e => by
    obtain ⟨h1, h2, h3⟩ := h H F p
    obtain ⟨hi, e⟩ := rev_at e
    obtain ⟨v, e1, e2⟩ := dpa_get h2 e
    have hl := dpa_len h2
    rw [← hl] at e1 hi
    refine ⟨⟨hi, vs, v, h1, e1⟩, fun x H' ⟨y1, y2⟩ => ?_⟩
    subst y1
    have := y2 vs h1
    rw [e1] at this
    cases this
    exact ⟨F, Ext.refl h3, .dat e2⟩
  stop := fun H F p => by
    obtain ⟨h1, h2, h3⟩ := h H F p
    show vs.length ≤ _
    rw [List.length_reverse, dpa_len h2]; exact Nat.le_refl _
theorem enumD_get : ∀ (xs : List PyData) (k i : Nat) (d : PyData), (enumD k xs)[i]? = some d → ∃ x, xs[i]? = some x ∧ d = .tuple [.int ((k + i : Nat)), x]
  | [], k, i, d, h => by simp [enumD] at h
  | x :: xs, k, 0, d, h => by
    rw [enumD] at h
    simp at h
    exact ⟨x, rfl, by rw [← h]; simp⟩
  | x :: xs, k, i + 1, d, h => by
    rw [enumD] at h
    obtain ⟨y, e1, e2⟩ := enumD_get xs (k + 1) i d (by simpa using h)
    exact ⟨y, by simpa using e1, by rw [e2]; congr 3; omega⟩
theorem enumD_len : ∀ (xs : List PyData) (k : Nat), (enumD k xs).length = xs.length
  | [], _ => rfl
  | x :: xs, k => by rw [enumD, List.length_cons, List.length_cons, enumD_len xs]
/-- the list at a as it stands at each turn, each item in a new pair -/
def IteZ (K : PySem.W.Frag) (a : Addr) : It :=
  ⟨fun i H => ∃ (xs : List V) (x : V), SqL K H a xs ∧ xs[i]? = some x, fun i H v H' => ∃ T x o, v = .ref T ∧ H T = none ∧ o.dict = none ∧ H' = upd H T (.frz o (.tup [.int (i : Nat), x])) ∧ ∀ xs, SqL K H a xs → xs[i]? = some x, fun i H => ∃ xs : List V, SqL K H a xs ∧ xs.length ≤ i⟩
theorem turn_enumZ {P : Program} {w : World} {K : PySem.W.Frag} {elts : List PySem.Expr} {kk : Nat} {tpos : Pos} (a e it : Addr) :
    Turn P w K (.Tuple elts kk tpos) (IteZ K a) [e, it] e (fun i h => (∃ old, IsEnum h e it ((i : Nat) : Int) old) ∧ h.IsListIter it a i ∧ e ≠ it) where
  mem := (turn_enum (P := P) (w := w) (K := K) (elts := elts) (kk := kk) (tpos := tpos) a e it).mem
  obj := (turn_enum (P := P) (w := w) (K := K) (elts := elts) (kk := kk) (tpos := tpos) a e it).obj
  keep := (turn_enum (P := P) (w := w) (K := K) (elts := elts) (kk := kk) (tpos := tpos) a e it).keep
  item := by
    intro X hP hw hK hc i pins s σ H E I hf st hg
    subst hP hw hK
    obtain ⟨⟨old, he⟩, hit, hne⟩ := st
    obtain ⟨xs, x, hq, hx⟩ := hg
    obtain ⟨its, rv, p, hz⟩ := I.list hq
    obtain ⟨u, hu, ru⟩ := rv.get hx
    have hel : e < s.heap.objs.size := Heap.lt_size he
    have hil : it < s.heap.objs.size := by obtain ⟨_, q, _⟩ := hit; exact Heap.lt_size q
    refine wpAny_pyNext_enum_item he hit p.isList (x := u) (by simpa using hu) hne fun h' ho hit' hT hsz hk => ?_
    refine ⟨_, rfl, wpAny_letOwnedTupleGo_enum (s := { s with heap := h', toks := s.toks + 1 }) ho fun h'' he' sb => ?_⟩
    have hT2 : h''.get? s.heap.objs.size = some { cls := .type "tuple", data := .seq #[.int i s.toks, u] } := (sb.2 _ (Nat.ne_of_gt hel)).trans hT
    have new : ObjOk X.prog X.w (upd H s.heap.objs.size (.frz { cls := .type "tuple", data := .seq #[.int i s.toks, u] } (.tup [.int (i : Nat), x]))) h'' s.heap.objs.size (.frz { cls := .type "tuple", data := .seq #[.int i s.toks, u] } (.tup [.int (i : Nat), x])) :=
      ⟨hT2, by show 2 ≤ sizeLine; decide, [.int i s.toks, u], .cons ⟨_, rfl⟩ (.cons ru .nil), ⟨_, hT2, rfl, _, rfl⟩⟩
    have I1 : Inv X pins σ (upd H s.heap.objs.size (.frz { cls := .type "tuple", data := .seq #[.int i s.toks, u] } (.tup [.int (i : Nat), x]))) { s with heap := h'', toks := s.toks + 1 } :=
      I.turnedNew (ch := [e, it]) (fun b ob hb q => (sb.2 b (fun z => hb (by simp [z]))).trans (hk b ob (fun z => hb (by simp [z])) (fun z => hb (by simp [z])) q)) hf (Nat.le_refl _) new
    refine ⟨.ref s.heap.objs.size, _, I1, rfl, ⟨_, x, _, rfl, I.hok.fresh (Nat.le_refl _), rfl, rfl, fun ys hy => by rw [I.list_inj hy hq]; exact hx⟩, ⟨⟨u, ?_⟩, hit'.at fun o q => (sb.2 it (Ne.symm hne)).trans q, hne⟩, fun b hb => ?_⟩
    · have e1 : ((i + 1 : Nat) : Int) = (i : Int) + 1 := by omega
      rw [e1]; exact he'
    · have hb' : b < s.heap.objs.size := by
        have e' : b = e ∨ b = it := by simpa using hb
        rcases e' with z | z
        · rw [z]; exact hel
        · rw [z]; exact hil
      rw [upd_ne (Nat.ne_of_lt hb')]
      exact (hf b hb).1
  done := (turn_enum (P := P) (w := w) (K := K) (elts := elts) (kk := kk) (tpos := tpos) a e it).done
  self := (turn_enum (P := P) (w := w) (K := K) (elts := elts) (kk := kk) (tpos := tpos) a e it).self
theorem wk_enum {P : Hp → Hp → Prop} {a : Addr} {vs : List V} {ds : List PyData} (h : ∀ H F, P H F → SqL K H a vs ∧ DqAll K F vs ds ∧ Fit F H) : Wk K w P (IteZ K a) (enumD 0 ds) where
  go := fun i H F d p e => by
    obtain ⟨h1, h2, h3⟩ := h H F p
    obtain ⟨z, e0, rfl⟩ := enumD_get _ _ _ _ e
    obtain ⟨v, e1, e2⟩ := dpa_get h2 e0
    refine ⟨⟨vs, v, h1, e1⟩, fun x H' ⟨T, y, o, y1, y2, y3, y4, y5⟩ => ?_⟩
    subst y1 y4
    have := y5 vs h1
    rw [e1] at this
    cases this
    have sm : Same F (upd F T (.frz o (.tup [.int (i : Nat), v]))) := same_upd (h3.none y2)
    refine ⟨_, Ext.mk1 h3 y2, .dat (.tup ⟨o, upd_same, y3⟩ (.cons ?_ (.cons (dp_mono sm _ _ e2) .nil)))⟩
    rw [Nat.zero_add]
    exact .int _
  stop := fun H F p => by
    obtain ⟨h1, h2, h3⟩ := h H F p
    exact ⟨vs, h1, by rw [enumD_len, dpa_len h2]; exact Nat.le_refl _⟩
theorem rev_rd {z : Bool} {a : E} (hz : (z && isPk a) = false) {R : It → Hp → Prop} (h : tI g call X W z (.rev a) σ H R) : RT.iRevA X.K (tE g call X W a) σ H R := by
  obtain ⟨A, H0, F0, ρ, F, ω, r, q⟩ := h
  rw [evalE, M.bnd_assoc] at q
  refine ⟨A, H0, F0, ρ, F, ω, r, (RPost.bind q).imp fun d ω1 H1 F1 g1 s1 q1 x rx => ?_⟩
  obtain ⟨d', e1, q2⟩ := RPost.ofO (RPost.bind q1)
  have q3 := q2 H1 F1 (Grow.refl g1.fit) s1 
  cases d with
  | list ds =>
    cases e1
    have q3 : ∀ J, Wk X.K X.w (Pz z (ExA g A) H1 F1) J ds.reverse → R J H1 := q3 H1 F1 (Grow.refl g1.fit) s1
    have fz : RepF X.K X.w F1 x (.list ds) → ∃ (a : Addr) (xs : List V), x = .ref a ∧ ((SqL X.K H1 a xs ∧ R (Itv X.K a xs.length) H1) ∨ (SqT X.K H1 a xs ∧ R (RT.ItvT X.K a xs.length) H1)) := fun h => by
      obtain ⟨a, vs, e, h1, h2⟩ := h.list
      exact (⟨a, vs, e, .inl ⟨.inl (.inl (g1.fit _ _ h1)), q3 _ (wk_revL fun H F p => ⟨.inl (.inl (p.fit _ _ (p.fs _ _ h1))), dpAll_mono p.fs _ _ h2, p.fit⟩)⟩⟩)
    cases hp : isPk a with
    | false =>
      rw [hp] at rx
      exact fz rx
    | true =>
      have z0 : z = false := by rw [hp, Bool.and_true] at hz; exact hz
      subst z0
      rw [hp] at rx
      cases rx with
      | frz h => exact fz h
      | lst h0 _ h2 h3 =>
        exact ⟨_, _, rfl, .inl ⟨.inl (.inl h2), q3 _ (wk_revL fun H F p => ⟨.inl (.inl (Grow.hs p _ _ h0 h2)), dpAll_mono p.fs _ _ h3, p.fit⟩)⟩⟩
  | tuple ds =>
    cases e1
    have q3 : ∀ J, Wk X.K X.w (Pz z (ExA g A) H1 F1) J ds.reverse → R J H1 := q3 H1 F1 (Grow.refl g1.fit) s1
    obtain ⟨a, vs, rfl, h1, h2⟩ := rx.p.tuple
    exact ⟨a, vs, rfl, .inr ⟨sqT_mono g1.fit h1, q3 _ (wk_revT fun H F p => ⟨sqT_mono p.fit (sqZ_mono p.fs h1), dpAll_mono p.fs _ _ h2, p.fit⟩)⟩⟩
  | _ => cases e1
/-! d.get(k, x) -/
theorem mget_rd {a b c : E} (hp : isPk c = false) (h : tE g call X W (.mget a b c) σ H Q) : tDGet2 (tE g call X W a) (tE g call X W b) (tE g call X W c) σ H Q := by
  obtain ⟨A, H0, F0, ρ, F, ω, r, q⟩ := h
  rw [evalE] at q
  refine ⟨A, H0, F0, ρ, F, ω, r, (RPost.bind q).imp fun d1 ω1 H1 F1 g1 s1 q1 x rx => ?_⟩
  obtain ⟨hc, q1⟩ := RPost.guard q1
  cases d1 with
  | dict kvs =>
    obtain ⟨a', rfl, hd⟩ := rx.p.dict g1.fit
    obtain ⟨ks, k1, k2⟩ := hd
    refine ⟨a', rfl, .inl ⟨ks, .inl k1⟩, A, H0, F0, ρ, F1, ω1, r.grow g1 s1, (RPost.bind q1).imp fun d2 ω2 H2 F2 g2 s2 q2 y ry => ?_⟩
    refine ⟨A, H0, F0, ρ, F2, ω2, (r.grow g1 s1).grow g2 s2, (RPost.bind q2).imp fun d3 ω3 H3 F3 g3 s3 q3 z rz => ?_⟩
    obtain ⟨d4, e4, q4⟩ := RPost.ofO q3
    obtain ⟨hl, e4⟩ := gO_some (show gO (leafKey d2) (some ((dfind kvs d2).getD d3)) = some d4 from e4)
    cases e4
    obtain ⟨a2, e2, hd3⟩ := ((rx.p.grow g2).grow g3).dict g3.fit
    cases e2
    obtain ⟨o, o1, o2, o3⟩ := dic_get hd3 hl (ry.p.grow g3)
    refine ⟨o, o1, ?_⟩
    have q5 := q4 H3 F3 (Grow.refl g3.fit) s3
    rw [hp] at rz
    cases e : dfind kvs d2 with
    | none =>
      rw [e] at q5
      rw [o3 e]
      exact q5 z rz
    | some v =>
      rw [e] at q5
      obtain ⟨z', e5, hz⟩ := o2 v e
      rw [e5]
      exact q5 z' (.dat hz)
  | _ => cases hc
end
end Wv

set_option autoImplicit false
set_option linter.all false
set_option maxRecDepth 100000
set_option maxHeartbeats 4000000
namespace Wv
open PySem PySem.Spec PyProof.Rows L2
/-! enumerate of a tuple -/
section
theorem meets_enum_newT (l : Addr) (items : Array Value) (o : Obj) (n : Nat) (hc : o.cls = .type "tuple") (hd : o.data = .seq items n) :
    Meets (Builtin.«enumerate.__new__» ⟨[.type "enumerate", .ref l], []⟩) (fun _ R s => s.heap.get? l = some o ∧
      R (.ok (.ret (.ref (s.heap.push { cls := .type "tuple_iterator", data := .fields #[.ref l, .int 0 0] }).objs.size)))
        { s with heap := (s.heap.push { cls := .type "tuple_iterator", data := .fields #[.ref l, .int 0 0] }).push { cls := .type "enumerate", data := .fields #[.none, .bool false, .ref s.heap.objs.size, rawInt 0, .none, .none] } }) :=
  .of_wp fun prog w A R s h => by
    obtain ⟨hp, g, d, tk, os⟩ := s; obtain ⟨hl, h⟩ := h
    have hsub := sub_enumerate
    obtain ⟨oc, odc, odt, osl⟩ := o
    simp only at hc hd
    subst hc hd
    have hL : Heap.IsTuple (Shared.heap ⟨hp, g, d, tk, os⟩) l items := ⟨_, hl, rfl, n, rfl⟩
    wp_walk using AutoSeq1.wpAny_loadPart' hl
    refine wpAny_stack_any fun st => wpAny_pure ?_
    split
    · rename_i c _ _ _ _ _
      cases (c == Value.type "enumerate")
      · wp_walk using AutoSeq1.wpAny_loadPart' hl, wpAny_pyIter_tuple hL
        exact ⟨_, rfl, h⟩
      · wp_walk using AutoSeq1.wpAny_loadPart' hl, wpAny_pyIter_tuple hL
        exact ⟨_, rfl, h⟩
    · wp_walk using AutoSeq1.wpAny_loadPart' hl, wpAny_pyIter_tuple hL
      exact ⟨_, rfl, h⟩
theorem call_enum_tuple {prog : Program} {w : World} {A : Around} {E : Value → Shared → Prop} {s : Shared} {l : Addr} {items : Array Value} {Q : Value → Shared → Prop} (hL : s.heap.IsTuple l items)
    (h : ∀ h', IsEnum h' (s.heap.objs.size + 1) s.heap.objs.size 0 .none → h'.IsTupleIter s.heap.objs.size l 0 → h'.objs.size = s.heap.objs.size + 2 →
      (∀ b o, s.heap.get? b = some o → h'.get? b = some o) → Q (.ref (s.heap.objs.size + 1)) { s with heap := h' }) :
    wpAny (model prog w) A (call (.type "enumerate") [.ref l]) Q E s := by
  obtain ⟨o, hl, hc, n, hd⟩ := hL
  refine callType_new PySem.F.called_enumerate (by decide) (PySem.F.typeCall_enumerate_1 _) (PySem.F.newCall_enumerate_1 _) (fun obj => PySem.F.args_object_init_2 obj _) PySem.F.entry_enumerate_new
    (meets_enum_newT l items o n hc hd) ⟨hl, ?_⟩
  have hz : (s.heap.push { cls := .type "tuple_iterator", data := .fields #[.ref l, .int 0 0] }).objs.size = s.heap.objs.size + 1 := Heap.size_push ..
  show _ ∧ _
  rw [hz]
  have he : IsEnum ((s.heap.push { cls := .type "tuple_iterator", data := .fields #[.ref l, .int 0 0] }).push
      { cls := .type "enumerate", data := .fields #[.none, .bool false, .ref s.heap.objs.size, rawInt 0, .none, .none] }) (s.heap.objs.size + 1) s.heap.objs.size 0 .none := by
    have := Heap.get?_push_size (s.heap.push { cls := .type "tuple_iterator", data := .fields #[.ref l, .int 0 0] })
      (o := { cls := .type "enumerate", data := .fields #[.none, .bool false, .ref s.heap.objs.size, rawInt 0, .none, .none] }) rfl
    rw [hz] at this; exact this
  refine ⟨⟨_, he, rfl⟩, h _ he ⟨_, Heap.get?_push_of_some _ (Heap.get?_push_size _ rfl), rfl, rfl⟩ (by rw [Heap.size_push, hz]) fun b o x => Heap.get?_push_of_some _ (Heap.get?_push_of_some _ x)⟩
end
section
variable {g : G} {c : Ck} {call : Nat → List Slot → M PyData} {X : Cx} {sc : Scope} {W W' : WX} {K : PySem.W.Frag} {w : World} {H0 F0 F F' H H' H1 F1 : Hp} {Q : VK} {A : Option Addr} {ρ ρ' : Env} {σ σ' : L2.St} {ω ω' : Orc} {α β : Type} {ok : α → Orc → Hp → Hp → Prop}
/-- the tuple at a as it stands at each turn, each item in a new pair -/
def IteT (K : PySem.W.Frag) (a : Addr) : It :=
  ⟨fun i H => ∃ (xs : List V) (x : V), SqT K H a xs ∧ xs[i]? = some x, fun i H v H' => ∃ T x o, v = .ref T ∧ H T = none ∧ o.dict = none ∧ H' = upd H T (.frz o (.tup [.int (i : Nat), x])) ∧ ∀ xs, SqT K H a xs → xs[i]? = some x, fun i H => ∃ xs : List V, SqT K H a xs ∧ xs.length ≤ i⟩
theorem turn_enumT {P : Program} {w : World} {K : PySem.W.Frag} {elts : List PySem.Expr} {kk : Nat} {tpos : Pos} (a e it : Addr) :
    Turn P w K (.Tuple elts kk tpos) (IteT K a) [e, it] e (fun i h => (∃ old, IsEnum h e it ((i : Nat) : Int) old) ∧ h.IsTupleIter it a i ∧ e ≠ it) where
  mem := by simp
  obj := fun i h st b hb => by
    obtain ⟨⟨old, he⟩, ⟨o, ho, hc, hd⟩, _⟩ := st
    have e' : b = e ∨ b = it := by simpa using hb
    rcases e' with z | z
    · rw [z]; exact ⟨_, he, fun v q => nomatch q⟩
    · rw [z]; exact ⟨o, ho, fun v q => by rw [hd] at q; cases q⟩
  keep := fun i h h' st k => let ⟨⟨old, he⟩, hi, hne⟩ := st; ⟨⟨old, k e (by simp) _ he⟩, hi.at fun o q => k it (by simp) o q, hne⟩
  item := by
    intro X hP hw hK hc i pins s σ H E I hf st hg
    subst hP hw hK
    obtain ⟨⟨old, he⟩, hit, hne⟩ := st
    obtain ⟨xs, x, hq, hx⟩ := hg
    obtain ⟨its, rv, p, hz⟩ := I.tuple hq
    obtain ⟨u, hu, ru⟩ := rv.get hx
    have hel : e < s.heap.objs.size := Heap.lt_size he
    have hil : it < s.heap.objs.size := by obtain ⟨_, q, _⟩ := hit; exact Heap.lt_size q
    have hai : a ≠ it := fun z => by
      obtain ⟨o1, q1, q2, _⟩ := p
      obtain ⟨o2, r1, r2, _⟩ := hit
      rw [z, r1] at q1
      cases q1
      rw [r2] at q2
      exact absurd q2 (by decide)
    have hae : e ≠ a := fun z => by
      obtain ⟨o1, q1, q2, _⟩ := p
      have he : s.heap.get? e = some _ := he
      rw [← z, he] at q1
      cases q1
      exact absurd (show (Value.type "enumerate") = Value.type "tuple" from q2) (by decide)
    have hi : i < its.toArray.size := by rw [List.size_toArray]; exact (List.getElem?_eq_some_iff.mp hu).1
    refine wpAny_pyNext_enum_itemD (PySem.Draws.tuple (A := X.A.in1) (I.ok.hd hc) it a hai its.toArray) he ⟨hit, p⟩ hi hne (by simp [hne, hae]) fun x' h' tk hP ho hs' hT hsz hk => ?_
    have : x' = u := by
      rw [List.getElem?_toArray, hu] at hP
      exact (Option.some.inj hP).symm
    subst this
    refine ⟨_, rfl, wpAny_letOwnedTupleGo_enum (s := { s with heap := h', toks := tk + 1 }) ho fun h'' he' sb => ?_⟩
    have hT2 : h''.get? s.heap.objs.size = some { cls := .type "tuple", data := .seq #[.int i tk, x'] } := (sb.2 _ (Nat.ne_of_gt hel)).trans hT
    have new : ObjOk X.prog X.w (upd H s.heap.objs.size (.frz { cls := .type "tuple", data := .seq #[.int i tk, x'] } (.tup [.int (i : Nat), x]))) h'' s.heap.objs.size (.frz { cls := .type "tuple", data := .seq #[.int i tk, x'] } (.tup [.int (i : Nat), x])) :=
      ⟨hT2, by show 2 ≤ sizeLine; decide, [.int i tk, x'], .cons ⟨_, rfl⟩ (.cons ru .nil), ⟨_, hT2, rfl, _, rfl⟩⟩
    have I1 : Inv X pins σ (upd H s.heap.objs.size (.frz { cls := .type "tuple", data := .seq #[.int i tk, x'] } (.tup [.int (i : Nat), x]))) { s with heap := h'', toks := tk + 1 } :=
      I.turnedNew (ch := [e, it]) (fun b ob hb q => (sb.2 b (fun z => hb (by simp [z]))).trans (hk b ob (fun z => hb (by simp [z])) (fun z => hb (by simp [z])) q)) hf (Nat.le_refl _) new
    refine ⟨.ref s.heap.objs.size, _, I1, rfl, ⟨_, x, _, rfl, I.hok.fresh (Nat.le_refl _), rfl, rfl, fun ys hy => by rw [I.tuple_inj hy hq]; exact hx⟩, ⟨⟨x', ?_⟩, hs'.1.at fun o q => (sb.2 it (Ne.symm hne)).trans q, hne⟩, fun b hb => ?_⟩
    · have e1 : ((i + 1 : Nat) : Int) = (i : Int) + 1 := by omega
      rw [e1]; exact he'
    · have hb' : b < s.heap.objs.size := by
        have e' : b = e ∨ b = it := by simpa using hb
        rcases e' with z | z
        · rw [z]; exact hel
        · rw [z]; exact hil
      rw [upd_ne (Nat.ne_of_lt hb')]
      exact (hf b hb).1
  done := by
    intro X hP hw hK hc i pins s σ H E I hf st hg
    subst hP hw hK
    obtain ⟨⟨old, he⟩, hit, hne⟩ := st
    obtain ⟨xs, hq, hx⟩ := hg
    obtain ⟨its, rv, p, hz⟩ := I.tuple hq
    obtain ⟨f0, f1, f2, f3, f4, f5⟩ := hf it (by simp)
    have hl := rv.length
    have hai : a ≠ it := fun z => by
      obtain ⟨o1, q1, q2, _⟩ := p
      obtain ⟨o2, r1, r2, _⟩ := hit
      rw [z, r1] at q1
      cases q1
      rw [r2] at q2
      exact absurd q2 (by decide)
    have hT : s.TypeIs (.ref e) "enumerate" := ⟨_, he, rfl⟩
    unfold pyNext
    refine wpAny_bind (wpAny_attempt (wpAny_callSpecial?_slot (name := Str.ofString "__next__") hT PySem.F.slot_enumerate_next
      (wpAny_call_entry PySem.F.slot_enumerate_next hT PySem.F.entry_enumerate_next ?_ (PySem.F.args_enumerate_next_1 _))))
    show wpAny _ _ (field (.ref e) 2 >>= _) _ _ _
    refine wpAny_bind (wpAny_field he rfl (x := .ref it) rfl ?_)
    refine wpAny_bind (wpAny_nextOf_tuple_end (I.ok.hd hc) hit p (by simp; omega) fun h' x he' hx' => ?_)
    obtain ⟨o, ho, hc⟩ := hx'
    refine wpAny_bind (wpAny_isInstance (T := "StopIteration") (b := true) ⟨o, ho, hc⟩ isSubtype_stop ?_)
    exact wpAny_pure ⟨rfl, I.turned (t' := s.toks) (fun b o hb q => he' b o hb q) f0 f1 f3 f4 f5⟩
  self := fun A i s Q E st h => let ⟨⟨_, he⟩, _⟩ := st; wpAny_pyIter_enum he h
def iEnumA (K : PySem.W.Frag) (ta : TA) : TI := fun σ H R => ta σ H fun vs H1 => ∃ a xs, vs = [.ref a] ∧ ((SqL K H1 a xs ∧ R (IteZ K a) H1) ∨ (SqT K H1 a xs ∧ R (IteT K a) H1))
theorem pi_enumA {e : PySem.Expr} {ta : TA} {p pos tpos : Pos} {elts : List PySem.Expr} {kk : Nat} (hg : Gl X "enumerate") (hm : X.mg "enumerate" = none) (ha : PA X [e] ta) (hs : starEach [e] X.env = [(false, eval e X.env)]) :
    PI X (.Tuple elts kk tpos) (.Call (.Name "enumerate" p) [e] [] pos) (iEnumA X.K ta) := by
  refine ⟨fun pins s σ H R I h => ?_⟩
  refine Call_ (ld_blt I hg hm boot_enumerate (PyProof.Rows.callWith_type1 (thn (ha.run pos pins s σ H _ I h) fun us s1 ⟨vs, H1, I1, r1, q1⟩ => ?_) hs rfl))
  obtain ⟨a, xs, ex, q⟩ := q1
  subst ex
  obtain rfl := Vals.ref1 r1
  rcases q with ⟨hq, q⟩ | ⟨hq, q⟩
  · obtain ⟨its, rv, p', hz⟩ := I1.list hq
    refine call_enumerate_list p'.isList fun h' he hit hsz hk => wpAny_pyIter_enum he ?_
    have I2 : Inv X pins σ H1 { s1 with heap := h' } := I1.kept (t' := s1.toks) hk
    refine ⟨s1.heap.objs.size + 1, [s1.heap.objs.size + 1, s1.heap.objs.size], _, _, H1, rfl, I2, turn_enumZ a (s1.heap.objs.size + 1) s1.heap.objs.size, ⟨⟨.none, he⟩, hit, Nat.succ_ne_self _⟩, fun b hb => ?_, q⟩
    have e' : b = s1.heap.objs.size + 1 ∨ b = s1.heap.objs.size := by simpa using hb
    have hle : s1.heap.objs.size ≤ b := by
      rcases e' with z | z
      · rw [z]; exact Nat.le_add_right _ _
      · rw [z]; exact Nat.le_refl _
    exact I1.fpOk hle (I1.hok.fresh hle)
  · obtain ⟨its, rv, p', hz⟩ := I1.tuple hq
    refine call_enum_tuple p' fun h' he hit hsz hk => wpAny_pyIter_enum he ?_
    have I2 : Inv X pins σ H1 { s1 with heap := h' } := I1.kept (t' := s1.toks) hk
    refine ⟨s1.heap.objs.size + 1, [s1.heap.objs.size + 1, s1.heap.objs.size], _, _, H1, rfl, I2, turn_enumT a (s1.heap.objs.size + 1) s1.heap.objs.size, ⟨⟨.none, he⟩, hit, Nat.succ_ne_self _⟩, fun b hb => ?_, q⟩
    have e' : b = s1.heap.objs.size + 1 ∨ b = s1.heap.objs.size := by simpa using hb
    have hle : s1.heap.objs.size ≤ b := by
      rcases e' with z | z
      · rw [z]; exact Nat.le_add_right _ _
      · rw [z]; exact Nat.le_refl _
    exact I1.fpOk hle (I1.hok.fresh hle)
theorem wk_enumT {P : Hp → Hp → Prop} {a : Addr} {vs : List V} {ds : List PyData} (h : ∀ H F, P H F → SqT K H a vs ∧ DqAll K F vs ds ∧ Fit F H) : Wk K w P (IteT K a) (enumD 0 ds) where
  go := fun i H F d p e => by
    obtain ⟨h1, h2, h3⟩ := h H F p
    obtain ⟨z, e0, rfl⟩ := enumD_get _ _ _ _ e
    obtain ⟨v, e1, e2⟩ := dpa_get h2 e0
    refine ⟨⟨vs, v, h1, e1⟩, fun x H' ⟨T, y, o, y1, y2, y3, y4, y5⟩ => ?_⟩
    subst y1 y4
    have := y5 vs h1
    rw [e1] at this
    cases this
    have sm : Same F (upd F T (.frz o (.tup [.int (i : Nat), v]))) := same_upd (h3.none y2)
    refine ⟨_, Ext.mk1 h3 y2, .dat (.tup ⟨o, upd_same, y3⟩ (.cons ?_ (.cons (dp_mono sm _ _ e2) .nil)))⟩
    rw [Nat.zero_add]
    exact .int _
  stop := fun H F p => by
    obtain ⟨h1, h2, h3⟩ := h H F p
    exact ⟨vs, h1, by rw [enumD_len, dpa_len h2]; exact Nat.le_refl _⟩
theorem enm_rd {z : Bool} {a : E} (hz : (z && isPk a) = false) {R : It → Hp → Prop} (h : tI g call X W z (.enm a) σ H R) : iEnumA X.K (tCons (tE g call X W a) tNil) σ H R := by
  obtain ⟨A, H0, F0, ρ, F, ω, r, q⟩ := h
  rw [evalE, M.bnd_assoc] at q
  refine ⟨A, H0, F0, ρ, F, ω, r, (RPost.bind q).imp fun d ω1 H1 F1 g1 s1 q1 x rx => ?_⟩
  obtain ⟨d', e1, q2⟩ := RPost.ofO (RPost.bind q1)
  have q3 := q2 H1 F1 (Grow.refl g1.fit) s1
  cases d with
  | list ds =>
    cases e1
    have q3 : ∀ J, Wk X.K X.w (Pz z (ExA g A) H1 F1) J (enumD 0 ds) → R J H1 := q3 H1 F1 (Grow.refl g1.fit) s1
    have fz : RepF X.K X.w F1 x (.list ds) → ∃ (a : Addr) (xs : List V), [x] = [.ref a] ∧ ((SqL X.K H1 a xs ∧ R (IteZ X.K a) H1) ∨ (SqT X.K H1 a xs ∧ R (IteT X.K a) H1)) := fun h => by
      obtain ⟨a, vs, e, h1, h2⟩ := h.list
      exact (⟨a, vs, by rw [e], .inl ⟨.inl (.inl (g1.fit _ _ h1)), q3 _ (wk_enum fun H F p => ⟨.inl (.inl (p.fit _ _ (p.fs _ _ h1))), dpAll_mono p.fs _ _ h2, p.fit⟩)⟩⟩)
    cases hp : isPk a with
    | false =>
      rw [hp] at rx
      exact fz rx
    | true =>
      have z0 : z = false := by rw [hp, Bool.and_true] at hz; exact hz
      subst z0
      rw [hp] at rx
      cases rx with
      | frz h => exact fz h
      | lst h0 _ h2 h3 =>
        exact ⟨_, _, rfl, .inl ⟨.inl (.inl h2), q3 _ (wk_enum fun H F p => ⟨.inl (.inl (Grow.hs p _ _ h0 h2)), dpAll_mono p.fs _ _ h3, p.fit⟩)⟩⟩
  | tuple ds =>
    cases e1
    have q3 : ∀ J, Wk X.K X.w (Pz z (ExA g A) H1 F1) J (enumD 0 ds) → R J H1 := q3 H1 F1 (Grow.refl g1.fit) s1
    obtain ⟨a, vs, rfl, h1, h2⟩ := rx.p.tuple
    exact ⟨a, vs, rfl, .inr ⟨sqT_mono g1.fit h1, q3 _ (wk_enumT fun H F p => ⟨sqT_mono p.fit (sqZ_mono p.fs h1), dpAll_mono p.fs _ _ h2, p.fit⟩)⟩⟩
  | _ => cases e1
end
end Wv

set_option autoImplicit false
set_option linter.all false
set_option maxRecDepth 100000
set_option maxHeartbeats 4000000
namespace Wv
open PySem PySem.Spec PyProof.Rows L2
section
variable {g : G} {c : Ck} {call : Nat → List Slot → M PyData} {X : Cx} {sc : Scope} {W W' : WX} {K : PySem.W.Frag} {w : World} {H0 F0 F F' H H' H1 F1 : Hp} {Q : VK} {A : Option Addr} {ρ ρ' : Env} {σ σ' : L2.St} {ω ω' : Orc} {α β : Type} {ok : α → Orc → Hp → Hp → Prop}
/-! len(set(xs)) -/
theorem first_all (ns : List Int) : firstMet (fun i => ns.getD i 0) ns.length = ddp ns := by
  unfold firstMet ddp
  have e : (List.range ns.length).map (fun i => ns.getD i 0) = ns := by
    apply List.ext_getElem
    · simp
    · intro i h1 h2
      simp [List.getD_eq_getElem?_getD, List.getElem?_eq_getElem h2]
  rw [e]
  rfl
theorem rows_at : ∀ {vs : List V} {ds : List PyData} {ms : List (List Int)}, DqAll K F vs ds → Wv.rowsOf ds = some ms → ∃ ks : List (Addr × List Int), vs = ks.map (fun p => V.ref p.1) ∧ ms = ks.map (·.2) ∧ ∀ p ∈ ks, SqZ F p.1 (p.2.map V.int)
  | _, _, ms, .nil, h => by
    simp [Wv.rowsOf] at h
    subst h
    exact ⟨[], rfl, rfl, fun p hp => by cases hp⟩
  | _, d :: ds, ms, .cons a t, h => by
    cases d with
    | tuple xs =>
      have h : (match intsOf xs, Wv.rowsOf ds with
        | some ns, some ms => some (ns :: ms)
        | _, _ => none) = some ms := h
      cases e1 : intsOf xs with
      | none => rw [e1] at h; cases h
      | some ns =>
        cases e2 : Wv.rowsOf ds with
        | none => rw [e1, e2] at h; cases h
        | some ms' =>
          rw [e1, e2] at h
          cases h
          obtain ⟨ks, k1, k2, k3⟩ := rows_at t e2
          cases a with
          | tup b c =>
            have := dpa_ints c e1
            subst this
            exact ⟨(_, ns) :: ks, by rw [k1]; rfl, by rw [k2]; rfl, fun p hp => by
              rcases List.mem_cons.mp hp with e | e
              · subst e; exact b
              · exact k3 p e⟩
    | _ => cases h
def lenSet (d : PyData) : Option PyData := (setD d).bind (p1 .len)
def tLenSetD (K : PySem.W.Frag) (w : World) (ta : TE) : TE := fun σ H Q => ta σ H fun x H1 => ∃ Ex F d d', Fit F H1 ∧ RepP K w Ex F H1 x d ∧ lenSet d = some d' ∧ ∀ v H' F', Ext H1 F H' F' → RepF K w F' v d' → Q v H'
theorem pe_lenSetD {a : PySem.Expr} {ta : TE} {p p2 q pos : Pos} (hg : Gl X "len") (hm : X.mg "len" = none) (hg2 : Gl X "set") (hm2 : X.mg "set" = none) (ha : PE X a ta) (hc : X.calm = true) (hu : X.A.units + 100 < cLine) (hs : noStar a = true) : PE X (.Call (.Name "len" p) [.Call (.Name "set" p2) [a] [] q] [] pos) (tLenSetD X.K X.w ta) := by
  have na : starEach [a] X.env = (false, eval a X.env) :: starEach [] X.env := star_of hs
  refine ⟨fun pins s σ H Q I h => ?_⟩
  refine Call_ (ld_blt I hg hm boot_len ?_)
  refine PyProof.Rows.callWith_builtin1 (PyProof.Rows.args_cons ?_ rfl) rfl rfl
  refine Call_ (ld_blt I hg2 hm2 boot_set ?_)
  refine PyProof.Rows.callWith_type1 (PyProof.Rows.args_cons (thn (ha.run pins s σ H _ I h) fun v s1 ⟨x, H1, I1, r1, q1⟩ => PyProof.Rows.args_nil ?_) na) na rfl
  obtain ⟨Ex, F, d, d', f, rx, e1, q1⟩ := q1
  obtain ⟨d2, e2, e3⟩ := Option.bind_eq_some_iff.mp e1
  cases d with
  | list ds =>
    obtain ⟨l, vs, rfl, h1, h2⟩ := rx.list f
    cases r1
    obtain ⟨its, r, pl, hz⟩ := I1.list (SqL.of h1)
    have hlen : its.toArray.size = ds.length := by rw [List.size_toArray, ← r.length, dpa_len h2]
    have e2 : (match intsOf ds with
      | some ns => gO (decide (ns.length ≤ 4000)) (some (PyData.list ((ddp ns).map .int)))
      | none => match Wv.rowsOf ds with
        | some ms => gO (decide (ms.length < 64) && true) (some (.list ((ddp ms).map fun ns => .tuple (ns.map .int))))
        | none => none) = some d2 := e2
    cases ei : intsOf ds with
    | some ns =>
      rw [ei] at e2
      obtain ⟨hb, e2⟩ := gO_some e2
      cases e2
      cases e3
      have hb := of_decide_eq_true hb
      have := dpa_ints h2 ei
      subst this
      have hl2 : its.toArray.size = ns.length := by rw [List.size_toArray, ← r.length, List.length_map]
      refine call_set_list (I1.ok.hd hc) pl.isList (by simpa using r.ints) (by rw [hl2]; unfold scanBound; omega) fun h' tk hS hk => ?_
      refine PyProof.Rows.args_nil ?_
      rw [hl2, first_all] at hS
      have hle : (ddp ns).length ≤ ns.length := by rw [← first_all]; exact firstMet_length_le _ _
      obtain ⟨o, es, ep, t, ho, hex, hd, _, _, _, hf, hn⟩ := hS
      have I2 : Inv X pins σ H1 { s1 with heap := h', toks := tk } := I1.kept fun b o e => hk b o (Heap.lt_size e) e
      exact call_len_set ho hex hd hf (by rw [hn] <;> omega) ⟨.int ((ddp ns).length : Nat), H1, I2.tok _, ⟨_, by rw [hn]⟩, by have := q_int f q1; rw [List.length_map] at this; exact this⟩
    | none =>
      rw [ei] at e2
      cases er : Wv.rowsOf ds with
      | none => rw [er] at e2; cases e2
      | some ms =>
        rw [er] at e2
        obtain ⟨hb, e2⟩ := gO_some e2
        cases e2
        cases e3
        rw [Bool.and_true] at hb
        have hb := of_decide_eq_true hb
        obtain ⟨ks, k1, k2, k3⟩ := rows_at h2 er
        subst k1
        have hkl : ks.length = ms.length := by rw [k2, List.length_map]
        refine call_set_tups (P := X.prog) (w := X.w) ks (I1.ok.hd hc) pl.isList (by simpa using refs_of_vals r) (fun p hp => I1.isT (sqT_mono f (k3 p hp))) (by omega) (by omega) fun h' tk L es ep t R g k => ?_
        refine PyProof.Rows.args_nil ?_
        have I2 : Inv X pins σ H1 { s1 with heap := h', toks := tk } := I1.kept k
        obtain ⟨o, ho, hex, hd⟩ := R.ob
        have hsz : es.size = (ddp ms).length := by
          rw [SetTR.size (s := { s1 with heap := h', toks := tk }) R]
          obtain ⟨d1, d2⟩ := ddp_ok ms
          rw [← len_same R.nd d1 fun y => ?_, List.length_map]
          rw [d2 y]
          constructor
          · intro hy
            obtain ⟨p, hp, rfl⟩ := List.mem_map.mp hy
            rw [k2]
            exact List.mem_map.mpr ⟨p, List.mem_of_mem_take (g.sub p hp), rfl⟩
          · intro hy
            rw [k2] at hy
            obtain ⟨p, hp, rfl⟩ := List.mem_map.mp hy
            exact g.all p (by rw [List.take_length]; exact hp)
        have hL := R.few
        have hsz2 : es.size = L.length := SetTR.size (s := { s1 with heap := h', toks := tk }) R
        exact call_len_set (s := { s1 with heap := h', toks := tk }) ho hex hd (SetTR.fits (s := { s1 with heap := h', toks := tk }) R) (by omega) ⟨.int ((ddp ms).length : Nat), H1, I2.tok _, ⟨_, by rw [hsz]⟩, by have := q_int f q1; rw [List.length_map] at this; exact this⟩
  | tuple ds =>
    obtain ⟨l, vs, rfl, h1, h2⟩ := rx.tuple
    cases r1
    obtain ⟨its, r, pl, hz⟩ := I1.tuple (sqT_mono f h1)
    have e2 : (match intsOf ds with
      | some ns => gO (decide (ns.length ≤ 4000)) (some (PyData.list ((ddp ns).map .int)))
      | none => match Wv.rowsOf ds with
        | some ms => gO (decide (ms.length < 64) && false) (some (.list ((ddp ms).map fun ns => .tuple (ns.map .int))))
        | none => none) = some d2 := e2
    cases ei : intsOf ds with
    | some ns =>
      rw [ei] at e2
      obtain ⟨hb, e2⟩ := gO_some e2
      cases e2
      cases e3
      have hb := of_decide_eq_true hb
      have := dpa_ints h2 ei
      subst this
      refine call_set_tupI (w := X.w) ns (I1.ok.hd hc) pl (by simpa using r.ints) (by unfold scanBound; omega) fun h' tk c R hcn k => ?_
      refine PyProof.Rows.args_nil ?_
      obtain ⟨o, es, ep, t, ho, hex, hd, g1, nd, hm1, hb1, hf, hn, _⟩ := R
      have I2 : Inv X pins σ H1 { s1 with heap := h', toks := tk } := I1.kept k
      have hsz : es.size = (ddp ns).length := by
        obtain ⟨d1, d2⟩ := ddp_ok ns
        rw [← len_same nd d1 fun y => ?_, List.length_map, Array.length_toList]
        rw [d2 y, ← hm1 y]
        exact decide_eq_true_iff
      exact call_len_set (s := { s1 with heap := h', toks := tk }) ho hex hd hf (by omega) ⟨.int ((ddp ns).length : Nat), H1, I2.tok _, ⟨_, by rw [hsz]⟩, by have := q_int f q1; rw [List.length_map] at this; exact this⟩
    | none =>
      rw [ei] at e2
      cases er : Wv.rowsOf ds with
      | none => rw [er] at e2; cases e2
      | some ms =>
        rw [er] at e2
        have := (gO_some e2).1
        rw [Bool.and_false] at this
        cases this
  | _ => cases e2
theorem lenset_rd {a : E} (h : tE g call X W (.b1 .len (.setof a)) σ H Q) : tLenSetD X.K X.w (tE g call X W a) σ H Q := by
  obtain ⟨A, H0, F0, ρ, F, ω, r, q⟩ := h
  rw [evalE, evalE, M.bnd_assoc] at q
  refine ⟨A, H0, F0, ρ, F, ω, r, (RPost.bind q).imp fun d ω1 H1 F1 g1 s1 q1 x rx => ?_⟩
  cases e : setD d with
  | none => rw [e] at q1; exact q1.elim
  | some d2 =>
    rw [e] at q1
    have q1 : RPost g X.K W σ A H1 F1 (M.ofO (p1 .len d2) ω1) _ := q1
    cases e2 : p1 .len d2 with
    | none => rw [e2] at q1; exact q1.elim
    | some d3 =>
      rw [e2] at q1
      exact ⟨_, F1, d, d3, g1.fit, rx.p, by unfold lenSet; rw [e]; exact e2, fun v H' F' ex rv => q1 H' F' ex.grow (s1.ext ex) v rv⟩
/-! sorted(set(t)) -/
def tSSet (K : PySem.W.Frag) (w : World) (ta : TE) : TE := fun σ H Q => ta σ H fun x H1 => ∃ Ex F d d', Fit F H1 ∧ RepP K w Ex F H1 x d ∧ ssetD d = some d' ∧ ∀ v H' F', Ext H1 F H' F' → RepN K w H1 F' H' v d' → Q v H'
theorem pe_sset {a : PySem.Expr} {ta : TE} {p p2 q pos : Pos} (hg : Gl X "sorted") (hm : X.mg "sorted" = none) (hg2 : Gl X "set") (hm2 : X.mg "set" = none) (ha : PE X a ta) (hc : X.calm = true) (hs : noStar a = true) : PE X (.Call (.Name "sorted" p) [.Call (.Name "set" p2) [a] [] q] [] pos) (tSSet X.K X.w ta) := by
  have na : starEach [a] X.env = (false, eval a X.env) :: starEach [] X.env := star_of hs
  refine ⟨fun pins s σ H Q I h => ?_⟩
  refine Call_ (ld_blt I hg hm (by decide +kernel : bootBuiltins "sorted" = some (.builtin "sorted")) ?_)
  refine PyProof.Rows.callWith_builtin1 (PyProof.Rows.args_cons ?_ rfl) rfl rfl
  refine Call_ (ld_blt I hg2 hm2 boot_set ?_)
  refine PyProof.Rows.callWith_type1 (PyProof.Rows.args_cons (thn (ha.run pins s σ H _ I h) fun v s1 ⟨x, H1, I1, r1, q1⟩ => PyProof.Rows.args_nil ?_) na) na rfl
  obtain ⟨Ex, F, d, d', f, rx, e1, q1⟩ := q1
  cases d with
  | tuple ds =>
    obtain ⟨l, vs, rfl, h1, h2⟩ := rx.tuple
    cases r1
    obtain ⟨its, r, pl, hz⟩ := I1.tuple (sqT_mono f h1)
    have e2 : (match intsOf ds with
      | some ns => gO (decide (ns.length < 64)) (some (PyData.list (((ddp ns).map PyData.int).mergeSort (PySem.W.dataLe false id))))
      | none => none) = some d' := e1
    cases ei : intsOf ds with
    | none => rw [ei] at e2; cases e2
    | some ns =>
      rw [ei] at e2
      obtain ⟨hb, e2⟩ := gO_some e2
      cases e2
      have hb := of_decide_eq_true hb
      have := dpa_ints h2 ei
      subst this
      refine call_set_tupI (w := X.w) ns (I1.ok.hd hc) pl (by simpa using r.ints) (by unfold scanBound; omega) fun h' tk c R hcn k => ?_
      refine PyProof.Rows.args_nil ?_
      have I2 : Inv X pins σ H1 { s1 with heap := h', toks := tk } := I1.kept k
      refine sorted_set (s := { s1 with heap := h', toks := tk }) R (I1.ok.hd hc) (by omega) fun s' p out c2 ms k2 g2 o2 hp hg hi hs2 hm2 hl2 => ?_
      have hlen : (ms.map V.int).length ≤ sizeLine := by rw [List.length_map, hl2, sizeLine_eq]; omega
      have hn : H1 p = none := I2.hok.fresh hp
      have J : Inv X pins σ (upd H1 p (.lst (ms.map V.int))) { { s1 with heap := h', toks := tk } with heap := s'.heap, gens := s'.gens, drawn := s'.drawn, toks := s'.toks } :=
        I2.call (ch := []) (Un.laid k2 hp hn) (I2.hok.laid k2 hp ⟨hlen, out.toList, c2, vals_of_ints hi, hg⟩) (by rw [g2]; exact I2.bare) (fun _ z => nomatch z)
      have e : s' = { { s1 with heap := h', toks := tk } with heap := s'.heap, gens := s'.gens, drawn := s'.drawn, toks := s'.toks } := by
        cases s'
        cases s1
        cases o2
        rfl
      rw [e]
      have hperm : ms.Perm (ddp ns) := by
        obtain ⟨d1, d2⟩ := ddp_ok ns
        refine (List.perm_ext_iff_of_nodup (hs2.imp fun {a b} h => by omega) d1).mpr fun y => ?_
        rw [hm2 y, d2 y]
        exact decide_eq_true_iff
      have es : ((ddp ns).map PyData.int).mergeSort (PySem.W.dataLe false id) = ms.map PyData.int := srt_uniq hperm (hs2.imp fun {a b} h => by omega)
      rw [es] at q1
      exact ⟨.ref p, _, J, rfl, q1 _ _ F (Ext.mk0 f hn) ⟨_, rfl, hn, f.none hn, _, upd_same, dqa_ints ms⟩⟩
  | _ => cases e1
theorem ssetE_rd {a : E} (h : tN g call X W (.sset a) σ H Q) : tSSet X.K X.w (tE g call X W a) σ H Q := by
  obtain ⟨A, H0, F0, ρ, F, ω, r, q⟩ := h
  rw [evalE] at q
  refine ⟨A, H0, F0, ρ, F, ω, r, (RPost.bind q).imp fun d ω1 H1 F1 g1 s1 q1 x rx => ?_⟩
  obtain ⟨d', e, q2⟩ := RPost.ofO q1
  exact ⟨_, F1, d, d', g1.fit, rx.p, e, fun v H' F' ex rv => q2 H' F' ex.grow (s1.ext ex) v (repN_up g1.ex rv)⟩
end
end Wv

set_option autoImplicit false
set_option linter.all false
set_option maxRecDepth 100000
set_option maxHeartbeats 4000000
namespace Wv
open PySem PySem.Spec PyProof.Rows L2
section
variable {g : G} {c : Ck} {call : Nat → List Slot → M PyData} {X : Cx} {sc : Scope} {W W' : WX} {K : PySem.W.Frag} {w : World} {H0 F0 F F' H H' H1 F1 : Hp} {Q : VK} {A : Option Addr} {ρ ρ' : Env} {σ σ' : L2.St} {ω ω' : Orc} {α β : Type} {ok : α → Orc → Hp → Hp → Prop}
/-! index -/
theorem mt_indexL (hu : X.A.units + 100 < cLine) : MtR X "list.index" (rMD X.K X.w (onList mindexD)) := by
  intro pins s σ H x xs v us Q I rx rxs ⟨Ex, F, y, d1, d2, d3, e, f, r1, r2, hb, q⟩
  subst e
  obtain ⟨u, rfl, ru⟩ := vals1 rxs
  cases d1 with
  | list ds =>
    have hb : gO (shp d2 && shp (.list ds)) ((ds.findIdx? fun z => PyData.eqv z d2).map fun (k : Nat) => PyData.int k) = some d3 := by
      rw [← hb]
      unfold onList mindexD
      simp only
      cases (ds.findIdx? fun z => PyData.eqv z d2) <;> rfl
    obtain ⟨hc, hb⟩ := gO_some hb
    obtain ⟨j, hj0, rfl⟩ := Option.map_eq_some_iff.mp hb
    obtain ⟨h1, h2⟩ := Bool.and_eq_true_iff.mp hc
    obtain ⟨hjd, hz, hno⟩ := List.findIdx?_eq_some_iff_getElem.mp hj0
    obtain ⟨a, vs, rfl, h3, h4⟩ := r1.list f
    cases rx
    obtain ⟨its, rv, ⟨⟨cls, dd, data, sls⟩, n, ho, hcl, hdn, hdt⟩, hlen⟩ := I.list (SqL.of h3)
    simp only at hcl hdt
    subst hcl hdt
    obtain ⟨as, e1⟩ := reads_of I f rv h4
    obtain ⟨bs, e2⟩ := Dp.reads I d2 y u (r2.dp f (shp_nd h1)) ru
    obtain ⟨h5, h6⟩ := shp_list h2
    have hmap : its.map (SeqAt.readOf s.heap) = ds := SeqAt.readsAll_map ds its as h5 e1
    have hn : its.length = ds.length := SeqAt.ReadsAll.length ds its as e1
    have hsl := sizeLine_eq
    have hvl := rv.length
    have hj : j < its.toArray.size := by simp; omega
    have at_ : ∀ (m : Nat) (hm : m < its.toArray.size) (hd : m < ds.length), SeqAt.readOf s.heap its.toArray[m] = ds[m] := by
      intro m hm hd
      have hml : m < its.length := by simpa using hm
      have : (its.map (SeqAt.readOf s.heap))[m]? = ds[m]? := by rw [hmap]
      rw [List.getElem?_map, List.getElem?_eq_getElem hml, List.getElem?_eq_getElem hd] at this
      simpa using this
    refine call_meets PySem.F.slot_list_index ⟨_, ho, rfl⟩ PySem.F.entry_list_index (PySem.F.args_list_index_2 _ _)
      (SeqAt.list_indexAt a its.toArray n dd sls u (fun u => PyData.eqv (SeqAt.readOf s.heap u) d2) j hj (by have := hlen; omega) ?_ ?_) ⟨ho, SeqAt.items_eqAt (vs := its.toArray) (by simpa using e1) e2 h5 (shp_can h1) (room_in h6 (by omega)), ⟨.int (j : Nat), H, I.tok _, ⟨_, rfl⟩, q_int f q⟩⟩
    · show PyData.eqv (SeqAt.readOf s.heap its.toArray[j]) d2 = true
      rw [at_ j hj hjd]; exact hz
    · intro m hm hmj
      show PyData.eqv (SeqAt.readOf s.heap its.toArray[m]) d2 = false
      rw [at_ m hm (by omega)]
      have := hno m hmj
      simpa using this
  | _ => cases hb
theorem mt_indexT (hu : X.A.units + 100 < cLine) : MtR X "tuple.index" (rMD X.K X.w (onTup mindexD)) := by
  intro pins s σ H x xs v us Q I rx rxs ⟨Ex, F, y, d1, d2, d3, e, f, r1, r2, hb, q⟩
  subst e
  obtain ⟨u, rfl, ru⟩ := vals1 rxs
  cases d1 with
  | tuple ds =>
    have hb : gO (shp d2 && shp (.tuple ds)) ((ds.findIdx? fun z => PyData.eqv z d2).map fun (k : Nat) => PyData.int k) = some d3 := by
      rw [← hb]
      unfold onTup mindexD
      simp only
      cases (ds.findIdx? fun z => PyData.eqv z d2) <;> rfl
    obtain ⟨hc, hb⟩ := gO_some hb
    obtain ⟨j, hj0, rfl⟩ := Option.map_eq_some_iff.mp hb
    obtain ⟨h1, h2⟩ := Bool.and_eq_true_iff.mp hc
    obtain ⟨hjd, hz, hno⟩ := List.findIdx?_eq_some_iff_getElem.mp hj0
    obtain ⟨a, vs, rfl, h3, h4⟩ := r1.tuple
    cases rx
    obtain ⟨its, rv, ⟨⟨cls, dd, data, sls⟩, ho, hcl, n, hdt⟩, hlen⟩ := I.tuple (sqT_mono f h3)
    simp only at hcl hdt
    subst hcl hdt
    obtain ⟨as, e1⟩ := reads_of I f rv h4
    obtain ⟨bs, e2⟩ := Dp.reads I d2 y u (r2.dp f (shp_nd h1)) ru
    obtain ⟨h5, h6⟩ := shp_tup h2
    have hmap : its.map (SeqAt.readOf s.heap) = ds := SeqAt.readsAll_map ds its as h5 e1
    have hn : its.length = ds.length := SeqAt.ReadsAll.length ds its as e1
    have hj : j < its.toArray.size := by simp; omega
    have at_ : ∀ (m : Nat) (hm : m < its.toArray.size) (hd : m < ds.length), SeqAt.readOf s.heap its.toArray[m] = ds[m] := by
      intro m hm hd
      have hml : m < its.length := by simpa using hm
      have : (its.map (SeqAt.readOf s.heap))[m]? = ds[m]? := by rw [hmap]
      rw [List.getElem?_map, List.getElem?_eq_getElem hml, List.getElem?_eq_getElem hd] at this
      simpa using this
    refine call_meets PySem.F.slot_tuple_index ⟨_, ho, rfl⟩ PySem.F.entry_tuple_index (PySem.F.args_tuple_index_2 _ _)
      (TI.tuple_indexAt a its.toArray n dd sls u (fun u => PyData.eqv (SeqAt.readOf s.heap u) d2) j hj ?_ ?_) ⟨ho, SeqAt.items_eqAt (vs := its.toArray) (by simpa using e1) e2 h5 (shp_can h1) (room_in h6 (by omega)), ⟨.int (j : Nat), H, I.tok _, ⟨_, rfl⟩, q_int f q⟩⟩
    · show PyData.eqv (SeqAt.readOf s.heap its.toArray[j]) d2 = true
      rw [at_ j hj hjd]; exact hz
    · intro m hm hmj
      show PyData.eqv (SeqAt.readOf s.heap its.toArray[m]) d2 = false
      rw [at_ m hm (by omega)]
      have := hno m hmj
      simpa using this
  | _ => cases hb
theorem mindex_rd {a b : E} (hu : X.A.units + 100 < cLine) (h : tE g call X W (.mindex a b) σ H Q) : tBMD X (Str.ofString "index") (tE g call X W a) (tCons (tE g call X W b) tNil) σ H Q := by
  obtain ⟨A, H0, F0, ρ, F, ω, r, q⟩ := h
  rw [evalE] at q
  refine ⟨A, H0, F0, ρ, F, ω, r, (RPost.bind q).imp fun d1 ω1 H1 F1 g1 s1 q1 x rx => ?_⟩
  obtain ⟨hc, q1⟩ := RPost.guard q1
  cases d1 with
  | list ds =>
    obtain ⟨a', vs, rfl, h1, h2⟩ := rx.p.list g1.fit
    refine ⟨"list", "list.index", _, PySem.F.plainAttrs_list, PySem.F.slot_list_index, PySem.F.type_list_index, mt_indexL hu, isTy_list h1, A, H0, F0, ρ, F1, ω1, r.grow g1 s1, (RPost.bind q1).imp fun d2 ω2 H2 F2 g2 s2 q2 y ry => ?_⟩
    obtain ⟨d3, e3, q3⟩ := RPost.ofO q2
    exact ⟨_, F2, y, _, d2, d3, rfl, g2.fit, rx.p.grow g2, ry.p, e3, fun v H' F' e rv => q3 H' F' e.grow (s2.ext e) v rv⟩
  | tuple ds =>
    obtain ⟨a', vs, rfl, h1, h2⟩ := rx.p.tuple
    refine ⟨"tuple", "tuple.index", _, PySem.F.plainAttrs_tuple, PySem.F.slot_tuple_index, PySem.F.type_tuple_index, mt_indexT hu, isTy_tup (sqZ_mono g1.fit h1), A, H0, F0, ρ, F1, ω1, r.grow g1 s1, (RPost.bind q1).imp fun d2 ω2 H2 F2 g2 s2 q2 y ry => ?_⟩
    obtain ⟨d3, e3, q3⟩ := RPost.ofO q2
    exact ⟨_, F2, y, _, d2, d3, rfl, g2.fit, rx.p.grow g2, ry.p, e3, fun v H' F' e rv => q3 H' F' e.grow (s2.ext e) v rv⟩
  | _ => cases hc
/-! [e for t in it if ts for t2 in it2 if ts2] -/
def body2M (gt : Nat → Option PyData) (call : Nat → List Slot → M PyData) (t : Tg) (ts : Es) (t2 : Tg) (it2 : E) (ts2 : Es) (e : E) (ρ : Env) (x : PyData) : M (List PyData) := do
  let ρ' ← asgT t false x ρ
  let b ← evalT gt call ts ρ'
  if b = true then (evalE gt call it2 ρ' >>= fun d => M.ofO (itemsOf d)) >>= fun zs => M.guard (decide (zs.length ≤ 1000)) (compM (bodyM gt call t2 ts2 e (clr (tgS t2) ρ')) zs) else pure []
theorem evalE_comp2 {gt : Nat → Option PyData} {t t2 : Tg} {it it2 : E} {ts ts2 : Es} {e : E} : evalE gt call (.comp2 t it ts t2 it2 ts2 e) ρ = M.noexc ((evalE gt call it ρ >>= fun d => M.ofO (itemsOf d)) >>= fun xs => M.guard (decide (xs.length ≤ 1000)) (comp2M (body2M gt call t ts t2 it2 ts2 e (clr (tgS t ++ tgS t2) ρ)) xs >>= fun ys => pure (.list ys))) := by
  have hb : body2M gt call t ts t2 it2 ts2 e (clr (tgS t ++ tgS t2) ρ) = fun x => (do
      let ρ' ← asgT t false x (clr (tgS t ++ tgS t2) ρ)
      let b ← evalT gt call ts ρ'
      if b = true then do
        let z0 ← evalE gt call it2 ρ'
        let zs ← M.ofO (itemsOf z0)
        M.guard (decide (zs.length ≤ 1000)) (compM (bodyM gt call t2 ts2 e (clr (tgS t2) ρ')) zs)
      else pure []) := by
    funext x
    simp only [body2M, M.bnd_assoc]
  rw [hb, evalE, M.bnd_assoc]
  rfl
theorem asg_own : ∀ (t : Tg) (d : PyData) (ρ ρ' : Env) (ω ω' : Orc), asgT t false d ρ ω = .ok ρ' ω' → ∀ (i : Nat) (d : PyData), ρ'[i]? = some (.v true d) → ρ[i]? = some (.v true d)
  | .nm j, o, ρ, ρ', ω, ω', h, i, d, e => by
    cases h
    by_cases z : j = i
    · subst z
      rw [List.getElem?_set] at e
      split at e
      · split at e
        · cases e
        · cases e
      · exact e
    · rw [List.getElem?_set_ne z] at e; exact e
  | .t0, .tuple [], ρ, ρ', ω, ω', h, i, d, e => by cases h; exact e
  | .tc a b, .tuple (x :: xs), ρ, ρ', ω, ω', h, i, d, e => by
    have e0 : asgT (.tc a b) false (.tuple (x :: xs)) ρ ω = M.bnd (asgT a false x ρ) (fun r => asgT b false (.tuple xs) r) ω := rfl
    rw [e0] at h
    unfold M.bnd at h
    cases q : asgT a false x ρ ω with
    | ok r ω1 =>
      rw [q] at h
      exact asg_own a x ρ r ω ω1 q i d (asg_own b (.tuple xs) r ρ' ω1 ω' h i d e)
    | exc => rw [q] at h; cases h
    | stuck => rw [q] at h; cases h
theorem clr_own : ∀ (vs : List Nat) (ρ : Env) (i : Nat) (d : PyData), (clr vs ρ)[i]? = some (.v true d) → i ∉ vs ∧ ρ[i]? = some (.v true d)
  | [], ρ, i, d, h => ⟨by simp, h⟩
  | v :: vs, ρ, i, d, h => by
    obtain ⟨h1, h2⟩ := clr_own vs (ρ.set v .un) i d h
    by_cases z : v = i
    · subst z
      rw [List.getElem?_set] at h2
      split at h2
      · split at h2
        · cases h2
        · cases h2
      · exact absurd rfl ‹_›
    · rw [List.getElem?_set_ne z] at h2
      exact ⟨by simp only [List.mem_cons, not_or]; exact ⟨fun e => z e.symm, h1⟩, h2⟩
/-- the same slots at a heap where another's list has been filled on -/
theorem Rel.hop {D : Addr} {H' F' : Hp} (r : Rel g K w A H0 F0 ρ σ H F ω) (gr : Grow (ExA g A) H0 F0 H' F') (fs : Same F F') (st : StOk g A H' F' ω')
    (keep : ∀ a u, ¬ ExA g A a → F a = none → a ≠ D → H a = some u → H' a = some u ∧ F' a = none) (no : ∀ (i : Nat) d, ρ[i]? = some (.v true d) → σ[i]? ≠ some (some (.ref D))) : Rel g K w A H0 F0 ρ σ H' F' ω' where
  gr := gr
  len := r.len
  sl := fun i s e => by
    have h := r.sl i s e
    cases s with
    | un => trivial
    | v o d =>
      cases o with
      | false => obtain ⟨v, h1, h2⟩ := h; exact ⟨v, h1, h2.mono fs⟩
      | true =>
        obtain ⟨a, h1, h2, h3, h4, h5⟩ := h
        have hD : a ≠ D := fun z => no i d e (by rw [h1, z])
        obtain ⟨o, ho⟩ := h4.obj
        exact ⟨a, h1, (keep a o h3 h2 hD ho).2, h3, h4.mono fs (fun o e => (keep a o h3 h2 hD e).1), h5⟩
    | f k => exact h
    | s => exact h
    | x c p => exact h
  own := r.own
  st := st
theorem comp2_rd {t t2 : Tg} {it it2 : E} {ts ts2 : Es} {e : E} (he : isPk e = false) (h : tN g call X W (.comp2 t it ts t2 it2 ts2 e) σ H Q) :
    tLc2 (tI g call X W false it) (tG g X (tgS t ++ tgS t2) t) (tTs g call X W0 ts) (tI g call X W0 true it2) (tG g X (tgS t2) t2) (tTs g call X W0 ts2) (tE g call X W0 e) (tgS t ++ tgS t2) (tgS t2) σ H Q := by
  obtain ⟨A, H0, F0, ρ, F, ω, r, q⟩ := h
  rw [evalE_comp2] at q
  have q := RPost.nox q
  refine ⟨A, H0, F0, ρ, F, ω, r, (RPost.sig (RPost.bind q)).imp fun xs ω1 H1 F1 g1 s1 q2 J hJ => ?_⟩
  obtain ⟨hlen, q2⟩ := RPost.guard q2
  have hlen : xs.length ≤ 1000 := of_decide_eq_true hlen
  intro D hD
  have nD : ¬ ExA g A D := s1.nA hD
  have hHD : H D = none := g1.ex _ hD
  generalize hf : body2M g.gt call t ts t2 it2 ts2 e (clr (tgS t ++ tgS t2) ρ) = f at q2
  let Inv : Nat → Nat → Hp → Prop := fun i m H' => ∃ F' ω' acc ds, i ≤ xs.length ∧ m = xs.length - i ∧ Grow (ExA g A) H1 F1 H' F' ∧ StOk g A H' F' ω' ∧ H' D = some (.lst acc) ∧ F' D = none ∧ acc.length ≤ i * 1000 ∧ DqAll X.K F' acc ds ∧
    RPost g X.K W0 σ A H1 F1 ((comp2M f (xs.drop i) >>= fun ys => pure (PyData.list (ds ++ ys))) ω') (fun d _ H' F' => ∀ v, RepN X.K X.w H F' H' v d → Q v H')
  have fD : F1 D = none := g1.fit.none hD
  have e0 : Ext H1 F1 (upd H1 D (.lst [])) F1 := Ext.mk0 g1.fit hD
  refine ⟨Inv, ⟨xs.length, F1, ω1, [], [], Nat.zero_le _, by simp, e0.grow, s1.ext e0, upd_same, fD, Nat.zero_le _, .nil, ?_⟩, ?_⟩
  · rw [List.drop_zero]; exact q2
  rintro i m H2 ⟨F2, ω2, acc, ds, hi, rfl, g2, s2, hd2, fd2, hac, hds, q3⟩
  by_cases hlt : i < xs.length
  case neg =>
    have ei : i = xs.length := by omega
    refine .inl ⟨by rw [ei]; exact hJ.stop H2 F2 (Pz.of g2), ?_⟩
    rw [ei, List.drop_length] at q3
    have q4 : RPost g X.K W0 σ A H1 F1 ((pure (PyData.list (ds ++ [])) : M PyData) ω2) _ := q3
    refine q4 H2 F2 g2 s2 _ ?_
    rw [List.append_nil]
    exact ⟨D, rfl, hHD, fd2, acc, hd2, hds⟩
  have ex : xs[i]? = some xs[i] := List.getElem?_eq_getElem hlt
  obtain ⟨hgo, hy⟩ := hJ.go i H2 F2 xs[i] (Pz.of g2) ex
  refine .inr ⟨hgo, fun H' => Inv (i + 1) (xs.length - (i + 1)) H', fun H' h => ⟨_, by omega, h⟩, fun x H3 yl => ?_⟩
  obtain ⟨F3, e3, rx⟩ := hy x H3 yl
  rw [drop_cons ex] at q3
  have q3 : RPost g X.K W0 σ A H1 F1 (((f xs[i] >>= fun zs => comp2M f (xs.drop (i + 1)) >>= fun ys => pure (zs ++ ys)) >>= fun ys => pure (PyData.list (ds ++ ys))) ω2) (fun d _ H' F' => ∀ v, RepN X.K X.w H F' H' v d → Q v H') := q3
  have hfx : f xs[i] = asgT t false xs[i] (clr (tgS t ++ tgS t2) ρ) >>= fun ρ' => evalT g.gt call ts ρ' >>= fun b => if b = true then (evalE g.gt call it2 ρ' >>= fun d => M.ofO (itemsOf d)) >>= fun zs => M.guard (decide (zs.length ≤ 1000)) (compM (bodyM g.gt call t2 ts2 e (clr (tgS t2) ρ')) zs) else pure [] := by
    rw [← hf]; rfl
  rw [hfx, M.bnd_assoc, M.bnd_assoc] at q3
  obtain ⟨ρ2, ea, q4⟩ := RPost.asg q3
  have g3 := g2.trans e3.grow
  have s3 := s2.ext e3
  have r3 : Rel g X.K X.w A H0 F0 (clr (tgS t ++ tgS t2) ρ) (wipe σ (tgS t ++ tgS t2)) H3 F3 ω2 := ((r.grow g1 s1).grow g3 s3).clr _
  have hd3 : H3 D = some (.lst acc) := e3.grow.hs (Ex := ExA g A) _ _ nD hd2
  have fd3 : F3 D = none := (e3.grow (Ex := ExA g A)).nf fd2 hd2
  refine ⟨A, H0, F0, _, F3, ω2, _, _, r3, rx, ea, fun _ h => List.mem_append_left _ h, fun σ2 hw r4 => ⟨by rw [hw, wipe_wipe], ?_⟩⟩
  rw [M.bnd_assoc] at q4
  refine ⟨A, H0, F0, ρ2, F3, ω2, r4, ((RPost.sig (RPost.bindB q4)).mono g3).imp fun b ω4 H4 F4 g4 s4 q5 => ?_⟩
  have hd4 : H4 D = some (.lst acc) := g4.hs _ _ nD hd3
  have fd4 : F4 D = none := g4.nf fd3 hd3
  have hds4 : DqAll X.K F4 acc ds := dpAll_mono (e3.fs.trans g4.fs) _ _ hds
  cases b with
  | false =>
    rw [if_neg Bool.false_ne_true] at q5
    show Inv (i + 1) (xs.length - (i + 1)) H4
    have q6 : RPost g X.K W0 σ A H1 F1 (((comp2M f (xs.drop (i + 1)) >>= fun ys => pure ([] ++ ys)) >>= fun ys => pure (PyData.list (ds ++ ys))) ω4) (fun d _ H' F' => ∀ v, RepN X.K X.w H F' H' v d → Q v H') := q5
    rw [M.bnd_assoc] at q6
    exact ⟨F4, ω4, acc, ds, hlt, rfl, g3.trans g4, s4, hd4, fd4, by omega, hds4, q6⟩
  | true =>
    rw [if_pos rfl, M.bnd_assoc] at q5
    show tI g call X W0 true it2 σ2 H4 _
    refine ⟨A, H0, F0, ρ2, F4, ω4, r4.grow g4 s4, ((RPost.sig (RPost.bindB q5)).mono (g3.trans g4)).imp fun zs ω5 H5 F5 g5 s5 q6 J1 hJ1 => ?_⟩
    have hd5 : H5 D = some (.lst acc) := g5.hs _ _ nD hd4
    have fd5 : F5 D = none := g5.nf fd4 hd4
    have g15 := (g3.trans g4).trans g5
    have hds5 : DqAll X.K F5 acc ds := dpAll_mono g5.fs _ _ hds4
    have hk : zs.length ≤ 1000 ∧ RPost g X.K W0 σ A H1 F1 ((compM (bodyM g.gt call t2 ts2 e (clr (tgS t2) ρ2)) zs >>= fun ys1 => comp2M f (xs.drop (i + 1)) >>= fun ys => pure (PyData.list (ds ++ (ys1 ++ ys)))) ω5) (fun d _ H' F' => ∀ v, RepN X.K X.w H F' H' v d → Q v H') := by
      by_cases hk : zs.length ≤ 1000
      · refine ⟨hk, ?_⟩
        have ek : decide (zs.length ≤ 1000) = true := decide_eq_true hk
        rw [ek] at q6
        have q7 : RPost g X.K W0 σ A H1 F1 ((compM (bodyM g.gt call t2 ts2 e (clr (tgS t2) ρ2)) zs >>= fun ys1 => (comp2M f (xs.drop (i + 1)) >>= fun ys => pure (ys1 ++ ys)) >>= fun ys => pure (PyData.list (ds ++ ys))) ω5) (fun d _ H' F' => ∀ v, RepN X.K X.w H F' H' v d → Q v H') := q6
        simp only [M.bnd_assoc] at q7
        exact q7
      · have ek : decide (zs.length ≤ 1000) = false := decide_eq_false hk
        rw [ek] at q6
        exact q6.elim
    obtain ⟨hzl, q7⟩ := hk
    have noD : ∀ (i : Nat) d, ρ2[i]? = some (.v true d) → σ2[i]? ≠ some (some (.ref D)) := fun i d ei eD => by
      obtain ⟨z1, z2⟩ := clr_own _ _ i d (asg_own t _ _ _ _ _ ea i d ei)
      obtain ⟨a, h1, h2, h3, h4, h5⟩ := (r.grow g1 s1).sl i _ z2
      have e5 : σ2[i]? = σ[i]? := (L2.wipe_out (σ := σ2) z1).symm.trans ((congrArg (fun z : L2.St => z[i]?) (hw.trans (wipe_wipe _ _))).trans (L2.wipe_out (σ := σ) z1))
      rw [e5, h1] at eD
      cases eD
      obtain ⟨o, ho⟩ := h4.obj
      rw [hD] at ho; cases ho
    let In1 : Nat → Nat → Hp → Prop := fun j k H' => ∃ F' ω' acc ds, j ≤ zs.length ∧ k = zs.length - j ∧ Grow (ExA g A) H1 F1 H' F' ∧ Same F5 F' ∧ (∀ a u, ¬ ExA g A a → F5 a = none → a ≠ D → H5 a = some u → H' a = some u ∧ F' a = none) ∧ StOk g A H' F' ω' ∧ H' D = some (.lst acc) ∧ F' D = none ∧ acc.length ≤ i * 1000 + j ∧ DqAll X.K F' acc ds ∧
      RPost g X.K W0 σ A H1 F1 ((compM (bodyM g.gt call t2 ts2 e (clr (tgS t2) ρ2)) (zs.drop j) >>= fun ys1 => comp2M f (xs.drop (i + 1)) >>= fun ys => pure (PyData.list (ds ++ (ys1 ++ ys)))) ω') (fun d _ H' F' => ∀ v, RepN X.K X.w H F' H' v d → Q v H')
    refine ⟨In1, ⟨zs.length, F5, ω5, acc, ds, Nat.zero_le _, by simp, g15, Same.refl _, fun a u _ f0 _ hu => ⟨hu, f0⟩, s5, hd5, fd5, by omega, hds5, by rw [List.drop_zero]; exact q7⟩, ?_⟩
    rintro j k H6 ⟨F6, ω6, acc6, ds6, hj, rfl, g6, p6, k6, s6, hd6, fd6, hac6, hds6, q8⟩
    by_cases hjt : j < zs.length
    case neg =>
      have ej : j = zs.length := by omega
      refine .inl ⟨by rw [ej]; exact hJ1.stop H6 F6 ⟨p6, g6.fit⟩, ?_⟩
      rw [ej, List.drop_length] at q8
      have q9 : RPost g X.K W0 σ A H1 F1 ((comp2M f (xs.drop (i + 1)) >>= fun ys => pure (PyData.list (ds6 ++ ([] ++ ys)))) ω6) _ := q8
      exact ⟨F6, ω6, acc6, ds6, hlt, rfl, g6, s6, hd6, fd6, by omega, hds6, q9⟩
    have ez : zs[j]? = some zs[j] := List.getElem?_eq_getElem hjt
    obtain ⟨hgo1, hy1⟩ := hJ1.go j H6 F6 zs[j] ⟨p6, g6.fit⟩ ez
    refine .inr ⟨hgo1, fun H' => In1 (j + 1) (zs.length - (j + 1)) H', fun H' h => ⟨_, by omega, h⟩, fun x1 H7 yl1 => ?_⟩
    obtain ⟨F7, e7, rx1⟩ := hy1 x1 H7 yl1
    rw [drop_cons ez] at q8
    have q8 : RPost g X.K W0 σ A H1 F1 (((bodyM g.gt call t2 ts2 e (clr (tgS t2) ρ2) zs[j] >>= fun o => match o with
        | none => compM (bodyM g.gt call t2 ts2 e (clr (tgS t2) ρ2)) (zs.drop (j + 1))
        | some y => do pure (y :: (← compM (bodyM g.gt call t2 ts2 e (clr (tgS t2) ρ2)) (zs.drop (j + 1))))) >>= fun ys1 => comp2M f (xs.drop (i + 1)) >>= fun ys => pure (PyData.list (ds6 ++ (ys1 ++ ys)))) ω6) (fun d _ H' F' => ∀ v, RepN X.K X.w H F' H' v d → Q v H') := q8
    unfold bodyM at q8
    simp only [M.bnd_assoc] at q8
    obtain ⟨ρ3, ea1, q9⟩ := RPost.asg q8
    have g7 := g6.trans e7.grow
    have p7 : Same F5 F7 := p6.trans e7.fs
    have s7 := s6.ext e7
    have kp7 : ∀ a u, ¬ ExA g A a → F5 a = none → a ≠ D → H5 a = some u → H7 a = some u ∧ F7 a = none := fun a u n f0 hDa hu => by
      obtain ⟨k1, k2⟩ := k6 a u n f0 hDa hu
      exact ⟨e7.grow.hs (Ex := ExA g A) _ _ n k1, (e7.grow (Ex := ExA g A)).nf k2 k1⟩
    have r7 : Rel g X.K X.w A H0 F0 (clr (tgS t2) ρ2) (wipe σ2 (tgS t2)) H7 F7 ω6 := by
      refine Rel.clr (Rel.hop (D := D) (r4.grow (g4.trans g5) s5) ((r.gr.trans g1).trans g7) p7 s7 (fun a u n f0 hD hu => kp7 a u n f0 hD hu) noD) _
    have hd7 : H7 D = some (.lst acc6) := e7.grow.hs (Ex := ExA g A) _ _ nD hd6
    have fd7 : F7 D = none := (e7.grow (Ex := ExA g A)).nf fd6 hd6
    refine ⟨A, H0, F0, _, F7, ω6, _, _, r7, rx1, ea1, fun _ h => h, fun σ3 hw3 r8 => ⟨by rw [hw3, wipe_wipe], ?_⟩⟩
    refine ⟨A, H0, F0, ρ3, F7, ω6, r8, ((RPost.sig (RPost.bindB q9)).mono g7).imp fun b ω8 H8 F8 g8 s8 q10 => ?_⟩
    have hd8 : H8 D = some (.lst acc6) := g8.hs _ _ nD hd7
    have fd8 : F8 D = none := g8.nf fd7 hd7
    cases b with
    | false =>
      rw [if_neg Bool.false_ne_true] at q10
      show In1 (j + 1) (zs.length - (j + 1)) H8
      exact ⟨F8, ω8, acc6, ds6, hjt, rfl, g7.trans g8, p7.trans g8.fs, fun a u n f0 hDa hu => ⟨g8.hs _ _ n (kp7 a u n f0 hDa hu).1, g8.nf (kp7 a u n f0 hDa hu).2 (kp7 a u n f0 hDa hu).1⟩, s8, hd8, fd8, by omega, dpAll_mono (e7.fs.trans g8.fs) _ _ hds6, q10⟩
    | true =>
      rw [if_pos rfl] at q10
      simp only [M.bnd_assoc] at q10
      show tE g call X W0 e σ3 H8 _
      refine ⟨A, H0, F0, ρ3, F8, ω8, r8.grow g8 s8, ((RPost.sig (RPost.bindB q10)).mono (g7.trans g8)).imp fun y ω9 H9 F9 g9 s9 q11 v rv => ?_⟩
      rw [he] at rv
      have hd9 : H9 D = some (.lst acc6) := g9.hs _ _ nD hd8
      have fd9 : F9 D = none := g9.nf fd8 hd8
      refine ⟨acc6, hd9, by rw [sizeLine_eq]; omega, ?_⟩
      have hk : okEl y = true ∧ RPost g X.K W0 σ A H1 F1 ((compM (bodyM g.gt call t2 ts2 e (clr (tgS t2) ρ2)) (zs.drop (j + 1)) >>= fun ys1 => comp2M f (xs.drop (i + 1)) >>= fun ys => pure (PyData.list ((ds6 ++ [y]) ++ (ys1 ++ ys)))) ω9) (fun d _ H' F' => ∀ v, RepN X.K X.w H F' H' v d → Q v H') := by
        cases hk : okEl y with
        | false => rw [hk] at q11; exact q11.elim
        | true =>
          rw [hk] at q11
          refine ⟨rfl, ?_⟩
          have : (compM (bodyM g.gt call t2 ts2 e (clr (tgS t2) ρ2)) (zs.drop (j + 1)) >>= fun ys1 => comp2M f (xs.drop (i + 1)) >>= fun ys => (pure (PyData.list ((ds6 ++ [y]) ++ (ys1 ++ ys))) : M PyData)) = compM (bodyM g.gt call t2 ts2 e (clr (tgS t2) ρ2)) (zs.drop (j + 1)) >>= fun ys1 => comp2M f (xs.drop (i + 1)) >>= fun ys => pure (PyData.list (ds6 ++ (y :: ys1 ++ ys))) := by
            congr 1
            funext ys1
            congr 1
            funext ys
            rw [List.append_assoc]; rfl
          rw [this]
          have q12 : RPost g X.K W0 σ A H1 F1 (((compM (bodyM g.gt call t2 ts2 e (clr (tgS t2) ρ2)) (zs.drop (j + 1)) >>= fun ys => pure (y :: ys)) >>= fun ys1 => comp2M f (xs.drop (i + 1)) >>= fun ys => pure (PyData.list (ds6 ++ (ys1 ++ ys)))) ω9) (fun d _ H' F' => ∀ v, RepN X.K X.w H F' H' v d → Q v H') := q11
          rw [M.bnd_assoc] at q12
          exact q12
      have hdq : Dq X.K F9 v y := by
        cases rv with
        | dat h => exact h
        | dic h => exact absurd hk.1 (by simp [okEl, isDic])
      refine ⟨F9, ω9, acc6 ++ [v], ds6 ++ [y], hjt, rfl, ((g7.trans g8).trans g9).updN hD fd9, (p7.trans g8.fs).trans g9.fs, fun a u n f0 hDa hu => ⟨by rw [upd_ne hDa]; exact g9.hs _ _ n (g8.hs _ _ n (kp7 a u n f0 hDa hu).1), g9.nf (g8.nf (kp7 a u n f0 hDa hu).2 (kp7 a u n f0 hDa hu).1) (g8.hs _ _ n (kp7 a u n f0 hDa hu).1)⟩, s9.upd nD fd9, upd_same, fd9, by rw [List.length_append]; simp; omega, dpa_app (dpAll_mono ((e7.fs.trans g8.fs).trans g9.fs) _ _ hds6) (.cons hdq .nil), hk.2⟩
end
end Wv

set_option autoImplicit false
set_option linter.all false
set_option maxRecDepth 100000
set_option maxHeartbeats 4000000
namespace Wv
open PySem PySem.Spec PyProof.Rows L2
/-! views of the tree -/
section
abbrev PX := PySem.Expr
def vName (x : PX) (k : Str → Bool) : Bool := match x with
  | .Name n _ => k n
  | _ => false
theorem vName_of {x : PX} {k : Str → Bool} (h : vName x k = true) : ∃ n p, x = .Name n p ∧ k n = true := by
  unfold vName at h; split at h
  · exact ⟨_, _, rfl, h⟩
  · cases h
def vConst (x : PX) (k : Const → Bool) : Bool := match x with
  | .Constant n _ _ => k n
  | _ => false
theorem vConst_of {x : PX} {k : Const → Bool} (h : vConst x k = true) : ∃ n j p, x = .Constant n j p ∧ k n = true := by
  unfold vConst at h; split at h
  · exact ⟨_, _, _, rfl, h⟩
  · cases h
def vBin (o : Bop) (x : PX) (k : PX → PX → Bool) : Bool := match x with
  | .BinOp l p r _ => isBin o == some p && k l r
  | .Compare l [p] [r] _ => isCmp o == some p && !(behindInMarks p r) && k l r
  | _ => false
theorem vBin_of {o : Bop} {x : PX} {k : PX → PX → Bool} (h : vBin o x k = true) : (∃ l p r q, x = .BinOp l p r q ∧ isBin o = some p ∧ k l r = true) ∨ ∃ l p r q, x = .Compare l [p] [r] q ∧ isCmp o = some p ∧ behindInMarks p r = false ∧ k l r = true := by
  unfold vBin at h; split at h
  · obtain ⟨h1, h2⟩ := Bool.and_eq_true_iff.mp h
    exact .inl ⟨_, _, _, _, rfl, eq_of_beq h1, h2⟩
  · obtain ⟨h1, h2⟩ := Bool.and_eq_true_iff.mp h
    obtain ⟨h3, h4⟩ := Bool.and_eq_true_iff.mp h1
    exact .inr ⟨_, _, _, _, rfl, eq_of_beq h3, by simpa using h4, h2⟩
  · cases h
def vCmp2 (o1 o2 : Bop) (x : PX) (k : PX → PX → PX → Bool) : Bool := match x with
  | .Compare l [p1, p2] [r, t] _ => isCmp o1 == some p1 && isCmp o2 == some p2 && !(lastMarks [p1, p2] [r, t]) && k l r t
  | _ => false
theorem vCmp2_of {o1 o2 : Bop} {x : PX} {k : PX → PX → PX → Bool} (h : vCmp2 o1 o2 x k = true) : ∃ l p1 p2 r t q, x = .Compare l [p1, p2] [r, t] q ∧ isCmp o1 = some p1 ∧ isCmp o2 = some p2 ∧ lastMarks [p1, p2] [r, t] = false ∧ k l r t = true := by
  unfold vCmp2 at h; split at h
  · simp only [Bool.and_eq_true, Bool.not_eq_true', beq_iff_eq] at h
    exact ⟨_, _, _, _, _, _, rfl, h.1.1.1, h.1.1.2, h.1.2, h.2⟩
  · cases h
def vNeg (x : PX) (k : PX → Bool) : Bool := match x with
  | .UnaryOp .USub y _ => k y
  | _ => false
theorem vNeg_of {x : PX} {k : PX → Bool} (h : vNeg x k = true) : ∃ y p, x = .UnaryOp .USub y p ∧ k y = true := by
  unfold vNeg at h; split at h
  · exact ⟨_, _, rfl, h⟩
  · cases h
def vNot (x : PX) (k : PX → Bool) : Bool := match x with
  | .UnaryOp .Not y _ => k y
  | _ => false
theorem vNot_of {x : PX} {k : PX → Bool} (h : vNot x k = true) : ∃ y p, x = .UnaryOp .Not y p ∧ k y = true := by
  unfold vNot at h; split at h
  · exact ⟨_, _, rfl, h⟩
  · cases h
def vBool (a : Bool) (x : PX) (k : List PX → Bool) : Bool := match x with
  | .BoolOp .And xs _ => a && k xs
  | .BoolOp .Or xs _ => !a && k xs
  | _ => false
theorem vBool_of {a : Bool} {x : PX} {k : List PX → Bool} (h : vBool a x k = true) : ∃ xs p, x = .BoolOp (if a = true then .And else .Or) xs p ∧ k xs = true := by
  unfold vBool at h; split at h
  · obtain ⟨rfl, h2⟩ := Bool.and_eq_true_iff.mp h
    exact ⟨_, _, rfl, h2⟩
  · obtain ⟨h1, h2⟩ := Bool.and_eq_true_iff.mp h
    cases a with
    | true => cases h1
    | false => exact ⟨_, _, rfl, h2⟩
  · cases h
def vIf (x : PX) (k : PX → PX → PX → Bool) : Bool := match x with
  | .IfExp t a b _ => k t a b
  | _ => false
theorem vIf_of {x : PX} {k : PX → PX → PX → Bool} (h : vIf x k = true) : ∃ t a b p, x = .IfExp t a b p ∧ k t a b = true := by
  unfold vIf at h; split at h
  · exact ⟨_, _, _, _, rfl, h⟩
  · cases h
def vTup (x : PX) (k : List PX → Bool) : Bool := match x with
  | .Tuple xs _ _ => k xs
  | _ => false
theorem vTup_of {x : PX} {k : List PX → Bool} (h : vTup x k = true) : ∃ xs j p, x = .Tuple xs j p ∧ k xs = true := by
  unfold vTup at h; split at h
  · exact ⟨_, _, _, rfl, h⟩
  · cases h
def vLst (x : PX) (k : List PX → Bool) : Bool := match x with
  | .List xs _ => k xs
  | _ => false
theorem vLst_of {x : PX} {k : List PX → Bool} (h : vLst x k = true) : ∃ xs p, x = .List xs p ∧ k xs = true := by
  unfold vLst at h; split at h
  · exact ⟨_, _, rfl, h⟩
  · cases h
def vIx (x : PX) (k : PX → PX → Bool) : Bool := match x with
  | .Subscript a b _ => k a b
  | _ => false
theorem vIx_of {x : PX} {k : PX → PX → Bool} (h : vIx x k = true) : ∃ a b p, x = .Subscript a b p ∧ k a b = true := by
  unfold vIx at h; split at h
  · exact ⟨_, _, _, rfl, h⟩
  · cases h
def vCall (x : PX) (k : Str → List PX → Bool) : Bool := match x with
  | .Call (.Name f _) xs [] _ => k f xs
  | _ => false
theorem vCall_of {x : PX} {k : Str → List PX → Bool} (h : vCall x k = true) : ∃ f p xs q, x = .Call (.Name f p) xs [] q ∧ k f xs = true := by
  unfold vCall at h; split at h
  · exact ⟨_, _, _, _, rfl, h⟩
  · cases h
def v1 (xs : List PX) (k : PX → Bool) : Bool := match xs with
  | [a] => noStar a && k a
  | _ => false
theorem v1_of {xs : List PX} {k : PX → Bool} (h : v1 xs k = true) : ∃ a, xs = [a] ∧ noStar a = true ∧ k a = true := by
  unfold v1 at h; split at h
  · obtain ⟨h1, h2⟩ := Bool.and_eq_true_iff.mp h
    exact ⟨_, rfl, h1, h2⟩
  · cases h
def v2 (xs : List PX) (k : PX → PX → Bool) : Bool := match xs with
  | [a, b] => noStar a && noStar b && k a b
  | _ => false
theorem v2_of {xs : List PX} {k : PX → PX → Bool} (h : v2 xs k = true) : ∃ a b, xs = [a, b] ∧ noStar a = true ∧ noStar b = true ∧ k a b = true := by
  unfold v2 at h; split at h
  · simp only [Bool.and_eq_true] at h
    exact ⟨_, _, rfl, h.1.1, h.1.2, h.2⟩
  · cases h
def vComp (x : PX) (k : PX → PX → PX → List PX → Scope → Bool) : Bool := match x with
  | .ListComp elt [⟨tg, it, ifs, 0⟩] sc _ => k elt tg it ifs sc
  | _ => false
theorem vComp_of {x : PX} {k : PX → PX → PX → List PX → Scope → Bool} (h : vComp x k = true) : ∃ elt tg it ifs sc p, x = .ListComp elt [⟨tg, it, ifs, 0⟩] sc p ∧ k elt tg it ifs sc = true := by
  unfold vComp at h; split at h
  · exact ⟨_, _, _, _, _, _, rfl, h⟩
  · cases h
def noSet : PX → Bool
  | .Set .. => false
  | _ => true
end
/-- the walked things of a block: no set display; a block of a generator expression stays one -/
def noSetG (sc sc2 : Scope) (x : PX) : Bool := noSet x && (!sc.isGenerator || sc2.isGenerator)
def noList : PX → Bool
  | .List .. => false
  | _ => true
def vGen (x : PX) (k : PX → PX → PX → Scope → Bool) : Bool := match x with
  | .GeneratorExp elt [⟨tg, it, [], 0⟩] sc _ => k elt tg it sc
  | _ => false
theorem vGen_of {x : PX} {k : PX → PX → PX → Scope → Bool} (h : vGen x k = true) : ∃ elt tg it sc p, x = .GeneratorExp elt [⟨tg, it, [], 0⟩] sc p ∧ k elt tg it sc = true := by
  unfold vGen at h; split at h
  · exact ⟨_, _, _, _, _, rfl, h⟩
  · cases h
def vComp2 (x : PX) (k : PX → PX → PX → List PX → PX → PX → List PX → Scope → Bool) : Bool := match x with
  | .ListComp elt [⟨tg, it, ifs, 0⟩, ⟨tg1, it1, ifs1, 0⟩] sc _ => k elt tg it ifs tg1 it1 ifs1 sc
  | _ => false
theorem vComp2_of {x : PX} {k : PX → PX → PX → List PX → PX → PX → List PX → Scope → Bool} (h : vComp2 x k = true) : ∃ elt tg it ifs tg1 it1 ifs1 sc p, x = .ListComp elt [⟨tg, it, ifs, 0⟩, ⟨tg1, it1, ifs1, 0⟩] sc p ∧ k elt tg it ifs tg1 it1 ifs1 sc = true := by
  unfold vComp2 at h; split at h
  · exact ⟨_, _, _, _, _, _, _, _, _, rfl, h⟩
  · cases h
def genS (sc : Scope) : Bool := sc.isGenerator && !sc.isCoroutine && sc.names.all (fun y => y.2 != .cell) && (sc.names.lookup (".0" : Str) == some NameKind.local)
/-! does the tree say what the plain text says -/
def okT (e : E) (x : PX) : Bool := match e with
  | .not_ _ | .bin .. | .chain .. | .bo .. | .bt .. => true
  | _ => plainT x
def isIt : E → Bool
  | .rng _ | .rev _ | .enm _ | .zp .. | .zp3 .. | .items _ | .vals _ | .setof _ | .bt .. => true
  | _ => false
def isBt : E → Bool
  | .bt .. => true
  | _ => false
/-- may be tested -/
def tst (e : E) : Bool := !isIt e || isBt e
/-- a value that stands by itself -/
def vl (e : E) : Bool := !isPk e && !isIt e
def ownOf (N : List Str) (vs : List Nat) : List (Str × Nat) := vs.filterMap fun i => (N[i]?).map fun x => (x, i)
/-- their answers stand for themselves; new lists -/
def okP1 : P1 → Bool
  | .len | .abs | .int | .sum | .max | .min | .any | .all | .tuple => true
  | _ => false
def okN1 : P1 → Bool
  | .list | .sorted => true
  | _ => false
def vSl (x : PX) (k : Option PX → Option PX → Option PX → Bool) : Bool := match x with
  | .Slice l h s _ => k l h s
  | _ => false
theorem vSl_of {x : PX} {k : Option PX → Option PX → Option PX → Bool} (h : vSl x k = true) : ∃ l u s p, x = .Slice l u s p ∧ k l u s = true := by
  unfold vSl at h; split at h
  · exact ⟨_, _, _, _, rfl, h⟩
  · cases h
def optB (e : E) (x : Option PX) (r : PX → Bool) : Bool := match x with
  | none => (match e with
    | .lit .none => true
    | _ => false)
  | some y => r y
theorem optB_none {e : E} {x : Option PX} {r : PX → Bool} (h : optB e x r = true) : x = none → e = .lit .none := fun z => by
  subst z
  unfold optB at h
  simp only at h
  split at h
  · rfl
  · cases h
def vMeth (x : PX) (m : Str) (k : PX → PX → Bool) : Bool := match x with
  | .Call (.Attribute o n ap) [e] [] cp => (n == m) && (ap.endLine == cp.line) && noCall0 o && noStar e && k o e
  | _ => false
theorem vMeth_of {x : PX} {m : Str} {k : PX → PX → Bool} (h : vMeth x m k = true) : ∃ o ap e cp, x = .Call (.Attribute o m ap) [e] [] cp ∧ (ap.endLine == cp.line) = true ∧ noCall0 o = true ∧ noStar e = true ∧ k o e = true := by
  unfold vMeth at h; split at h
  · simp only [Bool.and_eq_true] at h
    obtain ⟨⟨⟨⟨h1, h2⟩, h3⟩, h4⟩, h5⟩ := h
    have := eq_of_beq h1
    subst this
    exact ⟨_, _, _, _, rfl, h2, h3, h4, h5⟩
  · cases h
def vMeth2 (x : PX) (m : Str) (k : PX → PX → PX → Bool) : Bool := match x with
  | .Call (.Attribute o n ap) [e, f] [] cp => (n == m) && (ap.endLine == cp.line) && noCall0 o && noStar e && noStar f && k o e f
  | _ => false
theorem vMeth2_of {x : PX} {m : Str} {k : PX → PX → PX → Bool} (h : vMeth2 x m k = true) : ∃ o ap e f cp, x = .Call (.Attribute o m ap) [e, f] [] cp ∧ (ap.endLine == cp.line) = true ∧ noCall0 o = true ∧ noStar e = true ∧ noStar f = true ∧ k o e f = true := by
  unfold vMeth2 at h; split at h
  · simp only [Bool.and_eq_true] at h
    obtain ⟨⟨⟨⟨⟨h1, h2⟩, h3⟩, h4⟩, h5⟩, h6⟩ := h
    have := eq_of_beq h1
    subst this
    exact ⟨_, _, _, _, _, rfl, h2, h3, h4, h5, h6⟩
  · cases h
/-- f(e, reverse=True) -/
def vRev (x : PX) (k : Str → PX → Bool) : Bool := match x with
  | .Call (.Name f _) [e] [⟨some m, .Constant (.bool true) _ _, _⟩] _ => (m == Str.ofString "reverse") && noStar e && k f e
  | _ => false
theorem vRev_of {x : PX} {k : Str → PX → Bool} (h : vRev x k = true) : ∃ f p e j p2 p3 q, x = .Call (.Name f p) [e] [⟨some (Str.ofString "reverse"), .Constant (.bool true) j p2, p3⟩] q ∧ noStar e = true ∧ k f e = true := by
  unfold vRev at h; split at h
  · simp only [Bool.and_eq_true] at h
    obtain ⟨⟨h1, h2⟩, h3⟩ := h
    have := eq_of_beq h1
    subst this
    exact ⟨_, _, _, _, _, _, _, rfl, h2, h3⟩
  · cases h
def vDic0 (x : PX) : Bool := match x with
  | .Dict [] [] _ => true
  | _ => false
theorem vDic0_of {x : PX} (h : vDic0 x = true) : ∃ p, x = .Dict [] [] p := by
  unfold vDic0 at h; split at h
  · exact ⟨_, rfl⟩
  · cases h
def isNil : Es → Bool
  | .nil => true
  | _ => false
/-- what may be walked with that target -/
def okTg (e : E) (tg : PX) : Bool := match e with
  | .enm _ => (match tg with
    | .Tuple .. => true
    | _ => false)
  | .setof _ => false
  | .bt .. => false
  | _ => true
def isSet : E → Bool
  | .setof _ => true
  | _ => false
def glc (sc : Scope) (x : Str) (y : String) : Bool := (x == Str.ofString y) && glB sc x
def endB {α : Type} (es : Es) (a b : α) : α := match es with
  | .nil => a
  | .cons _ _ => b
def argB (c : Ck) (e : E) (sc : Scope) (x : PX) (r : Bool) : Bool := match e with
  | .gfn f => vName x fun n => (c.fn[f]? == some n) && glB sc n && plainN n
  | _ => r
def len12 : Es → Bool
  | .cons _ .nil => true
  | .cons _ (.cons _ .nil) => true
  | _ => false
mutual
def chkE (c : Ck) : E → Scope → PX → Bool
  | .var i, sc, x => vName x (varB c sc i)
  | .pk i, sc, x => vName x (varB c sc i)
  | .lit d, _, x => vConst x (litB d)
  | .bin o a b, sc, x => vBin o x fun l r => chkE c a sc l && chkE c b sc r && !isIt a && !isIt b
  | .chain o1 o2 a b d, sc, x => vCmp2 o1 o2 x fun l r t => chkE c a sc l && chkE c b sc r && chkE c d sc t && !isIt a && !isIt b && !isIt d
  | .neg a, sc, x => vNeg x fun y => chkE c a sc y && !isIt a
  | .not_ a, sc, x => vNot x fun y => chkE c a sc y && !isIt a && okT a y
  | .bt k es, sc, x => vBool k x fun xs => chkBu c es sc xs
  | .bo k es, sc, x => vBool k x fun xs => chkBs c es sc xs
  | .ite t a b, sc, x => vIf x fun y z u => chkE c t sc y && tst t && okT t y && chkE c a sc z && vl a && chkE c b sc u && vl b
  | .tup es, sc, x => vTup x fun xs => chkEs c es sc xs && decide (xs.length ≤ 1000)
  | .lst es, sc, x => vLst x fun xs => chkEs c es sc xs && decide (xs.length ≤ 1000)
  | .ix a b, sc, x => vIx x fun y z => chkE c a sc y && chkE c b sc z && noSlice z && !isIt a && !isIt b
  | .call f b es, sc, x => vCall x fun n xs => !b && (c.fn[f]? == some n) && glB sc n && plainN n && chkAs c es sc xs && !xs.isEmpty
  | .draw i e, sc, x => vCall x fun n xs => v2 xs fun y z => vName y (varB c sc i) && chkE c e sc z && vl e && (match c.dk with | some k => c.fn[k]? == some n | none => false) && glB sc n && plainN n
  | .sget i k, sc, x => vIx x fun y z => vName y (varB c sc i) && vConst z fun w => litB (.int (k : Nat)) w
  | .slen i, sc, x => vCall x fun n xs => glc sc n "len" && v1 xs fun y => vIx y fun z u => vName z (varB c sc i) && vConst u fun w => litB (.int 2) w
  | .scell i j, sc, x => vIx x fun y v => vName v (varB c sc j) && vIx y fun z u => vName z (varB c sc i) && vConst u fun w => litB (.int 2) w
  | .dic es, _, x => isNil es && vDic0 x
  | .sset a, sc, x => vCall x fun n xs => glc sc n "sorted" && v1 xs fun y => vCall y fun m ys => glc sc m "set" && v1 ys fun z => chkE c a sc z && !isIt a
  | .mget a b d, sc, x => vMeth2 x (Str.ofString "get") fun y z u => chkE c a sc y && !isIt a && chkE c b sc z && !isIt b && chkE c d sc u && vl d
  | .callv i fs es, sc, x => vCall x fun n xs => varB c sc i n && fs.all (fun k => (c.fn[k]?).isSome) && chkAs c es sc xs && !xs.isEmpty
  | .b1 .sortedr a, sc, x => vRev x fun n y => glc sc n "sorted" && chkE c a sc y && !isIt a
  | .b1 p a, sc, x => vCall x fun n xs => glc sc n (p1Name p) && (okP1 p || okN1 p) && v1 xs fun y => chkE c a sc y && (!isIt a || (isSet a && p == .len))
  | .b2 p a b, sc, x => vCall x fun n xs => glc sc n (p2Name p) && v2 xs fun y z => chkE c a sc y && !isIt a && chkE c b sc z && !isIt b
  | .sl a lo hi st, sc, x => vIx x fun y z => vSl z fun l u k => chkE c a sc y && !isIt a && optB lo l (fun w => chkE c lo sc w && vl lo) && optB hi u (fun w => chkE c hi sc w && vl hi) && optB st k (fun w => chkE c st sc w && vl st)
  | .mcount a b, sc, x => vMeth x (Str.ofString "count") fun y z => chkE c a sc y && !isIt a && chkE c b sc z && !isIt b
  | .rev a, sc, x => vCall x fun n xs => glc sc n "reversed" && v1 xs fun y => chkE c a sc y && !isIt a
  | .enm a, sc, x => vCall x fun n xs => glc sc n "enumerate" && v1 xs fun y => chkE c a sc y && !isIt a
  | .setof a, sc, x => vCall x fun n xs => glc sc n "set" && v1 xs fun y => chkE c a sc y && !isIt a
  | .isa a t, sc, x => vCall x fun n xs => glc sc n "isinstance" && v2 xs fun y z => chkE c a sc y && !isIt a && vName z fun m => glc sc m (tyN t)
  | .rng es, sc, x => vCall x fun n xs => glc sc n "range" && chkEs c es sc xs && len12 es
  | .comp t it ts e, sc, x => vComp x fun elt tg iter ifs sc2 => chkE c it sc iter && (noSetG sc sc2 iter && okTg it tg) && chkTg c (fun x => sc2.names.lookup x == some .cell) (relS sc2 sc) t tg &&
      blkC c.N sc sc2 (ownOf c.N (tgS t)) && ((ownOf c.N (tgS t)).map (·.2) == tgS t) && chkTs c ts (relS sc2 sc) ifs && chkE c e (relS sc2 sc) elt && vl e
  | .comp2 t it ts t2 it2 ts2 e, sc, x => vComp2 x fun elt tg iter ifs tg1 iter1 ifs1 sc2 => chkE c it sc iter && (noSetG sc sc2 iter && okTg it tg) && (noSet iter1 && okTg it2 tg1) && chkTg c (fun x => sc2.names.lookup x == some .cell) (relS sc2 sc) t tg &&
      blkC c.N sc sc2 (ownOf c.N (tgS t ++ tgS t2)) && ((ownOf c.N (tgS t ++ tgS t2)).map (·.2) == tgS t ++ tgS t2) && chkTs c ts (relS sc2 sc) ifs && chkE c it2 (relS sc2 sc) iter1 && !isPk it2 && chkTg c (fun x => sc2.names.lookup x == some .cell) (relS sc2 sc) t2 tg1 && chkTs c ts2 (relS sc2 sc) ifs1 && chkE c e (relS sc2 sc) elt && vl e
  | .gen q t it e, sc, x => vCall x fun n xs => glc sc n (cName q) && v1 xs fun y => vGen y fun elt tg iter sc2 => decide (0 < rmOf c sc) && chkE c it sc iter && ((noSet iter && noList iter) && okTg it tg) && chkTg c (fun _ => false) sc2 t tg &&
      blkC c.N sc sc2 (ownOf c.N (tgS t)) && ((ownOf c.N (tgS t)).map (·.2) == tgS t) && genS sc2 && chkE c e sc2 elt && vl e
  | .mindex a b, sc, x => vMeth x (Str.ofString "index") fun y z => chkE c a sc y && !isIt a && chkE c b sc z && !isIt b
  | _, _, _ => false
def chkEs (c : Ck) : Es → Scope → List PX → Bool
  | .nil, _, xs => xs.isEmpty
  | .cons e es, sc, xs => match xs with
    | [] => false
    | x :: xs => chkE c e sc x && noStar x && vl e && chkEs c es sc xs
/-- tests, with and, or -/
def chkBs (c : Ck) : Es → Scope → List PX → Bool
  | .nil, _, _ => false
  | .cons e es, sc, xs => match xs with
    | [] => false
    | x :: xs => chkE c e sc x && vl e && okT e x && endB es xs.isEmpty (chkBs c es sc xs)
/-- .. that are but tested -/
def chkBu (c : Ck) : Es → Scope → List PX → Bool
  | .nil, _, _ => false
  | .cons e es, sc, xs => match xs with
    | [] => false
    | x :: xs => chkE c e sc x && tst e && okT e x && endB es xs.isEmpty (chkBu c es sc xs)
def chkTs (c : Ck) : Es → Scope → List PX → Bool
  | .nil, _, xs => xs.isEmpty
  | .cons e es, sc, xs => match xs with
    | [x] => chkE c e sc x && tst e && okT e x && endB es true false
    | _ => false
/-- arguments -/
def chkAs (c : Ck) : Es → Scope → List PX → Bool
  | .nil, _, xs => xs.isEmpty
  | .cons e es, sc, xs => match xs with
    | [] => false
    | x :: xs => argB c e sc x (chkE c e sc x && vl e) && noStar x && chkAs c es sc xs
end
end Wv

set_option autoImplicit false
set_option linter.all false
set_option maxRecDepth 100000
set_option maxHeartbeats 4000000
namespace Wv
open PySem PySem.Spec PyProof.Rows L2
section
variable {g : G} {c : Ck} {call : Nat → List Slot → M PyData} {X : Cx} {sc : Scope} {W : WX} {H : Hp} {Q : VK} {σ : L2.St}
theorem gl_of (G : Gd g c call X sc) {x : Str} (h : glB sc x = true) : Gl X x := by
  show X.env.scope.names.lookup x = some .globalImplicit
  rw [G.sc]
  exact eq_of_beq h
theorem glc_of {x : Str} {y : String} (h : glc sc x y = true) : x = Str.ofString y ∧ glB sc x = true := by
  obtain ⟨h1, h2⟩ := Bool.and_eq_true_iff.mp h
  exact ⟨eq_of_beq h1, h2⟩
theorem chain_eq {o1 o2 : Bop} {p1 p2 : CmpOp} (h1 : isCmp o1 = some p1) (h2 : isCmp o2 = some p2) {a b d : E} {Q : Bool → Hp → Prop} (h : tT g call X W (.chain o1 o2 a b d) σ H Q) :
    tTest (tChain (rB X.K X.w o1) (rB X.K X.w o2) (tE g call X W a) (tE g call X W b) (tE g call X W d)) σ H Q := by
  obtain ⟨A, H0, F0, ρ, F, ω, r, q⟩ := h
  rw [evalE, M.bnd_assoc] at q
  refine ⟨A, H0, F0, ρ, F, ω, r, (RPost.bind q).imp fun d1 ω1 H1 F1 g1 s1 q1 x rx => ?_⟩
  rw [M.bnd_assoc] at q1
  refine ⟨A, H0, F0, ρ, F1, ω1, r.grow g1 s1, (RPost.bind q1).imp fun d2 ω2 H2 F2 g2 s2 q2 y ry => ?_⟩
  cases e3 : bop o1 d1 d2 with
  | none => rw [e3] at q2; exact q2.elim
  | some d3 =>
    rw [e3] at q2
    obtain ⟨k, rfl⟩ := cmp_bool h1 e3
    refine ⟨_, F2, d1, d2, _, g2.fit, rx.p.grow g2, ry.p, e3, fun v H' F' e rv => ⟨k, (RepP.frz (Ex := fun _ => False) (H := H') rv).bool, ?_⟩⟩
    have q3 := q2.mono (H1 := H') (F1 := F') e.grow
    have s3 := s2.ext e
    cases k with
    | false => exact ⟨false, rfl, q3 H' F' (Grow.refl e.fit) s3⟩
    | true =>
      rw [if_pos rfl]
      have q3 : RPost g X.K W σ A H' F' (((evalE g.gt call d ρ >>= fun z => M.ofO (bop o2 d2 z)) >>= fun d => M.ofO (tru d)) ω2) (fun b _ H' F' => Q b H') := q3
      rw [M.bnd_assoc] at q3
      refine ⟨A, H0, F0, ρ, F', ω2, (r.grow g1 s1 |>.grow g2 s2).grow e.grow s3, (RPost.bind q3).imp fun d4 ω4 H4 F4 g4 s4 q4 z rz => ?_⟩
      cases e5 : bop o2 d2 d4 with
      | none => rw [e5] at q4; exact q4.elim
      | some d5 =>
        rw [e5] at q4
        obtain ⟨k2, rfl⟩ := cmp_bool h2 e5
        exact ⟨_, F4, d2, d4, _, g4.fit, (ry.p.grow e.grow).grow g4, rz.p, e5, fun v H5 F5 ex rv => ⟨k2, (RepP.frz (Ex := fun _ => False) (H := H5) rv).bool, q4 H5 F5 ex.grow (s4.ext ex)⟩⟩
/-- what is shown of an expression -/
def AllE (g : G) (c : Ck) (call : Nat → List Slot → M PyData) (e : E) : Prop := ∀ (X : Cx) (sc : Scope) (x : PX) (W : WX), Gd g c call X sc → Takes X W → chkE c e sc x = true →
  (isIt e = false → PE X x (tE g call X W e) ∧ (okT e x = true → PT X x (tT g call X W e))) ∧ (∀ (tg : PX) (z : Bool), (z && isPk e) = false → okTg e tg = true → PI X tg x (tI g call X W z e)) ∧
  (∀ b, e = .setof b → ∃ p y q, x = .Call (.Name (Str.ofString "set") p) [y] [] q ∧ glB sc (Str.ofString "set") = true ∧ noStar y = true ∧ PE X y (tE g call X W b)) ∧ (isBt e = true → PT X x (tT g call X W e))
theorem all_of {e : E} {x : PX} (hp : PE X x (tE g call X W e)) (ht : okT e x = true → PT X x (tT g call X W e)) (hs : ∀ b, e ≠ .setof b := by intro b h; cases h) (hb : isBt e = false := by rfl) :
    (isIt e = false → PE X x (tE g call X W e) ∧ (okT e x = true → PT X x (tT g call X W e))) ∧ (∀ (tg : PX) (z : Bool), (z && isPk e) = false → okTg e tg = true → PI X tg x (tI g call X W z e)) ∧
  (∀ b, e = .setof b → ∃ p y q, x = .Call (.Name (Str.ofString "set") p) [y] [] q ∧ glB sc (Str.ofString "set") = true ∧ noStar y = true ∧ PE X y (tE g call X W b)) ∧ (isBt e = true → PT X x (tT g call X W e)) :=
  ⟨fun _ => ⟨hp, ht⟩, fun tg z hz _ => PI.wk (pi_seq hp) fun σ H R q => seq_rd hz q, fun b h => absurd h (hs b), fun h => by rw [hb] at h; cases h⟩
theorem all_pl {e : E} {x : PX} (hp : PE X x (tE g call X W e)) (h : okT e x = true → plainT x = true) (hs : ∀ b, e ≠ .setof b := by intro b h; cases h) (hb : isBt e = false := by rfl) :
    (isIt e = false → PE X x (tE g call X W e) ∧ (okT e x = true → PT X x (tT g call X W e))) ∧ (∀ (tg : PX) (z : Bool), (z && isPk e) = false → okTg e tg = true → PI X tg x (tI g call X W z e)) ∧
  (∀ b, e = .setof b → ∃ p y q, x = .Call (.Name (Str.ofString "set") p) [y] [] q ∧ glB sc (Str.ofString "set") = true ∧ noStar y = true ∧ PE X y (tE g call X W b)) ∧ (isBt e = true → PT X x (tT g call X W e)) :=
  all_of hp (fun ht => PT.wk (pt_plain hp (h ht)) fun σ H Q q => plainT_rd q) hs hb
theorem AllE.pt {e : E} {x : PX} (h : AllE g c call e) (G : Gd g c call X sc) (tk : Takes X W) (hc : chkE c e sc x = true) (ht : tst e = true) (ho : okT e x = true) : PT X x (tT g call X W e) := by
  have q := h X sc x W G tk hc
  rcases Bool.or_eq_true_iff.mp ht with h1 | h1
  · exact (q.1 (by simpa using h1)).2 ho
  · exact q.2.2.2 h1
/-! but tested -/
def tBu (g : G) (call : Nat → List Slot → M PyData) (X : Cx) (W : WX) (k : Bool) (es : Es) : TT := fun σ H Q => ∃ A H0 F0 ρ F ω, Rel g X.K X.w A H0 F0 ρ σ H F ω ∧
  RPost g X.K W σ A H F (evalBt g.gt call k es ρ ω) (fun b _ H' F' => Q b H')
theorem buT_rd {k : Bool} {es : Es} {Q : Bool → Hp → Prop} (h : tT g call X W (.bt k es) σ H Q) : tBu g call X W k es σ H Q := by
  obtain ⟨A, H0, F0, ρ, F, ω, r, q⟩ := h
  rw [evalE] at q
  have e : ((evalBt g.gt call k es ρ >>= fun b => (Pure.pure (PyData.bool b) : M PyData)) >>= fun d => M.ofO (tru d)) = evalBt g.gt call k es ρ := by
    rw [M.bnd_assoc]
    exact M.bnd_pure _
  rw [e] at q
  exact ⟨A, H0, F0, ρ, F, ω, r, q⟩
theorem bu1_rd {k : Bool} {e : E} {Q : Bool → Hp → Prop} (h : tBu g call X W k (.cons e .nil) σ H Q) : tT g call X W e σ H Q := by
  obtain ⟨A, H0, F0, ρ, F, ω, r, q⟩ := h
  rw [evalBt] at q
  have e1 : (evalE g.gt call e ρ >>= fun x => M.ofO (tru x) >>= fun t => (Pure.pure t : M Bool)) = (evalE g.gt call e ρ >>= fun d => M.ofO (tru d)) := by
    congr 1
    funext x
    exact M.bnd_pure _
  have q : RPost g X.K W σ A H F ((evalE g.gt call e ρ >>= fun x => M.ofO (tru x) >>= fun t => (Pure.pure t : M Bool)) ω) (fun b _ H' F' => Q b H') := q
  rw [e1] at q
  exact ⟨A, H0, F0, ρ, F, ω, r, q⟩
theorem bu2_rd {k : Bool} {e e2 : E} {es : Es} {Q : Bool → Hp → Prop} (h : tBu g call X W k (.cons e (.cons e2 es)) σ H Q) :
    tT g call X W e σ H fun t H1 => if t = k then tBu g call X W k (.cons e2 es) σ H1 Q else Q (!k) H1 := by
  obtain ⟨A, H0, F0, ρ, F, ω, r, q⟩ := h
  rw [evalBt] at q
  have : (evalE g.gt call e ρ >>= fun x => M.ofO (tru x) >>= fun t => if t = k then evalBt g.gt call k (.cons e2 es) ρ else pure t) = (evalE g.gt call e ρ >>= fun x => M.ofO (tru x)) >>= fun t => if t = k then evalBt g.gt call k (.cons e2 es) ρ else pure t := by
    rw [M.bnd_assoc]
  rw [this] at q
  refine ⟨A, H0, F0, ρ, F, ω, r, (RPost.bind q).imp fun t ω1 H1 F1 g1 s1 q1 => ?_⟩
  by_cases e : t = k
  · rw [if_pos e] at q1 ⊢
    exact ⟨A, H0, F0, ρ, F1, ω1, r.grow g1 s1, q1⟩
  · rw [if_neg e] at q1 ⊢
    have : (!k) = t := by cases t <;> cases k <;> first | rfl | exact absurd rfl e
    rw [this]
    exact q1 H1 F1 (Grow.refl g1.fit) s1
/-! a call of a name that holds a def -/
theorem pe_callV {i : Nat} {fs : List Nat} {x : Str} {E0 : L2.St → XK} {t : TA} {e : PX} {es : List PX} {p pos : Pos} (G : Gd g c call X sc) (hf : ∀ k ∈ fs, ∃ n, c.fn[k]? = some n) (hv : varB c sc i x = true) (hx : ∀ σ, PassesAt (L2.CX X.prog X.w) X σ (E0 σ)) (ha : PA X (e :: es) t)
    (he : starEach (e :: es) X.env = (false, eval e X.env) :: starEach es X.env) (hpl : (backTo pos (starEach es X.env)).any (·.1) = false) :
    PE X (.Call (.Name x p) (e :: es) [] pos) (fun σ H Q => ∃ k ∈ fs, σ[i]? = some (some (.ref (g.fa k))) ∧ t σ H fun vs H1 => spF g X.K X.w call k vs H1 Q (E0 σ)) := by
  refine ⟨fun pins s σ H Q I h => ?_⟩
  obtain ⟨k, hk, hs, ht⟩ := h
  obtain ⟨n, hn⟩ := hf k hk
  obtain ⟨m, hr, hfn⟩ := G.fns
  have hr := hr.mono (Nat.le_add_right m (rmOf c sc))
  obtain ⟨fd, ps, f1, f2, f3, f4⟩ := hfn k n hn
  refine wpAny_Call_Name_kw (thn ((snd_name (pos := p) G hv).run pins s σ H (fun v H1 => v = .ref (g.fa k) ∧ H1 = H) I ⟨.ref (g.fa k), hs, rfl, rfl⟩) fun u s1 ⟨v, H1, I1, r1, q1⟩ => ?_)
  obtain ⟨rfl, rfl⟩ := q1
  cases r1
  refine PySem.W.callWith_K (h₀ := X.base) I.ok.mod.kin f2 (thn (ha.run pos pins s1 σ _ _ I1 ht) fun us s2 ⟨vs, H2, I2, r, q⟩ => ⟨I2.kIn, ?_⟩) he hpl
  exact run_fnS f4 hr f3 (hx σ) I2 r q
theorem callv_rd {i : Nat} {fs : List Nat} {es : Es} (h : tE g call X W (.callv i fs es) σ H Q) : ∃ k ∈ fs, σ[i]? = some (some (.ref (g.fa k))) ∧ tAs g call X W es σ H fun vs H1 => spF g X.K X.w call k vs H1 Q (WE W σ) := by
  obtain ⟨A, H0, F0, ρ, F, ω, r, q⟩ := h
  rw [evalE] at q
  cases es1 : ρ[i]? with
  | none => rw [es1] at q; exact q.elim
  | some s =>
    rw [es1] at q
    cases s with
    | f k =>
      obtain ⟨hc, q⟩ := RPost.guard q
      refine ⟨k, by simpa using hc, r.sl i _ es1, ?_⟩
      have q' : tE g call X W (.call k false es) σ H Q := by
        refine ⟨A, H0, F0, ρ, F, ω, r, ?_⟩
        rw [evalE]
        have e : (evalAs g.gt call es ρ >>= fun xs => call k xs >>= fun d => M.guard (!false || scal d) (pure d)) = (evalAs g.gt call es ρ >>= fun xs => call k xs) := by
          congr 1
          funext xs
          exact M.bnd_pure _
        rw [e]
        exact q
      exact call_rd q'
    | _ => exact q.elim
/-! {} -/
theorem dic0_rd {es : Es} (hn : isNil es = true) (h : tN g call X W (.dic es) σ H Q) : tDNewK σ H Q := by
  cases es with
  | cons => cases hn
  | nil =>
    obtain ⟨A, H0, F0, ρ, F, ω, r, q⟩ := h
    rw [evalE, evalKV] at q
    have q : ∀ H' F', Grow (ExA g A) H F H' F' → StOk g A H' F' ω → ∀ v, RepN X.K X.w H F' H' v (.dict []) → Q v H' := q
    intro p np
    have nA := r.st.nA np
    have nF := r.fit.none np
    exact q (upd H p (.dK [])) F ((Grow.refl r.fit).updN np nF) (r.st.upd nA nF) _ ⟨p, rfl, np, nF, [], upd_same, .nil⟩
theorem p1_cr {p : P1} (G : Gd g c call X sc) (h : okP1 p = true) : (CallR X (.builtin (p1Name p)) (rP1 X.K X.w p) ∧ bootBuiltins (Str.ofString (p1Name p)) = some (.builtin (p1Name p))) ∨ (CallR X (.type (p1Name p)) (rP1 X.K X.w p) ∧ bootBuiltins (Str.ofString (p1Name p)) = some (.type (p1Name p))) := by
  have hu : X.A.units + 100 < cLine := by have := G.hu; omega
  cases p <;> try (cases h; done)
  · exact .inl ⟨cr_len, by decide +kernel⟩
  · exact .inl ⟨cr_absD, by decide +kernel⟩
  · exact .inl ⟨cr_sumD G.calm, by decide +kernel⟩
  · exact .inl ⟨cr_maxD G.calm hu, by decide +kernel⟩
  · exact .inl ⟨cr_minD G.calm hu, by decide +kernel⟩
  · exact .inr ⟨cr_tupleD, by decide +kernel⟩
  · exact .inr ⟨cr_int, by decide +kernel⟩
  · exact .inl ⟨cr_anyD G.calm, by decide +kernel⟩
  · exact .inl ⟨cr_allD G.calm, by decide +kernel⟩
theorem n1_cr {p : P1} (G : Gd g c call X sc) (h : okN1 p = true) : (CallR X (.builtin (p1Name p)) (rP1N X.K X.w p) ∧ bootBuiltins (Str.ofString (p1Name p)) = some (.builtin (p1Name p))) ∨ (CallR X (.type (p1Name p)) (rP1N X.K X.w p) ∧ bootBuiltins (Str.ofString (p1Name p)) = some (.type (p1Name p))) := by
  have hu : X.A.units + 100 < cLine := by have := G.hu; omega
  cases p <;> try (cases h; done)
  · exact .inl ⟨cr_sortedN G.calm hu, by decide +kernel⟩
  · exact .inr ⟨cr_listN, by decide +kernel⟩
theorem p1_n1 {p : P1} : Str.ofString (p1Name p) ≠ "__name__" := by cases p <;> decide
theorem p1_n2 {p : P1} : (Str.ofString (p1Name p) == ("__debug__" : Str)) = false := by cases p <;> decide
theorem b1_pe {p : P1} {a : E} {y : PX} {np q : Pos} (G : Gd g c call X sc) (h : okP1 p = true) (hg : glB sc (Str.ofString (p1Name p)) = true) (hy : noStar y = true) (hp : PE X y (tE g call X W a)) : PE X (.Call (.Name (Str.ofString (p1Name p)) np) [y] [] q) (tE g call X W (.b1 p a)) := by
  have hs : starEach [y] X.env = (false, eval y X.env) :: starEach [] X.env := star_of hy
  have hm := G.frn _ (p1_blt p)
  rcases p1_cr (p := p) G h with ⟨h1, h2⟩ | ⟨h1, h2⟩
  · exact PE.wk (pe_callB h1 (gl_of G hg) hm h2 (pa_cons hp pa_nil hs) p1_n1 p1_n2 hs rfl) fun σ H Q q => b1_rdP q
  · exact PE.wk (pe_callTy h1 (gl_of G hg) hm h2 (pa_cons hp pa_nil hs) p1_n1 p1_n2 hs rfl) fun σ H Q q => b1_rdP q
/-- a new list -/
theorem b1N_pe {p : P1} {a : E} {y : PX} {np q : Pos} (G : Gd g c call X sc) (h : okN1 p = true) (hg : glB sc (Str.ofString (p1Name p)) = true) (hy : noStar y = true) (hp : PE X y (tE g call X W a)) : PE X (.Call (.Name (Str.ofString (p1Name p)) np) [y] [] q) (tN g call X W (.b1 p a)) := by
  have hs : starEach [y] X.env = (false, eval y X.env) :: starEach [] X.env := star_of hy
  have hm := G.frn _ (p1_blt p)
  rcases n1_cr (p := p) G h with ⟨h1, h2⟩ | ⟨h1, h2⟩
  · exact PE.wk (pe_callB h1 (gl_of G hg) hm h2 (pa_cons hp pa_nil hs) p1_n1 p1_n2 hs rfl) fun σ H Q q => b1N_rd q
  · exact PE.wk (pe_callTy h1 (gl_of G hg) hm h2 (pa_cons hp pa_nil hs) p1_n1 p1_n2 hs rfl) fun σ H Q q => b1N_rd q
theorem plainN_of {x : Str} (h : plainN x = true) : (x == ("__debug__" : Str)) = false := by
  unfold plainN at h
  simp only [Bool.and_eq_true, Bool.not_eq_true'] at h
  exact h.1.1
theorem any_as : ∀ (es : Es) (xs : List PX) {env : PySem.Env} {pos : Pos}, chkAs c es sc xs = true → (backTo pos (starEach xs env)).any (·.1) = false
  | .nil, [], _, _, _ => rfl
  | .nil, _ :: _, _, _, h => by simp [chkAs] at h
  | .cons e es, [], _, _, h => by simp [chkAs] at h
  | .cons e es, x :: xs, env, pos, h => by
    rw [chkAs] at h
    obtain ⟨h1, h2⟩ := Bool.and_eq_true_iff.mp h
    rw [star_of (Bool.and_eq_true_iff.mp h1).2]
    show (false || (backTo pos (starEach xs env)).any (·.1)) = false
    rw [any_as es xs h2]; rfl
theorem es_len : ∀ (es : Es) (xs : List PX), chkEs c es sc xs = true → lenEs es = xs.length
  | .nil, [], _ => rfl
  | .nil, _ :: _, h => by simp [chkEs] at h
  | .cons e es, [], h => by simp [chkEs] at h
  | .cons e es, x :: xs, h => by
    rw [chkEs, Bool.and_eq_true] at h
    rw [lenEs, es_len es xs h.2]; rfl
theorem vl_of {e : E} (h : vl e = true) : isPk e = false ∧ isIt e = false := by
  unfold vl at h
  simp only [Bool.and_eq_true, Bool.not_eq_true'] at h
  exact h
theorem rm_le {sc2 : Scope} (h : (!sc.isGenerator || sc2.isGenerator) = true) : rmOf c (relS sc2 sc) ≤ rmOf c sc := by
  have e : (relS sc2 sc).isGenerator = sc2.isGenerator := rfl
  unfold rmOf
  rw [e]
  cases h1 : sc.isGenerator with
  | false =>
    rw [if_neg Bool.false_ne_true]
    split
    · exact Nat.zero_le _
    · exact Nat.le_refl _
  | true =>
    rw [h1] at h
    have : sc2.isGenerator = true := by simpa using h
    rw [if_pos this]
    exact Nat.zero_le _
theorem noFoldG {x : PX} (h : (noSet x && noList x) = true) (env : PySem.Env) : ∀ v, genFold x env v = pure v := by
  intro v
  cases x <;> first | rfl | cases h
theorem blk_gd {s : Shared} {sc2 : Scope} {C : Addr} {cl : List (Str × Addr)} {fp : List Addr} (G : Gd g c call X sc) (hgen : (!sc.isGenerator || sc2.isGenerator) = true) : Gd g c call (X.blk s H sc2 (compEnvC sc2 cl C X.env) fp) (relS sc2 sc) where
  sc := by rw [← G.sc]; rfl
  N := G.N
  nd := G.nd
  calm := G.calm
  fns := by
    obtain ⟨n, hr, h⟩ := G.fns
    exact ⟨n, hr.mono (Nat.add_le_add_left (rm_le hgen) n), h⟩
  drw := fun k e => by
    obtain ⟨n, x, fd, ps, hr, h⟩ := G.drw k e
    exact ⟨n, x, fd, ps, hr.mono (Nat.add_le_add_left (rm_le hgen) n), h⟩
  rm := G.rm.mono (rm_le hgen)
  gn := fun h => G.gn (Nat.lt_of_lt_of_le h (rm_le hgen))
  frn := G.frn
theorem noFold {x : PX} (h : noSet x = true) (env : PySem.Env) : ∀ v, foldedSetIterable x env v = pure v := by
  intro v
  cases x <;> first | rfl | cases h
end
end Wv

set_option autoImplicit false
set_option linter.all false
set_option maxRecDepth 100000
set_option maxHeartbeats 4000000
namespace Wv
open PySem PySem.Spec PyProof.Rows L2
section
variable {g : G} {c : Ck} {call : Nat → List Slot → M PyData}
theorem and3 {a b c : Bool} (h : (a && b && c) = true) : a = true ∧ b = true ∧ c = true := by
  simp only [Bool.and_eq_true] at h
  exact ⟨h.1.1, h.1.2, h.2⟩
theorem and2 {a b : Bool} (h : (a && b) = true) : a = true ∧ b = true := Bool.and_eq_true_iff.mp h
theorem nb {a : Bool} (h : (!a) = true) : a = false := by simpa using h
theorem lit_int {k : Const} {n : Nat} (h : litB (.int n) k = true) : k = .int n := by
  cases k with
  | int j => rw [← eq_of_beq (show (((n : Nat) : Int) == j) = true from h)]
  | _ => cases h
theorem isSet_of {a : E} (h : isSet a = true) : ∃ b, a = .setof b := by
  cases a with
  | setof b => exact ⟨b, rfl⟩
  | _ => cases h
theorem optB_pk {sc : Scope} {e : E} {x : Option PX} (h : optB e x (fun w => chkE c e sc w && vl e) = true) : isPk e = false := by
  cases x with
  | none => rw [optB_none h rfl]; rfl
  | some y => exact (vl_of (and2 (show (chkE c e sc y && vl e) = true from h)).2).1
theorem po_opt {X : Cx} {W : WX} {e : E} {x : Option PX} (h : ∀ y, x = some y → PE X y (tE g call X W e)) : PO X x (tO g call X W e x) := by
  cases x with
  | none => exact po_none
  | some y => exact po_someD (h y rfl)
mutual
theorem snd : ∀ (e : E), AllE g c call e
  | .var i => fun X sc x W G tk h => by
    rw [chkE] at h
    obtain ⟨n, p, rfl, h⟩ := vName_of h
    exact all_pl (snd_var G h) fun _ => rfl
  | .pk i => fun X sc x W G tk h => by
    rw [chkE] at h
    obtain ⟨n, p, rfl, h⟩ := vName_of h
    exact all_pl (snd_pk G h) fun _ => rfl
  | .lit d => fun X sc x W G tk h => by
    rw [chkE] at h
    obtain ⟨n, j, p, rfl, h⟩ := vConst_of h
    exact all_pl (snd_lit h) fun _ => rfl
  | .bin o a b => fun X sc x W G tk h => by
    rw [chkE] at h
    rcases vBin_of h with ⟨l, p, r, q, rfl, h1, h2⟩ | ⟨l, p, r, q, rfl, h1, hm, h2⟩
    · obtain ⟨h3, h6⟩ := and2 h2
      obtain ⟨h3, h5⟩ := and2 h3
      obtain ⟨h3, h4⟩ := and2 h3
      have pa := ((snd a X sc l W G tk h3).1 (nb h5)).1
      have pb := ((snd b X sc r W G tk h4).1 (nb h6)).1
      exact all_pl (PE.wk (pe_op (bin_ok h1) pa pb) fun σ H Q q => bin_rd q) fun _ => rfl
    · obtain ⟨h3, h6⟩ := and2 h2
      obtain ⟨h3, h5⟩ := and2 h3
      obtain ⟨h3, h4⟩ := and2 h3
      have pa := ((snd a X sc l W G tk h3).1 (nb h5)).1
      have pb := ((snd b X sc r W G tk h4).1 (nb h6)).1
      exact all_of (PE.wk (pe_cmpR (cmpR_ok G h1) pa pb hm) fun σ H Q q => bin_rd q) fun _ => PT.wk (pt_cmpR (cmpR_ok G h1) pa pb hm) fun σ H Q q => cmpT_rd h1 q
  | .chain o1 o2 a b d => fun X sc x W G tk h => by
    rw [chkE] at h
    obtain ⟨l, p1, p2, r, t, q, rfl, h1, h2, hm, h3⟩ := vCmp2_of h
    obtain ⟨h3, h9⟩ := and2 h3
    obtain ⟨h3, h8⟩ := and2 h3
    obtain ⟨h3, h7⟩ := and2 h3
    obtain ⟨h3, h6⟩ := and2 h3
    obtain ⟨h4, h5⟩ := and2 h3
    have pa := ((snd a X sc l W G tk h4).1 (nb h7)).1
    have pb := ((snd b X sc r W G tk h5).1 (nb h8)).1
    have pd := ((snd d X sc t W G tk h6).1 (nb h9)).1
    exact all_of (PE.wk (pe_chain (cmpR_ok G h1) (cmpR_ok G h2) pa pb pd hm) fun σ H Q q => chain_rd (p2 := p2) h1 q) fun _ => PT.wk (pt_chain (cmpR_ok G h1) (cmpR_ok G h2) pa pb pd hm) fun σ H Q q => chain_eq h1 h2 q
  | .neg a => fun X sc x W G tk h => by
    rw [chkE] at h
    obtain ⟨y, p, rfl, h⟩ := vNeg_of h
    obtain ⟨h1, h2⟩ := and2 h
    exact all_pl (PE.wk (pe_un un_neg ((snd a X sc y W G tk h1).1 (nb h2)).1) fun σ H Q q => neg_rd q) fun _ => rfl
  | .not_ a => fun X sc x W G tk h => by
    rw [chkE] at h
    obtain ⟨y, p, rfl, h⟩ := vNot_of h
    obtain ⟨h1, h2, h3⟩ := and3 h
    have q := (snd a X sc y W G tk h1).1 (nb h2)
    exact all_of (PE.wk (pe_notR q.1) fun σ H Q q => not_rd q) fun _ => PT.wk (pt_not (q.2 h3)) fun σ H Q q => notT_rd q
  | .bo k es => fun X sc x W G tk h => by
    rw [chkE] at h
    obtain ⟨xs, p, rfl, h2⟩ := vBool_of h
    have q := sndB es X sc xs W k p G tk h2
    exact all_of (PE.wk q.1 fun σ H Q q => bo_rd q) fun _ => PT.wk q.2.pt fun σ H Q q => boT_rd q
  | .ite t a b => fun X sc x W G tk h => by
    rw [chkE] at h
    obtain ⟨y, z, u, p, rfl, h⟩ := vIf_of h
    obtain ⟨h, h7⟩ := and2 h
    obtain ⟨h, h6⟩ := and2 h
    obtain ⟨h, h5⟩ := and2 h
    obtain ⟨h, h4⟩ := and2 h
    obtain ⟨h1, h2, h3⟩ := and3 h
    have pt := (snd t).pt G tk h1 h2 h3
    have pa := ((snd a X sc z W G tk h4).1 (vl_of h5).2).1
    have pb := ((snd b X sc u W G tk h6).1 (vl_of h7).2).1
    exact all_pl (PE.wk (pe_ifExp pt pa pb) fun σ H Q q => ite_rd (vl_of h5).1 (vl_of h7).1 q) fun h => h
  | .tup es => fun X sc x W G tk h => by
    rw [chkE] at h
    obtain ⟨xs, j, p, rfl, h⟩ := vTup_of h
    obtain ⟨h1, h2⟩ := and2 h
    have hn : lenEs es ≤ sizeLine := by
      rw [es_len es xs h1, sizeLine_eq]
      exact Nat.le_trans (of_decide_eq_true h2) (by decide)
    exact all_pl (PE.wk (pe_tupZ (sndEs es X sc xs W G tk h1)) fun σ H Q q => tup_rd hn q) fun _ => rfl
  | .lst es => fun X sc x W G tk h => by
    rw [chkE] at h
    obtain ⟨xs, p, rfl, h⟩ := vLst_of h
    obtain ⟨h1, h2⟩ := and2 h
    have hn : lenEs es ≤ sizeLine := by
      rw [es_len es xs h1, sizeLine_eq]
      exact Nat.le_trans (of_decide_eq_true h2) (by decide)
    exact all_pl (PE.wk (pe_lst (sndEs es X sc xs W G tk h1)) fun σ H Q q => lst_rd hn q) fun _ => rfl
  | .ix a b => fun X sc x W G tk h => by
    rw [chkE] at h
    obtain ⟨y, z, p, rfl, h⟩ := vIx_of h
    obtain ⟨h, h5⟩ := and2 h
    obtain ⟨h, h4⟩ := and2 h
    obtain ⟨h1, h2, h3⟩ := and3 h
    have pa := ((snd a X sc y W G tk h1).1 (nb h4)).1
    have pb := ((snd b X sc z W G tk h2).1 (nb h5)).1
    exact all_pl (PE.wk (pe_ix (ixr_ok (by have := G.hu; omega)) pa pb (plainIx_of h3)) fun σ H Q q => ix_rd q) fun _ => rfl
  | .call f b es => fun X sc x W G tk h => by
    rw [chkE] at h
    obtain ⟨n, p, xs, q, rfl, h⟩ := vCall_of h
    obtain ⟨h, h6⟩ := and2 h
    obtain ⟨h, h5⟩ := and2 h
    obtain ⟨h, h4⟩ := and2 h
    obtain ⟨h1, h2, h3⟩ := and3 h
    have hb : b = false := by simpa using h1
    subst hb
    cases xs with
    | nil => cases h6
    | cons y ys =>
      obtain ⟨m, hr, hf⟩ := G.fns
      have hr := hr.mono (Nat.le_add_right m (rmOf c sc))
      obtain ⟨fd, ps, f1, f2, f3, f4⟩ := hf f n (eq_of_beq h2)
      have pa := sndAs es X sc (y :: ys) W G tk h5
      have hs : noStar y = true := by
        cases es with
        | nil => simp [chkAs] at h5
        | cons e es => rw [chkAs] at h5; exact (and2 (and2 h5).1).2
      have ha : ∀ {pos : Pos}, (backTo pos (starEach ys X.env)).any (·.1) = false := fun {pos} => by
        cases es with
        | nil => simp [chkAs] at h5
        | cons e es => rw [chkAs] at h5; exact any_as es ys (and2 h5).2
      exact all_pl (PE.wk (pe_callS (E := WE W) f4 hr (gl_of G h3) f1 f2 f3 (fun σ => passAt tk σ) pa (plainN_of h4) (star_of hs) ha) fun σ H Q q => call_rd q) fun _ => rfl
  | .draw i e => fun X sc x W G tk h => by
    rw [chkE] at h
    obtain ⟨n, p, xs, q, rfl, h⟩ := vCall_of h
    obtain ⟨y, z, rfl, s1, s2, h⟩ := v2_of h
    obtain ⟨h, h6⟩ := and2 h
    obtain ⟨h, h5⟩ := and2 h
    obtain ⟨h, h4⟩ := and2 h
    obtain ⟨h1, h2, h3⟩ := and3 h
    obtain ⟨m, p2, rfl, h1⟩ := vName_of h1
    cases ek : c.dk with
    | none => rw [ek] at h4; cases h4
    | some k =>
      rw [ek] at h4
      obtain ⟨l, x2, fd, ps, hr, f0, f1, f2, f3, f4⟩ := G.drw k ek
      have hr := hr.mono (Nat.le_add_right l (rmOf c sc))
      have e2 : x2 = n := by
        have := eq_of_beq h4
        rw [f0] at this
        exact Option.some.inj this
      subst e2
      have pz := ((snd e X sc z W G tk h2).1 (vl_of h3).2).1
      have pn := snd_name (pos := p2) G h1
      have pa : PA X [.Name m p2, z] (tDrawA g call X W i e) := pa_cons pn (pa_cons pz pa_nil (star_of s2)) (star_of s1)
      exact all_pl (PE.wk (pe_callS (E := WE W) f4 hr (gl_of G h5) f1 f2 f3 (fun σ => passAt tk σ) pa (plainN_of h6) (star_of s1) (by rw [star_of s2]; rfl)) fun σ H Q q => draw_rd (vl_of h3).1 q) fun _ => rfl
  | .sget i k => fun X sc x W G tk h => by
    rw [chkE] at h
    obtain ⟨y, z, p, rfl, h⟩ := vIx_of h
    obtain ⟨h1, h2⟩ := and2 h
    obtain ⟨m, p2, rfl, h1⟩ := vName_of h1
    obtain ⟨u, j, p3, rfl, h2⟩ := vConst_of h2
    have := lit_int h2
    subst this
    exact all_pl (PE.wk (pe_ix ix_list (snd_name G h1) pe_int (plainIx_of rfl)) fun σ H Q q => sget_rd q) fun _ => rfl
  | .slen i => fun X sc x W G tk h => by
    rw [chkE] at h
    obtain ⟨n, p, xs, q, rfl, h⟩ := vCall_of h
    obtain ⟨h1, h2⟩ := and2 h
    obtain ⟨y, rfl, s1, h2⟩ := v1_of h2
    obtain ⟨a, b, p4, rfl, h2⟩ := vIx_of h2
    obtain ⟨h3, h4⟩ := and2 h2
    obtain ⟨m, p2, rfl, h3⟩ := vName_of h3
    obtain ⟨u, j, p3, rfl, h4⟩ := vConst_of h4
    have := lit_int (n := 2) h4
    subst this
    obtain ⟨rfl, hg⟩ := glc_of h1
    have pi : PE X (.Subscript (.Name m p2) (.Constant (.int 2) j p3) p4) (tOp (rIxL X.K) (tVar i) (tC (.int 2))) := pe_ix ix_list (snd_name G h3) pe_int (plainIx_of rfl)
    refine all_pl (PE.wk (pe_callB (id := "len") (r := fun xs H Q => ∃ b zs, xs = [.ref b] ∧ SqL X.K H b zs ∧ Q (.int zs.length) H) (fun pins s σ H xs us Q I r ⟨b, zs, e1, e2, e3⟩ => ?_) (gl_of G hg) (G.frn "len" (by decide)) (by decide +kernel) (pa_cons pi pa_nil rfl) (by decide) (by decide) rfl rfl) fun σ H Q q => ?_) fun _ => rfl
    · exact call_len_seq pins s σ H xs us Q I r ⟨b, zs, e1, .inl e2, e3⟩
    · obtain ⟨v, h1, a, xs, i2, z, e1, e2, e3, e4, b, e5, zs, e6, e7⟩ := slen_rd q
      exact ⟨v, h1, a, xs, i2, z, e1, e2, e3, e4, b, zs, by rw [e5], e6, e7⟩
  | .scell i j => fun X sc x W G tk h => by
    rw [chkE] at h
    obtain ⟨y, z, p, rfl, h⟩ := vIx_of h
    obtain ⟨h1, h2⟩ := and2 h
    obtain ⟨m, p2, rfl, h1⟩ := vName_of h1
    obtain ⟨a, b, p4, rfl, h2⟩ := vIx_of h2
    obtain ⟨h3, h4⟩ := and2 h2
    obtain ⟨m2, p5, rfl, h3⟩ := vName_of h3
    obtain ⟨u, j, p3, rfl, h4⟩ := vConst_of h4
    have := lit_int (n := 2) h4
    subst this
    have pi : PE X (.Subscript (.Name m2 p5) (.Constant (.int 2) j p3) p4) (tOp (rIxL X.K) (tVar i) (tC (.int 2))) := pe_ix ix_list (snd_name G h3) pe_int (plainIx_of rfl)
    exact all_pl (PE.wk (pe_ix ix_list pi (snd_name G h1) (plainIx_of rfl)) fun σ H Q q => scell_rd q) fun _ => rfl
  | .b1 p a => fun X sc x W G tk h => by
    by_cases hsp : p = .sortedr
    · subst hsp
      rw [chkE] at h
      obtain ⟨n, np, y, j, p2, p3, q, rfl, s1, h⟩ := vRev_of h
      obtain ⟨h1, h3, h4⟩ := and3 h
      obtain ⟨rfl, hg⟩ := glc_of h1
      have py := ((snd a X sc y W G tk h3).1 (nb h4)).1
      have hu : X.A.units + 100 < cLine := by have := G.hu; omega
      have hst : starEach [y] X.env = (false, eval y X.env) :: starEach [] X.env := star_of s1
      exact all_pl (PE.wk (pe_callBK (cr_sortedR hu) (gl_of G hg) (G.frn "sorted" (by decide)) (by decide +kernel) (pa_cons py pa_nil hst) (pk_cons pe_bl pk_nil) (by decide) (by decide) (by rw [hst]; rfl) (by rw [hst]; rfl) rfl rfl rfl) fun σ H Q q => sortedr_rd (tN_of rfl q)) fun _ => rfl
    rw [chkE] at h
    rotate_left 1
    · exact hsp
    obtain ⟨n, np, xs, q, rfl, h⟩ := vCall_of h
    obtain ⟨h1, h2, h3⟩ := and3 h
    obtain ⟨y, rfl, s1, h3⟩ := v1_of h3
    obtain ⟨h3, h4⟩ := and2 h3
    obtain ⟨rfl, hg⟩ := glc_of h1
    have q := snd a X sc y W G tk h3
    rcases Bool.or_eq_true_iff.mp h4 with h4 | h4
    · have py := (q.1 (nb h4)).1
      rcases Bool.or_eq_true_iff.mp h2 with h2 | h2
      · exact all_pl (b1_pe G h2 hg s1 py) fun _ => rfl
      · exact all_pl (PE.wk (b1N_pe G h2 hg s1 py) fun σ H Q q => tN_of rfl q) fun _ => rfl
    · obtain ⟨h5, h6⟩ := and2 h4
      obtain ⟨b, rfl⟩ := isSet_of h5
      have h6 : p = .len := eq_of_beq h6
      subst h6
      obtain ⟨p4, z, p5, rfl, hg2, hs, pz⟩ := q.2.2.1 b rfl
      have hu : X.A.units + 100 < cLine := by have := G.hu; omega
      exact all_pl (PE.wk (pe_lenSetD (gl_of G hg) (G.frn "len" (by decide)) (gl_of G hg2) (G.frn "set" (by decide)) pz G.calm hu hs) fun σ H Q q => lenset_rd q) fun _ => rfl
  | .b2 p a b => fun X sc x W G tk h => by
    rw [chkE] at h
    obtain ⟨n, np, xs, q, rfl, h⟩ := vCall_of h
    obtain ⟨h1, h3⟩ := and2 h
    obtain ⟨y, z, rfl, s1, s2, h3⟩ := v2_of h3
    obtain ⟨h3, h7⟩ := and2 h3
    obtain ⟨h4, h5, h6⟩ := and3 h3
    obtain ⟨rfl, hg⟩ := glc_of h1
    have py := ((snd a X sc y W G tk h4).1 (nb h5)).1
    have pz := ((snd b X sc z W G tk h6).1 (nb h7)).1
    have n1 : Str.ofString (p2Name p) ≠ "__name__" := by cases p <;> decide
    have n2 : (Str.ofString (p2Name p) == ("__debug__" : Str)) = false := by cases p <;> decide
    exact all_pl (PE.wk (pe_callB (cr_p2 G.calm) (gl_of G hg) (G.frn _ (by cases p <;> decide)) (by cases p <;> decide +kernel) (pa_cons py (pa_cons pz pa_nil (star_of s2)) (star_of s1)) n1 n2 (star_of s1) (by rw [star_of s2]; rfl)) fun σ H Q q => b2_rdP q) fun _ => rfl
  | .sl a lo hi st => fun X sc x W G tk h => by
    rw [chkE] at h
    obtain ⟨y, z, p, rfl, h⟩ := vIx_of h
    obtain ⟨l, u, k, p2, rfl, h⟩ := vSl_of h
    obtain ⟨h, h5⟩ := and2 h
    obtain ⟨h, h4⟩ := and2 h
    obtain ⟨h1, h2, h3⟩ := and3 h
    have py := ((snd a X sc y W G tk h1).1 (nb h2)).1
    have ol : PO X l (tO g call X W lo l) := po_opt fun w hw => by
      subst hw
      obtain ⟨e1, e2⟩ := and2 (show (chkE c lo sc w && vl lo) = true from h3)
      exact ((snd lo X sc w W G tk e1).1 (vl_of e2).2).1
    have ou : PO X u (tO g call X W hi u) := po_opt fun w hw => by
      subst hw
      obtain ⟨e1, e2⟩ := and2 (show (chkE c hi sc w && vl hi) = true from h4)
      exact ((snd hi X sc w W G tk e1).1 (vl_of e2).2).1
    have ok : PO X k (tO g call X W st k) := po_opt fun w hw => by
      subst hw
      obtain ⟨e1, e2⟩ := and2 (show (chkE c st sc w && vl st) = true from h5)
      exact ((snd st X sc w W G tk e1).1 (vl_of e2).2).1
    exact all_pl (PE.wk (pe_slice3 slr_ok py ol ou ok) fun σ H Q q => sl_rd (optB_none h3) (optB_none h4) (optB_none h5) (optB_pk h3) (optB_pk h4) (optB_pk h5) (tN_of rfl q)) fun _ => rfl
  | .mcount a b => fun X sc x W G tk h => by
    rw [chkE] at h
    obtain ⟨y, ap, z, cp, rfl, e1, e2, e3, h⟩ := vMeth_of h
    obtain ⟨h, h4⟩ := and2 h
    obtain ⟨h1, h2, h3⟩ := and3 h
    have py := ((snd a X sc y W G tk h1).1 (nb h2)).1
    have pz := ((snd b X sc z W G tk h3).1 (nb h4)).1
    have hu : X.A.units + 100 < cLine := by have := G.hu; omega
    exact all_pl (PE.wk (pe_bmD py (pa_cons pz pa_nil (star_of e3)) e2 e3 e1) fun σ H Q q => mcount_rd hu q) fun _ => rfl
  | .rev a => fun X sc x W G tk h => by
    rw [chkE] at h
    obtain ⟨n, np, xs, q, rfl, h⟩ := vCall_of h
    obtain ⟨h1, h2⟩ := and2 h
    obtain ⟨y, rfl, s1, h2⟩ := v1_of h2
    obtain ⟨h3, h4⟩ := and2 h2
    obtain ⟨rfl, hg⟩ := glc_of h1
    have py := ((snd a X sc y W G tk h3).1 (nb h4)).1
    exact ⟨(fun z => by cases z), fun tg z hz _ => PI.wk (RT.pi_revA (gl_of G hg) (G.frn "reversed" (by decide)) py (star_of s1)) fun σ H R q => rev_rd (a := a) (by simpa only [isPk] using hz) q, (fun b h => by cases h), fun h => by cases h⟩
  | .enm a => fun X sc x W G tk h => by
    rw [chkE] at h
    obtain ⟨n, np, xs, q, rfl, h⟩ := vCall_of h
    obtain ⟨h1, h2⟩ := and2 h
    obtain ⟨y, rfl, s1, h2⟩ := v1_of h2
    obtain ⟨h3, h4⟩ := and2 h2
    obtain ⟨rfl, hg⟩ := glc_of h1
    have py := ((snd a X sc y W G tk h3).1 (nb h4)).1
    refine ⟨(fun z => by cases z), fun tg z hz ht => ?_, (fun b h => by cases h), fun h => by cases h⟩
    cases tg <;> try (cases ht; done)
    exact PI.wk (pi_enumA (gl_of G hg) (G.frn "enumerate" (by decide)) (pa_cons py pa_nil (star_of s1)) (star_of s1)) fun σ H R q => enm_rd (a := a) (by simpa only [isPk] using hz) q
  | .setof a => fun X sc x W G tk h => by
    rw [chkE] at h
    obtain ⟨n, np, xs, q, rfl, h⟩ := vCall_of h
    obtain ⟨h1, h2⟩ := and2 h
    obtain ⟨y, rfl, s1, h2⟩ := v1_of h2
    obtain ⟨h3, h4⟩ := and2 h2
    obtain ⟨rfl, hg⟩ := glc_of h1
    have py := ((snd a X sc y W G tk h3).1 (nb h4)).1
    exact ⟨(fun z => by cases z), (fun tg z hz ht => by cases ht), (fun b h => by cases h; exact ⟨_, _, _, rfl, hg, s1, py⟩), fun h => by cases h⟩
  | .isa a t => fun X sc x W G tk h => by
    rw [chkE] at h
    obtain ⟨n, np, xs, q, rfl, h⟩ := vCall_of h
    obtain ⟨h1, h3⟩ := and2 h
    obtain ⟨y, z, rfl, s1, s2, h3⟩ := v2_of h3
    obtain ⟨h4, h5, h6⟩ := and3 h3
    obtain ⟨m, p2, rfl, h6⟩ := vName_of h6
    obtain ⟨rfl, hg⟩ := glc_of h1
    obtain ⟨rfl, hg2⟩ := glc_of h6
    have py := ((snd a X sc y W G tk h4).1 (nb h5)).1
    have pm : PE X (.Name (Str.ofString (tyN t)) p2) (tC (.ty (tyN t))) := pe_bltn (u := .type (tyN t)) (gl_of G hg2) (G.frn _ (by cases t <;> decide)) (by cases t <;> decide +kernel) rfl (by cases t <;> decide) (by cases t <;> decide)
    exact all_pl (PE.wk (pe_callB call_isi (gl_of G hg) (G.frn "isinstance" (by decide)) (by decide +kernel) (pa_cons py (pa_cons pm pa_nil rfl) (star_of s1)) (by decide) (by decide) (star_of s1) rfl) fun σ H Q q => isa_rd q) fun _ => rfl
  | .rng es => fun X sc x W G tk h => by
    rw [chkE] at h
    obtain ⟨n, np, xs, q, rfl, h⟩ := vCall_of h
    obtain ⟨h1, h2, h3⟩ := and3 h
    obtain ⟨rfl, hg⟩ := glc_of h1
    refine ⟨(fun z => by cases z), fun tg z _ _ => ?_, (fun b h => by cases h), fun h => by cases h⟩
    match es, h2, h3 with
    | .cons a .nil, h2, _ =>
      cases xs with
      | nil => simp [chkEs] at h2
      | cons y ys =>
        rw [chkEs] at h2
        obtain ⟨h2, h4⟩ := and2 h2
        obtain ⟨h5, h6, h7⟩ := and3 h2
        cases ys with
        | cons => simp [chkEs] at h4
        | nil =>
          have py := ((snd a X sc y W G tk h5).1 (vl_of h7).2).1
          exact PI.wk (pi_range1 (gl_of G hg) (G.frn "range" (by decide)) (pa_cons py pa_nil (star_of h6)) (star_of h6)) fun σ H R q => rng1_rd (vl_of h7).1 q
    | .cons a (.cons b .nil), h2, _ =>
      cases xs with
      | nil => simp [chkEs] at h2
      | cons y ys =>
        rw [chkEs] at h2
        obtain ⟨h2, h4⟩ := and2 h2
        obtain ⟨h5, h6, h7⟩ := and3 h2
        cases ys with
        | nil => simp [chkEs] at h4
        | cons y2 ys =>
          rw [chkEs] at h4
          obtain ⟨h8, h9⟩ := and2 h4
          obtain ⟨h10, h11, h12⟩ := and3 h8
          cases ys with
          | cons => simp [chkEs] at h9
          | nil =>
            have py := ((snd a X sc y W G tk h5).1 (vl_of h7).2).1
            have pz := ((snd b X sc y2 W G tk h10).1 (vl_of h12).2).1
            exact PI.wk (pi_range2 (gl_of G hg) (G.frn "range" (by decide)) (pa_cons py (pa_cons pz pa_nil (star_of h11)) (star_of h6)) (by rw [star_of h6, star_of h11]; rfl) (star_of h11)) fun σ H R q => rng2_rd (vl_of h7).1 (vl_of h12).1 q
  | .mindex a b => fun X sc x W G tk h => by
    rw [chkE] at h
    obtain ⟨y, ap, z, cp, rfl, e1, e2, e3, h⟩ := vMeth_of h
    obtain ⟨h, h4⟩ := and2 h
    obtain ⟨h1, h2, h3⟩ := and3 h
    have py := ((snd a X sc y W G tk h1).1 (nb h2)).1
    have pz := ((snd b X sc z W G tk h3).1 (nb h4)).1
    have hu : X.A.units + 100 < cLine := by have := G.hu; omega
    exact all_pl (PE.wk (pe_bmD py (pa_cons pz pa_nil (star_of e3)) e2 e3 e1) fun σ H Q q => mindex_rd hu q) fun _ => rfl
  | .gen b0 t it e => fun X sc x W G tk h => by
    rw [chkE] at h
    obtain ⟨n, np, xs, q, rfl, h⟩ := vCall_of h
    obtain ⟨h1, h2⟩ := and2 h
    obtain ⟨y, rfl, s1, h2⟩ := v1_of h2
    obtain ⟨elt, tg, iter, sc2, p, rfl, hz⟩ := vGen_of h2
    obtain ⟨rfl, hg⟩ := glc_of h1
    obtain ⟨h, h9⟩ := and2 hz
    obtain ⟨h, h8⟩ := and2 h
    obtain ⟨h, h7⟩ := and2 h
    obtain ⟨h, h6⟩ := and2 h
    obtain ⟨h, h5⟩ := and2 h
    obtain ⟨h, h4⟩ := and2 h
    obtain ⟨h, h3⟩ := and2 h
    obtain ⟨h0, h2⟩ := and2 h
    have hr : 0 < rmOf c sc := of_decide_eq_true h0
    obtain ⟨cc, P, hcode, TB, hP⟩ := G.gn hr
    have hv := eq_of_beq h6
    have hi : PI X tg iter (tI g call X W false it) := (snd it X sc iter W G tk h2).2.1 tg false rfl (and2 h3).2
    have ok : BlkOk X.N X.env.scope sc2 (ownOf c.N (tgS t)) := by rw [G.N, G.sc]; exact blkOk_by h5
    unfold genS at h7
    simp only [Bool.and_eq_true, Bool.not_eq_true', beq_iff_eq] at h7
    obtain ⟨⟨⟨k1, k2⟩, k3⟩, k4⟩ := h7
    have hb : cName b0 ∈ bltN := by cases b0 <;> decide
    have hp := pe_gen (p := np) (pos := q) (gpos := p) (isAll := b0) (nm := Str.ofString (cName b0)) (wi := tI g call X W false it) (g := tG g X (tgS t) t) (te := tE g call X W0 e) (G.rm.mono hr) (gl_of G hg) (G.frn _ hb) (by cases b0 <;> decide +kernel) (by cases b0 <;> decide) (by cases b0 <;> decide) TB hcode
      ok k2 (fun y hy z => by
        have := List.all_eq_true.mp k3 y hy
        rw [z] at this
        cases this) k4 (by rw [G.N]; exact G.nd) G.calm hi (noFoldG (and2 h3).1 _)
      (fun s H cenv fp Ag pn hs hn => snd_tg (X := gblk X s H cenv fp Ag pn) (gblk_gd G hr hs k1 hn) (fun _ h => by cases h) t tg h4)
      (fun s H cenv fp Ag pn hs hn => ((snd e (gblk X s H cenv fp Ag pn) sc2 elt W0 (gblk_gd G hr hs k1 hn) takes0 h8).1 (vl_of h9).2).1) (star_of s1)
    rw [hv] at hp
    exact all_pl (PE.wk hp fun σ H Q q => gen_rd (vl_of h9).1 hP q) fun _ => rfl
  | .comp2 t it ts t2 it2 ts2 e => fun X sc x W G tk h => by
    rw [chkE] at h
    obtain ⟨elt, tg, iter, ifs, tg1, iter1, ifs1, sc2, p, rfl, h⟩ := vComp2_of h
    obtain ⟨h, h13⟩ := and2 h
    obtain ⟨h, h12⟩ := and2 h
    obtain ⟨h, h11⟩ := and2 h
    obtain ⟨h, h10⟩ := and2 h
    obtain ⟨h, h9⟩ := and2 h
    obtain ⟨h, h8⟩ := and2 h
    obtain ⟨h, h7⟩ := and2 h
    obtain ⟨h, h6⟩ := and2 h
    obtain ⟨h, h5⟩ := and2 h
    obtain ⟨h, h4⟩ := and2 h
    obtain ⟨h1, h2, h3⟩ := and3 h
    have hv := eq_of_beq h6
    have hg2 := (and2 (and2 h2).1).2
    have hi : PI X tg iter (tI g call X W false it) := (snd it X sc iter W G tk h1).2.1 tg false rfl (and2 h2).2
    have ok : BlkOk X.N X.env.scope sc2 (ownOf c.N (tgS t ++ tgS t2)) := by rw [G.N, G.sc]; exact blkOk_by h5
    have hp := pe_lc2 (pos := p) (vs1 := tgS t2) (wi := tI g call X W false it) (g := tG g X (tgS t ++ tgS t2) t) (tt := tTs g call X W0 ts) (wi1 := tI g call X W0 true it2) (g1 := tG g X (tgS t2) t2) (tt1 := tTs g call X W0 ts2) (te := tE g call X W0 e) G.calm (by rw [G.N]; exact G.nd) hi ok (fun i hi => by rw [hv]; exact List.mem_append_right _ hi)
      (fun s H C cl fp => snd_tg (X := X.blk s H sc2 (compEnvC sc2 cl C X.env) fp) (blk_gd G hg2) (fun _ h => h) t tg h4)
      (fun s H C cl fp => sndTs ts (X.blk s H sc2 (compEnvC sc2 cl C X.env) fp) _ ifs W0 (blk_gd G hg2) takes0 h7)
      (fun s H C cl fp => (snd it2 (X.blk s H sc2 (compEnvC sc2 cl C X.env) fp) _ iter1 W0 (blk_gd G hg2) takes0 h8).2.1 tg1 true (by simpa using h9) (and2 h3).2)
      (fun s H C cl fp => snd_tg (X := X.blk s H sc2 (compEnvC sc2 cl C X.env) fp) (blk_gd G hg2) (fun _ h => h) t2 tg1 h10)
      (fun s H C cl fp => sndTs ts2 (X.blk s H sc2 (compEnvC sc2 cl C X.env) fp) _ ifs1 W0 (blk_gd G hg2) takes0 h11)
      (fun s H C cl fp => ((snd e (X.blk s H sc2 (compEnvC sc2 cl C X.env) fp) _ elt W0 (blk_gd G hg2) takes0 h12).1 (vl_of h13).2).1)
      (noFold (and2 (and2 h2).1).1 _) (fun env => noFold (and2 h3).1 env)
    rw [hv] at hp
    exact all_pl (PE.wk hp fun σ H Q q => comp2_rd (vl_of h13).1 (tN_of rfl q)) fun _ => rfl
  | .comp t it ts e => fun X sc x W G tk h => by
    rw [chkE] at h
    obtain ⟨elt, tg, iter, ifs, sc2, p, rfl, h⟩ := vComp_of h
    obtain ⟨h, h8⟩ := and2 h
    obtain ⟨h, h7⟩ := and2 h
    obtain ⟨h, h6⟩ := and2 h
    obtain ⟨h, h5⟩ := and2 h
    obtain ⟨h, h4⟩ := and2 h
    obtain ⟨h1, h2, h3⟩ := and3 h
    have hv := eq_of_beq h5
    have hi : PI X tg iter (tI g call X W false it) := (snd it X sc iter W G tk h1).2.1 tg false rfl (and2 h2).2
    have ok : BlkOk X.N X.env.scope sc2 (ownOf c.N (tgS t)) := by rw [G.N, G.sc]; exact blkOk_by h4
    have hp := pe_lc (pos := p) (wi := tI g call X W false it) (g := tG g X (tgS t) t) (tt := tTs g call X W0 ts) (te := tE g call X W0 e) G.calm (by rw [G.N]; exact G.nd) hi ok
      (fun s H C cl fp => snd_tg (X := X.blk s H sc2 (compEnvC sc2 cl C X.env) fp) (blk_gd G (and2 (and2 h2).1).2) (fun _ h => h) t tg h3)
      (fun s H C cl fp => sndTs ts (X.blk s H sc2 (compEnvC sc2 cl C X.env) fp) _ ifs W0 (blk_gd G (and2 (and2 h2).1).2) takes0 h6)
      (fun s H C cl fp => ((snd e (X.blk s H sc2 (compEnvC sc2 cl C X.env) fp) _ elt W0 (blk_gd G (and2 (and2 h2).1).2) takes0 h7).1 (vl_of h8).2).1)
      (noFold (and2 (and2 h2).1).1 _)
    rw [hv] at hp
    exact all_pl (PE.wk hp fun σ H Q q => comp_rd (vl_of h8).1 (tN_of rfl q)) fun _ => rfl
  | .glb _ => fun X sc x W G tk h => by simp [chkE] at h
  | .dic es => fun X sc x W G tk h => by
    rw [chkE] at h
    obtain ⟨h1, h2⟩ := and2 h
    obtain ⟨p, rfl⟩ := vDic0_of h2
    exact all_pl (PE.wk pe_dnewK fun σ H Q q => dic0_rd h1 (tN_of rfl q)) fun _ => rfl
  | .sset a => fun X sc x W G tk h => by
    rw [chkE] at h
    obtain ⟨n, np, xs, q, rfl, h⟩ := vCall_of h
    obtain ⟨h1, h2⟩ := and2 h
    obtain ⟨y, rfl, s1, h2⟩ := v1_of h2
    obtain ⟨m, mp, ys, q2, rfl, h2⟩ := vCall_of h2
    obtain ⟨h3, h4⟩ := and2 h2
    obtain ⟨z, rfl, s2, h4⟩ := v1_of h4
    obtain ⟨h4, h5⟩ := and2 h4
    obtain ⟨rfl, hg⟩ := glc_of h1
    obtain ⟨rfl, hg2⟩ := glc_of h3
    have pz := ((snd a X sc z W G tk h4).1 (nb h5)).1
    exact all_pl (PE.wk (pe_sset (gl_of G hg) (G.frn "sorted" (by decide)) (gl_of G hg2) (G.frn "set" (by decide)) pz G.calm s2) fun σ H Q q => ssetE_rd (tN_of rfl q)) fun _ => rfl
  | .callv i fs es => fun X sc x W G tk h => by
    rw [chkE] at h
    obtain ⟨n, p, xs, q, rfl, h⟩ := vCall_of h
    obtain ⟨h, h6⟩ := and2 h
    obtain ⟨h1, h2, h5⟩ := and3 h
    cases xs with
    | nil => cases h6
    | cons y ys =>
      have pa := sndAs es X sc (y :: ys) W G tk h5
      have hs : noStar y = true := by
        cases es with
        | nil => simp [chkAs] at h5
        | cons e es => rw [chkAs] at h5; exact (and2 (and2 h5).1).2
      have ha : ∀ {pos : Pos}, (backTo pos (starEach ys X.env)).any (·.1) = false := fun {pos} => by
        cases es with
        | nil => simp [chkAs] at h5
        | cons e es => rw [chkAs] at h5; exact any_as es ys (and2 h5).2
      exact all_pl (PE.wk (pe_callV (E0 := WE W) G (fun k hk => Option.isSome_iff_exists.mp (List.all_eq_true.mp h2 k hk)) h1 (fun σ => passAt tk σ) pa (star_of hs) ha) fun σ H Q q => callv_rd q) fun _ => rfl
  | .bt k es => fun X sc x W G tk h => by
    rw [chkE] at h
    obtain ⟨xs, p, rfl, h2⟩ := vBool_of h
    have q := sndBu es X sc xs W k p G tk h2
    exact ⟨(fun z => by cases z), (fun tg z hz ht => by cases ht), (fun b h => by cases h), fun _ => PT.wk q.pt fun σ H Q q => buT_rd q⟩
  | .gfn _ => fun X sc x W G tk h => by simp [chkE] at h
  | .mget a b d => fun X sc x W G tk h => by
    rw [chkE] at h
    obtain ⟨o, ap, e, f, cp, rfl, e1, e2, e3, e4, h⟩ := vMeth2_of h
    obtain ⟨h, h6⟩ := and2 h
    obtain ⟨h, h5⟩ := and2 h
    obtain ⟨h, h4⟩ := and2 h
    obtain ⟨h1, h2, h3⟩ := and3 h
    have po := ((snd a X sc o W G tk h1).1 (nb h2)).1
    have pe := ((snd b X sc e W G tk h3).1 (nb h4)).1
    have pf := ((snd d X sc f W G tk h5).1 (vl_of h6).2).1
    have hu : X.A.units + 1 < cLine := by have := G.hu; omega
    have hst : starEach [e, f] X.env = [(false, eval e X.env), (false, eval f X.env)] := by rw [star_of e3, star_of e4]; rfl
    exact all_pl (PE.wk (pe_dget2 hu po pe pf ⟨base_of e2, by rw [hst]; rfl, e1, by rw [hst]; rfl⟩) fun σ H Q q => mget_rd (vl_of h6).1 q) fun _ => rfl
  | .mjoin .. => fun X sc x W G tk h => by simp [chkE] at h
  | .msplit .. => fun X sc x W G tk h => by simp [chkE] at h
  | .zp .. => fun X sc x W G tk h => by simp [chkE] at h
  | .zp3 .. => fun X sc x W G tk h => by simp [chkE] at h
  | .items _ => fun X sc x W G tk h => by simp [chkE] at h
  | .vals _ => fun X sc x W G tk h => by simp [chkE] at h
  | .dcomp .. => fun X sc x W G tk h => by simp [chkE] at h
  | .dcomp2 .. => fun X sc x W G tk h => by simp [chkE] at h
  | .gen2 .. => fun X sc x W G tk h => by simp [chkE] at h
  | .fstr _ => fun X sc x W G tk h => by simp [chkE] at h
theorem sndEs : ∀ (es : Es) (X : Cx) (sc : Scope) (xs : List PX) (W : WX), Gd g c call X sc → Takes X W → chkEs c es sc xs = true → PA X xs (tEs g call X W es)
  | .nil, X, sc, xs, W, G, tk, h => by
    rw [chkEs] at h
    cases xs with
    | nil => exact PA.wk pa_nil fun σ H Q q => nil_rd q
    | cons => cases h
  | .cons e es, X, sc, xs, W, G, tk, h => by
    cases xs with
    | nil => rw [chkEs] at h; cases h
    | cons x xs =>
      rw [chkEs] at h
      obtain ⟨h, h4⟩ := and2 h
      obtain ⟨h1, h2, h3⟩ := and3 h
      exact PA.wk (pa_cons ((snd e X sc x W G tk h1).1 (vl_of h3).2).1 (sndEs es X sc xs W G tk h4) (star_of h2)) fun σ H Q q => cons_rd (vl_of h3).1 q
theorem sndB : ∀ (es : Es) (X : Cx) (sc : Scope) (xs : List PX) (W : WX) (k : Bool) (p : Pos), Gd g c call X sc → Takes X W → chkBs c es sc xs = true →
    PE X (.BoolOp (if k = true then .And else .Or) xs p) (tBv g call X W k es) ∧ PW X (.BoolOp (if k = true then .And else .Or) xs p) (tBt g call X W k es)
  | .nil, X, sc, xs, W, k, p, G, tk, h => by simp [chkBs] at h
  | .cons e .nil, X, sc, xs, W, k, p, G, tk, h => by
    cases xs with
    | nil => rw [chkBs] at h; cases h
    | cons x xs =>
      rw [chkBs] at h
      obtain ⟨h, h4⟩ := and2 h
      obtain ⟨h1, h2, h3⟩ := and3 h
      have q := (snd e X sc x W G tk h1).1 (vl_of h2).2
      have h4 : xs.isEmpty = true := h4
      cases xs with
      | cons => cases h4
      | nil =>
        refine ⟨PE.wk (pe_one q.1) fun σ H Q q => b1_rd (vl_of h2).1 q, ?_⟩
        have : PW X (.BoolOp (if k = true then .And else .Or) [x] p) (tT g call X W e) := by
          cases k with
          | true => exact pw_and1 (q.2 h3)
          | false => exact pw_or1 (q.2 h3)
        exact ⟨fun wh pins s σ H Q I q => this.run wh pins s σ H Q I (b1T_rd q)⟩
  | .cons e (.cons e2 es), X, sc, xs, W, k, p, G, tk, h => by
    cases xs with
    | nil => rw [chkBs] at h; cases h
    | cons x xs =>
      rw [chkBs] at h
      obtain ⟨h, h4⟩ := and2 h
      obtain ⟨h1, h2, h3⟩ := and3 h
      have q := (snd e X sc x W G tk h1).1 (vl_of h2).2
      have h4 : chkBs c (.cons e2 es) sc xs = true := h4
      have r := sndB (.cons e2 es) X sc xs W k p G tk h4
      cases xs with
      | nil => rw [chkBs] at h4; cases h4
      | cons x2 xs =>
        cases k with
        | true =>
          refine ⟨PE.wk (pe_andR q.1 r.1) fun σ H Q q => ?_, ?_⟩
          · have q := b2_rd (vl_of h2).1 q
            exact q
          · exact ⟨fun wh pins s σ H Q I q1 => (pw_and (q.2 h3) r.2).run wh pins s σ H Q I (by have q := b2T_rd q1; exact q)⟩
        | false =>
          refine ⟨PE.wk (pe_orR q.1 r.1) fun σ H Q q => ?_, ?_⟩
          · have q := b2_rd (vl_of h2).1 q
            have e1 : (fun (x : V) (H1 : Hp) => rT X.K X.w x H1 fun t H2 => if t = false then tBv g call X W false (.cons e2 es) σ H2 Q else Q x H2) = (fun x H1 => rT X.K X.w x H1 fun k H2 => if k = true then Q x H2 else tBv g call X W false (.cons e2 es) σ H2 Q) := by
              funext x H1
              congr 1
              funext k H2
              cases k <;> simp
            rw [e1] at q
            exact q
          · exact ⟨fun wh pins s σ H Q I q1 => (pw_or (q.2 h3) r.2).run wh pins s σ H Q I (by
              have q := b2T_rd q1
              have e1 : (fun (t : Bool) (H1 : Hp) => if t = false then tBt g call X W false (.cons e2 es) σ H1 Q else Q (!false) H1) = (fun t H1 => if t = true then Q true H1 else tBt g call X W false (.cons e2 es) σ H1 Q) := by
                funext k H2
                cases k <;> simp
              rw [e1] at q
              exact q)⟩
theorem sndBu : ∀ (es : Es) (X : Cx) (sc : Scope) (xs : List PX) (W : WX) (k : Bool) (p : Pos), Gd g c call X sc → Takes X W → chkBu c es sc xs = true →
    PW X (.BoolOp (if k = true then .And else .Or) xs p) (tBu g call X W k es)
  | .nil, X, sc, xs, W, k, p, G, tk, h => by simp [chkBu] at h
  | .cons e .nil, X, sc, xs, W, k, p, G, tk, h => by
    cases xs with
    | nil => rw [chkBu] at h; cases h
    | cons x xs =>
      rw [chkBu] at h
      obtain ⟨h, h4⟩ := and2 h
      obtain ⟨h1, h2, h3⟩ := and3 h
      have q := (snd e).pt G tk h1 h2 h3
      have h4 : xs.isEmpty = true := h4
      cases xs with
      | cons => cases h4
      | nil =>
        have : PW X (.BoolOp (if k = true then .And else .Or) [x] p) (tT g call X W e) := by
          cases k with
          | true => exact pw_and1 q
          | false => exact pw_or1 q
        exact ⟨fun wh pins s σ H Q I q => this.run wh pins s σ H Q I (bu1_rd q)⟩
  | .cons e (.cons e2 es), X, sc, xs, W, k, p, G, tk, h => by
    cases xs with
    | nil => rw [chkBu] at h; cases h
    | cons x xs =>
      rw [chkBu] at h
      obtain ⟨h, h4⟩ := and2 h
      obtain ⟨h1, h2, h3⟩ := and3 h
      have q := (snd e).pt G tk h1 h2 h3
      have h4 : chkBu c (.cons e2 es) sc xs = true := h4
      have r := sndBu (.cons e2 es) X sc xs W k p G tk h4
      cases xs with
      | nil => rw [chkBu] at h4; cases h4
      | cons x2 xs =>
        cases k with
        | true => exact ⟨fun wh pins s σ H Q I q1 => (pw_and q r).run wh pins s σ H Q I (by have q := bu2_rd q1; exact q)⟩
        | false =>
          exact ⟨fun wh pins s σ H Q I q1 => (pw_or q r).run wh pins s σ H Q I (by
              have q := bu2_rd q1
              have e1 : (fun (t : Bool) (H1 : Hp) => if t = false then tBu g call X W false (.cons e2 es) σ H1 Q else Q (!false) H1) = (fun t H1 => if t = true then Q true H1 else tBu g call X W false (.cons e2 es) σ H1 Q) := by
                funext k H2
                cases k <;> simp
              rw [e1] at q
              exact q)⟩
theorem sndTs : ∀ (es : Es) (X : Cx) (sc : Scope) (xs : List PX) (W : WX), Gd g c call X sc → Takes X W → chkTs c es sc xs = true → PTs X xs (tTs g call X W es)
  | .nil, X, sc, xs, W, G, tk, h => by
    rw [chkTs] at h
    cases xs with
    | nil => exact ⟨fun pins s σ H Q I q => pts_nil.run pins s σ H Q I (ts0_rd q)⟩
    | cons => cases h
  | .cons e es, X, sc, xs, W, G, tk, h => by
    cases xs with
    | nil => rw [chkTs] at h; cases h; intro x z; cases z
    | cons x xs =>
      cases xs with
      | cons x2 xs => rw [chkTs] at h; cases h; intro x z; cases z
      | nil =>
        rw [chkTs] at h
        obtain ⟨h, h4⟩ := and2 h
        obtain ⟨h1, h2, h3⟩ := and3 h
        cases es with
        | cons => cases h4
        | nil =>
          have q := (snd e).pt G tk h1 h2 h3
          exact ⟨fun pins s σ H Q I r => (pts_one q).run pins s σ H Q I (ts1_rd r)⟩
theorem sndAs : ∀ (es : Es) (X : Cx) (sc : Scope) (xs : List PX) (W : WX), Gd g c call X sc → Takes X W → chkAs c es sc xs = true → PA X xs (tAs g call X W es)
  | .nil, X, sc, xs, W, G, tk, h => by
    rw [chkAs] at h
    cases xs with
    | nil => exact PA.wk pa_nil fun σ H Q q => asnil_rd q
    | cons => cases h
  | .cons e es, X, sc, xs, W, G, tk, h => by
    cases xs with
    | nil => rw [chkAs] at h; cases h
    | cons x xs =>
      rw [chkAs] at h
      obtain ⟨h, h4⟩ := and2 h
      obtain ⟨h1, h2⟩ := and2 h
      have pr := sndAs es X sc xs W G tk h4
      have pe : PE X x (tArg g call X W e) := by
        have gen : argB c e sc x (chkE c e sc x && vl e) = (chkE c e sc x && vl e) → argGen e = true → PE X x (tArg g call X W e) := fun e1 e2 => by
          rw [e1] at h1
          obtain ⟨h5, h6⟩ := and2 h1
          exact PE.wk ((snd e X sc x W G tk h5).1 (vl_of h6).2).1 fun σ H Q q => arg_gen e2 q
        cases e with
        | var i =>
          obtain ⟨h5, h6⟩ := and2 (show (chkE c (.var i) sc x && vl (.var i)) = true from h1)
          rw [chkE] at h5
          obtain ⟨n, p, rfl, h5⟩ := vName_of h5
          exact PE.wk (snd_name G h5) fun σ H Q q => arg_var q
        | gfn f =>
          obtain ⟨n, p, rfl, h5⟩ := vName_of (show vName x (fun n => (c.fn[f]? == some n) && glB sc n && plainN n) = true from h1)
          obtain ⟨h6, h7, h8⟩ := and3 h5
          obtain ⟨m, hr, hf⟩ := G.fns
          obtain ⟨fd, ps, f1, f2, f3, f4⟩ := hf f n (eq_of_beq h6)
          exact PE.wk (pe_glob (v := .ref (g.fa f)) (gl_of G h7) f1 rfl (plainN_of h8)) fun σ H Q q => arg_gfn q
        | pk i =>
          have := (and2 (show (chkE c (.pk i) sc x && vl (.pk i)) = true from h1)).2
          cases this
        | rev a =>
          have := (vl_of (and2 (show (chkE c (.rev a) sc x && vl (.rev a)) = true from h1)).2).2
          cases this
        | enm a =>
          have := (vl_of (and2 (show (chkE c (.enm a) sc x && vl (.enm a)) = true from h1)).2).2
          cases this
        | _ => exact gen rfl rfl
      exact PA.wk (pa_cons pe pr (star_of h2)) fun σ H Q q => ascons_rd q
end
end
end Wv

set_option autoImplicit false
set_option linter.all false
set_option maxRecDepth 100000
set_option maxHeartbeats 4000000
namespace Wv
open PySem PySem.Spec PyProof.Rows L2
section
variable {g : G} {c : Ck} {call : Nat → List Slot → M PyData} {X : Cx} {sc : Scope} {W : WX} {K : PySem.W.Frag} {w : World} {H0 F0 F F' F1 H H' : Hp} {Q : VK} {A : Option Addr} {ρ ρ' : Env} {σ σ' : L2.St} {ω ω' : Orc} {α : Type} {D : Ends}
/-! slots let out -/
theorem Rel.frz1 (r : Rel g K w A H0 F0 ρ σ H F ω) (i : Nat) : ∃ F', Rel g K w A H0 F0 (ρ.modify i frz1) σ H F' ω ∧ Same F F' := by
  have nof : (∀ d, ρ[i]? ≠ some (.v true d)) → ρ.modify i Wv.frz1 = ρ := fun hn => by
    apply List.ext_getElem?
    intro j
    rw [List.getElem?_modify]
    by_cases hij : i = j
    · subst hij
      cases e : ρ[i]? with
      | none => simp
      | some s => cases s with
        | v o d => cases o with
          | true => exact absurd e (hn d)
          | false => simp [Wv.frz1]
        | _ => simp [Wv.frz1]
    · simp [hij]
  by_cases hex : ∃ d, ρ[i]? = some (.v true d)
  case neg =>
    rw [nof fun d e => hex ⟨d, e⟩]
    exact ⟨F, r, Same.refl _⟩
  obtain ⟨d, e⟩ := hex
  obtain ⟨a, h1, h2, h3, h4, h5⟩ := r.sl i _ e
  obtain ⟨o, ho⟩ := h4.obj
  have sm : Same F (upd F a o) := same_upd h2
  have hd : RepF K w (upd F a o) (.ref a) d := by
    cases d with
    | list ds =>
      obtain ⟨vs, e1, e2⟩ := h4
      rw [ho] at e1; cases e1
      exact .dat (.lst upd_same (dpAll_mono sm _ _ e2))
    | dict kvs =>
      refine .dic (dicAt_mono sm (fun u hu => ?_) h4)
      rw [upd_same, ← ho]; exact hu
    | _ => exact h4.elim
  refine ⟨upd F a o, ⟨r.gr.frz h5 h2 ho, by rw [List.length_modify]; exact r.len, fun j s es => ?_, fun j k d1 d2 b e1 e2 e3 e4 => ?_, r.st.frz h3 h2⟩, sm⟩
  · rw [List.getElem?_modify] at es
    by_cases hij : i = j
    · subst hij
      rw [e] at es
      simp [Wv.frz1] at es
      subst es
      exact ⟨_, h1, hd⟩
    · simp [hij] at es
      have q := r.sl j s es
      cases s with
      | v o2 d2 => cases o2 with
        | false => obtain ⟨v, q1, q2⟩ := q; exact ⟨v, q1, q2.mono sm⟩
        | true =>
          obtain ⟨b, q1, q2, q3, q4, q5⟩ := q
          have hab : b ≠ a := fun z => hij (r.own i j d d2 a e es h1 (by rw [← z]; exact q1))
          exact ⟨b, q1, by rw [upd_ne hab]; exact q2, q3, q4.mono sm (fun _ h => h), q5⟩
      | _ => exact q
  · rw [List.getElem?_modify] at e1 e2
    have g1 : ∀ {k : Nat} {d : PyData}, (fun s => if i = k then Wv.frz1 s else s) <$> ρ[k]? = some (.v true d) → ρ[k]? = some (.v true d) := fun {k d} ek => by
      cases q : ρ[k]? with
      | none => rw [q] at ek; cases ek
      | some s =>
        rw [q] at ek
        have ek : (if i = k then Wv.frz1 s else s) = .v true d := by simpa using ek
        by_cases hik : i = k
        · rw [if_pos hik] at ek
          cases s <;> simp [Wv.frz1] at ek
        · rw [if_neg hik] at ek; rw [ek]
    exact r.own j k d1 d2 b (g1 e1) (g1 e2) e3 e4
theorem Rel.frzL : ∀ (is : List Nat) {ρ : Env} {F : Hp}, Rel g K w A H0 F0 ρ σ H F ω → ∃ F', Rel g K w A H0 F0 (frz is ρ) σ H F' ω ∧ Same F F'
  | [], ρ, F, r => ⟨F, r, Same.refl _⟩
  | i :: is, ρ, F, r => by
    obtain ⟨F1, r1, s1⟩ := r.frz1 i
    obtain ⟨F2, r2, s2⟩ := Rel.frzL is r1
    exact ⟨F2, r2, s1.trans s2⟩
/-- a slot set to what was just made -/
theorem Rel.setN {v : V} {d : PyData} (r : Rel g K w A H0 F0 ρ σ H F ω) (gr : Grow (ExA g A) H F H' F') (st : StOk g A H' F' ω') (hv : RepN K w H F' H' v d) (i : Nat) : Rel g K w A H0 F0 (ρ.set i (.v (ownV true d) d)) (σ.set i (some v)) H' F' ω' := by
  have r2 := r.grow gr st
  unfold RepN at hv
  cases ho : ownV true d with
  | false =>
    rw [ho, if_neg Bool.false_ne_true] at hv
    exact r2.set hv
  | true =>
    rw [ho, if_pos rfl] at hv
    obtain ⟨a, rfl, h1, h2, h3⟩ := hv
    have far : ∀ (j : Nat) (e : PyData), ρ[j]? = some (.v true e) → σ[j]? ≠ some (some (.ref a)) := fun j e ej es => by
      obtain ⟨b, q1, q2, q3, q4, q5⟩ := r.sl j _ ej
      rw [q1] at es
      cases es
      obtain ⟨o, ho⟩ := q4.obj
      rw [h1] at ho; cases ho
    refine ⟨r2.gr, by rw [List.length_set, List.length_set]; exact r2.len, fun j s e => ?_, fun j k d1 d2 b e1 e2 e3 e4 => ?_, st⟩
    · rw [set_get] at e
      rw [set_get]
      by_cases hij : i = j
      · rw [if_pos hij] at e ⊢
        by_cases hl : i < ρ.length
        · rw [if_pos hl] at e
          cases e
          rw [if_pos (by rw [← r.len]; exact hl)]
          exact ⟨a, rfl, h2, r.st.nA h1, h3, r.gr.ex _ h1⟩
        · rw [if_neg hl] at e; cases e
      · rw [if_neg hij] at e ⊢
        exact r2.sl j s e
    · rw [set_get] at e1 e2 e3 e4
      by_cases hj : i = j
      · by_cases hk : i = k
        · rw [← hj, ← hk]
        · rw [if_pos hj] at e1 e3
          rw [if_neg hk] at e2 e4
          exfalso
          split at e3
          · cases e3; exact far k _ e2 e4
          · cases e3
      · by_cases hk : i = k
        · rw [if_neg hj] at e1 e3
          rw [if_pos hk] at e2 e4
          exfalso
          split at e4
          · cases e4; exact far j _ e1 e3
          · cases e4
        · rw [if_neg hj] at e1 e3
          rw [if_neg hk] at e2 e4
          exact r2.own j k d1 d2 b e1 e2 e3 e4
/-! statements' readings -/
def SPost (g : G) (K : PySem.W.Frag) (w : World) (W : WX) (A : Option Addr) (H0 F0 F : Hp) (D : Ends) : R Out → Prop
  | .ok (.nx ρ) ω => ∀ σ H' F', Rel g K w A H0 F0 ρ σ H' F' ω → Same F F' → D.nx σ H'
  | .ok (.bk ρ) ω => ∀ σ H' F', Rel g K w A H0 F0 ρ σ H' F' ω → Same F F' → D.bk σ H'
  | .ok (.ct ρ) ω => ∀ σ H' F', Rel g K w A H0 F0 ρ σ H' F' ω → Same F F' → D.ct σ H'
  | .ok (.rt d) ω => ∀ v H' F', Grow (ExA g A) H0 F0 H' F' → StOk g A H' F' ω → RepF K w F' v d → D.rt v H'
  | .exc k p ω => ∀ σ H' F' dx, Grow (ExA g A) H0 F0 H' F' → StOk g A H' F' ω → PayOk g k K H' F' p dx → W (.ref (g.ca k)) dx σ H'
  | .stuck => False
def tS (g : G) (call : Nat → List Slot → M PyData) (X : Cx) (W : WX) (s : S) : TS := fun D σ H => ∃ A H0 F0 ρ F ω, Rel g X.K X.w A H0 F0 ρ σ H F ω ∧ SPost g X.K X.w W A H0 F0 F D (evalS g.gt call s ρ ω)
theorem SPost.mono {r : R Out} (s : Same F F1) (h : SPost g K w W A H0 F0 F D r) : SPost g K w W A H0 F0 F1 D r := by
  cases r with
  | ok o ω => cases o with
    | nx ρ => exact fun σ H' F' q s2 => h σ H' F' q (s.trans s2)
    | bk ρ => exact fun σ H' F' q s2 => h σ H' F' q (s.trans s2)
    | ct ρ => exact fun σ H' F' q s2 => h σ H' F' q (s.trans s2)
    | rt d => exact h
  | exc c p ω => exact h
  | stuck => exact h
/-- a value is computed, then used -/
theorem SPost.bind {m : M α} {f : α → M Out} (r : Rel g K w A H0 F0 ρ σ H F ω) (h : SPost g K w W A H0 F0 F D ((m >>= f) ω)) : RPost g K W σ A H F (m ω) (fun a ω1 H1 F1 => SPost g K w W A H0 F0 F1 D (f a ω1)) := by
  have e : (m >>= f) ω = (match m ω with | .ok a w' => f a w' | .exc c p w' => .exc c p w' | .stuck => .stuck) := rfl
  rw [e] at h
  cases q : m ω with
  | ok a ω1 => rw [q] at h; exact fun H' F' gr st => h.mono gr.fs
  | exc c p ω1 => rw [q] at h; exact fun H' F' dx g2 st pk => h σ H' F' dx (r.gr.trans g2) st pk
  | stuck => rw [q] at h; exact h
/-- a statement runs, then more -/
theorem SPost.next {m : M Out} {f : Env → M Out} (h : SPost g K w W A H0 F0 F D (andThen m f ω)) : SPost g K w W A H0 F0 F { D with nx := fun σ H => ∃ ρ F' ω, Rel g K w A H0 F0 ρ σ H F' ω ∧ Same F F' ∧ SPost g K w W A H0 F0 F' D (f ρ ω) } (m ω) := by
  unfold andThen at h
  rw [M.bnd_def] at h
  unfold M.bnd at h
  cases q : m ω with
  | ok o ω1 =>
    rw [q] at h
    cases o with
    | nx ρ => exact fun σ H' F' r s => ⟨ρ, F', ω1, r, s, h.mono s⟩
    | bk ρ => exact h
    | ct ρ => exact h
    | rt d => exact h
  | exc c p ω1 => rw [q] at h; exact h
  | stuck => rw [q] at h; exact h
theorem SPost.nxt {r : R Out} {N N' : L2.St → Hp → Prop} (h : SPost g K w W A H0 F0 F { D with nx := N } r) (i : ∀ σ H, N σ H → N' σ H) : SPost g K w W A H0 F0 F { D with nx := N' } r := by
  cases r with
  | ok o ω => cases o with
    | nx ρ => exact fun σ H' F' q s2 => i _ _ (h σ H' F' q s2)
    | bk ρ => exact h
    | ct ρ => exact h
    | rt d => exact h
  | exc c p ω => exact h
  | stuck => exact h
theorem skip_rd (h : tS g call X W .skip D σ H) : tNext D σ H := by
  obtain ⟨A, H0, F0, ρ, F, ω, r, q⟩ := h
  rw [evalS] at q
  exact q σ H F r (Same.refl _)
theorem pass_rd (h : tS g call X W .pass D σ H) : tNext D σ H := by
  obtain ⟨A, H0, F0, ρ, F, ω, r, q⟩ := h
  rw [evalS] at q
  exact q σ H F r (Same.refl _)
theorem brk_rd (h : tS g call X W .brk D σ H) : tBreak D σ H := by
  obtain ⟨A, H0, F0, ρ, F, ω, r, q⟩ := h
  rw [evalS] at q
  exact q σ H F r (Same.refl _)
theorem cnt_rd (h : tS g call X W .cnt D σ H) : tCont D σ H := by
  obtain ⟨A, H0, F0, ρ, F, ω, r, q⟩ := h
  rw [evalS] at q
  exact q σ H F r (Same.refl _)
theorem seq_rdS {a b : S} (h : tS g call X W (.seq a b) D σ H) : tS g call X W a { D with nx := tS g call X W b D } σ H := by
  obtain ⟨A, H0, F0, ρ, F, ω, r, q⟩ := h
  rw [evalS] at q
  refine ⟨A, H0, F0, ρ, F, ω, r, ?_⟩
  have q := SPost.next q
  exact q.nxt fun σ H ⟨ρ, F', ω, r, s, q⟩ => ⟨A, H0, F0, ρ, F', ω, r, q⟩
theorem retn_rd (h : tS g call X W .retn D σ H) : tRetN D σ H := by
  obtain ⟨A, H0, F0, ρ, F, ω, r, q⟩ := h
  rw [evalS] at q
  exact q .non H F r.gr r.st (.dat .non)
theorem ret_rd {e : E} (he : isPk e = false) (h : tS g call X W (.ret e) D σ H) : tRet (tE g call X W e) D σ H := by
  obtain ⟨A, H0, F0, ρ, F, ω, r, q⟩ := h
  rw [evalS] at q
  obtain ⟨F1, r1, s1⟩ := r.frzL (esc e)
  have q := (q : SPost g X.K X.w W A H0 F0 F D ((evalE g.gt call e (frz (esc e) ρ) >>= fun d => pure (.rt d)) ω)).mono s1
  refine ⟨A, H0, F0, _, F1, ω, r1, (SPost.bind r1 q).imp fun d ω1 H1 F2 g1 st q1 v hv => ?_⟩
  rw [he] at hv
  exact q1 v H1 F2 (r1.gr.trans g1) st hv
theorem expr_rd {e : E} (h : tS g call X W (.expr e) D σ H) : tDrop (tE g call X W e) D σ H := by
  obtain ⟨A, H0, F0, ρ, F, ω, r, q⟩ := h
  rw [evalS] at q
  obtain ⟨F1, r1, s1⟩ := r.frzL (esc e)
  have q := (q : SPost g X.K X.w W A H0 F0 F D ((evalE g.gt call e (frz (esc e) ρ) >>= fun _ => pure (.nx (frz (esc e) ρ))) ω)).mono s1
  refine ⟨A, H0, F0, _, F1, ω, r1, (SPost.bind r1 q).imp fun d ω1 H1 F2 g1 st q1 v hv => ?_⟩
  exact q1 σ H1 F2 (r1.grow g1 st) (Same.refl _)
theorem ite_rdS {e : E} {a b : S} (h : tS g call X W (.ite e a b) D σ H) : tIfS (tT g call X W e) (tS g call X W a) (tS g call X W b) D σ H := by
  obtain ⟨A, H0, F0, ρ, F, ω, r, q⟩ := h
  rw [evalS] at q
  obtain ⟨F1, r1, s1⟩ := r.frzL (esc e)
  have q := (q : SPost g X.K X.w W A H0 F0 F D ((evalE g.gt call e (frz (esc e) ρ) >>= fun x => M.ofO (tru x) >>= fun t => if t = true then evalS g.gt call a (frz (esc e) ρ) else evalS g.gt call b (frz (esc e) ρ)) ω)).mono s1
  rw [← M.bnd_assoc] at q
  refine ⟨A, H0, F0, _, F1, ω, r1, (SPost.bind r1 q).imp fun k ω1 H1 F2 g1 st q1 => ?_⟩
  cases k with
  | true => rw [if_pos rfl] at q1; exact ⟨A, H0, F0, _, F2, ω1, r1.grow g1 st, q1⟩
  | false => rw [if_neg Bool.false_ne_true] at q1; exact ⟨A, H0, F0, _, F2, ω1, r1.grow g1 st, q1⟩
/-! name = a new object, or any value -/
theorem asgN_rd {i : Nat} {e : E} (h : tS g call X W (.asg (.nm i) e) D σ H) (hf : freshE e = true) : tAsg (tN g call X W e) (gName i) D σ H := by
  obtain ⟨A, H0, F0, ρ, F, ω, r, q⟩ := h
  rw [evalS] at q
  obtain ⟨F1, r1, s1⟩ := r.frzL (esc e)
  have q := (q : SPost g X.K X.w W A H0 F0 F D ((evalE g.gt call e (frz (esc e) ρ) >>= fun d => asgT (.nm i) (ownV (freshE e) d) d (frz (esc e) ρ) >>= fun ρ' => pure (.nx ρ')) ω)).mono s1
  refine ⟨A, H0, F0, _, F1, ω, r1, (SPost.bind r1 q).imp fun d ω1 H1 F2 g1 st q1 v hv => ?_⟩
  have q1 : SPost g X.K X.w W A H0 F0 F2 D (R.ok (.nx ((frz (esc e) ρ).set i (.v (ownV (freshE e) d) d))) ω1) := q1
  rw [hf] at q1
  exact q1 _ H1 F2 (r1.setN g1 st hv i) (Same.refl _)
theorem asg_rd {t : Tg} {e : E} {vs : List Nat} (hv : ∀ i ∈ tgS t, i ∈ vs) (he : isPk e = false) (h : tS g call X W (.asg t e) D σ H) (hf : (∀ i, t ≠ .nm i) ∨ freshE e = false) : tAsg (tE g call X W e) (tG g X vs t) D σ H := by
  obtain ⟨A, H0, F0, ρ, F, ω, r, q⟩ := h
  rw [evalS] at q
  obtain ⟨F1, r1, s1⟩ := r.frzL (esc e)
  have q := (q : SPost g X.K X.w W A H0 F0 F D ((evalE g.gt call e (frz (esc e) ρ) >>= fun d => asgT t (ownV (freshE e) d) d (frz (esc e) ρ) >>= fun ρ' => pure (.nx ρ')) ω)).mono s1
  refine ⟨A, H0, F0, _, F1, ω, r1, (SPost.bind r1 q).imp fun d ω1 H1 F2 g1 st q1 v rv => ?_⟩
  rw [he] at rv
  have e1 : asgT t (ownV (freshE e) d) d (frz (esc e) ρ) = asgT t false d (frz (esc e) ρ) := by
    rcases hf with hf | hf
    · cases t with
      | nm i => exact absurd rfl (hf i)
      | t0 => cases d with
        | tuple ds => cases ds <;> rfl
        | _ => rfl
      | tc a b => cases d with
        | tuple ds => cases ds <;> rfl
        | _ => rfl
    · rw [hf]
      have : ownV false d = false := by cases d <;> rfl
      rw [this]
  rw [e1] at q1
  have ex : ∃ ρ', asgT t false d (frz (esc e) ρ) ω1 = .ok ρ' ω1 ∧ SPost g X.K X.w W A H0 F0 F2 D (R.ok (.nx ρ') ω1) := by
    rcases asg_res t false d (frz (esc e) ρ) ω1 with ⟨ρ', e2⟩ | e2
    · refine ⟨ρ', e2, ?_⟩
      have e3 : (asgT t false d (frz (esc e) ρ) >>= fun ρ' => (pure (.nx ρ') : M Out)) ω1 = M.bnd (asgT t false d (frz (esc e) ρ)) (fun ρ' => pure (.nx ρ')) ω1 := rfl
      rw [e3] at q1
      unfold M.bnd at q1
      rw [e2] at q1
      exact q1
    · have e3 : (asgT t false d (frz (esc e) ρ) >>= fun ρ' => (pure (.nx ρ') : M Out)) ω1 = M.bnd (asgT t false d (frz (esc e) ρ)) (fun ρ' => pure (.nx ρ')) ω1 := rfl
      rw [e3] at q1
      unfold M.bnd at q1
      rw [e2] at q1
      exact q1.elim
  obtain ⟨ρ', e2, q2⟩ := ex
  exact ⟨A, H0, F0, _, F2, ω1, d, ρ', r1.grow g1 st, rv, e2, hv, fun σ' _ r' => q2 σ' H1 F2 r' (Same.refl _)⟩
end
end Wv

set_option autoImplicit false
set_option linter.all false
set_option maxRecDepth 100000
set_option maxHeartbeats 4000000
namespace Wv
open PySem PySem.Spec PyProof.Rows L2
section
variable {g : G} {c : Ck} {call : Nat → List Slot → M PyData} {X : Cx} {sc : Scope} {W : WX} {K : PySem.W.Frag} {w : World} {H0 F0 F F' F1 H H' : Hp} {Q : VK} {A : Option Addr} {ρ ρ' : Env} {σ σ' : L2.St} {ω ω' : Orc} {α : Type} {D : Ends}
/-! loops -/
def loopK (k : Env → M Out) (o : Out) : M Out := match o with
  | .nx ρ' => k ρ'
  | .ct ρ' => k ρ'
  | .bk ρ' => pure (.nx ρ')
  | .rt d => pure (.rt d)
def LN (g : G) (K : PySem.W.Frag) (w : World) (W : WX) (A : Option Addr) (H0 F0 F : Hp) (D : Ends) (k : Env → M Out) : L2.St → Hp → Prop := fun σ H => ∃ ρ F' ω, Rel g K w A H0 F0 ρ σ H F' ω ∧ Same F F' ∧ SPost g K w W A H0 F0 F' D (k ρ ω)
theorem SPost.loop {m : M Out} {k : Env → M Out} (h : SPost g K w W A H0 F0 F D ((m >>= loopK k) ω)) : SPost g K w W A H0 F0 F { D with nx := LN g K w W A H0 F0 F D k, ct := LN g K w W A H0 F0 F D k, bk := D.nx } (m ω) := by
  rw [M.bnd_def] at h
  unfold M.bnd at h
  cases q : m ω with
  | ok o ω1 =>
    rw [q] at h
    cases o with
    | nx ρ => exact fun σ H' F' r s => ⟨ρ, F', ω1, r, s, h.mono s⟩
    | ct ρ => exact fun σ H' F' r s => ⟨ρ, F', ω1, r, s, h.mono s⟩
    | bk ρ => exact h
    | rt d => exact h
  | exc c p ω1 => rw [q] at h; exact h
  | stuck => rw [q] at h; exact h
theorem wh_rd {e : E} {b : S} (h : tS g call X W (.wh e b) D σ H) : tWhile (tT g call X W e) (tS g call X W b) D σ H := by
  obtain ⟨A, H0, F0, ρ, F, ω, r, q⟩ := h
  rw [evalS] at q
  generalize hcm : (fun ρ => (evalE g.gt call e (frz (esc e) ρ) >>= fun x => M.ofO (tru x) >>= fun t => (pure (t, frz (esc e) ρ) : M (Bool × Env)))) = cM at q
  have q : SPost g X.K X.w W A H0 F0 F D (whM cM (evalS g.gt call b) whFuel ρ ω) := by rw [← hcm]; rw [← hcm] at q; exact q
  refine ⟨fun m σ H => ∃ ρ F ω, Rel g X.K X.w A H0 F0 ρ σ H F ω ∧ SPost g X.K X.w W A H0 F0 F D (whM cM (evalS g.gt call b) m ρ ω), ⟨whFuel, ρ, F, ω, r, q⟩, ?_⟩
  rintro m σ H ⟨ρ, F, ω, r, q⟩
  cases m with
  | zero => exact q.elim
  | succ m =>
    obtain ⟨F1, r1, s1⟩ := r.frzL (esc e)
    have q := q.mono s1
    have e1 : whM cM (evalS g.gt call b) (m + 1) ρ = ((evalE g.gt call e (frz (esc e) ρ) >>= fun x => M.ofO (tru x)) >>= fun t => if t = true then evalS g.gt call b (frz (esc e) ρ) >>= loopK (whM cM (evalS g.gt call b) m) else pure (.nx (frz (esc e) ρ))) := by
      rw [whM, ← hcm]
      simp only [M.bnd_assoc, M.pure_bnd]
      rfl
    rw [e1] at q
    refine ⟨A, H0, F0, _, F1, ω, r1, (SPost.bind r1 q).imp fun t ω1 H1 F2 g1 st q1 => ?_⟩
    cases t with
    | false => rw [if_neg Bool.false_ne_true] at q1; exact q1 σ H1 F2 (r1.grow g1 st) (Same.refl _)
    | true =>
      rw [if_pos rfl] at q1
      show ∃ N : L2.St → Hp → Prop, _
      refine ⟨LN g X.K X.w W A H0 F0 F2 D (whM cM (evalS g.gt call b) m), fun σ' H' ⟨ρ', F', ω', r', _, q'⟩ => ⟨m, by omega, ρ', F', ω', r', q'⟩, ?_⟩
      exact ⟨A, H0, F0, _, F2, ω1, r1.grow g1 st, SPost.loop q1⟩
theorem for_rd {t : Tg} {it : E} {b : S} {vs : List Nat} (hv : ∀ i ∈ tgS t, i ∈ vs) (h : tS g call X W (.for_ t it b) D σ H) : tFor (tI g call X W true it) (tG g X vs t) (tS g call X W b) D σ H := by
  obtain ⟨A, H0, F0, ρ, F, ω, r, q⟩ := h
  rw [evalS] at q
  obtain ⟨F1, r1, s1⟩ := r.frzL (esc it)
  generalize hfm : (fun x ρ => asgT t false x ρ >>= fun ρ' => evalS g.gt call b ρ') = fM at q
  have q := (q : SPost g X.K X.w W A H0 F0 F D ((evalE g.gt call it (frz (esc it) ρ) >>= fun x0 => M.ofO (itemsOf x0) >>= fun xs => forM_ fM xs (frz (esc it) ρ)) ω)).mono s1
  rw [← M.bnd_assoc] at q
  refine ⟨A, H0, F0, _, F1, ω, r1, (SPost.bind r1 q).imp fun xs ω1 H1 F2 g1 st q1 J hJ => ?_⟩
  refine ⟨fun i m σ H => ∃ ρ F ω, i ≤ xs.length ∧ m = xs.length - i ∧ Same F2 F ∧ Rel g X.K X.w A H0 F0 ρ σ H F ω ∧ SPost g X.K X.w W A H0 F0 F D (forM_ fM (xs.drop i) ρ ω), ⟨xs.length, _, F2, ω1, Nat.zero_le _, by simp, Same.refl _, r1.grow g1 st, by rw [List.drop_zero]; exact q1⟩, ?_⟩
  rintro i m σ H ⟨ρ, F, ω, hi, rfl, sm, r, q⟩
  have pz : Pz true (ExA g A) H1 F2 H F := ⟨sm, r.fit⟩
  by_cases hlt : i < xs.length
  case neg =>
    have ei : i = xs.length := by omega
    refine .inl ⟨by rw [ei]; exact hJ.stop H F pz, ?_⟩
    rw [ei, List.drop_length] at q
    exact q σ H F r (Same.refl _)
  have ex : xs[i]? = some xs[i] := List.getElem?_eq_getElem hlt
  obtain ⟨hgo, hy⟩ := hJ.go i H F xs[i] pz ex
  rw [drop_cons ex] at q
  have e1 : forM_ fM (xs[i] :: xs.drop (i + 1)) ρ = (asgT t false xs[i] ρ >>= fun ρ' => evalS g.gt call b ρ' >>= loopK (forM_ fM (xs.drop (i + 1)))) := by
    rw [forM_, ← hfm, M.bnd_assoc]
    congr 1
  rw [e1] at q
  refine .inr ⟨hgo, fun σ' H' => ∃ ρ F ω, Same F2 F ∧ Rel g X.K X.w A H0 F0 ρ σ' H' F ω ∧ SPost g X.K X.w W A H0 F0 F D (forM_ fM (xs.drop (i + 1)) ρ ω), fun σ' H' ⟨ρ', F', ω', a1, a2, a3⟩ => ⟨xs.length - (i + 1), by omega, ρ', F', ω', hlt, rfl, a1, a2, a3⟩, fun x H' yl => ?_⟩
  obtain ⟨F', e3, rx⟩ := hy x H' yl
  have ea : ∃ ρ', asgT t false xs[i] ρ ω = .ok ρ' ω ∧ SPost g X.K X.w W A H0 F0 F D ((evalS g.gt call b ρ' >>= loopK (forM_ fM (xs.drop (i + 1)))) ω) := by
    rw [M.bnd_def] at q
    unfold M.bnd at q
    rcases asg_res t false xs[i] ρ ω with ⟨ρ', e2⟩ | e2
    · rw [e2] at q; exact ⟨ρ', e2, q⟩
    · rw [e2] at q; exact q.elim
  obtain ⟨ρ', e2, q2⟩ := ea
  refine ⟨A, H0, F0, ρ, F', ω, _, ρ', r.grow e3.grow (r.st.ext e3), rx, e2, hv, fun σ2 _ r2 => ?_⟩
  refine ⟨A, H0, F0, ρ', F', ω, r2, ?_⟩
  have q3 := SPost.loop (q2.mono e3.fs)
  have fin : ∀ σ' H', LN g X.K X.w W A H0 F0 F' D (forM_ fM (xs.drop (i + 1))) σ' H' → ∃ ρ F ω, Same F2 F ∧ Rel g X.K X.w A H0 F0 ρ σ' H' F ω ∧ SPost g X.K X.w W A H0 F0 F D (forM_ fM (xs.drop (i + 1)) ρ ω) := fun σ' H' ⟨ρ3, F3, ω3, a1, a2, a3⟩ => ⟨ρ3, F3, ω3, (sm.trans e3.fs).trans a2, a1, a3⟩
  revert q3
  cases evalS g.gt call b ρ' ω with
  | ok o ω => cases o with
    | nx ρ => exact fun q3 σ H' F' q s2 => fin _ _ (q3 σ H' F' q s2)
    | ct ρ => exact fun q3 σ H' F' q s2 => fin _ _ (q3 σ H' F' q s2)
    | bk ρ => exact fun q3 => q3
    | rt d => exact fun q3 => q3
  | exc c p ω => exact fun q3 => q3
  | stuck => exact fun q3 => q3
/-! raise -/
theorem raise_rd {k : Nat} (hk : k < g.nc) (h : tS g call X W (.raise k) D σ H) : W (.ref (g.ca k)) none σ H := by
  obtain ⟨A, H0, F0, ρ, F, ω, r, q⟩ := h
  rw [evalS] at q
  exact q σ H F none r.gr r.st ⟨hk, rfl, rfl⟩
theorem pmk_own0 {X : Cx} {C : Addr} {bmB : List Value} {B newId initId : String} {x : Str} {p pos : Pos} (F : ExcBaseFacts B newId initId bmB) (q : PySem.W.excIn X.K C bmB newId = true) (gC : X.mg x = some (.ref C)) (kC : PySem.W.keepIn X.K (.ref C) = true) (r : Raises X (.ref C)) (hg : Gl X x)
    (hdb : (x == ("__debug__" : Str)) = false) : PMk X (.Call (.Name x p) [] [] pos) (fun _ H Q => Q (.ref C) none H) := by
  intro pins s σ H Q I h
  refine wpAny_Call_Name_kw (ld_glob I hg gC ?_ hdb)
  refine PySem.W.callWith_K0 I.kIn kC ?_
  show wpAny _ _ (call (.ref C) []) _ _ _
  obtain ⟨bm, N, nm, qn, bs, hdct, sn, sub, ab, col, dd, k0, k1, k2, k3, k5, mN, hC, hN, hni, T⟩ := exc_obj I.kIn q
  obtain ⟨hp1, g1, d1, tk1, os1⟩ := s
  refine wpAny_call_exc_subT F T hC hN hni (fun h' e hm => ?_) (by show 0 ≤ sizeLine; omega)
  exact mk_of I hm r h (I.hok.gone hm.new)
/-! the state's own places -/
theorem lset0 {a b c d x : V} : [a, b, c, d].set 0 x = [x, b, c, d] := rfl
theorem lset1 {a b c d x : V} : [a, b, c, d].set 1 x = [a, x, c, d] := rfl
theorem lset3 {a b c d x : V} : [a, b, c, d].set 3 x = [a, b, c, x] := rfl
theorem Rel.sset {a : Addr} {xs : List V} (r : Rel g K w (some a) H0 F0 ρ σ H F ω) (st : StOk g (some a) (upd H a (.lst xs)) F ω') : Rel g K w (some a) H0 F0 ρ σ (upd H a (.lst xs)) F ω' := by
  obtain ⟨h1, h2, h3, b, h4, h5⟩ := r.st.st a rfl
  refine r.grow ⟨fun c o n e => ?_, fun c e => ?_, Same.refl _, fun c o e => ?_, fun c o e => .inl e⟩ st
  · have : c ≠ a := fun z => n (.inl (by rw [z]))
    rw [upd_ne this]; exact e
  · by_cases z : c = a
    · subst z; rw [upd_same] at e; cases e
    · rw [upd_ne z] at e; exact e
  · have : c ≠ a := fun z => by rw [z, h1] at e; cases e
    rw [upd_ne this]; exact r.fit c o e
theorem StOk.sset {a : Addr} {b : Addr} (st : StOk g (some a) H F ω) (ho : OrcOk ω') (hs : ω'.scr = ω.scr) (hb : H a = some (.lst [.int ω.a, .int ω.b, .ref b, .int ω.c])) : StOk g (some a) (L2.upd H a (.lst [.int ω'.a, .int ω'.b, .ref b, .int ω'.c])) F ω' where
  st := fun a' ha => by
    cases ha
    obtain ⟨h1, h2, h3, b', h4, h5⟩ := st.st a rfl
    rw [h4] at hb
    have : b' = b := by
      injection hb with hb
      injection hb with hb
      injection hb with _ hb
      injection hb with _ hb
      injection hb with hb _
      injection hb
    subst this
    exact ⟨h1, h2, ho, b', upd_same, by rw [hs]; exact h5⟩
  tab := fun p hp => by
    obtain ⟨h1, h2, h3, b', h4, h5⟩ := st.st a rfl
    obtain ⟨ps, e1, e2⟩ := st.tab p hp
    exact ⟨ps, by rw [upd_ne (fun z => h2 (by rw [← z]; exact hp))]; exact e1, e2⟩
  ft := st.ft
end
end Wv

set_option autoImplicit false
set_option linter.all false
set_option maxRecDepth 100000
set_option maxHeartbeats 4000000
namespace Wv
open PySem PySem.Spec PyProof.Rows L2
section
variable {g : G} {c : Ck} {call : Nat → List Slot → M PyData} {X : Cx} {sc : Scope} {W : WX} {K : PySem.W.Frag} {w : World} {H0 F0 F F' F1 H H' H1 : Hp} {Q : VK} {A : Option Addr} {ρ ρ' : Env} {σ σ' : L2.St} {ω ω' : Orc} {α : Type} {D : Ends}
/-! values for a name -/
def RepX (fr : Bool) (K : PySem.W.Frag) (w : World) (H F' H' : Hp) (v : V) (d : PyData) : Prop := if ownV fr d = true then ∃ a, v = .ref a ∧ H a = none ∧ F' a = none ∧ OwnAt K w F' H' a d else RepF K w F' v d
def tX (g : G) (call : Nat → List Slot → M PyData) (X : Cx) (W : WX) (e : E) : TE := fun σ H Q => ∃ A H0 F0 ρ F ω, Rel g X.K X.w A H0 F0 ρ σ H F ω ∧
  RPost g X.K W σ A H F (evalE g.gt call e ρ ω) (fun d _ H' F' => ∀ v, RepX (freshE e) X.K X.w H F' H' v d → Q v H')
theorem ownV_f (d : PyData) : ownV false d = false := by cases d <;> rfl
theorem tX_n {e : E} (h : freshE e = true) (q : tX g call X W e σ H Q) : tN g call X W e σ H Q := by
  obtain ⟨A, H0, F0, ρ, F, ω, r, q⟩ := q
  refine ⟨A, H0, F0, ρ, F, ω, r, q.imp fun d ω1 H1 F1 g1 st q v hv => q v ?_⟩
  rw [h]; exact hv
theorem tX_e {e : E} (hp : isPk e = false) (h : freshE e = false) (q : tX g call X W e σ H Q) : tE g call X W e σ H Q := by
  obtain ⟨A, H0, F0, ρ, F, ω, r, q⟩ := q
  refine ⟨A, H0, F0, ρ, F, ω, r, q.imp fun d ω1 H1 F1 g1 st q v hv => q v ?_⟩
  unfold RepX
  rw [h, ownV_f, if_neg Bool.false_ne_true]
  rw [hp] at hv
  exact hv
theorem Rel.setX {fr : Bool} {v : V} {d : PyData} (r : Rel g K w A H0 F0 ρ σ H F ω) (gr : Grow (ExA g A) H F H' F') (st : StOk g A H' F' ω') (hv : RepX fr K w H F' H' v d) (i : Nat) : Rel g K w A H0 F0 (ρ.set i (.v (ownV fr d) d)) (σ.set i (some v)) H' F' ω' := by
  cases fr with
  | true => exact r.setN gr st hv i
  | false =>
    unfold RepX at hv
    rw [ownV_f, if_neg Bool.false_ne_true] at hv
    rw [ownV_f]
    exact (r.grow gr st).set hv
theorem asgX_rd {i : Nat} {e : E} (h : tS g call X W (.asg (.nm i) e) D σ H) : tAsg (tX g call X W e) (gName i) D σ H := by
  obtain ⟨A, H0, F0, ρ, F, ω, r, q⟩ := h
  rw [evalS] at q
  obtain ⟨F1, r1, s1⟩ := r.frzL (esc e)
  have q := (q : SPost g X.K X.w W A H0 F0 F D ((evalE g.gt call e (frz (esc e) ρ) >>= fun d => asgT (.nm i) (ownV (freshE e) d) d (frz (esc e) ρ) >>= fun ρ' => pure (.nx ρ')) ω)).mono s1
  refine ⟨A, H0, F0, _, F1, ω, r1, (SPost.bind r1 q).imp fun d ω1 H1 F2 g1 st q1 v hv => ?_⟩
  have q1 : SPost g X.K X.w W A H0 F0 F2 D (R.ok (.nx ((frz (esc e) ρ).set i (.v (ownV (freshE e) d) d))) ω1) := q1
  exact q1 _ H1 F2 (r1.setX g1 st hv i) (Same.refl _)
/-! a display, as a new object -/
theorem lstN_rd {es : Es} (hn : lenEs es ≤ sizeLine) (h : tN g call X W (.lst es) σ H Q) : tLst (tEs g call X W es) σ H Q := by
  obtain ⟨A, H0, F0, ρ, F, ω, r, q⟩ := h
  rw [evalE] at q
  refine ⟨A, H0, F0, ρ, F, ω, r, (RPost.bind q).with fun ds ω1 H1 F1 e g1 s1 q1 vs hv => ?_⟩
  obtain ⟨hc, q1⟩ := RPost.guard q1
  refine ⟨by rw [paired_len hv, evalEs_len _ _ _ _ _ e]; exact hn, fun p np => ?_⟩
  have e0 : Ext H1 F1 (upd H1 p (.lst vs)) F1 := Ext.mk0 g1.fit np
  have q2 := q1 _ F1 (e0.grow) (s1.ext e0)
  exact q2 _ ⟨p, rfl, g1.ex _ np, g1.fit.none np, vs, upd_same, el_dq hv hc⟩
/-! x op= e, ints -/
def isAug : Bop → Bool
  | .add | .sub | .mul | .fdiv | .mod => true
  | _ => false
def rA (o : Bop) : L2.R2 := fun x y H Q => ∃ i j z, x = .int i ∧ y = .int j ∧ bop o (.int i) (.int j) = some (.int z) ∧ Q (.int z) H
theorem ia_ok {o : Bop} {p : Operator} (h : isBin o = some p) (ha : isAug o = true) : OpR X (inplaceOp p) (rA o) := by
  intro pins s σ H x y v u Q I rx ry h0
  obtain ⟨i, j, z, rfl, rfl, hb, q⟩ := h0
  cases o <;> cases h <;> try (cases ha; done)
  · cases hb
    exact iop_add pins s σ H _ _ v u Q I rx ry ⟨i, j, rfl, rfl, q⟩
  · cases hb
    exact iop_sub pins s σ H _ _ v u Q I rx ry ⟨i, j, rfl, rfl, q⟩
  · obtain ⟨hl, hb⟩ := gO_some hb
    cases hb
    have iop_mulW : OpR X (inplaceOp .Mult) (rI CMulW fun i j => .int (i * j)) := opI fun _ _ _ _ _ _ _ hc q => imul_int q hc.ok
    rcases Bool.or_eq_true_iff.mp hl with hl | hl
    · refine iop_mulW pins s σ H _ _ v u Q I rx ry ⟨i, j, rfl, rfl, ?_, q⟩
      have := of_decide_eq_true hl
      unfold CMulW
      omega
    · refine iop_mul pins s σ H _ _ v u Q I rx ry ⟨i, j, rfl, rfl, ?_, q⟩
      rcases Bool.or_eq_true_iff.mp hl with hl | hl
      · have := of_decide_eq_true hl
        exact .inl (by omega)
      · have := of_decide_eq_true hl
        exact .inr (by omega)
  · obtain ⟨hl, hb⟩ := gO_some hb
    cases hb
    obtain ⟨h1, h2⟩ := Bool.and_eq_true_iff.mp hl
    have h1 := of_decide_eq_true h1
    have h2 := of_decide_eq_true h2
    have iop_fd : OpR X (inplaceOp .FloorDiv) (rI (fun _ j => j ≠ 0 ∧ j.natAbs.log2 < 8000) fun i j => .int (i.fdiv j)) := opI fun _ _ _ _ _ _ _ hc q => ifloordiv_int hc.1 q (.inl (PyProof.noPylong_of_log2 (by have := hc.2; omega)))
    exact iop_fd pins s σ H _ _ v u Q I rx ry ⟨i, j, rfl, rfl, ⟨h1, h2⟩, q⟩
  · obtain ⟨hl, hb⟩ := gO_some hb
    cases hb
    have iop_mdN : OpR X (inplaceOp .Mod) (rI (fun _ j => j ≠ 0) fun i j => .int (i.fmod j)) := opI fun _ _ _ _ _ _ _ hc q => imod_int hc q
    exact iop_mdN pins s σ H _ _ v u Q I rx ry ⟨i, j, rfl, rfl, of_decide_eq_true hl, q⟩
theorem aug_int {o : Bop} (ha : isAug o = true) {i : Int} {d z : PyData} (h : bop o (.int i) d = some z) : ∃ j k, d = .int j ∧ z = .int k := by
  cases o <;> try (cases ha; done)
  all_goals (cases d <;> first | (cases h; exact ⟨_, _, rfl, rfl⟩) | (cases h; done) | (obtain ⟨_, h⟩ := gO_some h; cases h; exact ⟨_, _, rfl, rfl⟩))
theorem aug_rd {i : Nat} {o : Bop} {e : E} (ha : isAug o = true) (hp : isPk e = false) (h : tS g call X W (.aug i o e) D σ H) : tAug i (tE g call X W e) (rA o) D σ H := by
  obtain ⟨A, H0, F0, ρ, F, ω, r, q⟩ := h
  rw [evalS] at q
  obtain ⟨F1, r1, s1⟩ := r.frzL (esc e)
  have q := q.mono s1
  cases es : (frz (esc e) ρ)[i]? with
  | none => simp only [es] at q; exact q.elim
  | some s =>
    simp only [es] at q
    cases s with
    | v ow x =>
      cases ow with
      | true => exact q.elim
      | false =>
        obtain ⟨v, h1, h2⟩ := r1.sl i _ es
        refine ⟨v, h1, A, H0, F0, _, F1, ω, r1, (SPost.bind r1 q).imp fun d ω1 H1 F2 g1 st q1 y ry => ?_⟩
        rw [hp] at ry
        cases x with
        | int n =>
          have hv : v = .int n := (RepP.frz (Ex := fun _ => False) (H := H) h2).int
          cases eb : bop o (.int n) d with
          | none => simp only [eb] at q1; exact q1.elim
          | some z =>
            simp only [eb] at q1
            obtain ⟨j, k, rfl, rfl⟩ := aug_int ha eb
            have hy : y = .int j := (RepP.frz (Ex := fun _ => False) (H := H) ry).int
            exact ⟨n, j, k, hv, hy, eb, q1 _ H1 F2 ((r1.grow g1 st).set (.dat (.int _))) (Same.refl _)⟩
        | list xs => exact q1.elim
        | _ => exact q1.elim
    | _ => exact q.elim
/-! the state's places -/
theorem sset_rd {i k : Nat} {e : E} (hp : isPk e = false) (h : tS g call X W (.sset i k e) D σ H) : tAsg (tE g call X W e) (gSub (tVar i) (tC (.int (k : Nat))) rSetL) D σ H := by
  obtain ⟨A, H0, F0, ρ, F, ω, r, q⟩ := h
  rw [evalS] at q
  cases es : ρ[i]? with
  | none => rw [es] at q; exact q.elim
  | some s =>
    rw [es] at q
    cases s with
    | s =>
      obtain ⟨a, ha, h2⟩ := r.sl i _ es
      subst ha
      refine ⟨some a, H0, F0, ρ, F, ω, r, (SPost.bind r q).imp fun d ω1 H1 F1 g1 st q1 v rv => ?_⟩
      rw [hp] at rv
      have r1 := r.grow g1 st
      obtain ⟨_, _, oo, b, h3, h4⟩ := st.st a rfl
      cases d with
      | int n =>
        have hv : v = .int n := (RepP.frz (Ex := fun _ => False) (H := H) rv).int
        subst hv
        have go : ∀ {ω2 : Orc} {j : Nat} (hj : ixN 4 ((k : Nat) : Int) = some j) (e2 : [V.int ω1.a, V.int ω1.b, V.ref b, V.int ω1.c].set j (.int n) = [V.int ω2.a, V.int ω2.b, V.ref b, V.int ω2.c]), OrcOk ω2 → ω2.scr = ω1.scr → SPost g X.K X.w W (some a) H0 F0 F1 D (R.ok (.nx ρ) ω2) → gSub (tVar i) (tC (.int (k : Nat))) rSetL (V.int n) σ H1 D.nx := fun {ω2 j} hj e2 o2 s2 q2 => by
          refine ⟨_, h2, a, _, _, j, rfl, rfl, h3, hj, ?_⟩
          rw [e2]
          exact q2 σ _ F1 (r1.sset (st.sset o2 s2 h3)) (Same.refl _)
        match k, q1 with
        | 0, q1 => exact go (ω2 := { ω1 with a := n }) (j := 0) rfl rfl ⟨oo.b, oo.c0, oo.c1⟩ rfl q1
        | 1, q1 =>
          by_cases hn : 0 ≤ n
          · exact go (ω2 := { ω1 with b := n }) (j := 1) rfl rfl ⟨hn, oo.c0, oo.c1⟩ rfl (by
              have q1 : SPost g X.K X.w W (some a) H0 F0 F1 D (if 0 ≤ n then R.ok (.nx ρ) { ω1 with b := n } else .stuck) := q1
              rw [if_pos hn] at q1; exact q1)
          · have q1 : SPost g X.K X.w W (some a) H0 F0 F1 D (if 0 ≤ n then R.ok (.nx ρ) { ω1 with b := n } else .stuck) := q1
            rw [if_neg hn] at q1; exact q1.elim
        | 2, q1 => exact q1.elim
        | 3, q1 =>
          by_cases hn : 0 ≤ n ∧ n < 2 ^ 31
          · exact go (ω2 := { ω1 with c := n }) (j := 3) rfl rfl ⟨oo.b, hn.1, hn.2⟩ rfl (by
              have q1 : SPost g X.K X.w W (some a) H0 F0 F1 D (if 0 ≤ n ∧ n < 2 ^ 31 then R.ok (.nx ρ) { ω1 with c := n } else .stuck) := q1
              rw [if_pos hn] at q1; exact q1)
          · have q1 : SPost g X.K X.w W (some a) H0 F0 F1 D (if 0 ≤ n ∧ n < 2 ^ 31 then R.ok (.nx ρ) { ω1 with c := n } else .stuck) := q1
            rw [if_neg hn] at q1; exact q1.elim
        | k + 4, q1 => exact q1.elim
      | _ => exact q1.elim
    | _ => exact q.elim
end
end Wv

set_option autoImplicit false
set_option linter.all false
set_option maxRecDepth 100000
set_option maxHeartbeats 4000000
namespace Wv
open PySem PySem.Spec PyProof.Rows L2
section
variable {g : G} {c : Ck} {call : Nat → List Slot → M PyData} {X : Cx} {sc : Scope} {W : WX} {K : PySem.W.Frag} {w : World} {F H : Hp} {Q : VK} {σ : L2.St}
/-! x * y, a new list -/
def rMulN (K : PySem.W.Frag) (w : World) : L2.R2 := fun x y H Q => ∃ Ex F d1 d2 d3, Fit F H ∧ RepP K w Ex F H x d1 ∧ RepP K w Ex F H y d2 ∧ bop .mul d1 d2 = some d3 ∧ ∀ v H' F', Ext H F H' F' → RepN K w H F' H' v d3 → Q v H'
theorem or_mulN : OpR X (binaryOp .Mult) (rMulN X.K X.w) := by
  intro pins s σ H x y v u Q I rx ry h0
  obtain ⟨Ex, F, d1, d2, d3, f, r1, r2, hb, q⟩ := h0
  have gen : (ownV true d3 = false) → wpAny (model X.prog X.w) X.A (binaryOp .Mult v u) (EP X pins σ Q) X.xe s := fun hn =>
    or_mul pins s σ H x y v u Q I rx ry ⟨Ex, F, d1, d2, d3, f, r1, r2, hb, fun v H' F' e rv => q v H' F' e (by unfold RepN; rw [hn, if_neg Bool.false_ne_true]; exact rv)⟩
  cases d1 <;> cases d2 <;> try (cases hb; done)
  case int.int i j =>
    obtain ⟨hl, hb2⟩ := gO_some hb
    cases hb2
    exact gen rfl
  case list.int xs k =>
    obtain ⟨hl, hb2⟩ := gO_some hb
    cases hb2
    obtain ⟨hl, h3⟩ := Bool.and_eq_true_iff.mp hl
    obtain ⟨h1, h2⟩ := Bool.and_eq_true_iff.mp hl
    have h1 := of_decide_eq_true h1
    have h2 := of_decide_eq_true h2
    have h3 := of_decide_eq_true h3
    obtain ⟨a, vs, rfl, e1, e2⟩ := r1.list f
    have hl := dpa_len e2
    refine op_rep pins s σ H _ _ v u Q I rx ry ⟨a, k, vs, rfl, r2.int, e1, by omega, by omega, ?_, fun p hp => ?_⟩
    · have : vs.length * k.toNat ≤ 1000 * 1000 := Nat.mul_le_mul (by omega) (by omega)
      rw [sizeLine_eq]; omega
    · exact q _ _ F (Ext.mk0 f hp) ⟨p, rfl, hp, f.none hp, _, upd_same, dpa_rep e2 _⟩
  case tuple.int xs k =>
    obtain ⟨hl, hb2⟩ := gO_some hb
    cases hb2
    exact gen rfl
theorem mulN_rd {a b : E} (h : tX g call X W (.bin .mul a b) σ H Q) : tOp (rMulN X.K X.w) (tE g call X W a) (tE g call X W b) σ H Q := by
  obtain ⟨A, H0, F0, ρ, F, ω, r, q⟩ := h
  rw [evalE] at q
  refine ⟨A, H0, F0, ρ, F, ω, r, (RPost.bind q).imp fun d1 ω1 H1 F1 g1 s1 q1 x rx => ?_⟩
  refine ⟨A, H0, F0, ρ, F1, ω1, r.grow g1 s1, (RPost.bind q1).imp fun d2 ω2 H2 F2 g2 s2 q2 y ry => ?_⟩
  obtain ⟨d3, e3, q3⟩ := RPost.ofO q2
  refine ⟨_, F2, d1, d2, d3, g2.fit, rx.p.grow g2, ry.p, e3, fun v H' F' e rv => q3 H' F' e.grow (s2.ext e) v ?_⟩
  unfold RepN at rv
  show RepX true X.K X.w H F' H' v d3
  unfold RepX
  cases ho : ownV true d3 with
  | false => rw [ho, if_neg Bool.false_ne_true] at rv; rw [if_neg Bool.false_ne_true]; exact rv
  | true =>
    rw [ho, if_pos rfl] at rv
    rw [if_pos rfl]
    obtain ⟨p, e1, e2, e4, e5⟩ := rv
    exact ⟨p, e1, (g1.trans g2).ex _ e2, e4, e5⟩
end
end Wv

set_option autoImplicit false
set_option linter.all false
set_option maxRecDepth 100000
set_option maxHeartbeats 4000000
namespace Wv
open PySem PySem.Spec PyProof.Rows L2
section
variable {g : G} {c : Ck} {call : Nat → List Slot → M PyData} {X : Cx} {sc : Scope} {W : WX} {K : PySem.W.Frag} {w : World} {H0 F0 F F' F1 H H' H1 : Hp} {Q : VK} {A : Option Addr} {ρ ρ' : Env} {σ σ' : L2.St} {ω ω' : Orc} {α : Type} {D : Ends}
/-! an own object is written -/
theorem Rel.updD {i : Nat} {a : Addr} {d d' : PyData} {o' : HO} (r : Rel g K w A H0 F0 ρ σ H F ω) (e : ρ[i]? = some (.v true d)) (ea : σ[i]? = some (some (.ref a))) (hv : OwnAt K w F (upd H a o') a d') :
    Rel g K w A H0 F0 (ρ.set i (.v true d')) σ (upd H a o') F ω := by
  obtain ⟨b, h1, h2, h3, h4, h5⟩ := r.sl i _ e
  rw [ea] at h1
  cases h1
  have hl : i < ρ.length := (List.getElem?_eq_some_iff.mp e).1
  refine ⟨r.gr.updN h5 h2, by rw [List.length_set]; exact r.len, fun j s es => ?_, fun j k d1 d2 b e1 e2 e3 e4 => ?_, r.st.upd h3 h2⟩
  · rw [set_get] at es
    by_cases hij : i = j
    · rw [if_pos hij, if_pos hl] at es
      cases es
      subst hij
      exact ⟨a, ea, h2, h3, hv, h5⟩
    · rw [if_neg hij] at es
      have q := r.sl j s es
      cases s with
      | v o d2 => cases o with
        | false => exact q
        | true =>
          obtain ⟨b, q1, q2, q3, q4, q5⟩ := q
          have hab : b ≠ a := fun z => hij (r.own i j _ d2 a e es ea (by rw [← z]; exact q1))
          refine ⟨b, q1, q2, q3, ?_, q5⟩
          cases d2 with
          | list xs =>
            obtain ⟨vs, k1, k2⟩ := q4
            exact ⟨vs, by rw [upd_ne hab]; exact k1, k2⟩
          | dict kvs => exact dicAt_mono (Same.refl _) (fun o ho => by rw [upd_ne hab]; exact ho) q4
          | _ => exact q4.elim
      | _ => exact q
  · rw [set_get] at e1 e2
    have g1 : ∀ {k : Nat} {d0 : PyData}, (if i = k then (if i < ρ.length then some (Slot.v true d') else none) else ρ[k]?) = some (.v true d0) → ∃ d', ρ[k]? = some (.v true d') := fun {k d0} ek => by
      by_cases hik : i = k
      · subst hik; exact ⟨_, e⟩
      · rw [if_neg hik] at ek; exact ⟨_, ek⟩
    obtain ⟨x1, y1⟩ := g1 e1
    obtain ⟨x2, y2⟩ := g1 e2
    exact r.own j k x1 x2 b y1 y2 e3 e4
theorem Rel.updL {i : Nat} {a : Addr} {ds ds' : List PyData} {vs' : List V} (r : Rel g K w A H0 F0 ρ σ H F ω) (e : ρ[i]? = some (.v true (.list ds))) (ea : σ[i]? = some (some (.ref a))) (hv : DqAll K F vs' ds') :
    Rel g K w A H0 F0 (ρ.set i (.v true (.list ds'))) σ (upd H a (.lst vs')) F ω := r.updD e ea ⟨vs', upd_same, hv⟩
theorem Rel.updK {i : Nat} {a : Addr} {kvs kvs' : List (PyData × PyData)} {ks' : List (L2.Key × V)} (r : Rel g K w A H0 F0 ρ σ H F ω) (e : ρ[i]? = some (.v true (.dict kvs))) (ea : σ[i]? = some (some (.ref a))) (hv : Paired (EntAt K F) kvs' ks') :
    Rel g K w A H0 F0 (ρ.set i (.v true (.dict kvs'))) σ (upd H a (.dK ks')) F ω := r.updD e ea ⟨ks', upd_same, hv⟩
theorem ownL_of {o : Option Slot} (h : ownL o = true) : ∃ ds, o = some (.v true (.list ds)) := by
  unfold ownL at h
  split at h
  · exact ⟨_, rfl⟩
  · cases h
theorem ownC_of {o : Option Slot} (h : ownC o = true) : (∃ ds, o = some (.v true (.list ds))) ∨ ∃ kvs, o = some (.v true (.dict kvs)) := by
  unfold ownC at h
  split at h
  · exact .inl ⟨_, rfl⟩
  · exact .inr ⟨_, rfl⟩
  · cases h
theorem SPost.guard {b : Bool} {m : M Out} (h : SPost g K w W A H0 F0 F D (M.guard b m ω)) : b = true ∧ SPost g K w W A H0 F0 F D (m ω) := by
  cases b with
  | true => exact ⟨rfl, h⟩
  | false => exact h.elim
/-- the slot's list as it stands -/
theorem Rel.ownAt {i : Nat} {ds : List PyData} (r : Rel g K w A H0 F0 ρ σ H F ω) (e : ρ[i]? = some (.v true (.list ds))) : ∃ a vs, σ[i]? = some (some (.ref a)) ∧ H a = some (.lst vs) ∧ DqAll K F vs ds := by
  obtain ⟨a, h1, _, _, ⟨vs, h4, h5⟩, _⟩ := r.sl i _ e
  exact ⟨a, vs, h1, h4, h5⟩
theorem Rel.ownAtK {i : Nat} {kvs : List (PyData × PyData)} (r : Rel g K w A H0 F0 ρ σ H F ω) (e : ρ[i]? = some (.v true (.dict kvs))) : ∃ a ks, σ[i]? = some (some (.ref a)) ∧ H a = some (.dK ks) ∧ Paired (EntAt K F) kvs ks := by
  obtain ⟨a, h1, _, _, ⟨ks, h4, h5⟩, _⟩ := r.sl i _ e
  exact ⟨a, ks, h1, h4, h5⟩
theorem setAt_own {i : Nat} {f : PyData → M PyData} {d : PyData} (e : ρ[i]? = some (.v true d)) : setAt ρ i f = (f d >>= fun d' => pure (ρ.set i (.v true d'))) := by
  unfold setAt
  rw [e]
theorem el_of {v : V} {d : PyData} (o : okEl d = true) (h : RepF K w F v d) : Dq K F v d := by
  cases h with
  | dat h => exact h
  | dic h => exact absurd o (by simp [okEl, isDic])
theorem app_rd {i : Nat} {e : E} (hp : isPk e = false) (h : tS g call X W (.app i e) D σ H) : tDrop (tBM X.K "list" rAppend (tVar i) (tCons (tE g call X W e) tNil)) D σ H := by
  obtain ⟨A, H0, F0, ρ, F, ω, r, q⟩ := h
  rw [evalS] at q
  obtain ⟨F1, r1, s1⟩ := r.frzL (esc e)
  obtain ⟨hg, q⟩ := SPost.guard (q.mono s1)
  obtain ⟨ds, es⟩ := ownL_of hg
  obtain ⟨a, vs, h1, h2, h3⟩ := r1.ownAt es
  refine ⟨.ref a, h1, .inl ⟨rfl, vs, SqL.of h2⟩, A, H0, F0, _, F1, ω, r1, (SPost.bind r1 q).imp fun d ω1 H1 F2 g1 st q1 y ry => ?_⟩
  have r2 := r1.grow g1 st
  obtain ⟨a', vs', k1, k2, k3⟩ := r2.ownAt es
  rw [h1] at k1
  cases k1
  rw [setAt_own es] at q1
  have q1 : SPost g X.K X.w W A H0 F0 F2 D (((M.guard (okEl d && decide (ds.length < 1000000)) (pure (.list (ds ++ [d]))) >>= fun d' => pure ((frz (esc e) ρ).set i (.v true d'))) >>= fun ρ' => pure (.nx ρ')) ω1) := q1
  cases hk : (okEl d && decide (ds.length < 1000000)) with
  | false =>
    rw [hk] at q1
    exact q1.elim
  | true =>
    rw [hk] at q1
    obtain ⟨o1, o2⟩ := Bool.and_eq_true_iff.mp hk
    have o2 := of_decide_eq_true o2
    rw [hp] at ry
    exact ⟨a, vs', y, rfl, rfl, k2, by rw [dpa_len k3, sizeLine_eq]; omega, q1 σ _ F2 (r2.updL es h1 (dpa_app k3 (.cons (el_of o1 ry) .nil))) (Same.refl _)⟩
theorem ext_rd {i : Nat} {e : E} (h : tS g call X W (.ext i e) D σ H) : tDrop (tBM X.K "list" rExtend (tVar i) (tCons (tE g call X W e) tNil)) D σ H := by
  obtain ⟨A, H0, F0, ρ, F, ω, r, q⟩ := h
  rw [evalS] at q
  obtain ⟨F1, r1, s1⟩ := r.frzL (esc e)
  obtain ⟨hg, q⟩ := SPost.guard (q.mono s1)
  obtain ⟨ds, es⟩ := ownL_of hg
  obtain ⟨a, vs, h1, h2, h3⟩ := r1.ownAt es
  refine ⟨.ref a, h1, .inl ⟨rfl, vs, SqL.of h2⟩, A, H0, F0, _, F1, ω, r1, (SPost.bind r1 q).imp fun d ω1 H1 F2 g1 st q1 y ry => ?_⟩
  have r2 := r1.grow g1 st
  obtain ⟨a', vs', k1, k2, k3⟩ := r2.ownAt es
  rw [h1] at k1
  cases k1
  rw [setAt_own es] at q1
  cases d with
  | list ys =>
    have q1 : SPost g X.K X.w W A H0 F0 F2 D (((M.guard (decide (ds.length + ys.length < 1000000)) (pure (.list (ds ++ ys))) >>= fun d' => pure ((frz (esc e) ρ).set i (.v true d'))) >>= fun ρ' => pure (.nx ρ')) ω1) := q1
    cases hk : (decide (ds.length + ys.length < 1000000)) with
    | false =>
      rw [hk] at q1
      exact q1.elim
    | true =>
      rw [hk] at q1
      have o2 := of_decide_eq_true hk
      obtain ⟨b, ws, rfl, b1, b2⟩ := ry.p.list g1.fit
      exact ⟨a, b, vs', ws, rfl, rfl, k2, b1, by rw [dpa_len k3, dpa_len b2, sizeLine_eq]; omega, q1 σ _ F2 (r2.updL es h1 (dpa_app k3 b2)) (Same.refl _)⟩
  | _ => exact q1.elim
/-- what a store into a list gives -/
theorem put_ok {k v : PyData} {ds : List PyData} {f : PyData → M Out} (h : SPost g K w W A H0 F0 F D ((putIx k v (.list ds) >>= f) ω)) : ∃ i j, k = .int i ∧ ixN ds.length i = some j ∧ okEl v = true ∧ SPost g K w W A H0 F0 F D (f (.list (ds.set j v)) ω) := by
  cases k with
  | int i =>
    have h : SPost g K w W A H0 F0 F D (((match ixN ds.length i with
      | some j => M.guard (okEl v) (pure (PyData.list (ds.set j v)))
      | none => M.stuck) >>= f) ω) := h
    cases e : ixN ds.length i with
    | none => rw [e] at h; exact h.elim
    | some j =>
      rw [e] at h
      cases ho : okEl v with
      | false =>
        have h : SPost g K w W A H0 F0 F D ((M.guard (okEl v) (pure (PyData.list (ds.set j v))) >>= f) ω) := h
        rw [ho] at h; exact h.elim
      | true =>
        have h : SPost g K w W A H0 F0 F D ((M.guard (okEl v) (pure (PyData.list (ds.set j v))) >>= f) ω) := h
        rw [ho] at h
        exact ⟨i, j, rfl, e, rfl, h⟩
  | _ => exact h.elim
/-- what a store into a dict gives -/
theorem put_okK {k v : PyData} {kvs : List (PyData × PyData)} {f : PyData → M Out} (h : SPost g K w W A H0 F0 F D ((putIx k v (.dict kvs) >>= f) ω)) : leafKey k = true ∧ okEl v = true ∧ kvs.length < 1000000 ∧ SPost g K w W A H0 F0 F D (f (.dict (dput kvs k v)) ω) := by
  have h : SPost g K w W A H0 F0 F D ((M.guard (leafKey k && okEl v && decide (kvs.length < 1000000)) (pure (PyData.dict (dput kvs k v))) >>= f) ω) := h
  cases e : (leafKey k && okEl v && decide (kvs.length < 1000000)) with
  | false => rw [e] at h; exact h.elim
  | true =>
    rw [e] at h
    simp only [Bool.and_eq_true, decide_eq_true_eq] at e
    exact ⟨e.1.1, e.1.2, e.2, h⟩
/-- into a list, or a dict -/
def rSetA : V → V → V → Hp → (Hp → Prop) → Prop := fun o i v H Q => rSetL o i v H Q ∨ rSetD o i v H Q
theorem set_any (hu : X.A.units + 1 < cLine) : PSet X rSetA := by
  intro pins s σ H o i v ov iv u Q I ro ri rv h
  rcases h with h | h
  · exact set_list pins s σ H o i v ov iv u Q I ro ri rv h
  · exact set_dict hu pins s σ H o i v ov iv u Q I ro ri rv h
theorem dput_set {y v : PyData} {a : Addr} {x z : V} {kvs : List (PyData × PyData)} {ks : List (L2.Key × V)} {Q : Hp → Prop} {Ex : Addr → Prop} (hk : leafKey y = true) (hl : kvs.length < 1000000) (ry : RepP K w Ex F H x y) (hz : Dq K F z v) (e : H a = some (.dK ks)) (hp : Paired (EntAt K F) kvs ks)
    (q : ∀ ks', Paired (EntAt K F) (dput kvs y v) ks' → Q (upd H a (.dK ks'))) : rSetD (.ref a) x z H Q := by
  obtain ⟨k, ek⟩ := kOf_leaf hk
  have := kOf_val ek ry
  subst this
  exact ⟨a, _, rfl, DPut.k e (by rw [dic_len hp, sizeLine_eq]; omega), q _ (dic_put hp ek hz)⟩
theorem setix_rd {i : Nat} {k e : E} (hp : isPk e = false) (h : tS g call X W (.setix i k e) D σ H) : tAsg (tE g call X W e) (gSub (tVar i) (tE g call X W k) rSetA) D σ H := by
  obtain ⟨A, H0, F0, ρ, F, ω, r, q⟩ := h
  rw [evalS] at q
  obtain ⟨F1, r1, s1⟩ := r.frzL (esc e ++ esc k)
  have q := q.mono s1
  refine ⟨A, H0, F0, _, F1, ω, r1, (SPost.bind r1 q).imp fun d ω1 H1 F2 g1 st q1 y ry => ?_⟩
  rw [hp] at ry
  obtain ⟨hg, q1⟩ := SPost.guard q1
  have r2 := r1.grow g1 st
  rcases ownC_of hg with ⟨ds, es⟩ | ⟨kvs, es⟩
  · obtain ⟨a, vs, h1, h2, h3⟩ := r2.ownAt es
    refine ⟨.ref a, h1, A, H0, F0, _, F2, ω1, r2, (SPost.bind r2 q1).imp fun d2 ω2 H2 F3 g2 st2 q2 z rz => ?_⟩
    have r3 := r2.grow g2 st2
    obtain ⟨a', vs', k1, k2, k3⟩ := r3.ownAt es
    rw [h1] at k1
    cases k1
    rw [setAt_own es, M.bnd_assoc] at q2
    obtain ⟨n, j, rfl, e1, e2, q3⟩ := put_ok q2
    have hz : z = .int n := rz.p.int
    have hd := dp_mono g2.fs _ _ (el_of e2 ry)
    exact .inl ⟨a, vs', n, j, rfl, hz, k2, by rw [dpa_len k3]; exact e1, q3 σ _ F3 (r3.updL es h1 (dpa_set j k3 hd)) (Same.refl _)⟩
  · obtain ⟨a, ks, h1, h2, h3⟩ := r2.ownAtK es
    refine ⟨.ref a, h1, A, H0, F0, _, F2, ω1, r2, (SPost.bind r2 q1).imp fun d2 ω2 H2 F3 g2 st2 q2 z rz => ?_⟩
    have r3 := r2.grow g2 st2
    obtain ⟨a', ks', k1, k2, k3⟩ := r3.ownAtK es
    rw [h1] at k1
    cases k1
    rw [setAt_own es, M.bnd_assoc] at q2
    obtain ⟨e1, e2, e3, q3⟩ := put_okK q2
    have hd := dp_mono g2.fs _ _ (el_of e2 ry)
    exact .inr (dput_set e1 e3 rz.p hd k2 k3 fun ks2 hp2 => q3 σ _ F3 (r3.updK es h1 hp2) (Same.refl _))
/-! xs[k] op= v -/
def rGetL : V → V → Hp → VK → Prop := fun x y H Q => ∃ p xs i v, x = .ref p ∧ y = .int i ∧ H p = some (.lst xs) ∧ atI xs i = some v ∧ Q v H
theorem get_list : PGet X rGetL := by
  intro pins s σ H x y v u Q I rx ry h
  obtain ⟨p, xs, i, z, rfl, rfl, hq, he, q⟩ := h
  cases rx
  obtain ⟨t, rfl⟩ := ry
  obtain ⟨its, r, pl, hz⟩ := I.list (SqL.of hq)
  obtain ⟨j, h1, h2, h3, h4, h5⟩ := atI_get he
  obtain ⟨w, ew, rw'⟩ := r.get h2
  have hl := r.length
  have hn := line63
  have fin : EP X pins σ Q w s := ⟨z, H, I, rw', q⟩
  by_cases h0 : 0 ≤ i
  · have hj : i.toNat = j := by
      rw [seqIndex_of h0 h5] at h1
      exact Option.some.inj h1
    exact wpAny_getItem_list pl.isList h0 (by omega) (by rw [hj]; simpa using ew) fin
  · have hj : (i + (its.toArray.size : Int)).toNat = j := by
      rw [seqIndex_neg (by omega) h4] at h1
      rw [List.size_toArray, ← hl]
      exact Option.some.inj h1
    exact wpAny_getItem_list_neg pl.isList (by omega) (by rw [List.size_toArray] <;> omega) (by omega) (by rw [hj]; simpa using ew) fin
/-- of a list, or a dict -/
def rGetA : V → V → Hp → VK → Prop := fun x y H Q => rGetL x y H Q ∨ ∃ a v, x = .ref a ∧ DGet H a y (some v) ∧ Q v H
theorem get_any (hu : X.A.units + 1 < cLine) : PGet X rGetA := by
  intro pins s σ H x y v u Q I rx ry h
  rcases h with h | ⟨a, z, rfl, g1, q⟩
  · exact get_list pins s σ H x y v u Q I rx ry h
  · cases rx
    exact d_getItem hu I g1 ry fun w' s3 I3 rw' => ⟨z, H, I3, rw', q⟩
theorem augix_rd {i : Nat} {o : Bop} {k e : E} (ha : isAug o = true) (hp : isPk e = false) (h : tS g call X W (.augix i o k e) D σ H) : tAugS (tVar i) (tE g call X W k) (tE g call X W e) rGetA (rA o) rSetA D σ H := by
  obtain ⟨A, H0, F0, ρ, F, ω, r, q⟩ := h
  rw [evalS] at q
  obtain ⟨F1, r1, s1⟩ := r.frzL (esc k ++ esc e)
  obtain ⟨hg, q⟩ := SPost.guard (q.mono s1)
  rcases ownC_of hg with ⟨ds, es⟩ | ⟨kvs, es⟩
  · obtain ⟨a, vs, h1, h2, h3⟩ := r1.ownAt es
    refine ⟨.ref a, h1, A, H0, F0, _, F1, ω, r1, (SPost.bind r1 q).imp fun d ω1 H1 F2 g1 st q1 z rz => ?_⟩
    simp only [es] at q1
    have r2 := r1.grow g1 st
    obtain ⟨a', vs', k1, k2, k3⟩ := r2.ownAt es
    rw [h1] at k1
    cases k1
    cases d with
    | int n =>
      have hz : z = .int n := rz.p.int
      cases e1 : ixD (.list ds) (.int n) with
      | none => simp only [e1] at q1; exact q1.elim
      | some old =>
        simp only [e1] at q1
        obtain ⟨ov, o1, o2⟩ := atI_map (α := Unit) k3 e1
        refine .inl ⟨a, vs', n, ov, rfl, hz, k2, o1, ?_⟩
        cases old with
        | int m =>
          have q1 : SPost g X.K X.w W A H0 F0 F2 D ((evalE g.gt call e (frz (esc k ++ esc e) ρ) >>= fun y => M.ofO (bop o (.int m) y) >>= fun zz => setAt (frz (esc k ++ esc e) ρ) i (putIx (.int n) zz) >>= fun ρ' => pure (.nx ρ')) ω1) := q1
          have hov : ov = .int m := by cases o2; rfl
          refine ⟨A, H0, F0, _, F2, ω1, r2, (SPost.bind r2 q1).imp fun d3 ω2 H2 F3 g2 st2 q2 y ry => ?_⟩
          have r3 := r2.grow g2 st2
          obtain ⟨a', vs2, j1, j2, j3⟩ := r3.ownAt es
          rw [h1] at j1
          cases j1
          cases eb : bop o (.int m) d3 with
          | none => rw [eb] at q2; exact q2.elim
          | some zz =>
            rw [eb] at q2
            obtain ⟨j, kk, rfl, rfl⟩ := aug_int ha eb
            have hy : y = .int j := ry.p.int
            have q2 : SPost g X.K X.w W A H0 F0 F3 D ((setAt (frz (esc k ++ esc e) ρ) i (putIx (.int n) (.int kk)) >>= fun ρ' => pure (.nx ρ')) ω2) := q2
            rw [setAt_own es, M.bnd_assoc] at q2
            obtain ⟨n', j', e3, e4, e5, q3⟩ := put_ok q2
            cases e3
            exact ⟨m, j, kk, hov, hy, eb, .inl ⟨a, vs2, n, j', rfl, hz, j2, by rw [dpa_len j3]; exact e4, q3 σ _ F3 (r3.updL es h1 (dpa_set j' j3 (.int _))) (Same.refl _)⟩⟩
        | _ => exact q1.elim
    | _ => exact q1.elim
  · obtain ⟨a, ks, h1, h2, h3⟩ := r1.ownAtK es
    refine ⟨.ref a, h1, A, H0, F0, _, F1, ω, r1, (SPost.bind r1 q).imp fun d ω1 H1 F2 g1 st q1 z rz => ?_⟩
    simp only [es] at q1
    have r2 := r1.grow g1 st
    obtain ⟨a', ks', k1, k2, k3⟩ := r2.ownAtK es
    rw [h1] at k1
    cases k1
    cases e1 : ixD (.dict kvs) d with
    | none => simp only [e1] at q1; exact q1.elim
    | some old =>
      simp only [e1] at q1
      obtain ⟨hl, e2⟩ := gO_some (show gO (leafKey d) (dfind kvs d) = some old by cases d <;> exact e1)
      obtain ⟨ov, o1, o2, _⟩ := dic_get ⟨ks', k2, k3⟩ hl rz.p
      obtain ⟨v0, ev0, hv0⟩ := o2 old e2
      subst ev0
      refine .inr ⟨a, v0, rfl, o1, ?_⟩
      cases old with
      | int m =>
        have q1 : SPost g X.K X.w W A H0 F0 F2 D ((evalE g.gt call e (frz (esc k ++ esc e) ρ) >>= fun y => M.ofO (bop o (.int m) y) >>= fun zz => setAt (frz (esc k ++ esc e) ρ) i (putIx d zz) >>= fun ρ' => pure (.nx ρ')) ω1) := q1
        have hov : v0 = .int m := by cases hv0; rfl
        refine ⟨A, H0, F0, _, F2, ω1, r2, (SPost.bind r2 q1).imp fun d3 ω2 H2 F3 g2 st2 q2 y ry => ?_⟩
        have r3 := r2.grow g2 st2
        obtain ⟨a', ks2, j1, j2, j3⟩ := r3.ownAtK es
        rw [h1] at j1
        cases j1
        cases eb : bop o (.int m) d3 with
        | none => rw [eb] at q2; exact q2.elim
        | some zz =>
          rw [eb] at q2
          obtain ⟨j, kk, rfl, rfl⟩ := aug_int ha eb
          have hy : y = .int j := ry.p.int
          have q2 : SPost g X.K X.w W A H0 F0 F3 D ((setAt (frz (esc k ++ esc e) ρ) i (putIx d (.int kk)) >>= fun ρ' => pure (.nx ρ')) ω2) := q2
          rw [setAt_own es, M.bnd_assoc] at q2
          obtain ⟨e3, e4, e5, q3⟩ := put_okK q2
          exact ⟨m, j, kk, hov, hy, eb, .inr (dput_set e3 e5 (rz.p.grow g2) (.int _) j2 j3 fun ks3 hp3 => q3 σ _ F3 (r3.updK es h1 hp3) (Same.refl _))⟩
      | _ => exact q1.elim
end
end Wv

set_option autoImplicit false
set_option linter.all false
set_option maxRecDepth 100000
set_option maxHeartbeats 4000000
namespace Wv
open PySem PySem.Spec PyProof.Rows L2
section
variable {g : G} {c : Ck} {call : Nat → List Slot → M PyData} {X : Cx} {sc : Scope} {W : WX} {K : PySem.W.Frag} {w : World} {H0 F0 F F' F1 H H' H1 : Hp} {Q : VK} {A : Option Addr} {ρ ρ' : Env} {σ σ' : L2.St} {ω ω' : Orc} {α : Type} {D : Ends}
/-! a, b = x, y -/
def tgSw (sc : Scope) (l : Nat) (x : Str) (p : Pos) : Bool := (sc.names.lookup x == some .local) && (p.line == l)
theorem sw2 {x y : Str} {px py pt pt2 : Pos} {kt k2 : Nat} {a b : PX} {env : PySem.Env} (hk : env.scope.kind = .function) (h1 : env.scope.names.lookup x = some .local) (h2 : env.scope.names.lookup y = some .local) (hl : (py.line == px.line) = true) (hxy : x ≠ y)
    (sa : noStar a = true) (sb : noStar b = true) (f1 : ([a, b].all (foldedForSure 8)) = false) (f2 : ([a, b].all (constantsAlone 8)) = false) :
    swappedStores [.Tuple [.Name x px, .Name y py] kt pt] (.Tuple [a, b] k2 pt2) env = pure (some [x, y]) := by
  have hb : env.blockKind = .function := by unfold Env.blockKind; rw [hk]; rfl
  have k1 : env.kindOf x = some .local := h1
  have k2 : env.kindOf y = some .local := h2
  have hst : ([a, b].any fun | .Starred .. => true | _ => false) = false := by
    cases a <;> first | (cases sa; done) | (cases b <;> first | rfl | cases sb)
  have hl' : py.line = px.line := eq_of_beq hl
  unfold swappedStores
  simp only [hb, hst, f1, f2, k1, k2, List.filterMap, Expr.pos, List.head?, hl', Option.map, Option.getD]
  have hxy' : (x == y) = false := by simpa using hxy
  have hd : ([x, y] : List Str).eraseDups.length = 2 := by
    have hyx : (y == x) = false := by simpa using (Ne.symm hxy)
    simp [List.eraseDups, List.eraseDupsBy, List.eraseDupsBy.loop, hxy', hyx]
  simp [hd]
  intro h
  rcases h with h | h
  · cases a <;> first | (cases h; done) | (cases sa; done)
  · cases b <;> first | (cases h; done) | (cases sb; done)
theorem sw3 {x y z : Str} {px py pz pt pt2 : Pos} {kt k2 : Nat} {a b d : PX} {env : PySem.Env} (hk : env.scope.kind = .function) (h1 : env.scope.names.lookup x = some .local) (h2 : env.scope.names.lookup y = some .local) (h3 : env.scope.names.lookup z = some .local) (hl : (py.line == px.line) = true) (hl2 : (pz.line == px.line) = true) (hxy : x ≠ y) (hxz : x ≠ z) (hyz : y ≠ z)
    (sa : noStar a = true) (sb : noStar b = true) (sd : noStar d = true) (f1 : ([a, b, d].all (foldedForSure 8)) = false) (f2 : ([a, b, d].all (constantsAlone 8)) = false) :
    swappedStores [.Tuple [.Name x px, .Name y py, .Name z pz] kt pt] (.Tuple [a, b, d] k2 pt2) env = pure (some [x, y, z]) := by
  have hb : env.blockKind = .function := by unfold Env.blockKind; rw [hk]; rfl
  have k1 : env.kindOf x = some .local := h1
  have k2 : env.kindOf y = some .local := h2
  have k3 : env.kindOf z = some .local := h3
  have hst : ([a, b, d].any fun | .Starred .. => true | _ => false) = false := by
    have e : ∀ (p : PX), noStar p = true → (match p with | .Starred .. => true | _ => false) = false := fun p h => by cases p <;> first | rfl | cases h
    simp [List.any, e a sa, e b sb, e d sd]
  have hl' : py.line = px.line := eq_of_beq hl
  have hl2' : pz.line = px.line := eq_of_beq hl2
  unfold swappedStores
  simp only [hb, hst, f1, f2, k1, k2, k3, List.filterMap, Expr.pos, List.head?, hl', hl2', Option.map, Option.getD]
  have hd : ([x, y, z] : List Str).eraseDups.length = 3 := by
    have e1 : (x == y) = false := by simpa using hxy
    have e2 : (x == z) = false := by simpa using hxz
    have e3 : (y == z) = false := by simpa using hyz
    have e4 : (y == x) = false := by simpa using (Ne.symm hxy)
    have e5 : (z == x) = false := by simpa using (Ne.symm hxz)
    have e6 : (z == y) = false := by simpa using (Ne.symm hyz)
    simp [List.eraseDups, List.eraseDupsBy, List.eraseDupsBy.loop, e1, e2, e3, e4, e5, e6]
  simp [hd]
  intro h
  rcases h with h | h | h
  · cases a <;> first | (cases h; done) | (cases sa; done)
  · cases b <;> first | (cases h; done) | (cases sb; done)
  · cases d <;> first | (cases h; done) | (cases sd; done)
theorem par2_rd {i j : Nat} {a b : E} (h : tS g call X W (.par (.tc (.nm i) (.tc (.nm j) .t0)) (.cons a (.cons b .nil))) D σ H) : tPar i j (tCons (tX g call X W a) (tCons (tX g call X W b) tNil)) D σ H := by
  obtain ⟨A, H0, F0, ρ, F, ω, r, q⟩ := h
  rw [evalS] at q
  obtain ⟨F1, r1, s1⟩ := r.frzL (escs (.cons a (.cons b .nil)))
  have q := q.mono s1
  simp only [evalEs, M.bnd_assoc, M.pure_bnd] at q
  refine ⟨A, H0, F0, _, F1, ω, r1, (SPost.bind r1 q).imp fun d1 ω1 H1 F2 g1 st1 q1 v1 hv1 => ?_⟩
  have r2 := r1.grow g1 st1
  refine ⟨A, H0, F0, _, F2, ω1, r2, (SPost.bind r2 q1).imp fun d2 ω2 H2 F3 g2 st2 q2 v2 hv2 => ?_⟩
  refine ⟨v1, v2, rfl, ?_⟩
  exact q2 _ H2 F3 ((r1.setX g1 st1 hv1 i).setX g2 st2 hv2 j) (Same.refl _)
theorem par3_rd {i j l : Nat} {a b d : E} (h : tS g call X W (.par (.tc (.nm i) (.tc (.nm j) (.tc (.nm l) .t0))) (.cons a (.cons b (.cons d .nil)))) D σ H) : tPar3 i j l (tCons (tX g call X W a) (tCons (tX g call X W b) (tCons (tX g call X W d) tNil))) D σ H := by
  obtain ⟨A, H0, F0, ρ, F, ω, r, q⟩ := h
  rw [evalS] at q
  obtain ⟨F1, r1, s1⟩ := r.frzL (escs (.cons a (.cons b (.cons d .nil))))
  have q := q.mono s1
  simp only [evalEs, M.bnd_assoc, M.pure_bnd] at q
  refine ⟨A, H0, F0, _, F1, ω, r1, (SPost.bind r1 q).imp fun d1 ω1 H1 F2 g1 st1 q1 v1 hv1 => ?_⟩
  have r2 := r1.grow g1 st1
  refine ⟨A, H0, F0, _, F2, ω1, r2, (SPost.bind r2 q1).imp fun d2 ω2 H2 F3 g2 st2 q2 v2 hv2 => ?_⟩
  have r3 := r2.grow g2 st2
  refine ⟨A, H0, F0, _, F3, ω2, r3, (SPost.bind r3 q2).imp fun d3 ω3 H3 F4 g3 st3 q3 v3 hv3 => ?_⟩
  refine ⟨v1, v2, v3, rfl, ?_⟩
  exact q3 _ H3 F4 (((r1.setX g1 st1 hv1 i).setX g2 st2 hv2 j).setX g3 st3 hv3 l) (Same.refl _)
/-! try -/
def vLit : PyData → V
  | .none => .non
  | .bool b => .bl b
  | .int i => .int i
  | .str x => .str x
  | _ => .non
theorem vLit_rep {d : PyData} {k : Const} (h : litB d k = true) : RepF K w F (vLit d) d := by
  cases d <;> cases k <;> first | (cases h; done) | exact .dat .non | exact .dat (.bl _) | exact .dat (.int _) | exact .dat (.str _)
theorem pe_lit {d : PyData} {k : Const} {j : Nat} {pos : Pos} {X : Cx} (h : litB d k = true) : PE X (.Constant k j pos) (tC (vLit d)) := by
  cases d <;> cases k <;> try (cases h; done)
  · exact pe_non
  · have e := eq_of_beq (show (_ == _) = true from h); subst e; exact pe_bl
  · have e := eq_of_beq (show (_ == _) = true from h); subst e; exact pe_int
  · have e := eq_of_beq (show (_ == _) = true from h); subst e; exact pe_str
def hdD : Hd → PyData
  | .lit d => d
  | _ => .none
def hdS (g : G) (h : Nat × Hd) : Value × (Addr → Value → Option Addr → TS) := (.ref (g.ca h.1), fun _ _ _ => tRet (tC (vLit (hdD h.2))))
def hdL : Nat × Hd → Bool
  | (_, .lit .none) | (_, .lit (.bool _)) | (_, .lit (.int _)) | (_, .lit (.str _)) => true
  | _ => false
theorem hdL_rep {h : Nat × Hd} {p : PyData} (e : hdL h = true) : RepF K w F (vLit (hdD h.2)) (evHd p h.2) := by
  obtain ⟨k, h⟩ := h
  cases h with
  | lit d => cases d <;> first | (cases e; done) | exact .dat .non | exact .dat (.bl _) | exact .dat (.int _) | exact .dat (.str _)
  | _ => cases e
def tTry (g : G) (call : Nat → List Slot → M PyData) (X : Cx) (r : Bool) (e : E) (W : WX) : TS := if r = true then tRet (tE g call X W e) else tDrop (tE g call X W e)
theorem try_rd {b : Bool} {e : E} {hs : List (Nat × Hd)} (hp : isPk e = false) (ex : ∀ i j, i < g.nc → j < g.nc → PySem.W.exmOne X.K (.ref (g.ca i)) (.ref (g.ca j)) = some (i == j)) (hk : ∀ h ∈ hs, h.1 < g.nc ∧ hdL h = true)
    (h : tS g call X W (.try_ b e hs) D σ H) : tTry g call X b e (wMany X.K W D (hs.map (hdS g))) D σ H := by
  obtain ⟨A, H0, F0, ρ, F, ω, r, q⟩ := h
  rw [evalS] at q
  obtain ⟨F1, r1, s1⟩ := r.frzL (esc e)
  replace q := q.mono s1
  simp only at q
  have fin : RPost g X.K (wMany X.K W D (hs.map (hdS g))) σ A H F1 (evalE g.gt call e (frz (esc e) ρ) ω) (fun d ω1 H' F' => SPost g X.K X.w W A H0 F0 F' D (R.ok (if b = true then .rt d else .nx (frz (esc e) ρ)) ω1)) := by
    cases ev : evalE g.gt call e (frz (esc e) ρ) ω with
    | ok d ω1 => rw [ev] at q; exact fun H' F' gr st => q.mono gr.fs
    | stuck => rw [ev] at q; exact q.elim
    | exc k p ω1 =>
      rw [ev] at q
      replace q : SPost g X.K X.w W A H0 F0 F1 D (match hs.lookup k with | some h => R.ok (.rt (evHd p h)) ω1 | none => .exc k p ω1) := q
      intro H' F' dx g2 st pk
      clear ev
      induction hs with
      | nil => exact q σ H' F' dx (r1.gr.trans g2) st pk
      | cons h0 hs ih =>
        obtain ⟨k0, h0⟩ := h0
        obtain ⟨e1, e2⟩ := hk (k0, h0) List.mem_cons_self
        refine ⟨k == k0, ex k k0 pk.1 e1, fun hb a na => ?_, fun hb => ?_⟩
        · rw [List.lookup_cons, hb] at q
          exact q _ H' F' (r1.gr.trans g2) st (hdL_rep e2)
        · rw [List.lookup_cons, hb] at q
          replace q : SPost g X.K X.w W A H0 F0 F1 D (match hs.lookup k with | some h => R.ok (.rt (evHd p h)) ω1 | none => .exc k p ω1) := q
          exact ih (fun h hm => hk h (List.mem_cons_of_mem _ hm)) q
  cases b with
  | true =>
    refine ⟨A, H0, F0, _, F1, ω, r1, fin.imp fun d ω1 H' F' g1 st q v hv => ?_⟩
    rw [hp] at hv
    exact q v H' F' (r1.gr.trans g1) st hv
  | false =>
    refine ⟨A, H0, F0, _, F1, ω, r1, fin.imp fun d ω1 H' F' g1 st q v hv => ?_⟩
    exact q σ H' F' (r1.grow g1 st) (Same.refl _)
end
end Wv

set_option autoImplicit false
set_option linter.all false
set_option maxRecDepth 100000
set_option maxHeartbeats 4000000
namespace Wv
open PySem PySem.Spec PyProof.Rows L2
section
abbrev PSt := PySem.Stmt
def sPass : PSt → Bool
  | .Pass _ => true
  | _ => false
theorem sPass_of {x : PSt} (h : sPass x = true) : ∃ p, x = .Pass p := by
  unfold sPass at h; split at h
  · exact ⟨_, rfl⟩
  · cases h
def sBrk : PSt → Bool
  | .Break _ => true
  | _ => false
theorem sBrk_of {x : PSt} (h : sBrk x = true) : ∃ p, x = .Break p := by
  unfold sBrk at h; split at h
  · exact ⟨_, rfl⟩
  · cases h
def sCnt : PSt → Bool
  | .Continue _ => true
  | _ => false
theorem sCnt_of {x : PSt} (h : sCnt x = true) : ∃ p, x = .Continue p := by
  unfold sCnt at h; split at h
  · exact ⟨_, rfl⟩
  · cases h
def sRetN : PSt → Bool
  | .Return none _ => true
  | _ => false
theorem sRetN_of {x : PSt} (h : sRetN x = true) : ∃ p, x = .Return none p := by
  unfold sRetN at h; split at h
  · exact ⟨_, rfl⟩
  · cases h
def sRet (x : PSt) (k : PX → Bool) : Bool := match x with
  | .Return (some e) _ => k e
  | _ => false
theorem sRet_of {x : PSt} {k : PX → Bool} (h : sRet x k = true) : ∃ e p, x = .Return (some e) p ∧ k e = true := by
  unfold sRet at h; split at h
  · exact ⟨_, _, rfl, h⟩
  · cases h
def sExpr (x : PSt) (k : PX → Bool) : Bool := match x with
  | .Expr e _ => k e
  | _ => false
theorem sExpr_of {x : PSt} {k : PX → Bool} (h : sExpr x k = true) : ∃ e p, x = .Expr e p ∧ k e = true := by
  unfold sExpr at h; split at h
  · exact ⟨_, _, rfl, h⟩
  · cases h
def sAsg (x : PSt) (k : PX → PX → Bool) : Bool := match x with
  | .Assign [t] e _ => k t e
  | _ => false
theorem sAsg_of {x : PSt} {k : PX → PX → Bool} (h : sAsg x k = true) : ∃ t e p, x = .Assign [t] e p ∧ k t e = true := by
  unfold sAsg at h; split at h
  · exact ⟨_, _, _, rfl, h⟩
  · cases h
def sAug (x : PSt) (k : PX → Operator → PX → Bool) : Bool := match x with
  | .AugAssign t o e _ => k t o e
  | _ => false
theorem sAug_of {x : PSt} {k : PX → Operator → PX → Bool} (h : sAug x k = true) : ∃ t o e p, x = .AugAssign t o e p ∧ k t o e = true := by
  unfold sAug at h; split at h
  · exact ⟨_, _, _, _, rfl, h⟩
  · cases h
def sIf (x : PSt) (k : PX → List PSt → List PSt → Bool) : Bool := match x with
  | .If t a b _ => k t a b
  | _ => false
theorem sIf_of {x : PSt} {k : PX → List PSt → List PSt → Bool} (h : sIf x k = true) : ∃ t a b p, x = .If t a b p ∧ k t a b = true := by
  unfold sIf at h; split at h
  · exact ⟨_, _, _, _, rfl, h⟩
  · cases h
def sWh (x : PSt) (k : PX → List PSt → Bool) : Bool := match x with
  | .While t a [] _ => k t a
  | _ => false
theorem sWh_of {x : PSt} {k : PX → List PSt → Bool} (h : sWh x k = true) : ∃ t a p, x = .While t a [] p ∧ k t a = true := by
  unfold sWh at h; split at h
  · exact ⟨_, _, _, rfl, h⟩
  · cases h
def sFor (x : PSt) (k : PX → PX → List PSt → Bool) : Bool := match x with
  | .For t e a [] _ => k t e a
  | _ => false
theorem sFor_of {x : PSt} {k : PX → PX → List PSt → Bool} (h : sFor x k = true) : ∃ t e a p, x = .For t e a [] p ∧ k t e a = true := by
  unfold sFor at h; split at h
  · exact ⟨_, _, _, _, rfl, h⟩
  · cases h
def sRaise (x : PSt) (k : Str → Bool) : Bool := match x with
  | .Raise (some (.Call (.Name n _) [] [] _)) none _ => k n
  | _ => false
theorem sRaise_of {x : PSt} {k : Str → Bool} (h : sRaise x k = true) : ∃ n p q r, x = .Raise (some (.Call (.Name n p) [] [] q)) none r ∧ k n = true := by
  unfold sRaise at h; split at h
  · exact ⟨_, _, _, _, rfl, h⟩
  · cases h
def sTry (x : PSt) (k : PSt → List ExceptHandler → Bool) : Bool := match x with
  | .Try [b] (h :: hs) [] [] _ => k b (h :: hs)
  | _ => false
theorem sTry_of {x : PSt} {k : PSt → List ExceptHandler → Bool} (h : sTry x k = true) : ∃ b h hs p, x = .Try [b] (h :: hs) [] [] p ∧ k b (h :: hs) = true := by
  unfold sTry at h; split at h
  · exact ⟨_, _, _, _, rfl, h⟩
  · cases h
def noLC : PX → Bool
  | .ListComp .. | .SetComp .. | .DictComp .. => false
  | _ => true
theorem noLC_of {e : PX} (h : noLC e = true) (t : Option PX) (l : Nat) (env : PySem.Env) : swapsWith e t l env = pure false := by
  cases e <;> first | rfl | cases h
/-- may be bound to a name -/
def okX : E → Bool
  | .lst _ | .dic _ | .sset _ | .comp .. | .comp2 .. | .bin .mul _ _ | .sl .. | .b1 .list _ | .b1 .sorted _ | .b1 .sortedr _ => true
  | e => !freshE e
def isComp : E → Bool
  | .comp .. => true
  | .comp2 .. => true
  | _ => false
/-! the clauses -/
def hdOne (c : Ck) (sc : Scope) (h : Nat × Hd) (x : ExceptHandler) : Bool := match x with
  | .ExceptHandler (some (.Name n _)) none [b] _ => (c.cl[h.1]? == some n) && glB sc n && plainN n && hdL h && sRet b fun e => vConst e (litB (hdD h.2))
  | _ => false
def chkHs (c : Ck) (sc : Scope) : List (Nat × Hd) → List ExceptHandler → Bool
  | [], [] => true
  | h :: hs, x :: xs => hdOne c sc h x && chkHs c sc hs xs
  | _, _ => false
def prEs (es : Es) (vs : List PX) (k2 : E → PX → E → PX → Bool) (k3 : E → PX → E → PX → E → PX → Bool) : Bool := match es, vs with
  | .cons a (.cons b .nil), [x, y] => k2 a x b y
  | .cons a (.cons b (.cons d .nil)), [x, y, z] => k3 a x b y d z
  | _, _ => false
def prT (t : Tg) (x : PX) (k2 : Nat → Str → Pos → Nat → Str → Pos → Bool) (k3 : Nat → Str → Pos → Nat → Str → Pos → Nat → Str → Pos → Bool) : Bool := match t, x with
  | .tc (.nm i) (.tc (.nm j) .t0), .Tuple [.Name a p, .Name b q] _ _ => k2 i a p j b q
  | .tc (.nm i) (.tc (.nm j) (.tc (.nm l) .t0)), .Tuple [.Name a p, .Name b q, .Name d r] _ _ => k3 i a p j b q l d r
  | _, _ => false
def nmL (c : Ck) (sc : Scope) (i : Nat) (x : Str) : Bool := (c.N[i]? == some x) && (sc.names.lookup x == some .local)
def chkV (c : Ck) (sc : Scope) (e : E) (x : PX) : Bool := chkE c e sc x && vl e && okX e && noStar x
def chkPar (c : Ck) (sc : Scope) (t : Tg) (es : Es) (x v : PX) : Bool := vTup v fun vs =>
  prEs es vs
    (fun a xa b xb => chkV c sc a xa && chkV c sc b xb && !([xa, xb].all (foldedForSure 8)) && !([xa, xb].all (constantsAlone 8)) &&
      prT t x (fun i n p j m q => nmL c sc i n && nmL c sc j m && (q.line == p.line) && decide (i ≠ j) && decide (n ≠ m)) (fun _ _ _ _ _ _ _ _ _ => false))
    (fun a xa b xb d xd => chkV c sc a xa && chkV c sc b xb && chkV c sc d xd && !([xa, xb, xd].all (foldedForSure 8)) && !([xa, xb, xd].all (constantsAlone 8)) &&
      prT t x (fun _ _ _ _ _ _ => false) (fun i n p j m q l o r => nmL c sc i n && nmL c sc j m && nmL c sc l o && (q.line == p.line) && (r.line == p.line) && decide (i ≠ j) && decide (i ≠ l) && decide (j ≠ l) && decide (n ≠ m) && decide (n ≠ o) && decide (m ≠ o)))
mutual
def chkS (c : Ck) : S → Scope → PSt → Bool
  | .pass, _, x => sPass x
  | .brk, _, x => sBrk x
  | .cnt, _, x => sCnt x
  | .retn, _, x => sRetN x
  | .ret e, sc, x => sRet x fun y => chkE c e sc y && vl e
  | .expr e, sc, x => sExpr x fun y => chkE c e sc y && !isIt e && noLC y
  | .asg t e, sc, x => sAsg x fun y z => chkE c e sc z && vl e && noStar y && (match t with
      | .nm i => vName y (fun n => tgE c (fun _ => true) sc i n) && okX e && (isComp e || noLC z)
      | t => chkTg c (fun _ => true) sc t y && noLC z && (swapFree y z))
  | .par t es, sc, x => sAsg x fun y z => chkPar c sc t es y z
  | .aug i o e, sc, x => sAug x fun y p z => vName y (fun n => tgE c (fun _ => true) sc i n) && (isBin o == some p) && isAug o && chkE c e sc z && vl e
  | .sset i k e, sc, x => sAsg x fun y z => vIx y (fun u v => vName u (varB c sc i) && vConst v (fun w => litB (.int (k : Nat)) w)) && chkE c e sc z && vl e
  | .app i e, sc, x => sExpr x fun y => vMeth y (Str.ofString "append") fun u z => vName u (varB c sc i) && chkE c e sc z && vl e
  | .ext i e, sc, x => sExpr x fun y => vMeth y (Str.ofString "extend") fun u z => vName u (varB c sc i) && chkE c e sc z && !isIt e
  | .setix i k e, sc, x => sAsg x fun y z => vIx y (fun u v => vName u (varB c sc i) && chkE c k sc v && !isIt k && noSlice v) && chkE c e sc z && vl e
  | .augix i o k e, sc, x => sAug x fun y p z => vIx y (fun u v => vName u (varB c sc i) && chkE c k sc v && !isIt k && noSlice v) && (isBin o == some p) && isAug o && chkE c e sc z && vl e
  | .ite e a b, sc, x => sIf x fun t p q => chkE c e sc t && tst e && okT e t && chkSs c a sc p && chkSs c b sc q
  | .wh e b, sc, x => sWh x fun t p => chkE c e sc t && tst e && okT e t && chkSs c b sc p
  | .for_ t it b, sc, x => sFor x fun y z p => chkTg c (fun _ => true) sc t y && chkE c it sc z && !isPk it && (noSet z && okTg it y) && chkSs c b sc p
  | .raise k, sc, x => sRaise x fun n => (c.cl[k]? == some n) && glB sc n && plainN n
  | .try_ r e hs, sc, x => sTry x fun b xs => chkHs c sc hs xs && (if r = true then sRet b fun y => chkE c e sc y && vl e else sExpr b fun y => chkE c e sc y && vl e && noLC y)
  | _, _, _ => false
def chkSs (c : Ck) : S → Scope → List PSt → Bool
  | .skip, _, xs => xs.isEmpty
  | .seq a b, sc, xs => match xs with
    | [] => false
    | x :: xs => chkS c a sc x && chkSs c b sc xs
  | _, _, _ => false
/-- a tuple's names, stored one after the other -/
def swapFree (y z : PX) : Bool := match y, z with
  | .Tuple .., .Tuple vs _ _ => vs.all (foldedForSure 8)
  | .List .., _ => false
  | _, _ => true
end
end
end Wv

set_option autoImplicit false
set_option linter.all false
set_option maxRecDepth 100000
set_option maxHeartbeats 4000000
namespace Wv
open PySem PySem.Spec PyProof.Rows L2
section
variable {g : G} {c : Ck} {call : Nat → List Slot → M PyData} {X : Cx} {sc : Scope} {W : WX}
structure GS (g : G) (c : Ck) (call : Nat → List Slot → M PyData) (X : Cx) (sc : Scope) : Prop extends Gd g c call X sc where
  cls : ∀ k x, c.cl[k]? = some x → k < g.nc ∧ X.mg x = some (.ref (g.ca k)) ∧ PySem.W.keepIn X.K (.ref (g.ca k)) = true ∧ (∃ bmB B newId initId, ExcBaseFacts B newId initId bmB ∧ PySem.W.excIn X.K (g.ca k) bmB newId = true) ∧ Raises X (.ref (g.ca k))
  exm : ∀ i j, i < g.nc → j < g.nc → PySem.W.exmOne X.K (.ref (g.ca i)) (.ref (g.ca j)) = some (i == j)
  pass : PassesOwn (model X.prog X.w) X.A X.env X.xe
  fn : ∀ x, X.fn x = true
  stk : X.stack = X.env :: X.outer
  frm : X.env.frame = some X.env.locals
  kind : X.env.scope.kind = .function
theorem PS.wk {st : PSt} {t t' : TS} (h : PS X st t) (i : ∀ D σ H, t' D σ H → t D σ H) : PS X st t' := ⟨fun pins s σ H D I q => h.run pins s σ H D I (i D σ H q)⟩
theorem PSs.wk {st : List PSt} {t t' : TS} (h : PSs X st t) (i : ∀ D σ H, t' D σ H → t D σ H) : PSs X st t' := ⟨fun pins s σ H D I q => h.run pins s σ H D I (i D σ H q)⟩
theorem sw_none {ys : List PX} {k : Nat} {p : Pos} {z : PX} {env : PySem.Env} (h : swapFree (.Tuple ys k p) z = true) : swappedStores [.Tuple ys k p] z env = pure none := by
  cases z with
  | Tuple vs k2 p2 =>
    have h : vs.all (foldedForSure 8) = true := h
    unfold swappedStores
    simp only [h, if_true]
    repeat (first | rfl | split)
  | _ => first | rfl | cases h
/-- a comprehension, as a value and as what a name is bound to -/
theorem lc_both {t : Tg} {it : E} {ts : Es} {e : E} {x : PX} (G : Gd g c call X sc) (tk : Takes X W) (h : chkE c (.comp t it ts e) sc x = true) : ∃ elt gs sc2 p, x = .ListComp elt gs sc2 p ∧ isPk e = false ∧
    PE X x (tLc (tI g call X W false it) (tG g X (tgS t) t) (tTs g call X W0 ts) (tE g call X W0 e) (tgS t)) ∧
    ∀ (i : Nat) (y : Str) (py spos : Pos), X.N[i]? = some y → X.env.scope.names.lookup y = some .local → swapsWith x (some (.Name y py)) spos.line X.env = pure true →
      PS X (.Assign [.Name y py] x spos) (tAsg (tLc (tI g call X W false it) (tG g X (tgS t) t) (tTs g call X W0 ts) (tE g call X W0 e) (tgS t)) (gName i)) := by
  rw [chkE] at h
  obtain ⟨elt, tg, iter, ifs, sc2, p, rfl, h⟩ := vComp_of h
  obtain ⟨h, h8⟩ := and2 h
  obtain ⟨h, h7⟩ := and2 h
  obtain ⟨h, h6⟩ := and2 h
  obtain ⟨h, h5⟩ := and2 h
  obtain ⟨h, h4⟩ := and2 h
  obtain ⟨h1, h2, h3⟩ := and3 h
  have hv := eq_of_beq h5
  have hi : PI X tg iter (tI g call X W false it) := (snd it X sc iter W G tk h1).2.1 tg false rfl (and2 h2).2
  have ok : BlkOk X.N X.env.scope sc2 (ownOf c.N (tgS t)) := by rw [G.N, G.sc]; exact blkOk_by h4
  have hg := fun (s : Shared) (H : Hp) (C : Addr) (cl : List (Str × Addr)) (fp : List Addr) => snd_tg (vs := tgS t) (X := X.blk s H sc2 (compEnvC sc2 cl C X.env) fp) (blk_gd G (and2 (and2 h2).1).2) (fun _ h => h) t tg h3
  have ht := fun (s : Shared) (H : Hp) (C : Addr) (cl : List (Str × Addr)) (fp : List Addr) => sndTs ts (X.blk s H sc2 (compEnvC sc2 cl C X.env) fp) _ ifs W0 (blk_gd G (and2 (and2 h2).1).2) takes0 h6
  have he := fun (s : Shared) (H : Hp) (C : Addr) (cl : List (Str × Addr)) (fp : List Addr) => ((snd e (X.blk s H sc2 (compEnvC sc2 cl C X.env) fp) _ elt W0 (blk_gd G (and2 (and2 h2).1).2) takes0 h7).1 (vl_of h8).2).1
  refine ⟨elt, _, sc2, p, rfl, (vl_of h8).1, ?_, fun i y py spos hy hyl hsw => ?_⟩
  · have hp := pe_lc (pos := p) (wi := tI g call X W false it) (g := tG g X (tgS t) t) (tt := tTs g call X W0 ts) (te := tE g call X W0 e) G.calm (by rw [G.N]; exact G.nd) hi ok hg ht he (noFold (and2 (and2 h2).1).1 _)
    rw [hv] at hp
    exact hp
  · have hp := ps_setLc (py := py) (spos := spos) (wi := tI g call X W false it) (g := tG g X (tgS t) t) (tt := tTs g call X W0 ts) (te := tE g call X W0 e) G.calm (by rw [G.N]; exact G.nd) hy hyl hsw hi ok hg ht he (noFold (and2 (and2 h2).1).1 _)
    rw [hv] at hp
    exact hp
/-- .. of two clauses -/
theorem lc2_both {t t2 : Tg} {it it2 : E} {ts ts2 : Es} {e : E} {x : PX} (G : Gd g c call X sc) (tk : Takes X W) (h : chkE c (.comp2 t it ts t2 it2 ts2 e) sc x = true) : ∃ elt gs sc2 p, x = .ListComp elt gs sc2 p ∧ isPk e = false ∧
    PE X x (tLc2 (tI g call X W false it) (tG g X (tgS t ++ tgS t2) t) (tTs g call X W0 ts) (tI g call X W0 true it2) (tG g X (tgS t2) t2) (tTs g call X W0 ts2) (tE g call X W0 e) (tgS t ++ tgS t2) (tgS t2)) ∧
    ∀ (i : Nat) (y : Str) (py spos : Pos), X.N[i]? = some y → X.env.scope.names.lookup y = some .local → swapsWith x (some (.Name y py)) spos.line X.env = pure true →
      PS X (.Assign [.Name y py] x spos) (tAsg (tLc2 (tI g call X W false it) (tG g X (tgS t ++ tgS t2) t) (tTs g call X W0 ts) (tI g call X W0 true it2) (tG g X (tgS t2) t2) (tTs g call X W0 ts2) (tE g call X W0 e) (tgS t ++ tgS t2) (tgS t2)) (gName i)) := by
  rw [chkE] at h
  obtain ⟨elt, tg, iter, ifs, tg1, iter1, ifs1, sc2, p, rfl, h⟩ := vComp2_of h
  obtain ⟨h, h13⟩ := and2 h
  obtain ⟨h, h12⟩ := and2 h
  obtain ⟨h, h11⟩ := and2 h
  obtain ⟨h, h10⟩ := and2 h
  obtain ⟨h, h9⟩ := and2 h
  obtain ⟨h, h8⟩ := and2 h
  obtain ⟨h, h7⟩ := and2 h
  obtain ⟨h, h6⟩ := and2 h
  obtain ⟨h, h5⟩ := and2 h
  obtain ⟨h, h4⟩ := and2 h
  obtain ⟨h1, h2, h3⟩ := and3 h
  have hv := eq_of_beq h6
  have hg2 := (and2 (and2 h2).1).2
  have hi : PI X tg iter (tI g call X W false it) := (snd it X sc iter W G tk h1).2.1 tg false rfl (and2 h2).2
  have ok : BlkOk X.N X.env.scope sc2 (ownOf c.N (tgS t ++ tgS t2)) := by rw [G.N, G.sc]; exact blkOk_by h5
  have hvs : ∀ i ∈ tgS t2, i ∈ (ownOf c.N (tgS t ++ tgS t2)).map (·.2) := fun i hi => by rw [hv]; exact List.mem_append_right _ hi
  have hg := fun (s : Shared) (H : Hp) (C : Addr) (cl : List (Str × Addr)) (fp : List Addr) => snd_tg (vs := tgS t ++ tgS t2) (X := X.blk s H sc2 (compEnvC sc2 cl C X.env) fp) (blk_gd G hg2) (fun _ h => h) t tg h4
  have ht := fun (s : Shared) (H : Hp) (C : Addr) (cl : List (Str × Addr)) (fp : List Addr) => sndTs ts (X.blk s H sc2 (compEnvC sc2 cl C X.env) fp) _ ifs W0 (blk_gd G hg2) takes0 h7
  have hi1 := fun (s : Shared) (H : Hp) (C : Addr) (cl : List (Str × Addr)) (fp : List Addr) => (snd it2 (X.blk s H sc2 (compEnvC sc2 cl C X.env) fp) _ iter1 W0 (blk_gd G hg2) takes0 h8).2.1 tg1 true (by simpa using h9) (and2 h3).2
  have hg1 := fun (s : Shared) (H : Hp) (C : Addr) (cl : List (Str × Addr)) (fp : List Addr) => snd_tg (vs := tgS t2) (X := X.blk s H sc2 (compEnvC sc2 cl C X.env) fp) (blk_gd G hg2) (fun _ h => h) t2 tg1 h10
  have ht1 := fun (s : Shared) (H : Hp) (C : Addr) (cl : List (Str × Addr)) (fp : List Addr) => sndTs ts2 (X.blk s H sc2 (compEnvC sc2 cl C X.env) fp) _ ifs1 W0 (blk_gd G hg2) takes0 h11
  have he := fun (s : Shared) (H : Hp) (C : Addr) (cl : List (Str × Addr)) (fp : List Addr) => ((snd e (X.blk s H sc2 (compEnvC sc2 cl C X.env) fp) _ elt W0 (blk_gd G hg2) takes0 h12).1 (vl_of h13).2).1
  refine ⟨elt, _, sc2, p, rfl, (vl_of h13).1, ?_, fun i y py spos hy hyl hsw => ?_⟩
  · have hp := pe_lc2 (pos := p) (vs1 := tgS t2) (wi := tI g call X W false it) (g := tG g X (tgS t ++ tgS t2) t) (tt := tTs g call X W0 ts) (wi1 := tI g call X W0 true it2) (g1 := tG g X (tgS t2) t2) (tt1 := tTs g call X W0 ts2) (te := tE g call X W0 e) G.calm (by rw [G.N]; exact G.nd) hi ok hvs hg ht hi1 hg1 ht1 he (noFold (and2 (and2 h2).1).1 _) (fun env => noFold (and2 h3).1 env)
    rw [hv] at hp
    exact hp
  · have hp := ps_setLc2 (py := py) (spos := spos) (vs1 := tgS t2) (wi := tI g call X W false it) (g := tG g X (tgS t ++ tgS t2) t) (tt := tTs g call X W0 ts) (wi1 := tI g call X W0 true it2) (g1 := tG g X (tgS t2) t2) (tt1 := tTs g call X W0 ts2) (te := tE g call X W0 e) G.calm (by rw [G.N]; exact G.nd) hy hyl hsw hi ok hvs hg ht hi1 hg1 ht1 he (noFold (and2 (and2 h2).1).1 _) (fun env => noFold (and2 h3).1 env)
    rw [hv] at hp
    exact hp
theorem sndX {e : E} {x : PX} (G : Gd g c call X sc) (tk : Takes X W) (h : chkE c e sc x = true) (hv : vl e = true) (ho : okX e = true) : PE X x (tX g call X W e) := by
  cases hf : freshE e with
  | false => exact PE.wk ((snd e X sc x W G tk h).1 (vl_of hv).2).1 fun σ H Q q => tX_e (vl_of hv).1 hf q
  | true =>
    cases e with
    | lst es =>
      rw [chkE] at h
      obtain ⟨xs, p, rfl, h⟩ := vLst_of h
      obtain ⟨h1, h2⟩ := and2 h
      have hn : lenEs es ≤ sizeLine := by
        rw [es_len es xs h1, sizeLine_eq]
        exact Nat.le_trans (of_decide_eq_true h2) (by decide)
      exact PE.wk (pe_lst (sndEs es X sc xs W G tk h1)) fun σ H Q q => lstN_rd hn (tX_n rfl q)
    | bin o a b =>
      cases o with
      | mul =>
        rw [chkE] at h
        rcases vBin_of h with ⟨l, p, r, q, rfl, h1, h2⟩ | ⟨l, p, r, q, rfl, h1, hm, h2⟩
        · obtain ⟨h3, h6⟩ := and2 h2
          obtain ⟨h3, h5⟩ := and2 h3
          obtain ⟨h3, h4⟩ := and2 h3
          cases h1
          exact PE.wk (pe_op or_mulN ((snd a X sc l W G tk h3).1 (nb h5)).1 ((snd b X sc r W G tk h4).1 (nb h6)).1) fun σ H Q q => mulN_rd q
        · cases h1
      | _ => cases hf
    | comp t it ts e =>
      obtain ⟨elt, gs, sc2, p, rfl, hp, h2, _⟩ := lc_both G tk h
      exact PE.wk h2 fun σ H Q q => comp_rd hp (tX_n rfl q)
    | comp2 t it ts t2 it2 ts2 e =>
      obtain ⟨elt, gs, sc2, p, rfl, hp, h2, _⟩ := lc2_both G tk h
      exact PE.wk h2 fun σ H Q q => comp2_rd hp (tX_n rfl q)
    | sl a lo hi st =>
      rw [chkE] at h
      obtain ⟨y, z, p, rfl, h⟩ := vIx_of h
      obtain ⟨l, u, k, p2, rfl, h⟩ := vSl_of h
      obtain ⟨h, h5⟩ := and2 h
      obtain ⟨h, h4⟩ := and2 h
      obtain ⟨h1, h2, h3⟩ := and3 h
      have py := ((snd a X sc y W G tk h1).1 (nb h2)).1
      have ol : PO X l (tO g call X W lo l) := po_opt fun w hw => by
        subst hw
        obtain ⟨e1, e2⟩ := and2 (show (chkE c lo sc w && vl lo) = true from h3)
        exact ((snd lo X sc w W G tk e1).1 (vl_of e2).2).1
      have ou : PO X u (tO g call X W hi u) := po_opt fun w hw => by
        subst hw
        obtain ⟨e1, e2⟩ := and2 (show (chkE c hi sc w && vl hi) = true from h4)
        exact ((snd hi X sc w W G tk e1).1 (vl_of e2).2).1
      have ok : PO X k (tO g call X W st k) := po_opt fun w hw => by
        subst hw
        obtain ⟨e1, e2⟩ := and2 (show (chkE c st sc w && vl st) = true from h5)
        exact ((snd st X sc w W G tk e1).1 (vl_of e2).2).1
      exact PE.wk (pe_slice3 slr_ok py ol ou ok) fun σ H Q q => sl_rd (optB_none h3) (optB_none h4) (optB_none h5) (optB_pk h3) (optB_pk h4) (optB_pk h5) (tX_n rfl q)
    | dic es =>
      rw [chkE] at h
      obtain ⟨h1, h2⟩ := and2 h
      obtain ⟨p, rfl⟩ := vDic0_of h2
      exact PE.wk pe_dnewK fun σ H Q q => dic0_rd h1 (tX_n rfl q)
    | sset a =>
      rw [chkE] at h
      obtain ⟨n, np, xs, q, rfl, h⟩ := vCall_of h
      obtain ⟨h1, h2⟩ := and2 h
      obtain ⟨y, rfl, s1, h2⟩ := v1_of h2
      obtain ⟨m, mp, ys, q2, rfl, h2⟩ := vCall_of h2
      obtain ⟨h3, h4⟩ := and2 h2
      obtain ⟨z, rfl, s2, h4⟩ := v1_of h4
      obtain ⟨h4, h5⟩ := and2 h4
      obtain ⟨rfl, hg⟩ := glc_of h1
      obtain ⟨rfl, hg2⟩ := glc_of h3
      have pz := ((snd a X sc z W G tk h4).1 (nb h5)).1
      exact PE.wk (pe_sset (gl_of G hg) (G.frn "sorted" (by decide)) (gl_of G hg2) (G.frn "set" (by decide)) pz G.calm s2) fun σ H Q q => ssetE_rd (tX_n rfl q)
    | b1 p a =>
      by_cases hsp : p = .sortedr
      · subst hsp
        rw [chkE] at h
        obtain ⟨n, np, y, j, p2, p3, q, rfl, s1, h⟩ := vRev_of h
        obtain ⟨h1, h3, h4⟩ := and3 h
        obtain ⟨rfl, hg⟩ := glc_of h1
        have py := ((snd a X sc y W G tk h3).1 (nb h4)).1
        have hu : X.A.units + 100 < cLine := by have := G.hu; omega
        have hst : starEach [y] X.env = (false, eval y X.env) :: starEach [] X.env := star_of s1
        exact PE.wk (pe_callBK (cr_sortedR hu) (gl_of G hg) (G.frn "sorted" (by decide)) (by decide +kernel) (pa_cons py pa_nil hst) (pk_cons pe_bl pk_nil) (by decide) (by decide) (by rw [hst]; rfl) (by rw [hst]; rfl) rfl rfl rfl) fun σ H Q q => sortedr_rd (tX_n rfl q)
      rw [chkE] at h
      rotate_left 1
      · exact hsp
      obtain ⟨n, np, xs, q, rfl, h⟩ := vCall_of h
      obtain ⟨h1, h2, h3⟩ := and3 h
      obtain ⟨y, rfl, s1, h3⟩ := v1_of h3
      obtain ⟨h3, h4⟩ := and2 h3
      obtain ⟨rfl, hg⟩ := glc_of h1
      have q := snd a X sc y W G tk h3
      rcases Bool.or_eq_true_iff.mp h4 with h4 | h4
      · have py := (q.1 (nb h4)).1
        have h2 : okN1 p = true := by cases p <;> first | rfl | (cases hf; done) | (cases ho; done) | exact absurd rfl hsp
        exact PE.wk (b1N_pe G h2 hg s1 py) fun σ H Q q => tX_n hf q
      · obtain ⟨h5, h6⟩ := and2 h4
        have h6 : p = .len := eq_of_beq h6
        subst h6
        cases hf
    | _ => first | (cases hf; done) | (simp [okX, hf] at ho; done)
theorem nm_of {i : Nat} {y : Str} {sc : Scope} {fb : Str → Bool} (h : tgE c fb sc i y = true) : c.N[i]? = some y ∧ Loc sc y := by
  unfold tgE at h
  obtain ⟨h1, h2⟩ := and2 h
  refine ⟨eq_of_beq h1, ?_⟩
  rcases Bool.or_eq_true_iff.mp h2 with h | h
  · exact .inl (eq_of_beq h)
  · exact .inr (eq_of_beq (and2 h).1)
theorem nmL_of {i : Nat} {y : Str} {sc : Scope} (h : nmL c sc i y = true) : c.N[i]? = some y ∧ sc.names.lookup y = some .local := by
  obtain ⟨h1, h2⟩ := and2 h
  exact ⟨eq_of_beq h1, eq_of_beq h2⟩
theorem prEs_of {es : Es} {vs : List PX} {k2 : E → PX → E → PX → Bool} {k3 : E → PX → E → PX → E → PX → Bool} (h : prEs es vs k2 k3 = true) :
    (∃ a b x y, es = .cons a (.cons b .nil) ∧ vs = [x, y] ∧ k2 a x b y = true) ∨ ∃ a b d x y z, es = .cons a (.cons b (.cons d .nil)) ∧ vs = [x, y, z] ∧ k3 a x b y d z = true := by
  unfold prEs at h; split at h
  · exact .inl ⟨_, _, _, _, rfl, rfl, h⟩
  · exact .inr ⟨_, _, _, _, _, _, rfl, rfl, h⟩
  · cases h
theorem prT_of {t : Tg} {x : PX} {k2 : Nat → Str → Pos → Nat → Str → Pos → Bool} {k3 : Nat → Str → Pos → Nat → Str → Pos → Nat → Str → Pos → Bool} (h : prT t x k2 k3 = true) :
    (∃ i j a p b q kt pt, t = .tc (.nm i) (.tc (.nm j) .t0) ∧ x = .Tuple [.Name a p, .Name b q] kt pt ∧ k2 i a p j b q = true) ∨ ∃ i j l a p b q d r kt pt, t = .tc (.nm i) (.tc (.nm j) (.tc (.nm l) .t0)) ∧ x = .Tuple [.Name a p, .Name b q, .Name d r] kt pt ∧ k3 i a p j b q l d r = true := by
  unfold prT at h; split at h
  · exact .inl ⟨_, _, _, _, _, _, _, _, rfl, rfl, h⟩
  · exact .inr ⟨_, _, _, _, _, _, _, _, _, _, _, rfl, rfl, h⟩
  · cases h
theorem swSole_tup {ts : List PX} {k : Nat} {p : Pos} {e : PX} {l : Nat} {env : PySem.Env} : swapsWithSole [.Tuple ts k p] e l env = pure false := by
  cases e <;> rfl
theorem par_ps {t : Tg} {es : Es} {y z : PX} {p : Pos} (G : GS g c call X sc) (tk : Takes X W) (h : chkPar c sc t es y z = true) : PS X (.Assign [y] z p) (tS g call X W (.par t es)) := by
  obtain ⟨vs, k2, pt2, rfl, h⟩ := vTup_of h
  have hN : X.N.Nodup := by rw [G.N]; exact G.nd
  have ve : ∀ {e : E} {x : PX}, chkV c sc e x = true → PE X x (tX g call X W e) ∧ noStar x = true := fun {e x} h => by
    obtain ⟨h, h4⟩ := and2 h
    obtain ⟨h1, h2, h3⟩ := and3 h
    exact ⟨sndX G.toGd tk h1 h2 h3, h4⟩
  rcases prEs_of h with ⟨a, b, xa, xb, rfl, rfl, h⟩ | ⟨a, b, d, xa, xb, xd, rfl, rfl, h⟩
  · obtain ⟨h, hT⟩ := and2 h
    obtain ⟨h, f2⟩ := and2 h
    obtain ⟨h1, h2, f1⟩ := and3 h
    obtain ⟨pa, sa⟩ := ve h1
    obtain ⟨pb, sb⟩ := ve h2
    rcases prT_of hT with ⟨i, j, n, pn, m, pm, kt, pt, rfl, rfl, hh⟩ | ⟨i, j, l, n, pn, m, pm, o, po, kt, pt, rfl, rfl, hh⟩
    · obtain ⟨hh, e5⟩ := and2 hh
      obtain ⟨hh, e4⟩ := and2 hh
      obtain ⟨e1, e2, e3⟩ := and3 hh
      obtain ⟨n1, l1⟩ := nmL_of e1
      obtain ⟨n2, l2⟩ := nmL_of e2
      rw [← G.sc] at l1 l2
      rw [← G.N] at n1 n2
      exact PS.wk (ps_par G.calm hN n1 n2 (of_decide_eq_true e4) l1 l2 (pa_cons pa (pa_cons pb pa_nil (star_of sb)) (star_of sa)) (sw2 G.kind l1 l2 e3 (of_decide_eq_true e5) sa sb (nb f1) (nb f2)) swSole_tup) fun D σ H q => par2_rd q
    · cases hh
  · obtain ⟨h, hT⟩ := and2 h
    obtain ⟨h, f2⟩ := and2 h
    obtain ⟨h, f1⟩ := and2 h
    obtain ⟨h1, h2, h3⟩ := and3 h
    obtain ⟨pa, sa⟩ := ve h1
    obtain ⟨pb, sb⟩ := ve h2
    obtain ⟨pd, sd⟩ := ve h3
    rcases prT_of hT with ⟨i, j, n, pn, m, pm, kt, pt, rfl, rfl, hh⟩ | ⟨i, j, l, n, pn, m, pm, o, po, kt, pt, rfl, rfl, hh⟩
    · cases hh
    · obtain ⟨hh, e11⟩ := and2 hh
      obtain ⟨hh, e10⟩ := and2 hh
      obtain ⟨hh, e9⟩ := and2 hh
      obtain ⟨hh, e8⟩ := and2 hh
      obtain ⟨hh, e7⟩ := and2 hh
      obtain ⟨hh, e6⟩ := and2 hh
      obtain ⟨hh, e5⟩ := and2 hh
      obtain ⟨hh, e4⟩ := and2 hh
      obtain ⟨e1, e2, e3⟩ := and3 hh
      obtain ⟨n1, l1⟩ := nmL_of e1
      obtain ⟨n2, l2⟩ := nmL_of e2
      obtain ⟨n3, l3⟩ := nmL_of e3
      rw [← G.sc] at l1 l2 l3
      rw [← G.N] at n1 n2 n3
      exact PS.wk (ps_par3 G.calm hN n1 n2 n3 (of_decide_eq_true e6) (of_decide_eq_true e7) (of_decide_eq_true e8) l1 l2 l3 (pa_cons pa (pa_cons pb (pa_cons pd pa_nil (star_of sd)) (star_of sb)) (star_of sa))
        (sw3 G.kind l1 l2 l3 e4 e5 (of_decide_eq_true e9) (of_decide_eq_true e10) (of_decide_eq_true e11) sa sb sd (nb f1) (nb f2)) swSole_tup) fun D σ H q => par3_rd q
theorem tr_gd {pn : List (Addr × Obj)} {xe : Value → Shared → Prop} (G : Gd g c call X sc) : Gd g c call (X.tr pn xe) sc := ⟨G.sc, G.N, G.nd, G.calm, G.fns, G.drw, G.rm, G.gn, G.frn⟩
theorem hds_ok (G : GS g c call X sc) : ∀ (hs : List (Nat × Hd)) (xs : List ExceptHandler), chkHs c sc hs xs = true → HdsOk X xs (hs.map (hdS g)) ∧ ∀ h ∈ hs, h.1 < g.nc ∧ hdL h = true
  | [], [], _ => ⟨.nil, fun h z => by cases z⟩
  | [], _ :: _, h => by cases h
  | _ :: _, [], h => by cases h
  | (k, hd) :: hs, x :: xs, h => by
    obtain ⟨h1, h2⟩ := and2 (show (hdOne c sc (k, hd) x && chkHs c sc hs xs) = true from h)
    unfold hdOne at h1
    obtain ⟨r1, r2⟩ := hds_ok G hs xs h2
    split at h1
    · obtain ⟨h1, h7⟩ := and2 h1
      obtain ⟨h1, h6⟩ := and2 h1
      obtain ⟨h3, h4, h5⟩ := and3 h1
      obtain ⟨e, p, rfl, h8⟩ := sRet_of h7
      obtain ⟨w, j, p2, rfl, h9⟩ := vConst_of h8
      obtain ⟨c1, c2, c3, c4, c5⟩ := G.cls k _ (eq_of_beq h3)
      refine ⟨.cons ⟨gl_of G.toGd h4, plainN_of h5, .inl c2⟩ (fun a oe cls d pn _ _ => ?_) r1, fun h hm => ?_⟩
      · exact pss_one (ps_ret (pe_lit h9))
      · rcases List.mem_cons.mp hm with e | e
        · subst e; exact ⟨c1, h6⟩
        · exact r2 h e
    · cases h1
mutual
theorem sndS : ∀ (s : S) (X : Cx) (sc : Scope) (x : PSt) (W : WX), GS g c call X sc → Takes X W → chkS c s sc x = true → PS X x (tS g call X W s)
  | .pass, X, sc, x, W, G, tk, h => by
    rw [chkS] at h
    obtain ⟨p, rfl⟩ := sPass_of h
    exact PS.wk ps_pass fun D σ H q => pass_rd q
  | .brk, X, sc, x, W, G, tk, h => by
    rw [chkS] at h
    obtain ⟨p, rfl⟩ := sBrk_of h
    exact PS.wk ps_break fun D σ H q => brk_rd q
  | .cnt, X, sc, x, W, G, tk, h => by
    rw [chkS] at h
    obtain ⟨p, rfl⟩ := sCnt_of h
    exact PS.wk ps_continue fun D σ H q => cnt_rd q
  | .retn, X, sc, x, W, G, tk, h => by
    rw [chkS] at h
    obtain ⟨p, rfl⟩ := sRetN_of h
    exact PS.wk ps_retN fun D σ H q => retn_rd q
  | .ret e, X, sc, x, W, G, tk, h => by
    rw [chkS] at h
    obtain ⟨y, p, rfl, h⟩ := sRet_of h
    obtain ⟨h1, h2⟩ := and2 h
    exact PS.wk (ps_ret ((snd e X sc y W G.toGd tk h1).1 (vl_of h2).2).1) fun D σ H q => ret_rd (vl_of h2).1 q
  | .expr e, X, sc, x, W, G, tk, h => by
    rw [chkS] at h
    obtain ⟨y, p, rfl, h⟩ := sExpr_of h
    obtain ⟨h1, h2, h3⟩ := and3 h
    exact PS.wk (ps_expr ((snd e X sc y W G.toGd tk h1).1 (nb h2)).1 (noLC_of h3 _ _ _)) fun D σ H q => expr_rd q
  | .asg t e, X, sc, x, W, G, tk, h => by
    rw [chkS] at h
    obtain ⟨y, z, p, rfl, h⟩ := sAsg_of h
    obtain ⟨h, h4⟩ := and2 h
    obtain ⟨h1, h2, h3⟩ := and3 h
    have hN : X.N.Nodup := by rw [G.N]; exact G.nd
    cases t with
    | nm i =>
      obtain ⟨h5, h6, h7⟩ := and3 h4
      obtain ⟨n, p2, rfl, hn5⟩ := vName_of h5
      obtain ⟨n1, l1⟩ := nm_of hn5
      rw [← G.N] at n1
      rw [← G.sc] at l1
      have px := sndX G.toGd tk h1 h2 h6
      have hf : X.fn n = true ∨ X.env.scope.names.lookup n = some .local := .inl (G.fn n)
      rcases Bool.or_eq_true_iff.mp h7 with h7 | h7
      · cases e with
        | comp t it ts e =>
          obtain ⟨elt, gs, sc2, p3, rfl, hp, h8, h9⟩ := lc_both G.toGd tk h1
          have e1 : swapsWith (.ListComp elt gs sc2 p3) (some (.Name n p2)) p.line X.env = pure (X.env.blockKind == .function && X.env.kindOf n == some .local && p2.line == p3.line && !(sc2.names.any fun (m, k) => m == n && (k == .local || k == .cell))) := rfl
          cases hb : (X.env.blockKind == .function && X.env.kindOf n == some .local && p2.line == p3.line && !(sc2.names.any fun (m, k) => m == n && (k == .local || k == .cell))) with
          | false =>
            rw [hb] at e1
            exact PS.wk (ps_set hN n1 l1 px e1 hf) fun D σ H q => asgX_rd q
          | true =>
            rw [hb] at e1
            have l2 : X.env.scope.names.lookup n = some .local := by
              simp only [Bool.and_eq_true, beq_iff_eq] at hb
              exact hb.1.1.2
            exact PS.wk (h9 i n p2 p n1 l2 e1) fun D σ H q => comp_rd hp (tX_n rfl (asgX_rd q))
        | comp2 t it ts t2 it2 ts2 e =>
          obtain ⟨elt, gs, sc2, p3, rfl, hp, h8, h9⟩ := lc2_both G.toGd tk h1
          have e1 : swapsWith (.ListComp elt gs sc2 p3) (some (.Name n p2)) p.line X.env = pure (X.env.blockKind == .function && X.env.kindOf n == some .local && p2.line == p3.line && !(sc2.names.any fun (m, k) => m == n && (k == .local || k == .cell))) := rfl
          cases hb : (X.env.blockKind == .function && X.env.kindOf n == some .local && p2.line == p3.line && !(sc2.names.any fun (m, k) => m == n && (k == .local || k == .cell))) with
          | false =>
            rw [hb] at e1
            exact PS.wk (ps_set hN n1 l1 px e1 hf) fun D σ H q => asgX_rd q
          | true =>
            rw [hb] at e1
            have l2 : X.env.scope.names.lookup n = some .local := by
              simp only [Bool.and_eq_true, beq_iff_eq] at hb
              exact hb.1.1.2
            exact PS.wk (h9 i n p2 p n1 l2 e1) fun D σ H q => comp2_rd hp (tX_n rfl (asgX_rd q))
        | _ => cases h7
      · exact PS.wk (ps_set hN n1 l1 px (noLC_of h7 _ _ _) hf) fun D σ H q => asgX_rd q
    | t0 =>
      obtain ⟨h5, h6, h7⟩ := and3 h4
      have pe := ((snd e X sc z W G.toGd tk h1).1 (vl_of h2).2).1
      have pg := snd_tg (vs := tgS .t0) G.toGd (fun x _ => G.fn x) .t0 y h5
      cases y with
      | Tuple ys k p2 =>
        exact PS.wk (ps_asg pe pg swSole_tup (sw_none h7) rfl) fun D σ H q => asg_rd (fun _ h => h) (vl_of h2).1 q (.inl fun i z => by cases z)
      | _ => cases h5
    | tc a b =>
      obtain ⟨h5, h6, h7⟩ := and3 h4
      have pe := ((snd e X sc z W G.toGd tk h1).1 (vl_of h2).2).1
      have pg := snd_tg (vs := tgS (.tc a b)) G.toGd (fun x _ => G.fn x) (.tc a b) y h5
      cases y with
      | Tuple ys k p2 =>
        exact PS.wk (ps_asg pe pg swSole_tup (sw_none h7) rfl) fun D σ H q => asg_rd (fun _ h => h) (vl_of h2).1 q (.inl fun i z => by cases z)
      | _ => cases h5
  | .par t es, X, sc, x, W, G, tk, h => by
    rw [chkS] at h
    obtain ⟨y, z, p, rfl, h⟩ := sAsg_of h
    exact par_ps G tk h
  | .aug i o e, X, sc, x, W, G, tk, h => by
    rw [chkS] at h
    obtain ⟨y, op, z, p, rfl, h⟩ := sAug_of h
    obtain ⟨h, h5⟩ := and2 h
    obtain ⟨h, h4⟩ := and2 h
    obtain ⟨h1, h2, h3⟩ := and3 h
    obtain ⟨n, p2, rfl, hn1⟩ := vName_of h1
    obtain ⟨n1, l1⟩ := nm_of hn1
    rw [← G.N] at n1
    rw [← G.sc] at l1
    have hN : X.N.Nodup := by rw [G.N]; exact G.nd
    exact PS.wk (ps_aug hN n1 l1 ((snd e X sc z W G.toGd tk h4).1 (vl_of h5).2).1 (ia_ok (eq_of_beq h2) h3) (.inl (G.fn n))) fun D σ H q => aug_rd h3 (vl_of h5).1 q
  | .sset i k e, X, sc, x, W, G, tk, h => by
    rw [chkS] at h
    obtain ⟨y, z, p, rfl, h⟩ := sAsg_of h
    obtain ⟨h1, h2, h3⟩ := and3 h
    obtain ⟨u, v, p2, rfl, hi1⟩ := vIx_of h1
    obtain ⟨h4, h5⟩ := and2 hi1
    obtain ⟨n, p3, rfl, hn4⟩ := vName_of h4
    obtain ⟨w, j, p4, rfl, hc5⟩ := vConst_of h5
    have := lit_int hc5
    subst this
    exact PS.wk (ps_asg ((snd e X sc z W G.toGd tk h2).1 (vl_of h3).2).1 (pg_sub (snd_name G.toGd hn4) pe_int set_list) (by cases z <;> rfl) (by cases z <;> rfl) rfl) fun D σ H q => sset_rd (vl_of h3).1 q
  | .app i e, X, sc, x, W, G, tk, h => by
    rw [chkS] at h
    obtain ⟨y, p, rfl, h⟩ := sExpr_of h
    obtain ⟨u, ap, z, cp, rfl, e1, e2, e3, h⟩ := vMeth_of h
    obtain ⟨h1, h2, h3⟩ := and3 h
    obtain ⟨n, p2, rfl, hn⟩ := vName_of h1
    have pz := ((snd e X sc z W G.toGd tk h2).1 (vl_of h3).2).1
    have hst : starEach [z] X.env = (false, eval z X.env) :: starEach [] X.env := star_of e3
    exact PS.wk (ps_expr (pe_bm PySem.F.plainAttrs_list PySem.F.slot_list_append PySem.F.type_list_append mt_append (snd_name G.toGd hn) (pa_cons pz pa_nil hst) (base_of rfl) (by rw [hst]; rfl) e1 hst rfl) rfl) fun D σ H q => app_rd (vl_of h3).1 q
  | .ext i e, X, sc, x, W, G, tk, h => by
    rw [chkS] at h
    obtain ⟨y, p, rfl, h⟩ := sExpr_of h
    obtain ⟨u, ap, z, cp, rfl, e1, e2, e3, h⟩ := vMeth_of h
    obtain ⟨h1, h2, h3⟩ := and3 h
    obtain ⟨n, p2, rfl, hn⟩ := vName_of h1
    have pz := ((snd e X sc z W G.toGd tk h2).1 (nb h3)).1
    have hst : starEach [z] X.env = (false, eval z X.env) :: starEach [] X.env := star_of e3
    exact PS.wk (ps_expr (pe_bm PySem.F.plainAttrs_list PySem.F.slot_list_extend PySem.F.type_list_extend mt_extend (snd_name G.toGd hn) (pa_cons pz pa_nil hst) (base_of rfl) (by rw [hst]; rfl) e1 hst rfl) rfl) fun D σ H q => ext_rd q
  | .setix i k e, X, sc, x, W, G, tk, h => by
    rw [chkS] at h
    obtain ⟨y, z, p, rfl, h⟩ := sAsg_of h
    obtain ⟨h1, h2, h3⟩ := and3 h
    obtain ⟨u, v, p2, rfl, h1⟩ := vIx_of h1
    obtain ⟨h4, h7⟩ := and2 h1
    obtain ⟨h4, h5, h6⟩ := and3 h4
    obtain ⟨n, p3, rfl, hn⟩ := vName_of h4
    have pv := ((snd k X sc v W G.toGd tk h5).1 (nb h6)).1
    exact PS.wk (ps_asg ((snd e X sc z W G.toGd tk h2).1 (vl_of h3).2).1 (pg_sub (snd_name G.toGd hn) pv (set_any (by have := G.toGd.hu; omega)) (fun w => by cases v <;> first | rfl | cases h7)) (by cases z <;> rfl) (by cases z <;> rfl) rfl) fun D σ H q => setix_rd (vl_of h3).1 q
  | .augix i o k e, X, sc, x, W, G, tk, h => by
    rw [chkS] at h
    obtain ⟨y, op, z, p, rfl, h⟩ := sAug_of h
    obtain ⟨h, h5⟩ := and2 h
    obtain ⟨h, h4⟩ := and2 h
    obtain ⟨h1, h2, h3⟩ := and3 h
    obtain ⟨u, v, p2, rfl, h1⟩ := vIx_of h1
    obtain ⟨h8, h9⟩ := and2 h1
    obtain ⟨h6, h7, h10⟩ := and3 h8
    obtain ⟨n, p3, rfl, hn⟩ := vName_of h6
    have pv := ((snd k X sc v W G.toGd tk h7).1 (nb h10)).1
    exact PS.wk (ps_augS (snd_name G.toGd hn) pv (get_any (by have := G.toGd.hu; omega)) ((snd e X sc z W G.toGd tk h4).1 (vl_of h5).2).1 (ia_ok (eq_of_beq h2) h3) (set_any (by have := G.toGd.hu; omega)) (fun a b d => by cases v <;> first | rfl | cases h9)) fun D σ H q => augix_rd h3 (vl_of h5).1 q
  | .ite e a b, X, sc, x, W, G, tk, h => by
    rw [chkS] at h
    obtain ⟨t, y, z, p, rfl, h⟩ := sIf_of h
    obtain ⟨h, h5⟩ := and2 h
    obtain ⟨h, h4⟩ := and2 h
    obtain ⟨h1, h2, h3⟩ := and3 h
    exact PS.wk (ps_if ((snd e).pt G.toGd tk h1 h2 h3) (sndSs a X sc y W G tk h4) (sndSs b X sc z W G tk h5)) fun D σ H q => ite_rdS q
  | .wh e b, X, sc, x, W, G, tk, h => by
    rw [chkS] at h
    obtain ⟨t, y, p, rfl, h⟩ := sWh_of h
    obtain ⟨h, h4⟩ := and2 h
    obtain ⟨h1, h2, h3⟩ := and3 h
    exact PS.wk (ps_while G.pass ((snd e).pt G.toGd tk h1 h2 h3) (sndSs b X sc y W G tk h4)) fun D σ H q => wh_rd q
  | .for_ t it b, X, sc, x, W, G, tk, h => by
    rw [chkS] at h
    obtain ⟨y, z, q, p, rfl, h⟩ := sFor_of h
    obtain ⟨h, h5⟩ := and2 h
    obtain ⟨h, h4⟩ := and2 h
    obtain ⟨h1, h2, h3⟩ := and3 h
    have hi := (snd it X sc z W G.toGd tk h2).2.1 y true (by simpa using h3) (and2 h4).2
    exact PS.wk (ps_for G.pass G.calm hi (snd_tg (vs := tgS t) G.toGd (fun x _ => G.fn x) t y h1) (sndSs b X sc q W G tk h5) (noFold (and2 h4).1 _)) fun D σ H q => for_rd (fun _ h => h) q
  | .raise k, X, sc, x, W, G, tk, h => by
    rw [chkS] at h
    obtain ⟨n, p, q, r, rfl, h⟩ := sRaise_of h
    obtain ⟨h1, h2, h3⟩ := and3 h
    obtain ⟨c1, c2, c3, ⟨bmB, B, newId, initId, c4, c5⟩, c6⟩ := G.cls k n (eq_of_beq h1)
    exact PS.wk (ps_raise G.calm tk (pmk_own0 c4 c5 c2 c3 c6 (gl_of G.toGd h2) (plainN_of h3))) fun D σ H q => raise_rd c1 q
  | .try_ r e hs, X, sc, x, W, G, tk, h => by
    rw [chkS] at h
    obtain ⟨b, h0, hds, p, rfl, h⟩ := sTry_of h
    obtain ⟨h1, h2⟩ := and2 h
    obtain ⟨k1, k2⟩ := hds_ok G hs _ h1
    have hp : isPk e = false := by
      cases r with
      | true =>
        rw [if_pos rfl] at h2
        obtain ⟨y, p2, rfl, hr2⟩ := sRet_of h2
        exact (vl_of (and2 hr2).2).1
      | false =>
        rw [if_neg Bool.false_ne_true] at h2
        obtain ⟨y, p2, rfl, hr2⟩ := sExpr_of h2
        exact (vl_of (and3 hr2).2.1).1
    refine PS.wk (ps_try_many (tb := tTry g call X r e) G.stk G.frm tk (fun W' pn xe tk' ps' => ?_) k1) fun D σ H q => try_rd hp G.exm k2 q
    cases r with
    | true =>
      rw [if_pos rfl] at h2
      obtain ⟨y, p2, rfl, hr2⟩ := sRet_of h2
      obtain ⟨h3, h4⟩ := and2 hr2
      exact pss_one (ps_ret ((snd e (X.tr pn xe) sc y W' (tr_gd G.toGd) tk' h3).1 (vl_of h4).2).1)
    | false =>
      rw [if_neg Bool.false_ne_true] at h2
      obtain ⟨y, p2, rfl, hr2⟩ := sExpr_of h2
      obtain ⟨h3, h4, h5⟩ := and3 hr2
      exact pss_one (ps_expr ((snd e (X.tr pn xe) sc y W' (tr_gd G.toGd) tk' h3).1 (vl_of h4).2).1 (noLC_of h5 _ _ _))
  | .skip, X, sc, x, W, G, tk, h => by simp [chkS] at h
  | .seq .., X, sc, x, W, G, tk, h => by simp [chkS] at h
  | .delix .., X, sc, x, W, G, tk, h => by simp [chkS] at h
  | .swapix .., X, sc, x, W, G, tk, h => by simp [chkS] at h
  | .rem .., X, sc, x, W, G, tk, h => by simp [chkS] at h
  | .popTo .., X, sc, x, W, G, tk, h => by simp [chkS] at h
  | .appix .., X, sc, x, W, G, tk, h => by simp [chkS] at h
  | .setix2 .., X, sc, x, W, G, tk, h => by simp [chkS] at h
  | .sdef .., X, sc, x, W, G, tk, h => by simp [chkS] at h
  | .st0 .., X, sc, x, W, G, tk, h => by simp [chkS] at h
  | .forPop .., X, sc, x, W, G, tk, h => by simp [chkS] at h
  | .raiseP .., X, sc, x, W, G, tk, h => by simp [chkS] at h
theorem sndSs : ∀ (s : S) (X : Cx) (sc : Scope) (xs : List PSt) (W : WX), GS g c call X sc → Takes X W → chkSs c s sc xs = true → PSs X xs (tS g call X W s)
  | .skip, X, sc, xs, W, G, tk, h => by
    rw [chkSs] at h
    cases xs with
    | nil => exact PSs.wk pss_nil fun D σ H q => skip_rd q
    | cons => cases h
  | .seq a b, X, sc, xs, W, G, tk, h => by
    cases xs with
    | nil => rw [chkSs] at h; cases h
    | cons x xs =>
      rw [chkSs] at h
      obtain ⟨h1, h2⟩ := and2 h
      exact PSs.wk (pss_cons (sndS a X sc x W G tk h1) (sndSs b X sc xs W G tk h2)) fun D σ H q => seq_rdS q
  | .pass, X, sc, xs, W, G, tk, h => by simp [chkSs] at h
  | .brk, X, sc, xs, W, G, tk, h => by simp [chkSs] at h
  | .cnt, X, sc, xs, W, G, tk, h => by simp [chkSs] at h
  | .retn, X, sc, xs, W, G, tk, h => by simp [chkSs] at h
  | .ret .., X, sc, xs, W, G, tk, h => by simp [chkSs] at h
  | .expr .., X, sc, xs, W, G, tk, h => by simp [chkSs] at h
  | .asg .., X, sc, xs, W, G, tk, h => by simp [chkSs] at h
  | .par .., X, sc, xs, W, G, tk, h => by simp [chkSs] at h
  | .aug .., X, sc, xs, W, G, tk, h => by simp [chkSs] at h
  | .sset .., X, sc, xs, W, G, tk, h => by simp [chkSs] at h
  | .ite .., X, sc, xs, W, G, tk, h => by simp [chkSs] at h
  | .wh .., X, sc, xs, W, G, tk, h => by simp [chkSs] at h
  | .for_ .., X, sc, xs, W, G, tk, h => by simp [chkSs] at h
  | .raise .., X, sc, xs, W, G, tk, h => by simp [chkSs] at h
  | .try_ .., X, sc, xs, W, G, tk, h => by simp [chkSs] at h
  | .setix .., X, sc, x, W, G, tk, h => by simp [chkSs] at h
  | .augix .., X, sc, x, W, G, tk, h => by simp [chkSs] at h
  | .delix .., X, sc, x, W, G, tk, h => by simp [chkSs] at h
  | .swapix .., X, sc, x, W, G, tk, h => by simp [chkSs] at h
  | .app .., X, sc, x, W, G, tk, h => by simp [chkSs] at h
  | .ext .., X, sc, x, W, G, tk, h => by simp [chkSs] at h
  | .rem .., X, sc, x, W, G, tk, h => by simp [chkSs] at h
  | .popTo .., X, sc, x, W, G, tk, h => by simp [chkSs] at h
  | .appix .., X, sc, x, W, G, tk, h => by simp [chkSs] at h
  | .setix2 .., X, sc, x, W, G, tk, h => by simp [chkSs] at h
  | .sdef .., X, sc, x, W, G, tk, h => by simp [chkSs] at h
  | .st0 .., X, sc, x, W, G, tk, h => by simp [chkSs] at h
  | .forPop .., X, sc, x, W, G, tk, h => by simp [chkSs] at h
  | .raiseP .., X, sc, x, W, G, tk, h => by simp [chkSs] at h
end
end
end Wv

set_option autoImplicit false
set_option linter.all false
set_option maxRecDepth 100000
set_option maxHeartbeats 4000000
namespace Wv
open PySem PySem.Spec PyProof.Rows L2
section
variable {g : G} {c : Ck} {P : Program} {w : World} {K : PySem.W.Frag} {mg : Str → Option Value} {base : Heap} {gt' : Nat → Option PyData} {PP : Nat → Option Def}
/-- what a program's classes are -/
structure ClsOk (g : G) (c : Ck) (K : PySem.W.Frag) (mg : Str → Option Value) : Prop where
  cls : ∀ k x, c.cl[k]? = some x → k < g.nc ∧ mg x = some (.ref (g.ca k)) ∧ PySem.W.keepIn K (.ref (g.ca k)) = true ∧ (∃ bmB B newId initId, ExcBaseFacts B newId initId bmB ∧ PySem.W.excIn K (g.ca k) bmB newId = true) ∧
    PySem.W.subIn K (.ref (g.ca k)) (.type "BaseException") = some true ∧ PySem.W.typeIn K (.ref (g.ca k)) = some (.type "type")
  exm : ∀ i j, i < g.nc → j < g.nc → PySem.W.exmOne K (.ref (g.ca i)) (.ref (g.ca j)) = some (i == j)
  frn : ∀ x : String, x ∈ bltN → mg (Str.ofString x) = none
theorem rm_of (c : Ck) (sc : Scope) : rmOf c sc ≤ c.rm := by
  unfold rmOf
  split
  · exact Nat.zero_le _
  · exact Nat.le_refl _
/-- the code object of a def, its table -/
def CodeOk (g : G) (c : Ck) (base : Heap) (mg : Str → Option Value) (cd : Value) : Prop := 0 < c.rm → ∃ cc P, cd = .ref cc ∧ GxR.TabB base mg cc P ∧ P ∈ g.ts
/-- FunD.ok, the code object told -/
theorem okC {CX : CXT} {N ps : List Str} {k : Nat} {sp : Sp} {x qual : Str} {params : Arguments} {body : List Stmt} {scope : Scope} {dvs : List V} {kws : List (Str × V)} {f : Addr} {fd : FuncData} (F : FunD K x qual params body scope dvs kws f fd) (S : FnScope N ps scope) (len : ∀ vs H Q E, sp vs H Q E → vs.length = ps.length)
    (hbody : ∀ (A : Around) (outer : List PySem.Env) (s : Shared) (H : Hp) (vs : List V) (Q : VK) (E : XK), Room k (A.deeper (envOfC qual scope s.heap.objs.size f fd.code)) → sp vs H Q E →
      ∃ t, PSs (cxOf CX P w K mg base N qual scope f fd.code A outer s H E) body t ∧ t { nx := fun _ H' => Q .non H', rt := Q } (L2.start N vs) H) : FnOk P w K mg base CX (k + 1) f fd ps sp := by
  obtain ⟨oc, od, dV, kV, doc, pm, an, cdv, ct, osl, rfl, lk, hcd, _, _⟩ := F.ex
  exact fn_of lk hcd S len fun A outer s H vs Q E hr hsp => hbody A outer s H vs Q E hr hsp
/-- the context of a def's body -/
theorem gs_cx {call : Nat → List Slot → M PyData} {N : List Str} {qual : Str} {sc : Scope} {f : Addr} {cd : Value} {A : Around} {outer : List PySem.Env} {s : Shared} {H : Hp} {E : XK} {k : Nat} (C : ClsOk g c K mg) (hcd : CodeOk g c base mg cd) (hr : Room (k + c.rm) (A.deeper (envOfC qual sc s.heap.objs.size f cd))) (hN : c.N = N) (nd : N.Nodup) (hk : sc.kind = .function)
    (fns : ∀ (f : Nat) (x : Str), c.fn[f]? = some x → ∃ fd ps, mg x = some (.ref (g.fa f)) ∧ PySem.W.keepIn K (.ref (g.fa f)) = true ∧ Binds K fd ps [] ∧ FnOk P w K mg base (L2.CX P w) k (g.fa f) fd ps (spF g K w call f))
    (drw : ∀ j, c.dk = some j → ∃ x fd ps, c.fn[j]? = some x ∧ mg x = some (.ref (g.fa j)) ∧ PySem.W.keepIn K (.ref (g.fa j)) = true ∧ Binds K fd ps [] ∧ FnOk P w K mg base (L2.CX P w) k (g.fa j) fd ps (spD g)) :
    GS g c call (cxOf (L2.CX P w) P w K mg base N qual sc f cd A outer s H E) sc where
  sc := rfl
  N := hN.symm
  nd := by rw [hN]; exact nd
  calm := rfl
  fns := ⟨k, hr.mono (Nat.add_le_add_left (rm_of c sc) k), fns⟩
  drw := fun j e => by
    obtain ⟨x, fd, ps, h⟩ := drw j e
    exact ⟨k, x, fd, ps, hr.mono (Nat.add_le_add_left (rm_of c sc) k), h⟩
  rm := hr.mono (Nat.le_trans (rm_of c sc) (Nat.le_add_left _ _))
  gn := fun h => hcd (Nat.lt_of_lt_of_le h (rm_of c sc))
  frn := C.frn
  cls := fun k x e => by
    obtain ⟨h1, h2, h3, h4, h5, h6⟩ := C.cls k x e
    exact ⟨h1, h2, h3, h4, raises_own h5 h6⟩
  exm := C.exm
  pass := passes_of rfl
  fn := fun _ => rfl
  stk := rfl
  frm := rfl
  kind := hk
theorem arg_get {A : Option Addr} {F : Hp} : ∀ {vs : List V} {as : List Slot} {i : Nat} {s : Slot}, Paired (ArgRel g K w A F) vs as → as[i]? = some s → ∃ v, vs[i]? = some v ∧ ArgRel g K w A F v s
  | _, _, i, s, .nil, e => by simp at e
  | _, _, 0, s, .cons r _, e => by simp at e; subst e; exact ⟨_, rfl, r⟩
  | _, _, i + 1, s, .cons _ rr, e => by
    obtain ⟨v, h1, h2⟩ := arg_get (i := i) rr (by simpa using e)
    exact ⟨v, by simpa using h1, h2⟩
/-- a def's entry -/
theorem start_rel {H F : Hp} {ω : Orc} {A : Option Addr} {N : List Str} {d : Def} {vs : List V} {as : List Slot} (f : Fit F H) (st : StOk g A H F ω) (h : Paired (ArgRel g K w A F) vs as) (hN : d.ns = N.length) (ha : as.length = d.ar) (hle : d.ar ≤ d.ns) : Rel g K w A H F (entry d as) (L2.start N vs) H F ω where
  gr := Grow.refl f
  len := by
    unfold entry L2.start
    rw [List.length_append, List.length_append, List.length_replicate, List.length_replicate, List.length_map, h.length, hN, ha]
  sl := fun i s e => by
    unfold entry at e
    unfold L2.start
    have hl := h.length
    by_cases hi : i < as.length
    · rw [List.getElem?_append_left hi] at e
      rw [List.getElem?_append_left (by rw [List.length_map, hl]; exact hi), List.getElem?_map]
      obtain ⟨v, h1, h2⟩ := arg_get h e
      rw [h1]
      cases s with
      | v o d0 => cases o with
        | false => exact ⟨v, rfl, h2⟩
        | true => exact h2.elim
      | f k => exact congrArg (fun z => some (some z)) h2
      | s =>
        obtain ⟨a, e1, e2⟩ := h2
        exact ⟨a, e1, congrArg (fun z => some (some z)) e2⟩
      | un => exact h2.elim
      | x c p => exact h2.elim
    · rw [List.getElem?_append_right (by omega), List.getElem?_replicate] at e
      split at e
      · cases e; trivial
      · cases e
  own := fun i j d1 d2 a e1 e2 e3 e4 => by
    exfalso
    unfold entry at e1
    by_cases hi : i < as.length
    · rw [List.getElem?_append_left hi] at e1
      obtain ⟨v, _, h2⟩ := arg_get h e1
      exact h2
    · rw [List.getElem?_append_right (by omega), List.getElem?_replicate] at e1
      split at e1 <;> cases e1
  st := st
/-- one def: its tree is what its plain text says -/
structure One (g : G) (c : Ck) (K : PySem.W.Frag) (mg : Str → Option Value) (x : Str) (f : Nat) (fd : FuncData) (ps N : List Str) (d : Def) : Prop where
  ex : ∃ args body sc, FunD K x x args body sc [] [] (g.fa f) fd ∧ FnScope N ps sc ∧ chkSs { c with N := N } d.body sc body = true
  ar : d.ar = ps.length
  ns : d.ns = N.length
theorem One.le {x : Str} {f : Nat} {fd : FuncData} {ps N : List Str} {d : Def} (o : One g c K mg x f fd ps N d) : d.ar ≤ d.ns := by
  obtain ⟨args, body, sc, _, S, _⟩ := o.ex
  rw [o.ar, o.ns, ← S.pre, List.length_take]
  omega
/-- the promise of a def from those it calls -/
theorem fn_step {m k : Nat} {x : Str} {f : Nat} {fd : FuncData} {ps N : List Str} {d : Def} (C : ClsOk g c K mg) (o : One g c K mg x f fd ps N d) (hcd : CodeOk g c base mg fd.code) (hp : PP f = some d)
    (fns : ∀ (f : Nat) (x : Str), c.fn[f]? = some x → ∃ fd ps, mg x = some (.ref (g.fa f)) ∧ PySem.W.keepIn K (.ref (g.fa f)) = true ∧ Binds K fd ps [] ∧ FnOk P w K mg base (L2.CX P w) k (g.fa f) fd ps (spF g K w (run g.gt PP m) f))
    (drw : ∀ j, c.dk = some j → ∃ x fd ps, c.fn[j]? = some x ∧ mg x = some (.ref (g.fa j)) ∧ PySem.W.keepIn K (.ref (g.fa j)) = true ∧ Binds K fd ps [] ∧ FnOk P w K mg base (L2.CX P w) k (g.fa j) fd ps (spD g)) :
    FnOk P w K mg base (L2.CX P w) (k + c.rm + 1) (g.fa f) fd ps (spF g K w (run g.gt PP (m + 1)) f) := by
  obtain ⟨args, body, sc, F, S, hc⟩ := o.ex
  have split : ∀ {vs : List V} {H : Hp} {Q : VK} {E : XK}, spF g K w (run g.gt PP (m + 1)) f vs H Q E → ∃ A F ω as, Fit F H ∧ StOk g A H F ω ∧ Paired (ArgRel g K w A F) vs as ∧ as.length = d.ar ∧ RPost g K (fun cls d _ H' => E cls d H') [] A H F ((evalS g.gt (run g.gt PP m) d.body (entry d as) >>= outD) ω) (fun d _ H' F' => ∀ v, RepF K w F' v d → Q v H') := by
    rintro vs H Q E ⟨A, F, ω, as, h1, h2, h3, h4⟩
    rw [run, hp] at h4
    obtain ⟨h5, h6⟩ := RPost.guard h4
    exact ⟨A, F, ω, as, h1, h2, h3, of_decide_eq_true h5, h6⟩
  refine okC F S (fun vs H Q E h => ?_) (fun A outer s H vs Q E hr h => ?_)
  · obtain ⟨A, F, ω, as, h1, h2, h3, h4, _⟩ := split h
    rw [h3.length, h4, o.ar]
  · obtain ⟨A', F', ω, as, h1, h2, h3, h4, h5⟩ := split h
    have GC : GS g { c with N := N } (run g.gt PP m) (cxOf (L2.CX P w) P w K mg base N x sc (g.fa f) fd.code A outer s H E) sc := gs_cx (c := { c with N := N }) ⟨C.cls, C.exm, C.frn⟩ hcd hr rfl S.nd S.kind fns drw
    refine ⟨tS g (run g.gt PP m) (cxOf (L2.CX P w) P w K mg base N x sc (g.fa f) fd.code A outer s H E) (fun cls d _ H => E cls d H) d.body, sndSs d.body _ sc body _ GC (takes_of rfl rfl rfl rfl) hc, ?_⟩
    refine ⟨A', H, F', entry d as, F', ω, start_rel h1 h2 h3 o.ns h4 o.le, ?_⟩
    rw [M.bnd_def] at h5
    unfold M.bnd at h5
    cases ev : evalS g.gt (run g.gt PP m) d.body (entry d as) ω with
    | stuck => rw [ev] at h5; exact h5.elim
    | exc q p ω1 =>
      rw [ev] at h5
      exact fun σ H' F1 dx g1 st pk => h5 H' F1 dx g1 st pk
    | ok out ω1 =>
      rw [ev] at h5
      cases out with
      | nx ρ => exact fun σ H' F1 r _ => h5 H' F1 r.gr r.st _ (.dat .non)
      | rt d => exact fun v H' F1 g1 st rv => h5 H' F1 g1 st v rv
      | bk ρ => exact h5.elim
      | ct ρ => exact h5.elim
/-- what is known of each def -/
structure Known (g : G) (c : Ck) (P : Program) (w : World) (K : PySem.W.Frag) (mg : Str → Option Value) (base : Heap) (PP : Nat → Option Def) (f : Nat) (x : Str) (fd : FuncData) (ps : List Str) : Prop where
  glo : mg x = some (.ref (g.fa f))
  kp : PySem.W.keepIn K (.ref (g.fa f)) = true
  bd : Binds K fd ps []
  cd : CodeOk g c base mg fd.code
  ok : (∃ N d, PP f = some d ∧ One g c K mg x f fd ps N d) ∨ ∀ m, FnOk P w K mg base (L2.CX P w) (m + 2) (g.fa f) fd ps (spF g K w (run g.gt PP m) f)
theorem ladder (C : ClsOk g c K mg) (hk : ∀ (f : Nat) (x : Str), c.fn[f]? = some x → ∃ fd ps, Known g c P w K mg base PP f x fd ps)
    (drw : ∀ j, c.dk = some j → ∃ x fd ps, c.fn[j]? = some x ∧ mg x = some (.ref (g.fa j)) ∧ PySem.W.keepIn K (.ref (g.fa j)) = true ∧ Binds K fd ps [] ∧ FnOk P w K mg base (L2.CX P w) 2 (g.fa j) fd ps (spD g)) :
    ∀ (m : Nat) (f : Nat) (x : Str), c.fn[f]? = some x → ∃ fd ps, mg x = some (.ref (g.fa f)) ∧ PySem.W.keepIn K (.ref (g.fa f)) = true ∧ Binds K fd ps [] ∧ FnOk P w K mg base (L2.CX P w) (m * (c.rm + 1) + 2) (g.fa f) fd ps (spF g K w (run g.gt PP m) f)
  | 0, f, x, e => by
    obtain ⟨fd, ps, k⟩ := hk f x e
    refine ⟨fd, ps, k.glo, k.kp, k.bd, ⟨fun vs H Q E h => ?_, fun A outer s H args us vs Q E hr he hb hv h => ?_⟩⟩
    · obtain ⟨A, F, ω, as, h1, h2, h3, h4⟩ := h
      exact h4.elim
    · obtain ⟨A, F, ω, as, h1, h2, h3, h4⟩ := h
      exact h4.elim
  | m + 1, f, x, e => by
    obtain ⟨fd, ps, k⟩ := hk f x e
    refine ⟨fd, ps, k.glo, k.kp, k.bd, ?_⟩
    have e2 : (m + 1) * (c.rm + 1) + 2 = m * (c.rm + 1) + 2 + c.rm + 1 := by rw [Nat.succ_mul]; omega
    rw [e2]
    rcases k.ok with ⟨N, d, hp, o⟩ | h
    · refine fn_step C o k.cd hp (ladder C hk drw m) fun j ej => ?_
      obtain ⟨x, fd, ps, h1, h2, h3, h4, h5⟩ := drw j ej
      exact ⟨x, fd, ps, h1, h2, h3, h4, h5.mono (by omega)⟩
    · refine (h (m + 1)).mono ?_
      have : m ≤ m * (c.rm + 1) := Nat.le_mul_of_pos_right m (Nat.succ_pos _)
      omega
/-- the draw's promise -/
theorem fn_draw {x : Str} {f : Nat} {fd : FuncData} {ps N : List Str} {d : Def} {call : Nat → List Slot → M PyData} (C : ClsOk g c K mg) (o : One g { c with fn := [], dk := none, rm := 0 } K mg x f fd ps N d) (h2 : d.ar = 2)
    (he : ∀ (ω : Orc) (n : Int), OrcOk ω → 0 < n → n < 2 ^ 64 → evalS g.gt call d.body (entry d [.s, .v false (.int n)]) ω = .ok (.rt (.int (drawFn ω n).1)) (drawFn ω n).2) :
    FnOk P w K mg base (L2.CX P w) 2 (g.fa f) fd ps (spD g) := by
  obtain ⟨args, body, sc, F, S, hc⟩ := o.ex
  refine F.ok (k := 1) S (fun vs H Q E h => ?_) (fun cdv A outer s H vs Q E hr h => ?_)
  · obtain ⟨a, F, ω, n, rfl, _⟩ := h
    rw [← o.ar, h2]; rfl
  · obtain ⟨a, F', ω, n, rfl, h1, st, n0, n1, hq⟩ := h
    have GC : GS g { c with N := N, fn := [], dk := none, rm := 0 } call (cxOf (L2.CX P w) P w K mg base N x sc (g.fa f) cdv A outer s H E) sc :=
      gs_cx (c := { c with N := N, fn := [], dk := none, rm := 0 }) ⟨C.cls, C.exm, C.frn⟩ (fun h => absurd h (Nat.lt_irrefl _)) hr rfl S.nd S.kind (fun f x e => by simp at e) (fun j e => by cases e)
    refine ⟨tS g call (cxOf (L2.CX P w) P w K mg base N x sc (g.fa f) cdv A outer s H E) (fun cls d _ H => E cls d H) d.body, sndSs d.body _ sc body _ GC (takes_of rfl rfl rfl rfl) hc, ?_⟩
    obtain ⟨_, _, oo, _⟩ := st.st a rfl
    refine ⟨some a, H, F', entry d [.s, .v false (.int n)], F', ω, start_rel h1 st (.cons ⟨a, rfl, rfl⟩ (.cons (.dat (.int _)) .nil)) o.ns (by rw [h2]; rfl) o.le, ?_⟩
    rw [he ω n oo n0 n1]
    intro v H' F1 g1 st1 rv
    have : v = .int (drawFn ω n).1 := (RepP.frz (Ex := fun _ => False) (H := H') rv).int
    subst this
    exact hq H' F1 g1 st1
end
end Wv

set_option autoImplicit false
set_option linter.all false
set_option maxRecDepth 100000
set_option maxHeartbeats 4000000
namespace Wv
open PySem PySem.Spec PyProof.Rows L2
section
/-! state = [0, 0, list(script), 1] -/
def cInt (n : Int) : PX → Bool
  | .Constant (.int k) _ _ => k == n
  | _ => false
theorem cInt_of {n : Int} {x : PX} (h : cInt n x = true) : ∃ j p, x = .Constant (.int n) j p := by
  unfold cInt at h; split at h
  · rw [eq_of_beq h]; exact ⟨_, _, rfl⟩
  · cases h
def s4 (x : PX) (k : PX → PX → PX → PX → Bool) : Bool := match x with
  | .List [a, b, c, d] _ => k a b c d
  | _ => false
theorem s4_of {x : PX} {k : PX → PX → PX → PX → Bool} (h : s4 x k = true) : ∃ a b c d p, x = .List [a, b, c, d] p ∧ k a b c d = true := by
  unfold s4 at h; split at h
  · exact ⟨_, _, _, _, _, rfl, h⟩
  · cases h
def chk0 (c : Ck) (sc : Scope) (i j : Nat) (x : PSt) : Bool := sAsg x fun y z => vName y (fun n => tgE c (fun _ => true) sc i n) && s4 z fun a b d e => cInt 0 a && cInt 0 b && cInt 1 e && vCall d fun n xs => glc sc n "list" && v1 xs fun u => vName u (varB c sc j)
variable {g : G} {c : Ck} {call : Nat → List Slot → M PyData} {X : Cx} {sc : Scope} {W : WX} {P : Program} {w : World} {K : PySem.W.Frag} {mg : Str → Option Value} {base : Heap}
def tSt0 (K : PySem.W.Frag) (i j : Nat) : TS := fun D σ H => ∃ (a : Addr) (ys : List V), σ[j]? = some (some (.ref a)) ∧ SqL K H a ys ∧ ∀ l p, H l = none → upd H l (.lst ys) p = none → D.nx (σ.set i (some (.ref p))) (upd (upd H l (.lst ys)) p (.lst [.int 0, .int 0, .ref l, .int 1]))
theorem snd0 {i j : Nat} {x : PSt} (G : GS g c call X sc) (h : chk0 c sc i j x = true) : PS X x (tSt0 X.K i j) := by
  obtain ⟨y, z, p, rfl, h⟩ := sAsg_of h
  obtain ⟨h1, h2⟩ := and2 h
  obtain ⟨n, p2, rfl, k1⟩ := vName_of h1
  obtain ⟨n1, l1⟩ := nm_of k1
  obtain ⟨a, b, d, e, p3, rfl, k2⟩ := s4_of h2
  obtain ⟨k3, h6⟩ := and2 k2
  obtain ⟨h3, h4, h5⟩ := and3 k3
  obtain ⟨ja, pa, rfl⟩ := cInt_of h3
  obtain ⟨jb, pb, rfl⟩ := cInt_of h4
  obtain ⟨je, pe, rfl⟩ := cInt_of h5
  obtain ⟨m, p4, xs, p5, rfl, k6⟩ := vCall_of h6
  obtain ⟨h7, h8⟩ := and2 k6
  obtain ⟨u, rfl, su, k8⟩ := v1_of h8
  obtain ⟨k, p6, rfl, k9⟩ := vName_of k8
  obtain ⟨rfl, hg⟩ := glc_of h7
  rw [← G.N] at n1
  rw [← G.sc] at l1
  have hN : X.N.Nodup := by rw [G.N]; exact G.nd
  have pc : PE X (.Call (.Name (Str.ofString "list") p4) [.Name k p6] [] p5) (tCB (fun xs H Q => ∃ p ys, xs = [.ref p] ∧ (SqL X.K H p ys ∨ SqT X.K H p ys) ∧ ∀ l, H l = none → Q (.ref l) (upd H l (.lst ys))) (tCons (tVar j) tNil)) :=
    pe_callTy (T := "list") call_list_of (gl_of G.toGd hg) (G.frn "list" (by decide)) (by decide +kernel) (pa_cons (snd_name G.toGd k9) pa_nil rfl) (by decide) (by decide) rfl rfl
  have pl := pe_lst (pos := p3) (pa_cons (pe_int (i := 0) (j := ja) (pos := pa)) (pa_cons (pe_int (i := 0) (j := jb) (pos := pb)) (pa_cons pc (pa_cons (pe_int (i := 1) (j := je) (pos := pe)) pa_nil rfl) rfl) rfl) rfl)
  refine PS.wk (ps_set hN n1 l1 pl (noLC_of rfl _ _ _) (.inl (G.fn n))) fun D σ H q => ?_
  obtain ⟨a, ys, e1, e2, e3⟩ := q
  refine ⟨_, e1, a, ys, rfl, .inl e2, fun l hl => ?_⟩
  exact ⟨by show 4 ≤ sizeLine; rw [sizeLine_eq]; decide, fun p hp => e3 l p hl hp⟩
/-- the law's def -/
structure Law (g : G) (c : Ck) (K : PySem.W.Frag) (mg : Str → Option Value) (x : Str) (f : Nat) (fd : FuncData) (p1 : Str) (N : List Str) (b : S) : Prop where
  ex : ∃ args s0 body sc, FunD K x x args (s0 :: body) sc [] [] (g.fa f) fd ∧ FnScope N [p1] sc ∧ chk0 { c with N := N } sc 1 0 s0 = true ∧ chkSs { c with N := N } b sc body = true
def spLaw (g : G) (K : PySem.W.Frag) : Sp := fun vs H Q E => ∃ (a : Addr) (ns : List Int), vs = [.ref a] ∧ ns.length ≤ 63 ∧ SqL K H a (ns.map V.int) ∧ (∀ p ∈ g.ts, GxR.TabG H p) ∧ ∀ H', Q (.bl true) H'
/-- the slots behind the first statement -/
def ent0 (n : Nat) : Env := .un :: .s :: List.replicate (n - 2) .un
theorem law_fn {m k : Nat} {x p1 : Str} {f : Nat} {fd : FuncData} {N : List Str} {b : S} {PP : Nat → Option Def} (C : ClsOk g c K mg) (o : Law g c K mg x f fd p1 N b) (hcd : CodeOk g c base mg fd.code) (h2 : 2 ≤ N.length)
    (fns : ∀ (f : Nat) (x : Str), c.fn[f]? = some x → ∃ fd ps, mg x = some (.ref (g.fa f)) ∧ PySem.W.keepIn K (.ref (g.fa f)) = true ∧ Binds K fd ps [] ∧ FnOk P w K mg base (L2.CX P w) k (g.fa f) fd ps (spF g K w (run g.gt PP m) f))
    (drw : ∀ j, c.dk = some j → ∃ x fd ps, c.fn[j]? = some x ∧ mg x = some (.ref (g.fa j)) ∧ PySem.W.keepIn K (.ref (g.fa j)) = true ∧ Binds K fd ps [] ∧ FnOk P w K mg base (L2.CX P w) k (g.fa j) fd ps (spD g))
    (pl : ∀ ns : List Int, ns.length ≤ 63 → ∃ ω, evalS g.gt (run g.gt PP m) b (ent0 N.length) ⟨0, 0, ns, 1⟩ = .ok (.rt (.bool true)) ω) :
    FnOk P w K mg base (L2.CX P w) (k + c.rm + 1) (g.fa f) fd [p1] (spLaw g K) := by
  obtain ⟨args, s0, body, sc, F, S, hc0, hc⟩ := o.ex
  refine okC F S (fun vs H Q E h => ?_) (fun A outer s H vs Q E hr h => ?_)
  · obtain ⟨a, ns, rfl, _⟩ := h; rfl
  obtain ⟨a, ns, rfl, hl, hs, ht, hq⟩ := h
  have GC : GS g { c with N := N } (run g.gt PP m) (cxOf (L2.CX P w) P w K mg base N x sc (g.fa f) fd.code A outer s H E) sc := gs_cx (c := { c with N := N }) ⟨C.cls, C.exm, C.frn⟩ hcd hr rfl S.nd S.kind fns drw
  have p0 := snd0 GC hc0
  have p1' := sndSs (g := g) (call := run g.gt PP m) b _ sc body (fun cls d _ H => E cls d H) GC (takes_of rfl rfl rfl rfl) hc
  refine ⟨_, pss_cons p0 p1', a, ns.map V.int, ?_, hs, fun l p hl0 hp0 => ?_⟩
  · show (L2.start N [V.ref a])[0]? = _
    rfl
  obtain ⟨ω, hω⟩ := pl ns hl
  -- the heap behind it
  have nl : p ≠ l := fun z => by rw [z, upd_same] at hp0; cases hp0
  have hpn : H p = none := by rw [upd_ne nl] at hp0; exact hp0
  have e1 : Ext H (fun _ => none) (upd H l (.lst (ns.map V.int))) (upd (fun _ => none) l (.lst (ns.map V.int))) := Ext.mk1 (fun a o h => by cases h) hl0
  have e2 : Ext (upd H l (.lst (ns.map V.int))) (upd (fun _ => none) l (.lst (ns.map V.int))) (upd (upd H l (.lst (ns.map V.int))) p (.lst [.int 0, .int 0, .ref l, .int 1])) (upd (fun _ => none) l (.lst (ns.map V.int))) := Ext.mk0 e1.fit hp0
  have tabs : ∀ q ∈ g.ts, ∃ ps, H q = some (.tbl ps) := fun q hq => by
    obtain ⟨ps, h1, _⟩ := ht q hq
    exact ⟨ps, h1⟩
  have pts : ∀ q ∈ g.ts, q ≠ p ∧ q ≠ l := fun q hq => by
    obtain ⟨ps, h1⟩ := tabs q hq
    exact ⟨(fun z => by rw [z, hpn] at h1; cases h1), (fun z => by rw [z, hl0] at h1; cases h1)⟩
  have st : StOk g (some p) (upd (upd H l (.lst (ns.map V.int))) p (.lst [.int 0, .int 0, .ref l, .int 1])) (upd (fun _ => none) l (.lst (ns.map V.int))) ⟨0, 0, ns, 1⟩ := {
    st := fun a' ha => by
      cases ha
      exact ⟨by rw [upd_ne nl], fun z => (pts p z).1 rfl, ⟨Int.le_refl _, by show (0 : Int) ≤ 1; decide, by show (1 : Int) < 2 ^ 31; decide⟩, l, upd_same, upd_same⟩
    tab := fun q hq => by
      obtain ⟨ps, h1, h2⟩ := ht q hq
      obtain ⟨h3, h4⟩ := pts q hq
      exact ⟨ps, by rw [upd_ne h3, upd_ne h4]; exact h1, h2⟩
    ft := fun q hq => by
      obtain ⟨h3, h4⟩ := pts q hq
      rw [upd_ne h4] }
  refine ⟨some p, upd (upd H l (.lst (ns.map V.int))) p (.lst [.int 0, .int 0, .ref l, .int 1]), upd (fun _ => none) l (.lst (ns.map V.int)), ent0 N.length, upd (fun _ => none) l (.lst (ns.map V.int)), ⟨0, 0, ns, 1⟩, ?_, ?_⟩
  · have hget : ∀ (i : Nat) (s : Slot), (ent0 N.length)[i]? = some s → s = .un ∨ (i = 1 ∧ s = .s) := fun i s e => by
      unfold ent0 at e
      match i, e with
      | 0, e => left; simpa using e.symm
      | 1, e => right; exact ⟨rfl, by simpa using e.symm⟩
      | i + 2, e =>
        left
        have e : (List.replicate (N.length - 2) Slot.un)[i]? = some s := by simpa using e
        rw [List.getElem?_replicate] at e
        split at e
        · exact (Option.some.inj e).symm
        · cases e
    refine ⟨Grow.refl e2.fit, ?_, fun i s e => ?_, fun i j d1 d2 b e1 => ?_, st⟩
    · unfold ent0 L2.start
      simp
      omega
    · rcases hget i s e with rfl | ⟨rfl, rfl⟩
      · trivial
      · refine ⟨p, rfl, ?_⟩
        rw [set_get, if_pos rfl]
        have : 1 < (L2.start N [V.ref a]).length := by unfold L2.start; simp; omega
        rw [if_pos this]
    · rcases hget i _ e1 with z | ⟨_, z⟩ <;> cases z
  · rw [hω]
    intro v H' F' g1 st1 rv
    have : v = .bl true := (RepP.frz (Ex := fun _ => False) (H := H') rv).bool
    subst this
    exact hq H'
end
end Wv
namespace Wv
open PySem PySem.Spec PyProof.Rows L2
theorem fn_cx0 {P : Program} {w : World} {K : PySem.W.Frag} {mg : Str → Option Value} {base : Heap} {k : Nat} {f : Addr} {fd : FuncData} {ps : List Str} {g : G} (F : FnOk P w K mg base (L2.CX P w) k f fd ps (spLaw g K)) : FnOk P w K mg base CX0 k f fd ps (spLaw g K) := by
  refine ⟨F.len, fun A outer s H args us vs Q E hr he hb hv h => ?_⟩
  refine codeAny_mono (F.run A outer s H args us vs Q (fun _ _ _ => False) hr he hb hv h) fun r s' hq => ?_
  cases r with
  | error e =>
    obtain ⟨_, _, _, _, _, _, _, _, _, _, _, _, z⟩ := hq
    exact z.elim
  | ok fl => cases fl <;> exact hq
end Wv

set_option autoImplicit false
set_option linter.all false
namespace Wv
open PySem
/-! the plain law's tools: what the plain text computes -/
section
variable {α β : Type}
theorem bnd_at (m : M α) (f : α → M β) (ω : Orc) : (m >>= f) ω = (match m ω with | .ok a w' => f a w' | .exc c p w' => .exc c p w' | .stuck => .stuck) := rfl
theorem pure_at (a : α) (ω : Orc) : (pure a : M α) ω = .ok a ω := rfl
theorem ofO_at (a : α) (ω : Orc) : (M.ofO (some a) : M α) ω = .ok a ω := rfl
theorem andThen_at (m : M Out) (f : Env → M Out) (ω : Orc) : andThen m f ω = (match m ω with | .ok (.nx ρ) w' => f ρ w' | .ok o w' => .ok o w' | .exc c p w' => .exc c p w' | .stuck => .stuck) := by
  unfold andThen
  rw [bnd_at]
  cases m ω with
  | ok o w => cases o <;> rfl
  | _ => rfl
theorem dlt_ii (i j : Int) : W.dataLt (.int i) (.int j) = decide (i < j) := W.dataLt_int i j
theorem shp_i (i : Int) : shp (.int i) = true := by
  unfold shp SeqAt.shaped
  simp [PyData.canLay0, PyData.depth]
theorem cmp_ii (i j : Int) : cmpOk (.int i) (.int j) = true := by
  unfold cmpOk
  rw [shp_i, shp_i, W.alike]; rfl
@[simp] theorem lt_ii (i j : Int) : bop .lt (.int i) (.int j) = some (.bool (decide (i < j))) := by
  show gO (cmpOk (.int i) (.int j)) (some (PyData.bool (W.dataLt (.int i) (.int j)))) = _
  rw [cmp_ii, dlt_ii]; rfl
@[simp] theorem le_ii (i j : Int) : bop .le (.int i) (.int j) = some (.bool (decide (i ≤ j))) := by
  show gO (cmpOk (.int i) (.int j)) (some (PyData.bool (!W.dataLt (.int j) (.int i)))) = _
  rw [cmp_ii, dlt_ii]
  by_cases h : i ≤ j
  · simp [h, Int.not_lt.mpr h]
  · simp [h, Int.not_le.mp h]
@[simp] theorem gt_ii (i j : Int) : bop .gt (.int i) (.int j) = some (.bool (decide (j < i))) := by
  show gO (cmpOk (.int i) (.int j)) (some (PyData.bool (W.dataLt (.int j) (.int i)))) = _
  rw [cmp_ii, dlt_ii]; rfl
@[simp] theorem ge_ii (i j : Int) : bop .ge (.int i) (.int j) = some (.bool (decide (j ≤ i))) := by
  show gO (cmpOk (.int i) (.int j)) (some (PyData.bool (!W.dataLt (.int i) (.int j)))) = _
  rw [cmp_ii, dlt_ii]
  by_cases h : j ≤ i
  · simp [h, Int.not_lt.mpr h]
  · simp [h, Int.not_le.mp h]
theorem eqv_ii (i j : Int) : PyData.eqv (.int i) (.int j) = decide (i = j) := by
  simp [PyData.eqv, Bool.beq_eq_decide_eq]
@[simp] theorem eq_ii (i j : Int) : bop .eq (.int i) (.int j) = some (.bool (decide (i = j))) := by
  show gO (shp (.int i) && shp (.int j)) (some (PyData.bool (PyData.eqv (.int i) (.int j)))) = _
  rw [shp_i, shp_i, eqv_ii]; rfl
@[simp] theorem ne_ii (i j : Int) : bop .ne (.int i) (.int j) = some (.bool (!decide (i = j))) := by
  show gO (shp (.int i) && shp (.int j)) (some (PyData.bool (!PyData.eqv (.int i) (.int j)))) = _
  rw [shp_i, shp_i, eqv_ii]; rfl
@[simp] theorem add_ii (i j : Int) : bop .add (.int i) (.int j) = some (.int (i + j)) := rfl
@[simp] theorem sub_ii (i j : Int) : bop .sub (.int i) (.int j) = some (.int (i - j)) := rfl
theorem log_lt {i : Int} {k : Nat} (h : i.natAbs < 2 ^ (k + 1)) : i.natAbs.log2 ≤ k := by
  by_cases h0 : i.natAbs = 0
  · rw [h0]; simp
  · have := (Nat.log2_lt h0).mpr h
    omega
theorem mul_ii {i j : Int} (h : bigOk i j = true) : bop .mul (.int i) (.int j) = some (.int (i * j)) := by
  show gO (bigOk i j) _ = _
  rw [h]; rfl
theorem big_of {i j : Int} {a b : Nat} (ha : i.natAbs < 2 ^ (a + 1)) (hb : j.natAbs < 2 ^ (b + 1)) (h : a + b < 900000) : bigOk i j = true := by
  unfold bigOk
  have := log_lt ha
  have := log_lt hb
  have : decide (i.natAbs.log2 + j.natAbs.log2 < 900000) = true := decide_eq_true (by omega)
  rw [this]; rfl
theorem big_l {i j : Int} (h : i.natAbs < 2 ^ 64) : bigOk i j = true := by
  unfold bigOk
  rw [decide_eq_true h]; simp
theorem big_r {i j : Int} (h : j.natAbs < 2 ^ 64) : bigOk i j = true := by
  unfold bigOk
  rw [decide_eq_true h]; simp
theorem mod_ii {i j : Int} (h : 0 < j) : bop .mod (.int i) (.int j) = some (.int (i % j)) := by
  show gO (decide (j ≠ 0)) _ = _
  have : decide (j ≠ 0) = true := decide_eq_true (by omega)
  rw [this, Int.fmod_eq_emod_of_nonneg i (by omega)]; rfl
theorem fdiv_ii {i j : Int} (h : 0 < j) (hb : j.natAbs.log2 < 8000) : bop .fdiv (.int i) (.int j) = some (.int (i / j)) := by
  show gO (divOk j) _ = _
  have : divOk j = true := by
    unfold divOk
    simp [hb, show j ≠ 0 by omega]
  rw [this, Int.fdiv_eq_ediv_of_nonneg i (by omega)]; rfl
end
/-! evaluation, step by step: what follows is a named thing -/
section
variable {gt : Nat → Option PyData} {call : Nat → List Slot → M PyData} {ρ ρ' : Env} {ω ω' : Orc}
def rO (o : Option PyData) (ω : Orc) : R PyData := match o with
  | some d => .ok d ω
  | none => .stuck
@[simp] theorem rO_some (d : PyData) (ω : Orc) : rO (some d) ω = .ok d ω := rfl
def k1 (f : PyData → Option PyData) (r : R PyData) : R PyData := match r with
  | .ok x ω => rO (f x) ω
  | .exc c p ω => .exc c p ω
  | .stuck => .stuck
@[simp] theorem k1_ok (f : PyData → Option PyData) (x : PyData) (ω : Orc) : k1 f (.ok x ω) = rO (f x) ω := rfl
@[simp] theorem k1_exc (f : PyData → Option PyData) (c : Nat) (p : PyData) (ω : Orc) : k1 f (.exc c p ω) = .exc c p ω := rfl
variable (gt call) in
def kO (f : PyData → PyData → Option PyData) (b : E) (ρ : Env) (r : R PyData) : R PyData := match r with
  | .ok x ω => k1 (f x) (evalE gt call b ρ ω)
  | .exc c p ω => .exc c p ω
  | .stuck => .stuck
@[simp] theorem kO_ok (f : PyData → PyData → Option PyData) (b : E) (x : PyData) : kO gt call f b ρ (.ok x ω) = k1 (f x) (evalE gt call b ρ ω) := rfl
@[simp] theorem kO_exc (f : PyData → PyData → Option PyData) (b : E) (c : Nat) (p : PyData) : kO gt call f b ρ (.exc c p ω) = .exc c p ω := rfl
theorem rO_def {o : Option PyData} {ω : Orc} : (M.ofO o : M PyData) ω = rO o ω := by cases o <;> rfl
theorem two_at {m : M PyData} {b : E} {f : PyData → PyData → Option PyData} : (m >>= fun x => evalE gt call b ρ >>= fun y => M.ofO (f x y)) ω = kO gt call f b ρ (m ω) := by
  rw [bnd_at]
  cases m ω with
  | ok x w =>
    show (evalE gt call b ρ >>= fun y => M.ofO (f x y)) w = k1 (f x) (evalE gt call b ρ w)
    rw [bnd_at]
    cases evalE gt call b ρ w with
    | ok y w => exact rO_def
    | _ => rfl
  | _ => rfl
theorem one_at {m : M PyData} {f : PyData → Option PyData} : (m >>= fun x => M.ofO (f x)) ω = k1 f (m ω) := by
  rw [bnd_at]
  cases m ω with
  | ok x w => exact rO_def
  | _ => rfl
@[simp] theorem e_var (i : Nat) : evalE gt call (.var i) ρ ω = getV ρ[i]? ω := by rw [evalE]
@[simp] theorem e_pk (i : Nat) : evalE gt call (.pk i) ρ ω = getP ρ[i]? ω := by rw [evalE]
@[simp] theorem getV_ok (d : PyData) : getV (some (.v false d)) ω = .ok d ω := rfl
@[simp] theorem getP_ok (o : Bool) (d : PyData) : getP (some (.v o d)) ω = .ok d ω := by cases o <;> rfl
@[simp] theorem e_lit (d : PyData) : evalE gt call (.lit d) ρ ω = .ok d ω := by rw [evalE]; rfl
theorem e_glb (k : Nat) : evalE gt call (.glb k) ρ ω = rO (gt k) ω := by rw [evalE]; exact rO_def
@[simp] theorem e_bin (o : Bop) (a b : E) : evalE gt call (.bin o a b) ρ ω = kO gt call (bop o) b ρ (evalE gt call a ρ ω) := by rw [evalE]; exact two_at
@[simp] theorem e_ix (a b : E) : evalE gt call (.ix a b) ρ ω = kO gt call ixD b ρ (evalE gt call a ρ ω) := by rw [evalE]; exact two_at
@[simp] theorem e_b1 (p : P1) (a : E) : evalE gt call (.b1 p a) ρ ω = k1 (p1 p) (evalE gt call a ρ ω) := by rw [evalE]; exact one_at
@[simp] theorem e_b2 (p : P2) (a b : E) : evalE gt call (.b2 p a b) ρ ω = kO gt call (p2 p) b ρ (evalE gt call a ρ ω) := by rw [evalE]; exact two_at
variable (gt call) in
def kG (c : PyData → Bool) (f : PyData → PyData → Option PyData) (b : E) (ρ : Env) (r : R PyData) : R PyData := match r with
  | .ok x ω => if c x = true then k1 (f x) (evalE gt call b ρ ω) else .stuck
  | .exc c p ω => .exc c p ω
  | .stuck => .stuck
@[simp] theorem kG_l (f : PyData → PyData → Option PyData) (b : E) (xs : List PyData) : kG gt call isSeqD f b ρ (.ok (.list xs) ω) = k1 (f (.list xs)) (evalE gt call b ρ ω) := rfl
@[simp] theorem kG_t (f : PyData → PyData → Option PyData) (b : E) (xs : List PyData) : kG gt call isSeqD f b ρ (.ok (.tuple xs) ω) = k1 (f (.tuple xs)) (evalE gt call b ρ ω) := rfl
theorem gtwo_at {m : M PyData} {c : PyData → Bool} {b : E} {f : PyData → PyData → Option PyData} : (m >>= fun x => M.guard (c x) (evalE gt call b ρ >>= fun y => M.ofO (f x y))) ω = kG gt call c f b ρ (m ω) := by
  rw [bnd_at]
  cases m ω with
  | ok x w =>
    show M.guard (c x) (evalE gt call b ρ >>= fun y => M.ofO (f x y)) w = if c x = true then k1 (f x) (evalE gt call b ρ w) else .stuck
    cases c x with
    | false => rfl
    | true => exact one_at
  | _ => rfl
@[simp] theorem e_mcount (a b : E) : evalE gt call (.mcount a b) ρ ω = kG gt call isSeqD mcountD b ρ (evalE gt call a ρ ω) := by rw [evalE]; exact gtwo_at
@[simp] theorem e_mindex (a b : E) : evalE gt call (.mindex a b) ρ ω = kG gt call isSeqD mindexD b ρ (evalE gt call a ρ ω) := by rw [evalE]; exact gtwo_at
@[simp] theorem e_rev (a : E) : evalE gt call (.rev a) ρ ω = k1 revD (evalE gt call a ρ ω) := by rw [evalE]; exact one_at
@[simp] theorem e_enm (a : E) : evalE gt call (.enm a) ρ ω = k1 enmD (evalE gt call a ρ ω) := by rw [evalE]; exact one_at
@[simp] theorem e_setof (a : E) : evalE gt call (.setof a) ρ ω = k1 setD (evalE gt call a ρ ω) := by rw [evalE]; exact one_at
/-! slices -/
variable (gt call) in
def kPt (e : E) (ρ : Env) (f : Option Int → Orc → R PyData) (ω : Orc) : R PyData := match evalE gt call e ρ ω with
  | .ok .none w => f none w
  | .ok (.int i) w => f (some i) w
  | .ok _ _ => .stuck
  | .exc c p w => .exc c p w
  | .stuck => .stuck
theorem kPt_n {e : E} {f : Option Int → Orc → R PyData} (h : evalE gt call e ρ ω = .ok .none ω') : kPt gt call e ρ f ω = f none ω' := by unfold kPt; rw [h]
theorem kPt_i {e : E} {f : Option Int → Orc → R PyData} {i : Int} (h : evalE gt call e ρ ω = .ok (.int i) ω') : kPt gt call e ρ f ω = f (some i) ω' := by unfold kPt; rw [h]
theorem part_at {e : E} {f : Option Int → M PyData} : (evalE gt call e ρ >>= fun l => M.ofO (partI l) >>= f) ω = kPt gt call e ρ (fun o w => f o w) ω := by
  rw [bnd_at]
  unfold kPt
  cases evalE gt call e ρ ω with
  | ok d w => cases d <;> rfl
  | _ => rfl
variable (gt call) in
def kSl (lo hi st : E) (ρ : Env) (r : R PyData) : R PyData := match r with
  | .ok x ω => kPt gt call lo ρ (fun l w => kPt gt call hi ρ (fun h w => kPt gt call st ρ (fun s w => rO (slD x l h s) w) w) w) ω
  | .exc c p ω => .exc c p ω
  | .stuck => .stuck
@[simp] theorem kSl_ok (lo hi st : E) (x : PyData) : kSl gt call lo hi st ρ (.ok x ω) = kPt gt call lo ρ (fun l w => kPt gt call hi ρ (fun h w => kPt gt call st ρ (fun s w => rO (slD x l h s) w) w) w) ω := rfl
@[simp] theorem e_sl (a lo hi st : E) : evalE gt call (.sl a lo hi st) ρ ω = kSl gt call lo hi st ρ (evalE gt call a ρ ω) := by
  rw [evalE, bnd_at]
  cases evalE gt call a ρ ω with
  | ok x w =>
    show (evalE gt call lo ρ >>= fun l => M.ofO (partI l) >>= fun l => evalE gt call hi ρ >>= fun h => M.ofO (partI h) >>= fun h => evalE gt call st ρ >>= fun s => M.ofO (partI s) >>= fun s => M.ofO (slD x l h s)) w = _
    rw [part_at]
    show _ = kPt gt call lo ρ (fun l w => kPt gt call hi ρ (fun h w => kPt gt call st ρ (fun s w => rO (slD x l h s) w) w) w) w
    congr 1
    funext l w
    rw [part_at]
    congr 1
    funext h w
    rw [part_at]
    congr 1
    funext s w
    exact rO_def
  | _ => rfl
def negD : PyData → Option PyData
  | .int i => some (.int (-i))
  | _ => none
@[simp] theorem negD_i (i : Int) : negD (.int i) = some (.int (-i)) := rfl
@[simp] theorem e_neg (a : E) : evalE gt call (.neg a) ρ ω = k1 negD (evalE gt call a ρ ω) := by
  rw [evalE, bnd_at]
  cases evalE gt call a ρ ω with
  | ok x w => cases x <;> rfl
  | _ => rfl
def notD (x : PyData) : Option PyData := (tru x).map fun b => .bool (!b)
@[simp] theorem notD_b (b : Bool) : notD (.bool b) = some (.bool (!b)) := rfl
@[simp] theorem notD_i (i : Int) : notD (.int i) = some (.bool (!(i != 0))) := rfl
@[simp] theorem e_not (a : E) : evalE gt call (.not_ a) ρ ω = k1 notD (evalE gt call a ρ ω) := by
  rw [evalE, bnd_at]
  cases evalE gt call a ρ ω with
  | ok x w =>
    show (M.ofO (tru x) >>= fun b => pure (.bool (!b))) w = rO (notD x) w
    unfold notD
    cases tru x <;> rfl
  | _ => rfl
def isaO (t : Ty) (x : PyData) : Option PyData := gO (!isDic x) (some (.bool (isaD x t)))
@[simp] theorem e_isa (a : E) (t : Ty) : evalE gt call (.isa a t) ρ ω = k1 (isaO t) (evalE gt call a ρ ω) := by
  rw [evalE, bnd_at]
  cases evalE gt call a ρ ω with
  | ok x w =>
    show M.guard (!isDic x) (pure (.bool (isaD x t))) w = rO (isaO t x) w
    unfold isaO
    cases isDic x <;> rfl
  | _ => rfl
variable (gt call) in
def kIf2 (o : Option Bool) (a b : E) (ρ : Env) (ω : Orc) : R PyData := match o with
  | some true => evalE gt call a ρ ω
  | some false => evalE gt call b ρ ω
  | none => .stuck
@[simp] theorem kIf2_t (a b : E) : kIf2 gt call (some true) a b ρ ω = evalE gt call a ρ ω := rfl
@[simp] theorem kIf2_f (a b : E) : kIf2 gt call (some false) a b ρ ω = evalE gt call b ρ ω := rfl
variable (gt call) in
def kIf (a b : E) (ρ : Env) (r : R PyData) : R PyData := match r with
  | .ok x ω => kIf2 gt call (tru x) a b ρ ω
  | .exc c p ω => .exc c p ω
  | .stuck => .stuck
@[simp] theorem kIf_ok (a b : E) (x : PyData) : kIf gt call a b ρ (.ok x ω) = kIf2 gt call (tru x) a b ρ ω := rfl
@[simp] theorem e_ite (c a b : E) : evalE gt call (.ite c a b) ρ ω = kIf gt call a b ρ (evalE gt call c ρ ω) := by
  rw [evalE, bnd_at]
  cases evalE gt call c ρ ω with
  | ok x w =>
    show (M.ofO (tru x) >>= fun t => if t = true then evalE gt call a ρ else evalE gt call b ρ) w = kIf2 gt call (tru x) a b ρ w
    cases tru x with
    | none => rfl
    | some t => cases t <;> rfl
  | _ => rfl
@[simp] theorem tru_b (b : Bool) : tru (.bool b) = some b := rfl
@[simp] theorem tru_i (i : Int) : tru (.int i) = some (i != 0) := rfl
@[simp] theorem tru_l (xs : List PyData) : tru (.list xs) = some (!xs.isEmpty) := rfl
@[simp] theorem tru_t (xs : List PyData) : tru (.tuple xs) = some (!xs.isEmpty) := rfl
@[simp] theorem tru_n : tru .none = some false := rfl
/-! and, or -/
variable (gt call) in
def kBt (k : Bool) (x : PyData) (o : Option Bool) (es : Es) (ρ : Env) (ω : Orc) : R PyData := match o with
  | some t => if t = k then evalB gt call k es ρ ω else .ok x ω
  | none => .stuck
@[simp] theorem kBt_tt (x : PyData) (es : Es) : kBt gt call true x (some true) es ρ ω = evalB gt call true es ρ ω := rfl
@[simp] theorem kBt_tf (x : PyData) (es : Es) : kBt gt call true x (some false) es ρ ω = .ok x ω := rfl
@[simp] theorem kBt_ff (x : PyData) (es : Es) : kBt gt call false x (some false) es ρ ω = evalB gt call false es ρ ω := rfl
@[simp] theorem kBt_ft (x : PyData) (es : Es) : kBt gt call false x (some true) es ρ ω = .ok x ω := rfl
variable (gt call) in
def kBo (k : Bool) (es : Es) (ρ : Env) (r : R PyData) : R PyData := match r with
  | .ok x ω => kBt gt call k x (tru x) es ρ ω
  | .exc c p ω => .exc c p ω
  | .stuck => .stuck
@[simp] theorem kBo_ok (k : Bool) (es : Es) (x : PyData) : kBo gt call k es ρ (.ok x ω) = kBt gt call k x (tru x) es ρ ω := rfl
@[simp] theorem e_bo (k : Bool) (es : Es) : evalE gt call (.bo k es) ρ ω = evalB gt call k es ρ ω := by rw [evalE]
@[simp] theorem b_one (k : Bool) (e : E) : evalB gt call k (.cons e .nil) ρ ω = evalE gt call e ρ ω := by
  rw [evalB]
  show (evalE gt call e ρ >>= pure) ω = _
  rw [M.bnd_pure]
@[simp] theorem b_two (k : Bool) (e e2 : E) (es : Es) : evalB gt call k (.cons e (.cons e2 es)) ρ ω = kBo gt call k (.cons e2 es) ρ (evalE gt call e ρ ω) := by
  rw [evalB, bnd_at]
  cases evalE gt call e ρ ω with
  | ok x w =>
    show (M.ofO (tru x) >>= fun t => if t = k then evalB gt call k (.cons e2 es) ρ else pure x) w = kBt gt call k x (tru x) (.cons e2 es) ρ w
    cases tru x with
    | none => rfl
    | some t =>
      show (if t = k then evalB gt call k (.cons e2 es) ρ else pure x) w = if t = k then evalB gt call k (.cons e2 es) ρ w else .ok x w
      by_cases h : t = k
      · rw [if_pos h, if_pos h]
      · rw [if_neg h, if_neg h]; rfl
  | _ => rfl
/-! several -/
def kEc (x : PyData) (r : R (List PyData)) : R (List PyData) := match r with
  | .ok xs ω => .ok (x :: xs) ω
  | .exc c p ω => .exc c p ω
  | .stuck => .stuck
@[simp] theorem kEc_ok (x : PyData) (xs : List PyData) : kEc x (.ok xs ω) = .ok (x :: xs) ω := rfl
variable (gt call) in
def kEs (es : Es) (ρ : Env) (r : R PyData) : R (List PyData) := match r with
  | .ok x ω => kEc x (evalEs gt call es ρ ω)
  | .exc c p ω => .exc c p ω
  | .stuck => .stuck
@[simp] theorem kEs_ok (es : Es) (x : PyData) : kEs gt call es ρ (.ok x ω) = kEc x (evalEs gt call es ρ ω) := rfl
@[simp] theorem es_nil : evalEs gt call .nil ρ ω = .ok [] ω := by rw [evalEs]; rfl
@[simp] theorem es_cons (e : E) (es : Es) : evalEs gt call (.cons e es) ρ ω = kEs gt call es ρ (evalE gt call e ρ ω) := by
  rw [evalEs, bnd_at]
  cases evalE gt call e ρ ω with
  | ok x w =>
    show (evalEs gt call es ρ >>= fun xs => pure (x :: xs)) w = kEc x (evalEs gt call es ρ w)
    rw [bnd_at]
    cases evalEs gt call es ρ w <;> rfl
  | _ => rfl
def kTu (f : List PyData → PyData) (r : R (List PyData)) : R PyData := match r with
  | .ok xs ω => rO (gO (xs.all okEl) (some (f xs))) ω
  | .exc c p ω => .exc c p ω
  | .stuck => .stuck
@[simp] theorem kTu_ok (f : List PyData → PyData) (xs : List PyData) : kTu f (.ok xs ω) = rO (gO (xs.all okEl) (some (f xs))) ω := rfl
@[simp] theorem e_tup (es : Es) : evalE gt call (.tup es) ρ ω = kTu .tuple (evalEs gt call es ρ ω) := by
  rw [evalE, bnd_at]
  cases evalEs gt call es ρ ω with
  | ok xs w =>
    show M.guard (xs.all okEl) (pure (.tuple xs)) w = rO (gO (xs.all okEl) (some (.tuple xs))) w
    cases xs.all okEl <;> rfl
  | _ => rfl
@[simp] theorem e_lst (es : Es) : evalE gt call (.lst es) ρ ω = kTu .list (evalEs gt call es ρ ω) := by
  rw [evalE, bnd_at]
  cases evalEs gt call es ρ ω with
  | ok xs w =>
    show M.guard (xs.all okEl) (pure (.list xs)) w = rO (gO (xs.all okEl) (some (.list xs))) w
    cases xs.all okEl <;> rfl
  | _ => rfl
@[simp] theorem okEl_i (i : Int) : okEl (.int i) = true := rfl
@[simp] theorem okEl_b (i : Bool) : okEl (.bool i) = true := rfl
@[simp] theorem okEl_n : okEl .none = true := rfl
@[simp] theorem okEl_s (x : Str) : okEl (.str x) = true := rfl
@[simp] theorem okEl_l (x : List PyData) : okEl (.list x) = true := rfl
@[simp] theorem okEl_t (x : List PyData) : okEl (.tuple x) = true := rfl
/-! calls -/
def kAc (x : Slot) (r : R (List Slot)) : R (List Slot) := match r with
  | .ok xs ω => .ok (x :: xs) ω
  | .exc c p ω => .exc c p ω
  | .stuck => .stuck
@[simp] theorem kAc_ok (x : Slot) (xs : List Slot) : kAc x (.ok xs ω) = .ok (x :: xs) ω := rfl
variable (gt call) in
def kAs (es : Es) (ρ : Env) (r : R PyData) : R (List Slot) := match r with
  | .ok x ω => kAc (.v false x) (evalAs gt call es ρ ω)
  | .exc c p ω => .exc c p ω
  | .stuck => .stuck
@[simp] theorem kAs_ok (es : Es) (x : PyData) : kAs gt call es ρ (.ok x ω) = kAc (.v false x) (evalAs gt call es ρ ω) := rfl
@[simp] theorem as_nil : evalAs gt call .nil ρ ω = .ok [] ω := by rw [evalAs]; rfl
theorem as_gen {e : E} {es : Es} (h : argS e ρ (evalE gt call e ρ) = (do pure (.v false (← evalE gt call e ρ)))) : evalAs gt call (.cons e es) ρ ω = kAs gt call es ρ (evalE gt call e ρ ω) := by
  rw [evalAs, h, M.bnd_assoc, bnd_at]
  cases evalE gt call e ρ ω with
  | ok x w =>
    show (evalAs gt call es ρ >>= fun xs => pure (.v false x :: xs)) w = kAc (.v false x) (evalAs gt call es ρ w)
    rw [bnd_at]
    cases evalAs gt call es ρ w <;> rfl
  | _ => rfl
@[simp] theorem as_lit (d : PyData) (es : Es) : evalAs gt call (.cons (.lit d) es) ρ ω = kAs gt call es ρ (evalE gt call (.lit d) ρ ω) := as_gen rfl
@[simp] theorem as_glb (k : Nat) (es : Es) : evalAs gt call (.cons (.glb k) es) ρ ω = kAs gt call es ρ (evalE gt call (.glb k) ρ ω) := as_gen rfl
@[simp] theorem as_bin (o : Bop) (a b : E) (es : Es) : evalAs gt call (.cons (.bin o a b) es) ρ ω = kAs gt call es ρ (evalE gt call (.bin o a b) ρ ω) := as_gen rfl
@[simp] theorem as_chain (o1 o2 : Bop) (a b c : E) (es : Es) : evalAs gt call (.cons (.chain o1 o2 a b c) es) ρ ω = kAs gt call es ρ (evalE gt call (.chain o1 o2 a b c) ρ ω) := as_gen rfl
@[simp] theorem as_neg (a : E) (es : Es) : evalAs gt call (.cons (.neg a) es) ρ ω = kAs gt call es ρ (evalE gt call (.neg a) ρ ω) := as_gen rfl
@[simp] theorem as_not_ (a : E) (es : Es) : evalAs gt call (.cons (.not_ a) es) ρ ω = kAs gt call es ρ (evalE gt call (.not_ a) ρ ω) := as_gen rfl
@[simp] theorem as_bo (k : Bool) (xs : Es) (es : Es) : evalAs gt call (.cons (.bo k xs) es) ρ ω = kAs gt call es ρ (evalE gt call (.bo k xs) ρ ω) := as_gen rfl
@[simp] theorem as_ite (c a b : E) (es : Es) : evalAs gt call (.cons (.ite c a b) es) ρ ω = kAs gt call es ρ (evalE gt call (.ite c a b) ρ ω) := as_gen rfl
@[simp] theorem as_tup (xs : Es) (es : Es) : evalAs gt call (.cons (.tup xs) es) ρ ω = kAs gt call es ρ (evalE gt call (.tup xs) ρ ω) := as_gen rfl
@[simp] theorem as_lst (xs : Es) (es : Es) : evalAs gt call (.cons (.lst xs) es) ρ ω = kAs gt call es ρ (evalE gt call (.lst xs) ρ ω) := as_gen rfl
@[simp] theorem as_dic (xs : Es) (es : Es) : evalAs gt call (.cons (.dic xs) es) ρ ω = kAs gt call es ρ (evalE gt call (.dic xs) ρ ω) := as_gen rfl
@[simp] theorem as_ix (a b : E) (es : Es) : evalAs gt call (.cons (.ix a b) es) ρ ω = kAs gt call es ρ (evalE gt call (.ix a b) ρ ω) := as_gen rfl
@[simp] theorem as_sl (a b c d : E) (es : Es) : evalAs gt call (.cons (.sl a b c d) es) ρ ω = kAs gt call es ρ (evalE gt call (.sl a b c d) ρ ω) := as_gen rfl
@[simp] theorem as_call (f : Nat) (b : Bool) (xs : Es) (es : Es) : evalAs gt call (.cons (.call f b xs) es) ρ ω = kAs gt call es ρ (evalE gt call (.call f b xs) ρ ω) := as_gen rfl
@[simp] theorem as_callv (f : Nat) (fs : List Nat) (xs : Es) (es : Es) : evalAs gt call (.cons (.callv f fs xs) es) ρ ω = kAs gt call es ρ (evalE gt call (.callv f fs xs) ρ ω) := as_gen rfl
@[simp] theorem as_sset (a : E) (es : Es) : evalAs gt call (.cons (.sset a) es) ρ ω = kAs gt call es ρ (evalE gt call (.sset a) ρ ω) := as_gen rfl
@[simp] theorem as_mget (a b c : E) (es : Es) : evalAs gt call (.cons (.mget a b c) es) ρ ω = kAs gt call es ρ (evalE gt call (.mget a b c) ρ ω) := as_gen rfl
@[simp] theorem as_gfn (f : Nat) (es : Es) : evalAs gt call (.cons (.gfn f) es) ρ ω = kAc (.f f) (evalAs gt call es ρ ω) := by
  rw [evalAs]
  show ((pure (Slot.f f) : M Slot) >>= fun x => evalAs gt call es ρ >>= fun xs => pure (x :: xs)) ω = _
  rw [M.pure_bnd, bnd_at]
  cases evalAs gt call es ρ ω <;> rfl
@[simp] theorem as_draw (i : Nat) (a : E) (es : Es) : evalAs gt call (.cons (.draw i a) es) ρ ω = kAs gt call es ρ (evalE gt call (.draw i a) ρ ω) := as_gen rfl
@[simp] theorem as_b1 (p : P1) (a : E) (es : Es) : evalAs gt call (.cons (.b1 p a) es) ρ ω = kAs gt call es ρ (evalE gt call (.b1 p a) ρ ω) := as_gen rfl
@[simp] theorem as_b2 (p : P2) (a b : E) (es : Es) : evalAs gt call (.cons (.b2 p a b) es) ρ ω = kAs gt call es ρ (evalE gt call (.b2 p a b) ρ ω) := as_gen rfl
@[simp] theorem as_isa (a : E) (t : Ty) (es : Es) : evalAs gt call (.cons (.isa a t) es) ρ ω = kAs gt call es ρ (evalE gt call (.isa a t) ρ ω) := as_gen rfl
@[simp] theorem as_comp (t : Tg) (it : E) (ts : Es) (e : E) (es : Es) : evalAs gt call (.cons (.comp t it ts e) es) ρ ω = kAs gt call es ρ (evalE gt call (.comp t it ts e) ρ ω) := as_gen rfl
@[simp] theorem as_mcount (a b : E) (es : Es) : evalAs gt call (.cons (.mcount a b) es) ρ ω = kAs gt call es ρ (evalE gt call (.mcount a b) ρ ω) := as_gen rfl
@[simp] theorem as_mindex (a b : E) (es : Es) : evalAs gt call (.cons (.mindex a b) es) ρ ω = kAs gt call es ρ (evalE gt call (.mindex a b) ρ ω) := as_gen rfl
@[simp] theorem as_var {i : Nat} {es : Es} : evalAs gt call (.cons (.var i) es) ρ ω = match ρ[i]? with
    | some (.v false d) => kAc (.v false d) (evalAs gt call es ρ ω)
    | some (.f k) => kAc (.f k) (evalAs gt call es ρ ω)
    | some .s => kAc .s (evalAs gt call es ρ ω)
    | _ => .stuck := by
  rw [evalAs]
  show ((match ρ[i]? with
    | some (.v false d) => (pure (Slot.v false d) : M Slot)
    | some (.f k) => pure (.f k)
    | some .s => pure .s
    | _ => M.stuck) >>= fun x => evalAs gt call es ρ >>= fun xs => pure (x :: xs)) ω = _
  have go : ∀ s : Slot, ((pure s : M Slot) >>= fun x => evalAs gt call es ρ >>= fun xs => pure (x :: xs)) ω = kAc s (evalAs gt call es ρ ω) := fun s => by
    rw [M.pure_bnd, bnd_at]
    cases evalAs gt call es ρ ω <;> rfl
  cases ρ[i]? with
  | none => rfl
  | some s => cases s with
    | v o d => cases o with
      | false => exact go _
      | true => rfl
    | f k => exact go _
    | s => exact go _
    | un => rfl
    | x c p => rfl
variable (call) in
def kCa (f : Nat) (r : R (List Slot)) : R PyData := match r with
  | .ok xs ω => call f xs ω
  | .exc c p ω => .exc c p ω
  | .stuck => .stuck
@[simp] theorem kCa_ok (f : Nat) (xs : List Slot) : kCa call f (.ok xs ω) = call f xs ω := rfl
@[simp] theorem e_call (f : Nat) (es : Es) : evalE gt call (.call f false es) ρ ω = kCa call f (evalAs gt call es ρ ω) := by
  rw [evalE, bnd_at]
  cases evalAs gt call es ρ ω with
  | ok xs w =>
    show (call f xs >>= fun d => pure d) w = call f xs w
    rw [show (call f xs >>= fun d => pure d) = call f xs from M.bnd_pure _]
  | _ => rfl
theorem e_callv {i k : Nat} {fs : List Nat} {es : Es} (h : ρ[i]? = some (.f k)) (hc : fs.contains k = true) : evalE gt call (.callv i fs es) ρ ω = kCa call k (evalAs gt call es ρ ω) := by
  rw [evalE, h]
  show M.guard (fs.contains k) (evalAs gt call es ρ >>= fun xs => call k xs) ω = _
  rw [hc]
  show (evalAs gt call es ρ >>= fun xs => call k xs) ω = _
  rw [bnd_at]
  cases evalAs gt call es ρ ω <;> rfl
@[simp] theorem e_sset (a : E) : evalE gt call (.sset a) ρ ω = k1 ssetD (evalE gt call a ρ ω) := by rw [evalE]; exact one_at
@[simp] theorem e_dic0 : evalE gt call (.dic .nil) ρ ω = .ok (.dict []) ω := by rw [evalE, evalKV]; rfl
theorem e_mget {a b c : E} {kvs : List (PyData × PyData)} {y z : PyData} (ha : evalE gt call a ρ ω = .ok (.dict kvs) ω) (hb : evalE gt call b ρ ω = .ok y ω) (hc : evalE gt call c ρ ω = .ok z ω) (hk : leafKey y = true := by rfl) :
    evalE gt call (.mget a b c) ρ ω = .ok ((dfind kvs y).getD z) ω := by
  rw [evalE, bnd_at, ha]
  show (evalE gt call b ρ >>= fun y => evalE gt call c ρ >>= fun z => M.ofO (mgetD (.dict kvs) y z)) ω = _
  rw [bnd_at, hb]
  show (evalE gt call c ρ >>= fun z => M.ofO (mgetD (.dict kvs) y z)) ω = _
  rw [bnd_at, hc]
  show (M.ofO (gO (leafKey y) (some ((dfind kvs y).getD z))) : M PyData) ω = _
  rw [hk]; rfl
/-! draws -/
def kDr (r : R PyData) : R PyData := match r with
  | .ok (.int n) ω => (match draw n ω with
    | .ok k w => .ok (.int k) w
    | _ => .stuck)
  | .ok _ _ => .stuck
  | .exc c p ω => .exc c p ω
  | .stuck => .stuck
theorem kDr_ok {n : Int} (h0 : 0 < n) (h1 : n < 2 ^ 64) : kDr (.ok (.int n) ω) = .ok (.int (drawFn ω n).1) (drawFn ω n).2 := by
  unfold kDr draw
  simp only [h0, h1, and_self, if_true]
theorem e_draw {i : Nat} {e : E} (h : ρ[i]? = some .s) : evalE gt call (.draw i e) ρ ω = kDr (evalE gt call e ρ ω) := by
  rw [evalE, h]
  show (evalE gt call e ρ >>= _) ω = _
  rw [bnd_at]
  cases evalE gt call e ρ ω with
  | ok x w => cases x with
    | int n =>
      show (draw n >>= fun k => (pure (PyData.int k) : M PyData)) w = (match draw n w with | .ok k w => R.ok (PyData.int k) w | _ => .stuck)
      rw [bnd_at]
      unfold draw
      by_cases hn : 0 < n ∧ n < 2 ^ 64
      · simp only [if_pos hn]; rfl
      · simp only [if_neg hn]
    | _ => rfl
  | _ => rfl
theorem draw_range {n : Int} (h : 0 < n) : 0 ≤ (drawFn ω n).1 ∧ (drawFn ω n).1 < n := by
  unfold drawFn
  exact ⟨Int.emod_nonneg _ (by omega), Int.emod_lt_of_pos _ h⟩
/-! statements -/
variable (gt call) in
def kS (b : S) (r : R Out) : R Out := match r with
  | .ok (.nx ρ) ω => evalS gt call b ρ ω
  | r => r
@[simp] theorem kS_nx (b : S) : kS gt call b (.ok (.nx ρ) ω) = evalS gt call b ρ ω := rfl
@[simp] theorem kS_rt (b : S) (d : PyData) : kS gt call b (.ok (.rt d) ω) = .ok (.rt d) ω := rfl
@[simp] theorem kS_bk (b : S) : kS gt call b (.ok (.bk ρ) ω) = .ok (.bk ρ) ω := rfl
@[simp] theorem kS_ct (b : S) : kS gt call b (.ok (.ct ρ) ω) = .ok (.ct ρ) ω := rfl
@[simp] theorem kS_exc (b : S) (c : Nat) (p : PyData) : kS gt call b (.exc c p ω) = .exc c p ω := rfl
@[simp] theorem s_skip : evalS gt call .skip ρ ω = .ok (.nx ρ) ω := by rw [evalS]; rfl
@[simp] theorem s_seq (a b : S) : evalS gt call (.seq a b) ρ ω = kS gt call b (evalS gt call a ρ ω) := by
  rw [evalS, andThen_at]
  cases evalS gt call a ρ ω with
  | ok o w => cases o <;> rfl
  | _ => rfl
def kRt (r : R PyData) : R Out := match r with
  | .ok d ω => .ok (.rt d) ω
  | .exc c p ω => .exc c p ω
  | .stuck => .stuck
@[simp] theorem kRt_ok (d : PyData) : kRt (.ok d ω) = .ok (.rt d) ω := rfl
@[simp] theorem kRt_exc (c : Nat) (p : PyData) : kRt (.exc c p ω) = .exc c p ω := rfl
@[simp] theorem s_ret (e : E) : evalS gt call (.ret e) ρ ω = kRt (evalE gt call e (frz (esc e) ρ) ω) := by
  rw [evalS, bnd_at]
  cases evalE gt call e (frz (esc e) ρ) ω <;> rfl
@[simp] theorem s_retn : evalS gt call .retn ρ ω = .ok (.rt .none) ω := by rw [evalS]; rfl
def kAg (i : Nat) (fr : Bool) (ρ : Env) (r : R PyData) : R Out := match r with
  | .ok d ω => .ok (.nx (ρ.set i (.v (ownV fr d) d))) ω
  | .exc c p ω => .exc c p ω
  | .stuck => .stuck
@[simp] theorem kAg_ok (i : Nat) (fr : Bool) (d : PyData) : kAg i fr ρ (.ok d ω) = .ok (.nx (ρ.set i (.v (ownV fr d) d))) ω := rfl
@[simp] theorem s_asg (i : Nat) (e : E) : evalS gt call (.asg (.nm i) e) ρ ω = kAg i (freshE e) (frz (esc e) ρ) (evalE gt call e (frz (esc e) ρ) ω) := by
  rw [evalS, bnd_at]
  cases evalE gt call e (frz (esc e) ρ) ω <;> rfl
@[simp] theorem own_f (d : PyData) : ownV false d = false := by cases d <;> rfl
@[simp] theorem own_i (b : Bool) (i : Int) : ownV b (.int i) = false := rfl
@[simp] theorem own_b (b : Bool) (i : Bool) : ownV b (.bool i) = false := rfl
@[simp] theorem own_t (b : Bool) (i : List PyData) : ownV b (.tuple i) = false := rfl
@[simp] theorem own_s (b : Bool) (i : Str) : ownV b (.str i) = false := rfl
@[simp] theorem own_n (b : Bool) : ownV b .none = false := rfl
@[simp] theorem own_l (b : Bool) (i : List PyData) : ownV b (.list i) = b := rfl
variable (gt call) in
def kI2 (o : Option Bool) (a b : S) (ρ : Env) (ω : Orc) : R Out := match o with
  | some true => evalS gt call a ρ ω
  | some false => evalS gt call b ρ ω
  | none => .stuck
@[simp] theorem kI2_t (a b : S) : kI2 gt call (some true) a b ρ ω = evalS gt call a ρ ω := rfl
@[simp] theorem kI2_f (a b : S) : kI2 gt call (some false) a b ρ ω = evalS gt call b ρ ω := rfl
variable (gt call) in
def kI (a b : S) (ρ : Env) (r : R PyData) : R Out := match r with
  | .ok x ω => kI2 gt call (tru x) a b ρ ω
  | .exc c p ω => .exc c p ω
  | .stuck => .stuck
@[simp] theorem kI_ok (a b : S) (x : PyData) : kI gt call a b ρ (.ok x ω) = kI2 gt call (tru x) a b ρ ω := rfl
@[simp] theorem s_ite (e : E) (a b : S) : evalS gt call (.ite e a b) ρ ω = kI gt call a b (frz (esc e) ρ) (evalE gt call e (frz (esc e) ρ) ω) := by
  rw [evalS, bnd_at]
  cases evalE gt call e (frz (esc e) ρ) ω with
  | ok x w =>
    show (M.ofO (tru x) >>= fun t => if t = true then evalS gt call a (frz (esc e) ρ) else evalS gt call b (frz (esc e) ρ)) w = kI2 gt call (tru x) a b (frz (esc e) ρ) w
    cases tru x with
    | none => rfl
    | some t => cases t <;> rfl
  | _ => rfl
@[simp] theorem s_raise (c : Nat) : evalS gt call (.raise c) ρ ω = .exc c .none ω := by rw [evalS]; rfl
def kAu (i : Nat) (o : Bop) (x : Int) (ρ : Env) (r : R PyData) : R Out := match r with
  | .ok y ω => (match bop o (.int x) y with
    | some z => .ok (.nx (ρ.set i (.v false z))) ω
    | none => .stuck)
  | .exc c p ω => .exc c p ω
  | .stuck => .stuck
theorem kAu_ok {i : Nat} {o : Bop} {x : Int} {y z : PyData} (h : bop o (.int x) y = some z) : kAu i o x ρ (.ok y ω) = .ok (.nx (ρ.set i (.v false z))) ω := by
  show (match bop o (.int x) y with | some z => R.ok (Out.nx (ρ.set i (.v false z))) ω | none => R.stuck) = _
  rw [h]
def kAz (i : Nat) (ρ : Env) (o : Option PyData) (ω : Orc) : R Out := match o with
  | some z => .ok (.nx (ρ.set i (.v false z))) ω
  | none => .stuck
@[simp] theorem kAz_some (i : Nat) (z : PyData) : kAz i ρ (some z) ω = .ok (.nx (ρ.set i (.v false z))) ω := rfl
@[simp] theorem kAu_at (i : Nat) (o : Bop) (x : Int) (y : PyData) : kAu i o x ρ (.ok y ω) = kAz i ρ (bop o (.int x) y) ω := rfl
theorem s_aug {i : Nat} {o : Bop} {e : E} {x : Int} (h : (frz (esc e) ρ)[i]? = some (.v false (.int x))) : evalS gt call (.aug i o e) ρ ω = kAu i o x (frz (esc e) ρ) (evalE gt call e (frz (esc e) ρ) ω) := by
  rw [evalS]
  simp only [h]
  rw [bnd_at]
  cases evalE gt call e (frz (esc e) ρ) ω with
  | ok y w =>
    show (M.ofO (bop o (.int x) y) >>= fun z => (pure (Out.nx ((frz (esc e) ρ).set i (.v false z))) : M Out)) w = (match bop o (.int x) y with | some z => R.ok (Out.nx ((frz (esc e) ρ).set i (.v false z))) w | none => R.stuck)
    cases bop o (.int x) y <;> rfl
  | _ => rfl
/-! the state's own places -/
theorem e_sget0 {i : Nat} (h : ρ[i]? = some .s) : evalE gt call (.sget i 0) ρ ω = .ok (.int ω.a) ω := by rw [evalE, h] <;> rfl
theorem e_sget1 {i : Nat} (h : ρ[i]? = some .s) : evalE gt call (.sget i 1) ρ ω = .ok (.int ω.b) ω := by rw [evalE, h] <;> rfl
theorem e_sget3 {i : Nat} (h : ρ[i]? = some .s) : evalE gt call (.sget i 3) ρ ω = .ok (.int ω.c) ω := by rw [evalE, h] <;> rfl
theorem e_slen {i : Nat} (h : ρ[i]? = some .s) : evalE gt call (.slen i) ρ ω = .ok (.int ω.scr.length) ω := by rw [evalE, h] <;> rfl
def kCell (j : Int) (ω : Orc) : R PyData := match L2.atI ω.scr j with
  | some v => .ok (.int v) ω
  | none => .stuck
theorem e_scell {i j : Nat} {n : Int} (h : ρ[i]? = some .s) (h2 : ρ[j]? = some (.v false (.int n))) : evalE gt call (.scell i j) ρ ω = kCell n ω := by
  rw [evalE, h, h2]; rfl
def kSs (k : Nat) (ρ : Env) (r : R PyData) : R Out := match r with
  | .ok (.int v) w => (match k with
    | 0 => .ok (.nx ρ) { w with a := v }
    | 1 => if 0 ≤ v then .ok (.nx ρ) { w with b := v } else .stuck
    | 3 => if 0 ≤ v ∧ v < 2 ^ 31 then .ok (.nx ρ) { w with c := v } else .stuck
    | _ => .stuck)
  | .ok _ _ => .stuck
  | .exc c p ω => .exc c p ω
  | .stuck => .stuck
@[simp] theorem kSs_0 (v : Int) : kSs 0 ρ (.ok (.int v) ω) = .ok (.nx ρ) { ω with a := v } := rfl
theorem kSs_1 {v : Int} (h : 0 ≤ v) : kSs 1 ρ (.ok (.int v) ω) = .ok (.nx ρ) { ω with b := v } := if_pos h
theorem kSs_3 {v : Int} (h : 0 ≤ v) (h2 : v < 2147483648) : kSs 3 ρ (.ok (.int v) ω) = .ok (.nx ρ) { ω with c := v } := if_pos ⟨h, h2⟩
theorem s_sset {i k : Nat} {e : E} (h : ρ[i]? = some .s) : evalS gt call (.sset i k e) ρ ω = kSs k ρ (evalE gt call e ρ ω) := by
  rw [evalS, h]
  show (evalE gt call e ρ >>= _) ω = _
  rw [bnd_at]
  cases evalE gt call e ρ ω with
  | ok x w => cases x with
    | int n =>
      match k with
      | 0 => rfl
      | 1 => rfl
      | 2 => rfl
      | 3 => rfl
      | k + 4 => rfl
    | _ => rfl
  | _ => rfl
@[simp] theorem p1_int (i : Int) : p1 .int (.int i) = some (.int i) := rfl
@[simp] theorem p1_abs (i : Int) : p1 .abs (.int i) = some (.int (if i < 0 then -i else i)) := rfl
theorem atI_at {xs : List Int} {i : Int} (h : 0 ≤ i) (h2 : i < xs.length) : L2.atI xs i = some (xs.getD i.toNat 0) := by
  unfold L2.atI L2.ixN
  rw [if_pos h, if_pos h2]
  have : i.toNat < xs.length := by omega
  simp [List.getD, this]
/-! no slot is an own one -/
def nOwn : Slot → Bool
  | .v true _ => false
  | _ => true
theorem frz_id : ∀ (is : List Nat) {ρ : Env}, ρ.all nOwn = true → frz is ρ = ρ
  | [], ρ, _ => rfl
  | i :: is, ρ, h => by
    have e : ρ.modify i frz1 = ρ := by
      apply List.ext_getElem?
      intro j
      rw [List.getElem?_modify]
      by_cases hij : i = j
      · subst hij
        cases e : ρ[i]? with
        | none => simp
        | some s =>
          have hs : nOwn s = true := List.all_eq_true.mp h s (List.mem_of_getElem? e)
          cases s with
          | v o d => cases o with
            | true => cases hs
            | false => simp [frz1]
          | _ => simp [frz1]
      · simp [hij]
    show frz is (ρ.modify i frz1) = ρ
    rw [e]
    exact frz_id is h
end
section
variable {gt : Nat → Option PyData} {call : Nat → List Slot → M PyData} {ρ ρ' : Env} {ω ω' : Orc}
/-! a def's run -/
def kOut (r : R Out) : R PyData := match r with
  | .ok (.rt d) ω => .ok d ω
  | .ok (.nx _) ω => .ok .none ω
  | .ok _ _ => .stuck
  | .exc c p ω => .exc c p ω
  | .stuck => .stuck
@[simp] theorem kOut_rt (d : PyData) : kOut (.ok (.rt d) ω) = .ok d ω := rfl
@[simp] theorem kOut_nx : kOut (.ok (.nx ρ) ω) = .ok .none ω := rfl
@[simp] theorem kOut_exc (c : Nat) (p : PyData) : kOut (.exc c p ω) = .exc c p ω := rfl
theorem run_at {P : Nat → Option Def} {n f : Nat} {as : List Slot} {d : Def} (h : P f = some d) (hl : as.length = d.ar) : run gt P (n + 1) f as ω = kOut (evalS gt (run gt P n) d.body (entry d as) ω) := by
  rw [run, h]
  show M.guard (decide (as.length = d.ar)) (evalS gt (run gt P n) d.body (entry d as) >>= outD) ω = _
  rw [decide_eq_true hl]
  show (evalS gt (run gt P n) d.body (entry d as) >>= outD) ω = _
  rw [bnd_at]
  cases evalS gt (run gt P n) d.body (entry d as) ω with
  | ok o w => cases o <;> rfl
  | _ => rfl
/-! while -/
variable (gt call) in
def wCond (e : E) (ρ : Env) : M (Bool × Env) := evalE gt call e (frz (esc e) ρ) >>= fun x => M.ofO (tru x) >>= fun t => pure (t, frz (esc e) ρ)
variable (gt call) in
def wLoop (e : E) (b : S) (n : Nat) (ρ : Env) (ω : Orc) : R Out := whM (wCond gt call e) (evalS gt call b) n ρ ω
theorem s_wh (e : E) (b : S) : evalS gt call (.wh e b) ρ ω = wLoop gt call e b whFuel ρ ω := by rw [evalS]; rfl
variable (gt call) in
def kWb (e : E) (b : S) (n : Nat) (r : R Out) : R Out := match r with
  | .ok (.nx ρ) ω => wLoop gt call e b n ρ ω
  | .ok (.ct ρ) ω => wLoop gt call e b n ρ ω
  | .ok (.bk ρ) ω => .ok (.nx ρ) ω
  | .ok (.rt d) ω => .ok (.rt d) ω
  | .exc c p ω => .exc c p ω
  | .stuck => .stuck
@[simp] theorem kWb_nx (e : E) (b : S) (n : Nat) : kWb gt call e b n (.ok (.nx ρ) ω) = wLoop gt call e b n ρ ω := rfl
@[simp] theorem kWb_ct (e : E) (b : S) (n : Nat) : kWb gt call e b n (.ok (.ct ρ) ω) = wLoop gt call e b n ρ ω := rfl
@[simp] theorem kWb_bk (e : E) (b : S) (n : Nat) : kWb gt call e b n (.ok (.bk ρ) ω) = .ok (.nx ρ) ω := rfl
@[simp] theorem kWb_rt (e : E) (b : S) (n : Nat) (d : PyData) : kWb gt call e b n (.ok (.rt d) ω) = .ok (.rt d) ω := rfl
variable (gt call) in
def kWt (e : E) (b : S) (n : Nat) (o : Option Bool) (ρ : Env) (ω : Orc) : R Out := match o with
  | some true => kWb gt call e b n (evalS gt call b ρ ω)
  | some false => .ok (.nx ρ) ω
  | none => .stuck
@[simp] theorem kWt_t (e : E) (b : S) (n : Nat) : kWt gt call e b n (some true) ρ ω = kWb gt call e b n (evalS gt call b ρ ω) := rfl
@[simp] theorem kWt_f (e : E) (b : S) (n : Nat) : kWt gt call e b n (some false) ρ ω = .ok (.nx ρ) ω := rfl
variable (gt call) in
def kWc (e : E) (b : S) (n : Nat) (ρ : Env) (r : R PyData) : R Out := match r with
  | .ok x ω => kWt gt call e b n (tru x) ρ ω
  | .exc c p ω => .exc c p ω
  | .stuck => .stuck
@[simp] theorem kWc_ok (e : E) (b : S) (n : Nat) (x : PyData) : kWc gt call e b n ρ (.ok x ω) = kWt gt call e b n (tru x) ρ ω := rfl
theorem wLoop_succ (e : E) (b : S) (n : Nat) : wLoop gt call e b (n + 1) ρ ω = kWc gt call e b n (frz (esc e) ρ) (evalE gt call e (frz (esc e) ρ) ω) := by
  unfold wLoop
  rw [whM, bnd_at]
  unfold wCond
  rw [bnd_at]
  cases evalE gt call e (frz (esc e) ρ) ω with
  | ok x w =>
    show _ = kWt gt call e b n (tru x) (frz (esc e) ρ) w
    dsimp only
    cases tru x with
    | none => rfl
    | some t => cases t with
      | false => rfl
      | true =>
        show (evalS gt call b (frz (esc e) ρ) >>= _) w = kWb gt call e b n (evalS gt call b (frz (esc e) ρ) w)
        rw [bnd_at]
        cases evalS gt call b (frz (esc e) ρ) w with
        | ok o w => cases o <;> rfl
        | _ => rfl
  | _ => rfl
/-! for -/
variable (gt call) in
def fLoop (t : Tg) (b : S) (xs : List PyData) (ρ : Env) (ω : Orc) : R Out := forM_ (fun x ρ => asgT t false x ρ >>= fun ρ' => evalS gt call b ρ') xs ρ ω
@[simp] theorem fLoop_nil (t : Tg) (b : S) : fLoop gt call t b [] ρ ω = .ok (.nx ρ) ω := rfl
variable (gt call) in
def kFb (t : Tg) (b : S) (xs : List PyData) (r : R Out) : R Out := match r with
  | .ok (.nx ρ) ω => fLoop gt call t b xs ρ ω
  | .ok (.ct ρ) ω => fLoop gt call t b xs ρ ω
  | .ok (.bk ρ) ω => .ok (.nx ρ) ω
  | .ok (.rt d) ω => .ok (.rt d) ω
  | .exc c p ω => .exc c p ω
  | .stuck => .stuck
@[simp] theorem kFb_nx (t : Tg) (b : S) (xs : List PyData) : kFb gt call t b xs (.ok (.nx ρ) ω) = fLoop gt call t b xs ρ ω := rfl
@[simp] theorem kFb_ct (t : Tg) (b : S) (xs : List PyData) : kFb gt call t b xs (.ok (.ct ρ) ω) = fLoop gt call t b xs ρ ω := rfl
@[simp] theorem kFb_bk (t : Tg) (b : S) (xs : List PyData) : kFb gt call t b xs (.ok (.bk ρ) ω) = .ok (.nx ρ) ω := rfl
@[simp] theorem kFb_rt (t : Tg) (b : S) (xs : List PyData) (d : PyData) : kFb gt call t b xs (.ok (.rt d) ω) = .ok (.rt d) ω := rfl
theorem fLoop_cons (i : Nat) (b : S) (x : PyData) (xs : List PyData) : fLoop gt call (.nm i) b (x :: xs) ρ ω = kFb gt call (.nm i) b xs (evalS gt call b (ρ.set i (.v false x)) ω) := by
  show ((evalS gt call b (ρ.set i (.v false x))) >>= _) ω = _
  rw [bnd_at]
  cases evalS gt call b (ρ.set i (.v false x)) ω with
  | ok o w => cases o <;> rfl
  | _ => rfl
variable (gt call) in
def kFo (t : Tg) (b : S) (ρ : Env) (r : R PyData) : R Out := match r with
  | .ok x ω => (match itemsOf x with
    | some xs => fLoop gt call t b xs ρ ω
    | none => .stuck)
  | .exc c p ω => .exc c p ω
  | .stuck => .stuck
theorem kFo_ok {t : Tg} {b : S} {x : PyData} {xs : List PyData} (h : itemsOf x = some xs) : kFo gt call t b ρ (.ok x ω) = fLoop gt call t b xs ρ ω := by
  show (match itemsOf x with | some xs => fLoop gt call t b xs ρ ω | none => .stuck) = _
  rw [h]
@[simp] theorem kFo_l (t : Tg) (b : S) (xs : List PyData) : kFo gt call t b ρ (.ok (.list xs) ω) = fLoop gt call t b xs ρ ω := rfl
@[simp] theorem kFo_t (t : Tg) (b : S) (xs : List PyData) : kFo gt call t b ρ (.ok (.tuple xs) ω) = fLoop gt call t b xs ρ ω := rfl
theorem s_for (t : Tg) (it : E) (b : S) : evalS gt call (.for_ t it b) ρ ω = kFo gt call t b (frz (esc it) ρ) (evalE gt call it (frz (esc it) ρ) ω) := by
  rw [evalS, bnd_at]
  cases evalE gt call it (frz (esc it) ρ) ω with
  | ok x w =>
    show (M.ofO (itemsOf x) >>= fun xs => forM_ _ xs (frz (esc it) ρ)) w = (match itemsOf x with | some xs => fLoop gt call t b xs (frz (esc it) ρ) w | none => .stuck)
    cases itemsOf x <;> rfl
  | _ => rfl
/-! ranges -/
def kRg (r : R (List PyData)) : R PyData := match r with
  | .ok xs ω => rO (rngD xs) ω
  | .exc c p ω => .exc c p ω
  | .stuck => .stuck
@[simp] theorem kRg_ok (xs : List PyData) : kRg (.ok xs ω) = rO (rngD xs) ω := rfl
@[simp] theorem e_rng (es : Es) : evalE gt call (.rng es) ρ ω = kRg (evalEs gt call es ρ ω) := by
  rw [evalE, bnd_at]
  cases evalEs gt call es ρ ω with
  | ok xs w => exact rO_def
  | _ => rfl
theorem rng1 {n : Int} (h : n ≤ 1000000) (h2 : -(2 ^ 60) < n) : rngD [.int n] = some (.list (rangeD 0 n.toNat 1)) := by
  show gO (decide (n ≤ 1000000) && decide (-(2 ^ 60) < n)) (some (PyData.list (rangeD 0 n.toNat 1))) = _
  rw [decide_eq_true h, decide_eq_true h2]; rfl
theorem rng2 {a b : Int} (h : b - a ≤ 1000000) (h1 : -(2 ^ 60) < a) (h2 : a < 2 ^ 60) (h3 : -(2 ^ 60) < b) (h4 : b < 2 ^ 60) : rngD [.int a, .int b] = some (.list (rangeD a (b - a).toNat 1)) := by
  show gO (decide (b - a ≤ 1000000) && decide (-(2 ^ 60) < a) && decide (a < 2 ^ 60) && decide (-(2 ^ 60) < b) && decide (b < 2 ^ 60)) (some (PyData.list (rangeD a (b - a).toNat 1))) = _
  rw [decide_eq_true h, decide_eq_true h1, decide_eq_true h2, decide_eq_true h3, decide_eq_true h4]; rfl
/-! comprehensions -/
variable (gt call) in
def cBody (t : Tg) (ts : Es) (e : E) (ρ : Env) (x : PyData) : M (Option PyData) := asgT t false x ρ >>= fun ρ' => evalT gt call ts ρ' >>= fun b => if b = true then evalE gt call e ρ' >>= fun y => M.guard (okEl y) (pure (some y)) else pure none
theorem compM_at {f : PyData → M (Option PyData)} {g : PyData → Option PyData} : ∀ {xs : List PyData}, (∀ x ∈ xs, f x ω = .ok (g x) ω) → compM f xs ω = .ok (xs.filterMap g) ω
  | [], _ => rfl
  | x :: xs, h => by
    rw [compM, bnd_at, h x List.mem_cons_self]
    have ih := compM_at (f := f) (g := g) (xs := xs) fun y hy => h y (List.mem_cons_of_mem _ hy)
    cases hg : g x with
    | none =>
      rw [List.filterMap_cons, hg]
      exact ih
    | some y =>
      rw [List.filterMap_cons, hg]
      show (compM f xs >>= fun l => pure (y :: l)) ω = _
      rw [bnd_at, ih]; rfl
theorem noexc_ok {α : Type} {m : M α} {a : α} (h : m ω = .ok a ω') : M.noexc m ω = .ok a ω' := by
  unfold M.noexc; rw [h]
theorem comp_at {t : Tg} {it : E} {ts : Es} {e : E} {d : PyData} {xs : List PyData} {g : PyData → Option PyData} (h : evalE gt call it ρ ω = .ok d ω) (hi : itemsOf d = some xs) (hl : xs.length ≤ 1000000) (hb : ∀ x ∈ xs, cBody gt call t ts e (clr (tgS t) ρ) x ω = .ok (g x) ω) :
    evalE gt call (.comp t it ts e) ρ ω = .ok (.list (xs.filterMap g)) ω := by
  rw [evalE]
  refine noexc_ok ?_
  show (evalE gt call it ρ >>= fun x0 => M.ofO (itemsOf x0) >>= fun xs => M.guard (decide (xs.length ≤ 1000000)) (compM (cBody gt call t ts e (clr (tgS t) ρ)) xs >>= fun ys => pure (PyData.list ys))) ω = _
  rw [bnd_at, h]
  show (M.ofO (itemsOf d) >>= fun xs => M.guard (decide (xs.length ≤ 1000000)) (compM (cBody gt call t ts e (clr (tgS t) ρ)) xs >>= fun ys => pure (PyData.list ys))) ω = _
  rw [hi]
  show M.guard (decide (xs.length ≤ 1000000)) (compM (cBody gt call t ts e (clr (tgS t) ρ)) xs >>= fun ys => pure (PyData.list ys)) ω = _
  rw [decide_eq_true hl]
  show (compM (cBody gt call t ts e (clr (tgS t) ρ)) xs >>= fun ys => pure (PyData.list ys)) ω = _
  rw [bnd_at, compM_at hb]; rfl
def kCo (r : R PyData) : R (Option PyData) := match r with
  | .ok y ω => if okEl y = true then .ok (some y) ω else .stuck
  | .exc c p ω => .exc c p ω
  | .stuck => .stuck
@[simp] theorem kCo_ok (y : PyData) : kCo (.ok y ω) = if okEl y = true then .ok (some y) ω else .stuck := rfl
variable (gt call) in
def kCt (e : E) (ρ : Env) (r : R Bool) : R (Option PyData) := match r with
  | .ok true ω => kCo (evalE gt call e ρ ω)
  | .ok false ω => .ok none ω
  | .exc c p ω => .exc c p ω
  | .stuck => .stuck
@[simp] theorem kCt_t (e : E) : kCt gt call e ρ (.ok true ω) = kCo (evalE gt call e ρ ω) := rfl
@[simp] theorem kCt_f (e : E) : kCt gt call e ρ (.ok false ω) = .ok none ω := rfl
theorem cBody_nm (i : Nat) (ts : Es) (e : E) (x : PyData) : cBody gt call (.nm i) ts e ρ x ω = kCt gt call e (ρ.set i (.v false x)) (evalT gt call ts (ρ.set i (.v false x)) ω) := by
  show (evalT gt call ts (ρ.set i (.v false x)) >>= _) ω = _
  rw [bnd_at]
  cases evalT gt call ts (ρ.set i (.v false x)) ω with
  | ok b w => cases b with
    | false => rfl
    | true =>
      show (evalE gt call e (ρ.set i (.v false x)) >>= fun y => M.guard (okEl y) (pure (some y))) w = kCo (evalE gt call e (ρ.set i (.v false x)) w)
      rw [bnd_at]
      cases evalE gt call e (ρ.set i (.v false x)) w with
      | ok y w =>
        show M.guard (okEl y) (pure (some y)) w = if okEl y = true then .ok (some y) w else .stuck
        cases okEl y <;> rfl
      | _ => rfl
  | _ => rfl
@[simp] theorem t_nil : evalT gt call .nil ρ ω = .ok true ω := by rw [evalT]; rfl
variable (gt call) in
def kTt (o : Option Bool) (es : Es) (ρ : Env) (ω : Orc) : R Bool := match o with
  | some true => evalT gt call es ρ ω
  | some false => .ok false ω
  | none => .stuck
@[simp] theorem kTt_t (es : Es) : kTt gt call (some true) es ρ ω = evalT gt call es ρ ω := rfl
@[simp] theorem kTt_f (es : Es) : kTt gt call (some false) es ρ ω = .ok false ω := rfl
variable (gt call) in
def kT1 (es : Es) (ρ : Env) (r : R PyData) : R Bool := match r with
  | .ok x ω => kTt gt call (tru x) es ρ ω
  | .exc c p ω => .exc c p ω
  | .stuck => .stuck
@[simp] theorem kT1_ok (es : Es) (x : PyData) : kT1 gt call es ρ (.ok x ω) = kTt gt call (tru x) es ρ ω := rfl
@[simp] theorem t_cons (e : E) (es : Es) : evalT gt call (.cons e es) ρ ω = kT1 gt call es ρ (evalE gt call e ρ ω) := by
  rw [evalT, bnd_at]
  cases evalE gt call e ρ ω with
  | ok x w =>
    show (M.ofO (tru x) >>= fun t => if t = true then evalT gt call es ρ else pure false) w = kTt gt call (tru x) es ρ w
    cases tru x with
    | none => rfl
    | some t => cases t <;> rfl
  | _ => rfl
/-! a, b = x, y -/
def kPa (t : Tg) (es : Es) (ρ : Env) (r : R (List PyData)) : R Out := match r with
  | .ok ds ω => (match parT t es ds ρ ω with
    | .ok ρ' w => .ok (.nx ρ') w
    | .exc c p w => .exc c p w
    | .stuck => .stuck)
  | .exc c p ω => .exc c p ω
  | .stuck => .stuck
theorem s_par (t : Tg) (es : Es) : evalS gt call (.par t es) ρ ω = kPa t es (frz (escs es) ρ) (evalEs gt call es (frz (escs es) ρ) ω) := by
  rw [evalS, bnd_at]
  cases evalEs gt call es (frz (escs es) ρ) ω with
  | ok ds w =>
    show (parT t es ds (frz (escs es) ρ) >>= fun ρ' => (pure (Out.nx ρ') : M Out)) w = _
    rw [bnd_at]
    show _ = (match parT t es ds (frz (escs es) ρ) w with | .ok ρ' w => R.ok (Out.nx ρ') w | .exc c p w => .exc c p w | .stuck => .stuck)
    cases parT t es ds (frz (escs es) ρ) w <;> rfl
  | _ => rfl
@[simp] theorem kPa_2 (i j : Nat) (a b : E) (x y : PyData) : kPa (.tc (.nm i) (.tc (.nm j) .t0)) (.cons a (.cons b .nil)) ρ (.ok [x, y] ω) = .ok (.nx ((ρ.set i (.v (ownV (freshE a) x) x)).set j (.v (ownV (freshE b) y) y))) ω := rfl
@[simp] theorem kPa_3 (i j l : Nat) (a b d : E) (x y z : PyData) : kPa (.tc (.nm i) (.tc (.nm j) (.tc (.nm l) .t0))) (.cons a (.cons b (.cons d .nil))) ρ (.ok [x, y, z] ω) = .ok (.nx (((ρ.set i (.v (ownV (freshE a) x) x)).set j (.v (ownV (freshE b) y) y)).set l (.v (ownV (freshE d) z) z))) ω := rfl
/-! try -/
def kTr (b : Bool) (hs : List (Nat × Hd)) (ρ : Env) (r : R PyData) : R Out := match r with
  | .ok d w => .ok (if b = true then .rt d else .nx ρ) w
  | .exc c p w => (match hs.lookup c with
    | some h => .ok (.rt (evHd p h)) w
    | none => .exc c p w)
  | .stuck => .stuck
theorem s_try (b : Bool) (e : E) (hs : List (Nat × Hd)) : evalS gt call (.try_ b e hs) ρ ω = kTr b hs (frz (esc e) ρ) (evalE gt call e (frz (esc e) ρ) ω) := by
  rw [evalS]
  show (match evalE gt call e (frz (esc e) ρ) ω with | .ok d w' => _ | .exc c p w' => _ | .stuck => _) = _
  cases evalE gt call e (frz (esc e) ρ) ω <;> rfl
def kEx (ρ : Env) (r : R PyData) : R Out := match r with
  | .ok _ ω => .ok (.nx ρ) ω
  | .exc c p ω => .exc c p ω
  | .stuck => .stuck
@[simp] theorem kEx_ok (d : PyData) : kEx ρ (.ok d ω) = .ok (.nx ρ) ω := rfl
@[simp] theorem s_expr (e : E) : evalS gt call (.expr e) ρ ω = kEx (frz (esc e) ρ) (evalE gt call e (frz (esc e) ρ) ω) := by
  rw [evalS, bnd_at]
  cases evalE gt call e (frz (esc e) ρ) ω <;> rfl
/-! a chain -/
variable (gt call) in
def kC2 (o2 : Bop) (y : PyData) (c : E) (ρ : Env) (o : Option PyData) (ω : Orc) : R PyData := match o with
  | some (.bool true) => k1 (bop o2 y) (evalE gt call c ρ ω)
  | some (.bool false) => .ok (.bool false) ω
  | _ => .stuck
@[simp] theorem kC2_t (o2 : Bop) (y : PyData) (c : E) : kC2 gt call o2 y c ρ (some (.bool true)) ω = k1 (bop o2 y) (evalE gt call c ρ ω) := rfl
@[simp] theorem kC2_f (o2 : Bop) (y : PyData) (c : E) : kC2 gt call o2 y c ρ (some (.bool false)) ω = .ok (.bool false) ω := rfl
variable (gt call) in
def kC1 (o1 o2 : Bop) (x : PyData) (c : E) (ρ : Env) (r : R PyData) : R PyData := match r with
  | .ok y ω => kC2 gt call o2 y c ρ (bop o1 x y) ω
  | .exc c p ω => .exc c p ω
  | .stuck => .stuck
@[simp] theorem kC1_ok (o1 o2 : Bop) (x y : PyData) (c : E) : kC1 gt call o1 o2 x c ρ (.ok y ω) = kC2 gt call o2 y c ρ (bop o1 x y) ω := rfl
variable (gt call) in
def kC0 (o1 o2 : Bop) (b c : E) (ρ : Env) (r : R PyData) : R PyData := match r with
  | .ok x ω => kC1 gt call o1 o2 x c ρ (evalE gt call b ρ ω)
  | .exc c p ω => .exc c p ω
  | .stuck => .stuck
@[simp] theorem kC0_ok (o1 o2 : Bop) (x : PyData) (b c : E) : kC0 gt call o1 o2 b c ρ (.ok x ω) = kC1 gt call o1 o2 x c ρ (evalE gt call b ρ ω) := rfl
@[simp] theorem e_chain (o1 o2 : Bop) (a b c : E) : evalE gt call (.chain o1 o2 a b c) ρ ω = kC0 gt call o1 o2 b c ρ (evalE gt call a ρ ω) := by
  rw [evalE, bnd_at]
  cases evalE gt call a ρ ω with
  | ok x w =>
    show (evalE gt call b ρ >>= _) w = kC1 gt call o1 o2 x c ρ (evalE gt call b ρ w)
    rw [bnd_at]
    cases evalE gt call b ρ w with
    | ok y w =>
      show (M.ofO (bop o1 x y) >>= _) w = kC2 gt call o2 y c ρ (bop o1 x y) w
      cases bop o1 x y with
      | none => rfl
      | some z => cases z with
        | bool t => cases t with
          | true => exact one_at
          | false => rfl
        | _ => rfl
    | _ => rfl
  | _ => rfl
/-! own lists -/
def kSt (i : Nat) (f : PyData → M PyData) (d : PyData) (ρ : Env) (ω : Orc) : R Out := match f d ω with
  | .ok d' w => .ok (.nx (ρ.set i (.v true d'))) w
  | .exc c p w => .exc c p w
  | .stuck => .stuck
theorem kSt_ok {i : Nat} {f : PyData → M PyData} {d d' : PyData} (h : f d ω = .ok d' ω') : kSt i f d ρ ω = .ok (.nx (ρ.set i (.v true d'))) ω' := by unfold kSt; rw [h]
theorem setAt_at {i : Nat} {f : PyData → M PyData} {d : PyData} (h : ρ[i]? = some (.v true d)) : (setAt ρ i f >>= fun ρ' => (pure (.nx ρ') : M Out)) ω = kSt i f d ρ ω := by
  unfold setAt
  rw [h]
  show ((f d >>= fun d' => pure (ρ.set i (.v true d'))) >>= fun ρ' => (pure (.nx ρ') : M Out)) ω = _
  rw [M.bnd_assoc, bnd_at]
  unfold kSt
  cases f d ω <;> rfl
def kAp (f : PyData → PyData → M PyData) (i : Nat) (d : PyData) (ρ : Env) (r : R PyData) : R Out := match r with
  | .ok y ω => kSt i (f y) d ρ ω
  | .exc c p ω => .exc c p ω
  | .stuck => .stuck
@[simp] theorem kAp_ok (f : PyData → PyData → M PyData) (i : Nat) (d y : PyData) : kAp f i d ρ (.ok y ω) = kSt i (f y) d ρ ω := rfl
theorem s_app {i : Nat} {e : E} {ds : List PyData} (h : (frz (esc e) ρ)[i]? = some (.v true (.list ds))) : evalS gt call (.app i e) ρ ω = kAp appD i (.list ds) (frz (esc e) ρ) (evalE gt call e (frz (esc e) ρ) ω) := by
  rw [evalS]
  simp only [h]
  show (evalE gt call e (frz (esc e) ρ) >>= fun y => setAt (frz (esc e) ρ) i (appD y) >>= fun ρ' => (pure (.nx ρ') : M Out)) ω = _
  rw [bnd_at]
  cases evalE gt call e (frz (esc e) ρ) ω with
  | ok y w => exact setAt_at h
  | _ => rfl
theorem s_ext {i : Nat} {e : E} {ds : List PyData} (h : (frz (esc e) ρ)[i]? = some (.v true (.list ds))) : evalS gt call (.ext i e) ρ ω = kAp extD i (.list ds) (frz (esc e) ρ) (evalE gt call e (frz (esc e) ρ) ω) := by
  rw [evalS]
  simp only [h]
  show (evalE gt call e (frz (esc e) ρ) >>= fun y => setAt (frz (esc e) ρ) i (extD y) >>= fun ρ' => (pure (.nx ρ') : M Out)) ω = _
  rw [bnd_at]
  cases evalE gt call e (frz (esc e) ρ) ω with
  | ok y w => exact setAt_at h
  | _ => rfl
theorem app_ok {ds : List PyData} {y : PyData} (h : okEl y = true) (hl : ds.length < 1000000) : appD y (.list ds) ω = .ok (.list (ds ++ [y])) ω := by
  show M.guard (okEl y && decide (ds.length < 1000000)) (pure (PyData.list (ds ++ [y]))) ω = _
  rw [h, decide_eq_true hl]; rfl
theorem ext_ok {ds ys : List PyData} (hl : ds.length + ys.length < 1000000) : extD (.list ys) (.list ds) ω = .ok (.list (ds ++ ys)) ω := by
  show M.guard (decide (ds.length + ys.length < 1000000)) (pure (PyData.list (ds ++ ys))) ω = _
  rw [decide_eq_true hl]; rfl
theorem put_at {ds : List PyData} {y : PyData} {k : Int} {j : Nat} (h : okEl y = true) (hj : L2.ixN ds.length k = some j) : putIx (.int k) y (.list ds) ω = .ok (.list (ds.set j y)) ω := by
  show (match L2.ixN ds.length k with
    | some j => M.guard (okEl y) (pure (PyData.list (ds.set j y)))
    | none => M.stuck) ω = _
  rw [hj, h]; rfl
variable (gt call) in
def kSx (i : Nat) (k : E) (d : PyData) (ρ : Env) (r : R PyData) : R Out := match r with
  | .ok y ω => kAp (fun x => putIx x y) i d ρ (evalE gt call k ρ ω)
  | .exc c p ω => .exc c p ω
  | .stuck => .stuck
@[simp] theorem kSx_ok (i : Nat) (k : E) (d y : PyData) : kSx gt call i k d ρ (.ok y ω) = kAp (fun x => putIx x y) i d ρ (evalE gt call k ρ ω) := rfl
theorem s_setix {i : Nat} {k e : E} {ds : List PyData} (h : (frz (esc e ++ esc k) ρ)[i]? = some (.v true (.list ds))) : evalS gt call (.setix i k e) ρ ω = kSx gt call i k (.list ds) (frz (esc e ++ esc k) ρ) (evalE gt call e (frz (esc e ++ esc k) ρ) ω) := by
  rw [evalS]
  simp only [h]
  show (evalE gt call e (frz (esc e ++ esc k) ρ) >>= fun y => evalE gt call k (frz (esc e ++ esc k) ρ) >>= fun x => setAt (frz (esc e ++ esc k) ρ) i (putIx x y) >>= fun ρ' => (pure (.nx ρ') : M Out)) ω = _
  rw [bnd_at]
  cases evalE gt call e (frz (esc e ++ esc k) ρ) ω with
  | ok y w =>
    show (evalE gt call k (frz (esc e ++ esc k) ρ) >>= fun x => setAt (frz (esc e ++ esc k) ρ) i (putIx x y) >>= fun ρ' => (pure (.nx ρ') : M Out)) w = kAp (fun x => putIx x y) i (.list ds) (frz (esc e ++ esc k) ρ) (evalE gt call k (frz (esc e ++ esc k) ρ) w)
    rw [bnd_at]
    cases evalE gt call k (frz (esc e ++ esc k) ρ) w with
    | ok x w2 => exact setAt_at h
    | _ => rfl
  | _ => rfl
end
end Wv

set_option autoImplicit false
set_option linter.all false
set_option maxRecDepth 100000
set_option maxHeartbeats 4000000
namespace Wv
open PySem PySem.Spec PyProof.Rows L2
section
variable {X : Cx} {nm : Str} {cv : Value} {bd su : List PSt} {st0 : PSt} {q1 q2 q3 : Pos} {tbd : WX → TS} {tsu : Addr → Value → Option Addr → TS} {Wo : WX}
/-- what is caught where it has landed: e the error's address, gnd its ground -/
theorem hot_catch {e : Addr} {gnd : Heap} {sE s' : Shared} {pins : List (Addr × Obj)} {τ : L2.St} {G : Hp} {k : Value} {dd : Option Addr} {D : Ends}
    (stk : X.stack = X.env :: X.outer) (fra : X.env.frame = some X.env.locals) (nam : Names X nm cv) (okX : X.Ok) (J : Inv X pins τ G sE)
    (keep : ∀ b o, sE.heap.get? b = some o → b ∉ frs X.stack → gnd.get? b = some o) (ups : sE.heap.UpToSlots s'.heap) (sk : Sky gnd X.stack e (Zc k dd) X.env.locals s'.heap) (free : G e = none) (hos : s'.os = sE.os) (bare : AllBare s'.gens)
    (hm : PySem.W.exmOne X.K k cv = some true) (go : tsu e k dd D τ G)
    (hsu : ∀ (a : Addr) (oe : Obj) (cls : Value) (d : Option Addr) (pn : List (Addr × Obj)), Zc cls d oe → (∃ vs, oe.data = .fields vs) → PSs (X.suite a ((a, oe) :: pn)) (st0 :: su) (tsu a cls d)) :
    wpAny (model X.prog X.w) X.A (noteFrame (.ref e) X.env) (fun _ sA => wpAny (model X.prog X.w) X.A (setFlight (.ref e) none) (fun _ sB => wpAny (model X.prog X.w) X.A (handleBy (.ref e) X.env [.ExceptHandler (some (.Name nm q1)) none (st0 :: su) q2]) (SP X pins D) X.xe sB) X.xe sA) X.xe s' := by
  have frm : X.A.frames = some (X.env :: X.outer) := okX.frames.trans (congrArg some stk)
  rw [stk] at sk
  refine Sky.land Zc.steady frm fra sk (fun hA fA uA => ?_)
  have JA : Inv X pins τ G { s' with heap := hA } := J.landed keep fA.1 (ups.trans uA) hos bare
  obtain ⟨oA, vA, eA, zA, dA⟩ := fA.there
  have apart : e ∉ frs (X.env :: X.outer) := by
    intro hm
    obtain ⟨_, oB, eB, nB⟩ := fA.2.2.1.mem hm
    rw [eA] at eB
    cases eB
    exact nB _ dA
  have neL : e ≠ X.env.locals := by
    intro z
    exact apart (List.mem_filterMap.mpr ⟨X.env, List.mem_cons_self, fra.trans (congrArg some z.symm)⟩)
  have neF : e ∉ X.fs := by
    intro hm
    obtain ⟨en, h1, h2⟩ := List.mem_filterMap.mp hm
    exact apart (List.mem_filterMap.mpr ⟨en, List.mem_cons_of_mem _ h1, h2⟩)
  have SA := JA.suite eA dA free neL neF
  refine wpAny_handleBy_cons (codeAny_handlers_test ?_) (fun z => by cases z)
  have tyE : PySem.W.Looks (model X.prog X.w) hA (typeOf (.ref e)) k := fun _ _ _ _ kp q => wpAny_typeOf_ref (kp _ _ eA) (by rw [zA.1]; exact q)
  have mt := PySem.W.exm_one (M := model X.prog X.w) JA.kIn tyE hm
  have nameAt : ∀ {Q E : Value → Shared → Prop}, Q cv { s' with heap := hA } → wpAny (model X.prog X.w) (X.A.mark (some (.ref e))) (eval (.Name nm q1) X.env) Q E { s' with heap := hA } := by
    intro Q E q
    rcases nam.2.2 with h | ⟨h, h2, h3⟩
    · exact ld_glob (X := X.suite e ((e, oA) :: (X.pn ++ pins))) SA nam.1 h q nam.2.1
    · exact ld_blt (X := X.suite e ((e, oA) :: (X.pn ++ pins))) SA nam.1 h h2 q h3 nam.2.1
  refine nameAt (mt.here (codeAny_handlers_suite (HandSPX.lands_againZ fA fun hC fC uC => ?_)))
  have JC : Inv X pins τ G { s' with heap := hC } := J.landed keep fC.1 ((ups.trans uA).trans uC) hos bare
  obtain ⟨oC, vC, eC, zC, dC⟩ := fC.there
  refine wpAny_mono ((hsu e oC k dd (X.pn ++ pins) zC ⟨_, dC⟩).run [] _ _ G _ (JC.suite eC dC free neL neF) go) (fun fl sZ hZ => ?_) (fun _ _ z => z.elim)
  cases fl with
  | ret u => obtain ⟨v, τ2, G2, S2, r2, qq⟩ := hZ; exact ⟨v, τ2, G2, S2.unsuite okX, r2, qq⟩
  | next => obtain ⟨τ2, G2, S2, qq⟩ := hZ; exact ⟨τ2, G2, S2.unsuite okX, qq⟩
  | brk => obtain ⟨τ2, G2, S2, qq⟩ := hZ; exact ⟨τ2, G2, S2.unsuite okX, qq⟩
  | cont => obtain ⟨τ2, G2, S2, qq⟩ := hZ; exact ⟨τ2, G2, S2.unsuite okX, qq⟩
/-- what is wished of the body's errors: each is caught -/
def wHot (K : PySem.W.Frag) (cv : Value) (tsu : Addr → Value → Option Addr → TS) (D : Ends) : WX := fun k d σ H => PySem.W.exmOne K k cv = some true ∧ ∀ a, H a = none → tsu a k d D σ H
theorem hot_try (stk : X.stack = X.env :: X.outer) (fra : X.env.frame = some X.env.locals) (nam : Names X nm cv)
    (hb : ∀ (W : WX) (pn : List (Addr × Obj)) (xe : Value → Shared → Prop), (∀ p ∈ X.pn, p ∈ pn) → Takes (X.tr pn xe) W → PSs (X.tr pn xe) bd (tbd W))
    (hsu : ∀ (a : Addr) (oe : Obj) (cls : Value) (d : Option Addr) (pn : List (Addr × Obj)), Zc cls d oe → (∃ vs, oe.data = .fields vs) → PSs (X.suite a ((a, oe) :: pn)) (st0 :: su) (tsu a cls d)) :
    PS X (.Try bd [.ExceptHandler (some (.Name nm q1)) none (st0 :: su) q2] [] [] q3) (fun D σ H => tbd (wHot X.K cv tsu D) D σ H) := by
  refine ⟨fun pins s σ H D I h => wpAny_Try_except ?_⟩
  have okX := I.ok
  have body := (hb (wHot X.K cv tsu D) (X.pn ++ pins) (fun err sX => wpAny (model X.prog X.w) X.A (noteFrame err X.env) (fun _ sA => wpAny (model X.prog X.w) X.A (setFlight err none) (fun _ sB => wpAny (model X.prog X.w) X.A (handleBy err X.env [.ExceptHandler (some (.Name nm q1)) none (st0 :: su) q2]) (SP X pins D) X.xe sB) X.xe sA) X.xe sX)
    (fun p hp => List.mem_append_left _ hp) (fun err sX hx => by
      obtain ⟨e, gnd, sE, ps2, τ, G, k, dd, rfl, J, keep, ups, sk, free, hos, bare, hm, go⟩ := hx
      exact hot_catch stk fra nam okX (J.ofTry okX) keep ups sk free hos bare hm (go e free) hsu)).run [] s σ H D (I.toTry _) h
  refine wpAny_mono body (fun fl sZ hZ => ?_) (fun _ _ z => z)
  cases fl with
  | ret u => obtain ⟨v, τ2, G2, S2, r2, qq⟩ := hZ; exact ⟨v, τ2, G2, S2.ofTry okX, r2, qq⟩
  | next => obtain ⟨τ2, G2, S2, qq⟩ := hZ; exact wpAny_execs_nil ⟨τ2, G2, S2.ofTry okX, qq⟩
  | brk => obtain ⟨τ2, G2, S2, qq⟩ := hZ; exact ⟨τ2, G2, S2.ofTry okX, qq⟩
  | cont => obtain ⟨τ2, G2, S2, qq⟩ := hZ; exact ⟨τ2, G2, S2.ofTry okX, qq⟩
end
end Wv
namespace Wv
open PySem PySem.Spec PyProof.Rows L2 He
/-- the head's facts, and one more look -/
def hookX (n : Nat) (fa : List Fa) (fn : List DefD) (ex : PySem.W.Frag → Bool) : PySem.W.Hook where
  α := AlD × Bool
  obs := fun s => (obsDG n fa fn s.heap.get?, ex (frG s.heap.get? (asD s.heap.get? n)))
  val := fun _ => (He.valD fn, true)
  says := fun _ h => ∃ K : PySem.W.Frag, K.In h ∧ SaysD fa fn K ∧ ex K = true
  of := fun _ _ e => ⟨_, frG_in, congrArg Prod.fst e, congrArg Prod.snd e⟩
  keeps := fun _ _ _ ⟨K, hK, c⟩ k => ⟨K, PySem.W.Frag.In.keeps hK k, c⟩
theorem hookX_eq {n : Nat} {fa : List Fa} {fn : List DefD} {ex : PySem.W.Frag → Bool} {g : Addr → Option Obj} {s : Shared} (h : ∀ a, g a = s.heap.get? a) : (obsDG n fa fn g, ex (frG g (asD g n))) = (hookX n fa fn ex).obs s := by
  have e : g = s.heap.get? := funext h
  rw [e]; rfl
def isB (D Wc : Addr) (K : PySem.W.Frag) : Bool :=
  decide (PySem.W.findIn K (.ref D) "__getattribute__" = some (some (.builtin "BaseException.__getattribute__"))) && decide (PySem.W.findIn K (.ref D) "__getattr__" = some none) && PySem.W.hasDictIn K D &&
  decide (PySem.W.findIn K (.ref D) "__class__" = some (some (.builtin "object.__class__"))) && decide (PySem.W.specialIn K (.builtin "object.__class__") "__get__" = some (some (.builtin "getset_descriptor.__get__"))) &&
  decide (PySem.W.takesIn K (.builtin "object.__class__") = some true) && decide (PySem.W.mroIn K D (.type "object") = some true) && decide (PySem.W.kitOne K (.ref D) (.ref Wc) = some true) && decide (PySem.W.subIn K (.ref D) (.type "BaseException") = some true)
theorem isB_ok {D Wc : Addr} {K : PySem.W.Frag} (h : isB D Wc K = true) : ExcC K D ∧ PySem.W.kitOne K (.ref D) (.ref Wc) = some true := by
  unfold isB at h
  simp only [Bool.and_eq_true, decide_eq_true_eq] at h
  obtain ⟨⟨⟨⟨⟨⟨⟨⟨h1, h2⟩, h3⟩, h4⟩, h5⟩, h6⟩, h7⟩, h8⟩, h9⟩ := h
  exact ⟨⟨h1, h2, h9, h3, h4, h5, h6, h7⟩, h8⟩
end Wv

set_option autoImplicit false
set_option linter.all false
set_option maxRecDepth 100000
set_option maxHeartbeats 4000000
namespace Wv
open PySem PySem.Spec PyProof.Rows L2 He
/-- the defs' code objects and tables -/
def csOf (K : PySem.W.Frag) (tf : List Defn) : List (Addr × Addr) := tf.map (cT K)
theorem code_of {K : PySem.W.Frag} {x qual : Str} {params : Arguments} {body : List PySem.Stmt} {scope : Scope} {dvs : List V} {kws : List (Str × V)} {fd : FuncData} (F : FunD K x qual params body scope dvs kws (ga K x) fd) : fd.code = .ref (cT K (x, none)).1 := by
  obtain ⟨oc, od, dV, kV, doc, pm, an, cdv, ct, osl, rfl, lk, hcd, _, _⟩ := F.ex
  obtain ⟨c, rfl⟩ := codeIn_ref hcd
  have := codeOf_eq (p := (x, none)) (c := c) lk rfl
  show Value.ref c = .ref (codeOf K (x, none))
  rw [this]
theorem codeOk_of {g : G} {c : Ck} {base : Heap} {mg : Str → Option Value} {K : PySem.W.Frag} {tf : List Defn} {x qual : Str} {params : Arguments} {body : List PySem.Stmt} {scope : Scope} {dvs : List V} {kws : List (Str × V)} {fd : FuncData}
    (hT : ∀ p ∈ csOf K tf, LamX.TabB base mg p.1 p.2) (hts : g.ts = (csOf K tf).map (·.2)) (hx : (x, none) ∈ tf) (F : FunD K x qual params body scope dvs kws (ga K x) fd) : CodeOk g c base mg fd.code := fun _ => by
  have hm : cT K (x, none) ∈ csOf K tf := List.mem_map.mpr ⟨_, hx, rfl⟩
  have t := hT _ hm
  exact ⟨_, (cT K (x, none)).2, code_of F, ⟨t.code, t.bm, t.gP⟩, by rw [hts]; exact List.mem_map.mpr ⟨_, hm, rfl⟩⟩
theorem tabs_of {K : PySem.W.Frag} {tf : List Defn} {H : Hp} (h : ∀ p ∈ csOf K tf, H p.2 = some (.tbl #[])) : ∀ p ∈ (csOf K tf).map (·.2), GxR.TabG H p := fun p hp => by
  obtain ⟨q, hq, rfl⟩ := List.mem_map.mp hp
  exact ⟨#[], h q hq, by simp [TriplesOk]⟩
theorem cs_empty {fa : List Fa} {fn : List DefD} {ts : List Tab} {tf : List Defn} {ex : PySem.W.Frag → Bool} {w : World} {h : Heap} {K : PySem.W.Frag} (c : SaysX fa fn ts tf ex w h K) : ∀ p ∈ csOf K tf, h.get? p.2 = some { cls := .none, data := .fields #[] } := fun p hp => by
  obtain ⟨q, hq, rfl⟩ := List.mem_map.mp hp
  exact c.empty q hq
theorem cs_out {fa : List Fa} {fn : List DefD} {ts : List Tab} {tf : List Defn} {ex : PySem.W.Frag → Bool} {w : World} {h : Heap} {K : PySem.W.Frag} (c : SaysX fa fn ts tf ex w h K) : ∀ p ∈ csOf K tf, K.lookup p.2 = none := fun p hp => by
  obtain ⟨q, hq, rfl⟩ := List.mem_map.mp hp
  exact c.out q hq
theorem cs_hd {fa : List Fa} {fn : List DefD} {ts : List Tab} {tf : List Defn} {ex : PySem.W.Frag → Bool} {w : World} {h : Heap} {K : PySem.W.Frag} (KX : K.In h) (c : SaysX fa fn ts tf ex w h K) : ∀ p ∈ csOf K tf, PySem.W.CodeHd h p.1 p.2 := fun p hp => by
  obtain ⟨q, hq, rfl⟩ := List.mem_map.mp hp
  exact PySem.W.codeHd_of_K KX (c.hd q hq)
theorem saysD_of {fa : List Fa} {fn : List DefD} {ts : List Tab} {tf : List Defn} {ex : PySem.W.Frag → Bool} {w : World} {h : Heap} {K : PySem.W.Frag} (c : SaysX fa fn ts tf ex w h K) : SaysD fa fn K := congrArg Prod.fst c.t
end Wv

set_option autoImplicit false
set_option maxRecDepth 20000
namespace Wv.T
open PySem Wv
def d_size_of : Def := ⟨1, 1, (.seq (.ret (.tup (.cons (.b1 .len (.var 0)) (.cons (.b1 .len (.ix (.var 0) (.lit (.int 0)))) .nil))))
 .skip)⟩
def d_columns_of : Def := ⟨1, 3, (.seq (.ret (.b1 .tuple (.comp (.nm 1) (.rng (.cons (.b1 .len (.ix (.var 0) (.lit (.int 0)))) .nil)) .nil (.b1 .tuple (.comp (.nm 2) (.var 0) .nil (.ix (.var 2) (.var 1)))))))
 .skip)⟩
def d_runs_of : Def := ⟨1, 6, (.seq (.asg (.nm 1) (.b1 .len (.var 0)))
 (.seq (.ite (.gen true (.nm 5) (.var 0) (.bin .eq (.var 5) (.ix (.var 0) (.lit (.int 0))))) (.seq (.ret (.lst (.cons (.tup (.cons (.lit (.int 0)) (.cons (.lit .none) (.cons (.ix (.var 0) (.lit (.int 0))) .nil)))) .nil)))
 .skip) .skip)
 (.seq (.asg (.nm 2) (.lst .nil))
 (.seq (.for_ (.nm 3) (.rng (.cons (.var 1) .nil)) (.seq (.ite (.bin .ne (.ix (.var 0) (.var 3)) (.ix (.var 0) (.bin .sub (.var 3) (.lit (.int 1))))) (.seq (.asg (.nm 4) (.lit (.int 1)))
 (.seq (.wh (.bin .eq (.ix (.var 0) (.bin .mod (.bin .add (.var 3) (.var 4)) (.var 1))) (.ix (.var 0) (.var 3))) (.seq (.aug 4 .add (.lit (.int 1)))
 .skip))
 (.seq (.app 2 (.tup (.cons (.var 3) (.cons (.var 4) (.cons (.ix (.var 0) (.var 3)) .nil)))))
 .skip))) .skip)
 .skip))
 (.seq (.ret (.var 2))
 .skip)))))⟩
def d_warp_floats : Def := ⟨1, 5, (.seq (.asg (.nm 1) (.lst .nil))
 (.seq (.for_ (.tc (.nm 2) (.tc (.nm 3) .t0)) (.enm (.call 1 false (.cons (.var 0) .nil))) (.seq (.ext 1 (.comp (.nm 4) (.call 2 false (.cons (.var 3) .nil)) (.cons (.bo false (.cons (.bin .is_ (.ix (.var 4) (.lit (.int 1))) (.lit .none)) (.cons (.bin .gt (.ix (.var 4) (.lit (.int 1))) (.lit (.int 1))) .nil))) .nil) (.bin .add (.tup (.cons (.var 2) .nil)) (.var 4))))
 .skip))
 (.seq (.ret (.var 1))
 .skip)))⟩
def d_weft_floats : Def := ⟨1, 5, (.seq (.asg (.nm 1) (.lst .nil))
 (.seq (.for_ (.tc (.nm 2) (.tc (.nm 3) .t0)) (.enm (.var 0)) (.seq (.ext 1 (.comp (.nm 4) (.call 2 false (.cons (.var 3) .nil)) (.cons (.bo false (.cons (.bin .is_ (.ix (.var 4) (.lit (.int 1))) (.lit .none)) (.cons (.bin .gt (.ix (.var 4) (.lit (.int 1))) (.lit (.int 1))) .nil))) .nil) (.bin .add (.tup (.cons (.var 2) .nil)) (.var 4))))
 .skip))
 (.seq (.ret (.var 1))
 .skip)))⟩
def d_longest_warp : Def := ⟨1, 1, (.seq (.ret (.call 7 false (.cons (.call 1 false (.cons (.var 0) .nil)) .nil)))
 .skip)⟩
def d_longest_weft : Def := ⟨1, 1, (.seq (.ret (.call 7 false (.cons (.var 0) .nil)))
 .skip)⟩
def d_longest : Def := ⟨1, 4, (.seq (.asg (.nm 1) (.comp2 (.nm 2) (.var 0) .nil (.nm 3) (.call 2 false (.cons (.var 2) .nil)) .nil (.ix (.var 3) (.lit (.int 1)))))
 (.seq (.ret (.ite (.bin .in_ (.lit .none) (.var 1)) (.lit .none) (.b1 .max (.var 1))))
 .skip))⟩
def d_loose_threads : Def := ⟨1, 7, (.seq (.asg (.nm 1) (.comp (.tc (.nm 3) (.tc (.nm 4) .t0)) (.enm (.call 1 false (.cons (.var 0) .nil))) (.cons (.bin .is_ (.ix (.ix (.call 2 false (.cons (.var 4) .nil)) (.lit (.int 0))) (.lit (.int 1))) (.lit .none)) .nil) (.var 3)))
 (.seq (.asg (.nm 2) (.comp (.tc (.nm 5) (.tc (.nm 6) .t0)) (.enm (.var 0)) (.cons (.bin .is_ (.ix (.ix (.call 2 false (.cons (.var 6) .nil)) (.lit (.int 0))) (.lit (.int 1))) (.lit .none)) .nil) (.var 5)))
 (.seq (.ret (.tup (.cons (.b1 .tuple (.var 1)) (.cons (.b1 .tuple (.var 2)) .nil))))
 .skip)))⟩
def d_crossings : Def := ⟨1, 2, (.seq (.ret (.b1 .len (.comp (.nm 1) (.rng (.cons (.b1 .len (.var 0)) .nil)) (.cons (.bin .ne (.ix (.var 0) (.var 1)) (.ix (.var 0) (.bin .sub (.var 1) (.lit (.int 1))))) .nil) (.var 1))))
 .skip)⟩
def d_warp_crossings : Def := ⟨1, 2, (.seq (.ret (.b1 .tuple (.comp (.nm 1) (.call 1 false (.cons (.var 0) .nil)) .nil (.call 9 false (.cons (.var 1) .nil)))))
 .skip)⟩
def d_weft_crossings : Def := ⟨1, 2, (.seq (.ret (.b1 .tuple (.comp (.nm 1) (.var 0) .nil (.call 9 false (.cons (.var 1) .nil)))))
 .skip)⟩
def d_is_even_take_up : Def := ⟨1, 3, (.seq (.par (.tc (.nm 1) (.tc (.nm 2) .t0)) (.cons (.call 10 false (.cons (.var 0) .nil)) (.cons (.call 11 false (.cons (.var 0) .nil)) .nil)))
 (.seq (.ret (.bo true (.cons (.bin .eq (.b1 .min (.var 1)) (.b1 .max (.var 1))) (.cons (.bin .eq (.b1 .min (.var 2)) (.b1 .max (.var 2))) .nil))))
 .skip))⟩
def d_firmness : Def := ⟨1, 3, (.seq (.asg (.tc (.nm 1) (.tc (.nm 2) .t0)) (.call 0 false (.cons (.var 0) .nil)))
 (.seq (.ret (.tup (.cons (.bin .add (.b1 .sum (.call 10 false (.cons (.var 0) .nil))) (.b1 .sum (.call 11 false (.cons (.var 0) .nil)))) (.cons (.bin .mul (.bin .mul (.lit (.int 2)) (.var 1)) (.var 2)) .nil))))
 .skip))⟩
def d_float_counts : Def := ⟨1, 5, (.seq (.asg (.nm 1) (.dic .nil))
 (.seq (.for_ (.nm 2) (.call 1 false (.cons (.var 0) .nil)) (.seq (.for_ (.tc (.nm 3) (.tc (.nm 4) (.tc (.nm 3) .t0))) (.call 2 false (.cons (.var 2) .nil)) (.seq (.ite (.bin .isn (.var 4) (.lit .none)) (.seq (.setix 1 (.var 4) (.bin .add (.mget (.pk 1) (.var 4) (.lit (.int 0))) (.lit (.int 1))))
 .skip) .skip)
 .skip))
 .skip))
 (.seq (.ret (.comp (.nm 4) (.b1 .sorted (.pk 1)) .nil (.tup (.cons (.var 4) (.cons (.ix (.pk 1) (.var 4)) .nil)))))
 .skip)))⟩
def d_same_side_pairs : Def := ⟨1, 6, (.seq (.asg (.nm 1) (.call 1 false (.cons (.var 0) .nil)))
 (.seq (.asg (.nm 2) (.comp (.nm 4) (.rng (.cons (.b1 .len (.var 1)) .nil)) (.cons (.bin .eq (.ix (.var 1) (.var 4)) (.ix (.var 1) (.bin .mod (.bin .add (.var 4) (.lit (.int 1))) (.b1 .len (.var 1))))) .nil) (.var 4)))
 (.seq (.asg (.nm 3) (.comp (.nm 5) (.rng (.cons (.b1 .len (.var 0)) .nil)) (.cons (.bin .eq (.ix (.var 0) (.var 5)) (.ix (.var 0) (.bin .mod (.bin .add (.var 5) (.lit (.int 1))) (.b1 .len (.var 0))))) .nil) (.var 5)))
 (.seq (.ret (.tup (.cons (.b1 .tuple (.var 2)) (.cons (.b1 .tuple (.var 3)) .nil))))
 .skip))))⟩
def d__law_draw : Def := ⟨2, 6, (.seq (.ite (.bin .lt (.sget 0 0) (.var 1)) (.seq (.asg (.nm 3) (.sget 0 1))
 (.seq (.sset 0 1 (.bin .add (.var 3) (.lit (.int 1))))
 (.seq (.asg (.nm 4) (.lit (.int 0)))
 (.seq (.ite (.bin .lt (.var 3) (.slen 0)) (.seq (.asg (.nm 4) (.scell 0 3))
 .skip) .skip)
 (.seq (.ite (.bin .ge (.var 4) (.bin .pow (.lit (.int 10)) (.lit (.int 18)))) (.seq (.sset 0 0 (.var 4))
 .skip) (.seq (.sset 0 3 (.bin .mod (.b1 .int (.bin .mul (.bin .add (.bin .add (.bin .add (.sget 0 3) (.bin .mod (.b1 .int (.var 4)) (.lit (.int 2147483629)))) (.var 3)) (.lit (.int 1))) (.lit (.int 48271)))) (.lit (.int 2147483647))))
 (.seq (.asg (.nm 5) (.bin .mod (.b1 .int (.bin .add (.bin .mul (.sget 0 3) (.lit (.int 69621))) (.lit (.int 11)))) (.lit (.int 2147483629))))
 (.seq (.sset 0 0 (.bin .add (.bin .mul (.var 5) (.lit (.int 2147483647))) (.bin .mod (.b1 .int (.bin .add (.bin .mul (.var 5) (.lit (.int 30011))) (.sget 0 3))) (.lit (.int 2147483587)))))
 .skip))))
 .skip))))) .skip)
 (.seq (.asg (.nm 2) (.bin .mod (.b1 .int (.sget 0 0)) (.var 1)))
 (.seq (.sset 0 0 (.bin .fdiv (.sget 0 0) (.var 1)))
 (.seq (.ret (.var 2))
 .skip))))⟩
def d__law_cloth : Def := ⟨3, 5, (.seq (.ret (.b1 .tuple (.comp (.nm 3) (.rng (.cons (.var 1) .nil)) .nil (.b1 .tuple (.comp (.nm 4) (.rng (.cons (.var 2) .nil)) .nil (.draw 0 (.lit (.int 2))))))))
 .skip)⟩
def d__law_columns : Def := ⟨1, 3, (.seq (.ret (.comp (.nm 1) (.rng (.cons (.b1 .len (.ix (.var 0) (.lit (.int 0)))) .nil)) .nil (.b1 .tuple (.comp (.nm 2) (.var 0) .nil (.ix (.var 2) (.var 1))))))
 .skip)⟩
def d__law_moved : Def := ⟨3, 7, (.seq (.asg (.nm 3) (.b1 .len (.var 0)))
 (.seq (.asg (.nm 4) (.b1 .len (.ix (.var 0) (.lit (.int 0)))))
 (.seq (.ret (.b1 .tuple (.comp (.nm 5) (.rng (.cons (.var 3) .nil)) .nil (.b1 .tuple (.comp (.nm 6) (.rng (.cons (.var 4) .nil)) .nil (.ix (.ix (.var 0) (.bin .mod (.b1 .int (.bin .sub (.var 5) (.var 1))) (.var 3))) (.bin .mod (.b1 .int (.bin .sub (.var 6) (.var 2))) (.var 4))))))))
 .skip)))⟩
def d__law_runs : Def := ⟨1, 5, (.seq (.asg (.nm 1) (.b1 .len (.var 0)))
 (.seq (.ite (.bin .eq (.b1 .len (.setof (.var 0))) (.lit (.int 1))) (.seq (.ret (.lst (.cons (.tup (.cons (.lit (.int 0)) (.cons (.lit .none) (.cons (.ix (.var 0) (.lit (.int 0))) .nil)))) .nil)))
 .skip) .skip)
 (.seq (.asg (.nm 2) (.lst .nil))
 (.seq (.for_ (.nm 3) (.rng (.cons (.var 1) .nil)) (.seq (.ite (.bin .ne (.ix (.var 0) (.var 3)) (.ix (.var 0) (.bin .mod (.b1 .int (.bin .sub (.var 3) (.lit (.int 1)))) (.var 1)))) (.seq (.asg (.nm 4) (.lit (.int 1)))
 (.seq (.wh (.bin .eq (.ix (.var 0) (.bin .mod (.b1 .int (.bin .add (.var 3) (.var 4))) (.var 1))) (.ix (.var 0) (.var 3))) (.seq (.asg (.nm 4) (.bin .add (.var 4) (.lit (.int 1))))
 .skip))
 (.seq (.app 2 (.tup (.cons (.var 3) (.cons (.var 4) (.cons (.ix (.var 0) (.var 3)) .nil)))))
 .skip))) .skip)
 .skip))
 (.seq (.ret (.var 2))
 .skip)))))⟩
def d_law : Def := ⟨1, 22, (.seq (.st0 1 0)
 (.seq (.asg (.nm 2) (.bin .add (.lit (.int 1)) (.draw 1 (.lit (.int 8)))))
 (.seq (.asg (.nm 3) (.bin .add (.lit (.int 1)) (.draw 1 (.lit (.int 8)))))
 (.seq (.asg (.nm 4) (.call 17 false (.cons (.var 1) (.cons (.var 2) (.cons (.var 3) .nil)))))
 (.seq (.ite (.bin .eq (.draw 1 (.lit (.int 3))) (.lit (.int 1))) (.seq (.asg (.nm 4) (.b1 .tuple (.comp (.nm 6) (.var 4) .nil (.b1 .tuple (.bin .add (.lst (.cons (.lit (.int 0)) .nil)) (.b1 .list (.sl (.var 6) (.lit (.int 1)) (.lit .none) (.lit .none))))))))
 .skip) .skip)
 (.seq (.asg (.nm 5) (.call 18 false (.cons (.var 4) .nil)))
 (.seq (.asg (.nm 6) (.ix (.var 4) (.draw 1 (.var 2))))
 (.seq (.asg (.nm 7) (.call 2 false (.cons (.var 6) .nil)))
 (.seq (.ite (.bo false (.cons (.not_ (.isa (.var 7) .list)) (.cons (.bin .ne (.var 7) (.call 20 false (.cons (.var 6) .nil))) .nil))) (.seq (.ret (.lit (.bool false)))
 .skip) .skip)
 (.seq (.asg (.nm 8) (.lst .nil))
 (.seq (.asg (.nm 9) (.lst .nil))
 (.seq (.for_ (.nm 10) (.rng (.cons (.var 3) .nil)) (.seq (.asg (.nm 8) (.bin .add (.var 8) (.comp (.nm 20) (.call 20 false (.cons (.ix (.var 5) (.var 10)) .nil)) (.cons (.bo false (.cons (.bin .is_ (.ix (.var 20) (.lit (.int 1))) (.lit .none)) (.cons (.bin .gt (.ix (.var 20) (.lit (.int 1))) (.lit (.int 1))) .nil))) .nil) (.bin .add (.tup (.cons (.var 10) .nil)) (.var 20)))))
 .skip))
 (.seq (.for_ (.nm 10) (.rng (.cons (.var 2) .nil)) (.seq (.asg (.nm 9) (.bin .add (.var 9) (.comp (.nm 20) (.call 20 false (.cons (.ix (.var 4) (.var 10)) .nil)) (.cons (.bo false (.cons (.bin .is_ (.ix (.var 20) (.lit (.int 1))) (.lit .none)) (.cons (.bin .gt (.ix (.var 20) (.lit (.int 1))) (.lit (.int 1))) .nil))) .nil) (.bin .add (.tup (.cons (.var 10) .nil)) (.var 20)))))
 .skip))
 (.seq (.ite (.bo false (.cons (.bin .ne (.call 3 false (.cons (.var 4) .nil)) (.var 8)) (.cons (.bin .ne (.call 4 false (.cons (.var 4) .nil)) (.var 9)) .nil))) (.seq (.ret (.lit (.bool false)))
 .skip) .skip)
 (.seq (.asg (.nm 11) (.lst .nil))
 (.seq (.for_ (.nm 12) (.lst (.cons (.var 5) (.cons (.var 4) .nil))) (.seq (.asg (.nm 19) (.lst .nil))
 (.seq (.for_ (.nm 17) (.var 12) (.seq (.asg (.nm 19) (.bin .add (.var 19) (.comp (.nm 20) (.call 20 false (.cons (.var 17) .nil)) .nil (.ix (.var 20) (.lit (.int 1))))))
 .skip))
 (.seq (.app 11 (.ite (.bin .in_ (.lit .none) (.var 19)) (.lit .none) (.b1 .max (.var 19))))
 .skip))))
 (.seq (.ite (.bo false (.cons (.bin .ne (.call 5 false (.cons (.var 4) .nil)) (.ix (.pk 11) (.lit (.int 0)))) (.cons (.bin .ne (.call 6 false (.cons (.var 4) .nil)) (.ix (.pk 11) (.lit (.int 1)))) (.cons (.bin .ne (.call 7 false (.cons (.var 5) .nil)) (.ix (.pk 11) (.lit (.int 0)))) .nil)))) (.seq (.ret (.lit (.bool false)))
 .skip) .skip)
 (.seq (.asg (.nm 13) (.tup (.cons (.b1 .tuple (.comp (.nm 10) (.rng (.cons (.var 3) .nil)) (.cons (.bin .eq (.b1 .len (.setof (.ix (.var 5) (.var 10)))) (.lit (.int 1))) .nil) (.var 10))) (.cons (.b1 .tuple (.comp (.nm 10) (.rng (.cons (.var 2) .nil)) (.cons (.bin .eq (.b1 .len (.setof (.ix (.var 4) (.var 10)))) (.lit (.int 1))) .nil) (.var 10))) .nil))))
 (.seq (.ite (.bin .ne (.call 8 false (.cons (.var 4) .nil)) (.var 13)) (.seq (.ret (.lit (.bool false)))
 .skip) .skip)
 (.seq (.asg (.nm 14) (.comp (.nm 12) (.lst (.cons (.var 5) (.cons (.var 4) .nil))) .nil (.comp (.nm 17) (.var 12) .nil (.b1 .len (.comp (.nm 10) (.rng (.cons (.b1 .len (.var 17)) .nil)) (.cons (.bin .ne (.ix (.var 17) (.var 10)) (.ix (.var 17) (.bin .sub (.var 10) (.lit (.int 1))))) .nil) (.var 10))))))
 (.seq (.ite (.bo false (.cons (.bin .ne (.call 10 false (.cons (.var 4) .nil)) (.b1 .tuple (.ix (.var 14) (.lit (.int 0))))) (.cons (.bin .ne (.call 11 false (.cons (.var 4) .nil)) (.b1 .tuple (.ix (.var 14) (.lit (.int 1))))) (.cons (.bin .ne (.call 9 false (.cons (.var 6) .nil)) (.ix (.ix (.var 14) (.lit (.int 1))) (.mindex (.var 4) (.var 6)))) .nil)))) (.seq (.ret (.lit (.bool false)))
 .skip) .skip)
 (.seq (.asg (.nm 15) (.bo true (.cons (.bin .eq (.b1 .len (.setof (.ix (.var 14) (.lit (.int 0))))) (.lit (.int 1))) (.cons (.bin .eq (.b1 .len (.setof (.ix (.var 14) (.lit (.int 1))))) (.lit (.int 1))) .nil))))
 (.seq (.ite (.bo false (.cons (.bin .ne (.call 12 false (.cons (.var 4) .nil)) (.var 15)) (.cons (.bin .ne (.call 13 false (.cons (.var 4) .nil)) (.tup (.cons (.bin .add (.b1 .sum (.ix (.var 14) (.lit (.int 0)))) (.b1 .sum (.ix (.var 14) (.lit (.int 1))))) (.cons (.bin .mul (.bin .mul (.lit (.int 2)) (.var 2)) (.var 3)) .nil)))) .nil))) (.seq (.ret (.lit (.bool false)))
 .skip) .skip)
 (.seq (.asg (.nm 16) (.dic .nil))
 (.seq (.for_ (.nm 17) (.var 5) (.seq (.for_ (.nm 20) (.call 20 false (.cons (.var 17) .nil)) (.seq (.ite (.bin .isn (.ix (.var 20) (.lit (.int 1))) (.lit .none)) (.seq (.setix 16 (.ix (.var 20) (.lit (.int 1))) (.bin .add (.mget (.pk 16) (.ix (.var 20) (.lit (.int 1))) (.lit (.int 0))) (.lit (.int 1))))
 .skip) .skip)
 .skip))
 .skip))
 (.seq (.ite (.bin .ne (.call 14 false (.cons (.var 4) .nil)) (.comp (.nm 21) (.b1 .sorted (.pk 16)) .nil (.tup (.cons (.var 21) (.cons (.ix (.pk 16) (.var 21)) .nil))))) (.seq (.ret (.lit (.bool false)))
 .skip) .skip)
 (.seq (.asg (.nm 18) (.tup (.cons (.b1 .tuple (.comp (.nm 10) (.rng (.cons (.var 3) .nil)) (.cons (.bin .eq (.ix (.var 5) (.var 10)) (.ix (.var 5) (.bin .mod (.b1 .int (.bin .add (.var 10) (.lit (.int 1)))) (.var 3)))) .nil) (.var 10))) (.cons (.b1 .tuple (.comp (.nm 10) (.rng (.cons (.var 2) .nil)) (.cons (.bin .eq (.ix (.var 4) (.var 10)) (.ix (.var 4) (.bin .mod (.b1 .int (.bin .add (.var 10) (.lit (.int 1)))) (.var 2)))) .nil) (.var 10))) .nil))))
 (.seq (.ret (.bin .eq (.call 15 false (.cons (.var 4) .nil)) (.var 18)))
 .skip))))))))))))))))))))))))))))⟩
def defs : List Def := [d_size_of, d_columns_of, d_runs_of, d_warp_floats, d_weft_floats, d_longest_warp, d_longest_weft, d_longest, d_loose_threads, d_crossings, d_warp_crossings, d_weft_crossings, d_is_even_take_up, d_firmness, d_float_counts, d_same_side_pairs, d__law_draw, d__law_cloth, d__law_columns, d__law_moved, d__law_runs, d_law]
def consts : List PyData := []
def gt (i : Nat) : Option PyData := consts[i]?
def P (i : Nat) : Option Def := defs[i]?
abbrev ls_0 : S := (.asg (.nm 2) (.bin .add (.lit (.int 1)) (.draw 1 (.lit (.int 8)))))
abbrev ls_1 : S := (.asg (.nm 3) (.bin .add (.lit (.int 1)) (.draw 1 (.lit (.int 8)))))
abbrev ls_2 : S := (.asg (.nm 4) (.call 17 false (.cons (.var 1) (.cons (.var 2) (.cons (.var 3) .nil)))))
abbrev ls_3 : S := (.ite (.bin .eq (.draw 1 (.lit (.int 3))) (.lit (.int 1))) (.seq (.asg (.nm 4) (.b1 .tuple (.comp (.nm 6) (.var 4) .nil (.b1 .tuple (.bin .add (.lst (.cons (.lit (.int 0)) .nil)) (.b1 .list (.sl (.var 6) (.lit (.int 1)) (.lit .none) (.lit .none))))))))
 .skip) .skip)
abbrev ls_4 : S := (.asg (.nm 5) (.call 18 false (.cons (.var 4) .nil)))
abbrev ls_5 : S := (.asg (.nm 6) (.ix (.var 4) (.draw 1 (.var 2))))
abbrev ls_6 : S := (.asg (.nm 7) (.call 2 false (.cons (.var 6) .nil)))
abbrev ls_7 : S := (.ite (.bo false (.cons (.not_ (.isa (.var 7) .list)) (.cons (.bin .ne (.var 7) (.call 20 false (.cons (.var 6) .nil))) .nil))) (.seq (.ret (.lit (.bool false)))
 .skip) .skip)
abbrev ls_8 : S := (.asg (.nm 8) (.lst .nil))
abbrev ls_9 : S := (.asg (.nm 9) (.lst .nil))
abbrev ls_10 : S := (.for_ (.nm 10) (.rng (.cons (.var 3) .nil)) (.seq (.asg (.nm 8) (.bin .add (.var 8) (.comp (.nm 20) (.call 20 false (.cons (.ix (.var 5) (.var 10)) .nil)) (.cons (.bo false (.cons (.bin .is_ (.ix (.var 20) (.lit (.int 1))) (.lit .none)) (.cons (.bin .gt (.ix (.var 20) (.lit (.int 1))) (.lit (.int 1))) .nil))) .nil) (.bin .add (.tup (.cons (.var 10) .nil)) (.var 20)))))
 .skip))
abbrev ls_11 : S := (.for_ (.nm 10) (.rng (.cons (.var 2) .nil)) (.seq (.asg (.nm 9) (.bin .add (.var 9) (.comp (.nm 20) (.call 20 false (.cons (.ix (.var 4) (.var 10)) .nil)) (.cons (.bo false (.cons (.bin .is_ (.ix (.var 20) (.lit (.int 1))) (.lit .none)) (.cons (.bin .gt (.ix (.var 20) (.lit (.int 1))) (.lit (.int 1))) .nil))) .nil) (.bin .add (.tup (.cons (.var 10) .nil)) (.var 20)))))
 .skip))
abbrev ls_12 : S := (.ite (.bo false (.cons (.bin .ne (.call 3 false (.cons (.var 4) .nil)) (.var 8)) (.cons (.bin .ne (.call 4 false (.cons (.var 4) .nil)) (.var 9)) .nil))) (.seq (.ret (.lit (.bool false)))
 .skip) .skip)
abbrev ls_13 : S := (.asg (.nm 11) (.lst .nil))
abbrev ls_14 : S := (.for_ (.nm 12) (.lst (.cons (.var 5) (.cons (.var 4) .nil))) (.seq (.asg (.nm 19) (.lst .nil))
 (.seq (.for_ (.nm 17) (.var 12) (.seq (.asg (.nm 19) (.bin .add (.var 19) (.comp (.nm 20) (.call 20 false (.cons (.var 17) .nil)) .nil (.ix (.var 20) (.lit (.int 1))))))
 .skip))
 (.seq (.app 11 (.ite (.bin .in_ (.lit .none) (.var 19)) (.lit .none) (.b1 .max (.var 19))))
 .skip))))
abbrev ls_15 : S := (.ite (.bo false (.cons (.bin .ne (.call 5 false (.cons (.var 4) .nil)) (.ix (.pk 11) (.lit (.int 0)))) (.cons (.bin .ne (.call 6 false (.cons (.var 4) .nil)) (.ix (.pk 11) (.lit (.int 1)))) (.cons (.bin .ne (.call 7 false (.cons (.var 5) .nil)) (.ix (.pk 11) (.lit (.int 0)))) .nil)))) (.seq (.ret (.lit (.bool false)))
 .skip) .skip)
abbrev ls_16 : S := (.asg (.nm 13) (.tup (.cons (.b1 .tuple (.comp (.nm 10) (.rng (.cons (.var 3) .nil)) (.cons (.bin .eq (.b1 .len (.setof (.ix (.var 5) (.var 10)))) (.lit (.int 1))) .nil) (.var 10))) (.cons (.b1 .tuple (.comp (.nm 10) (.rng (.cons (.var 2) .nil)) (.cons (.bin .eq (.b1 .len (.setof (.ix (.var 4) (.var 10)))) (.lit (.int 1))) .nil) (.var 10))) .nil))))
abbrev ls_17 : S := (.ite (.bin .ne (.call 8 false (.cons (.var 4) .nil)) (.var 13)) (.seq (.ret (.lit (.bool false)))
 .skip) .skip)
abbrev ls_18 : S := (.asg (.nm 14) (.comp (.nm 12) (.lst (.cons (.var 5) (.cons (.var 4) .nil))) .nil (.comp (.nm 17) (.var 12) .nil (.b1 .len (.comp (.nm 10) (.rng (.cons (.b1 .len (.var 17)) .nil)) (.cons (.bin .ne (.ix (.var 17) (.var 10)) (.ix (.var 17) (.bin .sub (.var 10) (.lit (.int 1))))) .nil) (.var 10))))))
abbrev ls_19 : S := (.ite (.bo false (.cons (.bin .ne (.call 10 false (.cons (.var 4) .nil)) (.b1 .tuple (.ix (.var 14) (.lit (.int 0))))) (.cons (.bin .ne (.call 11 false (.cons (.var 4) .nil)) (.b1 .tuple (.ix (.var 14) (.lit (.int 1))))) (.cons (.bin .ne (.call 9 false (.cons (.var 6) .nil)) (.ix (.ix (.var 14) (.lit (.int 1))) (.mindex (.var 4) (.var 6)))) .nil)))) (.seq (.ret (.lit (.bool false)))
 .skip) .skip)
abbrev ls_20 : S := (.asg (.nm 15) (.bo true (.cons (.bin .eq (.b1 .len (.setof (.ix (.var 14) (.lit (.int 0))))) (.lit (.int 1))) (.cons (.bin .eq (.b1 .len (.setof (.ix (.var 14) (.lit (.int 1))))) (.lit (.int 1))) .nil))))
abbrev ls_21 : S := (.ite (.bo false (.cons (.bin .ne (.call 12 false (.cons (.var 4) .nil)) (.var 15)) (.cons (.bin .ne (.call 13 false (.cons (.var 4) .nil)) (.tup (.cons (.bin .add (.b1 .sum (.ix (.var 14) (.lit (.int 0)))) (.b1 .sum (.ix (.var 14) (.lit (.int 1))))) (.cons (.bin .mul (.bin .mul (.lit (.int 2)) (.var 2)) (.var 3)) .nil)))) .nil))) (.seq (.ret (.lit (.bool false)))
 .skip) .skip)
abbrev ls_22 : S := (.asg (.nm 16) (.dic .nil))
abbrev ls_23 : S := (.for_ (.nm 17) (.var 5) (.seq (.for_ (.nm 20) (.call 20 false (.cons (.var 17) .nil)) (.seq (.ite (.bin .isn (.ix (.var 20) (.lit (.int 1))) (.lit .none)) (.seq (.setix 16 (.ix (.var 20) (.lit (.int 1))) (.bin .add (.mget (.pk 16) (.ix (.var 20) (.lit (.int 1))) (.lit (.int 0))) (.lit (.int 1))))
 .skip) .skip)
 .skip))
 .skip))
abbrev ls_24 : S := (.ite (.bin .ne (.call 14 false (.cons (.var 4) .nil)) (.comp (.nm 21) (.b1 .sorted (.pk 16)) .nil (.tup (.cons (.var 21) (.cons (.ix (.pk 16) (.var 21)) .nil))))) (.seq (.ret (.lit (.bool false)))
 .skip) .skip)
abbrev ls_25 : S := (.asg (.nm 18) (.tup (.cons (.b1 .tuple (.comp (.nm 10) (.rng (.cons (.var 3) .nil)) (.cons (.bin .eq (.ix (.var 5) (.var 10)) (.ix (.var 5) (.bin .mod (.b1 .int (.bin .add (.var 10) (.lit (.int 1)))) (.var 3)))) .nil) (.var 10))) (.cons (.b1 .tuple (.comp (.nm 10) (.rng (.cons (.var 2) .nil)) (.cons (.bin .eq (.ix (.var 4) (.var 10)) (.ix (.var 4) (.bin .mod (.b1 .int (.bin .add (.var 10) (.lit (.int 1)))) (.var 2)))) .nil) (.var 10))) .nil))))
abbrev ls_26 : S := (.ret (.bin .eq (.call 15 false (.cons (.var 4) .nil)) (.var 18)))
abbrev lt_27 : S := .skip
abbrev lt_26 : S := .seq ls_26 lt_27
abbrev lt_25 : S := .seq ls_25 lt_26
abbrev lt_24 : S := .seq ls_24 lt_25
abbrev lt_23 : S := .seq ls_23 lt_24
abbrev lt_22 : S := .seq ls_22 lt_23
abbrev lt_21 : S := .seq ls_21 lt_22
abbrev lt_20 : S := .seq ls_20 lt_21
abbrev lt_19 : S := .seq ls_19 lt_20
abbrev lt_18 : S := .seq ls_18 lt_19
abbrev lt_17 : S := .seq ls_17 lt_18
abbrev lt_16 : S := .seq ls_16 lt_17
abbrev lt_15 : S := .seq ls_15 lt_16
abbrev lt_14 : S := .seq ls_14 lt_15
abbrev lt_13 : S := .seq ls_13 lt_14
abbrev lt_12 : S := .seq ls_12 lt_13
abbrev lt_11 : S := .seq ls_11 lt_12
abbrev lt_10 : S := .seq ls_10 lt_11
abbrev lt_9 : S := .seq ls_9 lt_10
abbrev lt_8 : S := .seq ls_8 lt_9
abbrev lt_7 : S := .seq ls_7 lt_8
abbrev lt_6 : S := .seq ls_6 lt_7
abbrev lt_5 : S := .seq ls_5 lt_6
abbrev lt_4 : S := .seq ls_4 lt_5
abbrev lt_3 : S := .seq ls_3 lt_4
abbrev lt_2 : S := .seq ls_2 lt_3
abbrev lt_1 : S := .seq ls_1 lt_2
abbrev lt_0 : S := .seq ls_0 lt_1
abbrev lawB : S := lt_0
end Wv.T

set_option Elab.async false
set_option linter.all false
set_option maxRecDepth 100000
set_option maxHeartbeats 0
namespace Wv.T
open PySem Wv
open PySem.Spec PyProof.Rows L2
def top (i : Nat) : PySem.Stmt := PySem.Challenge.pw_wovenwhole_k06_floats_and_crossings.main.body.getD i (.Pass ⟨0, 0, 0, 0⟩)
def N_size_of : List Str := [("cloth" : Str)]
def N_columns_of : List Str := [("cloth" : Str), ("end" : Str), ("row" : Str)]
def N_runs_of : List Str := [("row" : Str), ("many" : Str), ("found" : Str), ("place" : Str), ("length" : Str), ("one" : Str)]
def N_warp_floats : List Str := [("cloth" : Str), ("found" : Str), ("end" : Str), ("column" : Str), ("run" : Str)]
def N_weft_floats : List Str := [("cloth" : Str), ("found" : Str), ("pick" : Str), ("row" : Str), ("run" : Str)]
def N_longest_warp : List Str := [("cloth" : Str)]
def N_longest_weft : List Str := [("cloth" : Str)]
def N_longest : List Str := [("rows" : Str), ("lengths" : Str), ("row" : Str), ("run" : Str)]
def N_loose_threads : List Str := [("cloth" : Str), ("ends" : Str), ("picks" : Str), ("end" : Str), ("column" : Str), ("pick" : Str), ("row" : Str)]
def N_crossings : List Str := [("row" : Str), ("place" : Str)]
def N_warp_crossings : List Str := [("cloth" : Str), ("column" : Str)]
def N_weft_crossings : List Str := [("cloth" : Str), ("row" : Str)]
def N_is_even_take_up : List Str := [("cloth" : Str), ("ends" : Str), ("picks" : Str)]
def N_firmness : List Str := [("cloth" : Str), ("picks" : Str), ("ends" : Str)]
def N_float_counts : List Str := [("cloth" : Str), ("counts" : Str), ("column" : Str), ("_" : Str), ("length" : Str)]
def N_same_side_pairs : List Str := [("cloth" : Str), ("columns" : Str), ("ends" : Str), ("picks" : Str), ("end" : Str), ("pick" : Str)]
def N__law_draw : List Str := [("state" : Str), ("limit" : Str), ("digit" : Str), ("position" : Str), ("cell" : Str), ("mixed" : Str)]
def N__law_cloth : List Str := [("state" : Str), ("picks" : Str), ("ends" : Str), ("pick" : Str), ("end" : Str)]
def N__law_columns : List Str := [("cloth" : Str), ("end" : Str), ("row" : Str)]
def N__law_moved : List Str := [("cloth" : Str), ("down" : Str), ("right" : Str), ("picks" : Str), ("ends" : Str), ("pick" : Str), ("end" : Str)]
def N__law_runs : List Str := [("row" : Str), ("many" : Str), ("found" : Str), ("k" : Str), ("length" : Str)]
def N_law : List Str := [("script" : Str), ("state" : Str), ("picks" : Str), ("ends" : Str), ("cloth" : Str), ("columns" : Str), ("row" : Str), ("told" : Str), ("warp" : Str), ("weft" : Str), ("k" : Str), ("lengths" : Str), ("kind" : Str), ("loose" : Str), ("changes" : Str), ("even" : Str), ("counts" : Str), ("thread" : Str), ("alike" : Str), ("rows" : Str), ("run" : Str), ("length" : Str)]
def nms : List Str := [("size_of" : Str), ("columns_of" : Str), ("runs_of" : Str), ("warp_floats" : Str), ("weft_floats" : Str), ("longest_warp" : Str), ("longest_weft" : Str), ("longest" : Str), ("loose_threads" : Str), ("crossings" : Str), ("warp_crossings" : Str), ("weft_crossings" : Str), ("is_even_take_up" : Str), ("firmness" : Str), ("float_counts" : Str), ("same_side_pairs" : Str), ("_law_draw" : Str), ("_law_cloth" : Str), ("_law_columns" : Str), ("_law_moved" : Str), ("_law_runs" : Str), ("law" : Str)]
def cns : List Str := []
def ck : Ck := ⟨[], [("size_of" : Str), ("columns_of" : Str), ("runs_of" : Str), ("warp_floats" : Str), ("weft_floats" : Str), ("longest_warp" : Str), ("longest_weft" : Str), ("longest" : Str), ("loose_threads" : Str), ("crossings" : Str), ("warp_crossings" : Str), ("weft_crossings" : Str), ("is_even_take_up" : Str), ("firmness" : Str), ("float_counts" : Str), ("same_side_pairs" : Str), ("_law_draw" : Str), ("_law_cloth" : Str), ("_law_columns" : Str), ("_law_moved" : Str), ("_law_runs" : Str)], [], cns, some 16, 1⟩
def tf : List He.Defn := [("size_of", none), ("columns_of", none), ("runs_of", none), ("warp_floats", none), ("weft_floats", none), ("longest_warp", none), ("longest_weft", none), ("longest", none), ("loose_threads", none), ("crossings", none), ("warp_crossings", none), ("weft_crossings", none), ("is_even_take_up", none), ("firmness", none), ("float_counts", none), ("same_side_pairs", none), ("_law_draw", none), ("_law_cloth", none), ("_law_columns", none), ("_law_moved", none), ("_law_runs", none), ("law", none)]
def gG (K : PySem.W.Frag) : G := ⟨gt, fun i => He.ga K (nms.getD i ""), fun i => He.ga K (cns.getD i ""), (csOf K tf).map (·.2), 0⟩
theorem sc_size_of : FnScope N_size_of [("cloth" : Str)] (defScope (top 1)) := ⟨rfl, rfl, rfl, by decide +kernel, rfl, by decide +kernel, by decide +kernel⟩
theorem ck_size_of : chkSs { ck with N := N_size_of } d_size_of.body (defScope (top 1)) (defBody (top 1)) = true := by kernel_rfl
theorem sc_columns_of : FnScope N_columns_of [("cloth" : Str)] (defScope (top 2)) := ⟨rfl, rfl, rfl, by decide +kernel, rfl, by decide +kernel, by decide +kernel⟩
theorem ck_columns_of : chkSs { ck with N := N_columns_of } d_columns_of.body (defScope (top 2)) (defBody (top 2)) = true := by kernel_rfl
theorem sc_runs_of : FnScope N_runs_of [("row" : Str)] (defScope (top 4)) := ⟨rfl, rfl, rfl, by decide +kernel, rfl, by decide +kernel, by decide +kernel⟩
theorem ck_runs_of : chkSs { ck with N := N_runs_of } d_runs_of.body (defScope (top 4)) (defBody (top 4)) = true := by kernel_rfl
theorem sc_warp_floats : FnScope N_warp_floats [("cloth" : Str)] (defScope (top 5)) := ⟨rfl, rfl, rfl, by decide +kernel, rfl, by decide +kernel, by decide +kernel⟩
theorem ck_warp_floats : chkSs { ck with N := N_warp_floats } d_warp_floats.body (defScope (top 5)) (defBody (top 5)) = true := by kernel_rfl
theorem sc_weft_floats : FnScope N_weft_floats [("cloth" : Str)] (defScope (top 6)) := ⟨rfl, rfl, rfl, by decide +kernel, rfl, by decide +kernel, by decide +kernel⟩
theorem ck_weft_floats : chkSs { ck with N := N_weft_floats } d_weft_floats.body (defScope (top 6)) (defBody (top 6)) = true := by kernel_rfl
theorem sc_longest_warp : FnScope N_longest_warp [("cloth" : Str)] (defScope (top 7)) := ⟨rfl, rfl, rfl, by decide +kernel, rfl, by decide +kernel, by decide +kernel⟩
theorem ck_longest_warp : chkSs { ck with N := N_longest_warp } d_longest_warp.body (defScope (top 7)) (defBody (top 7)) = true := by kernel_rfl
theorem sc_longest_weft : FnScope N_longest_weft [("cloth" : Str)] (defScope (top 8)) := ⟨rfl, rfl, rfl, by decide +kernel, rfl, by decide +kernel, by decide +kernel⟩
theorem ck_longest_weft : chkSs { ck with N := N_longest_weft } d_longest_weft.body (defScope (top 8)) (defBody (top 8)) = true := by kernel_rfl
theorem sc_longest : FnScope N_longest [("rows" : Str)] (defScope (top 9)) := ⟨rfl, rfl, rfl, by decide +kernel, rfl, by decide +kernel, by decide +kernel⟩
theorem ck_longest : chkSs { ck with N := N_longest } d_longest.body (defScope (top 9)) (defBody (top 9)) = true := by kernel_rfl
theorem sc_loose_threads : FnScope N_loose_threads [("cloth" : Str)] (defScope (top 10)) := ⟨rfl, rfl, rfl, by decide +kernel, rfl, by decide +kernel, by decide +kernel⟩
theorem ck_loose_threads : chkSs { ck with N := N_loose_threads } d_loose_threads.body (defScope (top 10)) (defBody (top 10)) = true := by kernel_rfl
theorem sc_crossings : FnScope N_crossings [("row" : Str)] (defScope (top 11)) := ⟨rfl, rfl, rfl, by decide +kernel, rfl, by decide +kernel, by decide +kernel⟩
theorem ck_crossings : chkSs { ck with N := N_crossings } d_crossings.body (defScope (top 11)) (defBody (top 11)) = true := by kernel_rfl
theorem sc_warp_crossings : FnScope N_warp_crossings [("cloth" : Str)] (defScope (top 12)) := ⟨rfl, rfl, rfl, by decide +kernel, rfl, by decide +kernel, by decide +kernel⟩
theorem ck_warp_crossings : chkSs { ck with N := N_warp_crossings } d_warp_crossings.body (defScope (top 12)) (defBody (top 12)) = true := by kernel_rfl
theorem sc_weft_crossings : FnScope N_weft_crossings [("cloth" : Str)] (defScope (top 13)) := ⟨rfl, rfl, rfl, by decide +kernel, rfl, by decide +kernel, by decide +kernel⟩
theorem ck_weft_crossings : chkSs { ck with N := N_weft_crossings } d_weft_crossings.body (defScope (top 13)) (defBody (top 13)) = true := by kernel_rfl
theorem sc_is_even_take_up : FnScope N_is_even_take_up [("cloth" : Str)] (defScope (top 14)) := ⟨rfl, rfl, rfl, by decide +kernel, rfl, by decide +kernel, by decide +kernel⟩
theorem ck_is_even_take_up : chkSs { ck with N := N_is_even_take_up } d_is_even_take_up.body (defScope (top 14)) (defBody (top 14)) = true := by kernel_rfl
theorem sc_firmness : FnScope N_firmness [("cloth" : Str)] (defScope (top 15)) := ⟨rfl, rfl, rfl, by decide +kernel, rfl, by decide +kernel, by decide +kernel⟩
theorem ck_firmness : chkSs { ck with N := N_firmness } d_firmness.body (defScope (top 15)) (defBody (top 15)) = true := by kernel_rfl
theorem sc_float_counts : FnScope N_float_counts [("cloth" : Str)] (defScope (top 16)) := ⟨rfl, rfl, rfl, by decide +kernel, rfl, by decide +kernel, by decide +kernel⟩
theorem ck_float_counts : chkSs { ck with N := N_float_counts } d_float_counts.body (defScope (top 16)) (defBody (top 16)) = true := by kernel_rfl
theorem sc_same_side_pairs : FnScope N_same_side_pairs [("cloth" : Str)] (defScope (top 17)) := ⟨rfl, rfl, rfl, by decide +kernel, rfl, by decide +kernel, by decide +kernel⟩
theorem ck_same_side_pairs : chkSs { ck with N := N_same_side_pairs } d_same_side_pairs.body (defScope (top 17)) (defBody (top 17)) = true := by kernel_rfl
theorem sc__law_draw : FnScope N__law_draw [("state" : Str), ("limit" : Str)] (defScope (top 19)) := ⟨rfl, rfl, rfl, by decide +kernel, rfl, by decide +kernel, by decide +kernel⟩
theorem ck__law_draw : chkSs { ck with N := N__law_draw, fn := [], dk := none, rm := 0 } d__law_draw.body (defScope (top 19)) (defBody (top 19)) = true := by kernel_rfl
theorem ckf__law_draw : chkSs { ck with N := N__law_draw } d__law_draw.body (defScope (top 19)) (defBody (top 19)) = true := by kernel_rfl
theorem sc__law_cloth : FnScope N__law_cloth [("state" : Str), ("picks" : Str), ("ends" : Str)] (defScope (top 20)) := ⟨rfl, rfl, rfl, by decide +kernel, rfl, by decide +kernel, by decide +kernel⟩
theorem ck__law_cloth : chkSs { ck with N := N__law_cloth } d__law_cloth.body (defScope (top 20)) (defBody (top 20)) = true := by kernel_rfl
theorem sc__law_columns : FnScope N__law_columns [("cloth" : Str)] (defScope (top 21)) := ⟨rfl, rfl, rfl, by decide +kernel, rfl, by decide +kernel, by decide +kernel⟩
theorem ck__law_columns : chkSs { ck with N := N__law_columns } d__law_columns.body (defScope (top 21)) (defBody (top 21)) = true := by kernel_rfl
theorem sc__law_moved : FnScope N__law_moved [("cloth" : Str), ("down" : Str), ("right" : Str)] (defScope (top 22)) := ⟨rfl, rfl, rfl, by decide +kernel, rfl, by decide +kernel, by decide +kernel⟩
theorem ck__law_moved : chkSs { ck with N := N__law_moved } d__law_moved.body (defScope (top 22)) (defBody (top 22)) = true := by kernel_rfl
theorem sc__law_runs : FnScope N__law_runs [("row" : Str)] (defScope (top 23)) := ⟨rfl, rfl, rfl, by decide +kernel, rfl, by decide +kernel, by decide +kernel⟩
theorem ck__law_runs : chkSs { ck with N := N__law_runs } d__law_runs.body (defScope (top 23)) (defBody (top 23)) = true := by kernel_rfl
theorem sc_law : FnScope N_law [("script" : Str)] (defScope (top 24)) := ⟨rfl, rfl, rfl, by decide +kernel, rfl, by decide +kernel, by decide +kernel⟩
theorem ck_law0 : chk0 { ck with N := N_law } (defScope (top 24)) 1 0 ((defBody (top 24)).headD (.Pass ⟨0, 0, 0, 0⟩)) = true := by kernel_rfl
theorem ck_law : chkSs { ck with N := N_law } lawB (defScope (top 24)) ((defBody (top 24)).tail) = true := by kernel_rfl
def h_size_of : He.DefD := ⟨("size_of", none), "size_of", "size_of", defArgs (top 1), defBody (top 1), defScope (top 1), [], []⟩
def h_columns_of : He.DefD := ⟨("columns_of", none), "columns_of", "columns_of", defArgs (top 2), defBody (top 2), defScope (top 2), [], []⟩
def h_runs_of : He.DefD := ⟨("runs_of", none), "runs_of", "runs_of", defArgs (top 4), defBody (top 4), defScope (top 4), [], []⟩
def h_warp_floats : He.DefD := ⟨("warp_floats", none), "warp_floats", "warp_floats", defArgs (top 5), defBody (top 5), defScope (top 5), [], []⟩
def h_weft_floats : He.DefD := ⟨("weft_floats", none), "weft_floats", "weft_floats", defArgs (top 6), defBody (top 6), defScope (top 6), [], []⟩
def h_longest_warp : He.DefD := ⟨("longest_warp", none), "longest_warp", "longest_warp", defArgs (top 7), defBody (top 7), defScope (top 7), [], []⟩
def h_longest_weft : He.DefD := ⟨("longest_weft", none), "longest_weft", "longest_weft", defArgs (top 8), defBody (top 8), defScope (top 8), [], []⟩
def h_longest : He.DefD := ⟨("longest", none), "longest", "longest", defArgs (top 9), defBody (top 9), defScope (top 9), [], []⟩
def h_loose_threads : He.DefD := ⟨("loose_threads", none), "loose_threads", "loose_threads", defArgs (top 10), defBody (top 10), defScope (top 10), [], []⟩
def h_crossings : He.DefD := ⟨("crossings", none), "crossings", "crossings", defArgs (top 11), defBody (top 11), defScope (top 11), [], []⟩
def h_warp_crossings : He.DefD := ⟨("warp_crossings", none), "warp_crossings", "warp_crossings", defArgs (top 12), defBody (top 12), defScope (top 12), [], []⟩
def h_weft_crossings : He.DefD := ⟨("weft_crossings", none), "weft_crossings", "weft_crossings", defArgs (top 13), defBody (top 13), defScope (top 13), [], []⟩
def h_is_even_take_up : He.DefD := ⟨("is_even_take_up", none), "is_even_take_up", "is_even_take_up", defArgs (top 14), defBody (top 14), defScope (top 14), [], []⟩
def h_firmness : He.DefD := ⟨("firmness", none), "firmness", "firmness", defArgs (top 15), defBody (top 15), defScope (top 15), [], []⟩
def h_float_counts : He.DefD := ⟨("float_counts", none), "float_counts", "float_counts", defArgs (top 16), defBody (top 16), defScope (top 16), [], []⟩
def h_same_side_pairs : He.DefD := ⟨("same_side_pairs", none), "same_side_pairs", "same_side_pairs", defArgs (top 17), defBody (top 17), defScope (top 17), [], []⟩
def h__law_draw : He.DefD := ⟨("_law_draw", none), "_law_draw", "_law_draw", defArgs (top 19), defBody (top 19), defScope (top 19), [], []⟩
def h__law_cloth : He.DefD := ⟨("_law_cloth", none), "_law_cloth", "_law_cloth", defArgs (top 20), defBody (top 20), defScope (top 20), [], []⟩
def h__law_columns : He.DefD := ⟨("_law_columns", none), "_law_columns", "_law_columns", defArgs (top 21), defBody (top 21), defScope (top 21), [], []⟩
def h__law_moved : He.DefD := ⟨("_law_moved", none), "_law_moved", "_law_moved", defArgs (top 22), defBody (top 22), defScope (top 22), [], []⟩
def h__law_runs : He.DefD := ⟨("_law_runs", none), "_law_runs", "_law_runs", defArgs (top 23), defBody (top 23), defScope (top 23), [], []⟩
def h_law : He.DefD := ⟨("law", none), "law", "law", defArgs (top 24), defBody (top 24), defScope (top 24), [], []⟩
def fn : List He.DefD := [h_size_of, h_columns_of, h_runs_of, h_warp_floats, h_weft_floats, h_longest_warp, h_longest_weft, h_longest, h_loose_threads, h_crossings, h_warp_crossings, h_weft_crossings, h_is_even_take_up, h_firmness, h_float_counts, h_same_side_pairs, h__law_draw, h__law_cloth, h__law_columns, h__law_moved, h__law_runs, h_law]
def exB (K : PySem.W.Frag) : Bool := true
def fa : List He.Fa := [.glo "size_of", .glo "columns_of", .glo "runs_of", .glo "warp_floats", .glo "weft_floats", .glo "longest_warp", .glo "longest_weft", .glo "longest", .glo "loose_threads", .glo "crossings", .glo "warp_crossings", .glo "weft_crossings", .glo "is_even_take_up", .glo "firmness", .glo "float_counts", .glo "same_side_pairs", .glo "_law_draw", .glo "_law_cloth", .glo "_law_columns", .glo "_law_moved", .glo "_law_runs", .glo "law", .free "abs", .free "all", .free "any", .free "bool", .free "enumerate", .free "int", .free "isinstance", .free "len", .free "list", .free "max", .free "min", .free "range", .free "reversed", .free "set", .free "sorted", .free "str", .free "sum", .free "tuple", .free "zip"]
def loose0 : List PySem.Str := [("size_of" : Str), ("columns_of" : Str), ("runs_of" : Str), ("warp_floats" : Str), ("weft_floats" : Str), ("longest_warp" : Str), ("longest_weft" : Str), ("longest" : Str), ("loose_threads" : Str), ("crossings" : Str), ("warp_crossings" : Str), ("weft_crossings" : Str), ("is_even_take_up" : Str), ("firmness" : Str), ("float_counts" : Str), ("same_side_pairs" : Str), ("_law_draw" : Str), ("_law_cloth" : Str), ("_law_columns" : Str), ("_law_moved" : Str), ("_law_runs" : Str)]
def loose : List PySem.Str := loose0
abbrev RowR : PySem.W.OpenRow := PySem.W.OpenLaw.row PySem.Challenge.rw_wovenwhole_k06_floats_and_crossings
abbrev hk : PySem.W.Hook := He.hookX 4 fa fn [] tf exB
def ob (s : PySem.W.SharedT) : He.AlX := He.obsX 4 fa fn [] tf exB (HandSHeadRun.getT s)
theorem ob_eq (s : PySem.W.SharedT) : ob s = hk.obs s.abs := He.obsX_eq (HandSHeadRun.getT_eq s)
theorem hrun (w : World) : HandSHeadRun.RunEq RowR (PySem.W.view RowR.prog [24]) hk ob 4000 loose w := by
  intro os
  kernel_rfl
section
variable {P0 : Program} {w : World} {K : PySem.W.Frag} {h : Heap} {mg : Str → Option Value} {base : Heap}
theorem clsOk (KX : K.In h) (G : h.Ns mainGlobals mg) (c : He.SaysD fa fn K) : ClsOk (gG K) ck K mg where
  cls := fun k x e => by
    match k, e with
    | k + 0, e => simp [ck, cns] at e
  exm := fun i j hi hj => by
    have hi : i < 0 := hi
    have hj : j < 0 := hj
    omega
  frn := fun x hx => by
    have hx : x = "abs" ∨ x = "all" ∨ x = "any" ∨ x = "bool" ∨ x = "enumerate" ∨ x = "int" ∨ x = "isinstance" ∨ x = "len" ∨ x = "list" ∨ x = "max" ∨ x = "min" ∨ x = "range" ∨ x = "reversed" ∨ x = "set" ∨ x = "sorted" ∨ x = "str" ∨ x = "sum" ∨ x = "tuple" ∨ x = "zip" := by simpa [bltN] using hx
    rcases hx with rfl | rfl | rfl | rfl | rfl | rfl | rfl | rfl | rfl | rfl | rfl | rfl | rfl | rfl | rfl | rfl | rfl | rfl | rfl
    · exact He.free_ok KX G (c.fact 22 (f := .free "abs") rfl)
    · exact He.free_ok KX G (c.fact 23 (f := .free "all") rfl)
    · exact He.free_ok KX G (c.fact 24 (f := .free "any") rfl)
    · exact He.free_ok KX G (c.fact 25 (f := .free "bool") rfl)
    · exact He.free_ok KX G (c.fact 26 (f := .free "enumerate") rfl)
    · exact He.free_ok KX G (c.fact 27 (f := .free "int") rfl)
    · exact He.free_ok KX G (c.fact 28 (f := .free "isinstance") rfl)
    · exact He.free_ok KX G (c.fact 29 (f := .free "len") rfl)
    · exact He.free_ok KX G (c.fact 30 (f := .free "list") rfl)
    · exact He.free_ok KX G (c.fact 31 (f := .free "max") rfl)
    · exact He.free_ok KX G (c.fact 32 (f := .free "min") rfl)
    · exact He.free_ok KX G (c.fact 33 (f := .free "range") rfl)
    · exact He.free_ok KX G (c.fact 34 (f := .free "reversed") rfl)
    · exact He.free_ok KX G (c.fact 35 (f := .free "set") rfl)
    · exact He.free_ok KX G (c.fact 36 (f := .free "sorted") rfl)
    · exact He.free_ok KX G (c.fact 37 (f := .free "str") rfl)
    · exact He.free_ok KX G (c.fact 38 (f := .free "sum") rfl)
    · exact He.free_ok KX G (c.fact 39 (f := .free "tuple") rfl)
    · exact He.free_ok KX G (c.fact 40 (f := .free "zip") rfl)
theorem known (KX : K.In h) (G : h.Ns mainGlobals mg) (c : He.SaysD fa fn K) (hT : ∀ p ∈ csOf K tf, LamX.TabB base mg p.1 p.2)  : ∀ (f : Nat) (x : Str), ck.fn[f]? = some x → ∃ fd ps, Known (gG K) ck P0 w K mg base P f x fd ps := by
  intro f x e
  match f, e with
  | 0, e =>
    cases e
    obtain ⟨fd, F⟩ := c.def_ 0 (d := h_size_of) rfl
    exact ⟨fd, [("cloth" : Str)], He.glo_ok KX G (c.fact 0 (f := .glo "size_of") rfl), F.kp, F.bindsN fun _ _ _ _ _ _ us hl => match us, hl with | [_], _ => rfl, codeOk_of hT rfl (by decide +kernel) F, .inl ⟨N_size_of, d_size_of, rfl, ⟨⟨_, _, _, F, sc_size_of, ck_size_of⟩, rfl, rfl⟩⟩⟩
  | 1, e =>
    cases e
    obtain ⟨fd, F⟩ := c.def_ 1 (d := h_columns_of) rfl
    exact ⟨fd, [("cloth" : Str)], He.glo_ok KX G (c.fact 1 (f := .glo "columns_of") rfl), F.kp, F.bindsN fun _ _ _ _ _ _ us hl => match us, hl with | [_], _ => rfl, codeOk_of hT rfl (by decide +kernel) F, .inl ⟨N_columns_of, d_columns_of, rfl, ⟨⟨_, _, _, F, sc_columns_of, ck_columns_of⟩, rfl, rfl⟩⟩⟩
  | 2, e =>
    cases e
    obtain ⟨fd, F⟩ := c.def_ 2 (d := h_runs_of) rfl
    exact ⟨fd, [("row" : Str)], He.glo_ok KX G (c.fact 2 (f := .glo "runs_of") rfl), F.kp, F.bindsN fun _ _ _ _ _ _ us hl => match us, hl with | [_], _ => rfl, codeOk_of hT rfl (by decide +kernel) F, .inl ⟨N_runs_of, d_runs_of, rfl, ⟨⟨_, _, _, F, sc_runs_of, ck_runs_of⟩, rfl, rfl⟩⟩⟩
  | 3, e =>
    cases e
    obtain ⟨fd, F⟩ := c.def_ 3 (d := h_warp_floats) rfl
    exact ⟨fd, [("cloth" : Str)], He.glo_ok KX G (c.fact 3 (f := .glo "warp_floats") rfl), F.kp, F.bindsN fun _ _ _ _ _ _ us hl => match us, hl with | [_], _ => rfl, codeOk_of hT rfl (by decide +kernel) F, .inl ⟨N_warp_floats, d_warp_floats, rfl, ⟨⟨_, _, _, F, sc_warp_floats, ck_warp_floats⟩, rfl, rfl⟩⟩⟩
  | 4, e =>
    cases e
    obtain ⟨fd, F⟩ := c.def_ 4 (d := h_weft_floats) rfl
    exact ⟨fd, [("cloth" : Str)], He.glo_ok KX G (c.fact 4 (f := .glo "weft_floats") rfl), F.kp, F.bindsN fun _ _ _ _ _ _ us hl => match us, hl with | [_], _ => rfl, codeOk_of hT rfl (by decide +kernel) F, .inl ⟨N_weft_floats, d_weft_floats, rfl, ⟨⟨_, _, _, F, sc_weft_floats, ck_weft_floats⟩, rfl, rfl⟩⟩⟩
  | 5, e =>
    cases e
    obtain ⟨fd, F⟩ := c.def_ 5 (d := h_longest_warp) rfl
    exact ⟨fd, [("cloth" : Str)], He.glo_ok KX G (c.fact 5 (f := .glo "longest_warp") rfl), F.kp, F.bindsN fun _ _ _ _ _ _ us hl => match us, hl with | [_], _ => rfl, codeOk_of hT rfl (by decide +kernel) F, .inl ⟨N_longest_warp, d_longest_warp, rfl, ⟨⟨_, _, _, F, sc_longest_warp, ck_longest_warp⟩, rfl, rfl⟩⟩⟩
  | 6, e =>
    cases e
    obtain ⟨fd, F⟩ := c.def_ 6 (d := h_longest_weft) rfl
    exact ⟨fd, [("cloth" : Str)], He.glo_ok KX G (c.fact 6 (f := .glo "longest_weft") rfl), F.kp, F.bindsN fun _ _ _ _ _ _ us hl => match us, hl with | [_], _ => rfl, codeOk_of hT rfl (by decide +kernel) F, .inl ⟨N_longest_weft, d_longest_weft, rfl, ⟨⟨_, _, _, F, sc_longest_weft, ck_longest_weft⟩, rfl, rfl⟩⟩⟩
  | 7, e =>
    cases e
    obtain ⟨fd, F⟩ := c.def_ 7 (d := h_longest) rfl
    exact ⟨fd, [("rows" : Str)], He.glo_ok KX G (c.fact 7 (f := .glo "longest") rfl), F.kp, F.bindsN fun _ _ _ _ _ _ us hl => match us, hl with | [_], _ => rfl, codeOk_of hT rfl (by decide +kernel) F, .inl ⟨N_longest, d_longest, rfl, ⟨⟨_, _, _, F, sc_longest, ck_longest⟩, rfl, rfl⟩⟩⟩
  | 8, e =>
    cases e
    obtain ⟨fd, F⟩ := c.def_ 8 (d := h_loose_threads) rfl
    exact ⟨fd, [("cloth" : Str)], He.glo_ok KX G (c.fact 8 (f := .glo "loose_threads") rfl), F.kp, F.bindsN fun _ _ _ _ _ _ us hl => match us, hl with | [_], _ => rfl, codeOk_of hT rfl (by decide +kernel) F, .inl ⟨N_loose_threads, d_loose_threads, rfl, ⟨⟨_, _, _, F, sc_loose_threads, ck_loose_threads⟩, rfl, rfl⟩⟩⟩
  | 9, e =>
    cases e
    obtain ⟨fd, F⟩ := c.def_ 9 (d := h_crossings) rfl
    exact ⟨fd, [("row" : Str)], He.glo_ok KX G (c.fact 9 (f := .glo "crossings") rfl), F.kp, F.bindsN fun _ _ _ _ _ _ us hl => match us, hl with | [_], _ => rfl, codeOk_of hT rfl (by decide +kernel) F, .inl ⟨N_crossings, d_crossings, rfl, ⟨⟨_, _, _, F, sc_crossings, ck_crossings⟩, rfl, rfl⟩⟩⟩
  | 10, e =>
    cases e
    obtain ⟨fd, F⟩ := c.def_ 10 (d := h_warp_crossings) rfl
    exact ⟨fd, [("cloth" : Str)], He.glo_ok KX G (c.fact 10 (f := .glo "warp_crossings") rfl), F.kp, F.bindsN fun _ _ _ _ _ _ us hl => match us, hl with | [_], _ => rfl, codeOk_of hT rfl (by decide +kernel) F, .inl ⟨N_warp_crossings, d_warp_crossings, rfl, ⟨⟨_, _, _, F, sc_warp_crossings, ck_warp_crossings⟩, rfl, rfl⟩⟩⟩
  | 11, e =>
    cases e
    obtain ⟨fd, F⟩ := c.def_ 11 (d := h_weft_crossings) rfl
    exact ⟨fd, [("cloth" : Str)], He.glo_ok KX G (c.fact 11 (f := .glo "weft_crossings") rfl), F.kp, F.bindsN fun _ _ _ _ _ _ us hl => match us, hl with | [_], _ => rfl, codeOk_of hT rfl (by decide +kernel) F, .inl ⟨N_weft_crossings, d_weft_crossings, rfl, ⟨⟨_, _, _, F, sc_weft_crossings, ck_weft_crossings⟩, rfl, rfl⟩⟩⟩
  | 12, e =>
    cases e
    obtain ⟨fd, F⟩ := c.def_ 12 (d := h_is_even_take_up) rfl
    exact ⟨fd, [("cloth" : Str)], He.glo_ok KX G (c.fact 12 (f := .glo "is_even_take_up") rfl), F.kp, F.bindsN fun _ _ _ _ _ _ us hl => match us, hl with | [_], _ => rfl, codeOk_of hT rfl (by decide +kernel) F, .inl ⟨N_is_even_take_up, d_is_even_take_up, rfl, ⟨⟨_, _, _, F, sc_is_even_take_up, ck_is_even_take_up⟩, rfl, rfl⟩⟩⟩
  | 13, e =>
    cases e
    obtain ⟨fd, F⟩ := c.def_ 13 (d := h_firmness) rfl
    exact ⟨fd, [("cloth" : Str)], He.glo_ok KX G (c.fact 13 (f := .glo "firmness") rfl), F.kp, F.bindsN fun _ _ _ _ _ _ us hl => match us, hl with | [_], _ => rfl, codeOk_of hT rfl (by decide +kernel) F, .inl ⟨N_firmness, d_firmness, rfl, ⟨⟨_, _, _, F, sc_firmness, ck_firmness⟩, rfl, rfl⟩⟩⟩
  | 14, e =>
    cases e
    obtain ⟨fd, F⟩ := c.def_ 14 (d := h_float_counts) rfl
    exact ⟨fd, [("cloth" : Str)], He.glo_ok KX G (c.fact 14 (f := .glo "float_counts") rfl), F.kp, F.bindsN fun _ _ _ _ _ _ us hl => match us, hl with | [_], _ => rfl, codeOk_of hT rfl (by decide +kernel) F, .inl ⟨N_float_counts, d_float_counts, rfl, ⟨⟨_, _, _, F, sc_float_counts, ck_float_counts⟩, rfl, rfl⟩⟩⟩
  | 15, e =>
    cases e
    obtain ⟨fd, F⟩ := c.def_ 15 (d := h_same_side_pairs) rfl
    exact ⟨fd, [("cloth" : Str)], He.glo_ok KX G (c.fact 15 (f := .glo "same_side_pairs") rfl), F.kp, F.bindsN fun _ _ _ _ _ _ us hl => match us, hl with | [_], _ => rfl, codeOk_of hT rfl (by decide +kernel) F, .inl ⟨N_same_side_pairs, d_same_side_pairs, rfl, ⟨⟨_, _, _, F, sc_same_side_pairs, ck_same_side_pairs⟩, rfl, rfl⟩⟩⟩
  | 16, e =>
    cases e
    obtain ⟨fd, F⟩ := c.def_ 16 (d := h__law_draw) rfl
    exact ⟨fd, [("state" : Str), ("limit" : Str)], He.glo_ok KX G (c.fact 16 (f := .glo "_law_draw") rfl), F.kp, F.bindsN fun _ _ _ _ _ _ us hl => match us, hl with | [_, _], _ => rfl, codeOk_of hT rfl (by decide +kernel) F, .inl ⟨N__law_draw, d__law_draw, rfl, ⟨⟨_, _, _, F, sc__law_draw, ckf__law_draw⟩, rfl, rfl⟩⟩⟩
  | 17, e =>
    cases e
    obtain ⟨fd, F⟩ := c.def_ 17 (d := h__law_cloth) rfl
    exact ⟨fd, [("state" : Str), ("picks" : Str), ("ends" : Str)], He.glo_ok KX G (c.fact 17 (f := .glo "_law_cloth") rfl), F.kp, F.bindsN fun _ _ _ _ _ _ us hl => match us, hl with | [_, _, _], _ => rfl, codeOk_of hT rfl (by decide +kernel) F, .inl ⟨N__law_cloth, d__law_cloth, rfl, ⟨⟨_, _, _, F, sc__law_cloth, ck__law_cloth⟩, rfl, rfl⟩⟩⟩
  | 18, e =>
    cases e
    obtain ⟨fd, F⟩ := c.def_ 18 (d := h__law_columns) rfl
    exact ⟨fd, [("cloth" : Str)], He.glo_ok KX G (c.fact 18 (f := .glo "_law_columns") rfl), F.kp, F.bindsN fun _ _ _ _ _ _ us hl => match us, hl with | [_], _ => rfl, codeOk_of hT rfl (by decide +kernel) F, .inl ⟨N__law_columns, d__law_columns, rfl, ⟨⟨_, _, _, F, sc__law_columns, ck__law_columns⟩, rfl, rfl⟩⟩⟩
  | 19, e =>
    cases e
    obtain ⟨fd, F⟩ := c.def_ 19 (d := h__law_moved) rfl
    exact ⟨fd, [("cloth" : Str), ("down" : Str), ("right" : Str)], He.glo_ok KX G (c.fact 19 (f := .glo "_law_moved") rfl), F.kp, F.bindsN fun _ _ _ _ _ _ us hl => match us, hl with | [_, _, _], _ => rfl, codeOk_of hT rfl (by decide +kernel) F, .inl ⟨N__law_moved, d__law_moved, rfl, ⟨⟨_, _, _, F, sc__law_moved, ck__law_moved⟩, rfl, rfl⟩⟩⟩
  | 20, e =>
    cases e
    obtain ⟨fd, F⟩ := c.def_ 20 (d := h__law_runs) rfl
    exact ⟨fd, [("row" : Str)], He.glo_ok KX G (c.fact 20 (f := .glo "_law_runs") rfl), F.kp, F.bindsN fun _ _ _ _ _ _ us hl => match us, hl with | [_], _ => rfl, codeOk_of hT rfl (by decide +kernel) F, .inl ⟨N__law_runs, d__law_runs, rfl, ⟨⟨_, _, _, F, sc__law_runs, ck__law_runs⟩, rfl, rfl⟩⟩⟩
  | f + 21, e => simp [ck] at e
end
set_option maxHeartbeats 4000000
theorem draw_eval (gt : Nat → Option PyData) (call : Nat → List Slot → M PyData) (ω : Orc) (n : Int) (ho : OrcOk ω) (h0 : 0 < n) (h1 : n < 2 ^ 64) :
    evalS gt call d__law_draw.body (entry d__law_draw [.s, .v false (.int n)]) ω = .ok (.rt (.int (drawFn ω n).1)) (drawFn ω n).2 := by
  have hm : ∀ i : Int, bop .mod (.int i) (.int n) = some (.int (i % n)) := fun i => mod_ii h0
  have hf : ∀ i : Int, bop .fdiv (.int i) (.int n) = some (.int (i / n)) := fun i => fdiv_ii h0 (by
    have := log_lt (i := n) (k := 63) (by omega)
    omega)
  have m1 : ∀ i : Int, bop .mod (.int i) (.int 2147483629) = some (.int (i % 2147483629)) := fun i => mod_ii (by decide)
  have m2 : ∀ i : Int, bop .mod (.int i) (.int 2147483647) = some (.int (i % 2147483647)) := fun i => mod_ii (by decide)
  have m3 : ∀ i : Int, bop .mod (.int i) (.int 2147483587) = some (.int (i % 2147483587)) := fun i => mod_ii (by decide)
  have u1 : ∀ i : Int, bop .mul (.int i) (.int 48271) = some (.int (i * 48271)) := fun i => mul_ii (big_r (by decide))
  have u2 : ∀ i : Int, bop .mul (.int i) (.int 69621) = some (.int (i * 69621)) := fun i => mul_ii (big_r (by decide))
  have u3 : ∀ i : Int, bop .mul (.int i) (.int 2147483647) = some (.int (i * 2147483647)) := fun i => mul_ii (big_r (by decide))
  have u4 : ∀ i : Int, bop .mul (.int i) (.int 30011) = some (.int (i * 30011)) := fun i => mul_ii (big_r (by decide))
  have ep : bop .pow (.int 10) (.int 18) = some (.int 1000000000000000000) := by kernel_rfl
  obtain ⟨a, b, scr, c⟩ := ω
  obtain ⟨hb, hc0, hc1⟩ := ho
  simp only at hb hc0 hc1
  have hb1 : 0 ≤ b + 1 := by omega
  unfold d__law_draw entry
  by_cases c1 : a < n
  case neg => simp [drawFn, frz_id, nOwn, List.replicate, c1, e_sget0, hm, hf, s_sset]
  have key : ∀ x : Int, (if b < (scr.length : Int) then scr.getD b.toNat 0 else 0) = x → (drawFn ⟨a, b, scr, c⟩ n) = (if x ≥ 10 ^ 18 then (x % n, ⟨x / n, b + 1, scr, c⟩) else
      ((((((c + x % 2147483629 + b + 1) * 48271) % 2147483647 * 69621 + 11) % 2147483629) * 2147483647 + (((((c + x % 2147483629 + b + 1) * 48271) % 2147483647 * 69621 + 11) % 2147483629) * 30011 + ((c + x % 2147483629 + b + 1) * 48271) % 2147483647) % 2147483587) % n,
       ⟨(((((c + x % 2147483629 + b + 1) * 48271) % 2147483647 * 69621 + 11) % 2147483629) * 2147483647 + (((((c + x % 2147483629 + b + 1) * 48271) % 2147483647 * 69621 + 11) % 2147483629) * 30011 + ((c + x % 2147483629 + b + 1) * 48271) % 2147483647) % 2147483587) / n, b + 1, scr, ((c + x % 2147483629 + b + 1) * 48271) % 2147483647⟩)) := by
    intro x hx
    unfold drawFn
    simp only [c1, if_true, hx]
    by_cases h : x ≥ 10 ^ 18
    · simp only [h, if_true]
    · simp only [h, if_false]
  have fin : ∀ x : Int, (if b < (scr.length : Int) then scr.getD b.toNat 0 else 0) = x → (b < (scr.length : Int) → L2.atI scr b = some x) → (¬ b < (scr.length : Int) → x = 0) →
      evalS gt call (Def.body ⟨2, 6, d__law_draw.body⟩) [.s, .v false (.int n), .un, .un, .un, .un] ⟨a, b, scr, c⟩ = .ok (.rt (.int (drawFn ⟨a, b, scr, c⟩ n).1)) (drawFn ⟨a, b, scr, c⟩ n).2 := by
    intro x hx h1 h2
    rw [key x hx]
    have q0 := Int.emod_nonneg ((c + x % 2147483629 + b + 1) * 48271) (show (2147483647 : Int) ≠ 0 by decide)
    have q1 := Int.emod_lt_of_pos ((c + x % 2147483629 + b + 1) * 48271) (show (0 : Int) < 2147483647 by decide)
    have q2 : (c + x % 2147483629 + b + 1) * 48271 % 2147483647 < 2147483648 := by omega
    unfold d__law_draw
    by_cases c2 : b < (scr.length : Int)
    · by_cases c3 : x ≥ 10 ^ 18
      · have c3' : (1000000000000000000 : Int) ≤ x := c3
        simp [frz_id, nOwn, c1, c2, c3', e_sget0, e_sget1, e_slen, e_scell, kCell, h1 c2, hm, hf, s_sset, kSs_1 hb1, ep]
      · have c3' : ¬ (1000000000000000000 : Int) ≤ x := c3
        simp [frz_id, nOwn, c1, c2, c3', e_sget0, e_sget1, e_sget3, e_slen, e_scell, kCell, h1 c2, hm, hf, m1, m2, m3, u1, u2, u3, u4, s_sset, kSs_1 hb1, kSs_3 q0 q2, ep]
    · have hx0 := h2 c2
      subst hx0
      have e0 : c + 0 % 2147483629 + b + 1 = c + b + 1 := by omega
      rw [e0] at q0 q2
      simp [frz_id, nOwn, c1, c2, e_sget0, e_sget1, e_sget3, e_slen, hm, hf, m1, m2, m3, u1, u2, u3, u4, s_sset, kSs_1 hb1, kSs_3 q0 q2, ep]
  refine fin _ rfl (fun h => ?_) (fun h => if_neg h)
  rw [if_pos h]
  exact atI_at hb h

end Wv.T

set_option autoImplicit false
set_option linter.all false
namespace Wv
open PySem
/-! the plain law's tools: lists, loops -/
abbrev sI (i : Int) : Slot := .v false (.int i)
abbrev iL (xs : List Int) : PyData := .list (xs.map .int)
abbrev iT (xs : List Int) : PyData := .tuple (xs.map .int)
section
theorem intsOf_map : ∀ xs : List Int, intsOf (xs.map .int) = some xs
  | [] => rfl
  | x :: xs => by rw [List.map_cons, intsOf, intsOf_map xs]; rfl
theorem lay_ints : ∀ xs : List Int, PyData.canLayAll0 (xs.map .int) = true
  | [] => by simp [PyData.canLayAll0]
  | x :: xs => by rw [List.map_cons]; simp [PyData.canLayAll0, PyData.canLay0, lay_ints xs]
theorem shp_iL (xs : List Int) : shp (iL xs) = true := by
  unfold shp SeqAt.shaped
  simp [PyData.canLay0, lay_ints, PyData.depth, W.depth_ints]
theorem shp_iT (xs : List Int) : shp (iT xs) = true := by
  unfold shp SeqAt.shaped
  simp [PyData.canLay0, lay_ints, PyData.depth, W.depth_ints]
theorem eqvAll_ints : ∀ xs ys : List Int, PyData.eqvAll (xs.map .int) (ys.map .int) = decide (xs = ys)
  | [], [] => by simp [PyData.eqvAll]
  | [], y :: ys => by simp [PyData.eqvAll]
  | x :: xs, [] => by simp [PyData.eqvAll]
  | x :: xs, y :: ys => by
    rw [List.map_cons, List.map_cons, PyData.eqvAll, eqvAll_ints xs ys, eqv_ii]
    by_cases h : x = y <;> by_cases h2 : xs = ys <;> simp [h, h2]
theorem eqv_iT (xs ys : List Int) : PyData.eqv (iT xs) (iT ys) = decide (xs = ys) := by
  rw [PyData.eqv, eqvAll_ints]
theorem eq_same {d : PyData} (h : shp d = true) : bop .eq d d = some (.bool true) := by
  show gO (shp d && shp d) (some (PyData.bool (PyData.eqv d d))) = _
  rw [h, SeqAt.eqv_refl d (SeqAt.canLay_of_shaped h)]; rfl
theorem ne_same {d : PyData} (h : shp d = true) : bop .ne d d = some (.bool false) := by
  show gO (shp d && shp d) (some (PyData.bool (!PyData.eqv d d))) = _
  rw [h, SeqAt.eqv_refl d (SeqAt.canLay_of_shaped h)]; rfl
theorem shp_b (b : Bool) : shp (.bool b) = true := by
  unfold shp SeqAt.shaped
  simp [PyData.canLay0, PyData.depth]
theorem eqv_bb (a b : Bool) : PyData.eqv (.bool a) (.bool b) = (a == b) := by
  cases a <;> cases b <;> simp [PyData.eqv]
@[simp] theorem ne_bb (x y : Bool) : bop .ne (.bool x) (.bool y) = some (.bool (!(x == y))) := by
  show gO (shp (.bool x) && shp (.bool y)) (some (PyData.bool (!PyData.eqv (.bool x) (.bool y)))) = _
  rw [shp_b, shp_b, eqv_bb]; rfl
@[simp] theorem eq_bb (x y : Bool) : bop .eq (.bool x) (.bool y) = some (.bool (x == y)) := by
  show gO (shp (.bool x) && shp (.bool y)) (some (PyData.bool (PyData.eqv (.bool x) (.bool y)))) = _
  rw [shp_b, shp_b, eqv_bb]; rfl
@[simp] theorem p1_len_l (xs : List PyData) : p1 .len (.list xs) = some (.int xs.length) := rfl
@[simp] theorem p1_len_t (xs : List PyData) : p1 .len (.tuple xs) = some (.int xs.length) := rfl
@[simp] theorem p1_tup_l (xs : List PyData) : p1 .tuple (.list xs) = some (.tuple xs) := rfl
@[simp] theorem p1_tup_t (xs : List PyData) : p1 .tuple (.tuple xs) = some (.tuple xs) := rfl
@[simp] theorem p1_lst_l (xs : List PyData) : p1 .list (.list xs) = some (.list xs) := rfl
@[simp] theorem p1_lst_t (xs : List PyData) : p1 .list (.tuple xs) = some (.list xs) := rfl
@[simp] theorem p1_sum_l (xs : List Int) : p1 .sum (.list (xs.map .int)) = some (.int xs.sum) := by
  show (intsOf (xs.map .int)).map (fun ns => PyData.int ns.sum) = _
  rw [intsOf_map]; rfl
@[simp] theorem p1_sum_t (xs : List Int) : p1 .sum (.tuple (xs.map .int)) = some (.int xs.sum) := by
  show (intsOf (xs.map .int)).map (fun ns => PyData.int ns.sum) = _
  rw [intsOf_map]; rfl
theorem all_ints (xs : List Int) : allAlike (xs.map .int) = true := by
  unfold allAlike
  rw [List.all_eq_true]
  intro a ha
  rw [List.all_eq_true]
  intro b hb
  obtain ⟨i, _, rfl⟩ := List.mem_map.mp ha
  obtain ⟨j, _, rfl⟩ := List.mem_map.mp hb
  exact cmp_ii i j
theorem p1_max (x : Int) (xs : List Int) : p1 .max (.list (.int x :: xs.map .int)) = some (.int (xs.foldl max x)) := by
  show gO (allAlike ((x :: xs).map .int)) (some (W.maxD (.int x) (xs.map .int))) = _
  rw [all_ints, W.maxD_ints]; rfl
theorem p1_min (x : Int) (xs : List Int) : p1 .min (.list (.int x :: xs.map .int)) = some (.int (xs.foldl min x)) := by
  show gO (allAlike ((x :: xs).map .int)) (some (W.minD (.int x) (xs.map .int))) = _
  rw [all_ints, W.minD_ints]; rfl
theorem p1_any (bs : List Bool) : p1 .any (.list (bs.map .bool)) = some (.bool (bs.any id)) := by
  have h : ((bs.map PyData.bool).all tbl) = true := by
    rw [List.all_eq_true]
    intro d hd
    obtain ⟨b, _, rfl⟩ := List.mem_map.mp hd
    rfl
  show gO ((bs.map PyData.bool).all tbl) (some (PyData.bool ((bs.map PyData.bool).any PyData.truthy))) = _
  rw [h, List.any_map]
  have : (PyData.truthy ∘ PyData.bool) = id := by
    funext b; rfl
  rw [this]; rfl
theorem p2_max (a b : Int) : p2 .max (.int a) (.int b) = some (.int (max a b)) := by
  show some (PyData.int (if b > a then b else a)) = _
  congr 2
  split <;> omega
theorem cat_t {xs ys : List PyData} (h : xs.length + ys.length ≤ 1000000) : bop .add (.tuple xs) (.tuple ys) = some (.tuple (xs ++ ys)) := by
  show gO (decide (xs.length + ys.length ≤ sizeLine)) _ = _
  rw [decide_eq_true (by rw [sizeLine_eq]; omega)]; rfl
theorem cat_l {xs ys : List PyData} (h : xs.length + ys.length ≤ 1000000) : bop .add (.list xs) (.list ys) = some (.list (xs ++ ys)) := by
  show gO (decide (xs.length + ys.length ≤ sizeLine)) _ = _
  rw [decide_eq_true (by rw [sizeLine_eq]; omega)]; rfl
/-! places -/
theorem at_nat {α : Type} {xs : List α} {i : Int} (h : 0 ≤ i) (h2 : i < xs.length) : L2.atI xs i = xs[i.toNat]? := by
  unfold L2.atI L2.ixN
  rw [if_pos h, if_pos h2]
  rfl
theorem at_neg {α : Type} {xs : List α} {k : Nat} (h : 1 ≤ k) (h2 : k ≤ xs.length) : L2.atI xs (-(k : Int)) = xs[xs.length - k]? := by
  unfold L2.atI L2.ixN
  rw [if_neg (by omega), if_pos (by omega)]
  show xs[(-(k : Int) + (xs.length : Int)).toNat]? = _
  congr 1
  omega
/-! slices -/
theorem cut_to {α : Type} {xs : List α} {n : Int} (h : 0 ≤ n) : cutL xs none (some n) = xs.take n.toNat := by
  unfold cutL HT.sIx
  simp only
  rw [if_neg (by omega), List.drop_zero, Nat.sub_zero]
  rw [List.take_eq_take_iff]
  omega
theorem cut_from {α : Type} {xs : List α} {n : Int} (h : 0 ≤ n) : cutL xs (some n) none = xs.drop n.toNat := by
  unfold cutL HT.sIx
  simp only
  rw [if_neg (by omega)]
  by_cases hl : n.toNat ≤ xs.length
  · rw [Nat.min_eq_left hl, List.take_of_length_le (by rw [List.length_drop]; omega)]
  · rw [Nat.min_eq_right (by omega), List.drop_of_length_le (Nat.le_refl _), List.drop_of_length_le (by omega), List.take_nil]
theorem cut_both {α : Type} {xs : List α} {a b : Int} (h : 0 ≤ a) (h2 : a ≤ b) (h3 : b ≤ xs.length) : cutL xs (some a) (some b) = (xs.drop a.toNat).take (b - a).toNat := by
  unfold cutL HT.sIx
  simp only
  rw [if_neg (by omega), if_neg (by omega), Nat.min_eq_left (by omega), Nat.min_eq_left (by omega)]
  congr 1
  omega
/-! ranges -/
def rI (lo : Int) (n : Nat) : List Int := (List.range n).map fun (i : Nat) => lo + (i : Int)
theorem rI_len (lo : Int) (n : Nat) : (rI lo n).length = n := by simp [rI]
theorem rI_mem {lo : Int} {n : Nat} {x : Int} (h : x ∈ rI lo n) : lo ≤ x ∧ x < lo + n := by
  obtain ⟨i, hi, rfl⟩ := List.mem_map.mp h
  have := List.mem_range.mp hi
  omega
theorem rangeD_eq : ∀ (n : Nat) (lo : Int), rangeD lo n 1 = (rI lo n).map .int
  | 0, lo => rfl
  | n + 1, lo => by
    rw [rangeD, rangeD_eq n (lo + 1)]
    unfold rI
    rw [List.range_succ_eq_map]
    simp only [List.map_cons, List.map_map]
    congr 1
    · simp
    · apply List.map_congr_left
      intro a _
      simp only [Function.comp]
      congr 1
      push_cast
      omega
theorem rngI {n : Int} (h0 : 0 ≤ n) (h : n ≤ 1000000) : rngD [.int n] = some (iL (rI 0 n.toNat)) := by
  rw [rng1 h (by omega), rangeD_eq]
theorem rngI2 {a b : Int} (h : 0 ≤ a) (h2 : b ≤ 1000000) (h3 : a ≤ 1000000) (h4 : -1000000 ≤ b) : rngD [.int a, .int b] = some (iL (rI a (b - a).toNat)) := by
  rw [rng2 (by omega) (by omega) (by omega) (by omega) (by omega), rangeD_eq]
end
section
variable {gt : Nat → Option PyData} {call : Nat → List Slot → M PyData} {ρ ρ' : Env} {ω ω' : Orc}
/-! statements, with what is let out told -/
theorem asgR {i : Nat} {e : E} {d : PyData} (he : evalE gt call e ρ' ω = .ok d ω') (hf : frz (esc e) ρ = ρ' := by rfl) : evalS gt call (.asg (.nm i) e) ρ ω = .ok (.nx (ρ'.set i (.v (ownV (freshE e) d) d))) ω' := by
  rw [s_asg, hf, he]; rfl
theorem asgF {i : Nat} {e : E} {d : PyData} (he : evalE gt call e ρ' ω = .ok d ω') (hn : freshE e = false := by rfl) (hf : frz (esc e) ρ = ρ' := by rfl) : evalS gt call (.asg (.nm i) e) ρ ω = .ok (.nx (ρ'.set i (.v false d))) ω' := by
  rw [s_asg, hf, he, kAg_ok, hn, own_f]
theorem asgT2 {t : Tg} {e : E} {d : PyData} {ρ2 : Env} (he : evalE gt call e ρ' ω = .ok d ω') (ht : asgT t (ownV (freshE e) d) d ρ' ω' = .ok ρ2 ω' := by rfl) (hf : frz (esc e) ρ = ρ' := by rfl) : evalS gt call (.asg t e) ρ ω = .ok (.nx ρ2) ω' := by
  rw [evalS]
  show (evalE gt call e (frz (esc e) ρ) >>= fun d => asgT t (ownV (freshE e) d) d (frz (esc e) ρ) >>= fun ρ' => (pure (.nx ρ') : M Out)) ω = _
  rw [hf, bnd_at, he]
  show (asgT t (ownV (freshE e) d) d ρ' >>= fun ρ' => (pure (.nx ρ') : M Out)) ω' = _
  rw [bnd_at, ht]; rfl
theorem parR {t : Tg} {es : Es} {ds : List PyData} {ρ2 : Env} (he : evalEs gt call es ρ' ω = .ok ds ω') (ht : parT t es ds ρ' ω' = .ok ρ2 ω' := by rfl) (hf : frz (escs es) ρ = ρ' := by rfl) : evalS gt call (.par t es) ρ ω = .ok (.nx ρ2) ω' := by
  rw [s_par, hf, he]
  show (match parT t es ds ρ' ω' with | .ok ρ' w => R.ok (Out.nx ρ') w | .exc c p w => .exc c p w | .stuck => .stuck) = _
  rw [ht]
theorem appR {i : Nat} {e : E} {ds : List PyData} {y : PyData} (h : ρ'[i]? = some (.v true (.list ds))) (he : evalE gt call e ρ' ω = .ok y ω') (hk : okEl y = true := by rfl) (hl : ds.length < 1000000) (hf : frz (esc e) ρ = ρ' := by rfl) : evalS gt call (.app i e) ρ ω = .ok (.nx (ρ'.set i (.v true (.list (ds ++ [y]))))) ω' := by
  rw [s_app (ds := ds) (by rw [hf]; exact h), hf, he, kAp_ok, kSt_ok (app_ok hk hl)]
theorem kPt_p {e : E} {f : Option Int → Orc → R PyData} {d : PyData} {o : Option Int} (h : evalE gt call e ρ ω = .ok d ω') (hp : partI d = some o) : kPt gt call e ρ f ω = f o ω' := by
  unfold kPt
  rw [h]
  cases d <;> cases hp <;> rfl
theorem slR {a lo hi st : E} {x dl dh ds : PyData} {l h s : Option Int} (ha : evalE gt call a ρ ω = .ok x ω) (hl : evalE gt call lo ρ ω = .ok dl ω) (hh : evalE gt call hi ρ ω = .ok dh ω) (hs : evalE gt call st ρ ω = .ok ds ω)
    (pl : partI dl = some l := by rfl) (ph : partI dh = some h := by rfl) (ps : partI ds = some s := by rfl) : evalE gt call (.sl a lo hi st) ρ ω = rO (slD x l h s) ω := by
  rw [e_sl, ha, kSl_ok, kPt_p hl pl, kPt_p hh ph, kPt_p hs ps]
theorem iteF {e : E} {a b : S} {d : PyData} (he : evalE gt call e ρ' ω = .ok d ω') (ht : tru d = some false := by rfl) (hf : frz (esc e) ρ = ρ' := by rfl) : evalS gt call (.ite e a b) ρ ω = evalS gt call b ρ' ω' := by
  rw [s_ite, hf, he, kI_ok, ht]; rfl
theorem iteT {e : E} {a b : S} {d : PyData} (he : evalE gt call e ρ' ω = .ok d ω') (ht : tru d = some true := by rfl) (hf : frz (esc e) ρ = ρ' := by rfl) : evalS gt call (.ite e a b) ρ ω = evalS gt call a ρ' ω' := by
  rw [s_ite, hf, he, kI_ok, ht]; rfl
theorem retR {e : E} {d : PyData} (he : evalE gt call e ρ' ω = .ok d ω') (hf : frz (esc e) ρ = ρ' := by rfl) : evalS gt call (.ret e) ρ ω = .ok (.rt d) ω' := by
  rw [s_ret, hf, he]; rfl
theorem seqR {a b : S} (h : evalS gt call a ρ ω = .ok (.nx ρ') ω') : evalS gt call (.seq a b) ρ ω = evalS gt call b ρ' ω' := by
  rw [s_seq, h]; rfl
theorem forR {t : Tg} {it : E} {b : S} {xs : List PyData} {d : PyData} (he : evalE gt call it ρ' ω = .ok d ω') (hi : itemsOf d = some xs := by rfl) (hf : frz (esc it) ρ = ρ' := by rfl) : evalS gt call (.for_ t it b) ρ ω = fLoop gt call t b xs ρ' ω' := by
  rw [s_for, hf, he, kFo_ok hi]
/-- a loop that folds a state -/
theorem fLoop_fold {α : Type} {i : Nat} {b : S} {E : α → Slot → Env} {f : α → PyData → α} {Inv : α → Prop} (hs : ∀ s v w, (E s v).set i w = E s w) :
    ∀ (xs : List PyData) (s : α) (v : Slot), Inv s → (∀ s x, x ∈ xs → Inv s → evalS gt call b (E s (.v false x)) ω = .ok (.nx (E (f s x) (.v false x))) ω ∧ Inv (f s x)) →
      ∃ v', fLoop gt call (.nm i) b xs (E s v) ω = .ok (.nx (E (xs.foldl f s) v')) ω ∧ Inv (xs.foldl f s)
  | [], s, v, h0, _ => ⟨v, by rw [fLoop_nil]; rfl, h0⟩
  | x :: xs, s, v, h0, h => by
    obtain ⟨h1, h2⟩ := h s x List.mem_cons_self h0
    obtain ⟨v', h3, h4⟩ := fLoop_fold hs xs (f s x) (.v false x) h2 fun s y hy => h s y (List.mem_cons_of_mem _ hy)
    refine ⟨v', ?_, h4⟩
    rw [fLoop_cons, hs, h1, kFb_nx, h3]; rfl
/-- the same, with what is left counted -/
theorem fLoop_foldN {α : Type} {i : Nat} {b : S} {E : α → Slot → Env} {f : α → PyData → α} {Inv : Nat → α → Prop} (hs : ∀ s v w, (E s v).set i w = E s w) :
    ∀ (xs : List PyData) (s : α) (v : Slot), Inv xs.length s → (∀ k s x, x ∈ xs → Inv (k + 1) s → evalS gt call b (E s (.v false x)) ω = .ok (.nx (E (f s x) (.v false x))) ω ∧ Inv k (f s x)) →
      ∃ v', fLoop gt call (.nm i) b xs (E s v) ω = .ok (.nx (E (xs.foldl f s) v')) ω ∧ Inv 0 (xs.foldl f s)
  | [], s, v, h0, _ => ⟨v, by rw [fLoop_nil]; rfl, h0⟩
  | x :: xs, s, v, h0, h => by
    obtain ⟨h1, h2⟩ := h xs.length s x List.mem_cons_self h0
    obtain ⟨v', h3, h4⟩ := fLoop_foldN hs xs (f s x) (.v false x) h2 fun k s y hy => h k s y (List.mem_cons_of_mem _ hy)
    refine ⟨v', ?_, h4⟩
    rw [fLoop_cons, hs, h1, kFb_nx, h3]; rfl
/-- as often as c holds, k times at most -/
def itW {α : Type} (c : α → Bool) (f : α → α) : Nat → α → α
  | 0, s => s
  | n + 1, s => if c s = true then itW c f n (f s) else s
theorem wLoop_it {α : Type} {e : E} {b : S} {E : α → Env} {c : α → Bool} {f : α → α} {μ : α → Nat} {Inv : α → Prop}
    (hc : ∀ s, Inv s → frz (esc e) (E s) = E s ∧ ∃ d, evalE gt call e (E s) ω = .ok d ω ∧ tru d = some (c s))
    (hb : ∀ s, Inv s → c s = true → evalS gt call b (E s) ω = .ok (.nx (E (f s))) ω ∧ Inv (f s) ∧ μ (f s) < μ s) :
    ∀ (k : Nat) (s : α), Inv s → μ s ≤ k → ∀ n, k < n → wLoop gt call e b n (E s) ω = .ok (.nx (E (itW c f k s))) ω ∧ Inv (itW c f k s) ∧ c (itW c f k s) = false
  | k, s, h0, hk, 0, hn => by omega
  | k, s, h0, hk, n + 1, hn => by
    obtain ⟨h1, d, h2, h3⟩ := hc s h0
    rw [wLoop_succ, h1, h2, kWc_ok, h3]
    cases ec : c s with
    | false =>
      have e1 : itW c f k s = s := by
        cases k with
        | zero => rfl
        | succ k => unfold itW; rw [ec]; rfl
      rw [e1]
      exact ⟨rfl, h0, ec⟩
    | true =>
      obtain ⟨h4, h5, h6⟩ := hb s h0 ec
      cases k with
      | zero => omega
      | succ k =>
        rw [kWt_t, h4, kWb_nx]
        have e1 : itW c f (k + 1) s = itW c f k (f s) := by
          show (if c s = true then _ else _) = _
          rw [if_pos ec]
        rw [e1]
        exact wLoop_it hc hb k (f s) h5 (by omega) n (by omega)
/-- a comprehension -/
theorem compG0 {α : Type} {enc : α → PyData} {i : Nat} {it e : E} {xs : List α} {f : α → PyData} {d : PyData} {ω0 : Orc} (h : evalE gt call it ρ ω0 = .ok d ω) (hd : itemsOf d = some (xs.map enc)) (hl : xs.length ≤ 1000000) (hb : ∀ x ∈ xs, evalE gt call e ((clr [i] ρ).set i (.v false (enc x))) ω = .ok (f x) ω ∧ okEl (f x) = true) :
    evalE gt call (.comp (.nm i) it .nil e) ρ ω0 = .ok (.list (xs.map f)) ω := by
  have go : ∀ ys : List α, (∀ x ∈ ys, x ∈ xs) → compM (cBody gt call (.nm i) .nil e (clr [i] ρ)) (ys.map enc) ω = .ok (ys.map f) ω := by
    intro ys
    induction ys with
    | nil => intro _; rfl
    | cons y ys ih =>
      intro hy
      rw [List.map_cons, List.map_cons, compM, bnd_at]
      have e1 : cBody gt call (.nm i) .nil e (clr [i] ρ) (enc y) ω = .ok (some (f y)) ω := by
        obtain ⟨h1, h2⟩ := hb y (hy y List.mem_cons_self)
        rw [cBody_nm, t_nil, kCt_t, h1, kCo_ok, if_pos h2]
      rw [e1]
      show (compM (cBody gt call (.nm i) .nil e (clr [i] ρ)) (ys.map enc) >>= fun l => pure (f y :: l)) ω = _
      rw [bnd_at, ih fun x hx => hy x (List.mem_cons_of_mem _ hx)]
      rfl
  rw [evalE]
  refine noexc_ok ?_
  show (evalE gt call it ρ >>= fun x0 => M.ofO (itemsOf x0) >>= fun xs => M.guard (decide (xs.length ≤ 1000000)) (compM (cBody gt call (.nm i) .nil e (clr [i] ρ)) xs >>= fun ys => pure (PyData.list ys))) ω0 = _
  rw [bnd_at, h]
  show (M.ofO (itemsOf d) >>= fun xs => M.guard (decide (xs.length ≤ 1000000)) (compM (cBody gt call (.nm i) .nil e (clr [i] ρ)) xs >>= fun ys => pure (PyData.list ys))) ω = _
  rw [hd]
  show M.guard (decide ((xs.map enc).length ≤ 1000000)) (compM (cBody gt call (.nm i) .nil e (clr [i] ρ)) (xs.map enc) >>= fun ys => pure (PyData.list ys)) ω = _
  rw [decide_eq_true (by rw [List.length_map]; exact hl)]
  show (compM (cBody gt call (.nm i) .nil e (clr [i] ρ)) (xs.map enc) >>= fun ys => pure (PyData.list ys)) ω = _
  rw [bnd_at, go xs fun _ h => h]; rfl
theorem compI0 {i : Nat} {it e : E} {xs : List Int} {f : Int → PyData} {ω0 : Orc} (h : evalE gt call it ρ ω0 = .ok (iL xs) ω) (hl : xs.length ≤ 1000000) (hb : ∀ x ∈ xs, evalE gt call e ((clr [i] ρ).set i (sI x)) ω = .ok (f x) ω ∧ okEl (f x) = true) :
    evalE gt call (.comp (.nm i) it .nil e) ρ ω0 = .ok (.list (xs.map f)) ω := compG0 h rfl hl hb
theorem compG {α : Type} {enc : α → PyData} {i : Nat} {it e : E} {xs : List α} {f : α → PyData} {d : PyData} (h : evalE gt call it ρ ω = .ok d ω) (hd : itemsOf d = some (xs.map enc)) (hl : xs.length ≤ 1000000) (hb : ∀ x ∈ xs, evalE gt call e ((clr [i] ρ).set i (.v false (enc x))) ω = .ok (f x) ω ∧ okEl (f x) = true) :
    evalE gt call (.comp (.nm i) it .nil e) ρ ω = .ok (.list (xs.map f)) ω := compG0 h hd hl hb
theorem compI {i : Nat} {it e : E} {xs : List Int} {f : Int → PyData} (h : evalE gt call it ρ ω = .ok (iL xs) ω) (hl : xs.length ≤ 1000000) (hb : ∀ x ∈ xs, evalE gt call e ((clr [i] ρ).set i (sI x)) ω = .ok (f x) ω ∧ okEl (f x) = true) :
    evalE gt call (.comp (.nm i) it .nil e) ρ ω = .ok (.list (xs.map f)) ω := compG0 h rfl hl hb
/-- with a test -/
theorem compIf {α : Type} {enc : α → PyData} {i : Nat} {it e t : E} {xs : List α} {f : α → PyData} {p : α → Bool} {d : PyData} (h : evalE gt call it ρ ω = .ok d ω) (hd : itemsOf d = some (xs.map enc)) (hl : xs.length ≤ 1000000) (hp : ∀ x ∈ xs, ∃ d, evalE gt call t ((clr [i] ρ).set i (.v false (enc x))) ω = .ok d ω ∧ tru d = some (p x)) (hb : ∀ x ∈ xs, p x = true → evalE gt call e ((clr [i] ρ).set i (.v false (enc x))) ω = .ok (f x) ω ∧ okEl (f x) = true) :
    evalE gt call (.comp (.nm i) it (.cons t .nil) e) ρ ω = .ok (.list ((xs.filter p).map f)) ω := by
  have go : ∀ ys : List α, (∀ x ∈ ys, x ∈ xs) → compM (cBody gt call (.nm i) (.cons t .nil) e (clr [i] ρ)) (ys.map enc) ω = .ok ((ys.filter p).map f) ω := by
    intro ys
    induction ys with
    | nil => intro _; rfl
    | cons y ys ih =>
      intro hy
      rw [List.map_cons, compM, bnd_at]
      have ih := ih fun x hx => hy x (List.mem_cons_of_mem _ hx)
      obtain ⟨d, h1, h2⟩ := hp y (hy y List.mem_cons_self)
      cases hpy : p y with
      | false =>
        have e1 : cBody gt call (.nm i) (.cons t .nil) e (clr [i] ρ) (enc y) ω = .ok none ω := by
          rw [cBody_nm, t_cons, h1, kT1_ok, h2, hpy, kTt_f, kCt_f]
        rw [e1, List.filter_cons, hpy]
        exact ih
      | true =>
        have e1 : cBody gt call (.nm i) (.cons t .nil) e (clr [i] ρ) (enc y) ω = .ok (some (f y)) ω := by
          obtain ⟨h3, h4⟩ := hb y (hy y List.mem_cons_self) hpy
          rw [cBody_nm, t_cons, h1, kT1_ok, h2, hpy, kTt_t, t_nil, kCt_t, h3, kCo_ok, if_pos h4]
        rw [e1, List.filter_cons, hpy, if_pos rfl, List.map_cons]
        show (compM (cBody gt call (.nm i) (.cons t .nil) e (clr [i] ρ)) (ys.map enc) >>= fun l => pure (f y :: l)) ω = _
        rw [bnd_at, ih]
        rfl
  rw [evalE]
  refine noexc_ok ?_
  show (evalE gt call it ρ >>= fun x0 => M.ofO (itemsOf x0) >>= fun xs => M.guard (decide (xs.length ≤ 1000000)) (compM (cBody gt call (.nm i) (.cons t .nil) e (clr [i] ρ)) xs >>= fun ys => pure (PyData.list ys))) ω = _
  rw [bnd_at, h]
  show (M.ofO (itemsOf d) >>= fun xs => M.guard (decide (xs.length ≤ 1000000)) (compM (cBody gt call (.nm i) (.cons t .nil) e (clr [i] ρ)) xs >>= fun ys => pure (PyData.list ys))) ω = _
  rw [hd]
  show M.guard (decide ((xs.map enc).length ≤ 1000000)) (compM (cBody gt call (.nm i) (.cons t .nil) e (clr [i] ρ)) (xs.map enc) >>= fun ys => pure (PyData.list ys)) ω = _
  rw [decide_eq_true (by rw [List.length_map]; exact hl)]
  show (compM (cBody gt call (.nm i) (.cons t .nil) e (clr [i] ρ)) (xs.map enc) >>= fun ys => pure (PyData.list ys)) ω = _
  rw [bnd_at, go xs fun _ h => h]; rfl
/-- a loop that ends early at the first x that fails -/
theorem fLoop_all {α : Type} {i : Nat} {b : S} {E : α → Slot → Env} {f : α → PyData → α} {p : PyData → Bool} {d : PyData} (hs : ∀ s v w, (E s v).set i w = E s w) :
    ∀ (xs : List PyData) (s : α) (v : Slot), (∀ s x, x ∈ xs → evalS gt call b (E s (.v false x)) ω = if p x = true then .ok (.nx (E (f s x) (.v false x))) ω else .ok (.rt d) ω) →
      (xs.all p = true → ∃ s' v', fLoop gt call (.nm i) b xs (E s v) ω = .ok (.nx (E s' v')) ω) ∧ (xs.all p = false → fLoop gt call (.nm i) b xs (E s v) ω = .ok (.rt d) ω)
  | [], s, v, h => ⟨fun _ => ⟨s, v, by rw [fLoop_nil]⟩, fun z => by cases z⟩
  | x :: xs, s, v, h => by
    have h1 := h s x List.mem_cons_self
    obtain ⟨h2, h3⟩ := fLoop_all hs xs (f s x) (.v false x) fun s y hy => h s y (List.mem_cons_of_mem _ hy)
    rw [fLoop_cons, hs, List.all_cons, h1]
    cases hp : p x with
    | false => exact ⟨fun z => (by cases z), fun _ => rfl⟩
    | true =>
      simp only [if_true, kFb_nx, Bool.true_and]
      exact ⟨h2, h3⟩
theorem fLoop_consT {t : Tg} {b : S} {x : PyData} {xs : List PyData} (h : asgT t false x ρ ω = .ok ρ' ω) : fLoop gt call t b (x :: xs) ρ ω = kFb gt call t b xs (evalS gt call b ρ' ω) := by
  show ((asgT t false x ρ >>= fun ρ' => evalS gt call b ρ') >>= _) ω = _
  rw [bnd_at, bnd_at, h]
  dsimp only
  cases evalS gt call b ρ' ω with
  | ok o w => cases o <;> rfl
  | _ => rfl
/-- a loop over what is encoded, any target -/
theorem fLoop_foldP {α β γ : Type} {t : Tg} {b : S} {E : α → β → Env} {enc : γ → PyData} {f : α → γ → α} {Inv : Nat → α → Prop} :
    ∀ (xs : List γ) (s : α) (v : β), Inv xs.length s → (∀ k s v x, x ∈ xs → Inv (k + 1) s → ∃ ρ' v', asgT t false (enc x) (E s v) ω = .ok ρ' ω ∧ evalS gt call b ρ' ω = .ok (.nx (E (f s x) v')) ω ∧ Inv k (f s x)) →
      ∃ v', fLoop gt call t b (xs.map enc) (E s v) ω = .ok (.nx (E (xs.foldl f s) v')) ω ∧ Inv 0 (xs.foldl f s)
  | [], s, v, h0, _ => ⟨v, by rw [List.map_nil, fLoop_nil]; rfl, h0⟩
  | x :: xs, s, v, h0, h => by
    obtain ⟨ρ', w, h1, h2, h3⟩ := h xs.length s v x List.mem_cons_self h0
    obtain ⟨v', h4, h5⟩ := fLoop_foldP xs (f s x) w h3 fun k s v y hy => h k s v y (List.mem_cons_of_mem _ hy)
    refine ⟨v', ?_, h5⟩
    rw [List.map_cons]
    rw [fLoop_consT h1, h2, kFb_nx, h4]; rfl
/-- a comprehension, any target -/
theorem compT {α : Type} {enc : α → PyData} {t : Tg} {it e : E} {xs : List α} {f : α → PyData} {d : PyData} (h : evalE gt call it ρ ω = .ok d ω) (hd : itemsOf d = some (xs.map enc)) (hl : xs.length ≤ 1000000) (hb : ∀ x ∈ xs, ∃ ρ', asgT t false (enc x) (clr (tgS t) ρ) ω = .ok ρ' ω ∧ evalE gt call e ρ' ω = .ok (f x) ω ∧ okEl (f x) = true) :
    evalE gt call (.comp t it .nil e) ρ ω = .ok (.list (xs.map f)) ω := by
  have go : ∀ ys : List α, (∀ x ∈ ys, x ∈ xs) → compM (cBody gt call t .nil e (clr (tgS t) ρ)) (ys.map enc) ω = .ok (ys.map f) ω := by
    intro ys
    induction ys with
    | nil => intro _; rfl
    | cons y ys ih =>
      intro hy
      rw [List.map_cons, List.map_cons, compM, bnd_at]
      have e1 : cBody gt call t .nil e (clr (tgS t) ρ) (enc y) ω = .ok (some (f y)) ω := by
        obtain ⟨ρ', h1, h2, h3⟩ := hb y (hy y List.mem_cons_self)
        unfold cBody
        rw [bnd_at, h1]
        show (evalT gt call .nil ρ' >>= fun b => if b = true then evalE gt call e ρ' >>= fun y => M.guard (okEl y) (pure (some y)) else pure none) ω = _
        rw [bnd_at, t_nil]
        show (evalE gt call e ρ' >>= fun y => M.guard (okEl y) (pure (some y))) ω = _
        rw [bnd_at, h2]
        show M.guard (okEl (f y)) (pure (some (f y))) ω = _
        rw [h3]; rfl
      rw [e1]
      show (compM (cBody gt call t .nil e (clr (tgS t) ρ)) (ys.map enc) >>= fun l => pure (f y :: l)) ω = _
      rw [bnd_at, ih fun x hx => hy x (List.mem_cons_of_mem _ hx)]
      rfl
  rw [evalE]
  refine noexc_ok ?_
  show (evalE gt call it ρ >>= fun x0 => M.ofO (itemsOf x0) >>= fun xs => M.guard (decide (xs.length ≤ 1000000)) (compM (cBody gt call t .nil e (clr (tgS t) ρ)) xs >>= fun ys => pure (PyData.list ys))) ω = _
  rw [bnd_at, h]
  show (M.ofO (itemsOf d) >>= fun xs => M.guard (decide (xs.length ≤ 1000000)) (compM (cBody gt call t .nil e (clr (tgS t) ρ)) xs >>= fun ys => pure (PyData.list ys))) ω = _
  rw [hd]
  show M.guard (decide ((xs.map enc).length ≤ 1000000)) (compM (cBody gt call t .nil e (clr (tgS t) ρ)) (xs.map enc) >>= fun ys => pure (PyData.list ys)) ω = _
  rw [decide_eq_true (by rw [List.length_map]; exact hl)]
  show (compM (cBody gt call t .nil e (clr (tgS t) ρ)) (xs.map enc) >>= fun ys => pure (PyData.list ys)) ω = _
  rw [bnd_at, go xs fun _ h => h]; rfl
/-- a comprehension with draws -/
theorem compEx {i : Nat} {it e : E} {xs : List PyData} {d : PyData} {Pr : Int → Prop} {ω0 : Orc} (h : evalE gt call it ρ ω0 = .ok d ω) (hd : itemsOf d = some xs) (hl : xs.length ≤ 1000000) (hb : ∀ x ω, ∃ y ω', evalE gt call e ((clr [i] ρ).set i (.v false x)) ω = .ok (.int y) ω' ∧ Pr y) :
    ∃ (ys : List Int) (ω' : Orc), evalE gt call (.comp (.nm i) it .nil e) ρ ω0 = .ok (iL ys) ω' ∧ ys.length = xs.length ∧ ∀ y ∈ ys, Pr y := by
  have go : ∀ (xs : List PyData) (ω : Orc), ∃ (ys : List Int) (ω' : Orc), compM (cBody gt call (.nm i) .nil e (clr [i] ρ)) xs ω = .ok (ys.map PyData.int) ω' ∧ ys.length = xs.length ∧ ∀ y ∈ ys, Pr y := by
    intro xs
    induction xs with
    | nil => intro ω; exact ⟨[], ω, rfl, rfl, fun y hy => by cases hy⟩
    | cons x xs ih =>
      intro ω
      obtain ⟨y, w, h1, h2⟩ := hb x ω
      obtain ⟨ys, w2, h3, h4, h5⟩ := ih w
      refine ⟨y :: ys, w2, ?_, by rw [List.length_cons, List.length_cons, h4], fun z hz => ?_⟩
      · rw [compM, bnd_at]
        have e1 : cBody gt call (.nm i) .nil e (clr [i] ρ) x ω = .ok (some (.int y)) w := by
          rw [cBody_nm, t_nil, kCt_t, h1, kCo_ok]; rfl
        rw [e1]
        show (compM (cBody gt call (.nm i) .nil e (clr [i] ρ)) xs >>= fun l => pure (.int y :: l)) w = _
        rw [bnd_at, h3]
        rfl
      · rcases List.mem_cons.mp hz with e | e
        · subst e; exact h2
        · exact h5 z e
  obtain ⟨ys, w, h1, h2, h3⟩ := go xs ω
  refine ⟨ys, w, ?_, h2, h3⟩
  rw [evalE]
  refine noexc_ok ?_
  show (evalE gt call it ρ >>= fun x0 => M.ofO (itemsOf x0) >>= fun xs => M.guard (decide (xs.length ≤ 1000000)) (compM (cBody gt call (.nm i) .nil e (clr [i] ρ)) xs >>= fun ys => pure (PyData.list ys))) ω0 = _
  rw [bnd_at, h]
  show (M.ofO (itemsOf d) >>= fun xs => M.guard (decide (xs.length ≤ 1000000)) (compM (cBody gt call (.nm i) .nil e (clr [i] ρ)) xs >>= fun ys => pure (PyData.list ys))) ω = _
  rw [hd]
  show M.guard (decide (xs.length ≤ 1000000)) (compM (cBody gt call (.nm i) .nil e (clr [i] ρ)) xs >>= fun ys => pure (PyData.list ys)) ω = _
  rw [decide_eq_true hl]
  show (compM (cBody gt call (.nm i) .nil e (clr [i] ρ)) xs >>= fun ys => pure (PyData.list ys)) ω = _
  rw [bnd_at, h1]; rfl
theorem setixR {i : Nat} {k e : E} {ds : List PyData} {y : PyData} {n : Int} {j : Nat} (h : ρ'[i]? = some (.v true (.list ds))) (he : evalE gt call e ρ' ω = .ok y ω) (hk : evalE gt call k ρ' ω = .ok (.int n) ω) (hj : L2.ixN ds.length n = some j) (ho : okEl y = true := by rfl) (hf : frz (esc e ++ esc k) ρ = ρ' := by rfl) :
    evalS gt call (.setix i k e) ρ ω = .ok (.nx (ρ'.set i (.v true (.list (ds.set j y))))) ω := by
  rw [s_setix (ds := ds) (by rw [hf]; exact h), hf, he, kSx_ok, hk, kAp_ok, kSt_ok (put_at ho hj)]
theorem augixR {i : Nat} {o : Bop} {k e : E} {ds : List PyData} {y z : PyData} {n m : Int} {j : Nat} (h : ρ'[i]? = some (.v true (.list ds))) (hk : evalE gt call k ρ' ω = .ok (.int n) ω) (hx : ixD (.list ds) (.int n) = some (.int m)) (he : evalE gt call e ρ' ω = .ok y ω) (hb : bop o (.int m) y = some z) (hj : L2.ixN ds.length n = some j) (ho : okEl z = true := by rfl) (hf : frz (esc k ++ esc e) ρ = ρ' := by rfl) :
    evalS gt call (.augix i o k e) ρ ω = .ok (.nx (ρ'.set i (.v true (.list (ds.set j z))))) ω := by
  rw [evalS]
  simp only [hf]
  rw [h]
  show (evalE gt call k ρ' >>= fun x => M.ofO (ixD (.list ds) x) >>= fun old => match old with
    | .int _ => evalE gt call e ρ' >>= fun y => M.ofO (bop o old y) >>= fun z => setAt ρ' i (putIx x z) >>= fun ρ' => (pure (.nx ρ') : M Out)
    | _ => M.stuck) ω = _
  rw [bnd_at, hk]
  dsimp only
  rw [hx]
  show (evalE gt call e ρ' >>= fun y => M.ofO (bop o (.int m) y) >>= fun z => setAt ρ' i (putIx (.int n) z) >>= fun ρ' => (pure (.nx ρ') : M Out)) ω = _
  rw [bnd_at, he]
  dsimp only
  rw [hb]
  show (setAt ρ' i (putIx (.int n) z) >>= fun ρ' => (pure (.nx ρ') : M Out)) ω = _
  rw [setAt_at h, kSt_ok (put_at ho hj)]
theorem ixN_nat {n : Nat} {i : Int} (h : 0 ≤ i) (h2 : i < n) : L2.ixN n i = some i.toNat := by
  unfold L2.ixN
  rw [if_pos h, if_pos h2]
/-! pairs, sorted -/
def enc2 (p : Int × Int) : PyData := .tuple [.int p.1, .int p.2]
def dec2 : PyData → Int × Int
  | .tuple [.int a, .int b] => (a, b)
  | _ => (0, 0)
theorem shp_2 (p : Int × Int) : shp (enc2 p) = true := by
  unfold shp SeqAt.shaped enc2
  simp [PyData.canLay0, PyData.canLayAll0, PyData.depth, PyData.depthAll]
theorem alike_2 (ps : List (Int × Int)) : (allAlike (ps.map enc2) && sortOk (ps.map enc2)) = true := by
  rw [Bool.and_eq_true]
  refine ⟨?_, ?_⟩
  · unfold allAlike
    rw [List.all_eq_true]
    intro a ha
    rw [List.all_eq_true]
    intro b hb
    obtain ⟨p, _, rfl⟩ := List.mem_map.mp ha
    obtain ⟨q, _, rfl⟩ := List.mem_map.mp hb
    unfold cmpOk
    rw [shp_2, shp_2]
    simp [enc2, W.alike, W.alikeAll]
  · unfold sortOk
    rw [Bool.or_eq_true]
    left
    rw [List.all_eq_true]
    intro a ha
    obtain ⟨p, _, rfl⟩ := List.mem_map.mp ha
    rfl
def sr (ps : List (Int × Int)) : List (Int × Int) := ((ps.map enc2).mergeSort (W.dataLe false id)).map dec2
theorem sr_ok (ps : List (Int × Int)) : p1 .sorted (.list (ps.map enc2)) = some (.list ((sr ps).map enc2)) ∧ (sr ps).Perm ps := by
  have hp := List.mergeSort_perm (ps.map enc2) (W.dataLe false id)
  have e1 : (sr ps).map enc2 = (ps.map enc2).mergeSort (W.dataLe false id) := by
    unfold sr
    rw [List.map_map]
    have : ∀ d ∈ (ps.map enc2).mergeSort (W.dataLe false id), (enc2 ∘ dec2) d = d := by
      intro d hd
      obtain ⟨p, _, rfl⟩ := List.mem_map.mp (hp.mem_iff.mp hd)
      rfl
    rw [List.map_congr_left this, List.map_id']
  refine ⟨?_, ?_⟩
  · show gO (allAlike (ps.map enc2) && sortOk (ps.map enc2)) (some (PyData.list ((ps.map enc2).mergeSort (W.dataLe false id)))) = _
    rw [alike_2, e1]; rfl
  · have := hp.map dec2
    rw [List.map_map] at this
    have e2 : ps.map (dec2 ∘ enc2) = ps := by
      have : (dec2 ∘ enc2) = id := by funext p; rfl
      rw [this, List.map_id]
    rw [e2] at this
    exact this
theorem enumD_ints : ∀ (ws : List Int) (k : Nat), enumD k (ws.map .int) = (rI 0 ws.length).map fun i => enc2 ((k : Int) + i, ws.getD i.toNat 0)
  | [], k => rfl
  | w :: ws, k => by
    rw [List.map_cons, enumD, enumD_ints ws (k + 1), List.length_cons]
    unfold rI
    rw [List.range_succ_eq_map]
    simp only [List.map_cons, List.map_map]
    have e1 : PyData.tuple [.int (k : Nat), .int w] = enc2 ((k : Int) + (0 + ((0 : Nat) : Int)), (w :: ws).getD (0 + ((0 : Nat) : Int)).toNat 0) := by simp [enc2]
    rw [e1]
    refine congrArg (List.cons _) (List.map_congr_left fun a _ => ?_)
    simp only [Function.comp]
    have e2 : (0 + ((a.succ : Nat) : Int)).toNat = a + 1 := by omega
    have e3 : (0 + (a : Int)).toNat = a := by omega
    rw [e2, e3]
    have e4 : (((k + 1 : Nat) : Int) + (0 + (a : Int))) = ((k : Int) + (0 + ((a.succ : Nat) : Int))) := by push_cast; omega
    rw [e4]
    rfl
end
end Wv

set_option autoImplicit false
set_option linter.all false
namespace Wv
open PySem
/-! the walk: one lemma for each node, the value found on the way -/
section
/-- at most k deep, no dict within -/
def Sh (k : Nat) (d : PyData) : Prop := d.canLay0 = true ∧ d.depth ≤ k
theorem Sh.ok {k : Nat} {d : PyData} (h : Sh k d) (hk : k ≤ 64 := by decide) : shp d = true := by
  unfold shp SeqAt.shaped
  rw [h.1, decide_eq_true (Nat.le_trans h.2 hk)]; rfl
theorem Sh.refl {k : Nat} {d : PyData} (h : Sh k d) (hk : k ≤ 64 := by decide) : PyData.eqv d d = true := SeqAt.eqv_refl d h.1
theorem sh_n (k : Nat) : Sh k .none := ⟨by simp [PyData.canLay0], by simp [PyData.depth]⟩
theorem sh_i (k : Nat) (i : Int) : Sh k (.int i) := ⟨by simp [PyData.canLay0], by simp [PyData.depth]⟩
theorem sh_b (k : Nat) (i : Bool) : Sh k (.bool i) := ⟨by simp [PyData.canLay0], by simp [PyData.depth]⟩
theorem sh_s (k : Nat) {x : Str} (h : PyData.strOk x = true) : Sh k (.str x) := ⟨by simp [PyData.canLay0, h], by simp [PyData.depth]⟩
theorem sh_all {k : Nat} : ∀ {ds : List PyData}, (∀ d ∈ ds, Sh k d) → PyData.canLayAll0 ds = true ∧ PyData.depthAll ds ≤ k
  | [], _ => ⟨by simp [PyData.canLayAll0], by simp [PyData.depthAll]⟩
  | d :: ds, h => by
    obtain ⟨h1, h2⟩ := sh_all fun d hd => h d (List.mem_cons_of_mem _ hd)
    obtain ⟨h3, h4⟩ := h d List.mem_cons_self
    exact ⟨by simp [PyData.canLayAll0, h1, h3], by simp [PyData.depthAll]; omega⟩
theorem sh_l {k : Nat} {ds : List PyData} (h : ∀ d ∈ ds, Sh k d) : Sh (k + 1) (.list ds) := by
  obtain ⟨h1, h2⟩ := sh_all h
  exact ⟨by simp [PyData.canLay0, h1], by simp [PyData.depth]; omega⟩
theorem sh_t {k : Nat} {ds : List PyData} (h : ∀ d ∈ ds, Sh k d) : Sh (k + 1) (.tuple ds) := by
  obtain ⟨h1, h2⟩ := sh_all h
  exact ⟨by simp [PyData.canLay0, h1], by simp [PyData.depth]; omega⟩
theorem sh_lm {α : Type} {k : Nat} {f : α → PyData} {xs : List α} (h : ∀ x ∈ xs, Sh k (f x)) : Sh (k + 1) (.list (xs.map f)) :=
  sh_l fun d hd => by obtain ⟨x, hx, rfl⟩ := List.mem_map.mp hd; exact h x hx
theorem sh_tm {α : Type} {k : Nat} {f : α → PyData} {xs : List α} (h : ∀ x ∈ xs, Sh k (f x)) : Sh (k + 1) (.tuple (xs.map f)) :=
  sh_t fun d hd => by obtain ⟨x, hx, rfl⟩ := List.mem_map.mp hd; exact h x hx
theorem sh_nil (k : Nat) : ∀ d ∈ ([] : List PyData), Sh k d := fun _ h => by cases h
theorem sh_cons {k : Nat} {d : PyData} {ds : List PyData} (h : Sh k d) (h2 : ∀ d ∈ ds, Sh k d) : ∀ e ∈ d :: ds, Sh k e := fun e he => by
  rcases List.mem_cons.mp he with z | z
  · rw [z]; exact h
  · exact h2 e z
theorem sh_iL (k : Nat) (xs : List Int) : Sh (k + 1) (iL xs) := sh_lm fun x _ => sh_i k x
theorem sh_iT (k : Nat) (xs : List Int) : Sh (k + 1) (iT xs) := sh_tm fun x _ => sh_i k x
/-- None, or a number -/
def oI : Option Int → PyData
  | none => .none
  | some i => .int i
theorem sh_oI (k : Nat) (o : Option Int) : Sh k (oI o) := by cases o; exact sh_n k; exact sh_i k _
/-! the place in a list -/
def nth {α : Type} [Inhabited α] (xs : List α) (i : Nat) : α := xs.getD i default
def pyAt {α : Type} [Inhabited α] (xs : List α) (i : Int) : α := if 0 ≤ i then nth xs i.toNat else nth xs (xs.length + i).toNat
theorem nth_eq {α : Type} [Inhabited α] {xs : List α} {i : Nat} (h : i < xs.length) : xs[i]? = some (nth xs i) := by
  unfold nth; rw [List.getD_eq_getElem?_getD, List.getElem?_eq_getElem h]; rfl
theorem nth_mem {α : Type} [Inhabited α] {xs : List α} {i : Nat} (h : i < xs.length) : nth xs i ∈ xs := List.mem_of_getElem? (nth_eq h)
theorem nth_get {α : Type} [Inhabited α] {xs : List α} {i : Nat} (h : i < xs.length) : nth xs i = xs[i] := by
  have := nth_eq h
  rw [List.getElem?_eq_getElem h] at this
  exact (Option.some.inj this).symm
theorem pyAt_nat {α : Type} [Inhabited α] (xs : List α) (i : Nat) : pyAt xs (i : Int) = nth xs i := by
  unfold pyAt; rw [if_pos (by omega)]; rfl
theorem pyAt_of {α : Type} [Inhabited α] (xs : List α) {i : Int} (h : 0 ≤ i) : pyAt xs i = nth xs i.toNat := if_pos h
theorem pyAt_mem {α : Type} [Inhabited α] {xs : List α} {i : Int} (h : -(xs.length : Int) ≤ i) (h2 : i < xs.length) : pyAt xs i ∈ xs := by
  unfold pyAt
  split
  · exact nth_mem (by omega)
  · exact nth_mem (by omega)
theorem nth_map {α β : Type} [Inhabited α] [Inhabited β] {f : α → β} {xs : List α} {i : Nat} (h : i < xs.length) : nth (xs.map f) i = f (nth xs i) := by
  rw [nth_get (by simpa using h), nth_get h, List.getElem_map]
theorem nth_range {n i : Nat} (h : i < n) : nth (List.range n) i = i := by
  rw [nth_get (by simpa using h), List.getElem_range]
theorem ext_nth {α : Type} [Inhabited α] {xs ys : List α} (h : xs.length = ys.length) (h2 : ∀ i, i < xs.length → nth xs i = nth ys i) : xs = ys :=
  List.ext_getElem h fun i h3 h4 => by rw [← nth_get h3, ← nth_get h4]; exact h2 i h3
theorem map_nth {α : Type} [Inhabited α] (xs : List α) : (List.range xs.length).map (nth xs) = xs :=
  ext_nth (by simp) fun i h => by
    have h : i < xs.length := by simpa using h
    rw [nth_map (by simpa using h), nth_range h]
theorem atI_py {α : Type} [Inhabited α] {xs : List α} {i : Int} (h : -(xs.length : Int) ≤ i) (h2 : i < xs.length) : L2.atI xs i = some (pyAt xs i) := by
  unfold pyAt
  by_cases h0 : 0 ≤ i
  · rw [if_pos h0, at_nat h0 h2, nth_eq (by omega)]
  · rw [if_neg h0]
    unfold L2.atI L2.ixN
    rw [if_neg h0, if_pos (by omega), ← nth_eq (by omega)]
    show xs[(i + xs.length).toNat]? = _
    congr 1
    omega
theorem atI_mapZ {α β : Type} (f : α → β) (xs : List α) (i : Int) : L2.atI (xs.map f) i = (L2.atI xs i).map f := by
  unfold L2.atI
  rw [List.length_map]
  cases L2.ixN xs.length i <;> simp
/-! the ops -/
theorem ix_py {α : Type} [Inhabited α] {f : α → PyData} {xs : List α} {i : Int} (h : -(xs.length : Int) ≤ i) (h2 : i < xs.length) : ixD (.tuple (xs.map f)) (.int i) = some (f (pyAt xs i)) := by
  show L2.atI (xs.map f) i = _
  rw [atI_mapZ, atI_py h h2]; rfl
theorem ixl_py {α : Type} [Inhabited α] {f : α → PyData} {xs : List α} {i : Int} (h : -(xs.length : Int) ≤ i) (h2 : i < xs.length) : ixD (.list (xs.map f)) (.int i) = some (f (pyAt xs i)) := by
  show L2.atI (xs.map f) i = _
  rw [atI_mapZ, atI_py h h2]; rfl
theorem ix_n {α : Type} [Inhabited α] {f : α → PyData} {xs : List α} {i : Nat} (h : i < xs.length) : ixD (.tuple (xs.map f)) (.int (i : Nat)) = some (f (nth xs i)) := by
  rw [ix_py (by omega) (by omega), pyAt_nat]
theorem ixl_n {α : Type} [Inhabited α] {f : α → PyData} {xs : List α} {i : Nat} (h : i < xs.length) : ixD (.list (xs.map f)) (.int (i : Nat)) = some (f (nth xs i)) := by
  rw [ixl_py (by omega) (by omega), pyAt_nat]
theorem ix_0 {α : Type} [Inhabited α] {f : α → PyData} {xs : List α} (h : 0 < xs.length) : ixD (.tuple (xs.map f)) (.int 0) = some (f (nth xs 0)) := ix_n (i := 0) h
theorem ixl_0 {α : Type} [Inhabited α] {f : α → PyData} {xs : List α} (h : 0 < xs.length) : ixD (.list (xs.map f)) (.int 0) = some (f (nth xs 0)) := ixl_n (i := 0) h
theorem len_lm {α : Type} (f : α → PyData) (xs : List α) : p1 .len (.list (xs.map f)) = some (.int xs.length) := by rw [p1_len_l, List.length_map]
theorem len_tm {α : Type} (f : α → PyData) (xs : List α) : p1 .len (.tuple (xs.map f)) = some (.int xs.length) := by rw [p1_len_t, List.length_map]
theorem sum_lm {α : Type} (g : α → Int) (xs : List α) : p1 .sum (.list (xs.map fun x => .int (g x))) = some (.int (xs.map g).sum) := by
  rw [← p1_sum_l, List.map_map]; rfl
theorem sum_tm {α : Type} (g : α → Int) (xs : List α) : p1 .sum (.tuple (xs.map fun x => .int (g x))) = some (.int (xs.map g).sum) := by
  rw [← p1_sum_t, List.map_map]; rfl
theorem mul_l {i j : Int} (h : i.natAbs < 2 ^ 64) : bop .mul (.int i) (.int j) = some (.int (i * j)) := mul_ii (big_l h)
theorem mul_r {i j : Int} (h : j.natAbs < 2 ^ 64) : bop .mul (.int i) (.int j) = some (.int (i * j)) := mul_ii (big_r h)
theorem fdiv_sm {i j : Int} (h : 0 < j) (h2 : j.natAbs < 2 ^ 64) : bop .fdiv (.int i) (.int j) = some (.int (i / j)) :=
  fdiv_ii h (Nat.lt_of_le_of_lt (log_lt (k := 63) h2) (by decide))
theorem eq_sh {k : Nat} {a b : PyData} (ha : Sh k a) (hb : Sh k b) (hk : k ≤ 64 := by decide) : bop .eq a b = some (.bool (PyData.eqv a b)) := by
  show gO (shp a && shp b) (some (PyData.bool (PyData.eqv a b))) = _
  rw [ha.ok hk, hb.ok hk]; rfl
theorem ne_sh {k : Nat} {a b : PyData} (ha : Sh k a) (hb : Sh k b) (hk : k ≤ 64 := by decide) : bop .ne a b = some (.bool (!PyData.eqv a b)) := by
  show gO (shp a && shp b) (some (PyData.bool (!PyData.eqv a b))) = _
  rw [ha.ok hk, hb.ok hk]; rfl
theorem eq_refl' {k : Nat} {a b : PyData} (e : a = b) (ha : Sh k a) (hk : k ≤ 64 := by decide) : bop .eq a b = some (.bool true) := by
  subst e; exact eq_same (ha.ok hk)
theorem ne_refl' {k : Nat} {a b : PyData} (e : a = b) (ha : Sh k a) (hk : k ≤ 64 := by decide) : bop .ne a b = some (.bool false) := by
  subst e; exact ne_same (ha.ok hk)
theorem eq_iT (xs ys : List Int) : bop .eq (iT xs) (iT ys) = some (.bool (decide (xs = ys))) := by
  rw [eq_sh (sh_iT 0 xs) (sh_iT 0 ys), eqv_iT]
theorem ne_iT (xs ys : List Int) : bop .ne (iT xs) (iT ys) = some (.bool (!decide (xs = ys))) := by
  rw [ne_sh (sh_iT 0 xs) (sh_iT 0 ys), eqv_iT]
theorem eqv_iL (xs ys : List Int) : PyData.eqv (iL xs) (iL ys) = decide (xs = ys) := by
  rw [PyData.eqv, eqvAll_ints]
theorem eq_iL (xs ys : List Int) : bop .eq (iL xs) (iL ys) = some (.bool (decide (xs = ys))) := by
  rw [eq_sh (sh_iL 0 xs) (sh_iL 0 ys), eqv_iL]
theorem ne_iL (xs ys : List Int) : bop .ne (iL xs) (iL ys) = some (.bool (!decide (xs = ys))) := by
  rw [ne_sh (sh_iL 0 xs) (sh_iL 0 ys), eqv_iL]
theorem is_nn : bop .is_ .none .none = some (.bool true) := rfl
theorem is_in (i : Int) : bop .is_ (.int i) .none = some (.bool false) := rfl
theorem isn_nn : bop .isn .none .none = some (.bool false) := rfl
theorem isn_in (i : Int) : bop .isn (.int i) .none = some (.bool true) := rfl
theorem is_tn (i : List PyData) : bop .is_ (.tuple i) .none = some (.bool false) := rfl
theorem isn_tn (i : List PyData) : bop .isn (.tuple i) .none = some (.bool true) := rfl
theorem is_oI (o : Option Int) : bop .is_ (oI o) .none = some (.bool o.isNone) := by cases o <;> rfl
theorem isn_oI (o : Option Int) : bop .isn (oI o) .none = some (.bool o.isSome) := by cases o <;> rfl
theorem rng_n {n : Nat} (h : n ≤ 1000000) : rngD [.int (n : Nat)] = some (.list ((List.range n).map fun i : Nat => .int (i : Nat))) := by
  rw [rng1 (by omega) (by omega), rangeD_eq]
  unfold rI
  rw [List.map_map]
  congr 2
  have e : (n : Int).toNat = n := by omega
  rw [e]
  apply List.map_congr_left
  intro a _
  simp
theorem any_ints (xs : List Int) (k : Int) : (xs.map PyData.int).any (fun z => PyData.eqv z (.int k)) = xs.contains k := by
  rw [List.any_map]
  induction xs with
  | nil => rfl
  | cons x xs ih =>
    rw [List.any_cons, ih, List.contains_cons]
    simp only [Function.comp, eqv_ii]
    congr 1
    by_cases h : x = k
    · subst h; simp
    · have : ¬ k = x := fun z => h z.symm
      simp [h, this]
theorem in_iL (k : Int) (xs : List Int) : bop .in_ (.int k) (iL xs) = some (.bool (xs.contains k)) := by
  show (do some (PyData.bool (← gO (shp (.int k) && shp (iL xs)) (some ((xs.map PyData.int).any fun z => PyData.eqv z (.int k)))))) = _
  rw [shp_i, shp_iL, any_ints]; rfl
theorem nin_iL (k : Int) (xs : List Int) : bop .nin (.int k) (iL xs) = some (.bool (!xs.contains k)) := by
  show (do some (PyData.bool (!(← gO (shp (.int k) && shp (iL xs)) (some ((xs.map PyData.int).any fun z => PyData.eqv z (.int k))))))) = _
  rw [shp_i, shp_iL, any_ints]; rfl
theorem in_iT (k : Int) (xs : List Int) : bop .in_ (.int k) (iT xs) = some (.bool (xs.contains k)) := by
  show (do some (PyData.bool (← gO (shp (.int k) && shp (iT xs)) (some ((xs.map PyData.int).any fun z => PyData.eqv z (.int k)))))) = _
  rw [shp_i, shp_iT, any_ints]; rfl
theorem nin_iT (k : Int) (xs : List Int) : bop .nin (.int k) (iT xs) = some (.bool (!xs.contains k)) := by
  show (do some (PyData.bool (!(← gO (shp (.int k) && shp (iT xs)) (some ((xs.map PyData.int).any fun z => PyData.eqv z (.int k))))))) = _
  rw [shp_i, shp_iT, any_ints]; rfl
theorem okel_lm {α : Type} {f : α → PyData} {xs : List α} (h : ∀ x ∈ xs, okEl (f x) = true) : (xs.map f).all okEl = true := by
  rw [List.all_eq_true]
  intro d hd
  obtain ⟨x, hx, rfl⟩ := List.mem_map.mp hd
  exact h x hx
theorem items_id (ds : List PyData) : itemsOf (.list ds) = some (ds.map id) := by rw [List.map_id]; rfl
theorem items_idt (ds : List PyData) : itemsOf (.tuple ds) = some (ds.map id) := by rw [List.map_id]; rfl
theorem bool_all {α : Type} {p : α → Bool} {xs : List α} : p1 .all (.list (xs.map fun x => .bool (p x))) = some (.bool (xs.all p)) := by
  have h : ((xs.map fun x => PyData.bool (p x)).all tbl) = true := by
    rw [List.all_eq_true]
    intro d hd
    obtain ⟨b, _, rfl⟩ := List.mem_map.mp hd
    rfl
  show gO ((xs.map fun x => PyData.bool (p x)).all tbl) (some (PyData.bool ((xs.map fun x => PyData.bool (p x)).all PyData.truthy))) = _
  rw [h, List.all_map]; rfl
theorem bool_any {α : Type} {p : α → Bool} {xs : List α} : p1 .any (.list (xs.map fun x => .bool (p x))) = some (.bool (xs.any p)) := by
  have h : ((xs.map fun x => PyData.bool (p x)).all tbl) = true := by
    rw [List.all_eq_true]
    intro d hd
    obtain ⟨b, _, rfl⟩ := List.mem_map.mp hd
    rfl
  show gO ((xs.map fun x => PyData.bool (p x)).all tbl) (some (PyData.bool ((xs.map fun x => PyData.bool (p x)).any PyData.truthy))) = _
  rw [h, List.any_map]; rfl
end
end Wv

set_option autoImplicit false
set_option linter.all false
namespace Wv
open PySem
/-! told apart by their heads -/
def Fz (is : List Nat) (ρ ρ1 : Env) : Prop := frz is ρ = ρ1
def St (ρ : Env) (i : Nat) (s : Slot) (ρ1 : Env) : Prop := ρ.set i s = ρ1
def Cr (is : List Nat) (ρ ρ1 : Env) : Prop := clr is ρ = ρ1
def Sm (ρ ρ1 : Env) : Prop := ρ = ρ1
theorem St.s {ρ ρ1 : Env} {a s : Slot} {i : Nat} (h : St ρ i s ρ1) : St (a :: ρ) (i + 1) s (a :: ρ1) := by
  unfold St at *; rw [List.set_cons_succ, h]
theorem St.z {ρ : Env} {a s : Slot} : St (a :: ρ) 0 s (s :: ρ) := rfl
theorem frz1_v (o : Bool) (d : PyData) : frz1 (.v o d) = .v false d := rfl
theorem frz1_u : frz1 .un = .un := rfl
theorem frz1_s : frz1 .s = .s := rfl
theorem frz1_f (i : Nat) : frz1 (.f i) = .f i := rfl
theorem frz1_frz1 (s : Slot) : frz1 (frz1 s) = frz1 s := by cases s <;> rfl
theorem St.mk {ρ ρ1 : Env} {i : Nat} {s : Slot} (h : ρ.set i s = ρ1) : St ρ i s ρ1 := h
theorem Fz.mk {is : List Nat} {ρ ρ1 : Env} (h : frz is ρ = ρ1) : Fz is ρ ρ1 := h
theorem Cr.mk {is : List Nat} {ρ ρ1 : Env} (h : clr is ρ = ρ1) : Cr is ρ ρ1 := h
theorem Sm.mk {ρ ρ1 : Env} (h : ρ = ρ1) : Sm ρ ρ1 := h
theorem frz_no {is : List Nat} {ρ : Env} (h : (is.all fun i => match ρ[i]? with | some s => nOwn s | none => true) = true) : frz is ρ = ρ := by
  induction is with
  | nil => rfl
  | cons i is ih =>
    rw [List.all_cons, Bool.and_eq_true] at h
    have e : ρ.modify i frz1 = ρ := by
      apply List.ext_getElem?
      intro j
      rw [List.getElem?_modify]
      by_cases hij : i = j
      · subst hij
        have h1 := h.1
        cases e : ρ[i]? with
        | none => simp
        | some s =>
          rw [e] at h1
          cases s with
          | v o d => cases o with
            | true => cases h1
            | false => simp [frz1]
          | _ => simp [frz1]
      · simp [hij]
    show frz is (ρ.modify i frz1) = ρ
    rw [e]
    exact ih h.2
theorem Fz.no {is : List Nat} {ρ : Env} (h : (is.all fun i => match ρ[i]? with | some s => nOwn s | none => true) = true) : Fz is ρ ρ := frz_no h
section
variable {gt : Nat → Option PyData} {call : Nat → List Slot → M PyData} {ρ ρ1 ρ2 : Env} {ω ω1 ω2 ω3 : Orc}
theorem evEq {e : E} {d d' : PyData} (h : evalE gt call e ρ ω = .ok d' ω1) (he : d' = d) : evalE gt call e ρ ω = .ok d ω1 := by rw [h, he]
theorem evLit (d : PyData) : evalE gt call (.lit d) ρ ω = .ok d ω := e_lit d
theorem evVar {i : Nat} {d : PyData} (h : ρ[i]? = some (.v false d)) : evalE gt call (.var i) ρ ω = .ok d ω := by rw [e_var, h, getV_ok]
theorem evPk {i : Nat} {o : Bool} {d : PyData} (h : ρ[i]? = some (.v o d)) : evalE gt call (.pk i) ρ ω = .ok d ω := by rw [e_pk, h, getP_ok]
theorem evGlb {k : Nat} {d : PyData} (h : gt k = some d) : evalE gt call (.glb k) ρ ω = .ok d ω := by rw [e_glb, h, rO_some]
theorem evBin {o : Bop} {a b : E} {x y z : PyData} (ha : evalE gt call a ρ ω = .ok x ω1) (hb : evalE gt call b ρ ω1 = .ok y ω2) (h : bop o x y = some z) : evalE gt call (.bin o a b) ρ ω = .ok z ω2 := by
  rw [e_bin, ha, kO_ok, hb, k1_ok, h, rO_some]
theorem evIx {a b : E} {x y z : PyData} (ha : evalE gt call a ρ ω = .ok x ω1) (hb : evalE gt call b ρ ω1 = .ok y ω2) (h : ixD x y = some z) : evalE gt call (.ix a b) ρ ω = .ok z ω2 := by
  rw [e_ix, ha, kO_ok, hb, k1_ok, h, rO_some]
theorem evB1 {p : P1} {a : E} {x z : PyData} (ha : evalE gt call a ρ ω = .ok x ω1) (h : p1 p x = some z) : evalE gt call (.b1 p a) ρ ω = .ok z ω1 := by
  rw [e_b1, ha, k1_ok, h, rO_some]
theorem evB2 {p : P2} {a b : E} {x y z : PyData} (ha : evalE gt call a ρ ω = .ok x ω1) (hb : evalE gt call b ρ ω1 = .ok y ω2) (h : p2 p x y = some z) : evalE gt call (.b2 p a b) ρ ω = .ok z ω2 := by
  rw [e_b2, ha, kO_ok, hb, k1_ok, h, rO_some]
theorem evNeg {a : E} {x z : PyData} (ha : evalE gt call a ρ ω = .ok x ω1) (h : negD x = some z) : evalE gt call (.neg a) ρ ω = .ok z ω1 := by
  rw [e_neg, ha, k1_ok, h, rO_some]
theorem evNot {a : E} {x : PyData} {t : Bool} (ha : evalE gt call a ρ ω = .ok x ω1) (h : tru x = some t) : evalE gt call (.not_ a) ρ ω = .ok (.bool (!t)) ω1 := by
  rw [e_not, ha, k1_ok]
  show rO ((tru x).map fun b => PyData.bool (!b)) ω1 = _
  rw [h]; rfl
theorem evIsa {a : E} {t : Ty} {x z : PyData} (ha : evalE gt call a ρ ω = .ok x ω1) (h : isaO t x = some z) : evalE gt call (.isa a t) ρ ω = .ok z ω1 := by
  rw [e_isa, ha, k1_ok, h, rO_some]
theorem evRev {a : E} {x z : PyData} (ha : evalE gt call a ρ ω = .ok x ω1) (h : revD x = some z) : evalE gt call (.rev a) ρ ω = .ok z ω1 := by
  rw [e_rev, ha, k1_ok, h, rO_some]
theorem evEnm {a : E} {x z : PyData} (ha : evalE gt call a ρ ω = .ok x ω1) (h : enmD x = some z) : evalE gt call (.enm a) ρ ω = .ok z ω1 := by
  rw [e_enm, ha, k1_ok, h, rO_some]
theorem evSetof {a : E} {x z : PyData} (ha : evalE gt call a ρ ω = .ok x ω1) (h : setD x = some z) : evalE gt call (.setof a) ρ ω = .ok z ω1 := by
  rw [e_setof, ha, k1_ok, h, rO_some]
theorem evSset {a : E} {x z : PyData} (ha : evalE gt call a ρ ω = .ok x ω1) (h : ssetD x = some z) : evalE gt call (.sset a) ρ ω = .ok z ω1 := by
  rw [e_sset, ha, k1_ok, h, rO_some]
theorem evMcount {a b : E} {x y z : PyData} (ha : evalE gt call a ρ ω = .ok x ω1) (hs : isSeqD x = true) (hb : evalE gt call b ρ ω1 = .ok y ω2) (h : mcountD x y = some z) : evalE gt call (.mcount a b) ρ ω = .ok z ω2 := by
  rw [e_mcount, ha]
  show (if isSeqD x = true then _ else _) = _
  rw [if_pos hs, hb, k1_ok, h, rO_some]
theorem evMindex {a b : E} {x y z : PyData} (ha : evalE gt call a ρ ω = .ok x ω1) (hs : isSeqD x = true) (hb : evalE gt call b ρ ω1 = .ok y ω2) (h : mindexD x y = some z) : evalE gt call (.mindex a b) ρ ω = .ok z ω2 := by
  rw [e_mindex, ha]
  show (if isSeqD x = true then _ else _) = _
  rw [if_pos hs, hb, k1_ok, h, rO_some]
theorem evSl {a lo hi st : E} {x dl dh ds z : PyData} {l h s : Option Int} (ha : evalE gt call a ρ ω = .ok x ω1) (hl : evalE gt call lo ρ ω1 = .ok dl ω1) (pl : partI dl = some l) (hh : evalE gt call hi ρ ω1 = .ok dh ω1) (ph : partI dh = some h) (hs : evalE gt call st ρ ω1 = .ok ds ω1)
    (ps : partI ds = some s) (hz : slD x l h s = some z) : evalE gt call (.sl a lo hi st) ρ ω = .ok z ω1 := by
  rw [e_sl, ha, kSl_ok, kPt_p hl pl, kPt_p hh ph, kPt_p hs ps, hz, rO_some]
theorem evIte {c a b : E} {x z : PyData} {t : Bool} (hc : evalE gt call c ρ ω = .ok x ω1) (ht : tru x = some t) (h : (if t = true then evalE gt call a ρ ω1 else evalE gt call b ρ ω1) = .ok z ω2) : evalE gt call (.ite c a b) ρ ω = .ok z ω2 := by
  rw [e_ite, hc, kIf_ok, ht]
  cases t <;> simpa using h
theorem iteTt {c : Prop} [Decidable c] {a b r : R PyData} (hc : c) (h : a = r) : (if c then a else b) = r := by rw [if_pos hc, h]
theorem iteFf {c : Prop} [Decidable c] {a b r : R PyData} (hc : ¬ c) (h : b = r) : (if c then a else b) = r := by rw [if_neg hc, h]
theorem iteBo {c : Prop} [Decidable c] {a b : R PyData} {x y : PyData} (h : c → a = .ok x ω) (h2 : ¬ c → b = .ok y ω) : (if c then a else b) = .ok (if c then x else y) ω := by
  by_cases hc : c
  · rw [if_pos hc, if_pos hc, h hc]
  · rw [if_neg hc, if_neg hc, h2 hc]
/-! and, or: of truth values -/
theorem evBo1 {k : Bool} {e : E} {x : PyData} (h : evalE gt call e ρ ω = .ok x ω1) : evalB gt call k (.cons e .nil) ρ ω = .ok x ω1 := by rw [b_one, h]
theorem evBo {k : Bool} {es : Es} {z : PyData} (h : evalB gt call k es ρ ω = .ok z ω1) : evalE gt call (.bo k es) ρ ω = .ok z ω1 := by
  rw [evalE]; exact h
theorem evOr {e e2 : E} {es : Es} {t u : Bool} (ha : evalE gt call e ρ ω = .ok (.bool t) ω1) (hb : t = false → evalB gt call false (.cons e2 es) ρ ω1 = .ok (.bool u) ω1) : evalB gt call false (.cons e (.cons e2 es)) ρ ω = .ok (.bool (t || u)) ω1 := by
  rw [b_two, ha, kBo_ok, tru_b]
  cases t with
  | true => rfl
  | false => rw [kBt_ff, hb rfl]; rfl
theorem evAnd {e e2 : E} {es : Es} {t u : Bool} (ha : evalE gt call e ρ ω = .ok (.bool t) ω1) (hb : t = true → evalB gt call true (.cons e2 es) ρ ω1 = .ok (.bool u) ω1) : evalB gt call true (.cons e (.cons e2 es)) ρ ω = .ok (.bool (t && u)) ω1 := by
  rw [b_two, ha, kBo_ok, tru_b]
  cases t with
  | false => rfl
  | true => rw [kBt_tt, hb rfl]; rfl
theorem e_bt {k : Bool} {es : Es} {t : Bool} (h : evalBt gt call k es ρ ω = .ok t ω1) : evalE gt call (.bt k es) ρ ω = .ok (.bool t) ω1 := by
  rw [evalE, bnd_at, h]; rfl
theorem evBt1 {k : Bool} {e : E} {x : PyData} {t : Bool} (h : evalE gt call e ρ ω = .ok x ω1) (ht : tru x = some t) : evalBt gt call k (.cons e .nil) ρ ω = .ok t ω1 := by
  rw [evalBt, bnd_at, h]
  show (M.ofO (tru x) >>= fun t => (pure t : M Bool)) ω1 = _
  rw [ht]; rfl
theorem evBtOr {e e2 : E} {es : Es} {x : PyData} {t u : Bool} (ha : evalE gt call e ρ ω = .ok x ω1) (ht : tru x = some t) (hb : t = false → evalBt gt call false (.cons e2 es) ρ ω1 = .ok u ω1) : evalBt gt call false (.cons e (.cons e2 es)) ρ ω = .ok (t || u) ω1 := by
  rw [evalBt, bnd_at, ha]
  show (M.ofO (tru x) >>= fun t => if t = false then evalBt gt call false (.cons e2 es) ρ else pure t) ω1 = _
  rw [ht]
  show (if t = false then evalBt gt call false (.cons e2 es) ρ else pure t) ω1 = _
  cases t with
  | true => rfl
  | false => exact hb rfl
theorem evBtAnd {e e2 : E} {es : Es} {x : PyData} {t u : Bool} (ha : evalE gt call e ρ ω = .ok x ω1) (ht : tru x = some t) (hb : t = true → evalBt gt call true (.cons e2 es) ρ ω1 = .ok u ω1) : evalBt gt call true (.cons e (.cons e2 es)) ρ ω = .ok (t && u) ω1 := by
  rw [evalBt, bnd_at, ha]
  show (M.ofO (tru x) >>= fun t => if t = true then evalBt gt call true (.cons e2 es) ρ else pure t) ω1 = _
  rw [ht]
  show (if t = true then evalBt gt call true (.cons e2 es) ρ else pure t) ω1 = _
  cases t with
  | false => rfl
  | true => exact hb rfl
theorem evChain {o1 o2 : Bop} {a b c : E} {x y z : PyData} {t u : Bool} (ha : evalE gt call a ρ ω = .ok x ω1) (hb : evalE gt call b ρ ω1 = .ok y ω1) (h1 : bop o1 x y = some (.bool t)) (hc : t = true → evalE gt call c ρ ω1 = .ok z ω1) (h2 : t = true → bop o2 y z = some (.bool u)) : evalE gt call (.chain o1 o2 a b c) ρ ω = .ok (.bool (t && u)) ω1 := by
  rw [e_chain, ha, kC0_ok, hb, kC1_ok, h1]
  cases t with
  | false => rfl
  | true => rw [kC2_t, hc rfl, k1_ok, h2 rfl]; rfl
/-! several -/
theorem evEn : evalEs gt call .nil ρ ω = .ok [] ω := es_nil
theorem evEc {e : E} {es : Es} {x : PyData} {xs : List PyData} (h : evalE gt call e ρ ω = .ok x ω1) (h2 : evalEs gt call es ρ ω1 = .ok xs ω2) : evalEs gt call (.cons e es) ρ ω = .ok (x :: xs) ω2 := by
  rw [es_cons, h, kEs_ok, h2, kEc_ok]
theorem okNil : ([] : List PyData).all okEl = true := rfl
theorem okCons {x : PyData} {xs : List PyData} (h : okEl x = true) (h2 : xs.all okEl = true) : (x :: xs).all okEl = true := by rw [List.all_cons, h, h2]; rfl
theorem evTup {es : Es} {xs : List PyData} (h : evalEs gt call es ρ ω = .ok xs ω1) (ho : xs.all okEl = true) : evalE gt call (.tup es) ρ ω = .ok (.tuple xs) ω1 := by
  rw [e_tup, h, kTu_ok, ho]; rfl
theorem evLst {es : Es} {xs : List PyData} (h : evalEs gt call es ρ ω = .ok xs ω1) (ho : xs.all okEl = true) : evalE gt call (.lst es) ρ ω = .ok (.list xs) ω1 := by
  rw [e_lst, h, kTu_ok, ho]; rfl
theorem evRng {es : Es} {xs : List PyData} {z : PyData} (h : evalEs gt call es ρ ω = .ok xs ω1) (hz : rngD xs = some z) : evalE gt call (.rng es) ρ ω = .ok z ω1 := by
  rw [e_rng, h, kRg_ok, hz, rO_some]
/-! calls -/
theorem evAn : evalAs gt call .nil ρ ω = .ok [] ω := as_nil
theorem evAv {i : Nat} {es : Es} {d : PyData} {xs : List Slot} (h : ρ[i]? = some (.v false d)) (h2 : evalAs gt call es ρ ω = .ok xs ω1) : evalAs gt call (.cons (.var i) es) ρ ω = .ok (.v false d :: xs) ω1 := by
  rw [as_var, h]; show kAc _ _ = _; rw [h2, kAc_ok]
theorem evAf {i k : Nat} {es : Es} {xs : List Slot} (h : ρ[i]? = some (.f k)) (h2 : evalAs gt call es ρ ω = .ok xs ω1) : evalAs gt call (.cons (.var i) es) ρ ω = .ok (.f k :: xs) ω1 := by
  rw [as_var, h]; show kAc _ _ = _; rw [h2, kAc_ok]
theorem evAs' {i : Nat} {es : Es} {xs : List Slot} (h : ρ[i]? = some .s) (h2 : evalAs gt call es ρ ω = .ok xs ω1) : evalAs gt call (.cons (.var i) es) ρ ω = .ok (.s :: xs) ω1 := by
  rw [as_var, h]; show kAc _ _ = _; rw [h2, kAc_ok]
theorem evAg {f : Nat} {es : Es} {xs : List Slot} (h2 : evalAs gt call es ρ ω = .ok xs ω1) : evalAs gt call (.cons (.gfn f) es) ρ ω = .ok (.f f :: xs) ω1 := by
  rw [as_gfn, h2, kAc_ok]
theorem evAe {e : E} {es : Es} {d : PyData} {xs : List Slot} (ha : argS e ρ (evalE gt call e ρ) = (do pure (.v false (← evalE gt call e ρ)))) (h : evalE gt call e ρ ω = .ok d ω1) (h2 : evalAs gt call es ρ ω1 = .ok xs ω2) : evalAs gt call (.cons e es) ρ ω = .ok (.v false d :: xs) ω2 := by
  rw [as_gen ha, h, kAs_ok, h2, kAc_ok]
theorem evCall {f : Nat} {es : Es} {xs : List Slot} {d : PyData} (h : evalAs gt call es ρ ω = .ok xs ω1) (hc : call f xs ω1 = .ok d ω2) : evalE gt call (.call f false es) ρ ω = .ok d ω2 := by
  rw [e_call, h, kCa_ok, hc]
theorem evCallS {f : Nat} {es : Es} {xs : List Slot} {d : PyData} (h : evalAs gt call es ρ ω = .ok xs ω1) (hc : call f xs ω1 = .ok d ω2) (hs : scal d = true) : evalE gt call (.call f true es) ρ ω = .ok d ω2 := by
  rw [evalE, bnd_at, h]
  show (call f xs >>= fun d => M.guard (!true || scal d) (pure d)) ω1 = _
  rw [bnd_at, hc]
  show M.guard (!true || scal d) (pure d) ω2 = _
  rw [hs]; rfl
theorem evCallV {i k : Nat} {fs : List Nat} {es : Es} {xs : List Slot} {d : PyData} (hi : ρ[i]? = some (.f k)) (hf : fs.contains k = true) (h : evalAs gt call es ρ ω = .ok xs ω1) (hc : call k xs ω1 = .ok d ω2) : evalE gt call (.callv i fs es) ρ ω = .ok d ω2 := by
  rw [e_callv hi hf, h, kCa_ok, hc]
theorem evDraw {i : Nat} {e : E} {n : Int} (hi : ρ[i]? = some .s) (h : evalE gt call e ρ ω = .ok (.int n) ω1) (h0 : 0 < n) (h1 : n < 2 ^ 64) : evalE gt call (.draw i e) ρ ω = .ok (.int (drawFn ω1 n).1) (drawFn ω1 n).2 := by
  rw [e_draw hi, h, kDr_ok h0 h1]
/-! comprehensions -/
theorem evComp {α : Type} {enc : α → PyData} {i : Nat} {it e : E} {xs : List α} {f : α → PyData} {d : PyData} (h : evalE gt call it ρ ω = .ok d ω1) (hd : itemsOf d = some (xs.map enc)) (hc : Cr ([i]) ρ ρ1) (hb : ∀ x ∈ xs, evalE gt call e (ρ1.set i (.v false (enc x))) ω1 = .ok (f x) ω1) (ho : ∀ x ∈ xs, okEl (f x) = true) (hl : xs.length ≤ 1000000) :
    evalE gt call (.comp (.nm i) it .nil e) ρ ω = .ok (.list (xs.map f)) ω1 := by
  replace hc : clr _ _ = _ := hc
  subst hc
  exact compG0 h hd hl fun x hx => ⟨hb x hx, ho x hx⟩
theorem compM_map {α : Type} {enc : α → PyData} {fn : PyData → M (Option PyData)} {g : α → Option PyData} : ∀ (xs : List α), (∀ x ∈ xs, fn (enc x) ω = .ok (g x) ω) → compM fn (xs.map enc) ω = .ok (xs.filterMap g) ω
  | [], _ => rfl
  | x :: xs, h => by
    rw [List.map_cons, compM, bnd_at, h x List.mem_cons_self]
    have ih := compM_map (fn := fn) (g := g) xs fun y hy => h y (List.mem_cons_of_mem _ hy)
    cases hg : g x with
    | none => rw [List.filterMap_cons, hg]; exact ih
    | some y =>
      rw [List.filterMap_cons, hg]
      show (compM fn (xs.map enc) >>= fun l => pure (y :: l)) ω = _
      rw [bnd_at, ih]; rfl
theorem comp_gen {α : Type} {enc : α → PyData} {t : Tg} {it e : E} {ts : Es} {xs : List α} {g : α → Option PyData} {d : PyData} (h : evalE gt call it ρ ω = .ok d ω1) (hd : itemsOf d = some (xs.map enc)) (hl : xs.length ≤ 1000000) (hb : ∀ x ∈ xs, cBody gt call t ts e (clr (tgS t) ρ) (enc x) ω1 = .ok (g x) ω1) :
    evalE gt call (.comp t it ts e) ρ ω = .ok (.list (xs.filterMap g)) ω1 := by
  rw [evalE]
  refine noexc_ok ?_
  show (evalE gt call it ρ >>= fun x0 => M.ofO (itemsOf x0) >>= fun xs => M.guard (decide (xs.length ≤ 1000000)) (compM (cBody gt call t ts e (clr (tgS t) ρ)) xs >>= fun ys => pure (PyData.list ys))) ω = _
  rw [bnd_at, h]
  show (M.ofO (itemsOf d) >>= fun xs => M.guard (decide (xs.length ≤ 1000000)) (compM (cBody gt call t ts e (clr (tgS t) ρ)) xs >>= fun ys => pure (PyData.list ys))) ω1 = _
  rw [hd]
  show M.guard (decide ((xs.map enc).length ≤ 1000000)) (compM (cBody gt call t ts e (clr (tgS t) ρ)) (xs.map enc) >>= fun ys => pure (PyData.list ys)) ω1 = _
  rw [decide_eq_true (by rw [List.length_map]; exact hl)]
  show (compM (cBody gt call t ts e (clr (tgS t) ρ)) (xs.map enc) >>= fun ys => pure (PyData.list ys)) ω1 = _
  rw [bnd_at, compM_map xs hb]; rfl
theorem fmap_if {α : Type} {p : α → Bool} {f : α → PyData} (xs : List α) : xs.filterMap (fun x => if p x = true then some (f x) else none) = (xs.filter p).map f := by
  induction xs with
  | nil => rfl
  | cons x xs ih =>
    rw [List.filterMap_cons, List.filter_cons, ih]
    cases p x <;> rfl
theorem cBody_at {t : Tg} {ts : Es} {e : E} {x y : PyData} {b : Bool} (ha : asgT t false x ρ ω = .ok ρ1 ω) (ht : evalT gt call ts ρ1 ω = .ok b ω) (he : b = true → evalE gt call e ρ1 ω = .ok y ω ∧ okEl y = true) : cBody gt call t ts e ρ x ω = .ok (if b = true then some y else none) ω := by
  unfold cBody
  rw [bnd_at, ha]
  show (evalT gt call ts ρ1 >>= fun b => if b = true then evalE gt call e ρ1 >>= fun y => M.guard (okEl y) (pure (some y)) else pure none) ω = _
  rw [bnd_at, ht]
  cases b with
  | false => rfl
  | true =>
    obtain ⟨h1, h2⟩ := he rfl
    show (evalE gt call e ρ1 >>= fun y => M.guard (okEl y) (pure (some y))) ω = _
    rw [bnd_at, h1]
    show M.guard (okEl y) (pure (some y)) ω = _
    rw [h2]; rfl
/-- tests, any target -/
theorem evCompIf {α : Type} {enc : α → PyData} {t : Tg} {it e : E} {ts : Es} {xs : List α} {p : α → Bool} {f : α → PyData} {d : PyData} {en : α → Env} (h : evalE gt call it ρ ω = .ok d ω1) (hd : itemsOf d = some (xs.map enc)) (hc : Cr (tgS t) ρ ρ1) (ha : ∀ x ∈ xs, asgT t false (enc x) ρ1 ω1 = .ok (en x) ω1)
    (hp : ∀ x ∈ xs, evalT gt call ts (en x) ω1 = .ok (p x) ω1) (hb : ∀ x ∈ xs, p x = true → evalE gt call e (en x) ω1 = .ok (f x) ω1) (ho : ∀ x ∈ xs, p x = true → okEl (f x) = true) (hl : xs.length ≤ 1000000) :
    evalE gt call (.comp t it ts e) ρ ω = .ok (.list ((xs.filter p).map f)) ω1 := by
  replace hc : clr _ _ = _ := hc
  subst hc
  rw [← fmap_if]
  exact comp_gen h hd hl fun x hx => cBody_at (ha x hx) (hp x hx) fun z => ⟨hb x hx z, ho x hx z⟩
theorem evCompT {α : Type} {enc : α → PyData} {t : Tg} {it e : E} {xs : List α} {f : α → PyData} {d : PyData} {en : α → Env} (h : evalE gt call it ρ ω = .ok d ω1) (hd : itemsOf d = some (xs.map enc)) (hc : Cr (tgS t) ρ ρ1) (ha : ∀ x ∈ xs, asgT t false (enc x) ρ1 ω1 = .ok (en x) ω1)
    (hb : ∀ x ∈ xs, evalE gt call e (en x) ω1 = .ok (f x) ω1) (ho : ∀ x ∈ xs, okEl (f x) = true) (hl : xs.length ≤ 1000000) :
    evalE gt call (.comp t it .nil e) ρ ω = .ok (.list (xs.map f)) ω1 := by
  replace hc : clr _ _ = _ := hc
  have := evCompIf (gt := gt) (call := call) (ts := .nil) (p := fun _ => true) (e := e) (f := f) h hd hc ha (fun x _ => t_nil) (fun x hx _ => hb x hx) (fun x hx _ => ho x hx) hl
  rw [List.filter_eq_self.mpr (fun _ _ => rfl)] at this
  exact this
theorem evTn : evalT gt call .nil ρ ω = .ok true ω := t_nil
theorem evT1 {e : E} {x : PyData} {t : Bool} (h : evalE gt call e ρ ω = .ok x ω) (ht : tru x = some t) : evalT gt call (.cons e .nil) ρ ω = .ok t ω := by
  rw [t_cons, h, kT1_ok, ht]
  cases t
  · rfl
  · rw [kTt_t, t_nil]
theorem evTc {e e2 : E} {es : Es} {x : PyData} {t u : Bool} (h : evalE gt call e ρ ω = .ok x ω) (ht : tru x = some t) (h2 : t = true → evalT gt call (.cons e2 es) ρ ω = .ok u ω) : evalT gt call (.cons e (.cons e2 es)) ρ ω = .ok (t && u) ω := by
  rw [t_cons, h, kT1_ok, ht]
  cases t
  · rfl
  · rw [kTt_t, h2 rfl]; rfl
/-- two clauses -/
def c2B (gt : Nat → Option PyData) (call : Nat → List Slot → M PyData) (t t2 : Tg) (ts : Es) (it2 : E) (ts2 : Es) (e : E) (ρ : Env) (x : PyData) : M (List PyData) := do
  let ρ' ← asgT t false x ρ
  let b ← evalT gt call ts ρ'
  if b = true then do
    let z0 ← evalE gt call it2 ρ'
    let zs ← M.ofO (itemsOf z0)
    M.guard (decide (zs.length ≤ 1000)) (compM (cBody gt call t2 ts2 e (clr (tgS t2) ρ')) zs)
  else pure []
theorem comp2M_map {α : Type} {enc : α → PyData} {fn : PyData → M (List PyData)} {g : α → List PyData} : ∀ (xs : List α), (∀ x ∈ xs, fn (enc x) ω = .ok (g x) ω) → comp2M fn (xs.map enc) ω = .ok (xs.flatMap g) ω
  | [], _ => rfl
  | x :: xs, h => by
    rw [List.map_cons, comp2M, bnd_at, h x List.mem_cons_self]
    have ih := comp2M_map (fn := fn) (g := g) xs fun y hy => h y (List.mem_cons_of_mem _ hy)
    show (comp2M fn (xs.map enc) >>= fun l => pure (g x ++ l)) ω = _
    rw [bnd_at, ih, List.flatMap_cons]; rfl
theorem evComp2 {α β : Type} {enc : α → PyData} {enc2 : α → β → PyData} {t t2 : Tg} {it it2 e : E} {ts ts2 : Es} {xs : List α} {ys : α → List β} {d : PyData} {d2 : α → PyData} {en : α → Env} {en2 : α → β → Env} {p : α → Bool} {p2 : α → β → Bool} {f : α → β → PyData}
    (h : evalE gt call it ρ ω = .ok d ω1) (hd : itemsOf d = some (xs.map enc)) (hc : Cr (tgS t ++ tgS t2) ρ ρ1) (ha : ∀ x ∈ xs, asgT t false (enc x) ρ1 ω1 = .ok (en x) ω1)
    (hp : ∀ x ∈ xs, evalT gt call ts (en x) ω1 = .ok (p x) ω1)
    (h2 : ∀ x ∈ xs, p x = true → evalE gt call it2 (en x) ω1 = .ok (d2 x) ω1) (hd2 : ∀ x ∈ xs, p x = true → itemsOf (d2 x) = some ((ys x).map (enc2 x)))
    (ha2 : ∀ x ∈ xs, p x = true → ∀ y ∈ ys x, asgT t2 false (enc2 x y) (clr (tgS t2) (en x)) ω1 = .ok (en2 x y) ω1)
    (hp2 : ∀ x ∈ xs, p x = true → ∀ y ∈ ys x, evalT gt call ts2 (en2 x y) ω1 = .ok (p2 x y) ω1)
    (hb : ∀ x ∈ xs, p x = true → ∀ y ∈ ys x, p2 x y = true → evalE gt call e (en2 x y) ω1 = .ok (f x y) ω1) (ho : ∀ x ∈ xs, p x = true → ∀ y ∈ ys x, p2 x y = true → okEl (f x y) = true)
    (hl : xs.length ≤ 1000) (hl2 : ∀ x ∈ xs, p x = true → (ys x).length ≤ 1000) :
    evalE gt call (.comp2 t it ts t2 it2 ts2 e) ρ ω = .ok (.list ((xs.filter p).flatMap fun x => ((ys x).filter (p2 x)).map (f x))) ω1 := by
  replace hc : clr _ _ = _ := hc
  subst hc
  rw [evalE]
  refine noexc_ok ?_
  rw [bnd_at, h]
  dsimp only
  rw [hd]
  show M.guard (decide ((xs.map enc).length ≤ 1000)) _ ω1 = _
  rw [decide_eq_true (by rw [List.length_map]; exact hl)]
  show (comp2M (c2B gt call t t2 ts it2 ts2 e (clr (tgS t ++ tgS t2) ρ)) (xs.map enc) >>= fun ys => pure (PyData.list ys)) ω1 = _
  rw [bnd_at]
  have go : ∀ x ∈ xs, c2B gt call t t2 ts it2 ts2 e (clr (tgS t ++ tgS t2) ρ) (enc x) ω1 = .ok (if p x = true then ((ys x).filter (p2 x)).map (f x) else []) ω1 := by
    intro x hx
    unfold c2B
    rw [bnd_at, ha x hx]
    dsimp only
    rw [bnd_at, hp x hx]
    dsimp only
    by_cases hpx : p x = true
    · rw [if_pos hpx, if_pos hpx, bnd_at, h2 x hx hpx]
      dsimp only
      rw [hd2 x hx hpx]
      show M.guard (decide (((ys x).map (enc2 x)).length ≤ 1000)) (compM (cBody gt call t2 ts2 e (clr (tgS t2) (en x))) ((ys x).map (enc2 x))) ω1 = _
      rw [decide_eq_true (by rw [List.length_map]; exact hl2 x hx hpx), M.guard_true, ← fmap_if]
      exact compM_map (ys x) fun y hy => cBody_at (ha2 x hx hpx y hy) (hp2 x hx hpx y hy) fun z => ⟨hb x hx hpx y hy z, ho x hx hpx y hy z⟩
    · rw [if_neg hpx, if_neg hpx]; rfl
  have go2 := comp2M_map xs go
  rw [go2]
  have e1 : (xs.flatMap fun x => if p x = true then ((ys x).filter (p2 x)).map (f x) else []) = (xs.filter p).flatMap fun x => ((ys x).filter (p2 x)).map (f x) := by
    clear go2 go hl2 ho hb hp2 ha2 hd2 h2 hp ha hl hd
    induction xs with
    | nil => rfl
    | cons x xs ih =>
      rw [List.flatMap_cons, List.filter_cons, ih]
      cases hx : p x
      · simp
      · rw [if_pos rfl, if_pos rfl, List.flatMap_cons]
  rw [e1]; rfl
/-! all, any -/
theorem genM_all {α : Type} {enc : α → PyData} {fn : PyData → M Bool} {p : α → Bool} : ∀ (xs : List α), (∀ x ∈ xs, fn (enc x) ω = .ok (p x) ω) → genM true fn (xs.map enc) ω = .ok (xs.all p) ω
  | [], _ => rfl
  | x :: xs, h => by
    rw [List.map_cons, genM, bnd_at, h x List.mem_cons_self, List.all_cons]
    have ih := genM_all (fn := fn) (p := p) xs fun y hy => h y (List.mem_cons_of_mem _ hy)
    cases p x with
    | false => rfl
    | true => exact ih
theorem genM_any {α : Type} {enc : α → PyData} {fn : PyData → M Bool} {p : α → Bool} : ∀ (xs : List α), (∀ x ∈ xs, fn (enc x) ω = .ok (p x) ω) → genM false fn (xs.map enc) ω = .ok (xs.any p) ω
  | [], _ => rfl
  | x :: xs, h => by
    rw [List.map_cons, genM, bnd_at, h x List.mem_cons_self, List.any_cons]
    have ih := genM_any (fn := fn) (p := p) xs fun y hy => h y (List.mem_cons_of_mem _ hy)
    cases p x with
    | true => rfl
    | false => exact ih
theorem evGen {α : Type} {k : Bool} {enc : α → PyData} {t : Tg} {it e : E} {xs : List α} {p : α → Bool} {d : PyData} {en : α → Env} (h : evalE gt call it ρ ω = .ok d ω1) (hd : itemsOf d = some (xs.map enc)) (hc : Cr (tgS t) ρ ρ1) (ha : ∀ x ∈ xs, asgT t false (enc x) ρ1 ω1 = .ok (en x) ω1)
    (hb : ∀ x ∈ xs, evalE gt call e (en x) ω1 = .ok (.bool (p x)) ω1) : evalE gt call (.gen k t it e) ρ ω = .ok (.bool (if k = true then xs.all p else xs.any p)) ω1 := by
  replace hc : clr _ _ = _ := hc
  subst hc
  rw [evalE]
  refine noexc_ok ?_
  rw [bnd_at, h]
  dsimp only
  rw [hd]
  show (genM k (fun x => asgT t false x (clr (tgS t) ρ) >>= fun ρ' => evalE gt call e ρ' >>= fun y => M.ofO (boolD y)) (xs.map enc) >>= fun b => pure (PyData.bool b)) ω1 = _
  have go : ∀ x ∈ xs, (fun x => asgT t false x (clr (tgS t) ρ) >>= fun ρ' => evalE gt call e ρ' >>= fun y => M.ofO (boolD y)) (enc x) ω1 = .ok (p x) ω1 := by
    intro x hx
    dsimp only
    rw [bnd_at, ha x hx]
    dsimp only
    rw [bnd_at, hb x hx]; rfl
  rw [bnd_at]
  cases k with
  | true => rw [genM_all xs go]; rfl
  | false => rw [genM_any xs go]; rfl
theorem evAll {α : Type} {enc : α → PyData} {t : Tg} {it e : E} {xs : List α} {p : α → Bool} {d : PyData} {en : α → Env} (h : evalE gt call it ρ ω = .ok d ω1) (hd : itemsOf d = some (xs.map enc)) (hc : Cr (tgS t) ρ ρ1) (ha : ∀ x ∈ xs, asgT t false (enc x) ρ1 ω1 = .ok (en x) ω1)
    (hb : ∀ x ∈ xs, evalE gt call e (en x) ω1 = .ok (.bool (p x)) ω1) : evalE gt call (.gen true t it e) ρ ω = .ok (.bool (xs.all p)) ω1 := evGen (k := true) h hd hc ha hb
theorem evAny {α : Type} {enc : α → PyData} {t : Tg} {it e : E} {xs : List α} {p : α → Bool} {d : PyData} {en : α → Env} (h : evalE gt call it ρ ω = .ok d ω1) (hd : itemsOf d = some (xs.map enc)) (hc : Cr (tgS t) ρ ρ1) (ha : ∀ x ∈ xs, asgT t false (enc x) ρ1 ω1 = .ok (en x) ω1)
    (hb : ∀ x ∈ xs, evalE gt call e (en x) ω1 = .ok (.bool (p x)) ω1) : evalE gt call (.gen false t it e) ρ ω = .ok (.bool (xs.any p)) ω1 := evGen (k := false) h hd hc ha hb
/-! statements -/
theorem sSeq {a b : S} {r : R Out} (ha : evalS gt call a ρ ω = .ok (.nx ρ1) ω1) (hb : evalS gt call b ρ1 ω1 = r) : evalS gt call (.seq a b) ρ ω = r := by
  rw [s_seq, ha, kS_nx, hb]
theorem exS {a b : S} {o : Out} (ha : evalS gt call a ρ ω = .ok (.nx ρ1) ω1) (hb : ∃ w, evalS gt call b ρ1 ω1 = .ok o w) : ∃ w, evalS gt call (.seq a b) ρ ω = .ok o w := by
  rw [s_seq, ha, kS_nx]; exact hb
theorem sAsgZ {i : Nat} {e : E} {d : PyData} {o : Bool} (hf : Fz (esc e) ρ ρ1) (he : evalE gt call e ρ1 ω = .ok d ω1) (ho : ownV (freshE e) d = o) (hs : St ρ1 i (.v o d) ρ2) : evalS gt call (.asg (.nm i) e) ρ ω = .ok (.nx ρ2) ω1 := by
  replace hf : frz _ _ = _ := hf; replace hs : List.set _ _ _ = _ := hs
  subst ho hs; exact asgR he hf
theorem sAsgT {t : Tg} {e : E} {d : PyData} (hf : Fz (esc e) ρ ρ1) (he : evalE gt call e ρ1 ω = .ok d ω1) (hs : asgT t (ownV (freshE e) d) d ρ1 ω1 = .ok ρ2 ω1) : evalS gt call (.asg t e) ρ ω = .ok (.nx ρ2) ω1 := asgT2 he hs hf
theorem sPar {t : Tg} {es : Es} {ds : List PyData} (hf : Fz (escs es) ρ ρ1) (he : evalEs gt call es ρ1 ω = .ok ds ω1) (hs : parT t es ds ρ1 ω1 = .ok ρ2 ω1) : evalS gt call (.par t es) ρ ω = .ok (.nx ρ2) ω1 := parR he hs hf
theorem sAugZ {i : Nat} {o : Bop} {e : E} {x : Int} {y z : PyData} (hf : Fz (esc e) ρ ρ1) (hi : ρ1[i]? = some (.v false (.int x))) (he : evalE gt call e ρ1 ω = .ok y ω1) (h : bop o (.int x) y = some z) (hs : St ρ1 i (.v false z) ρ2) : evalS gt call (.aug i o e) ρ ω = .ok (.nx ρ2) ω1 := by
  replace hf : frz _ _ = _ := hf; replace hs : List.set _ _ _ = _ := hs
  subst hf hs; rw [s_aug hi, he, kAu_ok h]
theorem sApp {i : Nat} {e : E} {ds : List PyData} {y : PyData} (hf : Fz (esc e) ρ ρ1) (hi : ρ1[i]? = some (.v true (.list ds))) (he : evalE gt call e ρ1 ω = .ok y ω1) (ho : okEl y = true) (hl : ds.length < 1000000) (hs : St ρ1 i (.v true (.list (ds ++ [y]))) ρ2) : evalS gt call (.app i e) ρ ω = .ok (.nx ρ2) ω1 := by
  replace hf : frz _ _ = _ := hf; replace hs : List.set _ _ _ = _ := hs
  subst hs; exact appR hi he ho hl hf
theorem sExt {i : Nat} {e : E} {ds ys : List PyData} (hf : Fz (esc e) ρ ρ1) (hi : ρ1[i]? = some (.v true (.list ds))) (he : evalE gt call e ρ1 ω = .ok (.list ys) ω1) (hl : ds.length + ys.length < 1000000) (hs : St ρ1 i (.v true (.list (ds ++ ys))) ρ2) : evalS gt call (.ext i e) ρ ω = .ok (.nx ρ2) ω1 := by
  replace hf : frz _ _ = _ := hf; replace hs : List.set _ _ _ = _ := hs
  subst hf hs; rw [s_ext hi, he, kAp_ok, kSt_ok (ext_ok hl)]
theorem sExprZ {e : E} {d : PyData} (hf : Fz (esc e) ρ ρ1) (he : evalE gt call e ρ1 ω = .ok d ω1) : evalS gt call (.expr e) ρ ω = .ok (.nx ρ1) ω1 := by
  replace hf : frz _ _ = _ := hf
  rw [s_expr, hf, he, kEx_ok]
theorem sRetZ {e : E} {d v : PyData} {b : S} {ω' : Orc} (hf : Fz (esc e) ρ ρ1) (he : evalE gt call e ρ1 ω = .ok d ω1) (hd : d = v) (hw : ω1 = ω') : evalS gt call (.seq (.ret e) b) ρ ω = .ok (.rt v) ω' := by
  replace hf : frz _ _ = _ := hf
  subst hd hw; rw [s_seq, retR he hf, kS_rt]
theorem sRet0 {e : E} {d v : PyData} {ω' : Orc} (hf : Fz (esc e) ρ ρ1) (he : evalE gt call e ρ1 ω = .ok d ω1) (hd : d = v) (hw : ω1 = ω') : evalS gt call (.ret e) ρ ω = .ok (.rt v) ω' := by
  replace hf : frz _ _ = _ := hf
  subst hd hw; rw [retR he hf]
theorem sSkip : evalS gt call .skip ρ ω = .ok (.nx ρ) ω := s_skip
/-- a test with what follows -/
theorem sIfZ {e : E} {a b c : S} {x : PyData} {t : Bool} {r : R Out} (hf : Fz (esc e) ρ ρ1) (he : evalE gt call e ρ1 ω = .ok x ω1) (ht : tru x = some t) (hT : t = true → kS gt call c (evalS gt call a ρ1 ω1) = r) (hF : t = false → kS gt call c (evalS gt call b ρ1 ω1) = r) : evalS gt call (.seq (.ite e a b) c) ρ ω = r := by
  replace hf : frz _ _ = _ := hf
  rw [s_seq]
  cases t with
  | true => rw [iteT he ht hf]; exact hT rfl
  | false => rw [iteF he ht hf]; exact hF rfl
theorem sIfT {e : E} {a b : S} {x : PyData} {r : R Out} (hf : Fz (esc e) ρ ρ1) (he : evalE gt call e ρ1 ω = .ok x ω1) (ht : tru x = some true) (h : evalS gt call a ρ1 ω1 = r) : evalS gt call (.ite e a b) ρ ω = r := by replace hf : frz _ _ = _ := hf; rw [iteT he ht hf, h]
theorem sIfF {e : E} {a b : S} {x : PyData} {r : R Out} (hf : Fz (esc e) ρ ρ1) (he : evalE gt call e ρ1 ω = .ok x ω1) (ht : tru x = some false) (h : evalS gt call b ρ1 ω1 = r) : evalS gt call (.ite e a b) ρ ω = r := by replace hf : frz _ _ = _ := hf; rw [iteF he ht hf, h]
/-- a test, both ways going on -/
theorem sIf2 {e : E} {a b : S} {x : PyData} {t : Bool} {ρa ρb : Env} (hf : Fz (esc e) ρ ρ1) (he : evalE gt call e ρ1 ω = .ok x ω1) (ht : tru x = some t) (hT : t = true → evalS gt call a ρ1 ω1 = .ok (.nx ρa) ω2) (hF : t = false → evalS gt call b ρ1 ω1 = .ok (.nx ρb) ω2) : evalS gt call (.ite e a b) ρ ω = .ok (.nx (if t = true then ρa else ρb)) ω2 := by
  replace hf : frz _ _ = _ := hf
  cases t with
  | true => rw [iteT he ht hf]; exact hT rfl
  | false => rw [iteF he ht hf]; exact hF rfl
theorem kS_of {c : S} {r r' : R Out} {m : R Out} (h : m = r') (h2 : kS gt call c r' = r) : kS gt call c m = r := by rw [h, h2]
theorem kS_seq {a b c : S} : kS gt call c (evalS gt call (.seq a b) ρ ω) = evalS gt call (.seq a (.seq b c)) ρ ω := by
  rw [s_seq, s_seq]
  cases evalS gt call a ρ ω with
  | ok o w => cases o with
    | nx ρ' => rw [kS_nx, kS_nx, s_seq]
    | _ => rfl
  | _ => rfl
theorem kS_seq' {a b c : S} {r : R Out} (h : evalS gt call (.seq a (.seq b c)) ρ ω = r) : kS gt call c (evalS gt call (.seq a b) ρ ω) = r := by rw [kS_seq, h]
theorem kS_skip' {c : S} {r : R Out} (h : evalS gt call c ρ ω = r) : kS gt call c (evalS gt call .skip ρ ω) = r := by rw [s_skip, kS_nx, h]
theorem kS_ret' {e : E} {c : S} {r : R Out} (h : evalS gt call (.seq (.ret e) c) ρ ω = r) : kS gt call c (evalS gt call (.ret e) ρ ω) = r := by rw [← s_seq, h]
theorem sSkipS {b : S} {r : R Out} (h : evalS gt call b ρ ω = r) : evalS gt call (.seq .skip b) ρ ω = r := by rw [s_seq, s_skip, kS_nx, h]
theorem sRaiseZ {c : Nat} {b : S} : evalS gt call (.seq (.raise c) b) ρ ω = .exc c .none ω := by rw [s_seq, s_raise, kS_exc]
theorem sqAsg {i : Nat} {e : E} {b : S} {r : R Out} (ha : evalS gt call (.asg (.nm i) e) ρ ω = .ok (.nx ρ1) ω1) (hb : evalS gt call b ρ1 ω1 = r) : evalS gt call (.seq (.asg (.nm i) e) b) ρ ω = r := sSeq ha hb
theorem sqAsgT {t : Tg} {e : E} {b : S} {r : R Out} (ha : evalS gt call (.asg t e) ρ ω = .ok (.nx ρ1) ω1) (hb : evalS gt call b ρ1 ω1 = r) : evalS gt call (.seq (.asg t e) b) ρ ω = r := sSeq ha hb
theorem sqPar {t : Tg} {e : Es} {b : S} {r : R Out} (ha : evalS gt call (.par t e) ρ ω = .ok (.nx ρ1) ω1) (hb : evalS gt call b ρ1 ω1 = r) : evalS gt call (.seq (.par t e) b) ρ ω = r := sSeq ha hb
theorem sqAug {i : Nat} {o : Bop} {e : E} {b : S} {r : R Out} (ha : evalS gt call (.aug i o e) ρ ω = .ok (.nx ρ1) ω1) (hb : evalS gt call b ρ1 ω1 = r) : evalS gt call (.seq (.aug i o e) b) ρ ω = r := sSeq ha hb
theorem sqApp {i : Nat} {e : E} {b : S} {r : R Out} (ha : evalS gt call (.app i e) ρ ω = .ok (.nx ρ1) ω1) (hb : evalS gt call b ρ1 ω1 = r) : evalS gt call (.seq (.app i e) b) ρ ω = r := sSeq ha hb
theorem sqExt {i : Nat} {e : E} {b : S} {r : R Out} (ha : evalS gt call (.ext i e) ρ ω = .ok (.nx ρ1) ω1) (hb : evalS gt call b ρ1 ω1 = r) : evalS gt call (.seq (.ext i e) b) ρ ω = r := sSeq ha hb
theorem sqExpr {e : E} {b : S} {r : R Out} (ha : evalS gt call (.expr e) ρ ω = .ok (.nx ρ1) ω1) (hb : evalS gt call b ρ1 ω1 = r) : evalS gt call (.seq (.expr e) b) ρ ω = r := sSeq ha hb
theorem sqWh {e : E} {a b : S} {r : R Out} (ha : evalS gt call (.wh e a) ρ ω = .ok (.nx ρ1) ω1) (hb : evalS gt call b ρ1 ω1 = r) : evalS gt call (.seq (.wh e a) b) ρ ω = r := sSeq ha hb
theorem sqSetix {i : Nat} {k e : E} {b : S} {r : R Out} (ha : evalS gt call (.setix i k e) ρ ω = .ok (.nx ρ1) ω1) (hb : evalS gt call b ρ1 ω1 = r) : evalS gt call (.seq (.setix i k e) b) ρ ω = r := sSeq ha hb
theorem sqAugix {i : Nat} {o : Bop} {k e : E} {b : S} {r : R Out} (ha : evalS gt call (.augix i o k e) ρ ω = .ok (.nx ρ1) ω1) (hb : evalS gt call b ρ1 ω1 = r) : evalS gt call (.seq (.augix i o k e) b) ρ ω = r := sSeq ha hb
theorem sSeqA {a b c : S} {r : R Out} (h : evalS gt call (.seq a (.seq b c)) ρ ω = r) : evalS gt call (.seq (.seq a b) c) ρ ω = r := by rw [s_seq, kS_seq, h]
theorem asgT_rfl {t : Tg} {o : Bool} {d : PyData} (h : asgT t o d ρ ω = .ok ρ1 ω) : asgT t o d ρ ω = .ok ρ1 ω := h
theorem parT_rfl {t : Tg} {es : Es} {ds : List PyData} (h : parT t es ds ρ ω = .ok ρ1 ω) : parT t es ds ρ ω = .ok ρ1 ω := h
/-- a loop -/
theorem sForZ {α β γ : Type} {t : Tg} {it : E} {b : S} {d : PyData} {E : α → β → Env} {enc : γ → PyData} {f : α → γ → α} {Inv : Nat → α → Prop} {xs : List γ} {s : α} {v : β} (hf : Fz (esc it) ρ ρ1) (he : evalE gt call it ρ1 ω = .ok d ω1) (hd : itemsOf d = some (xs.map enc)) (h0 : ρ1 = E s v) (hi : Inv xs.length s)
    (h : ∀ k s v x, x ∈ xs → Inv (k + 1) s → ∃ ρ' v', asgT t false (enc x) (E s v) ω1 = .ok ρ' ω1 ∧ evalS gt call b ρ' ω1 = .ok (.nx (E (f s x) v')) ω1 ∧ Inv k (f s x)) :
    ∃ v', evalS gt call (.for_ t it b) ρ ω = .ok (.nx (E (xs.foldl f s) v')) ω1 ∧ Inv 0 (xs.foldl f s) := by
  replace hf : frz _ _ = _ := hf
  subst h0
  rw [forR he hd hf]
  exact fLoop_foldP xs s v hi h
theorem sSkipE {ρ' : Env} {ω' : Orc} (h : Sm ρ ρ') (hw : ω = ω') : evalS gt call .skip ρ ω = .ok (.nx ρ') ω' := by replace h : _ = _ := h; subst h hw; exact s_skip
/-- a loop that only appends to a list -/
theorem sForApp {β γ δ : Type} {t : Tg} {it : E} {b : S} {d : PyData} {E : List δ → β → Env} {enc : γ → PyData} {g : γ → List δ} {xs : List γ} {ds : List δ} {v : β} (hf : Fz (esc it) ρ ρ1) (he : evalE gt call it ρ1 ω = .ok d ω1) (hd : itemsOf d = some (xs.map enc)) (h0 : ρ1 = E ds v) (hN : ds.length + (xs.flatMap g).length < 1000000)
    (h : ∀ x ∈ xs, ∀ ds v, ds.length + (g x).length < 1000000 → ∃ ρ' v', asgT t false (enc x) (E ds v) ω1 = .ok ρ' ω1 ∧ evalS gt call b ρ' ω1 = .ok (.nx (E (ds ++ g x) v')) ω1) :
    ∃ v', evalS gt call (.for_ t it b) ρ ω = .ok (.nx (E (ds ++ xs.flatMap g) v')) ω1 := by
  replace hf : frz _ _ = _ := hf
  subst h0
  rw [forR he hd hf]
  clear hf hd he
  induction xs generalizing ds v with
  | nil => exact ⟨v, by rw [List.map_nil, fLoop_nil, List.flatMap_nil, List.append_nil]⟩
  | cons x xs ih =>
    rw [List.flatMap_cons, List.length_append] at hN
    obtain ⟨ρ', w, h1, h2⟩ := h x List.mem_cons_self ds v (by omega)
    obtain ⟨v', h4⟩ := ih (ds := ds ++ g x) (v := w) (by rw [List.length_append]; omega) (fun y hy => h y (List.mem_cons_of_mem _ hy))
    refine ⟨v', ?_⟩
    rw [List.map_cons, fLoop_consT h1, h2, kFb_nx, h4, List.flatMap_cons, List.append_assoc]
/-- a loop that returns at the first x that fails -/
theorem sForRet {β γ : Type} {t : Tg} {it : E} {b : S} {d r : PyData} {E : β → Env} {enc : γ → PyData} {p : γ → Bool} {xs : List γ} {v : β} (hf : Fz (esc it) ρ ρ1) (he : evalE gt call it ρ1 ω = .ok d ω1) (hd : itemsOf d = some (xs.map enc)) (h0 : ρ1 = E v)
    (h : ∀ x ∈ xs, ∀ v, ∃ ρ', asgT t false (enc x) (E v) ω1 = .ok ρ' ω1 ∧ (p x = true → ∃ v', evalS gt call b ρ' ω1 = .ok (.nx (E v')) ω1) ∧ (p x = false → evalS gt call b ρ' ω1 = .ok (.rt r) ω1)) :
    (xs.all p = true → ∃ v', evalS gt call (.for_ t it b) ρ ω = .ok (.nx (E v')) ω1) ∧ (xs.all p = false → evalS gt call (.for_ t it b) ρ ω = .ok (.rt r) ω1) := by
  replace hf : frz _ _ = _ := hf
  subst h0
  rw [forR he hd hf]
  clear hf hd he
  induction xs generalizing v with
  | nil => exact ⟨fun _ => ⟨v, by rw [List.map_nil, fLoop_nil]⟩, fun z => by cases z⟩
  | cons x xs ih =>
    obtain ⟨ρ', h1, h2, h3⟩ := h x List.mem_cons_self v
    rw [List.map_cons, fLoop_consT h1, List.all_cons]
    cases hp : p x with
    | false =>
      rw [h3 hp]
      exact ⟨fun z => (by cases z), fun _ => rfl⟩
    | true =>
      obtain ⟨w, h4⟩ := h2 hp
      rw [h4, kFb_nx, Bool.true_and]
      exact ih (fun y hy => h y (List.mem_cons_of_mem _ hy))
theorem sqForApp {β γ δ : Type} {t : Tg} {it : E} {b c : S} {d : PyData} {r : R Out} {E : List δ → β → Env} {enc : γ → PyData} {g : γ → List δ} {xs : List γ} {ds : List δ} {v : β} {en : γ → List δ → β → Env} (hf : Fz (esc it) ρ ρ1) (he : evalE gt call it ρ1 ω = .ok d ω1) (hd : itemsOf d = some (xs.map enc)) (h0 : ρ1 = E ds v)
    (ha : ∀ x ds v, asgT t false (enc x) (E ds v) ω1 = .ok (en x ds v) ω1) (hN : ds.length + (xs.flatMap g).length < 1000000)
    (h : ∀ x ∈ xs, ∀ ds v, ds.length + (g x).length < 1000000 → ∃ v', evalS gt call b (en x ds v) ω1 = .ok (.nx (E (ds ++ g x) v')) ω1)
    (hc : ∀ v, evalS gt call c (E (ds ++ xs.flatMap g) v) ω1 = r) : evalS gt call (.seq (.for_ t it b) c) ρ ω = r := by
  replace hf : frz _ _ = _ := hf
  obtain ⟨v', h1⟩ := sForApp (gt := gt) (call := call) (t := t) (b := b) hf he hd h0 hN fun x hx ds v hl => by
    obtain ⟨v', h2⟩ := h x hx ds v hl
    exact ⟨_, v', ha x ds v, h2⟩
  exact sSeq h1 (hc v')
theorem sqForRet {β γ : Type} {t : Tg} {it : E} {b c : S} {d rr : PyData} {r : R Out} {E : β → Env} {enc : γ → PyData} {p : γ → Bool} {xs : List γ} {v : β} {en : γ → β → Env} (hf : Fz (esc it) ρ ρ1) (he : evalE gt call it ρ1 ω = .ok d ω1) (hd : itemsOf d = some (xs.map enc)) (h0 : ρ1 = E v)
    (ha : ∀ x v, asgT t false (enc x) (E v) ω1 = .ok (en x v) ω1)
    (h : ∀ x ∈ xs, ∀ v, (p x = true → ∃ v', evalS gt call b (en x v) ω1 = .ok (.nx (E v')) ω1) ∧ (p x = false → evalS gt call b (en x v) ω1 = .ok (.rt rr) ω1))
    (hT : xs.all p = true → ∀ v, evalS gt call c (E v) ω1 = r) (hF : xs.all p = false → .ok (.rt rr) ω1 = r) : evalS gt call (.seq (.for_ t it b) c) ρ ω = r := by
  replace hf : frz _ _ = _ := hf
  obtain ⟨h1, h2⟩ := sForRet (gt := gt) (call := call) (t := t) (b := b) (p := p) (r := rr) hf he hd h0 fun x hx v => ⟨_, ha x v, h x hx v⟩
  cases hp : xs.all p with
  | true =>
    obtain ⟨v', h3⟩ := h1 hp
    exact sSeq h3 (hT hp v')
  | false =>
    rw [s_seq, h2 hp, kS_rt]
    exact hF hp
theorem sqFor {α β γ : Type} {t : Tg} {it : E} {b c : S} {d : PyData} {r : R Out} {E : α → β → Env} {enc : γ → PyData} {f : α → γ → α} {Inv : Nat → α → Prop} {xs : List γ} {s : α} {v : β} {en : γ → α → β → Env} (hf : Fz (esc it) ρ ρ1) (he : evalE gt call it ρ1 ω = .ok d ω1) (hd : itemsOf d = some (xs.map enc)) (h0 : ρ1 = E s v)
    (ha : ∀ x s v, asgT t false (enc x) (E s v) ω1 = .ok (en x s v) ω1) (hi : Inv xs.length s)
    (h : ∀ k, ∀ x ∈ xs, ∀ s v, Inv (k + 1) s → Inv k (f s x) ∧ ∃ v', evalS gt call b (en x s v) ω1 = .ok (.nx (E (f s x) v')) ω1)
    (hc : ∀ v, Inv 0 (xs.foldl f s) → evalS gt call c (E (xs.foldl f s) v) ω1 = r) : evalS gt call (.seq (.for_ t it b) c) ρ ω = r := by
  replace hf : frz _ _ = _ := hf
  obtain ⟨v', h1, h2⟩ := sForZ (gt := gt) (call := call) (t := t) (b := b) (Inv := Inv) hf he hd h0 hi fun k s v x hx hs => by
    obtain ⟨h3, v', h4⟩ := h k x hx s v hs
    exact ⟨_, v', ha x s v, h4, h3⟩
  exact sSeq h1 (hc v' h2)
theorem cTF {b : Bool} (h : b = true) (h2 : b = false) : False := by rw [h] at h2; cases h2
theorem runOk {P : Nat → Option Def} {n f : Nat} {as : List Slot} {d : Def} {v : PyData} {ω' : Orc} (h : P f = some d) (hl : as.length = d.ar) (hb : evalS gt (run gt P n) d.body (entry d as) ω = .ok (.rt v) ω') : run gt P (n + 1) f as ω = .ok v ω' := by
  rw [run_at h hl, hb, kOut_rt]
theorem runNx {P : Nat → Option Def} {n f : Nat} {as : List Slot} {d : Def} {ρ' : Env} {ω' : Orc} (h : P f = some d) (hl : as.length = d.ar) (hb : evalS gt (run gt P n) d.body (entry d as) ω = .ok (.nx ρ') ω') : run gt P (n + 1) f as ω = .ok .none ω' := by
  rw [run_at h hl, hb, kOut_nx]
theorem runEx {P : Nat → Option Def} {n f : Nat} {as : List Slot} {d : Def} {c : Nat} {p : PyData} {ω' : Orc} (h : P f = some d) (hl : as.length = d.ar) (hb : evalS gt (run gt P n) d.body (entry d as) ω = .exc c p ω') : run gt P (n + 1) f as ω = .exc c p ω' := by
  rw [run_at h hl, hb, kOut_exc]
end
end Wv

set_option autoImplicit false
set_option linter.all false
set_option maxRecDepth 100000
namespace Wv
open PySem
section
/-! how often -/
def cnt (xs : List Int) (k : Int) : Int := (xs.countP fun x => decide (x = k) : Nat)
theorem mcount_t (xs : List Int) (c : Int) : mcountD (iT xs) (.int c) = some (.int (cnt xs c)) := by
  show gO (shp (.int c) && shp (iT xs)) (some (PyData.int (((xs.map PyData.int).countP fun z => PyData.eqv z (.int c) : Nat)))) = _
  rw [shp_i, shp_iT, List.countP_map]
  have : ((fun z => PyData.eqv z (.int c)) ∘ PyData.int) = fun x => decide (x = c) := by funext x; exact eqv_ii x c
  rw [this]; rfl
theorem cnt_app (xs : List Int) (x k : Int) : cnt (xs ++ [x]) k = cnt xs k + if x = k then 1 else 0 := by
  unfold cnt
  rw [List.countP_append]
  by_cases h : x = k
  · simp [h]
  · simp [h]
theorem cnt_bd (xs : List Int) (k : Int) : 0 ≤ cnt xs k ∧ cnt xs k ≤ xs.length := by
  unfold cnt
  have := List.countP_le_length (p := fun x => decide (x = k)) (l := xs)
  omega
/-- the greatest -/
def mx : List Int → Int
  | [] => 0
  | x :: xs => xs.foldl max x
def mn : List Int → Int
  | [] => 0
  | x :: xs => xs.foldl min x
theorem max_t {xs : List Int} (h : xs ≠ []) : p1 .max (iT xs) = some (.int (mx xs)) := by
  cases xs with
  | nil => exact absurd rfl h
  | cons x xs =>
    show gO (allAlike ((x :: xs).map .int)) (some (W.maxD (.int x) (xs.map .int))) = _
    rw [all_ints, W.maxD_ints]; rfl
theorem min_t {xs : List Int} (h : xs ≠ []) : p1 .min (iT xs) = some (.int (mn xs)) := by
  cases xs with
  | nil => exact absurd rfl h
  | cons x xs =>
    show gO (allAlike ((x :: xs).map .int)) (some (W.minD (.int x) (xs.map .int))) = _
    rw [all_ints, W.minD_ints]; rfl
theorem fold_max : ∀ (xs : List Int) (a : Int), a ≤ xs.foldl max a ∧ (∀ x ∈ xs, x ≤ xs.foldl max a) ∧ ∀ m, a ≤ m → (∀ x ∈ xs, x ≤ m) → xs.foldl max a ≤ m
  | [], a => ⟨Int.le_refl _, (fun x h => by cases h), fun m h _ => h⟩
  | x :: xs, a => by
    obtain ⟨h1, h2, h3⟩ := fold_max xs (max a x)
    refine ⟨by rw [List.foldl_cons]; omega, fun y hy => ?_, fun m ha hx => ?_⟩
    · rw [List.foldl_cons]
      rcases List.mem_cons.mp hy with e | e
      · subst e; omega
      · exact h2 y e
    · rw [List.foldl_cons]
      have := hx x List.mem_cons_self
      exact h3 m (by omega) fun y hy => hx y (List.mem_cons_of_mem _ hy)
theorem mx_spec {xs : List Int} (h : xs ≠ []) : (∀ x ∈ xs, x ≤ mx xs) ∧ ∀ m, (∀ x ∈ xs, x ≤ m) → mx xs ≤ m := by
  cases xs with
  | nil => exact absurd rfl h
  | cons x xs =>
    obtain ⟨h1, h2, h3⟩ := fold_max xs x
    refine ⟨fun y hy => ?_, fun m hm => h3 m (hm x List.mem_cons_self) fun y hy => hm y (List.mem_cons_of_mem _ hy)⟩
    rcases List.mem_cons.mp hy with e | e
    · subst e; exact h1
    · exact h2 y e
/-! dicts of counts -/
def tl (xs : List Int) : List (PyData × PyData) := (ddp xs).map fun k => (.int k, .int (cnt xs k))
theorem ddp_snoc (xs : List Int) (x : Int) : ddp (xs ++ [x]) = if x ∈ ddp xs then ddp xs else ddp xs ++ [x] := by
  unfold ddp
  rw [List.foldl_append]
  show (if (List.foldl _ [] xs).any (· == x) = true then _ else _) = _
  have : ((List.foldl (fun acc x => if acc.any (· == x) = true then acc else acc ++ [x]) [] xs).any (· == x) = true) ↔ x ∈ (List.foldl (fun acc x => if acc.any (· == x) = true then acc else acc ++ [x]) [] xs) := by
    rw [List.any_eq_true]
    constructor
    · rintro ⟨y, hy, e⟩
      rw [← eq_of_beq e]; exact hy
    · intro h; exact ⟨x, h, by simp⟩
  by_cases h : x ∈ (List.foldl (fun acc x => if acc.any (· == x) = true then acc else acc ++ [x]) [] xs)
  · rw [if_pos h, if_pos (this.mpr h)]
  · rw [if_neg h, if_neg (fun z => h (this.mp z))]
theorem find_int : ∀ (ks : List Int) (f : Int → PyData) (x : Int), dfind (ks.map fun k => (PyData.int k, f k)) (.int x) = if x ∈ ks then some (f x) else none
  | [], f, x => rfl
  | k :: ks, f, x => by
    have ih := find_int ks f x
    unfold dfind at ih ⊢
    rw [List.map_cons, List.find?_cons]
    show Option.map _ (match PyData.eqv (.int k) (.int x) with | true => _ | false => _) = _
    rw [eqv_ii]
    by_cases h : k = x
    · rw [decide_eq_true h]
      subst h
      simp
    · rw [decide_eq_false h]
      show Option.map _ (List.find? _ _) = _
      rw [ih]
      have h2 : ¬ x = k := fun e => h e.symm
      simp [h2]
theorem put_int (ks : List Int) (f g : Int → PyData) (x : Int) (v : PyData) (hv : g x = v) (hg : ∀ k ∈ ks, k ≠ x → g k = f k) :
    dput (ks.map fun k => (PyData.int k, f k)) (.int x) v = (if x ∈ ks then ks else ks ++ [x]).map fun k => (PyData.int k, g k) := by
  have ha : ((ks.map fun k => (PyData.int k, f k)).any fun p => PyData.eqv p.1 (.int x)) = decide (x ∈ ks) := by
    rw [List.any_map]
    have : ((fun p : PyData × PyData => PyData.eqv p.1 (.int x)) ∘ fun k => (PyData.int k, f k)) = fun k => decide (k = x) := by funext k; exact eqv_ii k x
    rw [this]
    exact Bool.eq_iff_iff.mpr (by simp)
  unfold dput
  rw [ha]
  by_cases h : x ∈ ks
  · rw [if_pos (decide_eq_true h), if_pos h, List.map_map]
    refine List.map_congr_left fun k hk => ?_
    show (if PyData.eqv (.int k) (.int x) = true then _ else _) = _
    rw [eqv_ii]
    by_cases e : k = x
    · rw [if_pos (decide_eq_true e)]
      subst e
      rw [hv]
    · rw [if_neg (by simpa using e), hg k hk e]
  · rw [if_neg (by simpa using h), if_neg h, List.map_append]
    congr 1
    · refine List.map_congr_left fun k hk => ?_
      rw [hg k hk (fun e => h (e ▸ hk))]
    · rw [List.map_singleton, hv]
theorem cnt_none {xs : List Int} {x : Int} (h : x ∉ ddp xs) : cnt xs x = 0 := by
  have hx : x ∉ xs := fun z => h (((ddp_ok xs).2 x).mpr z)
  unfold cnt
  have : xs.countP (fun y => decide (y = x)) = 0 := List.countP_eq_zero.mpr fun y hy => by
    simp only [decide_eq_true_eq]
    exact fun e => hx (e ▸ hy)
  rw [this]; rfl
theorem tl_get (xs : List Int) (x : Int) : (dfind (tl xs) (.int x)).getD (.int 0) = .int (cnt xs x) := by
  unfold tl
  rw [find_int (ddp xs) (fun k => .int (cnt xs k)) x]
  by_cases h : x ∈ ddp xs
  · rw [if_pos h]; rfl
  · rw [if_neg h, cnt_none h]; rfl
theorem tl_put (xs : List Int) (x : Int) : dput (tl xs) (.int x) (.int (cnt xs x + 1)) = tl (xs ++ [x]) := by
  unfold tl
  rw [put_int (ddp xs) (fun k => .int (cnt xs k)) (fun k => .int (cnt (xs ++ [x]) k)) x (.int (cnt xs x + 1)) (by rw [cnt_app, if_pos rfl]) (fun k hk hne => by rw [cnt_app, if_neg (fun e => hne e.symm)]; simp), ddp_snoc]
theorem ddp_le : ∀ (xs acc : List Int), (xs.foldl (fun acc x => if acc.any (· == x) = true then acc else acc ++ [x]) acc).length ≤ acc.length + xs.length
  | [], acc => by simp
  | x :: xs, acc => by
    rw [List.foldl_cons]
    refine Nat.le_trans (ddp_le xs _) ?_
    split
    · rw [List.length_cons]; omega
    · simp; omega
theorem tl_len (xs : List Int) : (tl xs).length ≤ xs.length := by
  unfold tl
  rw [List.length_map]
  have : (ddp xs).length ≤ ([] : List Int).length + xs.length := ddp_le xs []
  rw [List.length_nil] at this
  omega
/-- sorted, each once -/
def so (xs : List Int) : List Int := (ddp xs).mergeSort fun a b => decide (a ≤ b)
theorem so_perm (xs : List Int) : (so xs).Perm (ddp xs) := List.mergeSort_perm _ _
theorem so_srt (xs : List Int) : ((ddp xs).map PyData.int).mergeSort (W.dataLe false id) = (so xs).map .int :=
  srt_uniq (so_perm xs) ((List.pairwise_mergeSort (le := fun a b => decide (a ≤ b)) (fun a b c h1 h2 => by
    have := of_decide_eq_true h1
    have := of_decide_eq_true h2
    exact decide_eq_true (by omega)) (fun a b => by
    rw [Bool.or_eq_true, decide_eq_true_eq, decide_eq_true_eq]
    omega) (ddp xs)).imp fun {a b} h => of_decide_eq_true h)
theorem so_len (xs : List Int) : (so xs).length ≤ xs.length := by
  rw [(so_perm xs).length_eq]
  have : (ddp xs).length ≤ ([] : List Int).length + xs.length := ddp_le xs []
  rw [List.length_nil] at this
  omega
theorem sortOk_ints (xs : List Int) : sortOk (xs.map .int) = true := by
  unfold sortOk
  rw [Bool.or_eq_true]
  right
  rw [List.all_eq_true]
  intro d hd
  obtain ⟨i, _, rfl⟩ := List.mem_map.mp hd
  rfl
theorem sorted_tl {xs : List Int} (h : xs.length < 64) : p1 .sorted (.dict (tl xs)) = some (iL (so xs)) := by
  have ek : (tl xs).map (·.1) = (ddp xs).map PyData.int := by unfold tl; rw [List.map_map]; rfl
  have hl := tl_len xs
  have hsr : srtOf (.dict (tl xs)) = some ((ddp xs).map PyData.int) := by
    show gO (decide ((tl xs).length < 64) && (intsOf ((tl xs).map (·.1))).isSome) (some ((tl xs).map (·.1))) = _
    rw [ek, intsOf_map, decide_eq_true (by omega)]; rfl
  show (srtOf (.dict (tl xs))).bind (fun xs => gO (allAlike xs && sortOk xs) (some (PyData.list (xs.mergeSort (W.dataLe false id))))) = _
  rw [hsr]
  show gO (allAlike ((ddp xs).map PyData.int) && sortOk ((ddp xs).map PyData.int)) (some (PyData.list (((ddp xs).map PyData.int).mergeSort (W.dataLe false id)))) = _
  rw [all_ints, sortOk_ints, so_srt]; rfl
theorem sorted_tl' {xs : List Int} (h : (ddp xs).length < 64) : p1 .sorted (.dict (tl xs)) = some (iL (so xs)) := by
  have ek : (tl xs).map (·.1) = (ddp xs).map PyData.int := by unfold tl; rw [List.map_map]; rfl
  have hl : (tl xs).length = (ddp xs).length := by unfold tl; rw [List.length_map]
  have hsr : srtOf (.dict (tl xs)) = some ((ddp xs).map PyData.int) := by
    show gO (decide ((tl xs).length < 64) && (intsOf ((tl xs).map (·.1))).isSome) (some ((tl xs).map (·.1))) = _
    rw [ek, intsOf_map, decide_eq_true (by omega)]; rfl
  show (srtOf (.dict (tl xs))).bind (fun xs => gO (allAlike xs && sortOk xs) (some (PyData.list (xs.mergeSort (W.dataLe false id))))) = _
  rw [hsr]
  show gO (allAlike ((ddp xs).map PyData.int) && sortOk ((ddp xs).map PyData.int)) (some (PyData.list (((ddp xs).map PyData.int).mergeSort (W.dataLe false id)))) = _
  rw [all_ints, sortOk_ints, so_srt]; rfl
theorem so_mem {xs : List Int} {x : Int} (h : x ∈ so xs) : x ∈ xs := ((ddp_ok xs).2 x).mp ((so_perm xs).mem_iff.mp h)
theorem sset_t {xs : List Int} (h : xs.length < 64) : ssetD (iT xs) = some (iL (so xs)) := by
  show (match intsOf (xs.map PyData.int) with
    | some ns => gO (decide (ns.length < 64)) (some (PyData.list (((ddp ns).map PyData.int).mergeSort (W.dataLe false id))))
    | none => none) = _
  rw [intsOf_map]
  show gO (decide (xs.length < 64)) _ = _
  rw [decide_eq_true h, so_srt]; rfl
theorem setixK {gt : Nat → Option PyData} {call : Nat → List Slot → M PyData} {ρ ρ' : Wv.Env} {ω : Orc} {i : Nat} {k e : E} {kvs : List (PyData × PyData)} {x y : PyData} (h : ρ'[i]? = some (.v true (.dict kvs))) (he : evalE gt call e ρ' ω = .ok y ω) (hk : evalE gt call k ρ' ω = .ok x ω) (hx : leafKey x = true) (ho : okEl y = true) (hl : kvs.length < 1000000) (hf : frz (esc e ++ esc k) ρ = ρ' := by rfl) :
    evalS gt call (.setix i k e) ρ ω = .ok (.nx (ρ'.set i (.v true (.dict (dput kvs x y))))) ω := by
  rw [evalS]
  simp only [hf]
  show (evalE gt call e ρ' >>= fun y => M.guard (ownC ρ'[i]?) (evalE gt call k ρ' >>= fun x => setAt ρ' i (putIx x y) >>= fun ρ' => (pure (.nx ρ') : M Out))) ω = _
  rw [bnd_at, he]
  show M.guard (ownC ρ'[i]?) (evalE gt call k ρ' >>= fun x => setAt ρ' i (putIx x y) >>= fun ρ' => (pure (.nx ρ') : M Out)) ω = _
  rw [h]
  show (evalE gt call k ρ' >>= fun x => setAt ρ' i (putIx x y) >>= fun ρ' => (pure (.nx ρ') : M Out)) ω = _
  rw [bnd_at, hk]
  show (setAt ρ' i (putIx x y) >>= fun ρ' => (pure (.nx ρ') : M Out)) ω = _
  unfold setAt
  rw [h]
  show ((M.guard (leafKey x && okEl y && decide (kvs.length < 1000000)) (pure (PyData.dict (dput kvs x y))) >>= fun d => (pure (ρ'.set i (.v true d)) : M Wv.Env)) >>= fun ρ' => (pure (.nx ρ') : M Out)) ω = _
  rw [hx, ho, decide_eq_true hl]
  rfl

/-- one member alone -/
theorem ddp_one {xs : List Int} (h : 1 ≤ xs.length) : decide ((ddp xs).length = 1) = xs.all (fun x => decide (x = nth xs 0)) := by
  obtain ⟨h1, h2⟩ := ddp_ok xs
  have hm : nth xs 0 ∈ xs := nth_mem (by omega)
  refine Bool.eq_iff_iff.mpr ?_
  rw [decide_eq_true_eq, List.all_eq_true]
  constructor
  · intro hl x hx
    obtain ⟨y, hy⟩ := List.length_eq_one_iff.mp hl
    have e1 := (h2 x).mpr hx
    have e2 := (h2 _).mpr hm
    rw [hy, List.mem_singleton] at e1 e2
    rw [e1, ← e2]; simp
  · intro hx
    have e2 := (h2 _).mpr hm
    have : ∀ y ∈ ddp xs, y = nth xs 0 := fun y hy => by simpa using hx y ((h2 y).mp hy)
    cases hd : ddp xs with
    | nil => rw [hd] at e2; cases e2
    | cons y ys => cases ys with
      | nil => rfl
      | cons z zs =>
        rw [hd] at this h1
        have e3 := this y (by simp)
        have e4 := this z (by simp)
        rw [List.nodup_cons] at h1
        exact absurd (by rw [e3, ← e4]; simp) h1.1
theorem set_iT {xs : List Int} (h : xs.length ≤ 4000) : setD (iT xs) = some (iL (ddp xs)) := by
  show (match intsOf (xs.map PyData.int) with
    | some ns => gO (decide (ns.length ≤ 4000)) (some (PyData.list ((ddp ns).map PyData.int)))
    | none => _) = _
  rw [intsOf_map]
  show gO (decide (xs.length ≤ 4000)) _ = _
  rw [decide_eq_true h]; rfl
theorem set_iL {xs : List Int} (h : xs.length ≤ 4000) : setD (iL xs) = some (iL (ddp xs)) := by
  show (match intsOf (xs.map PyData.int) with
    | some ns => gO (decide (ns.length ≤ 4000)) (some (PyData.list ((ddp ns).map PyData.int)))
    | none => _) = _
  rw [intsOf_map]
  show gO (decide (xs.length ≤ 4000)) _ = _
  rw [decide_eq_true h]; rfl
theorem flat_if {α β : Type} (p : α → Bool) (g : α → β) (xs : List α) : xs.flatMap (fun x => if p x = true then [g x] else []) = (xs.filter p).map g := by
  induction xs with
  | nil => rfl
  | cons x xs ih =>
    rw [List.flatMap_cons, ih, List.filter_cons]
    cases p x <;> rfl
theorem flat_le {α β : Type} {g : α → List β} {k : Nat} {xs : List α} (h : ∀ x ∈ xs, (g x).length ≤ k) : (xs.flatMap g).length ≤ xs.length * k := by
  induction xs with
  | nil => simp
  | cons x xs ih =>
    rw [List.flatMap_cons, List.length_append, List.length_cons, Nat.succ_mul]
    have := h x List.mem_cons_self
    have := ih fun y hy => h y (List.mem_cons_of_mem _ hy)
    omega
end
/-! more ops -/
section
theorem enm_go {α : Type} [Inhabited α] (f : α → PyData) : ∀ (xs : List α) (k : Nat), enumD k (xs.map f) = (List.range xs.length).map fun (i : Nat) => .tuple [.int ((k + i : Nat) : Int), f (nth xs i)]
  | [], k => rfl
  | x :: xs, k => by
    rw [List.map_cons, enumD, enm_go f xs (k + 1), List.length_cons, List.range_succ_eq_map, List.map_cons, List.map_map]
    refine congrArg (List.cons _) (List.map_congr_left fun i hi => ?_)
    have hi := List.mem_range.mp hi
    show PyData.tuple [.int ((k + 1 + i : Nat) : Int), f (nth xs i)] = PyData.tuple [.int ((k + (i + 1) : Nat) : Int), f (nth (x :: xs) (i + 1))]
    rw [nth_get hi, nth_get (by simpa using hi), List.getElem_cons_succ, show k + 1 + i = k + (i + 1) by omega]
theorem enm_tm {α : Type} [Inhabited α] (f : α → PyData) (xs : List α) : enmD (.tuple (xs.map f)) = some (.list ((List.range xs.length).map fun (i : Nat) => .tuple [.int (i : Int), f (nth xs i)])) := by
  show some (PyData.list (enumD 0 (xs.map f))) = _
  rw [enm_go]
  simp
theorem enm_lm {α : Type} [Inhabited α] (f : α → PyData) (xs : List α) : enmD (.list (xs.map f)) = some (.list ((List.range xs.length).map fun (i : Nat) => .tuple [.int (i : Int), f (nth xs i)])) := by
  show some (PyData.list (enumD 0 (xs.map f))) = _
  rw [enm_go]
  simp
theorem gt_oI {o : Option Int} {k : Int} (h : o.isNone = false) : bop .gt (oI o) (.int k) = some (.bool (decide (k < o.getD 0))) := by
  cases o with
  | none => cases h
  | some i => exact gt_ii i k
theorem in_noI (ls : List (Option Int)) : bop .in_ .none (.list (ls.map oI)) = some (.bool (ls.any Option.isNone)) := by
  have h1 : shp .none = true := (sh_n 0).ok
  have h2 : shp (.list (ls.map oI)) = true := (sh_lm fun x _ => sh_oI 0 x).ok
  show (do some (PyData.bool (← gO (shp .none && shp (.list (ls.map oI))) (some ((ls.map oI).any fun z => PyData.eqv z .none))))) = _
  rw [h1, h2, List.any_map]
  have : ((fun z => PyData.eqv z .none) ∘ oI) = Option.isNone := by
    funext o
    cases o <;> simp [oI, PyData.eqv]
  rw [this]; rfl
theorem oI_ints {ls : List (Option Int)} (h : ls.any Option.isNone = false) : ls.map oI = (ls.map fun o => o.getD 0).map PyData.int := by
  rw [List.map_map]
  refine List.map_congr_left fun o ho => ?_
  cases o with
  | none => rw [List.any_eq_false] at h; exact absurd rfl (h none ho)
  | some i => rfl
theorem max_lI {xs : List Int} (h : xs ≠ []) : p1 .max (iL xs) = some (.int (mx xs)) := by
  cases xs with
  | nil => exact absurd rfl h
  | cons x xs => exact p1_max x xs
theorem min_lI {xs : List Int} (h : xs ≠ []) : p1 .min (iL xs) = some (.int (mn xs)) := by
  cases xs with
  | nil => exact absurd rfl h
  | cons x xs => exact p1_min x xs
theorem len_ne {α : Type} {xs : List α} (h : 1 ≤ xs.length) : xs ≠ [] := fun e => by rw [e] at h; simp at h
theorem mx_mem {xs : List Int} (h : xs ≠ []) : mx xs ∈ xs := by
  have go : ∀ (xs : List Int) (a : Int), xs.foldl max a = a ∨ xs.foldl max a ∈ xs := by
    intro xs
    induction xs with
    | nil => intro a; exact .inl rfl
    | cons x xs ih =>
      intro a
      rw [List.foldl_cons]
      rcases ih (max a x) with h | h
      · rw [h]
        by_cases hx : a ≤ x
        · right; rw [Int.max_eq_right hx]; simp
        · left; rw [Int.max_eq_left (by omega)]
      · right; exact List.mem_cons_of_mem _ h
  cases xs with
  | nil => exact absurd rfl h
  | cons x xs =>
    rcases go xs x with h | h
    · show xs.foldl max x ∈ _
      rw [h]; simp
    · exact List.mem_cons_of_mem _ h
theorem mn_spec {xs : List Int} (h : xs ≠ []) : mn xs ∈ xs ∧ ∀ x ∈ xs, mn xs ≤ x := by
  have go : ∀ (xs : List Int) (a : Int), (xs.foldl min a = a ∨ xs.foldl min a ∈ xs) ∧ xs.foldl min a ≤ a ∧ ∀ x ∈ xs, xs.foldl min a ≤ x := by
    intro xs
    induction xs with
    | nil => intro a; exact ⟨.inl rfl, Int.le_refl _, fun x h => by cases h⟩
    | cons x xs ih =>
      intro a
      rw [List.foldl_cons]
      obtain ⟨h1, h2, h3⟩ := ih (min a x)
      refine ⟨?_, by omega, fun y hy => ?_⟩
      · rcases h1 with h | h
        · rw [h]
          by_cases hx : a ≤ x
          · left; rw [Int.min_eq_left hx]
          · right; rw [Int.min_eq_right (by omega)]; simp
        · right; exact List.mem_cons_of_mem _ h
      · rcases List.mem_cons.mp hy with e | e
        · subst e; omega
        · exact h3 y e
  cases xs with
  | nil => exact absurd rfl h
  | cons x xs =>
    obtain ⟨h1, h2, h3⟩ := go xs x
    refine ⟨?_, fun y hy => ?_⟩
    · rcases h1 with h | h
      · show xs.foldl min x ∈ _
        rw [h]; simp
      · exact List.mem_cons_of_mem _ h
    · rcases List.mem_cons.mp hy with e | e
      · subst e; exact h2
      · exact h3 y e
/-- all alike -/
theorem mn_mx {xs : List Int} (h : xs ≠ []) : decide (mn xs = mx xs) = xs.all (fun x => decide (x = nth xs 0)) := by
  obtain ⟨h1, h2⟩ := mn_spec h
  obtain ⟨h3, h4⟩ := mx_spec h
  have h5 := mx_mem h
  have h0 : nth xs 0 ∈ xs := nth_mem (by cases xs with | nil => exact absurd rfl h | cons _ _ => simp)
  refine Bool.eq_iff_iff.mpr ?_
  rw [decide_eq_true_eq, List.all_eq_true]
  constructor
  · intro e x hx
    have := h2 x hx
    have := h3 x hx
    have := h2 _ h0
    have := h3 _ h0
    rw [decide_eq_true_eq]; omega
  · intro hx
    have a1 := of_decide_eq_true (hx _ h1)
    have a2 := of_decide_eq_true (hx _ h5)
    omega
theorem nodup_le {α : Type} [DecidableEq α] : ∀ {l m : List α}, l.Nodup → (∀ x ∈ l, x ∈ m) → l.length ≤ m.length
  | [], m, _, _ => by simp
  | x :: l, m, h, hs => by
    rw [List.nodup_cons] at h
    have hx := hs x List.mem_cons_self
    have := nodup_le (l := l) (m := m.erase x) h.2 fun y hy => (List.mem_erase_of_ne (fun e : y = x => h.1 (e ▸ hy))).mpr (hs y (List.mem_cons_of_mem _ hy))
    rw [List.length_erase_of_mem hx] at this
    have : 0 < m.length := List.length_pos_of_mem hx
    rw [List.length_cons]; omega
theorem filter_tt {α : Type} (l : List α) : l.filter (fun _ => true) = l := List.filter_eq_self.mpr fun _ _ => rfl
theorem ix_mod {α : Type} [Inhabited α] {f : α → PyData} {xs : List α} {i : Int} (h : 0 < xs.length) : ixD (.tuple (xs.map f)) (.int (i % xs.length)) = some (f (pyAt xs (i % xs.length))) := by
  have := Int.emod_nonneg i (b := xs.length) (by omega)
  exact ix_py (by omega) (Int.emod_lt_of_pos _ (by omega))
theorem ixl_mod {α : Type} [Inhabited α] {f : α → PyData} {xs : List α} {i : Int} (h : 0 < xs.length) : ixD (.list (xs.map f)) (.int (i % xs.length)) = some (f (pyAt xs (i % xs.length))) := by
  have := Int.emod_nonneg i (b := xs.length) (by omega)
  exact ixl_py (by omega) (Int.emod_lt_of_pos _ (by omega))
theorem itW_inv {α : Type} {c : α → Bool} {f : α → α} {Inv : α → Prop} (h : ∀ s, Inv s → c s = true → Inv (f s)) : ∀ (k : Nat) (s : α), Inv s → Inv (itW c f k s)
  | 0, s, hs => hs
  | k + 1, s, hs => by
    show Inv (if c s = true then itW c f k (f s) else s)
    cases hc : c s with
    | false => exact hs
    | true => exact itW_inv h k (f s) (h s hs hc)
theorem ne_self {d : PyData} (h : Sh 60 d) : bop .ne d d = some (.bool false) := ne_same (h.ok)
theorem eq_self' {d : PyData} (h : Sh 60 d) : bop .eq d d = some (.bool true) := eq_same (h.ok)
theorem isa_l (xs : List PyData) : isaO .list (.list xs) = some (.bool true) := rfl
theorem isa_t (xs : List PyData) : isaO .tuple (.tuple xs) = some (.bool true) := rfl
theorem isa_lt (xs : List PyData) : isaO .list (.tuple xs) = some (.bool false) := rfl
theorem isa_tl (xs : List PyData) : isaO .tuple (.list xs) = some (.bool false) := rfl
theorem mindex_t {xs : List (List Int)} {r : List Int} (h : r ∈ xs) : ∃ k, k < xs.length ∧ nth xs k = r ∧ mindexD (.tuple (xs.map iT)) (iT r) = some (.int (k : Nat)) := by
  have e : (xs.map iT).findIdx? (fun z => PyData.eqv z (iT r)) = xs.findIdx? (fun z => decide (z = r)) := by
    rw [List.findIdx?_map]
    congr 1
    funext z
    exact eqv_iT z r
  cases hk : xs.findIdx? (fun z => decide (z = r)) with
  | none =>
    rw [List.findIdx?_eq_none_iff] at hk
    exact absurd (hk r h) (by simp)
  | some k =>
    rw [List.findIdx?_eq_some_iff_getElem] at hk
    obtain ⟨h1, h2, h3⟩ := id hk
    refine ⟨k, h1, ?_, ?_⟩
    · rw [nth_get h1]; simpa using h2
    · show gO (shp (iT r) && shp (.tuple (xs.map iT))) (((xs.map iT).findIdx? fun z => PyData.eqv z (iT r)).map fun k => PyData.int k) = _
      have h2 : shp (.tuple (xs.map iT)) = true := (sh_tm (k := 1) fun x _ => sh_iT 0 x).ok
      rw [shp_iT, h2, e, List.findIdx?_eq_some_iff_getElem.mpr hk]; rfl
theorem cutL_map {α β : Type} (f : α → β) (xs : List α) (lo hi : Option Int) : cutL (xs.map f) lo hi = (cutL xs lo hi).map f := by
  unfold cutL
  rw [List.length_map, List.map_take, List.map_drop]
theorem cutL_len {α : Type} (xs : List α) (lo hi : Option Int) : (cutL xs lo hi).length ≤ xs.length := by
  unfold cutL
  rw [List.length_take, List.length_drop]; omega
theorem sl_tm {α : Type} {f : α → PyData} {xs : List α} {lo hi : Option Int} : slD (.tuple (xs.map f)) lo hi none = some (.tuple ((cutL xs lo hi).map f)) := by
  show some (PyData.tuple (cutL (xs.map f) lo hi)) = _
  rw [cutL_map]
theorem sl_lm {α : Type} {f : α → PyData} {xs : List α} {lo hi : Option Int} : slD (.list (xs.map f)) lo hi none = some (.list ((cutL xs lo hi).map f)) := by
  show some (PyData.list (cutL (xs.map f) lo hi)) = _
  rw [cutL_map]
theorem draw_nat (ω : Orc) {n : Int} (h : 0 < n) : ∃ k : Nat, (drawFn ω n).1 = (k : Int) ∧ (k : Int) < n := by
  have := draw_range (ω := ω) h
  exact ⟨(drawFn ω n).1.toNat, by omega, by omega⟩
end
section
variable {gt : Nat → Option PyData} {call : Nat → List Slot → M PyData} {ρ ρ1 ρ2 : Env} {ω ω1 ω2 ω3 : Orc}
/-- counts -/
theorem evMgetC {a b c : E} {acc : List Int} {k : Int} (ha : evalE gt call a ρ ω = .ok (.dict (tl acc)) ω1) (hb : evalE gt call b ρ ω1 = .ok (.int k) ω2) (hc : evalE gt call c ρ ω2 = .ok (.int 0) ω3) : evalE gt call (.mget a b c) ρ ω = .ok (.int (cnt acc k)) ω3 := by
  rw [evalE, bnd_at, ha]
  show (evalE gt call b ρ >>= fun y => evalE gt call c ρ >>= fun z => M.ofO (mgetD (.dict (tl acc)) y z)) ω1 = _
  rw [bnd_at, hb]
  show (evalE gt call c ρ >>= fun z => M.ofO (mgetD (.dict (tl acc)) (.int k) z)) ω2 = _
  rw [bnd_at, hc]
  show (M.ofO (gO true (some ((dfind (tl acc) (.int k)).getD (.int 0)))) : M PyData) ω3 = _
  rw [tl_get]; rfl
theorem evDic0 : evalE gt call (.dic .nil) ρ ω = .ok (.dict (tl [])) ω := e_dic0
theorem ix_C {acc : List Int} {k : Int} (h : k ∈ acc) : ixD (.dict (tl acc)) (.int k) = some (.int (cnt acc k)) := by
  show gO true (dfind (tl acc) (.int k)) = _
  unfold tl
  rw [find_int (ddp acc) (fun k => .int (cnt acc k)) k, if_pos (((ddp_ok acc).2 k).mpr h)]; rfl
theorem sSetixC {i : Nat} {k e : E} {acc : List Int} {x : Int} (hf : Fz (esc e ++ esc k) ρ ρ1) (hi : ρ1[i]? = some (.v true (.dict (tl acc)))) (he : evalE gt call e ρ1 ω = .ok (.int (cnt acc x + 1)) ω1) (hk : evalE gt call k ρ1 ω1 = .ok (.int x) ω1) (hl : acc.length < 1000000) (hs : St ρ1 i (.v true (.dict (tl (acc ++ [x])))) ρ2) :
    evalS gt call (.setix i k e) ρ ω = .ok (.nx ρ2) ω1 := by
  replace hf : frz _ _ = _ := hf
  replace hs : List.set _ _ _ = _ := hs
  subst hf hs
  rw [evalS]
  show (evalE gt call e (frz (esc e ++ esc k) ρ) >>= fun y => M.guard (ownC (frz (esc e ++ esc k) ρ)[i]?) (evalE gt call k (frz (esc e ++ esc k) ρ) >>= fun x => setAt (frz (esc e ++ esc k) ρ) i (putIx x y) >>= fun ρ' => (pure (.nx ρ') : M Out))) ω = _
  rw [bnd_at, he, hi]
  show (evalE gt call k (frz (esc e ++ esc k) ρ) >>= fun z => setAt (frz (esc e ++ esc k) ρ) i (putIx z (.int (cnt acc x + 1))) >>= fun ρ' => (pure (.nx ρ') : M Out)) ω1 = _
  rw [bnd_at, hk]
  show (setAt (frz (esc e ++ esc k) ρ) i (putIx (.int x) (.int (cnt acc x + 1))) >>= fun ρ' => (pure (.nx ρ') : M Out)) ω1 = _
  unfold setAt
  rw [hi]
  have := tl_len acc
  show ((M.guard (true && true && decide ((tl acc).length < 1000000)) (pure (PyData.dict (dput (tl acc) (.int x) (.int (cnt acc x + 1))))) >>= fun d => (pure ((frz (esc e ++ esc k) ρ).set i (.v true d)) : M Wv.Env)) >>= fun ρ' => (pure (.nx ρ') : M Out)) ω1 = _
  rw [decide_eq_true (show (tl acc).length < 1000000 by omega), tl_put]
  rfl
theorem exAsg {i : Nat} {e : E} {b : S} {o : Out} (ha : evalS gt call (.asg (.nm i) e) ρ ω = .ok (.nx ρ1) ω1) (hb : ∃ w, evalS gt call b ρ1 ω1 = .ok o w) : ∃ w, evalS gt call (.seq (.asg (.nm i) e) b) ρ ω = .ok o w := exS ha hb
theorem exForApp {β γ δ : Type} {t : Tg} {it : E} {b c : S} {d : PyData} {o : Out} {E : List δ → β → Env} {enc : γ → PyData} {g : γ → List δ} {xs : List γ} {ds : List δ} {v : β} {en : γ → List δ → β → Env} (hf : Fz (esc it) ρ ρ1) (he : evalE gt call it ρ1 ω = .ok d ω1) (hd : itemsOf d = some (xs.map enc)) (h0 : ρ1 = E ds v)
    (ha : ∀ x ds v, asgT t false (enc x) (E ds v) ω1 = .ok (en x ds v) ω1) (hN : ds.length + (xs.flatMap g).length < 1000000)
    (h : ∀ x ∈ xs, ∀ ds v, ds.length + (g x).length < 1000000 → ∃ v', evalS gt call b (en x ds v) ω1 = .ok (.nx (E (ds ++ g x) v')) ω1)
    (hc : ∀ v, ∃ w, evalS gt call c (E (ds ++ xs.flatMap g) v) ω1 = .ok o w) : ∃ w, evalS gt call (.seq (.for_ t it b) c) ρ ω = .ok o w := by
  obtain ⟨v', h1⟩ := sForApp (gt := gt) (call := call) (t := t) (b := b) hf he hd h0 hN fun x hx ds v hl => by
    obtain ⟨v', h2⟩ := h x hx ds v hl
    exact ⟨_, v', ha x ds v, h2⟩
  exact exS h1 (hc v')
theorem exFor {α β γ : Type} {t : Tg} {it : E} {b c : S} {d : PyData} {o : Out} {E : α → β → Env} {enc : γ → PyData} {f : α → γ → α} {Inv : Nat → α → Prop} {xs : List γ} {s : α} {v : β} {en : γ → α → β → Env} (hf : Fz (esc it) ρ ρ1) (he : evalE gt call it ρ1 ω = .ok d ω1) (hd : itemsOf d = some (xs.map enc)) (h0 : ρ1 = E s v)
    (ha : ∀ x s v, asgT t false (enc x) (E s v) ω1 = .ok (en x s v) ω1) (hi : Inv xs.length s)
    (h : ∀ k, ∀ x ∈ xs, ∀ s v, Inv (k + 1) s → Inv k (f s x) ∧ ∃ v', evalS gt call b (en x s v) ω1 = .ok (.nx (E (f s x) v')) ω1)
    (hc : ∀ v, Inv 0 (xs.foldl f s) → ∃ w, evalS gt call c (E (xs.foldl f s) v) ω1 = .ok o w) : ∃ w, evalS gt call (.seq (.for_ t it b) c) ρ ω = .ok o w := by
  obtain ⟨v', h1, h2⟩ := sForZ (gt := gt) (call := call) (t := t) (b := b) (Inv := Inv) hf he hd h0 hi fun k s v x hx hs => by
    obtain ⟨h3, v', h4⟩ := h k x hx s v hs
    exact ⟨_, v', ha x s v, h4, h3⟩
  exact exS h1 (hc v' h2)
theorem exFor2 {i : Nat} {it : E} {b c : S} {o : Out} {x y : PyData} {ρa ρb : Env} (hf : Fz (esc it) ρ ρ1) (he : evalE gt call it ρ1 ω = .ok (.list [x, y]) ω1) (h1 : evalS gt call b (ρ1.set i (.v false x)) ω1 = .ok (.nx ρa) ω1) (h2 : evalS gt call b (ρa.set i (.v false y)) ω1 = .ok (.nx ρb) ω1) (hc : ∃ w, evalS gt call c ρb ω1 = .ok o w) : ∃ w, evalS gt call (.seq (.for_ (.nm i) it b) c) ρ ω = .ok o w := by
  have hf : frz (esc it) ρ = ρ1 := hf
  rw [s_seq, forR he rfl hf, fLoop_cons, h1, kFb_nx, fLoop_cons, h2, kFb_nx, fLoop_nil, kS_nx]
  exact hc
/-- a loop over two -/
theorem sqFor2 {i : Nat} {it : E} {b c : S} {r : R Out} {x y : PyData} {ρa ρb : Env} (hf : Fz (esc it) ρ ρ1) (he : evalE gt call it ρ1 ω = .ok (.list [x, y]) ω1) (h1 : evalS gt call b (ρ1.set i (.v false x)) ω1 = .ok (.nx ρa) ω1) (h2 : evalS gt call b (ρa.set i (.v false y)) ω1 = .ok (.nx ρb) ω1) (hc : evalS gt call c ρb ω1 = r) : evalS gt call (.seq (.for_ (.nm i) it b) c) ρ ω = r := by
  have hf : frz (esc it) ρ = ρ1 := hf
  rw [s_seq, forR he rfl hf, fLoop_cons, h1, kFb_nx, fLoop_cons, h2, kFb_nx, fLoop_nil, kS_nx, hc]
/-- a comprehension that draws -/
theorem compDr {α β : Type} {enc : α → PyData} {en2 : β → PyData} {i : Nat} {it e : E} {xs : List α} {d : PyData} {Pr : β → Prop} (h : evalE gt call it ρ ω = .ok d ω1) (hd : itemsOf d = some (xs.map enc)) (hl : xs.length ≤ 1000000) (ho : ∀ y, okEl (en2 y) = true)
    (hb : ∀ x ∈ xs, ∀ ω, ∃ y ω', evalE gt call e ((clr [i] ρ).set i (.v false (enc x))) ω = .ok (en2 y) ω' ∧ Pr y) :
    ∃ (ys : List β) (ω' : Orc), evalE gt call (.comp (.nm i) it .nil e) ρ ω = .ok (.list (ys.map en2)) ω' ∧ ys.length = xs.length ∧ ∀ y ∈ ys, Pr y := by
  have go : ∀ (zs : List α), (∀ z ∈ zs, z ∈ xs) → ∀ (ω : Orc), ∃ (ys : List β) (ω' : Orc), compM (cBody gt call (.nm i) .nil e (clr [i] ρ)) (zs.map enc) ω = .ok (ys.map en2) ω' ∧ ys.length = zs.length ∧ ∀ y ∈ ys, Pr y := by
    intro zs
    induction zs with
    | nil => intro _ ω; exact ⟨[], ω, rfl, rfl, fun y hy => by cases hy⟩
    | cons x zs ih =>
      intro hz ω
      obtain ⟨y, w, h1, h2⟩ := hb x (hz x List.mem_cons_self) ω
      obtain ⟨ys, w2, h3, h4, h5⟩ := ih (fun z hzz => hz z (List.mem_cons_of_mem _ hzz)) w
      refine ⟨y :: ys, w2, ?_, by rw [List.length_cons, List.length_cons, h4], fun z hz => ?_⟩
      · rw [List.map_cons, compM, bnd_at]
        have e1 : cBody gt call (.nm i) .nil e (clr [i] ρ) (enc x) ω = .ok (some (en2 y)) w := by
          rw [cBody_nm, t_nil, kCt_t, h1, kCo_ok, if_pos (ho y)]
        rw [e1]
        show (compM (cBody gt call (.nm i) .nil e (clr [i] ρ)) (zs.map enc) >>= fun l => pure (en2 y :: l)) w = _
        rw [bnd_at, h3]
        rfl
      · rcases List.mem_cons.mp hz with e | e
        · subst e; exact h2
        · exact h5 z e
  obtain ⟨ys, w, h1, h2, h3⟩ := go xs (fun _ h => h) ω1
  refine ⟨ys, w, ?_, h2, h3⟩
  rw [evalE]
  refine noexc_ok ?_
  show (evalE gt call it ρ >>= fun x0 => M.ofO (itemsOf x0) >>= fun xs => M.guard (decide (xs.length ≤ 1000000)) (compM (cBody gt call (.nm i) .nil e (clr [i] ρ)) xs >>= fun ys => pure (PyData.list ys))) ω = _
  rw [bnd_at, h]
  show (M.ofO (itemsOf d) >>= fun xs => M.guard (decide (xs.length ≤ 1000000)) (compM (cBody gt call (.nm i) .nil e (clr [i] ρ)) xs >>= fun ys => pure (PyData.list ys))) ω1 = _
  rw [hd]
  show M.guard (decide ((xs.map enc).length ≤ 1000000)) (compM (cBody gt call (.nm i) .nil e (clr [i] ρ)) (xs.map enc) >>= fun ys => pure (PyData.list ys)) ω1 = _
  rw [decide_eq_true (by rw [List.length_map]; exact hl)]
  show (compM (cBody gt call (.nm i) .nil e (clr [i] ρ)) (xs.map enc) >>= fun ys => pure (PyData.list ys)) ω1 = _
  rw [bnd_at, h1]; rfl
/-- a test that must not hold -/
theorem exIf {e : E} {a b : S} {t : Bool} {o : Out} (hf : Fz (esc e) ρ ρ1) (he : evalE gt call e ρ1 ω = .ok (.bool t) ω1) (ht : t = false) (hb : ∃ w, evalS gt call b ρ1 ω1 = .ok o w) : ∃ w, evalS gt call (.seq (.ite e a .skip) b) ρ ω = .ok o w := by
  subst ht
  have hf : frz (esc e) ρ = ρ1 := hf
  rw [s_seq, iteF he rfl hf, s_skip, kS_nx]
  exact hb
theorem exRet {e : E} {b : S} {t : Bool} (hf : Fz (esc e) ρ ρ1) (he : evalE gt call e ρ1 ω = .ok (.bool t) ω1) (ht : t = true) : ∃ w, evalS gt call (.seq (.ret e) b) ρ ω = .ok (.rt (.bool true)) w := by
  subst ht
  exact ⟨ω1, sRetZ hf he rfl rfl⟩
end
end Wv

set_option autoImplicit false
set_option linter.all false
set_option maxRecDepth 100000
namespace Wv.T
open PySem Wv
abbrev C (n : Nat) := run gt P n
section
variable {n : Nat} {ω ω1 : Orc} {v : PyData} {c : Nat} {r : Env}
theorem r_size_of {a0 : Slot} (h : evalS gt (C n) (.seq (.ret (.tup (.cons (.b1 .len (.var 0)) (.cons (.b1 .len (.ix (.var 0) (.lit (.int 0)))) .nil))))
 .skip) [a0] ω = .ok (.rt v) ω1) : C (n + 1) 0 [a0] ω = .ok v ω1 := runOk (d := d_size_of) rfl rfl h
theorem r_columns_of {a0 : Slot} (h : evalS gt (C n) (.seq (.ret (.b1 .tuple (.comp (.nm 1) (.rng (.cons (.b1 .len (.ix (.var 0) (.lit (.int 0)))) .nil)) .nil (.b1 .tuple (.comp (.nm 2) (.var 0) .nil (.ix (.var 2) (.var 1)))))))
 .skip) [a0, .un, .un] ω = .ok (.rt v) ω1) : C (n + 1) 1 [a0] ω = .ok v ω1 := runOk (d := d_columns_of) rfl rfl h
theorem r_runs_of {a0 : Slot} (h : evalS gt (C n) (.seq (.asg (.nm 1) (.b1 .len (.var 0)))
 (.seq (.ite (.gen true (.nm 5) (.var 0) (.bin .eq (.var 5) (.ix (.var 0) (.lit (.int 0))))) (.seq (.ret (.lst (.cons (.tup (.cons (.lit (.int 0)) (.cons (.lit .none) (.cons (.ix (.var 0) (.lit (.int 0))) .nil)))) .nil)))
 .skip) .skip)
 (.seq (.asg (.nm 2) (.lst .nil))
 (.seq (.for_ (.nm 3) (.rng (.cons (.var 1) .nil)) (.seq (.ite (.bin .ne (.ix (.var 0) (.var 3)) (.ix (.var 0) (.bin .sub (.var 3) (.lit (.int 1))))) (.seq (.asg (.nm 4) (.lit (.int 1)))
 (.seq (.wh (.bin .eq (.ix (.var 0) (.bin .mod (.bin .add (.var 3) (.var 4)) (.var 1))) (.ix (.var 0) (.var 3))) (.seq (.aug 4 .add (.lit (.int 1)))
 .skip))
 (.seq (.app 2 (.tup (.cons (.var 3) (.cons (.var 4) (.cons (.ix (.var 0) (.var 3)) .nil)))))
 .skip))) .skip)
 .skip))
 (.seq (.ret (.var 2))
 .skip))))) [a0, .un, .un, .un, .un, .un] ω = .ok (.rt v) ω1) : C (n + 1) 2 [a0] ω = .ok v ω1 := runOk (d := d_runs_of) rfl rfl h
theorem r_warp_floats {a0 : Slot} (h : evalS gt (C n) (.seq (.asg (.nm 1) (.lst .nil))
 (.seq (.for_ (.tc (.nm 2) (.tc (.nm 3) .t0)) (.enm (.call 1 false (.cons (.var 0) .nil))) (.seq (.ext 1 (.comp (.nm 4) (.call 2 false (.cons (.var 3) .nil)) (.cons (.bo false (.cons (.bin .is_ (.ix (.var 4) (.lit (.int 1))) (.lit .none)) (.cons (.bin .gt (.ix (.var 4) (.lit (.int 1))) (.lit (.int 1))) .nil))) .nil) (.bin .add (.tup (.cons (.var 2) .nil)) (.var 4))))
 .skip))
 (.seq (.ret (.var 1))
 .skip))) [a0, .un, .un, .un, .un] ω = .ok (.rt v) ω1) : C (n + 1) 3 [a0] ω = .ok v ω1 := runOk (d := d_warp_floats) rfl rfl h
theorem r_weft_floats {a0 : Slot} (h : evalS gt (C n) (.seq (.asg (.nm 1) (.lst .nil))
 (.seq (.for_ (.tc (.nm 2) (.tc (.nm 3) .t0)) (.enm (.var 0)) (.seq (.ext 1 (.comp (.nm 4) (.call 2 false (.cons (.var 3) .nil)) (.cons (.bo false (.cons (.bin .is_ (.ix (.var 4) (.lit (.int 1))) (.lit .none)) (.cons (.bin .gt (.ix (.var 4) (.lit (.int 1))) (.lit (.int 1))) .nil))) .nil) (.bin .add (.tup (.cons (.var 2) .nil)) (.var 4))))
 .skip))
 (.seq (.ret (.var 1))
 .skip))) [a0, .un, .un, .un, .un] ω = .ok (.rt v) ω1) : C (n + 1) 4 [a0] ω = .ok v ω1 := runOk (d := d_weft_floats) rfl rfl h
theorem r_longest_warp {a0 : Slot} (h : evalS gt (C n) (.seq (.ret (.call 7 false (.cons (.call 1 false (.cons (.var 0) .nil)) .nil)))
 .skip) [a0] ω = .ok (.rt v) ω1) : C (n + 1) 5 [a0] ω = .ok v ω1 := runOk (d := d_longest_warp) rfl rfl h
theorem r_longest_weft {a0 : Slot} (h : evalS gt (C n) (.seq (.ret (.call 7 false (.cons (.var 0) .nil)))
 .skip) [a0] ω = .ok (.rt v) ω1) : C (n + 1) 6 [a0] ω = .ok v ω1 := runOk (d := d_longest_weft) rfl rfl h
theorem r_longest {a0 : Slot} (h : evalS gt (C n) (.seq (.asg (.nm 1) (.comp2 (.nm 2) (.var 0) .nil (.nm 3) (.call 2 false (.cons (.var 2) .nil)) .nil (.ix (.var 3) (.lit (.int 1)))))
 (.seq (.ret (.ite (.bin .in_ (.lit .none) (.var 1)) (.lit .none) (.b1 .max (.var 1))))
 .skip)) [a0, .un, .un, .un] ω = .ok (.rt v) ω1) : C (n + 1) 7 [a0] ω = .ok v ω1 := runOk (d := d_longest) rfl rfl h
theorem r_loose_threads {a0 : Slot} (h : evalS gt (C n) (.seq (.asg (.nm 1) (.comp (.tc (.nm 3) (.tc (.nm 4) .t0)) (.enm (.call 1 false (.cons (.var 0) .nil))) (.cons (.bin .is_ (.ix (.ix (.call 2 false (.cons (.var 4) .nil)) (.lit (.int 0))) (.lit (.int 1))) (.lit .none)) .nil) (.var 3)))
 (.seq (.asg (.nm 2) (.comp (.tc (.nm 5) (.tc (.nm 6) .t0)) (.enm (.var 0)) (.cons (.bin .is_ (.ix (.ix (.call 2 false (.cons (.var 6) .nil)) (.lit (.int 0))) (.lit (.int 1))) (.lit .none)) .nil) (.var 5)))
 (.seq (.ret (.tup (.cons (.b1 .tuple (.var 1)) (.cons (.b1 .tuple (.var 2)) .nil))))
 .skip))) [a0, .un, .un, .un, .un, .un, .un] ω = .ok (.rt v) ω1) : C (n + 1) 8 [a0] ω = .ok v ω1 := runOk (d := d_loose_threads) rfl rfl h
theorem r_crossings {a0 : Slot} (h : evalS gt (C n) (.seq (.ret (.b1 .len (.comp (.nm 1) (.rng (.cons (.b1 .len (.var 0)) .nil)) (.cons (.bin .ne (.ix (.var 0) (.var 1)) (.ix (.var 0) (.bin .sub (.var 1) (.lit (.int 1))))) .nil) (.var 1))))
 .skip) [a0, .un] ω = .ok (.rt v) ω1) : C (n + 1) 9 [a0] ω = .ok v ω1 := runOk (d := d_crossings) rfl rfl h
theorem r_warp_crossings {a0 : Slot} (h : evalS gt (C n) (.seq (.ret (.b1 .tuple (.comp (.nm 1) (.call 1 false (.cons (.var 0) .nil)) .nil (.call 9 false (.cons (.var 1) .nil)))))
 .skip) [a0, .un] ω = .ok (.rt v) ω1) : C (n + 1) 10 [a0] ω = .ok v ω1 := runOk (d := d_warp_crossings) rfl rfl h
theorem r_weft_crossings {a0 : Slot} (h : evalS gt (C n) (.seq (.ret (.b1 .tuple (.comp (.nm 1) (.var 0) .nil (.call 9 false (.cons (.var 1) .nil)))))
 .skip) [a0, .un] ω = .ok (.rt v) ω1) : C (n + 1) 11 [a0] ω = .ok v ω1 := runOk (d := d_weft_crossings) rfl rfl h
theorem r_is_even_take_up {a0 : Slot} (h : evalS gt (C n) (.seq (.par (.tc (.nm 1) (.tc (.nm 2) .t0)) (.cons (.call 10 false (.cons (.var 0) .nil)) (.cons (.call 11 false (.cons (.var 0) .nil)) .nil)))
 (.seq (.ret (.bo true (.cons (.bin .eq (.b1 .min (.var 1)) (.b1 .max (.var 1))) (.cons (.bin .eq (.b1 .min (.var 2)) (.b1 .max (.var 2))) .nil))))
 .skip)) [a0, .un, .un] ω = .ok (.rt v) ω1) : C (n + 1) 12 [a0] ω = .ok v ω1 := runOk (d := d_is_even_take_up) rfl rfl h
theorem r_firmness {a0 : Slot} (h : evalS gt (C n) (.seq (.asg (.tc (.nm 1) (.tc (.nm 2) .t0)) (.call 0 false (.cons (.var 0) .nil)))
 (.seq (.ret (.tup (.cons (.bin .add (.b1 .sum (.call 10 false (.cons (.var 0) .nil))) (.b1 .sum (.call 11 false (.cons (.var 0) .nil)))) (.cons (.bin .mul (.bin .mul (.lit (.int 2)) (.var 1)) (.var 2)) .nil))))
 .skip)) [a0, .un, .un] ω = .ok (.rt v) ω1) : C (n + 1) 13 [a0] ω = .ok v ω1 := runOk (d := d_firmness) rfl rfl h
theorem r_float_counts {a0 : Slot} (h : evalS gt (C n) (.seq (.asg (.nm 1) (.dic .nil))
 (.seq (.for_ (.nm 2) (.call 1 false (.cons (.var 0) .nil)) (.seq (.for_ (.tc (.nm 3) (.tc (.nm 4) (.tc (.nm 3) .t0))) (.call 2 false (.cons (.var 2) .nil)) (.seq (.ite (.bin .isn (.var 4) (.lit .none)) (.seq (.setix 1 (.var 4) (.bin .add (.mget (.pk 1) (.var 4) (.lit (.int 0))) (.lit (.int 1))))
 .skip) .skip)
 .skip))
 .skip))
 (.seq (.ret (.comp (.nm 4) (.b1 .sorted (.pk 1)) .nil (.tup (.cons (.var 4) (.cons (.ix (.pk 1) (.var 4)) .nil)))))
 .skip))) [a0, .un, .un, .un, .un] ω = .ok (.rt v) ω1) : C (n + 1) 14 [a0] ω = .ok v ω1 := runOk (d := d_float_counts) rfl rfl h
theorem r_same_side_pairs {a0 : Slot} (h : evalS gt (C n) (.seq (.asg (.nm 1) (.call 1 false (.cons (.var 0) .nil)))
 (.seq (.asg (.nm 2) (.comp (.nm 4) (.rng (.cons (.b1 .len (.var 1)) .nil)) (.cons (.bin .eq (.ix (.var 1) (.var 4)) (.ix (.var 1) (.bin .mod (.bin .add (.var 4) (.lit (.int 1))) (.b1 .len (.var 1))))) .nil) (.var 4)))
 (.seq (.asg (.nm 3) (.comp (.nm 5) (.rng (.cons (.b1 .len (.var 0)) .nil)) (.cons (.bin .eq (.ix (.var 0) (.var 5)) (.ix (.var 0) (.bin .mod (.bin .add (.var 5) (.lit (.int 1))) (.b1 .len (.var 0))))) .nil) (.var 5)))
 (.seq (.ret (.tup (.cons (.b1 .tuple (.var 2)) (.cons (.b1 .tuple (.var 3)) .nil))))
 .skip)))) [a0, .un, .un, .un, .un, .un] ω = .ok (.rt v) ω1) : C (n + 1) 15 [a0] ω = .ok v ω1 := runOk (d := d_same_side_pairs) rfl rfl h
theorem r__law_draw {a0 a1 : Slot} (h : evalS gt (C n) (.seq (.ite (.bin .lt (.sget 0 0) (.var 1)) (.seq (.asg (.nm 3) (.sget 0 1))
 (.seq (.sset 0 1 (.bin .add (.var 3) (.lit (.int 1))))
 (.seq (.asg (.nm 4) (.lit (.int 0)))
 (.seq (.ite (.bin .lt (.var 3) (.slen 0)) (.seq (.asg (.nm 4) (.scell 0 3))
 .skip) .skip)
 (.seq (.ite (.bin .ge (.var 4) (.bin .pow (.lit (.int 10)) (.lit (.int 18)))) (.seq (.sset 0 0 (.var 4))
 .skip) (.seq (.sset 0 3 (.bin .mod (.b1 .int (.bin .mul (.bin .add (.bin .add (.bin .add (.sget 0 3) (.bin .mod (.b1 .int (.var 4)) (.lit (.int 2147483629)))) (.var 3)) (.lit (.int 1))) (.lit (.int 48271)))) (.lit (.int 2147483647))))
 (.seq (.asg (.nm 5) (.bin .mod (.b1 .int (.bin .add (.bin .mul (.sget 0 3) (.lit (.int 69621))) (.lit (.int 11)))) (.lit (.int 2147483629))))
 (.seq (.sset 0 0 (.bin .add (.bin .mul (.var 5) (.lit (.int 2147483647))) (.bin .mod (.b1 .int (.bin .add (.bin .mul (.var 5) (.lit (.int 30011))) (.sget 0 3))) (.lit (.int 2147483587)))))
 .skip))))
 .skip))))) .skip)
 (.seq (.asg (.nm 2) (.bin .mod (.b1 .int (.sget 0 0)) (.var 1)))
 (.seq (.sset 0 0 (.bin .fdiv (.sget 0 0) (.var 1)))
 (.seq (.ret (.var 2))
 .skip)))) [a0, a1, .un, .un, .un, .un] ω = .ok (.rt v) ω1) : C (n + 1) 16 [a0, a1] ω = .ok v ω1 := runOk (d := d__law_draw) rfl rfl h
theorem r__law_cloth {a0 a1 a2 : Slot} (h : evalS gt (C n) (.seq (.ret (.b1 .tuple (.comp (.nm 3) (.rng (.cons (.var 1) .nil)) .nil (.b1 .tuple (.comp (.nm 4) (.rng (.cons (.var 2) .nil)) .nil (.draw 0 (.lit (.int 2))))))))
 .skip) [a0, a1, a2, .un, .un] ω = .ok (.rt v) ω1) : C (n + 1) 17 [a0, a1, a2] ω = .ok v ω1 := runOk (d := d__law_cloth) rfl rfl h
theorem r__law_columns {a0 : Slot} (h : evalS gt (C n) (.seq (.ret (.comp (.nm 1) (.rng (.cons (.b1 .len (.ix (.var 0) (.lit (.int 0)))) .nil)) .nil (.b1 .tuple (.comp (.nm 2) (.var 0) .nil (.ix (.var 2) (.var 1))))))
 .skip) [a0, .un, .un] ω = .ok (.rt v) ω1) : C (n + 1) 18 [a0] ω = .ok v ω1 := runOk (d := d__law_columns) rfl rfl h
theorem r__law_moved {a0 a1 a2 : Slot} (h : evalS gt (C n) (.seq (.asg (.nm 3) (.b1 .len (.var 0)))
 (.seq (.asg (.nm 4) (.b1 .len (.ix (.var 0) (.lit (.int 0)))))
 (.seq (.ret (.b1 .tuple (.comp (.nm 5) (.rng (.cons (.var 3) .nil)) .nil (.b1 .tuple (.comp (.nm 6) (.rng (.cons (.var 4) .nil)) .nil (.ix (.ix (.var 0) (.bin .mod (.b1 .int (.bin .sub (.var 5) (.var 1))) (.var 3))) (.bin .mod (.b1 .int (.bin .sub (.var 6) (.var 2))) (.var 4))))))))
 .skip))) [a0, a1, a2, .un, .un, .un, .un] ω = .ok (.rt v) ω1) : C (n + 1) 19 [a0, a1, a2] ω = .ok v ω1 := runOk (d := d__law_moved) rfl rfl h
theorem r__law_runs {a0 : Slot} (h : evalS gt (C n) (.seq (.asg (.nm 1) (.b1 .len (.var 0)))
 (.seq (.ite (.bin .eq (.b1 .len (.setof (.var 0))) (.lit (.int 1))) (.seq (.ret (.lst (.cons (.tup (.cons (.lit (.int 0)) (.cons (.lit .none) (.cons (.ix (.var 0) (.lit (.int 0))) .nil)))) .nil)))
 .skip) .skip)
 (.seq (.asg (.nm 2) (.lst .nil))
 (.seq (.for_ (.nm 3) (.rng (.cons (.var 1) .nil)) (.seq (.ite (.bin .ne (.ix (.var 0) (.var 3)) (.ix (.var 0) (.bin .mod (.b1 .int (.bin .sub (.var 3) (.lit (.int 1)))) (.var 1)))) (.seq (.asg (.nm 4) (.lit (.int 1)))
 (.seq (.wh (.bin .eq (.ix (.var 0) (.bin .mod (.b1 .int (.bin .add (.var 3) (.var 4))) (.var 1))) (.ix (.var 0) (.var 3))) (.seq (.asg (.nm 4) (.bin .add (.var 4) (.lit (.int 1))))
 .skip))
 (.seq (.app 2 (.tup (.cons (.var 3) (.cons (.var 4) (.cons (.ix (.var 0) (.var 3)) .nil)))))
 .skip))) .skip)
 .skip))
 (.seq (.ret (.var 2))
 .skip))))) [a0, .un, .un, .un, .un] ω = .ok (.rt v) ω1) : C (n + 1) 20 [a0] ω = .ok v ω1 := runOk (d := d__law_runs) rfl rfl h
end
end Wv.T

set_option autoImplicit false
set_option linter.all false
set_option maxRecDepth 100000
set_option maxHeartbeats 400000
set_option exponentiation.threshold 4000
namespace Wv.T
open PySem Wv
local macro_rules
| `(tactic| nomatch $as,*) => do
  let ap := fun (a : Lean.Term) => `(Lean.Parser.Tactic.tacticSeq| with_reducible apply $a)
  let ts ← as.getElems.mapM ap
  let ls ← (#[``evVar, ``evLit, ``evPk, ``evBin, ``evIx, ``evB1, ``evB2, ``evTup, ``evLst, ``evEc, ``evEn, ``evCall, ``evAn, ``evComp, ``evCompT, ``evCompIf, ``evAll, ``evAny, ``evRng, ``evNot, ``evNeg, ``evIsa, ``evMcount, ``evMindex, ``evEnm, ``evRev, ``evSetof, ``evSset, ``evMgetC, ``evDic0, ``evSl, ``evGlb, ``evBo, ``evOr, ``evAnd, ``evBo1, ``e_bt, ``evBt1, ``evBtOr, ``evBtAnd, ``evChain, ``evT1, ``evTc, ``evTn, ``evDraw] : Array Lean.Name).mapM fun x => ap (Lean.mkIdent x)
  let ss ← (#[``sqAsg, ``sqAsgT, ``sqPar, ``sqAug, ``sqApp, ``sqExt, ``sqExpr, ``sqWh, ``sqSetix, ``sqAugix, ``sSeqA, ``sSkipS, ``kS_seq', ``kS_skip', ``kS_ret', ``sRetZ, ``sRet0, ``sAsgZ, ``sAsgT, ``sPar, ``sAugZ, ``sApp, ``sExt, ``sSetixC, ``sExprZ, ``sSkipE, ``sIfZ] : Array Lean.Name).mapM fun x => ap (Lean.mkIdent x)
  let os ← (#[``ne_self, ``eq_self', ``isa_l, ``isa_t, ``isa_lt, ``isa_tl, ``add_ii, ``sub_ii, ``lt_ii, ``le_ii, ``gt_ii, ``ge_ii, ``eq_ii, ``ne_ii, ``eq_iT, ``ne_iT, ``eq_iL, ``ne_iL, ``is_oI, ``isn_oI, ``in_iL, ``nin_iL, ``in_iT, ``nin_iT, ``len_lm, ``len_tm, ``p1_sum_l, ``p1_sum_t, ``sum_lm, ``sum_tm, ``p1_int, ``mod_ii, ``sl_tm, ``sl_lm, ``ix_C, ``ix_mod, ``ixl_mod, ``ix_0, ``ixl_0, ``ix_n, ``ixl_n, ``ix_py, ``ixl_py, ``rng_n, ``enm_tm, ``enm_lm, ``gt_oI, ``in_noI, ``set_iT, ``set_iL, ``cat_t, ``cat_l, ``is_nn, ``is_in, ``isn_nn, ``isn_in] : Array Lean.Name).mapM fun x => ap (Lean.mkIdent x)
  let fs ← as.getElems.mapM fun a => `(Lean.Parser.Tactic.tacticSeq| (have hzz := $a _ ‹_›; (try simp only [List.length_map, List.length_range] at *); omega))
  `(tactic| repeat' (first
    | ((with_reducible apply Fz.no); rfl)
    | ((with_reducible apply Fz.mk); (conv => lhs; simp only [frz, esc, escs, List.append_nil, List.nil_append, List.cons_append, List.modify_succ_cons, List.modify_zero_cons, frz1_v, frz1_u, frz1_s, frz1_f, frz1_frz1]))
    | ((with_reducible apply Fz.mk); rfl)
    | with_reducible apply St.s
    | with_reducible exact St.z
    | ((with_reducible apply Cr.mk); (conv => lhs; simp only [clr, tgS, List.append_nil, List.nil_append, List.cons_append, List.set_cons_succ, List.set_cons_zero]))
    | ((with_reducible apply Cr.mk); rfl)
    | ((with_reducible apply Sm.mk); with_reducible rfl)
    | ((with_reducible show (_ : Option Slot) = _); rfl)
    | ((with_reducible show (_ : Option (List PyData)) = _); rfl)
    | ((with_reducible show (_ : Option (Option Int)) = _); rfl)
    | ((with_reducible show (_ : Option PyData) = _); first | assumption | (first $[| $ts]*) | (first $[| $os]*) | rfl)
    | ((with_reducible show (_ : Option Bool) = _); first | assumption | rfl)
    | ((with_reducible show List.all _ okEl = true); first | exact okNil | refine okCons ?_ ?_)
    | ((with_reducible show (_ : Bool) = _); first | exact @rfl Bool false | exact @rfl Bool true | rfl | assumption)
    | ((with_reducible show (_ : Orc) = _); rfl)
    | ((with_reducible show (_ : PyData) = _); with_reducible rfl)
    | ((with_reducible show (_ : R _) = _); first
      | with_reducible assumption
      | (first $[| $ls]*)
      | with_reducible apply evCallS
      | with_reducible exact evAn | ((with_reducible apply evAv); rfl) | ((with_reducible apply evAs'); rfl) | with_reducible apply evAg | ((with_reducible apply evAf); rfl) | ((with_reducible apply evAe); rfl)
      | (first $[| $ss]*)
      | (first $[| $ts]*)
      | ((with_reducible apply asgT_rfl); rfl)
      | ((with_reducible apply parT_rfl); rfl))
    | ((with_reducible show Sh _ _); with_reducible assumption)
    | with_reducible apply sh_i | with_reducible apply sh_n | with_reducible apply sh_b | with_reducible apply sh_oI | with_reducible apply sh_lm | with_reducible apply sh_tm | with_reducible apply sh_l | with_reducible apply sh_t | with_reducible apply sh_cons | with_reducible apply sh_nil
    | ((with_reducible show ∀ x ∈ (_ : List _), _); intro x hx; (try (have hxr := List.mem_range.mp hx)); (try (have hxr := List.mem_filter.mp hx)))
    | ((with_reducible show (_ = _) → _); intro hx; first | exact absurd hx (by decide) | exact (cTF hx (by assumption)).elim | exact (cTF (by assumption) hx).elim | skip)
    | ((with_reducible show (_ : Prop)); with_reducible assumption)
    | ((first | (with_reducible show (_ : Nat) ≤ _) | (with_reducible show (_ : Nat) < _) | (with_reducible show (_ : Int) ≤ _) | (with_reducible show (_ : Int) < _)); omega)
    | ((first | (with_reducible show (_ : Nat) ≤ _) | (with_reducible show (_ : Nat) < _) | (with_reducible show (_ : Int) ≤ _) | (with_reducible show (_ : Int) < _)); simp only [List.length_map, List.length_range, List.length_append, List.length_cons, List.length_nil]; omega)
    | ((first | (with_reducible show (_ : Nat) ≤ _) | (with_reducible show (_ : Nat) < _) | (with_reducible show (_ : Int) ≤ _) | (with_reducible show (_ : Int) < _)); first $[| $fs]*)
    | ((with_reducible show _ ∈ _); first $[| $ts]*)
    ))
structure Cl (c : List (List Int)) (p e : Nat) : Prop where
  len : c.length = p
  row : ∀ r ∈ c, r.length = e
  hp : 1 ≤ p
  hp2 : p ≤ 64
  he : 1 ≤ e
  he2 : e ≤ 64
abbrev cT (c : List (List Int)) : PyData := .tuple (c.map iT)
abbrev vs (d : PyData) : Slot := .v false d
def cols (c : List (List Int)) (e : Nat) : List (List Int) := (List.range e).map fun j => c.map fun r => nth r j
theorem cols_cl {c : List (List Int)} {p e : Nat} (h : Cl c p e) : Cl (cols c e) e p :=
  ⟨by simp [cols], fun r hr => by
    obtain ⟨j, _, rfl⟩ := List.mem_map.mp hr
    rw [List.length_map, h.len], h.he, h.he2, h.hp, h.hp2⟩
variable {c : List (List Int)} {p e : Nat} {ω : Orc} {n : Nat}
theorem c_size (h : Cl c p e) : C (n + 1) 0 [vs (cT c)] ω = .ok (.tuple [.int p, .int e]) ω := by
  have hr := h.row
  have hl := h.len
  have hpp := h.hp
  refine r_size_of ?_
  nomatch hr
  rw [h.len, h.row _ (nth_mem (by omega))]
theorem c_columns (h : Cl c p e) : C (n + 1) 1 [vs (cT c)] ω = .ok (cT (cols c e)) ω := by
  have hr := h.row
  have hl := h.len
  have hpp := h.hp
  have hp2 := h.hp2
  have he := h.he2
  have h0 := h.row _ (nth_mem (i := 0) (by omega))
  refine r_columns_of ?_
  nomatch hr
  simp [cols, h0, Function.comp_def]
theorem l_columns (h : Cl c p e) : C (n + 1) 18 [vs (cT c)] ω = .ok (.list ((cols c e).map iT)) ω := by
  have hr := h.row
  have hl := h.len
  have hpp := h.hp
  have hp2 := h.hp2
  have he := h.he2
  have h0 := h.row _ (nth_mem (i := 0) (by omega))
  refine r__law_columns ?_
  nomatch hr
  simp [cols, h0, Function.comp_def]
/-! runs -/
abbrev Rn := Int × Option Int × Int
abbrev enR (r : Rn) : PyData := .tuple [.int r.1, oI r.2.1, .int r.2.2]
def chg (row : List Int) (k : Nat) : Bool := !decide (nth row k = pyAt row ((k : Int) - 1))
def rl (row : List Int) (k : Nat) : Int := itW (fun l : Int => decide (pyAt row (((k : Int) + l) % row.length) = nth row k)) (· + 1) row.length 1
def runs (row : List Int) : List Rn := if row.all (fun x => decide (x = nth row 0)) then [(0, none, nth row 0)] else ((List.range row.length).filter (chg row)).map fun (k : Nat) => ((k : Int), some (rl row k), nth row k)
theorem runs_len (row : List Int) (h : 1 ≤ row.length) : (runs row).length ≤ row.length := by
  unfold runs
  split
  · simpa using h
  · rw [List.length_map]
    exact Nat.le_trans (List.length_filter_le _ _) (by simp)
/-- where all stay alike all are alike -/
theorem all_same {row : List Int} {k : Nat} (hk : k < row.length) (h : ∀ l : Nat, 1 ≤ l → l < row.length → nth row ((k + l) % row.length) = nth row k) : row.all (fun x => decide (x = nth row 0)) = true := by
  have key : ∀ j, j < row.length → nth row j = nth row k := by
    intro j hj
    by_cases e : j = k
    · rw [e]
    · by_cases g : k < j
      · have := h (j - k) (by omega) (by omega)
        rwa [show k + (j - k) = j by omega, Nat.mod_eq_of_lt hj] at this
      · have := h (j + row.length - k) (by omega) (by omega)
        rwa [show k + (j + row.length - k) = j + row.length by omega, Nat.add_mod_right, Nat.mod_eq_of_lt hj] at this
  rw [List.all_eq_true]
  intro x hx
  obtain ⟨j, hj, rfl⟩ := List.mem_iff_getElem.mp hx
  rw [← nth_get hj, key j hj, key 0 (by omega)]
  simp
def LI (row : List Int) (k : Nat) (l : Int) : Prop := 1 ≤ l ∧ l ≤ row.length ∧ ∀ m : Nat, 1 ≤ m → (m : Int) < l → nth row ((k + m) % row.length) = nth row k
theorem pm (row : List Int) (k : Nat) {l : Int} (h : 0 ≤ l) : pyAt row (((k : Int) + l) % row.length) = nth row ((k + l.toNat) % row.length) := by
  obtain ⟨m, rfl⟩ := Int.eq_ofNat_of_zero_le h
  rw [← Int.natCast_add, ← Int.natCast_emod, pyAt_nat]; rfl
theorem LI_lt {row : List Int} {k : Nat} (hk : k < row.length) (ha : row.all (fun x => decide (x = nth row 0)) = false) : ∀ l, LI row k l → pyAt row (((k : Int) + l) % row.length) = nth row k → l < row.length := by
  intro l hl hs
  refine Decidable.byContradiction fun hn => ?_
  have hle : l = row.length := by have := hl.2.1; omega
  have := all_same hk (fun m h1 h2 => hl.2.2 m h1 (by omega))
  rw [this] at ha; cases ha
theorem rl_bd {row : List Int} {k : Nat} (hk : k < row.length) (ha : row.all (fun x => decide (x = nth row 0)) = false) : 1 ≤ rl row k ∧ rl row k ≤ row.length := by
  have := itW_inv (c := fun l : Int => decide (pyAt row (((k : Int) + l) % row.length) = nth row k)) (f := (· + 1)) (Inv := LI row k) (fun l hl hs => by
    have hs : pyAt row (((k : Int) + l) % row.length) = nth row k := by simpa using hs
    have h1 := LI_lt hk ha l hl hs
    have hl1 := hl.1
    refine ⟨by omega, by omega, fun m h2 h3 => ?_⟩
    by_cases e : (m : Int) = l
    · rw [pm row k (by omega)] at hs
      rwa [show l.toNat = m by omega] at hs
    · exact hl.2.2 m h2 (by omega)) row.length 1 ⟨by omega, by omega, fun m h1 h2 => by omega⟩
  exact ⟨this.1, this.2.1⟩
theorem fuel_ge : (10 : Nat) ^ 100 ≤ whFuel := Nat.pow_le_pow_right (by decide) (by decide)
theorem whl {ρ : Int → Env} {row : List Int} {k : Nat} {e1 : E} {b1 : S} {call : Nat → List Slot → M PyData} (hk : k < row.length) (h64 : row.length ≤ 64) (ha : row.all (fun x => decide (x = nth row 0)) = false)
    (hf : ∀ l, frz (esc e1) (ρ l) = ρ l) (hc : ∀ l, 1 ≤ l → evalE gt call e1 (ρ l) ω = .ok (.bool (decide (pyAt row (((k : Int) + l) % row.length) = nth row k))) ω) (hb : ∀ l, evalS gt call b1 (ρ l) ω = .ok (.nx (ρ (l + 1))) ω) :
    evalS gt call (.wh e1 b1) (ρ 1) ω = .ok (.nx (ρ (rl row k))) ω ∧ 1 ≤ rl row k ∧ rl row k ≤ row.length := by
  have hlt := LI_lt hk ha
  have := wLoop_it (gt := gt) (call := call) (ω := ω) (e := e1) (b := b1) (E := ρ) (c := fun l : Int => decide (pyAt row (((k : Int) + l) % row.length) = nth row k)) (f := (· + 1)) (μ := fun l => (row.length - l).toNat) (Inv := LI row k)
    (fun l hl => ⟨hf l, _, hc l hl.1, rfl⟩)
    (fun l hl hs => by
      have hs : pyAt row (((k : Int) + l) % row.length) = nth row k := by simpa using hs
      have h1 := hlt l hl hs
      have hl1 := hl.1
      refine ⟨hb l, ⟨by omega, by omega, fun m h2 h3 => ?_⟩, by omega⟩
      by_cases e : (m : Int) = l
      · rw [pm row k (by omega)] at hs
        rwa [show l.toNat = m by omega] at hs
      · exact hl.2.2 m h2 (by omega))
    row.length 1 ⟨by omega, by omega, fun m h1 h2 => by omega⟩ (by omega) whFuel (Nat.lt_of_lt_of_le (show row.length < 10 ^ 100 by omega) fuel_ge)
  rw [s_wh]
  exact ⟨this.1, this.2.1.1, this.2.1.2.1⟩
theorem mod_pred {row : List Int} {k : Nat} (hk : k < row.length) : pyAt row (((k : Int) - 1) % row.length) = pyAt row ((k : Int) - 1) := by
  by_cases h : k = 0
  · subst h
    have : ((0 : Nat) : Int) - 1 = (row.length - 1) + (-1) * row.length := by omega
    rw [this, Int.add_mul_emod_self_right, Int.emod_eq_of_lt (by omega) (by omega)]
    unfold pyAt
    rw [if_pos (by omega), if_neg (by omega)]
    congr 1
    omega
  · rw [Int.emod_eq_of_lt (by omega) (by omega)]
theorem wl_body {row : List Int} {k : Nat} (f : Slot) (g : Slot) (h : 1 ≤ row.length) (h2 : row.length ≤ 64) (hk : k < row.length) (hx : row.all (fun x => decide (x = nth row 0)) = false) :
    evalS gt (C n) (.wh (.bin .eq (.ix (.var 0) (.bin .mod (.bin .add (.var 3) (.var 4)) (.var 1))) (.ix (.var 0) (.var 3))) (.seq (.aug 4 .add (.lit (.int 1))) .skip))
      [vs (iT row), vs (.int row.length), f, vs (.int k), vs (.int 1), g] ω = .ok (.nx [vs (iT row), vs (.int row.length), f, vs (.int k), vs (.int (rl row k)), g]) ω := by
  refine (whl (ρ := fun l => [vs (iT row), vs (.int row.length), f, vs (.int k), vs (.int l), g]) hk h2 hx (fun l => rfl) (fun l hl => ?_) (fun l => ?_)).1
  · have m1 : bop .mod (.int (k + l)) (.int row.length) = some (.int (((k : Int) + l) % row.length)) := mod_ii (by omega)
    have := Int.emod_nonneg (k + l) (b := row.length) (by omega)
    have := Int.emod_lt_of_pos (k + l) (b := row.length) (by omega)
    nomatch h
  · nomatch h
theorem c_runs {row : List Int} (h : 1 ≤ row.length) (h2 : row.length ≤ 64) : C (n + 1) 2 [vs (iT row)] ω = .ok (.list ((runs row).map enR)) ω := by
  refine r_runs_of ?_
  nomatch h
  · unfold runs; rw [if_pos ‹_›]; rfl
  · rename_i hx
    apply sqForApp (β := Slot × Slot) (E := fun ds v => [vs (iT row), vs (.int row.length), .v true (.list ds), v.1, v.2, .un]) (g := fun k => if chg row k = true then [enR ((k : Int), some (rl row k), nth row k)] else []) (xs := List.range row.length) (enc := fun k : Nat => .int k) (ds := []) (v := (.un, .un))
    · rfl
    · nomatch h
    · rfl
    · rfl
    · intro x ds v; rfl
    · have := flat_le (k := 1) (xs := List.range row.length) (g := fun k => if chg row k = true then [enR ((k : Int), some (rl row k), nth row k)] else []) (fun k _ => by split <;> simp)
      simp at this ⊢
      omega
    · intro k hk ds v hl
      have hk := List.mem_range.mp hk
      dsimp only [List.set]
      cases hc : chg row k with
      | false =>
        simp only [Bool.false_eq_true, if_false, List.append_nil]
        have hc : (!decide (nth row k = pyAt row ((k : Int) - 1))) = false := hc
        refine ⟨(vs (.int k), v.2), ?_⟩
        nomatch h
      | true =>
        simp only [if_true]
        have hc : (!decide (nth row k = pyAt row ((k : Int) - 1))) = true := hc
        refine ⟨(vs (.int k), vs (.int (rl row k))), ?_⟩
        have hl : ds.length + 1 < 1000000 := by rw [if_pos ‹_›] at hl; exact hl
        nomatch wl_body
        rfl
    · intro v
      nomatch h
      unfold runs
      rw [hx]
      simp [flat_if, Function.comp_def]
theorem lwl_body {row : List Int} {k : Nat} (f : Slot) (h : 1 ≤ row.length) (h2 : row.length ≤ 64) (hk : k < row.length) (hx : row.all (fun x => decide (x = nth row 0)) = false) :
    evalS gt (C n) (.wh (.bin .eq (.ix (.var 0) (.bin .mod (.b1 .int (.bin .add (.var 3) (.var 4))) (.var 1))) (.ix (.var 0) (.var 3))) (.seq (.asg (.nm 4) (.bin .add (.var 4) (.lit (.int 1)))) .skip))
      [vs (iT row), vs (.int row.length), f, vs (.int k), vs (.int 1)] ω = .ok (.nx [vs (iT row), vs (.int row.length), f, vs (.int k), vs (.int (rl row k))]) ω := by
  refine (whl (ρ := fun l => [vs (iT row), vs (.int row.length), f, vs (.int k), vs (.int l)]) hk h2 hx (fun l => rfl) (fun l hl => ?_) (fun l => ?_)).1
  · have m1 : bop .mod (.int (k + l)) (.int row.length) = some (.int (((k : Int) + l) % row.length)) := mod_ii (by omega)
    have := Int.emod_nonneg (k + l) (b := row.length) (by omega)
    have := Int.emod_lt_of_pos (k + l) (b := row.length) (by omega)
    nomatch p1_int
  · nomatch h
theorem l_runs {row : List Int} (h : 1 ≤ row.length) (h2 : row.length ≤ 64) : C (n + 1) 20 [vs (iT row)] ω = .ok (.list ((runs row).map enR)) ω := by
  have e1 : decide (((ddp row).length : Int) = 1) = row.all (fun x => decide (x = nth row 0)) := by
    rw [← ddp_one h]; exact Bool.eq_iff_iff.mpr (by rw [decide_eq_true_eq, decide_eq_true_eq]; omega)
  refine r__law_runs ?_
  nomatch h
  · unfold runs; rw [if_pos (by rw [← e1]; assumption)]; rfl
  · rename_i hx
    rw [e1] at hx
    apply sqForApp (β := Slot × Slot) (E := fun ds v => [vs (iT row), vs (.int row.length), .v true (.list ds), v.1, v.2]) (g := fun k => if chg row k = true then [enR ((k : Int), some (rl row k), nth row k)] else []) (xs := List.range row.length) (enc := fun k : Nat => .int k) (ds := []) (v := (.un, .un))
    · rfl
    · nomatch h
    · rfl
    · rfl
    · intro x ds v; rfl
    · have := flat_le (k := 1) (xs := List.range row.length) (g := fun k => if chg row k = true then [enR ((k : Int), some (rl row k), nth row k)] else []) (fun k _ => by split <;> simp)
      simp at this ⊢
      omega
    · intro k hk ds v hl
      have hk := List.mem_range.mp hk
      have m1 : bop .mod (.int ((k : Int) - 1)) (.int row.length) = some (.int (((k : Int) - 1) % row.length)) := mod_ii (by omega)
      have := Int.emod_nonneg ((k : Int) - 1) (b := row.length) (by omega)
      have := Int.emod_lt_of_pos ((k : Int) - 1) (b := row.length) (by omega)
      dsimp only [List.set]
      cases hc : chg row k with
      | false =>
        simp only [Bool.false_eq_true, if_false, List.append_nil]
        have hc : (!decide (nth row k = pyAt row (((k : Int) - 1) % row.length))) = false := by rw [mod_pred hk]; exact hc
        refine ⟨(vs (.int k), v.2), ?_⟩
        nomatch p1_int
      | true =>
        simp only [if_true]
        have hc : (!decide (nth row k = pyAt row (((k : Int) - 1) % row.length))) = true := by rw [mod_pred hk]; exact hc
        refine ⟨(vs (.int k), vs (.int (rl row k))), ?_⟩
        have hl : ds.length + 1 < 1000000 := by rw [if_pos ‹_›] at hl; exact hl
        nomatch lwl_body, p1_int
        rfl
    · intro v
      nomatch h
      unfold runs
      rw [hx]
      simp [flat_if, Function.comp_def]
/-! floats -/
def isF (r : Rn) : Bool := r.2.1.isNone || decide (1 < r.2.1.getD 0)
abbrev en4 (i : Nat) (r : Rn) : PyData := .tuple [.int i, .int r.1, oI r.2.1, .int r.2.2]
def wf (xs : List (List Int)) : List PyData := (List.range xs.length).flatMap fun i => ((runs (nth xs i)).filter isF).map (en4 i)
theorem wf_len {xs : List (List Int)} {k e : Nat} (h : Cl xs k e) : (wf xs).length ≤ 64 * 64 := by
  refine Nat.le_trans (flat_le (k := 64) fun i hi => ?_) (by have := h.hp2; have := h.len; simp; omega)
  have hi := List.mem_range.mp hi
  have hr := h.row _ (nth_mem hi)
  have := runs_len (nth xs i) (by have := h.he; omega)
  have := h.he2
  rw [List.length_map]
  exact Nat.le_trans (List.length_filter_le _ _) (by omega)
theorem c_wefts (h : Cl c p e) : C (n + 2) 4 [vs (cT c)] ω = .ok (.list (wf c)) ω := by
  have hw := wf_len h
  have hl := h.len
  have hp2 := h.hp2
  refine r_weft_floats ?_
  nomatch h
  apply sqForApp (β := Slot × Slot) (E := fun ds v => [vs (cT c), .v true (.list ds), v.1, v.2, .un]) (g := fun i => ((runs (nth c i)).filter isF).map (en4 i)) (xs := List.range c.length) (enc := fun i : Nat => .tuple [.int i, iT (nth c i)]) (ds := []) (v := (.un, .un))
  · rfl
  · nomatch h
  · rfl
  · rfl
  · intro x ds v; rfl
  · show 0 + (wf c).length < _
    omega
  · intro i hi ds v hl
    have hi := List.mem_range.mp hi
    have hr := h.row _ (nth_mem hi)
    have he := h.he
    have he2 := h.he2
    have hrl := runs_len (nth c i) (by omega)
    refine ⟨(vs (.int i), vs (iT (nth c i))), ?_⟩
    have hru := c_runs (n := n) (ω := ω) (row := nth c i) (by omega) (by omega)
    dsimp only [List.set]
    nomatch hru
    · exact hl
    · rfl
  · intro v
    nomatch h
    rfl
theorem c_warps (h : Cl c p e) : C (n + 2) 3 [vs (cT c)] ω = .ok (.list (wf (cols c e))) ω := by
  have hw := wf_len (cols_cl h)
  have hco := c_columns (n := n) (ω := ω) h
  have hl := (cols_cl h).len
  have hp2 := h.he2
  refine r_warp_floats ?_
  nomatch h
  apply sqForApp (β := Slot × Slot) (E := fun ds v => [vs (cT c), .v true (.list ds), v.1, v.2, .un]) (g := fun i => ((runs (nth (cols c e) i)).filter isF).map (en4 i)) (xs := List.range (cols c e).length) (enc := fun i : Nat => .tuple [.int i, iT (nth (cols c e) i)]) (ds := []) (v := (.un, .un))
  · rfl
  · nomatch hco
  · rfl
  · rfl
  · intro x ds v; rfl
  · show 0 + (wf (cols c e)).length < _
    omega
  · intro i hi ds v hl
    have hi := List.mem_range.mp hi
    have hr := (cols_cl h).row _ (nth_mem hi)
    have he := h.hp
    have he2 := h.hp2
    have hrl := runs_len (nth (cols c e) i) (by omega)
    refine ⟨(vs (.int i), vs (iT (nth (cols c e) i))), ?_⟩
    have hru := c_runs (n := n) (ω := ω) (row := nth (cols c e) i) (by omega) (by omega)
    dsimp only [List.set]
    nomatch hru
    · exact hl
    · rfl
  · intro v
    nomatch h
    rfl
/-! the longest -/
def rls (xs : List (List Int)) : List (Option Int) := xs.flatMap fun r => (runs r).map (·.2.1)
def lng (xs : List (List Int)) : PyData := if (rls xs).any Option.isNone = true then .none else .int (mx ((rls xs).map fun o => o.getD 0))
theorem chg_ex {row : List Int} (h : 1 ≤ row.length) (hx : row.all (fun x => decide (x = nth row 0)) = false) : (List.range row.length).filter (chg row) ≠ [] := by
  intro e
  rw [List.filter_eq_nil_iff] at e
  have key : ∀ k, k < row.length → nth row k = nth row 0 := by
    intro k
    induction k with
    | zero => intro _; rfl
    | succ k ih =>
      intro hk
      have := e (k + 1) (List.mem_range.mpr hk)
      unfold chg at this
      rw [show (((k + 1 : Nat) : Int) - 1) = (k : Int) by omega, pyAt_nat] at this
      have : nth row (k + 1) = nth row k := by simpa using this
      rw [this, ih (by omega)]
  have : row.all (fun x => decide (x = nth row 0)) = true := by
    rw [List.all_eq_true]
    intro x hx
    obtain ⟨j, hj, rfl⟩ := List.mem_iff_getElem.mp hx
    rw [← nth_get hj, key j hj]; simp
  rw [this] at hx; cases hx
theorem runs_ne {row : List Int} (h : 1 ≤ row.length) : 1 ≤ (runs row).length := by
  unfold runs
  split
  · simp
  · rename_i hx
    have := chg_ex h (by simpa using hx)
    rw [List.length_map]
    exact List.length_pos_iff.mpr this
theorem runs_none {row : List Int} (h : 1 ≤ row.length) : (nth (runs row) 0).2.1.isNone = row.all (fun x => decide (x = nth row 0)) := by
  have hn := runs_ne h
  unfold runs at hn ⊢
  split
  · rename_i hx; rw [hx]; rfl
  · rename_i hx
    rw [if_neg hx, List.length_map] at hn
    rw [nth_map hn, Bool.eq_false_iff.mpr hx]; rfl
theorem rls_len {xs : List (List Int)} {k e : Nat} (h : Cl xs k e) : (rls xs).length ≤ k * e ∧ 1 ≤ (rls xs).length := by
  constructor
  · have := flat_le (k := e) (xs := xs) (g := fun r => (runs r).map (·.2.1)) (fun r hr => by
      have := h.row r hr
      have := runs_len r (by have := h.he; omega)
      rw [List.length_map]; omega)
    rw [h.len] at this
    exact this
  · have h0 := h.hp
    have hl := h.len
    cases xs with
    | nil => simp at hl; omega
    | cons r xs =>
      have := runs_ne (row := r) (by have := h.row r List.mem_cons_self; have := h.he; omega)
      unfold rls
      rw [List.flatMap_cons, List.length_append, List.length_map]
      omega
theorem c_longest {l : Nat} (h : Cl c p e) (o : List PyData → PyData) (ho : o = .tuple ∨ o = .list) : C (n + 2) 7 [vs (o (c.map iT))] ω = .ok (lng c) ω := by
  obtain ⟨hw, hw1⟩ := rls_len h
  have hl := h.len
  have hp2 := h.hp2
  have hru : ∀ r ∈ c, C (n + 1) 2 [vs (iT r)] ω = .ok (.list ((runs r).map enR)) ω := fun r hr => by
    have := h.row r hr
    have := h.he
    have := h.he2
    exact c_runs (by omega) (by omega)
  have hlen : ∀ r ∈ c, (runs r).length ≤ 64 := fun r hr => by
    have := h.row r hr
    have := h.he
    have := h.he2
    have := runs_len r (by omega)
    omega
  refine r_longest ?_
  have hcomp : evalE gt (C (n + 1)) (.comp2 (.nm 2) (.var 0) .nil (.nm 3) (.call 2 false (.cons (.var 2) .nil)) .nil (.ix (.var 3) (.lit (.int 1)))) [vs (o (c.map iT)), .un, .un, .un] ω = .ok (.list ((rls c).map oI)) ω := by
    have := evComp2 (gt := gt) (call := C (n + 1)) (ρ := [vs (o (c.map iT)), .un, .un, .un]) (ρ1 := [vs (o (c.map iT)), .un, .un, .un]) (ω := ω) (ω1 := ω) (t := .nm 2) (t2 := .nm 3) (it := .var 0) (ts := .nil) (ts2 := .nil) (it2 := .call 2 false (.cons (.var 2) .nil)) (e := .ix (.var 3) (.lit (.int 1))) (xs := c) (enc := iT) (ys := runs) (enc2 := fun _ => enR) (d := o (c.map iT)) (d2 := fun r => .list ((runs r).map enR))
      (en := fun r => [vs (o (c.map iT)), .un, vs (iT r), .un]) (en2 := fun r x => [vs (o (c.map iT)), .un, vs (iT r), vs (enR x)]) (p := fun _ => true) (p2 := fun _ _ => true) (f := fun _ x => oI x.2.1)
      (evVar rfl) (by rcases ho with e | e <;> subst e <;> rfl) rfl (fun _ _ => rfl) (fun _ _ => evTn) (fun r hr _ => evCall (evAv rfl evAn) (hru r hr)) (fun _ _ _ => rfl) (fun _ _ _ _ _ => rfl) (fun _ _ _ _ _ => evTn) (fun r hr _ x hx _ => evIx (evVar rfl) (evLit _) rfl) (fun r hr _ x hx _ => by cases x.2.1 <;> rfl) (by omega) (fun r hr _ => by have := hlen r hr; omega)
    rw [this]
    unfold rls
    simp [List.map_flatMap, Function.comp_def, filter_tt]
  apply sqAsg
  · apply sAsgZ
    · nomatch hru
    · exact hcomp
    · nomatch hru
    · nomatch hru
  · have hf : ∀ b, Fz (esc (.ite (.bin .in_ (.lit .none) (.var 1)) (.lit .none) (.b1 .max (.var 1)))) [vs (o (c.map iT)), .v b (.list ((rls c).map oI)), .un, .un] [vs (o (c.map iT)), vs (.list ((rls c).map oI)), .un, .un] := fun b => rfl
    apply sRetZ
    · exact hf _
    · apply evIte
      · nomatch hru
      · rfl
      · apply iteBo
        · intro _
          exact evLit _
        · intro hx
          apply evB1
          · nomatch hru
          · rw [oI_ints (Bool.eq_false_iff.mpr hx), max_lI (by apply len_ne; rw [List.length_map]; omega)]
    · rfl
    · rfl

theorem c_lwarp (h : Cl c p e) : C (n + 3) 5 [vs (cT c)] ω = .ok (lng (cols c e)) ω := by
  have h1 := c_columns (n := n + 1) (ω := ω) h
  have h2 := c_longest (n := n) (ω := ω) (l := 0) (cols_cl h) .tuple (.inl rfl)
  refine r_longest_warp ?_
  nomatch h1, h2
theorem c_lweft (h : Cl c p e) : C (n + 3) 6 [vs (cT c)] ω = .ok (lng c) ω := by
  have h2 := c_longest (n := n) (ω := ω) (l := 0) h .tuple (.inl rfl)
  refine r_longest_weft ?_
  nomatch h2
/-! loose -/
def one (row : List Int) : Bool := row.all (fun x => decide (x = nth row 0))
def lo (xs : List (List Int)) : List Nat := (List.range xs.length).filter fun i => one (nth xs i)
abbrev nT (xs : List Nat) : PyData := .tuple (xs.map fun i : Nat => .int i)
theorem c_loose (h : Cl c p e) : C (n + 2) 8 [vs (cT c)] ω = .ok (.tuple [nT (lo (cols c e)), nT (lo c)]) ω := by
  have h1 := c_columns (n := n) (ω := ω) h
  have hl1 := (cols_cl h).len
  have hl2 := h.len
  have hp2 := h.hp2
  have he2 := h.he2
  have hru : ∀ {q r : Nat} {xs : List (List Int)}, Cl xs q r → ∀ i, i < xs.length → C (n + 1) 2 [vs (iT (nth xs i))] ω = .ok (.list ((runs (nth xs i)).map enR)) ω ∧ 1 ≤ (runs (nth xs i)).length ∧ (nth (runs (nth xs i)) 0).2.1.isNone = one (nth xs i) := fun {q r xs} hx i hi => by
    have := hx.row _ (nth_mem hi)
    have := hx.he
    have := hx.he2
    exact ⟨c_runs (by omega) (by omega), runs_ne (by omega), runs_none (by omega)⟩
  have a1 : ∀ x, x < (cols c e).length → C (n + 1) 2 [vs (iT (nth (cols c e) x))] ω = .ok (.list ((runs (nth (cols c e) x)).map enR)) ω := fun x hx => (hru (cols_cl h) x hx).1
  have a2 : ∀ x, x < c.length → C (n + 1) 2 [vs (iT (nth c x))] ω = .ok (.list ((runs (nth c x)).map enR)) ω := fun x hx => (hru h x hx).1
  have b1 : ∀ x, x < (cols c e).length → 0 < (runs (nth (cols c e) x)).length := fun x hx => (hru (cols_cl h) x hx).2.1
  have b2 : ∀ x, x < c.length → 0 < (runs (nth c x)).length := fun x hx => (hru h x hx).2.1
  refine r_loose_threads ?_
  nomatch h1, a1, a2, b1, b2
  have f1 : (List.range (cols c e).length).filter (fun x => (nth (runs (nth (cols c e) x)) 0).2.1.isNone) = lo (cols c e) := List.filter_congr fun x hx => (hru (cols_cl h) x (List.mem_range.mp hx)).2.2
  have f2 : (List.range c.length).filter (fun x => (nth (runs (nth c x)) 0).2.1.isNone) = lo c := List.filter_congr fun x hx => (hru h x (List.mem_range.mp hx)).2.2
  rw [f1, f2]
/-! crossings -/
def cr (row : List Int) : Nat := ((List.range row.length).filter (chg row)).length
theorem c_cross {row : List Int} (h : 1 ≤ row.length) (h2 : row.length ≤ 64) : C (n + 1) 9 [vs (iT row)] ω = .ok (.int (cr row)) ω := by
  refine r_crossings ?_
  nomatch h
  rfl
end Wv.T

set_option autoImplicit false
set_option linter.all false
set_option maxRecDepth 100000
set_option maxHeartbeats 400000
namespace Wv.T
open PySem Wv
local macro_rules
| `(tactic| nomatch $as,*) => do
  let ap := fun (a : Lean.Term) => `(Lean.Parser.Tactic.tacticSeq| with_reducible apply $a)
  let ts ← as.getElems.mapM ap
  let ls ← (#[``evVar, ``evLit, ``evPk, ``evBin, ``evIx, ``evB1, ``evB2, ``evTup, ``evLst, ``evEc, ``evEn, ``evCall, ``evAn, ``evComp, ``evCompT, ``evCompIf, ``evAll, ``evAny, ``evRng, ``evNot, ``evNeg, ``evIsa, ``evMcount, ``evMindex, ``evEnm, ``evRev, ``evSetof, ``evSset, ``evMgetC, ``evDic0, ``evSl, ``evGlb, ``evBo, ``evOr, ``evAnd, ``evBo1, ``e_bt, ``evBt1, ``evBtOr, ``evBtAnd, ``evChain, ``evT1, ``evTc, ``evTn, ``evDraw] : Array Lean.Name).mapM fun x => ap (Lean.mkIdent x)
  let ss ← (#[``sqAsg, ``sqAsgT, ``sqPar, ``sqAug, ``sqApp, ``sqExt, ``sqExpr, ``sqWh, ``sqSetix, ``sqAugix, ``sSeqA, ``sSkipS, ``kS_seq', ``kS_skip', ``kS_ret', ``sRetZ, ``sRet0, ``sAsgZ, ``sAsgT, ``sPar, ``sAugZ, ``sApp, ``sExt, ``sSetixC, ``sExprZ, ``sSkipE, ``sIfZ] : Array Lean.Name).mapM fun x => ap (Lean.mkIdent x)
  let os ← (#[``ne_self, ``eq_self', ``isa_l, ``isa_t, ``isa_lt, ``isa_tl, ``add_ii, ``sub_ii, ``lt_ii, ``le_ii, ``gt_ii, ``ge_ii, ``eq_ii, ``ne_ii, ``eq_iT, ``ne_iT, ``eq_iL, ``ne_iL, ``is_oI, ``isn_oI, ``in_iL, ``nin_iL, ``in_iT, ``nin_iT, ``len_lm, ``len_tm, ``p1_sum_l, ``p1_sum_t, ``sum_lm, ``sum_tm, ``p1_int, ``mod_ii, ``sl_tm, ``sl_lm, ``ix_C, ``ix_mod, ``ixl_mod, ``ix_0, ``ixl_0, ``ix_n, ``ixl_n, ``ix_py, ``ixl_py, ``rng_n, ``enm_tm, ``enm_lm, ``gt_oI, ``in_noI, ``set_iT, ``set_iL, ``cat_t, ``cat_l, ``is_nn, ``is_in, ``isn_nn, ``isn_in] : Array Lean.Name).mapM fun x => ap (Lean.mkIdent x)
  let fs ← as.getElems.mapM fun a => `(Lean.Parser.Tactic.tacticSeq| (have hzz := $a _ ‹_›; (try simp only [List.length_map, List.length_range] at *); omega))
  `(tactic| repeat' (first
    | ((with_reducible apply Fz.no); rfl)
    | ((with_reducible apply Fz.mk); (conv => lhs; simp only [frz, esc, escs, List.append_nil, List.nil_append, List.cons_append, List.modify_succ_cons, List.modify_zero_cons, frz1_v, frz1_u, frz1_s, frz1_f, frz1_frz1]))
    | ((with_reducible apply Fz.mk); rfl)
    | with_reducible apply St.s
    | with_reducible exact St.z
    | ((with_reducible apply Cr.mk); (conv => lhs; simp only [clr, tgS, List.append_nil, List.nil_append, List.cons_append, List.set_cons_succ, List.set_cons_zero]))
    | ((with_reducible apply Cr.mk); rfl)
    | ((with_reducible apply Sm.mk); with_reducible rfl)
    | ((with_reducible show (_ : Option Slot) = _); rfl)
    | ((with_reducible show (_ : Option (List PyData)) = _); rfl)
    | ((with_reducible show (_ : Option (Option Int)) = _); rfl)
    | ((with_reducible show (_ : Option PyData) = _); first | assumption | (first $[| $ts]*) | (first $[| $os]*) | rfl)
    | ((with_reducible show (_ : Option Bool) = _); first | assumption | rfl)
    | ((with_reducible show List.all _ okEl = true); first | exact okNil | refine okCons ?_ ?_)
    | ((with_reducible show (_ : Bool) = _); first | exact @rfl Bool false | exact @rfl Bool true | rfl | assumption)
    | ((with_reducible show (_ : Orc) = _); rfl)
    | ((with_reducible show (_ : PyData) = _); with_reducible rfl)
    | ((with_reducible show (_ : R _) = _); first
      | with_reducible assumption
      | (first $[| $ls]*)
      | with_reducible apply evCallS
      | with_reducible exact evAn | ((with_reducible apply evAv); rfl) | ((with_reducible apply evAs'); rfl) | with_reducible apply evAg | ((with_reducible apply evAf); rfl) | ((with_reducible apply evAe); rfl)
      | (first $[| $ss]*)
      | (first $[| $ts]*)
      | ((with_reducible apply asgT_rfl); rfl)
      | ((with_reducible apply parT_rfl); rfl))
    | ((with_reducible show Sh _ _); with_reducible assumption)
    | with_reducible apply sh_i | with_reducible apply sh_n | with_reducible apply sh_b | with_reducible apply sh_oI | with_reducible apply sh_lm | with_reducible apply sh_tm | with_reducible apply sh_l | with_reducible apply sh_t | with_reducible apply sh_cons | with_reducible apply sh_nil
    | ((with_reducible show ∀ x ∈ (_ : List _), _); intro x hx; (try (have hxr := List.mem_range.mp hx)); (try (have hxr := List.mem_filter.mp hx)))
    | ((with_reducible show (_ = _) → _); intro hx; first | exact absurd hx (by decide) | exact (cTF hx (by assumption)).elim | exact (cTF (by assumption) hx).elim | skip)
    | ((with_reducible show (_ : Prop)); with_reducible assumption)
    | ((first | (with_reducible show (_ : Nat) ≤ _) | (with_reducible show (_ : Nat) < _) | (with_reducible show (_ : Int) ≤ _) | (with_reducible show (_ : Int) < _)); omega)
    | ((first | (with_reducible show (_ : Nat) ≤ _) | (with_reducible show (_ : Nat) < _) | (with_reducible show (_ : Int) ≤ _) | (with_reducible show (_ : Int) < _)); simp only [List.length_map, List.length_range, List.length_append, List.length_cons, List.length_nil]; omega)
    | ((first | (with_reducible show (_ : Nat) ≤ _) | (with_reducible show (_ : Nat) < _) | (with_reducible show (_ : Int) ≤ _) | (with_reducible show (_ : Int) < _)); first $[| $fs]*)
    | ((with_reducible show _ ∈ _); first $[| $ts]*)
    ))
variable {c : List (List Int)} {p e : Nat} {ω : Orc} {n : Nat}
def crs (xs : List (List Int)) : List Int := xs.map fun r => (cr r : Int)
theorem crs_len (xs : List (List Int)) : (crs xs).length = xs.length := by simp [crs]
theorem c_wcross (h : Cl c p e) : C (n + 2) 11 [vs (cT c)] ω = .ok (iT (crs c)) ω := by
  have hl := h.len
  have hp2 := h.hp2
  have hru : ∀ r ∈ c, C (n + 1) 9 [vs (iT r)] ω = .ok (.int (cr r)) ω := fun r hr => by
    have := h.row r hr
    have := h.he
    have := h.he2
    exact c_cross (by omega) (by omega)
  refine r_weft_crossings ?_
  nomatch hru
  simp [crs, Function.comp_def]
theorem c_ccross (h : Cl c p e) : C (n + 2) 10 [vs (cT c)] ω = .ok (iT (crs (cols c e))) ω := by
  have h1 := c_columns (n := n) (ω := ω) h
  have h := cols_cl h
  have hl := h.len
  have hp2 := h.hp2
  have hru : ∀ r ∈ cols c e, C (n + 1) 9 [vs (iT r)] ω = .ok (.int (cr r)) ω := fun r hr => by
    have := h.row r hr
    have := h.he
    have := h.he2
    exact c_cross (by omega) (by omega)
  refine r_warp_crossings ?_
  nomatch hru, h1
  simp [crs, Function.comp_def]
def same (xs : List Int) : Bool := xs.all fun x => decide (x = nth xs 0)
theorem c_even (h : Cl c p e) : C (n + 3) 12 [vs (cT c)] ω = .ok (.bool (same (crs (cols c e)) && same (crs c))) ω := by
  have h1 := c_ccross (n := n) (ω := ω) h
  have h2 := c_wcross (n := n) (ω := ω) h
  have l1 : crs (cols c e) ≠ [] := len_ne (by rw [crs_len, (cols_cl h).len]; exact h.he)
  have l2 : crs c ≠ [] := len_ne (by rw [crs_len, h.len]; exact h.hp)
  have m1 := max_t l1
  have m2 := max_t l2
  have m3 := min_t l1
  have m4 := min_t l2
  have e1 := mn_mx l1
  have e2 := mn_mx l2
  refine r_is_even_take_up ?_
  nomatch h1, h2
  rw [e1, e2]; rfl
theorem c_firm (h : Cl c p e) : C (n + 3) 13 [vs (cT c)] ω = .ok (.tuple [.int ((crs (cols c e)).sum + (crs c).sum), .int (2 * p * e)]) ω := by
  have h0 := c_size (n := n + 1) (ω := ω) h
  have h1 := c_ccross (n := n) (ω := ω) h
  have h2 := c_wcross (n := n) (ω := ω) h
  have hp2 := h.hp2
  have he2 := h.he2
  have m1 : bop .mul (.int 2) (.int p) = some (.int (2 * p)) := mul_l (by decide)
  have m2 : bop .mul (.int (2 * p)) (.int e) = some (.int (2 * p * e)) := mul_r (by omega)
  refine r_firmness ?_
  nomatch h0, h1, h2, p1_sum_t
def sp (xs : List (List Int)) : List Nat := (List.range xs.length).filter fun k => decide (nth xs k = pyAt xs (((k : Int) + 1) % xs.length))
theorem c_pairs (h : Cl c p e) : C (n + 2) 15 [vs (cT c)] ω = .ok (.tuple [nT (sp (cols c e)), nT (sp c)]) ω := by
  have h1 := c_columns (n := n) (ω := ω) h
  have l1 := (cols_cl h).len
  have l2 := h.len
  have hp2 := h.hp2
  have he2 := h.he2
  refine r_same_side_pairs ?_
  nomatch h1
  rfl

/-! counts of lengths -/
def rlF (r : Rn) : Option Int := r.2.1
def lens (xs : List (List Int)) : List Int := xs.flatMap fun r => (runs r).filterMap (·.2.1)
theorem lens_bd {xs : List (List Int)} {k e : Nat} (h : Cl xs k e) : ∀ x ∈ lens xs, 1 ≤ x ∧ x ≤ e := by
  intro x hx
  obtain ⟨r, hr, hx⟩ := List.mem_flatMap.mp hx
  obtain ⟨y, hy, hx⟩ := List.mem_filterMap.mp hx
  have hrl := h.row r hr
  unfold runs at hy
  split at hy
  · simp only [List.mem_singleton] at hy
    subst hy; cases hx
  · rename_i hn
    obtain ⟨k, hk, rfl⟩ := List.mem_map.mp hy
    have hk := List.mem_range.mp (List.mem_filter.mp hk).1
    cases hx
    have := rl_bd hk (Bool.eq_false_iff.mpr hn)
    omega
theorem lens_so {xs : List (List Int)} {k e : Nat} (h : Cl xs k e) (he : e ≤ 60) : (ddp (lens xs)).length ≤ 61 := by
  obtain ⟨h1, h2⟩ := ddp_ok (lens xs)
  have := nodup_le (m := (List.range (e + 1)).map fun i : Nat => (i : Int)) h1 (fun x hx => by
    have := lens_bd h x ((h2 x).mp hx)
    refine List.mem_map.mpr ⟨x.toNat, List.mem_range.mpr (by omega), by omega⟩)
  simp at this
  omega
theorem lens_len {xs : List (List Int)} {k e : Nat} (h : Cl xs k e) : (lens xs).length ≤ 64 * 64 := by
  refine Nat.le_trans (flat_le (k := 64) fun r hr => ?_) (by have := h.hp2; have := h.len; omega)
  have := h.row r hr
  have := runs_len r (by have := h.he; omega)
  have := h.he2
  exact Nat.le_trans (List.length_filterMap_le _ _) (by omega)
def fc (xs : List (List Int)) : List PyData := (so (lens xs)).map fun k => .tuple [.int k, .int (cnt (lens xs) k)]

theorem c_fcounts (h : Cl c p e) (hp : p ≤ 60) : C (n + 2) 14 [vs (cT c)] ω = .ok (.list (fc (cols c e))) ω := by
  have h1 := c_columns (n := n) (ω := ω) h
  have h := cols_cl h
  have hll := lens_len h
  have hso := sorted_tl' (xs := lens (cols c e)) (by have := lens_so h hp; omega)
  have hsl := so_len (lens (cols c e))
  have hru : ∀ r ∈ cols c e, C (n + 1) 2 [vs (iT r)] ω = .ok (.list ((runs r).map enR)) ω := fun r hr => by
    have := h.row r hr
    have := h.he
    have := h.he2
    exact c_runs (by omega) (by omega)
  refine r_float_counts ?_
  nomatch h1
  apply sqForApp (β := Slot × Slot × Slot) (E := fun acc v => [vs (cT c), .v true (.dict (tl acc)), v.1, v.2.1, v.2.2]) (g := fun r => (runs r).filterMap (·.2.1)) (xs := cols c e) (enc := iT) (ds := []) (v := (.un, .un, .un))
  · rfl
  · nomatch h1
  · rfl
  · rfl
  · intro x ds v; rfl
  · show 0 + (lens (cols c e)).length < _
    omega
  · intro r hr acc v hl
    have hr1 := hru r hr
    have e1 : (runs r).filterMap (·.2.1) = (runs r).flatMap (fun x => match x.2.1 with | none => [] | some l => [l]) := by
      induction runs r with
      | nil => rfl
      | cons x xs ih =>
        rw [List.filterMap_cons, List.flatMap_cons, ih]
        cases x.2.1 <;> rfl
    have hl : acc.length + ((runs r).flatMap (fun x => match x.2.1 with | none => [] | some l => [l])).length < 1000000 := by rw [← e1]; exact hl
    rw [e1]
    dsimp only [List.set]
    have := sForApp (gt := gt) (call := C (n + 1)) (ω := ω) (ω1 := ω) (ρ := [vs (cT c), .v true (.dict (tl acc)), vs (iT r), v.2.1, v.2.2]) (ρ1 := [vs (cT c), .v true (.dict (tl acc)), vs (iT r), v.2.1, v.2.2]) (β := Slot × Slot) (E := fun acc v => [vs (cT c), .v true (.dict (tl acc)), vs (iT r), v.1, v.2]) (g := fun x : Rn => match x.2.1 with | none => [] | some l => [l]) (xs := runs r) (enc := enR) (ds := acc) (v := (v.2.1, v.2.2)) (t := .tc (.nm 3) (.tc (.nm 4) (.tc (.nm 3) .t0))) (it := .call 2 false (.cons (.var 2) .nil)) (b := .seq (.ite (.bin .isn (.var 4) (.lit .none)) (.seq (.setix 1 (.var 4) (.bin .add (.mget (.pk 1) (.var 4) (.lit (.int 0))) (.lit (.int 1)))) .skip) .skip) .skip)
      rfl (evCall (evAv rfl evAn) hr1) rfl rfl hl (fun x hx acc v hl => by
        refine ⟨[vs (cT c), .v true (.dict (tl acc)), vs (iT r), vs (.int x.2.2), vs (oI x.2.1)], (vs (.int x.2.2), vs (oI x.2.1)), rfl, ?_⟩
        rcases x with ⟨a, o, z⟩
        cases o with
        | none =>
          simp only [List.append_nil]
          nomatch h1
        | some l =>
          simp only [List.length_cons, List.length_nil] at hl
          have hn : bop .isn (oI (some l)) .none = some (.bool true) := rfl
          show evalS gt (C (n + 1)) _ [vs (cT c), .v true (.dict (tl acc)), vs (iT r), vs (.int z), vs (.int l)] ω = .ok (.nx [vs (cT c), .v true (.dict (tl (acc ++ [l]))), vs (iT r), vs (.int z), vs (.int l)]) ω
          nomatch h1)
    obtain ⟨v', this⟩ := this
    refine ⟨(vs (iT r), v'.1, v'.2), ?_⟩
    exact sSeq this sSkip
  · intro v
    have hm : ∀ x ∈ so (lens (cols c e)), x ∈ lens (cols c e) := fun x hx => so_mem hx
    show evalS gt (C (n + 1)) _ [vs (cT c), .v true (.dict (tl (lens (cols c e)))), v.1, v.2.1, v.2.2] ω = _
    nomatch h1, hso, hm
    rfl
end Wv.T

set_option autoImplicit false
set_option linter.all false
set_option maxRecDepth 100000
set_option maxHeartbeats 400000
namespace Wv.T
open PySem Wv
local macro_rules
| `(tactic| nomatch $as,*) => do
  let ap := fun (a : Lean.Term) => `(Lean.Parser.Tactic.tacticSeq| with_reducible apply $a)
  let ts ← as.getElems.mapM ap
  let ls ← (#[``evVar, ``evLit, ``evPk, ``evBin, ``evIx, ``evB1, ``evB2, ``evTup, ``evLst, ``evEc, ``evEn, ``evCall, ``evAn, ``evComp, ``evCompT, ``evCompIf, ``evAll, ``evAny, ``evRng, ``evNot, ``evNeg, ``evIsa, ``evMcount, ``evMindex, ``evEnm, ``evRev, ``evSetof, ``evSset, ``evMgetC, ``evDic0, ``evSl, ``evGlb, ``evBo, ``evOr, ``evAnd, ``evBo1, ``e_bt, ``evBt1, ``evBtOr, ``evBtAnd, ``evChain, ``evT1, ``evTc, ``evTn, ``evDraw] : Array Lean.Name).mapM fun x => ap (Lean.mkIdent x)
  let ss ← (#[``sqAsg, ``sqAsgT, ``sqPar, ``sqAug, ``sqApp, ``sqExt, ``sqExpr, ``sqWh, ``sqSetix, ``sqAugix, ``sSeqA, ``sSkipS, ``kS_seq', ``kS_skip', ``kS_ret', ``sRetZ, ``sRet0, ``sAsgZ, ``sAsgT, ``sPar, ``sAugZ, ``sApp, ``sExt, ``sSetixC, ``sExprZ, ``sSkipE, ``sIfZ] : Array Lean.Name).mapM fun x => ap (Lean.mkIdent x)
  let os ← (#[``ne_self, ``eq_self', ``isa_l, ``isa_t, ``isa_lt, ``isa_tl, ``add_ii, ``sub_ii, ``lt_ii, ``le_ii, ``gt_ii, ``ge_ii, ``eq_ii, ``ne_ii, ``eq_iT, ``ne_iT, ``eq_iL, ``ne_iL, ``is_oI, ``isn_oI, ``in_iL, ``nin_iL, ``in_iT, ``nin_iT, ``len_lm, ``len_tm, ``p1_sum_l, ``p1_sum_t, ``sum_lm, ``sum_tm, ``p1_int, ``mod_ii, ``sl_tm, ``sl_lm, ``ix_C, ``ix_mod, ``ixl_mod, ``ix_0, ``ixl_0, ``ix_n, ``ixl_n, ``ix_py, ``ixl_py, ``rng_n, ``enm_tm, ``enm_lm, ``gt_oI, ``in_noI, ``set_iT, ``set_iL, ``cat_t, ``cat_l, ``is_nn, ``is_in, ``isn_nn, ``isn_in] : Array Lean.Name).mapM fun x => ap (Lean.mkIdent x)
  let fs ← as.getElems.mapM fun a => `(Lean.Parser.Tactic.tacticSeq| (have hzz := $a _ ‹_›; (try simp only [List.length_map, List.length_range] at *); omega))
  `(tactic| repeat' (first
    | ((with_reducible apply Fz.no); rfl)
    | ((with_reducible apply Fz.mk); (conv => lhs; simp only [frz, esc, escs, List.append_nil, List.nil_append, List.cons_append, List.modify_succ_cons, List.modify_zero_cons, frz1_v, frz1_u, frz1_s, frz1_f, frz1_frz1]))
    | ((with_reducible apply Fz.mk); rfl)
    | with_reducible apply St.s
    | with_reducible exact St.z
    | ((with_reducible apply Cr.mk); (conv => lhs; simp only [clr, tgS, List.append_nil, List.nil_append, List.cons_append, List.set_cons_succ, List.set_cons_zero]))
    | ((with_reducible apply Cr.mk); rfl)
    | ((with_reducible apply Sm.mk); with_reducible rfl)
    | ((with_reducible show (_ : Option Slot) = _); rfl)
    | ((with_reducible show (_ : Option (List PyData)) = _); rfl)
    | ((with_reducible show (_ : Option (Option Int)) = _); rfl)
    | ((with_reducible show (_ : Option PyData) = _); first | assumption | (first $[| $ts]*) | (first $[| $os]*) | rfl)
    | ((with_reducible show (_ : Option Bool) = _); first | assumption | rfl)
    | ((with_reducible show List.all _ okEl = true); first | exact okNil | refine okCons ?_ ?_)
    | ((with_reducible show (_ : Bool) = _); first | exact @rfl Bool false | exact @rfl Bool true | rfl | assumption)
    | ((with_reducible show (_ : Orc) = _); rfl)
    | ((with_reducible show (_ : PyData) = _); with_reducible rfl)
    | ((with_reducible show (_ : R _) = _); first
      | with_reducible assumption
      | (first $[| $ls]*)
      | with_reducible apply evCallS
      | with_reducible exact evAn | ((with_reducible apply evAv); rfl) | ((with_reducible apply evAs'); rfl) | with_reducible apply evAg | ((with_reducible apply evAf); rfl) | ((with_reducible apply evAe); rfl)
      | (first $[| $ss]*)
      | (first $[| $ts]*)
      | ((with_reducible apply asgT_rfl); rfl)
      | ((with_reducible apply parT_rfl); rfl))
    | ((with_reducible show Sh _ _); with_reducible assumption)
    | with_reducible apply sh_i | with_reducible apply sh_n | with_reducible apply sh_b | with_reducible apply sh_oI | with_reducible apply sh_lm | with_reducible apply sh_tm | with_reducible apply sh_l | with_reducible apply sh_t | with_reducible apply sh_cons | with_reducible apply sh_nil
    | ((with_reducible show ∀ x ∈ (_ : List _), _); intro x hx; (try (have hxr := List.mem_range.mp hx)); (try (have hxr := List.mem_filter.mp hx)))
    | ((with_reducible show (_ = _) → _); intro hx; first | exact absurd hx (by decide) | exact (cTF hx (by assumption)).elim | exact (cTF (by assumption) hx).elim | skip)
    | ((with_reducible show (_ : Prop)); with_reducible assumption)
    | ((first | (with_reducible show (_ : Nat) ≤ _) | (with_reducible show (_ : Nat) < _) | (with_reducible show (_ : Int) ≤ _) | (with_reducible show (_ : Int) < _)); omega)
    | ((first | (with_reducible show (_ : Nat) ≤ _) | (with_reducible show (_ : Nat) < _) | (with_reducible show (_ : Int) ≤ _) | (with_reducible show (_ : Int) < _)); simp only [List.length_map, List.length_range, List.length_append, List.length_cons, List.length_nil]; omega)
    | ((first | (with_reducible show (_ : Nat) ≤ _) | (with_reducible show (_ : Nat) < _) | (with_reducible show (_ : Int) ≤ _) | (with_reducible show (_ : Int) < _)); first $[| $fs]*)
    | ((with_reducible show _ ∈ _); first $[| $ts]*)
    ))
variable {c : List (List Int)} {p e : Nat} {ω : Orc} {n : Nat}
theorem l_cloth (hp : 1 ≤ p) (hp2 : p ≤ 64) (he : 1 ≤ e) (he2 : e ≤ 64) : ∃ c w, Cl c p e ∧ C (n + 1) 17 [.s, vs (.int p), vs (.int e)] ω = .ok (cT c) w := by
  have row : ∀ (x : Slot) (ω : Orc), ∃ (r : List Int) (w : Orc), evalE gt (C n) (.b1 .tuple (.comp (.nm 4) (.rng (.cons (.var 2) .nil)) .nil (.draw 0 (.lit (.int 2))))) [.s, vs (.int p), vs (.int e), x, .un] ω = .ok (iT r) w ∧ r.length = e := fun x ω => by
    obtain ⟨r, w, h1, h2, _⟩ := compDr (gt := gt) (call := C n) (ρ := [.s, vs (.int p), vs (.int e), x, .un]) (ω := ω) (ω1 := ω) (i := 4) (it := .rng (.cons (.var 2) .nil)) (e := .draw 0 (.lit (.int 2))) (xs := List.range e) (enc := fun i : Nat => .int i) (en2 := PyData.int) (Pr := fun _ => True) (by nomatch hp) rfl (by simp; omega) (fun _ => rfl) (fun x _ ω => ⟨_, _, evDraw rfl (evLit _) (by decide) (by decide), trivial⟩)
    exact ⟨r, w, evB1 h1 rfl, by simpa using h2⟩
  obtain ⟨c, w, h1, h2, h3⟩ := compDr (gt := gt) (call := C n) (ρ := [.s, vs (.int p), vs (.int e), .un, .un]) (ω := ω) (ω1 := ω) (i := 3) (it := .rng (.cons (.var 1) .nil)) (e := .b1 .tuple (.comp (.nm 4) (.rng (.cons (.var 2) .nil)) .nil (.draw 0 (.lit (.int 2))))) (xs := List.range p) (enc := fun i : Nat => .int i) (en2 := iT) (Pr := fun r => r.length = e) (by nomatch hp) rfl (by simp; omega) (fun _ => rfl) (fun x _ ω => row _ ω)
  refine ⟨c, w, ⟨by simpa using h2, h3, hp, hp2, he, he2⟩, ?_⟩
  exact r__law_cloth (sRetZ rfl (evB1 h1 rfl) rfl rfl)

theorem zero_cl (h : Cl c p e) : Cl (c.map fun r => 0 :: r.drop 1) p e :=
  ⟨by rw [List.length_map, h.len], fun r hr => by
    obtain ⟨x, hx, rfl⟩ := List.mem_map.mp hr
    have := h.row x hx
    have := h.he
    simp; omega, h.hp, h.hp2, h.he, h.he2⟩
theorem st3 {t5 : Slot} (h : Cl c p e) : ∃ c' w, Cl c' p e ∧ evalS gt (C n) ls_3 [.un, .s, vs (.int p), vs (.int e), vs (cT c), .un, .un, .un, .un, .un, .un, .un, .un, .un, .un, .un, .un, .un, .un, .un, .un, .un] ω = .ok (.nx [.un, .s, vs (.int p), vs (.int e), vs (cT c'), .un, .un, .un, .un, .un, .un, .un, .un, .un, .un, .un, .un, .un, .un, .un, .un, .un]) w := by
  by_cases hd : (drawFn ω 3).1 = 1
  · refine ⟨_, (drawFn ω 3).2, zero_cl h, ?_⟩
    have hl := h.len
    have hp2 := h.hp2
    have hcl : ∀ r ∈ c, (cutL r (some 1) none).length ≤ 64 := fun r hr => by
      have := h.row r hr
      have := h.he2
      have := cutL_len r (some 1) none
      omega
    apply sIfT
    · nomatch hd
    · nomatch hd
    · rw [hd]; rfl
    · nomatch hcl
      · have := hcl _ ‹_›
        simp; omega
      · refine Sm.mk ?_
        simp [cut_from]
  · refine ⟨c, (drawFn ω 3).2, h, ?_⟩
    apply sIfF
    · nomatch hd
    · nomatch hd
    · show some (decide _) = _
      rw [decide_eq_false hd]
    · nomatch hd

theorem l_runs' (h : Cl c p e) {r : List Int} (hr : r ∈ c) : C (n + 1) 20 [vs (iT r)] ω = .ok (.list ((runs r).map enR)) ω := by
  have := h.row r hr
  have := h.he
  have := h.he2
  exact l_runs (by omega) (by omega)
theorem l_runsI (h : Cl c p e) : ∀ i, i < c.length → C (n + 1) 20 [vs (iT (nth c i))] ω = .ok (.list ((runs (nth c i)).map enR)) ω := fun i hi => l_runs' h (nth_mem hi)
theorem runs_I (h : Cl c p e) : ∀ i, i < c.length → (runs (nth c i)).length ≤ 64 := fun i hi => by
  have := h.row _ (nth_mem hi)
  have := h.he
  have := h.he2
  have := runs_len (nth c i) (by omega)
  omega
theorem fil_le (q : Rn → Bool) {xs : List Rn} (h : xs.length ≤ 64) : (xs.filter q).length ≤ 64 := Nat.le_trans (List.length_filter_le _ _) h
def lenF (xs : List (List Int)) (e : Nat) : List PyData := (List.range e).flatMap fun k => ((runs (nth xs k)).filter isF).map (en4 k)
theorem lenF_eq {xs : List (List Int)} {k e : Nat} (h : Cl xs k e) : lenF xs k = wf xs := by
  unfold lenF wf; rw [h.len]
theorem sh_wf (xs : List (List Int)) : Sh 60 (.list (wf xs)) := by
  refine sh_l fun d hd => ?_
  obtain ⟨i, _, hd⟩ := List.mem_flatMap.mp hd
  obtain ⟨r, _, rfl⟩ := List.mem_map.mp hd
  nomatch sh_i
theorem sh_lng (xs : List (List Int)) : Sh 60 (lng xs) := by
  unfold lng
  split
  · nomatch sh_i
  · nomatch sh_i
theorem sh_fc (xs : List (List Int)) : Sh 60 (.list (fc xs)) := by
  unfold fc
  nomatch sh_i
theorem loop10 {d : List (List Int)} {t8 t9 t11 : Slot} {rest : S} {o : Out} (h : Cl c p e) (hd : Cl d e p) {o1 : Bool} 
    (hc : ∀ x b, ∃ w, evalS gt (C (n + 1)) rest [.un, .s, vs (.int p), vs (.int e), vs (cT c), vs (.list (d.map iT)), t8, t9, .v b (.list (wf d)), t11, x, .un, .un, .un, .un, .un, .un, .un, .un, .un, .un, .un] ω = .ok o w) :
    ∃ w, evalS gt (C (n + 1)) (.seq ls_10 rest) [.un, .s, vs (.int p), vs (.int e), vs (cT c), vs (.list (d.map iT)), t8, t9, .v true (.list []), t11, .un, .un, .un, .un, .un, .un, .un, .un, .un, .un, .un, .un] ω = .ok o w := by
  have hl1 := hd.len
  have hp2 := h.hp2
  have he2 := h.he2
  have r1 := l_runsI (n := n) (ω := ω) hd
  have n1 := runs_I hd
  have w1 := wf_len hd
  have he := lenF_eq hd
  apply exForApp (β := Bool × Slot) (E := fun ds v => [.un, .s, vs (.int p), vs (.int e), vs (cT c), vs (.list (d.map iT)), t8, t9, .v v.1 (.list ds), t11, v.2, .un, .un, .un, .un, .un, .un, .un, .un, .un, .un, .un]) (g := fun k => ((runs (nth d k)).filter isF).map (en4 k)) (xs := List.range e) (enc := fun k : Nat => .int k) (ds := []) (v := (true, .un))
  · rfl
  · nomatch h
  · rfl
  · rfl
  · intro x ds v; rfl
  · show 0 + (lenF d e).length < _
    rw [he]; omega
  · intro k hk ds v hl
    have hk := List.mem_range.mp hk
    have hk2 : k < d.length := by omega
    have nn := fil_le (fun x => x.2.1.isNone || decide (1 < x.2.1.getD 0)) (n1 k hk2)
    have n1 := n1 k hk2
    dsimp only [List.set]
    refine ⟨(false, vs (.int k)), ?_⟩
    nomatch r1
    · rw [List.length_map] at hl ⊢
      exact Nat.le_of_lt hl
    · rfl
  · intro v
    have := hc v.2 v.1
    rw [← he] at this
    exact this
theorem loop11 {d : List (List Int)} {t8 t9 t11 x0 : Slot} {rest : S} {o : Out} (h : Cl c p e) (hd : Cl d e p) {o1 : Bool} 
    (hc : ∀ x b, ∃ w, evalS gt (C (n + 1)) rest [.un, .s, vs (.int p), vs (.int e), vs (cT c), vs (.list (d.map iT)), t8, t9, t11, .v b (.list (wf c)), x, .un, .un, .un, .un, .un, .un, .un, .un, .un, .un, .un] ω = .ok o w) :
    ∃ w, evalS gt (C (n + 1)) (.seq ls_11 rest) [.un, .s, vs (.int p), vs (.int e), vs (cT c), vs (.list (d.map iT)), t8, t9, t11, .v true (.list []), x0, .un, .un, .un, .un, .un, .un, .un, .un, .un, .un, .un] ω = .ok o w := by
  have hl1 := h.len
  have hp2 := h.hp2
  have he2 := h.he2
  have r1 := l_runsI (n := n) (ω := ω) h
  have n1 := runs_I h
  have w1 := wf_len h
  have he := lenF_eq h
  apply exForApp (β := Bool × Slot) (E := fun ds v => [.un, .s, vs (.int p), vs (.int e), vs (cT c), vs (.list (d.map iT)), t8, t9, t11, .v v.1 (.list ds), v.2, .un, .un, .un, .un, .un, .un, .un, .un, .un, .un, .un]) (g := fun k => ((runs (nth c k)).filter isF).map (en4 k)) (xs := List.range p) (enc := fun k : Nat => .int k) (ds := []) (v := (true, x0))
  · rfl
  · nomatch h
  · rfl
  · rfl
  · intro x ds v; rfl
  · show 0 + (lenF c p).length < _
    rw [he]; omega
  · intro k hk ds v hl
    have hk := List.mem_range.mp hk
    have hk2 : k < c.length := by omega
    have nn := fil_le (fun x => x.2.1.isNone || decide (1 < x.2.1.getD 0)) (n1 k hk2)
    have n1 := n1 k hk2
    dsimp only [List.set]
    refine ⟨(false, vs (.int k)), ?_⟩
    nomatch r1
    · rw [List.length_map] at hl ⊢
      exact Nat.le_of_lt hl
    · rfl
  · intro v
    have := hc v.2 v.1
    rw [← he] at this
    exact this
theorem body14 {xs : List (List Int)} {q r : Nat} {l0 l1 l2 l3 l4 l5 l6 l7 l8 l9 l10 l13 l14 l15 l16 l17 l18 l19 l21 : Slot} {ls : List PyData} (o : List PyData → PyData) (ho : o = .tuple ∨ o = .list) (h : Cl xs q r) (hls : ls.length < 1000) :
    ∃ x17, evalS gt (C (n + 1)) (.seq (.asg (.nm 19) (.lst .nil))
 (.seq (.for_ (.nm 17) (.var 12) (.seq (.asg (.nm 19) (.bin .add (.var 19) (.comp (.nm 20) (.call 20 false (.cons (.var 17) .nil)) .nil (.ix (.var 20) (.lit (.int 1))))))
 .skip))
 (.seq (.app 11 (.ite (.bin .in_ (.lit .none) (.var 19)) (.lit .none) (.b1 .max (.var 19))))
 .skip))) [l0, l1, l2, l3, l4, l5, l6, l7, l8, l9, l10, .v true (.list ls), vs (o (xs.map iT)), l13, l14, l15, l16, l17, l18, l19, .un, l21] ω =
      .ok (.nx [l0, l1, l2, l3, l4, l5, l6, l7, l8, l9, l10, .v true (.list (ls ++ [lng xs])), vs (o (xs.map iT)), l13, l14, l15, l16, x17, l18, vs (.list ((rls xs).map oI)), .un, l21]) ω := by
  obtain ⟨hw, hw1⟩ := rls_len h
  have hl := h.len
  have hp2 := h.hp2
  have he2 := h.he2
  have hqr : q * r ≤ 64 * 64 := Nat.mul_le_mul hp2 he2
  obtain ⟨v', hf⟩ := sForApp (gt := gt) (call := C (n + 1)) (ω := ω) (ω1 := ω) (t := .nm 17) (it := .var 12) (b := .seq (.asg (.nm 19) (.bin .add (.var 19) (.comp (.nm 20) (.call 20 false (.cons (.var 17) .nil)) .nil (.ix (.var 20) (.lit (.int 1)))))) .skip)
    (ρ := [l0, l1, l2, l3, l4, l5, l6, l7, l8, l9, l10, .v true (.list ls), vs (o (xs.map iT)), l13, l14, l15, l16, l17, l18, .v true (.list []), .un, l21]) (ρ1 := [l0, l1, l2, l3, l4, l5, l6, l7, l8, l9, l10, .v true (.list ls), vs (o (xs.map iT)), l13, l14, l15, l16, l17, l18, .v true (.list []), .un, l21])
    (d := o (xs.map iT)) (β := Bool × Slot) (E := fun (ds : List (Option Int)) v => [l0, l1, l2, l3, l4, l5, l6, l7, l8, l9, l10, .v true (.list ls), vs (o (xs.map iT)), l13, l14, l15, l16, v.2, l18, .v v.1 (.list (ds.map oI)), .un, l21]) (enc := iT) (g := fun r => (runs r).map (·.2.1)) (xs := xs) (ds := []) (v := (true, l17))
    rfl (evVar rfl) (by rcases ho with e | e <;> subst e <;> rfl) rfl (by show 0 + (rls xs).length < _; omega) (fun x hx ds v hl => by
      have hr := l_runs' (n := n) (ω := ω) h hx
      have hrl : (runs x).length ≤ 64 := by
        have := h.row x hx
        have := h.he
        have := runs_len x (by omega)
        omega
      refine ⟨[l0, l1, l2, l3, l4, l5, l6, l7, l8, l9, l10, .v true (.list ls), vs (o (xs.map iT)), l13, l14, l15, l16, vs (iT x), l18, .v v.1 (.list (ds.map oI)), .un, l21], (false, vs (iT x)), rfl, ?_⟩
      have e1 : (List.map oI (ds ++ List.map (fun x => x.2.1) (runs x))) = ds.map oI ++ (runs x).map (fun r => oI r.2.1) := by rw [List.map_append, List.map_map]; rfl
      dsimp only
      rw [e1]
      have okO : ∀ r ∈ runs x, okEl (oI r.2.1) = true := fun r _ => by cases r.2.1 <;> rfl
      nomatch hr
      · exact okO _ ‹_›
      · rw [List.length_map] at hl ⊢; rw [List.length_map]; omega)
  refine ⟨v'.2, ?_⟩
  apply sqAsg
  · nomatch h
  refine sSeq hf ?_
  show evalS gt (C (n + 1)) _ [l0, l1, l2, l3, l4, l5, l6, l7, l8, l9, l10, .v true (.list ls), vs (o (xs.map iT)), l13, l14, l15, l16, v'.2, l18, .v v'.1 (.list ((rls xs).map oI)), .un, l21] ω = _
  apply sqApp
  · apply sApp
    · nomatch h
    · nomatch h
    · apply evIte
      · nomatch h
      · rfl
      · apply iteBo
        · intro _
          exact evLit _
        · intro hx
          apply evB1
          · nomatch h
          · rw [oI_ints (Bool.eq_false_iff.mpr hx), max_lI (by apply len_ne; rw [List.length_map]; omega)]
    · split <;> rfl
    · omega
    · nomatch h
  · nomatch h
    rfl
theorem loop23 {d : List (List Int)} {l0 l1 l2 l3 l4 l6 l7 l8 l9 l10 l11 l12 l13 l14 l15 l17 l18 l19 : Slot} {rest : S} {o : Out} (h : Cl d e p)
    (hc : ∀ x y, ∃ w, evalS gt (C (n + 1)) rest [l0, l1, l2, l3, l4, vs (.list (d.map iT)), l6, l7, l8, l9, l10, l11, l12, l13, l14, l15, .v true (.dict (tl (lens d))), x, l18, l19, y, .un] ω = .ok o w) :
    ∃ w, evalS gt (C (n + 1)) (.seq ls_23 rest) [l0, l1, l2, l3, l4, vs (.list (d.map iT)), l6, l7, l8, l9, l10, l11, l12, l13, l14, l15, .v true (.dict (tl [])), l17, l18, l19, .un, .un] ω = .ok o w := by
  have hll := lens_len h
  apply exForApp (β := Slot × Slot) (E := fun acc v => [l0, l1, l2, l3, l4, vs (.list (d.map iT)), l6, l7, l8, l9, l10, l11, l12, l13, l14, l15, .v true (.dict (tl acc)), v.1, l18, l19, v.2, .un]) (g := fun r => (runs r).filterMap (·.2.1)) (xs := d) (enc := iT) (ds := []) (v := (l17, .un))
  · rfl
  · nomatch h
  · rfl
  · rfl
  · intro x ds v; rfl
  · show 0 + (lens d).length < _
    omega
  · intro r hr acc v hl
    have hr1 := l_runs' (n := n) (ω := ω) h hr
    have e1 : (runs r).filterMap (·.2.1) = (runs r).flatMap (fun x => match x.2.1 with | none => [] | some l => [l]) := by
      induction runs r with
      | nil => rfl
      | cons x xs ih =>
        rw [List.filterMap_cons, List.flatMap_cons, ih]
        cases x.2.1 <;> rfl
    have hl : acc.length + ((runs r).flatMap (fun x => match x.2.1 with | none => [] | some l => [l])).length < 1000000 := by rw [← e1]; exact hl
    rw [e1]
    dsimp only [List.set]
    have := sForApp (gt := gt) (call := C (n + 1)) (ω := ω) (ω1 := ω) (ρ := [l0, l1, l2, l3, l4, vs (.list (d.map iT)), l6, l7, l8, l9, l10, l11, l12, l13, l14, l15, .v true (.dict (tl acc)), vs (iT r), l18, l19, v.2, .un]) (ρ1 := [l0, l1, l2, l3, l4, vs (.list (d.map iT)), l6, l7, l8, l9, l10, l11, l12, l13, l14, l15, .v true (.dict (tl acc)), vs (iT r), l18, l19, v.2, .un]) (β := Slot) (E := fun acc v => [l0, l1, l2, l3, l4, vs (.list (d.map iT)), l6, l7, l8, l9, l10, l11, l12, l13, l14, l15, .v true (.dict (tl acc)), vs (iT r), l18, l19, v, .un]) (g := fun x : Rn => match x.2.1 with | none => [] | some l => [l]) (xs := runs r) (enc := enR) (ds := acc) (v := v.2) (t := .nm 20) (it := .call 20 false (.cons (.var 17) .nil)) (b := (.seq (.ite (.bin .isn (.ix (.var 20) (.lit (.int 1))) (.lit .none)) (.seq (.setix 16 (.ix (.var 20) (.lit (.int 1))) (.bin .add (.mget (.pk 16) (.ix (.var 20) (.lit (.int 1))) (.lit (.int 0))) (.lit (.int 1))))
 .skip) .skip)
 .skip))
      rfl (evCall (evAv rfl evAn) hr1) rfl rfl hl (fun x hx acc v hl => by
        refine ⟨[l0, l1, l2, l3, l4, vs (.list (d.map iT)), l6, l7, l8, l9, l10, l11, l12, l13, l14, l15, .v true (.dict (tl acc)), vs (iT r), l18, l19, vs (enR x), .un], vs (enR x), rfl, ?_⟩
        rcases x with ⟨a, o, z⟩
        cases o with
        | none =>
          simp only [List.append_nil]
          show evalS gt (C (n + 1)) _ [l0, l1, l2, l3, l4, vs (.list (d.map iT)), l6, l7, l8, l9, l10, l11, l12, l13, l14, l15, .v true (.dict (tl acc)), vs (iT r), l18, l19, vs (.tuple [.int a, .none, .int z]), .un] ω = .ok (.nx [l0, l1, l2, l3, l4, vs (.list (d.map iT)), l6, l7, l8, l9, l10, l11, l12, l13, l14, l15, .v true (.dict (tl acc)), vs (iT r), l18, l19, vs (.tuple [.int a, .none, .int z]), .un]) ω
          nomatch h
        | some l =>
          simp only [List.length_cons, List.length_nil] at hl
          show evalS gt (C (n + 1)) _ [l0, l1, l2, l3, l4, vs (.list (d.map iT)), l6, l7, l8, l9, l10, l11, l12, l13, l14, l15, .v true (.dict (tl acc)), vs (iT r), l18, l19, vs (.tuple [.int a, .int l, .int z]), .un] ω = .ok (.nx [l0, l1, l2, l3, l4, vs (.list (d.map iT)), l6, l7, l8, l9, l10, l11, l12, l13, l14, l15, .v true (.dict (tl (acc ++ [l]))), vs (iT r), l18, l19, vs (.tuple [.int a, .int l, .int z]), .un]) ω
          nomatch h)
    obtain ⟨v', this⟩ := this
    refine ⟨(vs (iT r), v'), ?_⟩
    exact sSeq this sSkip
  · intro v
    exact hc v.1 v.2
theorem tail {d : List (List Int)} {row : List Int} (h : Cl c p e) (hd : Cl d e p) (hp8 : p ≤ 8) (he8 : e ≤ 8) (hmem : row ∈ c) (hrow : row.length = e)
    (q1 : C 99 2 [vs (iT row)] ω = .ok (.list ((runs row).map enR)) ω) (q2 : C 99 20 [vs (iT row)] ω = .ok (.list ((runs row).map enR)) ω) (q3 : C 99 3 [vs (cT c)] ω = .ok (.list (wf d)) ω) (q4 : C 99 4 [vs (cT c)] ω = .ok (.list (wf c)) ω)
    (q5 : C 99 5 [vs (cT c)] ω = .ok (lng d) ω) (q6 : C 99 6 [vs (cT c)] ω = .ok (lng c) ω) (q7 : C 99 7 [vs (.list (d.map iT))] ω = .ok (lng d) ω) (q8 : C 99 8 [vs (cT c)] ω = .ok (.tuple [nT (lo d), nT (lo c)]) ω)
    (q9 : C 99 9 [vs (iT row)] ω = .ok (.int (cr row)) ω) (q10 : C 99 10 [vs (cT c)] ω = .ok (iT (crs d)) ω) (q11 : C 99 11 [vs (cT c)] ω = .ok (iT (crs c)) ω) (q12 : C 99 12 [vs (cT c)] ω = .ok (.bool (same (crs d) && same (crs c))) ω)
    (q13 : C 99 13 [vs (cT c)] ω = .ok (.tuple [.int ((crs d).sum + (crs c).sum), .int (2 * p * e)]) ω) (q14 : C 99 14 [vs (cT c)] ω = .ok (.list (fc d)) ω) (q15 : C 99 15 [vs (cT c)] ω = .ok (.tuple [nT (sp d), nT (sp c)]) ω) :
    ∃ w, evalS gt (C 99) lt_6 [.un, .s, vs (.int p), vs (.int e), vs (cT c), vs (.list (d.map iT)), vs (iT row), .un, .un, .un, .un, .un, .un, .un, .un, .un, .un, .un, .un, .un, .un, .un] ω = .ok (.rt (.bool true)) w := by
  apply exAsg
  · nomatch q1
  apply exIf
  · nomatch q2
  · nomatch q2
  · rfl
  apply exAsg
  · nomatch q1
  apply exAsg
  · nomatch q1
  apply loop10 (n := 98) h hd (o1 := true)
  intro x1 b1
  apply loop11 (n := 98) h hd (o1 := true)
  intro x2 b2
  have s1 := sh_wf d
  have s2 := sh_wf c
  have s3 := sh_lng d
  have s4 := sh_lng c
  have s5 := sh_fc d
  apply exIf
  · nomatch q3
  · nomatch q3, q4
  · rfl
  apply exAsg
  · nomatch q1
  obtain ⟨y1, hb1⟩ := body14 (n := 98) (ω := ω) (l0 := .un) (l1 := .s) (l2 := vs (.int p)) (l3 := vs (.int e)) (l4 := vs (cT c)) (l5 := vs (.list (d.map iT))) (l6 := vs (iT row)) (l7 := vs (.list ((runs row).map enR))) (l8 := vs (.list (wf d))) (l9 := vs (.list (wf c))) (l10 := x2) (l13 := .un) (l14 := .un) (l15 := .un) (l16 := .un) (l17 := .un) (l18 := .un) (l19 := .un) (l21 := .un) (ls := []) .list (.inr rfl) hd (by decide)
  obtain ⟨y2, hb2⟩ := body14 (n := 98) (ω := ω) (l0 := .un) (l1 := .s) (l2 := vs (.int p)) (l3 := vs (.int e)) (l4 := vs (cT c)) (l5 := vs (.list (d.map iT))) (l6 := vs (iT row)) (l7 := vs (.list ((runs row).map enR))) (l8 := vs (.list (wf d))) (l9 := vs (.list (wf c))) (l10 := x2) (l13 := .un) (l14 := .un) (l15 := .un) (l16 := .un) (l17 := y1) (l18 := .un) (l19 := vs (.list ((rls d).map oI))) (l21 := .un) (ls := [] ++ [lng d]) .tuple (.inl rfl) h (by simp)
  apply exFor2
  · nomatch q1
  · nomatch q1
  · exact hb1
  · exact hb2
  clear hb1 hb2
  dsimp only [List.nil_append, List.cons_append]
  have hl1 := hd.len
  have hl2 := h.len
  have g1 : ∀ i, i < e → (nth d i).length ≤ 4000 := fun i hi => by have := hd.row (nth d i) (nth_mem (by omega)); omega
  have g2 : ∀ i, i < p → (nth c i).length ≤ 4000 := fun i hi => by have := h.row (nth c i) (nth_mem (by omega)); omega
  have f1 : ∀ (xs : List (List Int)), (∀ i, i < xs.length → 1 ≤ (nth xs i).length) → (List.range xs.length).filter (fun x => decide (((ddp (nth xs x)).length : Int) = 1)) = lo xs := fun xs hx => List.filter_congr fun i hi => by
    have := ddp_one (hx i (List.mem_range.mp hi))
    show decide (((ddp (nth xs i)).length : Int) = 1) = (nth xs i).all _
    rw [← this]; exact Bool.eq_iff_iff.mpr (by rw [decide_eq_true_eq, decide_eq_true_eq]; omega)
  have f2 := f1 d fun i hi => by have := hd.row _ (nth_mem hi); have := hd.he; omega
  have f3 := f1 c fun i hi => by have := h.row _ (nth_mem hi); have := h.he; omega
  rw [hl1] at f2
  rw [hl2] at f3
  apply exIf
  · nomatch q5
  · nomatch q5, q6, q7
  · rfl
  apply exAsg
  · nomatch g1, g2
  rw [f2, f3]
  apply exIf
  · nomatch q8
  · nomatch q8
  · rfl
  apply exAsg
  · apply sAsgZ
    · nomatch q1
    · apply evEq (d := .list [iL (crs d), iL (crs c)])
      apply evComp (xs := [(d, true), (c, false)]) (enc := fun x => if x.2 = true then .list (x.1.map iT) else cT x.1) (f := fun x => iL (crs x.1))
      · nomatch q1
      · rfl
      · nomatch q1
      · intro x hx
        have hx2 : ∃ u v, Cl x.1 u v ∧ u ≤ 8 ∧ v ≤ 8 := by
          simp only [List.mem_cons, List.not_mem_nil, or_false] at hx
          rcases hx with e | e <;> subst e
          · exact ⟨_, _, hd, he8, hp8⟩
          · exact ⟨_, _, h, hp8, he8⟩
        obtain ⟨u, v, hu, hu8, hv8⟩ := hx2
        have hul := hu.len
        have hk : ∀ r ∈ x.1, r.length ≤ 8 ∧ 1 ≤ r.length := fun r hr => by have := hu.row r hr; have := hu.he; omega
        have hk1 : ∀ r ∈ x.1, r.length ≤ 1000000 := fun r hr => by have := (hk r hr).1; omega
        have e1 : iL (crs x.1) = .list (x.1.map fun r => .int (cr r)) := by simp [crs, Function.comp_def]
        rw [e1]
        apply evComp (xs := x.1) (enc := iT)
        · nomatch q1
        · split <;> rfl
        · nomatch q1
        · intro r hr
          have := hk r hr
          nomatch q1
          exact len_lm _ _
        · nomatch q1
        · omega
      · nomatch q1
      · simp
      · rfl
    · rfl
    · nomatch q1
  obtain ⟨k, hk1, hk2, hk3⟩ := mindex_t hmem
  have hcr : nth (crs c) k = cr row := by
    unfold crs
    rw [nth_map hk1, hk2]
  have hkc : k < (crs c).length := by rw [crs_len]; exact hk1
  apply exIf
  · nomatch q1
  · nomatch q9, q10, q11, hk3
  · rw [hcr]; simp
  have c1 : ∀ xs : List (List Int), 1 ≤ xs.length → decide (((ddp (crs xs)).length : Int) = 1) = same (crs xs) := fun xs hx => by
    rw [same, ← ddp_one (xs := crs xs) (by rw [crs_len]; exact hx)]; exact Bool.eq_iff_iff.mpr (by rw [decide_eq_true_eq, decide_eq_true_eq]; omega)
  have c2 := c1 d (by have := hd.hp; omega)
  have c3 := c1 c (by have := h.hp; omega)
  have c4 : (crs d).length ≤ 4000 := by rw [crs_len]; omega
  have c5 : (crs c).length ≤ 4000 := by rw [crs_len]; omega
  apply exAsg
  · apply sAsgZ
    · nomatch q1
    · apply evEq (d := .bool (same (crs d) && same (crs c)))
      · nomatch q1
      · rw [c2, c3]
    · nomatch q1
    · nomatch q1
  have m1 : bop .mul (.int 2) (.int p) = some (.int (2 * p)) := mul_l (by decide)
  have m2 : bop .mul (.int (2 * p)) (.int e) = some (.int (2 * p * e)) := mul_r (by omega)
  apply exIf
  · nomatch q12
  · nomatch q12, q13
  · rfl
  apply exAsg
  · nomatch q1
  refine loop23 (n := 98) hd ?_
  intro y1 y2
  have hso := sorted_tl' (xs := lens d) (by have := lens_so hd (by omega); omega)
  have hsl := so_len (lens d)
  have hll := lens_len hd
  have hm : ∀ x ∈ so (lens d), x ∈ lens d := fun x hx => so_mem hx
  apply exIf
  · nomatch q1
  · apply evBin
    · nomatch q14
    · apply evEq (d := .list (fc d))
      · nomatch hso, hm
      · rfl
    · nomatch q1
  · rfl
  subst hl1 hl2
  apply exAsg
  · nomatch q1
  apply exRet
  · nomatch q1
  · apply evBin
    · nomatch q15
    · nomatch q1
    · exact eq_self' (d := .tuple [nT (sp d), nT (sp c)]) (by nomatch q1)
  · rfl
theorem plain0 : ∀ ns : List Int, ns.length ≤ 63 → ∃ ω, evalS gt (run gt P 99) lawB [.un, .s, .un, .un, .un, .un, .un, .un, .un, .un, .un, .un, .un, .un, .un, .un, .un, .un, .un, .un, .un, .un] ⟨0, 0, ns, 1⟩ = .ok (.rt (.bool true)) ω := by
  intro ns _
  generalize (⟨0, 0, ns, 1⟩ : Orc) = w
  show ∃ ω, evalS gt (C (90 + 9)) lt_0 [.un, .s, .un, .un, .un, .un, .un, .un, .un, .un, .un, .un, .un, .un, .un, .un, .un, .un, .un, .un, .un, .un] w = .ok (.rt (.bool true)) ω
  obtain ⟨p', hp1, hp2⟩ := draw_nat w (n := 8) (by decide)
  apply exAsg
  · nomatch hp1
  rw [hp1, show (1 : Int) + p' = ((1 + p' : Nat) : Int) by omega]
  have hp3 : 1 ≤ 1 + p' ∧ 1 + p' ≤ 8 := by omega
  generalize 1 + p' = p at hp3 ⊢
  clear hp1 hp2 p'
  generalize (drawFn w 8).2 = w
  obtain ⟨e', he1, he2⟩ := draw_nat w (n := 8) (by decide)
  apply exAsg
  · nomatch he1
  rw [he1, show (1 : Int) + e' = ((1 + e' : Nat) : Int) by omega]
  have he3 : 1 ≤ 1 + e' ∧ 1 + e' ≤ 8 := by omega
  generalize 1 + e' = e at he3 ⊢
  clear he1 he2 e'
  generalize (drawFn w 8).2 = w
  obtain ⟨c, w2, h, hc⟩ := l_cloth (n := 98) (ω := w) hp3.1 (by omega) he3.1 (by omega)
  apply exAsg
  · nomatch hc
  clear hc
  obtain ⟨c', w3, h', h3⟩ := st3 (n := 99) (ω := w2) (t5 := .un) h
  refine exS h3 ?_
  clear h h3 c
  have h := h'
  clear h'
  have hlc := l_columns (n := 98) (ω := w3) h
  apply exAsg
  · nomatch hlc
  obtain ⟨k, hk1, hk2⟩ := draw_nat w3 (n := (p : Int)) (by omega)
  have hkl : k < c'.length := by rw [h.len]; omega
  apply exAsg
  · apply sAsgZ
    · nomatch hlc
    · apply evIx
      · nomatch hlc
      · nomatch hlc
      · rw [hk1]
        nomatch hlc
    · nomatch hlc
    · nomatch hlc
  generalize (drawFn w3 (p : Int)).2 = w
  have hrow := h.row _ (nth_mem hkl)
  have hmem := nth_mem hkl
  generalize nth c' k = row at hrow hmem
  clear hk1 hk2 hkl k
  have q1 := c_runs (n := 98) (ω := w) (row := row) (by omega) (by omega)
  have q2 := l_runs (n := 98) (ω := w) (row := row) (by omega) (by omega)
  have q3 := c_warps (n := 97) (ω := w) h
  have q4 := c_wefts (n := 97) (ω := w) h
  have q5 := c_lwarp (n := 96) (ω := w) h
  have q6 := c_lweft (n := 96) (ω := w) h
  have q7 := c_longest (n := 97) (ω := w) (l := 0) (cols_cl h) .list (.inr rfl)
  have q8 := c_loose (n := 97) (ω := w) h
  have q9 := c_cross (n := 98) (ω := w) (row := row) (by omega) (by omega)
  have q10 := c_ccross (n := 97) (ω := w) h
  have q11 := c_wcross (n := 97) (ω := w) h
  have q12 := c_even (n := 96) (ω := w) h
  have q13 := c_firm (n := 96) (ω := w) h
  have q14 := c_fcounts (n := 97) (ω := w) h (by omega)
  have q15 := c_pairs (n := 97) (ω := w) h
  have hd := cols_cl h
  clear hlc
  generalize cols c' e = d at *
  exact tail h hd hp3.2 he3.2 hmem hrow q1 q2 q3 q4 q5 q6 q7 q8 q9 q10 q11 q12 q13 q14 q15
end Wv.T

namespace Wv.T
open PySem Wv PySem.Spec PyProof.Rows L2
theorem drawOk {P0 : Program} {w : World} {K : PySem.W.Frag} {h : Heap} {mg : Str → Option Value} {base : Heap} (KX : K.In h) (G : h.Ns mainGlobals mg) (c : He.SaysD fa fn K) :
    ∀ j, ck.dk = some j → ∃ x fd ps, ck.fn[j]? = some x ∧ mg x = some (.ref ((gG K).fa j)) ∧ PySem.W.keepIn K (.ref ((gG K).fa j)) = true ∧ Binds K fd ps [] ∧ FnOk P0 w K mg base (L2.CX P0 w) 2 ((gG K).fa j) fd ps (spD (gG K)) := by
  intro j e
  cases e
  obtain ⟨fd, F⟩ := c.def_ 16 (d := h__law_draw) rfl
  refine ⟨"_law_draw", fd, [("state" : Str), ("limit" : Str)], rfl, He.glo_ok KX G (c.fact 16 (f := .glo "_law_draw") rfl), F.kp, F.bindsN fun _ _ _ _ _ _ us hl => match us, hl with | [_, _], _ => rfl, ?_⟩
  exact fn_draw (N := N__law_draw) (d := d__law_draw) (call := fun _ _ => M.stuck) (clsOk KX G c) ⟨⟨_, _, _, F, sc__law_draw, ck__law_draw⟩, rfl, rfl⟩ rfl fun ω n => draw_eval _ _ ω n
theorem plain : ∀ ns : List Int, ns.length ≤ 63 → ∃ ω, evalS gt (run gt P 99) lawB (ent0 22) ⟨0, 0, ns, 1⟩ = .ok (.rt (.bool true)) ω := plain0
theorem law_body : defBody (top 24) = (defBody (top 24)).headD (.Pass ⟨0, 0, 0, 0⟩) :: (defBody (top 24)).tail := by kernel_rfl
end Wv.T
open PySem PySem.W PySem.Calls PyProof.Rows
theorem PySem.Challenge.cw_wovenwhole_k06_floats_and_crossings_holds : PySem.Challenge.rw_wovenwhole_k06_floats_and_crossings.Holds := by
  w_on; o_law
  refine HandSHeadRun.head_any (r := OpenLaw.row PySem.Challenge.rw_wovenwhole_k06_floats_and_crossings) (q := view (OpenLaw.row PySem.Challenge.rw_wovenwhole_k06_floats_and_crossings).prog [24]) (H := Wv.T.hk) (ob := Wv.T.ob) (M := 4000) (loose := Wv.T.loose) (d := HandSHeadRun.topDef (OpenLaw.row PySem.Challenge.rw_wovenwhole_k06_floats_and_crossings).prog 24) (kwd := []) Wv.T.ob_eq
    (by kernel_rfl) (fun s => by kernel_rfl) Wv.T.hrun (by kernel_rfl) (by kernel_rfl) (by kernel_rfl) (by rfl) (by first | assumption | decide +kernel) (by decide +kernel) ⟨rfl, rfl, rfl, rfl, rfl, by decide +kernel⟩ ?hw ?hc
  case hw => w_witness2
  case hc =>
    refine LamX.walk_ofTsE (l := PySem.Challenge.rw_wovenwhole_k06_floats_and_crossings) (n := 63) (k := 203) (x := "script") (CX := fun _ => L2.CX0) rfl (by decide) (by kernel_rfl) ⟨rfl, by decide, by decide⟩ ?F (fun _ _ _ _ _ z => z)
    intro w mg fa h Y hmG hmg0
    obtain ⟨K, KX, cX⟩ := Y
    have c : He.SaysD Wv.T.fa Wv.T.fn K := Wv.saysD_of cX
    have cx := cX.more
    have hmg : mg ("law" : PySem.Str) = some (.ref fa) := by
      have e : (HandSHeadRun.topDef (OpenLaw.row PySem.Challenge.rw_wovenwhole_k06_floats_and_crossings).prog 24).name = ("law" : PySem.Str) := by kernel_rfl
      rw [← e]
      exact hmg0
    obtain ⟨fd, F⟩ := c.def_ 21 (d := Wv.T.h_law) rfl
    have e := hmg.symm.trans (He.glo_ok KX hmG (c.fact 21 (f := .glo "law") rfl))
    cases e
    have hb := L2.FunD.bindsA (ps := ["script"]) F fun _ _ _ _ _ _ us hl => match us, hl with | [_], _ => rfl
    have F2 : L2.FunD K "law" "law" (L2.defArgs (Wv.T.top 24)) (L2.defBody (Wv.T.top 24)) (L2.defScope (Wv.T.top 24)) [] [] (He.ga K "law") fd := F
    rw [Wv.T.law_body] at F2
    refine ⟨K, KX, fd, Wv.csOf K Wv.T.tf, Wv.spLaw (Wv.T.gG K) K, Wv.cs_empty cX, Wv.cs_out cX, Wv.cs_hd KX cX, fun s v => hb s [v] rfl, fun H a ns hl _ hT hS => ⟨a, ns, rfl, hl, hS, Wv.tabs_of hT, fun _ => rfl⟩, fun base hK hB hT => ?_⟩
    have hd := Wv.T.drawOk (P0 := (PySem.Challenge.rw_wovenwhole_k06_floats_and_crossings).prog) (w := w) (base := base) KX hmG c
    exact Wv.fn_cx0 (L2.FnOk.mono (Wv.law_fn (c := Wv.T.ck) (g := Wv.T.gG K) (m := 99) (k := 200) (f := 21) (N := Wv.T.N_law) (b := Wv.T.lawB) (PP := Wv.T.P) (Wv.T.clsOk KX hmG c) ⟨⟨_, _, _, _, F2, Wv.T.sc_law, Wv.T.ck_law0, Wv.T.ck_law⟩⟩ (Wv.codeOk_of hT rfl (by decide +kernel) F) (by decide)
      (Wv.ladder (Wv.T.clsOk KX hmG c) (Wv.T.known KX hmG c hT ) hd 99) (fun j ej => by
        obtain ⟨x, fd, ps, h1, h2, h3, h4, h5⟩ := hd j ej
        exact ⟨x, fd, ps, h1, h2, h3, h4, h5.mono (by omega)⟩) Wv.T.plain) (by decide))

