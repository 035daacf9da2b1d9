import PyProof.Rows.All
import Wide.All
import OpenK.AllK
import Wide.FinOn
import KE.KStateDown
import Lean
import HandS.Base
import HandS.Call
import HandS.Ends
import HandS.More
import HandS.Words
import HandS.WordsExc
import HandS.Defaults
import HandS.Head0
import HandS.Head1
import HandS.Head2
import HandS.HeadEnd
import HandS.HeadHook1
import HandS.HeadHook2
import HandS.List
import KE.DataMinMax
import KE.SortData
import KE.DataAny
import HandS.ForMost
import HandS.Exc
import HandS.TryOnly
import HandS.ExcOwn
import HandS.Flow
import HandS.Style
import HandS.TupAny
import HandS.TupMul
import HandS.Zip
import HandS.Rev
import HandS.RevTup
import HandS.Wide
import HandS.Deep
import HandS.IsInst
import HandS.CallLocal
import HandS.AnyAll
import KE.KDictKeyed
import KE.KDictWalk
import HandS.WideMore
import HandS.TryMany
import HandS.HotCalls
import HandS.ExcIs
import PySem.Challenge.RW_wovenwhole_k01_numbers_for_weavers
set_option autoImplicit false
set_option linter.all false
namespace Wv
open PySem

/-! the texts as plain data: slots in the place of names -/
inductive Bop | add | sub | mul | fdiv | mod | pow | eq | ne | lt | le | gt | ge | is_ | isn | in_ | nin
  deriving DecidableEq, Repr
inductive P1 | len | abs | sum | max | min | sorted | sortedr | list | tuple | int | bool | str | any | all
  deriving DecidableEq, Repr
inductive P2 | max | min
  deriving DecidableEq, Repr
inductive Ty | int | bool | str | tuple | list
  deriving DecidableEq, Repr
inductive Tg | nm (i : Nat) | t0 | tc (a b : Tg)
  deriving DecidableEq, Repr
mutual
inductive E
  | var (i : Nat) | pk (i : Nat) | lit (d : PyData) | glb (k : Nat)
  | bin (o : Bop) (a b : E) | chain (o1 o2 : Bop) (a b c : E)
  | neg (a : E) | not_ (a : E) | bo (isAnd : Bool) (es : Es) | ite (c a b : E)
  | tup (es : Es) | lst (es : Es) | dic (es : Es)
  | ix (a b : E) | sl (a lo hi st : E)
  | call (f : Nat) (b : Bool) (es : Es) | callv (i : Nat) (es : Es) | draw (i : Nat) (e : E) | gfn (f : Nat)
  | b1 (p : P1) (a : E) | b2 (p : P2) (a b : E) | isa (a : E) (t : Ty)
  | mcount (a b : E) | mindex (a b : E) | mget (a b c : E) | mjoin (a b : E) | msplit (a b : E)
  | rng (es : Es) | rev (a : E) | enm (a : E) | zp (a b : E) | zp3 (a b c : E) | items (a : E) | vals (a : E) | setof (a : E)
  | comp (t : Tg) (it : E) (ts : Es) (e : E) | comp2 (t : Tg) (it : E) (ts : Es) (t2 : Tg) (it2 : E) (ts2 : Es) (e : E)
  | dcomp (t : Tg) (it : E) (ts : Es) (k v : E) | dcomp2 (t : Tg) (it : E) (t2 : Tg) (it2 : E) (k v : E)
  | gen (isAll : Bool) (t : Tg) (it e : E) | gen2 (isAll : Bool) (t : Tg) (it : E) (t2 : Tg) (it2 e : E)
  | fstr (es : Es) | sget (i k : Nat) | slen (i : Nat) | scell (i j : Nat)
inductive Es
  | nil | cons (e : E) (es : Es)
end
/-- what a clause 'except' returns -/
inductive Hd | lit (d : PyData) | lstP (x : Str) | tupP (x : Str)
inductive S
  | skip | seq (a b : S) | pass
  | asg (t : Tg) (e : E) | par (t : Tg) (es : Es)
  | aug (i : Nat) (o : Bop) (e : E)
  | setix (i : Nat) (k v : E) | augix (i : Nat) (o : Bop) (k v : E) | delix (i : Nat) (k : E) | swapix (i : Nat) (a b c d : E)
  | app (i : Nat) (e : E) | ext (i : Nat) (e : E) | rem (i : Nat) (e : E) | popTo (t : Tg) (i : Nat)
  | appix (i : Nat) (k e : E) | setix2 (i : Nat) (k l v : E)
  | sdef (i : Nat) (k v : E) (a : S)
  | expr (e : E) | ret (e : E) | retn | st0 (i j : Nat)
  | ite (c : E) (a b : S) | wh (c : E) (b : S) | for_ (t : Tg) (it : E) (b : S) | forPop (t : Tg) (f : Nat) (es : Es) (i : Nat) (b : S)
  | brk | cnt
  | raise (c : Nat) | raiseP (c : Nat) (e : E)
  | try_ (r : Bool) (e : E) (hs : List (Nat × Hd)) | sset (i k : Nat) (e : E)

/-! the state of the draws; what an evaluation gives -/
structure Orc where
  a : Int
  b : Int
  scr : List Int
  c : Int
inductive R (α : Type) | ok (a : α) (w : Orc) | exc (c : Nat) (p : PyData) (w : Orc) | stuck
def M (α : Type) : Type := Orc → R α
namespace M
variable {α β γ : Type}
def ret (a : α) : M α := fun w => .ok a w
def bnd (m : M α) (f : α → M β) : M β := fun w => match m w with
  | .ok a w' => f a w'
  | .exc c p w' => .exc c p w'
  | .stuck => .stuck
instance : Monad M where
  pure := ret
  bind := bnd
def stuck : M α := fun _ => .stuck
def raise (c : Nat) (p : PyData) : M α := fun w => .exc c p w
def guard (c : Bool) (m : M α) : M α := if c = true then m else stuck
def ofO (o : Option α) : M α := match o with
  | some a => pure a
  | none => stuck
def noexc (m : M α) : M α := fun w => match m w with
  | .ok a w' => .ok a w'
  | _ => .stuck
theorem bnd_def (m : M α) (f : α → M β) : (m >>= f) = bnd m f := rfl
theorem pure_def (a : α) : (pure a : M α) = ret a := rfl
@[simp] theorem pure_bnd (a : α) (f : α → M β) : (pure a >>= f) = f a := rfl
@[simp] theorem bnd_pure (m : M α) : (m >>= pure) = m := by
  funext w; show bnd m ret w = m w; unfold bnd; cases m w <;> rfl
@[simp] theorem bnd_assoc (m : M α) (f : α → M β) (g : β → M γ) : (m >>= f >>= g) = (m >>= fun a => f a >>= g) := by
  funext w; show bnd (bnd m f) g w = bnd m (fun a => bnd (f a) g) w; unfold bnd; cases m w <;> rfl
@[simp] theorem stuck_bnd (f : α → M β) : (stuck >>= f) = stuck := rfl
@[simp] theorem raise_bnd (c : Nat) (p : PyData) (f : α → M β) : (raise c p >>= f) = raise c p := rfl
@[simp] theorem guard_true (m : M α) : guard true m = m := rfl
@[simp] theorem ofO_some (a : α) : ofO (some a) = (pure a : M α) := rfl
@[simp] theorem noexc_pure (a : α) : noexc (pure a) = pure a := rfl
instance : LawfulMonad M := LawfulMonad.mk' M (id_map := fun x => by
  show (x >>= fun a => pure (id a)) = x; exact bnd_pure x) (pure_bind := fun _ _ => rfl) (bind_assoc := bnd_assoc)
@[simp] theorem map_def (f : α → β) (m : M α) : (f <$> m) = (m >>= fun a => pure (f a)) := rfl
end M
open M

inductive Slot
  | un | v (own : Bool) (d : PyData) | f (i : Nat) | s | x (c : Nat) (p : PyData)
abbrev Env := List Slot

/-! values -/
def gO {α : Type} (c : Bool) (m : Option α) : Option α := if c = true then m else none
@[simp] theorem gO_true {α : Type} (m : Option α) : gO true m = m := rfl
theorem gO_some {α : Type} {c : Bool} {m : Option α} {a : α} (h : gO c m = some a) : c = true ∧ m = some a := by
  unfold gO at h; cases c with
  | true => exact ⟨rfl, h⟩
  | false => cases h
abbrev sizeL : Nat := sizeLine
def scal : PyData → Bool
  | .none | .bool _ | .int _ | .str _ => true
  | _ => false
/-- what is not proved yet is left out -/
abbrev later : Bool := false
def evHd (p : PyData) : Hd → PyData
  | .lit d => d
  | .lstP x => .list [.str x, p]
  | .tupP x => .tuple [.str x, p]
def isDic : PyData → Bool
  | .dict _ => true
  | _ => false
def tru : PyData → Option Bool
  | .none => some false
  | .bool b => some b
  | .int i => some (i != 0)
  | .str s => gO (decide (s.length ≤ sizeLine)) (some (s.length != 0))
  | .list xs => some (!xs.isEmpty)
  | .tuple xs => some (!xs.isEmpty)
  | .dict kvs => gO later (some (!kvs.isEmpty))
def tbl : PyData → Bool
  | .none | .bool _ | .int _ => true
  | .str s => decide (s.length ≤ sizeLine)
  | .list xs => PyData.plainAll xs
  | .tuple xs => PyData.plainAll xs
  | .dict _ => false
def itemsOf : PyData → Option (List PyData)
  | .list xs => some xs
  | .tuple xs => some xs
  | .str s => some (s.cps.toList.map fun c => .str ⟨#[c]⟩)
  | .dict kvs => gO later (some (kvs.map (·.1)))
  | _ => none
def leafKey : PyData → Bool
  | .int _ | .str _ | .none => true
  | _ => false
def dfind (kvs : List (PyData × PyData)) (k : PyData) : Option PyData := (kvs.find? fun p => PyData.eqv p.1 k).map (·.2)
def dput (kvs : List (PyData × PyData)) (k v : PyData) : List (PyData × PyData) :=
  if (kvs.any fun p => PyData.eqv p.1 k) = true then kvs.map fun p => if PyData.eqv p.1 k = true then (p.1, v) else p else kvs ++ [(k, v)]
def ddel (kvs : List (PyData × PyData)) (k : PyData) : List (PyData × PyData) := kvs.filter fun p => !PyData.eqv p.1 k
def shp (d : PyData) : Bool := SeqAt.shaped d
/-- may the two be asked which is less -/
def cmpOk (a b : PyData) : Bool := W.alike a b && (match a with
  | .none => false
  | _ => true) && shp a && shp b
def bigOk (i j : Int) : Bool := decide (i.natAbs.log2 + j.natAbs.log2 < 900000) || (decide (i.natAbs < 2 ^ 64) || decide (j.natAbs < 2 ^ 64))
def divOk (j : Int) : Bool := decide (j ≠ 0) && decide (j.natAbs.log2 < 8000)
def rep (k : Int) (xs : List PyData) : List PyData := (List.replicate k.toNat xs).flatten
def strOf (i : Int) : Str := Str.ofString (toString i)
def isD : PyData → PyData → Option Bool
  | .none, .none => some true
  | _, .none => some false
  | .bool a, .bool b => some (a == b)
  | _, .bool _ => some false
  | _, _ => none
def subStr (i j : Str) : Bool := !(Builtin.Str.occurrences j i 0 j.length 1).isEmpty
def inD (x : PyData) : PyData → Option Bool
  | .list ds => gO (shp x && shp (.list ds)) (some (ds.any fun z => PyData.eqv z x))
  | .tuple ds => gO (shp x && shp (.tuple ds)) (some (ds.any fun z => PyData.eqv z x))
  | .dict kvs => gO later (gO (shp x) (some (dfind kvs x).isSome))
  | .str j => match x with
    | .str i => some (subStr i j)
    | _ => none
  | _ => none
def bop : Bop → PyData → PyData → Option PyData
  | .add, .int i, .int j => some (.int (i + j))
  | .add, .str i, .str j => gO (decide (i.length + j.length ≤ sizeLine)) (some (.str (i ++ j)))
  | .add, .list xs, .list ys => gO (decide (xs.length + ys.length ≤ sizeLine)) (some (.list (xs ++ ys)))
  | .add, .tuple xs, .tuple ys => gO (decide (xs.length + ys.length ≤ sizeLine)) (some (.tuple (xs ++ ys)))
  | .sub, .int i, .int j => some (.int (i - j))
  | .mul, .int i, .int j => gO (bigOk i j) (some (.int (i * j)))
  | .mul, .list xs, .int k => gO (decide (-(2 ^ 62) < k) && decide (k ≤ 1000) && decide (xs.length ≤ 1000)) (some (.list (rep k xs)))
  | .mul, .tuple xs, .int k => gO (decide (-(2 ^ 62) < k) && decide (k ≤ 1000) && decide (xs.length ≤ 1000)) (some (.tuple (rep k xs)))
  | .fdiv, .int i, .int j => gO (divOk j) (some (.int (i.fdiv j)))
  | .mod, .int i, .int j => gO (decide (j ≠ 0)) (some (.int (i.fmod j)))
  | .pow, .int i, .int j => gO (decide (0 ≤ j) && decide (j ≤ 1000000) && decide (i.natAbs < 2 ^ 64)) (some (.int (i ^ j.toNat)))
  | .eq, a, b => gO (shp a && shp b) (some (.bool (PyData.eqv a b)))
  | .ne, a, b => gO (shp a && shp b) (some (.bool (!PyData.eqv a b)))
  | .lt, a, b => gO (cmpOk a b) (some (.bool (W.dataLt a b)))
  | .le, a, b => gO (cmpOk a b) (some (.bool (!W.dataLt b a)))
  | .gt, a, b => gO (cmpOk a b) (some (.bool (W.dataLt b a)))
  | .ge, a, b => gO (cmpOk a b) (some (.bool (!W.dataLt a b)))
  | .is_, a, b => do some (.bool (← isD a b))
  | .isn, a, b => do some (.bool (!(← isD a b)))
  | .in_, a, b => do some (.bool (← inD a b))
  | .nin, a, b => do some (.bool (!(← inD a b)))
  | _, _, _ => none
def intsOf : List PyData → Option (List Int)
  | [] => some []
  | .int i :: r => (intsOf r).map (i :: ·)
  | _ :: _ => none
def allAlike (xs : List PyData) : Bool := xs.all fun a => xs.all fun b => cmpOk a b
def sortOk (xs : List PyData) : Bool := (xs.all fun d => match d with
    | .tuple (_ :: _) => true
    | _ => false) || (xs.all fun d => match d with
    | .tuple _ => false
    | .none => false
    | _ => true)
def dedup : List PyData → List PyData
  | [] => []
  | x :: xs => x :: (dedup xs).filter fun y => !PyData.eqv x y
def p1 : P1 → PyData → Option PyData
  | .len, .list xs => some (.int xs.length)
  | .len, .tuple xs => some (.int xs.length)
  | .len, .dict xs => gO later (some (.int xs.length))
  | .len, .str s => gO (decide (s.length ≤ sizeLine)) (some (.int s.length))
  | .abs, .int i => some (.int (if i < 0 then -i else i))
  | .sum, .list xs => (intsOf xs).map fun ns => .int ns.sum
  | .sum, .tuple xs => (intsOf xs).map fun ns => .int ns.sum
  | .max, .list (x :: xs) => gO (allAlike (x :: xs)) (some (W.maxD x xs))
  | .max, .tuple (x :: xs) => gO (allAlike (x :: xs)) (some (W.maxD x xs))
  | .min, .list (x :: xs) => gO (allAlike (x :: xs)) (some (W.minD x xs))
  | .min, .tuple (x :: xs) => gO (allAlike (x :: xs)) (some (W.minD x xs))
  | .sorted, d => do
    let xs ← itemsOf d
    gO (allAlike xs && sortOk xs) (some (.list (xs.mergeSort (W.dataLe false id))))
  | .sortedr, d => do
    let xs ← itemsOf d
    gO (allAlike xs && sortOk xs) (some (.list (xs.mergeSort (W.dataLe true id))))
  | .list, d => do some (.list (← itemsOf d))
  | .tuple, .tuple xs => some (.tuple xs)
  | .tuple, d => do some (.tuple (← itemsOf d))
  | .int, .int i => some (.int i)
  | .int, .bool b => some (.int (if b then 1 else 0))
  | .int, .str x => match intText? x with
    | some n => gO (decide (x.length ≤ 640)) (some (.int n))
    | none => none
  | .bool, d => gO later (do some (.bool (← tru d)))
  | .str, .int i => gO (decide (i.natAbs.log2 < 1900)) (some (.str (strOf i)))
  | .str, .str x => gO later (some (.str x))
  | .any, .list xs => gO (xs.all tbl) (some (.bool (xs.any PyData.truthy)))
  | .any, .tuple xs => gO (xs.all tbl) (some (.bool (xs.any PyData.truthy)))
  | .all, .list xs => gO (xs.all tbl) (some (.bool (xs.all PyData.truthy)))
  | .all, .tuple xs => gO (xs.all tbl) (some (.bool (xs.all PyData.truthy)))
  | _, _ => none
def p2 : P2 → PyData → PyData → Option PyData
  | .max, a, b => gO (cmpOk b a) (some (if W.dataLt a b = true then b else a))
  | .min, a, b => gO (cmpOk b a) (some (if W.dataLt b a = true then b else a))
def isaD : PyData → Ty → Bool
  | .int _, .int => true
  | .bool _, .int => true
  | .bool _, .bool => true
  | .str _, .str => true
  | .tuple _, .tuple => true
  | .list _, .list => true
  | _, _ => false
def ixD : PyData → PyData → Option PyData
  | .list xs, .int i => (L2.atI xs i)
  | .tuple xs, .int i => (L2.atI xs i)
  | .str s, .int i => gO (decide (s.length ≤ sizeLine)) (((L2.atI s.cps.toList i).map fun c => .str ⟨#[c]⟩))
  | .dict kvs, k => gO later (gO (shp k) ((dfind kvs k)))
  | _, _ => none
/-- the places of a slice with a step -/
def stepIx (n : Nat) (lo hi : Option Int) (st : Int) : List Nat :=
  if 0 < st then
    let a := HT.sIx n 0 lo
    let b := HT.sIx n n hi
    (List.range n).filter fun i => decide (a ≤ i) && decide (i < b) && decide ((((i : Int) - a) % st) = 0)
  else
    let a : Int := match lo with
      | none => (n : Int) - 1
      | some i => if i < 0 then max (i + n) (-1) else min i ((n : Int) - 1)
    let b : Int := match hi with
      | none => -1
      | some i => if i < 0 then max (i + n) (-1) else min i ((n : Int) - 1)
    ((List.range n).reverse).filter fun i => decide ((i : Int) ≤ a) && decide (b < (i : Int)) && decide ((a - (i : Int)) % (-st) = 0)
def slL {α : Type} (xs : List α) (lo hi st : Option Int) : List α := match st with
  | none => (xs.drop (HT.sIx xs.length 0 lo)).take (HT.sIx xs.length xs.length hi - HT.sIx xs.length 0 lo)
  | some k => (stepIx xs.length lo hi k).filterMap fun i => xs[i]?
def partI : PyData → Option (Option Int)
  | .none => some none
  | .int i => some (some i)
  | _ => none
def slD (a : PyData) (lo hi st : Option Int) : Option PyData := gO (st != some 0) (match a with
  | .list xs => some (.list (slL xs lo hi st))
  | .tuple xs => some (.tuple (slL xs lo hi st))
  | .str s => gO (decide (s.length ≤ sizeLine)) (some (.str ⟨(slL s.cps.toList lo hi st).toArray⟩))
  | _ => none)
def zipD : List PyData → List PyData → List PyData
  | x :: xs, y :: ys => .tuple [x, y] :: zipD xs ys
  | _, _ => []
def zip3D : List PyData → List PyData → List PyData → List PyData
  | x :: xs, y :: ys, z :: zs => .tuple [x, y, z] :: zip3D xs ys zs
  | _, _, _ => []
def enumD : Nat → List PyData → List PyData
  | _, [] => []
  | k, x :: xs => .tuple [.int k, x] :: enumD (k + 1) xs
def rangeD (lo : Int) : Nat → Int → List PyData
  | 0, _ => []
  | n + 1, c => .int lo :: rangeD (lo + c) n c
def rngN (lo hi c : Int) : Nat := if 0 < c then ((hi - lo + c - 1) / c).toNat else ((lo - hi - c - 1) / (-c)).toNat
def rngD : List PyData → Option PyData
  | [.int n] => gO (decide (n ≤ 1000000) && decide (-(2 ^ 60) < n)) (some (.list (rangeD 0 n.toNat 1)))
  | [.int a, .int b] => gO (decide (b - a ≤ 1000000) && decide (-(2 ^ 60) < a) && decide (a < 2 ^ 60) && decide (-(2 ^ 60) < b) && decide (b < 2 ^ 60)) (some (.list (rangeD a (b - a).toNat 1)))
  | [.int a, .int b, .int c] => gO (decide (c ≠ 0) && decide (rngN a b c ≤ 1000000) && decide (-(2 ^ 60) < a) && decide (a < 2 ^ 60) && decide (-(2 ^ 60) < b) && decide (b < 2 ^ 60) && decide (c.natAbs < 2 ^ 30)) (some (.list (rangeD a (rngN a b c) c)))
  | _ => none
def strsOf : List PyData → Option (List Str)
  | [] => some []
  | .str i :: r => (strsOf r).map (i :: ·)
  | _ :: _ => none
def joinS (sep : Str) : List Str → Str
  | [] => ⟨#[]⟩
  | [x] => x
  | x :: r => x ++ sep ++ joinS sep r
def splitL (sep : Nat) : List Nat → List (List Nat)
  | [] => [[]]
  | c :: r => if c = sep then [] :: splitL sep r else match splitL sep r with
    | [] => [[c]]
    | w :: ws => (c :: w) :: ws
def catS : List PyData → Option PyData
  | [] => some (.str ⟨#[]⟩)
  | .str x :: r => do match ← catS r with
    | .str y => gO (decide (x.length + y.length ≤ sizeLine)) (some (.str (x ++ y)))
    | _ => none
  | .int i :: r => do match ← catS r with
    | .str y => gO (decide (i.natAbs.log2 < 1900)) (some (.str (strOf i ++ y)))
    | _ => none
  | _ :: _ => none
def mcountD (x y : PyData) : Option PyData := match x with
  | .list xs => gO (shp y && shp (.list xs)) (some (.int ((xs.filter fun z => PyData.eqv z y).length)))
  | .tuple xs => gO (shp y && shp (.tuple xs)) (some (.int ((xs.filter fun z => PyData.eqv z y).length)))
  | _ => none
def mindexD (x y : PyData) : Option PyData := match x with
  | .list xs => gO (shp y && shp (.list xs)) ((xs.findIdx? fun z => PyData.eqv z y).map fun k => .int k)
  | .tuple xs => gO (shp y && shp (.tuple xs)) ((xs.findIdx? fun z => PyData.eqv z y).map fun k => .int k)
  | .str s => match y with
    | .str c => gO (decide (c.length = 1)) ((s.cps.toList.findIdx? fun z => [z] == c.cps.toList).map fun k => .int k)
    | _ => none
  | _ => none
def mgetD (x y z : PyData) : Option PyData := match x with
  | .dict kvs => gO (shp y) (some ((dfind kvs y).getD z))
  | _ => none
def joinD (x y : PyData) : Option PyData := match x with
  | .str sep => do match strsOf (← itemsOf y) with
    | some ws => some (.str (joinS sep ws))
    | none => none
  | _ => none
def splitD (x y : PyData) : Option PyData := match x, y with
  | .str s, .str c => match c.cps.toList with
    | [k] => some (.list ((splitL k s.cps.toList).map fun w => .str ⟨w.toArray⟩))
    | _ => none
  | _, _ => none
def revD (x : PyData) : Option PyData := do some (.list (← itemsOf x).reverse)
def enmD (x : PyData) : Option PyData := do some (.list (enumD 0 (← itemsOf x)))
def zpD (x y : PyData) : Option PyData := do some (.list (zipD (← itemsOf x) (← itemsOf y)))
def zp3D (x y z : PyData) : Option PyData := do some (.list (zip3D (← itemsOf x) (← itemsOf y) (← itemsOf z)))
def itmD : PyData → Option PyData
  | .dict kvs => some (.list (kvs.map fun p => .tuple [p.1, p.2]))
  | _ => none
def valD : PyData → Option PyData
  | .dict kvs => some (.list (kvs.map fun p => p.2))
  | _ => none
def setD (x : PyData) : Option PyData := do
  let xs ← itemsOf x
  gO (xs.all shp) (some (.list (dedup xs)))
/-- the draw -/
def drawFn (w : Orc) (n : Int) : Int × Orc :=
  let w1 : Orc := if w.a < n then
      let cell : Int := if w.b < w.scr.length then w.scr.getD w.b.toNat 0 else 0
      if cell ≥ 10 ^ 18 then { w with a := cell, b := w.b + 1 }
      else
        let c := ((w.c + cell % 2147483629 + w.b + 1) * 48271) % 2147483647
        let m := (c * 69621 + 11) % 2147483629
        { a := m * 2147483647 + (m * 30011 + c) % 2147483587, b := w.b + 1, scr := w.scr, c := c }
    else w
  (w1.a % n, { w1 with a := w1.a / n })
def draw (n : Int) : M Int := fun w => if 0 < n ∧ n < 2 ^ 64 then .ok (drawFn w n).1 (drawFn w n).2 else .stuck

/-! targets -/
def setS (ρ : Env) (i : Nat) (s : Slot) : Env := ρ.set i s
def asgT : Tg → Bool → PyData → Env → M Env
  | .nm i, o, d, ρ => pure (ρ.set i (.v o d))
  | .t0, _, .tuple [], ρ => pure ρ
  | .tc a b, o, .tuple (x :: xs), ρ => do asgT b false (.tuple xs) (← asgT a false x ρ)
  | _, _, _, _ => stuck
/-- the slots of a target -/
def tgS : Tg → List Nat
  | .nm i => [i]
  | .t0 => []
  | .tc a b => tgS a ++ tgS b
/-- the slots of a block's own names forgotten -/
def clr : List Nat → Env → Env
  | [], ρ => ρ
  | i :: is, ρ => clr is (ρ.set i .un)
def compM (f : PyData → M (Option PyData)) : List PyData → M (List PyData)
  | [] => pure []
  | x :: xs => do match ← f x with
    | none => compM f xs
    | some y => do pure (y :: (← compM f xs))
def comp2M (f : PyData → M (List PyData)) : List PyData → M (List PyData)
  | [] => pure []
  | x :: xs => do pure ((← f x) ++ (← comp2M f xs))
def dcompM (f : PyData → M (Option (PyData × PyData))) : List PyData → List (PyData × PyData) → M (List (PyData × PyData))
  | [], acc => pure acc
  | x :: xs, acc => do match ← f x with
    | none => dcompM f xs acc
    | some (k, v) => dcompM f xs (dput acc k v)
/-- all (b = true), any (b = false), with a short end -/
def genM (b : Bool) (f : PyData → M Bool) : List PyData → M Bool
  | [] => pure b
  | x :: xs => do if (← f x) = b then genM b f xs else pure (!b)
def freshE : E → Bool
  | .lst _ | .dic _ | .comp .. | .comp2 .. | .dcomp .. | .dcomp2 .. | .b1 .list _ | .b1 .sorted _ | .b1 .sortedr _ | .sl .. | .bin .mul _ _ => true
  | _ => false
def ownV (f : Bool) : PyData → Bool
  | .list _ => f
  | .dict _ => f
  | _ => false
def okEl (d : PyData) : Bool := !isDic d

def getV : Option Slot → M PyData
  | some (.v false d) => pure d
  | _ => stuck
def getP : Option Slot → M PyData
  | some (.v _ d) => pure d
  | _ => stuck
/-- an argument -/
def argS (e : E) (ρ : Env) (m : M PyData) : M Slot := match e with
  | .gfn f => pure (Slot.f f)
  | .var i => match ρ[i]? with
    | some (.v false d) => pure (.v false d)
    | some (.f k) => pure (.f k)
    | some .s => pure .s
    | _ => stuck
  | _ => do pure (.v false (← m))
section
variable (gt : Nat → Option PyData) (call : Nat → List Slot → M PyData)
mutual
def evalE : E → Env → M PyData
  | .var i, ρ => getV ρ[i]?
  | .pk i, ρ => getP ρ[i]?
  | .lit d, _ => pure d
  | .glb k, _ => ofO (gt k)
  | .bin o a b, ρ => do let x ← evalE a ρ; let y ← evalE b ρ; ofO (bop o x y)
  | .chain o1 o2 a b c, ρ => do
    let x ← evalE a ρ
    let y ← evalE b ρ
    match ← ofO (bop o1 x y) with
    | .bool true => do let z ← evalE c ρ; ofO (bop o2 y z)
    | .bool false => pure (.bool false)
    | _ => stuck
  | .neg a, ρ => do match ← evalE a ρ with
    | .int i => pure (.int (-i))
    | _ => stuck
  | .not_ a, ρ => do let x ← evalE a ρ; let b ← ofO (tru x); pure (.bool (!b))
  | .bo isAnd es, ρ => evalB isAnd es ρ
  | .ite c a b, ρ => do let x ← evalE c ρ; let t ← ofO (tru x); if t = true then evalE a ρ else evalE b ρ
  | .tup es, ρ => do let xs ← evalEs es ρ; guard (xs.all okEl) (pure (.tuple xs))
  | .lst es, ρ => do let xs ← evalEs es ρ; guard (xs.all okEl) (pure (.list xs))
  | .dic es, ρ => do pure (.dict (← evalKV es [] ρ))
  | .ix a b, ρ => do let x ← evalE a ρ; let y ← evalE b ρ; ofO (ixD x y)
  | .sl a lo hi st, ρ => do
    let x ← evalE a ρ
    let l ← evalE lo ρ
    let l ← ofO (partI l)
    let h ← evalE hi ρ
    let h ← ofO (partI h)
    let s ← evalE st ρ
    let s ← ofO (partI s)
    ofO (slD x l h s)
  | .call f b es, ρ => do
    let xs ← evalAs es ρ
    let d ← call f xs
    guard (!b || scal d) (pure d)
  | .callv i es, ρ => match ρ[i]? with
    | some (.f k) => do let xs ← evalAs es ρ; call k xs
    | _ => stuck
  | .draw i e, ρ => match ρ[i]? with
    | some .s => do match ← evalE e ρ with
      | .int n => do pure (.int (← draw n))
      | _ => stuck
    | _ => stuck
  | .gfn _, _ => stuck
  | .b1 p a, ρ => do let x ← evalE a ρ; ofO (p1 p x)
  | .b2 p a b, ρ => do let x ← evalE a ρ; let y ← evalE b ρ; ofO (p2 p x y)
  | .isa a t, ρ => do let x ← evalE a ρ; guard (!isDic x) (pure (.bool (isaD x t)))
  | .mcount a b, ρ => do let x ← evalE a ρ; let y ← evalE b ρ; ofO (mcountD x y)
  | .mindex a b, ρ => do let x ← evalE a ρ; let y ← evalE b ρ; ofO (mindexD x y)
  | .mget a b c, ρ => do let x ← evalE a ρ; let y ← evalE b ρ; let z ← evalE c ρ; ofO (mgetD x y z)
  | .mjoin a b, ρ => do let x ← evalE a ρ; let y ← evalE b ρ; ofO (joinD x y)
  | .msplit a b, ρ => do let x ← evalE a ρ; let y ← evalE b ρ; ofO (splitD x y)
  | .rng es, ρ => do let xs ← evalEs es ρ; ofO (rngD xs)
  | .rev a, ρ => do let x ← evalE a ρ; ofO (revD x)
  | .enm a, ρ => do let x ← evalE a ρ; ofO (enmD x)
  | .zp a b, ρ => do let x ← evalE a ρ; let y ← evalE b ρ; ofO (zpD x y)
  | .zp3 a b c, ρ => do let x ← evalE a ρ; let y ← evalE b ρ; let z ← evalE c ρ; ofO (zp3D x y z)
  | .items a, ρ => do let x ← evalE a ρ; ofO (itmD x)
  | .vals a, ρ => do let x ← evalE a ρ; ofO (valD x)
  | .setof a, ρ => do let x ← evalE a ρ; ofO (setD x)
  | .comp t it ts e, ρ => noexc (do
    let x0 ← evalE it ρ
    let xs ← ofO (itemsOf x0)
    let ρ := clr (tgS t) ρ
    guard (decide (xs.length ≤ 1000000)) (do
    let ys ← compM (fun x => do
      let ρ' ← asgT t false x ρ
      let b ← evalT ts ρ'
      if b = true then do let y ← evalE e ρ'; guard (okEl y) (pure (some y)) else pure none) xs
    pure (.list ys)))
  | .comp2 t it ts t2 it2 ts2 e, ρ => noexc (do
    let x0 ← evalE it ρ
    let xs ← ofO (itemsOf x0)
    let ρ := clr (tgS t ++ tgS t2) ρ
    let ys ← comp2M (fun x => do
      let ρ' ← asgT t false x ρ
      if (← evalT ts ρ') = true then do
        let z0 ← evalE it2 ρ'
        let zs ← ofO (itemsOf z0)
        compM (fun z => do
          let ρ2 ← asgT t2 false z ρ'
          if (← evalT ts2 ρ2) = true then do let y ← evalE e ρ2; guard (okEl y) (pure (some y)) else pure none) zs
      else pure []) xs
    guard (decide (ys.length ≤ 1000000)) (pure (.list ys)))
  | .dcomp t it ts k v, ρ => noexc (do
    let x0 ← evalE it ρ
    let xs ← ofO (itemsOf x0)
    let ρ := clr (tgS t) ρ
    let kvs ← dcompM (fun x => do
      let ρ' ← asgT t false x ρ
      if (← evalT ts ρ') = true then do let a ← evalE k ρ'; let b ← evalE v ρ'; guard (shp a && okEl b) (pure (some (a, b))) else pure none) xs []
    pure (.dict kvs))
  | .dcomp2 t it t2 it2 k v, ρ => noexc (do
    let x0 ← evalE it ρ
    let xs ← ofO (itemsOf x0)
    let ρ := clr (tgS t ++ tgS t2) ρ
    let ps ← comp2M (fun x => do
      let ρ' ← asgT t false x ρ
      let z0 ← evalE it2 ρ'
      let zs ← ofO (itemsOf z0)
      compM (fun z => do
        let ρ2 ← asgT t2 false z ρ'
        let a ← evalE k ρ2
        let b ← evalE v ρ2
        guard (shp a && okEl b) (pure (some (.tuple [a, b])))) zs) xs
    let kvs ← dcompM (fun p => match p with
      | .tuple [a, b] => pure (some (a, b))
      | _ => stuck) ps []
    pure (.dict kvs))
  | .gen isAll t it e, ρ => noexc (do
    let x0 ← evalE it ρ
    let xs ← ofO (itemsOf x0)
    let ρ := clr (tgS t) ρ
    pure (.bool (← genM isAll (fun x => do
      let ρ' ← asgT t false x ρ
      let y ← evalE e ρ'
      ofO (tru y)) xs)))
  | .gen2 isAll t it t2 it2 e, ρ => noexc (do
    let x0 ← evalE it ρ
    let xs ← ofO (itemsOf x0)
    let ρ := clr (tgS t ++ tgS t2) ρ
    pure (.bool (← genM isAll (fun x => do
      let ρ' ← asgT t false x ρ
      let z0 ← evalE it2 ρ'
      let zs ← ofO (itemsOf z0)
      genM isAll (fun z => do
        let ρ2 ← asgT t2 false z ρ'
        let y ← evalE e ρ2
        ofO (tru y)) zs) xs)))
  | .fstr es, ρ => do let xs ← evalEs es ρ; ofO (catS xs)
  | .sget i k, ρ => match ρ[i]? with
    | some .s => fun w => match k with
      | 0 => .ok (.int w.a) w
      | 1 => .ok (.int w.b) w
      | 3 => .ok (.int w.c) w
      | _ => .stuck
    | _ => stuck
  | .slen i, ρ => match ρ[i]? with
    | some .s => fun w => .ok (.int w.scr.length) w
    | _ => stuck
  | .scell i j, ρ => match ρ[i]? with
    | some .s => do match ← getV ρ[j]? with
      | .int j => fun w => match L2.atI w.scr j with
        | some v => .ok (.int v) w
        | none => .stuck
      | _ => stuck
    | _ => stuck
def evalEs : Es → Env → M (List PyData)
  | .nil, _ => pure []
  | .cons e es, ρ => do let x ← evalE e ρ; let xs ← evalEs es ρ; pure (x :: xs)
/-- a chain of and, or -/
def evalB (isAnd : Bool) : Es → Env → M PyData
  | .nil, _ => stuck
  | .cons e es, ρ => do
    let x ← evalE e ρ
    match es with
    | .nil => pure x
    | .cons _ _ => do let t ← ofO (tru x); if t = isAnd then evalB isAnd es ρ else pure x
/-- the tests of a comprehension -/
def evalT : Es → Env → M Bool
  | .nil, _ => pure true
  | .cons e es, ρ => do let x ← evalE e ρ; let t ← ofO (tru x); if t = true then evalT es ρ else pure false
def evalKV : Es → List (PyData × PyData) → Env → M (List (PyData × PyData))
  | .nil, acc, _ => pure acc
  | .cons e es, acc, ρ => do
    let k ← evalE e ρ
    match es with
    | .nil => stuck
    | .cons e2 es2 => do let v ← evalE e2 ρ; guard (shp k && okEl v) (evalKV es2 (dput acc k v) ρ)
/-- arguments -/
def evalAs : Es → Env → M (List Slot)
  | .nil, _ => pure []
  | .cons e es, ρ => do
    let x ← argS e ρ (evalE e ρ)
    let xs ← evalAs es ρ
    pure (x :: xs)
end
end

/-- the slots that an expression lets out -/
def escG : E → Env → Env := fun _ ρ => ρ
mutual
def esc : E → List Nat
  | .var i => [i]
  | .pk _ | .lit _ | .glb _ | .gfn _ | .draw _ _ | .sget _ _ | .slen _ | .scell _ _ => []
  | .bin _ a b => esc a ++ esc b
  | .chain _ _ a b c => esc a ++ (esc b ++ esc c)
  | .neg a | .not_ a | .b1 _ a | .isa a _ | .rev a | .enm a | .items a | .vals a | .setof a => esc a
  | .bo _ es | .tup es | .lst es | .dic es | .call _ _ es | .callv _ es | .rng es | .fstr es => escs es
  | .ite c a b => esc c ++ (esc a ++ esc b)
  | .ix a b | .b2 _ a b | .mcount a b | .mindex a b | .mjoin a b | .msplit a b | .zp a b => esc a ++ esc b
  | .mget a b c | .zp3 a b c => esc a ++ (esc b ++ esc c)
  | .sl a l h s => esc a ++ (esc l ++ (esc h ++ esc s))
  | .comp _ it ts e => esc it ++ (escs ts ++ esc e)
  | .comp2 _ it ts _ it2 ts2 e => esc it ++ (escs ts ++ (esc it2 ++ (escs ts2 ++ esc e)))
  | .dcomp _ it ts k v => esc it ++ (escs ts ++ (esc k ++ esc v))
  | .dcomp2 _ it _ it2 k v => esc it ++ (esc it2 ++ (esc k ++ esc v))
  | .gen _ _ it e => esc it ++ esc e
  | .gen2 _ _ it _ it2 e => esc it ++ (esc it2 ++ esc e)
def escs : Es → List Nat
  | .nil => []
  | .cons e es => esc e ++ escs es
end
def frz1 : Slot → Slot
  | .v _ d => .v false d
  | s => s
def frz : List Nat → Env → Env
  | [], ρ => ρ
  | i :: is, ρ => frz is (ρ.modify i frz1)

inductive Out
  | nx (ρ : Env) | rt (d : PyData) | bk (ρ : Env) | ct (ρ : Env)
def andThen (m : M Out) (f : Env → M Out) : M Out := do match ← m with
  | .nx ρ => f ρ
  | o => pure o
def forM_ (f : PyData → Env → M Out) : List PyData → Env → M Out
  | [], ρ => pure (.nx ρ)
  | x :: xs, ρ => do match ← f x ρ with
    | .nx ρ' => forM_ f xs ρ'
    | .ct ρ' => forM_ f xs ρ'
    | .bk ρ' => pure (.nx ρ')
    | .rt d => pure (.rt d)
def whM (c : Env → M (Bool × Env)) (f : Env → M Out) : Nat → Env → M Out
  | 0, _ => stuck
  | n + 1, ρ => do
    let r ← c ρ
    if r.1 = true then do
      match ← f r.2 with
      | .nx ρ' => whM c f n ρ'
      | .ct ρ' => whM c f n ρ'
      | .bk ρ' => pure (.nx ρ')
      | .rt d => pure (.rt d)
    else pure (.nx r.2)
def whFuel : Nat := 10 ^ 3000
def parT : Tg → Es → List PyData → Env → M Env
  | .t0, .nil, [], ρ => pure ρ
  | .tc a b, .cons e es, x :: xs, ρ => do parT b es xs (← asgT a (ownV (freshE e) x) x ρ)
  | _, _, _, _ => stuck
def setAt (ρ : Env) (i : Nat) (f : PyData → M PyData) : M Env := match ρ[i]? with
  | some (.v true d) => do pure (ρ.set i (.v true (← f d)))
  | _ => stuck
def putIx (k v : PyData) : PyData → M PyData
  | .list xs => match k with
    | .int i => match L2.ixN xs.length i with
      | some j => guard (okEl v) (pure (.list (xs.set j v)))
      | none => stuck
    | _ => stuck
  | .dict kvs => guard (shp k && okEl v && decide (kvs.length < 1000000)) (pure (.dict (dput kvs k v)))
  | _ => stuck
section
variable (gt : Nat → Option PyData) (call : Nat → List Slot → M PyData)
def evalS : S → Env → M Out
  | .skip, ρ => pure (.nx ρ)
  | .pass, ρ => pure (.nx ρ)
  | .seq a b, ρ => andThen (evalS a ρ) (evalS b)
  | .asg t e, ρ => do
    let ρ := frz (esc e) ρ
    let d ← evalE gt call e ρ
    pure (.nx (← asgT t (ownV (freshE e) d) d ρ))
  | .par t es, ρ => do
    let ρ := frz (escs es) ρ
    let ds ← evalEs gt call es ρ
    pure (.nx (← parT t es ds ρ))
  | .aug i o e, ρ => do
    let ρ := frz (esc e) ρ
    match ρ[i]? with
    | some (.v false x) => do
      let y ← evalE gt call e ρ
      match x with
      | .int _ => do let z ← ofO (bop o x y); pure (.nx (ρ.set i (.v false z)))
      | .list _ => stuck
      | _ => do let z ← ofO (gO later (bop o x y)); pure (.nx (ρ.set i (.v false z)))
    | _ => stuck
  | .setix i k v, ρ => do
    let ρ := frz (esc v ++ esc k) ρ
    let y ← evalE gt call v ρ
    let x ← evalE gt call k ρ
    pure (.nx (← setAt ρ i (putIx x y)))
  | .augix i o k v, ρ => do
    let ρ := frz (esc k ++ esc v) ρ
    let x ← evalE gt call k ρ
    match ρ[i]? with
    | some (.v true d) => do
      let old ← ofO (ixD d x)
      let y ← evalE gt call v ρ
      match old with
      | .list _ => stuck
      | _ => do
        let z ← ofO (bop o old y)
        pure (.nx (← setAt ρ i (putIx x z)))
    | _ => stuck
  | .delix i k, ρ => do
    let x ← evalE gt call k ρ
    pure (.nx (← setAt ρ i fun d => match d with
      | .dict kvs => if (dfind kvs x).isSome then pure (.dict (ddel kvs x)) else stuck
      | _ => stuck))
  | .swapix i a b c d, ρ => do
    let ρ := frz (esc c ++ (esc d ++ (esc a ++ esc b))) ρ
    let u ← evalE gt call c ρ
    let v ← evalE gt call d ρ
    let x ← evalE gt call a ρ
    let ρ ← setAt ρ i (putIx x u)
    let y ← evalE gt call b ρ
    pure (.nx (← setAt ρ i (putIx y v)))
  | .app i e, ρ => do
    let ρ := frz (esc e) ρ
    let y ← evalE gt call e ρ
    pure (.nx (← setAt ρ i fun d => match d with
      | .list xs => guard (okEl y && decide (xs.length < 1000000)) (pure (.list (xs ++ [y])))
      | _ => stuck))
  | .ext i e, ρ => do
    let ρ := frz (esc e) ρ
    match ← evalE gt call e ρ with
    | .list ys => do pure (.nx (← setAt ρ i fun d => match d with
      | .list xs => guard (decide (xs.length + ys.length < 1000000)) (pure (.list (xs ++ ys)))
      | _ => stuck))
    | _ => stuck
  | .rem i e, ρ => do
    let ρ := frz (esc e) ρ
    let y ← evalE gt call e ρ
    pure (.nx (← setAt ρ i fun d => match d with
      | .list xs => match xs.findIdx? fun z => PyData.eqv z y with
        | some k => guard (shp y && shp (.list xs)) (pure (.list (xs.eraseIdx k)))
        | none => stuck
      | _ => stuck))
  | .popTo t i, ρ => match ρ[i]? with
    | some (.v true (.list xs)) => match xs.getLast? with
      | some d => do pure (.nx (← asgT t false d (ρ.set i (.v true (.list xs.dropLast)))))
      | none => stuck
    | _ => stuck
  | .appix i k e, ρ => do
    let ρ := frz (esc e) ρ
    let x ← evalE gt call k ρ
    let y ← evalE gt call e ρ
    pure (.nx (← setAt ρ i fun d => do match ← ofO (ixD d x) with
      | .list xs => guard (okEl y) (match d with
        | .dict kvs => pure (.dict (dput kvs x (.list (xs ++ [y]))))
        | d => putIx x (.list (xs ++ [y])) d)
      | _ => stuck))
  | .setix2 i k l v, ρ => do
    let ρ := frz (esc v) ρ
    let z ← evalE gt call v ρ
    let x ← evalE gt call k ρ
    let y ← evalE gt call l ρ
    pure (.nx (← setAt ρ i fun d => do let u ← ofO (ixD d x); let t ← putIx y z u; putIx x t d))
  | .sdef i k v a, ρ => do
    let ρ := frz (esc v ++ esc k) ρ
    let x ← evalE gt call k ρ
    let y ← evalE gt call v ρ
    match ρ[i]? with
    | some (.v true (.dict kvs)) => match dfind kvs x with
      | some z => guard (shp z && shp y && shp x) (if PyData.eqv z y = true then pure (.nx ρ) else evalS a ρ)
      | none => guard (shp x && okEl y && shp y) (pure (.nx (ρ.set i (.v true (.dict (dput kvs x y))))))
    | _ => stuck
  | .expr e, ρ => do
    let ρ := frz (esc e) ρ
    let _ ← evalE gt call e ρ
    pure (.nx ρ)
  | .ret e, ρ => do
    let ρ := frz (esc e) ρ
    pure (.rt (← evalE gt call e ρ))
  | .retn, _ => pure (.rt .none)
  | .st0 i j, ρ => match ρ[j]? with
    | some (.v false (.list xs)) => match intsOf xs with
      | some ns => fun _ => .ok (.nx (ρ.set i .s)) ⟨0, 0, ns, 1⟩
      | none => stuck
    | _ => stuck
  | .ite c a b, ρ => do
    let ρ := frz (esc c) ρ
    let x ← evalE gt call c ρ
    let t ← ofO (tru x)
    if t = true then evalS a ρ else evalS b ρ
  | .wh c b, ρ => whM (fun ρ => do
      let ρ := frz (esc c) ρ
      let x ← evalE gt call c ρ
      let t ← ofO (tru x)
      pure (t, ρ)) (evalS b) whFuel ρ
  | .for_ t it b, ρ => do
    let ρ := frz (esc it) ρ
    let x0 ← evalE gt call it ρ
    let xs ← ofO (itemsOf x0)
    forM_ (fun x ρ => do evalS b (← asgT t false x ρ)) xs ρ
  | .forPop t f es i b, ρ => do
    let ρ := frz (escs es) ρ
    match ρ[i]? with
    | some (.v true (.list ws)) => match ws.getLast? with
      | some d => do
        let as ← evalAs gt call es ρ
        let ρ := ρ.set i (.v true (.list ws.dropLast))
        let x0 ← call f (as ++ [.v false d])
        let xs ← ofO (itemsOf x0)
        forM_ (fun x ρ => do evalS b (← asgT t false x ρ)) xs ρ
      | none => stuck
    | _ => stuck
  | .brk, ρ => pure (.bk ρ)
  | .cnt, ρ => pure (.ct ρ)
  | .raise c, _ => M.raise c .none
  | .raiseP c e, ρ => do M.raise c (← evalE gt call e ρ)
  | .try_ r e hs, ρ => fun w =>
    let ρ := frz (esc e) ρ
    match evalE gt call e ρ w with
    | .ok d w' => .ok (if r = true then .rt d else .nx ρ) w'
    | .exc c p w' => match hs.lookup c with
      | some h => .ok (.rt (evHd p h)) w'
      | none => .exc c p w'
    | .stuck => .stuck
  | .sset i k e, ρ => match ρ[i]? with
    | some .s => do match ← evalE gt call e ρ with
      | .int v => fun w => match k with
        | 0 => .ok (.nx ρ) { w with a := v }
        | 1 => if 0 ≤ v then .ok (.nx ρ) { w with b := v } else .stuck
        | 3 => if 0 ≤ v ∧ v < 2 ^ 31 then .ok (.nx ρ) { w with c := v } else .stuck
        | _ => .stuck
      | _ => stuck
    | _ => stuck
end
/-- a def: its parameters, its slots, its text -/
structure Def where
  ar : Nat
  ns : Nat
  body : S
def entry (d : Def) (as : List Slot) : Env := as ++ List.replicate (d.ns - d.ar) .un
def outD : Out → M PyData
  | .rt d => pure d
  | .nx _ => pure .none
  | _ => stuck
def run (gt : Nat → Option PyData) (P : Nat → Option Def) : Nat → Nat → List Slot → M PyData
  | 0, _, _ => stuck
  | n + 1, f, as => match P f with
    | some d => guard (decide (as.length = d.ar)) (do outD (← evalS gt (run gt P n) d.body (entry d as)))
    | none => stuck
end Wv

set_option autoImplicit false
set_option linter.all false
set_option maxRecDepth 100000
set_option maxHeartbeats 4000000
namespace Wv
open PySem PySem.Spec PyProof.Rows L2

/-! ### what stands where -/
/-- a dict's object, as it stands -/
def rawO (a : Addr) (o : Obj) : HO := .ext fun h => h.get? a = some o
/-- the frozen part lies in the heap -/
def Fit (F H : Hp) : Prop := ∀ a o, F a = some o → H a = some o
structure Ext (H F H' F' : Hp) : Prop where
  hs : Same H H'
  fs : Same F F'
  fit : Fit F' H'
  new : ∀ a o, F' a = some o → F a = some o ∨ H a = none
structure Grow (Ex : Addr → Prop) (H F H' F' : Hp) : Prop where
  hs : ∀ a o, ¬ Ex a → H a = some o → H' a = some o
  ex : ∀ a, H' a = none → H a = none
  fs : Same F F'
  fit : Fit F' H'
  new : ∀ a o, F' a = some o → F a = some o ∨ H a = none
section
variable {Ex : Addr → Prop} {H F H' F' H2 F2 : Hp}
theorem Ext.refl (f : Fit F H) : Ext H F H F := ⟨Same.refl _, Same.refl _, f, fun _ _ h => .inl h⟩
theorem Ext.grow (e : Ext H F H' F') : Grow Ex H F H' F' := ⟨fun a o _ h => e.hs a o h, fun _ h => e.hs.free h, e.fs, e.fit, e.new⟩
theorem Grow.refl (f : Fit F H) : Grow Ex H F H F := ⟨fun _ _ _ h => h, fun _ h => h, Same.refl _, f, fun _ _ h => .inl h⟩
theorem Ext.trans (a : Ext H F H' F') (b : Ext H' F' H2 F2) : Ext H F H2 F2 := ⟨a.hs.trans b.hs, a.fs.trans b.fs, b.fit, fun c o h => by
  rcases b.new c o h with q | q
  · exact a.new c o q
  · exact .inr (a.hs.free q)⟩
theorem Grow.trans (a : Grow Ex H F H' F') (b : Grow Ex H' F' H2 F2) : Grow Ex H F H2 F2 := ⟨fun c o n h => b.hs c o n (a.hs c o n h), fun c h => a.ex c (b.ex c h), a.fs.trans b.fs, b.fit, fun c o h => by
  rcases b.new c o h with q | q
  · exact a.new c o q
  · exact .inr (a.ex c q)⟩
theorem fit_upd {p : Addr} {o : HO} (f : Fit F H) : Fit (upd F p o) (upd H p o) := fun a u h => by
  by_cases e : a = p
  · subst e; rw [upd_same] at h ⊢; exact h
  · rw [upd_ne e] at h ⊢; exact f a u h
theorem same_upd {p : Addr} {o : HO} (h : H p = none) : Same H (upd H p o) := fun b u e => by
  rw [upd_ne (ne_of_none e h)]; exact e
theorem Fit.none {p : Addr} (f : Fit F H) (h : H p = none) : F p = none := by
  cases e : F p with
  | none => rfl
  | some o => rw [f p o e] at h; cases h
/-- a new object, frozen at once -/
theorem Ext.mk1 {p : Addr} {o : HO} (f : Fit F H) (h : H p = none) : Ext H F (upd H p o) (upd F p o) :=
  ⟨same_upd h, same_upd (f.none h), fit_upd f, fun a u e => by
    by_cases q : a = p
    · subst q; exact .inr h
    · rw [upd_ne q] at e; exact .inl e⟩
/-- a new object, not frozen -/
theorem Ext.mk0 {p : Addr} {o : HO} (f : Fit F H) (h : H p = none) : Ext H F (upd H p o) F :=
  ⟨same_upd h, Same.refl _, fun a u e => same_upd h a u (f a u e), fun a u e => .inl e⟩
end

section
variable {K : PySem.W.Frag} {F H F' H' : Hp}
theorem rd_mono {a : Addr} {u : HO} (s : Same F F') (h : Rd F a u) : Rd F' a u := by
  rcases h with h | ⟨o, h⟩
  · exact .inl (s _ _ h)
  · exact .inr ⟨o, s _ _ h⟩
theorem sqL_mono {a : Addr} {xs : List V} (s : Same F F') (h : SqL K F a xs) : SqL K F' a xs := h.imp (rd_mono s) id
theorem sqT_mono {a : Addr} {xs : List V} (s : Same F F') (h : SqT K F a xs) : SqT K F' a xs := h.imp (rd_mono s) id
mutual
inductive Dq (K : PySem.W.Frag) (H : Hp) : V → PyData → Prop
  | non : Dq K H .non .none
  | bl (b : Bool) : Dq K H (.bl b) (.bool b)
  | int (i : Int) : Dq K H (.int i) (.int i)
  | str (x : Str) : Dq K H (.str x) (.str x)
  | lst {a : Addr} {xs : List V} {ds : List PyData} : H a = some (.lst xs) → DqAll K H xs ds → Dq K H (.ref a) (.list ds)
  | tup {a : Addr} {xs : List V} {ds : List PyData} : SqT K H a xs → DqAll K H xs ds → Dq K H (.ref a) (.tuple ds)
inductive DqAll (K : PySem.W.Frag) (H : Hp) : List V → List PyData → Prop
  | nil : DqAll K H [] []
  | cons {v : V} {vs : List V} {d : PyData} {ds : List PyData} : Dq K H v d → DqAll K H vs ds → DqAll K H (v :: vs) (d :: ds)
end
mutual
theorem dq_dp : ∀ (d : PyData) (v : V), Dq K F v d → Dp K F v d
  | .none, _, h => by cases h; exact .non
  | .bool b, _, h => by cases h; exact .bl b
  | .int i, _, h => by cases h; exact .int i
  | .str x, _, h => by cases h; exact .str x
  | .list ds, _, h => by cases h with
    | lst a b => exact .lst (.inl (.inl a)) (dq_dpAll ds _ b)
  | .tuple ds, _, h => by cases h with
    | tup a b => exact .tup a (dq_dpAll ds _ b)
  | .dict _, _, h => by cases h
theorem dq_dpAll : ∀ (ds : List PyData) (vs : List V), DqAll K F vs ds → DpAll K F vs ds
  | [], _, h => by cases h; exact .nil
  | d :: ds, _, h => by cases h with
    | cons a b => exact .cons (dq_dp d _ a) (dq_dpAll ds _ b)
end
mutual
theorem dp_mono (s : Same F F') : ∀ (d : PyData) (v : V), Dq K F v d → Dq K F' v d
  | .none, _, h => by cases h; exact .non
  | .bool b, _, h => by cases h; exact .bl b
  | .int i, _, h => by cases h; exact .int i
  | .str x, _, h => by cases h; exact .str x
  | .list ds, _, h => by cases h with
    | lst a b => exact .lst (s _ _ a) (dpAll_mono s ds _ b)
  | .tuple ds, _, h => by cases h with
    | tup a b => exact .tup (sqT_mono s a) (dpAll_mono s ds _ b)
  | .dict _, _, h => by cases h
theorem dpAll_mono (s : Same F F') : ∀ (ds : List PyData) (vs : List V), DqAll K F vs ds → DqAll K F' vs ds
  | [], _, h => by cases h; exact .nil
  | d :: ds, _, h => by cases h with
    | cons a b => exact .cons (dp_mono s d _ a) (dpAll_mono s ds _ b)
end
theorem dpa_len : ∀ {vs : List V} {ds : List PyData}, DqAll K F vs ds → vs.length = ds.length
  | _, _, .nil => rfl
  | _, _, .cons _ t => by rw [List.length_cons, List.length_cons, dpa_len t]
theorem dpa_app : ∀ {vs ws : List V} {ds es : List PyData}, DqAll K F vs ds → DqAll K F ws es → DqAll K F (vs ++ ws) (ds ++ es)
  | _, _, _, _, .nil, h => h
  | _, _, _, _, .cons a t, h => .cons a (dpa_app t h)
theorem dpa_get : ∀ {vs : List V} {ds : List PyData} {i : Nat} {d : PyData}, DqAll K F vs ds → ds[i]? = some d → ∃ v, vs[i]? = some v ∧ Dq K F v d
  | _, _, i, d, .nil, h => by simp at h
  | _, _, 0, d, .cons a _, h => by simp at h; subst h; exact ⟨_, rfl, a⟩
  | _, _, i + 1, d, .cons _ t, h => by
    obtain ⟨v, e, q⟩ := dpa_get (i := i) t (by simpa using h)
    exact ⟨v, by simpa using e, q⟩
theorem dpa_get' : ∀ {vs : List V} {ds : List PyData} {i : Nat} {v : V}, DqAll K F vs ds → vs[i]? = some v → ∃ d, ds[i]? = some d ∧ Dq K F v d
  | _, _, i, d, .nil, h => by simp at h
  | _, _, 0, d, .cons a _, h => by simp at h; subst h; exact ⟨_, rfl, a⟩
  | _, _, i + 1, d, .cons _ t, h => by
    obtain ⟨v, e, q⟩ := dpa_get' (i := i) t (by simpa using h)
    exact ⟨v, by simpa using e, q⟩
theorem dpa_take : ∀ {vs : List V} {ds : List PyData} (n : Nat), DqAll K F vs ds → DqAll K F (vs.take n) (ds.take n)
  | _, _, 0, _ => .nil
  | _, _, _ + 1, .nil => .nil
  | _, _, n + 1, .cons a t => .cons a (dpa_take n t)
theorem dpa_drop : ∀ {vs : List V} {ds : List PyData} (n : Nat), DqAll K F vs ds → DqAll K F (vs.drop n) (ds.drop n)
  | _, _, 0, h => h
  | _, _, _ + 1, .nil => .nil
  | _, _, n + 1, .cons _ t => dpa_drop n t
theorem dpa_set : ∀ {vs : List V} {ds : List PyData} (n : Nat) {v : V} {d : PyData}, DqAll K F vs ds → Dq K F v d → DqAll K F (vs.set n v) (ds.set n d)
  | _, _, _, _, _, .nil, _ => .nil
  | _, _, 0, _, _, .cons _ t, h => .cons h t
  | _, _, n + 1, _, _, .cons a t, h => .cons a (dpa_set n t h)
theorem dpa_rev {vs : List V} {ds : List PyData} (h : DqAll K F vs ds) : DqAll K F vs.reverse ds.reverse := by
  induction h using DqAll.rec (motive_1 := fun _ _ _ => True) with
  | nil => exact .nil
  | cons a t _ ih => rw [List.reverse_cons, List.reverse_cons]; exact dpa_app ih (.cons a .nil)
  | _ => trivial
theorem dpa_ints : ∀ {vs : List V} {ds : List PyData} {ns : List Int}, DqAll K F vs ds → intsOf ds = some ns → vs = ns.map V.int
  | _, _, ns, .nil, h => by simp [intsOf] at h; subst h; rfl
  | v :: vs, d :: ds, ns, .cons a t, h => by
    cases d with
    | int i =>
      cases a
      simp only [intsOf, Option.map_eq_some_iff] at h
      obtain ⟨m, h1, rfl⟩ := h
      rw [dpa_ints t h1]; rfl
    | _ => simp [intsOf] at h
end

/-! ### how a value is told -/
/-- the hash of a key -/
def nkey : PyData → Option NestedKey
  | .none => some .none
  | .bool b => some (.num (if b then 1 else 0))
  | .int i => some (.num i)
  | .str x => some (.text x)
  | .tuple xs => (nkeys xs).map .tup
  | _ => none
where nkeys : List PyData → Option (List NestedKey)
  | [] => some []
  | x :: xs => match nkey x, nkeys xs with
    | some a, some b => some (a :: b)
    | _, _ => none
variable (K : PySem.W.Frag) (w : World)
/-- an entry of a dict -/
def EntAt (F : Hp) (p : PyData × PyData) (e : DictEntry) : Prop :=
  ∃ kv vv k, RelV kv e.key ∧ Dq K F kv p.1 ∧ RelV vv e.val ∧ Dq K F vv p.2 ∧ nkey p.1 = some k ∧ e.hash = NestedKey.hash w k
/-- at a stands a dict -/
def DicAt (F H : Hp) (a : Addr) (kvs : List (PyData × PyData)) : Prop :=
  ∃ o es ep, H a = some (rawO a o) ∧ o.ExactDict ∧ o.data = .dict es ep ∧ (a == sysModules) = false ∧ kvs.length ≤ sizeLine ∧ Paired (EntAt K w F) kvs es.toList
inductive RepF (F : Hp) : V → PyData → Prop
  | dat {v : V} {d : PyData} : Dq K F v d → RepF F v d
  | dic {a : Addr} {kvs : List (PyData × PyData)} : DicAt K w F F a kvs → RepF F (.ref a) (.dict kvs)
inductive RepP (Ex : Addr → Prop) (F H : Hp) : V → PyData → Prop
  | frz {v : V} {d : PyData} : RepF K w F v d → RepP Ex F H v d
  | lst {a : Addr} {vs : List V} {ds : List PyData} : ¬ Ex a → F a = none → H a = some (.lst vs) → DqAll K F vs ds → RepP Ex F H (.ref a) (.list ds)
  | dic {a : Addr} {kvs : List (PyData × PyData)} : ¬ Ex a → F a = none → DicAt K w F H a kvs → RepP Ex F H (.ref a) (.dict kvs)
variable {K w} {F H F' H' : Hp}
theorem entAt_mono {p : PyData × PyData} {e : DictEntry} (s : Same F F') (h : EntAt K w F p e) : EntAt K w F' p e := by
  obtain ⟨kv, vv, k, a, b, c, d, r⟩ := h
  exact ⟨kv, vv, k, a, dp_mono s _ _ b, c, dp_mono s _ _ d, r⟩
theorem dicAt_mono {a : Addr} {kvs : List (PyData × PyData)} (s : Same F F') (t : ∀ o, H a = some o → H' a = some o) (h : DicAt K w F H a kvs) : DicAt K w F' H' a kvs := by
  obtain ⟨o, es, ep, h1, h2, h3, h4, h5, h6⟩ := h
  exact ⟨o, es, ep, t _ h1, h2, h3, h4, h5, Paired.mapP h6 fun _ _ q => entAt_mono s q⟩
theorem RepF.mono {v : V} {d : PyData} (s : Same F F') (h : RepF K w F v d) : RepF K w F' v d := by
  cases h with
  | dat h => exact .dat (dp_mono s _ _ h)
  | dic h => exact .dic (dicAt_mono s (s _) h)
theorem RepP.grow {Ex : Addr → Prop} {v : V} {d : PyData} (g : Grow Ex H F H' F') (h : RepP K w Ex F H v d) : RepP K w Ex F' H' v d := by
  have nf : ∀ a o, F a = none → H a = some o → F' a = none := fun a o h1 h2 => by
    cases e : F' a with
    | none => rfl
    | some u =>
      rcases g.new a u e with q | q
      · rw [h1] at q; cases q
      · rw [h2] at q; cases q
  cases h with
  | frz h => exact .frz (h.mono g.fs)
  | lst h0 h1 h2 h3 => exact .lst h0 (nf _ _ h1 h2) (g.hs _ _ h0 h2) (dpAll_mono g.fs _ _ h3)
  | dic h0 h1 h2 =>
    obtain ⟨o, es, ep, q, r⟩ := id h2
    exact .dic h0 (nf _ _ h1 q) (dicAt_mono g.fs (fun o h => g.hs _ _ h0 h) h2)
section
variable {v : V} {Ex : Addr → Prop}
theorem RepF.list {ds : List PyData} (h : RepF K w F v (.list ds)) : ∃ a vs, v = .ref a ∧ F a = some (.lst vs) ∧ DqAll K F vs ds := by
  cases h with
  | dat h => cases h with
    | lst a b => exact ⟨_, _, rfl, a, b⟩
theorem RepF.tuple {ds : List PyData} (h : RepF K w F v (.tuple ds)) : ∃ a vs, v = .ref a ∧ SqT K F a vs ∧ DqAll K F vs ds := by
  cases h with
  | dat h => cases h with
    | tup a b => exact ⟨_, _, rfl, a, b⟩
theorem RepP.list {ds : List PyData} (f : Fit F H) (h : RepP K w Ex F H v (.list ds)) : ∃ a vs, v = .ref a ∧ H a = some (.lst vs) ∧ DqAll K F vs ds := by
  cases h with
  | frz h =>
    obtain ⟨a, vs, e, h1, h2⟩ := h.list
    exact ⟨a, vs, e, f _ _ h1, h2⟩
  | lst _ _ h2 h3 => exact ⟨_, _, rfl, h2, h3⟩
theorem RepP.tuple {ds : List PyData} (h : RepP K w Ex F H v (.tuple ds)) : ∃ a vs, v = .ref a ∧ SqT K F a vs ∧ DqAll K F vs ds := by
  cases h with
  | frz h => exact h.tuple
theorem RepP.int {i : Int} (h : RepP K w Ex F H v (.int i)) : v = .int i := by
  cases h with
  | frz h => cases h with
    | dat h => cases h; rfl
theorem RepP.bool {i : Bool} (h : RepP K w Ex F H v (.bool i)) : v = .bl i := by
  cases h with
  | frz h => cases h with
    | dat h => cases h; rfl
theorem RepP.str {i : Str} (h : RepP K w Ex F H v (.str i)) : v = .str i := by
  cases h with
  | frz h => cases h with
    | dat h => cases h; rfl
theorem RepP.none (h : RepP K w Ex F H v .none) : v = .non := by
  cases h with
  | frz h => cases h with
    | dat h => cases h; rfl
theorem RepP.dict {kvs : List (PyData × PyData)} (f : Fit F H) (h : RepP K w Ex F H v (.dict kvs)) : ∃ a, v = .ref a ∧ DicAt K w F H a kvs := by
  cases h with
  | frz h => cases h with
    | dat h => cases h
    | dic h => exact ⟨_, rfl, dicAt_mono (Same.refl _) (f _) h⟩
  | dic _ _ h => exact ⟨_, rfl, h⟩
/-- data is read in the whole heap -/
theorem RepP.dp {d : PyData} (f : Fit F H) (n : isDic d = false) (h : RepP K w Ex F H v d) : Dp K H v d := by
  refine dq_dp _ _ ?_
  cases h with
  | frz h => cases h with
    | dat h => exact dp_mono f _ _ h
    | dic h => cases n
  | lst _ _ h2 h3 => exact .lst h2 (dpAll_mono f _ _ h3)
  | dic _ _ h => cases n
theorem RepF.dp {d : PyData} (n : isDic d = false) (h : RepF K w F v d) : Dq K F v d := by
  cases h with
  | dat h => exact h
  | dic h => cases n
theorem RepF.scal {d : PyData} (n : scal d = true) (h : RepP K w Ex F H v d) : RepF K w F' v d := by
  cases d with
  | none => rw [h.none]; exact .dat .non
  | bool b => rw [h.bool]; exact .dat (.bl b)
  | int i => rw [h.int]; exact .dat (.int i)
  | str x => rw [h.str]; exact .dat (.str x)
  | _ => cases n
end
end Wv

set_option autoImplicit false
set_option linter.all false
set_option maxRecDepth 100000
set_option maxHeartbeats 4000000
namespace Wv
open PySem PySem.Spec PyProof.Rows L2

/-! ### operators by values -/
section
variable {X : Cx}
def rB (K : PySem.W.Frag) (w : World) (o : Bop) : R2 := fun x y H Q => ∃ Ex F d1 d2 d3, Fit F H ∧ RepP K w Ex F H x d1 ∧ RepP K w Ex F H y d2 ∧ bop o d1 d2 = some d3 ∧ ∀ v H' F', Ext H F H' F' → RepF K w F' v d3 → Q v H'
variable {K : PySem.W.Frag} {w : World} {F H : Hp} {Q : VK} {Ex : Addr → Prop}
theorem q_int {i : Int} (f : Fit F H) (q : ∀ v H' F', Ext H F H' F' → RepF K w F' v (.int i) → Q v H') : Q (.int i) H := q _ H F (Ext.refl f) (.dat (.int i))
theorem q_bl {i : Bool} (f : Fit F H) (q : ∀ v H' F', Ext H F H' F' → RepF K w F' v (.bool i) → Q v H') : Q (.bl i) H := q _ H F (Ext.refl f) (.dat (.bl i))
theorem q_str {i : Str} (f : Fit F H) (q : ∀ v H' F', Ext H F H' F' → RepF K w F' v (.str i) → Q v H') : Q (.str i) H := q _ H F (Ext.refl f) (.dat (.str i))
theorem q_lst {vs : List V} {ds : List PyData} (f : Fit F H) (h : DqAll K F vs ds) (q : ∀ v H' F', Ext H F H' F' → RepF K w F' v (.list ds) → Q v H') : ∀ p, H p = none → Q (.ref p) (upd H p (.lst vs)) := fun p np =>
  q _ _ _ (Ext.mk1 f np) (.dat (.lst upd_same (dpAll_mono (same_upd (f.none np)) _ _ h)))
theorem q_tup {vs : List V} {ds : List PyData} (f : Fit F H) (h : DqAll K F vs ds) (q : ∀ v H' F', Ext H F H' F' → RepF K w F' v (.tuple ds) → Q v H') : ∀ p, H p = none → Q (.ref p) (upd H p (.tup vs)) := fun p np =>
  q _ _ _ (Ext.mk1 f np) (.dat (.tup (.inl (.inl upd_same)) (dpAll_mono (same_upd (f.none np)) _ _ h)))
theorem dpa_nil {vs : List V} (h : DqAll K F vs []) : vs = [] := by cases h; rfl
theorem dpa_ne {vs : List V} {ds : List PyData} (h : DqAll K F vs ds) (e : ds ≠ []) : vs ≠ [] := fun z => by
  subst z; cases h; exact e rfl

theorem or_add : OpR X (binaryOp .Add) (rB X.K X.w .add) := by
  intro pins s σ H x y v u Q I rx ry ⟨Ex, F, d1, d2, d3, f, r1, r2, hb, q⟩
  cases d1 <;> cases d2 <;> try (cases hb; done)
  case int.int i j =>
    cases hb
    exact op_add pins s σ H x y v u Q I rx ry ⟨i, j, r1.int, r2.int, q_int f q⟩
  case str.str i j =>
    obtain ⟨hl, hb⟩ := gO_some hb
    cases hb
    exact op_add_str pins s σ H x y v u Q I rx ry ⟨i, j, r1.str, r2.str, of_decide_eq_true hl, q_str f q⟩
  case list.list xs ys =>
    obtain ⟨hl, hb⟩ := gO_some hb
    cases hb
    obtain ⟨a, vs, rfl, h1, h2⟩ := r1.list f
    obtain ⟨b, ws, rfl, h3, h4⟩ := r2.list f
    refine op_cat pins s σ H _ _ v u Q I rx ry ⟨a, b, vs, ws, rfl, rfl, h1, h3, ?_, q_lst f (dpa_app h2 h4) q⟩
    rw [dpa_len h2, dpa_len h4]; exact of_decide_eq_true hl
  case tuple.tuple xs ys =>
    obtain ⟨hl, hb⟩ := gO_some hb
    cases hb
    obtain ⟨a, vs, rfl, h1, h2⟩ := r1.tuple
    obtain ⟨b, ws, rfl, h3, h4⟩ := r2.tuple
    refine op_catA pins s σ H _ _ v u Q I rx ry ⟨a, b, vs, ws, rfl, rfl, sqT_mono f h1, sqT_mono f h3, ?_, fun e => ?_, fun e e2 => ?_, fun e e2 => q_tup f (dpa_app h2 h4) q⟩
    · rw [dpa_len h2, dpa_len h4]; exact of_decide_eq_true hl
    · subst e
      cases h2
      exact q _ H F (Ext.refl f) (.dat (.tup h3 h4))
    · subst e2
      cases h4
      refine q _ H F (Ext.refl f) (.dat (.tup h1 ?_))
      rw [List.append_nil]; exact h2
theorem or_sub : OpR X (binaryOp .Sub) (rB X.K X.w .sub) := by
  intro pins s σ H x y v u Q I rx ry ⟨Ex, F, d1, d2, d3, f, r1, r2, hb, q⟩
  cases d1 <;> cases d2 <;> try (cases hb; done)
  case int.int i j =>
    cases hb
    exact op_sub pins s σ H x y v u Q I rx ry ⟨i, j, r1.int, r2.int, q_int f q⟩
theorem dpa_rep {vs : List V} {ds : List PyData} (h : DqAll K F vs ds) : ∀ k : Nat, DqAll K F (List.replicate k vs).flatten (List.replicate k ds).flatten
  | 0 => .nil
  | k + 1 => by
    rw [List.replicate_succ, List.replicate_succ, List.flatten_cons, List.flatten_cons]
    exact dpa_app h (dpa_rep h k)
/-- t * k where it is t itself, or nothing -/
theorem tuple_mulS (l : Addr) (items : Array Value) (n : Nat) (sl : Array (Option Value)) (dd : Option Addr) (x : Int) (u : Tok) (c0 : (decide (x < -(2 ^ 63)) || decide (x ≥ 2 ^ 63)) = false) (c1 : (items.isEmpty || x == 1) = true) :
    Meets (Builtin.«tuple.__mul__» ⟨[.ref l, .int x u], []⟩) (fun _ R s => s.heap.get? l = some { cls := .type "tuple", dict := dd, data := .seq items n, slots := sl } ∧
      R (.ok (.ret (Value.ref l))) s) :=
  .of_wp fun prog w A R s h => by
    obtain ⟨hp, g, d, tk, os⟩ := s
    obtain ⟨hl, h⟩ := h
    have f1 := AutoSeq1.idx_int
    wp_walk using wpAny_loadPart' hl
    repeat (first
      | (refine wpAny_ite_false (decide_eq_false (by rw [c0]; exact Bool.false_ne_true)) ?_; wp_walk using wpAny_loadPart' hl)
      | (refine wpAny_ite_true (decide_eq_true c1) ?_; wp_walk using wpAny_loadPart' hl))
    exact ⟨_, rfl, h⟩
end
end Wv

set_option autoImplicit false
set_option linter.all false
set_option maxRecDepth 100000
set_option maxHeartbeats 4000000
namespace Wv
open PySem PySem.Spec PyProof.Rows L2
section
variable {X : Cx}
variable {K : PySem.W.Frag} {w : World} {F H : Hp} {Q : VK} {Ex : Addr → Prop}
theorem tuple_mul0 (l : Addr) (items : Array Value) (n : Nat) (sl : Array (Option Value)) (dd : Option Addr) (x : Int) (u : Tok) (c0 : (decide (x < -(2 ^ 63)) || decide (x ≥ 2 ^ 63)) = false) (c1 : (items.isEmpty || x == 1) = false) (c2 : (decide (x ≤ 0) || items.isEmpty) = true) :
    Meets (Builtin.«tuple.__mul__» ⟨[.ref l, .int x u], []⟩) (fun _ R s => s.heap.get? l = some { cls := .type "tuple", dict := dd, data := .seq items n, slots := sl } ∧
      R (.ok (.ret (Value.ref s.heap.objs.size))) { s with heap := s.heap.push { cls := Value.type "tuple", data := Data.seq #[] }, toks := s.toks }) :=
  .of_wp fun prog w A R s h => by
    obtain ⟨hp, g, d, tk, os⟩ := s
    obtain ⟨hl, h⟩ := h
    have f1 := AutoSeq1.idx_int
    have hz : (#[] : Array Value).size ≤ sizeLine := Nat.zero_le _
    wp_walk using wpAny_loadPart' hl
    repeat (first
      | (refine wpAny_ite_false (decide_eq_false (by rw [c0]; exact Bool.false_ne_true)) ?_; wp_walk using wpAny_loadPart' hl)
      | (refine wpAny_ite_false (decide_eq_false (by rw [c1]; exact Bool.false_ne_true)) ?_; wp_walk using wpAny_loadPart' hl)
      | (refine wpAny_ite_true (decide_eq_true c2) ?_; wp_walk using wpAny_loadPart' hl))
    exact ⟨_, rfl, h⟩
theorem mul_tup {pins : List (Addr × Obj)} {σ : L2.St} {s : Shared} {l : Addr} {xs : List V} {k : Int} {t : Tok} (I : Inv X pins σ H s) (hT : SqT X.K H l xs) (h1 : -(2 ^ 62) < k) (h2 : k ≤ 1000) (hz : xs.length ≤ 1000)
    (q1 : (List.replicate k.toNat xs).flatten = xs → Q (.ref l) H) (q : ∀ p, H p = none → Q (.ref p) (upd H p (.tup (List.replicate k.toNat xs).flatten))) : wpAny (model X.prog X.w) X.A (binaryOp .Mult (.ref l) (.int k t)) (EP X pins σ Q) X.xe s := by
  by_cases hb : xs ≠ [] ∧ 2 ≤ k
  · exact op_repT pins s σ H (.ref l) (.int k) _ _ Q I rfl ⟨t, rfl⟩ ⟨l, k, xs, rfl, rfl, hT, hb.1, hb.2, h2, hz, q⟩
  · obtain ⟨its, r, ⟨⟨cls, dd, data, sl⟩, ho, hc, n, hd⟩, hs⟩ := Inv.tuple I hT
    simp only at hc hd
    subst hc hd
    have hle : its.length = xs.length := r.length.symm
    have c0 : (decide (k < -(2 ^ 63)) || decide (k ≥ 2 ^ 63)) = false := by
      rw [decide_eq_false (by omega), decide_eq_false (by omega)] <;> rfl
    by_cases c1 : (its.toArray.isEmpty || k == 1) = true
    · refine wpAny_binaryOp_repeat_ref (T := "tuple") (U := "int") (by decide) ⟨_, ho, rfl⟩ (fun s' => typeIs_int s' k t) noFill_tuple_mul F.fills_int_mul F.slot_int_rmul repeat_tuple F.slot_int_index.lookup
        (call_meets F.slot_int_rmul (typeIs_int s k t) F.entry_int_rmul (F.args_int_rmul_2 _ _) (int_rmul_tuple k t l its.toArray n dd sl)
          ⟨ho, rfl, ⟨_, ho, rfl⟩, call_meets F.slot_tuple_mul ⟨_, ho, rfl⟩ F.entry_tuple_mul (F.args_tuple_mul_2 _ _) (tuple_mulS l its.toArray n sl dd k t c0 c1) ⟨ho, ?_⟩⟩)
      refine ⟨.ref l, H, I, rfl, q1 ?_⟩
      rcases Bool.or_eq_true_iff.mp c1 with e | e
      · have : xs = [] := by
          cases its with
          | nil => exact List.eq_nil_of_length_eq_zero hle.symm
          | cons a b => simp at e
        subst this
        simp
      · have : k = 1 := by simpa using e
        subst this
        simp
    · have c1 : (its.toArray.isEmpty || k == 1) = false := by simpa using c1
      have hne : its.toArray.isEmpty = false ∧ (k == 1) = false := by simpa using c1
      have hx : xs ≠ [] := fun e => by
        subst e
        have : its = [] := List.eq_nil_of_length_eq_zero hle
        subst this
        simp at hne
      have hk1 : k ≠ 1 := by simpa using hne.2
      have hk0 : k ≤ 0 := by
        have : ¬ 2 ≤ k := fun z => hb ⟨hx, z⟩
        omega
      refine wpAny_binaryOp_repeat_ref (T := "tuple") (U := "int") (by decide) ⟨_, ho, rfl⟩ (fun s' => typeIs_int s' k t) noFill_tuple_mul F.fills_int_mul F.slot_int_rmul repeat_tuple F.slot_int_index.lookup
        (call_meets F.slot_int_rmul (typeIs_int s k t) F.entry_int_rmul (F.args_int_rmul_2 _ _) (int_rmul_tuple k t l its.toArray n dd sl)
          ⟨ho, rfl, ⟨_, ho, rfl⟩, call_meets F.slot_tuple_mul ⟨_, ho, rfl⟩ F.entry_tuple_mul (F.args_tuple_mul_2 _ _) (tuple_mul0 l its.toArray n sl dd k t c0 c1 (by simp [hk0])) ⟨ho, ?_⟩⟩)
      have e0 : (List.replicate k.toNat xs).flatten = [] := by
        rw [show k.toNat = 0 by omega]; rfl
      rw [e0] at q
      exact ⟨.ref _, _, I.laid (t' := s.toks) (o := .tup []) (fun b ob q => Heap.get?_push_of_some _ q) (Nat.le_refl _) ⟨Nat.zero_le _, [], .nil, IsTup.new _ _⟩, rfl, q _ I.fresh⟩
theorem or_mul : OpR X (binaryOp .Mult) (rB X.K X.w .mul) := by
  intro pins s σ H x y v u Q I rx ry ⟨Ex, F, d1, d2, d3, f, r1, r2, hb, q⟩
  cases d1 <;> cases d2 <;> try (cases hb; done)
  case int.int i j =>
    obtain ⟨hl, hb⟩ := gO_some hb
    cases hb
    rcases Bool.or_eq_true_iff.mp hl with hl | hl
    · refine op_mulW pins s σ H x y v u Q I rx ry ⟨i, j, r1.int, r2.int, ?_, q_int f q⟩
      have := of_decide_eq_true hl
      unfold CMulW
      omega
    · refine op_mul pins s σ H x y v u Q I rx ry ⟨i, j, r1.int, r2.int, ?_, q_int f q⟩
      rcases Bool.or_eq_true_iff.mp hl with hl | hl
      · have := of_decide_eq_true hl
        exact .inl (by omega)
      · have := of_decide_eq_true hl
        exact .inr (by omega)
  case list.int xs k =>
    obtain ⟨hl, hb⟩ := gO_some hb
    cases hb
    obtain ⟨hl, h3⟩ := Bool.and_eq_true_iff.mp hl
    obtain ⟨h1, h2⟩ := Bool.and_eq_true_iff.mp hl
    have h1 := of_decide_eq_true h1
    have h2 := of_decide_eq_true h2
    have h3 := of_decide_eq_true h3
    obtain ⟨a, vs, rfl, e1, e2⟩ := r1.list f
    have hl := dpa_len e2
    refine op_rep pins s σ H _ _ v u Q I rx ry ⟨a, k, vs, rfl, r2.int, e1, by omega, by omega, ?_, q_lst f (dpa_rep e2 _) q⟩
    have : vs.length * k.toNat ≤ 1000 * 1000 := Nat.mul_le_mul (by omega) (by omega)
    rw [sizeLine_eq]; omega
  case tuple.int xs k =>
    obtain ⟨hl, hb⟩ := gO_some hb
    cases hb
    obtain ⟨hl, h3⟩ := Bool.and_eq_true_iff.mp hl
    obtain ⟨h1, h2⟩ := Bool.and_eq_true_iff.mp hl
    have h1 := of_decide_eq_true h1
    have h2 := of_decide_eq_true h2
    have h3 := of_decide_eq_true h3
    obtain ⟨a, vs, rfl, e1, e2⟩ := r1.tuple
    have hl := dpa_len e2
    rw [r2.int] at ry
    obtain ⟨t, rfl⟩ := ry
    cases rx
    refine mul_tup I (sqT_mono f e1) h1 h2 (by omega) (fun e => ?_) (q_tup f (dpa_rep e2 _) q)
    refine q _ H F (Ext.refl f) (.dat (.tup e1 ?_))
    have := dpa_rep e2 k.toNat
    rw [e] at this
    exact this
theorem or_fdiv : OpR X (binaryOp .FloorDiv) (rB X.K X.w .fdiv) := by
  intro pins s σ H x y v u Q I rx ry ⟨Ex, F, d1, d2, d3, f, r1, r2, hb, q⟩
  cases d1 <;> cases d2 <;> try (cases hb; done)
  case int.int i j =>
    obtain ⟨hl, hb⟩ := gO_some hb
    cases hb
    obtain ⟨h1, h2⟩ := Bool.and_eq_true_iff.mp hl
    have h1 := of_decide_eq_true h1
    have h2 := of_decide_eq_true h2
    have op_fd : OpR X (binaryOp .FloorDiv) (rI (fun _ j => j ≠ 0 ∧ j.natAbs.log2 < 8000) fun i j => .int (i.fdiv j)) := opI fun _ _ _ _ _ _ _ hc q => floordiv_int hc.1 q (.inl (PyProof.noPylong_of_log2 (by have := hc.2; omega)))
    exact op_fd pins s σ H x y v u Q I rx ry ⟨i, j, r1.int, r2.int, ⟨h1, h2⟩, q_int f q⟩
theorem or_mod : OpR X (binaryOp .Mod) (rB X.K X.w .mod) := by
  intro pins s σ H x y v u Q I rx ry ⟨Ex, F, d1, d2, d3, f, r1, r2, hb, q⟩
  cases d1 <;> cases d2 <;> try (cases hb; done)
  case int.int i j =>
    obtain ⟨hl, hb⟩ := gO_some hb
    cases hb
    exact op_modN pins s σ H x y v u Q I rx ry ⟨i, j, r1.int, r2.int, of_decide_eq_true hl, q_int f q⟩
theorem or_pow : OpR X (binaryOp .Pow) (rB X.K X.w .pow) := by
  intro pins s σ H x y v u Q I rx ry ⟨Ex, F, d1, d2, d3, f, r1, r2, hb, q⟩
  cases d1 <;> cases d2 <;> try (cases hb; done)
  case int.int i j =>
    obtain ⟨hl, hb⟩ := gO_some hb
    cases hb
    obtain ⟨hl, h3⟩ := Bool.and_eq_true_iff.mp hl
    obtain ⟨h1, h2⟩ := Bool.and_eq_true_iff.mp hl
    exact op_pow pins s σ H x y v u Q I rx ry ⟨i, j, r1.int, r2.int, ⟨of_decide_eq_true h1, of_decide_eq_true h2, of_decide_eq_true h3⟩, q_int f q⟩
/-! comparisons -/
theorem shp_nd {d : PyData} (h : shp d = true) : isDic d = false := by
  cases d with
  | dict kvs => simp [shp, SeqAt.shaped, PyData.canLay0] at h
  | _ => rfl
theorem or_eq (hu : X.A.units + 64 < cLine) : OpR X (compareOp .Eq) (rB X.K X.w .eq) := by
  intro pins s σ H x y v u Q I rx ry ⟨Ex, F, d1, d2, d3, f, r1, r2, hb, q⟩
  obtain ⟨hl, hb⟩ := gO_some (show gO (shp d1 && shp d2) (some (PyData.bool (PyData.eqv d1 d2))) = some d3 by cases d1 <;> exact hb)
  cases hb
  obtain ⟨h1, h2⟩ := Bool.and_eq_true_iff.mp hl
  exact op_eqD hu pins s σ H x y v u Q I rx ry ⟨d1, d2, r1.dp f (shp_nd h1), r2.dp f (shp_nd h2), h1, h2, q_bl f q⟩
theorem or_ne (hu : X.A.units + 64 < cLine) : OpR X (compareOp .NotEq) (rB X.K X.w .ne) := by
  intro pins s σ H x y v u Q I rx ry ⟨Ex, F, d1, d2, d3, f, r1, r2, hb, q⟩
  obtain ⟨hl, hb⟩ := gO_some (show gO (shp d1 && shp d2) (some (PyData.bool (!PyData.eqv d1 d2))) = some d3 by cases d1 <;> exact hb)
  cases hb
  obtain ⟨h1, h2⟩ := Bool.and_eq_true_iff.mp hl
  exact op_neD hu pins s σ H x y v u Q I rx ry ⟨d1, d2, r1.dp f (shp_nd h1), r2.dp f (shp_nd h2), h1, h2, q_bl f q⟩
theorem cmp_ok {a b : PyData} (h : cmpOk a b = true) : W.alike a b = true ∧ a ≠ .none ∧ shp a = true ∧ shp b = true := by
  unfold cmpOk at h
  rw [Bool.and_eq_true, Bool.and_eq_true, Bool.and_eq_true] at h
  refine ⟨h.1.1.1, fun e => ?_, h.1.2, h.2⟩
  subst e
  exact nomatch h.1.1.2
theorem room_cmp {A : Around} {a b : PyData} (h1 : shp a = true) (h2 : shp b = true) (hu : A.units + 64 < cLine) : A.units + min a.depth b.depth < cLine := SeqAt.room_of_shaped h1 hu
theorem or_lt (hu : X.A.units + 64 < cLine) : OpR X (compareOp .Lt) (rB X.K X.w .lt) := by
  intro pins s σ H x y v u Q I rx ry ⟨Ex, F, d1, d2, d3, f, r1, r2, hb, q⟩
  obtain ⟨hl, hb⟩ := gO_some (show gO (cmpOk d1 d2) (some (PyData.bool (W.dataLt d1 d2))) = some d3 by cases d1 <;> exact hb)
  cases hb
  obtain ⟨h1, h2, h3, h4⟩ := cmp_ok hl
  obtain ⟨as, e1⟩ := Dp.reads I d1 x v (r1.dp f (shp_nd h3)) rx
  obtain ⟨bs, e2⟩ := Dp.reads I d2 y u (r2.dp f (shp_nd h4)) ry
  exact W.lt_data e1 e2 h1 h2 (room_cmp h3 h4 hu) ⟨.bl _, H, I, rfl, q_bl f q⟩
theorem or_gt (hu : X.A.units + 64 < cLine) : OpR X (compareOp .Gt) (rB X.K X.w .gt) := by
  intro pins s σ H x y v u Q I rx ry ⟨Ex, F, d1, d2, d3, f, r1, r2, hb, q⟩
  obtain ⟨hl, hb⟩ := gO_some (show gO (cmpOk d1 d2) (some (PyData.bool (W.dataLt d2 d1))) = some d3 by cases d1 <;> exact hb)
  cases hb
  obtain ⟨h1, h2, h3, h4⟩ := cmp_ok hl
  obtain ⟨as, e1⟩ := Dp.reads I d1 x v (r1.dp f (shp_nd h3)) rx
  obtain ⟨bs, e2⟩ := Dp.reads I d2 y u (r2.dp f (shp_nd h4)) ry
  exact W.gt_data e1 e2 h1 h2 (room_cmp h3 h4 hu) ⟨.bl _, H, I, rfl, q_bl f q⟩
theorem or_le (hu : X.A.units + 64 < cLine) : OpR X (compareOp .LtE) (rB X.K X.w .le) := by
  intro pins s σ H x y v u Q I rx ry ⟨Ex, F, d1, d2, d3, f, r1, r2, hb, q⟩
  obtain ⟨hl, hb⟩ := gO_some (show gO (cmpOk d1 d2) (some (PyData.bool (!W.dataLt d2 d1))) = some d3 by cases d1 <;> exact hb)
  cases hb
  obtain ⟨h1, h2, h3, h4⟩ := cmp_ok hl
  obtain ⟨as, e1⟩ := Dp.reads I d1 x v (r1.dp f (shp_nd h3)) rx
  obtain ⟨bs, e2⟩ := Dp.reads I d2 y u (r2.dp f (shp_nd h4)) ry
  exact W.le_data e1 e2 h1 h2 (room_cmp h3 h4 hu) ⟨.bl _, H, I, rfl, q_bl f q⟩
theorem or_ge (hu : X.A.units + 64 < cLine) : OpR X (compareOp .GtE) (rB X.K X.w .ge) := by
  intro pins s σ H x y v u Q I rx ry ⟨Ex, F, d1, d2, d3, f, r1, r2, hb, q⟩
  obtain ⟨hl, hb⟩ := gO_some (show gO (cmpOk d1 d2) (some (PyData.bool (!W.dataLt d1 d2))) = some d3 by cases d1 <;> exact hb)
  cases hb
  obtain ⟨h1, h2, h3, h4⟩ := cmp_ok hl
  obtain ⟨as, e1⟩ := Dp.reads I d1 x v (r1.dp f (shp_nd h3)) rx
  obtain ⟨bs, e2⟩ := Dp.reads I d2 y u (r2.dp f (shp_nd h4)) ry
  exact W.ge_data e1 e2 h1 h2 (room_cmp h3 h4 hu) ⟨.bl _, H, I, rfl, q_bl f q⟩
def isNo : PyData → Bool
  | .none => true
  | _ => false
theorem or_is : OpR X (compareOp .Is) (rB X.K X.w .is_) := by
  intro pins s σ H x y v u Q I rx ry ⟨Ex, F, d1, d2, d3, f, r1, r2, hb, q⟩
  cases d2 with
  | none =>
    have e : d3 = .bool (isNo d1) := by
      cases d1 <;> (cases hb; rfl)
    subst e
    refine op_isN pins s σ H x y v u Q I rx ry ⟨r2.none, ?_⟩
    have e2 : decide (x = .non) = (isNo d1) := by
      cases d1 with
      | none => rw [r1.none]; rfl
      | bool b => rw [r1.bool]; rfl
      | int b => rw [r1.int]; rfl
      | str b => rw [r1.str]; rfl
      | list b => obtain ⟨a, vs, rfl, _⟩ := r1.list f; rfl
      | tuple b => obtain ⟨a, vs, rfl, _⟩ := r1.tuple; rfl
      | dict b => obtain ⟨a, rfl, _⟩ := r1.dict f; rfl
    rw [e2]
    exact q_bl f q
  | bool b =>
    rw [r2.bool] at ry
    cases ry
    have nb : ∀ {t : Bool}, (match d1 with | .bool _ => False | _ => True) → wpAny (model X.prog X.w) X.A (compareOp .Is v (.bool b)) (EP X pins σ Q) X.xe s := fun {t} n => by
      have hq : Q (.bl false) H := by
        have e : d3 = .bool false := by
          cases d1 <;> first | exact n.elim | (cases hb; rfl)
        subst e
        exact q_bl f q
      cases d1 with
      | bool b => exact n.elim
      | none => rw [r1.none] at rx; cases rx; exact wpAny_is_other rfl (fun z => nomatch z) ⟨.bl false, H, I, rfl, hq⟩
      | int b => rw [r1.int] at rx; obtain ⟨t, rfl⟩ := rx; exact wpAny_is_other rfl (fun z => nomatch z) ⟨.bl false, H, I, rfl, hq⟩
      | str b => rw [r1.str] at rx; obtain ⟨t, rfl⟩ := rx; exact wpAny_is_other rfl (fun z => nomatch z) ⟨.bl false, H, I, rfl, hq⟩
      | list b => obtain ⟨a, vs, rfl, _⟩ := r1.list f; cases rx; exact wpAny_is_other rfl (fun z => nomatch z) ⟨.bl false, H, I, rfl, hq⟩
      | tuple b => obtain ⟨a, vs, rfl, _⟩ := r1.tuple; cases rx; exact wpAny_is_other rfl (fun z => nomatch z) ⟨.bl false, H, I, rfl, hq⟩
      | dict b => obtain ⟨a, rfl, _⟩ := r1.dict f; cases rx; exact wpAny_is_other rfl (fun z => nomatch z) ⟨.bl false, H, I, rfl, hq⟩
    cases d1 with
    | bool c =>
      cases hb
      refine op_isBl pins s σ H x (.bl b) v _ Q I rx rfl ⟨c, b, r1.bool, rfl, ?_⟩
      have : (c == b) = decide (c = b) := by cases c <;> cases b <;> rfl
      rw [← this]
      exact q_bl f q
    | _ => exact nb (t := b) trivial
  | _ => cases d1 <;> cases hb
theorem or_isn : OpR X (compareOp .IsNot) (rB X.K X.w .isn) := by
  intro pins s σ H x y v u Q I rx ry ⟨Ex, F, d1, d2, d3, f, r1, r2, hb, q⟩
  cases d2 with
  | none =>
    have e : d3 = .bool (!isNo d1) := by
      cases d1 <;> (cases hb; rfl)
    subst e
    refine op_notN pins s σ H x y v u Q I rx ry ⟨r2.none, ?_⟩
    have e2 : decide (x = .non) = (isNo d1) := by
      cases d1 with
      | none => rw [r1.none]; rfl
      | bool b => rw [r1.bool]; rfl
      | int b => rw [r1.int]; rfl
      | str b => rw [r1.str]; rfl
      | list b => obtain ⟨a, vs, rfl, _⟩ := r1.list f; rfl
      | tuple b => obtain ⟨a, vs, rfl, _⟩ := r1.tuple; rfl
      | dict b => obtain ⟨a, rfl, _⟩ := r1.dict f; rfl
    rw [e2]
    exact q_bl f q
  | bool b =>
    rw [r2.bool] at ry
    cases ry
    have nb : ∀ {t : Bool}, (match d1 with | .bool _ => False | _ => True) → wpAny (model X.prog X.w) X.A (compareOp .IsNot v (.bool b)) (EP X pins σ Q) X.xe s := fun {t} n => by
      have hq : Q (.bl true) H := by
        have e : d3 = .bool true := by
          cases d1 <;> first | exact n.elim | (cases hb; rfl)
        subst e
        exact q_bl f q
      cases d1 with
      | bool b => exact n.elim
      | none => rw [r1.none] at rx; cases rx; exact wpAny_isNot_other rfl (fun z => nomatch z) ⟨.bl true, H, I, rfl, hq⟩
      | int b => rw [r1.int] at rx; obtain ⟨t, rfl⟩ := rx; exact wpAny_isNot_other rfl (fun z => nomatch z) ⟨.bl true, H, I, rfl, hq⟩
      | str b => rw [r1.str] at rx; obtain ⟨t, rfl⟩ := rx; exact wpAny_isNot_other rfl (fun z => nomatch z) ⟨.bl true, H, I, rfl, hq⟩
      | list b => obtain ⟨a, vs, rfl, _⟩ := r1.list f; cases rx; exact wpAny_isNot_other rfl (fun z => nomatch z) ⟨.bl true, H, I, rfl, hq⟩
      | tuple b => obtain ⟨a, vs, rfl, _⟩ := r1.tuple; cases rx; exact wpAny_isNot_other rfl (fun z => nomatch z) ⟨.bl true, H, I, rfl, hq⟩
      | dict b => obtain ⟨a, rfl, _⟩ := r1.dict f; cases rx; exact wpAny_isNot_other rfl (fun z => nomatch z) ⟨.bl true, H, I, rfl, hq⟩
    cases d1 with
    | bool c =>
      cases hb
      refine op_notBl pins s σ H x (.bl b) v _ Q I rx rfl ⟨c, b, r1.bool, rfl, ?_⟩
      have : (c == b) = decide (c = b) := by cases c <;> cases b <;> rfl
      rw [← this]
      exact q_bl f q
    | _ => exact nb (t := b) trivial
  | _ => cases d1 <;> cases hb
end
end Wv

set_option autoImplicit false
set_option linter.all false
set_option maxRecDepth 100000
set_option maxHeartbeats 4000000
namespace Wv
open PySem PySem.Spec PyProof.Rows L2
section
variable {X : Cx}
variable {K : PySem.W.Frag} {w : World} {F H : Hp} {Q : VK} {Ex : Addr → Prop}
theorem shp_can {d : PyData} (h : shp d = true) : d.canLay0 = true := SeqAt.canLay_of_shaped h
theorem shp_plain {d : PyData} (h : shp d = true) : d.plain = true := PyData.plain_of_canLay0 d (shp_can h)
theorem shp_list {ds : List PyData} (h : shp (.list ds) = true) : PyData.canLayAll0 ds = true ∧ PyData.depthAll ds + 1 ≤ 64 := by
  obtain ⟨a, b⟩ := Bool.and_eq_true_iff.mp h
  exact ⟨by simpa [PyData.canLay0] using a, by simpa [PyData.depth] using of_decide_eq_true b⟩
theorem shp_tup {ds : List PyData} (h : shp (.tuple ds) = true) : PyData.canLayAll0 ds = true ∧ PyData.depthAll ds + 1 ≤ 64 := by
  obtain ⟨a, b⟩ := Bool.and_eq_true_iff.mp h
  exact ⟨by simpa [PyData.canLay0] using a, by simpa [PyData.depth] using of_decide_eq_true b⟩
theorem room_in {A : Around} {ds : List PyData} {d : PyData} (h : PyData.depthAll ds + 1 ≤ 64) (hu : A.units + 65 < cLine) : A.units + 1 + min (PyData.depthAll ds) d.depth < cLine := by
  have := Nat.min_le_left (PyData.depthAll ds) d.depth
  omega
theorem or_in (hu : X.A.units + 100 < cLine) : OpR X (compareOp .In) (rB X.K X.w .in_) := by
  intro pins s σ H x y v u Q I rx ry ⟨Ex, F, d1, d2, d3, f, r1, r2, hb, q⟩
  obtain ⟨b, hb2, e⟩ : ∃ b, inD d1 d2 = some b ∧ d3 = .bool b := by
    have hb : (inD d1 d2).bind (fun b => some (PyData.bool b)) = some d3 := by cases d1 <;> exact hb
    obtain ⟨b, h1, h2⟩ := Option.bind_eq_some_iff.mp hb
    cases h2
    exact ⟨b, h1, rfl⟩
  subst e
  clear hb
  cases d2 with
  | list ds =>
    obtain ⟨hl, hb⟩ := gO_some hb2
    cases hb
    obtain ⟨h1, h2⟩ := Bool.and_eq_true_iff.mp hl
    exact op_inD (by omega) pins s σ H x y v u Q I rx ry ⟨d1, ds, r1.dp f (shp_nd h1), r2.dp f rfl, h1, h2, q_bl f q⟩
  | tuple ds =>
    obtain ⟨hl, hb⟩ := gO_some hb2
    cases hb
    obtain ⟨h1, h2⟩ := Bool.and_eq_true_iff.mp hl
    obtain ⟨as, e1⟩ := Dp.reads I d1 x v (r1.dp f (shp_nd h1)) rx
    obtain ⟨bs, e2⟩ := Dp.reads I (.tuple ds) y u (r2.dp f rfl) ry
    obtain ⟨h3, h4⟩ := shp_tup h2
    exact SeqAt.in_tuple_data e2 e1 (PyData.plainAll_of_canLay0 ds h3) (shp_plain h1) (room_in h4 (by omega)) ⟨.bl _, H, I, rfl, q_bl f q⟩
  | dict kvs => exact absurd (gO_some hb2).1 (by decide)
  | str j =>
    cases d1 with
    | str i =>
      cases hb2
      exact op_in_str pins s σ H x y v u Q I rx ry ⟨i, j, r1.str, r2.str, q_bl f q⟩
    | _ => cases hb2
  | _ => cases hb2
theorem or_nin (hu : X.A.units + 100 < cLine) : OpR X (compareOp .NotIn) (rB X.K X.w .nin) := by
  intro pins s σ H x y v u Q I rx ry ⟨Ex, F, d1, d2, d3, f, r1, r2, hb, q⟩
  obtain ⟨b, hb2, e⟩ : ∃ b, inD d1 d2 = some b ∧ d3 = .bool (!b) := by
    have hb : (inD d1 d2).bind (fun b => some (PyData.bool (!b))) = some d3 := by cases d1 <;> exact hb
    obtain ⟨b, h1, h2⟩ := Option.bind_eq_some_iff.mp hb
    cases h2
    exact ⟨b, h1, rfl⟩
  subst e
  clear hb
  cases d2 with
  | list ds =>
    obtain ⟨hl, hb⟩ := gO_some hb2
    cases hb
    obtain ⟨h1, h2⟩ := Bool.and_eq_true_iff.mp hl
    exact op_notInD (by omega) pins s σ H x y v u Q I rx ry ⟨d1, ds, r1.dp f (shp_nd h1), r2.dp f rfl, h1, h2, q_bl f q⟩
  | tuple ds =>
    obtain ⟨hl, hb⟩ := gO_some hb2
    cases hb
    obtain ⟨h1, h2⟩ := Bool.and_eq_true_iff.mp hl
    obtain ⟨as, e1⟩ := Dp.reads I d1 x v (r1.dp f (shp_nd h1)) rx
    obtain ⟨bs, e2⟩ := Dp.reads I (.tuple ds) y u (r2.dp f rfl) ry
    obtain ⟨h3, h4⟩ := shp_tup h2
    exact SeqAt.notIn_tuple_data e2 e1 (PyData.plainAll_of_canLay0 ds h3) (shp_plain h1) (room_in h4 (by omega)) ⟨.bl _, H, I, rfl, q_bl f q⟩
  | dict kvs => exact absurd (gO_some hb2).1 (by decide)
  | str j =>
    cases d1 with
    | str i =>
      cases hb2
      exact op_notin_str pins s σ H x y v u Q I rx ry ⟨i, j, r1.str, r2.str, q_bl f q⟩
    | _ => cases hb2
  | _ => cases hb2

/-! truth -/
theorem dpa_empty {vs : List V} {ds : List PyData} (h : DqAll K F vs ds) : vs.isEmpty = ds.isEmpty := by cases h <;> rfl
def rT (K : PySem.W.Frag) (w : World) : V → Hp → (Bool → Hp → Prop) → Prop := fun x H Q => ∃ Ex F d b, Fit F H ∧ RepP K w Ex F H x d ∧ tru d = some b ∧ Q b H
theorem tr_ok : TruR X (rT X.K X.w) := by
  intro pins s σ H x v Q I rx ⟨Ex, F, d, b, f, r, hb, q⟩
  have go : TruV X.K x H b → wpAny (model X.prog X.w) X.A (truthy v) (TP X pins σ Q) X.xe s := fun h => tru_ok pins s σ H x v Q I rx ⟨b, h, q⟩
  cases d with
  | none => cases hb; rw [r.none] at go; exact go rfl
  | bool c => cases hb; rw [r.bool] at go; exact go rfl
  | int i => cases hb; rw [r.int] at go; exact go rfl
  | str z =>
    obtain ⟨hl, hb⟩ := gO_some hb
    cases hb
    rw [r.str] at go
    refine go ⟨of_decide_eq_true hl, ?_⟩
    cases e : z.length with
    | zero => rfl
    | succ n => simp; omega
  | list ds =>
    cases hb
    obtain ⟨a, vs, rfl, h1, h2⟩ := r.list f
    exact go (.inl ⟨vs, .inl (.inl h1), by rw [dpa_empty h2]⟩)
  | tuple ds =>
    cases hb
    obtain ⟨a, vs, rfl, h1, h2⟩ := r.tuple
    exact go (.inr (.inl ⟨vs, sqT_mono f h1, by rw [dpa_empty h2]⟩))
  | dict kvs => exact absurd (gO_some hb).1 (by decide)

/-! calls of one argument -/
def rP1 (K : PySem.W.Frag) (w : World) (p : P1) : List V → Hp → VK → Prop := fun xs H Q => ∃ Ex F x d d', xs = [x] ∧ Fit F H ∧ RepP K w Ex F H x d ∧ p1 p d = some d' ∧ ∀ v H' F', Ext H F H' F' → RepF K w F' v d' → Q v H'
theorem cr_len : CallR X (.builtin "len") (rP1 X.K X.w .len) := by
  intro pins s σ H xs us Q I r ⟨Ex, F, x, d, d', e, f, r1, hb, q⟩
  subst e
  cases d with
  | str z =>
    obtain ⟨hl, hb⟩ := gO_some hb
    cases hb
    exact call_len_str pins s σ H _ us Q I r ⟨z, by rw [r1.str], of_decide_eq_true hl, q_int f q⟩
  | list ds =>
    cases hb
    obtain ⟨a, vs, rfl, h1, h2⟩ := r1.list f
    exact call_len_seq pins s σ H _ us Q I r ⟨a, vs, rfl, .inl (.inl (.inl h1)), by rw [dpa_len h2]; exact q_int f q⟩
  | tuple ds =>
    cases hb
    obtain ⟨a, vs, rfl, h1, h2⟩ := r1.tuple
    exact call_len_seq pins s σ H _ us Q I r ⟨a, vs, rfl, .inr (sqT_mono f h1), by rw [dpa_len h2]; exact q_int f q⟩
  | dict kvs => exact absurd (gO_some hb).1 (by decide)
  | _ => cases hb
theorem cr_absD : CallR X (.builtin "abs") (rP1 X.K X.w .abs) := by
  intro pins s σ H xs us Q I r ⟨Ex, F, x, d, d', e, f, r1, hb, q⟩
  subst e
  cases d with
  | int i =>
    cases hb
    exact call_abs pins s σ H _ us Q I r ⟨i, by rw [r1.int], q_int f q⟩
  | _ => cases hb
theorem cr_int : CallR X (.type "int") (rP1 X.K X.w .int) := by
  intro pins s σ H xs us Q I r ⟨Ex, F, x, d, d', e, f, r1, hb, q⟩
  subst e
  cases d with
  | int i =>
    cases hb
    exact call_int1 pins s σ H _ us Q I r (.inl ⟨i, by rw [r1.int], q_int f q⟩)
  | bool b =>
    cases hb
    exact call_int1 pins s σ H _ us Q I r (.inr ⟨b, by rw [r1.bool], q_int f q⟩)
  | str z =>
    have hb : (match intText? z with
      | some n => gO (decide (z.length ≤ 640)) (some (PyData.int n))
      | none => none) = some d' := hb
    cases e : intText? z with
    | none => rw [e] at hb; cases hb
    | some n =>
      rw [e] at hb
      obtain ⟨hl, hb⟩ := gO_some hb
      cases hb
      exact call_int_str pins s σ H _ us Q I r ⟨z, n, by rw [r1.str], e, of_decide_eq_true hl, q_int f q⟩
  | _ => cases hb
theorem cr_boolD : CallR X (.type "bool") (rP1 X.K X.w .bool) := by
  intro pins s σ H xs us Q I r ⟨Ex, F, x, d, d', e, f, r1, hb, q⟩
  exact absurd (gO_some (show gO later (do some (.bool (← tru d))) = some d' by cases d <;> exact hb)).1 (by decide)
theorem cr_strD : CallR X (.type "str") (rP1 X.K X.w .str) := by
  intro pins s σ H xs us Q I r ⟨Ex, F, x, d, d', e, f, r1, hb, q⟩
  subst e
  cases d with
  | int i =>
    obtain ⟨hl, hb⟩ := gO_some hb
    cases hb
    exact call_str_int pins s σ H _ us Q I r ⟨i, by rw [r1.int], by have := of_decide_eq_true hl; omega, q_str f q⟩
  | str z => exact absurd (gO_some hb).1 (by decide)
  | _ => cases hb
/-! sums -/
theorem preSum_app (ns : List Int) : ∀ k, k ≤ ns.length → preSum (fun i => ns.getD i 0) k = (ns.take k).sum
  | 0, _ => rfl
  | k + 1, h => by
    rw [preSum, preSum_app ns k (by omega), List.take_add_one, List.sum_append, List.getD_eq_getElem?_getD]
    rw [List.getElem?_eq_getElem (by omega)]
    simp
theorem getD_sum (ns : List Int) : preSum (fun i => ns.getD i 0) ns.length = ns.sum := by
  rw [preSum_app ns _ (Nat.le_refl _), List.take_length]
theorem ints_at {its : List Value} {ns : List Int} (h : IntsAre its ns) (i : Nat) (v : Value) (e : its.toArray[i]? = some v) : ∃ t, v = .int (ns.getD i 0) t := by
  induction h generalizing i with
  | nil => simp at e
  | cons n t _ ih =>
    cases i with
    | zero => simp at e; subst e; exact ⟨_, rfl⟩
    | succ i => exact ih i (by simpa using e)
theorem cr_sumD (hc : X.calm = true) : CallR X (.builtin "sum") (rP1 X.K X.w .sum) := by
  intro pins s σ H xs us Q I r ⟨Ex, F, x, d, d', e, f, r1, hb, q⟩
  subst e
  cases d with
  | list ds =>
    obtain ⟨ns, h1, rfl⟩ := Option.map_eq_some_iff.mp hb
    obtain ⟨a, vs, rfl, h3, h2⟩ := r1.list f
    have := dpa_ints h2 h1
    subst this
    exact L2.cr_sum hc pins s σ H _ us Q I r ⟨a, ns, rfl, .inl (.inl h3), q_int f q⟩
  | tuple ds =>
    obtain ⟨ns, h1, rfl⟩ := Option.map_eq_some_iff.mp hb
    obtain ⟨a, vs, rfl, h3, h2⟩ := r1.tuple
    have := dpa_ints h2 h1
    subst this
    obtain ⟨its, rv, ht, hz⟩ := I.tuple (sqT_mono f h3)
    rw [Vals.ref1 r]
    have hi := rv.ints
    have hl : its.toArray.size = ns.length := by rw [List.size_toArray, ← rv.length, List.length_map]
    refine call_sum_walkAnyS (W.iter_tupleW (A := X.A.in1) (I.ok.hd hc) ht fun s₂ e Wk st hfp hw hk => ?_)
    refine ⟨_, _, _, _, _, _, _, (fun i => ns.getD i 0), rfl, Wk, st, hfp, fun i v hP => ints_at hi i v hP, fun s' t' m => ?_⟩
    obtain ⟨h', tk, rfl, hk'⟩ := PySem.W.moved_old e rfl m
    refine ⟨.int _, H, I.kept hk', ⟨t', ?_⟩, q_int f q⟩
    rw [hl, getD_sum]
  | _ => cases hb
end
end Wv

set_option autoImplicit false
set_option linter.all false
set_option maxRecDepth 100000
set_option maxHeartbeats 4000000
namespace Wv
open PySem PySem.Spec PyProof.Rows L2

/-! ### what is fixed in a run -/
structure G where
  gt : Nat → Option PyData
  fa : Nat → Addr
  ca : Nat → Addr
  ts : List Addr
  nc : Nat
/-- the names -/
structure Ck where
  N : List Str
  fn : List Str
  gl : List Str
  cl : List Str
  dk : Option Nat
def ExA (g : G) (A : Option Addr) (a : Addr) : Prop := A = some a ∨ a ∈ g.ts
structure OrcOk (ω : Orc) : Prop where
  b : 0 ≤ ω.b
  c0 : 0 ≤ ω.c
  c1 : ω.c < 2 ^ 31
structure StOk (g : G) (A : Option Addr) (H F : Hp) (ω : Orc) : Prop where
  st : ∀ a, A = some a → F a = none ∧ a ∉ g.ts ∧ OrcOk ω ∧ ∃ b, H a = some (.lst [.int ω.a, .int ω.b, .ref b, .int ω.c]) ∧ F b = some (.lst (ω.scr.map V.int))
  tab : ∀ p ∈ g.ts, GxR.TabG H p
  ft : ∀ p ∈ g.ts, F p = none
def OwnAt (K : PySem.W.Frag) (w : World) (F H : Hp) (a : Addr) : PyData → Prop
  | .list ds => ∃ vs, H a = some (.lst vs) ∧ DqAll K F vs ds
  | .dict kvs => DicAt K w F H a kvs
  | _ => False
def SlRel (g : G) (K : PySem.W.Frag) (w : World) (A : Option Addr) (H0 H F : Hp) (o : Option (Option V)) : Slot → Prop
  | .un => True
  | .v false d => ∃ v, o = some (some v) ∧ RepF K w F v d
  | .v true d => ∃ a, o = some (some (.ref a)) ∧ F a = none ∧ ¬ ExA g A a ∧ OwnAt K w F H a d ∧ H0 a = none
  | .f k => o = some (some (.ref (g.fa k)))
  | .s => ∃ a, A = some a ∧ o = some (some (.ref a))
  | .x _ _ => False
structure Rel (g : G) (K : PySem.W.Frag) (w : World) (A : Option Addr) (H0 F0 : Hp) (ρ : Env) (σ : L2.St) (H F : Hp) (ω : Orc) : Prop where
  gr : Grow (ExA g A) H0 F0 H F
  len : ρ.length = σ.length
  sl : ∀ (i : Nat) (s : Slot), ρ[i]? = some s → SlRel g K w A H0 H F σ[i]? s
  own : ∀ (i j : Nat) (d e : PyData) (a : Addr), ρ[i]? = some (.v true d) → ρ[j]? = some (.v true e) → σ[i]? = some (some (.ref a)) → σ[j]? = some (some (.ref a)) → i = j
  st : StOk g A H F ω
section
variable {g : G} {K : PySem.W.Frag} {w : World} {A : Option Addr} {H0 F0 H F H' F' : Hp} {ρ : Env} {σ : L2.St} {ω ω' : Orc}
theorem Rel.fit (r : Rel g K w A H0 F0 ρ σ H F ω) : Fit F H := r.gr.fit
theorem Grow.nf {Ex : Addr → Prop} (gr : Grow Ex H F H' F') {a : Addr} {o : HO} (h1 : F a = none) (h2 : H a = some o) : F' a = none := by
  cases e : F' a with
  | none => rfl
  | some u =>
    rcases gr.new a u e with q | q
    · rw [h1] at q; cases q
    · rw [h2] at q; cases q
theorem OwnAt.obj {a : Addr} {d : PyData} (h : OwnAt K w F H a d) : ∃ o, H a = some o := by
  cases d with
  | list ds => obtain ⟨vs, e, _⟩ := h; exact ⟨_, e⟩
  | dict kvs => obtain ⟨o, _, _, e, _⟩ := h; exact ⟨_, e⟩
  | _ => exact h.elim
theorem OwnAt.mono {a : Addr} {d : PyData} (s : Same F F') (t : ∀ o, H a = some o → H' a = some o) (h : OwnAt K w F H a d) : OwnAt K w F' H' a d := by
  cases d with
  | list ds => obtain ⟨vs, e, q⟩ := h; exact ⟨vs, t _ e, dpAll_mono s _ _ q⟩
  | dict kvs => exact dicAt_mono s t h
  | _ => exact h.elim
theorem Rel.grow (r : Rel g K w A H0 F0 ρ σ H F ω) (gr : Grow (ExA g A) H F H' F') (st : StOk g A H' F' ω') : Rel g K w A H0 F0 ρ σ H' F' ω' where
  gr := r.gr.trans gr
  len := r.len
  sl := fun i s e => by
    have h := r.sl i s e
    cases s with
    | un => trivial
    | v o d =>
      cases o with
      | false => obtain ⟨v, h1, h2⟩ := h; exact ⟨v, h1, h2.mono gr.fs⟩
      | true =>
        obtain ⟨a, h1, h2, h3, h4, h5⟩ := h
        obtain ⟨o, ho⟩ := h4.obj
        exact ⟨a, h1, gr.nf h2 ho, h3, h4.mono gr.fs (fun o e => gr.hs a o h3 e), h5⟩
    | f k => exact h
    | s => exact h
    | x c p => exact h
  own := r.own
  st := st
end

/-! ### readings -/
/-- what an exception bears -/
def PayOk (g : G) (k : Nat) (K : PySem.W.Frag) (H F : Hp) (p : PyData) (d : Option Addr) : Prop := k < g.nc ∧ p = .none ∧ d = none
def RPost {α : Type} (g : G) (K : PySem.W.Frag) (W : WX) (σ : L2.St) (A : Option Addr) (H F : Hp) (r : R α) (ok : α → Orc → Hp → Hp → Prop) : Prop := match r with
  | .ok d ω' => ∀ H' F', Grow (ExA g A) H F H' F' → StOk g A H' F' ω' → ok d ω' H' F'
  | .exc c p ω' => ∀ H' F' dx, Grow (ExA g A) H F H' F' → StOk g A H' F' ω' → PayOk g c K H' F' p dx → W (.ref (g.ca c)) dx σ H'
  | .stuck => False
section
variable {α β : Type} {g : G} {K : PySem.W.Frag} {W : WX} {σ : L2.St} {A : Option Addr} {H F H1 F1 : Hp} {ok ok' : α → Orc → Hp → Hp → Prop}
theorem RPost.mono {r : R α} (gr : Grow (ExA g A) H F H1 F1) (h : RPost g K W σ A H F r ok) : RPost g K W σ A H1 F1 r ok := by
  cases r with
  | ok a ω => exact fun H' F' g2 st => h H' F' (gr.trans g2) st
  | exc c p ω => exact fun H' F' dx g2 st => h H' F' dx (gr.trans g2) st
  | stuck => exact h
theorem RPost.imp {r : R α} (h : RPost g K W σ A H F r ok) (q : ∀ a ω' H' F', Grow (ExA g A) H F H' F' → StOk g A H' F' ω' → ok a ω' H' F' → ok' a ω' H' F') : RPost g K W σ A H F r ok' := by
  cases r with
  | ok a ω => exact fun H' F' g2 st => q a ω H' F' g2 st (h H' F' g2 st)
  | exc c p ω => exact h
  | stuck => exact h
theorem RPost.bind {m : M α} {f : α → M β} {ω : Orc} {ok : β → Orc → Hp → Hp → Prop} (h : RPost g K W σ A H F ((m >>= f) ω) ok) : RPost g K W σ A H F (m ω) (fun a ω1 H1 F1 => RPost g K W σ A H1 F1 (f a ω1) ok) := by
  have e : (m >>= f) ω = (match m ω with | .ok a w' => f a w' | .exc c p w' => .exc c p w' | .stuck => .stuck) := rfl
  rw [e] at h
  cases q : m ω with
  | ok a ω1 => rw [q] at h; exact fun H' F' gr st => h.mono gr
  | exc c p ω1 => rw [q] at h; exact h
  | stuck => rw [q] at h; exact h
/-- the end: a value is at hand -/
theorem RPost.ofO {o : Option α} {ω : Orc} (h : RPost g K W σ A H F (M.ofO o ω) ok) : ∃ a, o = some a ∧ ∀ H' F', Grow (ExA g A) H F H' F' → StOk g A H' F' ω → ok a ω H' F' := by
  cases o with
  | some a => exact ⟨a, rfl, h⟩
  | none => exact h.elim
theorem RPost.pure {a : α} {ω : Orc} (h : RPost g K W σ A H F ((Pure.pure a : M α) ω) ok) : ∀ H' F', Grow (ExA g A) H F H' F' → StOk g A H' F' ω → ok a ω H' F' := h
theorem RPost.guard {c : Bool} {m : M α} {ω : Orc} (h : RPost g K W σ A H F (M.guard c m ω) ok) : c = true ∧ RPost g K W σ A H F (m ω) ok := by
  cases c with
  | true => exact ⟨rfl, h⟩
  | false => exact h.elim
theorem StOk.ext {ω : Orc} (st : StOk g A H F ω) (e : Ext H F H1 F1) : StOk g A H1 F1 ω where
  st := fun a ha => by
    obtain ⟨h1, h2, h3, b, h4, h5⟩ := st.st a ha
    exact ⟨(e.grow (Ex := fun _ => False)).nf h1 h4, h2, h3, b, e.hs _ _ h4, e.fs _ _ h5⟩
  tab := fun p hp => by
    obtain ⟨ps, h1, h2⟩ := st.tab p hp
    exact ⟨ps, e.hs _ _ h1, h2⟩
  ft := fun p hp => by
    obtain ⟨ps, h1, h2⟩ := st.tab p hp
    exact (e.grow (Ex := fun _ => False)).nf (st.ft p hp) h1
end
def isPk : E → Bool
  | .pk _ => true
  | _ => false
def RepR (K : PySem.W.Frag) (w : World) (Ex : Addr → Prop) (pk : Bool) (F H : Hp) (v : V) (d : PyData) : Prop := if pk = true then RepP K w Ex F H v d else RepF K w F v d
theorem RepR.p {K : PySem.W.Frag} {w : World} {Ex : Addr → Prop} {pk : Bool} {F H : Hp} {v : V} {d : PyData} (h : RepR K w Ex pk F H v d) : RepP K w Ex F H v d := by
  cases pk with
  | true => exact h
  | false => exact .frz h
end Wv

set_option autoImplicit false
set_option linter.all false
set_option maxRecDepth 100000
set_option maxHeartbeats 4000000
namespace Wv
open PySem PySem.Spec PyProof.Rows L2

/-! ### the looks: does a text's tree say what the plain text says -/
def visB (sc : Scope) (x : Str) : Bool := match sc.names.lookup x with
  | some .local => true
  | some .cell => true
  | some .free => true
  | _ => false
def glB (sc : Scope) (x : Str) : Bool := sc.names.lookup x == some NameKind.globalImplicit
def plainN (x : Str) : Bool := !(x == ("__debug__" : Str)) && !(x == ("__classdict__" : Str)) && !(x == ("__name__" : Str))
def varB (c : Ck) (sc : Scope) (i : Nat) (x : Str) : Bool := (c.N[i]? == some x) && visB sc x && plainN x
def litB : PyData → Const → Bool
  | .none, .none => true
  | .bool a, .bool b => a == b
  | .int i, .int j => i == j
  | .str x, .str y => x == y
  | _, _ => false
def isCmp : Bop → Option CmpOp
  | .eq => some .Eq | .ne => some .NotEq | .lt => some .Lt | .le => some .LtE | .gt => some .Gt | .ge => some .GtE
  | .is_ => some .Is | .isn => some .IsNot | .in_ => some .In | .nin => some .NotIn
  | _ => none
def isBin : Bop → Option Operator
  | .add => some .Add | .sub => some .Sub | .mul => some .Mult | .fdiv => some .FloorDiv | .mod => some .Mod | .pow => some .Pow
  | _ => none
def noStar : PySem.Expr → Bool
  | .Starred .. => false
  | _ => true
/-- its test is its value's truth -/
def plainT : PySem.Expr → Bool
  | .UnaryOp .Not _ _ => false
  | .BoolOp .. => false
  | .IfExp .. => false
  | .Compare .. => false
  | _ => true
def noSlice : PySem.Expr → Bool
  | .Slice .. => false
  | _ => true
def p1Name : P1 → String
  | .len => "len" | .abs => "abs" | .sum => "sum" | .max => "max" | .min => "min" | .sorted => "sorted" | .sortedr => "sorted" | .list => "list" | .tuple => "tuple"
  | .int => "int" | .bool => "bool" | .str => "str" | .any => "any" | .all => "all"
/-! ### the context -/
def ArgRel (g : G) (K : PySem.W.Frag) (w : World) (A : Option Addr) (F : Hp) (v : V) : Slot → Prop
  | .v false d => RepF K w F v d
  | .f k => v = .ref (g.fa k)
  | .s => ∃ a, A = some a ∧ v = .ref a
  | _ => False
def spF (g : G) (K : PySem.W.Frag) (w : World) (call : Nat → List Slot → M PyData) (f : Nat) : Sp := fun vs H Q E =>
  ∃ A F ω as, Fit F H ∧ StOk g A H F ω ∧ Paired (ArgRel g K w A F) vs as ∧ RPost g K (fun cls d _ H' => E cls d H') [] A H F (call f as ω) (fun d _ H' F' => ∀ v, RepF K w F' v d → Q v H')
/-- the built-in names that are used -/
def bltN : List String := ["abs", "all", "any", "bool", "enumerate", "int", "isinstance", "len", "list", "max", "min", "range", "reversed", "set", "sorted", "str", "sum", "tuple", "zip"]
theorem p1_blt (p : P1) : p1Name p ∈ bltN := by cases p <;> decide
/-- the draw -/
def spD (g : G) : Sp := fun vs H Q E => ∃ a F ω n, vs = [.ref a, .int n] ∧ Fit F H ∧ StOk g (some a) H F ω ∧ 0 < n ∧ n < 2 ^ 64 ∧
  ∀ H' F', Grow (ExA g (some a)) H F H' F' → StOk g (some a) H' F' (drawFn ω n).2 → Q (.int (drawFn ω n).1) H'
structure Gd (g : G) (c : Ck) (call : Nat → List Slot → M PyData) (X : Cx) (sc : Scope) : Prop where
  sc : X.env.scope = sc
  N : X.N = c.N
  nd : c.N.Nodup
  calm : X.calm = true
  fns : ∃ n, Room n X.A ∧ ∀ (f : Nat) (x : Str), c.fn[f]? = some x → ∃ fd ps, X.mg x = some (.ref (g.fa f)) ∧ PySem.W.keepIn X.K (.ref (g.fa f)) = true ∧ Binds X.K fd ps [] ∧
    FnOk X.prog X.w X.K X.mg X.base (L2.CX X.prog X.w) n (g.fa f) fd ps (spF g X.K X.w call f)
  drw : ∀ k, c.dk = some k → ∃ n x fd ps, Room n X.A ∧ c.fn[k]? = some x ∧ X.mg x = some (.ref (g.fa k)) ∧ PySem.W.keepIn X.K (.ref (g.fa k)) = true ∧ Binds X.K fd ps [] ∧
    FnOk X.prog X.w X.K X.mg X.base (L2.CX X.prog X.w) n (g.fa k) fd ps (spD g)
  rm : Room 0 X.A
  frn : ∀ x : String, x ∈ bltN → X.mg (Str.ofString x) = none
section
variable {g : G} {c : Ck} {call : Nat → List Slot → M PyData} {X : Cx} {sc : Scope} {W : WX}
theorem Gd.hu (d : Gd g c call X sc) : X.A.units + 200 < cLine := by
  have := d.rm.un
  omega

def tE (g : G) (call : Nat → List Slot → M PyData) (X : Cx) (W : WX) (e : E) : TE := fun σ H Q => ∃ A H0 F0 ρ F ω, Rel g X.K X.w A H0 F0 ρ σ H F ω ∧
  RPost g X.K W σ A H F (evalE g.gt call e ρ ω) (fun d _ H' F' => ∀ v, RepR X.K X.w (ExA g A) (isPk e) F' H' v d → Q v H')
def tT (g : G) (call : Nat → List Slot → M PyData) (X : Cx) (W : WX) (e : E) : TT := fun σ H Q => ∃ A H0 F0 ρ F ω, Rel g X.K X.w A H0 F0 ρ σ H F ω ∧
  RPost g X.K W σ A H F ((evalE g.gt call e ρ >>= fun d => M.ofO (tru d)) ω) (fun b _ H' F' => Q b H')
def tEs (g : G) (call : Nat → List Slot → M PyData) (X : Cx) (W : WX) (es : Es) : TA := fun σ H Q => ∃ A H0 F0 ρ F ω, Rel g X.K X.w A H0 F0 ρ σ H F ω ∧
  RPost g X.K W σ A H F (evalEs g.gt call es ρ ω) (fun ds _ H' F' => ∀ vs, Paired (RepF X.K X.w F') vs ds → Q vs H')
theorem PE.wk {e : PySem.Expr} {t t' : TE} (h : PE X e t) (i : ∀ σ H Q, t' σ H Q → t σ H Q) : PE X e t' := ⟨fun pins s σ H Q I q => h.run pins s σ H Q I (i σ H Q q)⟩
theorem PT.wk {e : PySem.Expr} {t t' : TT} (h : PT X e t) (i : ∀ σ H Q, t' σ H Q → t σ H Q) : PT X e t' := ⟨fun pins s σ H Q I q => h.run pins s σ H Q I (i σ H Q q)⟩
theorem PA.wk {e : List PySem.Expr} {t t' : TA} (h : PA X e t) (i : ∀ σ H Q, t' σ H Q → t σ H Q) : PA X e t' := ⟨fun pos pins s σ H Q I q => h.run pos pins s σ H Q I (i σ H Q q)⟩

/-! names and constants -/
theorem vis_of {x : Str} (h : visB sc x = true) : Vis sc x := by
  unfold visB at h
  split at h
  · exact .inl ‹_›
  · exact .inr (.inl ‹_›)
  · exact .inr (.inr ‹_›)
  · cases h
theorem var_of {i : Nat} {x : Str} (h : varB c sc i x = true) : c.N[i]? = some x ∧ Vis sc x ∧ (x == ("__debug__" : Str)) = false ∧ (x == ("__classdict__" : Str)) = false := by
  unfold varB plainN at h
  simp only [Bool.and_eq_true, Bool.not_eq_true', beq_iff_eq] at h
  exact ⟨h.1.1, vis_of h.1.2, h.2.1.1, h.2.1.2⟩
theorem snd_name {i : Nat} {x : Str} {pos : Pos} (G : Gd g c call X sc) (h : varB c sc i x = true) : PE X (.Name x pos) (tVar i) := by
  obtain ⟨h1, h2, h3, h4⟩ := var_of h
  exact pe_var (by rw [G.N]; exact h1) (by rw [G.sc]; exact h2) h3 h4
theorem getV_post {σ : L2.St} {A : Option Addr} {H F : Hp} {s : Option Slot} {ω : Orc} {ok : PyData → Orc → Hp → Hp → Prop} (h : RPost g X.K W σ A H F (getV s ω) ok) : ∃ d, s = some (.v false d) ∧ ∀ H' F', Grow (ExA g A) H F H' F' → StOk g A H' F' ω → ok d ω H' F' := by
  unfold getV at h
  split at h
  · exact ⟨_, rfl, h⟩
  · exact h.elim
theorem getP_post {σ : L2.St} {A : Option Addr} {H F : Hp} {s : Option Slot} {ω : Orc} {ok : PyData → Orc → Hp → Hp → Prop} (h : RPost g X.K W σ A H F (getP s ω) ok) : ∃ o d, s = some (.v o d) ∧ ∀ H' F', Grow (ExA g A) H F H' F' → StOk g A H' F' ω → ok d ω H' F' := by
  unfold getP at h
  split at h
  · exact ⟨_, _, rfl, h⟩
  · exact h.elim
theorem snd_var {i : Nat} {x : Str} {pos : Pos} (G : Gd g c call X sc) (h : varB c sc i x = true) : PE X (.Name x pos) (tE g call X W (.var i)) := by
  refine PE.wk (snd_name G h) fun σ H Q ⟨A, H0, F0, ρ, F, ω, r, q⟩ => ?_
  rw [evalE] at q
  obtain ⟨d, e, q⟩ := getV_post q
  obtain ⟨v, h1, h2⟩ := r.sl _ _ e
  exact ⟨v, h1, q H F (Grow.refl r.fit) r.st v h2⟩
theorem snd_pk {i : Nat} {x : Str} {pos : Pos} (G : Gd g c call X sc) (h : varB c sc i x = true) : PE X (.Name x pos) (tE g call X W (.pk i)) := by
  refine PE.wk (snd_name G h) fun σ H Q ⟨A, H0, F0, ρ, F, ω, r, q⟩ => ?_
  rw [evalE] at q
  obtain ⟨o, d, e, q⟩ := getP_post q
  cases o with
  | false =>
    obtain ⟨v, h1, h2⟩ := r.sl _ _ e
    exact ⟨v, h1, q H F (Grow.refl r.fit) r.st v (.frz h2)⟩
  | true =>
    obtain ⟨a, h1, h2, h3, h4, h5⟩ := r.sl _ _ e
    refine ⟨.ref a, h1, q H F (Grow.refl r.fit) r.st _ ?_⟩
    cases d with
    | list ds => obtain ⟨vs, e1, e2⟩ := h4; exact .lst h3 h2 e1 e2
    | dict kvs => exact .dic h3 h2 h4
    | _ => exact h4.elim
theorem snd_lit {d : PyData} {k : Const} {j : Nat} {pos : Pos} (h : litB d k = true) : PE X (.Constant k j pos) (tE g call X W (.lit d)) := by
  have go : ∀ {v : V}, PE X (.Constant k j pos) (tC v) → (∀ F, RepF X.K X.w F v d) → PE X (.Constant k j pos) (tE g call X W (.lit d)) := fun {v} p r0 =>
    PE.wk p fun σ H Q ⟨A, H0, F0, ρ, F, ω, r, q⟩ => by
      rw [evalE] at q
      exact RPost.pure q H F (Grow.refl r.fit) r.st v (r0 _)
  cases d <;> cases k <;> try (cases h; done)
  · exact go pe_non fun F => .dat .non
  · have e := eq_of_beq (show (_ == _) = true from h); subst e; exact go pe_bl fun F => .dat (.bl _)
  · have e := eq_of_beq (show (_ == _) = true from h); subst e; exact go pe_int fun F => .dat (.int _)
  · have e := eq_of_beq (show (_ == _) = true from h); subst e; exact go pe_str fun F => .dat (.str _)

/-! two operands -/
theorem two_ok {a b : E} {f : PyData → PyData → Option PyData} {r2 : R2} (hr : ∀ {x y : V} {H F : Hp} {Ex : Addr → Prop} {d1 d2 d3 : PyData} {Q : VK}, Fit F H → RepP X.K X.w Ex F H x d1 → RepP X.K X.w Ex F H y d2 → f d1 d2 = some d3 → (∀ v H' F', Ext H F H' F' → RepF X.K X.w F' v d3 → Q v H') → r2 x y H Q)
    {σ : L2.St} {H : Hp} {Q : VK} (h : ∃ A H0 F0 ρ F ω, Rel g X.K X.w A H0 F0 ρ σ H F ω ∧
      RPost g X.K W σ A H F ((do let x ← evalE g.gt call a ρ; let y ← evalE g.gt call b ρ; M.ofO (f x y)) ω) (fun d _ H' F' => ∀ v, RepF X.K X.w F' v d → Q v H')) :
    tOp r2 (tE g call X W a) (tE g call X W b) σ H Q := by
  obtain ⟨A, H0, F0, ρ, F, ω, r, q⟩ := h
  refine ⟨A, H0, F0, ρ, F, ω, r, (RPost.bind q).imp fun d1 ω1 H1 F1 g1 s1 q1 x rx => ?_⟩
  refine ⟨A, H0, F0, ρ, F1, ω1, r.grow g1 s1, (RPost.bind q1).imp fun d2 ω2 H2 F2 g2 s2 q2 y ry => ?_⟩
  obtain ⟨d3, e3, q3⟩ := RPost.ofO q2
  exact hr g2.fit (rx.p.grow g2) ry.p e3 fun v H' F' e rv => q3 H' F' e.grow (s2.ext e) v rv
theorem bin_ok {o : Bop} {p : Operator} (h : isBin o = some p) : OpR X (binaryOp p) (rB X.K X.w o) := by
  cases o <;> cases h
  · exact or_add
  · exact or_sub
  · exact or_mul
  · exact or_fdiv
  · exact or_mod
  · exact or_pow
theorem cmpR_ok (G : Gd g c call X sc) {o : Bop} {p : CmpOp} (h : isCmp o = some p) : OpR X (compareOp p) (rB X.K X.w o) := by
  have hu := G.hu
  cases o <;> cases h
  · exact or_eq (by omega)
  · exact or_ne (by omega)
  · exact or_lt (by omega)
  · exact or_le (by omega)
  · exact or_gt (by omega)
  · exact or_ge (by omega)
  · exact or_is
  · exact or_isn
  · exact or_in (by omega)
  · exact or_nin (by omega)
theorem bin_rd {o : Bop} {a b : E} {σ : L2.St} {H : Hp} {Q : VK} (h : tE g call X W (.bin o a b) σ H Q) : tOp (rB X.K X.w o) (tE g call X W a) (tE g call X W b) σ H Q := by
  refine two_ok (f := bop o) (fun f r1 r2 e q => ⟨_, _, _, _, _, f, r1, r2, e, q⟩) ?_
  obtain ⟨A, H0, F0, ρ, F, ω, r, q⟩ := h
  rw [evalE] at q
  exact ⟨A, H0, F0, ρ, F, ω, r, q⟩
end
end Wv

set_option autoImplicit false
set_option linter.all false
set_option maxRecDepth 100000
set_option maxHeartbeats 4000000
namespace Wv
open PySem PySem.Spec PyProof.Rows L2
section
variable {g : G} {c : Ck} {call : Nat → List Slot → M PyData} {X : Cx} {sc : Scope} {W : WX} {a b : PySem.Expr} {rest : List PySem.Expr} {pos : Pos}
/-! truth by my own rule -/
theorem pe_andR {ta tb : TE} (ha : PE X a ta) (hb : PE X (.BoolOp .And (b :: rest) pos) tb) : PE X (.BoolOp .And (a :: b :: rest) pos) (fun σ H Q => ta σ H fun x H1 => rT X.K X.w x H1 fun k H2 => if k = true then tb σ H2 Q else Q x H2) := by
  refine ⟨fun pins s σ H Q I h => ?_⟩
  refine BoolOp_and (thn (ha.run pins s σ H _ I h) fun v s1 ⟨x, H1, I1, r1, q1⟩ => ?_)
  refine thn (tr_ok pins s1 σ H1 x v _ I1 r1 q1) fun k s2 ⟨H2, I2, q2⟩ => ?_
  cases k with
  | true => exact hb.run pins s2 σ H2 Q I2 q2
  | false => exact ⟨x, H2, I2, r1, q2⟩
theorem pe_orR {ta tb : TE} (ha : PE X a ta) (hb : PE X (.BoolOp .Or (b :: rest) pos) tb) : PE X (.BoolOp .Or (a :: b :: rest) pos) (fun σ H Q => ta σ H fun x H1 => rT X.K X.w x H1 fun k H2 => if k = true then Q x H2 else tb σ H2 Q) := by
  refine ⟨fun pins s σ H Q I h => ?_⟩
  refine BoolOp_or (thn (ha.run pins s σ H _ I h) fun v s1 ⟨x, H1, I1, r1, q1⟩ => ?_)
  refine thn (tr_ok pins s1 σ H1 x v _ I1 r1 q1) fun k s2 ⟨H2, I2, q2⟩ => ?_
  cases k with
  | false => exact hb.run pins s2 σ H2 Q I2 q2
  | true => exact ⟨x, H2, I2, r1, q2⟩
theorem pe_notR {ta : TE} (ha : PE X a ta) : PE X (.UnaryOp .Not a pos) (fun σ H Q => ta σ H fun x H1 => rT X.K X.w x H1 fun k H2 => Q (.bl (!k)) H2) := by
  refine ⟨fun pins s σ H Q I h => ?_⟩
  refine UnaryOp_ (thn (ha.run pins s σ H _ I h) fun v s1 ⟨x, H1, I1, r1, q1⟩ => ?_)
  exact not_of (thn (tr_ok pins s1 σ H1 x v _ I1 r1 q1) fun k s2 ⟨H2, I2, q2⟩ => ⟨.bl (!k), H2, I2, rfl, q2⟩)
theorem pt_plain {ta : TE} (ha : PE X a ta) (hp : plainT a = true) : PT X a (fun σ H Q => ta σ H fun x H1 => rT X.K X.w x H1 Q) := by
  refine ⟨fun pins s σ H Q I h => ?_⟩
  refine isTrue_plain (thn (ha.run pins s σ H _ I h) fun v s1 ⟨x, H1, I1, r1, q1⟩ => tr_ok pins s1 σ H1 x v Q I1 r1 q1) ?_
  cases a with
  | UnaryOp o x p => cases o <;> first | rfl | cases hp
  | BoolOp => cases hp
  | IfExp => cases hp
  | Compare => cases hp
  | _ => rfl

/-! truth of what the plain text says -/
theorem rt_of {A : Option Addr} {H F : Hp} {x : V} {d : PyData} {ω : Orc} {σ : L2.St} {β : Type} {f : Bool → M β} {ok : β → Orc → Hp → Hp → Prop} {Q : Bool → Hp → Prop} (fi : Fit F H) (st : StOk g A H F ω) (r : RepP X.K X.w (ExA g A) F H x d)
    (h : RPost g X.K W σ A H F ((M.ofO (tru d) >>= f) ω) ok) (q : ∀ k, RPost g X.K W σ A H F (f k ω) ok → Q k H) : rT X.K X.w x H Q := by
  cases e : tru d with
  | none => rw [e] at h; exact h.elim
  | some k => rw [e] at h; exact ⟨_, F, d, k, fi, r, e, q k h⟩
theorem not_rd {e : E} {σ : L2.St} {H : Hp} {Q : VK} (h : tE g call X W (.not_ e) σ H Q) : tE g call X W e σ H fun x H1 => rT X.K X.w x H1 fun k H2 => Q (.bl (!k)) H2 := by
  obtain ⟨A, H0, F0, ρ, F, ω, r, q⟩ := h
  rw [evalE] at q
  refine ⟨A, H0, F0, ρ, F, ω, r, (RPost.bind q).imp fun d ω1 H1 F1 g1 s1 q1 x rx => ?_⟩
  refine rt_of g1.fit s1 rx.p q1 fun k q2 => ?_
  exact q2 H1 F1 (Grow.refl g1.fit) s1 _ (.dat (.bl _))
theorem notT_rd {e : E} {σ : L2.St} {H : Hp} {Q : Bool → Hp → Prop} (h : tT g call X W (.not_ e) σ H Q) : tT g call X W e σ H fun k H1 => Q (!k) H1 := by
  obtain ⟨A, H0, F0, ρ, F, ω, r, q⟩ := h
  rw [evalE, M.bnd_assoc] at q
  refine ⟨A, H0, F0, ρ, F, ω, r, ?_⟩
  have : (evalE g.gt call e ρ >>= fun x => (M.ofO (tru x) >>= fun b => pure (.bool (!b))) >>= fun d => M.ofO (tru d)) = (evalE g.gt call e ρ >>= fun x => M.ofO (tru x)) >>= fun b => pure (!b) := by
    rw [M.bnd_assoc]
    congr 1
    funext x
    rw [M.bnd_assoc]
    rfl
  rw [this] at q
  exact (RPost.bind q).imp fun k ω1 H1 F1 g1 s1 q1 => q1 H1 F1 (Grow.refl g1.fit) s1
theorem plainT_rd {e : E} {σ : L2.St} {H : Hp} {Q : Bool → Hp → Prop} (h : tT g call X W e σ H Q) : tE g call X W e σ H fun x H1 => rT X.K X.w x H1 Q := by
  obtain ⟨A, H0, F0, ρ, F, ω, r, q⟩ := h
  refine ⟨A, H0, F0, ρ, F, ω, r, (RPost.bind q).imp fun d ω1 H1 F1 g1 s1 q1 x rx => ?_⟩
  refine rt_of (f := fun k => pure k) (ok := fun b _ H' F' => Q b H') g1.fit s1 rx.p (by rw [M.bnd_pure]; exact q1) fun k q2 => q2 H1 F1 (Grow.refl g1.fit) s1
theorem cmp_bool {o : Bop} {p : CmpOp} (h : isCmp o = some p) {d1 d2 d3 : PyData} (e : bop o d1 d2 = some d3) : ∃ b, d3 = .bool b := by
  have gg : ∀ {x : Bool} {b : Bool}, gO x (some (PyData.bool b)) = some d3 → ∃ b, d3 = .bool b := fun {x b} e => by
    obtain ⟨_, e⟩ := gO_some e
    cases e
    exact ⟨_, rfl⟩
  have gb : ∀ {x : Option Bool} {f : Bool → Bool}, (x.bind fun b => some (PyData.bool (f b))) = some d3 → ∃ b, d3 = .bool b := fun {x f} e => by
    obtain ⟨b, _, e⟩ := Option.bind_eq_some_iff.mp e
    cases e
    exact ⟨_, rfl⟩
  cases o <;> cases h
  · exact gg (x := shp d1 && shp d2) (b := PyData.eqv d1 d2) (by cases d1 <;> exact e)
  · exact gg (x := shp d1 && shp d2) (b := !PyData.eqv d1 d2) (by cases d1 <;> exact e)
  · exact gg (x := cmpOk d1 d2) (b := W.dataLt d1 d2) (by cases d1 <;> exact e)
  · exact gg (x := cmpOk d1 d2) (b := !W.dataLt d2 d1) (by cases d1 <;> exact e)
  · exact gg (x := cmpOk d1 d2) (b := W.dataLt d2 d1) (by cases d1 <;> exact e)
  · exact gg (x := cmpOk d1 d2) (b := !W.dataLt d1 d2) (by cases d1 <;> exact e)
  · exact gb (x := isD d1 d2) (f := id) (by cases d1 <;> exact e)
  · exact gb (x := isD d1 d2) (f := not) (by cases d1 <;> exact e)
  · exact gb (x := inD d1 d2) (f := id) (by cases d1 <;> exact e)
  · exact gb (x := inD d1 d2) (f := not) (by cases d1 <;> exact e)
theorem cmpT_rd {o : Bop} {p : CmpOp} (ho : isCmp o = some p) {e1 e2 : E} {σ : L2.St} {H : Hp} {Q : Bool → Hp → Prop} (h : tT g call X W (.bin o e1 e2) σ H Q) :
    tTest (tOp (rB X.K X.w o) (tE g call X W e1) (tE g call X W e2)) σ H Q := by
  obtain ⟨A, H0, F0, ρ, F, ω, r, q⟩ := h
  rw [evalE, M.bnd_assoc] at q
  refine ⟨A, H0, F0, ρ, F, ω, r, (RPost.bind q).imp fun d1 ω1 H1 F1 g1 s1 q1 x rx => ?_⟩
  rw [M.bnd_assoc] at q1
  refine ⟨A, H0, F0, ρ, F1, ω1, r.grow g1 s1, (RPost.bind q1).imp fun d2 ω2 H2 F2 g2 s2 q2 y ry => ?_⟩
  cases e3 : bop o d1 d2 with
  | none => rw [e3] at q2; exact q2.elim
  | some d3 =>
    rw [e3] at q2
    obtain ⟨b, rfl⟩ := cmp_bool ho e3
    refine ⟨_, F2, d1, d2, _, g2.fit, rx.p.grow g2, ry.p, e3, fun v H' F' e rv => ⟨b, ?_, q2 H' F' e.grow (s2.ext e)⟩⟩
    exact (RepP.frz (Ex := fun _ => False) (H := H') rv).bool
theorem neg_rd {e : E} {σ : L2.St} {H : Hp} {Q : VK} (h : tE g call X W (.neg e) σ H Q) : tUn (rU fun i => .int (-i)) (tE g call X W e) σ H Q := by
  obtain ⟨A, H0, F0, ρ, F, ω, r, q⟩ := h
  rw [evalE] at q
  refine ⟨A, H0, F0, ρ, F, ω, r, (RPost.bind q).imp fun d ω1 H1 F1 g1 s1 q1 x rx => ?_⟩
  cases d with
  | int i =>
    rw [rx.p.int]
    exact ⟨i, rfl, q1 H1 F1 (Grow.refl g1.fit) s1 _ (.dat (.int _))⟩
  | _ => exact q1.elim
/-! displays -/
theorem el_dq {ds : List PyData} {F : Hp} : ∀ {vs : List V}, Paired (RepF X.K X.w F) vs ds → ds.all okEl = true → DqAll X.K F vs ds := fun {vs} h e => by
  induction h with
  | nil => exact .nil
  | cons h1 h2 ih =>
    rw [List.all_cons, Bool.and_eq_true] at e
    refine .cons ?_ (ih e.2)
    cases h1 with
    | dat h => exact h
    | dic h => cases e.1
theorem paired_len {α β : Type} {R : α → β → Prop} {xs : List α} {ys : List β} (h : Paired R xs ys) : xs.length = ys.length := Paired.length h
def lenEs : Es → Nat
  | .nil => 0
  | .cons _ es => lenEs es + 1
theorem evalEs_len : ∀ (es : Es) (ρ : Env) (ω ω' : Orc) (ds : List PyData), evalEs g.gt call es ρ ω = .ok ds ω' → ds.length = lenEs es
  | .nil, ρ, ω, ω', ds, h => by
    rw [evalEs] at h
    cases h; rfl
  | .cons e es, ρ, ω, ω', ds, h => by
    rw [evalEs] at h
    have h : M.bnd (evalE g.gt call e ρ) (fun x => M.bnd (evalEs g.gt call es ρ) fun xs => M.ret (x :: xs)) ω = .ok ds ω' := h
    unfold M.bnd at h
    cases e1 : evalE g.gt call e ρ ω with
    | ok x w1 =>
      rw [e1] at h
      simp only at h
      cases e2 : evalEs g.gt call es ρ w1 with
      | ok xs w2 =>
        rw [e2] at h
        cases h
        rw [List.length_cons, evalEs_len es ρ _ _ xs e2]; rfl
      | exc => rw [e2] at h; cases h
      | stuck => rw [e2] at h; cases h
    | exc => rw [e1] at h; cases h
    | stuck => rw [e1] at h; cases h
/-- what was given, with the result at hand -/
theorem RPost.with {α : Type} {σ : L2.St} {A : Option Addr} {H F : Hp} {r : R α} {ok ok' : α → Orc → Hp → Hp → Prop} (h : RPost g X.K W σ A H F r ok) (q : ∀ a ω' H' F', r = .ok a ω' → Grow (ExA g A) H F H' F' → StOk g A H' F' ω' → ok a ω' H' F' → ok' a ω' H' F') : RPost g X.K W σ A H F r ok' := by
  cases r with
  | ok a ω => exact fun H' F' g2 st => q a ω H' F' rfl g2 st (h H' F' g2 st)
  | exc c p ω => exact h
  | stuck => exact h
theorem tup_rd {es : Es} (hn : lenEs es ≤ sizeLine) {σ : L2.St} {H : Hp} {Q : VK} (h : tE g call X W (.tup es) σ H Q) : tTup (tEs g call X W es) σ H Q := by
  obtain ⟨A, H0, F0, ρ, F, ω, r, q⟩ := h
  rw [evalE] at q
  refine ⟨A, H0, F0, ρ, F, ω, r, (RPost.bind q).with fun ds ω1 H1 F1 e g1 s1 q1 vs hv => ?_⟩
  obtain ⟨hc, q1⟩ := RPost.guard q1
  refine ⟨by rw [paired_len hv, evalEs_len _ _ _ _ _ e]; exact hn, fun p np => ?_⟩
  exact q_tup (K := X.K) (w := X.w) g1.fit (el_dq hv hc) (fun v H' F' ex rv => q1 H' F' ex.grow (s1.ext ex) v rv) p np
end
end Wv

set_option autoImplicit false
set_option linter.all false
set_option maxRecDepth 100000
set_option maxHeartbeats 4000000
namespace Wv
open PySem PySem.Spec PyProof.Rows L2
section
variable {g : G} {c : Ck} {call : Nat → List Slot → M PyData} {X : Cx} {sc : Scope} {W : WX} {a b : PySem.Expr} {rest : List PySem.Expr} {pos : Pos}
theorem lst_rd {es : Es} (hn : lenEs es ≤ sizeLine) {σ : L2.St} {H : Hp} {Q : VK} (h : tE g call X W (.lst es) σ H Q) : tLst (tEs g call X W es) σ H Q := by
  obtain ⟨A, H0, F0, ρ, F, ω, r, q⟩ := h
  rw [evalE] at q
  refine ⟨A, H0, F0, ρ, F, ω, r, (RPost.bind q).with fun ds ω1 H1 F1 e g1 s1 q1 vs hv => ?_⟩
  obtain ⟨hc, q1⟩ := RPost.guard q1
  refine ⟨by rw [paired_len hv, evalEs_len _ _ _ _ _ e]; exact hn, fun p np => ?_⟩
  exact q_lst (K := X.K) (w := X.w) g1.fit (el_dq hv hc) (fun v H' F' ex rv => q1 H' F' ex.grow (s1.ext ex) v rv) p np
theorem nil_rd {σ : L2.St} {H : Hp} {Q : List V → Hp → Prop} (h : tEs g call X W .nil σ H Q) : tNil σ H Q := by
  obtain ⟨A, H0, F0, ρ, F, ω, r, q⟩ := h
  rw [evalEs] at q
  exact q H F (Grow.refl r.fit) r.st [] .nil
theorem cons_rd {e : E} {es : Es} (hp : isPk e = false) {σ : L2.St} {H : Hp} {Q : List V → Hp → Prop} (h : tEs g call X W (.cons e es) σ H Q) : tCons (tE g call X W e) (tEs g call X W es) σ H Q := by
  obtain ⟨A, H0, F0, ρ, F, ω, r, q⟩ := h
  rw [evalEs] at q
  refine ⟨A, H0, F0, ρ, F, ω, r, (RPost.bind q).imp fun d ω1 H1 F1 g1 s1 q1 x rx => ?_⟩
  rw [hp] at rx
  refine ⟨A, H0, F0, ρ, F1, ω1, r.grow g1 s1, (RPost.bind q1).imp fun ds ω2 H2 F2 g2 s2 q2 xs rxs => ?_⟩
  exact q2 H2 F2 (Grow.refl g2.fit) s2 _ (.cons (RepF.mono g2.fs rx) rxs)
/-! a if t else b -/
theorem ite_rd {t a b : E} (ha : isPk a = false) (hb : isPk b = false) {σ : L2.St} {H : Hp} {Q : VK} (h : tE g call X W (.ite t a b) σ H Q) : tIf (tT g call X W t) (tE g call X W a) (tE g call X W b) σ H Q := by
  obtain ⟨A, H0, F0, ρ, F, ω, r, q⟩ := h
  rw [evalE] at q
  have : (evalE g.gt call t ρ >>= fun x => M.ofO (tru x) >>= fun k => if k = true then evalE g.gt call a ρ else evalE g.gt call b ρ) = (evalE g.gt call t ρ >>= fun x => M.ofO (tru x)) >>= fun k => if k = true then evalE g.gt call a ρ else evalE g.gt call b ρ := by
    rw [M.bnd_assoc]
  rw [this] at q
  refine ⟨A, H0, F0, ρ, F, ω, r, (RPost.bind q).imp fun k ω1 H1 F1 g1 s1 q1 => ?_⟩
  cases k with
  | true =>
    rw [if_pos rfl] at q1 ⊢
    exact ⟨A, H0, F0, ρ, F1, ω1, r.grow g1 s1, q1.imp fun d _ H' F' _ _ q v hv => q v (by rw [ha] at hv; exact hv)⟩
  | false =>
    rw [if_neg Bool.false_ne_true] at q1 ⊢
    exact ⟨A, H0, F0, ρ, F1, ω1, r.grow g1 s1, q1.imp fun d _ H' F' _ _ q v hv => q v (by rw [hb] at hv; exact hv)⟩
/-! and, or -/
def tBv (g : G) (call : Nat → List Slot → M PyData) (X : Cx) (W : WX) (k : Bool) (es : Es) : TE := fun σ H Q => ∃ A H0 F0 ρ F ω, Rel g X.K X.w A H0 F0 ρ σ H F ω ∧
  RPost g X.K W σ A H F (evalB g.gt call k es ρ ω) (fun d _ H' F' => ∀ v, RepF X.K X.w F' v d → Q v H')
theorem b1_rd {k : Bool} {e : E} (hp : isPk e = false) {σ : L2.St} {H : Hp} {Q : VK} (h : tBv g call X W k (.cons e .nil) σ H Q) : tE g call X W e σ H Q := by
  obtain ⟨A, H0, F0, ρ, F, ω, r, q⟩ := h
  rw [evalB] at q
  refine ⟨A, H0, F0, ρ, F, ω, r, (RPost.bind q).imp fun d ω1 H1 F1 g1 s1 q1 x rx => ?_⟩
  rw [hp] at rx
  exact q1 H1 F1 (Grow.refl g1.fit) s1 x rx
theorem b2_rd {k : Bool} {e e2 : E} {es : Es} (hp : isPk e = false) {σ : L2.St} {H : Hp} {Q : VK} (h : tBv g call X W k (.cons e (.cons e2 es)) σ H Q) :
    tE g call X W e σ H fun x H1 => rT X.K X.w x H1 fun t H2 => if t = k then tBv g call X W k (.cons e2 es) σ H2 Q else Q x H2 := by
  obtain ⟨A, H0, F0, ρ, F, ω, r, q⟩ := h
  rw [evalB] at q
  refine ⟨A, H0, F0, ρ, F, ω, r, (RPost.bind q).imp fun d ω1 H1 F1 g1 s1 q1 x rx => ?_⟩
  rw [hp] at rx
  refine rt_of g1.fit s1 (.frz rx) q1 fun t q2 => ?_
  by_cases e : t = k
  · rw [if_pos e] at q2 ⊢
    exact ⟨A, H0, F0, ρ, F1, ω1, r.grow g1 s1, q2⟩
  · rw [if_neg e] at q2 ⊢
    exact q2 H1 F1 (Grow.refl g1.fit) s1 x rx
theorem bo_rd {k : Bool} {es : Es} {σ : L2.St} {H : Hp} {Q : VK} (h : tE g call X W (.bo k es) σ H Q) : tBv g call X W k es σ H Q := by
  obtain ⟨A, H0, F0, ρ, F, ω, r, q⟩ := h
  rw [evalE] at q
  exact ⟨A, H0, F0, ρ, F, ω, r, q⟩
/-- .. as tests -/
def tBt (g : G) (call : Nat → List Slot → M PyData) (X : Cx) (W : WX) (k : Bool) (es : Es) : TT := fun σ H Q => ∃ A H0 F0 ρ F ω, Rel g X.K X.w A H0 F0 ρ σ H F ω ∧
  RPost g X.K W σ A H F ((evalB g.gt call k es ρ >>= fun d => M.ofO (tru d)) ω) (fun b _ H' F' => Q b H')
theorem boT_rd {k : Bool} {es : Es} {σ : L2.St} {H : Hp} {Q : Bool → Hp → Prop} (h : tT g call X W (.bo k es) σ H Q) : tBt g call X W k es σ H Q := by
  obtain ⟨A, H0, F0, ρ, F, ω, r, q⟩ := h
  rw [evalE] at q
  exact ⟨A, H0, F0, ρ, F, ω, r, q⟩
theorem b1T_rd {k : Bool} {e : E} {σ : L2.St} {H : Hp} {Q : Bool → Hp → Prop} (h : tBt g call X W k (.cons e .nil) σ H Q) : tT g call X W e σ H Q := by
  obtain ⟨A, H0, F0, ρ, F, ω, r, q⟩ := h
  rw [evalB] at q
  have : (evalE g.gt call e ρ >>= fun x => (Pure.pure x : M PyData)) = evalE g.gt call e ρ := M.bnd_pure _
  rw [this] at q
  exact ⟨A, H0, F0, ρ, F, ω, r, q⟩
theorem b2T_rd {k : Bool} {e e2 : E} {es : Es} {σ : L2.St} {H : Hp} {Q : Bool → Hp → Prop} (h : tBt g call X W k (.cons e (.cons e2 es)) σ H Q) :
    tT g call X W e σ H fun t H1 => if t = k then tBt g call X W k (.cons e2 es) σ H1 Q else Q (!k) H1 := by
  obtain ⟨A, H0, F0, ρ, F, ω, r, q⟩ := h
  rw [evalB] at q
  have : ((evalE g.gt call e ρ >>= fun x => M.ofO (tru x) >>= fun t => if t = k then evalB g.gt call k (.cons e2 es) ρ else pure x) >>= fun d => M.ofO (tru d)) =
      (evalE g.gt call e ρ >>= fun x => M.ofO (tru x)) >>= fun t => if t = k then (evalB g.gt call k (.cons e2 es) ρ >>= fun d => M.ofO (tru d)) else pure t := by
    rw [M.bnd_assoc, M.bnd_assoc]
    congr 1
    funext x
    cases ex : tru x with
    | none => rfl
    | some t =>
      show (if t = k then evalB g.gt call k (.cons e2 es) ρ else pure x) >>= (fun d => M.ofO (tru d)) = (if t = k then (evalB g.gt call k (.cons e2 es) ρ >>= fun d => M.ofO (tru d)) else pure t)
      by_cases et : t = k
      · rw [if_pos et, if_pos et]
      · rw [if_neg et, if_neg et]
        show M.ofO (tru x) = _
        rw [ex]; rfl
  rw [this] at q
  refine ⟨A, H0, F0, ρ, F, ω, r, (RPost.bind q).imp fun t ω1 H1 F1 g1 s1 q1 => ?_⟩
  by_cases e : t = k
  · rw [if_pos e] at q1 ⊢
    exact ⟨A, H0, F0, ρ, F1, ω1, r.grow g1 s1, q1⟩
  · rw [if_neg e] at q1 ⊢
    have : (!k) = t := by cases t <;> cases k <;> first | rfl | exact absurd rfl e
    rw [this]
    exact q1 H1 F1 (Grow.refl g1.fit) s1
/-! a def's call -/
def tAs (g : G) (call : Nat → List Slot → M PyData) (X : Cx) (W : WX) (es : Es) : TA := fun σ H Q => ∃ A H0 F0 ρ F ω, Rel g X.K X.w A H0 F0 ρ σ H F ω ∧
  RPost g X.K W σ A H F (evalAs g.gt call es ρ ω) (fun as _ H' F' => ∀ vs, Paired (ArgRel g X.K X.w A F') vs as → Q vs H')
theorem call_rd {f : Nat} {es : Es} {σ : L2.St} {H : Hp} {Q : VK} (h : tE g call X W (.call f false es) σ H Q) : tCallS (spF g X.K X.w call f) (WE W) (tAs g call X W es) σ H Q := by
  obtain ⟨A, H0, F0, ρ, F, ω, r, q⟩ := h
  rw [evalE] at q
  refine ⟨A, H0, F0, ρ, F, ω, r, (RPost.bind q).imp fun as ω1 H1 F1 g1 s1 q1 vs rv => ?_⟩
  refine ⟨A, F1, ω1, as, g1.fit, s1, rv, ?_⟩
  have q2 := RPost.bind q1
  cases e : call f as ω1 with
  | ok d ω2 =>
    rw [e] at q2
    exact fun H' F' g2 s2 => (RPost.guard (q2 H' F' g2 s2)).2 H' F' (Grow.refl g2.fit) s2
  | exc k p ω2 => rw [e] at q2; exact q2
  | stuck => rw [e] at q2; exact q2.elim
end
end Wv

set_option autoImplicit false
set_option linter.all false
set_option maxRecDepth 100000
set_option maxHeartbeats 4000000
namespace Wv
open PySem PySem.Spec PyProof.Rows L2
section
variable {g : G} {c : Ck} {call : Nat → List Slot → M PyData} {X : Cx} {sc : Scope} {W : WX} {K : PySem.W.Frag} {w : World} {F H : Hp} {Q : VK} {Ex : Addr → Prop}
theorem star_of {e : PySem.Expr} {es : List PySem.Expr} {env : PySem.Env} (h : noStar e = true) : starEach (e :: es) env = (false, eval e env) :: starEach es env := by
  cases e <;> first | rfl | cases h
theorem plainIx_of {e : PySem.Expr} (h : noSlice e = true) : PlainIx e := by
  intro o i
  cases e <;> first | rfl | cases h
/-! a[b] -/
def rIxD (K : PySem.W.Frag) (w : World) : R2 := fun x y H Q => ∃ Ex F d1 d2 d3, Fit F H ∧ RepP K w Ex F H x d1 ∧ RepP K w Ex F H y d2 ∧ ixD d1 d2 = some d3 ∧ ∀ v H' F', Ext H F H' F' → RepF K w F' v d3 → Q v H'
theorem atI_map {α : Type} {vs : List V} {ds : List PyData} {i : Int} {d : PyData} (h : DqAll K F vs ds) (e : atI ds i = some d) : ∃ v, atI vs i = some v ∧ Dq K F v d := by
  unfold atI at e ⊢
  rw [dpa_len h]
  obtain ⟨j, h1, h2⟩ := Option.bind_eq_some_iff.mp e
  obtain ⟨v, h3, h4⟩ := dpa_get h h2
  exact ⟨v, by rw [h1]; exact h3, h4⟩
theorem ixr_ok (hu : X.A.units + 100 < cLine) : IxR X (rIxD X.K X.w) := by
  intro value slice pins s σ H x y v u Q I rx ry ⟨Ex, F, d1, d2, d3, f, r1, r2, hb, q⟩ hs
  cases d1 with
  | list ds =>
    cases d2 with
    | int i =>
      obtain ⟨a, vs, rfl, h1, h2⟩ := r1.list f
      obtain ⟨z, e1, e2⟩ := atI_map (α := Unit) h2 hb
      exact ix_list value slice pins s σ H _ _ v u Q I rx ry ⟨a, vs, i, z, rfl, r2.int, .inl (.inl h1), e1, q z H F (Ext.refl f) (.dat e2)⟩ hs
    | _ => cases hb
  | tuple ds =>
    cases d2 with
    | int i =>
      obtain ⟨a, vs, rfl, h1, h2⟩ := r1.tuple
      obtain ⟨z, e1, e2⟩ := atI_map (α := Unit) h2 hb
      exact ix_tup value slice pins s σ H _ _ v u Q I rx ry ⟨a, vs, i, z, rfl, r2.int, sqT_mono f h1, e1, q z H F (Ext.refl f) (.dat e2)⟩ hs
    | _ => cases hb
  | str z =>
    cases d2 with
    | int i =>
      obtain ⟨hl, hb⟩ := gO_some hb
      obtain ⟨k, e1, rfl⟩ := Option.map_eq_some_iff.mp hb
      exact ix_str value slice pins s σ H _ _ v u Q I rx ry ⟨z, i, k, r1.str, r2.int, of_decide_eq_true hl, e1, q_str f q⟩ hs
    | _ => cases hb
  | dict kvs => exact absurd (gO_some (show gO later (gO (shp d2) (dfind kvs d2)) = some d3 by cases d2 <;> exact hb)).1 (by decide)
  | _ => cases d2 <;> cases hb
theorem ix_rd {a b : E} {σ : L2.St} {H : Hp} {Q : VK} (h : tE g call X W (.ix a b) σ H Q) : tOp (rIxD X.K X.w) (tE g call X W a) (tE g call X W b) σ H Q := by
  refine two_ok (f := ixD) (fun f r1 r2 e q => ⟨_, _, _, _, _, f, r1, r2, e, q⟩) ?_
  obtain ⟨A, H0, F0, ρ, F, ω, r, q⟩ := h
  rw [evalE] at q
  exact ⟨A, H0, F0, ρ, F, ω, r, q⟩
/-! one operand -/
def rP1r (K : PySem.W.Frag) (w : World) (f : PyData → Option PyData) : List V → Hp → VK → Prop := fun xs H Q => ∃ Ex F x d d', xs = [x] ∧ Fit F H ∧ RepP K w Ex F H x d ∧ f d = some d' ∧ ∀ v H' F', Ext H F H' F' → RepF K w F' v d' → Q v H'
theorem b1_rdP {p : P1} {a : E} {σ : L2.St} {H : Hp} {Q : VK} (h : tE g call X W (.b1 p a) σ H Q) : tCB (rP1 X.K X.w p) (tCons (tE g call X W a) tNil) σ H Q := by
  obtain ⟨A, H0, F0, ρ, F, ω, r, q⟩ := h
  rw [evalE] at q
  refine ⟨A, H0, F0, ρ, F, ω, r, (RPost.bind q).imp fun d ω1 H1 F1 g1 s1 q1 x rx => ?_⟩
  obtain ⟨d', e, q2⟩ := RPost.ofO q1
  exact ⟨_, F1, x, d, d', rfl, g1.fit, rx.p, e, fun v H' F' ex rv => q2 H' F' ex.grow (s1.ext ex) v rv⟩
end
end Wv

set_option autoImplicit false
set_option linter.all false
set_option maxRecDepth 100000
set_option maxHeartbeats 4000000
namespace Wv
open PySem PySem.Spec PyProof.Rows L2
section
variable {g : G} {c : Ck} {call : Nat → List Slot → M PyData} {X : Cx} {sc : Scope} {W : WX} {K : PySem.W.Frag} {w : World} {F F' H : Hp} {Q : VK} {A : Option Addr}
/-! arguments -/
theorem ArgRel.mono {v : V} {s : Slot} (sm : Same F F') (h : ArgRel g K w A F v s) : ArgRel g K w A F' v s := by
  cases s with
  | v o d => cases o with
    | false => exact RepF.mono sm h
    | true => exact h
  | _ => exact h
abbrev argM (gt : Nat → Option PyData) (call : Nat → List Slot → M PyData) (e : E) (ρ : Env) : M Slot := argS e ρ (evalE gt call e ρ)
theorem evalAs_cons {gt : Nat → Option PyData} {e : E} {es : Es} {ρ : Env} : evalAs gt call (.cons e es) ρ = (do let x ← argM gt call e ρ; let xs ← evalAs gt call es ρ; pure (x :: xs)) := by
  rw [evalAs]
def tArg (g : G) (call : Nat → List Slot → M PyData) (X : Cx) (W : WX) (e : E) : TE := fun σ H Q => ∃ A H0 F0 ρ F ω, Rel g X.K X.w A H0 F0 ρ σ H F ω ∧
  RPost g X.K W σ A H F (argM g.gt call e ρ ω) (fun s _ H' F' => ∀ v, ArgRel g X.K X.w A F' v s → Q v H')
theorem asnil_rd {σ : L2.St} {H : Hp} {Q : List V → Hp → Prop} (h : tAs g call X W .nil σ H Q) : tNil σ H Q := by
  obtain ⟨A, H0, F0, ρ, F, ω, r, q⟩ := h
  rw [evalAs] at q
  exact q H F (Grow.refl r.fit) r.st [] .nil
theorem ascons_rd {e : E} {es : Es} {σ : L2.St} {H : Hp} {Q : List V → Hp → Prop} (h : tAs g call X W (.cons e es) σ H Q) : tCons (tArg g call X W e) (tAs g call X W es) σ H Q := by
  obtain ⟨A, H0, F0, ρ, F, ω, r, q⟩ := h
  rw [evalAs_cons] at q
  refine ⟨A, H0, F0, ρ, F, ω, r, (RPost.bind q).imp fun s ω1 H1 F1 g1 s1 q1 x rx => ?_⟩
  refine ⟨A, H0, F0, ρ, F1, ω1, r.grow g1 s1, (RPost.bind q1).imp fun ds ω2 H2 F2 g2 s2 q2 xs rxs => ?_⟩
  exact q2 H2 F2 (Grow.refl g2.fit) s2 _ (.cons (ArgRel.mono g2.fs rx) rxs)
def argGen : E → Bool
  | .gfn _ => false
  | .var _ => false
  | .pk _ => false
  | _ => true
theorem arg_gen {e : E} (he : argGen e = true) {σ : L2.St} {H : Hp} {Q : VK} (h : tArg g call X W e σ H Q) : tE g call X W e σ H Q := by
  obtain ⟨A, H0, F0, ρ, F, ω, r, q⟩ := h
  have hp : isPk e = false := by cases e <;> first | rfl | cases he
  have e1 : argM g.gt call e ρ = (do pure (Slot.v false (← evalE g.gt call e ρ))) := by cases e <;> first | rfl | cases he
  rw [e1] at q
  refine ⟨A, H0, F0, ρ, F, ω, r, (RPost.bind q).imp fun d ω1 H1 F1 g1 s1 q1 x rx => ?_⟩
  rw [hp] at rx
  exact q1 H1 F1 (Grow.refl g1.fit) s1 x rx
theorem arg_var {i : Nat} {σ : L2.St} {H : Hp} {Q : VK} (h : tArg g call X W (.var i) σ H Q) : tVar i σ H Q := by
  obtain ⟨A, H0, F0, ρ, F, ω, r, q⟩ := h
  have q : RPost g X.K W σ A H F ((match ρ[i]? with
    | some (.v false d) => (pure (Slot.v false d) : M Slot)
    | some (.f k) => pure (.f k)
    | some .s => pure .s
    | _ => M.stuck) ω) (fun s _ H' F' => ∀ v, ArgRel g X.K X.w A F' v s → Q v H') := q
  cases e : ρ[i]? with
  | none => rw [e] at q; exact q.elim
  | some s =>
    rw [e] at q
    have r1 := r.sl i s e
    cases s with
    | v o d =>
      cases o with
      | false =>
        obtain ⟨v, h1, h2⟩ := r1
        exact ⟨v, h1, q H F (Grow.refl r.fit) r.st v h2⟩
      | true => exact q.elim
    | f k => exact ⟨_, r1, q H F (Grow.refl r.fit) r.st _ rfl⟩
    | s =>
      obtain ⟨a, h1, h2⟩ := r1
      exact ⟨_, h2, q H F (Grow.refl r.fit) r.st _ ⟨a, h1, rfl⟩⟩
    | _ => exact q.elim
theorem arg_gfn {f : Nat} {σ : L2.St} {H : Hp} {Q : VK} (h : tArg g call X W (.gfn f) σ H Q) : tC (.ref (g.fa f)) σ H Q := by
  obtain ⟨A, H0, F0, ρ, F, ω, r, q⟩ := h
  exact q H F (Grow.refl r.fit) r.st _ rfl
/-! the draw -/
def tDrawA (g : G) (call : Nat → List Slot → M PyData) (X : Cx) (W : WX) (i : Nat) (e : E) : TA := tCons (tVar i) (tCons (tE g call X W e) tNil)
theorem draw_rd {i : Nat} {e : E} {E0 : L2.St → XK} (hp : isPk e = false) {σ : L2.St} {H : Hp} {Q : VK} (h : tE g call X W (.draw i e) σ H Q) : tCallS (spD g) E0 (tDrawA g call X W i e) σ H Q := by
  obtain ⟨A, H0, F0, ρ, F, ω, r, q⟩ := h
  rw [evalE] at q
  cases es : ρ[i]? with
  | none => rw [es] at q; exact q.elim
  | some s =>
    rw [es] at q
    cases s with
    | s =>
      obtain ⟨a, ha, h2⟩ := r.sl i _ es
      refine ⟨_, h2, A, H0, F0, ρ, F, ω, r, (RPost.bind q).imp fun d ω1 H1 F1 g1 s1 q1 x rx => ?_⟩
      rw [hp] at rx
      cases d with
      | int n =>
        have q1 : RPost g X.K W σ A H1 F1 ((draw n >>= fun k => pure (PyData.int k)) ω1) (fun d _ H' F' => ∀ v, RepR X.K X.w (ExA g A) false F' H' v d → Q v H') := q1
        by_cases hn : 0 < n ∧ n < 2 ^ 64
        · have ee : (draw n >>= fun k => (pure (PyData.int k) : M PyData)) ω1 = R.ok (PyData.int (drawFn ω1 n).1) (drawFn ω1 n).2 := by
            show M.bnd (draw n) _ ω1 = _
            unfold M.bnd draw
            rw [if_pos hn]; rfl
          rw [ee] at q1
          subst ha
          have hx : x = .int n := (RepP.frz (Ex := fun _ => False) (H := H1) rx).int
          refine ⟨a, F1, ω1, n, by rw [hx], g1.fit, s1, hn.1, hn.2, fun H' F' g2 s2 => q1 H' F' g2 s2 _ (.dat (.int _))⟩
        · exfalso
          have ee : (draw n >>= fun k => (pure (PyData.int k) : M PyData)) ω1 = R.stuck := by
            show M.bnd (draw n) _ ω1 = _
            unfold M.bnd draw
            rw [if_neg hn]
          rw [ee] at q1
          exact q1
      | _ => exact q1.elim
    | _ => exact q.elim
/-! the state's own places -/
theorem fun_bnd {α β : Type} {f : Orc → R α} {k : α → M β} {ω : Orc} : ((f : M α) >>= k) ω = (match f ω with | .ok a w' => k a w' | .exc c p w' => .exc c p w' | .stuck => .stuck) := rfl
theorem sget_rd {i k : Nat} {σ : L2.St} {H : Hp} {Q : VK} (h : tE g call X W (.sget i k) σ H Q) : tOp (rIxL X.K) (tVar i) (tC (.int (k : Nat))) σ H Q := by
  obtain ⟨A, H0, F0, ρ, F, ω, r, q⟩ := h
  rw [evalE] at q
  cases es : ρ[i]? with
  | none => rw [es] at q; exact q.elim
  | some s =>
    rw [es] at q
    cases s with
    | s =>
      obtain ⟨a, ha, h2⟩ := r.sl i _ es
      obtain ⟨_, _, _, b, h3, h4⟩ := r.st.st a ha
      have go : ∀ (k : Nat) (z : Int), atI [V.int ω.a, V.int ω.b, V.ref b, V.int ω.c] (k : Nat) = some (.int z) → Q (.int z) H → tOp (rIxL X.K) (tVar i) (tC (.int (k : Nat))) σ H Q := fun k z e1 e2 =>
        ⟨_, h2, a, _, _, _, rfl, rfl, .inl (.inl h3), e1, e2⟩
      match k with
      | 0 => exact go 0 _ rfl (q H F (Grow.refl r.fit) r.st _ (.dat (.int _)))
      | 1 => exact go 1 _ rfl (q H F (Grow.refl r.fit) r.st _ (.dat (.int _)))
      | 2 => exact q.elim
      | 3 => exact go 3 _ rfl (q H F (Grow.refl r.fit) r.st _ (.dat (.int _)))
      | k + 4 => exact q.elim
    | _ => exact q.elim
/-- the script's cells -/
def tScr (i : Nat) : TE := tOp (rIxL X.K) (tVar i) (tC (.int 2))
theorem slen_rd {i : Nat} {σ : L2.St} {H : Hp} {Q : VK} (h : tE g call X W (.slen i) σ H Q) : tOp (rIxL X.K) (tVar i) (tC (.int 2)) σ H fun x H1 => ∃ b, x = .ref b ∧ ∃ zs, SqL X.K H1 b zs ∧ Q (.int zs.length) H1 := by
  obtain ⟨A, H0, F0, ρ, F, ω, r, q⟩ := h
  rw [evalE] at q
  cases es : ρ[i]? with
  | none => rw [es] at q; exact q.elim
  | some s =>
    rw [es] at q
    cases s with
    | s =>
      obtain ⟨a, ha, h2⟩ := r.sl i _ es
      obtain ⟨_, _, _, b, h3, h4⟩ := r.st.st a ha
      refine ⟨_, h2, a, _, _, _, rfl, rfl, .inl (.inl h3), rfl, b, rfl, _, .inl (.inl (r.fit _ _ h4)), ?_⟩
      rw [List.length_map]
      exact q H F (Grow.refl r.fit) r.st _ (.dat (.int _))
    | _ => exact q.elim
theorem atI_int {xs : List Int} {j v : Int} (h : atI xs j = some v) : atI (xs.map V.int) j = some (V.int v) := by
  unfold atI at h ⊢
  rw [List.length_map]
  obtain ⟨k, h1, h2⟩ := Option.bind_eq_some_iff.mp h
  rw [h1]
  show (xs.map V.int)[k]? = _
  rw [List.getElem?_map, h2]; rfl
theorem scell_rd {i j : Nat} {σ : L2.St} {H : Hp} {Q : VK} (h : tE g call X W (.scell i j) σ H Q) : tOp (rIxL X.K) (tOp (rIxL X.K) (tVar i) (tC (.int 2))) (tVar j) σ H Q := by
  obtain ⟨A, H0, F0, ρ, F, ω, r, q⟩ := h
  rw [evalE] at q
  cases es : ρ[i]? with
  | none => rw [es] at q; exact q.elim
  | some s =>
    rw [es] at q
    cases s with
    | s =>
      obtain ⟨a, ha, h2⟩ := r.sl i _ es
      obtain ⟨_, _, _, b, h3, h4⟩ := r.st.st a ha
      refine ⟨_, h2, a, _, _, _, rfl, rfl, .inl (.inl h3), rfl, ?_⟩
      obtain ⟨d, e, q⟩ := getV_post (RPost.bind q)
      obtain ⟨v, h5, h6⟩ := r.sl _ _ e
      refine ⟨v, h5, ?_⟩
      have q1 := q H F (Grow.refl r.fit) r.st
      cases d with
      | int j =>
        have hv : v = .int j := (RepP.frz (Ex := fun _ => False) (H := H) h6).int
        have q1 : RPost g X.K W σ A H F (match atI ω.scr j with | some v => R.ok (PyData.int v) ω | none => R.stuck) (fun d _ H' F' => ∀ v, RepR X.K X.w (ExA g A) false F' H' v d → Q v H') := q1
        cases e2 : atI ω.scr j with
        | none => rw [e2] at q1; exact q1.elim
        | some z =>
          rw [e2] at q1
          exact ⟨b, _, j, _, rfl, hv, .inl (.inl (r.fit _ _ h4)), atI_int e2, q1 H F (Grow.refl r.fit) r.st _ (.dat (.int _))⟩
      | _ => exact q1.elim
    | _ => exact q.elim
/-! a chain of two -/
theorem chain_rd {o1 o2 : Bop} {p1 p2 : CmpOp} (h1 : isCmp o1 = some p1) {a b d : E} {σ : L2.St} {H : Hp} {Q : VK} (h : tE g call X W (.chain o1 o2 a b d) σ H Q) :
    tChain (rB X.K X.w o1) (rB X.K X.w o2) (tE g call X W a) (tE g call X W b) (tE g call X W d) σ H Q := by
  obtain ⟨A, H0, F0, ρ, F, ω, r, q⟩ := h
  rw [evalE] at q
  refine ⟨A, H0, F0, ρ, F, ω, r, (RPost.bind q).imp fun d1 ω1 H1 F1 g1 s1 q1 x rx => ?_⟩
  refine ⟨A, H0, F0, ρ, F1, ω1, r.grow g1 s1, (RPost.bind q1).imp fun d2 ω2 H2 F2 g2 s2 q2 y ry => ?_⟩
  cases e3 : bop o1 d1 d2 with
  | none => rw [e3] at q2; exact q2.elim
  | some d3 =>
    rw [e3] at q2
    obtain ⟨k, rfl⟩ := cmp_bool h1 e3
    refine ⟨_, F2, d1, d2, _, g2.fit, rx.p.grow g2, ry.p, e3, fun v H' F' e rv => ⟨k, (RepP.frz (Ex := fun _ => False) (H := H') rv).bool, ?_⟩⟩
    have q3 := q2.mono (H1 := H') (F1 := F') e.grow
    have s3 := s2.ext e
    cases k with
    | false => exact q3 H' F' (Grow.refl e.fit) s3 _ (.dat (.bl _))
    | true =>
      rw [if_pos rfl]
      have q3 : RPost g X.K W σ A H' F' ((evalE g.gt call d ρ >>= fun z => M.ofO (bop o2 d2 z)) ω2) (fun d _ H' F' => ∀ v, RepR X.K X.w (ExA g A) false F' H' v d → Q v H') := q3
      refine ⟨A, H0, F0, ρ, F', ω2, (r.grow g1 s1 |>.grow g2 s2).grow e.grow s3, (RPost.bind q3).imp fun d4 ω4 H4 F4 g4 s4 q4 z rz => ?_⟩
      obtain ⟨d5, e5, q5⟩ := RPost.ofO q4
      exact ⟨_, F4, d2, d4, d5, g4.fit, (ry.p.grow e.grow).grow g4, rz.p, e5, fun v H5 F5 ex rv => q5 H5 F5 ex.grow (s4.ext ex) v rv⟩
/-! isinstance -/
def tyN : Ty → String
  | .int => "int" | .bool => "bool" | .str => "str" | .tuple => "tuple" | .list => "list"
def ofD : PyData → String
  | .none => "NoneType" | .bool _ => "bool" | .int _ => "int" | .str _ => "str" | .list _ => "list" | .tuple _ => "tuple" | .dict _ => "dict"
theorem isa_kit : ∀ (d : PyData) (t : Ty), kitB (ofD d) (tyN t) = some (isaD d t) := by
  intro d t
  cases d <;> cases t <;> kernel_rfl
theorem isa_ty {Ex : Addr → Prop} {x : V} {d : PyData} (f : Fit F H) (n : isDic d = false) (r : RepP K w Ex F H x d) : TyX K H x (.type (ofD d)) := by
  have r := r.dp f n
  cases r with
  | non => exact .base .non
  | bl => exact .base (.bl _)
  | int => exact .base (.int _)
  | str => exact .base (.str _)
  | lst h _ =>
    rcases h with (h | ⟨o, h⟩) | ⟨o, its, n, hk, hc, _⟩
    · exact .base (.lst h)
    · exact .base (.frz h)
    · exact .kList hk hc
  | tup h _ =>
    rcases h with (h | ⟨o, h⟩) | ⟨o, its, n, hk, hc, _⟩
    · exact .base (.tup h)
    · exact .fTuple h
    · exact .kTuple hk hc
def tIsa (g : G) (call : Nat → List Slot → M PyData) (X : Cx) (W : WX) (a : E) (t : Ty) : TE := tCB (rIsi X.K) (tCons (tE g call X W a) (tCons (tC (.ty (tyN t))) tNil))
theorem isa_rd {a : E} {t : Ty} {σ : L2.St} {H : Hp} {Q : VK} (h : tE g call X W (.isa a t) σ H Q) : tIsa g call X W a t σ H Q := by
  obtain ⟨A, H0, F0, ρ, F, ω, r, q⟩ := h
  rw [evalE] at q
  refine ⟨A, H0, F0, ρ, F, ω, r, (RPost.bind q).imp fun d ω1 H1 F1 g1 s1 q1 x rx => ?_⟩
  obtain ⟨hc, q2⟩ := RPost.guard q1
  refine ⟨x, _, _, _, _, rfl, .ty _, isa_ty g1.fit (by simpa using hc) rx.p, kit_ty (isa_kit d t), ?_⟩
  exact q2 H1 F1 (Grow.refl g1.fit) s1 _ (.dat (.bl _))
end
end Wv

set_option autoImplicit false
set_option linter.all false
set_option maxRecDepth 100000
set_option maxHeartbeats 4000000
namespace Wv
open PySem PySem.Spec PyProof.Rows L2
section
variable {g : G} {c : Ck} {call : Nat → List Slot → M PyData} {X : Cx} {sc : Scope} {W : WX} {K : PySem.W.Frag} {w : World} {F F' H H1 F1 : Hp} {Q : VK} {A : Option Addr} {tg l : PySem.Expr} {tl : TE} {Ex : Addr → Prop}
/-! what is walked -/
def iSeq (K : PySem.W.Frag) (tl : TE) : TI := fun σ H R => tl σ H fun x H1 => (∃ a, x = .ref a ∧ (∃ xs, SqL K H1 a xs) ∧ R (Itl K a) H1) ∨ (∃ a, x = .ref a ∧ (∃ xs, SqT K H1 a xs) ∧ R (Itt K a) H1) ∨ (∃ y, x = .str y ∧ R (Its y) H1)
theorem pi_seq (hl : PE X l tl) : PI X tg l (iSeq X.K tl) := by
  refine ⟨fun pins s σ H R I h => ?_⟩
  refine thn (hl.run pins s σ H _ I h) fun v s1 ⟨x, H1, I1, r1, q1⟩ => ?_
  rcases q1 with ⟨a, e, ⟨xs, hq⟩, q⟩ | ⟨a, e, ⟨xs, hq⟩, q⟩ | ⟨y, e, q⟩
  · subst e
    cases r1
    obtain ⟨its, rv, p, hz⟩ := I1.list hq
    refine wpAny_pyIter_list p.isList ?_
    refine ⟨s1.heap.objs.size, [s1.heap.objs.size], _, _, H1, rfl, I1.kept (t' := s1.toks) fun b o e => Heap.get?_push_of_some _ e, turn_list a _, ⟨_, Heap.get?_push_size _ rfl, rfl, rfl⟩, fun b hb => ?_, q⟩
    have e : b = s1.heap.objs.size := by simpa using hb
    subst e
    exact I1.fpOk (Nat.le_refl _) (I1.hok.fresh (Nat.le_refl _))
  · subst e
    cases r1
    obtain ⟨its, rv, p, hz⟩ := I1.tuple hq
    refine wpAny_pyIter_tuple (show s1.heap.IsTuple a its.toArray from p) ?_
    refine ⟨s1.heap.objs.size, [s1.heap.objs.size], _, _, H1, rfl, I1.kept (t' := s1.toks) fun b o e => Heap.get?_push_of_some _ e, turn_tuple a _, ⟨_, Heap.get?_push_size _ rfl, rfl, rfl⟩, fun b hb => ?_, q⟩
    have e : b = s1.heap.objs.size := by simpa using hb
    subst e
    exact I1.fpOk (Nat.le_refl _) (I1.hok.fresh (Nat.le_refl _))
  · subst e
    obtain ⟨t, rfl⟩ := r1
    cases ha : y.cps.all (· < 128)
    · exact wpAny_pyIter_wide ha (pi_one (tk := s1.toks) I1 _ (turn_str _ y t "str_iterator" (.inr rfl)) ⟨_, Heap.get?_push_size _ rfl, rfl, rfl⟩ q)
    · exact wpAny_pyIter_ascii ha (pi_one (tk := s1.toks) I1 _ (turn_str _ y t "str_ascii_iterator" (.inl rfl)) ⟨_, Heap.get?_push_size _ rfl, rfl, rfl⟩ q)
/-- the heaps that a walk may pass -/
def Pz (z : Bool) (Ex : Addr → Prop) (H1 F1 : Hp) : Hp → Hp → Prop := fun H F => if z = true then Same F1 F ∧ Fit F H else Grow Ex H1 F1 H F
theorem Pz.fs {z : Bool} (h : Pz z Ex H1 F1 H F) : Same F1 F := by
  cases z with
  | true => exact h.1
  | false => exact Grow.fs h
theorem Pz.fit {z : Bool} (h : Pz z Ex H1 F1 H F) : Fit F H := by
  cases z with
  | true => exact h.2
  | false => exact Grow.fit h
theorem Pz.of {z : Bool} (h : Grow Ex H1 F1 H F) : Pz z Ex H1 F1 H F := by
  cases z with
  | true => exact ⟨h.fs, h.fit⟩
  | false => exact h
structure Wk (K : PySem.W.Frag) (w : World) (P : Hp → Hp → Prop) (J : It) (xs : List PyData) : Prop where
  go : ∀ (i : Nat) (H F : Hp) (d : PyData), P H F → xs[i]? = some d → J.go i H ∧ ∀ x H', J.yld i H x H' → ∃ F', Ext H F H' F' ∧ RepF K w F' x d
  stop : ∀ (H F : Hp), P H F → J.stop xs.length H
theorem wk_list {P : Hp → Hp → Prop} {a : Addr} {vs : List V} {ds : List PyData} (h : ∀ H F, P H F → SqL K H a vs ∧ DqAll K F vs ds ∧ Fit F H) : Wk K w P (Itl K a) ds where
  go := fun i H F d p e => by
    obtain ⟨h1, h2, h3⟩ := h H F p
    obtain ⟨v, e1, e2⟩ := dpa_get h2 e
    refine ⟨⟨vs, v, h1, e1⟩, fun x H' ⟨y1, y2⟩ => ?_⟩
    subst y1
    have := y2 vs h1
    rw [e1] at this
    cases this
    exact ⟨F, Ext.refl h3, .dat e2⟩
  stop := fun H F p => by
    obtain ⟨h1, h2, h3⟩ := h H F p
    exact ⟨vs, h1, by rw [dpa_len h2]; exact Nat.le_refl _⟩
theorem wk_tup {P : Hp → Hp → Prop} {a : Addr} {vs : List V} {ds : List PyData} (h : ∀ H F, P H F → SqT K H a vs ∧ DqAll K F vs ds ∧ Fit F H) : Wk K w P (Itt K a) ds where
  go := fun i H F d p e => by
    obtain ⟨h1, h2, h3⟩ := h H F p
    obtain ⟨v, e1, e2⟩ := dpa_get h2 e
    refine ⟨⟨vs, v, h1, e1⟩, fun x H' ⟨y1, y2⟩ => ?_⟩
    subst y1
    have := y2 vs h1
    rw [e1] at this
    cases this
    exact ⟨F, Ext.refl h3, .dat e2⟩
  stop := fun H F p => by
    obtain ⟨h1, h2, h3⟩ := h H F p
    exact ⟨vs, h1, by rw [dpa_len h2]; exact Nat.le_refl _⟩
theorem wk_str {P : Hp → Hp → Prop} {y : Str} (h : ∀ H F, P H F → Fit F H) : Wk K w P (Its y) (y.cps.toList.map fun c => .str ⟨#[c]⟩) where
  go := fun i H F d p e => by
    rw [List.getElem?_map] at e
    obtain ⟨k, e1, rfl⟩ := Option.map_eq_some_iff.mp e
    have hi : i < y.cps.size := by
      have := (List.getElem?_eq_some_iff.mp e1).1
      simpa using this
    refine ⟨hi, fun x H' ⟨y1, k2, e2, e3⟩ => ?_⟩
    subst y1 e3
    have : y.cps[i]? = some k := by rw [← e1]; simp
    rw [this] at e2
    cases e2
    exact ⟨F, Ext.refl (h _ _ p), .dat (.str _)⟩
  stop := fun H F p => by
    show y.cps.size ≤ _
    simp
theorem rangeD_len : ∀ (n : Nat) (lo c : Int), (rangeD lo n c).length = n
  | 0, _, _ => rfl
  | n + 1, lo, c => by rw [rangeD, List.length_cons, rangeD_len n]
theorem rangeD_get : ∀ (n : Nat) (lo c : Int) (i : Nat) (d : PyData), (rangeD lo n c)[i]? = some d → i < n ∧ d = .int (lo + i * c)
  | 0, _, _, i, d, h => by simp [rangeD] at h
  | n + 1, lo, c, 0, d, h => by
    rw [rangeD] at h
    simp at h
    exact ⟨by omega, by rw [← h]; simp⟩
  | n + 1, lo, c, i + 1, d, h => by
    rw [rangeD] at h
    obtain ⟨h1, h2⟩ := rangeD_get n (lo + c) c i d (by simpa using h)
    refine ⟨by omega, ?_⟩
    rw [h2]
    congr 1
    rw [Int.natCast_add, Int.add_mul]
    omega
theorem wk_rng {P : Hp → Hp → Prop} {lo : Int} {n : Nat} (h : ∀ H F, P H F → Fit F H) : Wk K w P (Itr lo n) (rangeD lo n 1) where
  go := fun i H F d p e => by
    obtain ⟨h1, h2⟩ := rangeD_get n lo 1 i d e
    refine ⟨h1, fun x H' ⟨y1, y2⟩ => ?_⟩
    subst y1 y2 h2
    exact ⟨F, Ext.refl (h _ _ p), by rw [Int.mul_one]; exact .dat (.int _)⟩
  stop := fun H F p => by
    show n ≤ _
    rw [rangeD_len]; exact Nat.le_refl _
theorem wk_rngc {P : Hp → Hp → Prop} {lo c : Int} {n : Nat} (h : ∀ H F, P H F → Fit F H) : Wk K w P (Itc lo c n) (rangeD lo n c) where
  go := fun i H F d p e => by
    obtain ⟨h1, h2⟩ := rangeD_get n lo c i d e
    refine ⟨h1, fun x H' ⟨y1, y2⟩ => ?_⟩
    subst y1 y2 h2
    exact ⟨F, Ext.refl (h _ _ p), .dat (.int _)⟩
  stop := fun H F p => by
    show n ≤ _
    rw [rangeD_len]; exact Nat.le_refl _
/-! the reading of what is walked -/
def tI (g : G) (call : Nat → List Slot → M PyData) (X : Cx) (W : WX) (z : Bool) (e : E) : TI := fun σ H R => ∃ A H0 F0 ρ F ω, Rel g X.K X.w A H0 F0 ρ σ H F ω ∧
  RPost g X.K W σ A H F ((evalE g.gt call e ρ >>= fun d => M.ofO (itemsOf d)) ω) (fun xs _ H' F' => ∀ J, Wk X.K X.w (Pz z (ExA g A) H' F') J xs → R J H')
theorem PI.wk {t t' : TI} (h : PI X tg l t) (i : ∀ σ H R, t' σ H R → t σ H R) : PI X tg l t' := ⟨fun pins s σ H R I q => h.run pins s σ H R I (i σ H R q)⟩
end
section
variable {g : G} {c : Ck} {call : Nat → List Slot → M PyData} {X : Cx} {sc : Scope} {W : WX} {K : PySem.W.Frag} {tg l : PySem.Expr}
theorem seq_rd {z : Bool} {e : E} (hz : (z && isPk e) = false) {σ : L2.St} {H : Hp} {R : It → Hp → Prop} (h : tI g call X W z e σ H R) : iSeq X.K (tE g call X W e) σ H R := by
  obtain ⟨A, H0, F0, ρ, F, ω, r, q⟩ := h
  refine ⟨A, H0, F0, ρ, F, ω, r, (RPost.bind q).imp fun d ω1 H1 F1 g1 s1 q1 x rx => ?_⟩
  obtain ⟨xs, e1, q2⟩ := RPost.ofO q1
  have q3 := q2 H1 F1 (Grow.refl g1.fit) s1
  cases d with
  | list ds =>
    cases e1
    refine .inl ?_
    cases hp : isPk e with
    | false =>
      rw [hp] at rx
      obtain ⟨a, vs, rfl, h1, h2⟩ := RepF.list rx
      refine ⟨a, rfl, ⟨vs, .inl (.inl (g1.fit _ _ h1))⟩, q3 _ (wk_list (vs := vs) fun H F p => ⟨.inl (.inl (p.fit _ _ (p.fs _ _ h1))), dpAll_mono p.fs _ _ h2, p.fit⟩)⟩
    | true =>
      have z0 : z = false := by rw [hp, Bool.and_true] at hz; exact hz
      subst z0
      rw [hp] at rx
      cases rx with
      | frz h =>
        obtain ⟨a, vs, rfl, h1, h2⟩ := h.list
        exact ⟨a, rfl, ⟨vs, .inl (.inl (g1.fit _ _ h1))⟩, q3 _ (wk_list (vs := vs) fun H F p => ⟨.inl (.inl (p.fit _ _ (p.fs _ _ h1))), dpAll_mono p.fs _ _ h2, p.fit⟩)⟩
      | lst h0 _ h2 h3 =>
        exact ⟨_, rfl, ⟨_, .inl (.inl h2)⟩, q3 _ (wk_list fun H F p => ⟨.inl (.inl (Grow.hs p _ _ h0 h2)), dpAll_mono p.fs _ _ h3, p.fit⟩)⟩
  | tuple ds =>
    cases e1
    refine .inr (.inl ?_)
    obtain ⟨a, vs, rfl, h1, h2⟩ := rx.p.tuple
    exact ⟨a, rfl, ⟨vs, sqT_mono g1.fit h1⟩, q3 _ (wk_tup (vs := vs) fun H F p => ⟨sqT_mono p.fit (sqT_mono p.fs h1), dpAll_mono p.fs _ _ h2, p.fit⟩)⟩
  | str y =>
    cases e1
    refine .inr (.inr ⟨y, rx.p.str, q3 _ (wk_str fun H F p => p.fit)⟩)
  | dict kvs => exact absurd (gO_some (show gO later (some (kvs.map (·.1))) = some xs from e1)).1 (by decide)
  | _ => cases e1
theorem rng1_rd {z : Bool} {a : E} (ha : isPk a = false) {σ : L2.St} {H : Hp} {R : It → Hp → Prop} (h : tI g call X W z (.rng (.cons a .nil)) σ H R) : iRng1 (tCons (tE g call X W a) tNil) σ H R := by
  obtain ⟨A, H0, F0, ρ, F, ω, r, q⟩ := h
  rw [evalE, M.bnd_assoc, evalEs, M.bnd_assoc] at q
  refine ⟨A, H0, F0, ρ, F, ω, r, (RPost.bind q).imp fun d ω1 H1 F1 g1 s1 q1 x rx => ?_⟩
  rw [ha] at rx
  rw [evalEs] at q1
  cases d with
  | int n =>
    have q1 : RPost g X.K W σ A H1 F1 ((M.ofO (rngD [.int n]) >>= fun d => M.ofO (itemsOf d)) ω1) (fun xs _ H' F' => ∀ J, Wk X.K X.w (Pz z (ExA g A) H' F') J xs → R J H') := q1
    obtain ⟨d, e1, q2⟩ := RPost.ofO (RPost.bind q1)
    obtain ⟨hc, e2⟩ := gO_some (show gO (decide (n ≤ 1000000) && decide (-(2 ^ 60) < n)) (some (PyData.list (rangeD 0 n.toNat 1))) = some d from e1)
    cases e2
    have q3 := q2 H1 F1 (Grow.refl g1.fit) s1 H1 F1 (Grow.refl g1.fit) s1
    simp only [Bool.and_eq_true, decide_eq_true_eq] at hc
    exact ⟨n, by rw [RepP.int (K := X.K) (w := X.w) (F := F1) (H := H1) (Ex := fun _ => False) (.frz rx)], by omega, by omega, q3 _ (wk_rng fun H F p => p.fit)⟩
  | _ => exact q1.elim
theorem rng2_rd {z : Bool} {a b : E} (ha : isPk a = false) (hb : isPk b = false) {σ : L2.St} {H : Hp} {R : It → Hp → Prop} (h : tI g call X W z (.rng (.cons a (.cons b .nil))) σ H R) : iRng2 (tCons (tE g call X W a) (tCons (tE g call X W b) tNil)) σ H R := by
  obtain ⟨A, H0, F0, ρ, F, ω, r, q⟩ := h
  rw [evalE, M.bnd_assoc, evalEs, M.bnd_assoc] at q
  refine ⟨A, H0, F0, ρ, F, ω, r, (RPost.bind q).imp fun d ω1 H1 F1 g1 s1 q1 x rx => ?_⟩
  rw [ha] at rx
  rw [evalEs, M.bnd_assoc, M.bnd_assoc] at q1
  refine ⟨A, H0, F0, ρ, F1, ω1, r.grow g1 s1, (RPost.bind q1).imp fun d2 ω2 H2 F2 g2 s2 q2 y ry => ?_⟩
  rw [hb] at ry
  rw [evalEs] at q2
  have hi : ∀ {n : Int}, d = .int n → x = .int n := fun {n} e => by subst e; exact RepP.int (K := X.K) (w := X.w) (F := F1) (H := H1) (Ex := fun _ => False) (.frz rx)
  cases d with
  | int m =>
    cases d2 with
    | int n =>
      have q2 : RPost g X.K W σ A H2 F2 ((M.ofO (rngD [.int m, .int n]) >>= fun d => M.ofO (itemsOf d)) ω2) (fun xs _ H' F' => ∀ J, Wk X.K X.w (Pz z (ExA g A) H' F') J xs → R J H') := q2
      obtain ⟨d, e1, q2⟩ := RPost.ofO (RPost.bind q2)
      obtain ⟨hc, e2⟩ := gO_some (show gO (decide (n - m ≤ 1000000) && decide (-(2 ^ 60) < m) && decide (m < 2 ^ 60) && decide (-(2 ^ 60) < n) && decide (n < 2 ^ 60)) (some (PyData.list (rangeD m (n - m).toNat 1))) = some d from e1)
      cases e2
      have q3 := q2 H2 F2 (Grow.refl g2.fit) s2 H2 F2 (Grow.refl g2.fit) s2
      simp only [Bool.and_eq_true, decide_eq_true_eq] at hc
      exact ⟨m, n, by rw [hi rfl, RepP.int (K := X.K) (w := X.w) (F := F2) (H := H2) (Ex := fun _ => False) (.frz ry)], by omega, q3 _ (wk_rng fun H F p => p.fit)⟩
    | _ => exact q2.elim
  | _ => exact q2.elim
end
end Wv

set_option autoImplicit false
set_option linter.all false
set_option maxRecDepth 100000
set_option maxHeartbeats 4000000
namespace Wv
open PySem PySem.Spec PyProof.Rows L2
section
variable {g : G} {c : Ck} {call : Nat → List Slot → M PyData} {X : Cx} {sc : Scope} {W : WX} {K : PySem.W.Frag} {w : World} {H0 F0 F F' H H' : Hp} {Q : VK} {A : Option Addr} {ρ ρ' : Env} {σ σ' : L2.St} {ω ω' : Orc}
/-! the slots -/
theorem set_get {α : Type} {l : List α} {i j : Nat} {x : α} : (l.set i x)[j]? = if i = j then (if i < l.length then some x else none) else l[j]? := by
  by_cases h : i = j
  · subst h
    rw [if_pos rfl]
    by_cases hl : i < l.length
    · rw [if_pos hl, List.getElem?_set_self hl]
    · rw [if_neg hl, List.getElem?_eq_none (by simpa using hl)]
  · rw [if_neg h, List.getElem?_set_ne h]
theorem Rel.set (r : Rel g K w A H0 F0 ρ σ H F ω) {i : Nat} {v : V} {d : PyData} (h : RepF K w F v d) : Rel g K w A H0 F0 (ρ.set i (.v false d)) (σ.set i (some v)) H F ω where
  gr := r.gr
  len := by rw [List.length_set, List.length_set]; exact r.len
  sl := fun j s e => by
    rw [set_get] at e
    rw [set_get]
    by_cases hij : i = j
    · rw [if_pos hij] at e ⊢
      by_cases hl : i < ρ.length
      · rw [if_pos hl] at e
        cases e
        rw [if_pos (by rw [← r.len]; exact hl)]
        exact ⟨v, rfl, h⟩
      · rw [if_neg hl] at e; cases e
    · rw [if_neg hij] at e ⊢
      exact r.sl j s e
  own := fun j k d1 d2 a e1 e2 e3 e4 => by
    rw [set_get] at e1 e2 e3 e4
    have hj : ¬ i = j := fun z => by
      rw [if_pos z] at e1
      split at e1 <;> cases e1
    have hk : ¬ i = k := fun z => by
      rw [if_pos z] at e2
      split at e2 <;> cases e2
    rw [if_neg hj] at e1 e3
    rw [if_neg hk] at e2 e4
    exact r.own j k d1 d2 a e1 e2 e3 e4
  st := r.st
theorem Rel.un (r : Rel g K w A H0 F0 ρ σ H F ω) {i : Nat} : Rel g K w A H0 F0 (ρ.set i .un) (σ.set i none) H F ω where
  gr := r.gr
  len := by rw [List.length_set, List.length_set]; exact r.len
  sl := fun j s e => by
    rw [set_get] at e
    rw [set_get]
    by_cases hij : i = j
    · rw [if_pos hij] at e
      split at e
      · cases e; trivial
      · cases e
    · rw [if_neg hij] at e ⊢
      exact r.sl j s e
  own := fun j k d1 d2 a e1 e2 e3 e4 => by
    rw [set_get] at e1 e2 e3 e4
    have hj : ¬ i = j := fun z => by
      rw [if_pos z] at e1
      split at e1 <;> cases e1
    have hk : ¬ i = k := fun z => by
      rw [if_pos z] at e2
      split at e2 <;> cases e2
    rw [if_neg hj] at e1 e3
    rw [if_neg hk] at e2 e4
    exact r.own j k d1 d2 a e1 e2 e3 e4
  st := r.st
theorem clr_set (i : Nat) : ∀ (vs : List Nat) (ρ : Env), clr vs (ρ.set i .un) = (clr vs ρ).set i .un
  | [], _ => rfl
  | v :: vs, ρ => by
    show clr vs ((ρ.set i .un).set v .un) = (clr vs (ρ.set v .un)).set i .un
    rw [← clr_set i vs]
    congr 1
    by_cases h : i = v
    · subst h; rfl
    · rw [List.set_comm _ _ h]
theorem Rel.clr (r : Rel g K w A H0 F0 ρ σ H F ω) : ∀ vs : List Nat, Rel g K w A H0 F0 (Wv.clr vs ρ) (wipe σ vs) H F ω
  | [] => r
  | v :: vs => by
    show Rel g K w A H0 F0 (Wv.clr vs (ρ.set v .un)) ((wipe σ vs).set v none) H F ω
    rw [clr_set]
    exact (Rel.clr r vs).un
theorem wipe_set {i : Nat} {x : Option V} : ∀ {vs : List Nat} {σ : L2.St}, i ∈ vs → wipe (σ.set i x) vs = wipe σ vs
  | [], _, h => by cases h
  | v :: vs, σ, h => by
    unfold wipe
    by_cases hv : i = v
    · subst hv
      by_cases hm : i ∈ vs
      · rw [wipe_set hm]
      · have : ∀ (vs : List Nat) (σ : L2.St), i ∉ vs → wipe (σ.set i x) vs = (wipe σ vs).set i x := by
          intro vs
          induction vs with
          | nil => intro σ _; rfl
          | cons u us ih =>
            intro σ hn
            unfold wipe
            rw [ih σ (fun z => hn (List.mem_cons_of_mem _ z)), List.set_comm _ _ (fun z => hn (by rw [z]; exact List.mem_cons_self))]
        rw [this vs σ hm, List.set_set]
    · rcases List.mem_cons.mp h with e | e
      · exact absurd e hv
      · rw [wipe_set e]
/-! targets -/
def tgE (c : Ck) (fnb : Str → Bool) (sc : Scope) (i : Nat) (x : Str) : Bool := (c.N[i]? == some x) && (sc.names.lookup x == some .local || (sc.names.lookup x == some .cell && fnb x))
def chkTg (c : Ck) (fnb : Str → Bool) (sc : Scope) : Tg → PySem.Expr → Bool
  | .nm i, .Name x _ => tgE c fnb sc i x
  | .t0, .Tuple xs _ _ => xs.isEmpty
  | .tc a b, .Tuple (x :: xs) k p => chkTg c fnb sc a x && chkTg c fnb sc b (.Tuple xs k p)
  | _, _ => false
theorem asg_each {x : PySem.Expr} {xs : List PySem.Expr} {env : PySem.Env} (h : noStar x = true) : assignEach (x :: xs) env = (false, assign x env) :: assignEach xs env := by
  cases x <;> first | rfl | cases h
theorem tg_noStar {fnb : Str → Bool} {t : Tg} {x : PySem.Expr} (h : chkTg c fnb sc t x = true) : noStar x = true := by
  cases x <;> first | rfl | (cases t <;> cases h)
theorem asg_len {fnb : Str → Bool} {k : Nat} {p : Pos} {env : PySem.Env} : ∀ (t : Tg) (xs : List PySem.Expr), chkTg c fnb sc t (.Tuple xs k p) = true → (assignEach xs env).length = xs.length ∧ (assignEach xs env).findIdx? (·.1) = none
  | .nm i, xs, h => by cases h
  | .t0, [], h => ⟨rfl, rfl⟩
  | .t0, x :: xs, h => by cases h
  | .tc a b, [], h => by cases h
  | .tc a b, x :: xs, h => by
    obtain ⟨h1, h2⟩ := Bool.and_eq_true_iff.mp (show (chkTg c fnb sc a x && chkTg c fnb sc b (.Tuple xs k p)) = true from h)
    obtain ⟨h3, h4⟩ := asg_len (env := env) b xs h2
    rw [asg_each (tg_noStar h1)]
    refine ⟨by rw [List.length_cons, List.length_cons, h3], ?_⟩
    rw [List.findIdx?_cons]
    show (if (false = true) then _ else _) = none
    rw [if_neg Bool.false_ne_true, h4]; rfl
/-- what a store is to reach: own slots of σ changed within vs alone -/
def tG (g : G) (X : Cx) (vs : List Nat) (t : Tg) : TG := fun v σ H Q => ∃ A H0 F0 ρ F ω d ρ', Rel g X.K X.w A H0 F0 ρ σ H F ω ∧ RepF X.K X.w F v d ∧ asgT t false d ρ ω = .ok ρ' ω ∧ (∀ i ∈ tgS t, i ∈ vs) ∧
  ∀ σ', wipe σ' vs = wipe σ vs → Rel g X.K X.w A H0 F0 ρ' σ' H F ω → Q σ' H
def tGs (g : G) (X : Cx) (vs : List Nat) (t : Tg) : TGs := fun us σ H Q => ∃ A H0 F0 ρ F ω ds ρ', Rel g X.K X.w A H0 F0 ρ σ H F ω ∧ Paired (RepF X.K X.w F) us ds ∧ asgT t false (.tuple ds) ρ ω = .ok ρ' ω ∧ (∀ i ∈ tgS t, i ∈ vs) ∧
  ∀ σ', wipe σ' vs = wipe σ vs → Rel g X.K X.w A H0 F0 ρ' σ' H F ω → Q σ' H
theorem asg_ok : ∀ (t : Tg) (o : Bool) (d : PyData) (ρ ρ' : Env) (ω ω' : Orc), asgT t o d ρ ω = .ok ρ' ω' → ω' = ω
  | .nm i, o, d, ρ, ρ', ω, ω', h => by cases h; rfl
  | .t0, o, .tuple [], ρ, ρ', ω, ω', h => by cases h; rfl
  | .tc a b, o, .tuple (x :: xs), ρ, ρ', ω, ω', h => by
    rw [asgT] at h
    have h : M.bnd (asgT a false x ρ) (fun r => asgT b false (.tuple xs) r) ω = .ok ρ' ω' := h
    unfold M.bnd at h
    cases e : asgT a false x ρ ω with
    | ok r w1 =>
      rw [e] at h
      rw [asg_ok b _ _ _ _ _ _ h, asg_ok a _ _ _ _ _ _ e]
    | exc => rw [e] at h; cases h
    | stuck => rw [e] at h; cases h
  | .t0, o, .tuple (_ :: _), ρ, ρ', ω, ω', h => by cases h
  | .t0, o, .none, ρ, ρ', ω, ω', h => by cases h
  | .t0, o, .bool _, ρ, ρ', ω, ω', h => by cases h
  | .t0, o, .int _, ρ, ρ', ω, ω', h => by cases h
  | .t0, o, .str _, ρ, ρ', ω, ω', h => by cases h
  | .t0, o, .list _, ρ, ρ', ω, ω', h => by cases h
  | .t0, o, .dict _, ρ, ρ', ω, ω', h => by cases h
  | .tc _ _, o, .tuple [], ρ, ρ', ω, ω', h => by cases h
  | .tc _ _, o, .none, ρ, ρ', ω, ω', h => by cases h
  | .tc _ _, o, .bool _, ρ, ρ', ω, ω', h => by cases h
  | .tc _ _, o, .int _, ρ, ρ', ω, ω', h => by cases h
  | .tc _ _, o, .str _, ρ, ρ', ω, ω', h => by cases h
  | .tc _ _, o, .list _, ρ, ρ', ω, ω', h => by cases h
  | .tc _ _, o, .dict _, ρ, ρ', ω, ω', h => by cases h
theorem pg_name' {fnb : Str → Bool} {i : Nat} {x : Str} {pos : Pos} {vs : List Nat} (G : Gd g c call X sc) (hf : ∀ x, fnb x = true → X.fn x = true) (h : tgE c fnb sc i x = true) : PG X (.Name x pos) (tG g X vs (.nm i)) := by
  unfold tgE at h
  obtain ⟨h1, h2⟩ := Bool.and_eq_true_iff.mp h
  have hl : Loc X.env.scope x ∧ (X.fn x = true ∨ X.env.scope.names.lookup x = some .local) := by
    rw [G.sc]
    rcases Bool.or_eq_true_iff.mp h2 with h | h
    · exact ⟨.inl (eq_of_beq h), .inr (eq_of_beq h)⟩
    · obtain ⟨h3, h4⟩ := Bool.and_eq_true_iff.mp h
      exact ⟨.inr (eq_of_beq h3), .inl (hf _ h4)⟩
  refine ⟨fun pins s σ H v u Q I r ⟨A, H0, F0, ρ, F, ω, d, ρ', rl, rv, ea, hv, q⟩ => ?_⟩
  refine (pg_name (by rw [G.N]; exact G.nd) (by rw [G.N]; exact eq_of_beq h1) hl.1 hl.2).run pins s σ H v u Q I r ?_
  cases ea
  exact q _ (wipe_set (hv i (by simp [tgS]))) (rl.set rv)
theorem data_cases {P : PyData → Prop} (d : PyData) (h1 : ∀ ds, P (.tuple ds)) (h2 : ∀ d, (∀ ds, d ≠ .tuple ds) → P d) : P d := by
  cases d with
  | tuple ds => exact h1 ds
  | _ => exact h2 _ (fun _ z => by cases z)
theorem asg_tup {a b : Tg} {o : Bool} {d : PyData} {ρ ρ' : Env} {ω ω' : Orc} (h : asgT (.tc a b) o d ρ ω = .ok ρ' ω') : ∃ x xs r, d = .tuple (x :: xs) ∧ asgT a false x ρ ω = .ok r ω ∧ asgT b false (.tuple xs) r ω = .ok ρ' ω' := by
  cases d with
  | tuple ds =>
    cases ds with
    | nil => cases h
    | cons x xs =>
      have h2 : M.bnd (asgT a false x ρ) (fun r => asgT b false (.tuple xs) r) ω = .ok ρ' ω' := h
      unfold M.bnd at h2
      cases e : asgT a false x ρ ω with
      | ok r w1 =>
        rw [e] at h2
        have := asg_ok _ _ _ _ _ _ _ e
        subst this
        exact ⟨x, xs, r, rfl, e, h2⟩
      | exc => rw [e] at h2; cases h2
      | stuck => rw [e] at h2; cases h2
  | _ => cases h
theorem asg_t0 {o : Bool} {d : PyData} {ρ ρ' : Env} {ω ω' : Orc} (h : asgT .t0 o d ρ ω = .ok ρ' ω') : d = .tuple [] ∧ ρ' = ρ := by
  cases d with
  | tuple ds =>
    cases ds with
    | nil => cases h; exact ⟨rfl, rfl⟩
    | cons => cases h
  | _ => cases h
theorem paired_dqa {vs : List V} {ds : List PyData} {F : Hp} (h : DqAll K F vs ds) : Paired (RepF K w F) vs ds := by
  induction vs generalizing ds with
  | nil => cases h; exact .nil
  | cons v vs ih => cases h with
    | cons a t => exact .cons (.dat a) (ih t)
theorem asg_tupLen {fnb : Str → Bool} {k : Nat} {p : Pos} : ∀ (t : Tg) (xs : List PySem.Expr) (ds : List PyData) (o : Bool) (ρ ρ' : Env) (ω : Orc), chkTg c fnb sc t (.Tuple xs k p) = true → asgT t o (.tuple ds) ρ ω = .ok ρ' ω → ds.length = xs.length
  | .nm i, xs, ds, o, ρ, ρ', ω, h, e => by cases h
  | .t0, [], ds, o, ρ, ρ', ω, h, e => by
    have := (asg_t0 e).1
    cases this; rfl
  | .t0, x :: xs, ds, o, ρ, ρ', ω, h, e => by cases h
  | .tc a b, [], ds, o, ρ, ρ', ω, h, e => by cases h
  | .tc a b, x :: xs, ds, o, ρ, ρ', ω, h, e => by
    obtain ⟨h1, h2⟩ := Bool.and_eq_true_iff.mp (show (chkTg c fnb sc a x && chkTg c fnb sc b (.Tuple xs k p)) = true from h)
    obtain ⟨y, ys, r, e1, e2, e3⟩ := asg_tup e
    cases e1
    rw [List.length_cons, List.length_cons, asg_tupLen b xs ys _ _ _ _ h2 e3]
mutual
theorem snd_tg {fnb : Str → Bool} {vs : List Nat} (G : Gd g c call X sc) (hf : ∀ x, fnb x = true → X.fn x = true) : ∀ (t : Tg) (x : PySem.Expr), chkTg c fnb sc t x = true → PG X x (tG g X vs t)
  | .nm i, x, h => by
    cases x <;> first | exact pg_name' G hf h | cases h
  | .t0, x, h => by
    cases x with
    | Tuple xs k p =>
      obtain ⟨h1, h2⟩ := asg_len (env := X.env) .t0 xs h
      have hp : PG X (.Tuple xs k p) (gTup X.K xs.length (tGs g X vs .t0)) := pg_tup G.calm (snd_tgs G hf .t0 xs k p h) h1 h2
      refine ⟨fun pins s σ H v u Q I r ⟨A, H0, F0, ρ, F, ω, d, ρ', rl, rv, ea, hv, q⟩ => hp.run pins s σ H v u Q I r ?_⟩
      obtain ⟨rfl, rfl⟩ := asg_t0 ea
      obtain ⟨a, us, rfl, q1, q2⟩ := rv.tuple
      refine ⟨a, us, rfl, sqT_mono rl.fit q1, by rw [dpa_len q2, asg_tupLen .t0 xs [] _ _ _ _ h ea], A, H0, F0, ρ', F, ω, [], ρ', rl, paired_dqa q2, ea, hv, q⟩
    | _ => cases h
  | .tc a b, x, h => by
    cases x with
    | Tuple xs k p =>
      obtain ⟨h1, h2⟩ := asg_len (env := X.env) (.tc a b) xs h
      have hp : PG X (.Tuple xs k p) (gTup X.K xs.length (tGs g X vs (.tc a b))) := pg_tup G.calm (snd_tgs G hf (.tc a b) xs k p h) h1 h2
      refine ⟨fun pins s σ H v u Q I r ⟨A, H0, F0, ρ, F, ω, d, ρ', rl, rv, ea, hv, q⟩ => hp.run pins s σ H v u Q I r ?_⟩
      obtain ⟨y, ys, r, rfl, _, _⟩ := asg_tup ea
      obtain ⟨ad, us, rfl, q1, q2⟩ := rv.tuple
      exact ⟨ad, us, rfl, sqT_mono rl.fit q1, by rw [dpa_len q2, asg_tupLen (.tc a b) xs _ _ _ _ _ h ea], A, H0, F0, ρ, F, ω, _, ρ', rl, paired_dqa q2, ea, hv, q⟩
    | _ => cases h
theorem snd_tgs {fnb : Str → Bool} {vs : List Nat} (G : Gd g c call X sc) (hf : ∀ x, fnb x = true → X.fn x = true) : ∀ (t : Tg) (xs : List PySem.Expr) (k : Nat) (p : Pos), chkTg c fnb sc t (.Tuple xs k p) = true → PGs X xs (tGs g X vs t)
  | .nm i, xs, k, p, h => by cases h
  | .t0, [], k, p, h => ⟨fun pins s σ H us ws Q I r ⟨A, H0, F0, ρ, F, ω, ds, ρ', rl, rv, ea, hv, q⟩ => by
    refine pgs_nil.run pins s σ H us ws Q I r ?_
    obtain ⟨e1, rfl⟩ := asg_t0 ea
    cases e1
    cases rv
    exact ⟨rfl, q σ rfl rl⟩⟩
  | .t0, x :: xs, k, p, h => by cases h
  | .tc a b, [], k, p, h => by cases h
  | .tc a b, x :: xs, k, p, h => by
    obtain ⟨h1, h2⟩ := Bool.and_eq_true_iff.mp (show (chkTg c fnb sc a x && chkTg c fnb sc b (.Tuple xs k p)) = true from h)
    have hc := pgs_cons (snd_tg (vs := vs) G hf a x h1) (snd_tgs (vs := vs) G hf b xs k p h2) (by rw [asg_each (tg_noStar h1)]; rfl)
    refine ⟨fun pins s σ H us ws Q I r ⟨A, H0, F0, ρ, F, ω, ds, ρ', rl, rv, ea, hv, q⟩ => hc.run pins s σ H us ws Q I r ?_⟩
    obtain ⟨y, ys, r1, e1, e2, e3⟩ := asg_tup ea
    cases e1
    cases rv with
    | cons r0 rr =>
      refine ⟨_, _, rfl, A, H0, F0, ρ, F, ω, y, r1, rl, r0, e2, fun i hi => hv i (by simp [tgS, hi]), fun σ1 w1 rl1 => ?_⟩
      exact ⟨A, H0, F0, r1, F, ω, ys, ρ', rl1, rr, e3, fun i hi => hv i (by simp [tgS, hi]), fun σ2 w2 rl2 => q σ2 (w2.trans w1) rl2⟩
end
end
end Wv

set_option autoImplicit false
set_option linter.all false
set_option maxRecDepth 100000
set_option maxHeartbeats 4000000
namespace Wv
open PySem PySem.Spec PyProof.Rows L2
section
variable {g : G} {c : Ck} {call : Nat → List Slot → M PyData} {X : Cx} {sc : Scope} {W W' : WX} {K : PySem.W.Frag} {w : World} {H0 F0 F F' H H' H1 F1 : Hp} {Q : VK} {A : Option Addr} {ρ ρ' : Env} {σ σ' : L2.St} {ω ω' : Orc} {α β : Type} {ok : α → Orc → Hp → Hp → Prop}
/-! new objects -/
def RepN (K : PySem.W.Frag) (w : World) (H F' H' : Hp) (v : V) (d : PyData) : Prop := if ownV true d = true then ∃ a, v = .ref a ∧ H a = none ∧ F' a = none ∧ OwnAt K w F' H' a d else RepF K w F' v d
def tN (g : G) (call : Nat → List Slot → M PyData) (X : Cx) (W : WX) (e : E) : TE := fun σ H Q => ∃ A H0 F0 ρ F ω, Rel g X.K X.w A H0 F0 ρ σ H F ω ∧
  RPost g X.K W σ A H F (evalE g.gt call e ρ ω) (fun d _ H' F' => ∀ v, RepN X.K X.w H F' H' v d → Q v H')
theorem StOk.nA (st : StOk g A H F ω) {a : Addr} (h : H a = none) : ¬ ExA g A a := fun e => by
  rcases e with e | e
  · obtain ⟨_, _, _, b, h1, _⟩ := st.st a e
    rw [h] at h1; cases h1
  · obtain ⟨ps, h1, _⟩ := st.tab a e
    rw [h] at h1; cases h1
theorem StOk.frz (st : StOk g A H F ω) {a : Addr} {o : HO} (h : ¬ ExA g A a) (hF : F a = none) : StOk g A H (upd F a o) ω where
  st := fun b hb => by
    obtain ⟨h1, h2, h3, d, h4, h5⟩ := st.st b hb
    have e : b ≠ a := fun z => h (.inl (by rw [hb, z]))
    refine ⟨by rw [upd_ne e]; exact h1, h2, h3, d, h4, ?_⟩
    rw [upd_ne (fun z => by rw [z, hF] at h5; cases h5)]
    exact h5
  tab := st.tab
  ft := fun p hp => by
    rw [upd_ne (fun z => h (.inr (by rw [← z]; exact hp)))]
    exact st.ft p hp
theorem StOk.upd (st : StOk g A H F ω) {a : Addr} {o : HO} (h : ¬ ExA g A a) (hF : F a = none) : StOk g A (upd H a o) F ω where
  st := fun b hb => by
    obtain ⟨h1, h2, h3, d, h4, h5⟩ := st.st b hb
    have e : b ≠ a := fun z => h (.inl (by rw [hb, z]))
    refine ⟨h1, h2, h3, d, by rw [upd_ne e]; exact h4, h5⟩
  tab := fun p hp => by
    obtain ⟨ps, h1, h2⟩ := st.tab p hp
    exact ⟨ps, by rw [upd_ne (fun z => h (.inr (by rw [← z]; exact hp)))]; exact h1, h2⟩
  ft := st.ft
theorem Grow.frz {Ex : Addr → Prop} (gr : Grow Ex H F H' F') {a : Addr} {o : HO} (h : H a = none) (h1 : F' a = none) (h2 : H' a = some o) : Grow Ex H F H' (upd F' a o) where
  hs := gr.hs
  ex := gr.ex
  fs := gr.fs.trans (same_upd h1)
  fit := fun b u e => by
    by_cases z : b = a
    · subst z; rw [upd_same] at e; cases e; exact h2
    · rw [upd_ne z] at e; exact gr.fit b u e
  new := fun b u e => by
    by_cases z : b = a
    · subst z; exact .inr h
    · rw [upd_ne z] at e; exact gr.new b u e
theorem Grow.updN {Ex : Addr → Prop} (gr : Grow Ex H F H' F') {a : Addr} {o : HO} (h : H a = none) (h1 : F' a = none) : Grow Ex H F (upd H' a o) F' where
  hs := fun b u n e => by
    have z : b ≠ a := fun z => by rw [z, h] at e; cases e
    rw [upd_ne z]; exact gr.hs b u n e
  ex := fun b e => by
    by_cases z : b = a
    · rw [z]; exact h
    · rw [upd_ne z] at e; exact gr.ex b e
  fs := gr.fs
  fit := fun b u e => by
    have z : b ≠ a := fun z => by rw [z, h1] at e; cases e
    rw [upd_ne z]; exact gr.fit b u e
  new := gr.new
theorem dicAt_obj {a : Addr} {kvs : List (PyData × PyData)} (h : DicAt K w F H a kvs) : ∃ o, H a = some o := by
  obtain ⟨o, es, ep, h1, _⟩ := h
  exact ⟨_, h1⟩
theorem tN_of {e : E} (hp : isPk e = false) (h : tE g call X W e σ H Q) : tN g call X W e σ H Q := by
  obtain ⟨A, H0, F0, ρ, F, ω, r, q⟩ := h
  refine ⟨A, H0, F0, ρ, F, ω, r, ?_⟩
  cases ev : evalE g.gt call e ρ ω with
  | exc => rw [ev] at q; exact q
  | stuck => rw [ev] at q; exact q
  | ok d ω1 =>
    rw [ev] at q
    intro H' F' gr st v hv
    have q : ∀ H' F', Grow (ExA g A) H F H' F' → StOk g A H' F' ω1 → ∀ v, RepR X.K X.w (ExA g A) (isPk e) F' H' v d → Q v H' := q
    rw [hp] at q
    unfold RepN at hv
    cases ho : ownV true d with
    | false => rw [ho, if_neg Bool.false_ne_true] at hv; exact q H' F' gr st v hv
    | true =>
      rw [ho, if_pos rfl] at hv
      obtain ⟨a, rfl, h1, h2, h3⟩ := hv
      have nA := r.st.nA h1
      cases d with
      | list ds =>
        obtain ⟨vs, e1, e2⟩ := h3
        have sm : Same F' (upd F' a (.lst vs)) := same_upd h2
        exact q H' (upd F' a (.lst vs)) (gr.frz h1 h2 e1) (st.frz nA h2) _ (.dat (.lst upd_same (dpAll_mono sm _ _ e2)))
      | dict kvs =>
        obtain ⟨o, e1⟩ := dicAt_obj h3
        have sm : Same F' (upd F' a o) := same_upd h2
        refine q H' (upd F' a o) (gr.frz h1 h2 e1) (st.frz nA h2) _ (.dic ?_)
        refine dicAt_mono sm (fun u hu => ?_) h3
        rw [upd_same, ← e1]; exact hu
      | _ => cases ho
/-! results -/
theorem RPost.sig {r : R α} (h : RPost g K (fun _ _ _ _ => False) σ A H F r ok) : RPost g K W σ' A H F r ok := by
  cases r with
  | ok a ω => exact h
  | exc c p ω => exact fun H' F' dx g2 st pk => (h H' F' dx g2 st pk).elim
  | stuck => exact h
theorem RPost.nox {m : M α} (h : RPost g K W σ A H F (M.noexc m ω) ok) : RPost g K (fun _ _ _ _ => False) σ A H F (m ω) ok := by
  have e : M.noexc m ω = (match m ω with | .ok a w' => .ok a w' | _ => .stuck) := rfl
  rw [e] at h
  cases q : m ω with
  | ok a w' => rw [q] at h; exact h
  | exc => rw [q] at h; exact h.elim
  | stuck => rw [q] at h; exact h
theorem RPost.bindB {m : M α} {f : α → M β} {ok : β → Orc → Hp → Hp → Prop} (h : RPost g K W σ A H F ((m >>= f) ω) ok) : RPost g K W σ A H F (m ω) (fun a ω1 _ _ => RPost g K W σ A H F (f a ω1) ok) := by
  have e : (m >>= f) ω = (match m ω with | .ok a w' => f a w' | .exc c p w' => .exc c p w' | .stuck => .stuck) := rfl
  rw [e] at h
  cases q : m ω with
  | ok a ω1 => rw [q] at h; exact fun H' F' gr st => h
  | exc c p ω1 => rw [q] at h; exact h
  | stuck => rw [q] at h; exact h
theorem asg_res : ∀ (t : Tg) (o : Bool) (d : PyData) (ρ : Env) (ω : Orc), (∃ ρ', asgT t o d ρ ω = .ok ρ' ω) ∨ asgT t o d ρ ω = .stuck
  | .nm i, o, d, ρ, ω => .inl ⟨_, rfl⟩
  | .t0, o, d, ρ, ω => by
    cases d with
    | tuple ds => cases ds with
      | nil => exact .inl ⟨_, rfl⟩
      | cons => exact .inr rfl
    | _ => exact .inr rfl
  | .tc a b, o, d, ρ, ω => by
    cases d with
    | tuple ds => cases ds with
      | nil => exact .inr rfl
      | cons x xs =>
        have e : asgT (.tc a b) o (.tuple (x :: xs)) ρ ω = M.bnd (asgT a false x ρ) (fun r => asgT b false (.tuple xs) r) ω := rfl
        rw [e]
        unfold M.bnd
        rcases asg_res a false x ρ ω with ⟨r, e1⟩ | e1
        · rw [e1]; exact asg_res b false (.tuple xs) r ω
        · rw [e1]; exact .inr rfl
    | _ => exact .inr rfl
theorem RPost.asg {t : Tg} {o : Bool} {d : PyData} {f : Env → M α} (h : RPost g K W σ A H F ((asgT t o d ρ >>= f) ω) ok) : ∃ ρ', asgT t o d ρ ω = .ok ρ' ω ∧ RPost g K W σ A H F (f ρ' ω) ok := by
  have e : (asgT t o d ρ >>= f) ω = M.bnd (asgT t o d ρ) f ω := rfl
  rw [e] at h
  unfold M.bnd at h
  rcases asg_res t o d ρ ω with ⟨r, e1⟩ | e1
  · rw [e1] at h; exact ⟨r, e1, h⟩
  · rw [e1] at h; exact h.elim
theorem wipe_wipe : ∀ (vs : List Nat) (σ : L2.St), wipe (wipe σ vs) vs = wipe σ vs := by
  have go : ∀ (us vs : List Nat) (σ : L2.St), (∀ i ∈ us, i ∈ vs) → wipe (wipe σ us) vs = wipe σ vs := by
    intro us
    induction us with
    | nil => intro vs σ _; rfl
    | cons u us ih =>
      intro vs σ h
      show wipe ((wipe σ us).set u none) vs = _
      rw [wipe_set (h u List.mem_cons_self)]
      exact ih vs σ fun i hi => h i (List.mem_cons_of_mem _ hi)
  exact fun vs σ => go vs vs σ fun _ h => h
/-! tests -/
def tTs (g : G) (call : Nat → List Slot → M PyData) (X : Cx) (W : WX) (ts : Es) : TT := fun σ H Q => ∃ A H0 F0 ρ F ω, Rel g X.K X.w A H0 F0 ρ σ H F ω ∧
  RPost g X.K W σ A H F (evalT g.gt call ts ρ ω) (fun b _ H' F' => Q b H')
theorem ts0_rd {Q : Bool → Hp → Prop} (h : tTs g call X W .nil σ H Q) : tYes σ H Q := by
  obtain ⟨A, H0, F0, ρ, F, ω, r, q⟩ := h
  rw [evalT] at q
  exact q H F (Grow.refl r.fit) r.st
theorem ts1_rd {t : E} {Q : Bool → Hp → Prop} (h : tTs g call X W (.cons t .nil) σ H Q) : tT g call X W t σ H Q := by
  obtain ⟨A, H0, F0, ρ, F, ω, r, q⟩ := h
  rw [evalT] at q
  have : (evalE g.gt call t ρ >>= fun x => M.ofO (tru x) >>= fun b => if b = true then evalT g.gt call .nil ρ else pure false) = (evalE g.gt call t ρ >>= fun x => M.ofO (tru x)) := by
    congr 1
    funext x
    cases tru x with
    | none => rfl
    | some b => cases b <;> rfl
  rw [this] at q
  exact ⟨A, H0, F0, ρ, F, ω, r, q⟩
/-! [e for t in it if ts] -/
def bodyM (gt : Nat → Option PyData) (call : Nat → List Slot → M PyData) (t : Tg) (ts : Es) (e : E) (ρ : Env) (x : PyData) : M (Option PyData) := do
  let ρ' ← asgT t false x ρ
  let b ← evalT gt call ts ρ'
  if b = true then do let y ← evalE gt call e ρ'; M.guard (okEl y) (pure (some y)) else pure none
theorem evalE_comp {gt : Nat → Option PyData} {t : Tg} {it : E} {ts : Es} {e : E} : evalE gt call (.comp t it ts e) ρ = M.noexc ((evalE gt call it ρ >>= fun d => M.ofO (itemsOf d)) >>= fun xs => M.guard (decide (xs.length ≤ 1000000)) (compM (bodyM gt call t ts e (clr (tgS t) ρ)) xs >>= fun ys => pure (.list ys))) := by
  rw [evalE, M.bnd_assoc]
  rfl
theorem drop_cons {l : List α} {i : Nat} {x : α} (h : l[i]? = some x) : l.drop i = x :: l.drop (i + 1) := by
  obtain ⟨hi, e⟩ := List.getElem?_eq_some_iff.mp h
  rw [List.drop_eq_getElem_cons hi, e]
abbrev W0 : WX := fun _ _ _ _ => False
theorem comp_rd {t : Tg} {it : E} {ts : Es} {e : E} (he : isPk e = false) (h : tN g call X W (.comp t it ts e) σ H Q) :
    tLc (tI g call X W false it) (tG g X (tgS t) t) (tTs g call X W0 ts) (tE g call X W0 e) (tgS t) σ H Q := by
  obtain ⟨A, H0, F0, ρ, F, ω, r, q⟩ := h
  rw [evalE_comp] at q
  have q := RPost.nox q
  refine ⟨A, H0, F0, ρ, F, ω, r, (RPost.sig (RPost.bind q)).imp fun xs ω1 H1 F1 g1 s1 q2 J hJ => ?_⟩
  obtain ⟨hlen, q2⟩ := RPost.guard q2
  have hlen : xs.length ≤ 1000000 := of_decide_eq_true hlen
  intro D hD
  have nD : ¬ ExA g A D := s1.nA hD
  have hHD : H D = none := g1.ex _ hD
  let Inv : Nat → Nat → Hp → Prop := fun i m H' => ∃ F' ω' acc ds, i ≤ xs.length ∧ m = xs.length - i ∧ Grow (ExA g A) H1 F1 H' F' ∧ StOk g A H' F' ω' ∧ H' D = some (.lst acc) ∧ F' D = none ∧ acc.length ≤ i ∧ DqAll X.K F' acc ds ∧
    RPost g X.K W0 σ A H1 F1 ((compM (bodyM g.gt call t ts e (clr (tgS t) ρ)) (xs.drop i) >>= fun ys => pure (PyData.list (ds ++ ys))) ω') (fun d _ H' F' => ∀ v, RepN X.K X.w H F' H' v d → Q v H')
  have fD : F1 D = none := g1.fit.none hD
  have e0 : Ext H1 F1 (upd H1 D (.lst [])) F1 := Ext.mk0 g1.fit hD
  refine ⟨Inv, ⟨xs.length, F1, ω1, [], [], Nat.zero_le _, by simp, e0.grow, s1.ext e0, upd_same, fD, Nat.le_refl _, .nil, ?_⟩, ?_⟩
  · rw [List.drop_zero]; exact q2
  rintro i m H2 ⟨F2, ω2, acc, ds, hi, rfl, g2, s2, hd2, fd2, hac, hds, q3⟩
  by_cases hlt : i < xs.length
  case neg =>
    have ei : i = xs.length := by omega
    refine .inl ⟨by rw [ei]; exact hJ.stop H2 F2 (Pz.of g2), ?_⟩
    rw [ei, List.drop_length] at q3
    have q4 : RPost g X.K W0 σ A H1 F1 ((pure (PyData.list (ds ++ [])) : M PyData) ω2) _ := q3
    refine q4 H2 F2 g2 s2 _ ?_
    rw [List.append_nil]
    exact ⟨D, rfl, hHD, fd2, acc, hd2, hds⟩
  have ex : xs[i]? = some xs[i] := List.getElem?_eq_getElem hlt
  obtain ⟨hgo, hy⟩ := hJ.go i H2 F2 xs[i] (Pz.of g2) ex
  refine .inr ⟨hgo, fun H' => Inv (i + 1) (xs.length - (i + 1)) H', fun H' h => ⟨_, by omega, h⟩, fun x H3 yl => ?_⟩
  obtain ⟨F3, e3, rx⟩ := hy x H3 yl
  rw [drop_cons ex] at q3
  have q3 : RPost g X.K W0 σ A H1 F1 (((bodyM g.gt call t ts e (clr (tgS t) ρ) xs[i] >>= fun o => match o with
      | none => compM (bodyM g.gt call t ts e (clr (tgS t) ρ)) (xs.drop (i + 1))
      | some y => do pure (y :: (← compM (bodyM g.gt call t ts e (clr (tgS t) ρ)) (xs.drop (i + 1))))) >>= fun ys => pure (PyData.list (ds ++ ys))) ω2) (fun d _ H' F' => ∀ v, RepN X.K X.w H F' H' v d → Q v H') := q3
  unfold bodyM at q3
  simp only [M.bnd_assoc] at q3
  obtain ⟨ρ2, ea, q4⟩ := RPost.asg q3
  have g3 := g2.trans e3.grow
  have s3 := s2.ext e3
  have r3 : Rel g X.K X.w A H0 F0 (clr (tgS t) ρ) (wipe σ (tgS t)) H3 F3 ω2 := ((r.grow g1 s1).grow g3 s3).clr _
  have hd3 : H3 D = some (.lst acc) := e3.grow.hs (Ex := ExA g A) _ _ nD hd2
  have fd3 : F3 D = none := (e3.grow (Ex := ExA g A)).nf fd2 hd2
  refine ⟨A, H0, F0, _, F3, ω2, _, _, r3, rx, ea, fun _ h => h, fun σ2 hw r4 => ⟨by rw [hw, wipe_wipe], ?_⟩⟩
  refine ⟨A, H0, F0, ρ2, F3, ω2, r4, ((RPost.sig (RPost.bindB q4)).mono g3).imp fun b ω4 H4 F4 g4 s4 q5 => ?_⟩
  have hd4 : H4 D = some (.lst acc) := g4.hs _ _ nD hd3
  have fd4 : F4 D = none := g4.nf fd3 hd3
  cases b with
  | false =>
    rw [if_neg Bool.false_ne_true] at q5
    show Inv (i + 1) (xs.length - (i + 1)) H4
    exact ⟨F4, ω4, acc, ds, hlt, rfl, g3.trans g4, s4, hd4, fd4, by omega, dpAll_mono (e3.fs.trans g4.fs) _ _ hds, q5⟩
  | true =>
    rw [if_pos rfl] at q5
    simp only [M.bnd_assoc] at q5
    show tE g call X W0 e σ2 H4 _
    refine ⟨A, H0, F0, ρ2, F4, ω4, r4.grow g4 s4, ((RPost.sig (RPost.bindB q5)).mono (g3.trans g4)).imp fun y ω5 H5 F5 g5 s5 q6 v rv => ?_⟩
    rw [he] at rv
    have hd5 : H5 D = some (.lst acc) := g5.hs _ _ nD hd4
    have fd5 : F5 D = none := g5.nf fd4 hd4
    refine ⟨acc, hd5, by rw [sizeLine_eq]; omega, ?_⟩
    have hk : okEl y = true ∧ RPost g X.K W0 σ A H1 F1 ((compM (bodyM g.gt call t ts e (clr (tgS t) ρ)) (xs.drop (i + 1)) >>= fun ys => pure (PyData.list (ds ++ [y] ++ ys))) ω5) (fun d _ H' F' => ∀ v, RepN X.K X.w H F' H' v d → Q v H') := by
      cases hk : okEl y with
      | false => rw [hk] at q6; exact q6.elim
      | true =>
        rw [hk] at q6
        refine ⟨rfl, ?_⟩
        have : (compM (bodyM g.gt call t ts e (clr (tgS t) ρ)) (xs.drop (i + 1)) >>= fun ys => (pure (PyData.list (ds ++ [y] ++ ys)) : M PyData)) = compM (bodyM g.gt call t ts e (clr (tgS t) ρ)) (xs.drop (i + 1)) >>= fun ys => pure (PyData.list (ds ++ y :: ys)) := by
          congr 1
          funext ys
          rw [List.append_assoc]; rfl
        rw [this]
        have q6 : RPost g X.K W0 σ A H1 F1 (((compM (bodyM g.gt call t ts e (clr (tgS t) ρ)) (xs.drop (i + 1)) >>= fun ys => pure (y :: ys)) >>= fun ys => pure (PyData.list (ds ++ ys))) ω5) (fun d _ H' F' => ∀ v, RepN X.K X.w H F' H' v d → Q v H') := q6
        rw [M.bnd_assoc] at q6
        exact q6
    have hdq : Dq X.K F5 v y := by
      cases rv with
      | dat h => exact h
      | dic h => exact absurd hk.1 (by simp [okEl, isDic])
    refine ⟨F5, ω5, acc ++ [v], ds ++ [y], hlt, rfl, ((g3.trans g4).trans g5).updN hD fd5, s5.upd nD fd5, upd_same, fd5, by rw [List.length_append]; simp; omega, dpa_app (dpAll_mono ((e3.fs.trans g4.fs).trans g5.fs) _ _ hds) (.cons hdq .nil), hk.2⟩
end
end Wv

set_option autoImplicit false
set_option linter.all false
set_option maxRecDepth 100000
set_option maxHeartbeats 4000000
namespace Wv
open PySem PySem.Spec PyProof.Rows L2
/-! views of the tree -/
section
abbrev PX := PySem.Expr
def vName (x : PX) (k : Str → Bool) : Bool := match x with
  | .Name n _ => k n
  | _ => false
theorem vName_of {x : PX} {k : Str → Bool} (h : vName x k = true) : ∃ n p, x = .Name n p ∧ k n = true := by
  unfold vName at h; split at h
  · exact ⟨_, _, rfl, h⟩
  · cases h
def vConst (x : PX) (k : Const → Bool) : Bool := match x with
  | .Constant n _ _ => k n
  | _ => false
theorem vConst_of {x : PX} {k : Const → Bool} (h : vConst x k = true) : ∃ n j p, x = .Constant n j p ∧ k n = true := by
  unfold vConst at h; split at h
  · exact ⟨_, _, _, rfl, h⟩
  · cases h
def vBin (o : Bop) (x : PX) (k : PX → PX → Bool) : Bool := match x with
  | .BinOp l p r _ => isBin o == some p && k l r
  | .Compare l [p] [r] _ => isCmp o == some p && !(behindInMarks p r) && k l r
  | _ => false
theorem vBin_of {o : Bop} {x : PX} {k : PX → PX → Bool} (h : vBin o x k = true) : (∃ l p r q, x = .BinOp l p r q ∧ isBin o = some p ∧ k l r = true) ∨ ∃ l p r q, x = .Compare l [p] [r] q ∧ isCmp o = some p ∧ behindInMarks p r = false ∧ k l r = true := by
  unfold vBin at h; split at h
  · obtain ⟨h1, h2⟩ := Bool.and_eq_true_iff.mp h
    exact .inl ⟨_, _, _, _, rfl, eq_of_beq h1, h2⟩
  · obtain ⟨h1, h2⟩ := Bool.and_eq_true_iff.mp h
    obtain ⟨h3, h4⟩ := Bool.and_eq_true_iff.mp h1
    exact .inr ⟨_, _, _, _, rfl, eq_of_beq h3, by simpa using h4, h2⟩
  · cases h
def vCmp2 (o1 o2 : Bop) (x : PX) (k : PX → PX → PX → Bool) : Bool := match x with
  | .Compare l [p1, p2] [r, t] _ => isCmp o1 == some p1 && isCmp o2 == some p2 && !(lastMarks [p1, p2] [r, t]) && k l r t
  | _ => false
theorem vCmp2_of {o1 o2 : Bop} {x : PX} {k : PX → PX → PX → Bool} (h : vCmp2 o1 o2 x k = true) : ∃ l p1 p2 r t q, x = .Compare l [p1, p2] [r, t] q ∧ isCmp o1 = some p1 ∧ isCmp o2 = some p2 ∧ lastMarks [p1, p2] [r, t] = false ∧ k l r t = true := by
  unfold vCmp2 at h; split at h
  · simp only [Bool.and_eq_true, Bool.not_eq_true', beq_iff_eq] at h
    exact ⟨_, _, _, _, _, _, rfl, h.1.1.1, h.1.1.2, h.1.2, h.2⟩
  · cases h
def vNeg (x : PX) (k : PX → Bool) : Bool := match x with
  | .UnaryOp .USub y _ => k y
  | _ => false
theorem vNeg_of {x : PX} {k : PX → Bool} (h : vNeg x k = true) : ∃ y p, x = .UnaryOp .USub y p ∧ k y = true := by
  unfold vNeg at h; split at h
  · exact ⟨_, _, rfl, h⟩
  · cases h
def vNot (x : PX) (k : PX → Bool) : Bool := match x with
  | .UnaryOp .Not y _ => k y
  | _ => false
theorem vNot_of {x : PX} {k : PX → Bool} (h : vNot x k = true) : ∃ y p, x = .UnaryOp .Not y p ∧ k y = true := by
  unfold vNot at h; split at h
  · exact ⟨_, _, rfl, h⟩
  · cases h
def vBool (a : Bool) (x : PX) (k : List PX → Bool) : Bool := match x with
  | .BoolOp .And xs _ => a && k xs
  | .BoolOp .Or xs _ => !a && k xs
  | _ => false
theorem vBool_of {a : Bool} {x : PX} {k : List PX → Bool} (h : vBool a x k = true) : ∃ xs p, x = .BoolOp (if a = true then .And else .Or) xs p ∧ k xs = true := by
  unfold vBool at h; split at h
  · obtain ⟨rfl, h2⟩ := Bool.and_eq_true_iff.mp h
    exact ⟨_, _, rfl, h2⟩
  · obtain ⟨h1, h2⟩ := Bool.and_eq_true_iff.mp h
    cases a with
    | true => cases h1
    | false => exact ⟨_, _, rfl, h2⟩
  · cases h
def vIf (x : PX) (k : PX → PX → PX → Bool) : Bool := match x with
  | .IfExp t a b _ => k t a b
  | _ => false
theorem vIf_of {x : PX} {k : PX → PX → PX → Bool} (h : vIf x k = true) : ∃ t a b p, x = .IfExp t a b p ∧ k t a b = true := by
  unfold vIf at h; split at h
  · exact ⟨_, _, _, _, rfl, h⟩
  · cases h
def vTup (x : PX) (k : List PX → Bool) : Bool := match x with
  | .Tuple xs _ _ => k xs
  | _ => false
theorem vTup_of {x : PX} {k : List PX → Bool} (h : vTup x k = true) : ∃ xs j p, x = .Tuple xs j p ∧ k xs = true := by
  unfold vTup at h; split at h
  · exact ⟨_, _, _, rfl, h⟩
  · cases h
def vLst (x : PX) (k : List PX → Bool) : Bool := match x with
  | .List xs _ => k xs
  | _ => false
theorem vLst_of {x : PX} {k : List PX → Bool} (h : vLst x k = true) : ∃ xs p, x = .List xs p ∧ k xs = true := by
  unfold vLst at h; split at h
  · exact ⟨_, _, rfl, h⟩
  · cases h
def vIx (x : PX) (k : PX → PX → Bool) : Bool := match x with
  | .Subscript a b _ => k a b
  | _ => false
theorem vIx_of {x : PX} {k : PX → PX → Bool} (h : vIx x k = true) : ∃ a b p, x = .Subscript a b p ∧ k a b = true := by
  unfold vIx at h; split at h
  · exact ⟨_, _, _, rfl, h⟩
  · cases h
def vCall (x : PX) (k : Str → List PX → Bool) : Bool := match x with
  | .Call (.Name f _) xs [] _ => k f xs
  | _ => false
theorem vCall_of {x : PX} {k : Str → List PX → Bool} (h : vCall x k = true) : ∃ f p xs q, x = .Call (.Name f p) xs [] q ∧ k f xs = true := by
  unfold vCall at h; split at h
  · exact ⟨_, _, _, _, rfl, h⟩
  · cases h
def v1 (xs : List PX) (k : PX → Bool) : Bool := match xs with
  | [a] => noStar a && k a
  | _ => false
theorem v1_of {xs : List PX} {k : PX → Bool} (h : v1 xs k = true) : ∃ a, xs = [a] ∧ noStar a = true ∧ k a = true := by
  unfold v1 at h; split at h
  · obtain ⟨h1, h2⟩ := Bool.and_eq_true_iff.mp h
    exact ⟨_, rfl, h1, h2⟩
  · cases h
def v2 (xs : List PX) (k : PX → PX → Bool) : Bool := match xs with
  | [a, b] => noStar a && noStar b && k a b
  | _ => false
theorem v2_of {xs : List PX} {k : PX → PX → Bool} (h : v2 xs k = true) : ∃ a b, xs = [a, b] ∧ noStar a = true ∧ noStar b = true ∧ k a b = true := by
  unfold v2 at h; split at h
  · simp only [Bool.and_eq_true] at h
    exact ⟨_, _, rfl, h.1.1, h.1.2, h.2⟩
  · cases h
def vComp (x : PX) (k : PX → PX → PX → List PX → Scope → Bool) : Bool := match x with
  | .ListComp elt [⟨tg, it, ifs, 0⟩] sc _ => k elt tg it ifs sc
  | _ => false
theorem vComp_of {x : PX} {k : PX → PX → PX → List PX → Scope → Bool} (h : vComp x k = true) : ∃ elt tg it ifs sc p, x = .ListComp elt [⟨tg, it, ifs, 0⟩] sc p ∧ k elt tg it ifs sc = true := by
  unfold vComp at h; split at h
  · exact ⟨_, _, _, _, _, _, rfl, h⟩
  · cases h
def noSet : PX → Bool
  | .Set .. => false
  | _ => true
end
/-! does the tree say what the plain text says -/
def okT (e : E) (x : PX) : Bool := match e with
  | .not_ _ | .bin .. | .chain .. | .bo .. => true
  | _ => plainT x
def isIt : E → Bool
  | .rng _ | .rev _ | .enm _ | .zp .. | .zp3 .. | .items _ | .vals _ | .setof _ => true
  | _ => false
/-- a value that stands by itself -/
def vl (e : E) : Bool := !isPk e && !isIt e
def ownOf (N : List Str) (vs : List Nat) : List (Str × Nat) := vs.filterMap fun i => (N[i]?).map fun x => (x, i)
def okP1 : P1 → Bool
  | .len | .abs | .int | .sum => true
  | _ => false
def glc (sc : Scope) (x : Str) (y : String) : Bool := (x == Str.ofString y) && glB sc x
def endB {α : Type} (es : Es) (a b : α) : α := match es with
  | .nil => a
  | .cons _ _ => b
def argB (c : Ck) (e : E) (sc : Scope) (x : PX) (r : Bool) : Bool := match e with
  | .gfn f => vName x fun n => (c.fn[f]? == some n) && glB sc n && plainN n
  | _ => r
def len12 : Es → Bool
  | .cons _ .nil => true
  | .cons _ (.cons _ .nil) => true
  | _ => false
mutual
def chkE (c : Ck) : E → Scope → PX → Bool
  | .var i, sc, x => vName x (varB c sc i)
  | .pk i, sc, x => vName x (varB c sc i)
  | .lit d, _, x => vConst x (litB d)
  | .bin o a b, sc, x => vBin o x fun l r => chkE c a sc l && chkE c b sc r && !isIt a && !isIt b
  | .chain o1 o2 a b d, sc, x => vCmp2 o1 o2 x fun l r t => chkE c a sc l && chkE c b sc r && chkE c d sc t && !isIt a && !isIt b && !isIt d
  | .neg a, sc, x => vNeg x fun y => chkE c a sc y && !isIt a
  | .not_ a, sc, x => vNot x fun y => chkE c a sc y && !isIt a && okT a y
  | .bo k es, sc, x => vBool k x fun xs => chkBs c es sc xs
  | .ite t a b, sc, x => vIf x fun y z u => chkE c t sc y && !isIt t && okT t y && chkE c a sc z && vl a && chkE c b sc u && vl b
  | .tup es, sc, x => vTup x fun xs => chkEs c es sc xs && decide (xs.length ≤ 1000)
  | .lst es, sc, x => vLst x fun xs => chkEs c es sc xs && decide (xs.length ≤ 1000)
  | .ix a b, sc, x => vIx x fun y z => chkE c a sc y && chkE c b sc z && noSlice z && !isIt a && !isIt b
  | .call f b es, sc, x => vCall x fun n xs => !b && (c.fn[f]? == some n) && glB sc n && plainN n && chkAs c es sc xs && !xs.isEmpty
  | .draw i e, sc, x => vCall x fun n xs => v2 xs fun y z => vName y (varB c sc i) && chkE c e sc z && vl e && (match c.dk with | some k => c.fn[k]? == some n | none => false) && glB sc n && plainN n
  | .sget i k, sc, x => vIx x fun y z => vName y (varB c sc i) && vConst z fun w => litB (.int (k : Nat)) w
  | .slen i, sc, x => vCall x fun n xs => glc sc n "len" && v1 xs fun y => vIx y fun z u => vName z (varB c sc i) && vConst u fun w => litB (.int 2) w
  | .scell i j, sc, x => vIx x fun y v => vName v (varB c sc j) && vIx y fun z u => vName z (varB c sc i) && vConst u fun w => litB (.int 2) w
  | .b1 p a, sc, x => vCall x fun n xs => glc sc n (p1Name p) && okP1 p && v1 xs fun y => chkE c a sc y && !isIt a
  | .isa a t, sc, x => vCall x fun n xs => glc sc n "isinstance" && v2 xs fun y z => chkE c a sc y && !isIt a && vName z fun m => glc sc m (tyN t)
  | .rng es, sc, x => vCall x fun n xs => glc sc n "range" && chkEs c es sc xs && len12 es
  | .comp t it ts e, sc, x => vComp x fun elt tg iter ifs sc2 => chkE c it sc iter && noSet iter && chkTg c (fun x => sc2.names.lookup x == some .cell) (relS sc2 sc) t tg &&
      blkC c.N sc sc2 (ownOf c.N (tgS t)) && ((ownOf c.N (tgS t)).map (·.2) == tgS t) && chkTs c ts (relS sc2 sc) ifs && chkE c e (relS sc2 sc) elt && vl e
  | _, _, _ => false
def chkEs (c : Ck) : Es → Scope → List PX → Bool
  | .nil, _, xs => xs.isEmpty
  | .cons e es, sc, xs => match xs with
    | [] => false
    | x :: xs => chkE c e sc x && noStar x && vl e && chkEs c es sc xs
/-- tests, with and, or -/
def chkBs (c : Ck) : Es → Scope → List PX → Bool
  | .nil, _, _ => false
  | .cons e es, sc, xs => match xs with
    | [] => false
    | x :: xs => chkE c e sc x && vl e && okT e x && endB es xs.isEmpty (chkBs c es sc xs)
def chkTs (c : Ck) : Es → Scope → List PX → Bool
  | .nil, _, xs => xs.isEmpty
  | .cons e es, sc, xs => match xs with
    | [x] => chkE c e sc x && !isIt e && okT e x && endB es true false
    | _ => false
/-- arguments -/
def chkAs (c : Ck) : Es → Scope → List PX → Bool
  | .nil, _, xs => xs.isEmpty
  | .cons e es, sc, xs => match xs with
    | [] => false
    | x :: xs => argB c e sc x (chkE c e sc x && vl e) && noStar x && chkAs c es sc xs
end
end Wv

set_option autoImplicit false
set_option linter.all false
set_option maxRecDepth 100000
set_option maxHeartbeats 4000000
namespace Wv
open PySem PySem.Spec PyProof.Rows L2
section
variable {g : G} {c : Ck} {call : Nat → List Slot → M PyData} {X : Cx} {sc : Scope} {W : WX} {H : Hp} {Q : VK} {σ : L2.St}
theorem gl_of (G : Gd g c call X sc) {x : Str} (h : glB sc x = true) : Gl X x := by
  show X.env.scope.names.lookup x = some .globalImplicit
  rw [G.sc]
  exact eq_of_beq h
theorem glc_of {x : Str} {y : String} (h : glc sc x y = true) : x = Str.ofString y ∧ glB sc x = true := by
  obtain ⟨h1, h2⟩ := Bool.and_eq_true_iff.mp h
  exact ⟨eq_of_beq h1, h2⟩
theorem chain_eq {o1 o2 : Bop} {p1 p2 : CmpOp} (h1 : isCmp o1 = some p1) (h2 : isCmp o2 = some p2) {a b d : E} {Q : Bool → Hp → Prop} (h : tT g call X W (.chain o1 o2 a b d) σ H Q) :
    tTest (tChain (rB X.K X.w o1) (rB X.K X.w o2) (tE g call X W a) (tE g call X W b) (tE g call X W d)) σ H Q := by
  obtain ⟨A, H0, F0, ρ, F, ω, r, q⟩ := h
  rw [evalE, M.bnd_assoc] at q
  refine ⟨A, H0, F0, ρ, F, ω, r, (RPost.bind q).imp fun d1 ω1 H1 F1 g1 s1 q1 x rx => ?_⟩
  rw [M.bnd_assoc] at q1
  refine ⟨A, H0, F0, ρ, F1, ω1, r.grow g1 s1, (RPost.bind q1).imp fun d2 ω2 H2 F2 g2 s2 q2 y ry => ?_⟩
  cases e3 : bop o1 d1 d2 with
  | none => rw [e3] at q2; exact q2.elim
  | some d3 =>
    rw [e3] at q2
    obtain ⟨k, rfl⟩ := cmp_bool h1 e3
    refine ⟨_, F2, d1, d2, _, g2.fit, rx.p.grow g2, ry.p, e3, fun v H' F' e rv => ⟨k, (RepP.frz (Ex := fun _ => False) (H := H') rv).bool, ?_⟩⟩
    have q3 := q2.mono (H1 := H') (F1 := F') e.grow
    have s3 := s2.ext e
    cases k with
    | false => exact ⟨false, rfl, q3 H' F' (Grow.refl e.fit) s3⟩
    | true =>
      rw [if_pos rfl]
      have q3 : RPost g X.K W σ A H' F' (((evalE g.gt call d ρ >>= fun z => M.ofO (bop o2 d2 z)) >>= fun d => M.ofO (tru d)) ω2) (fun b _ H' F' => Q b H') := q3
      rw [M.bnd_assoc] at q3
      refine ⟨A, H0, F0, ρ, F', ω2, (r.grow g1 s1 |>.grow g2 s2).grow e.grow s3, (RPost.bind q3).imp fun d4 ω4 H4 F4 g4 s4 q4 z rz => ?_⟩
      cases e5 : bop o2 d2 d4 with
      | none => rw [e5] at q4; exact q4.elim
      | some d5 =>
        rw [e5] at q4
        obtain ⟨k2, rfl⟩ := cmp_bool h2 e5
        exact ⟨_, F4, d2, d4, _, g4.fit, (ry.p.grow e.grow).grow g4, rz.p, e5, fun v H5 F5 ex rv => ⟨k2, (RepP.frz (Ex := fun _ => False) (H := H5) rv).bool, q4 H5 F5 ex.grow (s4.ext ex)⟩⟩
/-- what is shown of an expression -/
def AllE (g : G) (c : Ck) (call : Nat → List Slot → M PyData) (e : E) : Prop := ∀ (X : Cx) (sc : Scope) (x : PX) (W : WX), Gd g c call X sc → Takes X W → chkE c e sc x = true →
  (isIt e = false → PE X x (tE g call X W e) ∧ (okT e x = true → PT X x (tT g call X W e))) ∧ ∀ (tg : PX) (z : Bool), (z && isPk e) = false → PI X tg x (tI g call X W z e)
theorem all_of {e : E} {x : PX} (hp : PE X x (tE g call X W e)) (ht : okT e x = true → PT X x (tT g call X W e)) :
    (isIt e = false → PE X x (tE g call X W e) ∧ (okT e x = true → PT X x (tT g call X W e))) ∧ ∀ (tg : PX) (z : Bool), (z && isPk e) = false → PI X tg x (tI g call X W z e) :=
  ⟨fun _ => ⟨hp, ht⟩, fun tg z hz => PI.wk (pi_seq hp) fun σ H R q => seq_rd hz q⟩
theorem all_pl {e : E} {x : PX} (hp : PE X x (tE g call X W e)) (h : okT e x = true → plainT x = true) :
    (isIt e = false → PE X x (tE g call X W e) ∧ (okT e x = true → PT X x (tT g call X W e))) ∧ ∀ (tg : PX) (z : Bool), (z && isPk e) = false → PI X tg x (tI g call X W z e) :=
  all_of hp fun ht => PT.wk (pt_plain hp (h ht)) fun σ H Q q => plainT_rd q
theorem p1_cr {p : P1} (G : Gd g c call X sc) (h : okP1 p = true) : (CallR X (.builtin (p1Name p)) (rP1 X.K X.w p) ∧ bootBuiltins (Str.ofString (p1Name p)) = some (.builtin (p1Name p))) ∨ (CallR X (.type (p1Name p)) (rP1 X.K X.w p) ∧ bootBuiltins (Str.ofString (p1Name p)) = some (.type (p1Name p))) := by
  cases p <;> try (cases h; done)
  · exact .inl ⟨cr_len, by decide +kernel⟩
  · exact .inl ⟨cr_absD, by decide +kernel⟩
  · exact .inl ⟨cr_sumD G.calm, by decide +kernel⟩
  · exact .inr ⟨cr_int, by decide +kernel⟩
theorem b1_pe {p : P1} {a : E} {y : PX} {np q : Pos} (G : Gd g c call X sc) (h : okP1 p = true) (hg : glB sc (Str.ofString (p1Name p)) = true) (hy : noStar y = true) (hp : PE X y (tE g call X W a)) : PE X (.Call (.Name (Str.ofString (p1Name p)) np) [y] [] q) (tE g call X W (.b1 p a)) := by
  have hs : starEach [y] X.env = (false, eval y X.env) :: starEach [] X.env := star_of hy
  have hm := G.frn _ (p1_blt p)
  have n1 : Str.ofString (p1Name p) ≠ "__name__" := by cases p <;> decide
  have n2 : (Str.ofString (p1Name p) == ("__debug__" : Str)) = false := by cases p <;> decide
  rcases p1_cr (p := p) G h with ⟨h1, h2⟩ | ⟨h1, h2⟩
  · exact PE.wk (pe_callB h1 (gl_of G hg) hm h2 (pa_cons hp pa_nil hs) n1 n2 hs rfl) fun σ H Q q => b1_rdP q
  · exact PE.wk (pe_callTy h1 (gl_of G hg) hm h2 (pa_cons hp pa_nil hs) n1 n2 hs rfl) fun σ H Q q => b1_rdP q
theorem plainN_of {x : Str} (h : plainN x = true) : (x == ("__debug__" : Str)) = false := by
  unfold plainN at h
  simp only [Bool.and_eq_true, Bool.not_eq_true'] at h
  exact h.1.1
theorem any_as : ∀ (es : Es) (xs : List PX) {env : PySem.Env} {pos : Pos}, chkAs c es sc xs = true → (backTo pos (starEach xs env)).any (·.1) = false
  | .nil, [], _, _, _ => rfl
  | .nil, _ :: _, _, _, h => by simp [chkAs] at h
  | .cons e es, [], _, _, h => by simp [chkAs] at h
  | .cons e es, x :: xs, env, pos, h => by
    rw [chkAs] at h
    obtain ⟨h1, h2⟩ := Bool.and_eq_true_iff.mp h
    rw [star_of (Bool.and_eq_true_iff.mp h1).2]
    show (false || (backTo pos (starEach xs env)).any (·.1)) = false
    rw [any_as es xs h2]; rfl
theorem es_len : ∀ (es : Es) (xs : List PX), chkEs c es sc xs = true → lenEs es = xs.length
  | .nil, [], _ => rfl
  | .nil, _ :: _, h => by simp [chkEs] at h
  | .cons e es, [], h => by simp [chkEs] at h
  | .cons e es, x :: xs, h => by
    rw [chkEs, Bool.and_eq_true] at h
    rw [lenEs, es_len es xs h.2]; rfl
theorem vl_of {e : E} (h : vl e = true) : isPk e = false ∧ isIt e = false := by
  unfold vl at h
  simp only [Bool.and_eq_true, Bool.not_eq_true'] at h
  exact h
theorem blk_gd {s : Shared} {sc2 : Scope} {C : Addr} {cl : List (Str × Addr)} {fp : List Addr} (G : Gd g c call X sc) : Gd g c call (X.blk s H sc2 (compEnvC sc2 cl C X.env) fp) (relS sc2 sc) where
  sc := by rw [← G.sc]; rfl
  N := G.N
  nd := G.nd
  calm := G.calm
  fns := G.fns
  drw := G.drw
  rm := G.rm
  frn := G.frn
theorem noFold {x : PX} (h : noSet x = true) (env : PySem.Env) : ∀ v, foldedSetIterable x env v = pure v := by
  intro v
  cases x <;> first | rfl | cases h
end
end Wv

set_option autoImplicit false
set_option linter.all false
set_option maxRecDepth 100000
set_option maxHeartbeats 4000000
namespace Wv
open PySem PySem.Spec PyProof.Rows L2
section
variable {g : G} {c : Ck} {call : Nat → List Slot → M PyData}
theorem and3 {a b c : Bool} (h : (a && b && c) = true) : a = true ∧ b = true ∧ c = true := by
  simp only [Bool.and_eq_true] at h
  exact ⟨h.1.1, h.1.2, h.2⟩
theorem and2 {a b : Bool} (h : (a && b) = true) : a = true ∧ b = true := Bool.and_eq_true_iff.mp h
theorem nb {a : Bool} (h : (!a) = true) : a = false := by simpa using h
theorem lit_int {k : Const} {n : Nat} (h : litB (.int n) k = true) : k = .int n := by
  cases k with
  | int j => rw [← eq_of_beq (show (((n : Nat) : Int) == j) = true from h)]
  | _ => cases h
mutual
theorem snd : ∀ (e : E), AllE g c call e
  | .var i => fun X sc x W G tk h => by
    rw [chkE] at h
    obtain ⟨n, p, rfl, h⟩ := vName_of h
    exact all_pl (snd_var G h) fun _ => rfl
  | .pk i => fun X sc x W G tk h => by
    rw [chkE] at h
    obtain ⟨n, p, rfl, h⟩ := vName_of h
    exact all_pl (snd_pk G h) fun _ => rfl
  | .lit d => fun X sc x W G tk h => by
    rw [chkE] at h
    obtain ⟨n, j, p, rfl, h⟩ := vConst_of h
    exact all_pl (snd_lit h) fun _ => rfl
  | .bin o a b => fun X sc x W G tk h => by
    rw [chkE] at h
    rcases vBin_of h with ⟨l, p, r, q, rfl, h1, h2⟩ | ⟨l, p, r, q, rfl, h1, hm, h2⟩
    · obtain ⟨h3, h6⟩ := and2 h2
      obtain ⟨h3, h5⟩ := and2 h3
      obtain ⟨h3, h4⟩ := and2 h3
      have pa := ((snd a X sc l W G tk h3).1 (nb h5)).1
      have pb := ((snd b X sc r W G tk h4).1 (nb h6)).1
      exact all_pl (PE.wk (pe_op (bin_ok h1) pa pb) fun σ H Q q => bin_rd q) fun _ => rfl
    · obtain ⟨h3, h6⟩ := and2 h2
      obtain ⟨h3, h5⟩ := and2 h3
      obtain ⟨h3, h4⟩ := and2 h3
      have pa := ((snd a X sc l W G tk h3).1 (nb h5)).1
      have pb := ((snd b X sc r W G tk h4).1 (nb h6)).1
      exact all_of (PE.wk (pe_cmpR (cmpR_ok G h1) pa pb hm) fun σ H Q q => bin_rd q) fun _ => PT.wk (pt_cmpR (cmpR_ok G h1) pa pb hm) fun σ H Q q => cmpT_rd h1 q
  | .chain o1 o2 a b d => fun X sc x W G tk h => by
    rw [chkE] at h
    obtain ⟨l, p1, p2, r, t, q, rfl, h1, h2, hm, h3⟩ := vCmp2_of h
    obtain ⟨h3, h9⟩ := and2 h3
    obtain ⟨h3, h8⟩ := and2 h3
    obtain ⟨h3, h7⟩ := and2 h3
    obtain ⟨h3, h6⟩ := and2 h3
    obtain ⟨h4, h5⟩ := and2 h3
    have pa := ((snd a X sc l W G tk h4).1 (nb h7)).1
    have pb := ((snd b X sc r W G tk h5).1 (nb h8)).1
    have pd := ((snd d X sc t W G tk h6).1 (nb h9)).1
    exact all_of (PE.wk (pe_chain (cmpR_ok G h1) (cmpR_ok G h2) pa pb pd hm) fun σ H Q q => chain_rd (p2 := p2) h1 q) fun _ => PT.wk (pt_chain (cmpR_ok G h1) (cmpR_ok G h2) pa pb pd hm) fun σ H Q q => chain_eq h1 h2 q
  | .neg a => fun X sc x W G tk h => by
    rw [chkE] at h
    obtain ⟨y, p, rfl, h⟩ := vNeg_of h
    obtain ⟨h1, h2⟩ := and2 h
    exact all_pl (PE.wk (pe_un un_neg ((snd a X sc y W G tk h1).1 (nb h2)).1) fun σ H Q q => neg_rd q) fun _ => rfl
  | .not_ a => fun X sc x W G tk h => by
    rw [chkE] at h
    obtain ⟨y, p, rfl, h⟩ := vNot_of h
    obtain ⟨h1, h2, h3⟩ := and3 h
    have q := (snd a X sc y W G tk h1).1 (nb h2)
    exact all_of (PE.wk (pe_notR q.1) fun σ H Q q => not_rd q) fun _ => PT.wk (pt_not (q.2 h3)) fun σ H Q q => notT_rd q
  | .bo k es => fun X sc x W G tk h => by
    rw [chkE] at h
    obtain ⟨xs, p, rfl, h2⟩ := vBool_of h
    have q := sndB es X sc xs W k p G tk h2
    exact all_of (PE.wk q.1 fun σ H Q q => bo_rd q) fun _ => PT.wk q.2.pt fun σ H Q q => boT_rd q
  | .ite t a b => fun X sc x W G tk h => by
    rw [chkE] at h
    obtain ⟨y, z, u, p, rfl, h⟩ := vIf_of h
    obtain ⟨h, h7⟩ := and2 h
    obtain ⟨h, h6⟩ := and2 h
    obtain ⟨h, h5⟩ := and2 h
    obtain ⟨h, h4⟩ := and2 h
    obtain ⟨h1, h2, h3⟩ := and3 h
    have pt := ((snd t X sc y W G tk h1).1 (nb h2)).2 h3
    have pa := ((snd a X sc z W G tk h4).1 (vl_of h5).2).1
    have pb := ((snd b X sc u W G tk h6).1 (vl_of h7).2).1
    exact all_pl (PE.wk (pe_ifExp pt pa pb) fun σ H Q q => ite_rd (vl_of h5).1 (vl_of h7).1 q) fun h => h
  | .tup es => fun X sc x W G tk h => by
    rw [chkE] at h
    obtain ⟨xs, j, p, rfl, h⟩ := vTup_of h
    obtain ⟨h1, h2⟩ := and2 h
    have hn : lenEs es ≤ sizeLine := by
      rw [es_len es xs h1, sizeLine_eq]
      exact Nat.le_trans (of_decide_eq_true h2) (by decide)
    exact all_pl (PE.wk (pe_tup (sndEs es X sc xs W G tk h1)) fun σ H Q q => tup_rd hn q) fun _ => rfl
  | .lst es => fun X sc x W G tk h => by
    rw [chkE] at h
    obtain ⟨xs, p, rfl, h⟩ := vLst_of h
    obtain ⟨h1, h2⟩ := and2 h
    have hn : lenEs es ≤ sizeLine := by
      rw [es_len es xs h1, sizeLine_eq]
      exact Nat.le_trans (of_decide_eq_true h2) (by decide)
    exact all_pl (PE.wk (pe_lst (sndEs es X sc xs W G tk h1)) fun σ H Q q => lst_rd hn q) fun _ => rfl
  | .ix a b => fun X sc x W G tk h => by
    rw [chkE] at h
    obtain ⟨y, z, p, rfl, h⟩ := vIx_of h
    obtain ⟨h, h5⟩ := and2 h
    obtain ⟨h, h4⟩ := and2 h
    obtain ⟨h1, h2, h3⟩ := and3 h
    have pa := ((snd a X sc y W G tk h1).1 (nb h4)).1
    have pb := ((snd b X sc z W G tk h2).1 (nb h5)).1
    exact all_pl (PE.wk (pe_ix (ixr_ok (by have := G.hu; omega)) pa pb (plainIx_of h3)) fun σ H Q q => ix_rd q) fun _ => rfl
  | .call f b es => fun X sc x W G tk h => by
    rw [chkE] at h
    obtain ⟨n, p, xs, q, rfl, h⟩ := vCall_of h
    obtain ⟨h, h6⟩ := and2 h
    obtain ⟨h, h5⟩ := and2 h
    obtain ⟨h, h4⟩ := and2 h
    obtain ⟨h1, h2, h3⟩ := and3 h
    have hb : b = false := by simpa using h1
    subst hb
    cases xs with
    | nil => cases h6
    | cons y ys =>
      obtain ⟨m, hr, hf⟩ := G.fns
      obtain ⟨fd, ps, f1, f2, f3, f4⟩ := hf f n (eq_of_beq h2)
      have pa := sndAs es X sc (y :: ys) W G tk h5
      have hs : noStar y = true := by
        cases es with
        | nil => simp [chkAs] at h5
        | cons e es => rw [chkAs] at h5; exact (and2 (and2 h5).1).2
      have ha : ∀ {pos : Pos}, (backTo pos (starEach ys X.env)).any (·.1) = false := fun {pos} => by
        cases es with
        | nil => simp [chkAs] at h5
        | cons e es => rw [chkAs] at h5; exact any_as es ys (and2 h5).2
      exact all_pl (PE.wk (pe_callS (E := WE W) f4 hr (gl_of G h3) f1 f2 f3 (fun σ => passAt tk σ) pa (plainN_of h4) (star_of hs) ha) fun σ H Q q => call_rd q) fun _ => rfl
  | .draw i e => fun X sc x W G tk h => by
    rw [chkE] at h
    obtain ⟨n, p, xs, q, rfl, h⟩ := vCall_of h
    obtain ⟨y, z, rfl, s1, s2, h⟩ := v2_of h
    obtain ⟨h, h6⟩ := and2 h
    obtain ⟨h, h5⟩ := and2 h
    obtain ⟨h, h4⟩ := and2 h
    obtain ⟨h1, h2, h3⟩ := and3 h
    obtain ⟨m, p2, rfl, h1⟩ := vName_of h1
    cases ek : c.dk with
    | none => rw [ek] at h4; cases h4
    | some k =>
      rw [ek] at h4
      obtain ⟨l, x2, fd, ps, hr, f0, f1, f2, f3, f4⟩ := G.drw k ek
      have e2 : x2 = n := by
        have := eq_of_beq h4
        rw [f0] at this
        exact Option.some.inj this
      subst e2
      have pz := ((snd e X sc z W G tk h2).1 (vl_of h3).2).1
      have pn := snd_name (pos := p2) G h1
      have pa : PA X [.Name m p2, z] (tDrawA g call X W i e) := pa_cons pn (pa_cons pz pa_nil (star_of s2)) (star_of s1)
      exact all_pl (PE.wk (pe_callS (E := WE W) f4 hr (gl_of G h5) f1 f2 f3 (fun σ => passAt tk σ) pa (plainN_of h6) (star_of s1) (by rw [star_of s2]; rfl)) fun σ H Q q => draw_rd (vl_of h3).1 q) fun _ => rfl
  | .sget i k => fun X sc x W G tk h => by
    rw [chkE] at h
    obtain ⟨y, z, p, rfl, h⟩ := vIx_of h
    obtain ⟨h1, h2⟩ := and2 h
    obtain ⟨m, p2, rfl, h1⟩ := vName_of h1
    obtain ⟨u, j, p3, rfl, h2⟩ := vConst_of h2
    have := lit_int h2
    subst this
    exact all_pl (PE.wk (pe_ix ix_list (snd_name G h1) pe_int (plainIx_of rfl)) fun σ H Q q => sget_rd q) fun _ => rfl
  | .slen i => fun X sc x W G tk h => by
    rw [chkE] at h
    obtain ⟨n, p, xs, q, rfl, h⟩ := vCall_of h
    obtain ⟨h1, h2⟩ := and2 h
    obtain ⟨y, rfl, s1, h2⟩ := v1_of h2
    obtain ⟨a, b, p4, rfl, h2⟩ := vIx_of h2
    obtain ⟨h3, h4⟩ := and2 h2
    obtain ⟨m, p2, rfl, h3⟩ := vName_of h3
    obtain ⟨u, j, p3, rfl, h4⟩ := vConst_of h4
    have := lit_int (n := 2) h4
    subst this
    obtain ⟨rfl, hg⟩ := glc_of h1
    have pi : PE X (.Subscript (.Name m p2) (.Constant (.int 2) j p3) p4) (tOp (rIxL X.K) (tVar i) (tC (.int 2))) := pe_ix ix_list (snd_name G h3) pe_int (plainIx_of rfl)
    refine all_pl (PE.wk (pe_callB (id := "len") (r := fun xs H Q => ∃ b zs, xs = [.ref b] ∧ SqL X.K H b zs ∧ Q (.int zs.length) H) (fun pins s σ H xs us Q I r ⟨b, zs, e1, e2, e3⟩ => ?_) (gl_of G hg) (G.frn "len" (by decide)) (by decide +kernel) (pa_cons pi pa_nil rfl) (by decide) (by decide) rfl rfl) fun σ H Q q => ?_) fun _ => rfl
    · exact call_len_seq pins s σ H xs us Q I r ⟨b, zs, e1, .inl e2, e3⟩
    · obtain ⟨v, h1, a, xs, i2, z, e1, e2, e3, e4, b, e5, zs, e6, e7⟩ := slen_rd q
      exact ⟨v, h1, a, xs, i2, z, e1, e2, e3, e4, b, zs, by rw [e5], e6, e7⟩
  | .scell i j => fun X sc x W G tk h => by
    rw [chkE] at h
    obtain ⟨y, z, p, rfl, h⟩ := vIx_of h
    obtain ⟨h1, h2⟩ := and2 h
    obtain ⟨m, p2, rfl, h1⟩ := vName_of h1
    obtain ⟨a, b, p4, rfl, h2⟩ := vIx_of h2
    obtain ⟨h3, h4⟩ := and2 h2
    obtain ⟨m2, p5, rfl, h3⟩ := vName_of h3
    obtain ⟨u, j, p3, rfl, h4⟩ := vConst_of h4
    have := lit_int (n := 2) h4
    subst this
    have pi : PE X (.Subscript (.Name m2 p5) (.Constant (.int 2) j p3) p4) (tOp (rIxL X.K) (tVar i) (tC (.int 2))) := pe_ix ix_list (snd_name G h3) pe_int (plainIx_of rfl)
    exact all_pl (PE.wk (pe_ix ix_list pi (snd_name G h1) (plainIx_of rfl)) fun σ H Q q => scell_rd q) fun _ => rfl
  | .b1 p a => fun X sc x W G tk h => by
    rw [chkE] at h
    obtain ⟨n, np, xs, q, rfl, h⟩ := vCall_of h
    obtain ⟨h1, h2, h3⟩ := and3 h
    obtain ⟨y, rfl, s1, h3⟩ := v1_of h3
    obtain ⟨h3, h4⟩ := and2 h3
    obtain ⟨rfl, hg⟩ := glc_of h1
    exact all_pl (b1_pe G h2 hg s1 ((snd a X sc y W G tk h3).1 (nb h4)).1) fun _ => rfl
  | .isa a t => fun X sc x W G tk h => by
    rw [chkE] at h
    obtain ⟨n, np, xs, q, rfl, h⟩ := vCall_of h
    obtain ⟨h1, h3⟩ := and2 h
    obtain ⟨y, z, rfl, s1, s2, h3⟩ := v2_of h3
    obtain ⟨h4, h5, h6⟩ := and3 h3
    obtain ⟨m, p2, rfl, h6⟩ := vName_of h6
    obtain ⟨rfl, hg⟩ := glc_of h1
    obtain ⟨rfl, hg2⟩ := glc_of h6
    have py := ((snd a X sc y W G tk h4).1 (nb h5)).1
    have pm : PE X (.Name (Str.ofString (tyN t)) p2) (tC (.ty (tyN t))) := pe_bltn (u := .type (tyN t)) (gl_of G hg2) (G.frn _ (by cases t <;> decide)) (by cases t <;> decide +kernel) rfl (by cases t <;> decide) (by cases t <;> decide)
    exact all_pl (PE.wk (pe_callB call_isi (gl_of G hg) (G.frn "isinstance" (by decide)) (by decide +kernel) (pa_cons py (pa_cons pm pa_nil rfl) (star_of s1)) (by decide) (by decide) (star_of s1) rfl) fun σ H Q q => isa_rd q) fun _ => rfl
  | .rng es => fun X sc x W G tk h => by
    rw [chkE] at h
    obtain ⟨n, np, xs, q, rfl, h⟩ := vCall_of h
    obtain ⟨h1, h2, h3⟩ := and3 h
    obtain ⟨rfl, hg⟩ := glc_of h1
    refine ⟨(fun z => by cases z), fun tg z _ => ?_⟩
    match es, h2, h3 with
    | .cons a .nil, h2, _ =>
      cases xs with
      | nil => simp [chkEs] at h2
      | cons y ys =>
        rw [chkEs] at h2
        obtain ⟨h2, h4⟩ := and2 h2
        obtain ⟨h5, h6, h7⟩ := and3 h2
        cases ys with
        | cons => simp [chkEs] at h4
        | nil =>
          have py := ((snd a X sc y W G tk h5).1 (vl_of h7).2).1
          exact PI.wk (pi_range1 (gl_of G hg) (G.frn "range" (by decide)) (pa_cons py pa_nil (star_of h6)) (star_of h6)) fun σ H R q => rng1_rd (vl_of h7).1 q
    | .cons a (.cons b .nil), h2, _ =>
      cases xs with
      | nil => simp [chkEs] at h2
      | cons y ys =>
        rw [chkEs] at h2
        obtain ⟨h2, h4⟩ := and2 h2
        obtain ⟨h5, h6, h7⟩ := and3 h2
        cases ys with
        | nil => simp [chkEs] at h4
        | cons y2 ys =>
          rw [chkEs] at h4
          obtain ⟨h8, h9⟩ := and2 h4
          obtain ⟨h10, h11, h12⟩ := and3 h8
          cases ys with
          | cons => simp [chkEs] at h9
          | nil =>
            have py := ((snd a X sc y W G tk h5).1 (vl_of h7).2).1
            have pz := ((snd b X sc y2 W G tk h10).1 (vl_of h12).2).1
            exact PI.wk (pi_range2 (gl_of G hg) (G.frn "range" (by decide)) (pa_cons py (pa_cons pz pa_nil (star_of h11)) (star_of h6)) (by rw [star_of h6, star_of h11]; rfl) (star_of h11)) fun σ H R q => rng2_rd (vl_of h7).1 (vl_of h12).1 q
  | .comp t it ts e => fun X sc x W G tk h => by
    rw [chkE] at h
    obtain ⟨elt, tg, iter, ifs, sc2, p, rfl, h⟩ := vComp_of h
    obtain ⟨h, h8⟩ := and2 h
    obtain ⟨h, h7⟩ := and2 h
    obtain ⟨h, h6⟩ := and2 h
    obtain ⟨h, h5⟩ := and2 h
    obtain ⟨h, h4⟩ := and2 h
    obtain ⟨h1, h2, h3⟩ := and3 h
    have hv := eq_of_beq h5
    have hi : PI X tg iter (tI g call X W false it) := (snd it X sc iter W G tk h1).2 tg false rfl
    have ok : BlkOk X.N X.env.scope sc2 (ownOf c.N (tgS t)) := by rw [G.N, G.sc]; exact blkOk_by h4
    have hp := pe_lc (pos := p) (wi := tI g call X W false it) (g := tG g X (tgS t) t) (tt := tTs g call X W0 ts) (te := tE g call X W0 e) G.calm (by rw [G.N]; exact G.nd) hi ok
      (fun s H C cl fp => snd_tg (X := X.blk s H sc2 (compEnvC sc2 cl C X.env) fp) (blk_gd G) (fun _ h => h) t tg h3)
      (fun s H C cl fp => sndTs ts (X.blk s H sc2 (compEnvC sc2 cl C X.env) fp) _ ifs W0 (blk_gd G) takes0 h6)
      (fun s H C cl fp => ((snd e (X.blk s H sc2 (compEnvC sc2 cl C X.env) fp) _ elt W0 (blk_gd G) takes0 h7).1 (vl_of h8).2).1)
      (noFold h2 _)
    rw [hv] at hp
    exact all_pl (PE.wk hp fun σ H Q q => comp_rd (vl_of h8).1 (tN_of rfl q)) fun _ => rfl
  | .glb _ => fun X sc x W G tk h => by simp [chkE] at h
  | .dic _ => fun X sc x W G tk h => by simp [chkE] at h
  | .sl .. => fun X sc x W G tk h => by simp [chkE] at h
  | .callv .. => fun X sc x W G tk h => by simp [chkE] at h
  | .gfn _ => fun X sc x W G tk h => by simp [chkE] at h
  | .b2 .. => fun X sc x W G tk h => by simp [chkE] at h
  | .mcount .. => fun X sc x W G tk h => by simp [chkE] at h
  | .mindex .. => fun X sc x W G tk h => by simp [chkE] at h
  | .mget .. => fun X sc x W G tk h => by simp [chkE] at h
  | .mjoin .. => fun X sc x W G tk h => by simp [chkE] at h
  | .msplit .. => fun X sc x W G tk h => by simp [chkE] at h
  | .rev _ => fun X sc x W G tk h => by simp [chkE] at h
  | .enm _ => fun X sc x W G tk h => by simp [chkE] at h
  | .zp .. => fun X sc x W G tk h => by simp [chkE] at h
  | .zp3 .. => fun X sc x W G tk h => by simp [chkE] at h
  | .items _ => fun X sc x W G tk h => by simp [chkE] at h
  | .vals _ => fun X sc x W G tk h => by simp [chkE] at h
  | .setof _ => fun X sc x W G tk h => by simp [chkE] at h
  | .comp2 .. => fun X sc x W G tk h => by simp [chkE] at h
  | .dcomp .. => fun X sc x W G tk h => by simp [chkE] at h
  | .dcomp2 .. => fun X sc x W G tk h => by simp [chkE] at h
  | .gen .. => fun X sc x W G tk h => by simp [chkE] at h
  | .gen2 .. => fun X sc x W G tk h => by simp [chkE] at h
  | .fstr _ => fun X sc x W G tk h => by simp [chkE] at h
theorem sndEs : ∀ (es : Es) (X : Cx) (sc : Scope) (xs : List PX) (W : WX), Gd g c call X sc → Takes X W → chkEs c es sc xs = true → PA X xs (tEs g call X W es)
  | .nil, X, sc, xs, W, G, tk, h => by
    rw [chkEs] at h
    cases xs with
    | nil => exact PA.wk pa_nil fun σ H Q q => nil_rd q
    | cons => cases h
  | .cons e es, X, sc, xs, W, G, tk, h => by
    cases xs with
    | nil => rw [chkEs] at h; cases h
    | cons x xs =>
      rw [chkEs] at h
      obtain ⟨h, h4⟩ := and2 h
      obtain ⟨h1, h2, h3⟩ := and3 h
      exact PA.wk (pa_cons ((snd e X sc x W G tk h1).1 (vl_of h3).2).1 (sndEs es X sc xs W G tk h4) (star_of h2)) fun σ H Q q => cons_rd (vl_of h3).1 q
theorem sndB : ∀ (es : Es) (X : Cx) (sc : Scope) (xs : List PX) (W : WX) (k : Bool) (p : Pos), Gd g c call X sc → Takes X W → chkBs c es sc xs = true →
    PE X (.BoolOp (if k = true then .And else .Or) xs p) (tBv g call X W k es) ∧ PW X (.BoolOp (if k = true then .And else .Or) xs p) (tBt g call X W k es)
  | .nil, X, sc, xs, W, k, p, G, tk, h => by simp [chkBs] at h
  | .cons e .nil, X, sc, xs, W, k, p, G, tk, h => by
    cases xs with
    | nil => rw [chkBs] at h; cases h
    | cons x xs =>
      rw [chkBs] at h
      obtain ⟨h, h4⟩ := and2 h
      obtain ⟨h1, h2, h3⟩ := and3 h
      have q := (snd e X sc x W G tk h1).1 (vl_of h2).2
      have h4 : xs.isEmpty = true := h4
      cases xs with
      | cons => cases h4
      | nil =>
        refine ⟨PE.wk (pe_one q.1) fun σ H Q q => b1_rd (vl_of h2).1 q, ?_⟩
        have : PW X (.BoolOp (if k = true then .And else .Or) [x] p) (tT g call X W e) := by
          cases k with
          | true => exact pw_and1 (q.2 h3)
          | false => exact pw_or1 (q.2 h3)
        exact ⟨fun wh pins s σ H Q I q => this.run wh pins s σ H Q I (b1T_rd q)⟩
  | .cons e (.cons e2 es), X, sc, xs, W, k, p, G, tk, h => by
    cases xs with
    | nil => rw [chkBs] at h; cases h
    | cons x xs =>
      rw [chkBs] at h
      obtain ⟨h, h4⟩ := and2 h
      obtain ⟨h1, h2, h3⟩ := and3 h
      have q := (snd e X sc x W G tk h1).1 (vl_of h2).2
      have h4 : chkBs c (.cons e2 es) sc xs = true := h4
      have r := sndB (.cons e2 es) X sc xs W k p G tk h4
      cases xs with
      | nil => rw [chkBs] at h4; cases h4
      | cons x2 xs =>
        cases k with
        | true =>
          refine ⟨PE.wk (pe_andR q.1 r.1) fun σ H Q q => ?_, ?_⟩
          · have q := b2_rd (vl_of h2).1 q
            exact q
          · exact ⟨fun wh pins s σ H Q I q1 => (pw_and (q.2 h3) r.2).run wh pins s σ H Q I (by have q := b2T_rd q1; exact q)⟩
        | false =>
          refine ⟨PE.wk (pe_orR q.1 r.1) fun σ H Q q => ?_, ?_⟩
          · have q := b2_rd (vl_of h2).1 q
            have e1 : (fun (x : V) (H1 : Hp) => rT X.K X.w x H1 fun t H2 => if t = false then tBv g call X W false (.cons e2 es) σ H2 Q else Q x H2) = (fun x H1 => rT X.K X.w x H1 fun k H2 => if k = true then Q x H2 else tBv g call X W false (.cons e2 es) σ H2 Q) := by
              funext x H1
              congr 1
              funext k H2
              cases k <;> simp
            rw [e1] at q
            exact q
          · exact ⟨fun wh pins s σ H Q I q1 => (pw_or (q.2 h3) r.2).run wh pins s σ H Q I (by
              have q := b2T_rd q1
              have e1 : (fun (t : Bool) (H1 : Hp) => if t = false then tBt g call X W false (.cons e2 es) σ H1 Q else Q (!false) H1) = (fun t H1 => if t = true then Q true H1 else tBt g call X W false (.cons e2 es) σ H1 Q) := by
                funext k H2
                cases k <;> simp
              rw [e1] at q
              exact q)⟩
theorem sndTs : ∀ (es : Es) (X : Cx) (sc : Scope) (xs : List PX) (W : WX), Gd g c call X sc → Takes X W → chkTs c es sc xs = true → PTs X xs (tTs g call X W es)
  | .nil, X, sc, xs, W, G, tk, h => by
    rw [chkTs] at h
    cases xs with
    | nil => exact ⟨fun pins s σ H Q I q => pts_nil.run pins s σ H Q I (ts0_rd q)⟩
    | cons => cases h
  | .cons e es, X, sc, xs, W, G, tk, h => by
    cases xs with
    | nil => rw [chkTs] at h; cases h; intro x z; cases z
    | cons x xs =>
      cases xs with
      | cons x2 xs => rw [chkTs] at h; cases h; intro x z; cases z
      | nil =>
        rw [chkTs] at h
        obtain ⟨h, h4⟩ := and2 h
        obtain ⟨h1, h2, h3⟩ := and3 h
        cases es with
        | cons => cases h4
        | nil =>
          have q := ((snd e X sc x W G tk h1).1 (nb h2)).2 h3
          exact ⟨fun pins s σ H Q I r => (pts_one q).run pins s σ H Q I (ts1_rd r)⟩
theorem sndAs : ∀ (es : Es) (X : Cx) (sc : Scope) (xs : List PX) (W : WX), Gd g c call X sc → Takes X W → chkAs c es sc xs = true → PA X xs (tAs g call X W es)
  | .nil, X, sc, xs, W, G, tk, h => by
    rw [chkAs] at h
    cases xs with
    | nil => exact PA.wk pa_nil fun σ H Q q => asnil_rd q
    | cons => cases h
  | .cons e es, X, sc, xs, W, G, tk, h => by
    cases xs with
    | nil => rw [chkAs] at h; cases h
    | cons x xs =>
      rw [chkAs] at h
      obtain ⟨h, h4⟩ := and2 h
      obtain ⟨h1, h2⟩ := and2 h
      have pr := sndAs es X sc xs W G tk h4
      have pe : PE X x (tArg g call X W e) := by
        have gen : argB c e sc x (chkE c e sc x && vl e) = (chkE c e sc x && vl e) → argGen e = true → PE X x (tArg g call X W e) := fun e1 e2 => by
          rw [e1] at h1
          obtain ⟨h5, h6⟩ := and2 h1
          exact PE.wk ((snd e X sc x W G tk h5).1 (vl_of h6).2).1 fun σ H Q q => arg_gen e2 q
        cases e with
        | var i =>
          obtain ⟨h5, h6⟩ := and2 (show (chkE c (.var i) sc x && vl (.var i)) = true from h1)
          rw [chkE] at h5
          obtain ⟨n, p, rfl, h5⟩ := vName_of h5
          exact PE.wk (snd_name G h5) fun σ H Q q => arg_var q
        | gfn f =>
          obtain ⟨n, p, rfl, h5⟩ := vName_of (show vName x (fun n => (c.fn[f]? == some n) && glB sc n && plainN n) = true from h1)
          obtain ⟨h6, h7, h8⟩ := and3 h5
          obtain ⟨m, hr, hf⟩ := G.fns
          obtain ⟨fd, ps, f1, f2, f3, f4⟩ := hf f n (eq_of_beq h6)
          exact PE.wk (pe_glob (v := .ref (g.fa f)) (gl_of G h7) f1 rfl (plainN_of h8)) fun σ H Q q => arg_gfn q
        | pk i =>
          have := (and2 (show (chkE c (.pk i) sc x && vl (.pk i)) = true from h1)).2
          cases this
        | _ => exact gen rfl rfl
      exact PA.wk (pa_cons pe pr (star_of h2)) fun σ H Q q => ascons_rd q
end
end
end Wv

set_option autoImplicit false
set_option linter.all false
set_option maxRecDepth 100000
set_option maxHeartbeats 4000000
namespace Wv
open PySem PySem.Spec PyProof.Rows L2
section
variable {g : G} {c : Ck} {call : Nat → List Slot → M PyData} {X : Cx} {sc : Scope} {W : WX} {K : PySem.W.Frag} {w : World} {H0 F0 F F' F1 H H' : Hp} {Q : VK} {A : Option Addr} {ρ ρ' : Env} {σ σ' : L2.St} {ω ω' : Orc} {α : Type} {D : Ends}
/-! slots let out -/
theorem Rel.frz1 (r : Rel g K w A H0 F0 ρ σ H F ω) (i : Nat) : ∃ F', Rel g K w A H0 F0 (ρ.modify i frz1) σ H F' ω ∧ Same F F' := by
  have nof : (∀ d, ρ[i]? ≠ some (.v true d)) → ρ.modify i Wv.frz1 = ρ := fun hn => by
    apply List.ext_getElem?
    intro j
    rw [List.getElem?_modify]
    by_cases hij : i = j
    · subst hij
      cases e : ρ[i]? with
      | none => simp
      | some s => cases s with
        | v o d => cases o with
          | true => exact absurd e (hn d)
          | false => simp [Wv.frz1]
        | _ => simp [Wv.frz1]
    · simp [hij]
  by_cases hex : ∃ d, ρ[i]? = some (.v true d)
  case neg =>
    rw [nof fun d e => hex ⟨d, e⟩]
    exact ⟨F, r, Same.refl _⟩
  obtain ⟨d, e⟩ := hex
  obtain ⟨a, h1, h2, h3, h4, h5⟩ := r.sl i _ e
  obtain ⟨o, ho⟩ := h4.obj
  have sm : Same F (upd F a o) := same_upd h2
  have hd : RepF K w (upd F a o) (.ref a) d := by
    cases d with
    | list ds =>
      obtain ⟨vs, e1, e2⟩ := h4
      rw [ho] at e1; cases e1
      exact .dat (.lst upd_same (dpAll_mono sm _ _ e2))
    | dict kvs =>
      refine .dic (dicAt_mono sm (fun u hu => ?_) h4)
      rw [upd_same, ← ho]; exact hu
    | _ => exact h4.elim
  refine ⟨upd F a o, ⟨r.gr.frz h5 h2 ho, by rw [List.length_modify]; exact r.len, fun j s es => ?_, fun j k d1 d2 b e1 e2 e3 e4 => ?_, r.st.frz h3 h2⟩, sm⟩
  · rw [List.getElem?_modify] at es
    by_cases hij : i = j
    · subst hij
      rw [e] at es
      simp [Wv.frz1] at es
      subst es
      exact ⟨_, h1, hd⟩
    · simp [hij] at es
      have q := r.sl j s es
      cases s with
      | v o2 d2 => cases o2 with
        | false => obtain ⟨v, q1, q2⟩ := q; exact ⟨v, q1, q2.mono sm⟩
        | true =>
          obtain ⟨b, q1, q2, q3, q4, q5⟩ := q
          have hab : b ≠ a := fun z => hij (r.own i j d d2 a e es h1 (by rw [← z]; exact q1))
          exact ⟨b, q1, by rw [upd_ne hab]; exact q2, q3, q4.mono sm (fun _ h => h), q5⟩
      | _ => exact q
  · rw [List.getElem?_modify] at e1 e2
    have g1 : ∀ {k : Nat} {d : PyData}, (fun s => if i = k then Wv.frz1 s else s) <$> ρ[k]? = some (.v true d) → ρ[k]? = some (.v true d) := fun {k d} ek => by
      cases q : ρ[k]? with
      | none => rw [q] at ek; cases ek
      | some s =>
        rw [q] at ek
        have ek : (if i = k then Wv.frz1 s else s) = .v true d := by simpa using ek
        by_cases hik : i = k
        · rw [if_pos hik] at ek
          cases s <;> simp [Wv.frz1] at ek
        · rw [if_neg hik] at ek; rw [ek]
    exact r.own j k d1 d2 b (g1 e1) (g1 e2) e3 e4
theorem Rel.frzL : ∀ (is : List Nat) {ρ : Env} {F : Hp}, Rel g K w A H0 F0 ρ σ H F ω → ∃ F', Rel g K w A H0 F0 (frz is ρ) σ H F' ω ∧ Same F F'
  | [], ρ, F, r => ⟨F, r, Same.refl _⟩
  | i :: is, ρ, F, r => by
    obtain ⟨F1, r1, s1⟩ := r.frz1 i
    obtain ⟨F2, r2, s2⟩ := Rel.frzL is r1
    exact ⟨F2, r2, s1.trans s2⟩
/-- a slot set to what was just made -/
theorem Rel.setN {v : V} {d : PyData} (r : Rel g K w A H0 F0 ρ σ H F ω) (gr : Grow (ExA g A) H F H' F') (st : StOk g A H' F' ω') (hv : RepN K w H F' H' v d) (i : Nat) : Rel g K w A H0 F0 (ρ.set i (.v (ownV true d) d)) (σ.set i (some v)) H' F' ω' := by
  have r2 := r.grow gr st
  unfold RepN at hv
  cases ho : ownV true d with
  | false =>
    rw [ho, if_neg Bool.false_ne_true] at hv
    exact r2.set hv
  | true =>
    rw [ho, if_pos rfl] at hv
    obtain ⟨a, rfl, h1, h2, h3⟩ := hv
    have far : ∀ (j : Nat) (e : PyData), ρ[j]? = some (.v true e) → σ[j]? ≠ some (some (.ref a)) := fun j e ej es => by
      obtain ⟨b, q1, q2, q3, q4, q5⟩ := r.sl j _ ej
      rw [q1] at es
      cases es
      obtain ⟨o, ho⟩ := q4.obj
      rw [h1] at ho; cases ho
    refine ⟨r2.gr, by rw [List.length_set, List.length_set]; exact r2.len, fun j s e => ?_, fun j k d1 d2 b e1 e2 e3 e4 => ?_, st⟩
    · rw [set_get] at e
      rw [set_get]
      by_cases hij : i = j
      · rw [if_pos hij] at e ⊢
        by_cases hl : i < ρ.length
        · rw [if_pos hl] at e
          cases e
          rw [if_pos (by rw [← r.len]; exact hl)]
          exact ⟨a, rfl, h2, r.st.nA h1, h3, r.gr.ex _ h1⟩
        · rw [if_neg hl] at e; cases e
      · rw [if_neg hij] at e ⊢
        exact r2.sl j s e
    · rw [set_get] at e1 e2 e3 e4
      by_cases hj : i = j
      · by_cases hk : i = k
        · rw [← hj, ← hk]
        · rw [if_pos hj] at e1 e3
          rw [if_neg hk] at e2 e4
          exfalso
          split at e3
          · cases e3; exact far k _ e2 e4
          · cases e3
      · by_cases hk : i = k
        · rw [if_neg hj] at e1 e3
          rw [if_pos hk] at e2 e4
          exfalso
          split at e4
          · cases e4; exact far j _ e1 e3
          · cases e4
        · rw [if_neg hj] at e1 e3
          rw [if_neg hk] at e2 e4
          exact r2.own j k d1 d2 b e1 e2 e3 e4
/-! statements' readings -/
def SPost (g : G) (K : PySem.W.Frag) (w : World) (W : WX) (A : Option Addr) (H0 F0 F : Hp) (D : Ends) : R Out → Prop
  | .ok (.nx ρ) ω => ∀ σ H' F', Rel g K w A H0 F0 ρ σ H' F' ω → Same F F' → D.nx σ H'
  | .ok (.bk ρ) ω => ∀ σ H' F', Rel g K w A H0 F0 ρ σ H' F' ω → Same F F' → D.bk σ H'
  | .ok (.ct ρ) ω => ∀ σ H' F', Rel g K w A H0 F0 ρ σ H' F' ω → Same F F' → D.ct σ H'
  | .ok (.rt d) ω => ∀ v H' F', Grow (ExA g A) H0 F0 H' F' → StOk g A H' F' ω → RepF K w F' v d → D.rt v H'
  | .exc k p ω => ∀ σ H' F' dx, Grow (ExA g A) H0 F0 H' F' → StOk g A H' F' ω → PayOk g k K H' F' p dx → W (.ref (g.ca k)) dx σ H'
  | .stuck => False
def tS (g : G) (call : Nat → List Slot → M PyData) (X : Cx) (W : WX) (s : S) : TS := fun D σ H => ∃ A H0 F0 ρ F ω, Rel g X.K X.w A H0 F0 ρ σ H F ω ∧ SPost g X.K X.w W A H0 F0 F D (evalS g.gt call s ρ ω)
theorem SPost.mono {r : R Out} (s : Same F F1) (h : SPost g K w W A H0 F0 F D r) : SPost g K w W A H0 F0 F1 D r := by
  cases r with
  | ok o ω => cases o with
    | nx ρ => exact fun σ H' F' q s2 => h σ H' F' q (s.trans s2)
    | bk ρ => exact fun σ H' F' q s2 => h σ H' F' q (s.trans s2)
    | ct ρ => exact fun σ H' F' q s2 => h σ H' F' q (s.trans s2)
    | rt d => exact h
  | exc c p ω => exact h
  | stuck => exact h
/-- a value is computed, then used -/
theorem SPost.bind {m : M α} {f : α → M Out} (r : Rel g K w A H0 F0 ρ σ H F ω) (h : SPost g K w W A H0 F0 F D ((m >>= f) ω)) : RPost g K W σ A H F (m ω) (fun a ω1 H1 F1 => SPost g K w W A H0 F0 F1 D (f a ω1)) := by
  have e : (m >>= f) ω = (match m ω with | .ok a w' => f a w' | .exc c p w' => .exc c p w' | .stuck => .stuck) := rfl
  rw [e] at h
  cases q : m ω with
  | ok a ω1 => rw [q] at h; exact fun H' F' gr st => h.mono gr.fs
  | exc c p ω1 => rw [q] at h; exact fun H' F' dx g2 st pk => h σ H' F' dx (r.gr.trans g2) st pk
  | stuck => rw [q] at h; exact h
/-- a statement runs, then more -/
theorem SPost.next {m : M Out} {f : Env → M Out} (h : SPost g K w W A H0 F0 F D (andThen m f ω)) : SPost g K w W A H0 F0 F { D with nx := fun σ H => ∃ ρ F' ω, Rel g K w A H0 F0 ρ σ H F' ω ∧ Same F F' ∧ SPost g K w W A H0 F0 F' D (f ρ ω) } (m ω) := by
  unfold andThen at h
  rw [M.bnd_def] at h
  unfold M.bnd at h
  cases q : m ω with
  | ok o ω1 =>
    rw [q] at h
    cases o with
    | nx ρ => exact fun σ H' F' r s => ⟨ρ, F', ω1, r, s, h.mono s⟩
    | bk ρ => exact h
    | ct ρ => exact h
    | rt d => exact h
  | exc c p ω1 => rw [q] at h; exact h
  | stuck => rw [q] at h; exact h
theorem SPost.nxt {r : R Out} {N N' : L2.St → Hp → Prop} (h : SPost g K w W A H0 F0 F { D with nx := N } r) (i : ∀ σ H, N σ H → N' σ H) : SPost g K w W A H0 F0 F { D with nx := N' } r := by
  cases r with
  | ok o ω => cases o with
    | nx ρ => exact fun σ H' F' q s2 => i _ _ (h σ H' F' q s2)
    | bk ρ => exact h
    | ct ρ => exact h
    | rt d => exact h
  | exc c p ω => exact h
  | stuck => exact h
theorem skip_rd (h : tS g call X W .skip D σ H) : tNext D σ H := by
  obtain ⟨A, H0, F0, ρ, F, ω, r, q⟩ := h
  rw [evalS] at q
  exact q σ H F r (Same.refl _)
theorem pass_rd (h : tS g call X W .pass D σ H) : tNext D σ H := by
  obtain ⟨A, H0, F0, ρ, F, ω, r, q⟩ := h
  rw [evalS] at q
  exact q σ H F r (Same.refl _)
theorem brk_rd (h : tS g call X W .brk D σ H) : tBreak D σ H := by
  obtain ⟨A, H0, F0, ρ, F, ω, r, q⟩ := h
  rw [evalS] at q
  exact q σ H F r (Same.refl _)
theorem cnt_rd (h : tS g call X W .cnt D σ H) : tCont D σ H := by
  obtain ⟨A, H0, F0, ρ, F, ω, r, q⟩ := h
  rw [evalS] at q
  exact q σ H F r (Same.refl _)
theorem seq_rdS {a b : S} (h : tS g call X W (.seq a b) D σ H) : tS g call X W a { D with nx := tS g call X W b D } σ H := by
  obtain ⟨A, H0, F0, ρ, F, ω, r, q⟩ := h
  rw [evalS] at q
  refine ⟨A, H0, F0, ρ, F, ω, r, ?_⟩
  have q := SPost.next q
  exact q.nxt fun σ H ⟨ρ, F', ω, r, s, q⟩ => ⟨A, H0, F0, ρ, F', ω, r, q⟩
theorem retn_rd (h : tS g call X W .retn D σ H) : tRetN D σ H := by
  obtain ⟨A, H0, F0, ρ, F, ω, r, q⟩ := h
  rw [evalS] at q
  exact q .non H F r.gr r.st (.dat .non)
theorem ret_rd {e : E} (he : isPk e = false) (h : tS g call X W (.ret e) D σ H) : tRet (tE g call X W e) D σ H := by
  obtain ⟨A, H0, F0, ρ, F, ω, r, q⟩ := h
  rw [evalS] at q
  obtain ⟨F1, r1, s1⟩ := r.frzL (esc e)
  have q := (q : SPost g X.K X.w W A H0 F0 F D ((evalE g.gt call e (frz (esc e) ρ) >>= fun d => pure (.rt d)) ω)).mono s1
  refine ⟨A, H0, F0, _, F1, ω, r1, (SPost.bind r1 q).imp fun d ω1 H1 F2 g1 st q1 v hv => ?_⟩
  rw [he] at hv
  exact q1 v H1 F2 (r1.gr.trans g1) st hv
theorem expr_rd {e : E} (h : tS g call X W (.expr e) D σ H) : tDrop (tE g call X W e) D σ H := by
  obtain ⟨A, H0, F0, ρ, F, ω, r, q⟩ := h
  rw [evalS] at q
  obtain ⟨F1, r1, s1⟩ := r.frzL (esc e)
  have q := (q : SPost g X.K X.w W A H0 F0 F D ((evalE g.gt call e (frz (esc e) ρ) >>= fun _ => pure (.nx (frz (esc e) ρ))) ω)).mono s1
  refine ⟨A, H0, F0, _, F1, ω, r1, (SPost.bind r1 q).imp fun d ω1 H1 F2 g1 st q1 v hv => ?_⟩
  exact q1 σ H1 F2 (r1.grow g1 st) (Same.refl _)
theorem ite_rdS {e : E} {a b : S} (h : tS g call X W (.ite e a b) D σ H) : tIfS (tT g call X W e) (tS g call X W a) (tS g call X W b) D σ H := by
  obtain ⟨A, H0, F0, ρ, F, ω, r, q⟩ := h
  rw [evalS] at q
  obtain ⟨F1, r1, s1⟩ := r.frzL (esc e)
  have q := (q : SPost g X.K X.w W A H0 F0 F D ((evalE g.gt call e (frz (esc e) ρ) >>= fun x => M.ofO (tru x) >>= fun t => if t = true then evalS g.gt call a (frz (esc e) ρ) else evalS g.gt call b (frz (esc e) ρ)) ω)).mono s1
  rw [← M.bnd_assoc] at q
  refine ⟨A, H0, F0, _, F1, ω, r1, (SPost.bind r1 q).imp fun k ω1 H1 F2 g1 st q1 => ?_⟩
  cases k with
  | true => rw [if_pos rfl] at q1; exact ⟨A, H0, F0, _, F2, ω1, r1.grow g1 st, q1⟩
  | false => rw [if_neg Bool.false_ne_true] at q1; exact ⟨A, H0, F0, _, F2, ω1, r1.grow g1 st, q1⟩
/-! name = a new object, or any value -/
theorem asgN_rd {i : Nat} {e : E} (h : tS g call X W (.asg (.nm i) e) D σ H) (hf : freshE e = true) : tAsg (tN g call X W e) (gName i) D σ H := by
  obtain ⟨A, H0, F0, ρ, F, ω, r, q⟩ := h
  rw [evalS] at q
  obtain ⟨F1, r1, s1⟩ := r.frzL (esc e)
  have q := (q : SPost g X.K X.w W A H0 F0 F D ((evalE g.gt call e (frz (esc e) ρ) >>= fun d => asgT (.nm i) (ownV (freshE e) d) d (frz (esc e) ρ) >>= fun ρ' => pure (.nx ρ')) ω)).mono s1
  refine ⟨A, H0, F0, _, F1, ω, r1, (SPost.bind r1 q).imp fun d ω1 H1 F2 g1 st q1 v hv => ?_⟩
  have q1 : SPost g X.K X.w W A H0 F0 F2 D (R.ok (.nx ((frz (esc e) ρ).set i (.v (ownV (freshE e) d) d))) ω1) := q1
  rw [hf] at q1
  exact q1 _ H1 F2 (r1.setN g1 st hv i) (Same.refl _)
theorem asg_rd {t : Tg} {e : E} {vs : List Nat} (hv : ∀ i ∈ tgS t, i ∈ vs) (he : isPk e = false) (h : tS g call X W (.asg t e) D σ H) (hf : (∀ i, t ≠ .nm i) ∨ freshE e = false) : tAsg (tE g call X W e) (tG g X vs t) D σ H := by
  obtain ⟨A, H0, F0, ρ, F, ω, r, q⟩ := h
  rw [evalS] at q
  obtain ⟨F1, r1, s1⟩ := r.frzL (esc e)
  have q := (q : SPost g X.K X.w W A H0 F0 F D ((evalE g.gt call e (frz (esc e) ρ) >>= fun d => asgT t (ownV (freshE e) d) d (frz (esc e) ρ) >>= fun ρ' => pure (.nx ρ')) ω)).mono s1
  refine ⟨A, H0, F0, _, F1, ω, r1, (SPost.bind r1 q).imp fun d ω1 H1 F2 g1 st q1 v rv => ?_⟩
  rw [he] at rv
  have e1 : asgT t (ownV (freshE e) d) d (frz (esc e) ρ) = asgT t false d (frz (esc e) ρ) := by
    rcases hf with hf | hf
    · cases t with
      | nm i => exact absurd rfl (hf i)
      | t0 => cases d with
        | tuple ds => cases ds <;> rfl
        | _ => rfl
      | tc a b => cases d with
        | tuple ds => cases ds <;> rfl
        | _ => rfl
    · rw [hf]
      have : ownV false d = false := by cases d <;> rfl
      rw [this]
  rw [e1] at q1
  have ex : ∃ ρ', asgT t false d (frz (esc e) ρ) ω1 = .ok ρ' ω1 ∧ SPost g X.K X.w W A H0 F0 F2 D (R.ok (.nx ρ') ω1) := by
    rcases asg_res t false d (frz (esc e) ρ) ω1 with ⟨ρ', e2⟩ | e2
    · refine ⟨ρ', e2, ?_⟩
      have e3 : (asgT t false d (frz (esc e) ρ) >>= fun ρ' => (pure (.nx ρ') : M Out)) ω1 = M.bnd (asgT t false d (frz (esc e) ρ)) (fun ρ' => pure (.nx ρ')) ω1 := rfl
      rw [e3] at q1
      unfold M.bnd at q1
      rw [e2] at q1
      exact q1
    · have e3 : (asgT t false d (frz (esc e) ρ) >>= fun ρ' => (pure (.nx ρ') : M Out)) ω1 = M.bnd (asgT t false d (frz (esc e) ρ)) (fun ρ' => pure (.nx ρ')) ω1 := rfl
      rw [e3] at q1
      unfold M.bnd at q1
      rw [e2] at q1
      exact q1.elim
  obtain ⟨ρ', e2, q2⟩ := ex
  exact ⟨A, H0, F0, _, F2, ω1, d, ρ', r1.grow g1 st, rv, e2, hv, fun σ' _ r' => q2 σ' H1 F2 r' (Same.refl _)⟩
end
end Wv

set_option autoImplicit false
set_option linter.all false
set_option maxRecDepth 100000
set_option maxHeartbeats 4000000
namespace Wv
open PySem PySem.Spec PyProof.Rows L2
section
variable {g : G} {c : Ck} {call : Nat → List Slot → M PyData} {X : Cx} {sc : Scope} {W : WX} {K : PySem.W.Frag} {w : World} {H0 F0 F F' F1 H H' : Hp} {Q : VK} {A : Option Addr} {ρ ρ' : Env} {σ σ' : L2.St} {ω ω' : Orc} {α : Type} {D : Ends}
/-! loops -/
def loopK (k : Env → M Out) (o : Out) : M Out := match o with
  | .nx ρ' => k ρ'
  | .ct ρ' => k ρ'
  | .bk ρ' => pure (.nx ρ')
  | .rt d => pure (.rt d)
def LN (g : G) (K : PySem.W.Frag) (w : World) (W : WX) (A : Option Addr) (H0 F0 F : Hp) (D : Ends) (k : Env → M Out) : L2.St → Hp → Prop := fun σ H => ∃ ρ F' ω, Rel g K w A H0 F0 ρ σ H F' ω ∧ Same F F' ∧ SPost g K w W A H0 F0 F' D (k ρ ω)
theorem SPost.loop {m : M Out} {k : Env → M Out} (h : SPost g K w W A H0 F0 F D ((m >>= loopK k) ω)) : SPost g K w W A H0 F0 F { D with nx := LN g K w W A H0 F0 F D k, ct := LN g K w W A H0 F0 F D k, bk := D.nx } (m ω) := by
  rw [M.bnd_def] at h
  unfold M.bnd at h
  cases q : m ω with
  | ok o ω1 =>
    rw [q] at h
    cases o with
    | nx ρ => exact fun σ H' F' r s => ⟨ρ, F', ω1, r, s, h.mono s⟩
    | ct ρ => exact fun σ H' F' r s => ⟨ρ, F', ω1, r, s, h.mono s⟩
    | bk ρ => exact h
    | rt d => exact h
  | exc c p ω1 => rw [q] at h; exact h
  | stuck => rw [q] at h; exact h
theorem wh_rd {e : E} {b : S} (h : tS g call X W (.wh e b) D σ H) : tWhile (tT g call X W e) (tS g call X W b) D σ H := by
  obtain ⟨A, H0, F0, ρ, F, ω, r, q⟩ := h
  rw [evalS] at q
  generalize hcm : (fun ρ => (evalE g.gt call e (frz (esc e) ρ) >>= fun x => M.ofO (tru x) >>= fun t => (pure (t, frz (esc e) ρ) : M (Bool × Env)))) = cM at q
  have q : SPost g X.K X.w W A H0 F0 F D (whM cM (evalS g.gt call b) whFuel ρ ω) := by rw [← hcm]; rw [← hcm] at q; exact q
  refine ⟨fun m σ H => ∃ ρ F ω, Rel g X.K X.w A H0 F0 ρ σ H F ω ∧ SPost g X.K X.w W A H0 F0 F D (whM cM (evalS g.gt call b) m ρ ω), ⟨whFuel, ρ, F, ω, r, q⟩, ?_⟩
  rintro m σ H ⟨ρ, F, ω, r, q⟩
  cases m with
  | zero => exact q.elim
  | succ m =>
    obtain ⟨F1, r1, s1⟩ := r.frzL (esc e)
    have q := q.mono s1
    have e1 : whM cM (evalS g.gt call b) (m + 1) ρ = ((evalE g.gt call e (frz (esc e) ρ) >>= fun x => M.ofO (tru x)) >>= fun t => if t = true then evalS g.gt call b (frz (esc e) ρ) >>= loopK (whM cM (evalS g.gt call b) m) else pure (.nx (frz (esc e) ρ))) := by
      rw [whM, ← hcm]
      simp only [M.bnd_assoc, M.pure_bnd]
      rfl
    rw [e1] at q
    refine ⟨A, H0, F0, _, F1, ω, r1, (SPost.bind r1 q).imp fun t ω1 H1 F2 g1 st q1 => ?_⟩
    cases t with
    | false => rw [if_neg Bool.false_ne_true] at q1; exact q1 σ H1 F2 (r1.grow g1 st) (Same.refl _)
    | true =>
      rw [if_pos rfl] at q1
      show ∃ N : L2.St → Hp → Prop, _
      refine ⟨LN g X.K X.w W A H0 F0 F2 D (whM cM (evalS g.gt call b) m), fun σ' H' ⟨ρ', F', ω', r', _, q'⟩ => ⟨m, by omega, ρ', F', ω', r', q'⟩, ?_⟩
      exact ⟨A, H0, F0, _, F2, ω1, r1.grow g1 st, SPost.loop q1⟩
theorem for_rd {t : Tg} {it : E} {b : S} {vs : List Nat} (hv : ∀ i ∈ tgS t, i ∈ vs) (h : tS g call X W (.for_ t it b) D σ H) : tFor (tI g call X W true it) (tG g X vs t) (tS g call X W b) D σ H := by
  obtain ⟨A, H0, F0, ρ, F, ω, r, q⟩ := h
  rw [evalS] at q
  obtain ⟨F1, r1, s1⟩ := r.frzL (esc it)
  generalize hfm : (fun x ρ => asgT t false x ρ >>= fun ρ' => evalS g.gt call b ρ') = fM at q
  have q := (q : SPost g X.K X.w W A H0 F0 F D ((evalE g.gt call it (frz (esc it) ρ) >>= fun x0 => M.ofO (itemsOf x0) >>= fun xs => forM_ fM xs (frz (esc it) ρ)) ω)).mono s1
  rw [← M.bnd_assoc] at q
  refine ⟨A, H0, F0, _, F1, ω, r1, (SPost.bind r1 q).imp fun xs ω1 H1 F2 g1 st q1 J hJ => ?_⟩
  refine ⟨fun i m σ H => ∃ ρ F ω, i ≤ xs.length ∧ m = xs.length - i ∧ Same F2 F ∧ Rel g X.K X.w A H0 F0 ρ σ H F ω ∧ SPost g X.K X.w W A H0 F0 F D (forM_ fM (xs.drop i) ρ ω), ⟨xs.length, _, F2, ω1, Nat.zero_le _, by simp, Same.refl _, r1.grow g1 st, by rw [List.drop_zero]; exact q1⟩, ?_⟩
  rintro i m σ H ⟨ρ, F, ω, hi, rfl, sm, r, q⟩
  have pz : Pz true (ExA g A) H1 F2 H F := ⟨sm, r.fit⟩
  by_cases hlt : i < xs.length
  case neg =>
    have ei : i = xs.length := by omega
    refine .inl ⟨by rw [ei]; exact hJ.stop H F pz, ?_⟩
    rw [ei, List.drop_length] at q
    exact q σ H F r (Same.refl _)
  have ex : xs[i]? = some xs[i] := List.getElem?_eq_getElem hlt
  obtain ⟨hgo, hy⟩ := hJ.go i H F xs[i] pz ex
  rw [drop_cons ex] at q
  have e1 : forM_ fM (xs[i] :: xs.drop (i + 1)) ρ = (asgT t false xs[i] ρ >>= fun ρ' => evalS g.gt call b ρ' >>= loopK (forM_ fM (xs.drop (i + 1)))) := by
    rw [forM_, ← hfm, M.bnd_assoc]
    congr 1
  rw [e1] at q
  refine .inr ⟨hgo, fun σ' H' => ∃ ρ F ω, Same F2 F ∧ Rel g X.K X.w A H0 F0 ρ σ' H' F ω ∧ SPost g X.K X.w W A H0 F0 F D (forM_ fM (xs.drop (i + 1)) ρ ω), fun σ' H' ⟨ρ', F', ω', a1, a2, a3⟩ => ⟨xs.length - (i + 1), by omega, ρ', F', ω', hlt, rfl, a1, a2, a3⟩, fun x H' yl => ?_⟩
  obtain ⟨F', e3, rx⟩ := hy x H' yl
  have ea : ∃ ρ', asgT t false xs[i] ρ ω = .ok ρ' ω ∧ SPost g X.K X.w W A H0 F0 F D ((evalS g.gt call b ρ' >>= loopK (forM_ fM (xs.drop (i + 1)))) ω) := by
    rw [M.bnd_def] at q
    unfold M.bnd at q
    rcases asg_res t false xs[i] ρ ω with ⟨ρ', e2⟩ | e2
    · rw [e2] at q; exact ⟨ρ', e2, q⟩
    · rw [e2] at q; exact q.elim
  obtain ⟨ρ', e2, q2⟩ := ea
  refine ⟨A, H0, F0, ρ, F', ω, _, ρ', r.grow e3.grow (r.st.ext e3), rx, e2, hv, fun σ2 _ r2 => ?_⟩
  refine ⟨A, H0, F0, ρ', F', ω, r2, ?_⟩
  have q3 := SPost.loop (q2.mono e3.fs)
  have fin : ∀ σ' H', LN g X.K X.w W A H0 F0 F' D (forM_ fM (xs.drop (i + 1))) σ' H' → ∃ ρ F ω, Same F2 F ∧ Rel g X.K X.w A H0 F0 ρ σ' H' F ω ∧ SPost g X.K X.w W A H0 F0 F D (forM_ fM (xs.drop (i + 1)) ρ ω) := fun σ' H' ⟨ρ3, F3, ω3, a1, a2, a3⟩ => ⟨ρ3, F3, ω3, (sm.trans e3.fs).trans a2, a1, a3⟩
  revert q3
  cases evalS g.gt call b ρ' ω with
  | ok o ω => cases o with
    | nx ρ => exact fun q3 σ H' F' q s2 => fin _ _ (q3 σ H' F' q s2)
    | ct ρ => exact fun q3 σ H' F' q s2 => fin _ _ (q3 σ H' F' q s2)
    | bk ρ => exact fun q3 => q3
    | rt d => exact fun q3 => q3
  | exc c p ω => exact fun q3 => q3
  | stuck => exact fun q3 => q3
/-! raise -/
theorem raise_rd {k : Nat} (hk : k < g.nc) (h : tS g call X W (.raise k) D σ H) : W (.ref (g.ca k)) none σ H := by
  obtain ⟨A, H0, F0, ρ, F, ω, r, q⟩ := h
  rw [evalS] at q
  exact q σ H F none r.gr r.st ⟨hk, rfl, rfl⟩
theorem pmk_own0 {X : Cx} {C : Addr} {bmB : List Value} {B newId initId : String} {x : Str} {p pos : Pos} (F : ExcBaseFacts B newId initId bmB) (q : PySem.W.excIn X.K C bmB newId = true) (gC : X.mg x = some (.ref C)) (kC : PySem.W.keepIn X.K (.ref C) = true) (r : Raises X (.ref C)) (hg : Gl X x)
    (hdb : (x == ("__debug__" : Str)) = false) : PMk X (.Call (.Name x p) [] [] pos) (fun _ H Q => Q (.ref C) none H) := by
  intro pins s σ H Q I h
  refine wpAny_Call_Name_kw (ld_glob I hg gC ?_ hdb)
  refine PySem.W.callWith_K0 I.kIn kC ?_
  show wpAny _ _ (call (.ref C) []) _ _ _
  obtain ⟨bm, N, nm, qn, bs, hdct, sn, sub, ab, col, dd, k0, k1, k2, k3, k5, mN, hC, hN, hni, T⟩ := exc_obj I.kIn q
  obtain ⟨hp1, g1, d1, tk1, os1⟩ := s
  refine wpAny_call_exc_subT F T hC hN hni (fun h' e hm => ?_) (by show 0 ≤ sizeLine; omega)
  exact mk_of I hm r h (I.hok.gone hm.new)
/-! the state's own places -/
theorem lset0 {a b c d x : V} : [a, b, c, d].set 0 x = [x, b, c, d] := rfl
theorem lset1 {a b c d x : V} : [a, b, c, d].set 1 x = [a, x, c, d] := rfl
theorem lset3 {a b c d x : V} : [a, b, c, d].set 3 x = [a, b, c, x] := rfl
theorem Rel.sset {a : Addr} {xs : List V} (r : Rel g K w (some a) H0 F0 ρ σ H F ω) (st : StOk g (some a) (upd H a (.lst xs)) F ω') : Rel g K w (some a) H0 F0 ρ σ (upd H a (.lst xs)) F ω' := by
  obtain ⟨h1, h2, h3, b, h4, h5⟩ := r.st.st a rfl
  refine r.grow ⟨fun c o n e => ?_, fun c e => ?_, Same.refl _, fun c o e => ?_, fun c o e => .inl e⟩ st
  · have : c ≠ a := fun z => n (.inl (by rw [z]))
    rw [upd_ne this]; exact e
  · by_cases z : c = a
    · subst z; rw [upd_same] at e; cases e
    · rw [upd_ne z] at e; exact e
  · have : c ≠ a := fun z => by rw [z, h1] at e; cases e
    rw [upd_ne this]; exact r.fit c o e
theorem StOk.sset {a : Addr} {b : Addr} (st : StOk g (some a) H F ω) (ho : OrcOk ω') (hs : ω'.scr = ω.scr) (hb : H a = some (.lst [.int ω.a, .int ω.b, .ref b, .int ω.c])) : StOk g (some a) (L2.upd H a (.lst [.int ω'.a, .int ω'.b, .ref b, .int ω'.c])) F ω' where
  st := fun a' ha => by
    cases ha
    obtain ⟨h1, h2, h3, b', h4, h5⟩ := st.st a rfl
    rw [h4] at hb
    have : b' = b := by
      injection hb with hb
      injection hb with hb
      injection hb with _ hb
      injection hb with _ hb
      injection hb with hb _
      injection hb
    subst this
    exact ⟨h1, h2, ho, b', upd_same, by rw [hs]; exact h5⟩
  tab := fun p hp => by
    obtain ⟨h1, h2, h3, b', h4, h5⟩ := st.st a rfl
    obtain ⟨ps, e1, e2⟩ := st.tab p hp
    exact ⟨ps, by rw [upd_ne (fun z => h2 (by rw [← z]; exact hp))]; exact e1, e2⟩
  ft := st.ft
end
end Wv

set_option autoImplicit false
set_option linter.all false
set_option maxRecDepth 100000
set_option maxHeartbeats 4000000
namespace Wv
open PySem PySem.Spec PyProof.Rows L2
section
variable {g : G} {c : Ck} {call : Nat → List Slot → M PyData} {X : Cx} {sc : Scope} {W : WX} {K : PySem.W.Frag} {w : World} {H0 F0 F F' F1 H H' H1 : Hp} {Q : VK} {A : Option Addr} {ρ ρ' : Env} {σ σ' : L2.St} {ω ω' : Orc} {α : Type} {D : Ends}
/-! values for a name -/
def RepX (fr : Bool) (K : PySem.W.Frag) (w : World) (H F' H' : Hp) (v : V) (d : PyData) : Prop := if ownV fr d = true then ∃ a, v = .ref a ∧ H a = none ∧ F' a = none ∧ OwnAt K w F' H' a d else RepF K w F' v d
def tX (g : G) (call : Nat → List Slot → M PyData) (X : Cx) (W : WX) (e : E) : TE := fun σ H Q => ∃ A H0 F0 ρ F ω, Rel g X.K X.w A H0 F0 ρ σ H F ω ∧
  RPost g X.K W σ A H F (evalE g.gt call e ρ ω) (fun d _ H' F' => ∀ v, RepX (freshE e) X.K X.w H F' H' v d → Q v H')
theorem ownV_f (d : PyData) : ownV false d = false := by cases d <;> rfl
theorem tX_n {e : E} (h : freshE e = true) (q : tX g call X W e σ H Q) : tN g call X W e σ H Q := by
  obtain ⟨A, H0, F0, ρ, F, ω, r, q⟩ := q
  refine ⟨A, H0, F0, ρ, F, ω, r, q.imp fun d ω1 H1 F1 g1 st q v hv => q v ?_⟩
  rw [h]; exact hv
theorem tX_e {e : E} (hp : isPk e = false) (h : freshE e = false) (q : tX g call X W e σ H Q) : tE g call X W e σ H Q := by
  obtain ⟨A, H0, F0, ρ, F, ω, r, q⟩ := q
  refine ⟨A, H0, F0, ρ, F, ω, r, q.imp fun d ω1 H1 F1 g1 st q v hv => q v ?_⟩
  unfold RepX
  rw [h, ownV_f, if_neg Bool.false_ne_true]
  rw [hp] at hv
  exact hv
theorem Rel.setX {fr : Bool} {v : V} {d : PyData} (r : Rel g K w A H0 F0 ρ σ H F ω) (gr : Grow (ExA g A) H F H' F') (st : StOk g A H' F' ω') (hv : RepX fr K w H F' H' v d) (i : Nat) : Rel g K w A H0 F0 (ρ.set i (.v (ownV fr d) d)) (σ.set i (some v)) H' F' ω' := by
  cases fr with
  | true => exact r.setN gr st hv i
  | false =>
    unfold RepX at hv
    rw [ownV_f, if_neg Bool.false_ne_true] at hv
    rw [ownV_f]
    exact (r.grow gr st).set hv
theorem asgX_rd {i : Nat} {e : E} (h : tS g call X W (.asg (.nm i) e) D σ H) : tAsg (tX g call X W e) (gName i) D σ H := by
  obtain ⟨A, H0, F0, ρ, F, ω, r, q⟩ := h
  rw [evalS] at q
  obtain ⟨F1, r1, s1⟩ := r.frzL (esc e)
  have q := (q : SPost g X.K X.w W A H0 F0 F D ((evalE g.gt call e (frz (esc e) ρ) >>= fun d => asgT (.nm i) (ownV (freshE e) d) d (frz (esc e) ρ) >>= fun ρ' => pure (.nx ρ')) ω)).mono s1
  refine ⟨A, H0, F0, _, F1, ω, r1, (SPost.bind r1 q).imp fun d ω1 H1 F2 g1 st q1 v hv => ?_⟩
  have q1 : SPost g X.K X.w W A H0 F0 F2 D (R.ok (.nx ((frz (esc e) ρ).set i (.v (ownV (freshE e) d) d))) ω1) := q1
  exact q1 _ H1 F2 (r1.setX g1 st hv i) (Same.refl _)
/-! a display, as a new object -/
theorem lstN_rd {es : Es} (hn : lenEs es ≤ sizeLine) (h : tN g call X W (.lst es) σ H Q) : tLst (tEs g call X W es) σ H Q := by
  obtain ⟨A, H0, F0, ρ, F, ω, r, q⟩ := h
  rw [evalE] at q
  refine ⟨A, H0, F0, ρ, F, ω, r, (RPost.bind q).with fun ds ω1 H1 F1 e g1 s1 q1 vs hv => ?_⟩
  obtain ⟨hc, q1⟩ := RPost.guard q1
  refine ⟨by rw [paired_len hv, evalEs_len _ _ _ _ _ e]; exact hn, fun p np => ?_⟩
  have e0 : Ext H1 F1 (upd H1 p (.lst vs)) F1 := Ext.mk0 g1.fit np
  have q2 := q1 _ F1 (e0.grow) (s1.ext e0)
  exact q2 _ ⟨p, rfl, g1.ex _ np, g1.fit.none np, vs, upd_same, el_dq hv hc⟩
/-! x op= e, ints -/
def isAug : Bop → Bool
  | .add | .sub | .mul | .fdiv | .mod => true
  | _ => false
def rA (o : Bop) : L2.R2 := fun x y H Q => ∃ i j z, x = .int i ∧ y = .int j ∧ bop o (.int i) (.int j) = some (.int z) ∧ Q (.int z) H
theorem ia_ok {o : Bop} {p : Operator} (h : isBin o = some p) (ha : isAug o = true) : OpR X (inplaceOp p) (rA o) := by
  intro pins s σ H x y v u Q I rx ry h0
  obtain ⟨i, j, z, rfl, rfl, hb, q⟩ := h0
  cases o <;> cases h <;> try (cases ha; done)
  · cases hb
    exact iop_add pins s σ H _ _ v u Q I rx ry ⟨i, j, rfl, rfl, q⟩
  · cases hb
    exact iop_sub pins s σ H _ _ v u Q I rx ry ⟨i, j, rfl, rfl, q⟩
  · obtain ⟨hl, hb⟩ := gO_some hb
    cases hb
    have iop_mulW : OpR X (inplaceOp .Mult) (rI CMulW fun i j => .int (i * j)) := opI fun _ _ _ _ _ _ _ hc q => imul_int q hc.ok
    rcases Bool.or_eq_true_iff.mp hl with hl | hl
    · refine iop_mulW pins s σ H _ _ v u Q I rx ry ⟨i, j, rfl, rfl, ?_, q⟩
      have := of_decide_eq_true hl
      unfold CMulW
      omega
    · refine iop_mul pins s σ H _ _ v u Q I rx ry ⟨i, j, rfl, rfl, ?_, q⟩
      rcases Bool.or_eq_true_iff.mp hl with hl | hl
      · have := of_decide_eq_true hl
        exact .inl (by omega)
      · have := of_decide_eq_true hl
        exact .inr (by omega)
  · obtain ⟨hl, hb⟩ := gO_some hb
    cases hb
    obtain ⟨h1, h2⟩ := Bool.and_eq_true_iff.mp hl
    have h1 := of_decide_eq_true h1
    have h2 := of_decide_eq_true h2
    have iop_fd : OpR X (inplaceOp .FloorDiv) (rI (fun _ j => j ≠ 0 ∧ j.natAbs.log2 < 8000) fun i j => .int (i.fdiv j)) := opI fun _ _ _ _ _ _ _ hc q => ifloordiv_int hc.1 q (.inl (PyProof.noPylong_of_log2 (by have := hc.2; omega)))
    exact iop_fd pins s σ H _ _ v u Q I rx ry ⟨i, j, rfl, rfl, ⟨h1, h2⟩, q⟩
  · obtain ⟨hl, hb⟩ := gO_some hb
    cases hb
    have iop_mdN : OpR X (inplaceOp .Mod) (rI (fun _ j => j ≠ 0) fun i j => .int (i.fmod j)) := opI fun _ _ _ _ _ _ _ hc q => imod_int hc q
    exact iop_mdN pins s σ H _ _ v u Q I rx ry ⟨i, j, rfl, rfl, of_decide_eq_true hl, q⟩
theorem aug_int {o : Bop} (ha : isAug o = true) {i : Int} {d z : PyData} (h : bop o (.int i) d = some z) : ∃ j k, d = .int j ∧ z = .int k := by
  cases o <;> try (cases ha; done)
  all_goals (cases d <;> first | (cases h; exact ⟨_, _, rfl, rfl⟩) | (cases h; done) | (obtain ⟨_, h⟩ := gO_some h; cases h; exact ⟨_, _, rfl, rfl⟩))
theorem aug_rd {i : Nat} {o : Bop} {e : E} (ha : isAug o = true) (hp : isPk e = false) (h : tS g call X W (.aug i o e) D σ H) : tAug i (tE g call X W e) (rA o) D σ H := by
  obtain ⟨A, H0, F0, ρ, F, ω, r, q⟩ := h
  rw [evalS] at q
  obtain ⟨F1, r1, s1⟩ := r.frzL (esc e)
  have q := q.mono s1
  cases es : (frz (esc e) ρ)[i]? with
  | none => simp only [es] at q; exact q.elim
  | some s =>
    simp only [es] at q
    cases s with
    | v ow x =>
      cases ow with
      | true => exact q.elim
      | false =>
        obtain ⟨v, h1, h2⟩ := r1.sl i _ es
        refine ⟨v, h1, A, H0, F0, _, F1, ω, r1, (SPost.bind r1 q).imp fun d ω1 H1 F2 g1 st q1 y ry => ?_⟩
        rw [hp] at ry
        cases x with
        | int n =>
          have hv : v = .int n := (RepP.frz (Ex := fun _ => False) (H := H) h2).int
          cases eb : bop o (.int n) d with
          | none => simp only [eb] at q1; exact q1.elim
          | some z =>
            simp only [eb] at q1
            obtain ⟨j, k, rfl, rfl⟩ := aug_int ha eb
            have hy : y = .int j := (RepP.frz (Ex := fun _ => False) (H := H) ry).int
            exact ⟨n, j, k, hv, hy, eb, q1 _ H1 F2 ((r1.grow g1 st).set (.dat (.int _))) (Same.refl _)⟩
        | list xs => exact q1.elim
        | _ => exact q1.elim
    | _ => exact q.elim
/-! the state's places -/
theorem sset_rd {i k : Nat} {e : E} (hp : isPk e = false) (h : tS g call X W (.sset i k e) D σ H) : tAsg (tE g call X W e) (gSub (tVar i) (tC (.int (k : Nat))) rSetL) D σ H := by
  obtain ⟨A, H0, F0, ρ, F, ω, r, q⟩ := h
  rw [evalS] at q
  cases es : ρ[i]? with
  | none => rw [es] at q; exact q.elim
  | some s =>
    rw [es] at q
    cases s with
    | s =>
      obtain ⟨a, ha, h2⟩ := r.sl i _ es
      subst ha
      refine ⟨some a, H0, F0, ρ, F, ω, r, (SPost.bind r q).imp fun d ω1 H1 F1 g1 st q1 v rv => ?_⟩
      rw [hp] at rv
      have r1 := r.grow g1 st
      obtain ⟨_, _, oo, b, h3, h4⟩ := st.st a rfl
      cases d with
      | int n =>
        have hv : v = .int n := (RepP.frz (Ex := fun _ => False) (H := H) rv).int
        subst hv
        have go : ∀ {ω2 : Orc} {j : Nat} (hj : ixN 4 ((k : Nat) : Int) = some j) (e2 : [V.int ω1.a, V.int ω1.b, V.ref b, V.int ω1.c].set j (.int n) = [V.int ω2.a, V.int ω2.b, V.ref b, V.int ω2.c]), OrcOk ω2 → ω2.scr = ω1.scr → SPost g X.K X.w W (some a) H0 F0 F1 D (R.ok (.nx ρ) ω2) → gSub (tVar i) (tC (.int (k : Nat))) rSetL (V.int n) σ H1 D.nx := fun {ω2 j} hj e2 o2 s2 q2 => by
          refine ⟨_, h2, a, _, _, j, rfl, rfl, h3, hj, ?_⟩
          rw [e2]
          exact q2 σ _ F1 (r1.sset (st.sset o2 s2 h3)) (Same.refl _)
        match k, q1 with
        | 0, q1 => exact go (ω2 := { ω1 with a := n }) (j := 0) rfl rfl ⟨oo.b, oo.c0, oo.c1⟩ rfl q1
        | 1, q1 =>
          by_cases hn : 0 ≤ n
          · exact go (ω2 := { ω1 with b := n }) (j := 1) rfl rfl ⟨hn, oo.c0, oo.c1⟩ rfl (by
              have q1 : SPost g X.K X.w W (some a) H0 F0 F1 D (if 0 ≤ n then R.ok (.nx ρ) { ω1 with b := n } else .stuck) := q1
              rw [if_pos hn] at q1; exact q1)
          · have q1 : SPost g X.K X.w W (some a) H0 F0 F1 D (if 0 ≤ n then R.ok (.nx ρ) { ω1 with b := n } else .stuck) := q1
            rw [if_neg hn] at q1; exact q1.elim
        | 2, q1 => exact q1.elim
        | 3, q1 =>
          by_cases hn : 0 ≤ n ∧ n < 2 ^ 31
          · exact go (ω2 := { ω1 with c := n }) (j := 3) rfl rfl ⟨oo.b, hn.1, hn.2⟩ rfl (by
              have q1 : SPost g X.K X.w W (some a) H0 F0 F1 D (if 0 ≤ n ∧ n < 2 ^ 31 then R.ok (.nx ρ) { ω1 with c := n } else .stuck) := q1
              rw [if_pos hn] at q1; exact q1)
          · have q1 : SPost g X.K X.w W (some a) H0 F0 F1 D (if 0 ≤ n ∧ n < 2 ^ 31 then R.ok (.nx ρ) { ω1 with c := n } else .stuck) := q1
            rw [if_neg hn] at q1; exact q1.elim
        | k + 4, q1 => exact q1.elim
      | _ => exact q1.elim
    | _ => exact q.elim
end
end Wv

set_option autoImplicit false
set_option linter.all false
set_option maxRecDepth 100000
set_option maxHeartbeats 4000000
namespace Wv
open PySem PySem.Spec PyProof.Rows L2
section
variable {g : G} {c : Ck} {call : Nat → List Slot → M PyData} {X : Cx} {sc : Scope} {W : WX} {K : PySem.W.Frag} {w : World} {F H : Hp} {Q : VK} {σ : L2.St}
/-! x * y, a new list -/
def rMulN (K : PySem.W.Frag) (w : World) : L2.R2 := fun x y H Q => ∃ Ex F d1 d2 d3, Fit F H ∧ RepP K w Ex F H x d1 ∧ RepP K w Ex F H y d2 ∧ bop .mul d1 d2 = some d3 ∧ ∀ v H' F', Ext H F H' F' → RepN K w H F' H' v d3 → Q v H'
theorem or_mulN : OpR X (binaryOp .Mult) (rMulN X.K X.w) := by
  intro pins s σ H x y v u Q I rx ry h0
  obtain ⟨Ex, F, d1, d2, d3, f, r1, r2, hb, q⟩ := h0
  have gen : (ownV true d3 = false) → wpAny (model X.prog X.w) X.A (binaryOp .Mult v u) (EP X pins σ Q) X.xe s := fun hn =>
    or_mul pins s σ H x y v u Q I rx ry ⟨Ex, F, d1, d2, d3, f, r1, r2, hb, fun v H' F' e rv => q v H' F' e (by unfold RepN; rw [hn, if_neg Bool.false_ne_true]; exact rv)⟩
  cases d1 <;> cases d2 <;> try (cases hb; done)
  case int.int i j =>
    obtain ⟨hl, hb2⟩ := gO_some hb
    cases hb2
    exact gen rfl
  case list.int xs k =>
    obtain ⟨hl, hb2⟩ := gO_some hb
    cases hb2
    obtain ⟨hl, h3⟩ := Bool.and_eq_true_iff.mp hl
    obtain ⟨h1, h2⟩ := Bool.and_eq_true_iff.mp hl
    have h1 := of_decide_eq_true h1
    have h2 := of_decide_eq_true h2
    have h3 := of_decide_eq_true h3
    obtain ⟨a, vs, rfl, e1, e2⟩ := r1.list f
    have hl := dpa_len e2
    refine op_rep pins s σ H _ _ v u Q I rx ry ⟨a, k, vs, rfl, r2.int, e1, by omega, by omega, ?_, fun p hp => ?_⟩
    · have : vs.length * k.toNat ≤ 1000 * 1000 := Nat.mul_le_mul (by omega) (by omega)
      rw [sizeLine_eq]; omega
    · exact q _ _ F (Ext.mk0 f hp) ⟨p, rfl, hp, f.none hp, _, upd_same, dpa_rep e2 _⟩
  case tuple.int xs k =>
    obtain ⟨hl, hb2⟩ := gO_some hb
    cases hb2
    exact gen rfl
theorem mulN_rd {a b : E} (h : tX g call X W (.bin .mul a b) σ H Q) : tOp (rMulN X.K X.w) (tE g call X W a) (tE g call X W b) σ H Q := by
  obtain ⟨A, H0, F0, ρ, F, ω, r, q⟩ := h
  rw [evalE] at q
  refine ⟨A, H0, F0, ρ, F, ω, r, (RPost.bind q).imp fun d1 ω1 H1 F1 g1 s1 q1 x rx => ?_⟩
  refine ⟨A, H0, F0, ρ, F1, ω1, r.grow g1 s1, (RPost.bind q1).imp fun d2 ω2 H2 F2 g2 s2 q2 y ry => ?_⟩
  obtain ⟨d3, e3, q3⟩ := RPost.ofO q2
  refine ⟨_, F2, d1, d2, d3, g2.fit, rx.p.grow g2, ry.p, e3, fun v H' F' e rv => q3 H' F' e.grow (s2.ext e) v ?_⟩
  unfold RepN at rv
  show RepX true X.K X.w H F' H' v d3
  unfold RepX
  cases ho : ownV true d3 with
  | false => rw [ho, if_neg Bool.false_ne_true] at rv; rw [if_neg Bool.false_ne_true]; exact rv
  | true =>
    rw [ho, if_pos rfl] at rv
    rw [if_pos rfl]
    obtain ⟨p, e1, e2, e4, e5⟩ := rv
    exact ⟨p, e1, (g1.trans g2).ex _ e2, e4, e5⟩
end
end Wv

set_option autoImplicit false
set_option linter.all false
set_option maxRecDepth 100000
set_option maxHeartbeats 4000000
namespace Wv
open PySem PySem.Spec PyProof.Rows L2
section
variable {g : G} {c : Ck} {call : Nat → List Slot → M PyData} {X : Cx} {sc : Scope} {W : WX} {K : PySem.W.Frag} {w : World} {H0 F0 F F' F1 H H' H1 : Hp} {Q : VK} {A : Option Addr} {ρ ρ' : Env} {σ σ' : L2.St} {ω ω' : Orc} {α : Type} {D : Ends}
/-! a, b = x, y -/
def tgSw (sc : Scope) (l : Nat) (x : Str) (p : Pos) : Bool := (sc.names.lookup x == some .local) && (p.line == l)
theorem sw2 {x y : Str} {px py pt pt2 : Pos} {kt k2 : Nat} {a b : PX} {env : PySem.Env} (hk : env.scope.kind = .function) (h1 : env.scope.names.lookup x = some .local) (h2 : env.scope.names.lookup y = some .local) (hl : (py.line == px.line) = true) (hxy : x ≠ y)
    (sa : noStar a = true) (sb : noStar b = true) (f1 : ([a, b].all (foldedForSure 8)) = false) (f2 : ([a, b].all (constantsAlone 8)) = false) :
    swappedStores [.Tuple [.Name x px, .Name y py] kt pt] (.Tuple [a, b] k2 pt2) env = pure (some [x, y]) := by
  have hb : env.blockKind = .function := by unfold Env.blockKind; rw [hk]; rfl
  have k1 : env.kindOf x = some .local := h1
  have k2 : env.kindOf y = some .local := h2
  have hst : ([a, b].any fun | .Starred .. => true | _ => false) = false := by
    cases a <;> first | (cases sa; done) | (cases b <;> first | rfl | cases sb)
  have hl' : py.line = px.line := eq_of_beq hl
  unfold swappedStores
  simp only [hb, hst, f1, f2, k1, k2, List.filterMap, Expr.pos, List.head?, hl', Option.map, Option.getD]
  have hxy' : (x == y) = false := by simpa using hxy
  have hd : ([x, y] : List Str).eraseDups.length = 2 := by
    have hyx : (y == x) = false := by simpa using (Ne.symm hxy)
    simp [List.eraseDups, List.eraseDupsBy, List.eraseDupsBy.loop, hxy', hyx]
  simp [hd]
  intro h
  rcases h with h | h
  · cases a <;> first | (cases h; done) | (cases sa; done)
  · cases b <;> first | (cases h; done) | (cases sb; done)
theorem sw3 {x y z : Str} {px py pz pt pt2 : Pos} {kt k2 : Nat} {a b d : PX} {env : PySem.Env} (hk : env.scope.kind = .function) (h1 : env.scope.names.lookup x = some .local) (h2 : env.scope.names.lookup y = some .local) (h3 : env.scope.names.lookup z = some .local) (hl : (py.line == px.line) = true) (hl2 : (pz.line == px.line) = true) (hxy : x ≠ y) (hxz : x ≠ z) (hyz : y ≠ z)
    (sa : noStar a = true) (sb : noStar b = true) (sd : noStar d = true) (f1 : ([a, b, d].all (foldedForSure 8)) = false) (f2 : ([a, b, d].all (constantsAlone 8)) = false) :
    swappedStores [.Tuple [.Name x px, .Name y py, .Name z pz] kt pt] (.Tuple [a, b, d] k2 pt2) env = pure (some [x, y, z]) := by
  have hb : env.blockKind = .function := by unfold Env.blockKind; rw [hk]; rfl
  have k1 : env.kindOf x = some .local := h1
  have k2 : env.kindOf y = some .local := h2
  have k3 : env.kindOf z = some .local := h3
  have hst : ([a, b, d].any fun | .Starred .. => true | _ => false) = false := by
    have e : ∀ (p : PX), noStar p = true → (match p with | .Starred .. => true | _ => false) = false := fun p h => by cases p <;> first | rfl | cases h
    simp [List.any, e a sa, e b sb, e d sd]
  have hl' : py.line = px.line := eq_of_beq hl
  have hl2' : pz.line = px.line := eq_of_beq hl2
  unfold swappedStores
  simp only [hb, hst, f1, f2, k1, k2, k3, List.filterMap, Expr.pos, List.head?, hl', hl2', Option.map, Option.getD]
  have hd : ([x, y, z] : List Str).eraseDups.length = 3 := by
    have e1 : (x == y) = false := by simpa using hxy
    have e2 : (x == z) = false := by simpa using hxz
    have e3 : (y == z) = false := by simpa using hyz
    have e4 : (y == x) = false := by simpa using (Ne.symm hxy)
    have e5 : (z == x) = false := by simpa using (Ne.symm hxz)
    have e6 : (z == y) = false := by simpa using (Ne.symm hyz)
    simp [List.eraseDups, List.eraseDupsBy, List.eraseDupsBy.loop, e1, e2, e3, e4, e5, e6]
  simp [hd]
  intro h
  rcases h with h | h | h
  · cases a <;> first | (cases h; done) | (cases sa; done)
  · cases b <;> first | (cases h; done) | (cases sb; done)
  · cases d <;> first | (cases h; done) | (cases sd; done)
theorem par2_rd {i j : Nat} {a b : E} (h : tS g call X W (.par (.tc (.nm i) (.tc (.nm j) .t0)) (.cons a (.cons b .nil))) D σ H) : tPar i j (tCons (tX g call X W a) (tCons (tX g call X W b) tNil)) D σ H := by
  obtain ⟨A, H0, F0, ρ, F, ω, r, q⟩ := h
  rw [evalS] at q
  obtain ⟨F1, r1, s1⟩ := r.frzL (escs (.cons a (.cons b .nil)))
  have q := q.mono s1
  simp only [evalEs, M.bnd_assoc, M.pure_bnd] at q
  refine ⟨A, H0, F0, _, F1, ω, r1, (SPost.bind r1 q).imp fun d1 ω1 H1 F2 g1 st1 q1 v1 hv1 => ?_⟩
  have r2 := r1.grow g1 st1
  refine ⟨A, H0, F0, _, F2, ω1, r2, (SPost.bind r2 q1).imp fun d2 ω2 H2 F3 g2 st2 q2 v2 hv2 => ?_⟩
  refine ⟨v1, v2, rfl, ?_⟩
  exact q2 _ H2 F3 ((r1.setX g1 st1 hv1 i).setX g2 st2 hv2 j) (Same.refl _)
theorem par3_rd {i j l : Nat} {a b d : E} (h : tS g call X W (.par (.tc (.nm i) (.tc (.nm j) (.tc (.nm l) .t0))) (.cons a (.cons b (.cons d .nil)))) D σ H) : tPar3 i j l (tCons (tX g call X W a) (tCons (tX g call X W b) (tCons (tX g call X W d) tNil))) D σ H := by
  obtain ⟨A, H0, F0, ρ, F, ω, r, q⟩ := h
  rw [evalS] at q
  obtain ⟨F1, r1, s1⟩ := r.frzL (escs (.cons a (.cons b (.cons d .nil))))
  have q := q.mono s1
  simp only [evalEs, M.bnd_assoc, M.pure_bnd] at q
  refine ⟨A, H0, F0, _, F1, ω, r1, (SPost.bind r1 q).imp fun d1 ω1 H1 F2 g1 st1 q1 v1 hv1 => ?_⟩
  have r2 := r1.grow g1 st1
  refine ⟨A, H0, F0, _, F2, ω1, r2, (SPost.bind r2 q1).imp fun d2 ω2 H2 F3 g2 st2 q2 v2 hv2 => ?_⟩
  have r3 := r2.grow g2 st2
  refine ⟨A, H0, F0, _, F3, ω2, r3, (SPost.bind r3 q2).imp fun d3 ω3 H3 F4 g3 st3 q3 v3 hv3 => ?_⟩
  refine ⟨v1, v2, v3, rfl, ?_⟩
  exact q3 _ H3 F4 (((r1.setX g1 st1 hv1 i).setX g2 st2 hv2 j).setX g3 st3 hv3 l) (Same.refl _)
/-! try -/
def vLit : PyData → V
  | .none => .non
  | .bool b => .bl b
  | .int i => .int i
  | .str x => .str x
  | _ => .non
theorem vLit_rep {d : PyData} {k : Const} (h : litB d k = true) : RepF K w F (vLit d) d := by
  cases d <;> cases k <;> first | (cases h; done) | exact .dat .non | exact .dat (.bl _) | exact .dat (.int _) | exact .dat (.str _)
theorem pe_lit {d : PyData} {k : Const} {j : Nat} {pos : Pos} {X : Cx} (h : litB d k = true) : PE X (.Constant k j pos) (tC (vLit d)) := by
  cases d <;> cases k <;> try (cases h; done)
  · exact pe_non
  · have e := eq_of_beq (show (_ == _) = true from h); subst e; exact pe_bl
  · have e := eq_of_beq (show (_ == _) = true from h); subst e; exact pe_int
  · have e := eq_of_beq (show (_ == _) = true from h); subst e; exact pe_str
def hdD : Hd → PyData
  | .lit d => d
  | _ => .none
def hdS (g : G) (h : Nat × Hd) : Value × (Addr → Value → Option Addr → TS) := (.ref (g.ca h.1), fun _ _ _ => tRet (tC (vLit (hdD h.2))))
def hdL : Nat × Hd → Bool
  | (_, .lit .none) | (_, .lit (.bool _)) | (_, .lit (.int _)) | (_, .lit (.str _)) => true
  | _ => false
theorem hdL_rep {h : Nat × Hd} {p : PyData} (e : hdL h = true) : RepF K w F (vLit (hdD h.2)) (evHd p h.2) := by
  obtain ⟨k, h⟩ := h
  cases h with
  | lit d => cases d <;> first | (cases e; done) | exact .dat .non | exact .dat (.bl _) | exact .dat (.int _) | exact .dat (.str _)
  | _ => cases e
def tTry (g : G) (call : Nat → List Slot → M PyData) (X : Cx) (r : Bool) (e : E) (W : WX) : TS := if r = true then tRet (tE g call X W e) else tDrop (tE g call X W e)
theorem try_rd {b : Bool} {e : E} {hs : List (Nat × Hd)} (hp : isPk e = false) (ex : ∀ i j, i < g.nc → j < g.nc → PySem.W.exmOne X.K (.ref (g.ca i)) (.ref (g.ca j)) = some (i == j)) (hk : ∀ h ∈ hs, h.1 < g.nc ∧ hdL h = true)
    (h : tS g call X W (.try_ b e hs) D σ H) : tTry g call X b e (wMany X.K W D (hs.map (hdS g))) D σ H := by
  obtain ⟨A, H0, F0, ρ, F, ω, r, q⟩ := h
  rw [evalS] at q
  obtain ⟨F1, r1, s1⟩ := r.frzL (esc e)
  replace q := q.mono s1
  simp only at q
  have fin : RPost g X.K (wMany X.K W D (hs.map (hdS g))) σ A H F1 (evalE g.gt call e (frz (esc e) ρ) ω) (fun d ω1 H' F' => SPost g X.K X.w W A H0 F0 F' D (R.ok (if b = true then .rt d else .nx (frz (esc e) ρ)) ω1)) := by
    cases ev : evalE g.gt call e (frz (esc e) ρ) ω with
    | ok d ω1 => rw [ev] at q; exact fun H' F' gr st => q.mono gr.fs
    | stuck => rw [ev] at q; exact q.elim
    | exc k p ω1 =>
      rw [ev] at q
      replace q : SPost g X.K X.w W A H0 F0 F1 D (match hs.lookup k with | some h => R.ok (.rt (evHd p h)) ω1 | none => .exc k p ω1) := q
      intro H' F' dx g2 st pk
      clear ev
      induction hs with
      | nil => exact q σ H' F' dx (r1.gr.trans g2) st pk
      | cons h0 hs ih =>
        obtain ⟨k0, h0⟩ := h0
        obtain ⟨e1, e2⟩ := hk (k0, h0) List.mem_cons_self
        refine ⟨k == k0, ex k k0 pk.1 e1, fun hb a na => ?_, fun hb => ?_⟩
        · rw [List.lookup_cons, hb] at q
          exact q _ H' F' (r1.gr.trans g2) st (hdL_rep e2)
        · rw [List.lookup_cons, hb] at q
          replace q : SPost g X.K X.w W A H0 F0 F1 D (match hs.lookup k with | some h => R.ok (.rt (evHd p h)) ω1 | none => .exc k p ω1) := q
          exact ih (fun h hm => hk h (List.mem_cons_of_mem _ hm)) q
  cases b with
  | true =>
    refine ⟨A, H0, F0, _, F1, ω, r1, fin.imp fun d ω1 H' F' g1 st q v hv => ?_⟩
    rw [hp] at hv
    exact q v H' F' (r1.gr.trans g1) st hv
  | false =>
    refine ⟨A, H0, F0, _, F1, ω, r1, fin.imp fun d ω1 H' F' g1 st q v hv => ?_⟩
    exact q σ H' F' (r1.grow g1 st) (Same.refl _)
end
end Wv

set_option autoImplicit false
set_option linter.all false
set_option maxRecDepth 100000
set_option maxHeartbeats 4000000
namespace Wv
open PySem PySem.Spec PyProof.Rows L2
section
abbrev PSt := PySem.Stmt
def sPass : PSt → Bool
  | .Pass _ => true
  | _ => false
theorem sPass_of {x : PSt} (h : sPass x = true) : ∃ p, x = .Pass p := by
  unfold sPass at h; split at h
  · exact ⟨_, rfl⟩
  · cases h
def sBrk : PSt → Bool
  | .Break _ => true
  | _ => false
theorem sBrk_of {x : PSt} (h : sBrk x = true) : ∃ p, x = .Break p := by
  unfold sBrk at h; split at h
  · exact ⟨_, rfl⟩
  · cases h
def sCnt : PSt → Bool
  | .Continue _ => true
  | _ => false
theorem sCnt_of {x : PSt} (h : sCnt x = true) : ∃ p, x = .Continue p := by
  unfold sCnt at h; split at h
  · exact ⟨_, rfl⟩
  · cases h
def sRetN : PSt → Bool
  | .Return none _ => true
  | _ => false
theorem sRetN_of {x : PSt} (h : sRetN x = true) : ∃ p, x = .Return none p := by
  unfold sRetN at h; split at h
  · exact ⟨_, rfl⟩
  · cases h
def sRet (x : PSt) (k : PX → Bool) : Bool := match x with
  | .Return (some e) _ => k e
  | _ => false
theorem sRet_of {x : PSt} {k : PX → Bool} (h : sRet x k = true) : ∃ e p, x = .Return (some e) p ∧ k e = true := by
  unfold sRet at h; split at h
  · exact ⟨_, _, rfl, h⟩
  · cases h
def sExpr (x : PSt) (k : PX → Bool) : Bool := match x with
  | .Expr e _ => k e
  | _ => false
theorem sExpr_of {x : PSt} {k : PX → Bool} (h : sExpr x k = true) : ∃ e p, x = .Expr e p ∧ k e = true := by
  unfold sExpr at h; split at h
  · exact ⟨_, _, rfl, h⟩
  · cases h
def sAsg (x : PSt) (k : PX → PX → Bool) : Bool := match x with
  | .Assign [t] e _ => k t e
  | _ => false
theorem sAsg_of {x : PSt} {k : PX → PX → Bool} (h : sAsg x k = true) : ∃ t e p, x = .Assign [t] e p ∧ k t e = true := by
  unfold sAsg at h; split at h
  · exact ⟨_, _, _, rfl, h⟩
  · cases h
def sAug (x : PSt) (k : PX → Operator → PX → Bool) : Bool := match x with
  | .AugAssign t o e _ => k t o e
  | _ => false
theorem sAug_of {x : PSt} {k : PX → Operator → PX → Bool} (h : sAug x k = true) : ∃ t o e p, x = .AugAssign t o e p ∧ k t o e = true := by
  unfold sAug at h; split at h
  · exact ⟨_, _, _, _, rfl, h⟩
  · cases h
def sIf (x : PSt) (k : PX → List PSt → List PSt → Bool) : Bool := match x with
  | .If t a b _ => k t a b
  | _ => false
theorem sIf_of {x : PSt} {k : PX → List PSt → List PSt → Bool} (h : sIf x k = true) : ∃ t a b p, x = .If t a b p ∧ k t a b = true := by
  unfold sIf at h; split at h
  · exact ⟨_, _, _, _, rfl, h⟩
  · cases h
def sWh (x : PSt) (k : PX → List PSt → Bool) : Bool := match x with
  | .While t a [] _ => k t a
  | _ => false
theorem sWh_of {x : PSt} {k : PX → List PSt → Bool} (h : sWh x k = true) : ∃ t a p, x = .While t a [] p ∧ k t a = true := by
  unfold sWh at h; split at h
  · exact ⟨_, _, _, rfl, h⟩
  · cases h
def sFor (x : PSt) (k : PX → PX → List PSt → Bool) : Bool := match x with
  | .For t e a [] _ => k t e a
  | _ => false
theorem sFor_of {x : PSt} {k : PX → PX → List PSt → Bool} (h : sFor x k = true) : ∃ t e a p, x = .For t e a [] p ∧ k t e a = true := by
  unfold sFor at h; split at h
  · exact ⟨_, _, _, _, rfl, h⟩
  · cases h
def sRaise (x : PSt) (k : Str → Bool) : Bool := match x with
  | .Raise (some (.Call (.Name n _) [] [] _)) none _ => k n
  | _ => false
theorem sRaise_of {x : PSt} {k : Str → Bool} (h : sRaise x k = true) : ∃ n p q r, x = .Raise (some (.Call (.Name n p) [] [] q)) none r ∧ k n = true := by
  unfold sRaise at h; split at h
  · exact ⟨_, _, _, _, rfl, h⟩
  · cases h
def sTry (x : PSt) (k : PSt → List ExceptHandler → Bool) : Bool := match x with
  | .Try [b] (h :: hs) [] [] _ => k b (h :: hs)
  | _ => false
theorem sTry_of {x : PSt} {k : PSt → List ExceptHandler → Bool} (h : sTry x k = true) : ∃ b h hs p, x = .Try [b] (h :: hs) [] [] p ∧ k b (h :: hs) = true := by
  unfold sTry at h; split at h
  · exact ⟨_, _, _, _, rfl, h⟩
  · cases h
def noLC : PX → Bool
  | .ListComp .. | .SetComp .. | .DictComp .. => false
  | _ => true
theorem noLC_of {e : PX} (h : noLC e = true) (t : Option PX) (l : Nat) (env : PySem.Env) : swapsWith e t l env = pure false := by
  cases e <;> first | rfl | cases h
/-- may be bound to a name -/
def okX : E → Bool
  | .lst _ | .comp .. | .bin .mul _ _ => true
  | e => !freshE e
def isComp : E → Bool
  | .comp .. => true
  | _ => false
/-! the clauses -/
def hdOne (c : Ck) (sc : Scope) (h : Nat × Hd) (x : ExceptHandler) : Bool := match x with
  | .ExceptHandler (some (.Name n _)) none [b] _ => (c.cl[h.1]? == some n) && glB sc n && plainN n && hdL h && sRet b fun e => vConst e (litB (hdD h.2))
  | _ => false
def chkHs (c : Ck) (sc : Scope) : List (Nat × Hd) → List ExceptHandler → Bool
  | [], [] => true
  | h :: hs, x :: xs => hdOne c sc h x && chkHs c sc hs xs
  | _, _ => false
def prEs (es : Es) (vs : List PX) (k2 : E → PX → E → PX → Bool) (k3 : E → PX → E → PX → E → PX → Bool) : Bool := match es, vs with
  | .cons a (.cons b .nil), [x, y] => k2 a x b y
  | .cons a (.cons b (.cons d .nil)), [x, y, z] => k3 a x b y d z
  | _, _ => false
def prT (t : Tg) (x : PX) (k2 : Nat → Str → Pos → Nat → Str → Pos → Bool) (k3 : Nat → Str → Pos → Nat → Str → Pos → Nat → Str → Pos → Bool) : Bool := match t, x with
  | .tc (.nm i) (.tc (.nm j) .t0), .Tuple [.Name a p, .Name b q] _ _ => k2 i a p j b q
  | .tc (.nm i) (.tc (.nm j) (.tc (.nm l) .t0)), .Tuple [.Name a p, .Name b q, .Name d r] _ _ => k3 i a p j b q l d r
  | _, _ => false
def nmL (c : Ck) (sc : Scope) (i : Nat) (x : Str) : Bool := (c.N[i]? == some x) && (sc.names.lookup x == some .local)
def chkV (c : Ck) (sc : Scope) (e : E) (x : PX) : Bool := chkE c e sc x && vl e && okX e && noStar x
def chkPar (c : Ck) (sc : Scope) (t : Tg) (es : Es) (x v : PX) : Bool := vTup v fun vs =>
  prEs es vs
    (fun a xa b xb => chkV c sc a xa && chkV c sc b xb && !([xa, xb].all (foldedForSure 8)) && !([xa, xb].all (constantsAlone 8)) &&
      prT t x (fun i n p j m q => nmL c sc i n && nmL c sc j m && (q.line == p.line) && decide (i ≠ j) && decide (n ≠ m)) (fun _ _ _ _ _ _ _ _ _ => false))
    (fun a xa b xb d xd => chkV c sc a xa && chkV c sc b xb && chkV c sc d xd && !([xa, xb, xd].all (foldedForSure 8)) && !([xa, xb, xd].all (constantsAlone 8)) &&
      prT t x (fun _ _ _ _ _ _ => false) (fun i n p j m q l o r => nmL c sc i n && nmL c sc j m && nmL c sc l o && (q.line == p.line) && (r.line == p.line) && decide (i ≠ j) && decide (i ≠ l) && decide (j ≠ l) && decide (n ≠ m) && decide (n ≠ o) && decide (m ≠ o)))
mutual
def chkS (c : Ck) : S → Scope → PSt → Bool
  | .pass, _, x => sPass x
  | .brk, _, x => sBrk x
  | .cnt, _, x => sCnt x
  | .retn, _, x => sRetN x
  | .ret e, sc, x => sRet x fun y => chkE c e sc y && vl e
  | .expr e, sc, x => sExpr x fun y => chkE c e sc y && !isIt e && noLC y
  | .asg t e, sc, x => sAsg x fun y z => chkE c e sc z && vl e && noStar y && (match t with
      | .nm i => vName y (fun n => tgE c (fun _ => true) sc i n) && okX e && (isComp e || noLC z)
      | t => chkTg c (fun _ => true) sc t y && noLC z && (swapFree y z))
  | .par t es, sc, x => sAsg x fun y z => chkPar c sc t es y z
  | .aug i o e, sc, x => sAug x fun y p z => vName y (fun n => tgE c (fun _ => true) sc i n) && (isBin o == some p) && isAug o && chkE c e sc z && vl e
  | .sset i k e, sc, x => sAsg x fun y z => vIx y (fun u v => vName u (varB c sc i) && vConst v (fun w => litB (.int (k : Nat)) w)) && chkE c e sc z && vl e
  | .ite e a b, sc, x => sIf x fun t p q => chkE c e sc t && !isIt e && okT e t && chkSs c a sc p && chkSs c b sc q
  | .wh e b, sc, x => sWh x fun t p => chkE c e sc t && !isIt e && okT e t && chkSs c b sc p
  | .for_ t it b, sc, x => sFor x fun y z p => chkTg c (fun _ => true) sc t y && chkE c it sc z && !isPk it && noSet z && chkSs c b sc p
  | .raise k, sc, x => sRaise x fun n => (c.cl[k]? == some n) && glB sc n && plainN n
  | .try_ r e hs, sc, x => sTry x fun b xs => chkHs c sc hs xs && (if r = true then sRet b fun y => chkE c e sc y && vl e else sExpr b fun y => chkE c e sc y && vl e && noLC y)
  | _, _, _ => false
def chkSs (c : Ck) : S → Scope → List PSt → Bool
  | .skip, _, xs => xs.isEmpty
  | .seq a b, sc, xs => match xs with
    | [] => false
    | x :: xs => chkS c a sc x && chkSs c b sc xs
  | _, _, _ => false
/-- a tuple's names, stored one after the other -/
def swapFree (y z : PX) : Bool := match y, z with
  | .Tuple .., .Tuple .. => false
  | .List .., _ => false
  | _, _ => true
end
end
end Wv

set_option autoImplicit false
set_option linter.all false
set_option maxRecDepth 100000
set_option maxHeartbeats 4000000
namespace Wv
open PySem PySem.Spec PyProof.Rows L2
section
variable {g : G} {c : Ck} {call : Nat → List Slot → M PyData} {X : Cx} {sc : Scope} {W : WX}
structure GS (g : G) (c : Ck) (call : Nat → List Slot → M PyData) (X : Cx) (sc : Scope) : Prop extends Gd g c call X sc where
  cls : ∀ k x, c.cl[k]? = some x → k < g.nc ∧ X.mg x = some (.ref (g.ca k)) ∧ PySem.W.keepIn X.K (.ref (g.ca k)) = true ∧ (∃ bmB B newId initId, ExcBaseFacts B newId initId bmB ∧ PySem.W.excIn X.K (g.ca k) bmB newId = true) ∧ Raises X (.ref (g.ca k))
  exm : ∀ i j, i < g.nc → j < g.nc → PySem.W.exmOne X.K (.ref (g.ca i)) (.ref (g.ca j)) = some (i == j)
  pass : PassesOwn (model X.prog X.w) X.A X.env X.xe
  fn : ∀ x, X.fn x = true
  stk : X.stack = X.env :: X.outer
  frm : X.env.frame = some X.env.locals
  kind : X.env.scope.kind = .function
theorem PS.wk {st : PSt} {t t' : TS} (h : PS X st t) (i : ∀ D σ H, t' D σ H → t D σ H) : PS X st t' := ⟨fun pins s σ H D I q => h.run pins s σ H D I (i D σ H q)⟩
theorem PSs.wk {st : List PSt} {t t' : TS} (h : PSs X st t) (i : ∀ D σ H, t' D σ H → t D σ H) : PSs X st t' := ⟨fun pins s σ H D I q => h.run pins s σ H D I (i D σ H q)⟩
theorem sw_none {ys : List PX} {k : Nat} {p : Pos} {z : PX} {env : PySem.Env} (h : swapFree (.Tuple ys k p) z = true) : swappedStores [.Tuple ys k p] z env = pure none := by
  cases z <;> first | rfl | cases h
/-- a comprehension, as a value and as what a name is bound to -/
theorem lc_both {t : Tg} {it : E} {ts : Es} {e : E} {x : PX} (G : Gd g c call X sc) (tk : Takes X W) (h : chkE c (.comp t it ts e) sc x = true) : ∃ elt gs sc2 p, x = .ListComp elt gs sc2 p ∧ isPk e = false ∧
    PE X x (tLc (tI g call X W false it) (tG g X (tgS t) t) (tTs g call X W0 ts) (tE g call X W0 e) (tgS t)) ∧
    ∀ (i : Nat) (y : Str) (py spos : Pos), X.N[i]? = some y → X.env.scope.names.lookup y = some .local → swapsWith x (some (.Name y py)) spos.line X.env = pure true →
      PS X (.Assign [.Name y py] x spos) (tAsg (tLc (tI g call X W false it) (tG g X (tgS t) t) (tTs g call X W0 ts) (tE g call X W0 e) (tgS t)) (gName i)) := by
  rw [chkE] at h
  obtain ⟨elt, tg, iter, ifs, sc2, p, rfl, h⟩ := vComp_of h
  obtain ⟨h, h8⟩ := and2 h
  obtain ⟨h, h7⟩ := and2 h
  obtain ⟨h, h6⟩ := and2 h
  obtain ⟨h, h5⟩ := and2 h
  obtain ⟨h, h4⟩ := and2 h
  obtain ⟨h1, h2, h3⟩ := and3 h
  have hv := eq_of_beq h5
  have hi : PI X tg iter (tI g call X W false it) := (snd it X sc iter W G tk h1).2 tg false rfl
  have ok : BlkOk X.N X.env.scope sc2 (ownOf c.N (tgS t)) := by rw [G.N, G.sc]; exact blkOk_by h4
  have hg := fun (s : Shared) (H : Hp) (C : Addr) (cl : List (Str × Addr)) (fp : List Addr) => snd_tg (vs := tgS t) (X := X.blk s H sc2 (compEnvC sc2 cl C X.env) fp) (blk_gd G) (fun _ h => h) t tg h3
  have ht := fun (s : Shared) (H : Hp) (C : Addr) (cl : List (Str × Addr)) (fp : List Addr) => sndTs ts (X.blk s H sc2 (compEnvC sc2 cl C X.env) fp) _ ifs W0 (blk_gd G) takes0 h6
  have he := fun (s : Shared) (H : Hp) (C : Addr) (cl : List (Str × Addr)) (fp : List Addr) => ((snd e (X.blk s H sc2 (compEnvC sc2 cl C X.env) fp) _ elt W0 (blk_gd G) takes0 h7).1 (vl_of h8).2).1
  refine ⟨elt, _, sc2, p, rfl, (vl_of h8).1, ?_, fun i y py spos hy hyl hsw => ?_⟩
  · have hp := pe_lc (pos := p) (wi := tI g call X W false it) (g := tG g X (tgS t) t) (tt := tTs g call X W0 ts) (te := tE g call X W0 e) G.calm (by rw [G.N]; exact G.nd) hi ok hg ht he (noFold h2 _)
    rw [hv] at hp
    exact hp
  · have hp := ps_setLc (py := py) (spos := spos) (wi := tI g call X W false it) (g := tG g X (tgS t) t) (tt := tTs g call X W0 ts) (te := tE g call X W0 e) G.calm (by rw [G.N]; exact G.nd) hy hyl hsw hi ok hg ht he (noFold h2 _)
    rw [hv] at hp
    exact hp
theorem sndX {e : E} {x : PX} (G : Gd g c call X sc) (tk : Takes X W) (h : chkE c e sc x = true) (hv : vl e = true) (ho : okX e = true) : PE X x (tX g call X W e) := by
  cases hf : freshE e with
  | false => exact PE.wk ((snd e X sc x W G tk h).1 (vl_of hv).2).1 fun σ H Q q => tX_e (vl_of hv).1 hf q
  | true =>
    cases e with
    | lst es =>
      rw [chkE] at h
      obtain ⟨xs, p, rfl, h⟩ := vLst_of h
      obtain ⟨h1, h2⟩ := and2 h
      have hn : lenEs es ≤ sizeLine := by
        rw [es_len es xs h1, sizeLine_eq]
        exact Nat.le_trans (of_decide_eq_true h2) (by decide)
      exact PE.wk (pe_lst (sndEs es X sc xs W G tk h1)) fun σ H Q q => lstN_rd hn (tX_n rfl q)
    | bin o a b =>
      cases o with
      | mul =>
        rw [chkE] at h
        rcases vBin_of h with ⟨l, p, r, q, rfl, h1, h2⟩ | ⟨l, p, r, q, rfl, h1, hm, h2⟩
        · obtain ⟨h3, h6⟩ := and2 h2
          obtain ⟨h3, h5⟩ := and2 h3
          obtain ⟨h3, h4⟩ := and2 h3
          cases h1
          exact PE.wk (pe_op or_mulN ((snd a X sc l W G tk h3).1 (nb h5)).1 ((snd b X sc r W G tk h4).1 (nb h6)).1) fun σ H Q q => mulN_rd q
        · cases h1
      | _ => cases hf
    | comp t it ts e =>
      obtain ⟨elt, gs, sc2, p, rfl, hp, h2, _⟩ := lc_both G tk h
      exact PE.wk h2 fun σ H Q q => comp_rd hp (tX_n rfl q)
    | _ => first | (cases hf; done) | (simp [okX, hf] at ho; done)
theorem nm_of {i : Nat} {y : Str} {sc : Scope} {fb : Str → Bool} (h : tgE c fb sc i y = true) : c.N[i]? = some y ∧ Loc sc y := by
  unfold tgE at h
  obtain ⟨h1, h2⟩ := and2 h
  refine ⟨eq_of_beq h1, ?_⟩
  rcases Bool.or_eq_true_iff.mp h2 with h | h
  · exact .inl (eq_of_beq h)
  · exact .inr (eq_of_beq (and2 h).1)
theorem nmL_of {i : Nat} {y : Str} {sc : Scope} (h : nmL c sc i y = true) : c.N[i]? = some y ∧ sc.names.lookup y = some .local := by
  obtain ⟨h1, h2⟩ := and2 h
  exact ⟨eq_of_beq h1, eq_of_beq h2⟩
theorem prEs_of {es : Es} {vs : List PX} {k2 : E → PX → E → PX → Bool} {k3 : E → PX → E → PX → E → PX → Bool} (h : prEs es vs k2 k3 = true) :
    (∃ a b x y, es = .cons a (.cons b .nil) ∧ vs = [x, y] ∧ k2 a x b y = true) ∨ ∃ a b d x y z, es = .cons a (.cons b (.cons d .nil)) ∧ vs = [x, y, z] ∧ k3 a x b y d z = true := by
  unfold prEs at h; split at h
  · exact .inl ⟨_, _, _, _, rfl, rfl, h⟩
  · exact .inr ⟨_, _, _, _, _, _, rfl, rfl, h⟩
  · cases h
theorem prT_of {t : Tg} {x : PX} {k2 : Nat → Str → Pos → Nat → Str → Pos → Bool} {k3 : Nat → Str → Pos → Nat → Str → Pos → Nat → Str → Pos → Bool} (h : prT t x k2 k3 = true) :
    (∃ i j a p b q kt pt, t = .tc (.nm i) (.tc (.nm j) .t0) ∧ x = .Tuple [.Name a p, .Name b q] kt pt ∧ k2 i a p j b q = true) ∨ ∃ i j l a p b q d r kt pt, t = .tc (.nm i) (.tc (.nm j) (.tc (.nm l) .t0)) ∧ x = .Tuple [.Name a p, .Name b q, .Name d r] kt pt ∧ k3 i a p j b q l d r = true := by
  unfold prT at h; split at h
  · exact .inl ⟨_, _, _, _, _, _, _, _, rfl, rfl, h⟩
  · exact .inr ⟨_, _, _, _, _, _, _, _, _, _, _, rfl, rfl, h⟩
  · cases h
theorem swSole_tup {ts : List PX} {k : Nat} {p : Pos} {e : PX} {l : Nat} {env : PySem.Env} : swapsWithSole [.Tuple ts k p] e l env = pure false := by
  cases e <;> rfl
theorem par_ps {t : Tg} {es : Es} {y z : PX} {p : Pos} (G : GS g c call X sc) (tk : Takes X W) (h : chkPar c sc t es y z = true) : PS X (.Assign [y] z p) (tS g call X W (.par t es)) := by
  obtain ⟨vs, k2, pt2, rfl, h⟩ := vTup_of h
  have hN : X.N.Nodup := by rw [G.N]; exact G.nd
  have ve : ∀ {e : E} {x : PX}, chkV c sc e x = true → PE X x (tX g call X W e) ∧ noStar x = true := fun {e x} h => by
    obtain ⟨h, h4⟩ := and2 h
    obtain ⟨h1, h2, h3⟩ := and3 h
    exact ⟨sndX G.toGd tk h1 h2 h3, h4⟩
  rcases prEs_of h with ⟨a, b, xa, xb, rfl, rfl, h⟩ | ⟨a, b, d, xa, xb, xd, rfl, rfl, h⟩
  · obtain ⟨h, hT⟩ := and2 h
    obtain ⟨h, f2⟩ := and2 h
    obtain ⟨h1, h2, f1⟩ := and3 h
    obtain ⟨pa, sa⟩ := ve h1
    obtain ⟨pb, sb⟩ := ve h2
    rcases prT_of hT with ⟨i, j, n, pn, m, pm, kt, pt, rfl, rfl, hh⟩ | ⟨i, j, l, n, pn, m, pm, o, po, kt, pt, rfl, rfl, hh⟩
    · obtain ⟨hh, e5⟩ := and2 hh
      obtain ⟨hh, e4⟩ := and2 hh
      obtain ⟨e1, e2, e3⟩ := and3 hh
      obtain ⟨n1, l1⟩ := nmL_of e1
      obtain ⟨n2, l2⟩ := nmL_of e2
      rw [← G.sc] at l1 l2
      rw [← G.N] at n1 n2
      exact PS.wk (ps_par G.calm hN n1 n2 (of_decide_eq_true e4) l1 l2 (pa_cons pa (pa_cons pb pa_nil (star_of sb)) (star_of sa)) (sw2 G.kind l1 l2 e3 (of_decide_eq_true e5) sa sb (nb f1) (nb f2)) swSole_tup) fun D σ H q => par2_rd q
    · cases hh
  · obtain ⟨h, hT⟩ := and2 h
    obtain ⟨h, f2⟩ := and2 h
    obtain ⟨h, f1⟩ := and2 h
    obtain ⟨h1, h2, h3⟩ := and3 h
    obtain ⟨pa, sa⟩ := ve h1
    obtain ⟨pb, sb⟩ := ve h2
    obtain ⟨pd, sd⟩ := ve h3
    rcases prT_of hT with ⟨i, j, n, pn, m, pm, kt, pt, rfl, rfl, hh⟩ | ⟨i, j, l, n, pn, m, pm, o, po, kt, pt, rfl, rfl, hh⟩
    · cases hh
    · obtain ⟨hh, e11⟩ := and2 hh
      obtain ⟨hh, e10⟩ := and2 hh
      obtain ⟨hh, e9⟩ := and2 hh
      obtain ⟨hh, e8⟩ := and2 hh
      obtain ⟨hh, e7⟩ := and2 hh
      obtain ⟨hh, e6⟩ := and2 hh
      obtain ⟨hh, e5⟩ := and2 hh
      obtain ⟨hh, e4⟩ := and2 hh
      obtain ⟨e1, e2, e3⟩ := and3 hh
      obtain ⟨n1, l1⟩ := nmL_of e1
      obtain ⟨n2, l2⟩ := nmL_of e2
      obtain ⟨n3, l3⟩ := nmL_of e3
      rw [← G.sc] at l1 l2 l3
      rw [← G.N] at n1 n2 n3
      exact PS.wk (ps_par3 G.calm hN n1 n2 n3 (of_decide_eq_true e6) (of_decide_eq_true e7) (of_decide_eq_true e8) l1 l2 l3 (pa_cons pa (pa_cons pb (pa_cons pd pa_nil (star_of sd)) (star_of sb)) (star_of sa))
        (sw3 G.kind l1 l2 l3 e4 e5 (of_decide_eq_true e9) (of_decide_eq_true e10) (of_decide_eq_true e11) sa sb sd (nb f1) (nb f2)) swSole_tup) fun D σ H q => par3_rd q
theorem tr_gd {pn : List (Addr × Obj)} {xe : Value → Shared → Prop} (G : Gd g c call X sc) : Gd g c call (X.tr pn xe) sc := ⟨G.sc, G.N, G.nd, G.calm, G.fns, G.drw, G.rm, G.frn⟩
theorem hds_ok (G : GS g c call X sc) : ∀ (hs : List (Nat × Hd)) (xs : List ExceptHandler), chkHs c sc hs xs = true → HdsOk X xs (hs.map (hdS g)) ∧ ∀ h ∈ hs, h.1 < g.nc ∧ hdL h = true
  | [], [], _ => ⟨.nil, fun h z => by cases z⟩
  | [], _ :: _, h => by cases h
  | _ :: _, [], h => by cases h
  | (k, hd) :: hs, x :: xs, h => by
    obtain ⟨h1, h2⟩ := and2 (show (hdOne c sc (k, hd) x && chkHs c sc hs xs) = true from h)
    unfold hdOne at h1
    obtain ⟨r1, r2⟩ := hds_ok G hs xs h2
    split at h1
    · obtain ⟨h1, h7⟩ := and2 h1
      obtain ⟨h1, h6⟩ := and2 h1
      obtain ⟨h3, h4, h5⟩ := and3 h1
      obtain ⟨e, p, rfl, h8⟩ := sRet_of h7
      obtain ⟨w, j, p2, rfl, h9⟩ := vConst_of h8
      obtain ⟨c1, c2, c3, c4, c5⟩ := G.cls k _ (eq_of_beq h3)
      refine ⟨.cons ⟨gl_of G.toGd h4, plainN_of h5, .inl c2⟩ (fun a oe cls d pn _ _ => ?_) r1, fun h hm => ?_⟩
      · exact pss_one (ps_ret (pe_lit h9))
      · rcases List.mem_cons.mp hm with e | e
        · subst e; exact ⟨c1, h6⟩
        · exact r2 h e
    · cases h1
mutual
theorem sndS : ∀ (s : S) (X : Cx) (sc : Scope) (x : PSt) (W : WX), GS g c call X sc → Takes X W → chkS c s sc x = true → PS X x (tS g call X W s)
  | .pass, X, sc, x, W, G, tk, h => by
    rw [chkS] at h
    obtain ⟨p, rfl⟩ := sPass_of h
    exact PS.wk ps_pass fun D σ H q => pass_rd q
  | .brk, X, sc, x, W, G, tk, h => by
    rw [chkS] at h
    obtain ⟨p, rfl⟩ := sBrk_of h
    exact PS.wk ps_break fun D σ H q => brk_rd q
  | .cnt, X, sc, x, W, G, tk, h => by
    rw [chkS] at h
    obtain ⟨p, rfl⟩ := sCnt_of h
    exact PS.wk ps_continue fun D σ H q => cnt_rd q
  | .retn, X, sc, x, W, G, tk, h => by
    rw [chkS] at h
    obtain ⟨p, rfl⟩ := sRetN_of h
    exact PS.wk ps_retN fun D σ H q => retn_rd q
  | .ret e, X, sc, x, W, G, tk, h => by
    rw [chkS] at h
    obtain ⟨y, p, rfl, h⟩ := sRet_of h
    obtain ⟨h1, h2⟩ := and2 h
    exact PS.wk (ps_ret ((snd e X sc y W G.toGd tk h1).1 (vl_of h2).2).1) fun D σ H q => ret_rd (vl_of h2).1 q
  | .expr e, X, sc, x, W, G, tk, h => by
    rw [chkS] at h
    obtain ⟨y, p, rfl, h⟩ := sExpr_of h
    obtain ⟨h1, h2, h3⟩ := and3 h
    exact PS.wk (ps_expr ((snd e X sc y W G.toGd tk h1).1 (nb h2)).1 (noLC_of h3 _ _ _)) fun D σ H q => expr_rd q
  | .asg t e, X, sc, x, W, G, tk, h => by
    rw [chkS] at h
    obtain ⟨y, z, p, rfl, h⟩ := sAsg_of h
    obtain ⟨h, h4⟩ := and2 h
    obtain ⟨h1, h2, h3⟩ := and3 h
    have hN : X.N.Nodup := by rw [G.N]; exact G.nd
    cases t with
    | nm i =>
      obtain ⟨h5, h6, h7⟩ := and3 h4
      obtain ⟨n, p2, rfl, hn5⟩ := vName_of h5
      obtain ⟨n1, l1⟩ := nm_of hn5
      rw [← G.N] at n1
      rw [← G.sc] at l1
      have px := sndX G.toGd tk h1 h2 h6
      have hf : X.fn n = true ∨ X.env.scope.names.lookup n = some .local := .inl (G.fn n)
      rcases Bool.or_eq_true_iff.mp h7 with h7 | h7
      · cases e with
        | comp t it ts e =>
          obtain ⟨elt, gs, sc2, p3, rfl, hp, h8, h9⟩ := lc_both G.toGd tk h1
          have e1 : swapsWith (.ListComp elt gs sc2 p3) (some (.Name n p2)) p.line X.env = pure (X.env.blockKind == .function && X.env.kindOf n == some .local && p2.line == p3.line && !(sc2.names.any fun (m, k) => m == n && (k == .local || k == .cell))) := rfl
          cases hb : (X.env.blockKind == .function && X.env.kindOf n == some .local && p2.line == p3.line && !(sc2.names.any fun (m, k) => m == n && (k == .local || k == .cell))) with
          | false =>
            rw [hb] at e1
            exact PS.wk (ps_set hN n1 l1 px e1 hf) fun D σ H q => asgX_rd q
          | true =>
            rw [hb] at e1
            have l2 : X.env.scope.names.lookup n = some .local := by
              simp only [Bool.and_eq_true, beq_iff_eq] at hb
              exact hb.1.1.2
            exact PS.wk (h9 i n p2 p n1 l2 e1) fun D σ H q => comp_rd hp (tX_n rfl (asgX_rd q))
        | _ => cases h7
      · exact PS.wk (ps_set hN n1 l1 px (noLC_of h7 _ _ _) hf) fun D σ H q => asgX_rd q
    | t0 =>
      obtain ⟨h5, h6, h7⟩ := and3 h4
      have pe := ((snd e X sc z W G.toGd tk h1).1 (vl_of h2).2).1
      have pg := snd_tg (vs := tgS .t0) G.toGd (fun x _ => G.fn x) .t0 y h5
      cases y with
      | Tuple ys k p2 =>
        exact PS.wk (ps_asg pe pg swSole_tup (sw_none h7) rfl) fun D σ H q => asg_rd (fun _ h => h) (vl_of h2).1 q (.inl fun i z => by cases z)
      | _ => cases h5
    | tc a b =>
      obtain ⟨h5, h6, h7⟩ := and3 h4
      have pe := ((snd e X sc z W G.toGd tk h1).1 (vl_of h2).2).1
      have pg := snd_tg (vs := tgS (.tc a b)) G.toGd (fun x _ => G.fn x) (.tc a b) y h5
      cases y with
      | Tuple ys k p2 =>
        exact PS.wk (ps_asg pe pg swSole_tup (sw_none h7) rfl) fun D σ H q => asg_rd (fun _ h => h) (vl_of h2).1 q (.inl fun i z => by cases z)
      | _ => cases h5
  | .par t es, X, sc, x, W, G, tk, h => by
    rw [chkS] at h
    obtain ⟨y, z, p, rfl, h⟩ := sAsg_of h
    exact par_ps G tk h
  | .aug i o e, X, sc, x, W, G, tk, h => by
    rw [chkS] at h
    obtain ⟨y, op, z, p, rfl, h⟩ := sAug_of h
    obtain ⟨h, h5⟩ := and2 h
    obtain ⟨h, h4⟩ := and2 h
    obtain ⟨h1, h2, h3⟩ := and3 h
    obtain ⟨n, p2, rfl, hn1⟩ := vName_of h1
    obtain ⟨n1, l1⟩ := nm_of hn1
    rw [← G.N] at n1
    rw [← G.sc] at l1
    have hN : X.N.Nodup := by rw [G.N]; exact G.nd
    exact PS.wk (ps_aug hN n1 l1 ((snd e X sc z W G.toGd tk h4).1 (vl_of h5).2).1 (ia_ok (eq_of_beq h2) h3) (.inl (G.fn n))) fun D σ H q => aug_rd h3 (vl_of h5).1 q
  | .sset i k e, X, sc, x, W, G, tk, h => by
    rw [chkS] at h
    obtain ⟨y, z, p, rfl, h⟩ := sAsg_of h
    obtain ⟨h1, h2, h3⟩ := and3 h
    obtain ⟨u, v, p2, rfl, hi1⟩ := vIx_of h1
    obtain ⟨h4, h5⟩ := and2 hi1
    obtain ⟨n, p3, rfl, hn4⟩ := vName_of h4
    obtain ⟨w, j, p4, rfl, hc5⟩ := vConst_of h5
    have := lit_int hc5
    subst this
    exact PS.wk (ps_asg ((snd e X sc z W G.toGd tk h2).1 (vl_of h3).2).1 (pg_sub (snd_name G.toGd hn4) pe_int set_list) (by cases z <;> rfl) (by cases z <;> rfl) rfl) fun D σ H q => sset_rd (vl_of h3).1 q
  | .ite e a b, X, sc, x, W, G, tk, h => by
    rw [chkS] at h
    obtain ⟨t, y, z, p, rfl, h⟩ := sIf_of h
    obtain ⟨h, h5⟩ := and2 h
    obtain ⟨h, h4⟩ := and2 h
    obtain ⟨h1, h2, h3⟩ := and3 h
    exact PS.wk (ps_if (((snd e X sc t W G.toGd tk h1).1 (nb h2)).2 h3) (sndSs a X sc y W G tk h4) (sndSs b X sc z W G tk h5)) fun D σ H q => ite_rdS q
  | .wh e b, X, sc, x, W, G, tk, h => by
    rw [chkS] at h
    obtain ⟨t, y, p, rfl, h⟩ := sWh_of h
    obtain ⟨h, h4⟩ := and2 h
    obtain ⟨h1, h2, h3⟩ := and3 h
    exact PS.wk (ps_while G.pass (((snd e X sc t W G.toGd tk h1).1 (nb h2)).2 h3) (sndSs b X sc y W G tk h4)) fun D σ H q => wh_rd q
  | .for_ t it b, X, sc, x, W, G, tk, h => by
    rw [chkS] at h
    obtain ⟨y, z, q, p, rfl, h⟩ := sFor_of h
    obtain ⟨h, h5⟩ := and2 h
    obtain ⟨h, h4⟩ := and2 h
    obtain ⟨h1, h2, h3⟩ := and3 h
    have hi := (snd it X sc z W G.toGd tk h2).2 y true (by simpa using h3)
    exact PS.wk (ps_for G.pass G.calm hi (snd_tg (vs := tgS t) G.toGd (fun x _ => G.fn x) t y h1) (sndSs b X sc q W G tk h5) (noFold h4 _)) fun D σ H q => for_rd (fun _ h => h) q
  | .raise k, X, sc, x, W, G, tk, h => by
    rw [chkS] at h
    obtain ⟨n, p, q, r, rfl, h⟩ := sRaise_of h
    obtain ⟨h1, h2, h3⟩ := and3 h
    obtain ⟨c1, c2, c3, ⟨bmB, B, newId, initId, c4, c5⟩, c6⟩ := G.cls k n (eq_of_beq h1)
    exact PS.wk (ps_raise G.calm tk (pmk_own0 c4 c5 c2 c3 c6 (gl_of G.toGd h2) (plainN_of h3))) fun D σ H q => raise_rd c1 q
  | .try_ r e hs, X, sc, x, W, G, tk, h => by
    rw [chkS] at h
    obtain ⟨b, h0, hds, p, rfl, h⟩ := sTry_of h
    obtain ⟨h1, h2⟩ := and2 h
    obtain ⟨k1, k2⟩ := hds_ok G hs _ h1
    have hp : isPk e = false := by
      cases r with
      | true =>
        rw [if_pos rfl] at h2
        obtain ⟨y, p2, rfl, hr2⟩ := sRet_of h2
        exact (vl_of (and2 hr2).2).1
      | false =>
        rw [if_neg Bool.false_ne_true] at h2
        obtain ⟨y, p2, rfl, hr2⟩ := sExpr_of h2
        exact (vl_of (and3 hr2).2.1).1
    refine PS.wk (ps_try_many (tb := tTry g call X r e) G.stk G.frm tk (fun W' pn xe tk' ps' => ?_) k1) fun D σ H q => try_rd hp G.exm k2 q
    cases r with
    | true =>
      rw [if_pos rfl] at h2
      obtain ⟨y, p2, rfl, hr2⟩ := sRet_of h2
      obtain ⟨h3, h4⟩ := and2 hr2
      exact pss_one (ps_ret ((snd e (X.tr pn xe) sc y W' (tr_gd G.toGd) tk' h3).1 (vl_of h4).2).1)
    | false =>
      rw [if_neg Bool.false_ne_true] at h2
      obtain ⟨y, p2, rfl, hr2⟩ := sExpr_of h2
      obtain ⟨h3, h4, h5⟩ := and3 hr2
      exact pss_one (ps_expr ((snd e (X.tr pn xe) sc y W' (tr_gd G.toGd) tk' h3).1 (vl_of h4).2).1 (noLC_of h5 _ _ _))
  | .skip, X, sc, x, W, G, tk, h => by simp [chkS] at h
  | .seq .., X, sc, x, W, G, tk, h => by simp [chkS] at h
  | .setix .., X, sc, x, W, G, tk, h => by simp [chkS] at h
  | .augix .., X, sc, x, W, G, tk, h => by simp [chkS] at h
  | .delix .., X, sc, x, W, G, tk, h => by simp [chkS] at h
  | .swapix .., X, sc, x, W, G, tk, h => by simp [chkS] at h
  | .app .., X, sc, x, W, G, tk, h => by simp [chkS] at h
  | .ext .., X, sc, x, W, G, tk, h => by simp [chkS] at h
  | .rem .., X, sc, x, W, G, tk, h => by simp [chkS] at h
  | .popTo .., X, sc, x, W, G, tk, h => by simp [chkS] at h
  | .appix .., X, sc, x, W, G, tk, h => by simp [chkS] at h
  | .setix2 .., X, sc, x, W, G, tk, h => by simp [chkS] at h
  | .sdef .., X, sc, x, W, G, tk, h => by simp [chkS] at h
  | .st0 .., X, sc, x, W, G, tk, h => by simp [chkS] at h
  | .forPop .., X, sc, x, W, G, tk, h => by simp [chkS] at h
  | .raiseP .., X, sc, x, W, G, tk, h => by simp [chkS] at h
theorem sndSs : ∀ (s : S) (X : Cx) (sc : Scope) (xs : List PSt) (W : WX), GS g c call X sc → Takes X W → chkSs c s sc xs = true → PSs X xs (tS g call X W s)
  | .skip, X, sc, xs, W, G, tk, h => by
    rw [chkSs] at h
    cases xs with
    | nil => exact PSs.wk pss_nil fun D σ H q => skip_rd q
    | cons => cases h
  | .seq a b, X, sc, xs, W, G, tk, h => by
    cases xs with
    | nil => rw [chkSs] at h; cases h
    | cons x xs =>
      rw [chkSs] at h
      obtain ⟨h1, h2⟩ := and2 h
      exact PSs.wk (pss_cons (sndS a X sc x W G tk h1) (sndSs b X sc xs W G tk h2)) fun D σ H q => seq_rdS q
  | .pass, X, sc, xs, W, G, tk, h => by simp [chkSs] at h
  | .brk, X, sc, xs, W, G, tk, h => by simp [chkSs] at h
  | .cnt, X, sc, xs, W, G, tk, h => by simp [chkSs] at h
  | .retn, X, sc, xs, W, G, tk, h => by simp [chkSs] at h
  | .ret .., X, sc, xs, W, G, tk, h => by simp [chkSs] at h
  | .expr .., X, sc, xs, W, G, tk, h => by simp [chkSs] at h
  | .asg .., X, sc, xs, W, G, tk, h => by simp [chkSs] at h
  | .par .., X, sc, xs, W, G, tk, h => by simp [chkSs] at h
  | .aug .., X, sc, xs, W, G, tk, h => by simp [chkSs] at h
  | .sset .., X, sc, xs, W, G, tk, h => by simp [chkSs] at h
  | .ite .., X, sc, xs, W, G, tk, h => by simp [chkSs] at h
  | .wh .., X, sc, xs, W, G, tk, h => by simp [chkSs] at h
  | .for_ .., X, sc, xs, W, G, tk, h => by simp [chkSs] at h
  | .raise .., X, sc, xs, W, G, tk, h => by simp [chkSs] at h
  | .try_ .., X, sc, xs, W, G, tk, h => by simp [chkSs] at h
  | .setix .., X, sc, x, W, G, tk, h => by simp [chkSs] at h
  | .augix .., X, sc, x, W, G, tk, h => by simp [chkSs] at h
  | .delix .., X, sc, x, W, G, tk, h => by simp [chkSs] at h
  | .swapix .., X, sc, x, W, G, tk, h => by simp [chkSs] at h
  | .app .., X, sc, x, W, G, tk, h => by simp [chkSs] at h
  | .ext .., X, sc, x, W, G, tk, h => by simp [chkSs] at h
  | .rem .., X, sc, x, W, G, tk, h => by simp [chkSs] at h
  | .popTo .., X, sc, x, W, G, tk, h => by simp [chkSs] at h
  | .appix .., X, sc, x, W, G, tk, h => by simp [chkSs] at h
  | .setix2 .., X, sc, x, W, G, tk, h => by simp [chkSs] at h
  | .sdef .., X, sc, x, W, G, tk, h => by simp [chkSs] at h
  | .st0 .., X, sc, x, W, G, tk, h => by simp [chkSs] at h
  | .forPop .., X, sc, x, W, G, tk, h => by simp [chkSs] at h
  | .raiseP .., X, sc, x, W, G, tk, h => by simp [chkSs] at h
end
end
end Wv

set_option autoImplicit false
set_option linter.all false
set_option maxRecDepth 100000
set_option maxHeartbeats 4000000
namespace Wv
open PySem PySem.Spec PyProof.Rows L2
section
variable {g : G} {c : Ck} {P : Program} {w : World} {K : PySem.W.Frag} {mg : Str → Option Value} {base : Heap} {gt' : Nat → Option PyData} {PP : Nat → Option Def}
/-- what a program's classes are -/
structure ClsOk (g : G) (c : Ck) (K : PySem.W.Frag) (mg : Str → Option Value) : Prop where
  cls : ∀ k x, c.cl[k]? = some x → k < g.nc ∧ mg x = some (.ref (g.ca k)) ∧ PySem.W.keepIn K (.ref (g.ca k)) = true ∧ (∃ bmB B newId initId, ExcBaseFacts B newId initId bmB ∧ PySem.W.excIn K (g.ca k) bmB newId = true) ∧
    PySem.W.subIn K (.ref (g.ca k)) (.type "BaseException") = some true ∧ PySem.W.typeIn K (.ref (g.ca k)) = some (.type "type")
  exm : ∀ i j, i < g.nc → j < g.nc → PySem.W.exmOne K (.ref (g.ca i)) (.ref (g.ca j)) = some (i == j)
  frn : ∀ x : String, x ∈ bltN → mg (Str.ofString x) = none
/-- the context of a def's body -/
theorem gs_cx {call : Nat → List Slot → M PyData} {N : List Str} {qual : Str} {sc : Scope} {f : Addr} {cd : Value} {A : Around} {outer : List PySem.Env} {s : Shared} {H : Hp} {E : XK} {k : Nat} (C : ClsOk g c K mg) (hr : Room k (A.deeper (envOfC qual sc s.heap.objs.size f cd))) (hN : c.N = N) (nd : N.Nodup) (hk : sc.kind = .function)
    (fns : ∀ (f : Nat) (x : Str), c.fn[f]? = some x → ∃ fd ps, mg x = some (.ref (g.fa f)) ∧ PySem.W.keepIn K (.ref (g.fa f)) = true ∧ Binds K fd ps [] ∧ FnOk P w K mg base (L2.CX P w) k (g.fa f) fd ps (spF g K w call f))
    (drw : ∀ j, c.dk = some j → ∃ x fd ps, c.fn[j]? = some x ∧ mg x = some (.ref (g.fa j)) ∧ PySem.W.keepIn K (.ref (g.fa j)) = true ∧ Binds K fd ps [] ∧ FnOk P w K mg base (L2.CX P w) k (g.fa j) fd ps (spD g)) :
    GS g c call (cxOf (L2.CX P w) P w K mg base N qual sc f cd A outer s H E) sc where
  sc := rfl
  N := hN.symm
  nd := by rw [hN]; exact nd
  calm := rfl
  fns := ⟨k, hr, fns⟩
  drw := fun j e => by
    obtain ⟨x, fd, ps, h⟩ := drw j e
    exact ⟨k, x, fd, ps, hr, h⟩
  rm := hr.mono (Nat.zero_le _)
  frn := C.frn
  cls := fun k x e => by
    obtain ⟨h1, h2, h3, h4, h5, h6⟩ := C.cls k x e
    exact ⟨h1, h2, h3, h4, raises_own h5 h6⟩
  exm := C.exm
  pass := passes_of rfl
  fn := fun _ => rfl
  stk := rfl
  frm := rfl
  kind := hk
theorem arg_get {A : Option Addr} {F : Hp} : ∀ {vs : List V} {as : List Slot} {i : Nat} {s : Slot}, Paired (ArgRel g K w A F) vs as → as[i]? = some s → ∃ v, vs[i]? = some v ∧ ArgRel g K w A F v s
  | _, _, i, s, .nil, e => by simp at e
  | _, _, 0, s, .cons r _, e => by simp at e; subst e; exact ⟨_, rfl, r⟩
  | _, _, i + 1, s, .cons _ rr, e => by
    obtain ⟨v, h1, h2⟩ := arg_get (i := i) rr (by simpa using e)
    exact ⟨v, by simpa using h1, h2⟩
/-- a def's entry -/
theorem start_rel {H F : Hp} {ω : Orc} {A : Option Addr} {N : List Str} {d : Def} {vs : List V} {as : List Slot} (f : Fit F H) (st : StOk g A H F ω) (h : Paired (ArgRel g K w A F) vs as) (hN : d.ns = N.length) (ha : as.length = d.ar) (hle : d.ar ≤ d.ns) : Rel g K w A H F (entry d as) (L2.start N vs) H F ω where
  gr := Grow.refl f
  len := by
    unfold entry L2.start
    rw [List.length_append, List.length_append, List.length_replicate, List.length_replicate, List.length_map, h.length, hN, ha]
  sl := fun i s e => by
    unfold entry at e
    unfold L2.start
    have hl := h.length
    by_cases hi : i < as.length
    · rw [List.getElem?_append_left hi] at e
      rw [List.getElem?_append_left (by rw [List.length_map, hl]; exact hi), List.getElem?_map]
      obtain ⟨v, h1, h2⟩ := arg_get h e
      rw [h1]
      cases s with
      | v o d0 => cases o with
        | false => exact ⟨v, rfl, h2⟩
        | true => exact h2.elim
      | f k => exact congrArg (fun z => some (some z)) h2
      | s =>
        obtain ⟨a, e1, e2⟩ := h2
        exact ⟨a, e1, congrArg (fun z => some (some z)) e2⟩
      | un => exact h2.elim
      | x c p => exact h2.elim
    · rw [List.getElem?_append_right (by omega), List.getElem?_replicate] at e
      split at e
      · cases e; trivial
      · cases e
  own := fun i j d1 d2 a e1 e2 e3 e4 => by
    exfalso
    unfold entry at e1
    by_cases hi : i < as.length
    · rw [List.getElem?_append_left hi] at e1
      obtain ⟨v, _, h2⟩ := arg_get h e1
      exact h2
    · rw [List.getElem?_append_right (by omega), List.getElem?_replicate] at e1
      split at e1 <;> cases e1
  st := st
/-- one def: its tree is what its plain text says -/
structure One (g : G) (c : Ck) (K : PySem.W.Frag) (mg : Str → Option Value) (x : Str) (f : Nat) (fd : FuncData) (ps N : List Str) (d : Def) : Prop where
  ex : ∃ args body sc, FunD K x x args body sc [] [] (g.fa f) fd ∧ FnScope N ps sc ∧ chkSs { c with N := N } d.body sc body = true
  ar : d.ar = ps.length
  ns : d.ns = N.length
theorem One.le {x : Str} {f : Nat} {fd : FuncData} {ps N : List Str} {d : Def} (o : One g c K mg x f fd ps N d) : d.ar ≤ d.ns := by
  obtain ⟨args, body, sc, _, S, _⟩ := o.ex
  rw [o.ar, o.ns, ← S.pre, List.length_take]
  omega
/-- the promise of a def from those it calls -/
theorem fn_step {m k : Nat} {x : Str} {f : Nat} {fd : FuncData} {ps N : List Str} {d : Def} (C : ClsOk g c K mg) (o : One g c K mg x f fd ps N d) (hp : PP f = some d)
    (fns : ∀ (f : Nat) (x : Str), c.fn[f]? = some x → ∃ fd ps, mg x = some (.ref (g.fa f)) ∧ PySem.W.keepIn K (.ref (g.fa f)) = true ∧ Binds K fd ps [] ∧ FnOk P w K mg base (L2.CX P w) k (g.fa f) fd ps (spF g K w (run g.gt PP m) f))
    (drw : ∀ j, c.dk = some j → ∃ x fd ps, c.fn[j]? = some x ∧ mg x = some (.ref (g.fa j)) ∧ PySem.W.keepIn K (.ref (g.fa j)) = true ∧ Binds K fd ps [] ∧ FnOk P w K mg base (L2.CX P w) k (g.fa j) fd ps (spD g)) :
    FnOk P w K mg base (L2.CX P w) (k + 1) (g.fa f) fd ps (spF g K w (run g.gt PP (m + 1)) f) := by
  obtain ⟨args, body, sc, F, S, hc⟩ := o.ex
  have split : ∀ {vs : List V} {H : Hp} {Q : VK} {E : XK}, spF g K w (run g.gt PP (m + 1)) f vs H Q E → ∃ A F ω as, Fit F H ∧ StOk g A H F ω ∧ Paired (ArgRel g K w A F) vs as ∧ as.length = d.ar ∧ RPost g K (fun cls d _ H' => E cls d H') [] A H F ((evalS g.gt (run g.gt PP m) d.body (entry d as) >>= outD) ω) (fun d _ H' F' => ∀ v, RepF K w F' v d → Q v H') := by
    rintro vs H Q E ⟨A, F, ω, as, h1, h2, h3, h4⟩
    rw [run, hp] at h4
    obtain ⟨h5, h6⟩ := RPost.guard h4
    exact ⟨A, F, ω, as, h1, h2, h3, of_decide_eq_true h5, h6⟩
  refine F.ok S (fun vs H Q E h => ?_) (fun cdv A outer s H vs Q E hr h => ?_)
  · obtain ⟨A, F, ω, as, h1, h2, h3, h4, _⟩ := split h
    rw [h3.length, h4, o.ar]
  · obtain ⟨A', F', ω, as, h1, h2, h3, h4, h5⟩ := split h
    have GC : GS g { c with N := N } (run g.gt PP m) (cxOf (L2.CX P w) P w K mg base N x sc (g.fa f) cdv A outer s H E) sc := gs_cx (c := { c with N := N }) ⟨C.cls, C.exm, C.frn⟩ hr rfl S.nd S.kind fns drw
    refine ⟨tS g (run g.gt PP m) (cxOf (L2.CX P w) P w K mg base N x sc (g.fa f) cdv A outer s H E) (fun cls d _ H => E cls d H) d.body, sndSs d.body _ sc body _ GC (takes_of rfl rfl rfl rfl) hc, ?_⟩
    refine ⟨A', H, F', entry d as, F', ω, start_rel h1 h2 h3 o.ns h4 o.le, ?_⟩
    rw [M.bnd_def] at h5
    unfold M.bnd at h5
    cases ev : evalS g.gt (run g.gt PP m) d.body (entry d as) ω with
    | stuck => rw [ev] at h5; exact h5.elim
    | exc q p ω1 =>
      rw [ev] at h5
      exact fun σ H' F1 dx g1 st pk => h5 H' F1 dx g1 st pk
    | ok out ω1 =>
      rw [ev] at h5
      cases out with
      | nx ρ => exact fun σ H' F1 r _ => h5 H' F1 r.gr r.st _ (.dat .non)
      | rt d => exact fun v H' F1 g1 st rv => h5 H' F1 g1 st v rv
      | bk ρ => exact h5.elim
      | ct ρ => exact h5.elim
/-- what is known of each def -/
structure Known (g : G) (c : Ck) (P : Program) (w : World) (K : PySem.W.Frag) (mg : Str → Option Value) (base : Heap) (PP : Nat → Option Def) (f : Nat) (x : Str) (fd : FuncData) (ps : List Str) : Prop where
  glo : mg x = some (.ref (g.fa f))
  kp : PySem.W.keepIn K (.ref (g.fa f)) = true
  bd : Binds K fd ps []
  ok : (∃ N d, PP f = some d ∧ One g c K mg x f fd ps N d) ∨ ∀ m, FnOk P w K mg base (L2.CX P w) (m + 2) (g.fa f) fd ps (spF g K w (run g.gt PP m) f)
theorem ladder (C : ClsOk g c K mg) (hk : ∀ (f : Nat) (x : Str), c.fn[f]? = some x → ∃ fd ps, Known g c P w K mg base PP f x fd ps)
    (drw : ∀ j, c.dk = some j → ∃ x fd ps, c.fn[j]? = some x ∧ mg x = some (.ref (g.fa j)) ∧ PySem.W.keepIn K (.ref (g.fa j)) = true ∧ Binds K fd ps [] ∧ FnOk P w K mg base (L2.CX P w) 2 (g.fa j) fd ps (spD g)) :
    ∀ (m : Nat) (f : Nat) (x : Str), c.fn[f]? = some x → ∃ fd ps, mg x = some (.ref (g.fa f)) ∧ PySem.W.keepIn K (.ref (g.fa f)) = true ∧ Binds K fd ps [] ∧ FnOk P w K mg base (L2.CX P w) (m + 2) (g.fa f) fd ps (spF g K w (run g.gt PP m) f)
  | 0, f, x, e => by
    obtain ⟨fd, ps, k⟩ := hk f x e
    refine ⟨fd, ps, k.glo, k.kp, k.bd, ⟨fun vs H Q E h => ?_, fun A outer s H args us vs Q E hr he hb hv h => ?_⟩⟩
    · obtain ⟨A, F, ω, as, h1, h2, h3, h4⟩ := h
      exact h4.elim
    · obtain ⟨A, F, ω, as, h1, h2, h3, h4⟩ := h
      exact h4.elim
  | m + 1, f, x, e => by
    obtain ⟨fd, ps, k⟩ := hk f x e
    refine ⟨fd, ps, k.glo, k.kp, k.bd, ?_⟩
    rcases k.ok with ⟨N, d, hp, o⟩ | h
    · refine fn_step C o hp (ladder C hk drw m) fun j ej => ?_
      obtain ⟨x, fd, ps, h1, h2, h3, h4, h5⟩ := drw j ej
      exact ⟨x, fd, ps, h1, h2, h3, h4, h5.mono (by omega)⟩
    · exact h (m + 1)
/-- the draw's promise -/
theorem fn_draw {x : Str} {f : Nat} {fd : FuncData} {ps N : List Str} {d : Def} {call : Nat → List Slot → M PyData} (C : ClsOk g c K mg) (o : One g { c with fn := [], dk := none } K mg x f fd ps N d) (h2 : d.ar = 2)
    (he : ∀ (ω : Orc) (n : Int), OrcOk ω → 0 < n → n < 2 ^ 64 → evalS g.gt call d.body (entry d [.s, .v false (.int n)]) ω = .ok (.rt (.int (drawFn ω n).1)) (drawFn ω n).2) :
    FnOk P w K mg base (L2.CX P w) 2 (g.fa f) fd ps (spD g) := by
  obtain ⟨args, body, sc, F, S, hc⟩ := o.ex
  refine F.ok (k := 1) S (fun vs H Q E h => ?_) (fun cdv A outer s H vs Q E hr h => ?_)
  · obtain ⟨a, F, ω, n, rfl, _⟩ := h
    rw [← o.ar, h2]; rfl
  · obtain ⟨a, F', ω, n, rfl, h1, st, n0, n1, hq⟩ := h
    have GC : GS g { c with N := N, fn := [], dk := none } call (cxOf (L2.CX P w) P w K mg base N x sc (g.fa f) cdv A outer s H E) sc :=
      gs_cx (c := { c with N := N, fn := [], dk := none }) ⟨C.cls, C.exm, C.frn⟩ hr rfl S.nd S.kind (fun f x e => by simp at e) (fun j e => by cases e)
    refine ⟨tS g call (cxOf (L2.CX P w) P w K mg base N x sc (g.fa f) cdv A outer s H E) (fun cls d _ H => E cls d H) d.body, sndSs d.body _ sc body _ GC (takes_of rfl rfl rfl rfl) hc, ?_⟩
    obtain ⟨_, _, oo, _⟩ := st.st a rfl
    refine ⟨some a, H, F', entry d [.s, .v false (.int n)], F', ω, start_rel h1 st (.cons ⟨a, rfl, rfl⟩ (.cons (.dat (.int _)) .nil)) o.ns (by rw [h2]; rfl) o.le, ?_⟩
    rw [he ω n oo n0 n1]
    intro v H' F1 g1 st1 rv
    have : v = .int (drawFn ω n).1 := (RepP.frz (Ex := fun _ => False) (H := H') rv).int
    subst this
    exact hq H' F1 g1 st1
end
end Wv

set_option autoImplicit false
set_option linter.all false
set_option maxRecDepth 100000
set_option maxHeartbeats 4000000
namespace Wv
open PySem PySem.Spec PyProof.Rows L2
section
/-! state = [0, 0, list(script), 1] -/
def cInt (n : Int) : PX → Bool
  | .Constant (.int k) _ _ => k == n
  | _ => false
theorem cInt_of {n : Int} {x : PX} (h : cInt n x = true) : ∃ j p, x = .Constant (.int n) j p := by
  unfold cInt at h; split at h
  · rw [eq_of_beq h]; exact ⟨_, _, rfl⟩
  · cases h
def s4 (x : PX) (k : PX → PX → PX → PX → Bool) : Bool := match x with
  | .List [a, b, c, d] _ => k a b c d
  | _ => false
theorem s4_of {x : PX} {k : PX → PX → PX → PX → Bool} (h : s4 x k = true) : ∃ a b c d p, x = .List [a, b, c, d] p ∧ k a b c d = true := by
  unfold s4 at h; split at h
  · exact ⟨_, _, _, _, _, rfl, h⟩
  · cases h
def chk0 (c : Ck) (sc : Scope) (i j : Nat) (x : PSt) : Bool := sAsg x fun y z => vName y (fun n => tgE c (fun _ => true) sc i n) && s4 z fun a b d e => cInt 0 a && cInt 0 b && cInt 1 e && vCall d fun n xs => glc sc n "list" && v1 xs fun u => vName u (varB c sc j)
variable {g : G} {c : Ck} {call : Nat → List Slot → M PyData} {X : Cx} {sc : Scope} {W : WX} {P : Program} {w : World} {K : PySem.W.Frag} {mg : Str → Option Value} {base : Heap}
def tSt0 (K : PySem.W.Frag) (i j : Nat) : TS := fun D σ H => ∃ (a : Addr) (ys : List V), σ[j]? = some (some (.ref a)) ∧ SqL K H a ys ∧ ∀ l p, H l = none → upd H l (.lst ys) p = none → D.nx (σ.set i (some (.ref p))) (upd (upd H l (.lst ys)) p (.lst [.int 0, .int 0, .ref l, .int 1]))
theorem snd0 {i j : Nat} {x : PSt} (G : GS g c call X sc) (h : chk0 c sc i j x = true) : PS X x (tSt0 X.K i j) := by
  obtain ⟨y, z, p, rfl, h⟩ := sAsg_of h
  obtain ⟨h1, h2⟩ := and2 h
  obtain ⟨n, p2, rfl, k1⟩ := vName_of h1
  obtain ⟨n1, l1⟩ := nm_of k1
  obtain ⟨a, b, d, e, p3, rfl, k2⟩ := s4_of h2
  obtain ⟨k3, h6⟩ := and2 k2
  obtain ⟨h3, h4, h5⟩ := and3 k3
  obtain ⟨ja, pa, rfl⟩ := cInt_of h3
  obtain ⟨jb, pb, rfl⟩ := cInt_of h4
  obtain ⟨je, pe, rfl⟩ := cInt_of h5
  obtain ⟨m, p4, xs, p5, rfl, k6⟩ := vCall_of h6
  obtain ⟨h7, h8⟩ := and2 k6
  obtain ⟨u, rfl, su, k8⟩ := v1_of h8
  obtain ⟨k, p6, rfl, k9⟩ := vName_of k8
  obtain ⟨rfl, hg⟩ := glc_of h7
  rw [← G.N] at n1
  rw [← G.sc] at l1
  have hN : X.N.Nodup := by rw [G.N]; exact G.nd
  have pc : PE X (.Call (.Name (Str.ofString "list") p4) [.Name k p6] [] p5) (tCB (fun xs H Q => ∃ p ys, xs = [.ref p] ∧ (SqL X.K H p ys ∨ SqT X.K H p ys) ∧ ∀ l, H l = none → Q (.ref l) (upd H l (.lst ys))) (tCons (tVar j) tNil)) :=
    pe_callTy (T := "list") call_list_of (gl_of G.toGd hg) (G.frn "list" (by decide)) (by decide +kernel) (pa_cons (snd_name G.toGd k9) pa_nil rfl) (by decide) (by decide) rfl rfl
  have pl := pe_lst (pos := p3) (pa_cons (pe_int (i := 0) (j := ja) (pos := pa)) (pa_cons (pe_int (i := 0) (j := jb) (pos := pb)) (pa_cons pc (pa_cons (pe_int (i := 1) (j := je) (pos := pe)) pa_nil rfl) rfl) rfl) rfl)
  refine PS.wk (ps_set hN n1 l1 pl (noLC_of rfl _ _ _) (.inl (G.fn n))) fun D σ H q => ?_
  obtain ⟨a, ys, e1, e2, e3⟩ := q
  refine ⟨_, e1, a, ys, rfl, .inl e2, fun l hl => ?_⟩
  exact ⟨by show 4 ≤ sizeLine; rw [sizeLine_eq]; decide, fun p hp => e3 l p hl hp⟩
/-- the law's def -/
structure Law (g : G) (c : Ck) (K : PySem.W.Frag) (mg : Str → Option Value) (x : Str) (f : Nat) (fd : FuncData) (p1 : Str) (N : List Str) (b : S) : Prop where
  ex : ∃ args s0 body sc, FunD K x x args (s0 :: body) sc [] [] (g.fa f) fd ∧ FnScope N [p1] sc ∧ chk0 { c with N := N } sc 1 0 s0 = true ∧ chkSs { c with N := N } b sc body = true
def spLaw (g : G) (K : PySem.W.Frag) : Sp := fun vs H Q E => ∃ (a : Addr) (ns : List Int), vs = [.ref a] ∧ ns.length ≤ 63 ∧ SqL K H a (ns.map V.int) ∧ (∀ p ∈ g.ts, GxR.TabG H p) ∧ ∀ H', Q (.bl true) H'
/-- the slots behind the first statement -/
def ent0 (n : Nat) : Env := .un :: .s :: List.replicate (n - 2) .un
theorem law_fn {m k : Nat} {x p1 : Str} {f : Nat} {fd : FuncData} {N : List Str} {b : S} {PP : Nat → Option Def} (C : ClsOk g c K mg) (o : Law g c K mg x f fd p1 N b) (h2 : 2 ≤ N.length)
    (fns : ∀ (f : Nat) (x : Str), c.fn[f]? = some x → ∃ fd ps, mg x = some (.ref (g.fa f)) ∧ PySem.W.keepIn K (.ref (g.fa f)) = true ∧ Binds K fd ps [] ∧ FnOk P w K mg base (L2.CX P w) k (g.fa f) fd ps (spF g K w (run g.gt PP m) f))
    (drw : ∀ j, c.dk = some j → ∃ x fd ps, c.fn[j]? = some x ∧ mg x = some (.ref (g.fa j)) ∧ PySem.W.keepIn K (.ref (g.fa j)) = true ∧ Binds K fd ps [] ∧ FnOk P w K mg base (L2.CX P w) k (g.fa j) fd ps (spD g))
    (pl : ∀ ns : List Int, ns.length ≤ 63 → ∃ ω, evalS g.gt (run g.gt PP m) b (ent0 N.length) ⟨0, 0, ns, 1⟩ = .ok (.rt (.bool true)) ω) :
    FnOk P w K mg base (L2.CX P w) (k + 1) (g.fa f) fd [p1] (spLaw g K) := by
  obtain ⟨args, s0, body, sc, F, S, hc0, hc⟩ := o.ex
  refine F.ok S (fun vs H Q E h => ?_) (fun cdv A outer s H vs Q E hr h => ?_)
  · obtain ⟨a, ns, rfl, _⟩ := h; rfl
  obtain ⟨a, ns, rfl, hl, hs, ht, hq⟩ := h
  have GC : GS g { c with N := N } (run g.gt PP m) (cxOf (L2.CX P w) P w K mg base N x sc (g.fa f) cdv A outer s H E) sc := gs_cx (c := { c with N := N }) ⟨C.cls, C.exm, C.frn⟩ hr rfl S.nd S.kind fns drw
  have p0 := snd0 GC hc0
  have p1' := sndSs (g := g) (call := run g.gt PP m) b _ sc body (fun cls d _ H => E cls d H) GC (takes_of rfl rfl rfl rfl) hc
  refine ⟨_, pss_cons p0 p1', a, ns.map V.int, ?_, hs, fun l p hl0 hp0 => ?_⟩
  · show (L2.start N [V.ref a])[0]? = _
    rfl
  obtain ⟨ω, hω⟩ := pl ns hl
  -- the heap behind it
  have nl : p ≠ l := fun z => by rw [z, upd_same] at hp0; cases hp0
  have hpn : H p = none := by rw [upd_ne nl] at hp0; exact hp0
  have e1 : Ext H (fun _ => none) (upd H l (.lst (ns.map V.int))) (upd (fun _ => none) l (.lst (ns.map V.int))) := Ext.mk1 (fun a o h => by cases h) hl0
  have e2 : Ext (upd H l (.lst (ns.map V.int))) (upd (fun _ => none) l (.lst (ns.map V.int))) (upd (upd H l (.lst (ns.map V.int))) p (.lst [.int 0, .int 0, .ref l, .int 1])) (upd (fun _ => none) l (.lst (ns.map V.int))) := Ext.mk0 e1.fit hp0
  have tabs : ∀ q ∈ g.ts, ∃ ps, H q = some (.tbl ps) := fun q hq => by
    obtain ⟨ps, h1, _⟩ := ht q hq
    exact ⟨ps, h1⟩
  have pts : ∀ q ∈ g.ts, q ≠ p ∧ q ≠ l := fun q hq => by
    obtain ⟨ps, h1⟩ := tabs q hq
    exact ⟨(fun z => by rw [z, hpn] at h1; cases h1), (fun z => by rw [z, hl0] at h1; cases h1)⟩
  have st : StOk g (some p) (upd (upd H l (.lst (ns.map V.int))) p (.lst [.int 0, .int 0, .ref l, .int 1])) (upd (fun _ => none) l (.lst (ns.map V.int))) ⟨0, 0, ns, 1⟩ := {
    st := fun a' ha => by
      cases ha
      exact ⟨by rw [upd_ne nl], fun z => (pts p z).1 rfl, ⟨Int.le_refl _, by show (0 : Int) ≤ 1; decide, by show (1 : Int) < 2 ^ 31; decide⟩, l, upd_same, upd_same⟩
    tab := fun q hq => by
      obtain ⟨ps, h1, h2⟩ := ht q hq
      obtain ⟨h3, h4⟩ := pts q hq
      exact ⟨ps, by rw [upd_ne h3, upd_ne h4]; exact h1, h2⟩
    ft := fun q hq => by
      obtain ⟨h3, h4⟩ := pts q hq
      rw [upd_ne h4] }
  refine ⟨some p, upd (upd H l (.lst (ns.map V.int))) p (.lst [.int 0, .int 0, .ref l, .int 1]), upd (fun _ => none) l (.lst (ns.map V.int)), ent0 N.length, upd (fun _ => none) l (.lst (ns.map V.int)), ⟨0, 0, ns, 1⟩, ?_, ?_⟩
  · have hget : ∀ (i : Nat) (s : Slot), (ent0 N.length)[i]? = some s → s = .un ∨ (i = 1 ∧ s = .s) := fun i s e => by
      unfold ent0 at e
      match i, e with
      | 0, e => left; simpa using e.symm
      | 1, e => right; exact ⟨rfl, by simpa using e.symm⟩
      | i + 2, e =>
        left
        have e : (List.replicate (N.length - 2) Slot.un)[i]? = some s := by simpa using e
        rw [List.getElem?_replicate] at e
        split at e
        · exact (Option.some.inj e).symm
        · cases e
    refine ⟨Grow.refl e2.fit, ?_, fun i s e => ?_, fun i j d1 d2 b e1 => ?_, st⟩
    · unfold ent0 L2.start
      simp
      omega
    · rcases hget i s e with rfl | ⟨rfl, rfl⟩
      · trivial
      · refine ⟨p, rfl, ?_⟩
        rw [set_get, if_pos rfl]
        have : 1 < (L2.start N [V.ref a]).length := by unfold L2.start; simp; omega
        rw [if_pos this]
    · rcases hget i _ e1 with z | ⟨_, z⟩ <;> cases z
  · rw [hω]
    intro v H' F' g1 st1 rv
    have : v = .bl true := (RepP.frz (Ex := fun _ => False) (H := H') rv).bool
    subst this
    exact hq H'
end
end Wv
namespace Wv
open PySem PySem.Spec PyProof.Rows L2
theorem fn_cx0 {P : Program} {w : World} {K : PySem.W.Frag} {mg : Str → Option Value} {base : Heap} {k : Nat} {f : Addr} {fd : FuncData} {ps : List Str} {g : G} (F : FnOk P w K mg base (L2.CX P w) k f fd ps (spLaw g K)) : FnOk P w K mg base CX0 k f fd ps (spLaw g K) := by
  refine ⟨F.len, fun A outer s H args us vs Q E hr he hb hv h => ?_⟩
  refine codeAny_mono (F.run A outer s H args us vs Q (fun _ _ _ => False) hr he hb hv h) fun r s' hq => ?_
  cases r with
  | error e =>
    obtain ⟨_, _, _, _, _, _, _, _, _, _, _, _, z⟩ := hq
    exact z.elim
  | ok fl => cases fl <;> exact hq
end Wv

set_option autoImplicit false
set_option linter.all false
namespace Wv
open PySem
/-! the plain law's tools: what the plain text computes -/
section
variable {α β : Type}
theorem bnd_at (m : M α) (f : α → M β) (ω : Orc) : (m >>= f) ω = (match m ω with | .ok a w' => f a w' | .exc c p w' => .exc c p w' | .stuck => .stuck) := rfl
theorem pure_at (a : α) (ω : Orc) : (pure a : M α) ω = .ok a ω := rfl
theorem ofO_at (a : α) (ω : Orc) : (M.ofO (some a) : M α) ω = .ok a ω := rfl
theorem andThen_at (m : M Out) (f : Env → M Out) (ω : Orc) : andThen m f ω = (match m ω with | .ok (.nx ρ) w' => f ρ w' | .ok o w' => .ok o w' | .exc c p w' => .exc c p w' | .stuck => .stuck) := by
  unfold andThen
  rw [bnd_at]
  cases m ω with
  | ok o w => cases o <;> rfl
  | _ => rfl
theorem dlt_ii (i j : Int) : W.dataLt (.int i) (.int j) = decide (i < j) := W.dataLt_int i j
theorem shp_i (i : Int) : shp (.int i) = true := by
  unfold shp SeqAt.shaped
  simp [PyData.canLay0, PyData.depth]
theorem cmp_ii (i j : Int) : cmpOk (.int i) (.int j) = true := by
  unfold cmpOk
  rw [shp_i, shp_i, W.alike]; rfl
@[simp] theorem lt_ii (i j : Int) : bop .lt (.int i) (.int j) = some (.bool (decide (i < j))) := by
  show gO (cmpOk (.int i) (.int j)) (some (PyData.bool (W.dataLt (.int i) (.int j)))) = _
  rw [cmp_ii, dlt_ii]; rfl
@[simp] theorem le_ii (i j : Int) : bop .le (.int i) (.int j) = some (.bool (decide (i ≤ j))) := by
  show gO (cmpOk (.int i) (.int j)) (some (PyData.bool (!W.dataLt (.int j) (.int i)))) = _
  rw [cmp_ii, dlt_ii]
  by_cases h : i ≤ j
  · simp [h, Int.not_lt.mpr h]
  · simp [h, Int.not_le.mp h]
@[simp] theorem gt_ii (i j : Int) : bop .gt (.int i) (.int j) = some (.bool (decide (j < i))) := by
  show gO (cmpOk (.int i) (.int j)) (some (PyData.bool (W.dataLt (.int j) (.int i)))) = _
  rw [cmp_ii, dlt_ii]; rfl
@[simp] theorem ge_ii (i j : Int) : bop .ge (.int i) (.int j) = some (.bool (decide (j ≤ i))) := by
  show gO (cmpOk (.int i) (.int j)) (some (PyData.bool (!W.dataLt (.int i) (.int j)))) = _
  rw [cmp_ii, dlt_ii]
  by_cases h : j ≤ i
  · simp [h, Int.not_lt.mpr h]
  · simp [h, Int.not_le.mp h]
theorem eqv_ii (i j : Int) : PyData.eqv (.int i) (.int j) = decide (i = j) := by
  simp [PyData.eqv, Bool.beq_eq_decide_eq]
@[simp] theorem eq_ii (i j : Int) : bop .eq (.int i) (.int j) = some (.bool (decide (i = j))) := by
  show gO (shp (.int i) && shp (.int j)) (some (PyData.bool (PyData.eqv (.int i) (.int j)))) = _
  rw [shp_i, shp_i, eqv_ii]; rfl
@[simp] theorem ne_ii (i j : Int) : bop .ne (.int i) (.int j) = some (.bool (!decide (i = j))) := by
  show gO (shp (.int i) && shp (.int j)) (some (PyData.bool (!PyData.eqv (.int i) (.int j)))) = _
  rw [shp_i, shp_i, eqv_ii]; rfl
@[simp] theorem add_ii (i j : Int) : bop .add (.int i) (.int j) = some (.int (i + j)) := rfl
@[simp] theorem sub_ii (i j : Int) : bop .sub (.int i) (.int j) = some (.int (i - j)) := rfl
theorem log_lt {i : Int} {k : Nat} (h : i.natAbs < 2 ^ (k + 1)) : i.natAbs.log2 ≤ k := by
  by_cases h0 : i.natAbs = 0
  · rw [h0]; simp
  · have := (Nat.log2_lt h0).mpr h
    omega
theorem mul_ii {i j : Int} (h : bigOk i j = true) : bop .mul (.int i) (.int j) = some (.int (i * j)) := by
  show gO (bigOk i j) _ = _
  rw [h]; rfl
theorem big_of {i j : Int} {a b : Nat} (ha : i.natAbs < 2 ^ (a + 1)) (hb : j.natAbs < 2 ^ (b + 1)) (h : a + b < 900000) : bigOk i j = true := by
  unfold bigOk
  have := log_lt ha
  have := log_lt hb
  have : decide (i.natAbs.log2 + j.natAbs.log2 < 900000) = true := decide_eq_true (by omega)
  rw [this]; rfl
theorem big_l {i j : Int} (h : i.natAbs < 2 ^ 64) : bigOk i j = true := by
  unfold bigOk
  rw [decide_eq_true h]; simp
theorem big_r {i j : Int} (h : j.natAbs < 2 ^ 64) : bigOk i j = true := by
  unfold bigOk
  rw [decide_eq_true h]; simp
theorem mod_ii {i j : Int} (h : 0 < j) : bop .mod (.int i) (.int j) = some (.int (i % j)) := by
  show gO (decide (j ≠ 0)) _ = _
  have : decide (j ≠ 0) = true := decide_eq_true (by omega)
  rw [this, Int.fmod_eq_emod_of_nonneg i (by omega)]; rfl
theorem fdiv_ii {i j : Int} (h : 0 < j) (hb : j.natAbs.log2 < 8000) : bop .fdiv (.int i) (.int j) = some (.int (i / j)) := by
  show gO (divOk j) _ = _
  have : divOk j = true := by
    unfold divOk
    simp [hb, show j ≠ 0 by omega]
  rw [this, Int.fdiv_eq_ediv_of_nonneg i (by omega)]; rfl
end
/-! evaluation, step by step: what follows is a named thing -/
section
variable {gt : Nat → Option PyData} {call : Nat → List Slot → M PyData} {ρ ρ' : Env} {ω ω' : Orc}
def rO (o : Option PyData) (ω : Orc) : R PyData := match o with
  | some d => .ok d ω
  | none => .stuck
@[simp] theorem rO_some (d : PyData) (ω : Orc) : rO (some d) ω = .ok d ω := rfl
def k1 (f : PyData → Option PyData) (r : R PyData) : R PyData := match r with
  | .ok x ω => rO (f x) ω
  | .exc c p ω => .exc c p ω
  | .stuck => .stuck
@[simp] theorem k1_ok (f : PyData → Option PyData) (x : PyData) (ω : Orc) : k1 f (.ok x ω) = rO (f x) ω := rfl
@[simp] theorem k1_exc (f : PyData → Option PyData) (c : Nat) (p : PyData) (ω : Orc) : k1 f (.exc c p ω) = .exc c p ω := rfl
variable (gt call) in
def kO (f : PyData → PyData → Option PyData) (b : E) (ρ : Env) (r : R PyData) : R PyData := match r with
  | .ok x ω => k1 (f x) (evalE gt call b ρ ω)
  | .exc c p ω => .exc c p ω
  | .stuck => .stuck
@[simp] theorem kO_ok (f : PyData → PyData → Option PyData) (b : E) (x : PyData) : kO gt call f b ρ (.ok x ω) = k1 (f x) (evalE gt call b ρ ω) := rfl
@[simp] theorem kO_exc (f : PyData → PyData → Option PyData) (b : E) (c : Nat) (p : PyData) : kO gt call f b ρ (.exc c p ω) = .exc c p ω := rfl
theorem rO_def {o : Option PyData} {ω : Orc} : (M.ofO o : M PyData) ω = rO o ω := by cases o <;> rfl
theorem two_at {m : M PyData} {b : E} {f : PyData → PyData → Option PyData} : (m >>= fun x => evalE gt call b ρ >>= fun y => M.ofO (f x y)) ω = kO gt call f b ρ (m ω) := by
  rw [bnd_at]
  cases m ω with
  | ok x w =>
    show (evalE gt call b ρ >>= fun y => M.ofO (f x y)) w = k1 (f x) (evalE gt call b ρ w)
    rw [bnd_at]
    cases evalE gt call b ρ w with
    | ok y w => exact rO_def
    | _ => rfl
  | _ => rfl
theorem one_at {m : M PyData} {f : PyData → Option PyData} : (m >>= fun x => M.ofO (f x)) ω = k1 f (m ω) := by
  rw [bnd_at]
  cases m ω with
  | ok x w => exact rO_def
  | _ => rfl
@[simp] theorem e_var (i : Nat) : evalE gt call (.var i) ρ ω = getV ρ[i]? ω := by rw [evalE]
@[simp] theorem e_pk (i : Nat) : evalE gt call (.pk i) ρ ω = getP ρ[i]? ω := by rw [evalE]
@[simp] theorem getV_ok (d : PyData) : getV (some (.v false d)) ω = .ok d ω := rfl
@[simp] theorem getP_ok (o : Bool) (d : PyData) : getP (some (.v o d)) ω = .ok d ω := by cases o <;> rfl
@[simp] theorem e_lit (d : PyData) : evalE gt call (.lit d) ρ ω = .ok d ω := by rw [evalE]; rfl
theorem e_glb (k : Nat) : evalE gt call (.glb k) ρ ω = rO (gt k) ω := by rw [evalE]; exact rO_def
@[simp] theorem e_bin (o : Bop) (a b : E) : evalE gt call (.bin o a b) ρ ω = kO gt call (bop o) b ρ (evalE gt call a ρ ω) := by rw [evalE]; exact two_at
@[simp] theorem e_ix (a b : E) : evalE gt call (.ix a b) ρ ω = kO gt call ixD b ρ (evalE gt call a ρ ω) := by rw [evalE]; exact two_at
@[simp] theorem e_b1 (p : P1) (a : E) : evalE gt call (.b1 p a) ρ ω = k1 (p1 p) (evalE gt call a ρ ω) := by rw [evalE]; exact one_at
@[simp] theorem e_b2 (p : P2) (a b : E) : evalE gt call (.b2 p a b) ρ ω = kO gt call (p2 p) b ρ (evalE gt call a ρ ω) := by rw [evalE]; exact two_at
@[simp] theorem e_mcount (a b : E) : evalE gt call (.mcount a b) ρ ω = kO gt call mcountD b ρ (evalE gt call a ρ ω) := by rw [evalE]; exact two_at
@[simp] theorem e_mindex (a b : E) : evalE gt call (.mindex a b) ρ ω = kO gt call mindexD b ρ (evalE gt call a ρ ω) := by rw [evalE]; exact two_at
def negD : PyData → Option PyData
  | .int i => some (.int (-i))
  | _ => none
@[simp] theorem negD_i (i : Int) : negD (.int i) = some (.int (-i)) := rfl
@[simp] theorem e_neg (a : E) : evalE gt call (.neg a) ρ ω = k1 negD (evalE gt call a ρ ω) := by
  rw [evalE, bnd_at]
  cases evalE gt call a ρ ω with
  | ok x w => cases x <;> rfl
  | _ => rfl
def notD (x : PyData) : Option PyData := (tru x).map fun b => .bool (!b)
@[simp] theorem notD_b (b : Bool) : notD (.bool b) = some (.bool (!b)) := rfl
@[simp] theorem notD_i (i : Int) : notD (.int i) = some (.bool (!(i != 0))) := rfl
@[simp] theorem e_not (a : E) : evalE gt call (.not_ a) ρ ω = k1 notD (evalE gt call a ρ ω) := by
  rw [evalE, bnd_at]
  cases evalE gt call a ρ ω with
  | ok x w =>
    show (M.ofO (tru x) >>= fun b => pure (.bool (!b))) w = rO (notD x) w
    unfold notD
    cases tru x <;> rfl
  | _ => rfl
def isaO (t : Ty) (x : PyData) : Option PyData := gO (!isDic x) (some (.bool (isaD x t)))
@[simp] theorem e_isa (a : E) (t : Ty) : evalE gt call (.isa a t) ρ ω = k1 (isaO t) (evalE gt call a ρ ω) := by
  rw [evalE, bnd_at]
  cases evalE gt call a ρ ω with
  | ok x w =>
    show M.guard (!isDic x) (pure (.bool (isaD x t))) w = rO (isaO t x) w
    unfold isaO
    cases isDic x <;> rfl
  | _ => rfl
variable (gt call) in
def kIf2 (o : Option Bool) (a b : E) (ρ : Env) (ω : Orc) : R PyData := match o with
  | some true => evalE gt call a ρ ω
  | some false => evalE gt call b ρ ω
  | none => .stuck
@[simp] theorem kIf2_t (a b : E) : kIf2 gt call (some true) a b ρ ω = evalE gt call a ρ ω := rfl
@[simp] theorem kIf2_f (a b : E) : kIf2 gt call (some false) a b ρ ω = evalE gt call b ρ ω := rfl
variable (gt call) in
def kIf (a b : E) (ρ : Env) (r : R PyData) : R PyData := match r with
  | .ok x ω => kIf2 gt call (tru x) a b ρ ω
  | .exc c p ω => .exc c p ω
  | .stuck => .stuck
@[simp] theorem kIf_ok (a b : E) (x : PyData) : kIf gt call a b ρ (.ok x ω) = kIf2 gt call (tru x) a b ρ ω := rfl
@[simp] theorem e_ite (c a b : E) : evalE gt call (.ite c a b) ρ ω = kIf gt call a b ρ (evalE gt call c ρ ω) := by
  rw [evalE, bnd_at]
  cases evalE gt call c ρ ω with
  | ok x w =>
    show (M.ofO (tru x) >>= fun t => if t = true then evalE gt call a ρ else evalE gt call b ρ) w = kIf2 gt call (tru x) a b ρ w
    cases tru x with
    | none => rfl
    | some t => cases t <;> rfl
  | _ => rfl
@[simp] theorem tru_b (b : Bool) : tru (.bool b) = some b := rfl
@[simp] theorem tru_i (i : Int) : tru (.int i) = some (i != 0) := rfl
@[simp] theorem tru_l (xs : List PyData) : tru (.list xs) = some (!xs.isEmpty) := rfl
@[simp] theorem tru_t (xs : List PyData) : tru (.tuple xs) = some (!xs.isEmpty) := rfl
@[simp] theorem tru_n : tru .none = some false := rfl
/-! and, or -/
variable (gt call) in
def kBt (k : Bool) (x : PyData) (o : Option Bool) (es : Es) (ρ : Env) (ω : Orc) : R PyData := match o with
  | some t => if t = k then evalB gt call k es ρ ω else .ok x ω
  | none => .stuck
@[simp] theorem kBt_tt (x : PyData) (es : Es) : kBt gt call true x (some true) es ρ ω = evalB gt call true es ρ ω := rfl
@[simp] theorem kBt_tf (x : PyData) (es : Es) : kBt gt call true x (some false) es ρ ω = .ok x ω := rfl
@[simp] theorem kBt_ff (x : PyData) (es : Es) : kBt gt call false x (some false) es ρ ω = evalB gt call false es ρ ω := rfl
@[simp] theorem kBt_ft (x : PyData) (es : Es) : kBt gt call false x (some true) es ρ ω = .ok x ω := rfl
variable (gt call) in
def kBo (k : Bool) (es : Es) (ρ : Env) (r : R PyData) : R PyData := match r with
  | .ok x ω => kBt gt call k x (tru x) es ρ ω
  | .exc c p ω => .exc c p ω
  | .stuck => .stuck
@[simp] theorem kBo_ok (k : Bool) (es : Es) (x : PyData) : kBo gt call k es ρ (.ok x ω) = kBt gt call k x (tru x) es ρ ω := rfl
@[simp] theorem e_bo (k : Bool) (es : Es) : evalE gt call (.bo k es) ρ ω = evalB gt call k es ρ ω := by rw [evalE]
@[simp] theorem b_one (k : Bool) (e : E) : evalB gt call k (.cons e .nil) ρ ω = evalE gt call e ρ ω := by
  rw [evalB]
  show (evalE gt call e ρ >>= pure) ω = _
  rw [M.bnd_pure]
@[simp] theorem b_two (k : Bool) (e e2 : E) (es : Es) : evalB gt call k (.cons e (.cons e2 es)) ρ ω = kBo gt call k (.cons e2 es) ρ (evalE gt call e ρ ω) := by
  rw [evalB, bnd_at]
  cases evalE gt call e ρ ω with
  | ok x w =>
    show (M.ofO (tru x) >>= fun t => if t = k then evalB gt call k (.cons e2 es) ρ else pure x) w = kBt gt call k x (tru x) (.cons e2 es) ρ w
    cases tru x with
    | none => rfl
    | some t =>
      show (if t = k then evalB gt call k (.cons e2 es) ρ else pure x) w = if t = k then evalB gt call k (.cons e2 es) ρ w else .ok x w
      by_cases h : t = k
      · rw [if_pos h, if_pos h]
      · rw [if_neg h, if_neg h]; rfl
  | _ => rfl
/-! several -/
def kEc (x : PyData) (r : R (List PyData)) : R (List PyData) := match r with
  | .ok xs ω => .ok (x :: xs) ω
  | .exc c p ω => .exc c p ω
  | .stuck => .stuck
@[simp] theorem kEc_ok (x : PyData) (xs : List PyData) : kEc x (.ok xs ω) = .ok (x :: xs) ω := rfl
variable (gt call) in
def kEs (es : Es) (ρ : Env) (r : R PyData) : R (List PyData) := match r with
  | .ok x ω => kEc x (evalEs gt call es ρ ω)
  | .exc c p ω => .exc c p ω
  | .stuck => .stuck
@[simp] theorem kEs_ok (es : Es) (x : PyData) : kEs gt call es ρ (.ok x ω) = kEc x (evalEs gt call es ρ ω) := rfl
@[simp] theorem es_nil : evalEs gt call .nil ρ ω = .ok [] ω := by rw [evalEs]; rfl
@[simp] theorem es_cons (e : E) (es : Es) : evalEs gt call (.cons e es) ρ ω = kEs gt call es ρ (evalE gt call e ρ ω) := by
  rw [evalEs, bnd_at]
  cases evalE gt call e ρ ω with
  | ok x w =>
    show (evalEs gt call es ρ >>= fun xs => pure (x :: xs)) w = kEc x (evalEs gt call es ρ w)
    rw [bnd_at]
    cases evalEs gt call es ρ w <;> rfl
  | _ => rfl
def kTu (f : List PyData → PyData) (r : R (List PyData)) : R PyData := match r with
  | .ok xs ω => rO (gO (xs.all okEl) (some (f xs))) ω
  | .exc c p ω => .exc c p ω
  | .stuck => .stuck
@[simp] theorem kTu_ok (f : List PyData → PyData) (xs : List PyData) : kTu f (.ok xs ω) = rO (gO (xs.all okEl) (some (f xs))) ω := rfl
@[simp] theorem e_tup (es : Es) : evalE gt call (.tup es) ρ ω = kTu .tuple (evalEs gt call es ρ ω) := by
  rw [evalE, bnd_at]
  cases evalEs gt call es ρ ω with
  | ok xs w =>
    show M.guard (xs.all okEl) (pure (.tuple xs)) w = rO (gO (xs.all okEl) (some (.tuple xs))) w
    cases xs.all okEl <;> rfl
  | _ => rfl
@[simp] theorem e_lst (es : Es) : evalE gt call (.lst es) ρ ω = kTu .list (evalEs gt call es ρ ω) := by
  rw [evalE, bnd_at]
  cases evalEs gt call es ρ ω with
  | ok xs w =>
    show M.guard (xs.all okEl) (pure (.list xs)) w = rO (gO (xs.all okEl) (some (.list xs))) w
    cases xs.all okEl <;> rfl
  | _ => rfl
@[simp] theorem okEl_i (i : Int) : okEl (.int i) = true := rfl
@[simp] theorem okEl_b (i : Bool) : okEl (.bool i) = true := rfl
@[simp] theorem okEl_n : okEl .none = true := rfl
@[simp] theorem okEl_s (x : Str) : okEl (.str x) = true := rfl
@[simp] theorem okEl_l (x : List PyData) : okEl (.list x) = true := rfl
@[simp] theorem okEl_t (x : List PyData) : okEl (.tuple x) = true := rfl
/-! calls -/
def kAc (x : Slot) (r : R (List Slot)) : R (List Slot) := match r with
  | .ok xs ω => .ok (x :: xs) ω
  | .exc c p ω => .exc c p ω
  | .stuck => .stuck
@[simp] theorem kAc_ok (x : Slot) (xs : List Slot) : kAc x (.ok xs ω) = .ok (x :: xs) ω := rfl
variable (gt call) in
def kAs (es : Es) (ρ : Env) (r : R PyData) : R (List Slot) := match r with
  | .ok x ω => kAc (.v false x) (evalAs gt call es ρ ω)
  | .exc c p ω => .exc c p ω
  | .stuck => .stuck
@[simp] theorem kAs_ok (es : Es) (x : PyData) : kAs gt call es ρ (.ok x ω) = kAc (.v false x) (evalAs gt call es ρ ω) := rfl
@[simp] theorem as_nil : evalAs gt call .nil ρ ω = .ok [] ω := by rw [evalAs]; rfl
theorem as_gen {e : E} {es : Es} (h : argS e ρ (evalE gt call e ρ) = (do pure (.v false (← evalE gt call e ρ)))) : evalAs gt call (.cons e es) ρ ω = kAs gt call es ρ (evalE gt call e ρ ω) := by
  rw [evalAs, h, M.bnd_assoc, bnd_at]
  cases evalE gt call e ρ ω with
  | ok x w =>
    show (evalAs gt call es ρ >>= fun xs => pure (.v false x :: xs)) w = kAc (.v false x) (evalAs gt call es ρ w)
    rw [bnd_at]
    cases evalAs gt call es ρ w <;> rfl
  | _ => rfl
@[simp] theorem as_lit (d : PyData) (es : Es) : evalAs gt call (.cons (.lit d) es) ρ ω = kAs gt call es ρ (evalE gt call (.lit d) ρ ω) := as_gen rfl
@[simp] theorem as_glb (k : Nat) (es : Es) : evalAs gt call (.cons (.glb k) es) ρ ω = kAs gt call es ρ (evalE gt call (.glb k) ρ ω) := as_gen rfl
@[simp] theorem as_bin (o : Bop) (a b : E) (es : Es) : evalAs gt call (.cons (.bin o a b) es) ρ ω = kAs gt call es ρ (evalE gt call (.bin o a b) ρ ω) := as_gen rfl
@[simp] theorem as_chain (o1 o2 : Bop) (a b c : E) (es : Es) : evalAs gt call (.cons (.chain o1 o2 a b c) es) ρ ω = kAs gt call es ρ (evalE gt call (.chain o1 o2 a b c) ρ ω) := as_gen rfl
@[simp] theorem as_neg (a : E) (es : Es) : evalAs gt call (.cons (.neg a) es) ρ ω = kAs gt call es ρ (evalE gt call (.neg a) ρ ω) := as_gen rfl
@[simp] theorem as_not_ (a : E) (es : Es) : evalAs gt call (.cons (.not_ a) es) ρ ω = kAs gt call es ρ (evalE gt call (.not_ a) ρ ω) := as_gen rfl
@[simp] theorem as_bo (k : Bool) (xs : Es) (es : Es) : evalAs gt call (.cons (.bo k xs) es) ρ ω = kAs gt call es ρ (evalE gt call (.bo k xs) ρ ω) := as_gen rfl
@[simp] theorem as_ite (c a b : E) (es : Es) : evalAs gt call (.cons (.ite c a b) es) ρ ω = kAs gt call es ρ (evalE gt call (.ite c a b) ρ ω) := as_gen rfl
@[simp] theorem as_tup (xs : Es) (es : Es) : evalAs gt call (.cons (.tup xs) es) ρ ω = kAs gt call es ρ (evalE gt call (.tup xs) ρ ω) := as_gen rfl
@[simp] theorem as_lst (xs : Es) (es : Es) : evalAs gt call (.cons (.lst xs) es) ρ ω = kAs gt call es ρ (evalE gt call (.lst xs) ρ ω) := as_gen rfl
@[simp] theorem as_dic (xs : Es) (es : Es) : evalAs gt call (.cons (.dic xs) es) ρ ω = kAs gt call es ρ (evalE gt call (.dic xs) ρ ω) := as_gen rfl
@[simp] theorem as_ix (a b : E) (es : Es) : evalAs gt call (.cons (.ix a b) es) ρ ω = kAs gt call es ρ (evalE gt call (.ix a b) ρ ω) := as_gen rfl
@[simp] theorem as_sl (a b c d : E) (es : Es) : evalAs gt call (.cons (.sl a b c d) es) ρ ω = kAs gt call es ρ (evalE gt call (.sl a b c d) ρ ω) := as_gen rfl
@[simp] theorem as_call (f : Nat) (b : Bool) (xs : Es) (es : Es) : evalAs gt call (.cons (.call f b xs) es) ρ ω = kAs gt call es ρ (evalE gt call (.call f b xs) ρ ω) := as_gen rfl
@[simp] theorem as_callv (f : Nat) (xs : Es) (es : Es) : evalAs gt call (.cons (.callv f xs) es) ρ ω = kAs gt call es ρ (evalE gt call (.callv f xs) ρ ω) := as_gen rfl
@[simp] theorem as_draw (i : Nat) (a : E) (es : Es) : evalAs gt call (.cons (.draw i a) es) ρ ω = kAs gt call es ρ (evalE gt call (.draw i a) ρ ω) := as_gen rfl
@[simp] theorem as_b1 (p : P1) (a : E) (es : Es) : evalAs gt call (.cons (.b1 p a) es) ρ ω = kAs gt call es ρ (evalE gt call (.b1 p a) ρ ω) := as_gen rfl
@[simp] theorem as_b2 (p : P2) (a b : E) (es : Es) : evalAs gt call (.cons (.b2 p a b) es) ρ ω = kAs gt call es ρ (evalE gt call (.b2 p a b) ρ ω) := as_gen rfl
@[simp] theorem as_isa (a : E) (t : Ty) (es : Es) : evalAs gt call (.cons (.isa a t) es) ρ ω = kAs gt call es ρ (evalE gt call (.isa a t) ρ ω) := as_gen rfl
@[simp] theorem as_comp (t : Tg) (it : E) (ts : Es) (e : E) (es : Es) : evalAs gt call (.cons (.comp t it ts e) es) ρ ω = kAs gt call es ρ (evalE gt call (.comp t it ts e) ρ ω) := as_gen rfl
@[simp] theorem as_mcount (a b : E) (es : Es) : evalAs gt call (.cons (.mcount a b) es) ρ ω = kAs gt call es ρ (evalE gt call (.mcount a b) ρ ω) := as_gen rfl
@[simp] theorem as_mindex (a b : E) (es : Es) : evalAs gt call (.cons (.mindex a b) es) ρ ω = kAs gt call es ρ (evalE gt call (.mindex a b) ρ ω) := as_gen rfl
@[simp] theorem as_var {i : Nat} {es : Es} : evalAs gt call (.cons (.var i) es) ρ ω = match ρ[i]? with
    | some (.v false d) => kAc (.v false d) (evalAs gt call es ρ ω)
    | some (.f k) => kAc (.f k) (evalAs gt call es ρ ω)
    | some .s => kAc .s (evalAs gt call es ρ ω)
    | _ => .stuck := by
  rw [evalAs]
  show ((match ρ[i]? with
    | some (.v false d) => (pure (Slot.v false d) : M Slot)
    | some (.f k) => pure (.f k)
    | some .s => pure .s
    | _ => M.stuck) >>= fun x => evalAs gt call es ρ >>= fun xs => pure (x :: xs)) ω = _
  have go : ∀ s : Slot, ((pure s : M Slot) >>= fun x => evalAs gt call es ρ >>= fun xs => pure (x :: xs)) ω = kAc s (evalAs gt call es ρ ω) := fun s => by
    rw [M.pure_bnd, bnd_at]
    cases evalAs gt call es ρ ω <;> rfl
  cases ρ[i]? with
  | none => rfl
  | some s => cases s with
    | v o d => cases o with
      | false => exact go _
      | true => rfl
    | f k => exact go _
    | s => exact go _
    | un => rfl
    | x c p => rfl
variable (call) in
def kCa (f : Nat) (r : R (List Slot)) : R PyData := match r with
  | .ok xs ω => call f xs ω
  | .exc c p ω => .exc c p ω
  | .stuck => .stuck
@[simp] theorem kCa_ok (f : Nat) (xs : List Slot) : kCa call f (.ok xs ω) = call f xs ω := rfl
@[simp] theorem e_call (f : Nat) (es : Es) : evalE gt call (.call f false es) ρ ω = kCa call f (evalAs gt call es ρ ω) := by
  rw [evalE, bnd_at]
  cases evalAs gt call es ρ ω with
  | ok xs w =>
    show (call f xs >>= fun d => pure d) w = call f xs w
    rw [show (call f xs >>= fun d => pure d) = call f xs from M.bnd_pure _]
  | _ => rfl
/-! draws -/
def kDr (r : R PyData) : R PyData := match r with
  | .ok (.int n) ω => (match draw n ω with
    | .ok k w => .ok (.int k) w
    | _ => .stuck)
  | .ok _ _ => .stuck
  | .exc c p ω => .exc c p ω
  | .stuck => .stuck
theorem kDr_ok {n : Int} (h0 : 0 < n) (h1 : n < 2 ^ 64) : kDr (.ok (.int n) ω) = .ok (.int (drawFn ω n).1) (drawFn ω n).2 := by
  unfold kDr draw
  simp only [h0, h1, and_self, if_true]
theorem e_draw {i : Nat} {e : E} (h : ρ[i]? = some .s) : evalE gt call (.draw i e) ρ ω = kDr (evalE gt call e ρ ω) := by
  rw [evalE, h]
  show (evalE gt call e ρ >>= _) ω = _
  rw [bnd_at]
  cases evalE gt call e ρ ω with
  | ok x w => cases x with
    | int n =>
      show (draw n >>= fun k => (pure (PyData.int k) : M PyData)) w = (match draw n w with | .ok k w => R.ok (PyData.int k) w | _ => .stuck)
      rw [bnd_at]
      unfold draw
      by_cases hn : 0 < n ∧ n < 2 ^ 64
      · simp only [if_pos hn]; rfl
      · simp only [if_neg hn]
    | _ => rfl
  | _ => rfl
theorem draw_range {n : Int} (h : 0 < n) : 0 ≤ (drawFn ω n).1 ∧ (drawFn ω n).1 < n := by
  unfold drawFn
  exact ⟨Int.emod_nonneg _ (by omega), Int.emod_lt_of_pos _ h⟩
/-! statements -/
variable (gt call) in
def kS (b : S) (r : R Out) : R Out := match r with
  | .ok (.nx ρ) ω => evalS gt call b ρ ω
  | r => r
@[simp] theorem kS_nx (b : S) : kS gt call b (.ok (.nx ρ) ω) = evalS gt call b ρ ω := rfl
@[simp] theorem kS_rt (b : S) (d : PyData) : kS gt call b (.ok (.rt d) ω) = .ok (.rt d) ω := rfl
@[simp] theorem kS_bk (b : S) : kS gt call b (.ok (.bk ρ) ω) = .ok (.bk ρ) ω := rfl
@[simp] theorem kS_ct (b : S) : kS gt call b (.ok (.ct ρ) ω) = .ok (.ct ρ) ω := rfl
@[simp] theorem kS_exc (b : S) (c : Nat) (p : PyData) : kS gt call b (.exc c p ω) = .exc c p ω := rfl
@[simp] theorem s_skip : evalS gt call .skip ρ ω = .ok (.nx ρ) ω := by rw [evalS]; rfl
@[simp] theorem s_seq (a b : S) : evalS gt call (.seq a b) ρ ω = kS gt call b (evalS gt call a ρ ω) := by
  rw [evalS, andThen_at]
  cases evalS gt call a ρ ω with
  | ok o w => cases o <;> rfl
  | _ => rfl
def kRt (r : R PyData) : R Out := match r with
  | .ok d ω => .ok (.rt d) ω
  | .exc c p ω => .exc c p ω
  | .stuck => .stuck
@[simp] theorem kRt_ok (d : PyData) : kRt (.ok d ω) = .ok (.rt d) ω := rfl
@[simp] theorem kRt_exc (c : Nat) (p : PyData) : kRt (.exc c p ω) = .exc c p ω := rfl
@[simp] theorem s_ret (e : E) : evalS gt call (.ret e) ρ ω = kRt (evalE gt call e (frz (esc e) ρ) ω) := by
  rw [evalS, bnd_at]
  cases evalE gt call e (frz (esc e) ρ) ω <;> rfl
@[simp] theorem s_retn : evalS gt call .retn ρ ω = .ok (.rt .none) ω := by rw [evalS]; rfl
def kAg (i : Nat) (fr : Bool) (ρ : Env) (r : R PyData) : R Out := match r with
  | .ok d ω => .ok (.nx (ρ.set i (.v (ownV fr d) d))) ω
  | .exc c p ω => .exc c p ω
  | .stuck => .stuck
@[simp] theorem kAg_ok (i : Nat) (fr : Bool) (d : PyData) : kAg i fr ρ (.ok d ω) = .ok (.nx (ρ.set i (.v (ownV fr d) d))) ω := rfl
@[simp] theorem s_asg (i : Nat) (e : E) : evalS gt call (.asg (.nm i) e) ρ ω = kAg i (freshE e) (frz (esc e) ρ) (evalE gt call e (frz (esc e) ρ) ω) := by
  rw [evalS, bnd_at]
  cases evalE gt call e (frz (esc e) ρ) ω <;> rfl
@[simp] theorem own_f (d : PyData) : ownV false d = false := by cases d <;> rfl
@[simp] theorem own_i (b : Bool) (i : Int) : ownV b (.int i) = false := rfl
@[simp] theorem own_b (b : Bool) (i : Bool) : ownV b (.bool i) = false := rfl
@[simp] theorem own_t (b : Bool) (i : List PyData) : ownV b (.tuple i) = false := rfl
@[simp] theorem own_s (b : Bool) (i : Str) : ownV b (.str i) = false := rfl
@[simp] theorem own_n (b : Bool) : ownV b .none = false := rfl
@[simp] theorem own_l (b : Bool) (i : List PyData) : ownV b (.list i) = b := rfl
variable (gt call) in
def kI2 (o : Option Bool) (a b : S) (ρ : Env) (ω : Orc) : R Out := match o with
  | some true => evalS gt call a ρ ω
  | some false => evalS gt call b ρ ω
  | none => .stuck
@[simp] theorem kI2_t (a b : S) : kI2 gt call (some true) a b ρ ω = evalS gt call a ρ ω := rfl
@[simp] theorem kI2_f (a b : S) : kI2 gt call (some false) a b ρ ω = evalS gt call b ρ ω := rfl
variable (gt call) in
def kI (a b : S) (ρ : Env) (r : R PyData) : R Out := match r with
  | .ok x ω => kI2 gt call (tru x) a b ρ ω
  | .exc c p ω => .exc c p ω
  | .stuck => .stuck
@[simp] theorem kI_ok (a b : S) (x : PyData) : kI gt call a b ρ (.ok x ω) = kI2 gt call (tru x) a b ρ ω := rfl
@[simp] theorem s_ite (e : E) (a b : S) : evalS gt call (.ite e a b) ρ ω = kI gt call a b (frz (esc e) ρ) (evalE gt call e (frz (esc e) ρ) ω) := by
  rw [evalS, bnd_at]
  cases evalE gt call e (frz (esc e) ρ) ω with
  | ok x w =>
    show (M.ofO (tru x) >>= fun t => if t = true then evalS gt call a (frz (esc e) ρ) else evalS gt call b (frz (esc e) ρ)) w = kI2 gt call (tru x) a b (frz (esc e) ρ) w
    cases tru x with
    | none => rfl
    | some t => cases t <;> rfl
  | _ => rfl
@[simp] theorem s_raise (c : Nat) : evalS gt call (.raise c) ρ ω = .exc c .none ω := by rw [evalS]; rfl
def kAu (i : Nat) (o : Bop) (x : Int) (ρ : Env) (r : R PyData) : R Out := match r with
  | .ok y ω => (match bop o (.int x) y with
    | some z => .ok (.nx (ρ.set i (.v false z))) ω
    | none => .stuck)
  | .exc c p ω => .exc c p ω
  | .stuck => .stuck
theorem kAu_ok {i : Nat} {o : Bop} {x : Int} {y z : PyData} (h : bop o (.int x) y = some z) : kAu i o x ρ (.ok y ω) = .ok (.nx (ρ.set i (.v false z))) ω := by
  show (match bop o (.int x) y with | some z => R.ok (Out.nx (ρ.set i (.v false z))) ω | none => R.stuck) = _
  rw [h]
def kAz (i : Nat) (ρ : Env) (o : Option PyData) (ω : Orc) : R Out := match o with
  | some z => .ok (.nx (ρ.set i (.v false z))) ω
  | none => .stuck
@[simp] theorem kAz_some (i : Nat) (z : PyData) : kAz i ρ (some z) ω = .ok (.nx (ρ.set i (.v false z))) ω := rfl
@[simp] theorem kAu_at (i : Nat) (o : Bop) (x : Int) (y : PyData) : kAu i o x ρ (.ok y ω) = kAz i ρ (bop o (.int x) y) ω := rfl
theorem s_aug {i : Nat} {o : Bop} {e : E} {x : Int} (h : (frz (esc e) ρ)[i]? = some (.v false (.int x))) : evalS gt call (.aug i o e) ρ ω = kAu i o x (frz (esc e) ρ) (evalE gt call e (frz (esc e) ρ) ω) := by
  rw [evalS]
  simp only [h]
  rw [bnd_at]
  cases evalE gt call e (frz (esc e) ρ) ω with
  | ok y w =>
    show (M.ofO (bop o (.int x) y) >>= fun z => (pure (Out.nx ((frz (esc e) ρ).set i (.v false z))) : M Out)) w = (match bop o (.int x) y with | some z => R.ok (Out.nx ((frz (esc e) ρ).set i (.v false z))) w | none => R.stuck)
    cases bop o (.int x) y <;> rfl
  | _ => rfl
/-! the state's own places -/
theorem e_sget0 {i : Nat} (h : ρ[i]? = some .s) : evalE gt call (.sget i 0) ρ ω = .ok (.int ω.a) ω := by rw [evalE, h] <;> rfl
theorem e_sget1 {i : Nat} (h : ρ[i]? = some .s) : evalE gt call (.sget i 1) ρ ω = .ok (.int ω.b) ω := by rw [evalE, h] <;> rfl
theorem e_sget3 {i : Nat} (h : ρ[i]? = some .s) : evalE gt call (.sget i 3) ρ ω = .ok (.int ω.c) ω := by rw [evalE, h] <;> rfl
theorem e_slen {i : Nat} (h : ρ[i]? = some .s) : evalE gt call (.slen i) ρ ω = .ok (.int ω.scr.length) ω := by rw [evalE, h] <;> rfl
def kCell (j : Int) (ω : Orc) : R PyData := match L2.atI ω.scr j with
  | some v => .ok (.int v) ω
  | none => .stuck
theorem e_scell {i j : Nat} {n : Int} (h : ρ[i]? = some .s) (h2 : ρ[j]? = some (.v false (.int n))) : evalE gt call (.scell i j) ρ ω = kCell n ω := by
  rw [evalE, h, h2]; rfl
def kSs (k : Nat) (ρ : Env) (r : R PyData) : R Out := match r with
  | .ok (.int v) w => (match k with
    | 0 => .ok (.nx ρ) { w with a := v }
    | 1 => if 0 ≤ v then .ok (.nx ρ) { w with b := v } else .stuck
    | 3 => if 0 ≤ v ∧ v < 2 ^ 31 then .ok (.nx ρ) { w with c := v } else .stuck
    | _ => .stuck)
  | .ok _ _ => .stuck
  | .exc c p ω => .exc c p ω
  | .stuck => .stuck
@[simp] theorem kSs_0 (v : Int) : kSs 0 ρ (.ok (.int v) ω) = .ok (.nx ρ) { ω with a := v } := rfl
theorem kSs_1 {v : Int} (h : 0 ≤ v) : kSs 1 ρ (.ok (.int v) ω) = .ok (.nx ρ) { ω with b := v } := if_pos h
theorem kSs_3 {v : Int} (h : 0 ≤ v) (h2 : v < 2147483648) : kSs 3 ρ (.ok (.int v) ω) = .ok (.nx ρ) { ω with c := v } := if_pos ⟨h, h2⟩
theorem s_sset {i k : Nat} {e : E} (h : ρ[i]? = some .s) : evalS gt call (.sset i k e) ρ ω = kSs k ρ (evalE gt call e ρ ω) := by
  rw [evalS, h]
  show (evalE gt call e ρ >>= _) ω = _
  rw [bnd_at]
  cases evalE gt call e ρ ω with
  | ok x w => cases x with
    | int n =>
      match k with
      | 0 => rfl
      | 1 => rfl
      | 2 => rfl
      | 3 => rfl
      | k + 4 => rfl
    | _ => rfl
  | _ => rfl
@[simp] theorem p1_int (i : Int) : p1 .int (.int i) = some (.int i) := rfl
@[simp] theorem p1_abs (i : Int) : p1 .abs (.int i) = some (.int (if i < 0 then -i else i)) := rfl
theorem atI_at {xs : List Int} {i : Int} (h : 0 ≤ i) (h2 : i < xs.length) : L2.atI xs i = some (xs.getD i.toNat 0) := by
  unfold L2.atI L2.ixN
  rw [if_pos h, if_pos h2]
  have : i.toNat < xs.length := by omega
  simp [List.getD, this]
/-! no slot is an own one -/
def nOwn : Slot → Bool
  | .v true _ => false
  | _ => true
theorem frz_id : ∀ (is : List Nat) {ρ : Env}, ρ.all nOwn = true → frz is ρ = ρ
  | [], ρ, _ => rfl
  | i :: is, ρ, h => by
    have e : ρ.modify i frz1 = ρ := by
      apply List.ext_getElem?
      intro j
      rw [List.getElem?_modify]
      by_cases hij : i = j
      · subst hij
        cases e : ρ[i]? with
        | none => simp
        | some s =>
          have hs : nOwn s = true := List.all_eq_true.mp h s (List.mem_of_getElem? e)
          cases s with
          | v o d => cases o with
            | true => cases hs
            | false => simp [frz1]
          | _ => simp [frz1]
      · simp [hij]
    show frz is (ρ.modify i frz1) = ρ
    rw [e]
    exact frz_id is h
end
section
variable {gt : Nat → Option PyData} {call : Nat → List Slot → M PyData} {ρ ρ' : Env} {ω ω' : Orc}
/-! a def's run -/
def kOut (r : R Out) : R PyData := match r with
  | .ok (.rt d) ω => .ok d ω
  | .ok (.nx _) ω => .ok .none ω
  | .ok _ _ => .stuck
  | .exc c p ω => .exc c p ω
  | .stuck => .stuck
@[simp] theorem kOut_rt (d : PyData) : kOut (.ok (.rt d) ω) = .ok d ω := rfl
@[simp] theorem kOut_nx : kOut (.ok (.nx ρ) ω) = .ok .none ω := rfl
@[simp] theorem kOut_exc (c : Nat) (p : PyData) : kOut (.exc c p ω) = .exc c p ω := rfl
theorem run_at {P : Nat → Option Def} {n f : Nat} {as : List Slot} {d : Def} (h : P f = some d) (hl : as.length = d.ar) : run gt P (n + 1) f as ω = kOut (evalS gt (run gt P n) d.body (entry d as) ω) := by
  rw [run, h]
  show M.guard (decide (as.length = d.ar)) (evalS gt (run gt P n) d.body (entry d as) >>= outD) ω = _
  rw [decide_eq_true hl]
  show (evalS gt (run gt P n) d.body (entry d as) >>= outD) ω = _
  rw [bnd_at]
  cases evalS gt (run gt P n) d.body (entry d as) ω with
  | ok o w => cases o <;> rfl
  | _ => rfl
/-! while -/
variable (gt call) in
def wCond (e : E) (ρ : Env) : M (Bool × Env) := evalE gt call e (frz (esc e) ρ) >>= fun x => M.ofO (tru x) >>= fun t => pure (t, frz (esc e) ρ)
variable (gt call) in
def wLoop (e : E) (b : S) (n : Nat) (ρ : Env) (ω : Orc) : R Out := whM (wCond gt call e) (evalS gt call b) n ρ ω
theorem s_wh (e : E) (b : S) : evalS gt call (.wh e b) ρ ω = wLoop gt call e b whFuel ρ ω := by rw [evalS]; rfl
variable (gt call) in
def kWb (e : E) (b : S) (n : Nat) (r : R Out) : R Out := match r with
  | .ok (.nx ρ) ω => wLoop gt call e b n ρ ω
  | .ok (.ct ρ) ω => wLoop gt call e b n ρ ω
  | .ok (.bk ρ) ω => .ok (.nx ρ) ω
  | .ok (.rt d) ω => .ok (.rt d) ω
  | .exc c p ω => .exc c p ω
  | .stuck => .stuck
@[simp] theorem kWb_nx (e : E) (b : S) (n : Nat) : kWb gt call e b n (.ok (.nx ρ) ω) = wLoop gt call e b n ρ ω := rfl
@[simp] theorem kWb_ct (e : E) (b : S) (n : Nat) : kWb gt call e b n (.ok (.ct ρ) ω) = wLoop gt call e b n ρ ω := rfl
@[simp] theorem kWb_bk (e : E) (b : S) (n : Nat) : kWb gt call e b n (.ok (.bk ρ) ω) = .ok (.nx ρ) ω := rfl
@[simp] theorem kWb_rt (e : E) (b : S) (n : Nat) (d : PyData) : kWb gt call e b n (.ok (.rt d) ω) = .ok (.rt d) ω := rfl
variable (gt call) in
def kWt (e : E) (b : S) (n : Nat) (o : Option Bool) (ρ : Env) (ω : Orc) : R Out := match o with
  | some true => kWb gt call e b n (evalS gt call b ρ ω)
  | some false => .ok (.nx ρ) ω
  | none => .stuck
@[simp] theorem kWt_t (e : E) (b : S) (n : Nat) : kWt gt call e b n (some true) ρ ω = kWb gt call e b n (evalS gt call b ρ ω) := rfl
@[simp] theorem kWt_f (e : E) (b : S) (n : Nat) : kWt gt call e b n (some false) ρ ω = .ok (.nx ρ) ω := rfl
variable (gt call) in
def kWc (e : E) (b : S) (n : Nat) (ρ : Env) (r : R PyData) : R Out := match r with
  | .ok x ω => kWt gt call e b n (tru x) ρ ω
  | .exc c p ω => .exc c p ω
  | .stuck => .stuck
@[simp] theorem kWc_ok (e : E) (b : S) (n : Nat) (x : PyData) : kWc gt call e b n ρ (.ok x ω) = kWt gt call e b n (tru x) ρ ω := rfl
theorem wLoop_succ (e : E) (b : S) (n : Nat) : wLoop gt call e b (n + 1) ρ ω = kWc gt call e b n (frz (esc e) ρ) (evalE gt call e (frz (esc e) ρ) ω) := by
  unfold wLoop
  rw [whM, bnd_at]
  unfold wCond
  rw [bnd_at]
  cases evalE gt call e (frz (esc e) ρ) ω with
  | ok x w =>
    show _ = kWt gt call e b n (tru x) (frz (esc e) ρ) w
    dsimp only
    cases tru x with
    | none => rfl
    | some t => cases t with
      | false => rfl
      | true =>
        show (evalS gt call b (frz (esc e) ρ) >>= _) w = kWb gt call e b n (evalS gt call b (frz (esc e) ρ) w)
        rw [bnd_at]
        cases evalS gt call b (frz (esc e) ρ) w with
        | ok o w => cases o <;> rfl
        | _ => rfl
  | _ => rfl
/-! for -/
variable (gt call) in
def fLoop (t : Tg) (b : S) (xs : List PyData) (ρ : Env) (ω : Orc) : R Out := forM_ (fun x ρ => asgT t false x ρ >>= fun ρ' => evalS gt call b ρ') xs ρ ω
@[simp] theorem fLoop_nil (t : Tg) (b : S) : fLoop gt call t b [] ρ ω = .ok (.nx ρ) ω := rfl
variable (gt call) in
def kFb (t : Tg) (b : S) (xs : List PyData) (r : R Out) : R Out := match r with
  | .ok (.nx ρ) ω => fLoop gt call t b xs ρ ω
  | .ok (.ct ρ) ω => fLoop gt call t b xs ρ ω
  | .ok (.bk ρ) ω => .ok (.nx ρ) ω
  | .ok (.rt d) ω => .ok (.rt d) ω
  | .exc c p ω => .exc c p ω
  | .stuck => .stuck
@[simp] theorem kFb_nx (t : Tg) (b : S) (xs : List PyData) : kFb gt call t b xs (.ok (.nx ρ) ω) = fLoop gt call t b xs ρ ω := rfl
@[simp] theorem kFb_ct (t : Tg) (b : S) (xs : List PyData) : kFb gt call t b xs (.ok (.ct ρ) ω) = fLoop gt call t b xs ρ ω := rfl
@[simp] theorem kFb_bk (t : Tg) (b : S) (xs : List PyData) : kFb gt call t b xs (.ok (.bk ρ) ω) = .ok (.nx ρ) ω := rfl
@[simp] theorem kFb_rt (t : Tg) (b : S) (xs : List PyData) (d : PyData) : kFb gt call t b xs (.ok (.rt d) ω) = .ok (.rt d) ω := rfl
theorem fLoop_cons (i : Nat) (b : S) (x : PyData) (xs : List PyData) : fLoop gt call (.nm i) b (x :: xs) ρ ω = kFb gt call (.nm i) b xs (evalS gt call b (ρ.set i (.v false x)) ω) := by
  show ((evalS gt call b (ρ.set i (.v false x))) >>= _) ω = _
  rw [bnd_at]
  cases evalS gt call b (ρ.set i (.v false x)) ω with
  | ok o w => cases o <;> rfl
  | _ => rfl
variable (gt call) in
def kFo (t : Tg) (b : S) (ρ : Env) (r : R PyData) : R Out := match r with
  | .ok x ω => (match itemsOf x with
    | some xs => fLoop gt call t b xs ρ ω
    | none => .stuck)
  | .exc c p ω => .exc c p ω
  | .stuck => .stuck
theorem kFo_ok {t : Tg} {b : S} {x : PyData} {xs : List PyData} (h : itemsOf x = some xs) : kFo gt call t b ρ (.ok x ω) = fLoop gt call t b xs ρ ω := by
  show (match itemsOf x with | some xs => fLoop gt call t b xs ρ ω | none => .stuck) = _
  rw [h]
@[simp] theorem kFo_l (t : Tg) (b : S) (xs : List PyData) : kFo gt call t b ρ (.ok (.list xs) ω) = fLoop gt call t b xs ρ ω := rfl
@[simp] theorem kFo_t (t : Tg) (b : S) (xs : List PyData) : kFo gt call t b ρ (.ok (.tuple xs) ω) = fLoop gt call t b xs ρ ω := rfl
theorem s_for (t : Tg) (it : E) (b : S) : evalS gt call (.for_ t it b) ρ ω = kFo gt call t b (frz (esc it) ρ) (evalE gt call it (frz (esc it) ρ) ω) := by
  rw [evalS, bnd_at]
  cases evalE gt call it (frz (esc it) ρ) ω with
  | ok x w =>
    show (M.ofO (itemsOf x) >>= fun xs => forM_ _ xs (frz (esc it) ρ)) w = (match itemsOf x with | some xs => fLoop gt call t b xs (frz (esc it) ρ) w | none => .stuck)
    cases itemsOf x <;> rfl
  | _ => rfl
/-! ranges -/
def kRg (r : R (List PyData)) : R PyData := match r with
  | .ok xs ω => rO (rngD xs) ω
  | .exc c p ω => .exc c p ω
  | .stuck => .stuck
@[simp] theorem kRg_ok (xs : List PyData) : kRg (.ok xs ω) = rO (rngD xs) ω := rfl
@[simp] theorem e_rng (es : Es) : evalE gt call (.rng es) ρ ω = kRg (evalEs gt call es ρ ω) := by
  rw [evalE, bnd_at]
  cases evalEs gt call es ρ ω with
  | ok xs w => exact rO_def
  | _ => rfl
theorem rng1 {n : Int} (h : n ≤ 1000000) (h2 : -(2 ^ 60) < n) : rngD [.int n] = some (.list (rangeD 0 n.toNat 1)) := by
  show gO (decide (n ≤ 1000000) && decide (-(2 ^ 60) < n)) (some (PyData.list (rangeD 0 n.toNat 1))) = _
  rw [decide_eq_true h, decide_eq_true h2]; rfl
theorem rng2 {a b : Int} (h : b - a ≤ 1000000) (h1 : -(2 ^ 60) < a) (h2 : a < 2 ^ 60) (h3 : -(2 ^ 60) < b) (h4 : b < 2 ^ 60) : rngD [.int a, .int b] = some (.list (rangeD a (b - a).toNat 1)) := by
  show gO (decide (b - a ≤ 1000000) && decide (-(2 ^ 60) < a) && decide (a < 2 ^ 60) && decide (-(2 ^ 60) < b) && decide (b < 2 ^ 60)) (some (PyData.list (rangeD a (b - a).toNat 1))) = _
  rw [decide_eq_true h, decide_eq_true h1, decide_eq_true h2, decide_eq_true h3, decide_eq_true h4]; rfl
/-! comprehensions -/
variable (gt call) in
def cBody (t : Tg) (ts : Es) (e : E) (ρ : Env) (x : PyData) : M (Option PyData) := asgT t false x ρ >>= fun ρ' => evalT gt call ts ρ' >>= fun b => if b = true then evalE gt call e ρ' >>= fun y => M.guard (okEl y) (pure (some y)) else pure none
theorem compM_at {f : PyData → M (Option PyData)} {g : PyData → Option PyData} : ∀ {xs : List PyData}, (∀ x ∈ xs, f x ω = .ok (g x) ω) → compM f xs ω = .ok (xs.filterMap g) ω
  | [], _ => rfl
  | x :: xs, h => by
    rw [compM, bnd_at, h x List.mem_cons_self]
    have ih := compM_at (f := f) (g := g) (xs := xs) fun y hy => h y (List.mem_cons_of_mem _ hy)
    cases hg : g x with
    | none =>
      rw [List.filterMap_cons, hg]
      exact ih
    | some y =>
      rw [List.filterMap_cons, hg]
      show (compM f xs >>= fun l => pure (y :: l)) ω = _
      rw [bnd_at, ih]; rfl
theorem noexc_ok {α : Type} {m : M α} {a : α} (h : m ω = .ok a ω') : M.noexc m ω = .ok a ω' := by
  unfold M.noexc; rw [h]
theorem comp_at {t : Tg} {it : E} {ts : Es} {e : E} {d : PyData} {xs : List PyData} {g : PyData → Option PyData} (h : evalE gt call it ρ ω = .ok d ω) (hi : itemsOf d = some xs) (hl : xs.length ≤ 1000000) (hb : ∀ x ∈ xs, cBody gt call t ts e (clr (tgS t) ρ) x ω = .ok (g x) ω) :
    evalE gt call (.comp t it ts e) ρ ω = .ok (.list (xs.filterMap g)) ω := by
  rw [evalE]
  refine noexc_ok ?_
  show (evalE gt call it ρ >>= fun x0 => M.ofO (itemsOf x0) >>= fun xs => M.guard (decide (xs.length ≤ 1000000)) (compM (cBody gt call t ts e (clr (tgS t) ρ)) xs >>= fun ys => pure (PyData.list ys))) ω = _
  rw [bnd_at, h]
  show (M.ofO (itemsOf d) >>= fun xs => M.guard (decide (xs.length ≤ 1000000)) (compM (cBody gt call t ts e (clr (tgS t) ρ)) xs >>= fun ys => pure (PyData.list ys))) ω = _
  rw [hi]
  show M.guard (decide (xs.length ≤ 1000000)) (compM (cBody gt call t ts e (clr (tgS t) ρ)) xs >>= fun ys => pure (PyData.list ys)) ω = _
  rw [decide_eq_true hl]
  show (compM (cBody gt call t ts e (clr (tgS t) ρ)) xs >>= fun ys => pure (PyData.list ys)) ω = _
  rw [bnd_at, compM_at hb]; rfl
def kCo (r : R PyData) : R (Option PyData) := match r with
  | .ok y ω => if okEl y = true then .ok (some y) ω else .stuck
  | .exc c p ω => .exc c p ω
  | .stuck => .stuck
@[simp] theorem kCo_ok (y : PyData) : kCo (.ok y ω) = if okEl y = true then .ok (some y) ω else .stuck := rfl
variable (gt call) in
def kCt (e : E) (ρ : Env) (r : R Bool) : R (Option PyData) := match r with
  | .ok true ω => kCo (evalE gt call e ρ ω)
  | .ok false ω => .ok none ω
  | .exc c p ω => .exc c p ω
  | .stuck => .stuck
@[simp] theorem kCt_t (e : E) : kCt gt call e ρ (.ok true ω) = kCo (evalE gt call e ρ ω) := rfl
@[simp] theorem kCt_f (e : E) : kCt gt call e ρ (.ok false ω) = .ok none ω := rfl
theorem cBody_nm (i : Nat) (ts : Es) (e : E) (x : PyData) : cBody gt call (.nm i) ts e ρ x ω = kCt gt call e (ρ.set i (.v false x)) (evalT gt call ts (ρ.set i (.v false x)) ω) := by
  show (evalT gt call ts (ρ.set i (.v false x)) >>= _) ω = _
  rw [bnd_at]
  cases evalT gt call ts (ρ.set i (.v false x)) ω with
  | ok b w => cases b with
    | false => rfl
    | true =>
      show (evalE gt call e (ρ.set i (.v false x)) >>= fun y => M.guard (okEl y) (pure (some y))) w = kCo (evalE gt call e (ρ.set i (.v false x)) w)
      rw [bnd_at]
      cases evalE gt call e (ρ.set i (.v false x)) w with
      | ok y w =>
        show M.guard (okEl y) (pure (some y)) w = if okEl y = true then .ok (some y) w else .stuck
        cases okEl y <;> rfl
      | _ => rfl
  | _ => rfl
@[simp] theorem t_nil : evalT gt call .nil ρ ω = .ok true ω := by rw [evalT]; rfl
variable (gt call) in
def kTt (o : Option Bool) (es : Es) (ρ : Env) (ω : Orc) : R Bool := match o with
  | some true => evalT gt call es ρ ω
  | some false => .ok false ω
  | none => .stuck
@[simp] theorem kTt_t (es : Es) : kTt gt call (some true) es ρ ω = evalT gt call es ρ ω := rfl
@[simp] theorem kTt_f (es : Es) : kTt gt call (some false) es ρ ω = .ok false ω := rfl
variable (gt call) in
def kT1 (es : Es) (ρ : Env) (r : R PyData) : R Bool := match r with
  | .ok x ω => kTt gt call (tru x) es ρ ω
  | .exc c p ω => .exc c p ω
  | .stuck => .stuck
@[simp] theorem kT1_ok (es : Es) (x : PyData) : kT1 gt call es ρ (.ok x ω) = kTt gt call (tru x) es ρ ω := rfl
@[simp] theorem t_cons (e : E) (es : Es) : evalT gt call (.cons e es) ρ ω = kT1 gt call es ρ (evalE gt call e ρ ω) := by
  rw [evalT, bnd_at]
  cases evalE gt call e ρ ω with
  | ok x w =>
    show (M.ofO (tru x) >>= fun t => if t = true then evalT gt call es ρ else pure false) w = kTt gt call (tru x) es ρ w
    cases tru x with
    | none => rfl
    | some t => cases t <;> rfl
  | _ => rfl
/-! a, b = x, y -/
def kPa (t : Tg) (es : Es) (ρ : Env) (r : R (List PyData)) : R Out := match r with
  | .ok ds ω => (match parT t es ds ρ ω with
    | .ok ρ' w => .ok (.nx ρ') w
    | .exc c p w => .exc c p w
    | .stuck => .stuck)
  | .exc c p ω => .exc c p ω
  | .stuck => .stuck
theorem s_par (t : Tg) (es : Es) : evalS gt call (.par t es) ρ ω = kPa t es (frz (escs es) ρ) (evalEs gt call es (frz (escs es) ρ) ω) := by
  rw [evalS, bnd_at]
  cases evalEs gt call es (frz (escs es) ρ) ω with
  | ok ds w =>
    show (parT t es ds (frz (escs es) ρ) >>= fun ρ' => (pure (Out.nx ρ') : M Out)) w = _
    rw [bnd_at]
    show _ = (match parT t es ds (frz (escs es) ρ) w with | .ok ρ' w => R.ok (Out.nx ρ') w | .exc c p w => .exc c p w | .stuck => .stuck)
    cases parT t es ds (frz (escs es) ρ) w <;> rfl
  | _ => rfl
@[simp] theorem kPa_2 (i j : Nat) (a b : E) (x y : PyData) : kPa (.tc (.nm i) (.tc (.nm j) .t0)) (.cons a (.cons b .nil)) ρ (.ok [x, y] ω) = .ok (.nx ((ρ.set i (.v (ownV (freshE a) x) x)).set j (.v (ownV (freshE b) y) y))) ω := rfl
@[simp] theorem kPa_3 (i j l : Nat) (a b d : E) (x y z : PyData) : kPa (.tc (.nm i) (.tc (.nm j) (.tc (.nm l) .t0))) (.cons a (.cons b (.cons d .nil))) ρ (.ok [x, y, z] ω) = .ok (.nx (((ρ.set i (.v (ownV (freshE a) x) x)).set j (.v (ownV (freshE b) y) y)).set l (.v (ownV (freshE d) z) z))) ω := rfl
/-! try -/
def kTr (b : Bool) (hs : List (Nat × Hd)) (ρ : Env) (r : R PyData) : R Out := match r with
  | .ok d w => .ok (if b = true then .rt d else .nx ρ) w
  | .exc c p w => (match hs.lookup c with
    | some h => .ok (.rt (evHd p h)) w
    | none => .exc c p w)
  | .stuck => .stuck
theorem s_try (b : Bool) (e : E) (hs : List (Nat × Hd)) : evalS gt call (.try_ b e hs) ρ ω = kTr b hs (frz (esc e) ρ) (evalE gt call e (frz (esc e) ρ) ω) := by
  rw [evalS]
  show (match evalE gt call e (frz (esc e) ρ) ω with | .ok d w' => _ | .exc c p w' => _ | .stuck => _) = _
  cases evalE gt call e (frz (esc e) ρ) ω <;> rfl
def kEx (ρ : Env) (r : R PyData) : R Out := match r with
  | .ok _ ω => .ok (.nx ρ) ω
  | .exc c p ω => .exc c p ω
  | .stuck => .stuck
@[simp] theorem kEx_ok (d : PyData) : kEx ρ (.ok d ω) = .ok (.nx ρ) ω := rfl
@[simp] theorem s_expr (e : E) : evalS gt call (.expr e) ρ ω = kEx (frz (esc e) ρ) (evalE gt call e (frz (esc e) ρ) ω) := by
  rw [evalS, bnd_at]
  cases evalE gt call e (frz (esc e) ρ) ω <;> rfl
/-! a chain -/
variable (gt call) in
def kC2 (o2 : Bop) (y : PyData) (c : E) (ρ : Env) (o : Option PyData) (ω : Orc) : R PyData := match o with
  | some (.bool true) => k1 (bop o2 y) (evalE gt call c ρ ω)
  | some (.bool false) => .ok (.bool false) ω
  | _ => .stuck
@[simp] theorem kC2_t (o2 : Bop) (y : PyData) (c : E) : kC2 gt call o2 y c ρ (some (.bool true)) ω = k1 (bop o2 y) (evalE gt call c ρ ω) := rfl
@[simp] theorem kC2_f (o2 : Bop) (y : PyData) (c : E) : kC2 gt call o2 y c ρ (some (.bool false)) ω = .ok (.bool false) ω := rfl
variable (gt call) in
def kC1 (o1 o2 : Bop) (x : PyData) (c : E) (ρ : Env) (r : R PyData) : R PyData := match r with
  | .ok y ω => kC2 gt call o2 y c ρ (bop o1 x y) ω
  | .exc c p ω => .exc c p ω
  | .stuck => .stuck
@[simp] theorem kC1_ok (o1 o2 : Bop) (x y : PyData) (c : E) : kC1 gt call o1 o2 x c ρ (.ok y ω) = kC2 gt call o2 y c ρ (bop o1 x y) ω := rfl
variable (gt call) in
def kC0 (o1 o2 : Bop) (b c : E) (ρ : Env) (r : R PyData) : R PyData := match r with
  | .ok x ω => kC1 gt call o1 o2 x c ρ (evalE gt call b ρ ω)
  | .exc c p ω => .exc c p ω
  | .stuck => .stuck
@[simp] theorem kC0_ok (o1 o2 : Bop) (x : PyData) (b c : E) : kC0 gt call o1 o2 b c ρ (.ok x ω) = kC1 gt call o1 o2 x c ρ (evalE gt call b ρ ω) := rfl
@[simp] theorem e_chain (o1 o2 : Bop) (a b c : E) : evalE gt call (.chain o1 o2 a b c) ρ ω = kC0 gt call o1 o2 b c ρ (evalE gt call a ρ ω) := by
  rw [evalE, bnd_at]
  cases evalE gt call a ρ ω with
  | ok x w =>
    show (evalE gt call b ρ >>= _) w = kC1 gt call o1 o2 x c ρ (evalE gt call b ρ w)
    rw [bnd_at]
    cases evalE gt call b ρ w with
    | ok y w =>
      show (M.ofO (bop o1 x y) >>= _) w = kC2 gt call o2 y c ρ (bop o1 x y) w
      cases bop o1 x y with
      | none => rfl
      | some z => cases z with
        | bool t => cases t with
          | true => exact one_at
          | false => rfl
        | _ => rfl
    | _ => rfl
  | _ => rfl
end
end Wv

set_option autoImplicit false
set_option linter.all false
set_option maxRecDepth 100000
set_option maxHeartbeats 4000000
namespace Wv
open PySem PySem.Spec PyProof.Rows L2
section
variable {X : Cx} {nm : Str} {cv : Value} {bd su : List PSt} {st0 : PSt} {q1 q2 q3 : Pos} {tbd : WX → TS} {tsu : Addr → Value → Option Addr → TS} {Wo : WX}
/-- what is caught where it has landed: e the error's address, gnd its ground -/
theorem hot_catch {e : Addr} {gnd : Heap} {sE s' : Shared} {pins : List (Addr × Obj)} {τ : L2.St} {G : Hp} {k : Value} {dd : Option Addr} {D : Ends}
    (stk : X.stack = X.env :: X.outer) (fra : X.env.frame = some X.env.locals) (nam : Names X nm cv) (okX : X.Ok) (J : Inv X pins τ G sE)
    (keep : ∀ b o, sE.heap.get? b = some o → b ∉ frs X.stack → gnd.get? b = some o) (ups : sE.heap.UpToSlots s'.heap) (sk : Sky gnd X.stack e (Zc k dd) X.env.locals s'.heap) (free : G e = none) (hos : s'.os = sE.os) (bare : AllBare s'.gens)
    (hm : PySem.W.exmOne X.K k cv = some true) (go : tsu e k dd D τ G)
    (hsu : ∀ (a : Addr) (oe : Obj) (cls : Value) (d : Option Addr) (pn : List (Addr × Obj)), Zc cls d oe → (∃ vs, oe.data = .fields vs) → PSs (X.suite a ((a, oe) :: pn)) (st0 :: su) (tsu a cls d)) :
    wpAny (model X.prog X.w) X.A (noteFrame (.ref e) X.env) (fun _ sA => wpAny (model X.prog X.w) X.A (setFlight (.ref e) none) (fun _ sB => wpAny (model X.prog X.w) X.A (handleBy (.ref e) X.env [.ExceptHandler (some (.Name nm q1)) none (st0 :: su) q2]) (SP X pins D) X.xe sB) X.xe sA) X.xe s' := by
  have frm : X.A.frames = some (X.env :: X.outer) := okX.frames.trans (congrArg some stk)
  rw [stk] at sk
  refine Sky.land Zc.steady frm fra sk (fun hA fA uA => ?_)
  have JA : Inv X pins τ G { s' with heap := hA } := J.landed keep fA.1 (ups.trans uA) hos bare
  obtain ⟨oA, vA, eA, zA, dA⟩ := fA.there
  have apart : e ∉ frs (X.env :: X.outer) := by
    intro hm
    obtain ⟨_, oB, eB, nB⟩ := fA.2.2.1.mem hm
    rw [eA] at eB
    cases eB
    exact nB _ dA
  have neL : e ≠ X.env.locals := by
    intro z
    exact apart (List.mem_filterMap.mpr ⟨X.env, List.mem_cons_self, fra.trans (congrArg some z.symm)⟩)
  have neF : e ∉ X.fs := by
    intro hm
    obtain ⟨en, h1, h2⟩ := List.mem_filterMap.mp hm
    exact apart (List.mem_filterMap.mpr ⟨en, List.mem_cons_of_mem _ h1, h2⟩)
  have SA := JA.suite eA dA free neL neF
  refine wpAny_handleBy_cons (codeAny_handlers_test ?_) (fun z => by cases z)
  have tyE : PySem.W.Looks (model X.prog X.w) hA (typeOf (.ref e)) k := fun _ _ _ _ kp q => wpAny_typeOf_ref (kp _ _ eA) (by rw [zA.1]; exact q)
  have mt := PySem.W.exm_one (M := model X.prog X.w) JA.kIn tyE hm
  have nameAt : ∀ {Q E : Value → Shared → Prop}, Q cv { s' with heap := hA } → wpAny (model X.prog X.w) (X.A.mark (some (.ref e))) (eval (.Name nm q1) X.env) Q E { s' with heap := hA } := by
    intro Q E q
    rcases nam.2.2 with h | ⟨h, h2, h3⟩
    · exact ld_glob (X := X.suite e ((e, oA) :: (X.pn ++ pins))) SA nam.1 h q nam.2.1
    · exact ld_blt (X := X.suite e ((e, oA) :: (X.pn ++ pins))) SA nam.1 h h2 q h3 nam.2.1
  refine nameAt (mt.here (codeAny_handlers_suite (HandSPX.lands_againZ fA fun hC fC uC => ?_)))
  have JC : Inv X pins τ G { s' with heap := hC } := J.landed keep fC.1 ((ups.trans uA).trans uC) hos bare
  obtain ⟨oC, vC, eC, zC, dC⟩ := fC.there
  refine wpAny_mono ((hsu e oC k dd (X.pn ++ pins) zC ⟨_, dC⟩).run [] _ _ G _ (JC.suite eC dC free neL neF) go) (fun fl sZ hZ => ?_) (fun _ _ z => z.elim)
  cases fl with
  | ret u => obtain ⟨v, τ2, G2, S2, r2, qq⟩ := hZ; exact ⟨v, τ2, G2, S2.unsuite okX, r2, qq⟩
  | next => obtain ⟨τ2, G2, S2, qq⟩ := hZ; exact ⟨τ2, G2, S2.unsuite okX, qq⟩
  | brk => obtain ⟨τ2, G2, S2, qq⟩ := hZ; exact ⟨τ2, G2, S2.unsuite okX, qq⟩
  | cont => obtain ⟨τ2, G2, S2, qq⟩ := hZ; exact ⟨τ2, G2, S2.unsuite okX, qq⟩
/-- what is wished of the body's errors: each is caught -/
def wHot (K : PySem.W.Frag) (cv : Value) (tsu : Addr → Value → Option Addr → TS) (D : Ends) : WX := fun k d σ H => PySem.W.exmOne K k cv = some true ∧ ∀ a, H a = none → tsu a k d D σ H
theorem hot_try (stk : X.stack = X.env :: X.outer) (fra : X.env.frame = some X.env.locals) (nam : Names X nm cv)
    (hb : ∀ (W : WX) (pn : List (Addr × Obj)) (xe : Value → Shared → Prop), (∀ p ∈ X.pn, p ∈ pn) → Takes (X.tr pn xe) W → PSs (X.tr pn xe) bd (tbd W))
    (hsu : ∀ (a : Addr) (oe : Obj) (cls : Value) (d : Option Addr) (pn : List (Addr × Obj)), Zc cls d oe → (∃ vs, oe.data = .fields vs) → PSs (X.suite a ((a, oe) :: pn)) (st0 :: su) (tsu a cls d)) :
    PS X (.Try bd [.ExceptHandler (some (.Name nm q1)) none (st0 :: su) q2] [] [] q3) (fun D σ H => tbd (wHot X.K cv tsu D) D σ H) := by
  refine ⟨fun pins s σ H D I h => wpAny_Try_except ?_⟩
  have okX := I.ok
  have body := (hb (wHot X.K cv tsu D) (X.pn ++ pins) (fun err sX => wpAny (model X.prog X.w) X.A (noteFrame err X.env) (fun _ sA => wpAny (model X.prog X.w) X.A (setFlight err none) (fun _ sB => wpAny (model X.prog X.w) X.A (handleBy err X.env [.ExceptHandler (some (.Name nm q1)) none (st0 :: su) q2]) (SP X pins D) X.xe sB) X.xe sA) X.xe sX)
    (fun p hp => List.mem_append_left _ hp) (fun err sX hx => by
      obtain ⟨e, gnd, sE, ps2, τ, G, k, dd, rfl, J, keep, ups, sk, free, hos, bare, hm, go⟩ := hx
      exact hot_catch stk fra nam okX (J.ofTry okX) keep ups sk free hos bare hm (go e free) hsu)).run [] s σ H D (I.toTry _) h
  refine wpAny_mono body (fun fl sZ hZ => ?_) (fun _ _ z => z)
  cases fl with
  | ret u => obtain ⟨v, τ2, G2, S2, r2, qq⟩ := hZ; exact ⟨v, τ2, G2, S2.ofTry okX, r2, qq⟩
  | next => obtain ⟨τ2, G2, S2, qq⟩ := hZ; exact wpAny_execs_nil ⟨τ2, G2, S2.ofTry okX, qq⟩
  | brk => obtain ⟨τ2, G2, S2, qq⟩ := hZ; exact ⟨τ2, G2, S2.ofTry okX, qq⟩
  | cont => obtain ⟨τ2, G2, S2, qq⟩ := hZ; exact ⟨τ2, G2, S2.ofTry okX, qq⟩
end
end Wv
namespace Wv
open PySem PySem.Spec PyProof.Rows L2 He
/-- the head's facts, and one more look -/
def hookX (n : Nat) (fa : List Fa) (fn : List DefD) (ex : PySem.W.Frag → Bool) : PySem.W.Hook where
  α := AlD × Bool
  obs := fun s => (obsDG n fa fn s.heap.get?, ex (frG s.heap.get? (asD s.heap.get? n)))
  val := fun _ => (He.valD fn, true)
  says := fun _ h => ∃ K : PySem.W.Frag, K.In h ∧ SaysD fa fn K ∧ ex K = true
  of := fun _ _ e => ⟨_, frG_in, congrArg Prod.fst e, congrArg Prod.snd e⟩
  keeps := fun _ _ _ ⟨K, hK, c⟩ k => ⟨K, PySem.W.Frag.In.keeps hK k, c⟩
theorem hookX_eq {n : Nat} {fa : List Fa} {fn : List DefD} {ex : PySem.W.Frag → Bool} {g : Addr → Option Obj} {s : Shared} (h : ∀ a, g a = s.heap.get? a) : (obsDG n fa fn g, ex (frG g (asD g n))) = (hookX n fa fn ex).obs s := by
  have e : g = s.heap.get? := funext h
  rw [e]; rfl
def isB (D Wc : Addr) (K : PySem.W.Frag) : Bool :=
  decide (PySem.W.findIn K (.ref D) "__getattribute__" = some (some (.builtin "BaseException.__getattribute__"))) && decide (PySem.W.findIn K (.ref D) "__getattr__" = some none) && PySem.W.hasDictIn K D &&
  decide (PySem.W.findIn K (.ref D) "__class__" = some (some (.builtin "object.__class__"))) && decide (PySem.W.specialIn K (.builtin "object.__class__") "__get__" = some (some (.builtin "getset_descriptor.__get__"))) &&
  decide (PySem.W.takesIn K (.builtin "object.__class__") = some true) && decide (PySem.W.mroIn K D (.type "object") = some true) && decide (PySem.W.kitOne K (.ref D) (.ref Wc) = some true) && decide (PySem.W.subIn K (.ref D) (.type "BaseException") = some true)
theorem isB_ok {D Wc : Addr} {K : PySem.W.Frag} (h : isB D Wc K = true) : ExcC K D ∧ PySem.W.kitOne K (.ref D) (.ref Wc) = some true := by
  unfold isB at h
  simp only [Bool.and_eq_true, decide_eq_true_eq] at h
  obtain ⟨⟨⟨⟨⟨⟨⟨⟨h1, h2⟩, h3⟩, h4⟩, h5⟩, h6⟩, h7⟩, h8⟩, h9⟩ := h
  exact ⟨⟨h1, h2, h9, h3, h4, h5, h6, h7⟩, h8⟩
end Wv

set_option Elab.async false
set_option linter.all false
set_option maxRecDepth 100000
set_option maxHeartbeats 0
namespace Wv.T
open PySem Wv
def d_is_integer : Def := ⟨3, 3, (.seq (.ite (.bo false (.cons (.not_ (.isa (.var 0) .int)) (.cons (.isa (.var 0) .bool) .nil))) (.seq (.ret (.lit (.bool false)))
 .skip) .skip)
 (.seq (.ret (.bo true (.cons (.bo false (.cons (.bin .is_ (.var 1) (.lit .none)) (.cons (.bin .ge (.var 0) (.var 1)) .nil))) (.cons (.bo false (.cons (.bin .is_ (.var 2) (.lit .none)) (.cons (.bin .le (.var 0) (.var 2)) .nil))) .nil))))
 .skip))⟩
def d_common_divisor : Def := ⟨2, 2, (.seq (.wh (.var 1) (.seq (.par (.tc (.nm 0) (.tc (.nm 1) .t0)) (.cons (.var 1) (.cons (.bin .mod (.var 0) (.var 1)) .nil)))
 .skip))
 (.seq (.ret (.b1 .abs (.var 0)))
 .skip))⟩
def d_common_multiple : Def := ⟨2, 2, (.seq (.ret (.bin .mul (.bin .fdiv (.var 0) (.call 1 false (.cons (.var 0) (.cons (.var 1) .nil)))) (.var 1)))
 .skip)⟩
def d_divisors_of : Def := ⟨1, 2, (.seq (.ret (.comp (.nm 1) (.rng (.cons (.lit (.int 1)) (.cons (.bin .add (.var 0) (.lit (.int 1))) .nil))) (.cons (.bin .eq (.bin .mod (.var 0) (.var 1)) (.lit (.int 0))) .nil) (.var 1)))
 .skip)⟩
def d_power : Def := ⟨2, 5, (.seq (.par (.tc (.nm 2) (.tc (.nm 3) (.tc (.nm 4) .t0))) (.cons (.lit (.int 1)) (.cons (.var 0) (.cons (.var 1) .nil))))
 (.seq (.wh (.var 4) (.seq (.ite (.bin .mod (.var 4) (.lit (.int 2))) (.seq (.aug 2 .mul (.var 3))
 .skip) .skip)
 (.seq (.aug 4 .fdiv (.lit (.int 2)))
 (.seq (.ite (.var 4) (.seq (.aug 3 .mul (.var 3))
 .skip) .skip)
 .skip))))
 (.seq (.ret (.var 2))
 .skip)))⟩
def d_count_apart : Def := ⟨1, 2, (.seq (.ret (.b1 .len (.comp (.nm 1) (.rng (.cons (.lit (.int 1)) (.cons (.bin .add (.var 0) (.lit (.int 1))) .nil))) (.cons (.bin .eq (.call 1 false (.cons (.var 1) (.cons (.var 0) .nil))) (.lit (.int 1))) .nil) (.var 1))))
 .skip)⟩
def d_fraction : Def := ⟨2, 3, (.seq (.ite (.bin .eq (.var 1) (.lit (.int 0))) (.seq (.raise 0)
 .skip) .skip)
 (.seq (.asg (.nm 2) (.call 1 false (.cons (.var 0) (.cons (.var 1) .nil))))
 (.seq (.ite (.bin .lt (.var 1) (.lit (.int 0))) (.seq (.asg (.nm 2) (.neg (.var 2)))
 .skip) .skip)
 (.seq (.ret (.tup (.cons (.bin .fdiv (.var 0) (.var 2)) (.cons (.bin .fdiv (.var 1) (.var 2)) .nil))))
 .skip))))⟩
def d_is_fraction : Def := ⟨1, 1, (.seq (.ite (.bo false (.cons (.not_ (.isa (.var 0) .tuple)) (.cons (.bin .ne (.b1 .len (.var 0)) (.lit (.int 2))) .nil))) (.seq (.ret (.lit (.bool false)))
 .skip) .skip)
 (.seq (.ite (.bo false (.cons (.not_ (.call 0 false (.cons (.ix (.var 0) (.lit (.int 0))) (.cons (.lit .none) (.cons (.lit .none) .nil))))) (.cons (.not_ (.call 0 false (.cons (.ix (.var 0) (.lit (.int 1))) (.cons (.lit (.int 1)) (.cons (.lit .none) .nil))))) .nil))) (.seq (.ret (.lit (.bool false)))
 .skip) .skip)
 (.seq (.ret (.bin .eq (.call 1 false (.cons (.ix (.var 0) (.lit (.int 0))) (.cons (.ix (.var 0) (.lit (.int 1))) .nil))) (.lit (.int 1))))
 .skip)))⟩
def d_plus : Def := ⟨2, 2, (.seq (.ret (.call 6 false (.cons (.bin .add (.bin .mul (.ix (.var 0) (.lit (.int 0))) (.ix (.var 1) (.lit (.int 1)))) (.bin .mul (.ix (.var 1) (.lit (.int 0))) (.ix (.var 0) (.lit (.int 1))))) (.cons (.bin .mul (.ix (.var 0) (.lit (.int 1))) (.ix (.var 1) (.lit (.int 1)))) .nil))))
 .skip)⟩
def d_times : Def := ⟨2, 2, (.seq (.ret (.call 6 false (.cons (.bin .mul (.ix (.var 0) (.lit (.int 0))) (.ix (.var 1) (.lit (.int 0)))) (.cons (.bin .mul (.ix (.var 0) (.lit (.int 1))) (.ix (.var 1) (.lit (.int 1)))) .nil))))
 .skip)⟩
def d_over : Def := ⟨2, 2, (.seq (.ret (.call 6 false (.cons (.bin .mul (.ix (.var 0) (.lit (.int 0))) (.ix (.var 1) (.lit (.int 1)))) (.cons (.bin .mul (.ix (.var 0) (.lit (.int 1))) (.ix (.var 1) (.lit (.int 0)))) .nil))))
 .skip)⟩
def d_is_less : Def := ⟨2, 2, (.seq (.ret (.bin .lt (.bin .mul (.ix (.var 0) (.lit (.int 0))) (.ix (.var 1) (.lit (.int 1)))) (.bin .mul (.ix (.var 1) (.lit (.int 0))) (.ix (.var 0) (.lit (.int 1))))))
 .skip)⟩
def d_rounded_up : Def := ⟨1, 1, (.seq (.ret (.neg (.bin .fdiv (.neg (.ix (.var 0) (.lit (.int 0)))) (.ix (.var 0) (.lit (.int 1))))))
 .skip)⟩
def d__law_draw : Def := ⟨2, 6, (.seq (.ite (.bin .lt (.sget 0 0) (.var 1)) (.seq (.asg (.nm 3) (.sget 0 1))
 (.seq (.sset 0 1 (.bin .add (.var 3) (.lit (.int 1))))
 (.seq (.asg (.nm 4) (.lit (.int 0)))
 (.seq (.ite (.bin .lt (.var 3) (.slen 0)) (.seq (.asg (.nm 4) (.scell 0 3))
 .skip) .skip)
 (.seq (.ite (.bin .ge (.var 4) (.bin .pow (.lit (.int 10)) (.lit (.int 18)))) (.seq (.sset 0 0 (.var 4))
 .skip) (.seq (.sset 0 3 (.bin .mod (.b1 .int (.bin .mul (.bin .add (.bin .add (.bin .add (.sget 0 3) (.bin .mod (.b1 .int (.var 4)) (.lit (.int 2147483629)))) (.var 3)) (.lit (.int 1))) (.lit (.int 48271)))) (.lit (.int 2147483647))))
 (.seq (.asg (.nm 5) (.bin .mod (.b1 .int (.bin .add (.bin .mul (.sget 0 3) (.lit (.int 69621))) (.lit (.int 11)))) (.lit (.int 2147483629))))
 (.seq (.sset 0 0 (.bin .add (.bin .mul (.var 5) (.lit (.int 2147483647))) (.bin .mod (.b1 .int (.bin .add (.bin .mul (.var 5) (.lit (.int 30011))) (.sget 0 3))) (.lit (.int 2147483587)))))
 .skip))))
 .skip))))) .skip)
 (.seq (.asg (.nm 2) (.bin .mod (.b1 .int (.sget 0 0)) (.var 1)))
 (.seq (.sset 0 0 (.bin .fdiv (.sget 0 0) (.var 1)))
 (.seq (.ret (.var 2))
 .skip))))⟩
def d__law_common : Def := ⟨2, 2, (.seq (.wh (.bin .ne (.var 1) (.lit (.int 0))) (.seq (.par (.tc (.nm 0) (.tc (.nm 1) .t0)) (.cons (.var 1) (.cons (.bin .mod (.b1 .int (.var 0)) (.var 1)) .nil)))
 .skip))
 (.seq (.ret (.b1 .abs (.var 0)))
 .skip))⟩
def d__law_is : Def := ⟨3, 3, (.seq (.ite (.bo false (.cons (.not_ (.isa (.var 0) .tuple)) (.cons (.bin .ne (.b1 .len (.var 0)) (.lit (.int 2))) (.cons (.bin .lt (.ix (.var 0) (.lit (.int 1))) (.lit (.int 1))) (.cons (.bin .ne (.call 14 false (.cons (.ix (.var 0) (.lit (.int 0))) (.cons (.ix (.var 0) (.lit (.int 1))) .nil))) (.lit (.int 1))) .nil))))) (.seq (.ret (.lit (.bool false)))
 .skip) .skip)
 (.seq (.ret (.bin .eq (.bin .mul (.ix (.var 0) (.lit (.int 0))) (.var 2)) (.bin .mul (.var 1) (.ix (.var 0) (.lit (.int 1))))))
 .skip))⟩
def d__law_refused : Def := ⟨1, 2, (.seq (.expr (.bin .sub (.ix (.var 0) (.lit (.int 0))) (.lit (.int 1)))) (.seq (.expr (.bin .sub (.ix (.var 0) (.lit (.int 1))) (.lit (.int 1)))) (.seq (.try_ false (.call 6 false (.cons (.lit (.int 3)) (.cons (.lit (.int 0)) .nil))) [(0, .lit (.bool true))])
 (.seq (.ret (.lit (.bool false)))
 .skip))))⟩
def d_law : Def := ⟨1, 15, (.seq (.st0 1 0)
 (.seq (.asg (.nm 2) (.ix (.lst (.cons (.lit (.int 10)) (.cons (.bin .pow (.lit (.int 10)) (.lit (.int 9))) .nil))) (.draw 1 (.lit (.int 2)))))
 (.seq (.asg (.nm 3) (.bin .sub (.draw 1 (.bin .add (.bin .mul (.lit (.int 2)) (.var 2)) (.lit (.int 1)))) (.var 2)))
 (.seq (.asg (.nm 4) (.bin .mul (.bin .add (.lit (.int 1)) (.draw 1 (.var 2))) (.ix (.lst (.cons (.lit (.int 1)) (.cons (.bin .sub (.lit (.int 0)) (.lit (.int 1))) .nil))) (.draw 1 (.lit (.int 2))))))
 (.seq (.asg (.nm 5) (.bin .sub (.draw 1 (.bin .add (.bin .mul (.lit (.int 2)) (.var 2)) (.lit (.int 1)))) (.var 2)))
 (.seq (.asg (.nm 6) (.bin .add (.lit (.int 1)) (.draw 1 (.var 2))))
 (.seq (.asg (.nm 7) (.call 6 false (.cons (.var 3) (.cons (.var 4) .nil))))
 (.seq (.asg (.nm 8) (.call 6 false (.cons (.var 5) (.cons (.var 6) .nil))))
 (.seq (.ite (.bo false (.cons (.not_ (.call 15 false (.cons (.var 7) (.cons (.var 3) (.cons (.var 4) .nil))))) (.cons (.not_ (.call 15 false (.cons (.var 8) (.cons (.var 5) (.cons (.var 6) .nil))))) (.cons (.not_ (.call 16 false (.cons (.var 7) .nil))) .nil)))) (.seq (.ret (.lit (.bool false)))
 .skip) .skip)
 (.seq (.ite (.bo false (.cons (.not_ (.call 15 false (.cons (.call 8 false (.cons (.var 7) (.cons (.var 8) .nil))) (.cons (.bin .add (.bin .mul (.var 3) (.var 6)) (.bin .mul (.var 5) (.var 4))) (.cons (.bin .mul (.var 4) (.var 6)) .nil))))) (.cons (.not_ (.call 15 false (.cons (.call 9 false (.cons (.var 7) (.cons (.var 8) .nil))) (.cons (.bin .mul (.var 3) (.var 5)) (.cons (.bin .mul (.var 4) (.var 6)) .nil))))) .nil))) (.seq (.ret (.lit (.bool false)))
 .skip) .skip)
 (.seq (.ite (.bo false (.cons (.bo true (.cons (.bin .ne (.var 5) (.lit (.int 0))) (.cons (.not_ (.call 15 false (.cons (.call 10 false (.cons (.var 7) (.cons (.var 8) .nil))) (.cons (.bin .mul (.var 3) (.var 6)) (.cons (.bin .mul (.var 4) (.var 5)) .nil))))) .nil))) (.cons (.bin .ne (.call 11 false (.cons (.var 7) (.cons (.var 8) .nil))) (.bin .lt (.bin .mul (.bin .mul (.var 3) (.var 6)) (.var 4)) (.bin .mul (.bin .mul (.var 5) (.var 4)) (.var 4)))) .nil))) (.seq (.ret (.lit (.bool false)))
 .skip) .skip)
 (.seq (.asg (.nm 9) (.call 12 false (.cons (.var 7) .nil)))
 (.seq (.ite (.bo false (.cons (.not_ (.chain .lt .le (.bin .mul (.bin .sub (.var 9) (.lit (.int 1))) (.ix (.var 7) (.lit (.int 1)))) (.ix (.var 7) (.lit (.int 0))) (.bin .mul (.var 9) (.ix (.var 7) (.lit (.int 1)))))) (.cons (.isa (.var 9) .bool) .nil))) (.seq (.ret (.lit (.bool false)))
 .skip) .skip)
 (.seq (.asg (.nm 10) (.bin .add (.lit (.int 1)) (.draw 1 (.lit (.int 500)))))
 (.seq (.ite (.bo false (.cons (.bin .ne (.call 3 false (.cons (.var 10) .nil)) (.comp (.nm 13) (.rng (.cons (.lit (.int 1)) (.cons (.bin .add (.var 10) (.lit (.int 1))) .nil))) (.cons (.bin .eq (.bin .mod (.b1 .int (.var 10)) (.var 13)) (.lit (.int 0))) .nil) (.var 13))) (.cons (.bin .ne (.call 5 false (.cons (.var 10) .nil)) (.b1 .len (.comp (.nm 13) (.rng (.cons (.lit (.int 1)) (.cons (.bin .add (.var 10) (.lit (.int 1))) .nil))) (.cons (.bin .eq (.call 14 false (.cons (.var 13) (.cons (.var 10) .nil))) (.lit (.int 1))) .nil) (.var 13)))) .nil))) (.seq (.ret (.lit (.bool false)))
 .skip) .skip)
 (.seq (.asg (.nm 11) (.draw 1 (.lit (.int 21))))
 (.seq (.asg (.nm 12) (.lit (.int 1)))
 (.seq (.for_ (.nm 13) (.rng (.cons (.var 11) .nil)) (.seq (.asg (.nm 12) (.bin .mul (.var 12) (.var 3)))
 .skip))
 (.seq (.ite (.bo false (.cons (.bin .ne (.call 4 false (.cons (.var 3) (.cons (.var 11) .nil))) (.var 12)) (.cons (.bin .ne (.call 1 false (.cons (.var 3) (.cons (.var 5) .nil))) (.call 14 false (.cons (.var 3) (.cons (.var 5) .nil)))) (.cons (.bin .ne (.bin .mul (.call 2 false (.cons (.b1 .abs (.var 4)) (.cons (.var 6) .nil))) (.call 14 false (.cons (.var 4) (.cons (.var 6) .nil)))) (.bin .mul (.b1 .abs (.var 4)) (.var 6))) .nil)))) (.seq (.ret (.lit (.bool false)))
 .skip) .skip)
 (.seq (.asg (.nm 14) (.ix (.lst (.cons (.tup (.cons (.lit (.int 1)) (.cons (.lit (.int 0)) .nil))) (.cons (.tup (.cons (.lit (.int 2)) (.cons (.lit (.int 4)) .nil))) (.cons (.lst (.cons (.lit (.int 1)) (.cons (.lit (.int 2)) .nil))) (.cons (.tup (.cons (.lit (.int 1)) .nil)) (.cons (.tup (.cons (.lit (.int 1)) (.cons (.bin .sub (.lit (.int 0)) (.lit (.int 1))) .nil))) (.cons (.tup (.cons (.lit (.bool true)) (.cons (.lit (.int 1)) .nil))) (.cons (.lit .none) .nil)))))))) (.draw 1 (.lit (.int 7)))))
 (.seq (.ite (.bo false (.cons (.bin .isn (.call 7 false (.cons (.var 7) .nil)) (.lit (.bool true))) (.cons (.bin .isn (.call 7 false (.cons (.var 14) .nil)) (.lit (.bool false))) (.cons (.bin .isn (.call 0 false (.cons (.lit (.bool true)) (.cons (.lit (.int 0)) (.cons (.lit (.int 5)) .nil)))) (.lit (.bool false))) .nil)))) (.seq (.ret (.lit (.bool false)))
 .skip) .skip)
 (.seq (.ret (.bo true (.cons (.bin .is_ (.call 0 false (.cons (.var 3) (.cons (.var 3) (.cons (.var 3) .nil)))) (.lit (.bool true))) (.cons (.bin .is_ (.call 0 false (.cons (.var 3) (.cons (.bin .add (.var 3) (.lit (.int 1))) (.cons (.lit .none) .nil)))) (.lit (.bool false))) (.cons (.bin .is_ (.call 0 false (.cons (.lit (.str (Str.ofString "1"))) (.cons (.lit .none) (.cons (.lit .none) .nil)))) (.lit (.bool false))) .nil)))))
 .skip))))))))))))))))))))))⟩
def defs : List Def := [d_is_integer, d_common_divisor, d_common_multiple, d_divisors_of, d_power, d_count_apart, d_fraction, d_is_fraction, d_plus, d_times, d_over, d_is_less, d_rounded_up, d__law_draw, d__law_common, d__law_is, d__law_refused, d_law]
def consts : List PyData := []
def gt (i : Nat) : Option PyData := consts[i]?
def P (i : Nat) : Option Def := defs[i]?

open PySem.Spec PyProof.Rows L2
def top (i : Nat) : PySem.Stmt := PySem.Challenge.pw_wovenwhole_k01_numbers_for_weavers.main.body.getD i (.Pass ⟨0, 0, 0, 0⟩)
def N_is_integer : List Str := ["value", "low", "high"]
def N_common_divisor : List Str := ["one", "two"]
def N_common_multiple : List Str := ["one", "two"]
def N_divisors_of : List Str := ["number", "divisor"]
def N_power : List Str := ["base", "exponent", "found", "here", "rest"]
def N_count_apart : List Str := ["number", "one"]
def N_fraction : List Str := ["over", "under", "common"]
def N_is_fraction : List Str := ["value"]
def N_plus : List Str := ["one", "two"]
def N_times : List Str := ["one", "two"]
def N_over : List Str := ["one", "two"]
def N_is_less : List Str := ["one", "two"]
def N_rounded_up : List Str := ["one"]
def N__law_draw : List Str := ["state", "limit", "digit", "position", "cell", "mixed"]
def N__law_common : List Str := ["one", "two"]
def N__law_is : List Str := ["told", "above", "below"]
def N__law_refused : List Str := ["one", "error"]
def N_law : List Str := ["script", "state", "size", "a", "b", "c", "d", "one", "two", "up", "n", "e", "made", "k", "odd"]
def nms : List Str := ["is_integer", "common_divisor", "common_multiple", "divisors_of", "power", "count_apart", "fraction", "is_fraction", "plus", "times", "over", "is_less", "rounded_up", "_law_draw", "_law_common", "_law_is", "_law_refused", "law"]
def cns : List Str := ["NoSuch"]
def ck : Ck := ⟨[], ["is_integer", "common_divisor", "common_multiple", "divisors_of", "power", "count_apart", "fraction", "is_fraction", "plus", "times", "over", "is_less", "rounded_up", "_law_draw", "_law_common", "_law_is", "_law_refused"], [], cns, some 13⟩
def gG (K : PySem.W.Frag) : G := ⟨gt, fun i => He.ga K (nms.getD i ""), fun i => He.ga K (cns.getD i ""), [], 1⟩
theorem sc_is_integer : FnScope N_is_integer ["value", "low", "high"] (defScope (top 4)) := ⟨rfl, rfl, rfl, by decide +kernel, rfl, by decide +kernel, by decide +kernel⟩
theorem ck_is_integer : chkSs { ck with N := N_is_integer } d_is_integer.body (defScope (top 4)) (defBody (top 4)) = true := by kernel_rfl
theorem sc_common_divisor : FnScope N_common_divisor ["one", "two"] (defScope (top 5)) := ⟨rfl, rfl, rfl, by decide +kernel, rfl, by decide +kernel, by decide +kernel⟩
theorem ck_common_divisor : chkSs { ck with N := N_common_divisor } d_common_divisor.body (defScope (top 5)) (defBody (top 5)) = true := by kernel_rfl
theorem sc_common_multiple : FnScope N_common_multiple ["one", "two"] (defScope (top 6)) := ⟨rfl, rfl, rfl, by decide +kernel, rfl, by decide +kernel, by decide +kernel⟩
theorem ck_common_multiple : chkSs { ck with N := N_common_multiple } d_common_multiple.body (defScope (top 6)) (defBody (top 6)) = true := by kernel_rfl
theorem sc_divisors_of : FnScope N_divisors_of ["number"] (defScope (top 7)) := ⟨rfl, rfl, rfl, by decide +kernel, rfl, by decide +kernel, by decide +kernel⟩
theorem ck_divisors_of : chkSs { ck with N := N_divisors_of } d_divisors_of.body (defScope (top 7)) (defBody (top 7)) = true := by kernel_rfl
theorem sc_power : FnScope N_power ["base", "exponent"] (defScope (top 8)) := ⟨rfl, rfl, rfl, by decide +kernel, rfl, by decide +kernel, by decide +kernel⟩
theorem ck_power : chkSs { ck with N := N_power } d_power.body (defScope (top 8)) (defBody (top 8)) = true := by kernel_rfl
theorem sc_count_apart : FnScope N_count_apart ["number"] (defScope (top 9)) := ⟨rfl, rfl, rfl, by decide +kernel, rfl, by decide +kernel, by decide +kernel⟩
theorem ck_count_apart : chkSs { ck with N := N_count_apart } d_count_apart.body (defScope (top 9)) (defBody (top 9)) = true := by kernel_rfl
theorem sc_fraction : FnScope N_fraction ["over", "under"] (defScope (top 10)) := ⟨rfl, rfl, rfl, by decide +kernel, rfl, by decide +kernel, by decide +kernel⟩
theorem ck_fraction : chkSs { ck with N := N_fraction } d_fraction.body (defScope (top 10)) (defBody (top 10)) = true := by kernel_rfl
theorem sc_is_fraction : FnScope N_is_fraction ["value"] (defScope (top 11)) := ⟨rfl, rfl, rfl, by decide +kernel, rfl, by decide +kernel, by decide +kernel⟩
theorem ck_is_fraction : chkSs { ck with N := N_is_fraction } d_is_fraction.body (defScope (top 11)) (defBody (top 11)) = true := by kernel_rfl
theorem sc_plus : FnScope N_plus ["one", "two"] (defScope (top 12)) := ⟨rfl, rfl, rfl, by decide +kernel, rfl, by decide +kernel, by decide +kernel⟩
theorem ck_plus : chkSs { ck with N := N_plus } d_plus.body (defScope (top 12)) (defBody (top 12)) = true := by kernel_rfl
theorem sc_times : FnScope N_times ["one", "two"] (defScope (top 13)) := ⟨rfl, rfl, rfl, by decide +kernel, rfl, by decide +kernel, by decide +kernel⟩
theorem ck_times : chkSs { ck with N := N_times } d_times.body (defScope (top 13)) (defBody (top 13)) = true := by kernel_rfl
theorem sc_over : FnScope N_over ["one", "two"] (defScope (top 14)) := ⟨rfl, rfl, rfl, by decide +kernel, rfl, by decide +kernel, by decide +kernel⟩
theorem ck_over : chkSs { ck with N := N_over } d_over.body (defScope (top 14)) (defBody (top 14)) = true := by kernel_rfl
theorem sc_is_less : FnScope N_is_less ["one", "two"] (defScope (top 15)) := ⟨rfl, rfl, rfl, by decide +kernel, rfl, by decide +kernel, by decide +kernel⟩
theorem ck_is_less : chkSs { ck with N := N_is_less } d_is_less.body (defScope (top 15)) (defBody (top 15)) = true := by kernel_rfl
theorem sc_rounded_up : FnScope N_rounded_up ["one"] (defScope (top 16)) := ⟨rfl, rfl, rfl, by decide +kernel, rfl, by decide +kernel, by decide +kernel⟩
theorem ck_rounded_up : chkSs { ck with N := N_rounded_up } d_rounded_up.body (defScope (top 16)) (defBody (top 16)) = true := by kernel_rfl
theorem sc__law_draw : FnScope N__law_draw ["state", "limit"] (defScope (top 18)) := ⟨rfl, rfl, rfl, by decide +kernel, rfl, by decide +kernel, by decide +kernel⟩
theorem ck__law_draw : chkSs { ck with N := N__law_draw, fn := [], dk := none } d__law_draw.body (defScope (top 18)) (defBody (top 18)) = true := by kernel_rfl
theorem ckf__law_draw : chkSs { ck with N := N__law_draw } d__law_draw.body (defScope (top 18)) (defBody (top 18)) = true := by kernel_rfl
theorem sc__law_common : FnScope N__law_common ["one", "two"] (defScope (top 19)) := ⟨rfl, rfl, rfl, by decide +kernel, rfl, by decide +kernel, by decide +kernel⟩
theorem ck__law_common : chkSs { ck with N := N__law_common } d__law_common.body (defScope (top 19)) (defBody (top 19)) = true := by kernel_rfl
theorem sc__law_is : FnScope N__law_is ["told", "above", "below"] (defScope (top 20)) := ⟨rfl, rfl, rfl, by decide +kernel, rfl, by decide +kernel, by decide +kernel⟩
theorem ck__law_is : chkSs { ck with N := N__law_is } d__law_is.body (defScope (top 20)) (defBody (top 20)) = true := by kernel_rfl
theorem sc_law : FnScope N_law ["script"] (defScope (top 22)) := ⟨rfl, rfl, rfl, by decide +kernel, rfl, by decide +kernel, by decide +kernel⟩
def ls_0 : S := (.asg (.nm 2) (.ix (.lst (.cons (.lit (.int 10)) (.cons (.bin .pow (.lit (.int 10)) (.lit (.int 9))) .nil))) (.draw 1 (.lit (.int 2)))))
def ls_1 : S := (.asg (.nm 3) (.bin .sub (.draw 1 (.bin .add (.bin .mul (.lit (.int 2)) (.var 2)) (.lit (.int 1)))) (.var 2)))
def ls_2 : S := (.asg (.nm 4) (.bin .mul (.bin .add (.lit (.int 1)) (.draw 1 (.var 2))) (.ix (.lst (.cons (.lit (.int 1)) (.cons (.bin .sub (.lit (.int 0)) (.lit (.int 1))) .nil))) (.draw 1 (.lit (.int 2))))))
def ls_3 : S := (.asg (.nm 5) (.bin .sub (.draw 1 (.bin .add (.bin .mul (.lit (.int 2)) (.var 2)) (.lit (.int 1)))) (.var 2)))
def ls_4 : S := (.asg (.nm 6) (.bin .add (.lit (.int 1)) (.draw 1 (.var 2))))
def ls_5 : S := (.asg (.nm 7) (.call 6 false (.cons (.var 3) (.cons (.var 4) .nil))))
def ls_6 : S := (.asg (.nm 8) (.call 6 false (.cons (.var 5) (.cons (.var 6) .nil))))
def ls_7 : S := (.ite (.bo false (.cons (.not_ (.call 15 false (.cons (.var 7) (.cons (.var 3) (.cons (.var 4) .nil))))) (.cons (.not_ (.call 15 false (.cons (.var 8) (.cons (.var 5) (.cons (.var 6) .nil))))) (.cons (.not_ (.call 16 false (.cons (.var 7) .nil))) .nil)))) (.seq (.ret (.lit (.bool false)))
 .skip) .skip)
def ls_8 : S := (.ite (.bo false (.cons (.not_ (.call 15 false (.cons (.call 8 false (.cons (.var 7) (.cons (.var 8) .nil))) (.cons (.bin .add (.bin .mul (.var 3) (.var 6)) (.bin .mul (.var 5) (.var 4))) (.cons (.bin .mul (.var 4) (.var 6)) .nil))))) (.cons (.not_ (.call 15 false (.cons (.call 9 false (.cons (.var 7) (.cons (.var 8) .nil))) (.cons (.bin .mul (.var 3) (.var 5)) (.cons (.bin .mul (.var 4) (.var 6)) .nil))))) .nil))) (.seq (.ret (.lit (.bool false)))
 .skip) .skip)
def ls_9 : S := (.ite (.bo false (.cons (.bo true (.cons (.bin .ne (.var 5) (.lit (.int 0))) (.cons (.not_ (.call 15 false (.cons (.call 10 false (.cons (.var 7) (.cons (.var 8) .nil))) (.cons (.bin .mul (.var 3) (.var 6)) (.cons (.bin .mul (.var 4) (.var 5)) .nil))))) .nil))) (.cons (.bin .ne (.call 11 false (.cons (.var 7) (.cons (.var 8) .nil))) (.bin .lt (.bin .mul (.bin .mul (.var 3) (.var 6)) (.var 4)) (.bin .mul (.bin .mul (.var 5) (.var 4)) (.var 4)))) .nil))) (.seq (.ret (.lit (.bool false)))
 .skip) .skip)
def ls_10 : S := (.asg (.nm 9) (.call 12 false (.cons (.var 7) .nil)))
def ls_11 : S := (.ite (.bo false (.cons (.not_ (.chain .lt .le (.bin .mul (.bin .sub (.var 9) (.lit (.int 1))) (.ix (.var 7) (.lit (.int 1)))) (.ix (.var 7) (.lit (.int 0))) (.bin .mul (.var 9) (.ix (.var 7) (.lit (.int 1)))))) (.cons (.isa (.var 9) .bool) .nil))) (.seq (.ret (.lit (.bool false)))
 .skip) .skip)
def ls_12 : S := (.asg (.nm 10) (.bin .add (.lit (.int 1)) (.draw 1 (.lit (.int 500)))))
def ls_13 : S := (.ite (.bo false (.cons (.bin .ne (.call 3 false (.cons (.var 10) .nil)) (.comp (.nm 13) (.rng (.cons (.lit (.int 1)) (.cons (.bin .add (.var 10) (.lit (.int 1))) .nil))) (.cons (.bin .eq (.bin .mod (.b1 .int (.var 10)) (.var 13)) (.lit (.int 0))) .nil) (.var 13))) (.cons (.bin .ne (.call 5 false (.cons (.var 10) .nil)) (.b1 .len (.comp (.nm 13) (.rng (.cons (.lit (.int 1)) (.cons (.bin .add (.var 10) (.lit (.int 1))) .nil))) (.cons (.bin .eq (.call 14 false (.cons (.var 13) (.cons (.var 10) .nil))) (.lit (.int 1))) .nil) (.var 13)))) .nil))) (.seq (.ret (.lit (.bool false)))
 .skip) .skip)
def ls_14 : S := (.asg (.nm 11) (.draw 1 (.lit (.int 21))))
def ls_15 : S := (.asg (.nm 12) (.lit (.int 1)))
def ls_16 : S := (.for_ (.nm 13) (.rng (.cons (.var 11) .nil)) (.seq (.asg (.nm 12) (.bin .mul (.var 12) (.var 3)))
 .skip))
def ls_17 : S := (.ite (.bo false (.cons (.bin .ne (.call 4 false (.cons (.var 3) (.cons (.var 11) .nil))) (.var 12)) (.cons (.bin .ne (.call 1 false (.cons (.var 3) (.cons (.var 5) .nil))) (.call 14 false (.cons (.var 3) (.cons (.var 5) .nil)))) (.cons (.bin .ne (.bin .mul (.call 2 false (.cons (.b1 .abs (.var 4)) (.cons (.var 6) .nil))) (.call 14 false (.cons (.var 4) (.cons (.var 6) .nil)))) (.bin .mul (.b1 .abs (.var 4)) (.var 6))) .nil)))) (.seq (.ret (.lit (.bool false)))
 .skip) .skip)
def ls_18 : S := (.asg (.nm 14) (.ix (.lst (.cons (.tup (.cons (.lit (.int 1)) (.cons (.lit (.int 0)) .nil))) (.cons (.tup (.cons (.lit (.int 2)) (.cons (.lit (.int 4)) .nil))) (.cons (.lst (.cons (.lit (.int 1)) (.cons (.lit (.int 2)) .nil))) (.cons (.tup (.cons (.lit (.int 1)) .nil)) (.cons (.tup (.cons (.lit (.int 1)) (.cons (.bin .sub (.lit (.int 0)) (.lit (.int 1))) .nil))) (.cons (.tup (.cons (.lit (.bool true)) (.cons (.lit (.int 1)) .nil))) (.cons (.lit .none) .nil)))))))) (.draw 1 (.lit (.int 7)))))
def ls_19 : S := (.ite (.bo false (.cons (.bin .isn (.call 7 false (.cons (.var 7) .nil)) (.lit (.bool true))) (.cons (.bin .isn (.call 7 false (.cons (.var 14) .nil)) (.lit (.bool false))) (.cons (.bin .isn (.call 0 false (.cons (.lit (.bool true)) (.cons (.lit (.int 0)) (.cons (.lit (.int 5)) .nil)))) (.lit (.bool false))) .nil)))) (.seq (.ret (.lit (.bool false)))
 .skip) .skip)
def ls_20 : S := (.ret (.bo true (.cons (.bin .is_ (.call 0 false (.cons (.var 3) (.cons (.var 3) (.cons (.var 3) .nil)))) (.lit (.bool true))) (.cons (.bin .is_ (.call 0 false (.cons (.var 3) (.cons (.bin .add (.var 3) (.lit (.int 1))) (.cons (.lit .none) .nil)))) (.lit (.bool false))) (.cons (.bin .is_ (.call 0 false (.cons (.lit (.str (Str.ofString "1"))) (.cons (.lit .none) (.cons (.lit .none) .nil)))) (.lit (.bool false))) .nil)))))
def lt_21 : S := .skip
def lt_20 : S := .seq ls_20 lt_21
def lt_19 : S := .seq ls_19 lt_20
def lt_18 : S := .seq ls_18 lt_19
def lt_17 : S := .seq ls_17 lt_18
def lt_16 : S := .seq ls_16 lt_17
def lt_15 : S := .seq ls_15 lt_16
def lt_14 : S := .seq ls_14 lt_15
def lt_13 : S := .seq ls_13 lt_14
def lt_12 : S := .seq ls_12 lt_13
def lt_11 : S := .seq ls_11 lt_12
def lt_10 : S := .seq ls_10 lt_11
def lt_9 : S := .seq ls_9 lt_10
def lt_8 : S := .seq ls_8 lt_9
def lt_7 : S := .seq ls_7 lt_8
def lt_6 : S := .seq ls_6 lt_7
def lt_5 : S := .seq ls_5 lt_6
def lt_4 : S := .seq ls_4 lt_5
def lt_3 : S := .seq ls_3 lt_4
def lt_2 : S := .seq ls_2 lt_3
def lt_1 : S := .seq ls_1 lt_2
def lt_0 : S := .seq ls_0 lt_1
abbrev lawB : S := lt_0
theorem ck_law0 : chk0 { ck with N := N_law } (defScope (top 22)) 1 0 ((defBody (top 22)).headD (.Pass ⟨0, 0, 0, 0⟩)) = true := by kernel_rfl
theorem ck_law : chkSs { ck with N := N_law } lawB (defScope (top 22)) ((defBody (top 22)).tail) = true := by kernel_rfl
def h_is_integer : He.DefD := ⟨("is_integer", none), "is_integer", "is_integer", defArgs (top 4), defBody (top 4), defScope (top 4), [], []⟩
def h_common_divisor : He.DefD := ⟨("common_divisor", none), "common_divisor", "common_divisor", defArgs (top 5), defBody (top 5), defScope (top 5), [], []⟩
def h_common_multiple : He.DefD := ⟨("common_multiple", none), "common_multiple", "common_multiple", defArgs (top 6), defBody (top 6), defScope (top 6), [], []⟩
def h_divisors_of : He.DefD := ⟨("divisors_of", none), "divisors_of", "divisors_of", defArgs (top 7), defBody (top 7), defScope (top 7), [], []⟩
def h_power : He.DefD := ⟨("power", none), "power", "power", defArgs (top 8), defBody (top 8), defScope (top 8), [], []⟩
def h_count_apart : He.DefD := ⟨("count_apart", none), "count_apart", "count_apart", defArgs (top 9), defBody (top 9), defScope (top 9), [], []⟩
def h_fraction : He.DefD := ⟨("fraction", none), "fraction", "fraction", defArgs (top 10), defBody (top 10), defScope (top 10), [], []⟩
def h_is_fraction : He.DefD := ⟨("is_fraction", none), "is_fraction", "is_fraction", defArgs (top 11), defBody (top 11), defScope (top 11), [], []⟩
def h_plus : He.DefD := ⟨("plus", none), "plus", "plus", defArgs (top 12), defBody (top 12), defScope (top 12), [], []⟩
def h_times : He.DefD := ⟨("times", none), "times", "times", defArgs (top 13), defBody (top 13), defScope (top 13), [], []⟩
def h_over : He.DefD := ⟨("over", none), "over", "over", defArgs (top 14), defBody (top 14), defScope (top 14), [], []⟩
def h_is_less : He.DefD := ⟨("is_less", none), "is_less", "is_less", defArgs (top 15), defBody (top 15), defScope (top 15), [], []⟩
def h_rounded_up : He.DefD := ⟨("rounded_up", none), "rounded_up", "rounded_up", defArgs (top 16), defBody (top 16), defScope (top 16), [], []⟩
def h__law_draw : He.DefD := ⟨("_law_draw", none), "_law_draw", "_law_draw", defArgs (top 18), defBody (top 18), defScope (top 18), [], []⟩
def h__law_common : He.DefD := ⟨("_law_common", none), "_law_common", "_law_common", defArgs (top 19), defBody (top 19), defScope (top 19), [], []⟩
def h__law_is : He.DefD := ⟨("_law_is", none), "_law_is", "_law_is", defArgs (top 20), defBody (top 20), defScope (top 20), [], []⟩
def h__law_refused : He.DefD := ⟨("_law_refused", none), "_law_refused", "_law_refused", defArgs (top 21), defBody (top 21), defScope (top 21), [], []⟩
def h_law : He.DefD := ⟨("law", none), "law", "law", defArgs (top 22), defBody (top 22), defScope (top 22), [], []⟩
def fn : List He.DefD := [h_is_integer, h_common_divisor, h_common_multiple, h_divisors_of, h_power, h_count_apart, h_fraction, h_is_fraction, h_plus, h_times, h_over, h_is_less, h_rounded_up, h__law_draw, h__law_common, h__law_is, h__law_refused, h_law]
def exB (K : PySem.W.Frag) : Bool := isB (He.ga K "NoSuch") (He.ga K "WovenwholeError") K
def fa : List He.Fa := [.glo "is_integer", .glo "common_divisor", .glo "common_multiple", .glo "divisors_of", .glo "power", .glo "count_apart", .glo "fraction", .glo "is_fraction", .glo "plus", .glo "times", .glo "over", .glo "is_less", .glo "rounded_up", .glo "_law_draw", .glo "_law_common", .glo "_law_is", .glo "_law_refused", .glo "law", .glo "NoSuch", .exc "NoSuch", .exm "NoSuch" "NoSuch" true, .free "abs", .free "all", .free "any", .free "bool", .free "enumerate", .free "int", .free "isinstance", .free "len", .free "list", .free "max", .free "min", .free "range", .free "reversed", .free "set", .free "sorted", .free "str", .free "sum", .free "tuple", .free "zip", .glo "WovenwholeError"]
def loose0 : List PySem.Str := ["is_integer", "common_divisor", "common_multiple", "divisors_of", "power", "count_apart", "fraction", "is_fraction", "plus", "times", "over", "is_less", "rounded_up", "_law_draw", "_law_common", "_law_is", "_law_refused", "NoSuch", "WovenwholeError"]
def loose : List PySem.Str := loose0
abbrev R : PySem.W.OpenRow := PySem.W.OpenLaw.row PySem.Challenge.rw_wovenwhole_k01_numbers_for_weavers
abbrev hk : PySem.W.Hook := hookX 4 fa fn exB
def ob (s : PySem.W.SharedT) : He.AlD × Bool := (He.obsDG 4 fa fn (HandSHeadRun.getT s), exB (He.frG (HandSHeadRun.getT s) (He.asD (HandSHeadRun.getT s) 4)))
theorem ob_eq (s : PySem.W.SharedT) : ob s = hk.obs s.abs := hookX_eq (HandSHeadRun.getT_eq s)
theorem hrun (w : World) : HandSHeadRun.RunEq R (PySem.W.view R.prog [22]) hk ob 4000 loose w := by
  intro os
  kernel_rfl
section
variable {P0 : Program} {w : World} {K : PySem.W.Frag} {h : Heap} {mg : Str → Option Value} {base : Heap}
theorem clsOk (KX : K.In h) (G : h.Ns mainGlobals mg) (c : He.SaysD fa fn K) : ClsOk (gG K) ck K mg where
  cls := fun k x e => by
    match k, e with
    | 0, e =>
      cases e
      obtain ⟨h1, h2, h3, h4⟩ := He.exc_ok (c.fact 19 (f := .exc "NoSuch") rfl)
      exact ⟨by show 0 < 1; decide, He.glo_ok KX G (c.fact 18 (f := .glo "NoSuch") rfl), h2, ⟨_, _, _, _, PySem.F.excBase_ValueError, h1⟩, h3, h4⟩
    | k + 1, e => simp [ck, cns] at e
  exm := fun i j hi hj => by
    have hi : i < 1 := hi
    have hj : j < 1 := hj
    match i, j, hi, hj with
    | 0, 0, _, _ => exact He.exm_ok (c.fact 20 (f := .exm "NoSuch" "NoSuch" true) rfl)
    | i + 1, _, hi, _ => omega
    | _, j + 1, _, hj => omega
  frn := fun x hx => by
    have hx : x = "abs" ∨ x = "all" ∨ x = "any" ∨ x = "bool" ∨ x = "enumerate" ∨ x = "int" ∨ x = "isinstance" ∨ x = "len" ∨ x = "list" ∨ x = "max" ∨ x = "min" ∨ x = "range" ∨ x = "reversed" ∨ x = "set" ∨ x = "sorted" ∨ x = "str" ∨ x = "sum" ∨ x = "tuple" ∨ x = "zip" := by simpa [bltN] using hx
    rcases hx with rfl | rfl | rfl | rfl | rfl | rfl | rfl | rfl | rfl | rfl | rfl | rfl | rfl | rfl | rfl | rfl | rfl | rfl | rfl
    · exact He.free_ok KX G (c.fact 21 (f := .free "abs") rfl)
    · exact He.free_ok KX G (c.fact 22 (f := .free "all") rfl)
    · exact He.free_ok KX G (c.fact 23 (f := .free "any") rfl)
    · exact He.free_ok KX G (c.fact 24 (f := .free "bool") rfl)
    · exact He.free_ok KX G (c.fact 25 (f := .free "enumerate") rfl)
    · exact He.free_ok KX G (c.fact 26 (f := .free "int") rfl)
    · exact He.free_ok KX G (c.fact 27 (f := .free "isinstance") rfl)
    · exact He.free_ok KX G (c.fact 28 (f := .free "len") rfl)
    · exact He.free_ok KX G (c.fact 29 (f := .free "list") rfl)
    · exact He.free_ok KX G (c.fact 30 (f := .free "max") rfl)
    · exact He.free_ok KX G (c.fact 31 (f := .free "min") rfl)
    · exact He.free_ok KX G (c.fact 32 (f := .free "range") rfl)
    · exact He.free_ok KX G (c.fact 33 (f := .free "reversed") rfl)
    · exact He.free_ok KX G (c.fact 34 (f := .free "set") rfl)
    · exact He.free_ok KX G (c.fact 35 (f := .free "sorted") rfl)
    · exact He.free_ok KX G (c.fact 36 (f := .free "str") rfl)
    · exact He.free_ok KX G (c.fact 37 (f := .free "sum") rfl)
    · exact He.free_ok KX G (c.fact 38 (f := .free "tuple") rfl)
    · exact He.free_ok KX G (c.fact 39 (f := .free "zip") rfl)
theorem known (KX : K.In h) (G : h.Ns mainGlobals mg) (c : He.SaysD fa fn K) (hot_law_refused : ∀ fd, FunD K "_law_refused" "_law_refused" (defArgs (top 21)) (defBody (top 21)) (defScope (top 21)) [] [] (He.ga K "_law_refused") fd → ∀ m, FnOk P0 w K mg base (L2.CX P0 w) (m + 2) (He.ga K "_law_refused") fd ["one"] (spF (gG K) K w (run gt P m) 16)) : ∀ (f : Nat) (x : Str), ck.fn[f]? = some x → ∃ fd ps, Known (gG K) ck P0 w K mg base P f x fd ps := by
  intro f x e
  match f, e with
  | 0, e =>
    cases e
    obtain ⟨fd, F⟩ := c.def_ 0 (d := h_is_integer) rfl
    exact ⟨fd, ["value", "low", "high"], He.glo_ok KX G (c.fact 0 (f := .glo "is_integer") rfl), F.kp, F.bindsN fun _ _ _ _ _ _ us hl => match us, hl with | [_, _, _], _ => rfl, .inl ⟨N_is_integer, d_is_integer, rfl, ⟨⟨_, _, _, F, sc_is_integer, ck_is_integer⟩, rfl, rfl⟩⟩⟩
  | 1, e =>
    cases e
    obtain ⟨fd, F⟩ := c.def_ 1 (d := h_common_divisor) rfl
    exact ⟨fd, ["one", "two"], He.glo_ok KX G (c.fact 1 (f := .glo "common_divisor") rfl), F.kp, F.bindsN fun _ _ _ _ _ _ us hl => match us, hl with | [_, _], _ => rfl, .inl ⟨N_common_divisor, d_common_divisor, rfl, ⟨⟨_, _, _, F, sc_common_divisor, ck_common_divisor⟩, rfl, rfl⟩⟩⟩
  | 2, e =>
    cases e
    obtain ⟨fd, F⟩ := c.def_ 2 (d := h_common_multiple) rfl
    exact ⟨fd, ["one", "two"], He.glo_ok KX G (c.fact 2 (f := .glo "common_multiple") rfl), F.kp, F.bindsN fun _ _ _ _ _ _ us hl => match us, hl with | [_, _], _ => rfl, .inl ⟨N_common_multiple, d_common_multiple, rfl, ⟨⟨_, _, _, F, sc_common_multiple, ck_common_multiple⟩, rfl, rfl⟩⟩⟩
  | 3, e =>
    cases e
    obtain ⟨fd, F⟩ := c.def_ 3 (d := h_divisors_of) rfl
    exact ⟨fd, ["number"], He.glo_ok KX G (c.fact 3 (f := .glo "divisors_of") rfl), F.kp, F.bindsN fun _ _ _ _ _ _ us hl => match us, hl with | [_], _ => rfl, .inl ⟨N_divisors_of, d_divisors_of, rfl, ⟨⟨_, _, _, F, sc_divisors_of, ck_divisors_of⟩, rfl, rfl⟩⟩⟩
  | 4, e =>
    cases e
    obtain ⟨fd, F⟩ := c.def_ 4 (d := h_power) rfl
    exact ⟨fd, ["base", "exponent"], He.glo_ok KX G (c.fact 4 (f := .glo "power") rfl), F.kp, F.bindsN fun _ _ _ _ _ _ us hl => match us, hl with | [_, _], _ => rfl, .inl ⟨N_power, d_power, rfl, ⟨⟨_, _, _, F, sc_power, ck_power⟩, rfl, rfl⟩⟩⟩
  | 5, e =>
    cases e
    obtain ⟨fd, F⟩ := c.def_ 5 (d := h_count_apart) rfl
    exact ⟨fd, ["number"], He.glo_ok KX G (c.fact 5 (f := .glo "count_apart") rfl), F.kp, F.bindsN fun _ _ _ _ _ _ us hl => match us, hl with | [_], _ => rfl, .inl ⟨N_count_apart, d_count_apart, rfl, ⟨⟨_, _, _, F, sc_count_apart, ck_count_apart⟩, rfl, rfl⟩⟩⟩
  | 6, e =>
    cases e
    obtain ⟨fd, F⟩ := c.def_ 6 (d := h_fraction) rfl
    exact ⟨fd, ["over", "under"], He.glo_ok KX G (c.fact 6 (f := .glo "fraction") rfl), F.kp, F.bindsN fun _ _ _ _ _ _ us hl => match us, hl with | [_, _], _ => rfl, .inl ⟨N_fraction, d_fraction, rfl, ⟨⟨_, _, _, F, sc_fraction, ck_fraction⟩, rfl, rfl⟩⟩⟩
  | 7, e =>
    cases e
    obtain ⟨fd, F⟩ := c.def_ 7 (d := h_is_fraction) rfl
    exact ⟨fd, ["value"], He.glo_ok KX G (c.fact 7 (f := .glo "is_fraction") rfl), F.kp, F.bindsN fun _ _ _ _ _ _ us hl => match us, hl with | [_], _ => rfl, .inl ⟨N_is_fraction, d_is_fraction, rfl, ⟨⟨_, _, _, F, sc_is_fraction, ck_is_fraction⟩, rfl, rfl⟩⟩⟩
  | 8, e =>
    cases e
    obtain ⟨fd, F⟩ := c.def_ 8 (d := h_plus) rfl
    exact ⟨fd, ["one", "two"], He.glo_ok KX G (c.fact 8 (f := .glo "plus") rfl), F.kp, F.bindsN fun _ _ _ _ _ _ us hl => match us, hl with | [_, _], _ => rfl, .inl ⟨N_plus, d_plus, rfl, ⟨⟨_, _, _, F, sc_plus, ck_plus⟩, rfl, rfl⟩⟩⟩
  | 9, e =>
    cases e
    obtain ⟨fd, F⟩ := c.def_ 9 (d := h_times) rfl
    exact ⟨fd, ["one", "two"], He.glo_ok KX G (c.fact 9 (f := .glo "times") rfl), F.kp, F.bindsN fun _ _ _ _ _ _ us hl => match us, hl with | [_, _], _ => rfl, .inl ⟨N_times, d_times, rfl, ⟨⟨_, _, _, F, sc_times, ck_times⟩, rfl, rfl⟩⟩⟩
  | 10, e =>
    cases e
    obtain ⟨fd, F⟩ := c.def_ 10 (d := h_over) rfl
    exact ⟨fd, ["one", "two"], He.glo_ok KX G (c.fact 10 (f := .glo "over") rfl), F.kp, F.bindsN fun _ _ _ _ _ _ us hl => match us, hl with | [_, _], _ => rfl, .inl ⟨N_over, d_over, rfl, ⟨⟨_, _, _, F, sc_over, ck_over⟩, rfl, rfl⟩⟩⟩
  | 11, e =>
    cases e
    obtain ⟨fd, F⟩ := c.def_ 11 (d := h_is_less) rfl
    exact ⟨fd, ["one", "two"], He.glo_ok KX G (c.fact 11 (f := .glo "is_less") rfl), F.kp, F.bindsN fun _ _ _ _ _ _ us hl => match us, hl with | [_, _], _ => rfl, .inl ⟨N_is_less, d_is_less, rfl, ⟨⟨_, _, _, F, sc_is_less, ck_is_less⟩, rfl, rfl⟩⟩⟩
  | 12, e =>
    cases e
    obtain ⟨fd, F⟩ := c.def_ 12 (d := h_rounded_up) rfl
    exact ⟨fd, ["one"], He.glo_ok KX G (c.fact 12 (f := .glo "rounded_up") rfl), F.kp, F.bindsN fun _ _ _ _ _ _ us hl => match us, hl with | [_], _ => rfl, .inl ⟨N_rounded_up, d_rounded_up, rfl, ⟨⟨_, _, _, F, sc_rounded_up, ck_rounded_up⟩, rfl, rfl⟩⟩⟩
  | 13, e =>
    cases e
    obtain ⟨fd, F⟩ := c.def_ 13 (d := h__law_draw) rfl
    exact ⟨fd, ["state", "limit"], He.glo_ok KX G (c.fact 13 (f := .glo "_law_draw") rfl), F.kp, F.bindsN fun _ _ _ _ _ _ us hl => match us, hl with | [_, _], _ => rfl, .inl ⟨N__law_draw, d__law_draw, rfl, ⟨⟨_, _, _, F, sc__law_draw, ckf__law_draw⟩, rfl, rfl⟩⟩⟩
  | 14, e =>
    cases e
    obtain ⟨fd, F⟩ := c.def_ 14 (d := h__law_common) rfl
    exact ⟨fd, ["one", "two"], He.glo_ok KX G (c.fact 14 (f := .glo "_law_common") rfl), F.kp, F.bindsN fun _ _ _ _ _ _ us hl => match us, hl with | [_, _], _ => rfl, .inl ⟨N__law_common, d__law_common, rfl, ⟨⟨_, _, _, F, sc__law_common, ck__law_common⟩, rfl, rfl⟩⟩⟩
  | 15, e =>
    cases e
    obtain ⟨fd, F⟩ := c.def_ 15 (d := h__law_is) rfl
    exact ⟨fd, ["told", "above", "below"], He.glo_ok KX G (c.fact 15 (f := .glo "_law_is") rfl), F.kp, F.bindsN fun _ _ _ _ _ _ us hl => match us, hl with | [_, _, _], _ => rfl, .inl ⟨N__law_is, d__law_is, rfl, ⟨⟨_, _, _, F, sc__law_is, ck__law_is⟩, rfl, rfl⟩⟩⟩
  | 16, e =>
    cases e
    obtain ⟨fd, F⟩ := c.def_ 16 (d := h__law_refused) rfl
    exact ⟨fd, ["one"], He.glo_ok KX G (c.fact 16 (f := .glo "_law_refused") rfl), F.kp, F.bindsN fun _ _ _ _ _ _ us hl => match us, hl with | [_], _ => rfl, .inr (hot_law_refused fd F)⟩
  | f + 17, e => simp [ck] at e
end
set_option maxHeartbeats 4000000
theorem draw_eval (gt : Nat → Option PyData) (call : Nat → List Slot → M PyData) (ω : Orc) (n : Int) (ho : OrcOk ω) (h0 : 0 < n) (h1 : n < 2 ^ 64) :
    evalS gt call d__law_draw.body (entry d__law_draw [.s, .v false (.int n)]) ω = .ok (.rt (.int (drawFn ω n).1)) (drawFn ω n).2 := by
  have hm : ∀ i : Int, bop .mod (.int i) (.int n) = some (.int (i % n)) := fun i => mod_ii h0
  have hf : ∀ i : Int, bop .fdiv (.int i) (.int n) = some (.int (i / n)) := fun i => fdiv_ii h0 (by
    have := log_lt (i := n) (k := 63) (by omega)
    omega)
  have m1 : ∀ i : Int, bop .mod (.int i) (.int 2147483629) = some (.int (i % 2147483629)) := fun i => mod_ii (by decide)
  have m2 : ∀ i : Int, bop .mod (.int i) (.int 2147483647) = some (.int (i % 2147483647)) := fun i => mod_ii (by decide)
  have m3 : ∀ i : Int, bop .mod (.int i) (.int 2147483587) = some (.int (i % 2147483587)) := fun i => mod_ii (by decide)
  have u1 : ∀ i : Int, bop .mul (.int i) (.int 48271) = some (.int (i * 48271)) := fun i => mul_ii (big_r (by decide))
  have u2 : ∀ i : Int, bop .mul (.int i) (.int 69621) = some (.int (i * 69621)) := fun i => mul_ii (big_r (by decide))
  have u3 : ∀ i : Int, bop .mul (.int i) (.int 2147483647) = some (.int (i * 2147483647)) := fun i => mul_ii (big_r (by decide))
  have u4 : ∀ i : Int, bop .mul (.int i) (.int 30011) = some (.int (i * 30011)) := fun i => mul_ii (big_r (by decide))
  have ep : bop .pow (.int 10) (.int 18) = some (.int 1000000000000000000) := by kernel_rfl
  obtain ⟨a, b, scr, c⟩ := ω
  obtain ⟨hb, hc0, hc1⟩ := ho
  simp only at hb hc0 hc1
  have hb1 : 0 ≤ b + 1 := by omega
  unfold d__law_draw entry
  by_cases c1 : a < n
  case neg => simp [drawFn, frz_id, nOwn, List.replicate, c1, e_sget0, hm, hf, s_sset]
  have key : ∀ x : Int, (if b < (scr.length : Int) then scr.getD b.toNat 0 else 0) = x → (drawFn ⟨a, b, scr, c⟩ n) = (if x ≥ 10 ^ 18 then (x % n, ⟨x / n, b + 1, scr, c⟩) else
      ((((((c + x % 2147483629 + b + 1) * 48271) % 2147483647 * 69621 + 11) % 2147483629) * 2147483647 + (((((c + x % 2147483629 + b + 1) * 48271) % 2147483647 * 69621 + 11) % 2147483629) * 30011 + ((c + x % 2147483629 + b + 1) * 48271) % 2147483647) % 2147483587) % n,
       ⟨(((((c + x % 2147483629 + b + 1) * 48271) % 2147483647 * 69621 + 11) % 2147483629) * 2147483647 + (((((c + x % 2147483629 + b + 1) * 48271) % 2147483647 * 69621 + 11) % 2147483629) * 30011 + ((c + x % 2147483629 + b + 1) * 48271) % 2147483647) % 2147483587) / n, b + 1, scr, ((c + x % 2147483629 + b + 1) * 48271) % 2147483647⟩)) := by
    intro x hx
    unfold drawFn
    simp only [c1, if_true, hx]
    by_cases h : x ≥ 10 ^ 18
    · simp only [h, if_true]
    · simp only [h, if_false]
  have fin : ∀ x : Int, (if b < (scr.length : Int) then scr.getD b.toNat 0 else 0) = x → (b < (scr.length : Int) → L2.atI scr b = some x) → (¬ b < (scr.length : Int) → x = 0) →
      evalS gt call (Def.body ⟨2, 6, d__law_draw.body⟩) [.s, .v false (.int n), .un, .un, .un, .un] ⟨a, b, scr, c⟩ = .ok (.rt (.int (drawFn ⟨a, b, scr, c⟩ n).1)) (drawFn ⟨a, b, scr, c⟩ n).2 := by
    intro x hx h1 h2
    rw [key x hx]
    have q0 := Int.emod_nonneg ((c + x % 2147483629 + b + 1) * 48271) (show (2147483647 : Int) ≠ 0 by decide)
    have q1 := Int.emod_lt_of_pos ((c + x % 2147483629 + b + 1) * 48271) (show (0 : Int) < 2147483647 by decide)
    have q2 : (c + x % 2147483629 + b + 1) * 48271 % 2147483647 < 2147483648 := by omega
    unfold d__law_draw
    by_cases c2 : b < (scr.length : Int)
    · by_cases c3 : x ≥ 10 ^ 18
      · have c3' : (1000000000000000000 : Int) ≤ x := c3
        simp [frz_id, nOwn, c1, c2, c3', e_sget0, e_sget1, e_slen, e_scell, kCell, h1 c2, hm, hf, s_sset, kSs_1 hb1, ep]
      · have c3' : ¬ (1000000000000000000 : Int) ≤ x := c3
        simp [frz_id, nOwn, c1, c2, c3', e_sget0, e_sget1, e_sget3, e_slen, e_scell, kCell, h1 c2, hm, hf, m1, m2, m3, u1, u2, u3, u4, s_sset, kSs_1 hb1, kSs_3 q0 q2, ep]
    · have hx0 := h2 c2
      subst hx0
      have e0 : c + 0 % 2147483629 + b + 1 = c + b + 1 := by omega
      rw [e0] at q0 q2
      simp [frz_id, nOwn, c1, c2, e_sget0, e_sget1, e_sget3, e_slen, hm, hf, m1, m2, m3, u1, u2, u3, u4, s_sset, kSs_1 hb1, kSs_3 q0 q2, ep]
  refine fin _ rfl (fun h => ?_) (fun h => if_neg h)
  rw [if_pos h]
  exact atI_at hb h

end Wv.T

set_option autoImplicit false
set_option linter.all false
set_option maxRecDepth 100000
set_option maxHeartbeats 1000000
set_option exponentiation.threshold 4000
namespace Wv.T
open PySem Wv
abbrev C (n : Nat) := run gt P n
theorem fuel_ge : (10 : Nat) ^ 100 ≤ whFuel := Nat.pow_le_pow_right (by decide) (by decide)
theorem mod_ij {i j : Int} (h : j ≠ 0) : bop .mod (.int i) (.int j) = some (.int (i.fmod j)) := by
  show gO (decide (j ≠ 0)) _ = _
  rw [decide_eq_true h]; rfl
theorem fdiv_ij {i j : Int} (h : j ≠ 0) (hb : j.natAbs < 10 ^ 60) : bop .fdiv (.int i) (.int j) = some (.int (i.fdiv j)) := by
  show gO (divOk j) _ = _
  have hl : j.natAbs.log2 ≤ 200 := log_lt (Nat.lt_of_lt_of_le hb (by decide))
  have : divOk j = true := by
    unfold divOk
    rw [decide_eq_true h, decide_eq_true (show j.natAbs.log2 < 8000 by omega)]; rfl
  rw [this]; rfl
theorem mul_ij {i j : Int} (hi : i.natAbs < 10 ^ 60) (hj : j.natAbs < 10 ^ 60) : bop .mul (.int i) (.int j) = some (.int (i * j)) :=
  mul_ii (big_of (a := 200) (b := 200) (Nat.lt_of_lt_of_le hi (by decide)) (Nat.lt_of_lt_of_le hj (by decide)) (by decide))
theorem fmod_abs {i j : Int} (h : j ≠ 0) : (i.fmod j).natAbs < j.natAbs := by
  rw [Int.fmod_eq_emod]
  have h1 := Int.emod_nonneg i h
  have h2 := Int.emod_lt i h
  split
  · omega
  · rename_i hn
    have : ¬ (j ∣ i) := fun z => hn (.inr z)
    have h3 : i % j ≠ 0 := fun z => this (Int.dvd_of_emod_eq_zero z)
    omega
theorem gcd_fmod (i j : Int) : Int.gcd j (i.fmod j) = Int.gcd i j := by
  rw [Int.fmod_def, Int.gcd_sub_mul_left_right, Int.gcd_comm]
theorem gcd_loop (n : Nat) (ω : Orc) : ∀ (k : Nat) (x y : Int), y.natAbs < k → ∀ m, k ≤ m → ∃ z, wLoop gt (C n) (.var 1) (match d_common_divisor.body with | .seq (.wh _ b) _ => b | s => s) m [.v false (.int x), .v false (.int y)] ω = .ok (.nx [.v false (.int z), .v false (.int 0)]) ω ∧ z.natAbs = Int.gcd x y
  | 0, x, y, h, m, hm => by omega
  | k + 1, x, y, h, m, hm => by
    obtain ⟨m, rfl⟩ : ∃ m', m = m' + 1 := ⟨m - 1, by omega⟩
    rw [wLoop_succ]
    by_cases hy : y = 0
    · subst hy
      exact ⟨x, by simp [frz_id, nOwn], by simp⟩
    · obtain ⟨z, h1, h2⟩ := gcd_loop n ω k y (x.fmod y) (by have := fmod_abs (i := x) hy; omega) m (by omega)
      refine ⟨z, ?_, by rw [h2, gcd_fmod]⟩
      rw [← h1]
      have hb : (y != 0) = true := by simpa using hy
      unfold d_common_divisor
      simp [frz_id, nOwn, s_par, mod_ij hy, hb]
theorem gcd_loop2 (n : Nat) (ω : Orc) : ∀ (k : Nat) (x y : Int), y.natAbs < k → ∀ m, k ≤ m → ∃ z, wLoop gt (C n) (.bin .ne (.var 1) (.lit (.int 0))) (match d__law_common.body with | .seq (.wh _ b) _ => b | s => s) m [.v false (.int x), .v false (.int y)] ω = .ok (.nx [.v false (.int z), .v false (.int 0)]) ω ∧ z.natAbs = Int.gcd x y
  | 0, x, y, h, m, hm => by omega
  | k + 1, x, y, h, m, hm => by
    obtain ⟨m, rfl⟩ : ∃ m', m = m' + 1 := ⟨m - 1, by omega⟩
    rw [wLoop_succ]
    by_cases hy : y = 0
    · subst hy
      exact ⟨x, by simp [frz_id, nOwn], by simp⟩
    · obtain ⟨z, h1, h2⟩ := gcd_loop2 n ω k y (x.fmod y) (by have := fmod_abs (i := x) hy; omega) m (by omega)
      refine ⟨z, ?_, by rw [h2, gcd_fmod]⟩
      rw [← h1]
      unfold d__law_common
      simp [frz_id, nOwn, s_par, mod_ij hy, hy]
theorem abs_gcd {z : Int} {g : Nat} (h : z.natAbs = g) : (if z < 0 then -z else z) = (g : Int) := by
  split <;> omega
abbrev I (i : Int) : Slot := .v false (.int i)
theorem c_gcd {n : Nat} {x y : Int} {ω : Orc} (hy : y.natAbs < 10 ^ 60) : C (n + 1) 1 [I x, I y] ω = .ok (.int (Int.gcd x y)) ω := by
  rw [C, run_at (d := d_common_divisor) rfl rfl]
  obtain ⟨z, h1, h2⟩ := gcd_loop n ω (10 ^ 100) x y (Nat.lt_of_lt_of_le hy (by decide)) whFuel fuel_ge
  have e : evalS gt (C n) (.wh (.var 1) (match d_common_divisor.body with | .seq (.wh _ b) _ => b | s => s)) (entry d_common_divisor [I x, I y]) ω = .ok (.nx [I z, I 0]) ω := by
    rw [s_wh]; exact h1
  have eb : d_common_divisor.body = .seq (.wh (.var 1) (match d_common_divisor.body with | .seq (.wh _ b) _ => b | s => s)) (.seq (.ret (.b1 .abs (.var 0))) .skip) := rfl
  rw [eb, s_seq, e]
  simp [frz_id, nOwn, abs_gcd h2]
theorem c_common {n : Nat} {x y : Int} {ω : Orc} (hy : y.natAbs < 10 ^ 60) : C (n + 1) 14 [I x, I y] ω = .ok (.int (Int.gcd x y)) ω := by
  rw [C, run_at (d := d__law_common) rfl rfl]
  obtain ⟨z, h1, h2⟩ := gcd_loop2 n ω (10 ^ 100) x y (Nat.lt_of_lt_of_le hy (by decide)) whFuel fuel_ge
  have e : evalS gt (C n) (.wh (.bin .ne (.var 1) (.lit (.int 0))) (match d__law_common.body with | .seq (.wh _ b) _ => b | s => s)) (entry d__law_common [I x, I y]) ω = .ok (.nx [I z, I 0]) ω := by
    rw [s_wh]; exact h1
  have eb : d__law_common.body = .seq (.wh (.bin .ne (.var 1) (.lit (.int 0))) (match d__law_common.body with | .seq (.wh _ b) _ => b | s => s)) (.seq (.ret (.b1 .abs (.var 0))) .skip) := rfl
  rw [eb, s_seq, e]
  simp [frz_id, nOwn, abs_gcd h2]
/-- a fraction -/
def fr (a b : Int) : Int × Int := if b < 0 then (a.fdiv (-(Int.gcd a b : Int)), b.fdiv (-(Int.gcd a b : Int))) else (a.fdiv (Int.gcd a b : Int), b.fdiv (Int.gcd a b : Int))
abbrev F (p : Int × Int) : PyData := .tuple [.int p.1, .int p.2]
theorem gcd_lt {a b : Int} {k : Nat} (hb : b ≠ 0) (h : b.natAbs < k) : Int.gcd a b < k := by
  have := Nat.le_of_dvd (by omega) (Int.natAbs_dvd_natAbs.mpr (Int.gcd_dvd_right a b))
  simp at this
  omega
theorem c_frac {n : Nat} {a b : Int} {ω : Orc} (hb : b ≠ 0) (h : b.natAbs < 10 ^ 60) : C (n + 2) 6 [I a, I b] ω = .ok (F (fr a b)) ω := by
  rw [C, run_at (d := d_fraction) rfl rfl]
  have hg : 0 < Int.gcd a b := Int.gcd_pos_of_ne_zero_right a hb
  have hgl := gcd_lt (a := a) hb h
  have hgc := c_gcd (n := n) (x := a) (y := b) (ω := ω) h
  unfold d_fraction entry fr
  by_cases hn : b < 0
  · have d1 : ∀ i : Int, bop .fdiv (.int i) (.int (-(Int.gcd a b : Int))) = some (.int (i.fdiv (-(Int.gcd a b : Int)))) := fun i => fdiv_ij (by omega) (by omega)
    simp [frz_id, nOwn, hb, hn, hgc, d1, I]
  · have d1 : ∀ i : Int, bop .fdiv (.int i) (.int (Int.gcd a b : Int)) = some (.int (i.fdiv (Int.gcd a b : Int))) := fun i => fdiv_ij (by omega) (by omega)
    simp [frz_id, nOwn, hb, hn, hgc, d1, I]
/-- what a fraction is -/
theorem fr_spec {a b : Int} (hb : b ≠ 0) : (fr a b).1 * b = a * (fr a b).2 ∧ 1 ≤ (fr a b).2 ∧ Int.gcd (fr a b).1 (fr a b).2 = 1 ∧ (fr a b).1.natAbs ≤ a.natAbs ∧ (fr a b).2.natAbs ≤ b.natAbs := by
  have hg : 0 < Int.gcd a b := Int.gcd_pos_of_ne_zero_right a hb
  have da := Int.gcd_dvd_left a b
  have db := Int.gcd_dvd_right a b
  have g1 := Int.gcd_ediv_gcd_ediv_gcd (i := a) (j := b) hg
  have ea := Int.ediv_mul_cancel da
  have eb := Int.ediv_mul_cancel db
  have key : ∀ p q : Int, p * (Int.gcd a b : Int) = a → q * (Int.gcd a b : Int) = b → p * b = a * q ∧ p.natAbs ≤ a.natAbs ∧ q.natAbs ≤ b.natAbs := by
    intro p q h1 h2
    refine ⟨?_, ?_, ?_⟩
    · grind
    · rw [← h1, Int.natAbs_mul]; exact Nat.le_mul_of_pos_right _ (by simpa using hg)
    · rw [← h2, Int.natAbs_mul]; exact Nat.le_mul_of_pos_right _ (by simpa using hg)
  have h1 := key _ _ ea eb
  unfold fr
  by_cases hn : b < 0
  · rw [if_pos hn]
    have f1 : a.fdiv (-(Int.gcd a b : Int)) = -(a / (Int.gcd a b : Int)) := by rw [Int.fdiv_eq_ediv_of_dvd (Int.neg_dvd.mpr da), Int.ediv_neg]
    have f2 : b.fdiv (-(Int.gcd a b : Int)) = -(b / (Int.gcd a b : Int)) := by rw [Int.fdiv_eq_ediv_of_dvd (Int.neg_dvd.mpr db), Int.ediv_neg]
    rw [f1, f2]
    refine ⟨by have := h1.1; grind, ?_, by rw [Int.gcd_neg, Int.neg_gcd]; exact g1, by have := h1.2.1; omega, by have := h1.2.2; omega⟩
    have : b / (Int.gcd a b : Int) < 0 := by
      have : ¬ 0 ≤ b / (Int.gcd a b : Int) := fun z => by
        have := Int.mul_nonneg z (Int.natCast_nonneg (Int.gcd a b))
        omega
      omega
    show 1 ≤ -(b / (Int.gcd a b : Int))
    omega
  · rw [if_neg hn]
    have f1 : a.fdiv (Int.gcd a b : Int) = a / (Int.gcd a b : Int) := Int.fdiv_eq_ediv_of_dvd da
    have f2 : b.fdiv (Int.gcd a b : Int) = b / (Int.gcd a b : Int) := Int.fdiv_eq_ediv_of_dvd db
    rw [f1, f2]
    refine ⟨h1.1, ?_, g1, h1.2.1, h1.2.2⟩
    have : 0 ≤ b / (Int.gcd a b : Int) := Int.ediv_nonneg (by omega) (Int.natCast_nonneg _)
    have : b / (Int.gcd a b : Int) ≠ 0 := fun z => by rw [z] at eb; omega
    show 1 ≤ b / (Int.gcd a b : Int)
    omega
theorem shp_t2 {a b : Int} : shp (F (a, b)) = true := by
  unfold shp SeqAt.shaped
  simp [PyData.canLay0, PyData.canLayAll0, PyData.depth, PyData.depthAll]
@[simp] theorem len_t (xs : List PyData) : p1 .len (.tuple xs) = some (.int xs.length) := rfl
@[simp] theorem ix_0 (a b : PyData) : ixD (.tuple [a, b]) (.int 0) = some a := rfl
@[simp] theorem ix_1 (a b : PyData) : ixD (.tuple [a, b]) (.int 1) = some b := rfl
@[simp] theorem isaO_t (xs : List PyData) : isaO .tuple (.tuple xs) = some (.bool true) := rfl
abbrev Fs (p : Int × Int) : Slot := .v false (F p)
/-- told is above / below, in least terms -/
def isFr (p : Int × Int) (a b : Int) : Prop := 1 ≤ p.2 ∧ Int.gcd p.1 p.2 = 1 ∧ p.1 * b = a * p.2
theorem c_is {n : Nat} {p : Int × Int} {a b : Int} {ω : Orc} (h : isFr p a b) (h1 : p.1.natAbs < 10 ^ 60) (h2 : p.2.natAbs < 10 ^ 60) (h3 : a.natAbs < 10 ^ 60) (h4 : b.natAbs < 10 ^ 60) : C (n + 2) 15 [Fs p, I a, I b] ω = .ok (.bool true) ω := by
  rw [C, run_at (d := d__law_is) rfl rfl]
  obtain ⟨e1, e2, e3⟩ := h
  have hg := c_common (n := n) (x := p.1) (y := p.2) (ω := ω) h2
  rw [e2] at hg
  have e1' : ¬ p.2 < 1 := by omega
  unfold d__law_is entry
  simp [frz_id, nOwn, hg, e1', mul_ij h1 h4, mul_ij h3 h2, e3]

theorem bm {i j : Int} {m k : Nat} (hi : i.natAbs ≤ m) (hj : j.natAbs ≤ k) : (i * j).natAbs ≤ m * k := by
  rw [Int.natAbs_mul]; exact Nat.mul_le_mul hi hj
abbrev B1 : Nat := 10 ^ 10
structure Sm (p : Int × Int) : Prop where
  a : p.1.natAbs ≤ B1
  b : p.2.natAbs ≤ B1
theorem c_plus {n : Nat} {p q : Int × Int} {ω : Orc} (hp : Sm p) (hq : Sm q) (h1 : 1 ≤ p.2) (h2 : 1 ≤ q.2) : C (n + 3) 8 [Fs p, Fs q] ω = .ok (F (fr (p.1 * q.2 + q.1 * p.2) (p.2 * q.2))) ω := by
  rw [C, run_at (d := d_plus) rfl rfl]
  have b1 := bm hp.1 hq.2
  have b2 := bm hq.1 hp.2
  have b3 := bm hp.2 hq.2
  have hpos : p.2 * q.2 ≠ 0 := by
    have := Int.mul_pos (show 0 < p.2 by omega) (show 0 < q.2 by omega)
    omega
  have e := c_frac (n := n) (a := p.1 * q.2 + q.1 * p.2) (b := p.2 * q.2) (ω := ω) hpos (Nat.lt_of_le_of_lt b3 (by decide))
  have l : ∀ {i : Int}, i.natAbs ≤ B1 → i.natAbs < 10 ^ 60 := fun h => Nat.lt_of_le_of_lt h (by decide)
  unfold d_plus entry
  simp [frz_id, nOwn, mul_ij (l hp.1) (l hq.2), mul_ij (l hq.1) (l hp.2), mul_ij (l hp.2) (l hq.2), e, I]
theorem c_times {n : Nat} {p q : Int × Int} {ω : Orc} (hp : Sm p) (hq : Sm q) (h1 : 1 ≤ p.2) (h2 : 1 ≤ q.2) : C (n + 3) 9 [Fs p, Fs q] ω = .ok (F (fr (p.1 * q.1) (p.2 * q.2))) ω := by
  rw [C, run_at (d := d_times) rfl rfl]
  have b3 := bm hp.2 hq.2
  have hpos : p.2 * q.2 ≠ 0 := by
    have := Int.mul_pos (show 0 < p.2 by omega) (show 0 < q.2 by omega)
    omega
  have e := c_frac (n := n) (a := p.1 * q.1) (b := p.2 * q.2) (ω := ω) hpos (Nat.lt_of_le_of_lt b3 (by decide))
  have l : ∀ {i : Int}, i.natAbs ≤ B1 → i.natAbs < 10 ^ 60 := fun h => Nat.lt_of_le_of_lt h (by decide)
  unfold d_times entry
  simp [frz_id, nOwn, mul_ij (l hp.1) (l hq.1), mul_ij (l hp.2) (l hq.2), e, I]
theorem c_over {n : Nat} {p q : Int × Int} {ω : Orc} (hp : Sm p) (hq : Sm q) (h1 : 1 ≤ p.2) (h2 : q.1 ≠ 0) : C (n + 3) 10 [Fs p, Fs q] ω = .ok (F (fr (p.1 * q.2) (p.2 * q.1))) ω := by
  rw [C, run_at (d := d_over) rfl rfl]
  have b3 := bm hp.2 hq.1
  have hpos : p.2 * q.1 ≠ 0 := Int.mul_ne_zero (by omega) h2
  have e := c_frac (n := n) (a := p.1 * q.2) (b := p.2 * q.1) (ω := ω) hpos (Nat.lt_of_le_of_lt b3 (by decide))
  have l : ∀ {i : Int}, i.natAbs ≤ B1 → i.natAbs < 10 ^ 60 := fun h => Nat.lt_of_le_of_lt h (by decide)
  unfold d_over entry
  simp [frz_id, nOwn, mul_ij (l hp.1) (l hq.2), mul_ij (l hp.2) (l hq.1), e, I]
theorem c_less {n : Nat} {p q : Int × Int} {ω : Orc} (hp : Sm p) (hq : Sm q) : C (n + 1) 11 [Fs p, Fs q] ω = .ok (.bool (decide (p.1 * q.2 < q.1 * p.2))) ω := by
  rw [C, run_at (d := d_is_less) rfl rfl]
  have l : ∀ {i : Int}, i.natAbs ≤ B1 → i.natAbs < 10 ^ 60 := fun h => Nat.lt_of_le_of_lt h (by decide)
  unfold d_is_less entry
  simp [frz_id, nOwn, mul_ij (l hp.1) (l hq.2), mul_ij (l hq.1) (l hp.2)]
theorem c_up {n : Nat} {p : Int × Int} {ω : Orc} (hp : Sm p) (h1 : 1 ≤ p.2) : C (n + 1) 12 [Fs p] ω = .ok (.int (-((-p.1) / p.2))) ω := by
  rw [C, run_at (d := d_rounded_up) rfl rfl]
  have e : bop .fdiv (.int (-p.1)) (.int p.2) = some (.int (-p.1 / p.2)) := fdiv_ii (by omega) (by
    have := log_lt (i := p.2) (k := 100) (Nat.lt_of_le_of_lt hp.2 (by decide))
    omega)
  unfold d_rounded_up entry
  simp [frz_id, nOwn, e]
theorem range_len (n : Nat) (lo c : Int) : (rangeD lo n c).length = n := rangeD_len n lo c
theorem mem_range {n : Nat} {lo : Int} {x : PyData} (h : x ∈ rangeD lo n 1) : ∃ j, x = .int j ∧ lo ≤ j ∧ j < lo + n := by
  obtain ⟨i, hi⟩ := List.getElem?_of_mem h
  obtain ⟨h2, rfl⟩ := rangeD_get _ _ _ _ _ hi
  exact ⟨_, rfl, by omega, by omega⟩
def gDiv (k : Int) : PyData → Option PyData
  | .int i => if k % i = 0 then some (.int i) else none
  | _ => none
def gApart (k : Int) : PyData → Option PyData
  | .int i => if Int.gcd i k = 1 then some (.int i) else none
  | _ => none
theorem rng_k {k : Int} (h0 : 1 ≤ k) (h1 : k ≤ 1000) : rngD [.int 1, .int (k + 1)] = some (.list (rangeD 1 k.toNat 1)) := by
  have := rng2 (a := 1) (b := k + 1) (by omega) (by omega) (by omega) (by omega) (by omega)
  rw [this, show k + 1 - 1 = k by omega]
theorem c_divs {n : Nat} {k : Int} {ω : Orc} (h0 : 1 ≤ k) (h1 : k ≤ 1000) : C (n + 1) 3 [I k] ω = .ok (.list ((rangeD 1 k.toNat 1).filterMap (gDiv k))) ω := by
  rw [C, run_at (d := d_divisors_of) rfl rfl]
  unfold d_divisors_of entry
  have hc := comp_at (gt := gt) (call := run gt P n) (ρ := [I k, .un]) (ω := ω) (t := .nm 1) (it := .rng (.cons (.lit (.int 1)) (.cons (.bin .add (.var 0) (.lit (.int 1))) .nil))) (ts := .cons (.bin .eq (.bin .mod (.var 0) (.var 1)) (.lit (.int 0))) .nil) (e := .var 1)
    (d := .list (rangeD 1 k.toNat 1)) (xs := rangeD 1 k.toNat 1) (g := gDiv k) (by simp [rng_k h0 h1]) rfl (by rw [range_len]; omega) (fun x hx => by
      obtain ⟨j, rfl, h2, h3⟩ := mem_range hx
      rw [cBody_nm]
      by_cases hz : k % j = 0
      · simp [clr, tgS, mod_ii (show 0 < j by omega), hz, gDiv]
      · simp [clr, tgS, mod_ii (show 0 < j by omega), hz, gDiv])
  simp [frz_id, nOwn, hc]
theorem c_apart {n : Nat} {k : Int} {ω : Orc} (h0 : 1 ≤ k) (h1 : k ≤ 1000) : C (n + 2) 5 [I k] ω = .ok (.int ((rangeD 1 k.toNat 1).filterMap (gApart k)).length) ω := by
  rw [C, run_at (d := d_count_apart) rfl rfl]
  unfold d_count_apart entry
  have hc := comp_at (gt := gt) (call := run gt P (n + 1)) (ρ := [I k, .un]) (ω := ω) (t := .nm 1) (it := .rng (.cons (.lit (.int 1)) (.cons (.bin .add (.var 0) (.lit (.int 1))) .nil))) (ts := .cons (.bin .eq (.call 1 false (.cons (.var 1) (.cons (.var 0) .nil))) (.lit (.int 1))) .nil) (e := .var 1)
    (d := .list (rangeD 1 k.toNat 1)) (xs := rangeD 1 k.toNat 1) (g := gApart k) (by simp [rng_k h0 h1]) rfl (by rw [range_len]; omega) (fun x hx => by
      obtain ⟨j, rfl, h2, h3⟩ := mem_range hx
      rw [cBody_nm]
      have hg := c_gcd (n := n) (x := j) (y := k) (ω := ω) (Nat.lt_of_lt_of_le (show k.natAbs < 1001 by omega) (by decide))
      by_cases hz : Int.gcd j k = 1
      · rw [hz] at hg
        simp [clr, tgS, hg, hz, gApart]
      · have hz' : ¬ ((Int.gcd j k : Nat) : Int) = 1 := by omega
        simp [clr, tgS, hg, hz, hz', gApart])
  have hl : ∀ xs : List PyData, p1 .len (.list xs) = some (.int xs.length) := fun _ => rfl
  simp [frz_id, nOwn, hc, hl]
/-! powers -/
abbrev pB : S := match d_power.body with
  | .seq _ (.seq (.wh _ b) _) => b
  | s => s
theorem big2 {i j : Int} {u w : Nat} (hi : i.natAbs ≤ 2 ^ (32 * u)) (hj : j.natAbs ≤ 2 ^ (32 * w)) (hu : u ≤ 1000) (hw : w ≤ 1000) : bop .mul (.int i) (.int j) = some (.int (i * j)) :=
  mul_ii (big_of (a := 32 * u) (b := 32 * w) (Nat.lt_of_le_of_lt hi (Nat.pow_lt_pow_right (by decide) (by omega))) (Nat.lt_of_le_of_lt hj (Nat.pow_lt_pow_right (by decide) (by omega))) (by omega))
theorem pow_loop (n : Nat) (ω : Orc) (b x : Int) : ∀ (k r u w : Nat) (made sq : Int), r < k → made.natAbs ≤ 2 ^ (32 * u) → sq.natAbs ≤ 2 ^ (32 * w) → u + w * r ≤ 1000 → ∀ m, k ≤ m → ∃ s', wLoop gt (C n) (.var 4) pB m [I b, I x, I made, I sq, I (r : Nat)] ω = .ok (.nx [I b, I x, I (made * sq ^ r), I s', I 0]) ω
  | 0, r, u, w, made, sq, h, _, _, _, m, hm => by omega
  | k + 1, r, u, w, made, sq, h, hu, hw, hs, m, hm => by
    obtain ⟨m, rfl⟩ : ∃ m', m = m' + 1 := ⟨m - 1, by omega⟩
    rw [wLoop_succ]
    by_cases hr : r = 0
    · subst hr
      exact ⟨sq, by simp [frz_id, nOwn]⟩
    have hb : (((r : Nat) : Int) != 0) = true := by simpa using hr
    have w1 : w ≤ 1000 := by
      have : w * 1 ≤ w * r := Nat.mul_le_mul_left _ (by omega)
      omega
    have u1 : u ≤ 1000 := by omega
    have sqb : (sq * sq).natAbs ≤ 2 ^ (32 * (2 * w)) := by
      have := bm hw hw
      rw [← Nat.pow_add] at this
      rw [show 32 * (2 * w) = 32 * w + 32 * w by omega]; exact this
    have mub : (made * sq).natAbs ≤ 2 ^ (32 * (u + w)) := by
      have := bm hu hw
      rw [← Nat.pow_add] at this
      rw [show 32 * (u + w) = 32 * u + 32 * w by omega]; exact this
    have ms := big2 hu hw u1 w1
    have ss := big2 hw hw w1 w1
    have s2 : sq ^ 2 = sq * sq := by rw [Int.pow_succ, Int.pow_succ]; simp
    have m2 : ∀ r : Nat, bop .mod (.int (r : Nat)) (.int 2) = some (.int ((r % 2 : Nat) : Int)) := fun r => by rw [mod_ii (by decide)]; rfl
    have f2 : ∀ r : Nat, bop .fdiv (.int (r : Nat)) (.int 2) = some (.int ((r / 2 : Nat) : Int)) := fun r => by rw [fdiv_ii (by decide) (by decide)]; rfl
    have hm2 := m2 r
    have hf2 := f2 r
    obtain ⟨q, hq⟩ : ∃ q, r = 2 * q ∨ r = 2 * q + 1 := ⟨r / 2, by omega⟩
    rcases hq with rfl | rfl
    · rw [show 2 * q % 2 = 0 by omega] at hm2
      rw [show 2 * q / 2 = q by omega] at hf2
      have q0 : ((q : Int) != 0) = true := by simp; omega
      have hw2 : u + 2 * w * q ≤ 1000 := by
        have : w * (2 * q) = 2 * w * q := by rw [Nat.mul_comm 2 w, Nat.mul_assoc]
        omega
      obtain ⟨s', e⟩ := pow_loop n ω b x k q u (2 * w) made (sq * sq) (by omega) hu sqb hw2 m (by omega)
      refine ⟨s', ?_⟩
      rw [Int.pow_mul, s2, ← e]
      have z0 : ((0 : Nat) : Int) = 0 := rfl
      rw [z0] at hm2
      clear e hs hw2 h hr
      generalize ((2 * q : Nat) : Int) = ri at *
      unfold pB d_power
      simp [frz_id, nOwn, hm2, hf2, q0, hb, s_aug (x := made), s_aug (x := ri), s_aug (x := sq), ss]
    · rw [show (2 * q + 1) % 2 = 1 by omega] at hm2
      rw [show (2 * q + 1) / 2 = q by omega] at hf2
      have z1 : ((1 : Nat) : Int) = 1 := rfl
      rw [z1] at hm2
      have hwq : w * (2 * q + 1) = 2 * w * q + w := by rw [Nat.mul_add, Nat.mul_comm 2 w, Nat.mul_assoc]; omega
      have ep : made * sq ^ (2 * q + 1) = (made * sq) * (sq * sq) ^ q := by
        rw [Int.pow_succ, Int.pow_mul, s2]
        grind
      by_cases hq : q = 0
      · subst hq
        obtain ⟨s', e⟩ := pow_loop n ω b x k 0 (u + w) w (made * sq) sq (by omega) mub hw (by omega) m (by omega)
        refine ⟨s', ?_⟩
        rw [ep]
        have ez : made * sq * (sq * sq) ^ 0 = made * sq * sq ^ 0 := by simp
        rw [ez, ← e]
        clear e hs h hr ep ez hwq
        generalize ((2 * 0 + 1 : Nat) : Int) = ri at *
        unfold pB d_power
        have z0 : ((0 : Nat) : Int) = 0 := rfl
        rw [z0] at hf2 ⊢
        simp [frz_id, nOwn, hm2, hf2, hb, s_aug (x := made), s_aug (x := ri), s_aug (x := sq), ms]
      · have q0 : ((q : Int) != 0) = true := by simpa using hq
        obtain ⟨s', e⟩ := pow_loop n ω b x k q (u + w) (2 * w) (made * sq) (sq * sq) (by omega) mub sqb (by omega) m (by omega)
        refine ⟨s', ?_⟩
        rw [ep, ← e]
        clear e hs h hr ep hwq
        generalize ((2 * q + 1 : Nat) : Int) = ri at *
        unfold pB d_power
        simp [frz_id, nOwn, hm2, hf2, hb, q0, s_aug (x := made), s_aug (x := ri), s_aug (x := sq), ms, ss]
theorem c_pow {n : Nat} {a : Int} {e : Nat} {ω : Orc} (ha : a.natAbs ≤ 2 ^ 32) (he : e ≤ 1000) : C (n + 1) 4 [I a, I (e : Nat)] ω = .ok (.int (a ^ e)) ω := by
  rw [C, run_at (d := d_power) rfl rfl]
  obtain ⟨s', h⟩ := pow_loop n ω a e 1001 e 0 1 1 a (by omega) (by decide) (by simpa using ha) (by omega) whFuel (Nat.le_trans (by decide) fuel_ge)
  have hw : ∀ ρ : Env, ρ = [I a, I (e : Nat), I 1, I a, I (e : Nat)] → evalS gt (C n) (.wh (.var 4) pB) ρ ω = .ok (.nx [I a, I (e : Nat), I (1 * a ^ e), I s', I 0]) ω := fun ρ hρ => by rw [hρ, s_wh]; exact h
  have eb : d_power.body = .seq (.par (.tc (.nm 2) (.tc (.nm 3) (.tc (.nm 4) .t0))) (.cons (.lit (.int 1)) (.cons (.var 0) (.cons (.var 1) .nil)))) (.seq (.wh (.var 4) pB) (.seq (.ret (.var 2)) .skip)) := rfl
  rw [eb, s_seq]
  have e1 : evalS gt (run gt P n) (.par (.tc (.nm 2) (.tc (.nm 3) (.tc (.nm 4) .t0))) (.cons (.lit (.int 1)) (.cons (.var 0) (.cons (.var 1) .nil)))) (entry d_power [I a, I (e : Nat)]) ω = .ok (.nx [I a, I (e : Nat), I 1, I a, I (e : Nat)]) ω := by
    unfold d_power entry
    simp [frz_id, nOwn, s_par]
  rw [e1, kS_nx, s_seq, hw _ rfl]
  simp [frz_id, nOwn]
theorem c_mult {n : Nat} {x y : Int} {ω : Orc} (hy : y ≠ 0) (hx : x.natAbs ≤ B1) (hy2 : y.natAbs ≤ B1) : C (n + 2) 2 [I x, I y] ω = .ok (.int (x.fdiv (Int.gcd x y) * y)) ω := by
  rw [C, run_at (d := d_common_multiple) rfl rfl]
  have l : ∀ {i : Int}, i.natAbs ≤ B1 → i.natAbs < 10 ^ 60 := fun h => Nat.lt_of_le_of_lt h (by decide)
  have hg := c_gcd (n := n) (x := x) (y := y) (ω := ω) (l hy2)
  have hgp : 0 < Int.gcd x y := Int.gcd_pos_of_ne_zero_right x hy
  have hgl := gcd_lt (a := x) hy (l hy2)
  have d1 : bop .fdiv (.int x) (.int (Int.gcd x y : Int)) = some (.int (x.fdiv (Int.gcd x y : Int))) := fdiv_ij (by omega) (by omega)
  have hq : (x.fdiv (Int.gcd x y : Int)).natAbs ≤ B1 := by
    rw [Int.fdiv_eq_ediv_of_dvd (Int.gcd_dvd_left x y)]
    exact Nat.le_trans (Int.natAbs_ediv_le_natAbs _ _) hx
  unfold d_common_multiple entry
  simp [frz_id, nOwn, hg, d1, mul_ij (l hq) (l hy2)]
/-! is it an integer, a fraction -/
@[simp] theorem isaO_ii (i : Int) : isaO .int (.int i) = some (.bool true) := rfl
@[simp] theorem isaO_ib (i : Int) : isaO .bool (.int i) = some (.bool false) := rfl
@[simp] theorem isaO_bi (i : Bool) : isaO .int (.bool i) = some (.bool true) := rfl
@[simp] theorem isaO_bb (i : Bool) : isaO .bool (.bool i) = some (.bool true) := rfl
@[simp] theorem isaO_si (i : Str) : isaO .int (.str i) = some (.bool false) := rfl
@[simp] theorem isaO_tl (i : List PyData) : isaO .tuple (.list i) = some (.bool false) := rfl
@[simp] theorem isaO_tn : isaO .tuple .none = some (.bool false) := rfl
@[simp] theorem is_nn : bop .is_ .none .none = some (.bool true) := rfl
@[simp] theorem is_in (i : Int) : bop .is_ (.int i) .none = some (.bool false) := rfl
@[simp] theorem is_bb (a b : Bool) : bop .is_ (.bool a) (.bool b) = some (.bool (a == b)) := rfl
@[simp] theorem isn_bb (a b : Bool) : bop .isn (.bool a) (.bool b) = some (.bool (!(a == b))) := rfl
theorem c_int0 {n : Nat} {i : Int} {ω : Orc} : C (n + 1) 0 [I i, .v false .none, .v false .none] ω = .ok (.bool true) ω := by
  rw [C, run_at (d := d_is_integer) rfl rfl]
  unfold d_is_integer entry
  simp [frz_id, nOwn]
theorem c_int1 {n : Nat} {i l : Int} {ω : Orc} : C (n + 1) 0 [I i, I l, .v false .none] ω = .ok (.bool (decide (l ≤ i))) ω := by
  rw [C, run_at (d := d_is_integer) rfl rfl]
  unfold d_is_integer entry
  by_cases h : l ≤ i
  · simp [frz_id, nOwn, h]
  · simp [frz_id, nOwn, h]
theorem c_int2 {n : Nat} {i l h : Int} {ω : Orc} (h1 : l ≤ i) (h2 : i ≤ h) : C (n + 1) 0 [I i, I l, I h] ω = .ok (.bool true) ω := by
  rw [C, run_at (d := d_is_integer) rfl rfl]
  unfold d_is_integer entry
  simp [frz_id, nOwn, h1, h2]
theorem c_intb {n : Nat} {b : Bool} {x y : PyData} {ω : Orc} : C (n + 1) 0 [.v false (.bool b), .v false x, .v false y] ω = .ok (.bool false) ω := by
  rw [C, run_at (d := d_is_integer) rfl rfl]
  unfold d_is_integer entry
  simp [frz_id, nOwn]
theorem c_ints {n : Nat} {b : Str} {x y : PyData} {ω : Orc} : C (n + 1) 0 [.v false (.str b), .v false x, .v false y] ω = .ok (.bool false) ω := by
  rw [C, run_at (d := d_is_integer) rfl rfl]
  unfold d_is_integer entry
  simp [frz_id, nOwn]
theorem c_isfr {n : Nat} {p : Int × Int} {ω : Orc} (h2 : p.2.natAbs < 10 ^ 60) : C (n + 2) 7 [Fs p] ω = .ok (.bool (decide (1 ≤ p.2) && decide (Int.gcd p.1 p.2 = 1))) ω := by
  rw [C, run_at (d := d_is_fraction) rfl rfl]
  have hg := c_gcd (n := n) (x := p.1) (y := p.2) (ω := ω) h2
  have i0 := c_int0 (n := n) (i := p.1) (ω := ω)
  have i1 := c_int1 (n := n) (i := p.2) (l := 1) (ω := ω)
  unfold d_is_fraction entry
  by_cases h : 1 ≤ p.2
  · by_cases hh : Int.gcd p.1 p.2 = 1
    · rw [hh] at hg
      simp [frz_id, nOwn, hg, i0, i1, h, hh]
    · have hh' : ¬ ((Int.gcd p.1 p.2 : Nat) : Int) = 1 := by omega
      simp [frz_id, nOwn, hg, i0, i1, h, hh, hh']
  · simp [frz_id, nOwn, hg, i0, i1, h]
theorem c_frac0 {n : Nat} {a : Int} {ω : Orc} : C (n + 1) 6 [I a, I 0] ω = .exc 0 .none ω := by
  rw [C, run_at (d := d_fraction) rfl rfl]
  unfold d_fraction entry
  simp [frz_id, nOwn]
theorem c_ref {n : Nat} {p : Int × Int} {ω : Orc} : C (n + 2) 16 [Fs p] ω = .ok (.bool true) ω := by
  rw [C, run_at (d := d__law_refused) rfl rfl]
  have h := c_frac0 (n := n) (a := 3) (ω := ω)
  unfold d__law_refused entry
  simp [frz_id, nOwn, s_try, h, kCa, kTr, evHd, List.lookup]
/-- the ones that are none -/
theorem c_odd {n : Nat} {k : Int} {ω : Orc} (h0 : 0 ≤ k) (h1 : k < 7) : ∃ d, ixD (.list [.tuple [.int 1, .int 0], .tuple [.int 2, .int 4], .list [.int 1, .int 2], .tuple [.int 1], .tuple [.int 1, .int (0 - 1)], .tuple [.bool true, .int 1], .none]) (.int k) = some d ∧ ownV false d = false ∧
    C (n + 2) 7 [.v false d] ω = .ok (.bool false) ω := by
  have hk : k = 0 ∨ k = 1 ∨ k = 2 ∨ k = 3 ∨ k = 4 ∨ k = 5 ∨ k = 6 := by omega
  rcases hk with rfl | rfl | rfl | rfl | rfl | rfl | rfl
  · exact ⟨_, rfl, rfl, by rw [c_isfr (p := (1, 0)) (by decide)]; rfl⟩
  · exact ⟨_, rfl, rfl, by rw [c_isfr (p := (2, 4)) (by decide)]; rfl⟩
  · refine ⟨_, rfl, rfl, ?_⟩
    rw [C, run_at (d := d_is_fraction) rfl rfl]
    unfold d_is_fraction entry
    simp [frz_id, nOwn]
  · refine ⟨_, rfl, rfl, ?_⟩
    rw [C, run_at (d := d_is_fraction) rfl rfl]
    unfold d_is_fraction entry
    simp [frz_id, nOwn]
  · exact ⟨_, rfl, rfl, by rw [c_isfr (p := (1, 0 - 1)) (by decide)]; rfl⟩
  · refine ⟨_, rfl, rfl, ?_⟩
    rw [C, run_at (d := d_is_fraction) rfl rfl]
    have hb := c_intb (n := n) (b := true) (x := .none) (y := .none) (ω := ω)
    unfold d_is_fraction entry
    simp [frz_id, nOwn, hb]
  · refine ⟨_, rfl, rfl, ?_⟩
    rw [C, run_at (d := d_is_fraction) rfl rfl]
    unfold d_is_fraction entry
    simp [frz_id, nOwn]
end Wv.T

set_option autoImplicit false
set_option linter.all false
set_option maxRecDepth 100000
set_option maxHeartbeats 2000000
namespace Wv.T
open PySem Wv
theorem pow109 : bop .pow (.int 10) (.int 9) = some (.int 1000000000) := by kernel_rfl
theorem dr {n : Int} (ω : Orc) (h0 : 0 < n) (h1 : n < 2 ^ 64) : ∃ k w, kDr (.ok (.int n) ω) = .ok (.int k) w ∧ 0 ≤ k ∧ k < n := by
  obtain ⟨h2, h3⟩ := draw_range (ω := ω) h0
  exact ⟨_, _, kDr_ok h0 h1, h2, h3⟩
abbrev e15 (a b c d e f g h i j k l m : Slot) : Env := [.un, .s, a, b, c, d, e, f, g, h, i, j, k, l, m]
abbrev U : Slot := .un
theorem st0 (n : Nat) (ω : Orc) : ∃ S w, (S = 10 ∨ S = 1000000000) ∧ evalS gt (C n) ls_0 (e15 U U U U U U U U U U U U U) ω = .ok (.nx (e15 (I S) U U U U U U U U U U U U)) w := by
  obtain ⟨k, w, hk, h0, h1⟩ := dr (n := 2) ω (by decide) (by decide)
  have hh : k = 0 ∨ k = 1 := by omega
  have i0 : ixD (.list [.int 10, .int 1000000000]) (.int 0) = some (.int 10) := rfl
  have i1 : ixD (.list [.int 10, .int 1000000000]) (.int 1) = some (.int 1000000000) := rfl
  rcases hh with rfl | rfl
  · exact ⟨10, w, .inl rfl, by unfold ls_0; simp [frz_id, nOwn, e_draw, hk, pow109, i0]⟩
  · exact ⟨1000000000, w, .inr rfl, by unfold ls_0; simp [frz_id, nOwn, e_draw, hk, pow109, i1]⟩
theorem st1 (n : Nat) (ω : Orc) {S : Int} (hS : S = 10 ∨ S = 1000000000) : ∃ a w, a.natAbs ≤ 1000000000 ∧ evalS gt (C n) ls_1 (e15 (I S) U U U U U U U U U U U U) ω = .ok (.nx (e15 (I S) (I a) U U U U U U U U U U U)) w := by
  obtain ⟨k, w, hk, h0, h1⟩ := dr (n := 2 * S + 1) ω (by omega) (by omega)
  exact ⟨k - S, w, by omega, by unfold ls_1; simp [frz_id, nOwn, e_draw, hk, mul_ii (big_l (i := 2) (j := S) (by decide))]⟩
theorem st2 (n : Nat) (ω : Orc) {S a : Int} (hS : S = 10 ∨ S = 1000000000) : ∃ b w, b ≠ 0 ∧ b.natAbs ≤ 1000000000 ∧ evalS gt (C n) ls_2 (e15 (I S) (I a) U U U U U U U U U U U) ω = .ok (.nx (e15 (I S) (I a) (I b) U U U U U U U U U U)) w := by
  obtain ⟨k, w, hk, h0, h1⟩ := dr (n := S) ω (by omega) (by omega)
  obtain ⟨j, w2, hj, h2, h3⟩ := dr (n := 2) w (by decide) (by decide)
  have hh : j = 0 ∨ j = 1 := by omega
  have i0 : ixD (.list [.int 1, .int (-1)]) (.int 0) = some (.int 1) := rfl
  have i1 : ixD (.list [.int 1, .int (-1)]) (.int 1) = some (.int (-1)) := rfl
  have m1 : bop .mul (.int (1 + k)) (.int 1) = some (.int (1 + k)) := by rw [mul_ii (big_r (by decide))]; simp
  have m2 : bop .mul (.int (1 + k)) (.int (-1)) = some (.int (-(1 + k))) := by rw [mul_ii (big_r (by decide))]; simp
  rcases hh with rfl | rfl
  · exact ⟨1 + k, w2, by omega, by omega, by unfold ls_2; simp [frz_id, nOwn, e_draw, hk, hj, i0, m1]⟩
  · exact ⟨-(1 + k), w2, by omega, by omega, by unfold ls_2; simp [frz_id, nOwn, e_draw, hk, hj, i1, m2]⟩
theorem st3 (n : Nat) (ω : Orc) {S a b : Int} (hS : S = 10 ∨ S = 1000000000) : ∃ c w, c.natAbs ≤ 1000000000 ∧ evalS gt (C n) ls_3 (e15 (I S) (I a) (I b) U U U U U U U U U U) ω = .ok (.nx (e15 (I S) (I a) (I b) (I c) U U U U U U U U U)) w := by
  obtain ⟨k, w, hk, h0, h1⟩ := dr (n := 2 * S + 1) ω (by omega) (by omega)
  exact ⟨k - S, w, by omega, by unfold ls_3; simp [frz_id, nOwn, e_draw, hk, mul_ii (big_l (i := 2) (j := S) (by decide))]⟩
theorem st4 (n : Nat) (ω : Orc) {S a b c : Int} (hS : S = 10 ∨ S = 1000000000) : ∃ d w, 1 ≤ d ∧ d ≤ 1000000000 ∧ evalS gt (C n) ls_4 (e15 (I S) (I a) (I b) (I c) U U U U U U U U U) ω = .ok (.nx (e15 (I S) (I a) (I b) (I c) (I d) U U U U U U U U)) w := by
  obtain ⟨k, w, hk, h0, h1⟩ := dr (n := S) ω (by omega) (by omega)
  exact ⟨1 + k, w, by omega, by omega, by unfold ls_4; simp [frz_id, nOwn, e_draw, hk]⟩
theorem st56 (n : Nat) (ω : Orc) {S a b c d : Int} (hb : b ≠ 0) (hb2 : b.natAbs ≤ 1000000000) (hd : 1 ≤ d) (hd2 : d ≤ 1000000000) :
    evalS gt (C (n + 2)) lt_5 (e15 (I S) (I a) (I b) (I c) (I d) U U U U U U U U) ω = evalS gt (C (n + 2)) lt_7 (e15 (I S) (I a) (I b) (I c) (I d) (Fs (fr a b)) (Fs (fr c d)) U U U U U U) ω := by
  have h1 := c_frac (n := n) (a := a) (b := b) (ω := ω) hb (Nat.lt_of_le_of_lt hb2 (by decide))
  have h2 := c_frac (n := n) (a := c) (b := d) (ω := ω) (by omega) (Nat.lt_of_le_of_lt (show d.natAbs ≤ 1000000000 by omega) (by decide))
  unfold lt_5 lt_6 ls_5 ls_6
  simp [frz_id, nOwn, h1, h2]
/-- what is known of the two -/
structure Two (a b c d : Int) (p q : Int × Int) : Prop where
  na : a.natAbs ≤ 1000000000
  nb : b.natAbs ≤ 1000000000
  nc : c.natAbs ≤ 1000000000
  nd : d.natAbs ≤ 1000000000
  b0 : b ≠ 0
  d0 : 1 ≤ d
  p1 : isFr p a b
  q1 : isFr q c d
  pa : p.1.natAbs ≤ 1000000000
  pb : p.2.natAbs ≤ 1000000000
  qa : q.1.natAbs ≤ 1000000000
  qb : q.2.natAbs ≤ 1000000000
theorem two_of {a b c d : Int} (ha : a.natAbs ≤ 1000000000) (hb : b.natAbs ≤ 1000000000) (hc : c.natAbs ≤ 1000000000) (hd : d.natAbs ≤ 1000000000) (b0 : b ≠ 0) (d0 : 1 ≤ d) : Two a b c d (fr a b) (fr c d) := by
  obtain ⟨h1, h2, h3, h4, h5⟩ := fr_spec (a := a) b0
  obtain ⟨g1, g2, g3, g4, g5⟩ := fr_spec (a := c) (b := d) (by omega)
  exact ⟨ha, hb, hc, hd, b0, d0, ⟨h2, h3, h1⟩, ⟨g2, g3, g1⟩, by omega, by omega, by omega, by omega⟩
section
variable {a b c d S : Int} {p q : Int × Int} {n : Nat} {ω : Orc}
theorem Two.sp (t : Two a b c d p q) : Sm p := ⟨Nat.le_trans t.pa (by decide), Nat.le_trans t.pb (by decide)⟩
theorem Two.sq (t : Two a b c d p q) : Sm q := ⟨Nat.le_trans t.qa (by decide), Nat.le_trans t.qb (by decide)⟩
theorem l9 {i : Int} (h : i.natAbs ≤ 1000000000) : i.natAbs < 10 ^ 60 := Nat.lt_of_le_of_lt h (by decide)
theorem m9 {i j : Int} (h : i.natAbs ≤ 1000000000) (h2 : j.natAbs ≤ 1000000000) : (i * j).natAbs ≤ 1000000000000000000 := bm h h2
theorem st7 (t : Two a b c d p q) : evalS gt (C (n + 2)) ls_7 (e15 (I S) (I a) (I b) (I c) (I d) (Fs p) (Fs q) U U U U U U) ω = .ok (.nx (e15 (I S) (I a) (I b) (I c) (I d) (Fs p) (Fs q) U U U U U U)) ω := by
  have h1 := c_is (n := n) (ω := ω) t.p1 (l9 t.pa) (l9 t.pb) (l9 t.na) (l9 t.nb)
  have h2 := c_is (n := n) (ω := ω) t.q1 (l9 t.qa) (l9 t.qb) (l9 t.nc) (l9 t.nd)
  have h3 := c_ref (n := n) (p := p) (ω := ω)
  unfold ls_7
  simp [frz_id, nOwn, h1, h2, h3]
theorem cancel {x y k : Int} (hk : k ≠ 0) (h : x * k = y * k) : x = y := Int.eq_of_mul_eq_mul_right hk h
theorem st8 (t : Two a b c d p q) : evalS gt (C (n + 3)) ls_8 (e15 (I S) (I a) (I b) (I c) (I d) (Fs p) (Fs q) U U U U U U) ω = .ok (.nx (e15 (I S) (I a) (I b) (I c) (I d) (Fs p) (Fs q) U U U U U U)) ω := by
  obtain ⟨h1, h2, h3⟩ := t.p1
  obtain ⟨g1, g2, g3⟩ := t.q1
  have pos : p.2 * q.2 ≠ 0 := by
    have := Int.mul_pos (show 0 < p.2 by omega) (show 0 < q.2 by omega)
    omega
  obtain ⟨f1, f2, f3, f4, f5⟩ := fr_spec (a := p.1 * q.2 + q.1 * p.2) pos
  obtain ⟨k1, k2, k3, k4, k5⟩ := fr_spec (a := p.1 * q.1) pos
  have e1 := c_plus (n := n) (ω := ω) t.sp t.sq h1 g1
  have e2 := c_times (n := n) (ω := ω) t.sp t.sq h1 g1
  have ad := m9 t.na t.nd
  have cb := m9 t.nc t.nb
  have bd := m9 t.nb t.nd
  have ac := m9 t.na t.nc
  have x1 := m9 t.pa t.qb
  have x2 := m9 t.qa t.pb
  have x3 := m9 t.pb t.qb
  have x4 := m9 t.pa t.qa
  have i1 := c_is (n := n + 1) (ω := ω) (p := fr (p.1 * q.2 + q.1 * p.2) (p.2 * q.2)) (a := a * d + c * b) (b := b * d) ⟨f2, f3, cancel pos (by grind)⟩ (by omega) (by omega) (by omega) (by omega)
  have i2 := c_is (n := n + 1) (ω := ω) (p := fr (p.1 * q.1) (p.2 * q.2)) (a := a * c) (b := b * d) ⟨k2, k3, cancel pos (by grind)⟩ (by omega) (by omega) (by omega) (by omega)
  unfold ls_8
  simp [frz_id, nOwn, e1, e2, i1, i2, mul_ij (l9 t.na) (l9 t.nd), mul_ij (l9 t.nc) (l9 t.nb), mul_ij (l9 t.nb) (l9 t.nd), mul_ij (l9 t.na) (l9 t.nc)]
end
end Wv.T

set_option autoImplicit false
set_option linter.all false
set_option maxRecDepth 100000
set_option maxHeartbeats 2000000
namespace Wv.T
open PySem Wv
section
variable {a b c d S : Int} {p q : Int × Int} {n : Nat} {ω : Orc}
@[simp] theorem ne_bb (x y : Bool) : bop .ne (.bool x) (.bool y) = some (.bool (!(x == y))) := by
  cases x <;> cases y <;> kernel_rfl
theorem less_iff (t : Two a b c d p q) : (p.1 * q.2 < q.1 * p.2) ↔ (a * d * b < c * b * b) := by
  obtain ⟨h1, h2, h3⟩ := t.p1
  obtain ⟨g1, g2, g3⟩ := t.q1
  have mp := Int.mul_pos (show 0 < p.2 by omega) (show 0 < q.2 by omega)
  have bb : 0 < b * b := by
    rcases Int.lt_or_gt_of_ne t.b0 with h | h
    · exact Int.mul_pos_of_neg_of_neg h h
    · exact Int.mul_pos h h
  have kp := Int.mul_pos bb (show 0 < d by have := t.d0; omega)
  have key : (q.1 * p.2 - p.1 * q.2) * (b * b * d) = (p.2 * q.2) * (c * b * b - a * d * b) := by grind
  constructor
  · intro h
    have hx := Int.mul_pos (show 0 < q.1 * p.2 - p.1 * q.2 by omega) kp
    rw [key] at hx
    by_cases hy : 0 < c * b * b - a * d * b
    · omega
    · have := Int.mul_nonneg (show 0 ≤ p.2 * q.2 by omega) (show 0 ≤ -(c * b * b - a * d * b) by omega)
      rw [Int.mul_neg] at this
      omega
  · intro h
    have hx := Int.mul_pos mp (show 0 < c * b * b - a * d * b by omega)
    rw [← key] at hx
    by_cases hy : 0 < q.1 * p.2 - p.1 * q.2
    · omega
    · have := Int.mul_nonneg (show 0 ≤ -(q.1 * p.2 - p.1 * q.2) by omega) (show 0 ≤ b * b * d by omega)
      rw [Int.neg_mul] at this
      omega
theorem m18 {i j : Int} (h : i.natAbs ≤ 1000000000000000000) (h2 : j.natAbs ≤ 1000000000) : (i * j).natAbs < 10 ^ 60 := Nat.lt_of_le_of_lt (bm h h2) (by decide)
theorem l18 {i : Int} (h : i.natAbs ≤ 1000000000000000000) : i.natAbs < 10 ^ 60 := Nat.lt_of_le_of_lt h (by decide)
theorem st9 (t : Two a b c d p q) : evalS gt (C (n + 3)) ls_9 (e15 (I S) (I a) (I b) (I c) (I d) (Fs p) (Fs q) U U U U U U) ω = .ok (.nx (e15 (I S) (I a) (I b) (I c) (I d) (Fs p) (Fs q) U U U U U U)) ω := by
  obtain ⟨h1, h2, h3⟩ := t.p1
  obtain ⟨g1, g2, g3⟩ := t.q1
  have ad := m9 t.na t.nd
  have cb := m9 t.nc t.nb
  have bc := m9 t.nb t.nc
  have e2 := c_less (n := n + 2) (ω := ω) t.sp t.sq
  have lf : (decide (p.1 * q.2 < q.1 * p.2)) = decide (a * d * b < c * b * b) := by rw [decide_eq_decide]; exact less_iff t
  rw [lf] at e2
  unfold ls_9
  by_cases hc : c = 0
  · simp [frz_id, nOwn, hc, e2, mul_ij (l9 t.na) (l9 t.nd), mul_ij (l18 ad) (l9 t.nb), mul_ij (i := 0) (j := b) (by decide) (l9 t.nb)]
  · have x1 := m9 t.pa t.qb
    have x3 := m9 t.pb t.qa
    have q0 : q.1 ≠ 0 := fun z => by
      rw [z, Int.zero_mul] at g3
      have := Int.mul_ne_zero hc (show q.2 ≠ 0 by omega)
      omega
    have pos : p.2 * q.1 ≠ 0 := Int.mul_ne_zero (by omega) q0
    obtain ⟨f1, f2, f3, f4, f5⟩ := fr_spec (a := p.1 * q.2) pos
    have e1 := c_over (n := n) (ω := ω) t.sp t.sq h1 q0
    have pos2 : p.2 * q.2 ≠ 0 := Int.mul_ne_zero (by omega) (by omega)
    have i1 := c_is (n := n + 1) (ω := ω) (p := fr (p.1 * q.2) (p.2 * q.1)) (a := a * d) (b := b * c) ⟨f2, f3, cancel pos (cancel pos2 (by grind))⟩ (by omega) (by omega) (by omega) (by omega)
    simp [frz_id, nOwn, hc, e1, i1, e2, mul_ij (l9 t.na) (l9 t.nd), mul_ij (l18 ad) (l9 t.nb), mul_ij (l9 t.nc) (l9 t.nb), mul_ij (l9 t.nb) (l9 t.nc), mul_ij (l18 cb) (l9 t.nb)]
theorem st10 (t : Two a b c d p q) : evalS gt (C (n + 3)) ls_10 (e15 (I S) (I a) (I b) (I c) (I d) (Fs p) (Fs q) U U U U U U) ω = .ok (.nx (e15 (I S) (I a) (I b) (I c) (I d) (Fs p) (Fs q) (I (-((-p.1) / p.2))) U U U U U)) ω := by
  have h := c_up (n := n + 2) (ω := ω) t.sp t.p1.1
  unfold ls_10
  simp [frz_id, nOwn, h]
theorem st11 (t : Two a b c d p q) : evalS gt (C (n + 3)) ls_11 (e15 (I S) (I a) (I b) (I c) (I d) (Fs p) (Fs q) (I (-((-p.1) / p.2))) U U U U U) ω = .ok (.nx (e15 (I S) (I a) (I b) (I c) (I d) (Fs p) (Fs q) (I (-((-p.1) / p.2))) U U U U U)) ω := by
  have h1 := t.p1.1
  have e1 := Int.mul_ediv_add_emod (-p.1) p.2
  have e2 := Int.emod_nonneg (-p.1) (show p.2 ≠ 0 by omega)
  have e3 := Int.emod_lt_of_pos (-p.1) (show 0 < p.2 by omega)
  have hb : ((-p.1) / p.2).natAbs ≤ 1000000000 := Nat.le_trans (Int.natAbs_ediv_le_natAbs _ _) (by have := t.pa; omega)
  generalize hu : (-p.1) / p.2 = u at *
  have c1 : (-u - 1) * p.2 < p.1 := by
    rw [Int.sub_mul, Int.neg_mul, Int.mul_comm u]; omega
  have c2 : p.1 ≤ -u * p.2 := by
    rw [Int.neg_mul, Int.mul_comm u]; omega
  unfold ls_11
  simp [frz_id, nOwn, mul_ij (i := -u - 1) (j := p.2) (Nat.lt_of_le_of_lt (show (-u - 1).natAbs ≤ 1000000001 by omega) (by decide)) (l9 t.pb), mul_ij (i := -u) (j := p.2) (l9 (by omega)) (l9 t.pb), c1, c2]
end
section
variable {a b c d S u k : Int} {p q : Int × Int} {n : Nat} {ω : Orc}
theorem st12 : ∃ k w, 1 ≤ k ∧ k ≤ 500 ∧ evalS gt (C n) ls_12 (e15 (I S) (I a) (I b) (I c) (I d) (Fs p) (Fs q) (I u) U U U U U) ω = .ok (.nx (e15 (I S) (I a) (I b) (I c) (I d) (Fs p) (Fs q) (I u) (I k) U U U U)) w := by
  obtain ⟨j, w, hj, h0, h1⟩ := dr (n := 500) ω (by decide) (by decide)
  exact ⟨1 + j, w, by omega, by omega, by unfold ls_12; simp [frz_id, nOwn, e_draw, hj]⟩
theorem shp_ints : ∀ (L : List PyData), (∀ x ∈ L, ∃ j, x = .int j) → PyData.canLayAll0 L = true ∧ PyData.depthAll L = 0 ∧ PyData.eqvAll L L = true
  | [], _ => by simp [PyData.canLayAll0, PyData.depthAll, PyData.eqvAll]
  | x :: L, h => by
    obtain ⟨j, rfl⟩ := h x List.mem_cons_self
    obtain ⟨h1, h2, h3⟩ := shp_ints L fun y hy => h y (List.mem_cons_of_mem _ hy)
    simp [PyData.canLayAll0, PyData.canLay0, PyData.depthAll, PyData.depth, PyData.eqvAll, PyData.eqv, h1, h2, h3]
theorem ne_self {L : List PyData} (h : ∀ x ∈ L, ∃ j, x = .int j) : bop .ne (.list L) (.list L) = some (.bool false) := by
  obtain ⟨h1, h2, h3⟩ := shp_ints L h
  show gO (shp (.list L) && shp (.list L)) (some (PyData.bool (!PyData.eqv (.list L) (.list L)))) = _
  have hs : shp (.list L) = true := by
    unfold shp SeqAt.shaped
    simp [PyData.canLay0, PyData.depth, h1, h2]
  rw [hs]
  simp [PyData.eqv, h3]
theorem div_ints (k : Int) (xs : List PyData) : ∀ x ∈ xs.filterMap (gDiv k), ∃ j, x = .int j := by
  intro x hx
  obtain ⟨y, hy, e⟩ := List.mem_filterMap.mp hx
  cases y with
  | int i =>
    have e : (if k % i = 0 then some (PyData.int i) else none) = some x := e
    by_cases hz : k % i = 0
    · rw [if_pos hz] at e; cases e; exact ⟨_, rfl⟩
    · rw [if_neg hz] at e; cases e
  | _ => cases e
theorem st13 (h0 : 1 ≤ k) (h1 : k ≤ 500) : evalS gt (C (n + 3)) ls_13 (e15 (I S) (I a) (I b) (I c) (I d) (Fs p) (Fs q) (I u) (I k) U U U U) ω = .ok (.nx (e15 (I S) (I a) (I b) (I c) (I d) (Fs p) (Fs q) (I u) (I k) U U U U)) ω := by
  have e1 := c_divs (n := n + 2) (k := k) (ω := ω) h0 (by omega)
  have e2 := c_apart (n := n + 1) (k := k) (ω := ω) h0 (by omega)
  have hl : ∀ xs : List PyData, p1 .len (.list xs) = some (.int xs.length) := fun _ => rfl
  have hc1 := comp_at (gt := gt) (call := run gt P (n + 3)) (ρ := e15 (I S) (I a) (I b) (I c) (I d) (Fs p) (Fs q) (I u) (I k) U U U U) (ω := ω) (t := .nm 13) (it := .rng (.cons (.lit (.int 1)) (.cons (.bin .add (.var 10) (.lit (.int 1))) .nil))) (ts := .cons (.bin .eq (.bin .mod (.b1 .int (.var 10)) (.var 13)) (.lit (.int 0))) .nil) (e := .var 13)
    (d := .list (rangeD 1 k.toNat 1)) (xs := rangeD 1 k.toNat 1) (g := gDiv k) (by simp [rng_k h0 (show k ≤ 1000 by omega)]) rfl (by rw [range_len]; omega) (fun x hx => by
      obtain ⟨j, rfl, h2, h3⟩ := mem_range hx
      rw [cBody_nm]
      by_cases hz : k % j = 0
      · simp [clr, tgS, mod_ii (show 0 < j by omega), hz, gDiv]
      · simp [clr, tgS, mod_ii (show 0 < j by omega), hz, gDiv])
  have hc2 := comp_at (gt := gt) (call := run gt P (n + 3)) (ρ := e15 (I S) (I a) (I b) (I c) (I d) (Fs p) (Fs q) (I u) (I k) U U U U) (ω := ω) (t := .nm 13) (it := .rng (.cons (.lit (.int 1)) (.cons (.bin .add (.var 10) (.lit (.int 1))) .nil))) (ts := .cons (.bin .eq (.call 14 false (.cons (.var 13) (.cons (.var 10) .nil))) (.lit (.int 1))) .nil) (e := .var 13)
    (d := .list (rangeD 1 k.toNat 1)) (xs := rangeD 1 k.toNat 1) (g := gApart k) (by simp [rng_k h0 (show k ≤ 1000 by omega)]) rfl (by rw [range_len]; omega) (fun x hx => by
      obtain ⟨j, rfl, h2, h3⟩ := mem_range hx
      rw [cBody_nm]
      have hg := c_common (n := n + 2) (x := j) (y := k) (ω := ω) (Nat.lt_of_lt_of_le (show k.natAbs < 1001 by omega) (by decide))
      by_cases hz : Int.gcd j k = 1
      · rw [hz] at hg
        simp [clr, tgS, hg, hz, gApart]
      · have hz' : ¬ ((Int.gcd j k : Nat) : Int) = 1 := by omega
        simp [clr, tgS, hg, hz, hz', gApart])
  unfold ls_13
  simp [frz_id, nOwn, e1, e2, hc1, hc2, ne_self (div_ints k _), hl]
theorem st14 : ∃ (e : Nat) (w : Orc), e ≤ 20 ∧ evalS gt (C n) ls_14 (e15 (I S) (I a) (I b) (I c) (I d) (Fs p) (Fs q) (I u) (I k) U U U U) ω = .ok (.nx (e15 (I S) (I a) (I b) (I c) (I d) (Fs p) (Fs q) (I u) (I k) (I (e : Nat)) U U U)) w := by
  obtain ⟨j, w, hj, h0, h1⟩ := dr (n := 21) ω (by decide) (by decide)
  exact ⟨j.toNat, w, by omega, by unfold ls_14; simp [frz_id, nOwn, e_draw, hj]; omega⟩
abbrev mB : Wv.S := match ls_16 with
  | .for_ _ _ b => b
  | s => s
theorem made_loop (ha : a.natAbs ≤ 2 ^ 32) {e : Nat} : ∀ (xs : List PyData) (m : Int) (w : Nat) (s13 : Slot), nOwn s13 = true → w + xs.length ≤ 100 → m.natAbs ≤ 2 ^ (32 * w) →
    ∃ t13, nOwn t13 = true ∧ fLoop gt (C n) (.nm 13) mB xs (e15 (I S) (I a) (I b) (I c) (I d) (Fs p) (Fs q) (I u) (I k) (I (e : Nat)) (I m) s13 U) ω = .ok (.nx (e15 (I S) (I a) (I b) (I c) (I d) (Fs p) (Fs q) (I u) (I k) (I (e : Nat)) (I (m * a ^ xs.length)) t13 U)) ω
  | [], m, w, s13, h, _, _ => ⟨s13, h, by simp⟩
  | x :: xs, m, w, s13, h, hw, hm => by
    have hm2 := big2 (u := w) (w := 1) hm ha (by have := hw; simp at this; omega) (by decide)
    have hb : (m * a).natAbs ≤ 2 ^ (32 * (w + 1)) := by
      have := bm hm (show a.natAbs ≤ 2 ^ 32 from ha)
      rw [← Nat.pow_add] at this
      rw [show 32 * (w + 1) = 32 * w + 32 by omega]; exact this
    obtain ⟨t13, h1, h2⟩ := made_loop ha xs (m * a) (w + 1) (.v false x) rfl (by simp at hw; omega) hb
    refine ⟨t13, h1, ?_⟩
    rw [fLoop_cons]
    have e2 : m * a ^ (x :: xs).length = m * a * a ^ xs.length := by
      rw [List.length_cons, Int.pow_succ, Int.mul_assoc, Int.mul_comm (a ^ xs.length)]
    rw [e2, ← h2]
    unfold mB ls_16
    simp [frz_id, nOwn, hm2]
theorem st156 (ha : a.natAbs ≤ 1000000000) {e : Nat} (he : e ≤ 20) : ∃ t13, nOwn t13 = true ∧ evalS gt (C n) lt_15 (e15 (I S) (I a) (I b) (I c) (I d) (Fs p) (Fs q) (I u) (I k) (I (e : Nat)) U U U) ω =
    evalS gt (C n) lt_17 (e15 (I S) (I a) (I b) (I c) (I d) (Fs p) (Fs q) (I u) (I k) (I (e : Nat)) (I (a ^ e)) t13 U) ω := by
  obtain ⟨t13, h1, h2⟩ := made_loop (n := n) (S := S) (b := b) (c := c) (d := d) (u := u) (k := k) (p := p) (q := q) (ω := ω) (e := e) (show a.natAbs ≤ 2 ^ 32 from Nat.le_trans ha (by decide)) (rangeD 0 e 1) 1 0 U rfl (by rw [range_len]; omega) (by decide)
  refine ⟨t13, h1, ?_⟩
  have hr : rngD [.int (e : Nat)] = some (.list (rangeD 0 e 1)) := by
    have := rng1 (n := (e : Nat)) (by omega) (by omega)
    simpa using this
  have eb : ls_16 = .for_ (.nm 13) (.rng (.cons (.var 11) .nil)) mB := rfl
  unfold lt_15 lt_16 ls_15
  rw [eb]
  rw [range_len, Int.one_mul] at h2
  simp [frz_id, nOwn, s_for, hr, h2]
end
end Wv.T

set_option autoImplicit false
set_option linter.all false
set_option maxRecDepth 100000
set_option maxHeartbeats 2000000
namespace Wv.T
open PySem Wv
section
variable {a b c d S u k : Int} {p q : Int × Int} {n : Nat} {ω : Orc}
theorem st17 (t : Two a b c d p q) {e : Nat} (he : e ≤ 20) {s13 : Slot} (hs : nOwn s13 = true) : evalS gt (C (n + 3)) ls_17 (e15 (I S) (I a) (I b) (I c) (I d) (Fs p) (Fs q) (I u) (I k) (I (e : Nat)) (I (a ^ e)) s13 U) ω =
    .ok (.nx (e15 (I S) (I a) (I b) (I c) (I d) (Fs p) (Fs q) (I u) (I k) (I (e : Nat)) (I (a ^ e)) s13 U)) ω := by
  have e1 := c_pow (n := n + 2) (a := a) (e := e) (ω := ω) (Nat.le_trans t.na (by decide)) (by omega)
  have e2 := c_gcd (n := n + 2) (x := a) (y := c) (ω := ω) (l9 t.nc)
  have e3 := c_common (n := n + 2) (x := a) (y := c) (ω := ω) (l9 t.nc)
  have e4 := c_common (n := n + 2) (x := b) (y := d) (ω := ω) (l9 t.nd)
  have d0 : d ≠ 0 := by have := t.d0; omega
  have frz1 : ∀ (is : List Nat), frz is (e15 (I S) (I a) (I b) (I c) (I d) (Fs p) (Fs q) (I u) (I k) (I (e : Nat)) (I (a ^ e)) s13 U) = e15 (I S) (I a) (I b) (I c) (I d) (Fs p) (Fs q) (I u) (I k) (I (e : Nat)) (I (a ^ e)) s13 U := fun is => frz_id is (by
    simp only [List.all_cons, List.all_nil, hs]
    rfl)
  generalize hx : (if b < 0 then -b else b) = x
  have xb : x.natAbs = b.natAbs := by rw [← hx]; split <;> omega
  have gx : Int.gcd x d = Int.gcd b d := by
    rw [← hx]; split
    · exact Int.neg_gcd
    · rfl
  have e5 := c_mult (n := n + 1) (x := x) (y := d) (ω := ω) d0 (by rw [xb]; exact Nat.le_trans t.nb (by decide)) (Nat.le_trans t.nd (by decide))
  have fx : x.fdiv (Int.gcd x d : Int) = x / (Int.gcd x d : Int) := Int.fdiv_eq_ediv_of_dvd (Int.gcd_dvd_left x d)
  have eg := Int.ediv_mul_cancel (Int.gcd_dvd_left x d)
  rw [fx] at e5
  generalize hw : x / (Int.gcd x d : Int) = w at *
  have wb : w.natAbs ≤ 1000000000 := by rw [← hw]; exact Nat.le_trans (Int.natAbs_ediv_le_natAbs _ _) (by rw [xb]; exact t.nb)
  have gl := gcd_lt (a := b) d0 (k := 1000000001) (by have := t.nd; omega)
  have m1 := mul_ij (i := w * d) (j := (Int.gcd b d : Int)) (l18 (m9 wb t.nd)) (by omega)
  have m2 := mul_ij (i := x) (j := d) (by rw [xb]; exact l9 t.nb) (l9 t.nd)
  have eq : w * d * (Int.gcd b d : Int) = x * d := by rw [← gx]; grind
  unfold ls_17
  simp [frz1, e1, e2, e3, e4, e5, hx, m1, m2, eq]
theorem st18 {e m : Int} {s13 : Slot} (hs : nOwn s13 = true) : ∃ dd w, evalS gt (C (n + 3)) ls_18 (e15 (I S) (I a) (I b) (I c) (I d) (Fs p) (Fs q) (I u) (I k) (I e) (I m) s13 U) ω =
    .ok (.nx (e15 (I S) (I a) (I b) (I c) (I d) (Fs p) (Fs q) (I u) (I k) (I e) (I m) s13 (.v false dd))) w ∧ ∀ ω, C (n + 3) 7 [.v false dd] ω = .ok (.bool false) ω := by
  obtain ⟨j, w, hj, h0, h1⟩ := dr (n := 7) ω (by decide) (by decide)
  have frz1 : ∀ (is : List Nat), frz is (e15 (I S) (I a) (I b) (I c) (I d) (Fs p) (Fs q) (I u) (I k) (I e) (I m) s13 U) = e15 (I S) (I a) (I b) (I c) (I d) (Fs p) (Fs q) (I u) (I k) (I e) (I m) s13 U := fun is => frz_id is (by
    simp only [List.all_cons, List.all_nil, hs]
    rfl)
  obtain ⟨dd, g1, g2⟩ : ∃ dd, ixD (.list [.tuple [.int 1, .int 0], .tuple [.int 2, .int 4], .list [.int 1, .int 2], .tuple [.int 1], .tuple [.int 1, .int (0 - 1)], .tuple [.bool true, .int 1], .none]) (.int j) = some dd ∧ ∀ ω, C (n + 3) 7 [.v false dd] ω = .ok (.bool false) ω := by
    obtain ⟨dd, g1, _, _⟩ := c_odd (n := n + 1) (ω := ω) h0 h1
    refine ⟨dd, g1, fun ω => ?_⟩
    obtain ⟨d2, g3, _, g4⟩ := c_odd (n := n + 1) (ω := ω) h0 h1
    rw [g1] at g3
    cases g3
    exact g4
  rw [show (0 : Int) - 1 = -1 from rfl] at g1
  refine ⟨dd, w, ?_, g2⟩
  unfold ls_18
  simp [frz1, e_draw, hj, g1, freshE]
theorem st19 (t : Two a b c d p q) {e m : Int} {s13 : Slot} {dd : PyData} (hs : nOwn s13 = true) (hd : ∀ ω, C (n + 3) 7 [.v false dd] ω = .ok (.bool false) ω) : evalS gt (C (n + 3)) ls_19 (e15 (I S) (I a) (I b) (I c) (I d) (Fs p) (Fs q) (I u) (I k) (I e) (I m) s13 (.v false dd)) ω =
    .ok (.nx (e15 (I S) (I a) (I b) (I c) (I d) (Fs p) (Fs q) (I u) (I k) (I e) (I m) s13 (.v false dd))) ω := by
  have frz1 : ∀ (is : List Nat), frz is (e15 (I S) (I a) (I b) (I c) (I d) (Fs p) (Fs q) (I u) (I k) (I e) (I m) s13 (.v false dd)) = e15 (I S) (I a) (I b) (I c) (I d) (Fs p) (Fs q) (I u) (I k) (I e) (I m) s13 (.v false dd) := fun is => frz_id is (by
    simp only [List.all_cons, List.all_nil, hs]
    rfl)
  obtain ⟨h1, h2, h3⟩ := t.p1
  have e1 := c_isfr (n := n + 1) (p := p) (ω := ω) (l9 t.pb)
  rw [h2, decide_eq_true h1] at e1
  have e2 := c_intb (n := n + 2) (b := true) (x := .int 0) (y := .int 5) (ω := ω)
  unfold ls_19
  simp [frz1, e1, hd, e2]
theorem st20 {e m : Int} {s13 : Slot} {dd : PyData} (hs : nOwn s13 = true) : evalS gt (C (n + 3)) ls_20 (e15 (I S) (I a) (I b) (I c) (I d) (Fs p) (Fs q) (I u) (I k) (I e) (I m) s13 (.v false dd)) ω = .ok (.rt (.bool true)) ω := by
  have frz1 : ∀ (is : List Nat), frz is (e15 (I S) (I a) (I b) (I c) (I d) (Fs p) (Fs q) (I u) (I k) (I e) (I m) s13 (.v false dd)) = e15 (I S) (I a) (I b) (I c) (I d) (Fs p) (Fs q) (I u) (I k) (I e) (I m) s13 (.v false dd) := fun is => frz_id is (by
    simp only [List.all_cons, List.all_nil, hs]
    rfl)
  have e1 := c_int2 (n := n + 2) (i := a) (l := a) (h := a) (ω := ω) (Int.le_refl _) (Int.le_refl _)
  have e2 := c_int1 (n := n + 2) (i := a) (l := a + 1) (ω := ω)
  rw [decide_eq_false (show ¬ a + 1 ≤ a by omega)] at e2
  have e3 := c_ints (n := n + 2) (b := Str.ofString "1") (x := .none) (y := .none) (ω := ω)
  unfold ls_20
  simp [frz1, e1, e2, e3]
end
theorem plain : ∀ ns : List Int, ns.length ≤ 63 → ∃ ω, evalS gt (run gt P 200) lawB (ent0 15) ⟨0, 0, ns, 1⟩ = .ok (.rt (.bool true)) ω := by
  intro ns _
  show ∃ ω, evalS gt (C (197 + 3)) lt_0 (e15 U U U U U U U U U U U U U) ⟨0, 0, ns, 1⟩ = .ok (.rt (.bool true)) ω
  obtain ⟨S, w0, hS, r0⟩ := st0 (197 + 3) ⟨0, 0, ns, 1⟩
  obtain ⟨a, w1, ha, r1⟩ := st1 (197 + 3) w0 hS
  obtain ⟨b, w2, b0, hb, r2⟩ := st2 (197 + 3) w1 (a := a) hS
  obtain ⟨c, w3, hc, r3⟩ := st3 (197 + 3) w2 (a := a) (b := b) hS
  obtain ⟨d, w4, d0, hd, r4⟩ := st4 (197 + 3) w3 (a := a) (b := b) (c := c) hS
  have t := two_of ha hb hc (show d.natAbs ≤ 1000000000 by omega) b0 d0
  have r5 := st56 (197 + 1) w4 (S := S) (a := a) (c := c) b0 hb d0 hd
  have r7 := st7 (n := 197 + 1) (S := S) (ω := w4) t
  have r8 := st8 (n := 197) (S := S) (ω := w4) t
  have r9 := st9 (n := 197) (S := S) (ω := w4) t
  have r10 := st10 (n := 197) (S := S) (ω := w4) t
  have r11 := st11 (n := 197) (S := S) (ω := w4) t
  generalize fr a b = p at *
  generalize fr c d = q at *
  generalize -((-p.1) / p.2) = u at *
  obtain ⟨k, w12, k0, k1, r12⟩ := st12 (n := 197 + 3) (S := S) (a := a) (b := b) (c := c) (d := d) (p := p) (q := q) (u := u) (ω := w4)
  have r13 := st13 (n := 197) (S := S) (a := a) (b := b) (c := c) (d := d) (p := p) (q := q) (u := u) (ω := w12) k0 k1
  obtain ⟨e, w14, he, r14⟩ := st14 (n := 197 + 3) (S := S) (a := a) (b := b) (c := c) (d := d) (p := p) (q := q) (u := u) (k := k) (ω := w12)
  obtain ⟨t13, h13, r15⟩ := st156 (n := 197 + 3) (S := S) (b := b) (c := c) (d := d) (p := p) (q := q) (u := u) (k := k) (ω := w14) ha he
  have r17 := st17 (n := 197) (S := S) (u := u) (k := k) (ω := w14) t he h13
  obtain ⟨dd, w18, r18, hdd⟩ := st18 (n := 197) (S := S) (a := a) (b := b) (c := c) (d := d) (p := p) (q := q) (u := u) (k := k) (e := (e : Nat)) (m := a ^ e) (ω := w14) h13
  have r19 := st19 (n := 197) (S := S) (u := u) (k := k) (e := (e : Nat)) (m := a ^ e) (ω := w18) t h13 hdd
  have r20 := st20 (n := 197) (S := S) (a := a) (b := b) (c := c) (d := d) (p := p) (q := q) (u := u) (k := k) (e := (e : Nat)) (m := a ^ e) (dd := dd) (ω := w18) h13
  refine ⟨w18, ?_⟩
  rw [lt_0, s_seq, r0, kS_nx, lt_1, s_seq, r1, kS_nx, lt_2, s_seq, r2, kS_nx, lt_3, s_seq, r3, kS_nx, lt_4, s_seq, r4, kS_nx]
  refine r5.trans ?_
  rw [lt_7, s_seq, r7, kS_nx, lt_8, s_seq, r8, kS_nx, lt_9, s_seq, r9, kS_nx, lt_10, s_seq, r10, kS_nx, lt_11, s_seq, r11, kS_nx, lt_12, s_seq, r12, kS_nx, lt_13, s_seq, r13, kS_nx, lt_14, s_seq, r14, kS_nx]
  refine r15.trans ?_
  rw [lt_17, s_seq, r17, kS_nx, lt_18, s_seq, r18, kS_nx, lt_19, s_seq, r19, kS_nx, lt_20, s_seq, r20, kS_rt]
end Wv.T

set_option autoImplicit false
set_option linter.all false
set_option maxRecDepth 100000
set_option maxHeartbeats 4000000
namespace Wv
open PySem PySem.Spec PyProof.Rows L2
theorem pmk_own0N {X : Cx} {C : Addr} {bmB : List Value} {B newId initId : String} {x : Str} {p pos : Pos} (F : ExcBaseFacts B newId initId bmB) (q : PySem.W.excIn X.K C bmB newId = true) (gC : X.mg x = some (.ref C)) (kC : PySem.W.keepIn X.K (.ref C) = true) (r : Raises X (.ref C)) (hg : Gl X x)
    (hdb : (x == ("__debug__" : Str)) = false) : L2N.PMk X (.Call (.Name x p) [] [] pos) (fun _ H Q => Q (.ref C) none H) := by
  intro pins s σ H Q I h
  refine wpAny_Call_Name_kw (ld_glob I hg gC ?_ hdb)
  refine PySem.W.callWith_K0 I.kIn kC ?_
  show wpAny _ _ (call (.ref C) []) _ _ _
  obtain ⟨bm, N, nm, qn, bs, hdct, sn, sub, ab, col, dd, k0, k1, k2, k3, k5, mN, hC, hN, hni, T⟩ := exc_obj I.kIn q
  obtain ⟨hp1, g1, d1, tk1, os1⟩ := s
  refine wpAny_call_exc_subT F T hC hN hni (fun h' e hm => ?_) (by show 0 ≤ sizeLine; omega)
  exact L2N.mk_of I hm r h (I.hok.gone hm.new)
end Wv
namespace Wv.T
open PySem Wv PySem.Spec PyProof.Rows L2
section
variable {P0 : Program} {w : World} {K : PySem.W.Frag} {mg : Str → Option Value} {base : Heap} {C f : Addr} {fd : FuncData}
/-- what is known of the class -/
structure ExK (K : PySem.W.Frag) (mg : Str → Option Value) (C : Addr) : Prop where
  g : mg "NoSuch" = some (.ref C)
  kp : PySem.W.keepIn K (.ref C) = true
  ex : PySem.W.excIn K C He.veBase "ValueError.__new__" = true
  sb : PySem.W.subIn K (.ref C) (.type "BaseException") = some true
  ty : PySem.W.typeIn K (.ref C) = some (.type "type")
  xm : PySem.W.exmOne K (.ref C) (.ref C) = some true
def spFr0 (C : Addr) : Sp := fun vs H Q E => ∃ i : Int, vs = [V.int i, V.int 0] ∧ E (.ref C) none H
abbrev FF (K : PySem.W.Frag) (f : Addr) (fd : FuncData) : Prop := FunD K "fraction" "fraction" (defArgs (top 10)) (defBody (top 10)) (defScope (top 10)) [] [] f fd
theorem fr0 (X : ExK K mg C) (F : FF K f fd) : FnOk P0 w K mg base (L2N.CX P0 w) 1 f fd ["over", "under"] (spFr0 C) := by
  refine F.ok (k := 0) sc_fraction (fun vs H Q E h => ?_) (fun cdv A outer s H vs Q E hr h => ?_)
  · obtain ⟨i, rfl, _⟩ := h; rfl
  · obtain ⟨i, rfl, hE⟩ := h
    refine ⟨_, pss_cons (ps_if (pt_cmpR op_eq (pe_var (i := 1) rfl (.inl rfl)) pe_int (nomark _)) (pss_one (L2N.ps_raise rfl (L2N.takes_of rfl rfl rfl rfl) (pmk_own0N PySem.F.excBase_ValueError X.ex X.g X.kp (raises_own X.sb X.ty) rfl (by decide)))) pss_nil) pss_never, ?_⟩
    exact ⟨_, rfl, rfl, true, rfl, hE⟩
theorem fr0H (X : ExK K mg C) (F : FF K f fd) : L2H.FnH P0 w K mg base (L2.CX P0 w) 1 f fd ["over", "under"] (spFr0 C) := by
  obtain ⟨oc, od, dV, kV, doc, pm, an, cdv, ct, osl, rfl, lk, hcd, _, _⟩ := F.ex
  refine L2H.fn_ofH (k := 0) lk hcd sc_fraction (fun vs H Q E h => ?_) (fun A outer s H vs Q E p hot hr h => ?_)
  · obtain ⟨i, rfl, _⟩ := h; rfl
  · obtain ⟨i, rfl, hE⟩ := h
    refine ⟨_, pss_cons (ps_if (pt_cmpR op_eq (pe_var (i := 1) rfl (.inl rfl)) pe_int (nomark _)) (pss_one (L2H.ps_raiseH (W := fun cls d _ H => E cls d H) ⟨p, hot, List.mem_cons_self⟩ (L2.takes_of rfl rfl rfl rfl) (pmk_own0N PySem.F.excBase_ValueError X.ex X.g X.kp (raises_own X.sb X.ty) rfl (by decide)))) pss_nil) pss_never, ?_⟩
    exact ⟨_, rfl, rfl, true, rfl, hE⟩
/-- what is known of the two defs -/
structure FrK (K : PySem.W.Frag) (mg : Str → Option Value) (f : Addr) (fd : FuncData) : Prop where
  g : mg "fraction" = some (.ref f)
  F : FF K f fd
  b : Binds K fd ["over", "under"] []
def spOv (K : PySem.W.Frag) (C : Addr) : Sp := fun vs H Q E => ∃ (a b : Addr) (xs : List V) (p q : Int), vs = [V.ref a, V.ref b] ∧ (SqL K H a xs ∨ SqT K H a xs) ∧ atI xs 0 = some (V.int p) ∧ atI xs 1 = some (V.int q) ∧ SqT K H b [V.int 0, V.int 1] ∧ E (.ref C) none H
variable {f2 : Addr} {fd2 : FuncData}
theorem ovH (X : ExK K mg C) (Y : FrK K mg f fd) (F : FunD K "over" "over" (defArgs (top 14)) (defBody (top 14)) (defScope (top 14)) [] [] f2 fd2) : L2H.FnH P0 w K mg base (L2.CX P0 w) 2 f2 fd2 ["one", "two"] (spOv K C) := by
  have G := fr0H (P0 := P0) (w := w) (base := base) X Y.F
  obtain ⟨oc, od, dV, kV, doc, pm, an, cdv, ct, osl, rfl, lk, hcd, _, _⟩ := F.ex
  refine L2H.fn_ofH (k := 1) lk hcd sc_over (fun vs H Q E h => ?_) (fun A outer s H vs Q E p hot hr h => ?_)
  · obtain ⟨a, b, xs, x, y, rfl, _⟩ := h; rfl
  · obtain ⟨a, b, xs, x, y, rfl, ha, h0, h1, hb, hE⟩ := h
    refine ⟨_, pss_one (ps_ret (L2H.pe_callH (E := WE fun cls d _ H => E cls d H) G hr ⟨p, hot, List.mem_cons_self⟩ rfl Y.g Y.F.kp Y.b (fun σ => passAt (takes_of rfl rfl rfl rfl) σ)
      (pa_cons (pe_op op_mul (pe_ix ix_seq (pe_var (i := 0) rfl (.inl rfl)) pe_int (plainIx_of rfl)) (pe_ix ix_tup (pe_var (i := 1) rfl (.inl rfl)) pe_int (plainIx_of rfl)))
        (pa_cons (pe_op op_mul (pe_ix ix_seq (pe_var (i := 0) rfl (.inl rfl)) pe_int (plainIx_of rfl)) (pe_ix ix_tup (pe_var (i := 1) rfl (.inl rfl)) pe_int (plainIx_of rfl))) pa_nil)))), ?_⟩
    have hx : ∀ {i : Int} {z : V} {Q : VK}, atI xs i = some z → Q z H → rIx K (V.ref a) (V.int i) H Q := fun e q => ha.elim (fun h => .inl ⟨a, xs, _, _, rfl, rfl, h, e, q⟩) fun h => .inr (.inl ⟨a, xs, _, _, rfl, rfl, h, e, q⟩)
    refine ⟨_, rfl, hx h0 ⟨_, rfl, b, _, 1, _, rfl, rfl, hb, rfl, x, 1, rfl, rfl, .inr (by decide), ?_⟩⟩
    refine ⟨_, rfl, hx h1 ⟨_, rfl, b, _, 0, _, rfl, rfl, hb, rfl, y, 0, rfl, rfl, .inr (by decide), ?_⟩⟩
    refine ⟨x * 1, ?_, hE⟩
    show [V.int (x * 1), V.int (y * 0)] = _
    rw [Int.mul_zero]
end
end Wv.T

set_option autoImplicit false
set_option linter.all false
set_option maxRecDepth 100000
set_option maxHeartbeats 4000000
namespace Wv.T
open PySem Wv PySem.Spec PyProof.Rows L2
section
variable {P0 : Program} {w : World} {K : PySem.W.Frag} {mg : Str → Option Value} {base : Heap} {Cc Wc f f2 f3 : Addr} {fd fd2 fd3 : FuncData}
theorem frac0 {n : Nat} {a : Int} {ω : Orc} : run gt P (n + 1) 6 [.v false (.int a), .v false (.int 0)] ω = .exc 0 .none ω := by
  rw [run_at (d := d_fraction) rfl rfl]
  unfold d_fraction entry
  simp [frz_id, nOwn]
section
variable {gt' : Nat → Option PyData} {call : Nat → List Slot → M PyData} {ρ : Env}
theorem kO_st (f : PyData → PyData → Option PyData) (b : E) : kO gt' call f b ρ .stuck = .stuck := rfl
theorem k1_st (f : PyData → Option PyData) : k1 f .stuck = .stuck := rfl
theorem kEx_st : kEx ρ .stuck = .stuck := rfl
theorem kS_st (b : S) : kS gt' call b .stuck = .stuck := rfl
theorem kOut_st : kOut .stuck = .stuck := rfl
theorem rO_none (ω : Orc) : rO none ω = .stuck := rfl
end
theorem sub_int {z : PyData} {d : PyData} (h : bop .sub z (.int 1) = some d) : ∃ p, z = .int p := by
  cases z <;> first | exact ⟨_, rfl⟩ | cases h
theorem ref_split {m : Nat} {g : G} {vs : List V} {H : Hp} {Q : VK} {E : XK} (h : spF g K w (run gt P m) 16 vs H Q E) : 2 ≤ m ∧ ∃ (a : Addr) (xs : List V) (p q : Int) (F : Hp), vs = [V.ref a] ∧ (SqL K H a xs ∨ SqT K H a xs) ∧ atI xs 0 = some (V.int p) ∧ atI xs 1 = some (V.int q) ∧ Fit F H ∧ ∀ H', Ext H F H' F → Q (.bl true) H' := by
  obtain ⟨A, F, ω, as, hf, st, ar, post⟩ := h
  match m, post with
  | 0, post => exact post.elim
  | m + 1, post =>
    by_cases hl : as.length = 1
    case neg =>
      exfalso
      have : run gt P (m + 1) 16 as ω = .stuck := by
        rw [run]
        show M.guard (decide (as.length = 1)) _ ω = _
        rw [decide_eq_false hl]; rfl
      rw [this] at post
      exact post
    rw [run_at (d := d__law_refused) rfl hl] at post
    obtain ⟨s, rfl⟩ : ∃ s, as = [s] := List.length_eq_one_iff.mp hl
    cases ar with
    | cons r0 rr =>
    cases rr
    rename_i v
    cases s with
    | f k => exact (show False by unfold d__law_refused entry at post; simp [frz_id, nOwn, getV, M.stuck, kO_st, k1_st, kEx_st, kS_st, kOut_st] at post; exact post).elim
    | s => exact (show False by unfold d__law_refused entry at post; simp [frz_id, nOwn, getV, M.stuck, kO_st, k1_st, kEx_st, kS_st, kOut_st] at post; exact post).elim
    | un => exact r0.elim
    | x c p => exact r0.elim
    | v o d => cases o with
      | true => exact r0.elim
      | false =>
        unfold d__law_refused entry at post
        cases e0 : ixD d (.int 0) with
        | none =>
          simp [frz_id, nOwn, e0, rO_none, kO_st, kEx_st, kS_st, kOut_st] at post
          exact post.elim
        | some z0 =>
        cases s0 : bop .sub z0 (.int 1) with
        | none =>
          simp [frz_id, nOwn, e0, s0, rO_none, kEx_st, kS_st, kOut_st] at post
          exact post.elim
        | some y0 =>
        obtain ⟨p, rfl⟩ := sub_int s0
        cases e1 : ixD d (.int 1) with
        | none =>
          simp [frz_id, nOwn, e0, e1, rO_none, kO_st, kEx_st, kS_st, kOut_st] at post
          exact post.elim
        | some z1 =>
        cases s1 : bop .sub z1 (.int 1) with
        | none =>
          simp [frz_id, nOwn, e0, e1, s1, rO_none, kEx_st, kS_st, kOut_st] at post
          exact post.elim
        | some y1 =>
        obtain ⟨q, rfl⟩ := sub_int s1
        cases m with
        | zero =>
          have e6 : run gt P 0 6 [.v false (.int 3), .v false (.int 0)] ω = .stuck := rfl
          simp [frz_id, nOwn, e0, e1, s_try, kCa, e6, kTr, kS_st, kOut_st] at post
          exact post.elim
        | succ m =>
          have e6 := frac0 (n := m) (a := 3) (ω := ω)
          simp [frz_id, nOwn, e0, e1, s_try, kCa, e6, kTr, evHd, List.lookup] at post
          have fin : ∀ H', Ext H F H' F → Q (.bl true) H' := fun H' e => post H' F e.grow (st.ext e) _ (.dat (.bl _))
          refine ⟨by omega, ?_⟩
          cases d with
          | tuple ds =>
            obtain ⟨a, xs, rfl, h1, h2⟩ := RepF.tuple r0
            obtain ⟨v0, g0, g1⟩ := atI_map (α := Unit) h2 e0
            obtain ⟨v1, g2, g3⟩ := atI_map (α := Unit) h2 e1
            cases g1
            cases g3
            exact ⟨a, xs, p, q, F, rfl, .inr (sqT_mono hf h1), g0, g2, hf, fin⟩
          | list ds =>
            obtain ⟨a, xs, rfl, h1, h2⟩ := RepF.list r0
            obtain ⟨v0, g0, g1⟩ := atI_map (α := Unit) h2 e0
            obtain ⟨v1, g2, g3⟩ := atI_map (α := Unit) h2 e1
            cases g1
            cases g3
            exact ⟨a, xs, p, q, F, rfl, .inl (.inl (.inl (hf _ _ h1))), g0, g2, hf, fin⟩
          | str z =>
            obtain ⟨_, h1⟩ := gO_some e0
            obtain ⟨k, _, h3⟩ := Option.map_eq_some_iff.mp h1
            cases h3
          | dict kvs => exact absurd (gO_some (show gO later (gO (shp (.int 0)) (dfind kvs (.int 0))) = some (.int p) from e0)).1 (by decide)
          | _ => cases e0
end
end Wv.T

set_option autoImplicit false
set_option linter.all false
set_option maxRecDepth 100000
set_option maxHeartbeats 4000000
namespace Wv.T
open PySem Wv PySem.Spec PyProof.Rows L2
section
variable {P0 : Program} {w : World} {K : PySem.W.Frag} {mg : Str → Option Value} {base : Heap} {Cc Wc f f2 f3 : Addr} {fd fd2 fd3 : FuncData}
def tInner (K : PySem.W.Frag) (Cc : Addr) (W : WX) : TS := tDrop (tCallS (spOv K Cc) (WE W) (tCons (tVar 0) (tCons (tTup (tCons (tC (.int 0)) (tCons (tC (.int 1)) tNil))) tNil)))
def tYes (_ : Addr) (_ : Value) (_ : Option Addr) : TS := tRet (tC (.bl true))
def tSuite (K : PySem.W.Frag) (Cc Wc a : Addr) : TS := tSeq (tIfS (tNot (tB (tCB (rIsE K Cc a) (tCons (tVar 1) (tCons (tC (.ref Wc)) tNil))))) (tRet (tC (.bl false))) tNext) (fun D σ H => tInner K Cc (wHot K (.ref Cc) tYes D) D σ H)
theorem refusedOk (X : ExK K mg Cc) (Y : FrK K mg f fd) (gO : mg "over" = some (.ref f2)) (FO : FunD K "over" "over" (defArgs (top 14)) (defBody (top 14)) (defScope (top 14)) [] [] f2 fd2) (bO : Binds K fd2 ["one", "two"] [])
    (gW : mg "WovenwholeError" = some (.ref Wc)) (hI : isB Cc Wc K = true) (gI : mg "isinstance" = none) (F : FunD K "_law_refused" "_law_refused" (defArgs (top 21)) (defBody (top 21)) (defScope (top 21)) [] [] f3 fd3) (S : FnScope ["one", "error"] ["one"] (defScope (top 21))) (m : Nat) :
    FnOk P0 w K mg base (L2.CX P0 w) (m + 2) f3 fd3 ["one"] (spF (gG K) K w (run gt P m) 16) := by
  obtain ⟨xc, hk⟩ := isB_ok hI
  refine F.ok (k := m + 1) S (fun vs H Q E h => ?_) (fun cdv A outer s H vs Q E hr h => ?_)
  · obtain ⟨_, a, xs, p, q, F, rfl, _⟩ := ref_split h; rfl
  · obtain ⟨hm, a, xs, p, q, F, rfl, hs, h0, h1, hf, hq⟩ := ref_split h
    refine ⟨_, pss_cons (L2N.ps_try_as (i := 1) (Wout := W0) (c := .ref Cc) (tb := fun W => tDrop (tCallS (spFr0 Cc) (WE W) (tCons (tC (.int 3)) (tCons (tC (.int 0)) tNil))))
      (ts := fun a cls d D σ H => cls = .ref Cc ∧ d = none ∧ tSuite K Cc Wc a D σ H) rfl rfl S.nd rfl rfl ⟨rfl, by decide, .inl X.g⟩ (fun _ _ x => by
        obtain ⟨_, _, _, _, _, _, _, _, _, _, _, _, _, _, _, _, z⟩ := x
        exact z.elim)
      (fun W pn xe tk ps => pss_one (ps_expr (pe_callS (E := WE W) (fr0 X Y.F) (hr.mono (by omega)) rfl Y.g Y.F.kp Y.b (fun σ => L2N.passAt tk σ) (pa_cons pe_int (pa_cons pe_int pa_nil)))))
      (fun a oe cls d pn hz hfl => ⟨fun pins s σ H D I hh => by
        obtain ⟨rfl, rfl, hh⟩ := hh
        obtain ⟨vs, hv1⟩ := id hfl
        have hv2 := hz.2.2 vs hv1
        refine PSs.run (t := tSuite K Cc Wc a) ?_ pins s σ H D I hh
        refine pss_cons (ps_if (pt_not (pt_val (pe_callB (call_isE xc hz.zc hfl) rfl gI (by decide +kernel) (pa_cons (pe_var (i := 1) rfl (.inl rfl)) (pa_cons (pe_glob (v := .ref Wc) rfl gW rfl) pa_nil))))) (pss_one (ps_ret pe_bl)) pss_nil) (pss_one ?_)
        refine hot_try (tbd := tInner K Cc) (tsu := tYes) (cv := .ref Cc) rfl rfl ⟨rfl, by decide, .inl X.g⟩ (fun W pn2 xe2 sub tk2 => ?_) (fun a oe cls d pn _ _ => pss_one (ps_ret pe_bl))
        exact pss_one (ps_expr (L2H.pe_callH (E := WE W) (ovH X Y FO) ⟨((L2H.roomH_of hr).mono (j := 2) (by omega)).dp, ((L2H.roomH_of hr).mono (j := 2) (by omega)).un⟩ ⟨(a, oe), ⟨rfl, vs, hv1, hv2⟩, sub _ List.mem_cons_self⟩ rfl gO FO.kp bO (fun σ => passAt tk2 σ)
          (pa_cons (pe_var (i := 0) rfl (.inl rfl)) (pa_cons (pe_tup (pa_cons pe_int (pa_cons pe_int pa_nil))) pa_nil))))⟩)) pss_never, ?_⟩
    refine ⟨3, rfl, true, X.xm, fun _ b nb => ⟨rfl, rfl, ?_⟩, fun z => by cases z⟩
    refine ⟨_, rfl, V.ref Wc, .ref Wc, true, rfl, fun u r => r, hk, true, rfl, ?_⟩
    show tInner K Cc _ _ _ _
    refine ⟨_, rfl, ⟨by show 2 ≤ sizeLine; rw [sizeLine_eq]; decide, fun t nt => ?_⟩⟩
    have e0 : Ext H F (upd H t (.tup [V.int 0, V.int 1])) F := Ext.mk0 hf nt
    refine ⟨a, t, xs, p, q, rfl, hs.imp (sqL_mono e0.hs) (sqT_mono e0.hs), h0, h1, .of upd_same, X.xm, fun _ _ => hq _ e0⟩
end
end Wv.T

set_option autoImplicit false
set_option linter.all false
set_option maxRecDepth 100000
set_option maxHeartbeats 4000000
namespace Wv.T
open PySem Wv PySem.Spec PyProof.Rows L2
theorem hotOk__law_refused {P0 : Program} {w : World} {K : PySem.W.Frag} {h : Heap} {mg : Str → Option Value} {base : Heap} (KX : K.In h) (G : h.Ns mainGlobals mg) (c : He.SaysD fa fn K) (cx : exB K = true) :
    ∀ fd, FunD K "_law_refused" "_law_refused" (defArgs (top 21)) (defBody (top 21)) (defScope (top 21)) [] [] (He.ga K "_law_refused") fd → ∀ m, FnOk P0 w K mg base (L2.CX P0 w) (m + 2) (He.ga K "_law_refused") fd ["one"] (spF (gG K) K w (run gt P m) 16) := by
  intro fd F m
  obtain ⟨f1, F1⟩ := c.def_ 6 (d := h_fraction) rfl
  obtain ⟨f2, F2⟩ := c.def_ 10 (d := h_over) rfl
  have hx := (clsOk KX G c).cls 0 "NoSuch" rfl
  obtain ⟨_, h1, h2, _, h5, h6⟩ := hx
  have hn : He.Fa.ok K (.exc "NoSuch") = true := c.fact 19 (f := .exc "NoSuch") rfl
  have hW : He.Fa.ok K (.glo "WovenwholeError") = true := c.fact 40 (f := .glo "WovenwholeError") rfl
  have X : ExK K mg (He.ga K "NoSuch") := ⟨h1, h2, (He.exc_ok hn).1, h5, h6, (clsOk KX G c).exm 0 0 (Nat.lt_succ_self 0) (Nat.lt_succ_self 0)⟩
  have Y : FrK K mg (He.ga K "fraction") f1 := ⟨He.glo_ok KX G (c.fact 6 (f := .glo "fraction") rfl), F1, F1.bindsN fun _ _ _ _ _ _ us hl => match us, hl with | [_, _], _ => rfl⟩
  exact refusedOk X Y (He.glo_ok KX G (c.fact 10 (f := .glo "over") rfl)) F2 (F2.bindsN fun _ _ _ _ _ _ us hl => match us, hl with | [_, _], _ => rfl) (He.glo_ok KX G hW) cx ((clsOk KX G c).frn "isinstance" (by decide)) F ⟨rfl, rfl, rfl, by decide +kernel, rfl, by decide +kernel, by decide +kernel⟩ m
end Wv.T

namespace Wv.T
open PySem Wv PySem.Spec PyProof.Rows L2
theorem drawOk {P0 : Program} {w : World} {K : PySem.W.Frag} {h : Heap} {mg : Str → Option Value} {base : Heap} (KX : K.In h) (G : h.Ns mainGlobals mg) (c : He.SaysD fa fn K) :
    ∀ j, ck.dk = some j → ∃ x fd ps, ck.fn[j]? = some x ∧ mg x = some (.ref ((gG K).fa j)) ∧ PySem.W.keepIn K (.ref ((gG K).fa j)) = true ∧ Binds K fd ps [] ∧ FnOk P0 w K mg base (L2.CX P0 w) 2 ((gG K).fa j) fd ps (spD (gG K)) := by
  intro j e
  cases e
  obtain ⟨fd, F⟩ := c.def_ 13 (d := h__law_draw) rfl
  refine ⟨"_law_draw", fd, ["state", "limit"], rfl, He.glo_ok KX G (c.fact 13 (f := .glo "_law_draw") rfl), F.kp, F.bindsN fun _ _ _ _ _ _ us hl => match us, hl with | [_, _], _ => rfl, ?_⟩
  exact fn_draw (N := N__law_draw) (d := d__law_draw) (call := fun _ _ => M.stuck) (clsOk KX G c) ⟨⟨_, _, _, F, sc__law_draw, ck__law_draw⟩, rfl, rfl⟩ rfl fun ω n => draw_eval _ _ ω n
theorem law_body : defBody (top 22) = (defBody (top 22)).headD (.Pass ⟨0, 0, 0, 0⟩) :: (defBody (top 22)).tail := by kernel_rfl
end Wv.T
open PySem PySem.W PySem.Calls PyProof.Rows
theorem PySem.Challenge.cw_wovenwhole_k01_numbers_for_weavers_holds : PySem.Challenge.rw_wovenwhole_k01_numbers_for_weavers.Holds := by
  w_on; o_law
  refine HandSHeadRun.head_any (r := OpenLaw.row PySem.Challenge.rw_wovenwhole_k01_numbers_for_weavers) (q := view (OpenLaw.row PySem.Challenge.rw_wovenwhole_k01_numbers_for_weavers).prog [22]) (H := Wv.T.hk) (ob := Wv.T.ob) (M := 4000) (loose := Wv.T.loose) (d := HandSHeadRun.topDef (OpenLaw.row PySem.Challenge.rw_wovenwhole_k01_numbers_for_weavers).prog 22) (kwd := []) Wv.T.ob_eq
    (by kernel_rfl) (fun s => by kernel_rfl) Wv.T.hrun (by kernel_rfl) (by kernel_rfl) (by kernel_rfl) (by rfl) (by first | assumption | decide +kernel) (by decide +kernel) ⟨rfl, rfl, rfl, rfl, rfl, by decide +kernel⟩ ?hw ?hc
  case hw => w_witness2
  case hc =>
    refine L2.walk_ofE (l := PySem.Challenge.rw_wovenwhole_k01_numbers_for_weavers) (n := 63) (k := 203) (x := "script") (CX := L2.CX0) rfl (by decide) (by kernel_rfl) ⟨rfl, by decide, by decide⟩ ?F (fun _ _ _ _ z => z)
    intro w mg fa h Y hmG hmg0
    obtain ⟨K, KX, c, cx⟩ := Y
    have hmg : mg ("law" : PySem.Str) = some (.ref fa) := by
      have e : (HandSHeadRun.topDef (OpenLaw.row PySem.Challenge.rw_wovenwhole_k01_numbers_for_weavers).prog 22).name = ("law" : PySem.Str) := by kernel_rfl
      rw [← e]
      exact hmg0
    obtain ⟨fd, F⟩ := c.def_ 17 (d := Wv.T.h_law) rfl
    have e := hmg.symm.trans (He.glo_ok KX hmG (c.fact 17 (f := .glo "law") rfl))
    cases e
    have hb := L2.FunD.bindsA (ps := ["script"]) F fun _ _ _ _ _ _ us hl => match us, hl with | [_], _ => rfl
    have F2 : L2.FunD K "law" "law" (L2.defArgs (Wv.T.top 22)) (L2.defBody (Wv.T.top 22)) (L2.defScope (Wv.T.top 22)) [] [] (He.ga K "law") fd := F
    rw [Wv.T.law_body] at F2
    refine ⟨K, fd, Wv.spLaw (Wv.T.gG K) K, KX, fun s v => hb s [v] rfl, fun H a ns hl _ hS => ⟨a, ns, rfl, hl, hS, (fun p hp => by cases hp), fun _ => rfl⟩, fun base hK hB => ?_⟩
    have hd := Wv.T.drawOk (P0 := (PySem.Challenge.rw_wovenwhole_k01_numbers_for_weavers).prog) (w := w) (base := base) KX hmG c
    exact Wv.fn_cx0 (Wv.law_fn (c := Wv.T.ck) (g := Wv.T.gG K) (m := 200) (k := 202) (f := 17) (N := Wv.T.N_law) (b := Wv.T.lawB) (PP := Wv.T.P) (Wv.T.clsOk KX hmG c) ⟨⟨_, _, _, _, F2, Wv.T.sc_law, Wv.T.ck_law0, Wv.T.ck_law⟩⟩ (by decide)
      (Wv.ladder (Wv.T.clsOk KX hmG c) (Wv.T.known KX hmG c (Wv.T.hotOk__law_refused KX hmG c cx)) hd 200) (fun j ej => by
        obtain ⟨x, fd, ps, h1, h2, h3, h4, h5⟩ := hd j ej
        exact ⟨x, fd, ps, h1, h2, h3, h4, h5.mono (by omega)⟩) Wv.T.plain)

