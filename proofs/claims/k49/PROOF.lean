import PyProof.Rows.All
import PyProof.ReprReads
import PyProof.FitsInt
import PyProof.StrLawsRepr
import Wide.All
import OpenK.AllK
import Wide.FinOn
import HandS.ForMost
import HandS.Exc
import HandS.TryOnly
import HandS.ExcOwn
import HandS.WordsExc
import HandS.Wide
import HandS.TupAny
import HandS.Defaults
import HandS.Style
import HandS.TupMul
import KE.DataCmp
import KE.DataEq
import KE.SortData
import KE.KDictSum
import HandS.Conv
import HandS.ExcValue
import KE.DataMinMax
import PyProof.Rows.RowBridgeK
import KE.KTupSum
import PyProof.ReprRoads
import HandS.Zip
import KE.GoesEnum
import KE.GoesZip
import HandS.HeadHook1
import HandS.ExcIs
import HandS.TryMany
import PyProof.ExcBaseAll.ValueError
import HandS.SetFor
import HandS.Strs
import HandS.SetKeys
import HandS.Dict
import HandS.More
import HandS.EndBits
import HandS.HeadEnd
import HandS.Head0
import HandS.Head1
import HandS.Head2
import HandS.HeadHook2
import KE.KStateDown
import PySem.Challenge.RW_payhouse_k49_whole_first_orders
set_option Elab.async false
set_option linter.all false
set_option maxRecDepth 100000
set_option maxHeartbeats 0
namespace Y
/-! A small language of my own: values, expressions, statements, and what they come to. -/
abbrev Nm := Nat
inductive W where
  | non | bl (b : Bool) | int (i : Int) | str (s : List Nat)
  | tup (ws : List W) | lst (ws : List W) | dct (t : Bool) (kvs : List (W × W)) | ref (k : Nat)
  deriving Inhabited
mutual
def W.beq : W → W → Bool
  | .non, .non => true
  | .bl a, .bl b => a == b
  | .int a, .int b => decide (a = b)
  | .str a, .str b => decide (a = b)
  | .tup a, .tup b => W.beqL a b
  | .lst a, .lst b => W.beqL a b
  | .dct t a, .dct u b => t == u && W.beqD a b
  | .ref a, .ref b => decide (a = b)
  | _, _ => false
def W.beqL : List W → List W → Bool
  | [], [] => true
  | a :: r, b :: s => W.beq a b && W.beqL r s
  | _, _ => false
def W.beqD : List (W × W) → List (W × W) → Bool
  | [], [] => true
  | (a, x) :: r, (b, y) :: s => W.beq a b && (W.beq x y && W.beqD r s)
  | _, _ => false
end
mutual
theorem W.beq_eq : ∀ a b : W, W.beq a b = true → a = b
  | .non, b, h => by cases b <;> simp_all [W.beq]
  | .bl _, b, h => by cases b <;> simp_all [W.beq]
  | .int _, b, h => by cases b <;> simp_all [W.beq]
  | .str _, b, h => by cases b <;> simp_all [W.beq]
  | .tup x, b, h => by
    cases b <;> simp only [W.beq, Bool.false_eq_true] at h
    rw [W.beqL_eq _ _ h]
  | .lst x, b, h => by
    cases b <;> simp only [W.beq, Bool.false_eq_true] at h
    rw [W.beqL_eq _ _ h]
  | .dct t x, b, h => by
    cases b <;> simp only [W.beq, Bool.false_eq_true, Bool.and_eq_true, beq_iff_eq] at h
    rw [W.beqD_eq _ _ h.2, h.1]
  | .ref _, b, h => by cases b <;> simp_all [W.beq]
theorem W.beqL_eq : ∀ a b : List W, W.beqL a b = true → a = b
  | [], b, h => by cases b <;> simp_all [W.beqL]
  | x :: r, b, h => by
    cases b with
    | nil => simp [W.beqL] at h
    | cons y s =>
      simp only [W.beqL, Bool.and_eq_true] at h
      rw [W.beq_eq _ _ h.1, W.beqL_eq _ _ h.2]
theorem W.beqD_eq : ∀ a b : List (W × W), W.beqD a b = true → a = b
  | [], b, h => by cases b <;> simp_all [W.beqD]
  | (x, y) :: r, b, h => by
    cases b with
    | nil => simp [W.beqD] at h
    | cons z s =>
      obtain ⟨z1, z2⟩ := z
      simp only [W.beqD, Bool.and_eq_true] at h
      rw [W.beq_eq _ _ h.1, W.beq_eq _ _ h.2.1, W.beqD_eq _ _ h.2.2]
end
mutual
theorem W.beq_refl : ∀ a : W, W.beq a a = true
  | .non => rfl
  | .bl _ => by simp [W.beq]
  | .int _ => by simp [W.beq]
  | .str _ => by simp [W.beq]
  | .tup x => by simp only [W.beq]; exact W.beqL_refl x
  | .lst x => by simp only [W.beq]; exact W.beqL_refl x
  | .dct t x => by simp only [W.beq, W.beqD_refl x, Bool.and_true]; exact beq_self_eq_true t
  | .ref _ => by simp [W.beq]
theorem W.beqL_refl : ∀ a : List W, W.beqL a a = true
  | [] => rfl
  | x :: r => by simp only [W.beqL, W.beq_refl x, W.beqL_refl r, Bool.and_self]
theorem W.beqD_refl : ∀ a : List (W × W), W.beqD a a = true
  | [] => rfl
  | (x, y) :: r => by simp only [W.beqD, W.beq_refl x, W.beq_refl y, W.beqD_refl r, Bool.and_self]
end
instance : DecidableEq W := fun a b => if h : W.beq a b = true then .isTrue (W.beq_eq a b h) else .isFalse fun e => h (e ▸ W.beq_refl a)

/-- what stands at a place of the heap -/
inductive O where
  | lst (ws : List W) | dk (kvs : List (W × W)) | dt (kvs : List (W × W)) | ins (c : Nm) (fs : List (Nm × W))
  deriving Inhabited
abbrev WH := List O
abbrev Env := List (Option W)
/-- what an expression comes to -/
inductive R (α : Type) where
  | ok (a : α) (h : WH) | exc (c : Nm) (fs : List (Nm × W)) (h : WH) | bad
def R.bind {α β : Type} : R α → (α → WH → R β) → R β
  | .ok a h, f => f a h
  | .exc c fs h, _ => .exc c fs h
  | .bad, _ => .bad
/-- what a statement comes to -/
inductive Fl where
  | nx (σ : Env) (h : WH) | rt (w : W) (h : WH) | bk (σ : Env) (h : WH) | exc (c : Nm) (fs : List (Nm × W)) (h : WH) | bad
def R.flow {α : Type} : R α → (α → WH → Fl) → Fl
  | .ok a h, f => f a h
  | .exc c fs h, _ => .exc c fs h
  | .bad, _ => .bad
def Fl.seq : Fl → (Env → WH → Fl) → Fl
  | .nx σ h, f => f σ h
  | x, _ => x
def opt {α : Type} (o : Option α) (h : WH) : R α := match o with
  | some a => .ok a h
  | none => .bad
@[simp] theorem R.bind_ok {α β} (a : α) (h) (f : α → WH → R β) : (R.ok a h).bind f = f a h := by simp only [R.bind]
@[simp] theorem R.bind_exc {α β} (c fs h) (f : α → WH → R β) : (R.exc c fs h : R α).bind f = .exc c fs h := by simp only [R.bind]
@[simp] theorem R.bind_bad {α β} (f : α → WH → R β) : (R.bad : R α).bind f = .bad := by simp only [R.bind]
@[simp] theorem R.flow_ok {α} (a : α) (h) (f : α → WH → Fl) : (R.ok a h).flow f = f a h := by simp only [R.flow]
@[simp] theorem R.flow_exc {α} (c fs h) (f : α → WH → Fl) : (R.exc c fs h : R α).flow f = .exc c fs h := by simp only [R.flow]
@[simp] theorem R.flow_bad {α} (f : α → WH → Fl) : (R.bad : R α).flow f = .bad := by simp only [R.flow]
@[simp] theorem Fl.seq_nx (σ h) (f : Env → WH → Fl) : (Fl.nx σ h).seq f = f σ h := by simp only [Fl.seq]
@[simp] theorem Fl.seq_rt (w h) (f : Env → WH → Fl) : (Fl.rt w h).seq f = .rt w h := by simp only [Fl.seq]
@[simp] theorem Fl.seq_bk (σ h) (f : Env → WH → Fl) : (Fl.bk σ h).seq f = .bk σ h := by simp only [Fl.seq]
@[simp] theorem Fl.seq_exc (c fs h) (f : Env → WH → Fl) : (Fl.exc c fs h).seq f = .exc c fs h := by simp only [Fl.seq]
@[simp] theorem Fl.seq_bad (f : Env → WH → Fl) : Fl.bad.seq f = .bad := by simp only [Fl.seq]
@[simp] theorem opt_some {α} (a : α) (h) : opt (some a) h = .ok a h := by simp only [opt]
@[simp] theorem opt_none {α} (h) : opt (none : Option α) h = .bad := by simp only [opt]

/-! operations by values -/
def big : Nat := 16777216
inductive BO where
  | add | sub | mul | fdiv | mod | pow | shl | shr | band
  deriving DecidableEq
inductive CO where
  | eq | ne | lt | le | gt | ge | isin | notin | isv | isnt
  deriving DecidableEq
inductive Ty where
  | int | bool | str | tuple | list | dict
  deriving DecidableEq
inductive B1 where
  | len | sum | max | min | abs | int | list | tuple | sorted | all | any | repr | str | isi (t : Ty)
  deriving DecidableEq
inductive B2 where
  | max | min
  deriving DecidableEq
inductive Md where
  | pure | own | heap
  deriving DecidableEq
def mulOk (a b : Int) : Bool := decide (a.natAbs.log2 + b.natAbs.log2 < 60000000)
def divOk (b : Int) : Bool := decide (0 < b) && decide (b.natAbs.log2 < 9000)
def smallI (n : Int) : Bool := decide (-(2 ^ 62) ≤ n) && decide (n < 2 ^ 62)
def repW (ws : List W) (n : Nat) : List W := (List.replicate n ws).flatten
def binW : BO → W → W → Option W
  | .add, x, y => (match x, y with
    | .int a, .int b => some (.int (a + b))
    | .str a, .str b => if a.length + b.length ≤ big then some (.str (a ++ b)) else none
    | .tup a, .tup b => if a.length + b.length ≤ big then some (.tup (a ++ b)) else none
    | .lst a, .lst b => if a.length + b.length ≤ big then some (.lst (a ++ b)) else none
    | _, _ => none)
  | .sub, x, y => (match x, y with
    | .int a, .int b => some (.int (a - b))
    | _, _ => none)
  | .mul, x, y => (match x, y with
    | .int a, .int b => if mulOk a b then some (.int (a * b)) else none
    | .tup a, .int n => if smallI n && decide (a.length * n.toNat ≤ big) then some (.tup (repW a n.toNat)) else none
    | .lst a, .int n => if smallI n && decide (a.length * n.toNat ≤ big) then some (.lst (repW a n.toNat)) else none
    | _, _ => none)
  | .fdiv, x, y => (match x, y with
    | .int a, .int b => if divOk b then some (.int (a / b)) else none
    | _, _ => none)
  | .mod, x, y => (match x, y with
    | .int a, .int b => if 0 < b then some (.int (a % b)) else none
    | _, _ => none)
  | .pow, x, y => (match x, y with
    | .int a, .int b => if decide (0 ≤ b) && (decide (b ≤ 1000) && decide (a.natAbs < 2 ^ 64)) then some (.int (a ^ b.toNat)) else none
    | _, _ => none)
  | .shl, _, _ => none
  | .shr, _, _ => none
  | .band, _, _ => none
/-! == by values: a bool is an int -/
def b2i (b : Bool) : Int := if b then 1 else 0
mutual
def eqW : W → W → Bool
  | .non, .non => true
  | .bl a, .bl b => a == b
  | .bl a, .int b => decide (b2i a = b)
  | .int a, .bl b => decide (a = b2i b)
  | .int a, .int b => decide (a = b)
  | .str a, .str b => decide (a = b)
  | .tup a, .tup b => eqL a b
  | .lst a, .lst b => eqL a b
  | _, _ => false
def eqL : List W → List W → Bool
  | [], [] => true
  | a :: r, b :: s => eqW a b && eqL r s
  | _, _ => false
end
def inW (x : W) (ws : List W) : Bool := ws.any fun y => eqW y x
mutual
/-- no reference lies within -/
def pureW : W → Bool
  | .tup ws => pureL ws
  | .lst ws => pureL ws
  | .dct _ _ => false
  | .ref _ => false
  | _ => true
def pureL : List W → Bool
  | [] => true
  | w :: r => pureW w && pureL r
end
mutual
/-- no reference lies within, dicts may -/
def vW : W → Bool
  | .tup ws => vL ws
  | .lst ws => vL ws
  | .dct _ kvs => vD kvs
  | .ref _ => false
  | _ => true
def vL : List W → Bool
  | [] => true
  | w :: r => vW w && vL r
def vD : List (W × W) → Bool
  | [] => true
  | (_, w) :: r => vW w && vD r
end
/-- a tuple of an int and a text: no constant of a text is so -/
def mixW : List W → Bool
  | [.int _, .str _] => true
  | [.str _, .int _] => true
  | _ => false
/-- what stands at a key -/
def getD (k : W) : List (W × W) → Option W
  | [] => none
  | (c, w) :: r => if c = k then some w else getD k r
/-- put at a key: in its place, or at the end -/
def repD (k w : W) : List (W × W) → List (W × W)
  | [] => []
  | (c, x) :: r => (c, if c = k then w else x) :: repD k w r
def putD (k w : W) (l : List (W × W)) : List (W × W) := if (getD k l).isSome then repD k w l else l ++ [(k, w)]
def mergeD : List (W × W) → List (W × W) → List (W × W)
  | acc, [] => acc
  | acc, (k, w) :: r => mergeD (putD k w acc) r
mutual
/-- how deep -/
def depW : W → Nat
  | .tup ws => depL ws + 1
  | .lst ws => depL ws + 1
  | _ => 0
def depL : List W → Nat
  | [] => 0
  | w :: r => max (depW w) (depL r)
end
def scalW : W → Bool
  | .tup [] => true
  | .lst [] => true
  | .tup _ => false
  | .lst _ => false
  | _ => true
def depOk (x y : W) : Bool := scalW x || (scalW y || (decide (depW x ≤ 100) || decide (depW y ≤ 100)))
mutual
/-- place by place of one kind -/
def alikeW : W → W → Bool
  | .non, .non => true
  | .bl _, .bl _ => true
  | .int _, .int _ => true
  | .str _, .str _ => true
  | .tup a, .tup b => alikeL a b
  | _, _ => false
def alikeL : List W → List W → Bool
  | a :: r, b :: s => alikeW a b && alikeL r s
  | _, _ => true
end
/-- < by values, for what is alike -/
def lexN : List Nat → List Nat → Bool
  | _, [] => false
  | [], _ :: _ => true
  | a :: r, b :: s => if a = b then lexN r s else decide (a < b)
mutual
def ltB : W → W → Bool
  | .int a, .int b => decide (a < b)
  | .bl a, .bl b => !a && b
  | .str a, .str b => lexN a b
  | .tup a, .tup b => ltBL a b
  | _, _ => false
def ltBL : List W → List W → Bool
  | _, [] => false
  | [], _ :: _ => true
  | a :: r, b :: s => if a = b then ltBL r s else ltB a b
end
def ltW (x y : W) : Option Bool := match x, y with
  | .int a, .int b => some (decide (a < b))
  | .str a, .str b => some (lexN a b)
  | .tup a, .tup b => if pureL a && (pureL b && (alikeL a b && (decide (depL a ≤ 90) || decide (depL b ≤ 90)))) then some (ltBL a b) else none
  | _, _ => none
def isNonW : W → Bool
  | .non => true
  | _ => false
def isBlW (b : Bool) : W → Bool
  | .bl a => a == b
  | _ => false
def isV : W → W → Option Bool
  | x, .non => some (isNonW x)
  | x, .bl b => some (isBlW b x)
  | _, _ => none
/-- one sign in a text; a text in a text of two signs or more isn't served -/
def inS (x s : List Nat) : Option Bool := match x with
  | [c] => some (s.contains c)
  | _ => none
def cmpW : CO → W → W → Option Bool
  | .eq, x, y => if pureW x && (pureW y && depOk x y) then some (eqW x y) else none
  | .ne, x, y => if pureW x && (pureW y && depOk x y) then some (!eqW x y) else none
  | .lt, x, y => ltW x y
  | .gt, x, y => ltW y x
  | .le, x, y => (match x, y with
    | .int a, .int b => some (decide (a ≤ b))
    | .str a, .str b => some (!lexN b a)
    | _, _ => none)
  | .ge, x, y => (match x, y with
    | .int a, .int b => some (decide (b ≤ a))
    | .str a, .str b => some (!lexN a b)
    | _, _ => none)
  | .isin, x, y => (match y with
    | .tup ws => if pureW x && (pureL ws && (scalW x || (decide (depW x ≤ 90) || decide (depL ws ≤ 90)))) then some (inW x ws) else none
    | .lst ws => if pureW x && (pureL ws && (scalW x || (decide (depW x ≤ 90) || decide (depL ws ≤ 90)))) then some (inW x ws) else none
    | .str s => (match x with
      | .str a => inS a s
      | _ => none)
    | _ => none)
  | .notin, x, y => (match y with
    | .tup ws => if pureW x && (pureL ws && (scalW x || (decide (depW x ≤ 90) || decide (depL ws ≤ 90)))) then some (!inW x ws) else none
    | .lst ws => if pureW x && (pureL ws && (scalW x || (decide (depW x ≤ 90) || decide (depL ws ≤ 90)))) then some (!inW x ws) else none
    | .str s => (match x with
      | .str a => (inS a s).map (!·)
      | _ => none)
    | _ => none)
  | .isv, x, y => isV x y
  | .isnt, x, y => (isV x y).map (!·)
def ixN (n : Nat) (i : Int) : Option Nat := if 0 ≤ i then (if i < n then some i.toNat else none) else if -(n : Int) ≤ i then some (i + n).toNat else none
def atI {α : Type} (xs : List α) (i : Int) : Option α := (ixN xs.length i).bind fun j => xs[j]?
def ixW : W → W → Option W
  | .tup ws, .int i => atI ws i
  | .lst ws, .int i => atI ws i
  | .str s, .int i => if s.length ≤ big then (atI s i).map fun c => .str [c] else none
  | _, _ => none
/-- where a slice begins, ends -/
def sIx (n d : Nat) : Option Int → Nat
  | none => d
  | some v => if v < 0 then (v + (n : Int)).toNat else min v.toNat n
def cutL {α : Type} (xs : List α) (lo hi : Option Int) : List α := (xs.drop (sIx xs.length 0 lo)).take (sIx xs.length xs.length hi - sIx xs.length 0 lo)
def slW : W → Option Int → Option Int → Option W
  | .tup ws, lo, hi => some (.tup (cutL ws lo hi))
  | .lst ws, lo, hi => some (.lst (cutL ws lo hi))
  | .str s, lo, hi => if s.length ≤ big then some (.str (cutL s lo hi)) else none
  | _, _, _ => none
def intsOf : List W → Option (List Int)
  | [] => some []
  | .int i :: r => (intsOf r).map (i :: ·)
  | _ :: _ => none
def boolsOf : List W → Option (List Bool)
  | [] => some []
  | .bl b :: r => (boolsOf r).map (b :: ·)
  | _ :: _ => none
def maxI (x : Int) : List Int → Int
  | [] => x
  | y :: r => maxI (if y > x then y else x) r
def minI (x : Int) : List Int → Int
  | [] => x
  | y :: r => minI (if y < x then y else x) r
def insI (x : Int) : List Int → List Int
  | [] => [x]
  | y :: r => if x ≤ y then x :: y :: r else y :: insI x r
def sortI : List Int → List Int
  | [] => []
  | x :: r => insI x (sortI r)
/-- put into a rising list, once -/
def insU (x : Int) : List Int → List Int
  | [] => [x]
  | y :: r => if x < y then x :: y :: r else if x = y then y :: r else y :: insU x r
def ssetI : List Int → List Int
  | [] => []
  | x :: r => insU x (ssetI r)
def tyW : Ty → W → Bool
  | .int, .int _ => true
  | .int, .bl _ => true
  | .bool, .bl _ => true
  | .str, .str _ => true
  | .tuple, .tup _ => true
  | .list, .lst _ => true
  | .dict, .dct _ _ => true
  | _, _ => false
end Y

namespace Y
/-! what is called by name: built-in functions, methods -/
inductive Op where
  | len | sum | max1 | min1 | max2 | min2 | abs | int | list | tuple | sorted | all | any | repr | str | isi (t : Ty) | join | sset | lrg | rev | lset
  deriving DecidableEq
inductive IK where
  | seq | rng1 | rng2 | enum | zip
  deriving DecidableEq
/-- a target -/
inductive Tg where
  | v (i : Nat) | t (ts : List Tg)
  deriving Inhabited
inductive E where
  | v (i : Nat) | k (w : W) | g (x : Nm)
  | tup (es : List E) | lst (es : List E)
  | bin (o : BO) (a b : E) | neg (a : E)
  | cmp (o : CO) (a b : E) | cmp2 (o p : CO) (a b c : E)
  | andL (es : List E) | orL (es : List E) | notE (a : E) | ife (c a b : E)
  | ix (a i : E) | sl (a lo hi : E)
  | call (m : Md) (f : Nm) (es : List E)
  | op (f : Op) (es : List E)
  | comp (own : List Nat) (tg : Tg) (ik : IK) (es : List E) (cond elt : E)
  | thaw (e : E) | app (o e : E) | pop (o : E)
  | fld (o : E) (f : Nm) | meth (o : E) (c m : Nm) (es : List E) | new (c : Nm) (es : List E)
  | dget (tp : Bool) (d : E) (ks : List E) | dget2 (tp : Bool) (d : E) (ks : List E) (x : E) | din (no tp : Bool) (ks : List E) (d : E) | dnew (t : Bool) | mkd (e : E)
  deriving Inhabited
/-- what an except suite hands back -/
inductive HE where
  | k (w : W) | isi (c : Nm) | isb | and (a b : HE) | or (a b : HE) | ife (c a b : HE)
  deriving Inhabited
inductive S where
  | asg (tg : Tg) (e : E) | par (is : List Nat) (es : List E)
  | sub (o i e : E) | fld (o : E) (f : Nm) (e : E) | dput (tp : Bool) (d : E) (ks : List E) (e : E)
  | aug (i : Nat) (o : BO) (e : E)
  | ex (e : E) | ret (e : E) | retN
  | ite (c : E) (a b : List S)
  | forS (tg : Tg) (ik : IK) (es : List E) (wip : List Nat) (body : List S)
  | whl (n : Nat) (c : E) (wip : List Nat) (body : List S)
  | pass | brk
  | raise (c : Nm)
  | tryS (body : List S) (bind : Option Nat) (hs : List (Nm × HE))
  deriving Inhabited
structure Df where
  ps : Nat
  ns : Nat
  body : List S
  deriving Inhabited
/-- what stands around: constants, calls, classes -/
structure Cal where
  con : Nm → Option W
  run : Nm → List W → WH → R W
  sub : Nm → Nm → Bool
  mro : Nm → Nm → Option Nm

/-- a list or dict of the heap, as it stands -/
def view (h : WH) : W → W
  | .ref k => (match h[k]? with
    | some (.lst ws) => .lst ws
    | some (.dk kvs) => .dct false kvs
    | some (.dt kvs) => .dct true kvs
    | _ => .ref k)
  | w => w
def allLt (ws : List W) : Bool := ws.all fun a => ws.all fun b => (ltW a b).isSome
def insG (x : W) : List W → List W
  | [] => [x]
  | y :: r => if ltW y x = some true then y :: insG x r else x :: y :: r
def sortG : List W → List W
  | [] => []
  | x :: r => insG x (sortG r)
/-- the data of a value without references -/
def strC (s : List Nat) : PySem.Str := ⟨s.toArray⟩
mutual
def dataW : W → PySem.PyData
  | .non => .none
  | .bl b => .bool b
  | .int i => .int i
  | .str s => .str (strC s)
  | .tup ws => .tuple (dataL ws)
  | .lst ws => .list (dataL ws)
  | _ => .none
def dataL : List W → List PySem.PyData
  | [] => []
  | w :: r => dataW w :: dataL r
end
def reprW (w : W) : Option W := if pureW w && ((dataW w).showable && (decide ((dataW w).shown.length ≤ big) && decide (depW w ≤ 100))) then some (.str (dataW w).shown.cps.toList) else none
def strOf (i : Int) : List Nat := (PySem.Str.ofString (toString i)).cps.toList
def joinL (sep : List Nat) : List (List Nat) → List Nat
  | [] => []
  | [x] => x
  | x :: y :: r => x ++ sep ++ joinL sep (y :: r)
def strsOf : List W → Option (List (List Nat))
  | [] => some []
  | .str i :: r => (strsOf r).map (i :: ·)
  | _ :: _ => none
/-- sorted, by < -/
def insB (lt : W → W → Bool) (x : W) : List W → List W
  | [] => [x]
  | y :: r => if lt y x then y :: insB lt x r else x :: y :: r
def isortB (lt : W → W → Bool) : List W → List W
  | [] => []
  | x :: r => insB lt x (isortB lt r)
def sortW (ws : List W) : List W := isortB ltB ws
def isTup1 : W → Bool
  | .tup (_ :: _) => true
  | _ => false
def isAtom : W → Bool
  | .bl _ => true
  | .int _ => true
  | .str _ => true
  | _ => false
def okSort (ws : List W) : Bool := ws.all (fun a => pureW a && (decide (depW a ≤ 100) && ws.all (alikeW a))) && (ws.all isTup1 || ws.all isAtom)
/-- keys: ints and texts -/
def isKeyW : W → Bool
  | .int _ => true
  | .str _ => true
  | _ => false
def keysW (ws : List W) : Bool := ws.all isKeyW
def wK : Sum Int PySem.Str → W
  | .inl i => .int i
  | .inr s => .str s.cps.toList
def tkW (ks : List (Sum Int PySem.Str)) : W := .tup (ks.map wK)
/-- may it be a key: a tuple that is made at its place, or one that is no constant -/
def keyOk (disp t : Bool) (k : W) : Bool := match t, k with
  | true, .tup ws => keysW ws && (disp || mixW ws)
  | false, k => isKeyW k
  | _, _ => false
def getW (disp : Bool) (d k : W) : Option (Option W) := match d with
  | .dct t kvs => if keyOk disp t k then some (getD k kvs) else none
  | _ => none
def isDct : W → Bool
  | .dct _ _ => true
  | _ => false
def pairsW : List W → Option (List (W × W))
  | [] => some []
  | .tup [k, w] :: r => if isKeyW k then (pairsW r).map ((k, w) :: ·) else none
  | _ :: _ => none
/-- the key, of a display or by itself -/
def keyOf : Bool → List W → Option W
  | true, ws => if ws.length ≤ 1000 then some (.tup ws) else none
  | false, [w] => some w
  | _, _ => none
/-- how many unlike ones -/
def cntS {α : Type} [DecidableEq α] (p : List α × Nat) (x : α) : List α × Nat := (x :: p.1, if x ∈ p.1 then p.2 else p.2 + 1)
def cntF {α : Type} [DecidableEq α] (l : List α) : Nat := (l.foldl cntS ([], 0)).2
/-- the first of the least -/
def minG (x : W) (xs : List W) : W := xs.foldl (fun a y => if ltB y a then y else a) x
def minT (xs : List W) : Option W := match xs with
  | [] => none
  | x :: r => if okSort (x :: r) && decide ((x :: r).length ≤ 1000000) then some (minG x r) else none
/-- pure operations on what is viewed -/
def opW : Op → List W → Option W
  | .len, ws => (match ws with
    | [.tup xs] => some (.int xs.length)
    | [.lst xs] => some (.int xs.length)
    | [.str s] => if s.length ≤ big then some (.int s.length) else none
    | [.dct false kvs] => some (.int kvs.length)
    | _ => none)
  | .sum, ws => (match ws with
    | [.tup xs] => (intsOf xs).map fun l => .int l.sum
    | [.lst xs] => (intsOf xs).map fun l => .int l.sum
    | _ => none)
  | .max1, ws => (match ws with
    | [.lst xs] => (intsOf xs).bind fun l => match l with
      | [] => none
      | x :: r => some (.int (maxI x r))
    | _ => none)
  | .min1, ws => (match ws with
    | [.lst xs] => (match intsOf xs with
      | some l => (match l with
        | [] => none
        | x :: r => some (.int (minI x r)))
      | none => minT xs)
    | _ => none)
  | .max2, ws => (match ws with
    | [.int a, .int b] => some (.int (if b > a then b else a))
    | _ => none)
  | .min2, ws => (match ws with
    | [.int a, .int b] => some (.int (if b < a then b else a))
    | _ => none)
  | .abs, ws => (match ws with
    | [.int a] => some (.int (if a < 0 then -a else a))
    | _ => none)
  | .int, ws => (match ws with
    | [.int a] => some (.int a)
    | _ => none)
  | .list, ws => (match ws with
    | [.tup xs] => some (.lst xs)
    | [.lst xs] => some (.lst xs)
    | [.dct false kvs] => some (.lst (kvs.map (·.1)))
    | _ => none)
  | .tuple, ws => (match ws with
    | [.tup xs] => some (.tup xs)
    | [.lst xs] => some (.tup xs)
    | _ => none)
  | .sorted, ws => (match ws with
    | [.lst xs] => if okSort xs && decide (xs.length ≤ 10000) then some (.lst (sortW xs)) else none
    | [.dct false kvs] => if okSort (kvs.map (·.1)) && decide (kvs.length ≤ 10000) then some (.lst (sortW (kvs.map (·.1)))) else none
    | _ => none)
  | .all, ws => (match ws with
    | [.lst xs] => (boolsOf xs).map fun l => .bl (l.all id)
    | _ => none)
  | .any, ws => (match ws with
    | [.lst xs] => (boolsOf xs).map fun l => .bl (l.any id)
    | _ => none)
  | .repr, ws => (match ws with
    | [w] => reprW w
    | _ => none)
  | .str, ws => (match ws with
    | [.int i] => if i.natAbs.log2 < 1920 then some (.str (strOf i)) else none
    | _ => none)
  | .isi t, ws => (match ws with
    | [.ref _] => none
    | [.dct _ _] => none
    | [w] => some (.bl (tyW t w))
    | _ => none)
  | .lrg, ws => (match ws with
    | [.int n] => if decide (0 ≤ n) && decide (n ≤ 1000) then some (.lst ((List.range n.toNat).map fun (i : Nat) => .int (i : Int))) else none
    | _ => none)
  | .rev, ws => (match ws with
    | [.lst xs] => some (.lst xs.reverse)
    | [.tup xs] => some (.tup xs.reverse)
    | _ => none)
  | .lset, ws => (match ws with
    | [.lst xs] => if keysW xs && decide (xs.length < 4000) then some (.int (cntF xs : Nat)) else none
    | _ => none)
  | .sset, ws => (match ws with
    | [.lst xs] => (intsOf xs).bind fun l => if l.length < 60 then some (.lst ((ssetI l).map .int)) else none
    | _ => none)
  | .join, ws => (match ws with
    | [.str sep, .lst xs] => (strsOf xs).bind fun l => if (l.map fun s => s.length + sep.length).sum ≤ big then some (.str (joinL sep l)) else none
    | _ => none)
def lastRest (ws : List W) : Option (W × List W) := match ws.getLast? with
  | some w => some (w, ws.dropLast)
  | none => none
/-- operations that look at the heap -/
def opR (f : Op) (ws : List W) (h : WH) : R W := opt (opW f (ws.map (view h))) h
mutual
def asgT (h : WH) : Tg → W → Env → Option Env
  | .v i, w, σ => if i < σ.length then some (σ.set i (some w)) else none
  | .t ts, w, σ => (match view h w with
    | .tup ws => asgL h ts ws σ
    | .lst ws => asgL h ts ws σ
    | _ => none)
def asgL (h : WH) : List Tg → List W → Env → Option Env
  | [], [], σ => some σ
  | t :: ts, w :: ws, σ => (match asgT h t w σ with
    | some σ' => asgL h ts ws σ'
    | none => none)
  | _, _, _ => none
end
def wipE (σ : Env) : List Nat → Env
  | [] => σ
  | v :: vs => (wipE σ vs).set v none
/-- what a for walks -/
def rngL (lo : Int) (n : Nat) : List W := (List.range n).map fun i => .int (lo + (i : Nat))
def enumL (n : Nat) : List W → List W
  | [] => []
  | w :: r => .tup [.int n, w] :: enumL (n + 1) r
def zipL : List W → List W → List W
  | a :: r, b :: s => .tup [a, b] :: zipL r s
  | _, _ => []
def seqW : W → Option (List W)
  | .tup ws => some ws
  | .lst ws => some ws
  | .str s => some (s.map fun c => .str [c])
  | _ => none
def seqN : W → Option (List W)
  | .tup ws => some ws
  | .lst ws => some ws
  | _ => none
def itemsOf (h : WH) : IK → List W → Option (List W)
  | .seq, [w] => seqW (view h w)
  | .rng1, [.int n] => if smallI n then some (rngL 0 n.toNat) else none
  | .rng2, [.int a, .int b] => if smallI a && smallI b then some (rngL a (b - a).toNat) else none
  | .enum, [w] => (match view h w with
    | .tup ws => some (enumL 0 ws)
    | .lst ws => some (enumL 0 ws)
    | _ => none)
  | .zip, [a, b] => (match seqN (view h a), seqN (view h b) with
    | some x, some y => some (zipL x y)
    | _, _ => none)
  | _, _ => none
def isRef : W → Bool
  | .ref _ => true
  | _ => false
/-- does the source still stand as it stood -/
def stands (ik : IK) (ws : List W) (items : List W) (h : WH) : Bool := if ws.any isRef then decide (itemsOf h ik ws = some items) else true
def forL (ck : WH → Bool) (wip : List Nat) (f : W → Env → WH → Fl) : List W → Env → WH → Fl
  | [], σ, h => if ck h then .nx (wipE σ wip) h else .bad
  | w :: r, σ, h => if ck h then (match f w (wipE σ wip) h with
    | .nx σ' h' => forL ck wip f r σ' h'
    | .bk σ' h' => .nx σ' h'
    | x => x) else .bad
/-- a turn of a comprehension: an item of the new list, or none -/
def compL (ck : WH → Bool) (f : W → WH → R (Option W)) : List W → WH → R (List W)
  | [], h => if ck h then .ok [] h else .bad
  | w :: r, h => if ck h then (match f w h with
    | .ok o h1 => (match compL ck f r h1 with
      | .ok ys h2 => .ok (match o with | some y => y :: ys | none => ys) h2
      | _ => .bad)
    | _ => .bad) else .bad
def whlL (c : Env → WH → R W) (f : Env → WH → Fl) (wip : List Nat) : Nat → Env → WH → Fl
  | 0, _, _ => .bad
  | n + 1, σ, h => (c σ h).flow fun w h => match w with
    | .bl true => (match f σ h with
      | .nx σ' h' => whlL c f wip n (wipE σ' wip) h'
      | .bk σ' h' => .nx σ' h'
      | x => x)
    | .bl false => .nx σ h
    | _ => .bad
def frz (h : WH) : Nat → W → Option W
  | 0, _ => none
  | n + 1, w => if pureW w || vW w then some w else (match w with
    | .ref k => (match h[k]? with
      | some (.lst ws) => (ws.mapM (frz h n)).map .lst
      | some (.dk kvs) => if vD kvs then some (.dct false kvs) else none
      | some (.dt kvs) => if vD kvs then some (.dct true kvs) else none
      | _ => none)
    | .tup ws => (ws.mapM (frz h n)).map .tup
    | .lst ws => (ws.mapM (frz h n)).map .lst
    | _ => none)
/-- the modes of a call: by values alone, its new list handed over, over the heap -/
def callM (c : Cal) (m : Md) (f : Nm) (ws : List W) (h : WH) : R W := match m with
  | .heap => c.run f ws h
  | .pure => if pureL ws || vL ws then (match c.run f ws [] with
    | .ok w h' => opt (frz h' (h'.length + 8) w) h
    | .exc x fs _ => .exc x fs h
    | .bad => .bad) else .bad
  | .own => if pureL ws || vL ws then (match c.run f ws [] with
    | .ok (.ref k) h' => (match h'[k]? with
      | some (.lst xs) => if pureL xs then .ok (.ref h.length) (h ++ [.lst xs]) else .bad
      | _ => .bad)
    | .exc x fs _ => .exc x fs h
    | _ => .bad) else .bad
def getF (f : Nm) : List (Nm × W) → Option W
  | [] => none
  | (g, w) :: r => if g = f then some w else getF f r
def putF (f : Nm) (w : W) : List (Nm × W) → List (Nm × W)
  | [] => [(f, w)]
  | (g, x) :: r => if g = f then (g, w) :: r else (g, x) :: putF f w r
def getV (σ : Env) (i : Nat) (h : WH) : R W := match σ[i]? with
  | some (some w) => .ok w h
  | _ => .bad
def partI : E → W → Option (Option Int)
  | .k .non, _ => some none
  | _, .int i => some (some i)
  | _, _ => none
mutual
def ev (c : Cal) : E → Env → WH → R W
  | .v i, σ, h => getV σ i h
  | .k w, _, h => .ok w h
  | .g x, _, h => opt (c.con x) h
  | .tup es, σ, h => (evs c es σ h).bind fun ws h => .ok (.tup ws) h
  | .lst es, σ, h => (evs c es σ h).bind fun ws h => .ok (.lst ws) h
  | .bin o a b, σ, h => (ev c a σ h).bind fun x h => (ev c b σ h).bind fun y h => opt (binW o (view h x) (view h y)) h
  | .neg a, σ, h => (ev c a σ h).bind fun x h => match x with
    | .int i => .ok (.int (-i)) h
    | _ => .bad
  | .cmp o a b, σ, h => (ev c a σ h).bind fun x h => (ev c b σ h).bind fun y h => opt ((cmpW o (view h x) (view h y)).map .bl) h
  | .cmp2 o p a b d, σ, h => (ev c a σ h).bind fun x h => (ev c b σ h).bind fun y h => (match cmpW o (view h x) (view h y) with
    | some true => (ev c d σ h).bind fun z h => opt ((cmpW p (view h y) (view h z)).map .bl) h
    | some false => .ok (.bl false) h
    | none => .bad)
  | .andL es, σ, h => evAnd c es σ h
  | .orL es, σ, h => evOr c es σ h
  | .notE a, σ, h => (ev c a σ h).bind fun x h => match x with
    | .bl b => .ok (.bl (!b)) h
    | _ => .bad
  | .ife t a b, σ, h => (ev c t σ h).bind fun x h => match x with
    | .bl true => ev c a σ h
    | .bl false => ev c b σ h
    | _ => .bad
  | .ix a i, σ, h => (ev c a σ h).bind fun x h => (ev c i σ h).bind fun y h => opt (ixW (view h x) y) h
  | .sl a lo hi, σ, h => (ev c a σ h).bind fun x h => (ev c lo σ h).bind fun l h => (match partI lo l with
    | some l => (ev c hi σ h).bind fun u h => (match partI hi u with
      | some u => opt (slW (view h x) l u) h
      | none => .bad)
    | none => .bad)
  | .call m f es, σ, h => (evs c es σ h).bind fun ws h => callM c m f ws h
  | .op f es, σ, h => (evs c es σ h).bind fun ws h => opR f ws h
  | .comp own tg ik es cond elt, σ, h => (evs c es σ h).bind fun ws h => (match itemsOf h ik ws with
    | some items => if items.length ≤ big then (compL (stands ik ws items) (fun w h => match asgT h tg w (wipE σ own) with
      | some σ' => (ev c cond σ' h).bind fun b h => (match b with
        | .bl true => (ev c elt σ' h).bind fun y h => .ok (some y) h
        | .bl false => .ok none h
        | _ => .bad)
      | none => .bad) items h).bind fun ys h => .ok (.lst ys) h else .bad
    | none => .bad)
  | .thaw e, σ, h => (ev c e σ h).bind fun w h => match w with
    | .lst ws => .ok (.ref h.length) (h ++ [.lst ws])
    | _ => .bad
  | .app o e, σ, h => (ev c o σ h).bind fun x h => match x with
    | .ref k => (match h[k]? with
      | some (.lst _) => (ev c e σ h).bind fun w h => (match h[k]? with
        | some (.lst xs) => if xs.length < big then .ok .non (h.set k (.lst (xs ++ [w]))) else .bad
        | _ => .bad)
      | _ => .bad)
    | _ => .bad
  | .pop o, σ, h => (ev c o σ h).bind fun x h => match x with
    | .ref k => (match h[k]? with
      | some (.lst xs) => (match lastRest xs with
        | some (w, r) => .ok w (h.set k (.lst r))
        | none => .bad)
      | _ => .bad)
    | _ => .bad
  | .fld o f, σ, h => (ev c o σ h).bind fun x h => match x with
    | .ref k => (match h[k]? with
      | some (.ins _ fs) => opt (getF f fs) h
      | _ => .bad)
    | _ => .bad
  | .meth o k m es, σ, h => (ev c o σ h).bind fun x h => (evs c es σ h).bind fun ws h => match x with
    | .ref a => (match h[a]? with
      | some (.ins k' _) => if k' = k then (match c.mro k m with
        | some f => c.run f (x :: ws) h
        | none => .bad) else .bad
      | _ => .bad)
    | _ => .bad
  | .new k es, σ, h => (evs c es σ h).bind fun ws h => match c.mro k 0 with
    | some f => (c.run f (.ref h.length :: ws) (h ++ [.ins k []])).bind fun w h' => match w with
      | .non => .ok (.ref h.length) h'
      | _ => .bad
    | none => .bad
  | .dget tp d ks, σ, h => (ev c d σ h).bind fun x h => (evs c ks σ h).bind fun ys h => (match (keyOf tp ys).bind (getW tp (view h x)) with
    | some (some w) => .ok w h
    | _ => .bad)
  | .dget2 tp d ks z, σ, h => (ev c d σ h).bind fun x h => if isDct (view h x) then (evs c ks σ h).bind fun ys h => (match keyOf tp ys with
    | some y => (ev c z σ h).bind fun w h => (match getW tp (view h x) y with
      | some o => .ok (o.getD w) h
      | none => .bad)
    | none => .bad) else .bad
  | .din no tp ks d, σ, h => (evs c ks σ h).bind fun ys h => (match keyOf tp ys with
    | some y => (ev c d σ h).bind fun x h => (match getW tp (view h x) y with
      | some o => .ok (.bl (if no then !o.isSome else o.isSome)) h
      | none => .bad)
    | none => .bad)
  | .dnew t, _, h => .ok (.ref h.length) (h ++ [if t then .dt [] else .dk []])
  | .mkd e, σ, h => (ev c e σ h).bind fun x h => (match view h x with
    | .lst ws => (match pairsW ws with
      | some kvs => .ok (.dct false (mergeD [] kvs)) h
      | none => .bad)
    | _ => .bad)
def evs (c : Cal) : List E → Env → WH → R (List W)
  | [], _, h => .ok [] h
  | e :: r, σ, h => (ev c e σ h).bind fun w h => (evs c r σ h).bind fun ws h => .ok (w :: ws) h
def evAnd (c : Cal) : List E → Env → WH → R W
  | [], _, _ => .bad
  | e :: r, σ, h => (ev c e σ h).bind fun x h => match x with
    | .bl true => (match r with
      | [] => .ok (.bl true) h
      | _ => evAnd c r σ h)
    | .bl false => .ok (.bl false) h
    | _ => .bad
def evOr (c : Cal) : List E → Env → WH → R W
  | [], _, _ => .bad
  | e :: r, σ, h => (ev c e σ h).bind fun x h => match x with
    | .bl false => (match r with
      | [] => .ok (.bl false) h
      | _ => evOr c r σ h)
    | .bl true => .ok (.bl true) h
    | _ => .bad
end
def heV (c : Cal) (x : Nm) : HE → Option W
  | .k w => some w
  | .isi k => some (.bl (c.sub x k))
  | .isb => some (.bl true)
  | .and a b => (match heV c x a with
    | some (.bl true) => heV c x b
    | some (.bl false) => some (.bl false)
    | _ => none)
  | .or a b => (match heV c x a with
    | some (.bl false) => heV c x b
    | some (.bl true) => some (.bl true)
    | _ => none)
  | .ife t a b => (match heV c x t with
    | some (.bl true) => heV c x a
    | some (.bl false) => heV c x b
    | _ => none)
/-- the handler that takes an exception -/
def hfind (c : Cal) (x : Nm) : List (Nm × HE) → Option HE
  | [] => none
  | (k, e) :: r => if c.sub x k then some e else hfind c x r
def setP : List Nat → List W → Env → Option Env
  | [], [], σ => some σ
  | i :: is, w :: ws, σ => if i < σ.length then setP is ws (σ.set i (some w)) else none
  | _, _, _ => none
mutual
def exe (c : Cal) : S → Env → WH → Fl
  | .asg tg e, σ, h => (ev c e σ h).flow fun w h => match asgT h tg w σ with
    | some σ' => .nx σ' h
    | none => .bad
  | .par is es, σ, h => (evs c es σ h).flow fun ws h => match setP is ws σ with
    | some σ' => .nx σ' h
    | none => .bad
  | .sub o i e, σ, h => (ev c e σ h).flow fun w h => (ev c o σ h).flow fun x h => (ev c i σ h).flow fun y h => match x, y with
    | .ref k, .int n => (match h[k]? with
      | some (.lst ws) => (match ixN ws.length n with
        | some j => .nx σ (h.set k (.lst (ws.set j w)))
        | none => .bad)
      | _ => .bad)
    | _, _ => .bad
  | .fld o f e, σ, h => (ev c e σ h).flow fun w h => (ev c o σ h).flow fun x h => match x with
    | .ref k => (match h[k]? with
      | some (.ins d fs) => if fs.length < 1000 then .nx σ (h.set k (.ins d (putF f w fs))) else .bad
      | _ => .bad)
    | _ => .bad
  | .dput tp d ks e, σ, h => (ev c e σ h).flow fun w h => (ev c d σ h).flow fun x h => (evs c ks σ h).flow fun ys h => match x, keyOf tp ys with
    | .ref a, some y => (match h[a]? with
      | some (.dk kvs) => if keyOk tp false y && decide (kvs.length < big) then .nx σ (h.set a (.dk (putD y w kvs))) else .bad
      | some (.dt kvs) => if keyOk tp true y && decide (kvs.length < big) then .nx σ (h.set a (.dt (putD y w kvs))) else .bad
      | _ => .bad)
    | _, _ => .bad
  | .aug i o e, σ, h => (getV σ i h).flow fun x h => (ev c e σ h).flow fun y h => match x with
    | .ref k => (match h[k]?, view h y with
      | some (.lst xs), .lst ys => if xs.length + ys.length ≤ big then .nx σ (h.set k (.lst (xs ++ ys))) else .bad
      | _, _ => .bad)
    | _ => .bad
  | .ex e, σ, h => (ev c e σ h).flow fun _ h => .nx σ h
  | .ret e, σ, h => (ev c e σ h).flow fun w h => .rt w h
  | .retN, _, h => .rt .non h
  | .ite t a b, σ, h => (ev c t σ h).flow fun x h => match x with
    | .bl true => exs c a σ h
    | .bl false => exs c b σ h
    | _ => .bad
  | .forS tg ik es wip body, σ, h => (evs c es σ h).flow fun ws h => (match itemsOf h ik ws with
    | some items => forL (stands ik ws items) wip (fun w σ h => match asgT h tg w σ with
      | some σ' => exs c body σ' h
      | none => .bad) items σ h
    | none => .bad)
  | .whl n t wip body, σ, h => whlL (ev c t) (exs c body) wip n σ h
  | .pass, σ, h => .nx σ h
  | .brk, σ, h => .bk σ h
  | .raise k, _, h => .exc k [] h
  | .tryS body _ hs, σ, h => (match exs c body σ h with
    | .exc x fs h' => (match hfind c x hs with
      | some he => (match heV c x he with
        | some w => .rt w h'
        | none => .bad)
      | none => .exc x fs h')
    | r => r)
def exs (c : Cal) : List S → Env → WH → Fl
  | [], σ, h => .nx σ h
  | s :: r, σ, h => (exe c s σ h).seq fun σ h => exs c r σ h
end
def finF : Fl → R W
  | .nx _ h => .ok .non h
  | .rt w h => .ok w h
  | .exc c fs h => .exc c fs h
  | _ => .bad
def startE (ns : Nat) (ws : List W) : Env := ws.map some ++ List.replicate (ns - ws.length) none
/-- a text: its defs, its constants, its classes -/
structure Tx where
  df : Nm → Option Df
  con : Nm → Option W
  sub : Nm → Nm → Bool
  mro : Nm → Nm → Option Nm
def run (T : Tx) : Nat → Nm → List W → WH → R W
  | 0, _, _, _ => .bad
  | n + 1, f, ws, h => match T.df f with
    | some d => if ws.length = d.ps then finF (exs ⟨T.con, run T n, T.sub, T.mro⟩ d.body (startE d.ns ws) h) else .bad
    | none => .bad
def cal (T : Tx) (n : Nat) : Cal := ⟨T.con, run T n, T.sub, T.mro⟩
theorem run_succ {T : Tx} {n : Nat} {f : Nm} {d : Df} {ws : List W} {h : WH} (e : T.df f = some d) (l : ws.length = d.ps) : run T (n + 1) f ws h = finF (exs (cal T n) d.body (startE d.ns ws) h) := by
  simp only [run, e, l, if_true, cal]
end Y

namespace Tx
open Y
/-- is_whole: 0 value, 1 low, 2 high -/
def d_is_whole : Df := ⟨3, 3, [(.ret (.andL [(.op (.isi .int) [(.v 0)]), (.notE (.op (.isi .bool) [(.v 0)])), (.cmp2 .le .le (.v 1) (.v 0) (.v 2))]))]⟩
/-- is_tuple_of: 0 value, 1 low, 2 high -/
def d_is_tuple_of : Df := ⟨3, 3, [(.ret (.andL [(.op (.isi .tuple) [(.v 0)]), (.cmp2 .le .le (.v 1) (.op .len [(.v 0)]) (.v 2))]))]⟩
/-- fits_withholding: 0 value -/
def d_fits_withholding : Df := ⟨1, 1, [(.ite (.orL [(.notE (.call .pure 4 [(.v 0), (.k (.int 4)), (.k (.int 4))])), (.notE (.call .pure 3 [(.ix (.v 0) (.k (.int 0))), (.k (.int 0)), (.bin .sub (.g 6) (.k (.int 1)))]))]) [(.ret (.k (.bl false)))] []), (.ite (.orL [(.notE (.op (.isi .str) [(.ix (.v 0) (.k (.int 1)))])), (.cmp .notin (.ix (.v 0) (.k (.int 1))) (.tup [(.k (.str [102, 105, 120, 101, 100])), (.k (.str [115, 104, 97, 114, 101]))]))]) [(.ret (.k (.bl false)))] []), (.ite (.notE (.call .pure 3 [(.ix (.v 0) (.k (.int 2))), (.k (.int 0)), (.ife (.cmp .eq (.ix (.v 0) (.k (.int 1))) (.k (.str [102, 105, 120, 101, 100]))) (.g 7) (.g 8))])) [(.ret (.k (.bl false)))] []), (.ret (.orL [(.cmp .isv (.ix (.v 0) (.k (.int 3))) (.k .non)), (.call .pure 3 [(.ix (.v 0) (.k (.int 3))), (.k (.int 0)), (.g 9)])]))]⟩
/-- fits_withholdings: 0 value, 1 one -/
def d_fits_withholdings : Df := ⟨1, 2, [(.ret (.andL [(.call .pure 4 [(.v 0), (.k (.int 0)), (.g 5)]), (.op .all [(.comp [1] (.v 1) .seq [(.v 0)] (.k (.bl true)) (.call .pure 10 [(.v 1)]))])]))]⟩
/-- fresh_by: 0 withholdings -/
def d_fresh_by : Df := ⟨1, 1, [(.ret (.tup [(.k (.int 0)), (.bin .mul (.tup [(.k (.int 0))]) (.op .len [(.v 0)]))]))]⟩
/-- need_withholdings: 0 value -/
def d_need_withholdings : Df := ⟨1, 1, [(.ite (.notE (.call .pure 11 [(.v 0)])) [(.raise 2)] [])]⟩
/-- is_withholdings: 0 value -/
def d_is_withholdings : Df := ⟨1, 1, [(.ret (.call .pure 11 [(.v 0)]))]⟩
/-- fresh_standing: 0 withholdings -/
def d_fresh_standing : Df := ⟨1, 1, [(.ex (.call .pure 13 [(.v 0)])), (.ret (.call .pure 12 [(.v 0)]))]⟩
/-- _law_cup: 0 script, 1 cell -/
def d__law_cup : Df := ⟨1, 2, [(.asg (.v 1) (.op .abs [(.ix (.bin .add (.op .list [(.v 0)]) (.lst [(.k (.int 0))])) (.k (.int 0)))])), (.ret (.thaw (.lst [(.ife (.cmp .ge (.v 1) (.bin .pow (.k (.int 10)) (.k (.int 18)))) (.bin .fdiv (.v 1) (.k (.int 107))) (.k (.int 0))), (.bin .add (.bin .mod (.op .int [(.bin .add (.bin .mul (.v 1) (.k (.int 337))) (.k (.int 3511)))]) (.k (.int 2077503019))) (.k (.int 211)))])))]⟩
/-- _law_roll: 0 cup, 1 many, 2 found, 3 deep -/
def d__law_roll : Df := ⟨2, 4, [(.ite (.cmp .gt (.ix (.v 0) (.k (.int 0))) (.k (.int 0))) [(.asg (.v 2) (.bin .mod (.op .int [(.ix (.v 0) (.k (.int 0)))]) (.v 1))), (.sub (.v 0) (.k (.int 0)) (.bin .fdiv (.ix (.v 0) (.k (.int 0))) (.v 1))), (.ret (.v 2))] []), (.sub (.v 0) (.k (.int 1)) (.bin .mod (.op .int [(.bin .add (.bin .mul (.ix (.v 0) (.k (.int 1))) (.k (.int 31139))) (.k (.int 8087)))]) (.k (.int 2147483269)))), (.asg (.v 3) (.bin .mod (.op .int [(.bin .mul (.ix (.v 0) (.k (.int 1))) (.bin .add (.ix (.v 0) (.k (.int 1))) (.k (.int 277))))]) (.k (.int 2147483587)))), (.ret (.bin .mod (.op .int [(.bin .fdiv (.v 3) (.k (.int 877)))]) (.v 1)))]⟩
/-- _law_some: 0 cup, 1 things -/
def d__law_some : Df := ⟨2, 2, [(.ret (.ix (.v 1) (.call .heap 17 [(.v 0), (.op .len [(.v 1)])])))]⟩
/-- _law_withholdings: 0 cup, 1 found, 2 turn, 3 way, 4 amount -/
def d__law_withholdings : Df := ⟨1, 5, [(.asg (.v 1) (.tup [])), (.forS (.v 2) .rng1 [(.call .heap 18 [(.v 0), (.lst [(.k (.int 0)), (.k (.int 1)), (.k (.int 2)), (.k (.int 3)), (.k (.int 4)), (.k (.int 8))])])] [2, 3, 4] [(.asg (.v 3) (.call .heap 18 [(.v 0), (.lst [(.k (.str [102, 105, 120, 101, 100])), (.k (.str [102, 105, 120, 101, 100])), (.k (.str [115, 104, 97, 114, 101]))])])), (.asg (.v 4) (.ife (.cmp .eq (.v 3) (.k (.str [102, 105, 120, 101, 100]))) (.call .heap 18 [(.v 0), (.lst [(.k (.int 0)), (.k (.int 1)), (.k (.int 7)), (.k (.int 50)), (.k (.int 50)), (.k (.int 1000)), (.bin .pow (.k (.int 10)) (.k (.int 12)))])]) (.call .heap 18 [(.v 0), (.lst [(.k (.int 0)), (.k (.int 1)), (.k (.int 2500)), (.k (.int 3333)), (.k (.int 10000)), (.k (.int 5000))])]))), (.asg (.v 1) (.bin .add (.v 1) (.tup [(.tup [(.call .heap 18 [(.v 0), (.lst [(.k (.int 0)), (.k (.int 0)), (.k (.int 1)), (.k (.int 9)), (.k (.int 3)), (.call .heap 17 [(.v 0), (.k (.int 10))])])]), (.v 3), (.v 4), (.call .heap 18 [(.v 0), (.lst [(.k .non), (.k .non), (.k (.int 0)), (.k (.int 10)), (.k (.int 60)), (.k (.int 300)), (.bin .pow (.k (.int 10)) (.k (.int 15)))])])])])))]), (.ret (.v 1))]⟩
/-- _law_bent: 0 cup, 1 withholdings, 2 good, 3 rows, 4 at, 5 bent -/
def d__law_bent : Df := ⟨2, 6, [(.asg (.v 2) (.tup [(.k (.int 1)), (.k (.str [102, 105, 120, 101, 100])), (.k (.int 5)), (.k .non)])), (.asg (.v 3) (.lst [(.tup [(.k (.int 10)), (.k (.str [102, 105, 120, 101, 100])), (.k (.int 5)), (.k .non)]), (.tup [(.neg (.k (.int 1))), (.k (.str [102, 105, 120, 101, 100])), (.k (.int 5)), (.k .non)]), (.tup [(.k (.bl true)), (.k (.str [102, 105, 120, 101, 100])), (.k (.int 5)), (.k .non)]), (.tup [(.k (.int 1)), (.k (.str [112, 97, 114, 116])), (.k (.int 5)), (.k .non)]), (.tup [(.k (.int 1)), (.k .non), (.k (.int 5)), (.k .non)]), (.tup [(.k (.int 1)), (.lst [(.k (.str [102, 105, 120, 101, 100]))]), (.k (.int 5)), (.k .non)]), (.tup [(.k (.int 1)), (.k (.str [102, 105, 120, 101, 100])), (.bin .add (.bin .pow (.k (.int 10)) (.k (.int 12))) (.k (.int 1))), (.k .non)])])), (.asg (.v 3) (.bin .add (.v 3) (.lst [(.tup [(.k (.int 1)), (.k (.str [102, 105, 120, 101, 100])), (.neg (.k (.int 1))), (.k .non)]), (.tup [(.k (.int 1)), (.k (.str [115, 104, 97, 114, 101])), (.k (.int 10001)), (.k .non)]), (.tup [(.k (.int 1)), (.k (.str [115, 104, 97, 114, 101])), (.k (.bl false)), (.k .non)]), (.tup [(.k (.int 1)), (.k (.str [102, 105, 120, 101, 100])), (.k .non), (.k .non)]), (.tup [(.k (.int 1)), (.k (.str [102, 105, 120, 101, 100])), (.k (.int 5)), (.bin .add (.bin .pow (.k (.int 10)) (.k (.int 15))) (.k (.int 1)))])]))), (.asg (.v 3) (.bin .add (.v 3) (.lst [(.tup [(.k (.int 1)), (.k (.str [102, 105, 120, 101, 100])), (.k (.int 5)), (.neg (.k (.int 1)))]), (.tup [(.k (.int 1)), (.k (.str [102, 105, 120, 101, 100])), (.k (.int 5)), (.k (.bl true))])]))), (.asg (.v 3) (.bin .add (.v 3) (.lst [(.tup [(.k (.int 1)), (.k (.str [102, 105, 120, 101, 100])), (.k (.int 5))]), (.tup [(.k (.int 1)), (.k (.str [102, 105, 120, 101, 100])), (.k (.int 5)), (.k .non), (.k (.int 0))]), (.lst [(.k (.int 1)), (.k (.str [102, 105, 120, 101, 100])), (.k (.int 5)), (.k .non)]), (.k .non), (.k (.int 5)), (.k (.str [102, 105, 120, 101, 100])), (.tup [(.k .non), (.k (.str [102, 105, 120, 101, 100])), (.k (.int 5)), (.k .non)]), (.tup [(.k (.str [49])), (.k (.str [102, 105, 120, 101, 100])), (.k (.int 5)), (.k .non)])]))), (.asg (.v 3) (.bin .add (.v 3) (.lst [(.tup [(.k (.int 1)), (.k (.str [115, 104, 97, 114, 101])), (.k (.int 5)), (.k (.str [51]))]), (.tup [(.k (.int 1)), (.k (.str [115, 104, 97, 114, 101])), (.neg (.k (.int 1))), (.k .non)])]))), (.asg (.v 3) (.bin .add (.v 3) (.lst [(.tup [(.k (.int 1)), (.k (.str [115, 104, 97, 114, 101])), (.k (.int 5)), (.bin .add (.bin .pow (.k (.int 10)) (.k (.int 15))) (.k (.int 1)))]), (.tup [(.k (.int 1)), (.k (.str [115, 104, 97, 114, 101])), (.k (.int 5)), (.neg (.k (.int 1)))]), (.tup [(.k (.int 1)), (.k (.str [115, 104, 97, 114, 101])), (.k (.int 5)), (.k (.bl false))])]))), (.asg (.v 4) (.call .heap 17 [(.v 0), (.bin .add (.op .len [(.v 1)]) (.k (.int 1)))])), (.asg (.v 5) (.bin .add (.sl (.sl (.v 1) (.k .non) (.v 4)) (.k .non) (.k (.int 7))) (.tup [(.call .heap 18 [(.v 0), (.v 3)])]))), (.ret (.call .heap 18 [(.v 0), (.lst [(.v 5), (.v 5), (.v 5), (.bin .add (.v 5) (.sl (.v 1) (.k .non) (.bin .sub (.k (.int 7)) (.op .min2 [(.k (.int 7)), (.v 4)])))), (.op .list [(.v 1)]), (.k .non), (.bin .mul (.tup [(.v 2)]) (.k (.int 9))), (.v 2), (.k (.int 7)), (.k (.str [115, 104, 97, 114, 101]))])]))]⟩
/-- need_number: 0 value, 1 low, 2 high -/
def d_need_number : Df := ⟨3, 3, [(.ite (.notE (.call .pure 3 [(.v 0), (.v 1), (.v 2)])) [(.raise 22)] [])]⟩
/-- fits_standing: 0 withholdings, 1 value, 2 many, 3 one, 4 tops, 5 top -/
def d_fits_standing : Df := ⟨2, 6, [(.asg (.v 2) (.op .len [(.v 0)])), (.ite (.orL [(.notE (.call .pure 4 [(.v 1), (.k (.int 2)), (.k (.int 2))])), (.notE (.call .pure 3 [(.ix (.v 1) (.k (.int 0))), (.k (.int 0)), (.g 26)])), (.notE (.call .pure 4 [(.ix (.v 1) (.k (.int 1))), (.v 2), (.v 2)]))]) [(.ret (.k (.bl false)))] []), (.asg (.v 4) (.comp [3] (.v 3) .seq [(.v 0)] (.k (.bl true)) (.ife (.cmp .isv (.ix (.v 3) (.k (.int 3))) (.k .non)) (.g 26) (.ix (.v 3) (.k (.int 3)))))), (.ret (.op .all [(.comp [3, 5] (.t [(.v 3), (.v 5)]) .zip [(.ix (.v 1) (.k (.int 1))), (.v 4)] (.k (.bl true)) (.call .pure 3 [(.v 3), (.k (.int 0)), (.v 5)]))]))]⟩
/-- wanted: 0 withholding, 1 taken, 2 amount, 3 priority, 4 way, 5 own, 6 total, 7 want -/
def d_wanted : Df := ⟨3, 8, [(.asg (.t [(.v 3), (.v 4), (.v 5), (.v 6)]) (.v 0)), (.asg (.v 7) (.ife (.cmp .eq (.v 4) (.k (.str [102, 105, 120, 101, 100]))) (.v 5) (.bin .fdiv (.bin .mul (.v 2) (.v 5)) (.g 8)))), (.ret (.ife (.cmp .isv (.v 6) (.k .non)) (.v 7) (.op .min2 [(.v 7), (.bin .sub (.v 6) (.v 1))])))]⟩
/-- wants_for: 0 withholdings, 1 standing, 2 amount, 3 one, 4 taken -/
def d_wants_for : Df := ⟨3, 5, [(.ret (.comp [3, 4] (.t [(.v 3), (.v 4)]) .zip [(.v 0), (.ix (.v 1) (.k (.int 1)))] (.k (.bl true)) (.call .pure 28 [(.v 3), (.v 4), (.v 2)])))]⟩
/-- need_standing: 0 withholdings, 1 value -/
def d_need_standing : Df := ⟨2, 2, [(.ite (.notE (.call .pure 27 [(.v 0), (.v 1)])) [(.raise 23)] [])]⟩
/-- wants_of: 0 withholdings, 1 standing, 2 amount -/
def d_wants_of : Df := ⟨3, 3, [(.ex (.call .pure 13 [(.v 0)])), (.ex (.call .pure 30 [(.v 0), (.v 1)])), (.ex (.call .pure 24 [(.v 2), (.k (.int 0)), (.g 25)])), (.ret (.op .tuple [(.call .pure 29 [(.v 0), (.v 1), (.v 2)])]))]⟩
/-- _law_standing: 0 cup, 1 withholdings, 2 taken, 3 one, 4 top -/
def d__law_standing : Df := ⟨2, 5, [(.asg (.v 2) (.tup [])), (.forS (.v 3) .seq [(.v 1)] [3, 4] [(.asg (.v 4) (.ife (.cmp .isv (.ix (.v 3) (.k (.int 3))) (.k .non)) (.bin .pow (.k (.int 10)) (.k (.int 20))) (.ix (.v 3) (.k (.int 3))))), (.asg (.v 2) (.bin .add (.v 2) (.tup [(.op .min2 [(.v 4), (.call .heap 18 [(.v 0), (.lst [(.k (.int 0)), (.k (.int 0)), (.k (.int 5)), (.k (.int 55)), (.k (.int 299)), (.v 4)])])])])))]), (.ret (.tup [(.call .heap 18 [(.v 0), (.lst [(.k (.int 0)), (.k (.int 0)), (.k (.int 3)), (.k (.int 80)), (.k (.int 1000)), (.bin .pow (.k (.int 10)) (.k (.int 20)))])]), (.v 2)]))]⟩
/-- _law_net: 0 cup -/
def d__law_net : Df := ⟨1, 1, [(.ret (.call .heap 18 [(.v 0), (.lst [(.k (.int 0)), (.k (.int 1)), (.k (.int 10)), (.k (.int 99)), (.k (.int 100)), (.k (.int 101)), (.k (.int 150)), (.k (.int 233)), (.k (.int 1000)), (.neg (.k (.int 1))), (.neg (.k (.int 80))), (.bin .pow (.k (.int 10)) (.k (.int 18))), (.neg (.bin .pow (.k (.int 10)) (.k (.int 18)))), (.call .heap 17 [(.v 0), (.k (.int 700))]), (.call .heap 17 [(.v 0), (.bin .pow (.k (.int 10)) (.k (.int 6)))])])]))]⟩
/-- _law_wants: 0 withholdings, 1 standing, 2 amount, 3 found, 4 at, 5 priority, 6 way, 7 own, 8 total, 9 want -/
def d__law_wants : Df := ⟨3, 10, [(.asg (.v 3) (.thaw (.lst []))), (.forS (.t [(.v 4), (.t [(.v 5), (.v 6), (.v 7), (.v 8)])]) .enum [(.v 0)] [4, 5, 6, 7, 8, 9] [(.asg (.v 9) (.ife (.cmp .eq (.v 6) (.k (.str [102, 105, 120, 101, 100]))) (.v 7) (.bin .fdiv (.op .int [(.bin .mul (.v 2) (.v 7))]) (.k (.int 10000))))), (.ex (.app (.v 3) (.ife (.orL [(.cmp .isv (.v 8) (.k .non)), (.cmp .le (.v 9) (.bin .sub (.v 8) (.ix (.ix (.v 1) (.k (.int 1))) (.v 4))))]) (.v 9) (.bin .sub (.v 8) (.ix (.ix (.v 1) (.k (.int 1))) (.v 4))))))]), (.ret (.v 3))]⟩
/-- dealt_out: 0 wants, 1 amount, 2 total, 3 want, 4 found, 5 left, 6 at -/
def d_dealt_out : Df := ⟨2, 7, [(.asg (.v 2) (.op .sum [(.v 0)])), (.ite (.cmp .le (.v 2) (.v 1)) [(.ret (.op .list [(.v 0)]))] []), (.asg (.v 4) (.thaw (.comp [3] (.v 3) .seq [(.v 0)] (.k (.bl true)) (.bin .fdiv (.bin .mul (.v 1) (.v 3)) (.v 2))))), (.asg (.v 5) (.bin .sub (.v 1) (.op .sum [(.v 4)]))), (.forS (.t [(.v 6), (.v 3)]) .enum [(.v 0)] [3, 6] [(.ite (.andL [(.cmp .gt (.v 3) (.k (.int 0))), (.cmp .gt (.v 5) (.k (.int 0)))]) [(.sub (.v 4) (.v 6) (.bin .add (.ix (.v 4) (.v 6)) (.k (.int 1)))), (.asg (.v 5) (.bin .sub (.v 5) (.k (.int 1))))] [])]), (.ret (.v 4))]⟩
/-- _law_dealt: 0 wants, 1 amount, 2 want, 3 found, 4 at, 5 spare, 6 one -/
def d__law_dealt : Df := ⟨2, 7, [(.ite (.cmp .le (.op .sum [(.v 0)]) (.v 1)) [(.ret (.op .list [(.v 0)]))] []), (.asg (.v 3) (.comp [2] (.v 2) .seq [(.v 0)] (.k (.bl true)) (.bin .fdiv (.op .int [(.bin .mul (.v 1) (.v 2))]) (.op .sum [(.v 0)])))), (.asg (.v 5) (.sl (.comp [2, 4] (.t [(.v 4), (.v 2)]) .enum [(.v 0)] (.cmp .gt (.v 2) (.k (.int 0))) (.v 4)) (.k .non) (.bin .sub (.v 1) (.op .sum [(.v 3)])))), (.ret (.comp [4, 6] (.t [(.v 4), (.v 6)]) .enum [(.v 3)] (.k (.bl true)) (.bin .add (.v 6) (.ife (.cmp .isin (.v 4) (.v 5)) (.k (.int 1)) (.k (.int 0))))))]⟩
/-- _law_paid: 0 withholdings, 1 protected, 2 standing, 3 net, 4 got, 5 claim, 6 there, 7 met, 8 wants, 9 left, 10 priority, 11 one, 12 want, 13 mine, 14 more, 15 other, 16 behind -/
def d__law_paid : Df := ⟨4, 17, [(.par [4, 5] [(.bin .mul (.lst [(.k (.int 0))]) (.op .len [(.v 0)])), (.ix (.v 2) (.k (.int 0)))]), (.ite (.cmp .lt (.v 3) (.k (.int 0))) [(.ret (.tup [(.tup [(.bin .add (.v 5) (.op .abs [(.v 3)])), (.ix (.v 2) (.k (.int 1)))]), (.tup [(.k (.int 0)), (.k (.int 0)), (.op .tuple [(.v 4)])])]))] []), (.asg (.v 6) (.ife (.cmp .gt (.v 3) (.v 1)) (.bin .sub (.v 3) (.v 1)) (.k (.int 0)))), (.asg (.v 7) (.ife (.cmp .lt (.v 5) (.v 6)) (.v 5) (.v 6))), (.asg (.v 6) (.bin .sub (.v 6) (.v 7))), (.par [8, 9] [(.call .pure 34 [(.v 0), (.v 2), (.v 6)]), (.v 6)]), (.forS (.v 10) .rng1 [(.k (.int 10))] [10, 13, 14] [(.asg (.v 13) (.comp [11, 12] (.t [(.v 11), (.v 12)]) .zip [(.v 0), (.v 8)] (.k (.bl true)) (.ife (.cmp .eq (.ix (.v 11) (.k (.int 0))) (.v 10)) (.v 12) (.k (.int 0))))), (.asg (.v 14) (.call .pure 39 [(.v 13), (.v 9)])), (.par [4, 9] [(.comp [11, 15] (.t [(.v 11), (.v 15)]) .zip [(.v 4), (.v 14)] (.k (.bl true)) (.bin .add (.v 11) (.v 15))), (.bin .sub (.v 9) (.op .sum [(.v 14)]))])]), (.asg (.v 16) (.tup [(.bin .sub (.v 5) (.v 7)), (.op .tuple [(.comp [11, 15] (.t [(.v 11), (.v 15)]) .zip [(.ix (.v 2) (.k (.int 1))), (.v 4)] (.k (.bl true)) (.bin .add (.v 11) (.v 15)))])])), (.ret (.tup [(.v 16), (.tup [(.bin .sub (.bin .sub (.v 3) (.v 7)) (.op .sum [(.v 4)])), (.v 7), (.op .tuple [(.v 4)])])]))]⟩
/-- dealt: 0 wants, 1 amount, 2 one -/
def d_dealt : Df := ⟨2, 3, [(.ite (.orL [(.notE (.call .pure 4 [(.v 0), (.k (.int 0)), (.g 5)])), (.notE (.op .all [(.comp [2] (.v 2) .seq [(.v 0)] (.k (.bl true)) (.call .pure 3 [(.v 2), (.k (.int 0)), (.g 25)]))]))]) [(.raise 22)] []), (.ex (.call .pure 24 [(.v 1), (.k (.int 0)), (.g 25)])), (.ret (.op .tuple [(.call .pure 35 [(.v 0), (.v 1)])]))]⟩
/-- _law_bad_standing: 0 cup, 1 withholdings, 2 many, 3 some, 4 claim, 5 at, 6 top, 7 odd -/
def d__law_bad_standing : Df := ⟨2, 8, [(.asg (.v 2) (.op .len [(.v 1)])), (.asg (.v 3) (.lst [(.k .non), (.tup [(.k (.int 0))]), (.tup [(.k (.int 0)), (.bin .mul (.tup [(.k (.int 0))]) (.bin .add (.v 2) (.k (.int 1))))]), (.tup [(.k (.int 0)), (.bin .mul (.lst [(.k (.int 0))]) (.v 2))]), (.lst [(.k (.int 0)), (.bin .mul (.tup [(.k (.int 0))]) (.v 2))]), (.tup [(.k (.int 0)), (.bin .mul (.tup [(.k (.int 0))]) (.v 2)), (.k (.int 0))]), (.tup [(.k (.int 0)), (.k .non)])])), (.asg (.v 3) (.bin .add (.v 3) (.comp [4] (.v 4) .seq [(.tup [(.neg (.k (.int 1))), (.bin .add (.bin .pow (.k (.int 10)) (.k (.int 20))) (.k (.int 1))), (.k (.bl true)), (.k .non)])] (.k (.bl true)) (.tup [(.v 4), (.bin .mul (.tup [(.k (.int 0))]) (.v 2))])))), (.ite (.cmp .gt (.v 2) (.k (.int 0))) [(.asg (.v 5) (.call .heap 17 [(.v 0), (.v 2)])), (.asg (.v 6) (.ife (.cmp .isv (.ix (.ix (.v 1) (.v 5)) (.k (.int 3))) (.k .non)) (.bin .pow (.k (.int 10)) (.k (.int 20))) (.ix (.ix (.v 1) (.v 5)) (.k (.int 3))))), (.asg (.v 3) (.bin .add (.v 3) (.comp [7] (.v 7) .seq [(.tup [(.neg (.k (.int 1))), (.bin .add (.v 6) (.k (.int 1))), (.k (.bl false)), (.k .non), (.k (.str [48]))])] (.k (.bl true)) (.tup [(.k (.int 0)), (.bin .add (.bin .add (.bin .mul (.tup [(.k (.int 0))]) (.v 5)) (.tup [(.v 7)])) (.bin .mul (.tup [(.k (.int 0))]) (.bin .sub (.bin .sub (.v 2) (.k (.int 1))) (.v 5))))]))))] []), (.ret (.call .heap 18 [(.v 0), (.v 3)]))]⟩
/-- law: 0 script, 1 cup, 2 turn, 3 withholdings, 4 bent, 5 written, 6 one -/
def d_law35 : Df := ⟨1, 7, [(.asg (.v 1) (.call .own 16 [(.v 0)])), (.forS (.v 2) .rng1 [(.k (.int 4))] [2, 3, 4] [(.asg (.v 3) (.call .heap 19 [(.v 1)])), (.ite (.orL [(.cmp .isnt (.call .pure 14 [(.v 3)]) (.k (.bl true))), (.cmp .ne (.op .repr [(.call .pure 15 [(.v 3)])]) (.op .repr [(.tup [(.k (.int 0)), (.bin .mul (.tup [(.k (.int 0))]) (.op .len [(.v 3)]))])]))]) [(.ret (.k (.bl false)))] []), (.asg (.v 4) (.call .heap 20 [(.v 1), (.v 3)])), (.ite (.orL [(.cmp .isnt (.call .pure 14 [(.v 4)]) (.k (.bl false))), (.notE (.call .pure 59 [(.v 4)]))]) [(.ret (.k (.bl false)))] [])]), (.asg (.v 5) (.lst [(.bin .mul (.tup [(.tup [(.k (.int 9)), (.k (.str [102, 105, 120, 101, 100])), (.bin .pow (.k (.int 10)) (.k (.int 12))), (.bin .pow (.k (.int 10)) (.k (.int 15)))])]) (.k (.int 8))), (.tup [(.tup [(.k (.int 0)), (.k (.str [115, 104, 97, 114, 101])), (.k (.int 10000)), (.k (.int 0))])]), (.tup [(.tup [(.k (.int 0)), (.k (.str [115, 104, 97, 114, 101])), (.k (.int 0)), (.k .non)]), (.tup [(.k (.int 0)), (.k (.str [102, 105, 120, 101, 100])), (.k (.int 0)), (.k .non)])]), (.tup [])])), (.ret (.andL [(.cmp .eq (.comp [6] (.v 6) .seq [(.v 5)] (.cmp .isnt (.call .pure 14 [(.v 6)]) (.k (.bl true))) (.v 6)) (.lst [])), (.cmp .isv (.call .pure 14 [(.tup [(.tup [(.k (.int 9)), (.k (.str [115, 104, 97, 114, 101])), (.bin .add (.bin .pow (.k (.int 10)) (.k (.int 4))) (.k (.int 1))), (.k (.int 0))])])]) (.k (.bl false)))]))]⟩
/-- law: 0 script, 1 cup, 2 turn, 3 withholdings, 4 standing, 5 amount, 6 one, 7 rows, 8 row -/
def d_law36 : Df := ⟨1, 9, [(.asg (.v 1) (.call .own 16 [(.v 0)])), (.forS (.v 2) .rng1 [(.k (.int 8))] [2, 3, 4, 5] [(.asg (.v 3) (.call .heap 19 [(.v 1)])), (.par [4, 5] [(.call .heap 32 [(.v 1), (.v 3)]), (.op .abs [(.call .heap 33 [(.v 1)])])]), (.ite (.cmp .ne (.op .repr [(.call .pure 31 [(.v 3), (.v 4), (.v 5)])]) (.op .repr [(.op .tuple [(.call .pure 34 [(.v 3), (.v 4), (.v 5)])])])) [(.ret (.k (.bl false)))] [])]), (.asg (.v 6) (.tup [(.tup [(.k (.int 3)), (.k (.str [115, 104, 97, 114, 101])), (.k (.int 3333)), (.k .non)]), (.tup [(.k (.int 0)), (.k (.str [115, 104, 97, 114, 101])), (.k (.int 10000)), (.k (.int 7))]), (.tup [(.k (.int 1)), (.k (.str [102, 105, 120, 101, 100])), (.bin .pow (.k (.int 10)) (.k (.int 12))), (.bin .pow (.k (.int 10)) (.k (.int 15)))]), (.tup [(.k (.int 1)), (.k (.str [102, 105, 120, 101, 100])), (.k (.int 9)), (.k (.int 9))])])), (.asg (.v 7) (.lst [(.tup [(.tup [(.k (.int 0)), (.tup [(.k (.int 0)), (.k (.int 0)), (.k (.int 0)), (.k (.int 0))])]), (.k (.int 3)), (.tup [(.k (.int 0)), (.k (.int 3)), (.bin .pow (.k (.int 10)) (.k (.int 12))), (.k (.int 9))])]), (.tup [(.tup [(.k (.int 0)), (.tup [(.k (.int 0)), (.k (.int 0)), (.k (.int 0)), (.k (.int 0))])]), (.k (.int 4)), (.tup [(.k (.int 1)), (.k (.int 4)), (.bin .pow (.k (.int 10)) (.k (.int 12))), (.k (.int 9))])]), (.tup [(.tup [(.k (.int 0)), (.tup [(.k (.int 0)), (.k (.int 7)), (.bin .pow (.k (.int 10)) (.k (.int 15))), (.k (.int 9))])]), (.bin .pow (.k (.int 10)) (.k (.int 18))), (.tup [(.bin .mul (.k (.int 3333)) (.bin .pow (.k (.int 10)) (.k (.int 14)))), (.k (.int 0)), (.k (.int 0)), (.k (.int 0))])])])), (.asg (.v 7) (.bin .add (.v 7) (.lst [(.tup [(.tup [(.bin .pow (.k (.int 10)) (.k (.int 20))), (.tup [(.bin .pow (.k (.int 10)) (.k (.int 20))), (.k (.int 6)), (.bin .sub (.bin .pow (.k (.int 10)) (.k (.int 15))) (.k (.int 1))), (.k (.int 4))])]), (.k (.int 0)), (.tup [(.k (.int 0)), (.k (.int 0)), (.k (.int 1)), (.k (.int 5))])]), (.tup [(.tup [(.k (.int 0)), (.tup [(.k (.int 0)), (.k (.int 6)), (.k (.int 5)), (.k (.int 0))])]), (.k (.int 10)), (.tup [(.k (.int 3)), (.k (.int 1)), (.bin .pow (.k (.int 10)) (.k (.int 12))), (.k (.int 9))])])]))), (.ite (.cmp .ne (.comp [8] (.v 8) .seq [(.v 7)] (.cmp .ne (.op .repr [(.call .pure 31 [(.v 6), (.ix (.v 8) (.k (.int 0))), (.ix (.v 8) (.k (.int 1)))])]) (.op .repr [(.ix (.v 8) (.k (.int 2)))])) (.v 8)) (.lst [])) [(.ret (.k (.bl false)))] []), (.ret (.cmp .eq (.call .pure 31 [(.tup []), (.call .pure 15 [(.tup [])]), (.bin .pow (.k (.int 10)) (.k (.int 18)))]) (.tup [])))]⟩
/-- law: 0 script, 1 cup, 2 turn, 3 withholdings, 4 protected, 5 net, 6 standing, 7 some, 8 rows, 9 late, 10 row -/
def d_law38 : Df := ⟨1, 11, [(.asg (.v 1) (.call .own 16 [(.v 0)])), (.forS (.v 2) .rng1 [(.k (.int 8))] [2, 3, 4, 5, 6] [(.par [3, 4] [(.call .heap 19 [(.v 1)]), (.call .heap 18 [(.v 1), (.lst [(.k (.int 0)), (.k (.int 0)), (.k (.int 1)), (.k (.int 100)), (.bin .pow (.k (.int 10)) (.k (.int 12))), (.call .heap 17 [(.v 1), (.k (.int 300))])])])]), (.par [5, 6] [(.call .heap 33 [(.v 1)]), (.call .heap 32 [(.v 1), (.v 3)])]), (.ite (.cmp .ne (.op .repr [(.call .pure 56 [(.v 3), (.v 4), (.v 6), (.v 5)])]) (.op .repr [(.call .pure 40 [(.v 3), (.v 4), (.v 6), (.v 5)])])) [(.ret (.k (.bl false)))] [])]), (.asg (.v 7) (.tup [(.tup [(.k (.int 2)), (.k (.str [102, 105, 120, 101, 100])), (.k (.int 30)), (.k .non)]), (.tup [(.k (.int 0)), (.k (.str [115, 104, 97, 114, 101])), (.k (.int 5000)), (.k .non)]), (.tup [(.k (.int 2)), (.k (.str [102, 105, 120, 101, 100])), (.k (.int 30)), (.k (.int 20))]), (.tup [(.k (.int 0)), (.k (.str [102, 105, 120, 101, 100])), (.k (.int 10)), (.k (.int 10))])])), (.asg (.v 8) (.lst [(.tup [(.k (.int 0)), (.tup [(.k (.int 0)), (.tup [(.k (.int 0)), (.k (.int 0)), (.k (.int 0)), (.k (.int 0))])]), (.k (.int 100)), (.tup [(.tup [(.k (.int 0)), (.tup [(.k (.int 24)), (.k (.int 50)), (.k (.int 16)), (.k (.int 10))])]), (.tup [(.k (.int 0)), (.k (.int 0)), (.tup [(.k (.int 24)), (.k (.int 50)), (.k (.int 16)), (.k (.int 10))])])])]), (.tup [(.k (.int 100)), (.tup [(.k (.int 0)), (.tup [(.k (.int 0)), (.k (.int 0)), (.k (.int 0)), (.k (.int 0))])]), (.k (.int 100)), (.tup [(.tup [(.k (.int 0)), (.tup [(.k (.int 0)), (.k (.int 0)), (.k (.int 0)), (.k (.int 0))])]), (.tup [(.k (.int 100)), (.k (.int 0)), (.tup [(.k (.int 0)), (.k (.int 0)), (.k (.int 0)), (.k (.int 0))])])])])])), (.asg (.v 8) (.bin .add (.v 8) (.lst [(.tup [(.k (.int 99)), (.tup [(.k (.int 5)), (.tup [(.k (.int 1)), (.k (.int 2)), (.k (.int 3)), (.k (.int 4))])]), (.k (.int 101)), (.tup [(.tup [(.k (.int 3)), (.tup [(.k (.int 1)), (.k (.int 2)), (.k (.int 3)), (.k (.int 4))])]), (.tup [(.k (.int 99)), (.k (.int 2)), (.tup [(.k (.int 0)), (.k (.int 0)), (.k (.int 0)), (.k (.int 0))])])])]), (.tup [(.k (.int 0)), (.tup [(.k (.int 1)), (.tup [(.k (.int 1)), (.k (.int 2)), (.k (.int 3)), (.k (.int 4))])]), (.k (.int 1)), (.tup [(.tup [(.k (.int 0)), (.tup [(.k (.int 1)), (.k (.int 2)), (.k (.int 3)), (.k (.int 4))])]), (.tup [(.k (.int 0)), (.k (.int 1)), (.tup [(.k (.int 0)), (.k (.int 0)), (.k (.int 0)), (.k (.int 0))])])])])]))), (.asg (.v 8) (.bin .add (.v 8) (.lst [(.tup [(.k (.int 7)), (.tup [(.k (.int 5)), (.tup [(.k (.int 0)), (.k (.int 0)), (.k (.int 20)), (.k (.int 10))])]), (.neg (.k (.int 9))), (.tup [(.tup [(.k (.int 14)), (.tup [(.k (.int 0)), (.k (.int 0)), (.k (.int 20)), (.k (.int 10))])]), (.tup [(.k (.int 0)), (.k (.int 0)), (.tup [(.k (.int 0)), (.k (.int 0)), (.k (.int 0)), (.k (.int 0))])])])]), (.tup [(.k (.int 7)), (.tup [(.bin .pow (.k (.int 10)) (.k (.int 20))), (.tup [(.k (.int 0)), (.k (.int 0)), (.k (.int 20)), (.k (.int 10))])]), (.neg (.bin .pow (.k (.int 10)) (.k (.int 18)))), (.tup [(.tup [(.bin .mul (.k (.int 101)) (.bin .pow (.k (.int 10)) (.k (.int 18)))), (.tup [(.k (.int 0)), (.k (.int 0)), (.k (.int 20)), (.k (.int 10))])]), (.tup [(.k (.int 0)), (.k (.int 0)), (.tup [(.k (.int 0)), (.k (.int 0)), (.k (.int 0)), (.k (.int 0))])])])])]))), (.asg (.v 8) (.bin .add (.v 8) (.lst [(.tup [(.k (.int 50)), (.tup [(.k (.int 0)), (.tup [(.k (.int 0)), (.k (.int 0)), (.k (.int 20)), (.k (.int 0))])]), (.k (.int 65)), (.tup [(.tup [(.k (.int 0)), (.tup [(.k (.int 0)), (.k (.int 7)), (.k (.int 20)), (.k (.int 8))])]), (.tup [(.k (.int 50)), (.k (.int 0)), (.tup [(.k (.int 0)), (.k (.int 7)), (.k (.int 0)), (.k (.int 8))])])])]), (.tup [(.bin .pow (.k (.int 10)) (.k (.int 12))), (.tup [(.k (.int 0)), (.tup [(.k (.int 0)), (.k (.int 0)), (.k (.int 0)), (.k (.int 0))])]), (.bin .add (.bin .pow (.k (.int 10)) (.k (.int 12))) (.k (.int 3))), (.tup [(.tup [(.k (.int 0)), (.tup [(.k (.int 0)), (.k (.int 1)), (.k (.int 0)), (.k (.int 2))])]), (.tup [(.bin .pow (.k (.int 10)) (.k (.int 12))), (.k (.int 0)), (.tup [(.k (.int 0)), (.k (.int 1)), (.k (.int 0)), (.k (.int 2))])])])])]))), (.asg (.v 9) (.tup [(.tup [(.k (.int 0)), (.k (.str [102, 105, 120, 101, 100])), (.k (.int 40)), (.k .non)]), (.tup [(.k (.int 1)), (.k (.str [115, 104, 97, 114, 101])), (.k (.int 5000)), (.k .non)]), (.tup [(.k (.int 3)), (.k (.str [115, 104, 97, 114, 101])), (.k (.int 2500)), (.k (.int 12))])])), (.ite (.cmp .ne (.op .repr [(.call .pure 56 [(.v 9), (.k (.int 0)), (.tup [(.k (.int 0)), (.tup [(.k (.int 0)), (.k (.int 0)), (.k (.int 0))])]), (.k (.int 100))])]) (.op .repr [(.tup [(.tup [(.k (.int 0)), (.tup [(.k (.int 40)), (.k (.int 50)), (.k (.int 10))])]), (.tup [(.k (.int 0)), (.k (.int 0)), (.tup [(.k (.int 40)), (.k (.int 50)), (.k (.int 10))])])])])) [(.ret (.k (.bl false)))] []), (.ret (.cmp .eq (.comp [10] (.v 10) .seq [(.v 8)] (.cmp .ne (.op .repr [(.call .pure 56 [(.v 7), (.ix (.v 10) (.k (.int 0))), (.ix (.v 10) (.k (.int 1))), (.ix (.v 10) (.k (.int 2)))])]) (.op .repr [(.ix (.v 10) (.k (.int 3)))])) (.v 10)) (.lst [])))]⟩
/-- law: 0 script, 1 cup, 2 turn, 3 withholdings, 4 protected, 5 first, 6 k, 7 nets, 8 due, 9 slips, 10 net, 11 slip, 12 told, 13 together, 14 at, 15 taken, 16 one -/
def d_law39 : Df := ⟨1, 17, [(.asg (.v 1) (.call .own 16 [(.v 0)])), (.forS (.v 2) .rng1 [(.k (.int 4))] [2, 3, 4, 5, 7, 8, 9, 10, 11, 12, 13] [(.par [3, 4] [(.call .heap 19 [(.v 1)]), (.call .heap 18 [(.v 1), (.lst [(.k (.int 0)), (.k (.int 50)), (.k (.int 100)), (.bin .pow (.k (.int 10)) (.k (.int 12)))])])]), (.asg (.v 5) (.call .heap 32 [(.v 1), (.v 3)])), (.asg (.v 7) (.op .tuple [(.comp [6] (.v 6) .rng1 [(.call .heap 18 [(.v 1), (.lst [(.k (.int 0)), (.k (.int 1)), (.k (.int 3)), (.k (.int 6))])])] (.k (.bl true)) (.call .heap 33 [(.v 1)]))])), (.par [8, 9] [(.v 5), (.thaw (.lst []))]), (.forS (.v 10) .seq [(.v 7)] [10, 11] [(.asg (.t [(.v 8), (.v 11)]) (.call .pure 40 [(.v 3), (.v 4), (.v 8), (.v 10)])), (.ex (.app (.v 9) (.v 11)))]), (.asg (.v 12) (.call .pure 57 [(.v 3), (.v 4), (.v 5), (.v 7)])), (.ite (.cmp .ne (.op .repr [(.v 12)]) (.op .repr [(.tup [(.v 8), (.op .tuple [(.v 9)])])])) [(.ret (.k (.bl false)))] []), (.asg (.v 13) (.bin .sub (.bin .add (.op .sum [(.comp [11] (.v 11) .seq [(.ix (.v 12) (.k (.int 1)))] (.k (.bl true)) (.bin .add (.ix (.v 11) (.k (.int 0))) (.op .sum [(.ix (.v 11) (.k (.int 2)))])))]) (.ix (.v 5) (.k (.int 0)))) (.ix (.ix (.v 12) (.k (.int 0))) (.k (.int 0))))), (.ite (.orL [(.cmp .ne (.v 13) (.op .sum [(.v 7)])), (.cmp .ne (.comp [14, 15] (.t [(.v 14), (.v 15)]) .enum [(.ix (.ix (.v 12) (.k (.int 0))) (.k (.int 1)))] (.cmp .ne (.v 15) (.bin .add (.ix (.ix (.v 5) (.k (.int 1))) (.v 14)) (.op .sum [(.comp [11] (.v 11) .seq [(.ix (.v 12) (.k (.int 1)))] (.k (.bl true)) (.ix (.ix (.v 11) (.k (.int 2))) (.v 14)))]))) (.k (.int 1))) (.lst []))]) [(.ret (.k (.bl false)))] []), (.ite (.andL [(.cmp .eq (.op .len [(.v 7)]) (.k (.int 1))), (.cmp .ne (.op .repr [(.call .pure 56 [(.v 3), (.v 4), (.v 5), (.ix (.v 7) (.k (.int 0)))])]) (.op .repr [(.tup [(.ix (.v 12) (.k (.int 0))), (.ix (.ix (.v 12) (.k (.int 1))) (.k (.int 0)))])]))]) [(.ret (.k (.bl false)))] [])]), (.asg (.v 16) (.tup [(.tup [(.k (.int 0)), (.k (.str [102, 105, 120, 101, 100])), (.k (.int 3)), (.k (.int 100))])])), (.ite (.orL [(.cmp .ne (.ix (.call .pure 57 [(.v 16), (.k (.int 5)), (.tup [(.k (.int 0)), (.tup [(.k (.int 0))])]), (.bin .mul (.tup [(.k (.int 10))]) (.k (.int 60)))]) (.k (.int 0))) (.tup [(.k (.int 0)), (.tup [(.k (.int 100))])])), (.cmp .ne (.sl (.ix (.call .pure 57 [(.v 16), (.k (.int 5)), (.tup [(.k (.int 0)), (.tup [(.k (.int 0))])]), (.bin .mul (.tup [(.k (.int 10))]) (.k (.int 60)))]) (.k (.int 1))) (.k (.int 32)) (.k (.int 35))) (.tup [(.tup [(.k (.int 7)), (.k (.int 0)), (.tup [(.k (.int 3))])]), (.tup [(.k (.int 9)), (.k (.int 0)), (.tup [(.k (.int 1))])]), (.tup [(.k (.int 10)), (.k (.int 0)), (.tup [(.k (.int 0))])])]))]) [(.ret (.k (.bl false)))] []), (.ret (.cmp .eq (.call .pure 57 [(.v 16), (.k (.int 5)), (.tup [(.k (.int 0)), (.tup [(.k (.int 99))])]), (.tup [(.neg (.k (.int 12))), (.k (.int 10)), (.k (.int 4)), (.k (.int 0)), (.k (.int 15))])]) (.tup [(.tup [(.k (.int 0)), (.tup [(.k (.int 100))])]), (.tup [(.tup [(.k (.int 0)), (.k (.int 0)), (.tup [(.k (.int 0))])]), (.tup [(.k (.int 5)), (.k (.int 5)), (.tup [(.k (.int 0))])]), (.tup [(.k (.int 4)), (.k (.int 0)), (.tup [(.k (.int 0))])]), (.tup [(.k (.int 0)), (.k (.int 0)), (.tup [(.k (.int 0))])]), (.tup [(.k (.int 7)), (.k (.int 7)), (.tup [(.k (.int 1))])])])])))]⟩
/-- law: 0 script, 1 cup, 2 withholdings, 3 standing, 4 number, 5 strange, 6 odd, 7 protected, 8 net, 9 nets, 10 wants, 11 rows, 12 way, 13 right, 14 wrong, 15 words, 16 at -/
def d_law40 : Df := ⟨1, 17, [(.asg (.v 1) (.call .own 16 [(.v 0)])), (.asg (.v 2) (.call .heap 19 [(.v 1)])), (.par [3, 4] [(.call .heap 32 [(.v 1), (.v 2)]), (.call .heap 18 [(.v 1), (.lst [(.neg (.k (.int 1))), (.bin .add (.bin .pow (.k (.int 10)) (.k (.int 18))) (.k (.int 1))), (.k (.bl true)), (.k .non), (.k (.str [49]))])])]), (.par [5, 6] [(.call .heap 18 [(.v 1), (.lst [(.k .non), (.op .list [(.v 2)]), (.bin .add (.sl (.v 2) (.k .non) (.k (.int 7))) (.tup [(.k .non)]))])]), (.call .heap 45 [(.v 1), (.v 2)])]), (.par [7, 8] [(.call .heap 18 [(.v 1), (.lst [(.neg (.k (.int 1))), (.bin .add (.bin .pow (.k (.int 10)) (.k (.int 12))) (.k (.int 1))), (.k (.bl false)), (.k .non)])]), (.call .heap 18 [(.v 1), (.lst [(.bin .sub (.neg (.bin .pow (.k (.int 10)) (.k (.int 18)))) (.k (.int 1))), (.bin .add (.bin .pow (.k (.int 10)) (.k (.int 18))) (.k (.int 1))), (.k (.bl true)), (.k .non), (.k (.str [49]))])])]), (.asg (.v 9) (.call .heap 18 [(.v 1), (.lst [(.k .non), (.lst [(.k (.int 1))]), (.tup [(.v 8)]), (.tup [(.k (.int 1)), (.k .non)]), (.bin .mul (.tup [(.k (.int 0))]) (.k (.int 61))), (.k (.int 5)), (.tup [(.k (.int 1)), (.bin .add (.bin .pow (.k (.int 10)) (.k (.int 18))) (.k (.int 1)))])])])), (.asg (.v 10) (.call .heap 18 [(.v 1), (.lst [(.k .non), (.lst [(.k (.int 1))]), (.tup [(.neg (.k (.int 1)))]), (.tup [(.bin .add (.bin .pow (.k (.int 10)) (.k (.int 18))) (.k (.int 1)))]), (.bin .mul (.tup [(.k (.int 0))]) (.k (.int 9))), (.tup [(.k (.bl true))]), (.tup [(.k .non)]), (.k (.int 5))])])), (.asg (.v 11) (.thaw (.lst [(.tup [(.k (.int 0)), (.lst [(.v 2), (.v 3), (.bin .pow (.k (.int 10)) (.k (.int 18)))]), (.lst [(.v 5), (.v 6), (.v 4)]), (.lst [(.k (.str [119, 105, 116, 104, 104, 111, 108, 100, 105, 110, 103, 115])), (.k (.str [115, 116, 97, 110, 100, 105, 110, 103])), (.k (.str [110, 117, 109, 98, 101, 114]))])]), (.tup [(.k (.int 1)), (.lst [(.bin .mul (.tup [(.bin .pow (.k (.int 10)) (.k (.int 18)))]) (.k (.int 8))), (.bin .pow (.k (.int 10)) (.k (.int 18)))]), (.lst [(.v 10), (.v 4)]), (.lst [(.k (.str [110, 117, 109, 98, 101, 114])), (.k (.str [110, 117, 109, 98, 101, 114]))])])]))), (.asg (.v 11) (.thaw (.bin .add (.v 11) (.lst [(.tup [(.k (.int 2)), (.lst [(.v 2), (.bin .pow (.k (.int 10)) (.k (.int 12))), (.v 3), (.neg (.bin .pow (.k (.int 10)) (.k (.int 18))))]), (.lst [(.v 5), (.v 7), (.v 6), (.v 8)]), (.lst [(.k (.str [119, 105, 116, 104, 104, 111, 108, 100, 105, 110, 103, 115])), (.k (.str [110, 117, 109, 98, 101, 114])), (.k (.str [115, 116, 97, 110, 100, 105, 110, 103])), (.k (.str [110, 117, 109, 98, 101, 114]))])])])))), (.ex (.app (.v 11) (.tup [(.k (.int 3)), (.lst [(.v 2), (.k (.int 0)), (.v 3), (.bin .mul (.tup [(.bin .pow (.k (.int 10)) (.k (.int 18))), (.neg (.bin .pow (.k (.int 10)) (.k (.int 18))))]) (.k (.int 30)))]), (.lst [(.v 5), (.v 7), (.v 6), (.v 9)]), (.lst [(.k (.str [119, 105, 116, 104, 104, 111, 108, 100, 105, 110, 103, 115])), (.k (.str [110, 117, 109, 98, 101, 114])), (.k (.str [115, 116, 97, 110, 100, 105, 110, 103])), (.k (.str [110, 117, 109, 98, 101, 114]))])]))), (.ex (.app (.v 11) (.tup [(.k (.int 4)), (.lst [(.v 2)]), (.lst [(.v 5)]), (.lst [(.k (.str [119, 105, 116, 104, 104, 111, 108, 100, 105, 110, 103, 115]))])]))), (.forS (.t [(.v 12), (.v 13), (.v 14), (.v 15)]) .seq [(.v 11)] [12, 13, 14, 15, 16] [(.ite (.cmp .ne (.call .pure 61 [(.v 12), (.v 13)]) (.k (.str []))) [(.ret (.k (.bl false)))] []), (.forS (.v 16) .rng1 [(.op .len [(.v 13)])] [16] [(.ite (.cmp .ne (.call .pure 61 [(.v 12), (.bin .add (.bin .add (.sl (.v 13) (.k .non) (.v 16)) (.lst [(.ix (.v 14) (.v 16))])) (.sl (.v 13) (.bin .add (.v 16) (.k (.int 1))) (.k .non)))]) (.ix (.v 15) (.v 16))) [(.ret (.k (.bl false)))] []), (.ite (.cmp .ne (.call .pure 61 [(.v 12), (.bin .add (.sl (.v 13) (.k .non) (.v 16)) (.sl (.v 14) (.v 16) (.k .non)))]) (.ix (.v 15) (.v 16))) [(.ret (.k (.bl false)))] [])])]), (.ret (.k (.bl true)))]⟩
/-- law: 0 script, 1 cup, 2 turn, 3 withholdings, 4 protected, 5 standing, 6 net, 7 others, 8 other, 9 order, 10 one, 11 two, 12 at, 13 number, 14 k, 15 wants, 16 amount -/
def d_law41 : Df := ⟨1, 17, [(.asg (.v 1) (.call .own 16 [(.v 0)])), (.forS (.v 2) .rng1 [(.k (.int 5))] [2, 3, 4, 5, 6, 7, 8, 9, 10, 11] [(.par [3, 4] [(.call .heap 19 [(.v 1)]), (.call .heap 18 [(.v 1), (.lst [(.k (.int 0)), (.k (.int 0)), (.k (.int 50)), (.k (.int 100)), (.bin .pow (.k (.int 10)) (.k (.int 12)))])])]), (.par [5, 6] [(.call .heap 32 [(.v 1), (.v 3)]), (.call .heap 33 [(.v 1)])]), (.ite (.notE (.call .pure 58 [(.v 3), (.v 4), (.v 5), (.v 6)])) [(.ret (.k (.bl false)))] []), (.asg (.t [(.v 7), (.v 8), (.v 9)]) (.call .heap 60 [(.v 1), (.v 3), (.v 5)])), (.asg (.t [(.v 10), (.v 11)]) (.tup [(.ix (.call .pure 56 [(.v 3), (.v 4), (.v 5), (.v 6)]) (.k (.int 1))), (.ix (.call .pure 56 [(.v 7), (.v 4), (.v 8), (.v 6)]) (.k (.int 1)))])), (.ite (.orL [(.cmp .ne (.sl (.v 10) (.k .non) (.k (.int 2))) (.sl (.v 11) (.k .non) (.k (.int 2)))), (.cmp .ne (.comp [12, 13] (.t [(.v 12), (.v 13)]) .enum [(.v 9)] (.cmp .gt (.op .abs [(.bin .sub (.ix (.ix (.v 11) (.k (.int 2))) (.v 12)) (.ix (.ix (.v 10) (.k (.int 2))) (.v 13)))]) (.k (.int 1))) (.k (.int 1))) (.lst []))]) [(.ret (.k (.bl false)))] [])]), (.asg (.v 15) (.comp [14] (.v 14) .rng1 [(.k (.int 5))] (.k (.bl true)) (.call .heap 17 [(.v 1), (.k (.int 60))]))), (.asg (.v 16) (.call .heap 17 [(.v 1), (.k (.int 200))])), (.ret (.cmp2 .eq .eq (.op .sum [(.call .pure 43 [(.op .tuple [(.v 15)]), (.v 16)])]) (.op .sum [(.call .pure 43 [(.op .tuple [(.op .sorted [(.v 15)])]), (.v 16)])]) (.op .min2 [(.v 16), (.op .sum [(.v 15)])])))]⟩
/-- withheld_from: 0 withholdings, 1 standing, 2 amount, 3 wants, 4 found, 5 left, 6 priority, 7 one, 8 at, 9 numbers, 10 got, 11 number -/
def d_withheld_from : Df := ⟨3, 12, [(.asg (.t [(.v 3), (.v 4), (.v 5)]) (.tup [(.call .pure 29 [(.v 0), (.v 1), (.v 2)]), (.thaw (.bin .mul (.lst [(.k (.int 0))]) (.op .len [(.v 0)]))), (.v 2)])), (.forS (.v 6) .seq [(.op .sset [(.comp [7] (.v 7) .seq [(.v 0)] (.k (.bl true)) (.ix (.v 7) (.k (.int 0))))])] [6, 8, 9, 10] [(.asg (.v 9) (.comp [7, 8] (.t [(.v 8), (.v 7)]) .enum [(.v 0)] (.cmp .eq (.ix (.v 7) (.k (.int 0))) (.v 6)) (.v 8))), (.forS (.t [(.v 8), (.v 10)]) .zip [(.v 9), (.call .pure 35 [(.comp [11] (.v 11) .seq [(.v 9)] (.k (.bl true)) (.ix (.v 3) (.v 11))), (.v 5)])] [8, 10] [(.sub (.v 4) (.v 8) (.v 10))]), (.asg (.v 5) (.bin .sub (.v 2) (.op .sum [(.v 4)])))]), (.ret (.v 4))]⟩
/-- paid_by: 0 withholdings, 1 protected, 2 standing, 3 net, 4 claim, 5 taken, 6 above, 7 met, 8 got, 9 one, 10 more, 11 behind -/
def d_paid_by : Df := ⟨4, 12, [(.asg (.t [(.v 4), (.v 5)]) (.v 2)), (.ite (.cmp .lt (.v 3) (.k (.int 0))) [(.ret (.tup [(.tup [(.bin .sub (.v 4) (.v 3)), (.v 5)]), (.tup [(.k (.int 0)), (.k (.int 0)), (.bin .mul (.tup [(.k (.int 0))]) (.op .len [(.v 0)]))])]))] []), (.asg (.v 6) (.op .max2 [(.k (.int 0)), (.bin .sub (.v 3) (.v 1))])), (.asg (.v 7) (.op .min2 [(.v 4), (.v 6)])), (.asg (.v 8) (.call .pure 54 [(.v 0), (.v 2), (.bin .sub (.v 6) (.v 7))])), (.asg (.v 11) (.op .tuple [(.comp [9, 10] (.t [(.v 9), (.v 10)]) .zip [(.v 5), (.v 8)] (.k (.bl true)) (.bin .add (.v 9) (.v 10)))])), (.ret (.tup [(.tup [(.bin .sub (.v 4) (.v 7)), (.v 11)]), (.tup [(.bin .sub (.bin .sub (.v 3) (.v 7)) (.op .sum [(.v 8)])), (.v 7), (.op .tuple [(.v 8)])])]))]⟩
/-- payment: 0 withholdings, 1 protected, 2 standing, 3 net -/
def d_payment : Df := ⟨4, 4, [(.ex (.call .pure 13 [(.v 0)])), (.ex (.call .pure 24 [(.v 1), (.k (.int 0)), (.g 7)])), (.ex (.call .pure 30 [(.v 0), (.v 2)])), (.ex (.call .pure 24 [(.v 3), (.neg (.g 25)), (.g 25)])), (.ret (.call .pure 55 [(.v 0), (.v 1), (.v 2), (.v 3)]))]⟩
/-- paid_out: 0 withholdings, 1 protected, 2 standing, 3 nets, 4 one, 5 slips, 6 net, 7 slip -/
def d_paid_out : Df := ⟨4, 8, [(.ex (.call .pure 13 [(.v 0)])), (.ex (.call .pure 24 [(.v 1), (.k (.int 0)), (.g 7)])), (.ex (.call .pure 30 [(.v 0), (.v 2)])), (.ite (.orL [(.notE (.call .pure 4 [(.v 3), (.k (.int 0)), (.g 41)])), (.notE (.op .all [(.comp [4] (.v 4) .seq [(.v 3)] (.k (.bl true)) (.call .pure 3 [(.v 4), (.neg (.g 25)), (.g 25)]))]))]) [(.raise 22)] []), (.asg (.v 5) (.thaw (.lst []))), (.forS (.v 6) .seq [(.v 3)] [6, 7] [(.asg (.t [(.v 2), (.v 7)]) (.call .pure 55 [(.v 0), (.v 1), (.v 2), (.v 6)])), (.ex (.app (.v 5) (.v 7)))]), (.ret (.tup [(.v 2), (.op .tuple [(.v 5)])]))]⟩
/-- _law_net_right: 0 withholdings, 1 protected, 2 standing, 3 net, 4 behind, 5 paid, 6 met, 7 got, 8 above, 9 wants, 10 at, 11 one, 12 taken, 13 mine, 14 other, 15 yours -/
def d__law_net_right : Df := ⟨4, 16, [(.ite (.cmp .ne (.op .repr [(.call .pure 56 [(.v 0), (.v 1), (.v 2), (.v 3)])]) (.op .repr [(.call .pure 40 [(.v 0), (.v 1), (.v 2), (.v 3)])])) [(.ret (.k (.bl false)))] []), (.asg (.t [(.v 4), (.t [(.v 5), (.v 6), (.v 7)])]) (.call .pure 56 [(.v 0), (.v 1), (.v 2), (.v 3)])), (.ite (.cmp .lt (.v 3) (.k (.int 0))) [(.ret (.andL [(.cmp .eq (.v 4) (.tup [(.bin .sub (.ix (.v 2) (.k (.int 0))) (.v 3)), (.ix (.v 2) (.k (.int 1)))])), (.cmp .eq (.tup [(.v 5), (.v 6)]) (.tup [(.k (.int 0)), (.k (.int 0))])), (.cmp .eq (.op .sum [(.v 7)]) (.k (.int 0)))]))] []), (.asg (.v 8) (.op .max2 [(.k (.int 0)), (.bin .sub (.v 3) (.v 1))])), (.ite (.orL [(.cmp .ne (.bin .add (.bin .add (.v 5) (.v 6)) (.op .sum [(.v 7)])) (.v 3)), (.cmp .lt (.v 5) (.op .min2 [(.v 3), (.v 1)])), (.cmp .ne (.v 6) (.op .min2 [(.ix (.v 2) (.k (.int 0))), (.v 8)])), (.cmp .ne (.ix (.v 4) (.k (.int 0))) (.bin .sub (.ix (.v 2) (.k (.int 0))) (.v 6)))]) [(.ret (.k (.bl false)))] []), (.asg (.v 9) (.call .pure 31 [(.v 0), (.v 2), (.bin .sub (.v 8) (.v 6))])), (.ite (.cmp .ne (.op .repr [(.v 9)]) (.op .repr [(.op .tuple [(.call .pure 34 [(.v 0), (.v 2), (.bin .sub (.v 8) (.v 6))])])])) [(.ret (.k (.bl false)))] []), (.ite (.cmp .ne (.comp [10, 11] (.t [(.v 10), (.v 11)]) .enum [(.v 7)] (.orL [(.notE (.cmp2 .le .le (.k (.int 0)) (.v 11) (.ix (.v 9) (.v 10)))), (.cmp .ne (.ix (.ix (.v 4) (.k (.int 1))) (.v 10)) (.bin .add (.ix (.ix (.v 2) (.k (.int 1))) (.v 10)) (.v 11)))]) (.k (.int 1))) (.lst [])) [(.ret (.k (.bl false)))] []), (.ite (.cmp .ne (.comp [11, 12] (.t [(.v 11), (.v 12)]) .zip [(.v 0), (.ix (.v 4) (.k (.int 1)))] (.andL [(.cmp .isnt (.ix (.v 11) (.k (.int 3))) (.k .non)), (.cmp .gt (.v 12) (.ix (.v 11) (.k (.int 3))))]) (.k (.int 1))) (.lst [])) [(.ret (.k (.bl false)))] []), (.forS (.t [(.v 10), (.v 13)]) .enum [(.v 0)] [10, 13, 14, 15] [(.forS (.t [(.v 14), (.v 15)]) .enum [(.v 0)] [14, 15] [(.ite (.andL [(.cmp .gt (.ix (.v 7) (.v 10)) (.k (.int 0))), (.cmp .lt (.ix (.v 15) (.k (.int 0))) (.ix (.v 13) (.k (.int 0)))), (.cmp .ne (.ix (.v 7) (.v 14)) (.ix (.v 9) (.v 14)))]) [(.ret (.k (.bl false)))] []), (.ite (.andL [(.cmp .eq (.ix (.v 13) (.k (.int 0))) (.ix (.v 15) (.k (.int 0)))), (.cmp .eq (.ix (.v 9) (.v 10)) (.ix (.v 9) (.v 14))), (.cmp .lt (.v 10) (.v 14)), (.notE (.cmp2 .le .le (.ix (.v 7) (.v 14)) (.ix (.v 7) (.v 10)) (.bin .add (.ix (.v 7) (.v 14)) (.k (.int 1)))))]) [(.ret (.k (.bl false)))] [])])]), (.ret (.orL [(.cmp .eq (.v 5) (.op .min2 [(.v 3), (.v 1)])), (.cmp .eq (.op .list [(.v 7)]) (.op .list [(.v 9)]))]))]⟩
/-- _law_is_refused: 0 value, 1 e -/
def d__law_is_refused : Df := ⟨1, 2, [(.tryS [(.ex (.call .pure 15 [(.v 0)]))] (some 1) [(1, (.and (.isi 2) .isb))]), (.ret (.k (.bl false)))]⟩
/-- _law_turned: 0 cup, 1 withholdings, 2 standing, 3 left, 4 order, 5 turn, 6 one, 7 at -/
def d__law_turned : Df := ⟨3, 8, [(.asg (.t [(.v 3), (.v 4)]) (.tup [(.op .lrg [(.op .len [(.v 1)])]), (.thaw (.lst []))])), (.forS (.v 5) .rng1 [(.op .len [(.v 1)])] [5] [(.ex (.app (.v 4) (.call .heap 18 [(.v 0), (.v 3)]))), (.asg (.v 3) (.comp [6] (.v 6) .seq [(.v 3)] (.cmp .ne (.v 6) (.ix (.v 4) (.neg (.k (.int 1))))) (.v 6)))]), (.ret (.tup [(.op .tuple [(.comp [7] (.v 7) .seq [(.v 4)] (.k (.bl true)) (.ix (.v 1) (.v 7)))]), (.tup [(.ix (.v 2) (.k (.int 0))), (.op .tuple [(.comp [7] (.v 7) .seq [(.v 4)] (.k (.bl true)) (.ix (.ix (.v 2) (.k (.int 1))) (.v 7)))])]), (.v 4)]))]⟩
/-- is_name: 0 value, 1 letter -/
def d_is_name : Df := ⟨1, 2, [(.ret (.andL [(.op (.isi .str) [(.v 0)]), (.cmp2 .le .le (.k (.int 1)) (.op .len [(.v 0)]) (.g 62)), (.op .all [(.comp [1] (.v 1) .seq [(.v 0)] (.k (.bl true)) (.cmp .isin (.v 1) (.g 63)))])]))]⟩
/-- fits_bands: 0 limits, 1 rates, 2 one, 3 other, 4 many -/
def d_fits_bands : Df := ⟨2, 5, [(.ite (.orL [(.notE (.call .pure 4 [(.v 0), (.k (.int 0)), (.g 68)])), (.notE (.op .all [(.comp [2] (.v 2) .seq [(.v 0)] (.k (.bl true)) (.call .pure 3 [(.v 2), (.k (.int 1)), (.g 64)]))]))]) [(.ret (.k (.bl false)))] []), (.ite (.notE (.op .all [(.comp [2, 3] (.t [(.v 2), (.v 3)]) .zip [(.v 0), (.sl (.v 0) (.k (.int 1)) (.k .non))] (.k (.bl true)) (.cmp .lt (.v 2) (.v 3)))])) [(.ret (.k (.bl false)))] []), (.asg (.v 4) (.bin .add (.op .len [(.v 0)]) (.k (.int 1)))), (.ret (.andL [(.call .pure 4 [(.v 1), (.v 4), (.v 4)]), (.op .all [(.comp [2] (.v 2) .seq [(.v 1)] (.k (.bl true)) (.call .pure 3 [(.v 2), (.k (.int 0)), (.g 69)]))])]))]⟩
/-- inner_of: 0 value, 1 is_test, 2 word, 3 rest, 4 one -/
def d_inner_of : Df := ⟨2, 5, [(.ite (.orL [(.notE (.call .pure 4 [(.v 0), (.k (.int 1)), (.k (.int 4))])), (.notE (.op (.isi .str) [(.ix (.v 0) (.k (.int 0)))]))]) [(.ret (.k .non))] []), (.par [2, 3] [(.ix (.v 0) (.k (.int 0))), (.sl (.v 0) (.k (.int 1)) (.k .non))]), (.ite (.v 1) [(.ite (.andL [(.cmp .isin (.v 2) (.g 74)), (.cmp .eq (.op .len [(.v 3)]) (.k (.int 2)))]) [(.ret (.comp [4] (.v 4) .seq [(.v 3)] (.k (.bl true)) (.tup [(.v 4), (.k (.bl false))])))] []), (.ite (.orL [(.andL [(.cmp .isin (.v 2) (.g 75)), (.cmp .eq (.op .len [(.v 3)]) (.k (.int 2)))]), (.andL [(.cmp .eq (.v 2) (.k (.str [110, 111, 116]))), (.cmp .eq (.op .len [(.v 3)]) (.k (.int 1)))])]) [(.ret (.comp [4] (.v 4) .seq [(.v 3)] (.k (.bl true)) (.tup [(.v 4), (.k (.bl true))])))] []), (.ret (.k .non))] []), (.ite (.cmp .eq (.v 2) (.k (.str [110, 117, 109]))) [(.ret (.ife (.andL [(.cmp .eq (.op .len [(.v 3)]) (.k (.int 1))), (.call .pure 3 [(.ix (.v 3) (.k (.int 0))), (.k (.int 0)), (.g 64)])]) (.lst []) (.k .non)))] []), (.ite (.cmp .isin (.v 2) (.g 72)) [(.ret (.ife (.andL [(.cmp .eq (.op .len [(.v 3)]) (.k (.int 1))), (.call .pure 76 [(.ix (.v 3) (.k (.int 0)))])]) (.lst []) (.k .non)))] []), (.ite (.cmp .eq (.v 2) (.k (.str [109, 111, 110, 116, 104]))) [(.ret (.ife (.cmp .eq (.v 3) (.tup [])) (.lst []) (.k .non)))] []), (.ite (.orL [(.andL [(.cmp .isin (.v 2) (.g 73)), (.cmp .eq (.op .len [(.v 3)]) (.k (.int 2)))]), (.andL [(.cmp .eq (.v 2) (.k (.str [110, 101, 103]))), (.cmp .eq (.op .len [(.v 3)]) (.k (.int 1)))]), (.andL [(.cmp .eq (.v 2) (.k (.str [112, 97, 114, 116]))), (.cmp .eq (.op .len [(.v 3)]) (.k (.int 3)))])]) [(.ret (.comp [4] (.v 4) .seq [(.v 3)] (.k (.bl true)) (.tup [(.v 4), (.k (.bl false))])))] []), (.ite (.andL [(.cmp .eq (.v 2) (.k (.str [105, 102]))), (.cmp .eq (.op .len [(.v 3)]) (.k (.int 3)))]) [(.ret (.lst [(.tup [(.ix (.v 3) (.k (.int 0))), (.k (.bl true))]), (.tup [(.ix (.v 3) (.k (.int 1))), (.k (.bl false))]), (.tup [(.ix (.v 3) (.k (.int 2))), (.k (.bl false))])]))] []), (.ite (.andL [(.cmp .eq (.v 2) (.k (.str [98, 97, 110, 100, 115]))), (.cmp .eq (.op .len [(.v 3)]) (.k (.int 3))), (.call .pure 77 [(.ix (.v 3) (.k (.int 1))), (.ix (.v 3) (.k (.int 2)))])]) [(.ret (.lst [(.tup [(.ix (.v 3) (.k (.int 0))), (.k (.bl false))])]))] []), (.ret (.k .non))]⟩
/-- fits_expression: 0 value, 1 line, 2 many, 3 one, 4 is_test, 5 deep, 6 inner, 7 part, 8 test -/
def d_fits_expression : Df := ⟨1, 9, [(.par [1, 2] [(.thaw (.lst [(.tup [(.v 0), (.k (.bl false)), (.k (.int 1))])])), (.k (.int 0))]), (.whl 100000 (.cmp .ne (.v 1) (.lst [])) [3, 4, 5, 6] [(.asg (.t [(.v 3), (.v 4), (.v 5)]) (.pop (.v 1))), (.asg (.v 2) (.bin .add (.v 2) (.k (.int 1)))), (.asg (.v 6) (.call .pure 78 [(.v 3), (.v 4)])), (.ite (.orL [(.cmp .gt (.v 2) (.g 66)), (.cmp .gt (.v 5) (.g 65)), (.cmp .isv (.v 6) (.k .non))]) [(.ret (.k (.bl false)))] []), (.aug 1 .add (.comp [7, 8] (.t [(.v 7), (.v 8)]) .seq [(.v 6)] (.k (.bl true)) (.tup [(.v 7), (.v 8), (.bin .add (.v 5) (.k (.int 1)))])))]), (.ret (.k (.bl true)))]⟩
/-- parts_of: 0 expression, 1 found, 2 line, 3 one, 4 is_test -/
def d_parts_of : Df := ⟨1, 5, [(.par [1, 2] [(.thaw (.lst [])), (.thaw (.lst [(.tup [(.v 0), (.k (.bl false))])]))]), (.whl 100000 (.cmp .ne (.v 2) (.lst [])) [3, 4] [(.asg (.t [(.v 3), (.v 4)]) (.pop (.v 2))), (.ex (.app (.v 1) (.v 3))), (.aug 2 .add (.op .rev [(.call .pure 78 [(.v 3), (.v 4)])]))]), (.ret (.v 1))]⟩
/-- mentioned: 0 expression, 1 words, 2 one -/
def d_mentioned : Df := ⟨2, 3, [(.ret (.comp [2] (.v 2) .seq [(.call .pure 80 [(.v 0)])] (.cmp .isin (.ix (.v 2) (.k (.int 0))) (.v 1)) (.ix (.v 2) (.k (.int 1)))))]⟩
/-- fits_definition: 0 value -/
def d_fits_definition : Df := ⟨1, 1, [(.ite (.orL [(.notE (.call .pure 4 [(.v 0), (.k (.int 3)), (.k (.int 3))])), (.notE (.call .pure 3 [(.ix (.v 0) (.k (.int 0))), (.k (.int 0)), (.g 70)])), (.cmp .notin (.ix (.v 0) (.k (.int 0))) (.g 71))]) [(.ret (.k (.bl false)))] []), (.ret (.andL [(.call .pure 76 [(.ix (.v 0) (.k (.int 1)))]), (.call .pure 79 [(.ix (.v 0) (.k (.int 2)))])]))]⟩
/-- in_order: 0 rules, 1 found, 2 left, 3 one, 4 known, 5 name, 6 ready -/
def d_in_order : Df := ⟨1, 7, [(.par [1, 2] [(.thaw (.lst [])), (.op .list [(.v 0)])]), (.whl 100000 (.cmp .ne (.v 2) (.lst [])) [4, 6] [(.asg (.v 4) (.comp [3] (.v 3) .seq [(.v 1)] (.k (.bl true)) (.ix (.v 3) (.k (.int 1))))), (.asg (.v 6) (.comp [3] (.v 3) .seq [(.v 2)] (.op .all [(.comp [5] (.v 5) .seq [(.call .pure 81 [(.ix (.v 3) (.k (.int 2))), (.tup [(.k (.str [110, 97, 109, 101]))])])] (.k (.bl true)) (.cmp .isin (.v 5) (.v 4)))]) (.v 3))), (.ite (.cmp .eq (.v 6) (.lst [])) [(.ret (.k .non))] []), (.aug 1 .add (.v 6)), (.asg (.v 2) (.comp [3] (.v 3) .seq [(.v 2)] (.cmp .notin (.v 3) (.v 6)) (.v 3)))]), (.ret (.v 1))]⟩
/-- fits_rules: 0 value, 1 one, 2 names, 3 name -/
def d_fits_rules : Df := ⟨1, 4, [(.ite (.orL [(.notE (.call .pure 4 [(.v 0), (.k (.int 1)), (.g 67)])), (.notE (.op .all [(.comp [1] (.v 1) .seq [(.v 0)] (.k (.bl true)) (.call .pure 82 [(.v 1)]))]))]) [(.ret (.k (.bl false)))] []), (.asg (.v 2) (.comp [1] (.v 1) .seq [(.v 0)] (.k (.bl true)) (.ix (.v 1) (.k (.int 1))))), (.ite (.cmp .lt (.op .lset [(.v 2)]) (.op .len [(.v 2)])) [(.ret (.k (.bl false)))] []), (.forS (.v 1) .seq [(.v 0)] [1] [(.ite (.notE (.op .all [(.comp [3] (.v 3) .seq [(.call .pure 81 [(.ix (.v 1) (.k (.int 2))), (.tup [(.k (.str [110, 97, 109, 101])), (.k (.str [108, 97, 115, 116])), (.k (.str [121, 101, 97, 114]))])])] (.k (.bl true)) (.cmp .isin (.v 3) (.v 2)))])) [(.ret (.k (.bl false)))] [])]), (.ret (.cmp .isnt (.call .pure 83 [(.v 0)]) (.k .non)))]⟩
/-- is_expression: 0 value -/
def d_is_expression : Df := ⟨1, 1, [(.ret (.call .pure 79 [(.v 0)]))]⟩
/-- is_rules: 0 value -/
def d_is_rules : Df := ⟨1, 1, [(.ret (.call .pure 84 [(.v 0)]))]⟩
/-- _law_expression: 0 cup, 1 names, 2 deep, 3 way, 4 leaves, 5 word, 6 chosen, 7 limits, 8 below -/
def d__law_expression : Df := ⟨3, 9, [(.asg (.v 3) (.call .heap 17 [(.v 0), (.k (.int 16))])), (.ite (.orL [(.cmp .eq (.v 2) (.k (.int 0))), (.cmp .lt (.v 3) (.k (.int 5)))]) [(.asg (.v 4) (.lst [(.tup [(.k (.str [110, 117, 109])), (.call .heap 18 [(.v 0), (.lst [(.k (.int 0)), (.k (.int 1)), (.k (.int 2)), (.k (.int 7)), (.k (.int 100)), (.k (.int 999999999))])])]), (.tup [(.k (.str [102, 97, 99, 116])), (.call .heap 18 [(.v 0), (.lst [(.k (.str [104])), (.k (.str [107]))])])]), (.tup [(.k (.str [109, 111, 110, 116, 104]))]), (.tup [(.k (.str [102, 97, 99, 116])), (.k (.str [104]))])])), (.ret (.call .heap 18 [(.v 0), (.ife (.cmp .ne (.v 1) (.lst [])) (.bin .add (.v 4) (.bin .mul (.lst [(.tup [(.k (.str [110, 97, 109, 101])), (.call .heap 18 [(.v 0), (.v 1)])])]) (.k (.int 2)))) (.v 4))]))] []), (.ite (.cmp .lt (.v 3) (.k (.int 9))) [(.asg (.v 5) (.call .heap 18 [(.v 0), (.lst [(.k (.str [112, 108, 117, 115])), (.k (.str [109, 105, 110, 117, 115])), (.k (.str [116, 105, 109, 101, 115])), (.k (.str [109, 105, 110])), (.k (.str [109, 97, 120])), (.k (.str [112, 108, 117, 115]))])])), (.ret (.tup [(.v 5), (.call .heap 87 [(.v 0), (.v 1), (.bin .sub (.v 2) (.k (.int 1)))]), (.call .heap 87 [(.v 0), (.v 1), (.bin .sub (.v 2) (.k (.int 1)))])]))] []), (.ite (.cmp .lt (.v 3) (.k (.int 11))) [(.asg (.v 6) (.call .heap 87 [(.v 0), (.v 1), (.bin .sub (.v 2) (.k (.int 1)))])), (.ret (.tup [(.k (.str [105, 102])), (.call .heap 88 [(.v 0), (.v 1), (.bin .sub (.v 2) (.k (.int 1)))]), (.v 6), (.call .heap 87 [(.v 0), (.v 1), (.bin .sub (.v 2) (.k (.int 1)))])]))] []), (.ite (.cmp .eq (.v 3) (.k (.int 11))) [(.ret (.tup [(.k (.str [110, 101, 103])), (.call .heap 87 [(.v 0), (.v 1), (.bin .sub (.v 2) (.k (.int 1)))])]))] []), (.ite (.cmp .eq (.v 3) (.k (.int 12))) [(.asg (.v 7) (.call .heap 18 [(.v 0), (.lst [(.tup []), (.tup [(.k (.int 10))]), (.tup [(.k (.int 5)), (.k (.int 100))])])])), (.ret (.tup [(.k (.str [98, 97, 110, 100, 115])), (.call .heap 87 [(.v 0), (.v 1), (.bin .sub (.v 2) (.k (.int 1)))]), (.v 7), (.sl (.tup [(.k (.int 1000)), (.k (.int 2500)), (.k (.int 10000))]) (.k .non) (.bin .add (.k (.int 1)) (.op .len [(.v 7)])))]))] []), (.asg (.v 8) (.call .heap 18 [(.v 0), (.lst [(.tup [(.k (.str [110, 117, 109])), (.k (.int 3))]), (.tup [(.k (.str [110, 117, 109])), (.k (.int 2))]), (.tup [(.k (.str [102, 97, 99, 116])), (.k (.str [107]))])])])), (.ret (.tup [(.k (.str [112, 97, 114, 116])), (.call .heap 87 [(.v 0), (.v 1), (.bin .sub (.v 2) (.k (.int 1)))]), (.call .heap 87 [(.v 0), (.v 1), (.k (.int 0))]), (.v 8)]))]⟩
/-- _law_drawn_test: 0 cup, 1 names, 2 deep, 3 one, 4 word -/
def d__law_drawn_test : Df := ⟨3, 5, [(.ite (.andL [(.cmp .gt (.v 2) (.k (.int 0))), (.cmp .eq (.call .heap 17 [(.v 0), (.k (.int 3))]) (.k (.int 0)))]) [(.asg (.v 3) (.call .heap 88 [(.v 0), (.v 1), (.bin .sub (.v 2) (.k (.int 1)))])), (.ret (.call .heap 18 [(.v 0), (.lst [(.tup [(.k (.str [110, 111, 116])), (.v 3)]), (.tup [(.k (.str [97, 110, 100])), (.v 3), (.call .heap 88 [(.v 0), (.v 1), (.k (.int 0))])]), (.tup [(.k (.str [111, 114])), (.v 3), (.call .heap 88 [(.v 0), (.v 1), (.k (.int 0))])])])]))] []), (.asg (.v 4) (.call .heap 18 [(.v 0), (.lst [(.k (.str [98, 101, 108, 111, 119])), (.k (.str [109, 111, 115, 116])), (.k (.str [115, 97, 109, 101]))])])), (.ret (.tup [(.v 4), (.call .heap 87 [(.v 0), (.v 1), (.k (.int 0))]), (.call .heap 87 [(.v 0), (.v 1), (.k (.int 0))])]))]⟩
/-- _law_rules: 0 cup, 1 all_names, 2 found, 3 at, 4 name, 5 expression, 6 one -/
def d__law_rules : Df := ⟨1, 7, [(.asg (.v 1) (.sl (.lst [(.k (.str [97])), (.k (.str [98])), (.k (.str [99])), (.k (.str [100])), (.k (.str [101]))]) (.k .non) (.bin .add (.k (.int 2)) (.call .heap 17 [(.v 0), (.k (.int 4))])))), (.asg (.v 2) (.tup [])), (.forS (.t [(.v 3), (.v 4)]) .enum [(.v 1)] [3, 4, 5, 6] [(.asg (.v 5) (.call .heap 87 [(.v 0), (.sl (.v 1) (.k .non) (.v 3)), (.k (.int 2))])), (.ite (.cmp .eq (.call .heap 17 [(.v 0), (.k (.int 4))]) (.k (.int 0))) [(.asg (.v 5) (.tup [(.k (.str [112, 108, 117, 115])), (.v 5), (.tup [(.call .heap 18 [(.v 0), (.lst [(.k (.str [108, 97, 115, 116])), (.k (.str [121, 101, 97, 114]))])]), (.call .heap 18 [(.v 0), (.v 1)])])]))] []), (.asg (.v 6) (.tup [(.call .heap 18 [(.v 0), (.lst [(.k (.int 0)), (.k (.int 0)), (.k (.int 1)), (.k (.int 2)), (.k (.int 3)), (.k (.int 4)), (.k (.int 5)), (.k (.int 6)), (.k (.int 9))])]), (.v 4), (.v 5)])), (.asg (.v 2) (.ife (.cmp .eq (.call .heap 17 [(.v 0), (.k (.int 2))]) (.k (.int 0))) (.bin .add (.tup [(.v 6)]) (.v 2)) (.bin .add (.v 2) (.tup [(.v 6)]))))]), (.ret (.v 2))]⟩
/-- _law_nested: 0 word, 1 deep, 2 found, 3 turn -/
def d__law_nested : Df := ⟨2, 4, [(.asg (.v 2) (.tup [(.k (.str [110, 117, 109])), (.k (.int 1))])), (.forS (.v 3) .rng1 [(.bin .sub (.v 1) (.k (.int 1)))] [3] [(.asg (.v 2) (.tup [(.v 0), (.v 2)]))]), (.ret (.v 2))]⟩
/-- _law_bounds_by_tests: 0 one, 1 wide, 2 four, 3 test, 4 turn, 5 half, 6 third, 7 fifth, 8 none -/
def d__law_bounds_by_tests : Df := ⟨3, 9, [(.asg (.v 3) (.tup [(.k (.str [115, 97, 109, 101])), (.v 0), (.v 0)])), (.forS (.v 4) .rng1 [(.k (.int 5))] [4] [(.asg (.v 3) (.tup [(.k (.str [110, 111, 116])), (.v 3)]))]), (.asg (.v 5) (.tup [(.k (.str [105, 102])), (.tup [(.k (.str [97, 110, 100])), (.tup [(.k (.str [115, 97, 109, 101])), (.v 1), (.v 0)]), (.tup [(.k (.str [115, 97, 109, 101])), (.v 1), (.v 0)])]), (.v 0), (.tup [(.k (.str [112, 108, 117, 115])), (.v 0), (.v 0)])])), (.par [6, 7] [(.tup [(.k (.str [112, 97, 114, 116])), (.v 2), (.v 2), (.v 2)]), (.tup [(.k (.str [112, 108, 117, 115])), (.tup [(.k (.str [112, 108, 117, 115])), (.v 0), (.v 0)]), (.v 0)])]), (.asg (.v 8) (.tup [(.tup [(.k (.str [105, 102])), (.tup [(.k (.str [110, 111, 116])), (.v 3)]), (.v 0), (.v 0)]), (.tup [(.k (.str [112, 108, 117, 115])), (.v 5), (.tup [(.k (.str [112, 108, 117, 115])), (.v 6), (.tup [(.k (.str [110, 101, 103])), (.v 7)])])])])), (.ret (.tup [(.lst [(.tup [(.k (.str [105, 102])), (.v 3), (.v 0), (.v 0)]), (.tup [(.k (.str [112, 108, 117, 115])), (.v 5), (.tup [(.k (.str [112, 108, 117, 115])), (.v 6), (.v 7)])])]), (.v 8)]))]⟩
/-- need_loose: 0 value -/
def d_need_loose : Df := ⟨1, 1, [(.ite (.notE (.call .pure 94 [(.v 0)])) [(.raise 93)] [])]⟩
/-- is_loose: 0 value -/
def d_is_loose : Df := ⟨1, 1, [(.ret (.call .pure 94 [(.v 0)]))]⟩
/-- _law_mentions: 0 expression, 1 words, 2 found, 3 part -/
def d__law_mentions : Df := ⟨2, 4, [(.ite (.cmp .isin (.ix (.v 0) (.k (.int 0))) (.tup [(.k (.str [110, 97, 109, 101])), (.k (.str [102, 97, 99, 116])), (.k (.str [108, 97, 115, 116])), (.k (.str [121, 101, 97, 114])), (.k (.str [110, 117, 109])), (.k (.str [109, 111, 110, 116, 104]))])) [(.ret (.ife (.cmp .isin (.ix (.v 0) (.k (.int 0))) (.v 1)) (.lst [(.ix (.v 0) (.k (.int 1)))]) (.lst [])))] []), (.asg (.v 2) (.lst [])), (.forS (.v 3) .seq [(.ife (.cmp .eq (.ix (.v 0) (.k (.int 0))) (.k (.str [98, 97, 110, 100, 115]))) (.sl (.v 0) (.k (.int 1)) (.k (.int 2))) (.sl (.v 0) (.k (.int 1)) (.k .non)))] [3] [(.asg (.v 2) (.bin .add (.v 2) (.call .pure 103 [(.v 3), (.v 1)])))]), (.ret (.v 2))]⟩
/-- _law_loose_rules: 0 cup, 1 names, 2 found, 3 name, 4 other, 5 some, 6 expression -/
def d__law_loose_rules : Df := ⟨1, 7, [(.asg (.v 1) (.sl (.lst [(.k (.str [101])), (.k (.str [98])), (.k (.str [100])), (.k (.str [97])), (.k (.str [99]))]) (.k .non) (.bin .add (.k (.int 1)) (.call .heap 17 [(.v 0), (.k (.int 5))])))), (.asg (.v 2) (.tup [])), (.forS (.v 3) .seq [(.v 1)] [3, 5, 6] [(.asg (.v 5) (.comp [4] (.v 4) .seq [(.v 1)] (.cmp .eq (.call .heap 17 [(.v 0), (.k (.int 2))]) (.k (.int 0))) (.v 4))), (.asg (.v 6) (.call .heap 87 [(.v 0), (.v 5), (.call .heap 17 [(.v 0), (.k (.int 3))])])), (.ite (.cmp .eq (.call .heap 17 [(.v 0), (.k (.int 4))]) (.k (.int 0))) [(.asg (.v 6) (.tup [(.k (.str [109, 97, 120])), (.v 6), (.tup [(.call .heap 18 [(.v 0), (.lst [(.k (.str [108, 97, 115, 116])), (.k (.str [121, 101, 97, 114])), (.k (.str [110, 97, 109, 101]))])]), (.call .heap 18 [(.v 0), (.v 1)])])]))] []), (.asg (.v 2) (.bin .add (.v 2) (.tup [(.tup [(.call .heap 18 [(.v 0), (.lst [(.k (.int 0)), (.k (.int 1)), (.k (.int 4)), (.k (.int 9))])]), (.v 3), (.v 6)])])))]), (.ret (.v 2))]⟩
/-- _law_odd: 0 cup, 1 row, 2 some -/
def d__law_odd : Df := ⟨2, 3, [(.asg (.v 2) (.lst [(.v 1), (.v 1), (.sl (.v 1) (.k (.int 1)) (.k .non)), (.bin .add (.v 1) (.sl (.v 1) (.k .non) (.k (.int 1)))), (.op .rev [(.v 1)]), (.op .list [(.v 1)]), (.bin .add (.v 1) (.tup [(.k (.str [122, 122]))])), (.tup []), (.k .non), (.bin .mul (.sl (.v 1) (.k .non) (.k (.int 1))) (.k (.int 2))), (.bin .add (.v 1) (.tup [(.k (.int 1))])), (.ix (.v 1) (.k (.int 0)))])), (.ret (.call .heap 18 [(.v 0), (.v 2)]))]⟩
/-- need_rules: 0 value -/
def d_need_rules : Df := ⟨1, 1, [(.ite (.notE (.call .pure 84 [(.v 0)])) [(.raise 93)] [])]⟩
/-- need_name: 0 value -/
def d_need_name : Df := ⟨1, 1, [(.ite (.notE (.call .pure 76 [(.v 0)])) [(.raise 116)] [])]⟩
/-- fits_telling: 0 value, 1 one -/
def d_fits_telling : Df := ⟨1, 2, [(.ite (.orL [(.notE (.call .pure 4 [(.v 0), (.k (.int 7)), (.k (.int 7))])), (.notE (.call .pure 3 [(.ix (.v 0) (.k (.int 1))), (.k (.int 0)), (.bin .sub (.g 119) (.k (.int 1)))])), (.notE (.call .pure 76 [(.ix (.v 0) (.k (.int 2)))]))]) [(.ret (.k (.bl false)))] []), (.ite (.orL [(.notE (.call .pure 3 [(.ix (.v 0) (.k (.int 3))), (.k (.int 0)), (.bin .sub (.g 120) (.k (.int 1)))])), (.notE (.op .all [(.comp [1] (.v 1) .seq [(.sl (.v 0) (.k (.int 4)) (.k (.int 6)))] (.k (.bl true)) (.call .pure 3 [(.v 1), (.k (.int 0)), (.bin .sub (.g 118) (.k (.int 1)))]))]))]) [(.ret (.k (.bl false)))] []), (.ret (.andL [(.cmp .le (.ix (.v 0) (.k (.int 4))) (.ix (.v 0) (.k (.int 5)))), (.orL [(.cmp .isv (.ix (.v 0) (.k (.int 6))) (.k .non)), (.call .pure 3 [(.ix (.v 0) (.k (.int 6))), (.neg (.g 122)), (.g 122)])])]))]⟩
/-- fits_event: 0 ahead, 1 value -/
def d_fits_event : Df := ⟨2, 2, [(.ite (.orL [(.notE (.call .pure 4 [(.v 1), (.k (.int 2)), (.k (.int 7))])), (.notE (.op (.isi .str) [(.ix (.v 1) (.k (.int 0)))]))]) [(.ret (.k (.bl false)))] []), (.ite (.cmp .eq (.ix (.v 1) (.k (.int 0))) (.k (.str [114, 117, 108, 101, 115]))) [(.ret (.andL [(.cmp .eq (.op .len [(.v 1)]) (.k (.int 3))), (.call .pure 3 [(.ix (.v 1) (.k (.int 1))), (.k (.int 0)), (.bin .sub (.g 118) (.k (.int 1)))]), (.call .pure 84 [(.ix (.v 1) (.k (.int 2)))])]))] []), (.ite (.cmp .eq (.ix (.v 1) (.k (.int 0))) (.k (.str [98, 97, 99, 107]))) [(.ret (.andL [(.cmp .eq (.op .len [(.v 1)]) (.k (.int 2))), (.call .pure 3 [(.ix (.v 1) (.k (.int 1))), (.k (.int 0)), (.bin .sub (.op .len [(.v 0)]) (.k (.int 1)))]), (.cmp .eq (.ix (.ix (.v 0) (.ix (.v 1) (.k (.int 1)))) (.k (.int 0))) (.k (.str [116, 101, 108, 108])))]))] []), (.ret (.andL [(.cmp .eq (.ix (.v 1) (.k (.int 0))) (.k (.str [116, 101, 108, 108]))), (.call .pure 123 [(.v 1)])]))]⟩
/-- fits_events: 0 value, 1 at, 2 one -/
def d_fits_events : Df := ⟨1, 3, [(.ite (.notE (.call .pure 4 [(.v 0), (.k (.int 0)), (.g 121)])) [(.ret (.k (.bl false)))] []), (.forS (.t [(.v 1), (.v 2)]) .enum [(.v 0)] [1, 2] [(.ite (.notE (.call .pure 124 [(.sl (.v 0) (.k .non) (.v 1)), (.v 2)])) [(.ret (.k (.bl false)))] [])]), (.ret (.k (.bl true)))]⟩
/-- counting: 0 events, 1 moment, 2 known, 3 one, 4 gone, 5 at -/
def d_counting : Df := ⟨2, 6, [(.asg (.v 2) (.sl (.v 0) (.k .non) (.v 1))), (.asg (.v 4) (.comp [3] (.v 3) .seq [(.v 2)] (.cmp .eq (.ix (.v 3) (.k (.int 0))) (.k (.str [98, 97, 99, 107]))) (.ix (.v 3) (.k (.int 1))))), (.ret (.comp [3, 5] (.t [(.v 5), (.v 3)]) .enum [(.v 2)] (.andL [(.cmp .eq (.ix (.v 3) (.k (.int 0))) (.k (.str [116, 101, 108, 108]))), (.cmp .notin (.v 5) (.v 4))]) (.v 5)))]⟩
/-- need_events: 0 value -/
def d_need_events : Df := ⟨1, 1, [(.ite (.notE (.call .pure 125 [(.v 0)])) [(.raise 115)] [])]⟩
/-- need_moment: 0 events, 1 value -/
def d_need_moment : Df := ⟨2, 2, [(.ex (.call .pure 127 [(.v 0)])), (.ex (.call .pure 24 [(.v 1), (.k (.int 0)), (.op .len [(.v 0)])]))]⟩
/-- need_about: 0 events, 1 moment, 2 person, 3 name, 4 month -/
def d_need_about : Df := ⟨5, 5, [(.ex (.call .pure 128 [(.v 0), (.v 1)])), (.ex (.call .pure 24 [(.v 2), (.k (.int 0)), (.bin .sub (.g 119) (.k (.int 1)))])), (.ex (.call .pure 117 [(.v 3)])), (.ex (.call .pure 24 [(.v 4), (.k (.int 0)), (.bin .sub (.g 118) (.k (.int 1)))]))]⟩
/-- counts_among: 0 events, 1 tellings, 2 person, 3 name, 4 month, 5 found, 6 at, 7 word, 8 who, 9 what, 10 source, 11 first, 12 last, 13 value -/
def d_counts_among : Df := ⟨5, 14, [(.asg (.v 5) (.thaw (.bin .mul (.lst [(.k .non)]) (.g 120)))), (.forS (.v 6) .seq [(.v 1)] [6, 7, 8, 9, 10, 11, 12, 13] [(.asg (.t [(.v 7), (.v 8), (.v 9), (.v 10), (.v 11), (.v 12), (.v 13)]) (.ix (.v 0) (.v 6))), (.ite (.andL [(.cmp .eq (.v 8) (.v 2)), (.cmp .eq (.v 9) (.v 3)), (.cmp2 .le .le (.v 11) (.v 4) (.v 12))]) [(.sub (.v 5) (.v 10) (.v 6))] [])]), (.ret (.v 5))]⟩
/-- giver_among: 0 events, 1 tellings, 2 person, 3 name, 4 month, 5 at -/
def d_giver_among : Df := ⟨5, 6, [(.forS (.v 5) .seq [(.op .rev [(.call .pure 130 [(.v 0), (.v 1), (.v 2), (.v 3), (.v 4)])])] [5] [(.ite (.andL [(.cmp .isnt (.v 5) (.k .non)), (.cmp .isnt (.ix (.ix (.v 0) (.v 5)) (.k (.int 6))) (.k .non))]) [(.ret (.v 5))] [])]), (.ret (.k .non))]⟩
/-- counts_of: 0 events, 1 moment, 2 person, 3 name, 4 month -/
def d_counts_of : Df := ⟨5, 5, [(.ex (.call .pure 129 [(.v 0), (.v 1), (.v 2), (.v 3), (.v 4)])), (.ret (.op .tuple [(.call .pure 130 [(.v 0), (.call .pure 126 [(.v 0), (.v 1)]), (.v 2), (.v 3), (.v 4)])]))]⟩
/-- giver_of: 0 events, 1 moment, 2 person, 3 name, 4 month -/
def d_giver_of : Df := ⟨5, 5, [(.ex (.call .pure 129 [(.v 0), (.v 1), (.v 2), (.v 3), (.v 4)])), (.ret (.call .pure 131 [(.v 0), (.call .pure 126 [(.v 0), (.v 1)]), (.v 2), (.v 3), (.v 4)]))]⟩
/-- _law_fact: 0 events, 1 moment, 2 person, 3 name, 4 month, 5 one, 6 gone, 7 best, 8 source, 9 last, 10 at -/
def d__law_fact : Df := ⟨5, 11, [(.asg (.v 6) (.comp [5] (.v 5) .seq [(.sl (.v 0) (.k .non) (.v 1))] (.cmp .eq (.ix (.v 5) (.k (.int 0))) (.k (.str [98, 97, 99, 107]))) (.ix (.v 5) (.k (.int 1))))), (.asg (.v 7) (.k .non)), (.forS (.v 8) .rng1 [(.k (.int 3))] [5, 8, 9, 10] [(.asg (.v 9) (.k .non)), (.forS (.t [(.v 10), (.v 5)]) .enum [(.sl (.v 0) (.k .non) (.v 1))] [5, 10] [(.ite (.andL [(.cmp .eq (.sl (.v 5) (.k .non) (.k (.int 4))) (.tup [(.k (.str [116, 101, 108, 108])), (.v 2), (.v 3), (.v 8)])), (.cmp2 .le .le (.ix (.v 5) (.k (.int 4))) (.v 4) (.ix (.v 5) (.k (.int 5)))), (.cmp .notin (.v 10) (.v 6))]) [(.asg (.v 9) (.ix (.v 5) (.k (.int 6))))] [])]), (.asg (.v 7) (.ife (.cmp .isnt (.v 9) (.k .non)) (.v 9) (.v 7)))]), (.ret (.v 7))]⟩
/-- _law_fact_events: 0 cup, 1 many, 2 months, 3 found, 4 turn, 5 at, 6 one, 7 way, 8 told, 9 first, 10 span, 11 who -/
def d__law_fact_events : Df := ⟨3, 12, [(.asg (.v 3) (.tup [])), (.forS (.v 4) .rng1 [(.v 1)] [4, 7, 8, 9, 10, 11] [(.par [7, 8] [(.call .heap 17 [(.v 0), (.k (.int 7))]), (.comp [5, 6] (.t [(.v 5), (.v 6)]) .enum [(.v 3)] (.cmp .eq (.ix (.v 6) (.k (.int 0))) (.k (.str [116, 101, 108, 108]))) (.v 5))]), (.asg (.v 9) (.call .heap 17 [(.v 0), (.v 2)])), (.ite (.andL [(.cmp .eq (.v 7) (.k (.int 0))), (.cmp .ne (.v 8) (.lst []))]) [(.asg (.v 3) (.bin .add (.v 3) (.tup [(.tup [(.k (.str [98, 97, 99, 107])), (.call .heap 18 [(.v 0), (.v 8)])])])))] [(.ite (.andL [(.cmp .eq (.v 7) (.k (.int 1))), (.cmp .eq (.call .heap 17 [(.v 0), (.k (.int 3))]) (.k (.int 0)))]) [(.asg (.v 3) (.bin .add (.v 3) (.tup [(.tup [(.k (.str [114, 117, 108, 101, 115])), (.v 9), (.tup [(.tup [(.k (.int 9)), (.k (.str [97])), (.tup [(.k (.str [102, 97, 99, 116])), (.k (.str [104]))])])])])])))] [(.asg (.v 10) (.tup [(.v 9), (.bin .add (.v 9) (.call .heap 17 [(.v 0), (.bin .sub (.v 2) (.v 9))]))])), (.asg (.v 11) (.tup [(.call .heap 18 [(.v 0), (.lst [(.k (.int 0)), (.k (.int 0)), (.k (.int 1)), (.k (.int 3))])]), (.call .heap 18 [(.v 0), (.lst [(.k (.str [104])), (.k (.str [104])), (.k (.str [107])), (.k (.str [104, 111, 117, 114, 115]))])]), (.call .heap 17 [(.v 0), (.k (.int 3))])])), (.asg (.v 3) (.bin .add (.v 3) (.tup [(.bin .add (.bin .add (.bin .add (.tup [(.k (.str [116, 101, 108, 108]))]) (.v 11)) (.v 10)) (.tup [(.call .heap 18 [(.v 0), (.lst [(.k .non), (.k .non), (.k (.int 0)), (.k (.int 1)), (.k (.int 1)), (.k (.int 8)), (.neg (.k (.int 5))), (.bin .pow (.k (.int 10)) (.k (.int 9))), (.neg (.bin .pow (.k (.int 10)) (.k (.int 9))))])])]))])))])])]), (.ret (.v 3))]⟩
/-- _law_counts: 0 events, 1 moment, 2 person, 3 name, 4 month, 5 one, 6 gone, 7 found, 8 at -/
def d__law_counts : Df := ⟨5, 9, [(.asg (.v 6) (.comp [5] (.v 5) .seq [(.sl (.v 0) (.k .non) (.v 1))] (.cmp .eq (.ix (.v 5) (.k (.int 0))) (.k (.str [98, 97, 99, 107]))) (.ix (.v 5) (.k (.int 1))))), (.asg (.v 7) (.thaw (.lst [(.k .non), (.k .non), (.k .non)]))), (.forS (.t [(.v 8), (.v 5)]) .enum [(.sl (.v 0) (.k .non) (.v 1))] [5, 8] [(.ite (.andL [(.cmp .eq (.ix (.v 5) (.k (.int 0))) (.k (.str [116, 101, 108, 108]))), (.cmp .eq (.sl (.v 5) (.k (.int 1)) (.k (.int 3))) (.tup [(.v 2), (.v 3)])), (.cmp2 .le .le (.ix (.v 5) (.k (.int 4))) (.v 4) (.ix (.v 5) (.k (.int 5)))), (.cmp .notin (.v 8) (.v 6))]) [(.sub (.v 7) (.ix (.v 5) (.k (.int 3))) (.v 8))] [])]), (.ret (.op .tuple [(.v 7)]))]⟩
/-- _law_giver: 0 events, 1 moment, 2 person, 3 name, 4 month, 5 at -/
def d__law_giver : Df := ⟨5, 6, [(.forS (.v 5) .seq [(.op .rev [(.call .pure 136 [(.v 0), (.v 1), (.v 2), (.v 3), (.v 4)])])] [5] [(.ite (.andL [(.cmp .isnt (.v 5) (.k .non)), (.cmp .isnt (.ix (.ix (.v 0) (.v 5)) (.k (.int 6))) (.k .non))]) [(.ret (.v 5))] [])]), (.ret (.k .non))]⟩
/-- _law_same: 0 value, 1 due -/
def d__law_same : Df := ⟨2, 2, [(.ret (.cmp .eq (.op .repr [(.v 0)]) (.op .repr [(.v 1)])))]⟩
/-- _law_odd_events: 0 cup, 1 events, 2 good, 3 some, 4 at, 5 bad -/
def d__law_odd_events : Df := ⟨2, 6, [(.asg (.v 2) (.tup [(.k (.str [116, 101, 108, 108])), (.k (.int 0)), (.k (.str [104])), (.k (.int 1)), (.k (.int 0)), (.k (.int 3)), (.k (.int 8))])), (.asg (.v 3) (.thaw (.lst [(.k .non), (.op .list [(.v 1)]), (.bin .add (.v 1) (.tup [(.k .non)])), (.bin .mul (.tup [(.v 2)]) (.k (.int 61))), (.tup [(.tup [(.k (.str [98, 97, 99, 107])), (.k (.int 0))])]), (.tup [(.v 2), (.tup [(.k (.str [98, 97, 99, 107])), (.k (.int 1))])]), (.tup [(.v 2), (.tup [(.k (.str [98, 97, 99, 107])), (.k (.bl true))])]), (.tup [(.v 2), (.tup [(.k (.str [98, 97, 99, 107])), (.k (.int 0)), (.k (.int 0))])]), (.k (.int 7))]))), (.forS (.t [(.v 4), (.v 5)]) .seq [(.lst [(.tup [(.k (.int 1)), (.k (.int 4))]), (.tup [(.k (.int 1)), (.k (.bl true))]), (.tup [(.k (.int 2)), (.k (.str [72]))]), (.tup [(.k (.int 2)), (.k (.str [97, 98, 99, 100, 101, 102, 103, 104, 105]))]), (.tup [(.k (.int 2)), (.k (.str []))]), (.tup [(.k (.int 3)), (.k (.int 3))]), (.tup [(.k (.int 3)), (.neg (.k (.int 1)))]), (.tup [(.k (.int 4)), (.neg (.k (.int 1)))]), (.tup [(.k (.int 4)), (.k (.int 4))]), (.tup [(.k (.int 5)), (.k (.int 36))]), (.tup [(.k (.int 6)), (.bin .add (.bin .pow (.k (.int 10)) (.k (.int 9))) (.k (.int 1)))]), (.tup [(.k (.int 6)), (.k (.bl true))]), (.tup [(.k (.int 6)), (.k (.str [49]))])])] [4, 5] [(.ex (.app (.v 3) (.tup [(.bin .add (.bin .add (.sl (.v 2) (.k .non) (.v 4)) (.tup [(.v 5)])) (.sl (.v 2) (.bin .add (.v 4) (.k (.int 1))) (.k .non)))])))]), (.ret (.call .heap 18 [(.v 0), (.bin .add (.v 3) (.lst [(.tup [(.sl (.v 2) (.k .non) (.k (.int 6)))]), (.tup [(.op .list [(.v 2)])]), (.tup [(.tup [(.k (.str [114, 117, 108, 101, 115])), (.k (.int 36)), (.tup [(.tup [(.k (.int 9)), (.k (.str [97])), (.tup [(.k (.str [110, 117, 109])), (.k (.int 1))])])])])]), (.tup [(.tup [(.k (.str [114, 117, 108, 101, 115])), (.k (.int 0)), (.tup [])])]), (.tup [(.tup [(.k (.str [114, 117, 108, 101, 115])), (.k (.int 0)), (.tup [(.tup [(.k (.int 9)), (.k (.str [97])), (.tup [(.k (.str [110, 97, 109, 101])), (.k (.str [97]))])])])])])]))]))]⟩
/-- row_among: 0 events, 1 tellings, 2 person, 3 name, 4 month -/
def d_row_among : Df := ⟨4, 5, [(.ret (.comp [4] (.v 4) .rng1 [(.g 118)] (.k (.bl true)) (.call .pure 131 [(.v 0), (.v 1), (.v 2), (.v 3), (.v 4)])))]⟩
/-- values_by: 0 events, 1 givers, 2 at -/
def d_values_by : Df := ⟨2, 3, [(.ret (.comp [2] (.v 2) .seq [(.v 1)] (.k (.bl true)) (.ife (.cmp .isnt (.v 2) (.k .non)) (.ix (.ix (.v 0) (.v 2)) (.k (.int 6))) (.k .non))))]⟩
/-- runs_in: 0 row, 1 at, 2 starts, 3 first, 4 behind -/
def d_runs_in : Df := ⟨1, 5, [(.asg (.v 2) (.comp [1] (.v 1) .rng1 [(.op .len [(.v 0)])] (.orL [(.cmp .eq (.v 1) (.k (.int 0))), (.cmp .ne (.ix (.v 0) (.v 1)) (.ix (.v 0) (.bin .sub (.v 1) (.k (.int 1)))))]) (.v 1))), (.ret (.comp [3, 4] (.t [(.v 3), (.v 4)]) .zip [(.v 2), (.bin .add (.sl (.v 2) (.k (.int 1)) (.k .non)) (.lst [(.op .len [(.v 0)])]))] (.k (.bl true)) (.tup [(.v 3), (.bin .sub (.v 4) (.k (.int 1)))])))]⟩
/-- need_fact: 0 events, 1 moment, 2 person, 3 name -/
def d_need_fact : Df := ⟨4, 4, [(.ex (.call .pure 128 [(.v 0), (.v 1)])), (.ex (.call .pure 24 [(.v 2), (.k (.int 0)), (.bin .sub (.g 119) (.k (.int 1)))])), (.ex (.call .pure 117 [(.v 3)]))]⟩
/-- spans_of: 0 events, 1 moment, 2 person, 3 name, 4 row, 5 values, 6 first, 7 last -/
def d_spans_of : Df := ⟨4, 8, [(.ex (.call .pure 144 [(.v 0), (.v 1), (.v 2), (.v 3)])), (.asg (.v 4) (.call .pure 141 [(.v 0), (.call .pure 126 [(.v 0), (.v 1)]), (.v 2), (.v 3)])), (.asg (.v 5) (.call .pure 142 [(.v 0), (.v 4)])), (.ret (.op .tuple [(.comp [6, 7] (.t [(.v 6), (.v 7)]) .seq [(.call .pure 143 [(.v 4)])] (.k (.bl true)) (.tup [(.v 6), (.v 7), (.ix (.v 5) (.v 6)), (.ix (.v 4) (.v 6))]))]))]⟩
/-- _law_spans: 0 events, 1 moment, 2 person, 3 name, 4 found, 5 month, 6 giver, 7 value -/
def d__law_spans : Df := ⟨4, 8, [(.asg (.v 4) (.thaw (.lst []))), (.forS (.v 5) .rng1 [(.k (.int 36))] [5, 6, 7] [(.asg (.v 6) (.call .pure 137 [(.v 0), (.v 1), (.v 2), (.v 3), (.v 5)])), (.asg (.v 7) (.ife (.cmp .isnt (.v 6) (.k .non)) (.ix (.ix (.v 0) (.v 6)) (.k (.int 6))) (.k .non))), (.ite (.andL [(.cmp .ne (.v 4) (.lst [])), (.cmp .eq (.ix (.ix (.v 4) (.neg (.k (.int 1)))) (.k (.int 3))) (.v 6))]) [(.sub (.v 4) (.neg (.k (.int 1))) (.tup [(.ix (.ix (.v 4) (.neg (.k (.int 1)))) (.k (.int 0))), (.v 5), (.v 7), (.v 6)]))] [(.ex (.app (.v 4) (.tup [(.v 5), (.v 5), (.v 7), (.v 6)])))])]), (.ret (.op .tuple [(.v 4)]))]⟩
/-- facts_among: 0 events, 1 moment, 2 one -/
def d_facts_among : Df := ⟨2, 3, [(.ret (.op .sset [(.comp [2] (.v 2) .seq [(.sl (.v 0) (.k .non) (.v 1))] (.cmp .eq (.ix (.v 2) (.k (.int 0))) (.k (.str [116, 101, 108, 108]))) (.sl (.v 2) (.k (.int 1)) (.k (.int 3))))]))]⟩
/-- facts_told: 0 events, 1 moment -/
def d_facts_told : Df := ⟨2, 2, [(.ex (.call .pure 128 [(.v 0), (.v 1)])), (.ret (.op .tuple [(.call .pure 147 [(.v 0), (.v 1)])]))]⟩
/-- facts_changed: 0 events, 1 moment, 2 later -/
def d_facts_changed : Df := ⟨3, 3, [(.ex (.call .pure 128 [(.v 0), (.v 1)])), (.ex (.call .pure 24 [(.v 2), (.k (.int 0)), (.op .len [(.v 0)])])), (.ret (.call .pure 148 [(.v 0), (.v 1), (.v 2)]))]⟩
/-- _law_changed: 0 events, 1 moment, 2 later, 3 found, 4 person, 5 name, 6 ahead, 7 month, 8 pair -/
def d__law_changed : Df := ⟨3, 9, [(.asg (.v 3) (.thaw (.lst []))), (.forS (.v 4) .rng1 [(.k (.int 4))] [4, 5, 6, 7, 8] [(.forS (.v 5) .seq [(.tup [(.k (.str [104])), (.k (.str [104, 111, 117, 114, 115])), (.k (.str [107]))])] [5, 6, 7, 8] [(.asg (.v 6) (.k .non)), (.forS (.v 7) .rng1 [(.k (.int 36))] [7, 8] [(.asg (.v 8) (.tup [(.call .pure 134 [(.v 0), (.v 1), (.v 4), (.v 5), (.v 7)]), (.call .pure 134 [(.v 0), (.v 2), (.v 4), (.v 5), (.v 7)])])), (.ite (.andL [(.cmp .ne (.ix (.v 8) (.k (.int 0))) (.ix (.v 8) (.k (.int 1)))), (.cmp .eq (.v 8) (.v 6))]) [(.sub (.v 3) (.neg (.k (.int 1))) (.bin .add (.bin .add (.sl (.ix (.v 3) (.neg (.k (.int 1)))) (.k .non) (.k (.int 3))) (.tup [(.v 7)])) (.v 8)))] [(.ite (.cmp .ne (.ix (.v 8) (.k (.int 0))) (.ix (.v 8) (.k (.int 1)))) [(.ex (.app (.v 3) (.bin .add (.tup [(.v 4), (.v 5), (.v 7), (.v 7)]) (.v 8))))] [])]), (.asg (.v 6) (.v 8))])])]), (.ret (.op .tuple [(.v 3)]))]⟩
/-- _law_backwards_right: 0 events -/
def d__law_backwards_right : Df := ⟨0, 1, [(.asg (.v 0) (.tup [(.tup [(.k (.str [116, 101, 108, 108])), (.k (.int 0)), (.k (.str [104])), (.k (.int 1)), (.k (.int 0)), (.k (.int 5)), (.k (.int 8))]), (.tup [(.k (.str [116, 101, 108, 108])), (.k (.int 1)), (.k (.str [107])), (.k (.int 2)), (.k (.int 2)), (.k (.int 3)), (.k (.int 3))]), (.tup [(.k (.str [116, 101, 108, 108])), (.k (.int 1)), (.k (.str [107])), (.k (.int 0)), (.k (.int 3)), (.k (.int 6)), (.k (.int 9))])])), (.ite (.notE (.call .pure 138 [(.call .pure 150 [(.v 0), (.k (.int 3)), (.k (.int 1))]), (.tup [(.tup [(.k (.int 1)), (.k (.str [107])), (.k (.int 2)), (.k (.int 3)), (.k (.int 3)), (.k .non)]), (.tup [(.k (.int 1)), (.k (.str [107])), (.k (.int 4)), (.k (.int 6)), (.k (.int 9)), (.k .non)])])])) [(.ret (.k (.bl false)))] []), (.ite (.notE (.call .pure 138 [(.call .pure 150 [(.v 0), (.k (.int 1)), (.k (.int 3))]), (.tup [(.tup [(.k (.int 1)), (.k (.str [107])), (.k (.int 2)), (.k (.int 3)), (.k .non), (.k (.int 3))]), (.tup [(.k (.int 1)), (.k (.str [107])), (.k (.int 4)), (.k (.int 6)), (.k .non), (.k (.int 9))])])])) [(.ret (.k (.bl false)))] []), (.ret (.call .pure 138 [(.call .pure 150 [(.v 0), (.k (.int 2)), (.k (.int 0))]), (.tup [(.tup [(.k (.int 0)), (.k (.str [104])), (.k (.int 0)), (.k (.int 5)), (.k (.int 8)), (.k .non)]), (.tup [(.k (.int 1)), (.k (.str [107])), (.k (.int 2)), (.k (.int 3)), (.k (.int 3)), (.k .non)])])]))]⟩
/-- concern_of: 0 events, 1 index, 2 one -/
def d_concern_of : Df := ⟨2, 3, [(.asg (.v 2) (.ix (.v 0) (.v 1))), (.ite (.cmp .eq (.ix (.v 2) (.k (.int 0))) (.k (.str [98, 97, 99, 107]))) [(.asg (.v 2) (.ix (.v 0) (.ix (.v 2) (.k (.int 1)))))] []), (.ret (.ife (.cmp .eq (.ix (.v 2) (.k (.int 0))) (.k (.str [116, 101, 108, 108]))) (.bin .add (.sl (.v 2) (.k (.int 1)) (.k (.int 3))) (.sl (.v 2) (.k (.int 4)) (.k (.int 6)))) (.k .non)))]⟩
/-- history_of: 0 events, 1 person, 2 name, 3 month, 4 found, 5 moment, 6 giver, 7 value -/
def d_history_of : Df := ⟨4, 8, [(.ex (.call .pure 127 [(.v 0)])), (.ex (.call .pure 24 [(.v 1), (.k (.int 0)), (.bin .sub (.g 119) (.k (.int 1)))])), (.ex (.call .pure 117 [(.v 2)])), (.ex (.call .pure 24 [(.v 3), (.k (.int 0)), (.bin .sub (.g 118) (.k (.int 1)))])), (.asg (.v 4) (.thaw (.lst [(.tup [(.k (.int 0)), (.k .non)])]))), (.forS (.v 5) .rng2 [(.k (.int 1)), (.bin .add (.op .len [(.v 0)]) (.k (.int 1)))] [5, 6, 7] [(.asg (.v 6) (.call .pure 131 [(.v 0), (.call .pure 126 [(.v 0), (.v 5)]), (.v 1), (.v 2), (.v 3)])), (.asg (.v 7) (.ix (.call .pure 142 [(.v 0), (.lst [(.v 6)])]) (.k (.int 0)))), (.ite (.cmp .ne (.v 7) (.ix (.ix (.v 4) (.neg (.k (.int 1)))) (.k (.int 1)))) [(.ex (.app (.v 4) (.tup [(.v 5), (.v 7)])))] [])]), (.ret (.op .tuple [(.v 4)]))]⟩
/-- concerned_by: 0 events, 1 index -/
def d_concerned_by : Df := ⟨2, 2, [(.ex (.call .pure 127 [(.v 0)])), (.ex (.call .pure 24 [(.v 1), (.k (.int 0)), (.bin .sub (.op .len [(.v 0)]) (.k (.int 1)))])), (.ret (.call .pure 153 [(.v 0), (.v 1)]))]⟩
/-- _law_concern: 0 events, 1 index, 2 one -/
def d__law_concern : Df := ⟨2, 3, [(.asg (.v 2) (.ife (.cmp .eq (.ix (.ix (.v 0) (.v 1)) (.k (.int 0))) (.k (.str [98, 97, 99, 107]))) (.ix (.v 0) (.ix (.ix (.v 0) (.v 1)) (.k (.int 1)))) (.ix (.v 0) (.v 1)))), (.ret (.ife (.cmp .eq (.ix (.v 2) (.k (.int 0))) (.k (.str [116, 101, 108, 108]))) (.tup [(.ix (.v 2) (.k (.int 1))), (.ix (.v 2) (.k (.int 2))), (.ix (.v 2) (.k (.int 4))), (.ix (.v 2) (.k (.int 5)))]) (.k .non)))]⟩
/-- is_idle: 0 events, 1 tellings, 2 index, 3 word, 4 person, 5 name, 6 source, 7 first, 8 last, 9 value, 10 at, 11 left, 12 month, 13 some, 14 givers, 15 one, 16 other -/
def d_is_idle : Df := ⟨3, 17, [(.asg (.t [(.v 3), (.v 4), (.v 5), (.v 6), (.v 7), (.v 8), (.v 9)]) (.ix (.v 0) (.v 2))), (.asg (.v 11) (.comp [10] (.v 10) .seq [(.v 1)] (.cmp .ne (.v 10) (.v 2)) (.v 10))), (.forS (.v 12) .rng2 [(.v 7), (.bin .add (.v 8) (.k (.int 1)))] [12, 14, 15, 16] [(.asg (.v 14) (.comp [13] (.v 13) .seq [(.tup [(.v 1), (.v 11)])] (.k (.bl true)) (.call .pure 131 [(.v 0), (.v 13), (.v 4), (.v 5), (.v 12)]))), (.asg (.t [(.v 15), (.v 16)]) (.call .pure 142 [(.v 0), (.v 14)])), (.ite (.cmp .ne (.v 15) (.v 16)) [(.ret (.k (.bl false)))] [])]), (.ret (.k (.bl true)))]⟩
/-- idle_tellings: 0 events, 1 moment, 2 tellings, 3 at -/
def d_idle_tellings : Df := ⟨2, 4, [(.ex (.call .pure 128 [(.v 0), (.v 1)])), (.asg (.v 2) (.call .pure 126 [(.v 0), (.v 1)])), (.ret (.op .tuple [(.comp [3] (.v 3) .seq [(.v 2)] (.call .pure 157 [(.v 0), (.v 2), (.v 3)]) (.v 3))]))]⟩
/-- _law_without: 0 events, 1 at -/
def d__law_without : Df := ⟨2, 2, [(.ret (.bin .add (.bin .add (.sl (.v 0) (.k .non) (.v 1)) (.tup [(.bin .add (.bin .add (.sl (.ix (.v 0) (.v 1)) (.k .non) (.k (.int 2))) (.tup [(.k (.str [122, 122]))])) (.sl (.ix (.v 0) (.v 1)) (.k (.int 3)) (.k .non)))])) (.sl (.v 0) (.bin .add (.v 1) (.k (.int 1))) (.k .non))))]⟩
/-- _law_table: 0 events, 1 moment, 2 months, 3 found, 4 person, 5 name, 6 month -/
def d__law_table : Df := ⟨3, 7, [(.asg (.v 3) (.lst [])), (.forS (.v 4) .seq [(.tup [(.k (.int 0)), (.k (.int 1)), (.k (.int 3))])] [4, 5] [(.forS (.v 5) .seq [(.tup [(.k (.str [104])), (.k (.str [107])), (.k (.str [104, 111, 117, 114, 115]))])] [5] [(.asg (.v 3) (.bin .add (.v 3) (.comp [6] (.v 6) .rng1 [(.v 2)] (.k (.bl true)) (.call .pure 134 [(.v 0), (.v 1), (.v 4), (.v 5), (.v 6)]))))])]), (.ret (.v 3))]⟩
/-- _law_values: 0 events, 1 moment, 2 person, 3 name, 4 month -/
def d__law_values : Df := ⟨4, 5, [(.ret (.comp [4] (.v 4) .rng1 [(.k (.int 36))] (.k (.bl true)) (.call .pure 134 [(.v 0), (.v 1), (.v 2), (.v 3), (.v 4)])))]⟩
/-- _law_told: 0 spans, 1 found, 2 first, 3 last, 4 value, 5 giver -/
def d__law_told : Df := ⟨1, 6, [(.asg (.v 1) (.lst [])), (.forS (.t [(.v 2), (.v 3), (.v 4), (.v 5)]) .seq [(.v 0)] [2, 3, 4, 5] [(.asg (.v 1) (.bin .add (.v 1) (.bin .mul (.lst [(.v 4)]) (.bin .add (.bin .sub (.v 3) (.v 2)) (.k (.int 1))))))]), (.ret (.v 1))]⟩
/-- _law_pairs: 0 events, 1 one -/
def d__law_pairs : Df := ⟨1, 2, [(.ret (.op .sset [(.comp [1] (.v 1) .seq [(.v 0)] (.cmp .eq (.ix (.v 1) (.k (.int 0))) (.k (.str [116, 101, 108, 108]))) (.sl (.v 1) (.k (.int 1)) (.k (.int 3))))]))]⟩
/-- _law_spans_right: 0 events, 1 pairs, 2 pair -/
def d__law_spans_right : Df := ⟨2, 3, [(.ret (.cmp .eq (.comp [2] (.v 2) .seq [(.v 1)] (.notE (.call .pure 138 [(.call .pure 145 [(.v 0), (.op .len [(.v 0)]), (.ix (.v 2) (.k (.int 0))), (.ix (.v 2) (.k (.int 1)))]), (.call .pure 146 [(.v 0), (.op .len [(.v 0)]), (.ix (.v 2) (.k (.int 0))), (.ix (.v 2) (.k (.int 1)))])])) (.v 2)) (.lst [])))]⟩
/-- _law_turned_right: 0 events, 1 place, 2 pairs, 3 free, 4 one, 5 turned, 6 person, 7 name -/
def d__law_turned_right : Df := ⟨1, 8, [(.asg (.v 2) (.comp [1] (.v 1) .rng1 [(.bin .sub (.op .len [(.v 0)]) (.k (.int 1)))] (.andL [(.cmp .eq (.ix (.ix (.v 0) (.v 1)) (.k (.int 0))) (.k (.str [116, 101, 108, 108]))), (.cmp .eq (.ix (.ix (.v 0) (.bin .add (.v 1) (.k (.int 1)))) (.k (.int 0))) (.k (.str [116, 101, 108, 108])))]) (.v 1))), (.asg (.v 3) (.comp [1] (.v 1) .seq [(.v 2)] (.orL [(.cmp .ne (.sl (.ix (.v 0) (.v 1)) (.k (.int 1)) (.k (.int 4))) (.sl (.ix (.v 0) (.bin .add (.v 1) (.k (.int 1)))) (.k (.int 1)) (.k (.int 4)))), (.cmp .lt (.ix (.ix (.v 0) (.v 1)) (.k (.int 5))) (.ix (.ix (.v 0) (.bin .add (.v 1) (.k (.int 1)))) (.k (.int 4)))), (.cmp .lt (.ix (.ix (.v 0) (.bin .add (.v 1) (.k (.int 1)))) (.k (.int 5))) (.ix (.ix (.v 0) (.v 1)) (.k (.int 4))))]) (.v 1))), (.forS (.v 1) .seq [(.sl (.v 3) (.k .non) (.k (.int 3)))] [1, 5, 6, 7] [(.ite (.cmp .eq (.comp [4] (.v 4) .seq [(.v 0)] (.andL [(.cmp .eq (.ix (.v 4) (.k (.int 0))) (.k (.str [98, 97, 99, 107]))), (.cmp .isin (.ix (.v 4) (.k (.int 1))) (.tup [(.v 1), (.bin .add (.v 1) (.k (.int 1)))]))]) (.v 4)) (.lst [])) [(.asg (.v 5) (.bin .add (.bin .add (.sl (.v 0) (.k .non) (.v 1)) (.tup [(.ix (.v 0) (.bin .add (.v 1) (.k (.int 1)))), (.ix (.v 0) (.v 1))])) (.sl (.v 0) (.bin .add (.v 1) (.k (.int 2))) (.k .non)))), (.forS (.t [(.v 6), (.v 7)]) .seq [(.call .pure 167 [(.v 0)])] [6, 7] [(.ite (.notE (.call .pure 138 [(.call .pure 166 [(.call .pure 145 [(.v 5), (.op .len [(.v 5)]), (.v 6), (.v 7)])]), (.call .pure 165 [(.v 0), (.op .len [(.v 0)]), (.v 6), (.v 7)])])) [(.ret (.k (.bl false)))] [])])] [])]), (.ret (.k (.bl true)))]⟩
/-- version_at: 0 events, 1 moment, 2 month, 3 found, 4 at, 5 one -/
def d_version_at : Df := ⟨3, 6, [(.asg (.v 3) (.k .non)), (.forS (.t [(.v 4), (.v 5)]) .enum [(.sl (.v 0) (.k .non) (.v 1))] [4, 5] [(.ite (.andL [(.cmp .eq (.ix (.v 5) (.k (.int 0))) (.k (.str [114, 117, 108, 101, 115]))), (.cmp .le (.ix (.v 5) (.k (.int 1))) (.v 2)), (.orL [(.cmp .isv (.v 3) (.k .non)), (.cmp .ge (.ix (.v 5) (.k (.int 1))) (.ix (.ix (.v 0) (.v 3)) (.k (.int 1))))])]) [(.asg (.v 3) (.v 4))] [])]), (.ret (.v 3))]⟩
/-- is_events: 0 value -/
def d_is_events : Df := ⟨1, 1, [(.ret (.call .pure 125 [(.v 0)]))]⟩
/-- fact_of: 0 events, 1 moment, 2 person, 3 name, 4 month -/
def d_fact_of : Df := ⟨5, 5, [(.ex (.call .pure 129 [(.v 0), (.v 1), (.v 2), (.v 3), (.v 4)])), (.ret (.call .pure 170 [(.v 0), (.v 1), (.v 2), (.v 3), (.v 4)]))]⟩
/-- version_of: 0 events, 1 moment, 2 month -/
def d_version_of : Df := ⟨3, 3, [(.ex (.call .pure 128 [(.v 0), (.v 1)])), (.ex (.call .pure 24 [(.v 2), (.k (.int 0)), (.bin .sub (.g 118) (.k (.int 1)))])), (.ret (.call .pure 171 [(.v 0), (.v 1), (.v 2)]))]⟩
/-- _law_telling: 0 cup, 1 months, 2 first, 3 value, 4 last -/
def d__law_telling : Df := ⟨2, 5, [(.asg (.v 2) (.call .heap 17 [(.v 0), (.v 1)])), (.asg (.v 3) (.call .heap 18 [(.v 0), (.lst [(.k .non), (.k (.int 0)), (.k (.int 1)), (.k (.int 3)), (.k (.int 8)), (.neg (.k (.int 5))), (.k (.int 40)), (.k (.int 1000)), (.bin .pow (.k (.int 10)) (.k (.int 9)))])])), (.asg (.v 4) (.bin .add (.v 2) (.call .heap 17 [(.v 0), (.bin .sub (.v 1) (.v 2))]))), (.ret (.tup [(.k (.str [116, 101, 108, 108])), (.call .heap 18 [(.v 0), (.lst [(.k (.int 0)), (.k (.int 0)), (.k (.int 1))])]), (.call .heap 18 [(.v 0), (.lst [(.k (.str [104])), (.k (.str [104])), (.k (.str [107]))])]), (.call .heap 17 [(.v 0), (.k (.int 3))]), (.v 2), (.v 4), (.v 3)]))]⟩
/-- _law_events: 0 cup, 1 many, 2 months, 3 found, 4 turn, 5 at, 6 one, 7 way, 8 told -/
def d__law_events : Df := ⟨3, 9, [(.asg (.v 3) (.tup [(.tup [(.k (.str [114, 117, 108, 101, 115])), (.call .heap 18 [(.v 0), (.lst [(.k (.int 0)), (.k (.int 0)), (.k (.int 1))])]), (.call .heap 89 [(.v 0)])])])), (.forS (.v 4) .rng1 [(.bin .sub (.v 1) (.k (.int 1)))] [4, 7, 8] [(.par [7, 8] [(.call .heap 17 [(.v 0), (.k (.int 8))]), (.comp [5, 6] (.t [(.v 5), (.v 6)]) .enum [(.v 3)] (.cmp .eq (.ix (.v 6) (.k (.int 0))) (.k (.str [116, 101, 108, 108]))) (.v 5))]), (.ite (.andL [(.cmp .eq (.v 7) (.k (.int 0))), (.cmp .ne (.v 8) (.lst []))]) [(.asg (.v 3) (.bin .add (.v 3) (.tup [(.tup [(.k (.str [98, 97, 99, 107])), (.call .heap 18 [(.v 0), (.v 8)])])])))] [(.ite (.cmp .eq (.v 7) (.k (.int 1))) [(.asg (.v 3) (.bin .add (.v 3) (.tup [(.tup [(.k (.str [114, 117, 108, 101, 115])), (.call .heap 17 [(.v 0), (.v 2)]), (.call .heap 89 [(.v 0)])])])))] [(.asg (.v 3) (.bin .add (.v 3) (.tup [(.call .heap 176 [(.v 0), (.v 2)])])))])])]), (.ret (.v 3))]⟩
/-- rates_text: 0 limits, 1 rates, 2 found, 3 limit, 4 rate -/
def d_rates_text : Df := ⟨2, 5, [(.asg (.v 2) (.op .str [(.ix (.v 1) (.k (.int 0)))])), (.forS (.t [(.v 3), (.v 4)]) .zip [(.v 0), (.sl (.v 1) (.k (.int 1)) (.k .non))] [3, 4] [(.asg (.v 2) (.bin .add (.bin .add (.bin .add (.bin .add (.v 2) (.k (.str [32]))) (.op .str [(.v 3)])) (.k (.str [32]))) (.op .str [(.v 4)])))]), (.ret (.v 2))]⟩
/-- definition_text: 0 definition, 1 kind, 2 name, 3 expression -/
def d_definition_text : Df := ⟨1, 4, [(.asg (.t [(.v 1), (.v 2), (.v 3)]) (.v 0)), (.ret (.bin .add (.bin .add (.bin .add (.bin .add (.bin .add (.bin .add (.k (.str [32, 32])) (.ix (.g 183) (.v 1))) (.k (.str [32]))) (.v 2)) (.k (.str [32, 61, 32]))) (.call .pure 184 [(.v 3)])) (.k (.str [59, 10]))))]⟩
/-- value_text: 0 value -/
def d_value_text : Df := ⟨1, 1, [(.ite (.cmp .isv (.v 0) (.k .non)) [(.ret (.k (.str [78, 79, 78, 69])))] []), (.ret (.ife (.cmp .ge (.v 0) (.k (.int 0))) (.op .str [(.v 0)]) (.bin .add (.k (.str [45, 32])) (.op .str [(.neg (.v 0))]))))]⟩
/-- event_text: 0 event, 1 word, 2 person, 3 name, 4 source, 5 first, 6 last, 7 value, 8 head -/
def d_event_text : Df := ⟨1, 9, [(.ite (.cmp .eq (.ix (.v 0) (.k (.int 0))) (.k (.str [114, 117, 108, 101, 115]))) [(.ret (.bin .add (.bin .add (.bin .add (.k (.str [82, 85, 76, 69, 83, 32])) (.op .str [(.ix (.v 0) (.k (.int 1)))])) (.k (.str [32]))) (.call .pure 187 [(.ix (.v 0) (.k (.int 2)))])))] []), (.ite (.cmp .eq (.ix (.v 0) (.k (.int 0))) (.k (.str [98, 97, 99, 107]))) [(.ret (.bin .add (.bin .add (.k (.str [66, 65, 67, 75, 32])) (.op .str [(.ix (.v 0) (.k (.int 1)))])) (.k (.str [59, 10]))))] []), (.asg (.t [(.v 1), (.v 2), (.v 3), (.v 4), (.v 5), (.v 6), (.v 7)]) (.v 0)), (.asg (.v 8) (.bin .add (.bin .add (.bin .add (.bin .add (.bin .add (.bin .add (.bin .add (.bin .add (.bin .add (.k (.str [84, 69, 76, 76, 32])) (.op .str [(.v 2)])) (.k (.str [32]))) (.v 3)) (.k (.str [32, 66, 89, 32]))) (.op .str [(.v 4)])) (.k (.str [32, 70, 82, 79, 77, 32]))) (.op .str [(.v 5)])) (.k (.str [32, 84, 79, 32]))) (.op .str [(.v 6)]))), (.ret (.bin .add (.bin .add (.bin .add (.v 8) (.k (.str [32, 73, 83, 32]))) (.call .pure 188 [(.v 7)])) (.k (.str [59, 10]))))]⟩
/-- print_rules: 0 rules -/
def d_print_rules : Df := ⟨1, 1, [(.ex (.call .pure 110 [(.v 0)])), (.ret (.call .pure 187 [(.v 0)]))]⟩
/-- _law_rules_text: 0 rules, 1 found, 2 kind, 3 name, 4 expression, 5 head -/
def d__law_rules_text : Df := ⟨1, 6, [(.asg (.v 1) (.bin .add (.k (.str [123])) (.k (.str [10])))), (.forS (.t [(.v 2), (.v 3), (.v 4)]) .seq [(.v 0)] [2, 3, 4, 5] [(.asg (.v 5) (.ife (.cmp .eq (.v 2) (.k (.int 0))) (.k (.str [80, 65, 89])) (.ife (.cmp .eq (.v 2) (.k (.int 9))) (.k (.str [80, 76, 65, 73, 78])) (.ife (.cmp .lt (.v 2) (.k (.int 4))) (.bin .add (.k (.str [72, 79, 76, 68, 32])) (.op .str [(.bin .sub (.v 2) (.k (.int 1)))])) (.bin .add (.k (.str [65, 68, 68, 32])) (.op .str [(.bin .sub (.v 2) (.k (.int 4)))])))))), (.asg (.v 1) (.bin .add (.bin .add (.bin .add (.bin .add (.bin .add (.bin .add (.bin .add (.bin .add (.v 1) (.k (.str [32, 32]))) (.v 5)) (.k (.str [32]))) (.v 3)) (.k (.str [32, 61, 32]))) (.call .pure 192 [(.v 4)])) (.k (.str [59]))) (.k (.str [10]))))]), (.ret (.bin .add (.bin .add (.v 1) (.k (.str [125]))) (.k (.str [10]))))]⟩
/-- _law_events_text: 0 events, 1 found, 2 event, 3 told, 4 head -/
def d__law_events_text : Df := ⟨1, 5, [(.asg (.v 1) (.k (.str []))), (.forS (.v 2) .seq [(.v 0)] [2, 3, 4] [(.ite (.cmp .eq (.ix (.v 2) (.k (.int 0))) (.k (.str [114, 117, 108, 101, 115]))) [(.asg (.v 1) (.bin .add (.bin .add (.bin .add (.bin .add (.v 1) (.k (.str [82, 85, 76, 69, 83, 32]))) (.op .str [(.ix (.v 2) (.k (.int 1)))])) (.k (.str [32]))) (.call .pure 193 [(.ix (.v 2) (.k (.int 2)))])))] [(.ite (.cmp .eq (.ix (.v 2) (.k (.int 0))) (.k (.str [98, 97, 99, 107]))) [(.asg (.v 1) (.bin .add (.bin .add (.bin .add (.bin .add (.v 1) (.k (.str [66, 65, 67, 75, 32]))) (.op .str [(.ix (.v 2) (.k (.int 1)))])) (.k (.str [59]))) (.k (.str [10]))))] [(.asg (.v 3) (.ife (.cmp .isv (.ix (.v 2) (.k (.int 6))) (.k .non)) (.k (.str [78, 79, 78, 69])) (.ife (.cmp .ge (.ix (.v 2) (.k (.int 6))) (.k (.int 0))) (.op .str [(.ix (.v 2) (.k (.int 6)))]) (.bin .add (.k (.str [45, 32])) (.op .str [(.neg (.ix (.v 2) (.k (.int 6))))]))))), (.asg (.v 4) (.bin .add (.bin .add (.bin .add (.bin .add (.bin .add (.bin .add (.bin .add (.k (.str [84, 69, 76, 76, 32])) (.op .str [(.ix (.v 2) (.k (.int 1)))])) (.k (.str [32]))) (.ix (.v 2) (.k (.int 2)))) (.k (.str [32, 66, 89, 32]))) (.op .str [(.ix (.v 2) (.k (.int 3)))])) (.k (.str [32, 70, 82, 79, 77, 32]))) (.op .str [(.ix (.v 2) (.k (.int 4)))]))), (.asg (.v 1) (.bin .add (.bin .add (.bin .add (.bin .add (.bin .add (.bin .add (.bin .add (.v 1) (.v 4)) (.k (.str [32, 84, 79, 32]))) (.op .str [(.ix (.v 2) (.k (.int 5)))])) (.k (.str [32, 73, 83, 32]))) (.v 3)) (.k (.str [59]))) (.k (.str [10]))))])])]), (.ret (.v 1))]⟩
/-- law: 0 script, 1 cup, 2 turn, 3 rules, 4 one, 5 first, 6 other, 7 near, 8 inner, 9 test, 10 wraps, 11 goods, 12 odds, 13 good, 14 odd, 15 wide, 16 pair, 17 four, 18 rest, 19 last, 20 rows, 21 deep, 22 many, 23 at, 24 row -/
def d_law00 : Df := ⟨1, 25, [(.asg (.v 1) (.call .own 16 [(.v 0)])), (.forS (.v 2) .rng1 [(.k (.int 5))] [2, 3, 5, 6, 7, 8, 9, 10] [(.asg (.v 3) (.call .heap 89 [(.v 1)])), (.ite (.orL [(.cmp .isnt (.call .pure 86 [(.v 3)]) (.k (.bl true))), (.cmp .ne (.comp [4] (.v 4) .seq [(.v 3)] (.cmp .isnt (.call .pure 85 [(.ix (.v 4) (.k (.int 2)))]) (.k (.bl true))) (.v 4)) (.lst []))]) [(.ret (.k (.bl false)))] []), (.par [5, 6] [(.ix (.v 3) (.k (.int 0))), (.ix (.v 3) (.neg (.k (.int 1))))]), (.asg (.v 7) (.thaw (.lst [(.bin .add (.v 3) (.tup [(.tup [(.k (.int 9)), (.ix (.v 5) (.k (.int 1))), (.tup [(.k (.str [109, 111, 110, 116, 104]))])])])), (.bin .add (.v 3) (.tup [(.tup [(.k (.int 9)), (.k (.str [122, 122])), (.tup [(.k (.str [108, 97, 115, 116])), (.k (.str [121, 121]))])])])), (.bin .add (.v 3) (.tup [(.tup [(.k (.int 9)), (.k (.str [122, 122])), (.tup [(.k (.str [110, 97, 109, 101])), (.k (.str [122, 122]))])])]))]))), (.asg (.v 7) (.thaw (.bin .add (.v 7) (.lst [(.bin .add (.v 3) (.tup [(.tup [(.k (.int 7)), (.k (.str [122, 122])), (.tup [(.k (.str [109, 111, 110, 116, 104]))])])]))])))), (.ex (.app (.v 7) (.bin .add (.v 3) (.tup [(.tup [(.k (.int 9)), (.k (.str [122, 122])), (.tup [(.k (.str [112, 108, 117, 115])), (.tup [(.k (.str [110, 97, 109, 101])), (.k (.str [121, 121]))]), (.tup [(.k (.str [110, 117, 109])), (.k (.int 1))])])]), (.tup [(.k (.int 9)), (.k (.str [121, 121])), (.tup [(.k (.str [110, 101, 103])), (.tup [(.k (.str [110, 97, 109, 101])), (.k (.str [122, 122]))])])])])))), (.ex (.app (.v 7) (.bin .add (.v 3) (.tup [(.tup [(.k (.int 9)), (.k (.str [122, 122])), (.tup [(.k (.str [105, 102])), (.tup [(.k (.str [115, 97, 109, 101])), (.tup [(.k (.str [110, 117, 109])), (.k (.int 1))]), (.tup [(.k (.str [110, 117, 109])), (.k (.int 2))])]), (.tup [(.k (.str [110, 97, 109, 101])), (.k (.str [122, 122]))]), (.tup [(.k (.str [110, 117, 109])), (.k (.int 1))])])])])))), (.forS (.v 8) .seq [(.tup [(.tup [(.k (.str [110, 97, 109, 101])), (.k (.str [121, 121]))]), (.tup [(.k (.str [121, 101, 97, 114])), (.k (.str [121, 121]))]), (.tup [(.k (.str [110, 97, 109, 101])), (.k (.str [122, 122]))])])] [8, 9, 10] [(.asg (.v 9) (.tup [(.k (.str [115, 97, 109, 101])), (.v 8), (.tup [(.k (.str [110, 117, 109])), (.k (.int 1))])])), (.asg (.v 10) (.lst [(.v 8), (.tup [(.k (.str [105, 102])), (.v 9), (.tup [(.k (.str [110, 117, 109])), (.k (.int 1))]), (.tup [(.k (.str [110, 117, 109])), (.k (.int 1))])]), (.tup [(.k (.str [105, 102])), (.tup [(.k (.str [110, 111, 116])), (.tup [(.k (.str [111, 114])), (.v 9), (.v 9)])]), (.tup [(.k (.str [110, 117, 109])), (.k (.int 1))]), (.tup [(.k (.str [110, 117, 109])), (.k (.int 1))])])])), (.asg (.v 10) (.bin .add (.v 10) (.lst [(.tup [(.k (.str [98, 97, 110, 100, 115])), (.v 8), (.tup []), (.tup [(.k (.int 1))])])]))), (.asg (.v 10) (.bin .add (.v 10) (.lst [(.tup [(.k (.str [112, 97, 114, 116])), (.tup [(.k (.str [110, 117, 109])), (.k (.int 1))]), (.tup [(.k (.str [110, 117, 109])), (.k (.int 1))]), (.v 8)]), (.tup [(.k (.str [116, 105, 109, 101, 115])), (.tup [(.k (.str [110, 117, 109])), (.k (.int 1))]), (.v 8)])]))), (.asg (.v 7) (.thaw (.bin .add (.v 7) (.comp [4] (.v 4) .seq [(.v 10)] (.k (.bl true)) (.bin .add (.v 3) (.tup [(.tup [(.k (.int 9)), (.k (.str [122, 122])), (.v 4)])]))))))]), (.ex (.app (.v 7) (.bin .add (.v 3) (.tup [(.tup [(.k (.int 9)), (.k (.str [120, 120])), (.tup [(.k (.str [110, 97, 109, 101])), (.k (.str [121, 121]))])]), (.tup [(.k (.int 9)), (.k (.str [121, 121])), (.tup [(.k (.str [110, 97, 109, 101])), (.k (.str [122, 122]))])]), (.tup [(.k (.int 9)), (.k (.str [122, 122])), (.tup [(.k (.str [110, 97, 109, 101])), (.k (.str [120, 120]))])])])))), (.ite (.cmp .ne (.comp [4] (.v 4) .seq [(.v 7)] (.cmp .isnt (.call .pure 86 [(.v 4)]) (.k (.bl false))) (.v 4)) (.lst [])) [(.ret (.k (.bl false)))] []), (.ite (.cmp .isnt (.call .pure 86 [(.bin .add (.v 3) (.tup [(.tup [(.k (.int 9)), (.k (.str [122, 122])), (.tup [(.k (.str [112, 108, 117, 115])), (.tup [(.k (.str [108, 97, 115, 116])), (.k (.str [122, 122]))]), (.tup [(.k (.str [121, 101, 97, 114])), (.ix (.v 6) (.k (.int 1)))])])]), (.tup [(.k (.int 0)), (.k (.str [121, 121])), (.tup [(.k (.str [110, 97, 109, 101])), (.k (.str [122, 122]))])])]))]) (.k (.bl true))) [(.ret (.k (.bl false)))] [])]), (.asg (.v 4) (.tup [(.k (.str [110, 117, 109])), (.k (.int 1))])), (.asg (.v 11) (.lst [(.v 4), (.tup [(.k (.str [110, 117, 109])), (.k (.int 0))]), (.tup [(.k (.str [110, 117, 109])), (.bin .sub (.bin .pow (.k (.int 10)) (.k (.int 9))) (.k (.int 1)))]), (.tup [(.k (.str [102, 97, 99, 116])), (.k (.str [97, 98, 99, 100, 101, 102, 103, 104]))]), (.tup [(.k (.str [98, 97, 110, 100, 115])), (.v 4), (.tup []), (.tup [(.k (.int 10000))])])])), (.asg (.v 11) (.bin .add (.v 11) (.lst [(.tup [(.k (.str [98, 97, 110, 100, 115])), (.v 4), (.tup [(.k (.int 1)), (.k (.int 2)), (.k (.int 3)), (.bin .sub (.bin .pow (.k (.int 10)) (.k (.int 9))) (.k (.int 1)))]), (.tup [(.k (.int 0)), (.k (.int 1)), (.k (.int 2)), (.k (.int 3)), (.k (.int 4))])])]))), (.asg (.v 11) (.bin .add (.v 11) (.lst [(.call .pure 90 [(.k (.str [110, 101, 103])), (.k (.int 8))]), (.tup [(.k (.str [105, 102])), (.tup [(.k (.str [111, 114])), (.tup [(.k (.str [115, 97, 109, 101])), (.v 4), (.v 4)]), (.tup [(.k (.str [110, 111, 116])), (.tup [(.k (.str [98, 101, 108, 111, 119])), (.v 4), (.v 4)])])]), (.v 4), (.v 4)])]))), (.asg (.v 12) (.call .pure 208 [])), (.ite (.orL [(.cmp .ne (.comp [13] (.v 13) .seq [(.v 11)] (.cmp .isnt (.call .pure 85 [(.v 13)]) (.k (.bl true))) (.v 13)) (.lst [])), (.cmp .ne (.comp [14] (.v 14) .seq [(.v 12)] (.cmp .isnt (.call .pure 85 [(.v 14)]) (.k (.bl false))) (.v 14)) (.lst []))]) [(.ret (.k (.bl false)))] []), (.asg (.v 15) (.v 4)), (.forS (.v 2) .rng1 [(.k (.int 4))] [2] [(.asg (.v 15) (.tup [(.k (.str [112, 108, 117, 115])), (.v 15), (.v 15)]))]), (.asg (.t [(.v 16), (.v 17)]) (.tup [(.tup [(.k (.str [112, 108, 117, 115])), (.v 15), (.tup [(.k (.str [110, 117, 109])), (.k (.int 2))])]), (.tup [(.k (.str [112, 97, 114, 116])), (.v 4), (.v 4), (.v 4)])])), (.asg (.v 18) (.tup [(.k (.str [110, 101, 103])), (.tup [(.k (.str [112, 108, 117, 115])), (.v 4), (.v 17)])])), (.asg (.v 20) (.comp [19] (.v 19) .seq [(.tup [(.v 18), (.tup [(.k (.str [110, 101, 103])), (.v 18)])])] (.k (.bl true)) (.tup [(.k (.str [109, 105, 110])), (.tup [(.k (.str [109, 97, 120])), (.v 15), (.v 4)]), (.tup [(.k (.str [112, 97, 114, 116])), (.tup [(.k (.str [112, 108, 117, 115])), (.v 17), (.v 17)]), (.tup [(.k (.str [112, 108, 117, 115])), (.v 17), (.v 17)]), (.v 19)])]))), (.ite (.orL [(.cmp .isnt (.call .pure 85 [(.call .pure 90 [(.k (.str [110, 101, 103])), (.k (.int 9))])]) (.k (.bl false))), (.cmp .isnt (.call .pure 85 [(.v 16)]) (.k (.bl true))), (.cmp .isnt (.call .pure 85 [(.tup [(.k (.str [112, 108, 117, 115])), (.v 15), (.v 15)])]) (.k (.bl false)))]) [(.ret (.k (.bl false)))] []), (.ite (.cmp .ne (.comp [4] (.v 4) .seq [(.v 20)] (.k (.bl true)) (.call .pure 85 [(.v 4)])) (.lst [(.k (.bl true)), (.k (.bl false))])) [(.ret (.k (.bl false)))] []), (.asg (.t [(.v 11), (.t [(.v 21), (.v 22)])]) (.call .pure 92 [(.v 4), (.ix (.v 15) (.k (.int 1))), (.v 17)])), (.ite (.orL [(.cmp .ne (.comp [13] (.v 13) .seq [(.v 11)] (.k (.bl true)) (.call .pure 85 [(.v 13)])) (.bin .mul (.lst [(.k (.bl true))]) (.k (.int 2)))), (.cmp .ne (.comp [14] (.v 14) .seq [(.tup [(.v 21), (.v 22)])] (.k (.bl true)) (.call .pure 85 [(.v 14)])) (.bin .mul (.lst [(.k (.bl false))]) (.k (.int 2))))]) [(.ret (.k (.bl false)))] []), (.ite (.cmp .ne (.comp [13] (.v 13) .seq [(.v 11)] (.k (.bl true)) (.call .pure 86 [(.tup [(.tup [(.k (.int 9)), (.k (.str [97])), (.v 13)])])])) (.bin .mul (.lst [(.k (.bl true))]) (.k (.int 2)))) [(.ret (.k (.bl false)))] []), (.forS (.v 14) .seq [(.bin .add (.call .pure 208 []) (.lst [(.v 21), (.v 22), (.call .pure 90 [(.k (.str [110, 101, 103])), (.k (.int 9))])]))] [14] [(.ite (.cmp .isnt (.call .pure 86 [(.tup [(.tup [(.k (.int 9)), (.k (.str [97])), (.v 14)])])]) (.k (.bl false))) [(.ret (.k (.bl false)))] [])]), (.asg (.v 22) (.op .tuple [(.comp [23] (.v 23) .rng1 [(.k (.int 16))] (.k (.bl true)) (.tup [(.k (.int 0)), (.bin .add (.k (.str [110])) (.ix (.k (.str [97, 98, 99, 100, 101, 102, 103, 104, 105, 106, 107, 108, 109, 110, 111, 112])) (.v 23))), (.v 4)]))])), (.asg (.v 20) (.lst [(.tup [(.v 22), (.k (.bl true))]), (.tup [(.bin .add (.v 22) (.tup [(.tup [(.k (.int 0)), (.k (.str [122])), (.v 4)])])), (.k (.bl false))]), (.tup [(.tup []), (.k (.bl false))]), (.tup [(.k .non), (.k (.bl false))]), (.tup [(.lst [(.tup [(.k (.int 0)), (.k (.str [97])), (.v 4)])]), (.k (.bl false))])])), (.asg (.v 20) (.bin .add (.v 20) (.lst [(.tup [(.tup [(.tup [(.k (.bl true)), (.k (.str [97])), (.v 4)])]), (.k (.bl false))]), (.tup [(.tup [(.tup [(.k (.int 0)), (.k (.str [65])), (.v 4)])]), (.k (.bl false))])]))), (.asg (.v 20) (.bin .add (.v 20) (.lst [(.tup [(.tup [(.tup [(.k (.int 0)), (.k (.str [97]))])]), (.k (.bl false))]), (.tup [(.tup [(.tup [(.k (.int 8)), (.k (.str [97])), (.v 4)])]), (.k (.bl false))]), (.tup [(.tup [(.tup [(.neg (.k (.int 1))), (.k (.str [97])), (.v 4)])]), (.k (.bl false))]), (.tup [(.tup [(.tup [(.k (.int 6)), (.k (.str [97])), (.v 4)])]), (.k (.bl true))])]))), (.asg (.v 20) (.bin .add (.v 20) (.lst [(.tup [(.tup [(.lst [(.k (.int 0)), (.k (.str [97])), (.v 4)])]), (.k (.bl false))])]))), (.ret (.cmp .eq (.comp [24] (.v 24) .seq [(.v 20)] (.cmp .ne (.call .pure 86 [(.ix (.v 24) (.k (.int 0)))]) (.ix (.v 24) (.k (.int 1)))) (.v 24)) (.lst [])))]⟩
/-- law: 0 script, 1 cup, 2 turn, 3 rules, 4 has, 5 told, 6 look, 7 value, 8 one, 9 rows, 10 due, 11 own, 12 elder, 13 two, 14 at, 15 names, 16 wide, 17 wrong, 18 odd -/
def d_law48 : Df := ⟨1, 19, [(.asg (.v 1) (.call .own 16 [(.v 0)])), (.forS (.v 2) .rng1 [(.k (.int 5))] [2, 3, 4, 5, 6, 7] [(.asg (.v 3) (.call .heap 107 [(.v 1)])), (.par [4, 5] [(.call .pure 217 [(.v 3)]), (.call .pure 214 [(.v 3)])]), (.ite (.orL [(.cmp .isnt (.call .pure 100 [(.v 3)]) (.k (.bl true))), (.cmp .ne (.op .repr [(.call .pure 86 [(.v 3)])]) (.op .repr [(.notE (.v 4))])), (.cmp .eq (.cmp .isv (.v 5) (.k .non)) (.v 4))]) [(.ret (.k (.bl false)))] []), (.ite (.andL [(.v 4), (.orL [(.notE (.call .pure 218 [(.v 3), (.v 5)])), (.cmp .isnt (.call .pure 215 [(.v 3), (.v 5)]) (.k (.bl true)))])]) [(.ret (.k (.bl false)))] []), (.forS (.v 6) .rng1 [(.k (.int 3))] [6, 7] [(.asg (.v 7) (.call .heap 109 [(.v 1), (.ife (.orL [(.notE (.v 4)), (.cmp .eq (.call .heap 17 [(.v 1), (.k (.int 2))]) (.k (.int 0)))]) (.call .heap 219 [(.v 1), (.v 3)]) (.v 5))])), (.ite (.cmp .ne (.op .repr [(.call .pure 215 [(.v 3), (.v 7)])]) (.op .repr [(.call .pure 218 [(.v 3), (.v 7)])])) [(.ret (.k (.bl false)))] [])])]), (.asg (.v 8) (.tup [(.tup [(.k (.int 9)), (.k (.str [97])), (.tup [(.k (.str [110, 97, 109, 101])), (.k (.str [98]))])]), (.tup [(.k (.int 9)), (.k (.str [98])), (.tup [(.k (.str [112, 108, 117, 115])), (.tup [(.k (.str [110, 97, 109, 101])), (.k (.str [99]))]), (.tup [(.k (.str [108, 97, 115, 116])), (.k (.str [97]))])])]), (.tup [(.k (.int 9)), (.k (.str [99])), (.tup [(.k (.str [109, 97, 120])), (.tup [(.k (.str [110, 117, 109])), (.k (.int 1))]), (.tup [(.k (.str [110, 97, 109, 101])), (.k (.str [97]))])])])])), (.asg (.v 9) (.lst [(.tup [(.tup [(.k (.str [97])), (.k (.str [98])), (.k (.str [99]))]), (.k (.bl true))]), (.tup [(.tup [(.k (.str [98])), (.k (.str [99])), (.k (.str [97]))]), (.k (.bl true))]), (.tup [(.tup [(.k (.str [97])), (.k (.str [99])), (.k (.str [98]))]), (.k (.bl false))]), (.tup [(.tup [(.k (.str [97])), (.k (.str [98]))]), (.k (.bl false))]), (.tup [(.tup [(.k (.str [97]))]), (.k (.bl false))])])), (.asg (.v 9) (.bin .add (.v 9) (.lst [(.tup [(.tup [(.k (.str [97])), (.k (.str [98])), (.k (.str [99])), (.k (.str [97]))]), (.k (.bl false))])]))), (.ite (.cmp .ne (.comp [7, 10] (.t [(.v 7), (.v 10)]) .seq [(.v 9)] (.cmp .ne (.op .repr [(.call .pure 215 [(.v 8), (.v 7)])]) (.op .repr [(.v 10)])) (.v 7)) (.lst [])) [(.ret (.k (.bl false)))] []), (.ite (.cmp .notin (.call .pure 214 [(.v 8)]) (.tup [(.tup [(.k (.str [97])), (.k (.str [98])), (.k (.str [99]))]), (.tup [(.k (.str [98])), (.k (.str [99])), (.k (.str [97]))]), (.tup [(.k (.str [99])), (.k (.str [97])), (.k (.str [98]))])])) [(.ret (.k (.bl false)))] []), (.asg (.t [(.v 11), (.v 12)]) (.tup [(.tup [(.tup [(.k (.int 9)), (.k (.str [97])), (.tup [(.k (.str [110, 101, 103])), (.tup [(.k (.str [110, 97, 109, 101])), (.k (.str [97]))])])])]), (.tup [(.tup [(.k (.int 9)), (.k (.str [97])), (.tup [(.k (.str [108, 97, 115, 116])), (.k (.str [97]))])]), (.tup [(.k (.int 9)), (.k (.str [98])), (.tup [(.k (.str [112, 108, 117, 115])), (.tup [(.k (.str [121, 101, 97, 114])), (.k (.str [97]))]), (.tup [(.k (.str [121, 101, 97, 114])), (.k (.str [98]))])])])])])), (.ite (.orL [(.cmp .ne (.call .pure 214 [(.v 11)]) (.tup [(.k (.str [97]))])), (.cmp .isnt (.call .pure 215 [(.v 11), (.tup [(.k (.str [97]))])]) (.k (.bl true))), (.cmp .isnt (.call .pure 214 [(.v 12)]) (.k .non)), (.cmp .isnt (.call .pure 215 [(.v 12), (.tup [(.k (.str [97]))])]) (.k (.bl false))), (.cmp .isnt (.call .pure 86 [(.v 12)]) (.k (.bl true)))]) [(.ret (.k (.bl false)))] []), (.asg (.v 13) (.tup [(.tup [(.k (.int 0)), (.k (.str [97])), (.tup [(.k (.str [109, 105, 110])), (.tup [(.k (.str [110, 97, 109, 101])), (.k (.str [98]))]), (.tup [(.k (.str [110, 97, 109, 101])), (.k (.str [99]))])])]), (.tup [(.k (.int 0)), (.k (.str [98])), (.tup [(.k (.str [110, 97, 109, 101])), (.k (.str [97]))])]), (.tup [(.k (.int 0)), (.k (.str [99])), (.tup [(.k (.str [105, 102])), (.tup [(.k (.str [115, 97, 109, 101])), (.tup [(.k (.str [110, 117, 109])), (.k (.int 1))]), (.tup [(.k (.str [110, 97, 109, 101])), (.k (.str [97]))])]), (.tup [(.k (.str [110, 117, 109])), (.k (.int 0))]), (.tup [(.k (.str [110, 117, 109])), (.k (.int 1))])])])])), (.ite (.orL [(.cmp .notin (.call .pure 214 [(.v 13)]) (.tup [(.tup [(.k (.str [97])), (.k (.str [98]))]), (.tup [(.k (.str [98])), (.k (.str [97]))]), (.tup [(.k (.str [97])), (.k (.str [99]))]), (.tup [(.k (.str [99])), (.k (.str [97]))])])), (.cmp .isnt (.call .pure 215 [(.v 13), (.tup [(.k (.str [97])), (.k (.str [98]))])]) (.k (.bl true))), (.cmp .isnt (.call .pure 215 [(.v 13), (.tup [(.k (.str [99])), (.k (.str [97]))])]) (.k (.bl true)))]) [(.ret (.k (.bl false)))] []), (.asg (.v 15) (.comp [14] (.v 14) .rng1 [(.k (.int 17))] (.k (.bl true)) (.bin .add (.k (.str [110])) (.ix (.k (.str [97, 98, 99, 100, 101, 102, 103, 104, 105, 106, 107, 108, 109, 110, 111, 112, 113])) (.v 14))))), (.asg (.v 16) (.op .tuple [(.comp [14] (.v 14) .rng1 [(.k (.int 16))] (.k (.bl true)) (.tup [(.k (.int 9)), (.ix (.v 15) (.v 14)), (.tup [(.k (.str [110, 97, 109, 101])), (.ix (.v 15) (.bin .mod (.op .int [(.bin .add (.v 14) (.k (.int 1)))]) (.k (.int 16))))])]))])), (.ite (.orL [(.cmp .ne (.op .len [(.call .pure 214 [(.v 16)])]) (.k (.int 16))), (.notE (.call .pure 218 [(.v 16), (.call .pure 214 [(.v 16)])])), (.cmp .isnt (.call .pure 215 [(.v 16), (.op .tuple [(.sl (.v 15) (.k .non) (.k (.int 16)))])]) (.k (.bl true)))]) [(.ret (.k (.bl false)))] []), (.asg (.v 17) (.lst [(.bin .add (.v 16) (.tup [(.tup [(.k (.int 9)), (.ix (.v 15) (.k (.int 16))), (.tup [(.k (.str [110, 117, 109])), (.k (.int 1))])])])), (.sl (.v 16) (.k (.int 1)) (.k .non)), (.bin .mul (.v 11) (.k (.int 2))), (.tup []), (.op .list [(.v 11)]), (.ix (.v 11) (.k (.int 0))), (.tup [(.tup [(.k (.int 9)), (.k (.str [97])), (.tup [(.k (.str [108, 97, 115, 116])), (.k (.str [98]))])])])])), (.asg (.v 17) (.bin .add (.v 17) (.lst [(.tup [(.tup [(.k (.int 9)), (.k (.str [97])), (.tup [(.k (.str [110, 117, 109])), (.neg (.k (.int 1)))])])]), (.tup [(.tup [(.k (.int 7)), (.k (.str [97])), (.tup [(.k (.str [110, 117, 109])), (.k (.int 1))])])]), (.k .non), (.tup [(.tup [(.k (.int 9)), (.k (.str [97])), (.tup [(.k (.str [121, 101, 97, 114])), (.k (.str [98]))])])])]))), (.asg (.v 17) (.bin .add (.v 17) (.lst [(.tup [(.tup [(.k (.int 9)), (.k (.str [97])), (.tup [(.k (.str [110, 101, 103])), (.tup [(.k (.str [121, 101, 97, 114])), (.k (.str [98]))])])]), (.tup [(.k (.int 9)), (.k (.str [99])), (.tup [(.k (.str [110, 117, 109])), (.k (.int 1))])])])]))), (.asg (.v 17) (.bin .add (.v 17) (.lst [(.tup [(.tup [(.k (.int 9)), (.lst [(.k (.str [97]))]), (.tup [(.k (.str [110, 117, 109])), (.k (.int 1))])])]), (.tup [(.tup [(.k (.int 9)), (.k (.str [97])), (.tup [(.k (.str [110, 97, 109, 101])), (.lst [(.k (.str [97]))])])])]), (.tup [(.tup [(.k (.int 9)), (.k (.str [97])), (.tup [(.lst [(.k (.str [110, 97, 109, 101]))]), (.k (.str [97]))])])]), (.tup [(.lst [(.k (.int 9)), (.k (.str [97])), (.tup [(.k (.str [110, 117, 109])), (.k (.int 1))])])])]))), (.asg (.v 17) (.bin .add (.v 17) (.lst [(.tup [(.tup [(.lst [(.k (.str [97]))]), (.k (.str [97])), (.tup [(.k (.str [110, 117, 109])), (.k (.int 1))])])])]))), (.forS (.v 18) .seq [(.tup [(.tup [(.lst [(.k (.str [97]))]), (.k (.str [98]))]), (.tup [(.lst [])]), (.tup [(.tup [(.k (.str [97]))])]), (.tup [(.k (.str [97])), (.k .non)]), (.tup [(.k (.bl true))]), (.tup [(.tup [])]), (.k (.str [97])), (.tup [(.k (.str [97])), (.k (.str [97]))]), (.tup [(.k (.str [122, 122]))])])] [18] [(.ite (.orL [(.cmp .isnt (.call .pure 215 [(.v 8), (.v 18)]) (.k (.bl false))), (.cmp .isnt (.call .pure 215 [(.v 11), (.v 18)]) (.k (.bl false)))]) [(.ret (.k (.bl false)))] [])]), (.ret (.cmp .eq (.comp [7] (.v 7) .seq [(.v 17)] (.cmp .isnt (.call .pure 100 [(.v 7)]) (.k (.bl false))) (.v 7)) (.lst [])))]⟩
/-- law: 0 script, 1 cup, 2 turn, 3 rules, 4 paid, 5 yearly, 6 late, 7 at, 8 names, 9 back -/
def d_law49 : Df := ⟨1, 10, [(.asg (.v 1) (.call .own 16 [(.v 0)])), (.forS (.v 2) .rng1 [(.k (.int 5))] [2, 3] [(.asg (.v 3) (.call .heap 89 [(.v 1)])), (.ite (.cmp .ne (.op .repr [(.call .pure 221 [(.v 3)])]) (.op .repr [(.call .pure 222 [(.v 3)])])) [(.ret (.k (.bl false)))] [])]), (.asg (.t [(.v 4), (.v 5)]) (.call .pure 209 [])), (.ite (.orL [(.cmp .ne (.call .pure 221 [(.v 4)]) (.tup [(.k (.str [98, 97, 115, 101])), (.k (.str [119, 97, 103, 101])), (.k (.str [116, 97, 120]))])), (.cmp .ne (.call .pure 221 [(.op .rev [(.v 4)])]) (.tup [(.k (.str [98, 97, 115, 101])), (.k (.str [119, 97, 103, 101])), (.k (.str [116, 97, 120]))])), (.cmp .ne (.call .pure 221 [(.v 5)]) (.tup [(.k (.str [104, 97, 108, 102])), (.k (.str [103, 97, 105, 110])), (.k (.str [115, 117, 109]))]))]) [(.ret (.k (.bl false)))] []), (.asg (.v 6) (.tup [(.tup [(.k (.int 9)), (.k (.str [98])), (.tup [(.k (.str [110, 117, 109])), (.k (.int 1))])]), (.tup [(.k (.int 9)), (.k (.str [97])), (.tup [(.k (.str [110, 97, 109, 101])), (.k (.str [122]))])]), (.tup [(.k (.int 9)), (.k (.str [122])), (.tup [(.k (.str [110, 117, 109])), (.k (.int 2))])]), (.tup [(.k (.int 9)), (.k (.str [99])), (.tup [(.k (.str [110, 97, 109, 101])), (.k (.str [98]))])])])), (.asg (.v 8) (.comp [7] (.v 7) .rng1 [(.k (.int 16))] (.k (.bl true)) (.bin .add (.k (.str [110])) (.ix (.k (.str [97, 98, 99, 100, 101, 102, 103, 104, 105, 106, 107, 108, 109, 110, 111, 112])) (.v 7))))), (.asg (.v 9) (.op .tuple [(.comp [7] (.v 7) .rng1 [(.k (.int 16))] (.k (.bl true)) (.tup [(.k (.int 9)), (.ix (.v 8) (.v 7)), (.ife (.cmp .lt (.v 7) (.k (.int 15))) (.tup [(.k (.str [110, 97, 109, 101])), (.ix (.v 8) (.bin .add (.v 7) (.k (.int 1))))]) (.tup [(.k (.str [110, 117, 109])), (.k (.int 1))]))]))])), (.ret (.andL [(.cmp .eq (.call .pure 221 [(.v 6)]) (.tup [(.k (.str [98])), (.k (.str [99])), (.k (.str [122])), (.k (.str [97]))])), (.cmp .eq (.call .pure 221 [(.v 9)]) (.op .tuple [(.op .rev [(.v 8)])])), (.cmp .eq (.call .pure 221 [(.tup [(.tup [(.k (.int 0)), (.k (.str [120])), (.tup [(.k (.str [108, 97, 115, 116])), (.k (.str [120]))])])])]) (.tup [(.k (.str [120]))]))]))]⟩
/-- law: 0 script, 1 cup, 2 turn, 3 rules, 4 events, 5 every, 6 head, 7 test, 8 due -/
def d_law06 : Df := ⟨1, 9, [(.asg (.v 1) (.call .own 16 [(.v 0)])), (.forS (.v 2) .rng1 [(.k (.int 4))] [2, 3, 4] [(.par [3, 4] [(.call .heap 89 [(.v 1)]), (.call .heap 177 [(.v 1), (.bin .add (.k (.int 2)) (.call .heap 17 [(.v 1), (.k (.int 8))])), (.k (.int 36))])]), (.ite (.orL [(.cmp .ne (.call .pure 190 [(.v 3)]) (.call .pure 193 [(.v 3)])), (.cmp .ne (.call .pure 191 [(.v 4)]) (.call .pure 194 [(.v 4)]))]) [(.ret (.k (.bl false)))] [])]), (.asg (.v 5) (.call .pure 195 [])), (.ite (.orL [(.cmp .ne (.call .pure 190 [(.v 5)]) (.call .pure 193 [(.v 5)])), (.cmp .ne (.call .pure 191 [(.tup [])]) (.k (.str [])))]) [(.ret (.k (.bl false)))] []), (.asg (.t [(.v 6), (.v 7)]) (.tup [(.tup [(.k (.str [114, 117, 108, 101, 115])), (.k (.int 35)), (.tup [(.tup [(.k (.int 6)), (.k (.str [122])), (.tup [(.k (.str [110, 117, 109])), (.k (.int 0))])])])]), (.tup [(.k (.str [110, 111, 116])), (.tup [(.k (.str [115, 97, 109, 101])), (.tup [(.k (.str [110, 117, 109])), (.k (.int 0))]), (.tup [(.k (.str [109, 111, 110, 116, 104]))])])])])), (.asg (.v 3) (.tup [(.tup [(.k (.int 3)), (.k (.str [97])), (.tup [(.k (.str [105, 102])), (.v 7), (.tup [(.k (.str [110, 101, 103])), (.tup [(.k (.str [108, 97, 115, 116])), (.k (.str [97]))])]), (.tup [(.k (.str [112, 97, 114, 116])), (.tup [(.k (.str [110, 117, 109])), (.k (.int 1))]), (.tup [(.k (.str [102, 97, 99, 116])), (.k (.str [104]))]), (.tup [(.k (.str [121, 101, 97, 114])), (.k (.str [97]))])])])]), (.tup [(.k (.int 9)), (.k (.str [98])), (.tup [(.k (.str [98, 97, 110, 100, 115])), (.tup [(.k (.str [110, 97, 109, 101])), (.k (.str [97]))]), (.tup [(.k (.int 5)), (.k (.int 7))]), (.tup [(.k (.int 1)), (.k (.int 0)), (.k (.int 10000))])])])])), (.asg (.v 8) (.bin .add (.bin .add (.bin .add (.bin .add (.bin .add (.bin .add (.bin .add (.k (.str [123])) (.k (.str [10]))) (.k (.str [32, 32, 72, 79, 76, 68, 32, 50, 32, 97, 32, 61, 32, 73, 70, 40, 78, 79, 84, 40, 91, 48, 32, 61, 32, 77, 79, 78, 84, 72, 93, 41, 44, 32, 40, 45, 32, 76, 65, 83, 84, 32, 97, 41, 44, 32, 80, 65, 82, 84, 40, 49, 44, 32, 70, 65, 67, 84, 32, 104, 44, 32, 89, 69, 65, 82, 32, 97, 41, 41, 59]))) (.k (.str [10]))) (.k (.str [32, 32, 80, 76, 65, 73, 78, 32, 98, 32, 61, 32, 66, 65, 78, 68, 83, 40, 97, 59, 32, 49, 32, 53, 32, 48, 32, 55, 32, 49, 48, 48, 48, 48, 41, 59]))) (.k (.str [10]))) (.k (.str [125]))) (.k (.str [10])))), (.ite (.cmp .ne (.call .pure 190 [(.v 3)]) (.v 8)) [(.ret (.k (.bl false)))] []), (.asg (.v 7) (.tup [(.k (.str [111, 114])), (.tup [(.k (.str [98, 101, 108, 111, 119])), (.tup [(.k (.str [112, 108, 117, 115])), (.tup [(.k (.str [110, 117, 109])), (.k (.int 1))]), (.tup [(.k (.str [102, 97, 99, 116])), (.k (.str [104]))])]), (.tup [(.k (.str [110, 101, 103])), (.tup [(.k (.str [109, 111, 110, 116, 104]))])])]), (.tup [(.k (.str [115, 97, 109, 101])), (.tup [(.k (.str [109, 105, 110])), (.tup [(.k (.str [110, 117, 109])), (.k (.int 2))]), (.tup [(.k (.str [108, 97, 115, 116])), (.k (.str [97]))])]), (.tup [(.k (.str [105, 102])), (.tup [(.k (.str [109, 111, 115, 116])), (.tup [(.k (.str [110, 117, 109])), (.k (.int 1))]), (.tup [(.k (.str [110, 117, 109])), (.k (.int 2))])]), (.tup [(.k (.str [110, 117, 109])), (.k (.int 3))]), (.tup [(.k (.str [110, 117, 109])), (.k (.int 4))])])])])), (.asg (.v 8) (.bin .add (.bin .add (.bin .add (.bin .add (.bin .add (.k (.str [123])) (.k (.str [10]))) (.k (.str [32, 32, 80, 65, 89, 32, 97, 32, 61, 32, 73, 70, 40, 79, 82, 40, 91, 40, 49, 32, 43, 32, 70, 65, 67, 84, 32, 104, 41, 32, 60, 32, 40, 45, 32, 77, 79, 78, 84, 72, 41, 93, 44, 32, 91, 77, 73, 78, 40, 50, 44, 32, 76, 65, 83, 84, 32, 97, 41, 32, 61, 32, 73, 70, 40, 91, 49, 32, 60, 61, 32, 50, 93, 44, 32, 51, 44, 32, 52, 41, 93, 41, 44, 32, 53, 44, 32, 54, 41, 59]))) (.k (.str [10]))) (.k (.str [125]))) (.k (.str [10])))), (.ite (.cmp .ne (.call .pure 190 [(.tup [(.tup [(.k (.int 0)), (.k (.str [97])), (.tup [(.k (.str [105, 102])), (.v 7), (.tup [(.k (.str [110, 117, 109])), (.k (.int 5))]), (.tup [(.k (.str [110, 117, 109])), (.k (.int 6))])])])])]) (.v 8)) [(.ret (.k (.bl false)))] []), (.asg (.v 4) (.tup [(.v 6), (.tup [(.k (.str [116, 101, 108, 108])), (.k (.int 3)), (.k (.str [97, 98, 99, 100, 101, 102, 103, 104])), (.k (.int 2)), (.k (.int 0)), (.k (.int 35)), (.k .non)]), (.tup [(.k (.str [116, 101, 108, 108])), (.k (.int 0)), (.k (.str [97])), (.k (.int 0)), (.k (.int 7)), (.k (.int 7)), (.neg (.bin .pow (.k (.int 10)) (.k (.int 9))))]), (.tup [(.k (.str [116, 101, 108, 108])), (.k (.int 0)), (.k (.str [97])), (.k (.int 0)), (.k (.int 7)), (.k (.int 8)), (.k (.int 0))]), (.tup [(.k (.str [98, 97, 99, 107])), (.k (.int 1))])])), (.asg (.v 8) (.bin .add (.bin .add (.bin .add (.bin .add (.bin .add (.bin .add (.bin .add (.k (.str [82, 85, 76, 69, 83, 32, 51, 53, 32, 123])) (.k (.str [10]))) (.k (.str [32, 32, 65, 68, 68, 32, 50, 32, 122, 32, 61, 32, 48, 59]))) (.k (.str [10]))) (.k (.str [125]))) (.k (.str [10]))) (.k (.str [84, 69, 76, 76, 32, 51, 32, 97, 98, 99, 100, 101, 102, 103, 104, 32, 66, 89, 32, 50, 32, 70, 82, 79, 77, 32, 48, 32, 84, 79, 32, 51, 53, 32, 73, 83, 32, 78, 79, 78, 69, 59]))) (.k (.str [10])))), (.ret (.cmp .eq (.call .pure 191 [(.v 4)]) (.bin .add (.bin .add (.bin .add (.bin .add (.bin .add (.bin .add (.v 8) (.k (.str [84, 69, 76, 76, 32, 48, 32, 97, 32, 66, 89, 32, 48, 32, 70, 82, 79, 77, 32, 55, 32, 84, 79, 32, 55, 32, 73, 83, 32, 45, 32, 49, 48, 48, 48, 48, 48, 48, 48, 48, 48, 59]))) (.k (.str [10]))) (.k (.str [84, 69, 76, 76, 32, 48, 32, 97, 32, 66, 89, 32, 48, 32, 70, 82, 79, 77, 32, 55, 32, 84, 79, 32, 56, 32, 73, 83, 32, 48, 59]))) (.k (.str [10]))) (.k (.str [66, 65, 67, 75, 32, 49, 59]))) (.k (.str [10])))))]⟩
/-- _law_odd_expressions: 0 one, 1 test, 2 odds -/
def d__law_odd_expressions_2 : Df := ⟨0, 3, [(.asg (.t [(.v 0), (.v 1)]) (.tup [(.tup [(.k (.str [110, 117, 109])), (.k (.int 1))]), (.tup [(.k (.str [115, 97, 109, 101])), (.tup [(.k (.str [110, 117, 109])), (.k (.int 1))]), (.tup [(.k (.str [109, 111, 110, 116, 104]))])])])), (.asg (.v 2) (.lst [(.k .non), (.tup []), (.k (.str [109, 111, 110, 116, 104])), (.tup [(.k (.str [109, 111, 110, 116, 104])), (.k (.int 1))]), (.lst [(.k (.str [109, 111, 110, 116, 104]))]), (.tup [(.k (.str [110, 117, 109]))]), (.tup [(.k (.str [110, 117, 109])), (.neg (.k (.int 1)))]), (.tup [(.k (.str [110, 117, 109])), (.bin .pow (.k (.int 10)) (.k (.int 9)))]), (.tup [(.k (.str [110, 117, 109])), (.k (.bl true))]), (.tup [(.k (.str [110, 117, 109])), (.k (.str [49]))]), (.tup [(.k (.str [110, 117, 109])), (.k (.int 1)), (.k (.int 2))])])), (.asg (.v 2) (.bin .add (.v 2) (.lst [(.tup [(.k (.str [102, 97, 99, 116])), (.k (.str []))]), (.tup [(.k (.str [102, 97, 99, 116])), (.k (.str [97, 98, 99, 100, 101, 102, 103, 104, 105]))]), (.tup [(.k (.str [102, 97, 99, 116])), (.k (.str [65]))]), (.tup [(.k (.str [102, 97, 99, 116])), (.k (.int 3))]), (.tup [(.k (.str [110, 97, 109, 101]))]), (.tup [(.k (.str [108, 97, 115, 116])), (.k (.str [97])), (.k (.str [98]))]), (.tup [(.k (.str [89, 101, 97, 114])), (.k (.str [97]))]), (.tup [(.k (.str [121, 101, 97, 114])), (.k .non)])]))), (.asg (.v 2) (.bin .add (.v 2) (.lst [(.tup [(.k (.str [102, 97, 99, 116])), (.k (.str [97, 49]))])]))), (.asg (.v 2) (.bin .add (.v 2) (.lst [(.tup [(.k (.str [112, 108, 117, 115])), (.v 0)]), (.tup [(.k (.str [112, 108, 117, 115])), (.v 0), (.v 0), (.v 0)]), (.tup [(.k (.str [112, 108, 117, 115])), (.v 0), (.k .non)]), (.tup [(.k (.str [110, 101, 103])), (.v 0), (.v 0)]), (.tup [(.k (.str [109, 105, 110])), (.v 0), (.v 1)]), (.tup [(.k (.str [112, 97, 114, 116])), (.v 0), (.v 0)])]))), (.asg (.v 2) (.bin .add (.v 2) (.lst [(.tup [(.k (.str [110, 111, 110, 101])), (.v 0), (.v 0)])]))), (.asg (.v 2) (.bin .add (.v 2) (.lst [(.tup [(.k (.str [105, 102])), (.v 0), (.v 0), (.v 0)]), (.tup [(.k (.str [105, 102])), (.v 1), (.v 0)]), (.tup [(.k (.str [105, 102])), (.v 1), (.v 0), (.v 1)]), (.tup [(.k (.str [110, 111, 116])), (.v 1)]), (.v 1), (.tup [(.k (.str [97, 110, 100])), (.v 1), (.v 1)]), (.tup [(.lst []), (.v 0), (.v 0)])]))), (.asg (.v 2) (.bin .add (.v 2) (.lst [(.tup [(.k (.str [105, 102])), (.tup [(.k (.str [110, 111, 116])), (.v 0)]), (.v 0), (.v 0)]), (.tup [(.k (.str [105, 102])), (.tup [(.k (.str [97, 110, 100])), (.v 1)]), (.v 0), (.v 0)]), (.tup [(.k (.str [105, 102])), (.tup [(.k (.str [111, 114])), (.v 1), (.v 0)]), (.v 0), (.v 0)])]))), (.asg (.v 2) (.bin .add (.v 2) (.lst [(.tup [(.k (.str [105, 102])), (.tup [(.k (.str [98, 101, 108, 111, 119])), (.v 0)]), (.v 0), (.v 0)]), (.tup [(.k (.str [105, 102])), (.tup [(.k (.str [109, 111, 115, 116])), (.v 0), (.v 1)]), (.v 0), (.v 0)])]))), (.asg (.v 2) (.bin .add (.v 2) (.lst [(.tup [(.k (.str [98, 97, 110, 100, 115])), (.v 0), (.tup [(.k (.int 5)), (.k (.int 5))]), (.tup [(.k (.int 1)), (.k (.int 2)), (.k (.int 3))])]), (.tup [(.k (.str [98, 97, 110, 100, 115])), (.v 0), (.tup [(.k (.int 0))]), (.tup [(.k (.int 1)), (.k (.int 2))])]), (.tup [(.k (.str [98, 97, 110, 100, 115])), (.v 0), (.tup [(.bin .pow (.k (.int 10)) (.k (.int 9)))]), (.tup [(.k (.int 1)), (.k (.int 2))])])]))), (.asg (.v 2) (.bin .add (.v 2) (.lst [(.tup [(.k (.str [98, 97, 110, 100, 115])), (.v 0), (.tup [(.k (.int 5))]), (.tup [(.k (.int 1))])]), (.tup [(.k (.str [98, 97, 110, 100, 115])), (.v 0), (.tup [(.k (.int 5))]), (.tup [(.k (.int 1)), (.k (.int 10001))])])]))), (.asg (.v 2) (.bin .add (.v 2) (.lst [(.tup [(.k (.str [98, 97, 110, 100, 115])), (.v 0), (.lst [(.k (.int 5))]), (.tup [(.k (.int 1)), (.k (.int 2))])]), (.tup [(.k (.str [98, 97, 110, 100, 115])), (.v 0), (.tup [(.k (.int 5))]), (.tup [(.k (.int 1)), (.neg (.k (.int 1)))])]), (.tup [(.k (.str [98, 97, 110, 100, 115])), (.v 0), (.tup [(.k (.int 1)), (.k (.int 2)), (.k (.int 3)), (.k (.int 4)), (.k (.int 5))]), (.bin .mul (.tup [(.k (.int 1))]) (.k (.int 6)))]), (.tup [(.k (.str [98, 97, 110, 100, 115])), (.v 0), (.tup []), (.tup [])])]))), (.asg (.v 2) (.bin .add (.v 2) (.lst [(.tup [(.k (.str [98, 97, 110, 100, 115])), (.v 0)]), (.tup [(.k (.str [98, 97, 110, 100, 115])), (.v 1), (.tup []), (.tup [(.k (.int 1))])]), (.tup [(.k (.str [98, 97, 110, 100, 115])), (.v 0), (.tup [(.k (.bl true))]), (.tup [(.k (.int 1)), (.k (.int 2))])]), (.tup [(.k (.str [98, 97, 110, 100, 115])), (.v 0), (.tup [(.k (.int 5))]), (.tup [(.k (.bl true)), (.k (.int 1))])])]))), (.asg (.v 2) (.bin .add (.v 2) (.lst [(.tup [(.k (.str [98, 97, 110, 100, 115])), (.v 0), (.tup [(.k (.int 5))]), (.lst [(.k (.int 1)), (.k (.int 2))])])]))), (.ret (.v 2))]⟩
/-- _law_paid: 0 base, 1 wage, 2 gain, 3 half, 4 total -/
def d__law_paid_3 : Df := ⟨0, 5, [(.asg (.t [(.v 0), (.v 1)]) (.tup [(.tup [(.k (.int 9)), (.k (.str [98, 97, 115, 101])), (.tup [(.k (.str [116, 105, 109, 101, 115])), (.tup [(.k (.str [102, 97, 99, 116])), (.k (.str [104, 111, 117, 114, 115]))]), (.tup [(.k (.str [110, 117, 109])), (.k (.int 20))])])]), (.tup [(.k (.int 0)), (.k (.str [119, 97, 103, 101])), (.tup [(.k (.str [109, 97, 120])), (.tup [(.k (.str [110, 97, 109, 101])), (.k (.str [98, 97, 115, 101]))]), (.tup [(.k (.str [110, 117, 109])), (.k (.int 100))])])])])), (.asg (.v 2) (.tup [(.k (.int 0)), (.k (.str [103, 97, 105, 110])), (.tup [(.k (.str [105, 102])), (.tup [(.k (.str [98, 101, 108, 111, 119])), (.tup [(.k (.str [102, 97, 99, 116])), (.k (.str [104]))]), (.tup [(.k (.str [110, 117, 109])), (.k (.int 5))])]), (.tup [(.k (.str [102, 97, 99, 116])), (.k (.str [104]))]), (.tup [(.k (.str [110, 97, 109, 101])), (.k (.str [104, 97, 108, 102]))])])])), (.asg (.v 3) (.tup [(.k (.int 9)), (.k (.str [104, 97, 108, 102])), (.tup [(.k (.str [112, 97, 114, 116])), (.tup [(.k (.str [102, 97, 99, 116])), (.k (.str [104]))]), (.tup [(.k (.str [110, 117, 109])), (.k (.int 1))]), (.tup [(.k (.str [110, 117, 109])), (.k (.int 2))])])])), (.asg (.v 4) (.tup [(.k (.int 9)), (.k (.str [115, 117, 109])), (.tup [(.k (.str [112, 108, 117, 115])), (.tup [(.k (.str [121, 101, 97, 114])), (.k (.str [103, 97, 105, 110]))]), (.tup [(.k (.str [102, 97, 99, 116])), (.k (.str [107]))])])])), (.ret (.tup [(.tup [(.v 0), (.v 1), (.tup [(.k (.int 1)), (.k (.str [116, 97, 120])), (.tup [(.k (.str [112, 97, 114, 116])), (.tup [(.k (.str [110, 97, 109, 101])), (.k (.str [119, 97, 103, 101]))]), (.tup [(.k (.str [110, 117, 109])), (.k (.int 1))]), (.tup [(.k (.str [110, 117, 109])), (.k (.int 4))])])])]), (.tup [(.v 4), (.v 2), (.v 3)])]))]⟩
/-- _law_version: 0 events, 1 moment, 2 month, 3 found, 4 since, 5 one -/
def d__law_version_2 : Df := ⟨3, 6, [(.asg (.t [(.v 3), (.v 4)]) (.tup [(.tup []), (.neg (.k (.int 1)))])), (.forS (.v 5) .seq [(.sl (.v 0) (.k .non) (.v 1))] [5] [(.ite (.andL [(.cmp .eq (.ix (.v 5) (.k (.int 0))) (.k (.str [114, 117, 108, 101, 115]))), (.cmp2 .le .le (.v 4) (.ix (.v 5) (.k (.int 1))) (.v 2))]) [(.par [3, 4] [(.ix (.v 5) (.k (.int 2))), (.ix (.v 5) (.k (.int 1)))])] [])]), (.ret (.v 3))]⟩
/-- now_behind: 0 rules, 1 one -/
def d_now_behind : Df := ⟨1, 2, [(.ret (.mkd (.comp [1] (.v 1) .seq [(.v 0)] (.k (.bl true)) (.tup [(.ix (.v 1) (.k (.int 1))), (.call .pure 81 [(.ix (.v 1) (.k (.int 2))), (.tup [(.k (.str [110, 97, 109, 101]))])])]))))]⟩
/-- ring_in: 0 rules, 1 behind, 2 left, 3 name, 4 other, 5 stay -/
def d_ring_in_2 : Df := ⟨1, 6, [(.asg (.v 1) (.call .pure 211 [(.v 0)])), (.asg (.v 2) (.op .sorted [(.v 1)])), (.whl 100000 (.k (.bl true)) [5] [(.asg (.v 5) (.comp [3] (.v 3) .seq [(.v 2)] (.op .any [(.comp [4] (.v 4) .seq [(.dget false (.v 1) [(.v 3)])] (.k (.bl true)) (.cmp .isin (.v 4) (.v 2)))]) (.v 3))), (.ite (.cmp .eq (.op .len [(.v 5)]) (.op .len [(.v 2)])) [.brk] []), (.asg (.v 2) (.v 5))]), (.ret (.ife (.cmp .ne (.v 2) (.lst [])) (.call .pure 97 [(.v 1), (.v 2)]) (.k .non)))]⟩
/-- fits_ring: 0 rules, 1 value, 2 behind, 3 one, 4 other -/
def d_fits_ring_2 : Df := ⟨2, 5, [(.asg (.v 2) (.call .pure 211 [(.v 0)])), (.ite (.orL [(.notE (.call .pure 4 [(.v 1), (.k (.int 1)), (.op .len [(.v 0)])])), (.notE (.op .all [(.comp [3] (.v 3) .seq [(.v 1)] (.k (.bl true)) (.andL [(.call .pure 76 [(.v 3)]), (.din false false [(.v 3)] (.v 2))]))]))]) [(.ret (.k (.bl false)))] []), (.ite (.cmp .lt (.op .lset [(.v 1)]) (.op .len [(.v 1)])) [(.ret (.k (.bl false)))] []), (.ret (.op .all [(.comp [3, 4] (.t [(.v 3), (.v 4)]) .zip [(.v 1), (.bin .add (.sl (.v 1) (.k (.int 1)) (.k .non)) (.sl (.v 1) (.k .non) (.k (.int 1))))] (.k (.bl true)) (.cmp .isin (.v 4) (.dget false (.v 2) [(.v 3)])))]))]⟩
/-- ring_of: 0 loose -/
def d_ring_of_2 : Df := ⟨1, 1, [(.ex (.call .pure 99 [(.v 0)])), (.ret (.call .pure 212 [(.v 0)]))]⟩
/-- is_ring: 0 loose, 1 value -/
def d_is_ring_2 : Df := ⟨2, 2, [(.ex (.call .pure 99 [(.v 0)])), (.ret (.call .pure 213 [(.v 0), (.v 1)]))]⟩
/-- _law_behind: 0 rules, 1 one -/
def d__law_behind : Df := ⟨1, 2, [(.ret (.mkd (.comp [1] (.v 1) .seq [(.v 0)] (.k (.bl true)) (.tup [(.ix (.v 1) (.k (.int 1))), (.call .pure 103 [(.ix (.v 1) (.k (.int 2))), (.tup [(.k (.str [110, 97, 109, 101]))])])]))))]⟩
/-- _law_has_ring: 0 rules, 1 behind, 2 gone, 3 turn, 4 name, 5 other -/
def d__law_has_ring_2 : Df := ⟨1, 6, [(.asg (.t [(.v 1), (.v 2)]) (.tup [(.call .pure 216 [(.v 0)]), (.lst [])])), (.forS (.v 3) .rng1 [(.op .len [(.v 0)])] [3] [(.asg (.v 2) (.bin .add (.v 2) (.comp [4] (.v 4) .seq [(.v 1)] (.andL [(.cmp .notin (.v 4) (.v 2)), (.cmp .eq (.comp [5] (.v 5) .seq [(.dget false (.v 1) [(.v 4)])] (.cmp .notin (.v 5) (.v 2)) (.v 5)) (.lst []))]) (.v 4))))]), (.ret (.cmp .lt (.op .len [(.v 2)]) (.op .len [(.v 0)])))]⟩
/-- _law_is_ring: 0 rules, 1 value, 2 behind, 3 one, 4 at -/
def d__law_is_ring_2 : Df := ⟨2, 5, [(.asg (.v 2) (.call .pure 216 [(.v 0)])), (.ite (.orL [(.notE (.op (.isi .tuple) [(.v 1)])), (.cmp .eq (.v 1) (.tup [])), (.cmp .ne (.comp [3] (.v 3) .seq [(.v 1)] (.orL [(.notE (.op (.isi .str) [(.v 3)])), (.din true false [(.v 3)] (.v 2))]) (.v 3)) (.lst []))]) [(.ret (.k (.bl false)))] []), (.ret (.andL [(.cmp .eq (.op .lset [(.v 1)]) (.op .len [(.v 1)])), (.cmp .eq (.comp [4] (.v 4) .rng1 [(.op .len [(.v 1)])] (.cmp .notin (.ix (.v 1) (.v 4)) (.dget false (.v 2) [(.ix (.v 1) (.bin .sub (.v 4) (.k (.int 1))))])) (.v 4)) (.lst []))]))]⟩
/-- _law_walk: 0 cup, 1 rules, 2 behind, 3 row, 4 turn -/
def d__law_walk_2 : Df := ⟨2, 5, [(.asg (.v 2) (.call .pure 216 [(.v 1)])), (.asg (.v 3) (.tup [(.call .heap 18 [(.v 0), (.op .sorted [(.v 2)])])])), (.forS (.v 4) .rng1 [(.call .heap 17 [(.v 0), (.k (.int 4))])] [4] [(.asg (.v 3) (.bin .add (.v 3) (.tup [(.call .heap 18 [(.v 0), (.ife (.cmp .ne (.dget false (.v 2) [(.ix (.v 3) (.neg (.k (.int 1))))]) (.lst [])) (.dget false (.v 2) [(.ix (.v 3) (.neg (.k (.int 1))))]) (.op .sorted [(.v 2)]))])])))]), (.ret (.v 3))]⟩
/-- order_in: 0 rules, 1 one, 2 behind, 3 found, 4 left, 5 other, 6 name -/
def d_order_in_2 : Df := ⟨1, 7, [(.asg (.t [(.v 2), (.v 3), (.v 4)]) (.tup [(.call .pure 211 [(.v 0)]), (.thaw (.lst [])), (.op .sorted [(.comp [1] (.v 1) .seq [(.v 0)] (.k (.bl true)) (.ix (.v 1) (.k (.int 1))))])])), (.whl 100000 (.cmp .ne (.v 4) (.lst [])) [6] [(.asg (.v 6) (.ix (.comp [1] (.v 1) .seq [(.v 4)] (.op .all [(.comp [5] (.v 5) .seq [(.dget false (.v 2) [(.v 1)])] (.k (.bl true)) (.cmp .isin (.v 5) (.v 3)))]) (.v 1)) (.k (.int 0)))), (.ex (.app (.v 3) (.v 6))), (.asg (.v 4) (.comp [1] (.v 1) .seq [(.v 4)] (.cmp .ne (.v 1) (.v 6)) (.v 1)))]), (.ret (.op .tuple [(.v 3)]))]⟩
/-- first_order: 0 rules -/
def d_first_order_2 : Df := ⟨1, 1, [(.ex (.call .pure 110 [(.v 0)])), (.ret (.call .pure 220 [(.v 0)]))]⟩
/-- _law_first_order: 0 rules, 1 behind, 2 rows, 3 turn, 4 longer, 5 row, 6 name, 7 other -/
def d__law_first_order_2 : Df := ⟨1, 8, [(.asg (.t [(.v 1), (.v 2)]) (.tup [(.call .pure 216 [(.v 0)]), (.lst [(.tup [])])])), (.forS (.v 3) .rng1 [(.op .len [(.v 0)])] [3, 4, 5] [(.asg (.v 4) (.lst [])), (.forS (.v 5) .seq [(.v 2)] [5] [(.asg (.v 4) (.bin .add (.v 4) (.comp [6] (.v 6) .seq [(.op .sorted [(.v 1)])] (.andL [(.cmp .notin (.v 6) (.v 5)), (.cmp .eq (.comp [7] (.v 7) .seq [(.dget false (.v 1) [(.v 6)])] (.cmp .notin (.v 7) (.v 5)) (.v 7)) (.lst []))]) (.bin .add (.v 5) (.tup [(.v 6)])))))]), (.asg (.v 2) (.v 4))]), (.ret (.op .min1 [(.v 2)]))]⟩
/-- _law_table: 0 events, 1 moment, 2 found, 3 person, 4 name, 5 month -/
def d__law_table_2 : Df := ⟨2, 6, [(.asg (.v 2) (.dnew true)), (.forS (.v 3) .seq [(.tup [(.k (.int 0)), (.k (.int 1)), (.k (.int 3))])] [3, 4, 5] [(.forS (.v 4) .seq [(.tup [(.k (.str [104])), (.k (.str [107])), (.k (.str [104, 111, 117, 114, 115]))])] [4, 5] [(.forS (.v 5) .rng1 [(.k (.int 36))] [5] [(.dput true (.v 2) [(.v 3), (.v 4), (.v 5)] (.call .pure 134 [(.v 0), (.v 1), (.v 3), (.v 4), (.v 5)]))])])]), (.ret (.v 2))]⟩
/-- _law_runs: 0 one, 1 other, 2 found, 3 person, 4 name, 5 ahead, 6 month, 7 pair -/
def d__law_runs_2 : Df := ⟨2, 8, [(.asg (.v 2) (.thaw (.lst []))), (.forS (.v 3) .seq [(.tup [(.k (.int 0)), (.k (.int 1)), (.k (.int 3))])] [3, 4, 5, 6, 7] [(.forS (.v 4) .seq [(.tup [(.k (.str [104])), (.k (.str [104, 111, 117, 114, 115])), (.k (.str [107]))])] [4, 5, 6, 7] [(.asg (.v 5) (.k .non)), (.forS (.v 6) .rng1 [(.k (.int 36))] [6, 7] [(.asg (.v 7) (.tup [(.dget true (.v 0) [(.v 3), (.v 4), (.v 6)]), (.dget true (.v 1) [(.v 3), (.v 4), (.v 6)])])), (.ite (.andL [(.cmp .ne (.ix (.v 7) (.k (.int 0))) (.ix (.v 7) (.k (.int 1)))), (.cmp .eq (.v 7) (.v 5))]) [(.sub (.v 2) (.neg (.k (.int 1))) (.bin .add (.bin .add (.sl (.ix (.v 2) (.neg (.k (.int 1)))) (.k .non) (.k (.int 3))) (.tup [(.v 6)])) (.v 7)))] [(.ite (.cmp .ne (.ix (.v 7) (.k (.int 0))) (.ix (.v 7) (.k (.int 1)))) [(.ex (.app (.v 2) (.bin .add (.tup [(.v 3), (.v 4), (.v 6), (.v 6)]) (.v 7))))] [])]), (.asg (.v 5) (.v 7))])])]), (.ret (.op .tuple [(.v 2)]))]⟩
def dfT : Nm → Option Df
  | 3 => some d_is_whole
  | 4 => some d_is_tuple_of
  | 10 => some d_fits_withholding
  | 11 => some d_fits_withholdings
  | 12 => some d_fresh_by
  | 13 => some d_need_withholdings
  | 14 => some d_is_withholdings
  | 15 => some d_fresh_standing
  | 16 => some d__law_cup
  | 17 => some d__law_roll
  | 18 => some d__law_some
  | 19 => some d__law_withholdings
  | 20 => some d__law_bent
  | 24 => some d_need_number
  | 27 => some d_fits_standing
  | 28 => some d_wanted
  | 29 => some d_wants_for
  | 30 => some d_need_standing
  | 31 => some d_wants_of
  | 32 => some d__law_standing
  | 33 => some d__law_net
  | 34 => some d__law_wants
  | 35 => some d_dealt_out
  | 39 => some d__law_dealt
  | 40 => some d__law_paid
  | 43 => some d_dealt
  | 45 => some d__law_bad_standing
  | 48 => some d_law35
  | 49 => some d_law36
  | 50 => some d_law38
  | 51 => some d_law39
  | 52 => some d_law40
  | 53 => some d_law41
  | 54 => some d_withheld_from
  | 55 => some d_paid_by
  | 56 => some d_payment
  | 57 => some d_paid_out
  | 58 => some d__law_net_right
  | 59 => some d__law_is_refused
  | 60 => some d__law_turned
  | 76 => some d_is_name
  | 77 => some d_fits_bands
  | 78 => some d_inner_of
  | 79 => some d_fits_expression
  | 80 => some d_parts_of
  | 81 => some d_mentioned
  | 82 => some d_fits_definition
  | 83 => some d_in_order
  | 84 => some d_fits_rules
  | 85 => some d_is_expression
  | 86 => some d_is_rules
  | 87 => some d__law_expression
  | 88 => some d__law_drawn_test
  | 89 => some d__law_rules
  | 90 => some d__law_nested
  | 92 => some d__law_bounds_by_tests
  | 99 => some d_need_loose
  | 100 => some d_is_loose
  | 103 => some d__law_mentions
  | 107 => some d__law_loose_rules
  | 109 => some d__law_odd
  | 110 => some d_need_rules
  | 117 => some d_need_name
  | 123 => some d_fits_telling
  | 124 => some d_fits_event
  | 125 => some d_fits_events
  | 126 => some d_counting
  | 127 => some d_need_events
  | 128 => some d_need_moment
  | 129 => some d_need_about
  | 130 => some d_counts_among
  | 131 => some d_giver_among
  | 132 => some d_counts_of
  | 133 => some d_giver_of
  | 134 => some d__law_fact
  | 135 => some d__law_fact_events
  | 136 => some d__law_counts
  | 137 => some d__law_giver
  | 138 => some d__law_same
  | 140 => some d__law_odd_events
  | 141 => some d_row_among
  | 142 => some d_values_by
  | 143 => some d_runs_in
  | 144 => some d_need_fact
  | 145 => some d_spans_of
  | 146 => some d__law_spans
  | 147 => some d_facts_among
  | 149 => some d_facts_told
  | 150 => some d_facts_changed
  | 151 => some d__law_changed
  | 152 => some d__law_backwards_right
  | 153 => some d_concern_of
  | 154 => some d_history_of
  | 155 => some d_concerned_by
  | 156 => some d__law_concern
  | 157 => some d_is_idle
  | 158 => some d_idle_tellings
  | 159 => some d__law_without
  | 160 => some d__law_table
  | 165 => some d__law_values
  | 166 => some d__law_told
  | 167 => some d__law_pairs
  | 168 => some d__law_spans_right
  | 169 => some d__law_turned_right
  | 171 => some d_version_at
  | 172 => some d_is_events
  | 173 => some d_fact_of
  | 174 => some d_version_of
  | 176 => some d__law_telling
  | 177 => some d__law_events
  | 185 => some d_rates_text
  | 186 => some d_definition_text
  | 188 => some d_value_text
  | 189 => some d_event_text
  | 190 => some d_print_rules
  | 193 => some d__law_rules_text
  | 194 => some d__law_events_text
  | 196 => some d_law00
  | 197 => some d_law48
  | 198 => some d_law49
  | 207 => some d_law06
  | 208 => some d__law_odd_expressions_2
  | 209 => some d__law_paid_3
  | 210 => some d__law_version_2
  | 211 => some d_now_behind
  | 212 => some d_ring_in_2
  | 213 => some d_fits_ring_2
  | 214 => some d_ring_of_2
  | 215 => some d_is_ring_2
  | 216 => some d__law_behind
  | 217 => some d__law_has_ring_2
  | 218 => some d__law_is_ring_2
  | 219 => some d__law_walk_2
  | 220 => some d_order_in_2
  | 221 => some d_first_order_2
  | 222 => some d__law_first_order_2
  | 223 => some d__law_table_2
  | 224 => some d__law_runs_2
  | _ => none
def conT : Nm → Option W
  | 5 => some (.int 8)
  | 6 => some (.int 10)
  | 7 => some (.int 1000000000000)
  | 8 => some (.int 10000)
  | 9 => some (.int 1000000000000000)
  | 25 => some (.int 1000000000000000000)
  | 26 => some (.int 100000000000000000000)
  | 41 => some (.int 60)
  | 62 => some (.int 8)
  | 63 => some (.str [97, 98, 99, 100, 101, 102, 103, 104, 105, 106, 107, 108, 109, 110, 111, 112, 113, 114, 115, 116, 117, 118, 119, 120, 121, 122])
  | 64 => some (.int 999999999)
  | 65 => some (.int 8)
  | 66 => some (.int 60)
  | 67 => some (.int 16)
  | 68 => some (.int 4)
  | 69 => some (.int 10000)
  | 70 => some (.int 9)
  | 71 => some (.tup [(.int 0), (.int 1), (.int 2), (.int 3), (.int 4), (.int 5), (.int 6), (.int 9)])
  | 72 => some (.tup [(.str [110, 97, 109, 101]), (.str [102, 97, 99, 116]), (.str [108, 97, 115, 116]), (.str [121, 101, 97, 114])])
  | 73 => some (.tup [(.str [112, 108, 117, 115]), (.str [109, 105, 110, 117, 115]), (.str [116, 105, 109, 101, 115]), (.str [109, 105, 110]), (.str [109, 97, 120])])
  | 74 => some (.tup [(.str [98, 101, 108, 111, 119]), (.str [109, 111, 115, 116]), (.str [115, 97, 109, 101])])
  | 75 => some (.tup [(.str [97, 110, 100]), (.str [111, 114])])
  | 118 => some (.int 36)
  | 119 => some (.int 4)
  | 120 => some (.int 3)
  | 121 => some (.int 60)
  | 122 => some (.int 1000000000)
  | 183 => some (.tup [(.str [80, 65, 89]), (.str [72, 79, 76, 68, 32, 48]), (.str [72, 79, 76, 68, 32, 49]), (.str [72, 79, 76, 68, 32, 50]), (.str [65, 68, 68, 32, 48]), (.str [65, 68, 68, 32, 49]), (.str [65, 68, 68, 32, 50]), (.str []), (.str []), (.str [80, 76, 65, 73, 78])])
  | _ => none
def subT : Nm → Nm → Bool
  | 1, 1 => true
  | 2, 2 => true
  | 2, 1 => true
  | 22, 22 => true
  | 22, 1 => true
  | 23, 23 => true
  | 23, 1 => true
  | 93, 93 => true
  | 93, 1 => true
  | 115, 115 => true
  | 115, 1 => true
  | 116, 116 => true
  | 116, 1 => true
  | _, _ => false
def tx : Tx := ⟨dfT, conT, subT, fun _ _ => none⟩
theorem e_is_whole : tx.df 3 = some d_is_whole := rfl
theorem e_is_tuple_of : tx.df 4 = some d_is_tuple_of := rfl
theorem e_fits_withholding : tx.df 10 = some d_fits_withholding := rfl
theorem e_fits_withholdings : tx.df 11 = some d_fits_withholdings := rfl
theorem e_fresh_by : tx.df 12 = some d_fresh_by := rfl
theorem e_need_withholdings : tx.df 13 = some d_need_withholdings := rfl
theorem e_is_withholdings : tx.df 14 = some d_is_withholdings := rfl
theorem e_fresh_standing : tx.df 15 = some d_fresh_standing := rfl
theorem e__law_cup : tx.df 16 = some d__law_cup := rfl
theorem e__law_roll : tx.df 17 = some d__law_roll := rfl
theorem e__law_some : tx.df 18 = some d__law_some := rfl
theorem e__law_withholdings : tx.df 19 = some d__law_withholdings := rfl
theorem e__law_bent : tx.df 20 = some d__law_bent := rfl
theorem e_need_number : tx.df 24 = some d_need_number := rfl
theorem e_fits_standing : tx.df 27 = some d_fits_standing := rfl
theorem e_wanted : tx.df 28 = some d_wanted := rfl
theorem e_wants_for : tx.df 29 = some d_wants_for := rfl
theorem e_need_standing : tx.df 30 = some d_need_standing := rfl
theorem e_wants_of : tx.df 31 = some d_wants_of := rfl
theorem e__law_standing : tx.df 32 = some d__law_standing := rfl
theorem e__law_net : tx.df 33 = some d__law_net := rfl
theorem e__law_wants : tx.df 34 = some d__law_wants := rfl
theorem e_dealt_out : tx.df 35 = some d_dealt_out := rfl
theorem e__law_dealt : tx.df 39 = some d__law_dealt := rfl
theorem e__law_paid : tx.df 40 = some d__law_paid := rfl
theorem e_dealt : tx.df 43 = some d_dealt := rfl
theorem e__law_bad_standing : tx.df 45 = some d__law_bad_standing := rfl
theorem e_law35 : tx.df 48 = some d_law35 := rfl
theorem e_law36 : tx.df 49 = some d_law36 := rfl
theorem e_law38 : tx.df 50 = some d_law38 := rfl
theorem e_law39 : tx.df 51 = some d_law39 := rfl
theorem e_law40 : tx.df 52 = some d_law40 := rfl
theorem e_law41 : tx.df 53 = some d_law41 := rfl
theorem e_withheld_from : tx.df 54 = some d_withheld_from := rfl
theorem e_paid_by : tx.df 55 = some d_paid_by := rfl
theorem e_payment : tx.df 56 = some d_payment := rfl
theorem e_paid_out : tx.df 57 = some d_paid_out := rfl
theorem e__law_net_right : tx.df 58 = some d__law_net_right := rfl
theorem e__law_is_refused : tx.df 59 = some d__law_is_refused := rfl
theorem e__law_turned : tx.df 60 = some d__law_turned := rfl
theorem e_is_name : tx.df 76 = some d_is_name := rfl
theorem e_fits_bands : tx.df 77 = some d_fits_bands := rfl
theorem e_inner_of : tx.df 78 = some d_inner_of := rfl
theorem e_fits_expression : tx.df 79 = some d_fits_expression := rfl
theorem e_parts_of : tx.df 80 = some d_parts_of := rfl
theorem e_mentioned : tx.df 81 = some d_mentioned := rfl
theorem e_fits_definition : tx.df 82 = some d_fits_definition := rfl
theorem e_in_order : tx.df 83 = some d_in_order := rfl
theorem e_fits_rules : tx.df 84 = some d_fits_rules := rfl
theorem e_is_expression : tx.df 85 = some d_is_expression := rfl
theorem e_is_rules : tx.df 86 = some d_is_rules := rfl
theorem e__law_expression : tx.df 87 = some d__law_expression := rfl
theorem e__law_drawn_test : tx.df 88 = some d__law_drawn_test := rfl
theorem e__law_rules : tx.df 89 = some d__law_rules := rfl
theorem e__law_nested : tx.df 90 = some d__law_nested := rfl
theorem e__law_bounds_by_tests : tx.df 92 = some d__law_bounds_by_tests := rfl
theorem e_need_loose : tx.df 99 = some d_need_loose := rfl
theorem e_is_loose : tx.df 100 = some d_is_loose := rfl
theorem e__law_mentions : tx.df 103 = some d__law_mentions := rfl
theorem e__law_loose_rules : tx.df 107 = some d__law_loose_rules := rfl
theorem e__law_odd : tx.df 109 = some d__law_odd := rfl
theorem e_need_rules : tx.df 110 = some d_need_rules := rfl
theorem e_need_name : tx.df 117 = some d_need_name := rfl
theorem e_fits_telling : tx.df 123 = some d_fits_telling := rfl
theorem e_fits_event : tx.df 124 = some d_fits_event := rfl
theorem e_fits_events : tx.df 125 = some d_fits_events := rfl
theorem e_counting : tx.df 126 = some d_counting := rfl
theorem e_need_events : tx.df 127 = some d_need_events := rfl
theorem e_need_moment : tx.df 128 = some d_need_moment := rfl
theorem e_need_about : tx.df 129 = some d_need_about := rfl
theorem e_counts_among : tx.df 130 = some d_counts_among := rfl
theorem e_giver_among : tx.df 131 = some d_giver_among := rfl
theorem e_counts_of : tx.df 132 = some d_counts_of := rfl
theorem e_giver_of : tx.df 133 = some d_giver_of := rfl
theorem e__law_fact : tx.df 134 = some d__law_fact := rfl
theorem e__law_fact_events : tx.df 135 = some d__law_fact_events := rfl
theorem e__law_counts : tx.df 136 = some d__law_counts := rfl
theorem e__law_giver : tx.df 137 = some d__law_giver := rfl
theorem e__law_same : tx.df 138 = some d__law_same := rfl
theorem e__law_odd_events : tx.df 140 = some d__law_odd_events := rfl
theorem e_row_among : tx.df 141 = some d_row_among := rfl
theorem e_values_by : tx.df 142 = some d_values_by := rfl
theorem e_runs_in : tx.df 143 = some d_runs_in := rfl
theorem e_need_fact : tx.df 144 = some d_need_fact := rfl
theorem e_spans_of : tx.df 145 = some d_spans_of := rfl
theorem e__law_spans : tx.df 146 = some d__law_spans := rfl
theorem e_facts_among : tx.df 147 = some d_facts_among := rfl
theorem e_facts_told : tx.df 149 = some d_facts_told := rfl
theorem e_facts_changed : tx.df 150 = some d_facts_changed := rfl
theorem e__law_changed : tx.df 151 = some d__law_changed := rfl
theorem e__law_backwards_right : tx.df 152 = some d__law_backwards_right := rfl
theorem e_concern_of : tx.df 153 = some d_concern_of := rfl
theorem e_history_of : tx.df 154 = some d_history_of := rfl
theorem e_concerned_by : tx.df 155 = some d_concerned_by := rfl
theorem e__law_concern : tx.df 156 = some d__law_concern := rfl
theorem e_is_idle : tx.df 157 = some d_is_idle := rfl
theorem e_idle_tellings : tx.df 158 = some d_idle_tellings := rfl
theorem e__law_without : tx.df 159 = some d__law_without := rfl
theorem e__law_table : tx.df 160 = some d__law_table := rfl
theorem e__law_values : tx.df 165 = some d__law_values := rfl
theorem e__law_told : tx.df 166 = some d__law_told := rfl
theorem e__law_pairs : tx.df 167 = some d__law_pairs := rfl
theorem e__law_spans_right : tx.df 168 = some d__law_spans_right := rfl
theorem e__law_turned_right : tx.df 169 = some d__law_turned_right := rfl
theorem e_version_at : tx.df 171 = some d_version_at := rfl
theorem e_is_events : tx.df 172 = some d_is_events := rfl
theorem e_fact_of : tx.df 173 = some d_fact_of := rfl
theorem e_version_of : tx.df 174 = some d_version_of := rfl
theorem e__law_telling : tx.df 176 = some d__law_telling := rfl
theorem e__law_events : tx.df 177 = some d__law_events := rfl
theorem e_rates_text : tx.df 185 = some d_rates_text := rfl
theorem e_definition_text : tx.df 186 = some d_definition_text := rfl
theorem e_value_text : tx.df 188 = some d_value_text := rfl
theorem e_event_text : tx.df 189 = some d_event_text := rfl
theorem e_print_rules : tx.df 190 = some d_print_rules := rfl
theorem e__law_rules_text : tx.df 193 = some d__law_rules_text := rfl
theorem e__law_events_text : tx.df 194 = some d__law_events_text := rfl
theorem e_law00 : tx.df 196 = some d_law00 := rfl
theorem e_law48 : tx.df 197 = some d_law48 := rfl
theorem e_law49 : tx.df 198 = some d_law49 := rfl
theorem e_law06 : tx.df 207 = some d_law06 := rfl
theorem e__law_odd_expressions_2 : tx.df 208 = some d__law_odd_expressions_2 := rfl
theorem e__law_paid_3 : tx.df 209 = some d__law_paid_3 := rfl
theorem e__law_version_2 : tx.df 210 = some d__law_version_2 := rfl
theorem e_now_behind : tx.df 211 = some d_now_behind := rfl
theorem e_ring_in_2 : tx.df 212 = some d_ring_in_2 := rfl
theorem e_fits_ring_2 : tx.df 213 = some d_fits_ring_2 := rfl
theorem e_ring_of_2 : tx.df 214 = some d_ring_of_2 := rfl
theorem e_is_ring_2 : tx.df 215 = some d_is_ring_2 := rfl
theorem e__law_behind : tx.df 216 = some d__law_behind := rfl
theorem e__law_has_ring_2 : tx.df 217 = some d__law_has_ring_2 := rfl
theorem e__law_is_ring_2 : tx.df 218 = some d__law_is_ring_2 := rfl
theorem e__law_walk_2 : tx.df 219 = some d__law_walk_2 := rfl
theorem e_order_in_2 : tx.df 220 = some d_order_in_2 := rfl
theorem e_first_order_2 : tx.df 221 = some d_first_order_2 := rfl
theorem e__law_first_order_2 : tx.df 222 = some d__law_first_order_2 := rfl
theorem e__law_table_2 : tx.df 223 = some d__law_table_2 := rfl
theorem e__law_runs_2 : tx.df 224 = some d__law_runs_2 := rfl
end Tx

namespace Y
/-! plain lemmas about the evaluator -/
/-- by a bool -/
def onB {α : Type} (x : W) (bad : α) (f : Bool → α) : α := match x with
  | .bl b => f b
  | _ => bad
@[simp] theorem onB_bl {α : Type} (b : Bool) (bad : α) (f : Bool → α) : onB (.bl b) bad f = f b := rfl
theorem onB_of {α : Type} {bad : α} {g : W → α} {f : Bool → α} (h : ∀ b, g (.bl b) = f b) (k : ∀ x, (∀ b, x ≠ .bl b) → g x = bad) (x : W) : g x = onB x bad f := by
  cases x with
  | bl b => exact h b
  | _ => exact k _ fun b e => nomatch e
section
variable {c : Cal} {σ : Env} {h : WH}
@[simp] theorem ev_v (i : Nat) : ev c (.v i) σ h = getV σ i h := by simp only [ev] <;> rfl
@[simp] theorem ev_k (w : W) : ev c (.k w) σ h = .ok w h := by simp only [ev] <;> rfl
@[simp] theorem ev_g (x : Nm) : ev c (.g x) σ h = opt (c.con x) h := by simp only [ev] <;> rfl
@[simp] theorem ev_tup (es : List E) : ev c (.tup es) σ h = (evs c es σ h).bind fun ws h => .ok (.tup ws) h := by simp only [ev] <;> rfl
@[simp] theorem ev_lst (es : List E) : ev c (.lst es) σ h = (evs c es σ h).bind fun ws h => .ok (.lst ws) h := by simp only [ev] <;> rfl
@[simp] theorem ev_bin (o : BO) (a b : E) : ev c (.bin o a b) σ h = (ev c a σ h).bind fun x h => (ev c b σ h).bind fun y h => opt (binW o (view h x) (view h y)) h := by simp only [ev] <;> rfl
@[simp] theorem ev_cmp (o : CO) (a b : E) : ev c (.cmp o a b) σ h = (ev c a σ h).bind fun x h => (ev c b σ h).bind fun y h => opt ((cmpW o (view h x) (view h y)).map .bl) h := by simp only [ev] <;> rfl
@[simp] theorem ev_call (m : Md) (f : Nm) (es : List E) : ev c (.call m f es) σ h = (evs c es σ h).bind fun ws h => callM c m f ws h := by simp only [ev] <;> rfl
@[simp] theorem ev_op (f : Op) (es : List E) : ev c (.op f es) σ h = (evs c es σ h).bind fun ws h => opt (opW f (ws.map (view h))) h := by simp only [ev, opR] <;> rfl
@[simp] theorem ev_dget (tp : Bool) (d : E) (ks : List E) : ev c (.dget tp d ks) σ h = (ev c d σ h).bind fun x h => (evs c ks σ h).bind fun ys h => (match (keyOf tp ys).bind (getW tp (view h x)) with
    | some (some w) => .ok w h
    | _ => .bad) := by simp only [ev] <;> rfl
@[simp] theorem ev_dget2 (tp : Bool) (d : E) (ks : List E) (z : E) : ev c (.dget2 tp d ks z) σ h = (ev c d σ h).bind fun x h => if isDct (view h x) then (evs c ks σ h).bind fun ys h => (match keyOf tp ys with
    | some y => (ev c z σ h).bind fun w h => (match getW tp (view h x) y with
      | some o => .ok (o.getD w) h
      | none => .bad)
    | none => .bad) else .bad := by simp only [ev] <;> rfl
@[simp] theorem ev_din (no tp : Bool) (ks : List E) (d : E) : ev c (.din no tp ks d) σ h = (evs c ks σ h).bind fun ys h => (match keyOf tp ys with
    | some y => (ev c d σ h).bind fun x h => (match getW tp (view h x) y with
      | some o => .ok (.bl (if no then !o.isSome else o.isSome)) h
      | none => .bad)
    | none => .bad) := by simp only [ev] <;> rfl
@[simp] theorem ev_dnew (t : Bool) : ev c (.dnew t) σ h = .ok (.ref h.length) (h ++ [if t then .dt [] else .dk []]) := by simp only [ev] <;> rfl
@[simp] theorem ev_mkd (e : E) : ev c (.mkd e) σ h = (ev c e σ h).bind fun x h => (match view h x with
    | .lst ws => (match pairsW ws with
      | some kvs => .ok (.dct false (mergeD [] kvs)) h
      | none => .bad)
    | _ => .bad) := by simp only [ev] <;> rfl
@[simp] theorem evs_nil' : evs c [] σ h = .ok [] h := by simp only [evs] <;> rfl
@[simp] theorem evs_cons' (e : E) (r : List E) : evs c (e :: r) σ h = (ev c e σ h).bind fun w h => (evs c r σ h).bind fun ws h => .ok (w :: ws) h := by simp only [evs] <;> rfl
@[simp] theorem ev_and (es : List E) : ev c (.andL es) σ h = evAnd c es σ h := by simp only [ev] <;> rfl
@[simp] theorem ev_or (es : List E) : ev c (.orL es) σ h = evOr c es σ h := by simp only [ev] <;> rfl
theorem bind_ex {α β : Type} {r : R α} {f g : α → WH → R β} (e : ∀ a h, f a h = g a h) : r.bind f = r.bind g := by
  have : f = g := by funext a h; exact e a h
  rw [this]
theorem flow_ex {α : Type} {r : R α} {f g : α → WH → Fl} (e : ∀ a h, f a h = g a h) : r.flow f = r.flow g := by
  have : f = g := by funext a h; exact e a h
  rw [this]
@[simp] theorem evAnd_one (e : E) : evAnd c [e] σ h = (ev c e σ h).bind fun x h => onB x .bad fun b => .ok (.bl b) h := by
  simp only [evAnd]
  refine bind_ex fun x h => ?_
  cases x <;> first | rfl | skip
  rename_i b
  cases b <;> rfl
@[simp] theorem evAnd_cons (e f : E) (r : List E) : evAnd c (e :: f :: r) σ h = (ev c e σ h).bind fun x h => onB x .bad fun b => if b = true then evAnd c (f :: r) σ h else .ok (.bl false) h := by
  rw [evAnd]
  refine bind_ex fun x h => ?_
  cases x <;> first | rfl | skip
  rename_i b
  cases b <;> rfl
@[simp] theorem evOr_one (e : E) : evOr c [e] σ h = (ev c e σ h).bind fun x h => onB x .bad fun b => .ok (.bl b) h := by
  simp only [evOr]
  refine bind_ex fun x h => ?_
  cases x <;> first | rfl | skip
  rename_i b
  cases b <;> rfl
@[simp] theorem evOr_cons (e f : E) (r : List E) : evOr c (e :: f :: r) σ h = (ev c e σ h).bind fun x h => onB x .bad fun b => if b = true then .ok (.bl true) h else evOr c (f :: r) σ h := by
  rw [evOr]
  refine bind_ex fun x h => ?_
  cases x <;> first | rfl | skip
  rename_i b
  cases b <;> rfl
@[simp] theorem ev_not (a : E) : ev c (.notE a) σ h = (ev c a σ h).bind fun x h => onB x .bad fun b => .ok (.bl (!b)) h := by
  simp only [ev]
  refine bind_ex fun x h => ?_
  cases x <;> rfl
@[simp] theorem ev_neg (a : E) : ev c (.neg a) σ h = (ev c a σ h).bind fun x h => match x with
    | .int i => .ok (.int (-i)) h
    | _ => .bad := by simp only [ev] <;> rfl
@[simp] theorem ev_ife (t a b : E) : ev c (.ife t a b) σ h = (ev c t σ h).bind fun x h => onB x .bad fun d => if d = true then ev c a σ h else ev c b σ h := by
  simp only [ev]
  refine bind_ex fun x h => ?_
  cases x <;> first | rfl | skip
  rename_i b
  cases b <;> rfl
@[simp] theorem ev_ix (a i : E) : ev c (.ix a i) σ h = (ev c a σ h).bind fun x h => (ev c i σ h).bind fun y h => opt (ixW (view h x) y) h := by simp only [ev] <;> rfl
@[simp] theorem ev_sl (a lo hi : E) : ev c (.sl a lo hi) σ h = (ev c a σ h).bind fun x h => (ev c lo σ h).bind fun l h => (match partI lo l with
    | some l => (ev c hi σ h).bind fun u h => (match partI hi u with
      | some u => opt (slW (view h x) l u) h
      | none => .bad)
    | none => .bad) := by simp only [ev] <;> rfl
@[simp] theorem ev_cmp2 (o p : CO) (a b d : E) : ev c (.cmp2 o p a b d) σ h = (ev c a σ h).bind fun x h => (ev c b σ h).bind fun y h => (match cmpW o (view h x) (view h y) with
    | some true => (ev c d σ h).bind fun z h => opt ((cmpW p (view h y) (view h z)).map .bl) h
    | some false => .ok (.bl false) h
    | none => .bad) := by simp only [ev] <;> rfl
@[simp] theorem ev_thaw (e : E) : ev c (.thaw e) σ h = (ev c e σ h).bind fun w h => match w with
    | .lst ws => .ok (.ref h.length) (h ++ [.lst ws])
    | _ => .bad := by simp only [ev] <;> rfl
/-- a turn of a comprehension -/
def turnC (c : Cal) (own : List Nat) (tg : Tg) (cond elt : E) (σ : Env) (w : W) (h : WH) : R (Option W) := match asgT h tg w (wipE σ own) with
  | some σ' => (ev c cond σ' h).bind fun b h => (match b with
    | .bl true => (ev c elt σ' h).bind fun y h => .ok (some y) h
    | .bl false => .ok none h
    | _ => .bad)
  | none => .bad
theorem ev_comp (own : List Nat) (tg : Tg) (ik : IK) (es : List E) (cond elt : E) : ev c (.comp own tg ik es cond elt) σ h = (evs c es σ h).bind fun ws h => (match itemsOf h ik ws with
    | some items => if items.length ≤ big then (compL (stands ik ws items) (turnC c own tg cond elt σ) items h).bind fun ys h => .ok (.lst ys) h else .bad
    | none => .bad) := by simp only [ev] <;> rfl
@[simp] theorem exs_nil : exs c [] σ h = .nx σ h := by simp only [exs] <;> rfl
@[simp] theorem exs_cons (s : S) (r : List S) : exs c (s :: r) σ h = (exe c s σ h).seq fun σ h => exs c r σ h := by simp only [exs] <;> rfl
@[simp] theorem exe_asg (tg : Tg) (e : E) : exe c (.asg tg e) σ h = (ev c e σ h).flow fun w h => match asgT h tg w σ with
    | some σ' => .nx σ' h
    | none => .bad := by simp only [exe] <;> rfl
@[simp] theorem exe_par (is : List Nat) (es : List E) : exe c (.par is es) σ h = (evs c es σ h).flow fun ws h => match setP is ws σ with
    | some σ' => .nx σ' h
    | none => .bad := by simp only [exe] <;> rfl
@[simp] theorem exe_ex (e : E) : exe c (.ex e) σ h = (ev c e σ h).flow fun _ h => .nx σ h := by simp only [exe] <;> rfl
@[simp] theorem exe_ret (e : E) : exe c (.ret e) σ h = (ev c e σ h).flow fun w h => .rt w h := by simp only [exe] <;> rfl
@[simp] theorem exe_retN : exe c .retN σ h = .rt .non h := by simp only [exe] <;> rfl
@[simp] theorem exe_ite (t : E) (a b : List S) : exe c (.ite t a b) σ h = (ev c t σ h).flow fun x h => onB x .bad fun d => if d = true then exs c a σ h else exs c b σ h := by
  simp only [exe]
  refine flow_ex fun x h => ?_
  cases x <;> first | rfl | skip
  rename_i b
  cases b <;> rfl
@[simp] theorem exe_raise (k : Nm) : exe c (.raise k) σ h = .exc k [] h := by simp only [exe] <;> rfl
@[simp] theorem exe_sub (o i e : E) : exe c (.sub o i e) σ h = (ev c e σ h).flow fun w h => (ev c o σ h).flow fun x h => (ev c i σ h).flow fun y h => match x, y with
    | .ref k, .int n => (match h[k]? with
      | some (.lst ws) => (match ixN ws.length n with
        | some j => .nx σ (h.set k (.lst (ws.set j w)))
        | none => .bad)
      | _ => .bad)
    | _, _ => .bad := by simp only [exe] <;> rfl
@[simp] theorem exe_dput (tp : Bool) (d : E) (ks : List E) (e : E) : exe c (.dput tp d ks e) σ h = (ev c e σ h).flow fun w h => (ev c d σ h).flow fun x h => (evs c ks σ h).flow fun ys h => match x, keyOf tp ys with
    | .ref a, some y => (match h[a]? with
      | some (.dk kvs) => if keyOk tp false y && decide (kvs.length < big) then .nx σ (h.set a (.dk (putD y w kvs))) else .bad
      | some (.dt kvs) => if keyOk tp true y && decide (kvs.length < big) then .nx σ (h.set a (.dt (putD y w kvs))) else .bad
      | _ => .bad)
    | _, _ => .bad := by simp only [exe] <;> rfl
/-- a turn of a for -/
def turnF (c : Cal) (tg : Tg) (body : List S) (w : W) (σ : Env) (h : WH) : Fl := match asgT h tg w σ with
  | some σ' => exs c body σ' h
  | none => .bad
theorem exe_for (tg : Tg) (ik : IK) (es : List E) (wip : List Nat) (body : List S) : exe c (.forS tg ik es wip body) σ h = (evs c es σ h).flow fun ws h => (match itemsOf h ik ws with
    | some items => forL (stands ik ws items) wip (turnF c tg body) items σ h
    | none => .bad) := by simp only [exe] <;> rfl
@[simp] theorem asgT_v (i : Nat) (w : W) : asgT h (.v i) w σ = if i < σ.length then some (σ.set i (some w)) else none := by simp only [asgT] <;> rfl
@[simp] theorem asgT_t (ts : List Tg) (w : W) : asgT h (.t ts) w σ = (match view h w with
    | .tup ws => asgL h ts ws σ
    | .lst ws => asgL h ts ws σ
    | _ => none) := by simp only [asgT] <;> rfl
@[simp] theorem asgL_nil : asgL h [] [] σ = some σ := by simp only [asgL] <;> rfl
@[simp] theorem asgL_cons (t : Tg) (ts : List Tg) (w : W) (ws : List W) : asgL h (t :: ts) (w :: ws) σ = (match asgT h t w σ with
    | some σ' => asgL h ts ws σ'
    | none => none) := by simp only [asgL] <;> rfl
end
@[simp] theorem view_int (h : WH) (i : Int) : view h (.int i) = .int i := rfl
@[simp] theorem view_bl (h : WH) (i : Bool) : view h (.bl i) = .bl i := rfl
@[simp] theorem view_non (h : WH) : view h .non = .non := rfl
@[simp] theorem view_str (h : WH) (i : List Nat) : view h (.str i) = .str i := rfl
@[simp] theorem view_tup (h : WH) (i : List W) : view h (.tup i) = .tup i := rfl
@[simp] theorem view_lst (h : WH) (i : List W) : view h (.lst i) = .lst i := rfl
@[simp] theorem cal_con (T : Tx) (n : Nat) : (cal T n).con = T.con := rfl
@[simp] theorem cal_run (T : Tx) (n : Nat) : (cal T n).run = run T n := rfl
theorem pureL_ints : ∀ l : List Int, pureL (l.map W.int) = true
  | [] => rfl
  | i :: r => by simp only [List.map_cons, pureL, pureW, Bool.true_and]; exact pureL_ints r
theorem intsOf_map : ∀ l : List Int, intsOf (l.map W.int) = some l
  | [] => rfl
  | i :: r => by simp only [List.map_cons, intsOf, intsOf_map r, Option.map_some]
theorem depL_ints : ∀ l : List Int, depL (l.map W.int) = 0
  | [] => rfl
  | i :: r => by simp only [List.map_cons, depL, depW, depL_ints r, Nat.max_self]
/-! what repr makes is short -/
mutual
def rz : W → Nat
  | .non => 4
  | .bl _ => 5
  | .int _ => 600
  | .str s => 10 * s.length + 2
  | .tup ws => rzL ws + 4
  | _ => 0
def rzL : List W → Nat
  | [] => 0
  | w :: r => rz w + 2 + rzL r
end
mutual
def okS : W → Bool
  | .non => true
  | .bl _ => true
  | .int i => decide (i.natAbs < 10 ^ 577)
  | .str s => s.all fun c => decide (c < 16 ^ 8)
  | .tup ws => okSL ws
  | _ => false
def okSL : List W → Bool
  | [] => true
  | w :: r => okS w && okSL r
end
theorem okS_log {i : Int} (h : i.natAbs < 10 ^ 577) : i.natAbs.log2 < 1920 := by
  by_cases z : i.natAbs = 0
  · rw [z]; decide
  · exact (Nat.log2_lt z).mpr (Nat.lt_trans h (by decide +kernel))
open PySem in
mutual
theorem shown_le : ∀ w : W, okS w = true → (dataW w).shown.length ≤ rz w ∧ (dataW w).showable = true ∧ pureW w = true
  | .non, _ => ⟨by decide, rfl, rfl⟩
  | .bl b, _ => ⟨by cases b <;> decide, rfl, rfl⟩
  | .int i, h => by
    simp only [okS, decide_eq_true_eq] at h
    refine ⟨?_, by simp only [dataW, PyData.showable, decide_eq_true_eq]; exact okS_log h, rfl⟩
    have e := int_text_length_le10 (k := 577) (by decide) h
    simp only [dataW, PyData.shown, rz]
    rw [ofString_length]
    omega
  | .str s, h => by
    simp only [okS, List.all_eq_true, decide_eq_true_eq] at h
    refine ⟨?_, rfl, rfl⟩
    simp only [dataW, PyData.shown, rz]
    have e := PySem.StrLaws.reprText_len (strC s) (by simpa [strC] using h)
    have e2 : (strC s).length = s.length := by unfold strC Str.length; simp
    omega
  | .tup ws, h => by
    simp only [okS] at h
    obtain ⟨h1, h2, h3⟩ := shownL_le ws h
    refine ⟨?_, by simp only [dataW, PyData.showable]; exact h2, by simp only [pureW]; exact h3⟩
    simp only [dataW, PyData.shown, rz]
    generalize PyData.shownAll (dataL ws) = ts at h1
    unfold tupleText
    have e3 : (if ts.length == 1 then ",)" else ")" : String).length ≤ 2 := by split <;> decide
    rw [strLen_append, strLen_append]
    cases ts with
    | nil =>
      have e4 : (Str.join (", " : Str) ([] : List Str)).length = 0 := rfl
      have e5 : (("(" : String) : Str).length = 1 := rfl
      rw [e4, e5]
      have : ((if ([] : List Str).length == 1 then ",)" else ")" : String) : Str).length ≤ 2 := by decide
      omega
    | cons t ts =>
      have e4 := join_length_add (t :: ts) (by simp)
      have e5 : (("(" : String) : Str).length = 1 := rfl
      have e6 : ((if (t :: ts).length == 1 then ",)" else ")" : String) : Str).length ≤ 2 := by split <;> decide
      omega
  | .lst _, h => by simp [okS] at h
  | .dct _ _, h => by simp [okS] at h
  | .ref _, h => by simp [okS] at h
theorem shownL_le : ∀ ws : List W, okSL ws = true → piled (PyData.shownAll (dataL ws)) ≤ rzL ws ∧ PyData.showableAll (dataL ws) = true ∧ pureL ws = true
  | [], _ => ⟨by decide, rfl, rfl⟩
  | w :: r, h => by
    simp only [okSL, Bool.and_eq_true] at h
    obtain ⟨a1, a2, a3⟩ := shown_le w h.1
    obtain ⟨b1, b2, b3⟩ := shownL_le r h.2
    refine ⟨?_, by simp only [dataL, PyData.showableAll, a2, b2, Bool.and_self], by simp only [pureL, a3, b3, Bool.and_self]⟩
    simp only [dataL, PyData.shownAll, rzL]
    rw [piled_cons]
    omega
end
theorem reprW_ok {w : W} (h : okS w = true) (hz : rz w ≤ big) (hd : depW w ≤ 100) : reprW w = some (.str (dataW w).shown.cps.toList) := by
  obtain ⟨h1, h2, h3⟩ := shown_le w h
  unfold reprW
  rw [if_pos]
  simp only [h2, h3, Bool.and_eq_true, decide_eq_true_eq]
  exact ⟨trivial, trivial, Nat.le_trans h1 hz, hd⟩
end Y

namespace Y
/-! a small calculus over the evaluator: what a run ends with -/
def Ok {α : Type} (r : R α) (Q : α → WH → Prop) : Prop := match r with
  | .ok a h => Q a h
  | _ => False
theorem Ok.imp {α : Type} {r : R α} {Q Q' : α → WH → Prop} (g : Ok r Q) (k : ∀ a h, Q a h → Q' a h) : Ok r Q' := by
  cases r with
  | ok a h => exact k a h g
  | exc c fs h => exact g
  | bad => exact g
theorem Ok.ex {α : Type} {r : R α} {Q : α → WH → Prop} (g : Ok r Q) : ∃ a h, r = .ok a h ∧ Q a h := by
  cases r with
  | ok a h => exact ⟨a, h, rfl, g⟩
  | exc c fs h => exact g.elim
  | bad => exact g.elim
theorem Ok.of {α : Type} {r : R α} {a : α} {h : WH} {Q : α → WH → Prop} (e : r = .ok a h) (q : Q a h) : Ok r Q := by rw [e]; exact q
@[simp] theorem Ok_ok {α : Type} {a : α} {h : WH} {Q : α → WH → Prop} : Ok (.ok a h) Q = Q a h := rfl
@[simp] theorem Ok_bad {α : Type} {Q : α → WH → Prop} : Ok .bad Q = False := rfl
@[simp] theorem Ok_bind {α β : Type} {r : R α} {f : α → WH → R β} {Q : β → WH → Prop} : Ok (r.bind f) Q = Ok r fun a h => Ok (f a h) Q := by cases r <;> rfl
@[simp] theorem Ok_opt {α : Type} {w : α} {h : WH} {Q : α → WH → Prop} : Ok (opt (some w) h) Q = Q w h := rfl
/-- statements: what stands behind, what is returned -/
def Fo (f : Fl) (n : Env → WH → Prop) (r : W → WH → Prop) : Prop := match f with
  | .nx σ h => n σ h
  | .rt w h => r w h
  | _ => False
theorem Fo.imp {f : Fl} {n n' : Env → WH → Prop} {r r' : W → WH → Prop} (g : Fo f n r) (k : ∀ σ h, n σ h → n' σ h) (k' : ∀ w h, r w h → r' w h) : Fo f n' r' := by
  cases f <;> first | exact k _ _ g | exact k' _ _ g | exact g
@[simp] theorem Fo_nx {σ : Env} {h : WH} {n : Env → WH → Prop} {r : W → WH → Prop} : Fo (.nx σ h) n r = n σ h := rfl
@[simp] theorem Fo_rt {w : W} {h : WH} {n : Env → WH → Prop} {r : W → WH → Prop} : Fo (.rt w h) n r = r w h := rfl
@[simp] theorem Fo_flow {α : Type} {r : R α} {f : α → WH → Fl} {n : Env → WH → Prop} {q : W → WH → Prop} : Fo (r.flow f) n q = Ok r fun a h => Fo (f a h) n q := by cases r <;> rfl
@[simp] theorem Fo_seq {f : Fl} {g : Env → WH → Fl} {n : Env → WH → Prop} {q : W → WH → Prop} : Fo (f.seq g) n q = Fo f (fun σ h => Fo (g σ h) n q) q := by cases f <;> rfl
theorem Ok_fin {f : Fl} {Q : W → WH → Prop} : Ok (finF f) Q = Fo f (fun _ h => Q .non h) Q := by cases f <;> rfl
theorem Ok_run {T : Tx} {n : Nat} {f : Nm} {d : Df} {ws : List W} {h : WH} {Q : W → WH → Prop} (e : T.df f = some d) (l : ws.length = d.ps) (g : Fo (exs (cal T n) d.body (startE d.ns ws) h) (fun _ h => Q .non h) Q) : Ok (run T (n + 1) f ws h) Q := by
  rw [run_succ e l, Ok_fin]; exact g
/-- a loop, by a word about what is done -/
theorem Fo_forL {ck : WH → Bool} {wip : List Nat} {f : W → Env → WH → Fl} {n : Env → WH → Prop} {r : W → WH → Prop} (I : List W → Env → WH → Prop) (hck : ∀ d σ h, I d σ h → ck h = true) :
    ∀ (items done : List W) (σ : Env) (h : WH), I done (wipE σ wip) h →
      (∀ a w b σ h, done ++ items = a ++ w :: b → I a σ h → Fo (f w σ h) (fun σ' h' => I (a ++ [w]) (wipE σ' wip) h') r) → (∀ σ h, I (done ++ items) σ h → n σ h) → Fo (forL ck wip f items σ h) n r
  | [], done, σ, h, i, _, hd => by
    unfold forL
    rw [if_pos (hck _ _ _ i)]
    exact hd _ _ (by simpa using i)
  | w :: t, done, σ, h, i, hs, hd => by
    unfold forL
    rw [if_pos (hck _ _ _ i)]
    have g := hs done w t _ _ rfl i
    generalize f w (wipE σ wip) h = fl at g
    cases fl with
    | nx σ' h' => exact Fo_forL I hck t (done ++ [w]) σ' h' g (fun a w' b σ h e => hs a w' b σ h (by simpa using e)) (fun σ h i => hd σ h (by simpa using i))
    | rt w h => exact g
    | _ => exact g.elim
/-- a comprehension, by a word about each item -/
theorem Ok_compL {ck : WH → Bool} {f : W → WH → R (Option W)} (I : WH → Prop) (P : W → Option W → Prop) (hck : ∀ h, I h → ck h = true) : ∀ (items : List W) (h : WH), I h → (∀ w ∈ items, ∀ h, I h → Ok (f w h) fun o h' => P w o ∧ I h') →
    Ok (compL ck f items h) fun ys h' => I h' ∧ ∃ os : List (Option W), os.length = items.length ∧ (∀ p ∈ items.zip os, P p.1 p.2) ∧ ys = os.filterMap id
  | [], h, i, _ => by
    unfold compL
    rw [if_pos (hck _ i)]
    exact ⟨i, [], rfl, fun p m => absurd m (by simp), rfl⟩
  | w :: t, h, i, hs => by
    unfold compL
    rw [if_pos (hck _ i)]
    obtain ⟨o, h1, e1, p1, i1⟩ := (hs w (by simp) h i).ex
    rw [e1]
    obtain ⟨ys, h2, e2, i2, os, l2, p2, y2⟩ := (Ok_compL I P hck t h1 i1 fun x m => hs x (List.mem_cons_of_mem _ m)).ex
    simp only [e2]
    refine ⟨i2, o :: os, by simp [l2], fun p m => ?_, ?_⟩
    · rw [List.zip_cons_cons] at m
      rcases List.mem_cons.mp m with e | m
      · subst e; exact p1
      · exact p2 p m
    · subst y2
      cases o <;> simp
theorem compL_map {ck : WH → Bool} {f : W → WH → R (Option W)} {o : W → Option W} {h : WH} (hck : ck h = true) : ∀ items : List W, (∀ w ∈ items, f w h = .ok (o w) h) → compL ck f items h = .ok (items.filterMap o) h
  | [], _ => by unfold compL; rw [if_pos hck]; rfl
  | w :: r, hf => by
    unfold compL
    rw [if_pos hck, hf w (by simp)]
    simp only [compL_map hck r fun x m => hf x (List.mem_cons_of_mem _ m)]
    cases e : o w <;> simp [e]
theorem call_pure {T : Tx} {n : Nat} {f : Nm} {ws : List W} {h h' : WH} {w : W} (hp : pureL ws = true) (e : run T n f ws [] = .ok w h') (hw : pureW w = true) : callM (cal T n) .pure f ws h = .ok w h := by
  have e2 : frz h' (h'.length + 8) w = some w := by
    show frz h' ((h'.length + 7) + 1) w = some w
    unfold frz
    rw [if_pos (by rw [hw]; rfl)]
  simp only [callM, cal_run, hp, Bool.true_or, if_true, e, e2, opt_some]
/-! small sums -/
theorem ixN_nat {n i : Nat} (h : i < n) : ixN n (i : Int) = some i := by
  unfold ixN
  rw [if_pos (by omega), if_pos (by omega)]
  simp
theorem atI_nat {α : Type} (xs : List α) (i : Nat) (h : i < xs.length) : atI xs (i : Int) = xs[i]? := by
  unfold atI
  rw [ixN_nat h]
  rfl
theorem log_small {a : Int} (h : a.natAbs < 2 ^ 100) : a.natAbs.log2 < 100 := by
  by_cases z : a.natAbs = 0
  · rw [z]; decide
  · exact (Nat.log2_lt z).mpr h
theorem mulOk_small {a b : Int} (h1 : a.natAbs < 2 ^ 100) (h2 : b.natAbs < 2 ^ 100) : mulOk a b = true := by
  have := log_small h1
  have := log_small h2
  unfold mulOk
  simp only [decide_eq_true_eq]
  omega
theorem divOk_small {b : Int} (h1 : 0 < b) (h2 : b.natAbs < 2 ^ 100) : divOk b = true := by
  have := log_small h2
  unfold divOk
  simp only [Bool.and_eq_true, decide_eq_true_eq]
  exact ⟨h1, by omega⟩
/-! what simp is to know about values -/
theorem turnC_on {c : Cal} {own : List Nat} {tg : Tg} {cond elt : E} {σ : Env} {w : W} {h : WH} {σ' : Env} (e : asgT h tg w (wipE σ own) = some σ') : turnC c own tg cond elt σ w h = (ev c cond σ' h).bind fun x h => onB x .bad fun b => if b = true then (ev c elt σ' h).bind fun y h => .ok (some y) h else .ok none h := by
  unfold turnC
  rw [e]
  refine bind_ex fun x h => ?_
  cases x <;> first | rfl | skip
  rename_i b
  cases b <;> rfl
@[simp] theorem view_dct (h : WH) (t kvs) : view h (.dct t kvs) = .dct t kvs := rfl
@[simp] theorem view_pure (h : WH) (w : W) (hw : pureW w = true) : view h w = w := by
  cases w <;> first | rfl | (simp only [pureW] at hw; cases hw)
@[simp] theorem finF_nx (σ : Env) (h : WH) : finF (.nx σ h) = .ok .non h := rfl
@[simp] theorem finF_rt (w : W) (h : WH) : finF (.rt w h) = .ok w h := rfl
@[simp] theorem finF_exc (c : Nm) (fs) (h : WH) : finF (.exc c fs h) = .exc c fs h := rfl
@[simp] theorem wipE_nil (σ : Env) : wipE σ [] = σ := rfl
@[simp] theorem wipE_cons (σ : Env) (v : Nat) (vs : List Nat) : wipE σ (v :: vs) = (wipE σ vs).set v none := rfl

@[simp] theorem getV_zero (w : W) (σ : Env) (h : WH) : getV (some w :: σ) 0 h = .ok w h := rfl
@[simp] theorem getV_succ (x : Option W) (σ : Env) (i : Nat) (h : WH) : getV (x :: σ) (i + 1) h = getV σ i h := by simp only [getV, List.getElem?_cons_succ]
@[simp] theorem ixW_tup (ws : List W) (i : Int) : ixW (.tup ws) (.int i) = atI ws i := rfl
@[simp] theorem ixW_lst (ws : List W) (i : Int) : ixW (.lst ws) (.int i) = atI ws i := rfl
theorem atI_of {ws : List W} {i : Nat} {w : W} (e : ws[i]? = some w) : atI ws (i : Int) = some w := by
  rw [atI_nat ws i (List.getElem?_eq_some_iff.mp e).1]; exact e
@[simp] theorem atI_0 (a : W) (r : List W) : atI (a :: r) 0 = some a := atI_of (i := 0) rfl
@[simp] theorem atI_1 (a b : W) (r : List W) : atI (a :: b :: r) 1 = some b := atI_of (i := 1) rfl
@[simp] theorem atI_2 (a b c : W) (r : List W) : atI (a :: b :: c :: r) 2 = some c := atI_of (i := 2) rfl
@[simp] theorem atI_3 (a b c d : W) (r : List W) : atI (a :: b :: c :: d :: r) 3 = some d := atI_of (i := 3) rfl
@[simp] theorem atI_4 (a b c d e : W) (r : List W) : atI (a :: b :: c :: d :: e :: r) 4 = some e := atI_of (i := 4) rfl
@[simp] theorem atI_5 (a b c d e f : W) (r : List W) : atI (a :: b :: c :: d :: e :: f :: r) 5 = some f := atI_of (i := 5) rfl
@[simp] theorem pure_non : pureW .non = true := by simp only [pureW]
@[simp] theorem pure_bl (b : Bool) : pureW (.bl b) = true := by simp only [pureW]
@[simp] theorem pure_int (i : Int) : pureW (.int i) = true := by simp only [pureW]
@[simp] theorem pure_str (s : List Nat) : pureW (.str s) = true := by simp only [pureW]
@[simp] theorem pure_tup (ws : List W) : pureW (.tup ws) = pureL ws := by simp only [pureW]
@[simp] theorem pure_lst (ws : List W) : pureW (.lst ws) = pureL ws := by simp only [pureW]
@[simp] theorem pure_dct (t ws) : pureW (.dct t ws) = false := by simp only [pureW]
@[simp] theorem pure_ref (k) : pureW (.ref k) = false := by simp only [pureW]
@[simp] theorem pureL_nil : pureL [] = true := by simp only [pureL]
@[simp] theorem pureL_cons (w : W) (r : List W) : pureL (w :: r) = (pureW w && pureL r) := by simp only [pureL]
@[simp] theorem scal_non : scalW .non = true := by simp only [scalW]
@[simp] theorem scal_bl (b : Bool) : scalW (.bl b) = true := by simp only [scalW]
@[simp] theorem scal_int (i : Int) : scalW (.int i) = true := by simp only [scalW]
@[simp] theorem scal_str (s : List Nat) : scalW (.str s) = true := by simp only [scalW]
@[simp] theorem scal_tup0 : scalW (.tup []) = true := by simp only [scalW]
@[simp] theorem scal_lst0 : scalW (.lst []) = true := by simp only [scalW]
@[simp] theorem eq_non_ (w : W) : eqW .non w = isNonW w := by cases w <;> simp only [eqW, isNonW]
@[simp] theorem isNon_non : isNonW .non = true := by simp only [isNonW]
@[simp] theorem isNon_bl (b : Bool) : isNonW (.bl b) = false := by simp only [isNonW]
@[simp] theorem isNon_int (b : Int) : isNonW (.int b) = false := by simp only [isNonW]
@[simp] theorem isNon_str (b : List Nat) : isNonW (.str b) = false := by simp only [isNonW]
@[simp] theorem isNon_tup (b : List W) : isNonW (.tup b) = false := by simp only [isNonW]
@[simp] theorem isNon_lst (b : List W) : isNonW (.lst b) = false := by simp only [isNonW]
@[simp] theorem eq_ii (a b : Int) : eqW (.int a) (.int b) = decide (a = b) := by simp only [eqW]
@[simp] theorem eq_ss (a b : List Nat) : eqW (.str a) (.str b) = decide (a = b) := by simp only [eqW]
@[simp] theorem eq_tt (a b : List W) : eqW (.tup a) (.tup b) = eqL a b := by simp only [eqW]
@[simp] theorem eq_ll (a b : List W) : eqW (.lst a) (.lst b) = eqL a b := by simp only [eqW]
@[simp] theorem eq_bb (a b : Bool) : eqW (.bl a) (.bl b) = (a == b) := by simp only [eqW]
@[simp] theorem eq_si (a : List Nat) (b : Int) : eqW (.str a) (.int b) = false := by simp only [eqW]
@[simp] theorem eq_sn (a : List Nat) : eqW (.str a) .non = false := by simp only [eqW]
@[simp] theorem eq_sb (a : List Nat) (b : Bool) : eqW (.str a) (.bl b) = false := by simp only [eqW]
@[simp] theorem eq_st (a : List Nat) (b : List W) : eqW (.str a) (.tup b) = false := by simp only [eqW]
@[simp] theorem eq_sl (a : List Nat) (b : List W) : eqW (.str a) (.lst b) = false := by simp only [eqW]
@[simp] theorem eqL_nn : eqL [] [] = true := by simp only [eqL]
@[simp] theorem eqL_nc (a : W) (r : List W) : eqL [] (a :: r) = false := by simp only [eqL]
@[simp] theorem eqL_cn (a : W) (r : List W) : eqL (a :: r) [] = false := by simp only [eqL]
@[simp] theorem eqL_cc (a b : W) (r s : List W) : eqL (a :: r) (b :: s) = (eqW a b && eqL r s) := by simp only [eqL]
@[simp] theorem inW_nil (x : W) : inW x [] = false := rfl
@[simp] theorem inW_cons (x y : W) (r : List W) : inW x (y :: r) = (eqW y x || inW x r) := rfl
@[simp] theorem dep_1 (x y : W) (h : scalW x = true) : depOk x y = true := by simp only [depOk, h, Bool.true_or]
@[simp] theorem dep_2 (x y : W) (h : scalW y = true) : depOk x y = true := by simp only [depOk, h, Bool.true_or, Bool.or_true]
@[simp] theorem cmp_eq (x y : W) (h : depOk x y = true) (hx : pureW x = true) (hy : pureW y = true) : cmpW .eq x y = some (eqW x y) := by simp only [cmpW, h, hx, hy, Bool.and_self, if_true]
@[simp] theorem cmp_ne (x y : W) (h : depOk x y = true) (hx : pureW x = true) (hy : pureW y = true) : cmpW .ne x y = some (!eqW x y) := by simp only [cmpW, h, hx, hy, Bool.and_self, if_true]
@[simp] theorem cmp_isn (x : W) : cmpW .isv x .non = some (isNonW x) := rfl
@[simp] theorem cmp_isb (x : W) (b : Bool) : cmpW .isv x (.bl b) = some (isBlW b x) := rfl
@[simp] theorem cmp_isntn (x : W) : cmpW .isnt x .non = some (!isNonW x) := rfl
@[simp] theorem cmp_isntb (x : W) (b : Bool) : cmpW .isnt x (.bl b) = some (!isBlW b x) := rfl
@[simp] theorem isBl_bl (a b : Bool) : isBlW b (.bl a) = (a == b) := rfl
@[simp] theorem cmp_in (x : W) (ws : List W) (h : scalW x = true) (hx : pureW x = true) (hy : pureL ws = true) : cmpW .isin x (.tup ws) = some (inW x ws) := by simp only [cmpW, h, hx, hy, Bool.and_self, Bool.true_or, if_true]
@[simp] theorem cmp_notin (x : W) (ws : List W) (h : scalW x = true) (hx : pureW x = true) (hy : pureL ws = true) : cmpW .notin x (.tup ws) = some (!inW x ws) := by simp only [cmpW, h, hx, hy, Bool.and_self, Bool.true_or, if_true]
@[simp] theorem cmp_inl (x : W) (ws : List W) (h : scalW x = true) (hx : pureW x = true) (hy : pureL ws = true) : cmpW .isin x (.lst ws) = some (inW x ws) := by simp only [cmpW, h, hx, hy, Bool.and_self, Bool.true_or, if_true]
@[simp] theorem cmp_notinl (x : W) (ws : List W) (h : scalW x = true) (hx : pureW x = true) (hy : pureL ws = true) : cmpW .notin x (.lst ws) = some (!inW x ws) := by simp only [cmpW, h, hx, hy, Bool.and_self, Bool.true_or, if_true]
@[simp] theorem cmp_le (a b : Int) : cmpW .le (.int a) (.int b) = some (decide (a ≤ b)) := rfl
@[simp] theorem cmp_ge (a b : Int) : cmpW .ge (.int a) (.int b) = some (decide (b ≤ a)) := rfl
@[simp] theorem cmp_lt (a b : Int) : cmpW .lt (.int a) (.int b) = some (decide (a < b)) := rfl
@[simp] theorem cmp_gt (a b : Int) : cmpW .gt (.int a) (.int b) = some (decide (b < a)) := rfl
@[simp] theorem bin_add (a b : Int) : binW .add (.int a) (.int b) = some (.int (a + b)) := rfl
@[simp] theorem bin_sub (a b : Int) : binW .sub (.int a) (.int b) = some (.int (a - b)) := rfl
@[simp] theorem bin_mul (a b : Int) (h : mulOk a b = true) : binW .mul (.int a) (.int b) = some (.int (a * b)) := by simp only [binW, h, if_true]
@[simp] theorem bin_fdiv (a b : Int) (h : divOk b = true) : binW .fdiv (.int a) (.int b) = some (.int (a / b)) := by simp only [binW, h, if_true]
@[simp] theorem bin_mod (a b : Int) (h : 0 < b) : binW .mod (.int a) (.int b) = some (.int (a % b)) := by simp only [binW, h, if_true]
@[simp] theorem bin_pow (a b : Int) (h : (decide (0 ≤ b) && (decide (b ≤ 1000) && decide (a.natAbs < 2 ^ 64))) = true) : binW .pow (.int a) (.int b) = some (.int (a ^ b.toNat)) := by simp only [binW, h, if_true]
@[simp] theorem bin_addt (a b : List W) (h : a.length + b.length ≤ big) : binW .add (.tup a) (.tup b) = some (.tup (a ++ b)) := by simp only [binW, h, if_true]
@[simp] theorem bin_addl (a b : List W) (h : a.length + b.length ≤ big) : binW .add (.lst a) (.lst b) = some (.lst (a ++ b)) := by simp only [binW, h, if_true]
@[simp] theorem op_len_t (ws : List W) : opW .len [.tup ws] = some (.int ws.length) := rfl
@[simp] theorem op_len_l (ws : List W) : opW .len [.lst ws] = some (.int ws.length) := rfl
@[simp] theorem op_isi (t : Ty) (w : W) (h : pureW w = true) : opW (.isi t) [w] = some (.bl (tyW t w)) := by
  cases w <;> first | rfl | (simp at h)
@[simp] theorem op_max2 (a b : Int) : opW .max2 [.int a, .int b] = some (.int (if b > a then b else a)) := rfl
@[simp] theorem op_min2 (a b : Int) : opW .min2 [.int a, .int b] = some (.int (if b < a then b else a)) := rfl
@[simp] theorem op_abs (a : Int) : opW .abs [.int a] = some (.int (if a < 0 then -a else a)) := rfl
@[simp] theorem op_int (a : Int) : opW .int [.int a] = some (.int a) := rfl
@[simp] theorem op_list_t (ws : List W) : opW .list [.tup ws] = some (.lst ws) := rfl
@[simp] theorem op_list_l (ws : List W) : opW .list [.lst ws] = some (.lst ws) := rfl
@[simp] theorem op_tuple_t (ws : List W) : opW .tuple [.tup ws] = some (.tup ws) := rfl
@[simp] theorem op_tuple_l (ws : List W) : opW .tuple [.lst ws] = some (.tup ws) := rfl
@[simp] theorem op_repr (w : W) : opW .repr [w] = reprW w := rfl
theorem boolsOf_map : ∀ l : List Bool, boolsOf (l.map W.bl) = some l
  | [] => rfl
  | b :: r => by simp [boolsOf, boolsOf_map r]
@[simp] theorem op_sum_l (l : List Int) : opW .sum [.lst (l.map W.int)] = some (.int l.sum) := by simp [opW, intsOf_map]
@[simp] theorem op_sum_t (l : List Int) : opW .sum [.tup (l.map W.int)] = some (.int l.sum) := by simp [opW, intsOf_map]
@[simp] theorem op_all (l : List Bool) : opW .all [.lst (l.map W.bl)] = some (.bl (l.all id)) := by simp [opW, boolsOf_map]
@[simp] theorem op_any (l : List Bool) : opW .any [.lst (l.map W.bl)] = some (.bl (l.any id)) := by simp [opW, boolsOf_map]
@[simp] theorem op_all_map {α : Type} (l : List α) (p : α → Bool) : opW .all [.lst (l.map fun x => .bl (p x))] = some (.bl (l.all p)) := by
  have e : l.map (fun x => W.bl (p x)) = (l.map p).map W.bl := by simp
  rw [e, op_all, List.all_map]; rfl
@[simp] theorem op_any_map {α : Type} (l : List α) (p : α → Bool) : opW .any [.lst (l.map fun x => .bl (p x))] = some (.bl (l.any p)) := by
  have e : l.map (fun x => W.bl (p x)) = (l.map p).map W.bl := by simp
  rw [e, op_any, List.any_map]; rfl
@[simp] theorem ty_ii (i : Int) : tyW .int (.int i) = true := rfl
@[simp] theorem ty_bi (i : Int) : tyW .bool (.int i) = false := rfl
@[simp] theorem ty_ss (s : List Nat) : tyW .str (.str s) = true := rfl
@[simp] theorem ty_tt (s : List W) : tyW .tuple (.tup s) = true := rfl
/-! comprehensions and loops that leave the heap -/
theorem stands_nr {ik : IK} {ws items : List W} (e : ws.any isRef = false) (h : WH) : stands ik ws items h = true := by
  unfold stands
  rw [e]
  rfl
theorem ev_comp_filt {c : Cal} {σ : Env} {h h0 : WH} {own : List Nat} {tg : Tg} {ik : IK} {es : List E} {cond elt : E} {ws items : List W} (g : W → W) (p : W → Bool) (e1 : evs c es σ h0 = .ok ws h) (e2 : itemsOf h ik ws = some items) (e3 : items.length ≤ big) (e4 : ws.any isRef = false)
    (hf : ∀ w ∈ items, ∃ σ', asgT h tg w (wipE σ own) = some σ' ∧ ev c cond σ' h = .ok (.bl (p w)) h ∧ (p w = true → ev c elt σ' h = .ok (g w) h)) : ev c (.comp own tg ik es cond elt) σ h0 = .ok (.lst ((items.filter p).map g)) h := by
  rw [ev_comp, e1]
  simp only [R.bind_ok, e2]
  rw [if_pos e3, compL_map (o := fun w => if p w = true then some (g w) else none) (stands_nr e4 h) items fun w m => ?_]
  · simp only [R.bind_ok]
    congr 2
    clear hf e2 e3
    induction items with
    | nil => rfl
    | cons w r ih => cases q : p w <;> simp [q, ih]
  · obtain ⟨σ', a1, a2, a3⟩ := hf w m
    rw [turnC_on a1, a2]
    cases q : p w with
    | false => simp
    | true => simp [a3 q]
theorem ev_comp_map {c : Cal} {σ : Env} {h h0 : WH} {own : List Nat} {tg : Tg} {ik : IK} {es : List E} {elt : E} {ws items : List W} (g : W → W) (e1 : evs c es σ h0 = .ok ws h) (e2 : itemsOf h ik ws = some items) (e3 : items.length ≤ big) (e4 : ws.any isRef = false)
    (hf : ∀ w ∈ items, ∃ σ', asgT h tg w (wipE σ own) = some σ' ∧ ev c elt σ' h = .ok (g w) h) : ev c (.comp own tg ik es (.k (.bl true)) elt) σ h0 = .ok (.lst (items.map g)) h := by
  have q := ev_comp_filt (c := c) (cond := .k (.bl true)) g (fun _ => true) e1 e2 e3 e4 fun w m => by
    obtain ⟨σ', a1, a2⟩ := hf w m
    exact ⟨σ', a1, by simp, fun _ => a2⟩
  rw [q, List.filter_eq_self.mpr fun _ _ => rfl]
@[simp] theorem items_seq_t (h : WH) (ws : List W) : itemsOf h .seq [.tup ws] = some ws := rfl
@[simp] theorem items_seq_l (h : WH) (ws : List W) : itemsOf h .seq [.lst ws] = some ws := rfl
@[simp] theorem items_zip_tt (h : WH) (a b : List W) : itemsOf h .zip [.tup a, .tup b] = some (zipL a b) := rfl
@[simp] theorem items_zip_tl (h : WH) (a b : List W) : itemsOf h .zip [.tup a, .lst b] = some (zipL a b) := rfl
@[simp] theorem items_zip_lt (h : WH) (a b : List W) : itemsOf h .zip [.lst a, .tup b] = some (zipL a b) := rfl
@[simp] theorem items_zip_ll (h : WH) (a b : List W) : itemsOf h .zip [.lst a, .lst b] = some (zipL a b) := rfl
@[simp] theorem items_enum_t (h : WH) (a : List W) : itemsOf h .enum [.tup a] = some (enumL 0 a) := rfl
@[simp] theorem items_enum_l (h : WH) (a : List W) : itemsOf h .enum [.lst a] = some (enumL 0 a) := rfl
theorem pureL_mem {ws : List W} (h : pureL ws = true) : ∀ w ∈ ws, pureW w = true := by
  induction ws with
  | nil => intro w m; simp at m
  | cons x r ih =>
    simp only [pureL, Bool.and_eq_true] at h
    intro w m
    rcases List.mem_cons.mp m with e | m
    · rw [e]; exact h.1
    · exact ih h.2 w m
theorem zipL_map {α : Type} (f g : α → W) : ∀ l : List α, zipL (l.map f) (l.map g) = l.map fun x => .tup [f x, g x]
  | [] => rfl
  | x :: r => by simp [zipL, zipL_map f g r]
theorem zipL_zip : ∀ (a b : List W), zipL a b = (a.zip b).map fun p => .tup [p.1, p.2]
  | [], b => by simp [zipL]
  | x :: a, [] => by simp [zipL]
  | x :: a, y :: b => by simp [zipL, zipL_zip a b]
end Y

namespace Gp
open Y Tx
/-! whole numbers, tuples -/
def isW : W → Int → Int → Bool
  | .int v, a, b => decide (a ≤ v) && decide (v ≤ b)
  | _, _, _ => false
def isT : W → Int → Int → Bool
  | .tup ws, a, b => decide (a ≤ ws.length) && decide ((ws.length : Int) ≤ b)
  | _, _, _ => false
theorem r_is_whole (n : Nat) (v : W) (a b : Int) (h : WH) (hv : pureW v = true) : run tx (n + 1) 3 [v, .int a, .int b] h = .ok (.bl (isW v a b)) h := by
  rw [run_succ e_is_whole rfl]
  cases v with
  | int v => by_cases h1 : a ≤ v <;> by_cases h2 : v ≤ b <;> simp [d_is_whole, startE, getV, opW, tyW, cmpW, h1, h2, isW]
  | dct ws => simp [pureW] at hv
  | ref k => simp [pureW] at hv
  | _ => simp [d_is_whole, startE, getV, opW, tyW, cmpW, isW]
theorem r_is_tuple (n : Nat) (v : W) (a b : Int) (h : WH) (hv : pureW v = true) : run tx (n + 1) 4 [v, .int a, .int b] h = .ok (.bl (isT v a b)) h := by
  rw [run_succ e_is_tuple_of rfl]
  cases v with
  | tup ws => by_cases h1 : a ≤ ws.length <;> by_cases h2 : (ws.length : Int) ≤ b <;> simp [d_is_tuple_of, startE, getV, opW, tyW, cmpW, h1, h2, isT]
  | dct ws => simp [pureW] at hv
  | ref k => simp [pureW] at hv
  | _ => simp [d_is_tuple_of, startE, getV, opW, tyW, cmpW, isT]
theorem c_is_whole (n : Nat) (v : W) (a b : Int) (h : WH) (hv : pureW v = true) : callM (cal tx (n + 1)) .pure 3 [v, .int a, .int b] h = .ok (.bl (isW v a b)) h :=
  call_pure (by simp [pureL, pureW, hv]) (r_is_whole n v a b [] hv) rfl
theorem c_is_tuple (n : Nat) (v : W) (a b : Int) (h : WH) (hv : pureW v = true) : callM (cal tx (n + 1)) .pure 4 [v, .int a, .int b] h = .ok (.bl (isT v a b)) h :=
  call_pure (by simp [pureL, pureW, hv]) (r_is_tuple n v a b [] hv) rfl
theorem r_need (n : Nat) (v : W) (a b : Int) (h : WH) (hv : pureW v = true) : run tx (n + 2) 24 [v, .int a, .int b] h = if isW v a b then .ok .non h else .exc 22 [] h := by
  rw [run_succ e_need_number rfl]
  cases q : isW v a b <;> simp [d_need_number, startE, getV, c_is_whole, hv, q]
def sF : W := .str [102, 105, 120, 101, 100]
def sS : W := .str [115, 104, 97, 114, 101]
/-- one withholding -/
def okH : W → Bool
  | .tup [p, w, o, t] => isW p 0 9 && ((decide (w = sF) && isW o 0 1000000000000 || decide (w = sS) && isW o 0 10000) && (isNonW t || isW t 0 1000000000000000))
  | _ => false
theorem pure4 {a b c d : W} (h : pureW (.tup [a, b, c, d]) = true) : pureW a = true ∧ pureW b = true ∧ pureW c = true ∧ pureW d = true := by
  simp only [pureW, pureL, Bool.and_eq_true] at h
  exact ⟨h.1, h.2.1, h.2.2.1, h.2.2.2.1⟩
theorem okH_four {ws : List W} (h : isT (.tup ws) 4 4 = true) : ∃ p w o t, ws = [p, w, o, t] := by
  simp only [isT, Bool.and_eq_true, decide_eq_true_eq] at h
  match ws, h with
  | [p, w, o, t], _ => exact ⟨p, w, o, t, rfl⟩
  | [], h => simp at h
  | [_], h => simp at h
  | [_, _], h => simp at h
  | [_, _, _], h => simp at h
  | _ :: _ :: _ :: _ :: _ :: r, h => simp at h; omega
theorem okH_no {v : W} (h : isT v 4 4 = false) : okH v = false := by
  unfold okH
  split
  · simp [isT] at h
  · rfl
theorem r_fits1 (n : Nat) (v : W) (h : WH) (hv : pureW v = true) : run tx (n + 2) 10 [v] h = .ok (.bl (okH v)) h := by
  rw [run_succ e_fits_withholding rfl]
  cases q : isT v 4 4 with
  | false =>
    rw [okH_no q]
    simp [d_fits_withholding, startE, getV, c_is_tuple, hv, q]
  | true =>
    cases v with
    | tup ws =>
      obtain ⟨p, w, o, t, rfl⟩ := okH_four q
      obtain ⟨h1, h2, h3, h4⟩ := pure4 hv
      have cP : tx.con 6 = some (.int 10) := rfl
      have cA : tx.con 7 = some (.int 1000000000000) := rfl
      have cS : tx.con 8 = some (.int 10000) := rfl
      have cT : tx.con 9 = some (.int 1000000000000000) := rfl
      have s1 : binW .sub (.int 10) (.int 1) = some (.int 9) := rfl
      cases q0 : isW p 0 9 with
      | false => simp [d_fits_withholding, startE, getV, c_is_tuple, c_is_whole, hv, q, h1, cP, s1, q0, okH]
      | true =>
        cases w with
        | str s =>
          by_cases f1 : s = [102, 105, 120, 101, 100]
          · subst f1
            cases q1 : isW o 0 1000000000000 <;> cases tn : isNonW t <;> simp [d_fits_withholding, startE, c_is_tuple, c_is_whole, hv, q, h1, h3, cP, cA, q0, q1, okH, sF, sS, h4, cT, tn]
          · by_cases f2 : s = [115, 104, 97, 114, 101]
            · subst f2
              cases q1 : isW o 0 10000 <;> cases tn : isNonW t <;> simp [d_fits_withholding, startE, c_is_tuple, c_is_whole, hv, q, h1, h3, cP, cS, q0, q1, okH, sF, sS, h4, cT, tn]
            · simp [d_fits_withholding, startE, c_is_tuple, c_is_whole, hv, q, h1, cP, q0, okH, sF, sS, f1, f2, Ne.symm f1, Ne.symm f2]
        | dct ws => simp [pureW] at h2
        | ref k => simp [pureW] at h2
        | _ => simp [d_fits_withholding, startE, getV, c_is_tuple, c_is_whole, hv, q, h1, cP, s1, q0, okH, opW, tyW, sF, sS]
    | _ => simp [isT] at q
def okHs : W → Bool
  | .tup ws => decide (ws.length ≤ 8) && ws.all okH
  | _ => false
theorem c_fits1 (n : Nat) (v : W) (h : WH) (hv : pureW v = true) : callM (cal tx (n + 2)) .pure 10 [v] h = .ok (.bl (okH v)) h :=
  call_pure (by simp [hv]) (r_fits1 n v [] hv) (by simp)
theorem r_fits (n : Nat) (v : W) (h : WH) (hv : pureW v = true) : run tx (n + 3) 11 [v] h = .ok (.bl (okHs v)) h := by
  rw [run_succ e_fits_withholdings rfl]
  have cM : tx.con 5 = some (.int 8) := rfl
  cases v with
  | tup ws =>
    by_cases h8 : ws.length ≤ 8
    · have e8 : isT (.tup ws) 0 8 = true := by simp only [isT, Bool.and_eq_true, decide_eq_true_eq]; omega
      have ec := ev_comp_map (c := cal tx (n + 2)) (σ := [some (.tup ws), none]) (h := h) (h0 := h) (own := [1]) (tg := .v 1) (ik := .seq) (es := [(.v 0)]) (elt := .call .pure 10 [(.v 1)]) (items := ws) (ws := [.tup ws]) (fun w => .bl (okH w)) (by simp) rfl (by unfold big; omega) rfl fun w m => by
        refine ⟨[some (.tup ws), some w], by simp, ?_⟩
        simp [c_fits1, pureL_mem (by simpa using hv) w m]
      simp [d_fits_withholdings, startE, c_is_tuple, hv, e8, cM, ec, okHs, h8]
    · have e8 : isT (.tup ws) 0 8 = false := by simp only [isT, Bool.and_eq_false_iff, decide_eq_false_iff_not]; omega
      simp [d_fits_withholdings, startE, c_is_tuple, hv, e8, cM, okHs, h8]
  | dct ws => simp at hv
  | ref k => simp at hv
  | lst ws => simp [d_fits_withholdings, startE, c_is_tuple, hv, isT, cM, okHs]
  | _ => simp [d_fits_withholdings, startE, c_is_tuple, hv, isT, cM, okHs]
end Gp

namespace Y
@[simp] theorem view_r0 (ws : List W) (t : WH) : view (.lst ws :: t) (.ref 0) = .lst ws := rfl
@[simp] theorem view_r1 (o : O) (ws : List W) (t : WH) : view (o :: .lst ws :: t) (.ref 1) = .lst ws := rfl
@[simp] theorem view_r2 (o o1 : O) (ws : List W) (t : WH) : view (o :: o1 :: .lst ws :: t) (.ref 2) = .lst ws := rfl
/-! comprehensions and loops over typed items -/
def cM {α : Type} (ck : WH → Bool) (f : α → WH → R (Option W)) : List α → WH → R (List W)
  | [], h => if ck h then .ok [] h else .bad
  | w :: r, h => if ck h then (match f w h with
    | .ok o h1 => (match cM ck f r h1 with
      | .ok ys h2 => .ok (match o with | some y => y :: ys | none => ys) h2
      | _ => .bad)
    | _ => .bad) else .bad
@[simp] theorem compL_cM {α : Type} (ck : WH → Bool) (f : W → WH → R (Option W)) (e : α → W) : ∀ (l : List α) (h : WH), compL ck f (l.map e) h = cM ck (fun x h => f (e x) h) l h
  | [], h => rfl
  | x :: r, h => by
    simp only [List.map_cons, compL, cM, compL_cM ck f e r]
    all_goals
      split
      · cases f (e x) h with
        | ok o h1 =>
          simp only
          cases cM ck (fun x h => f (e x) h) r h1 with
          | ok ys h2 => cases o <;> rfl
          | _ => rfl
        | _ => rfl
      · rfl
@[simp] theorem compL_none (ck : WH → Bool) (f : W → WH → R (Option W)) (h : WH) (hck : ck h = true) : compL ck f [] h = .ok [] h := by
  simp only [compL, hck, if_true]
theorem cM_of {α : Type} {ck : WH → Bool} {h : WH} {f : α → WH → R (Option W)} (o : α → Option W) (hck : ck h = true) : ∀ l : List α, (∀ x ∈ l, f x h = .ok (o x) h) → cM ck f l h = .ok (l.filterMap o) h
  | [], _ => by simp only [cM, hck, if_true, List.filterMap_nil]
  | x :: r, hf => by
    simp only [cM, hck, if_true, hf x (by simp), cM_of o hck r fun y m => hf y (List.mem_cons_of_mem _ m)]
    cases e : o x <;> simp [e]
@[simp] theorem cM_ok {α : Type} (ck : WH → Bool) (h : WH) (o : α → Option W) (l : List α) (hck : ck h = true) : cM ck (fun x h => .ok (o x) h) l h = .ok (l.filterMap o) h := cM_of o hck l fun _ _ => rfl
@[simp] theorem items_rng1 (h : WH) (n : Int) (hs : smallI n = true) : itemsOf h .rng1 [.int n] = some (rngL 0 n.toNat) := by simp only [itemsOf, hs, if_true]
@[simp] theorem items_rng2 (h : WH) (a b : Int) (hs : smallI a = true) (hs2 : smallI b = true) : itemsOf h .rng2 [.int a, .int b] = some (rngL a (b - a).toNat) := by simp only [itemsOf, hs, hs2, Bool.and_self, if_true]
theorem ite_ok {α : Type} (c : Prop) [Decidable c] (a b : α) (h : WH) : (if c then R.ok a h else R.ok b h) = R.ok (if c then a else b) h := by split <;> rfl
theorem ite_int (c : Prop) [Decidable c] (a b : Int) : (if c then W.int a else W.int b) = W.int (if c then a else b) := by split <;> rfl
@[simp] theorem fm_some {α β : Type} (g : α → β) (l : List α) : l.filterMap (fun x => some (g x)) = l.map g := by
  induction l with
  | nil => rfl
  | cons x r ih => simp
@[simp] theorem fm_none {α β : Type} (l : List α) : l.filterMap (fun _ => (none : Option β)) = [] := by
  induction l with
  | nil => rfl
  | cons x r ih => simp [ih]
@[simp] theorem fm_ite {α β : Type} (p : α → Bool) (g : α → β) (l : List α) : l.filterMap (fun x => if p x = true then some (g x) else none) = (l.filter p).map g := by
  induction l with
  | nil => rfl
  | cons x r ih => cases q : p x <;> simp [q, ih]
@[simp] theorem fm_iteP {α β : Type} (p : α → Prop) [DecidablePred p] (g : α → β) (l : List α) : l.filterMap (fun x => if p x then some (g x) else none) = (l.filter fun x => decide (p x)).map g := by
  induction l with
  | nil => rfl
  | cons x r ih => by_cases q : p x <;> simp [q, ih]
@[simp] theorem zipL_mm {α β : Type} (f : α → W) (g : β → W) : ∀ (a : List α) (b : List β), zipL (a.map f) (b.map g) = (a.zip b).map fun p => .tup [f p.1, g p.2]
  | [], b => by simp [zipL]
  | x :: a, [] => by simp [zipL]
  | x :: a, y :: b => by simp [zipL, zipL_mm f g a b]
@[simp] theorem enumL_m {α : Type} (f : α → W) : ∀ (a : List α) (n : Nat), enumL n (a.map f) = (a.zipIdx n).map fun p => .tup [.int p.2, f p.1]
  | [], n => rfl
  | x :: a, n => by simp [enumL, enumL_m f a (n + 1)]
@[simp] theorem zipL_len' : ∀ (a b : List W), (zipL a b).length = min a.length b.length
  | [], b => by simp [zipL]
  | x :: a, [] => by simp [zipL]
  | x :: a, y :: b => by simp [zipL, zipL_len' a b]
@[simp] theorem enumL_len' : ∀ (a : List W) (n : Nat), (enumL n a).length = a.length
  | [], n => rfl
  | x :: a, n => by simp [enumL, enumL_len' a (n + 1)]
@[simp] theorem stands_any (ik : IK) (ws items : List W) (h : WH) (e : ws.any isRef = false) : stands ik ws items h = true := stands_nr e h
@[simp] theorem isRef_tup (ws : List W) : isRef (.tup ws) = false := by simp only [isRef]
@[simp] theorem isRef_lst (ws : List W) : isRef (.lst ws) = false := by simp only [isRef]
@[simp] theorem isRef_int (i : Int) : isRef (.int i) = false := by simp only [isRef]
@[simp] theorem isRef_str (i : List Nat) : isRef (.str i) = false := by simp only [isRef]
@[simp] theorem op_sum_map {α : Type} (f : α → Int) (l : List α) : opW .sum [.lst (l.map fun x => .int (f x))] = some (.int (l.map f).sum) := by
  have e : l.map (fun x => W.int (f x)) = (l.map f).map W.int := by simp
  rw [e, op_sum_l]
@[simp] theorem op_sum_mapt {α : Type} (f : α → Int) (l : List α) : opW .sum [.tup (l.map fun x => .int (f x))] = some (.int (l.map f).sum) := by
  have e : l.map (fun x => W.int (f x)) = (l.map f).map W.int := by simp
  rw [e, op_sum_t]
theorem pureL_map {α : Type} (e : α → W) (l : List α) (h : ∀ x ∈ l, pureW (e x) = true) : pureL (l.map e) = true := by
  induction l with
  | nil => rfl
  | cons x r ih =>
    simp only [List.map_cons, pureL_cons, h x (by simp), ih fun y m => h y (List.mem_cons_of_mem _ m), Bool.and_self]
theorem depL_map {α : Type} (e : α → W) (n : Nat) (l : List α) (h : ∀ x ∈ l, depW (e x) ≤ n) : depL (l.map e) ≤ n := by
  induction l with
  | nil => simp [depL]
  | cons x r ih =>
    simp only [List.map_cons, depL]
    have h1 := h x (by simp)
    have h2 := ih fun y m => h y (List.mem_cons_of_mem _ m)
    omega
theorem okSL_map {α : Type} (e : α → W) (l : List α) (h : ∀ x ∈ l, okS (e x) = true) : okSL (l.map e) = true := by
  induction l with
  | nil => rfl
  | cons x r ih => simp only [List.map_cons, okSL, h x (by simp), ih fun y m => h y (List.mem_cons_of_mem _ m), Bool.and_self]
theorem rzL_map {α : Type} (e : α → W) (n : Nat) (l : List α) (h : ∀ x ∈ l, rz (e x) ≤ n) : rzL (l.map e) ≤ (n + 2) * l.length := by
  induction l with
  | nil => simp [rzL]
  | cons x r ih =>
    have h1 := h x (by simp)
    have h2 := ih fun y m => h y (List.mem_cons_of_mem _ m)
    simp only [List.map_cons, rzL, List.length_cons, Nat.mul_add, Nat.mul_one]
    omega
/-- a for whose state is told by what is done -/
theorem forL_pre {α : Type} {ck : WH → Bool} {wip : List Nat} {f : W → Env → WH → Fl} {e : α → W} (sg : List α → Env) (hg : List α → WH) (hck : ∀ d, ck (hg d) = true) :
    ∀ (l d : List α) (σ : Env) (h : WH), wipE σ wip = sg d → h = hg d → (∀ a x b, d ++ l = a ++ x :: b → ∃ σ', f (e x) (sg a) (hg a) = .nx σ' (hg (a ++ [x])) ∧ wipE σ' wip = sg (a ++ [x])) → forL ck wip f (l.map e) σ h = .nx (sg (d ++ l)) (hg (d ++ l))
  | [], d, σ, h, e1, e2, _ => by
    subst e2
    unfold forL
    simp only [List.map_nil, hck, if_true, e1, List.append_nil]
  | x :: r, d, σ, h, e1, e2, hs => by
    subst e2
    obtain ⟨σ', a1, a2⟩ := hs d x r rfl
    unfold forL
    simp only [List.map_cons, hck, if_true, e1, a1]
    have q := forL_pre sg hg hck r (d ++ [x]) σ' _ a2 rfl fun a y b eq => hs a y b (by simpa using eq)
    simpa using q
theorem forL_run {α : Type} {ck : WH → Bool} {wip : List Nat} {f : W → Env → WH → Fl} {e : α → W} {l : List α} {σ : Env} {h : WH} (sg : List α → Env) (hg : List α → WH) (hck : ∀ d, ck (hg d) = true) (e1 : wipE σ wip = sg []) (e2 : h = hg [])
    (hs : ∀ a x b, l = a ++ x :: b → ∃ σ', f (e x) (sg a) (hg a) = .nx σ' (hg (a ++ [x])) ∧ wipE σ' wip = sg (a ++ [x])) : forL ck wip f (l.map e) σ h = .nx (sg l) (hg l) := by
  have := forL_pre (ck := ck) sg hg hck l [] σ h e1 e2 (fun a x b q => hs a x b (by simpa using q))
  simpa using this
/-- a for that may be left -/
theorem forL_find {α : Type} {ck : WH → Bool} {wip : List Nat} {f : W → Env → WH → Fl} {e : α → W} {σ0 : Env} {h : WH} (out : α → Option W) (hck : ck h = true) : ∀ (l : List α) (σ : Env), wipE σ wip = σ0 → (∀ x ∈ l, (out x = none → ∃ σ', f (e x) σ0 h = .nx σ' h ∧ wipE σ' wip = σ0) ∧ ∀ w, out x = some w → f (e x) σ0 h = .rt w h) →
    forL ck wip f (l.map e) σ h = match l.findSome? out with
      | some w => .rt w h
      | none => .nx σ0 h
  | [], σ, e1, _ => by
    unfold forL
    simp only [List.map_nil, hck, if_true, e1, List.findSome?_nil]
  | x :: r, σ, e1, hs => by
    unfold forL
    simp only [List.map_cons, hck, if_true, e1, List.findSome?_cons]
    obtain ⟨a1, a2⟩ := hs x (by simp)
    cases q : out x with
    | none =>
      obtain ⟨σ', b1, b2⟩ := a1 q
      simp only [b1]
      exact forL_find out hck r σ' b2 fun y m => hs y (List.mem_cons_of_mem _ m)
    | some w => simp only [a2 w q]
/-- a while of so many turns -/
theorem whlL_run {c : Env → WH → R W} {f : Env → WH → Fl} {wip : List Nat} (sg : Nat → Env) (hg : Nat → WH) (k : Nat) (hc : ∀ i, i < k → c (sg i) (hg i) = .ok (.bl true) (hg i)) (hk : c (sg k) (hg k) = .ok (.bl false) (hg k))
    (hf : ∀ i, i < k → ∃ σ', f (sg i) (hg i) = .nx σ' (hg (i + 1)) ∧ wipE σ' wip = sg (i + 1)) : ∀ (j i n : Nat), i + j = k → j < n → whlL c f wip n (sg i) (hg i) = .nx (sg k) (hg k)
  | 0, i, n, e, hn => by
    obtain ⟨n, rfl⟩ : ∃ m, n = m + 1 := ⟨n - 1, by omega⟩
    have : i = k := by omega
    subst this
    unfold whlL
    rw [hk]
    rfl
  | j + 1, i, n, e, hn => by
    obtain ⟨n, rfl⟩ : ∃ m, n = m + 1 := ⟨n - 1, by omega⟩
    obtain ⟨σ', a1, a2⟩ := hf i (by omega)
    unfold whlL
    rw [hc i (by omega)]
    simp only [R.flow_ok, a1, a2]
    exact whlL_run sg hg k hc hk hf j (i + 1) n (by omega) (by omega)
theorem exs_app (c : Cal) : ∀ (a b : List S) (σ : Env) (h : WH), exs c (a ++ b) σ h = (exs c a σ h).seq fun σ h => exs c b σ h
  | [], b, σ, h => by simp
  | s :: a, b, σ, h => by
    simp only [List.cons_append, exs_cons]
    cases exe c s σ h <;> simp [exs_app c a b]
/-- the first k statements, then the others -/
theorem Fo_split {c : Cal} {body : List S} {σ : Env} {h : WH} {n : Env → WH → Prop} {r : W → WH → Prop} (k : Nat) (g : Fo (exs c (body.take k) σ h) (fun σ h => Fo (exs c (body.drop k) σ h) n r) r) : Fo (exs c body σ h) n r := by
  rw [← List.take_append_drop k body, exs_app, Fo_seq]
  exact g
/-- a for by a word about how many turns are done -/
theorem Fo_rep {ck : WH → Bool} {wip : List Nat} {f : W → Env → WH → Fl} {n : Env → WH → Prop} {r : W → WH → Prop} (I : Nat → Env → WH → Prop) (items : List W) (σ : Env) (h : WH) (hck : ∀ j σ h, I j σ h → ck h = true) (i0 : I 0 (wipE σ wip) h)
    (hs : ∀ j w σ h, j < items.length → items[j]? = some w → I j σ h → Fo (f w σ h) (fun σ' h' => I (j + 1) (wipE σ' wip) h') r) (hd : ∀ σ h, I items.length σ h → n σ h) : Fo (forL ck wip f items σ h) n r := by
  refine Fo_forL (fun d σ h => I d.length σ h) (fun d σ h i => hck _ σ h i) items [] σ h i0 (fun a w b σ h e i => ?_) (fun σ h i => hd σ h (by simpa using i))
  have e : items = a ++ w :: b := by simpa using e
  have := hs a.length w σ h (by rw [e]; simp) (by rw [e]; simp) i
  simpa using this
theorem call_of {T : Tx} {n : Nat} {f : Nm} {ws : List W} {h h' : WH} {w v : W} (hp : pureL ws = true) (e : run T n f ws [] = .ok w h') (hw : frz h' (h'.length + 8) w = some v) : callM (cal T n) .pure f ws h = .ok v h := by
  simp only [callM, cal_run, hp, Bool.true_or, if_true, e, hw, opt_some]
@[simp] theorem frz_pure (h : WH) (n : Nat) (w : W) (hw : pureW w = true) : frz h (n + 1) w = some w := by
  unfold frz
  rw [if_pos (by rw [hw]; rfl)]
theorem frz_vW (h : WH) (n : Nat) (w : W) (hw : vW w = true) : frz h (n + 1) w = some w := by
  unfold frz
  rw [if_pos (by rw [hw, Bool.or_true])]
theorem call_vL {T : Tx} {n : Nat} {f : Nm} {ws : List W} {h h' : WH} {w v : W} (hp : vL ws = true) (e : run T n f ws [] = .ok w h') (hw : frz h' (h'.length + 8) w = some v) : callM (cal T n) .pure f ws h = .ok v h := by
  simp only [callM, cal_run, hp, Bool.or_true, if_true, e, hw, opt_some]
theorem frz_lst {h : WH} {n k : Nat} {ws : List W} (e : h[k]? = some (.lst ws)) (hp : pureL ws = true) : frz h (n + 2) (.ref k) = some (.lst ws) := by
  unfold frz
  rw [if_neg (by simp [vW])]
  simp only [e]
  have q : ∀ l : List W, pureL l = true → l.mapM (frz h (n + 1)) = some l := by
    intro l
    induction l with
    | nil => intro _; rfl
    | cons x r ih =>
      intro hp
      simp only [pureL_cons, Bool.and_eq_true] at hp
      rw [List.mapM_cons, frz_pure h n x hp.1, ih hp.2]
      rfl
  rw [q ws hp]
  rfl
@[simp] theorem exe_try (c : Cal) (σ : Env) (h : WH) (body : List S) (b : Option Nat) (hs : List (Nm × HE)) : exe c (.tryS body b hs) σ h = (match exs c body σ h with
    | .exc x fs h' => (match hfind c x hs with
      | some he => (match heV c x he with
        | some w => .rt w h'
        | none => .bad)
      | none => .exc x fs h')
    | r => r) := by simp only [exe] <;> rfl
@[simp] theorem cal_sub (T : Tx) (n : Nat) : (cal T n).sub = T.sub := rfl
@[simp] theorem ev_app (c : Cal) (σ : Env) (h : WH) (o e : E) : ev c (.app o e) σ h = (ev c o σ h).bind fun x h => match x with
    | .ref k => (match h[k]? with
      | some (.lst _) => (ev c e σ h).bind fun w h => (match h[k]? with
        | some (.lst xs) => if xs.length < big then .ok .non (h.set k (.lst (xs ++ [w]))) else .bad
        | _ => .bad)
      | _ => .bad)
    | _ => .bad := by simp only [ev] <;> rfl
@[simp] theorem ev_pop (c : Cal) (σ : Env) (h : WH) (o : E) : ev c (.pop o) σ h = (ev c o σ h).bind fun x h => match x with
    | .ref k => (match h[k]? with
      | some (.lst xs) => (match lastRest xs with
        | some (w, r) => .ok w (h.set k (.lst r))
        | none => .bad)
      | _ => .bad)
    | _ => .bad := by simp only [ev] <;> rfl
@[simp] theorem pure_ints (l : List Int) : pureL (l.map W.int) = true := pureL_ints l
@[simp] theorem pure_bls (l : List Bool) : pureL (l.map W.bl) = true := pureL_map _ _ fun _ _ => by simp
theorem idx_lt {α : Type} {l : List α} {d r : List (α × Nat)} {p : α × Nat} (e : l.zipIdx = d ++ p :: r) : p.2 < l.length ∧ d.length = p.2 ∧ l[p.2]? = some p.1 := by
  have h1 : p.1 ∈ l ∧ l.zipIdx[d.length]? = some p := ⟨List.fst_mem_of_mem_zipIdx (by rw [e]; simp), by rw [e]; simp⟩
  have h2 := h1.2
  rw [List.getElem?_zipIdx] at h2
  simp only [Option.map_eq_some_iff] at h2
  obtain ⟨x, h3, h4⟩ := h2
  have h5 : p.2 = d.length := by rw [← h4]; simp
  have h6 : p.1 = x := by rw [← h4]
  rw [h5, h6]
  exact ⟨(List.getElem?_eq_some_iff.mp h3).1, rfl, h3⟩
/-! the cup, whatever its number -/
def dRoll : Df := ⟨2, 4, [(.ite (.cmp .gt (.ix (.v 0) (.k (.int 0))) (.k (.int 0))) [(.asg (.v 2) (.bin .mod (.op .int [(.ix (.v 0) (.k (.int 0)))]) (.v 1))), (.sub (.v 0) (.k (.int 0)) (.bin .fdiv (.ix (.v 0) (.k (.int 0))) (.v 1))), (.ret (.v 2))] []), (.sub (.v 0) (.k (.int 1)) (.bin .mod (.op .int [(.bin .add (.bin .mul (.ix (.v 0) (.k (.int 1))) (.k (.int 31139))) (.k (.int 8087)))]) (.k (.int 2147483269)))), (.asg (.v 3) (.bin .mod (.op .int [(.bin .mul (.ix (.v 0) (.k (.int 1))) (.bin .add (.ix (.v 0) (.k (.int 1))) (.k (.int 277))))]) (.k (.int 2147483587)))), (.ret (.bin .mod (.op .int [(.bin .fdiv (.v 3) (.k (.int 877)))]) (.v 1)))]⟩
def dSome (i : Nm) : Df := ⟨2, 2, [(.ret (.ix (.v 1) (.call .heap i [(.v 0), (.op .len [(.v 1)])])))]⟩
def dCup : Df := ⟨1, 2, [(.asg (.v 1) (.op .abs [(.ix (.bin .add (.op .list [(.v 0)]) (.lst [(.k (.int 0))])) (.k (.int 0)))])), (.ret (.thaw (.lst [(.ife (.cmp .ge (.v 1) (.bin .pow (.k (.int 10)) (.k (.int 18)))) (.bin .fdiv (.v 1) (.k (.int 107))) (.k (.int 0))), (.bin .add (.bin .mod (.op .int [(.bin .add (.bin .mul (.v 1) (.k (.int 337))) (.k (.int 3511)))]) (.k (.int 2077503019))) (.k (.int 211)))])))]⟩
def CupB (b : Int) : Prop := 0 ≤ b ∧ b < 2 ^ 40
def cupH (a b : Int) (t : WH) : WH := .lst [.int a, .int b] :: t
/-- the cup stands first, behind it t -/
def Icup (t h : WH) : Prop := ∃ a b, CupB b ∧ h = cupH a b t
section
variable {T : Tx} {iR iS iC : Nm}
theorem sp_roll (eR : T.df iR = some dRoll) (n : Nat) (a b many : Int) (t : WH) (hb : CupB b) (h1 : 0 < many) (h2 : many < 2 ^ 90) : ∃ r a' b', run T (n + 1) iR [.ref 0, .int many] (cupH a b t) = .ok (.int r) (cupH a' b' t) ∧ 0 ≤ r ∧ r < many ∧ CupB b' := by
  rw [run_succ eR rfl]
  have hd : divOk many = true := divOk_small h1 (by omega)
  by_cases ha : 0 < a
  · refine ⟨a % many, a / many, b, ?_, Int.emod_nonneg _ (by omega), Int.emod_lt_of_pos _ h1, hb⟩
    simp [dRoll, startE, getV, opW, cmpW, ltW, ha, cupH, view, ixW, atI, ixN, binW, h1, hd, finF]
  · have m1 : mulOk b 31139 = true := mulOk_small (by have := hb.1; have := hb.2; omega) (by decide)
    have c1 : CupB ((b * 31139 + 8087) % 2147483269) := ⟨Int.emod_nonneg _ (by decide), Int.lt_trans (Int.emod_lt_of_pos _ (by decide)) (by decide)⟩
    generalize hq : (b * 31139 + 8087) % 2147483269 = q at c1
    have m2 : mulOk q (q + 277) = true := mulOk_small (by have := c1.1; have := c1.2; omega) (by have := c1.1; have := c1.2; omega)
    have d2 : divOk 877 = true := by decide
    refine ⟨q * (q + 277) % 2147483587 / 877 % many, a, q, ?_, Int.emod_nonneg _ (by omega), Int.emod_lt_of_pos _ h1, c1⟩
    simp [dRoll, startE, getV, opW, cmpW, ltW, ha, cupH, view, ixW, atI, ixN, binW, m1, hq, m2, d2, h1, finF]
theorem sp_some (eR : T.df iR = some dRoll) (eS : T.df iS = some (dSome iR)) (n : Nat) (ws : List W) (a b : Int) (t : WH) (hb : CupB b) (h1 : ws ≠ []) (h2 : ws.length ≤ 1000) : ∃ w, w ∈ ws ∧ ∃ a' b', CupB b' ∧ run T (n + 2) iS [.ref 0, .lst ws] (cupH a b t) = .ok w (cupH a' b' t) := by
  have hpos : 0 < ws.length := List.length_pos_iff.mpr h1
  obtain ⟨r, a', b', e, r1, r2, hb'⟩ := sp_roll eR n a b ws.length t hb (by omega) (by omega)
  have hr : r.toNat < ws.length := by omega
  refine ⟨ws[r.toNat], List.getElem_mem hr, a', b', hb', ?_⟩
  rw [run_succ eS rfl]
  have er : ((r.toNat : Nat) : Int) = r := by omega
  have ea : atI ws r = some ws[r.toNat] := by
    have q := atI_nat ws r.toNat hr
    rw [er] at q
    rw [q]; simp [hr]
  simp [dSome, startE, getV, opW, callM, e, ixW, ea, finF]
theorem sp_cup (eC : T.df iC = some dCup) (n : Nat) (ns : List Int) (h : WH) (hl : ns.length ≤ 63) (hb : ∀ z ∈ ns, z.natAbs.log2 < 2000000) : ∃ a b, CupB b ∧ run T (n + 1) iC [.lst (ns.map W.int)] h = .ok (.ref h.length) (h ++ [.lst [.int a, .int b]]) := by
  rw [run_succ eC rfl]
  obtain ⟨c0, e0, hc⟩ : ∃ c0 : Int, (ns.map W.int ++ [W.int 0])[0]? = some (.int c0) ∧ c0.natAbs.log2 < 2000000 := by
    cases ns with
    | nil => exact ⟨0, rfl, by decide⟩
    | cons z r => exact ⟨z, rfl, hb z (by simp)⟩
  have ea : atI (ns.map W.int ++ [W.int 0]) 0 = some (.int c0) := by
    have := atI_nat (ns.map W.int ++ [W.int 0]) 0 (by simp)
    rw [e0] at this
    exact this
  have hbig : ns.length + 1 ≤ big := by
    have : big = 16777216 := rfl
    omega
  generalize hcell : (if c0 < 0 then -c0 else c0) = cell
  have hcl : cell.natAbs.log2 < 2000000 := by
    have : cell.natAbs = c0.natAbs := by rw [← hcell]; split <;> simp
    rw [this]; exact hc
  have m1 : mulOk cell 337 = true := by
    have : (337 : Int).natAbs.log2 = 8 := by decide
    unfold mulOk
    rw [this]
    simp only [decide_eq_true_eq]
    omega
  have q : CupB ((cell * 337 + 3511) % 2077503019 + 211) := by
    have h1 := Int.emod_nonneg (cell * 337 + 3511) (show (2077503019 : Int) ≠ 0 by decide)
    have h2 := Int.emod_lt_of_pos (cell * 337 + 3511) (show (0 : Int) < 2077503019 by decide)
    exact ⟨by omega, by omega⟩
  have d1 : divOk 107 = true := by decide
  by_cases hge : (1000000000000000000 : Int) ≤ cell
  · refine ⟨cell / 107, _, q, ?_⟩
    simp [dCup, startE, getV, opW, view, binW, hbig, ixW, ea, hcell, cmpW, hge, m1, d1, finF]
  · refine ⟨0, _, q, ?_⟩
    simp [dCup, startE, getV, opW, view, binW, hbig, ixW, ea, hcell, cmpW, hge, m1, d1, finF]
/-- the law's first line -/
theorem cup_start (eC : T.df iC = some dCup) (n : Nat) (ns : List Int) (hl : ns.length ≤ 63) (hb : ∀ z ∈ ns, PySem.Builtin.Int.intBits z ≤ 1048576) : ∃ h, callM (cal T (n + 1)) .own iC [.lst (ns.map W.int)] [] = .ok (.ref 0) h ∧ Icup [] h := by
  have hb2 : ∀ z ∈ ns, z.natAbs.log2 < 2000000 := fun z m => by
    have h1 := hb z m
    unfold PySem.Builtin.Int.intBits at h1
    split at h1
    · rename_i q
      have : z.natAbs = 0 := by simpa using q
      rw [this]; decide
    · omega
  obtain ⟨a, b, hcb, ecup⟩ := sp_cup eC n ns [] hl hb2
  exact ⟨cupH a b [], by simp [callM, pureL, pureW, pureL_ints, ecup, cupH], a, b, hcb, rfl⟩
theorem Ok_roll (eR : T.df iR = some dRoll) {n : Nat} {many : Int} {t h : WH} {Q : W → WH → Prop} (h1 : 0 < many) (h2 : many < 2 ^ 90) (i : Icup t h) (k : ∀ r h', 0 ≤ r → r < many → Icup t h' → Q (.int r) h') : Ok (callM (cal T (n + 1)) .heap iR [.ref 0, .int many] h) Q := by
  obtain ⟨a, b, hb, rfl⟩ := i
  obtain ⟨r, a', b', e, r1, r2, hb'⟩ := sp_roll eR n a b many t hb h1 h2
  exact Ok.of e (k r _ r1 r2 ⟨a', b', hb', rfl⟩)
theorem Ok_some (eR : T.df iR = some dRoll) (eS : T.df iS = some (dSome iR)) {n : Nat} {ws : List W} {t h : WH} {Q : W → WH → Prop} (P : W → Prop) (h1 : ws ≠ []) (h2 : ws.length ≤ 1000) (i : Icup t h) (p : ∀ w ∈ ws, P w) (k : ∀ w h', P w → Icup t h' → Q w h') : Ok (callM (cal T (n + 2)) .heap iS [.ref 0, .lst ws] h) Q := by
  obtain ⟨a, b, hb, rfl⟩ := i
  obtain ⟨w, m, a', b', hb', e⟩ := sp_some eR eS n ws a b t hb h1 h2
  exact Ok.of e (k w _ (p w m) ⟨a', b', hb', rfl⟩)
end
end Y

namespace Ru
open Y Tx Gp
/-! expressions and tests, rules -/
abbrev isI (l : List Int) : List W := l.map W.int
abbrev Nme := List Nat
inductive Rw where
  | name | fact | last | year
  deriving DecidableEq
inductive O2 where
  | plus | minus | times | min | max
  deriving DecidableEq
inductive C3 where
  | below | most | same
  deriving DecidableEq
inductive J2 where
  | and | or
  deriving DecidableEq
def Rw.s : Rw → Nme
  | .name => [110, 97, 109, 101] | .fact => [102, 97, 99, 116] | .last => [108, 97, 115, 116] | .year => [121, 101, 97, 114]
def O2.s : O2 → Nme
  | .plus => [112, 108, 117, 115] | .minus => [109, 105, 110, 117, 115] | .times => [116, 105, 109, 101, 115] | .min => [109, 105, 110] | .max => [109, 97, 120]
def C3.s : C3 → Nme
  | .below => [98, 101, 108, 111, 119] | .most => [109, 111, 115, 116] | .same => [115, 97, 109, 101]
def J2.s : J2 → Nme
  | .and => [97, 110, 100] | .or => [111, 114]
@[simp] theorem Rw.s1 : Rw.name.s = [110, 97, 109, 101] := by simp only [Rw.s]
@[simp] theorem Rw.s2 : Rw.fact.s = [102, 97, 99, 116] := by simp only [Rw.s]
@[simp] theorem Rw.s3 : Rw.last.s = [108, 97, 115, 116] := by simp only [Rw.s]
@[simp] theorem Rw.s4 : Rw.year.s = [121, 101, 97, 114] := by simp only [Rw.s]
@[simp] theorem O2.s1 : O2.plus.s = [112, 108, 117, 115] := by simp only [O2.s]
@[simp] theorem O2.s2 : O2.minus.s = [109, 105, 110, 117, 115] := by simp only [O2.s]
@[simp] theorem O2.s3 : O2.times.s = [116, 105, 109, 101, 115] := by simp only [O2.s]
@[simp] theorem O2.s4 : O2.min.s = [109, 105, 110] := by simp only [O2.s]
@[simp] theorem O2.s5 : O2.max.s = [109, 97, 120] := by simp only [O2.s]
@[simp] theorem C3.s1 : C3.below.s = [98, 101, 108, 111, 119] := by simp only [C3.s]
@[simp] theorem C3.s2 : C3.most.s = [109, 111, 115, 116] := by simp only [C3.s]
@[simp] theorem C3.s3 : C3.same.s = [115, 97, 109, 101] := by simp only [C3.s]
@[simp] theorem J2.s1 : J2.and.s = [97, 110, 100] := by simp only [J2.s]
@[simp] theorem J2.s2 : J2.or.s = [111, 114] := by simp only [J2.s]
inductive X where
  | num (n : Int) | mon | ref (w : Rw) (s : Nme) | neg (a : X) | two (o : O2) (a b : X) | part (a b c : X)
  | bands (a : X) (ls rs : List Int) | ite (t a b : X) | cmp (o : C3) (a b : X) | not (a : X) | join (o : J2) (a b : X)
  deriving DecidableEq
@[simp] def X.enc : X → W
  | .num n => .tup [.str [110, 117, 109], .int n]
  | .mon => .tup [.str [109, 111, 110, 116, 104]]
  | .ref w s => .tup [.str w.s, .str s]
  | .neg a => .tup [.str [110, 101, 103], a.enc]
  | .two o a b => .tup [.str o.s, a.enc, b.enc]
  | .part a b c => .tup [.str [112, 97, 114, 116], a.enc, b.enc, c.enc]
  | .bands a ls rs => .tup [.str [98, 97, 110, 100, 115], a.enc, .tup (isI ls), .tup (isI rs)]
  | .ite t a b => .tup [.str [105, 102], t.enc, a.enc, b.enc]
  | .cmp o a b => .tup [.str o.s, a.enc, b.enc]
  | .not a => .tup [.str [110, 111, 116], a.enc]
  | .join o a b => .tup [.str o.s, a.enc, b.enc]
def X.kids : X → List (X × Bool)
  | .num _ => [] | .mon => [] | .ref _ _ => []
  | .neg a => [(a, false)]
  | .two _ a b => [(a, false), (b, false)]
  | .part a b c => [(a, false), (b, false), (c, false)]
  | .bands a _ _ => [(a, false)]
  | .ite t a b => [(t, true), (a, false), (b, false)]
  | .cmp _ a b => [(a, false), (b, false)]
  | .not a => [(a, true)]
  | .join _ a b => [(a, true), (b, true)]
def X.isT : X → Bool
  | .cmp _ _ _ => true | .not _ => true | .join _ _ _ => true | _ => false
def letters : List Nat := [97, 98, 99, 100, 101, 102, 103, 104, 105, 106, 107, 108, 109, 110, 111, 112, 113, 114, 115, 116, 117, 118, 119, 120, 121, 122]
def nmOk (s : Nme) : Bool := decide (1 ≤ s.length) && (decide (s.length ≤ 8) && s.all fun c => decide (c ∈ letters))
def bandsOk (ls rs : List Int) : Bool := decide (ls.length ≤ 4) && (ls.all (fun l => decide (1 ≤ l) && decide (l ≤ 999999999)) && ((ls.zip (ls.drop 1)).all (fun p => decide (p.1 < p.2)) && (decide (rs.length = ls.length + 1) && rs.all (fun r => decide (0 ≤ r) && decide (r ≤ 10000)))))
/-- a node's own part -/
def X.own : X → Bool
  | .num n => decide (0 ≤ n) && decide (n ≤ 999999999)
  | .ref _ s => nmOk s
  | .bands _ ls rs => bandsOk ls rs
  | _ => true
def X.wf : X → Bool → Bool
  | .num n, t => !t && (X.num n).own
  | .mon, t => !t
  | .ref w s, t => !t && (X.ref w s).own
  | .neg a, t => !t && a.wf false
  | .two _ a b, t => !t && (a.wf false && b.wf false)
  | .part a b c, t => !t && (a.wf false && (b.wf false && c.wf false))
  | .bands a ls rs, t => !t && ((X.bands a ls rs).own && a.wf false)
  | .ite u a b, t => !t && (u.wf true && (a.wf false && b.wf false))
  | .cmp _ a b, t => t && (a.wf false && b.wf false)
  | .not a, t => t && a.wf true
  | .join _ a b, t => t && (a.wf true && b.wf true)
def X.size : X → Nat
  | .num _ => 1 | .mon => 1 | .ref _ _ => 1
  | .neg a => a.size + 1
  | .two _ a b => a.size + b.size + 1
  | .part a b c => a.size + b.size + c.size + 1
  | .bands a _ _ => a.size + 1
  | .ite t a b => t.size + a.size + b.size + 1
  | .cmp _ a b => a.size + b.size + 1
  | .not a => a.size + 1
  | .join _ a b => a.size + b.size + 1
def X.high : X → Nat
  | .num _ => 1 | .mon => 1 | .ref _ _ => 1
  | .neg a => a.high + 1
  | .two _ a b => max a.high b.high + 1
  | .part a b c => max a.high (max b.high c.high) + 1
  | .bands a _ _ => a.high + 1
  | .ite t a b => max t.high (max a.high b.high) + 1
  | .cmp _ a b => max a.high b.high + 1
  | .not a => a.high + 1
  | .join _ a b => max a.high b.high + 1
/-- the names in order, each behind its word -/
def X.refs : X → List (Rw × Nme)
  | .num _ => [] | .mon => []
  | .ref w s => [(w, s)]
  | .neg a => a.refs
  | .two _ a b => a.refs ++ b.refs
  | .part a b c => a.refs ++ (b.refs ++ c.refs)
  | .bands a _ _ => a.refs
  | .ite t a b => t.refs ++ (a.refs ++ b.refs)
  | .cmp _ a b => a.refs ++ b.refs
  | .not a => a.refs
  | .join _ a b => a.refs ++ b.refs
/-- all parts, itself first -/
def X.pre : X → List X
  | .num n => [.num n] | .mon => [.mon] | .ref w s => [.ref w s]
  | .neg a => .neg a :: a.pre
  | .two o a b => .two o a b :: (a.pre ++ b.pre)
  | .part a b c => .part a b c :: (a.pre ++ (b.pre ++ c.pre))
  | .bands a ls rs => .bands a ls rs :: a.pre
  | .ite t a b => .ite t a b :: (t.pre ++ (a.pre ++ b.pre))
  | .cmp o a b => .cmp o a b :: (a.pre ++ b.pre)
  | .not a => .not a :: a.pre
  | .join o a b => .join o a b :: (a.pre ++ b.pre)
theorem X.pre_kids (x : X) : x.pre = x :: x.kids.flatMap fun p => p.1.pre := by
  cases x <;> simp [X.pre, X.kids]
theorem X.size_pre : ∀ x : X, x.pre.length = x.size
  | .num _ => rfl | .mon => rfl | .ref _ _ => rfl
  | .neg a => by simp [X.pre, X.size, a.size_pre]
  | .two o a b => by simp [X.pre, X.size, a.size_pre, b.size_pre]
  | .part a b c => by simp [X.pre, X.size, a.size_pre, b.size_pre, c.size_pre]; omega
  | .bands a ls rs => by simp [X.pre, X.size, a.size_pre]
  | .ite t a b => by simp [X.pre, X.size, t.size_pre, a.size_pre, b.size_pre]; omega
  | .cmp o a b => by simp [X.pre, X.size, a.size_pre, b.size_pre]
  | .not a => by simp [X.pre, X.size, a.size_pre]
  | .join o a b => by simp [X.pre, X.size, a.size_pre, b.size_pre]
theorem X.enc_pure : ∀ x : X, pureW x.enc = true
  | .num _ => rfl | .mon => rfl | .ref _ _ => rfl
  | .neg a => by simp [X.enc, a.enc_pure]
  | .two o a b => by simp [X.enc, a.enc_pure, b.enc_pure]
  | .part a b c => by simp [X.enc, a.enc_pure, b.enc_pure, c.enc_pure]
  | .bands a ls rs => by simp [X.enc, a.enc_pure]
  | .ite t a b => by simp [X.enc, t.enc_pure, a.enc_pure, b.enc_pure]
  | .cmp o a b => by simp [X.enc, a.enc_pure, b.enc_pure]
  | .not a => by simp [X.enc, a.enc_pure]
  | .join o a b => by simp [X.enc, a.enc_pure, b.enc_pure]
theorem depL_isI : ∀ l : List Int, depL (isI l) = 0 := depL_ints
theorem X.enc_dep : ∀ x : X, depW x.enc ≤ x.high + 1
  | .num _ => by simp [X.enc, depW, depL, X.high]
  | .mon => by simp [X.enc, depW, depL, X.high]
  | .ref _ _ => by simp [X.enc, depW, depL, X.high]
  | .neg a => by have := a.enc_dep; simp [X.enc, depW, depL, X.high]; omega
  | .two o a b => by have := a.enc_dep; have := b.enc_dep; simp [X.enc, depW, depL, X.high]; omega
  | .part a b c => by have := a.enc_dep; have := b.enc_dep; have := c.enc_dep; simp [X.enc, depW, depL, X.high]; omega
  | .bands a ls rs => by have := a.enc_dep; simp [X.enc, depW, depL, X.high, depL_isI]; omega
  | .ite t a b => by have := t.enc_dep; have := a.enc_dep; have := b.enc_dep; simp [X.enc, depW, depL, X.high]; omega
  | .cmp o a b => by have := a.enc_dep; have := b.enc_dep; simp [X.enc, depW, depL, X.high]; omega
  | .not a => by have := a.enc_dep; simp [X.enc, depW, depL, X.high]; omega
  | .join o a b => by have := a.enc_dep; have := b.enc_dep; simp [X.enc, depW, depL, X.high]; omega
/-! names -/
def nmW : W → Bool
  | .str s => nmOk s
  | _ => false
def shortS : W → Bool
  | .str s => decide (s.length ≤ big)
  | _ => true
theorem r_is_name (n : Nat) (v : W) (h : WH) (hv : pureW v = true) (hs : shortS v = true) : run tx (n + 1) 76 [v] h = .ok (.bl (nmW v)) h := by
  rw [run_succ e_is_name rfl]
  cases v with
  | str s =>
    have cN : tx.con 62 = some (.int 8) := rfl
    have cL : tx.con 63 = some (.str letters) := rfl
    have hs : s.length ≤ big := by simpa [shortS] using hs
    have hb : (s.map fun c => W.str [c]).length ≤ big := by simpa using hs
    have el : opW .len [.str s] = some (.int s.length) := by simp only [opW, hs, if_true]
    have ec : ∀ h, ev (cal tx n) (.comp [1] (.v 1) .seq [(.v 0)] (.k (.bl true)) (.cmp .isin (.v 1) (.g 63))) [some (.str s), none] h = .ok (.lst (s.map fun c => .bl (decide (c ∈ letters)))) h := fun h => by
      have it : itemsOf h .seq [.str s] = some (s.map fun c => .str [c]) := rfl
      simp [ev_comp, it, hs]
      rw [cM_of (o := fun c => some (.bl (decide (c ∈ letters)))) (stands_any _ _ _ _ (by simp))]
      · simp
      · intro c _
        simp [turnC, cL, cmpW, inS]
    by_cases h1 : 1 ≤ s.length
    · by_cases h2 : s.length ≤ 8
      · have h1' : (1 : Int) ≤ s.length := by omega
        have h2' : (s.length : Int) ≤ 8 := by omega
        simp [d_is_name, startE, el, h1', h2', cN, ec, nmW, nmOk, h1, h2]
      · have h1' : (1 : Int) ≤ s.length := by omega
        have h2' : ¬ (s.length : Int) ≤ 8 := by omega
        simp [d_is_name, startE, el, h1', h2', cN, nmW, nmOk, h2]
    · have h1' : ¬ (1 : Int) ≤ s.length := by omega
      simp [d_is_name, startE, el, h1', nmW, nmOk, h1]
  | dct ws => simp at hv
  | ref k => simp at hv
  | _ => simp [d_is_name, startE, opW, tyW, nmW]
theorem c_is_name (n : Nat) (v : W) (h : WH) (hv : pureW v = true) (hs : shortS v = true) : callM (cal tx (n + 1)) .pure 76 [v] h = .ok (.bl (nmW v)) h := call_pure (by simp [hv]) (r_is_name n v [] hv hs) (by simp)
theorem nmOk_short {s : Nme} (h : nmOk s = true) : s.length ≤ big := by
  simp only [nmOk, Bool.and_eq_true, decide_eq_true_eq] at h
  unfold big
  omega
theorem c_name (n : Nat) (s : Nme) (h : WH) (hs : nmOk s = true) : callM (cal tx (n + 1)) .pure 76 [.str s] h = .ok (.bl true) h := by
  rw [c_is_name n _ h (by simp) (by simp [shortS, nmOk_short hs])]
  simp [nmW, hs]
/-! bands -/
theorem cut1 {α : Type} (xs : List α) : cutL xs (some 1) none = xs.drop 1 := by
  unfold cutL sIx
  cases xs with
  | nil => simp
  | cons x r =>
    have : min 1 (r.length + 1) = 1 := by omega
    simp [this]
theorem c_bands (n : Nat) (ls rs : List Int) (h : WH) (hk : bandsOk ls rs = true) : callM (cal tx (n + 2)) .pure 77 [.tup (isI ls), .tup (isI rs)] h = .ok (.bl true) h := by
  refine call_pure (h' := []) (by simp) ?_ (by simp)
  simp only [bandsOk, Bool.and_eq_true, decide_eq_true_eq, List.all_eq_true] at hk
  obtain ⟨k1, k2, k3, k4, k5⟩ := hk
  have cL : tx.con 68 = some (.int 4) := rfl
  have cN : tx.con 64 = some (.int 999999999) := rfl
  have cR : tx.con 69 = some (.int 10000) := rfl
  have b1 : ls.length ≤ big := by unfold big; omega
  have b2 : rs.length ≤ big := by unfold big; omega
  have t1 : isT (.tup (isI ls)) 0 4 = true := by simp [isT]; omega
  have t2 : isT (.tup (isI rs)) ((ls.length : Int) + 1) ((ls.length : Int) + 1) = true := by simp [isT, k4]
  have e1 : ∀ x3 x4 x5 h, ev (cal tx (n + 1)) (.comp [2] (.v 2) .seq [(.v 0)] (.k (.bl true)) (.call .pure 3 [(.v 2), (.k (.int 1)), (.g 64)])) [some (.tup (isI ls)), some (.tup (isI rs)), x3, x4, x5] h = .ok (.lst (ls.map fun _ => .bl true)) h := fun x3 x4 x5 h => by
    simp [ev_comp, b1]
    rw [cM_of (o := fun _ => some (.bl true)) (stands_any _ _ _ _ (by simp))]
    · simp
    · intro x m
      have q : isW (.int x) 1 999999999 = true := by have := k2 x m; simp [isW, this]
      simp [turnC, cN, c_is_whole, q]
  have e2 : ∀ x3 x4 x5 h, ev (cal tx (n + 1)) (.comp [2, 3] (.t [(.v 2), (.v 3)]) .zip [(.v 0), (.sl (.v 0) (.k (.int 1)) (.k .non))] (.k (.bl true)) (.cmp .lt (.v 2) (.v 3))) [some (.tup (isI ls)), some (.tup (isI rs)), x3, x4, x5] h = .ok (.lst ((ls.zip (ls.drop 1)).map fun _ => .bl true)) h := fun x3 x4 x5 h => by
    have b3 : ((ls.zip (ls.drop 1)).length) ≤ big := by simp; omega
    have es : slW (.tup (isI ls)) (some 1) none = some (.tup (isI (ls.drop 1))) := by simp only [slW, cut1, List.map_drop]
    have it : itemsOf h .zip [.tup (isI ls), .tup (isI (ls.drop 1))] = some ((ls.zip (ls.drop 1)).map fun p => .tup [.int p.1, .int p.2]) := by simp only [items_zip_tt, zipL_mm]
    rw [ev_comp]
    simp only [evs_cons', ev_v, getV_zero, R.bind_ok, ev_sl, ev_k, view_tup, partI, es, opt_some, evs_nil']
    rw [it]
    simp only [List.length_map]
    rw [if_pos b3, compL_cM, cM_of (o := fun _ => some (.bl true)) (stands_any _ _ _ _ (by simp))]
    · simp
    · intro x m
      have := k3 x m
      simp [turnC, this]
  have e3 : ∀ x3 x4 x5 h, ev (cal tx (n + 1)) (.comp [2] (.v 2) .seq [(.v 1)] (.k (.bl true)) (.call .pure 3 [(.v 2), (.k (.int 0)), (.g 69)])) [some (.tup (isI ls)), some (.tup (isI rs)), x3, x4, x5] h = .ok (.lst (rs.map fun _ => .bl true)) h := fun x3 x4 x5 h => by
    simp [ev_comp, b2]
    rw [cM_of (o := fun _ => some (.bl true)) (stands_any _ _ _ _ (by simp))]
    · simp
    · intro x m
      have q : isW (.int x) 0 10000 = true := by have := k5 x m; simp [isW, this]
      simp [turnC, cR, c_is_whole, q]
  have ea : ∀ {α : Type} (l : List α), opW .all [.lst (l.map fun _ => W.bl true)] = some (.bl true) := fun l => by
    rw [op_all_map l fun _ => true]
    simp
  rw [run_succ e_fits_bands rfl]
  simp [d_fits_bands, startE, c_is_tuple, cL, t1, e1, e2, e3, ea, t2]
/-! what lies within -/
def pairW (p : X × Bool) : W := .tup [p.1.enc, .bl p.2]
theorem c_inner (n : Nat) (x : X) (h : WH) (hw : x.own = true) : callM (cal tx (n + 3)) .pure 78 [x.enc, .bl x.isT] h = .ok (.lst (x.kids.map pairW)) h := by
  refine call_pure (h' := []) (by simp [X.enc_pure]) ?_ (by simp [pureL_map, pairW, X.enc_pure])
  rw [run_succ e_inner_of rfl]
  have c72 : tx.con 72 = some (.tup [(.str [110, 97, 109, 101]), (.str [102, 97, 99, 116]), (.str [108, 97, 115, 116]), (.str [121, 101, 97, 114])]) := rfl
  have c73 : tx.con 73 = some (.tup [(.str [112, 108, 117, 115]), (.str [109, 105, 110, 117, 115]), (.str [116, 105, 109, 101, 115]), (.str [109, 105, 110]), (.str [109, 97, 120])]) := rfl
  have c74 : tx.con 74 = some (.tup [(.str [98, 101, 108, 111, 119]), (.str [109, 111, 115, 116]), (.str [115, 97, 109, 101])]) := rfl
  have c75 : tx.con 75 = some (.tup [(.str [97, 110, 100]), (.str [111, 114])]) := rfl
  have c64 : tx.con 64 = some (.int 999999999) := rfl
  have hp := X.enc_pure
  have sl : ∀ w r, slW (.tup (w :: r)) (some 1) none = some (.tup r) := fun w r => by simp only [slW, cut1, List.drop_succ_cons, List.drop_zero]
  have t4 : ∀ a, isT (.tup [a]) 1 4 = true ∧ ∀ b, isT (.tup [a, b]) 1 4 = true ∧ ∀ c, isT (.tup [a, b, c]) 1 4 = true ∧ ∀ d, isT (.tup [a, b, c, d]) 1 4 = true := fun a => by simp [isT]
  have t1 := fun a => (t4 a).1
  have t2 := fun a b => ((t4 a).2 b).1
  have t3 := fun a b c => (((t4 a).2 b).2 c).1
  have t5 := fun a b c d => (((t4 a).2 b).2 c).2 d
  have sIc : ∀ (w : W) (σ : Env) (b : Bool), ∀ r : List W, r.length ≤ 10 → ev (cal tx (n + 2)) (.comp [4] (.v 4) .seq [(.v 3)] (.k (.bl true)) (.tup [(.v 4), (.k (.bl b))])) [some w, some (.bl x.isT), σ.getD 0 none, some (.tup r), none] [] = .ok (.lst (r.map fun w => .tup [w, .bl b])) [] := fun w σ b r hr => by
    have hb : r.length ≤ big := by unfold big; omega
    rw [ev_comp_map (h := []) (fun w => .tup [w, .bl b]) (items := r) (ws := [.tup r]) (by simp) rfl hb rfl fun w m => ⟨_, rfl, by simp⟩]
  cases x with
  | num v =>
    simp only [X.own, Bool.and_eq_true, decide_eq_true_eq] at hw
    have q : isW (.int v) 0 999999999 = true := by simp [isW, hw]
    simp [d_inner_of, startE, c_is_tuple, hp, t2, X.isT, setP, partI, sl, X.kids, c64, c_is_whole, q]
  | mon => simp [d_inner_of, startE, c_is_tuple, hp, t1, X.isT, setP, partI, sl, X.kids, c72]
  | ref w s =>
    simp only [X.own] at hw
    cases w <;> simp [d_inner_of, startE, c_is_tuple, hp, t2, X.isT, setP, partI, sl, X.kids, c72, c_name, hw]
  | neg a =>
    have e := sIc (X.neg a).enc [some (.str [110, 101, 103])] false [a.enc] (by simp)
    simp only [X.enc, List.getD_cons_zero, X.isT] at e
    simp [d_inner_of, startE, c_is_tuple, hp, t2, X.isT, setP, partI, sl, X.kids, c72, c73, e, pairW]
  | two o a b =>
    have e := sIc (X.two o a b).enc [some (.str o.s)] false [a.enc, b.enc] (by simp)
    simp only [X.enc, List.getD_cons_zero, X.isT] at e
    cases o <;> simp only [O2.s] at e <;> simp [d_inner_of, startE, c_is_tuple, hp, t3, X.isT, setP, partI, sl, X.kids, c72, c73, e, pairW]
  | part a b c =>
    have e := sIc (X.part a b c).enc [some (.str [112, 97, 114, 116])] false [a.enc, b.enc, c.enc] (by simp)
    simp only [X.enc, List.getD_cons_zero, X.isT] at e
    simp [d_inner_of, startE, c_is_tuple, hp, t5, X.isT, setP, partI, sl, X.kids, c72, c73, e, pairW]
  | bands a ls rs =>
    simp only [X.own] at hw
    simp [d_inner_of, startE, c_is_tuple, hp, t5, X.isT, setP, partI, sl, X.kids, c72, c73, c_bands _ ls rs _ hw, pairW]
  | ite t a b => simp [d_inner_of, startE, c_is_tuple, hp, t5, X.isT, setP, partI, sl, X.kids, c72, c73, pairW]
  | cmp o a b =>
    have e := sIc (X.cmp o a b).enc [some (.str o.s)] false [a.enc, b.enc] (by simp)
    simp only [X.enc, List.getD_cons_zero, X.isT] at e
    cases o <;> simp only [C3.s] at e <;> simp [d_inner_of, startE, c_is_tuple, hp, t3, X.isT, setP, partI, sl, X.kids, c74, e, pairW]
  | not a =>
    have e := sIc (X.not a).enc [some (.str [110, 111, 116])] true [a.enc] (by simp)
    simp only [X.enc, List.getD_cons_zero, X.isT] at e
    simp [d_inner_of, startE, c_is_tuple, hp, t2, X.isT, setP, partI, sl, X.kids, c74, c75, e, pairW]
  | join o a b =>
    have e := sIc (X.join o a b).enc [some (.str o.s)] true [a.enc, b.enc] (by simp)
    simp only [X.enc, List.getD_cons_zero, X.isT] at e
    cases o <;> simp only [J2.s] at e <;> simp [d_inner_of, startE, c_is_tuple, hp, t3, X.isT, setP, partI, sl, X.kids, c74, c75, e, pairW]
end Ru

namespace Y
/-- a while over a typed state -/
theorem whlL_fix {S : Type} {c : Env → WH → R W} {f : Env → WH → Fl} {wip : List Nat} (e : S → Env) (hp : S → WH) (go : S → Bool) (nx : S → S) (μ : S → Nat) (I : S → Prop)
    (hc : ∀ s, I s → c (e s) (hp s) = .ok (.bl (go s)) (hp s))
    (hf : ∀ s, I s → go s = true → I (nx s) ∧ μ (nx s) < μ s ∧ ∃ σ', f (e s) (hp s) = .nx σ' (hp (nx s)) ∧ wipE σ' wip = e (nx s)) :
    ∀ (n : Nat) (s : S), I s → μ s < n → ∃ s', I s' ∧ go s' = false ∧ whlL c f wip n (e s) (hp s) = .nx (e s') (hp s')
  | 0, s, _, h => absurd h (Nat.not_lt_zero _)
  | n + 1, s, i, h => by
    cases g : go s with
    | false =>
      refine ⟨s, i, g, ?_⟩
      unfold whlL
      rw [hc s i, g]
      rfl
    | true =>
      obtain ⟨i2, m2, σ', a1, a2⟩ := hf s i g
      obtain ⟨s', b1, b2, b3⟩ := whlL_fix e hp go nx μ I hc hf n (nx s) i2 (by omega)
      refine ⟨s', b1, b2, ?_⟩
      unfold whlL
      rw [hc s i, g]
      simp only [R.flow_ok, a1, a2]
      exact b3
@[simp] theorem exe_whl (c : Cal) (σ : Env) (h : WH) (n : Nat) (t : E) (wip : List Nat) (body : List S) : exe c (.whl n t wip body) σ h = whlL (ev c t) (exs c body) wip n σ h := by simp only [exe] <;> rfl
@[simp] theorem exe_aug (c : Cal) (σ : Env) (h : WH) (i : Nat) (o : BO) (e : E) : exe c (.aug i o e) σ h = (getV σ i h).flow fun x h => (ev c e σ h).flow fun y h => match x with
    | .ref k => (match h[k]?, view h y with
      | some (.lst xs), .lst ys => if xs.length + ys.length ≤ big then .nx σ (h.set k (.lst (xs ++ ys))) else .bad
      | _, _ => .bad)
    | _ => .bad := by simp only [exe] <;> rfl
@[simp] theorem exe_pass (c : Cal) (σ : Env) (h : WH) : exe c .pass σ h = .nx σ h := by simp only [exe] <;> rfl
@[simp] theorem exe_brk (c : Cal) (σ : Env) (h : WH) : exe c .brk σ h = .bk σ h := by simp only [exe] <;> rfl
theorem lastRest_app (ws : List W) (w : W) : lastRest (ws ++ [w]) = some (w, ws) := by simp [lastRest]
theorem app_ne_nil {α : Type} (ws : List α) (w : α) : ws ++ [w] ≠ [] := by simp
/-- pure data without truth values: == is = -/
def nbW : W → Bool
  | .non => true
  | .int _ => true
  | .str _ => true
  | .tup ws => nbL ws
  | _ => false
where nbL : List W → Bool
  | [] => true
  | w :: r => nbW w && nbL r
mutual
theorem eqW_nb : ∀ a b : W, nbW a = true → nbW b = true → eqW a b = decide (a = b)
  | .non, b, _, h => by cases b <;> simp_all [nbW, eqW]
  | .int _, b, _, h => by cases b <;> simp_all [nbW, eqW]
  | .str _, b, _, h => by cases b <;> simp_all [nbW, eqW]
  | .tup xs, b, h1, h => by
    cases b with
    | tup ys =>
      simp only [nbW] at h1 h
      simp only [eqW, W.tup.injEq]
      exact eqL_nb xs ys h1 h
    | _ => simp_all [nbW, eqW]
  | .bl _, _, h, _ => by simp [nbW] at h
  | .lst _, _, h, _ => by simp [nbW] at h
  | .dct _ _, _, h, _ => by simp [nbW] at h
  | .ref _, _, h, _ => by simp [nbW] at h
theorem eqL_nb : ∀ a b : List W, nbW.nbL a = true → nbW.nbL b = true → eqL a b = decide (a = b)
  | [], [], _, _ => by simp [eqL]
  | [], _ :: _, _, _ => by simp [eqL]
  | _ :: _, [], _, _ => by simp [eqL]
  | x :: r, y :: s, h1, h2 => by
    simp only [nbW.nbL, Bool.and_eq_true] at h1 h2
    simp only [eqL, eqW_nb x y h1.1 h2.1, eqL_nb r s h1.2 h2.2, List.cons.injEq]
    by_cases q : x = y <;> by_cases q2 : r = s <;> simp [q, q2]
end
end Y

namespace Ru
open Y Tx Gp
/-! expressions that fit -/
structure LS where
  st : List (X × Bool × Int)
  many : Int
def szS (st : List (X × Bool × Int)) : Nat := (st.map fun p => p.1.size).sum
def itW (p : X × Bool × Int) : W := .tup [p.1.enc, .bl p.2.1, .int p.2.2]
def nxt (s : LS) : LS := match s.st.getLast? with
  | some (x, _, d) => ⟨s.st.dropLast ++ x.kids.map (fun p => (p.1, p.2, d + 1)), s.many + 1⟩
  | none => s
theorem wf_own {x : X} {t : Bool} (h : x.wf t = true) : x.own = true ∧ x.isT = t := by
  cases x <;> simp_all [X.wf, X.own, X.isT]
theorem wf_kids {x : X} {t : Bool} (h : x.wf t = true) : ∀ p ∈ x.kids, p.1.wf p.2 = true := by
  cases x <;> simp_all [X.wf, X.kids]
theorem size_kids (x : X) : x.size = (x.kids.map fun p => p.1.size).sum + 1 := by
  cases x <;> simp [X.size, X.kids] <;> omega
theorem high_kids {x : X} : ∀ p ∈ x.kids, p.1.high + 1 ≤ x.high := by
  cases x <;> simp [X.high, X.kids] <;> omega
theorem high_pos (x : X) : 1 ≤ x.high := by cases x <;> simp [X.high]
theorem kids_len (x : X) : x.kids.length ≤ 3 := by cases x <;> simp [X.kids]
theorem len_szS : ∀ st : List (X × Bool × Int), st.length ≤ szS st
  | [] => by simp [szS]
  | p :: r => by
    have := len_szS r
    have : 1 ≤ p.1.size := by rw [size_kids]; omega
    simp only [szS, List.map_cons, List.sum_cons, List.length_cons] at *
    omega
theorem split_last {α : Type} {l : List α} (h : l ≠ []) : ∃ d p, l = d ++ [p] := ⟨l.dropLast, l.getLast h, (List.dropLast_concat_getLast h).symm⟩
theorem c_expr (n : Nat) (x : X) (h : WH) (hw : x.wf false = true) (hs : x.size ≤ 60) (hh : x.high ≤ 8) : callM (cal tx (n + 4)) .pure 79 [x.enc] h = .ok (.bl true) h := by
  refine call_of (h' := [.lst []]) (w := .bl true) (by simp [X.enc_pure]) ?_ (frz_pure _ _ _ (by simp))
  rw [run_succ e_fits_expression rfl]
  have c66 : tx.con 66 = some (.int 60) := rfl
  have c65 : tx.con 65 = some (.int 8) := rfl
  have key := whlL_fix (S := LS) (c := ev (cal tx (n + 3)) (.cmp .ne (.v 1) (.lst []))) (f := exs (cal tx (n + 3)) [(.asg (.t [(.v 3), (.v 4), (.v 5)]) (.pop (.v 1))), (.asg (.v 2) (.bin .add (.v 2) (.k (.int 1)))), (.asg (.v 6) (.call .pure 78 [(.v 3), (.v 4)])), (.ite (.orL [(.cmp .gt (.v 2) (.g 66)), (.cmp .gt (.v 5) (.g 65)), (.cmp .isv (.v 6) (.k .non))]) [(.ret (.k (.bl false)))] []), (.aug 1 .add (.comp [7, 8] (.t [(.v 7), (.v 8)]) .seq [(.v 6)] (.k (.bl true)) (.tup [(.v 7), (.v 8), (.bin .add (.v 5) (.k (.int 1)))])))]) (wip := [3, 4, 5, 6])
    (fun s => [some x.enc, some (.ref 0), some (.int s.many), none, none, none, none, none, none]) (fun s => [.lst (s.st.map itW)]) (fun s => !s.st.isEmpty) nxt (fun s => szS s.st)
    (fun s => (0 ≤ s.many ∧ s.many + szS s.st ≤ 60) ∧ ∀ p ∈ s.st, p.1.wf p.2.1 = true ∧ p.2.2 + p.1.high ≤ 9)
    (fun s hs => by
      obtain ⟨st, many⟩ := s
      have hp : pureL (st.map itW) = true := pureL_map _ _ fun p _ => by simp [itW, X.enc_pure]
      cases st with
      | nil => simp
      | cons p r =>
        simp only [List.map_cons] at hp ⊢
        simp only [pureL_cons, Bool.and_eq_true] at hp
        simp [hp.1, hp.2])
    (fun s hs hg => by
      obtain ⟨st, many⟩ := s
      obtain ⟨h1, h2⟩ := hs
      have hne : st ≠ [] := by cases st <;> simp at hg ⊢
      obtain ⟨d, ⟨y, t, k⟩, rfl⟩ := split_last hne
      obtain ⟨y1, y2⟩ := h2 (y, t, k) (by simp)
      simp only at y1 y2
      obtain ⟨o1, o2⟩ := wf_own y1
      have en : nxt ⟨d ++ [(y, t, k)], many⟩ = ⟨d ++ y.kids.map (fun p => (p.1, p.2, k + 1)), many + 1⟩ := by simp [nxt]
      have sz : szS (d ++ y.kids.map (fun p => (p.1, p.2, k + 1))) + 1 = szS (d ++ [(y, t, k)]) := by
        have := size_kids y
        simp [szS, List.map_map, Function.comp_def] at *
        omega
      have hp := high_pos y
      rw [en]
      refine ⟨⟨by simp only; simp only at h1; omega, fun p m => ?_⟩, by simp only; omega, ?_⟩
      · rcases List.mem_append.mp m with m | m
        · exact h2 p (by simp [m])
        · obtain ⟨q, mq, rfl⟩ := List.mem_map.mp m
          have := high_kids q mq
          exact ⟨wf_kids y1 q mq, by simp only; omega⟩
      · have ci := fun h => c_inner n y h o1
        rw [o2] at ci
        have hl := len_szS (d ++ [(y, t, k)])
        simp only at h1
        have m1 : many + 1 ≤ 60 := by omega
        have m1' : ¬ (60 : Int) < many + 1 := by omega
        have m2 : ¬ (8 : Int) < k := by omega
        have kl := kids_len y
        have hb : y.kids.length ≤ big := by unfold big; omega
        have hb2 : (d.map itW).length + y.kids.length ≤ big := by simp at hl ⊢; unfold big; omega
        have ec : ∀ h, ev (cal tx (n + 3)) (.comp [7, 8] (.t [(.v 7), (.v 8)]) .seq [(.v 6)] (.k (.bl true)) (.tup [(.v 7), (.v 8), (.bin .add (.v 5) (.k (.int 1)))])) [some x.enc, some (.ref 0), some (.int (many + 1)), some y.enc, some (.bl t), some (.int k), some (.lst (y.kids.map pairW)), none, none] h = .ok (.lst ((y.kids.map fun p => (p.1, p.2, k + 1)).map itW)) h := fun h => by
          simp [ev_comp, hb]
          rw [cM_of (o := fun p => some (itW (p.1, p.2, k + 1))) (stands_any _ _ _ _ (by simp))]
          · simp [Function.comp_def]
          · intro p _
            simp [turnC, pairW, itW]
        have hb3 : d.length + y.kids.length ≤ big := by simpa using hb2
        refine ⟨[some x.enc, some (.ref 0), some (.int (many + 1)), some y.enc, some (.bl t), some (.int k), some (.lst (y.kids.map pairW)), none, none], ?_, by simp⟩
        simp [lastRest_app, itW, c66, c65, ci, m1', m2, ec, hb3])
  obtain ⟨s', i', g', e'⟩ := key 100000 ⟨[(x, false, 1)], 0⟩ ⟨⟨Int.le_refl 0, by simp [szS]; omega⟩, fun p m => by
    have e : p = (x, false, 1) := by simpa using m
    subst e
    exact ⟨hw, by simp only; omega⟩⟩ (by simp [szS]; omega)
  have es : s'.st = [] := by cases q : s'.st <;> simp [q] at g' ⊢
  rw [es] at e'
  simp only [List.map_cons, List.map_nil, itW] at e'
  simp [d_fits_expression, startE, setP]
  rw [e']
  rfl
/-! all parts -/
structure PS where
  fd : List X
  st : List (X × Bool)
def preS (st : List (X × Bool)) : List X := st.reverse.flatMap fun p => p.1.pre
def nxp (s : PS) : PS := match s.st.getLast? with
  | some (x, _) => ⟨s.fd ++ [x], s.st.dropLast ++ x.kids.reverse⟩
  | none => s
def szP (st : List (X × Bool)) : Nat := (st.map fun p => p.1.size).sum
theorem len_szP : ∀ st : List (X × Bool), st.length ≤ szP st
  | [] => by simp [szP]
  | p :: r => by
    have := len_szP r
    have : 1 ≤ p.1.size := by rw [size_kids]; omega
    simp only [szP, List.map_cons, List.sum_cons, List.length_cons] at *
    omega
theorem c_parts (n : Nat) (x : X) (h : WH) (hw : x.wf false = true) (hs : x.size ≤ 60) : callM (cal tx (n + 4)) .pure 80 [x.enc] h = .ok (.lst (x.pre.map X.enc)) h := by
  have hpp : pureL (x.pre.map X.enc) = true := pureL_map _ _ fun y _ => y.enc_pure
  refine call_of (h' := [.lst (x.pre.map X.enc), .lst []]) (w := .ref 0) (by simp [X.enc_pure]) ?_ (frz_lst rfl hpp)
  rw [run_succ e_parts_of rfl]
  have key := whlL_fix (S := PS) (c := ev (cal tx (n + 3)) (.cmp .ne (.v 2) (.lst []))) (f := exs (cal tx (n + 3)) [(.asg (.t [(.v 3), (.v 4)]) (.pop (.v 2))), (.ex (.app (.v 1) (.v 3))), (.aug 2 .add (.op .rev [(.call .pure 78 [(.v 3), (.v 4)])]))]) (wip := [3, 4])
    (fun s => [some x.enc, some (.ref 0), some (.ref 1), none, none]) (fun s => [.lst (s.fd.map X.enc), .lst (s.st.map pairW)]) (fun s => !s.st.isEmpty) nxp (fun s => szP s.st)
    (fun s => s.fd ++ preS s.st = x.pre ∧ s.fd.length + szP s.st ≤ 60 ∧ ∀ p ∈ s.st, p.1.wf p.2 = true)
    (fun s hs => by
      obtain ⟨fd, st⟩ := s
      have hp : pureL (st.map pairW) = true := pureL_map _ _ fun p _ => by simp [pairW, X.enc_pure]
      cases st with
      | nil => simp
      | cons p r =>
        simp only [List.map_cons] at hp ⊢
        simp only [pureL_cons, Bool.and_eq_true] at hp
        simp [hp.1, hp.2])
    (fun s hs hg => by
      obtain ⟨fd, st⟩ := s
      obtain ⟨h1, h2, h3⟩ := hs
      have hne : st ≠ [] := by cases st <;> simp at hg ⊢
      obtain ⟨d, ⟨y, t⟩, rfl⟩ := split_last hne
      have y1 := h3 (y, t) (by simp)
      simp only at y1 h1 h2
      obtain ⟨o1, o2⟩ := wf_own y1
      have en : nxp ⟨fd, d ++ [(y, t)]⟩ = ⟨fd ++ [y], d ++ y.kids.reverse⟩ := by simp [nxp]
      have sz : szP (d ++ y.kids.reverse) + 1 = szP (d ++ [(y, t)]) := by
        have := size_kids y
        have e : (y.kids.reverse.map fun p => p.1.size).sum = (y.kids.map fun p => p.1.size).sum := by rw [List.map_reverse, List.sum_reverse]
        simp only [szP, List.map_append, List.sum_append, e, List.map_cons, List.map_nil, List.sum_cons, List.sum_nil]
        omega
      rw [en]
      have ep : preS (d ++ [(y, t)]) = y :: preS (d ++ y.kids.reverse) := by
        simp only [preS, List.reverse_append, List.reverse_cons, List.reverse_nil, List.nil_append, List.cons_append, List.flatMap_cons, List.flatMap_append, List.reverse_reverse]
        rw [X.pre_kids]
        simp
      refine ⟨⟨by rw [← h1, ep]; simp, by simp only [List.length_append, List.length_cons, List.length_nil]; omega, fun p m => ?_⟩, by simp only; omega, ?_⟩
      · rcases List.mem_append.mp m with m | m
        · exact h3 p (by simp [m])
        · exact wf_kids y1 p (by simpa using m)
      · have ci := fun h => c_inner n y h o1
        rw [o2] at ci
        have hl := len_szP (d ++ [(y, t)])
        have kl := kids_len y
        have hb3 : d.length + y.kids.length ≤ big := by simp at hl; unfold big; omega
        have hb4 : fd.length < big := by unfold big; omega
        refine ⟨[some x.enc, some (.ref 0), some (.ref 1), some y.enc, some (.bl t)], ?_, by simp⟩
        have er : ∀ l : List W, opW .rev [.lst l] = some (.lst l.reverse) := fun l => rfl
        simp [lastRest_app, pairW, ci, hb3, hb4, er])
  obtain ⟨s', ⟨i1, i2, i3⟩, g', e'⟩ := key 100000 ⟨[], [(x, false)]⟩ ⟨by simp [preS], by simp [szP]; omega, fun p m => by
    have e : p = (x, false) := by simpa using m
    subst e
    exact hw⟩ (by simp [szP]; omega)
  have es : s'.st = [] := by cases q : s'.st <;> simp [q] at g' ⊢
  rw [es] at i1
  simp only [preS, List.reverse_nil, List.flatMap_nil, List.append_nil] at i1
  rw [es, i1] at e'
  simp only [List.map_cons, List.map_nil, pairW] at e'
  simp [d_parts_of, startE, setP]
  rw [e']
  rfl
/-! names behind words -/
theorem refs_pre : ∀ x : X, x.refs = x.pre.filterMap fun y => match y with | .ref w s => some (w, s) | _ => none
  | .num _ => rfl | .mon => rfl | .ref _ _ => rfl
  | .neg a => by simp [X.refs, X.pre, refs_pre a]
  | .two o a b => by simp [X.refs, X.pre, refs_pre a, refs_pre b]
  | .part a b c => by simp [X.refs, X.pre, refs_pre a, refs_pre b, refs_pre c]
  | .bands a ls rs => by simp [X.refs, X.pre, refs_pre a]
  | .ite t a b => by simp [X.refs, X.pre, refs_pre t, refs_pre a, refs_pre b]
  | .cmp o a b => by simp [X.refs, X.pre, refs_pre a, refs_pre b]
  | .not a => by simp [X.refs, X.pre, refs_pre a]
  | .join o a b => by simp [X.refs, X.pre, refs_pre a, refs_pre b]
def X.men (x : X) (ws : List Rw) : List Nme := x.refs.filterMap fun p => if p.1 ∈ ws then some p.2 else none
theorem rw_inj (a b : Rw) : (a.s = b.s) ↔ a = b := by cases a <;> cases b <;> simp
theorem fmc {α β : Type} {f g : α → Option β} : ∀ {l : List α}, (∀ x ∈ l, f x = g x) → l.filterMap f = l.filterMap g
  | [], _ => rfl
  | x :: r, h => by rw [List.filterMap_cons, List.filterMap_cons, h x (by simp), fmc fun y m => h y (List.mem_cons_of_mem _ m)]
theorem c_mentioned (n : Nat) (x : X) (ws : List Rw) (h : WH) (hw : x.wf false = true) (hs : x.size ≤ 60) : callM (cal tx (n + 5)) .pure 81 [x.enc, .tup (ws.map fun w => .str w.s)] h = .ok (.lst ((x.men ws).map .str)) h := by
  refine call_pure (h' := []) (by simp [X.enc_pure, pureL_map]) ?_ (by simp [pureL_map])
  rw [run_succ e_mentioned rfl]
  have hb : x.pre.length ≤ big := by rw [X.size_pre]; unfold big; omega
  have hpl : pureL (ws.map fun w => W.str w.s) = true := pureL_map _ _ fun _ _ => by simp
  have inn : ∀ (s : Nme), inW (.str s) (ws.map fun w => W.str w.s) = decide (∃ w ∈ ws, w.s = s) := fun s => by
    rw [Bool.eq_iff_iff]
    simp [inW, eqW]
  have ec : ev (cal tx (n + 4)) (.comp [2] (.v 2) .seq [(.call .pure 80 [(.v 0)])] (.cmp .isin (.ix (.v 2) (.k (.int 0))) (.v 1)) (.ix (.v 2) (.k (.int 1)))) [some x.enc, some (.tup (ws.map fun w => .str w.s)), none] [] = .ok (.lst ((x.men ws).map .str)) [] := by
    simp [ev_comp, c_parts n x _ hw hs, hb]
    rw [cM_of (o := fun y => match y with | .ref w s => if w ∈ ws then some (.str s) else none | _ => none) (stands_any _ _ _ _ (by simp))]
    · simp only [R.bind_ok]
      congr 2
      rw [X.men, refs_pre, List.filterMap_filterMap, List.map_filterMap]
      refine fmc fun y _ => ?_
      cases y <;> simp
      all_goals (rename_i w s; split <;> rfl)
    · intro y _
      have no : ∀ s : Nme, (∀ w : Rw, w.s ≠ s) → inW (.str s) (ws.map fun w => W.str w.s) = false := fun s k => by
        rw [inn]
        simp only [decide_eq_false_iff_not]
        rintro ⟨w, _, e⟩
        exact k w e
      have red : ∀ (s : Nme) (r : List W), (∀ w : Rw, w.s ≠ s) → turnC (cal tx (n + 4)) [2] (.v 2) (.cmp .isin (.ix (.v 2) (.k (.int 0))) (.v 1)) (.ix (.v 2) (.k (.int 1))) [some x.enc, some (.tup (ws.map fun w => .str w.s)), none] (.tup (.str s :: r)) [] = .ok none [] := fun s r k => by
        simp [turnC, hpl, no s k]
      cases y with
      | ref w s =>
        have e : inW (.str w.s) (ws.map fun w => W.str w.s) = decide (w ∈ ws) := by
          rw [inn]
          refine decide_eq_decide.mpr ⟨fun ⟨v, m, e⟩ => (rw_inj v w).mp e ▸ m, fun m => ⟨w, m, rfl⟩⟩
        by_cases m : w ∈ ws
        · simp [turnC, X.enc, hpl, e, m]
        · simp [turnC, X.enc, hpl, e, m]
      | two o a b => exact red _ _ (by cases o <;> (intro w; cases w <;> simp))
      | cmp o a b => exact red _ _ (by cases o <;> (intro w; cases w <;> simp))
      | join o a b => exact red _ _ (by cases o <;> (intro w; cases w <;> simp))
      | _ => exact red _ _ (by intro w; cases w <;> simp)
  simp [d_mentioned, startE, ec]
end Ru

namespace Ru
open Y Tx Gp
/-! definitions, their order, rules -/
structure Dn where
  kind : Int
  nm : Nme
  ex : X
  deriving DecidableEq
def Dn.enc (d : Dn) : W := .tup [.int d.kind, .str d.nm, d.ex.enc]
def encD (ds : List Dn) : List W := ds.map Dn.enc
theorem Dn.pure (d : Dn) : pureW d.enc = true := by simp [Dn.enc, X.enc_pure]
theorem encD_pure (ds : List Dn) : pureL (encD ds) = true := pureL_map _ _ fun d _ => d.pure
theorem nb_ints : ∀ l : List Int, nbW.nbL (isI l) = true
  | [] => rfl
  | x :: r => by simp only [isI, List.map_cons, nbW.nbL, nbW, Bool.true_and]; exact nb_ints r
theorem X.enc_nb : ∀ x : X, nbW x.enc = true
  | .num _ => rfl | .mon => rfl | .ref _ _ => rfl
  | .neg a => by simp [X.enc, nbW, nbW.nbL, a.enc_nb]
  | .two o a b => by simp [X.enc, nbW, nbW.nbL, a.enc_nb, b.enc_nb]
  | .part a b c => by simp [X.enc, nbW, nbW.nbL, a.enc_nb, b.enc_nb, c.enc_nb]
  | .bands a ls rs => by
    have h1 := nb_ints ls
    have h2 := nb_ints rs
    simp only [isI] at h1 h2
    simp [X.enc, nbW, nbW.nbL, a.enc_nb, h1, h2]
  | .ite t a b => by simp [X.enc, nbW, nbW.nbL, t.enc_nb, a.enc_nb, b.enc_nb]
  | .cmp o a b => by simp [X.enc, nbW, nbW.nbL, a.enc_nb, b.enc_nb]
  | .not a => by simp [X.enc, nbW, nbW.nbL, a.enc_nb]
  | .join o a b => by simp [X.enc, nbW, nbW.nbL, a.enc_nb, b.enc_nb]
theorem Dn.enc_nb (d : Dn) : nbW d.enc = true := by simp [Dn.enc, nbW, nbW.nbL, X.enc_nb]
/-- of the right shape, but for its kind and name -/
def Dn.fine (d : Dn) : Prop := d.ex.wf false = true ∧ d.ex.size ≤ 60 ∧ d.ex.high ≤ 8 ∧ d.nm.length ≤ 1000
def kindOk (k : Int) : Bool := decide (k ∈ [0, 1, 2, 3, 4, 5, 6, 9])
def Dn.ok (d : Dn) : Bool := kindOk d.kind && nmOk d.nm
theorem Dn.dep {d : Dn} (h : d.fine) : depW d.enc ≤ 10 := by
  have := d.ex.enc_dep
  have := h.2.2.1
  simp [Dn.enc, depW, depL]
  omega
theorem fine_short {d : Dn} (h : d.fine) : shortS (.str d.nm) = true := by
  have h2 : d.nm.length ≤ 1000 := h.2.2.2
  unfold shortS
  refine decide_eq_true ?_
  unfold big
  omega
theorem c_fitsDn (n : Nat) (d : Dn) (h : WH) (hf : d.fine) : callM (cal tx (n + 5)) .pure 82 [d.enc] h = .ok (.bl d.ok) h := by
  refine call_pure (h' := []) (by simp [Dn.pure]) ?_ (by simp)
  rw [run_succ e_fits_definition rfl]
  have c70 : tx.con 70 = some (.int 9) := rfl
  have c71 : tx.con 71 = some (.tup [(.int 0), (.int 1), (.int 2), (.int 3), (.int 4), (.int 5), (.int 6), (.int 9)]) := rfl
  have t3 : isT d.enc 3 3 = true := by simp [Dn.enc, isT]
  have hp := d.pure
  obtain ⟨k, nm, x⟩ := d
  have ce := fun h => c_expr n x h hf.1 hf.2.1 hf.2.2.1
  have cn := fun h => c_is_name (n + 3) (.str nm) h (by simp) (fine_short hf)
  by_cases hk : isW (.int k) 0 9 = true
  · by_cases hm : k ∈ ([0, 1, 2, 3, 4, 5, 6, 9] : List Int)
    · have e1 : inW (.int k) [(.int 0), (.int 1), (.int 2), (.int 3), (.int 4), (.int 5), (.int 6), (.int 9)] = true := by
        simp only [List.mem_cons, List.not_mem_nil, or_false] at hm
        simp [inW, eqW]
        omega
      have e2 : kindOk k = true := by simp only [kindOk, decide_eq_true_eq]; exact hm
      simp only [Dn.enc] at t3 hp ⊢
      cases q : nmOk nm <;> simp [-inW_cons, -inW_nil, d_fits_definition, startE, c_is_tuple, t3, hp, c_is_whole, c70, c71, hk, e1, cn, ce, Dn.ok, e2, nmW, q]
    · have e1 : inW (.int k) [(.int 0), (.int 1), (.int 2), (.int 3), (.int 4), (.int 5), (.int 6), (.int 9)] = false := by
        simp only [List.mem_cons, List.not_mem_nil, or_false] at hm
        simp [inW, eqW]
        omega
      have e2 : kindOk k = false := by simp only [kindOk, decide_eq_false_iff_not]; exact hm
      simp only [Dn.enc] at t3 hp ⊢
      simp [-inW_cons, -inW_nil, d_fits_definition, startE, c_is_tuple, t3, hp, c_is_whole, c70, c71, hk, e1, Dn.ok, e2]
  · have hm : ¬ k ∈ ([0, 1, 2, 3, 4, 5, 6, 9] : List Int) := fun m => by
      simp only [List.mem_cons, List.not_mem_nil, or_false] at m
      simp only [isW, Bool.and_eq_true, decide_eq_true_eq] at hk
      omega
    have hk : isW (.int k) 0 9 = false := by simpa using hk
    have e2 : kindOk k = false := by simp only [kindOk, decide_eq_false_iff_not]; exact hm
    simp only [Dn.enc] at t3 hp ⊢
    simp [d_fits_definition, startE, c_is_tuple, t3, hp, c_is_whole, c70, hk, Dn.ok, e2]
/-! the order -/
def rdy (known : List Nme) (d : Dn) : Bool := (d.ex.men [.name]).all fun s => decide (s ∈ known)
def nms (ds : List Dn) : List Nme := ds.map (·.nm)
def ordGo : Nat → List Dn → List Dn → Option (List Dn)
  | _, fd, [] => some fd
  | 0, _, _ :: _ => none
  | n + 1, fd, d :: r => if ((d :: r).filter (rdy (nms fd))) = [] then none else ordGo n (fd ++ (d :: r).filter (rdy (nms fd))) ((d :: r).filter fun d => !rdy (nms fd) d)
def inOrder (ds : List Dn) : Option (List Dn) := ordGo ds.length [] ds
def ordW : Option (List Dn) → W
  | some o => .lst (encD o)
  | none => .non
theorem inStrs (s : Nme) : ∀ l : List Nme, inW (.str s) (l.map W.str) = decide (s ∈ l)
  | [] => by simp
  | x :: r => by
    rw [List.map_cons, inW_cons, inStrs s r, eq_ss]
    by_cases q : s = x
    · subst q; simp
    · have q2 : ¬ x = s := fun z => q z.symm
      simp [q, q2]
theorem encD_in (d : Dn) (l : List Dn) : inW d.enc (encD l) = decide (d.enc ∈ encD l) := by
  induction l with
  | nil => simp [encD]
  | cons x r ih =>
    simp only [encD, List.map_cons, inW_cons] at ih ⊢
    rw [ih, eqW_nb _ _ x.enc_nb d.enc_nb]
    by_cases q : x.enc = d.enc
    · simp [q]
    · have : ¬ d.enc = x.enc := fun z => q z.symm
      simp [q, this]
theorem depL_encD {l : List Dn} (h : ∀ d ∈ l, d.fine) : depL (encD l) ≤ 10 := depL_map _ _ _ fun d m => Dn.dep (h d m)
def ordB : List S := [(.asg (.v 4) (.comp [3] (.v 3) .seq [(.v 1)] (.k (.bl true)) (.ix (.v 3) (.k (.int 1))))), (.asg (.v 6) (.comp [3] (.v 3) .seq [(.v 2)] (.op .all [(.comp [5] (.v 5) .seq [(.call .pure 81 [(.ix (.v 3) (.k (.int 2))), (.tup [(.k (.str [110, 97, 109, 101]))])])] (.k (.bl true)) (.cmp .isin (.v 5) (.v 4)))]) (.v 3))), (.ite (.cmp .eq (.v 6) (.lst [])) [(.ret (.k .non))] []), (.aug 1 .add (.v 6)), (.asg (.v 2) (.comp [3] (.v 3) .seq [(.v 2)] (.cmp .notin (.v 3) (.v 6)) (.v 3)))]
theorem nm_inj : ∀ {l : List Dn} {a b : Dn}, (nms l).Nodup → a ∈ l → b ∈ l → a.nm = b.nm → a = b
  | [], _, _, _, h, _, _ => absurd h (by simp)
  | x :: r, a, b, nd, ma, mb, e => by
    simp only [nms, List.map_cons, List.nodup_cons] at nd
    rcases List.mem_cons.mp ma with qa | qa
    · rcases List.mem_cons.mp mb with qb | qb
      · rw [qa, qb]
      · exact absurd (by rw [← qa, e]; exact List.mem_map_of_mem qb) nd.1
    · rcases List.mem_cons.mp mb with qb | qb
      · exact absurd (by rw [← qb, ← e]; exact List.mem_map_of_mem qa) nd.1
      · exact nm_inj (l := r) nd.2 qa qb e
theorem filter_len {α : Type} (p : α → Bool) (l : List α) : (l.filter p).length + (l.filter fun x => !p x).length = l.length := by
  induction l with
  | nil => rfl
  | cons x r ih => cases q : p x <;> simp [q] <;> omega
theorem ord_turn (n : Nat) (r0 : W) (fd lf : List Dn) (hne : lf ≠ []) (hf1 : ∀ d ∈ fd, d.fine) (hf : ∀ d ∈ lf, d.fine) (nd : (nms lf).Nodup) (hl : fd.length + lf.length ≤ 1000) :
    ∃ σ', exs (cal tx (n + 6)) ordB [some r0, some (.ref 0), some (.lst (encD lf)), none, none, none, none] [.lst (encD fd)] =
      (if (lf.filter (rdy (nms fd))) = [] then .rt .non [.lst (encD fd)] else .nx σ' [.lst (encD (fd ++ lf.filter (rdy (nms fd))))]) ∧ wipE σ' [4, 6] = [some r0, some (.ref 0), some (.lst (encD (lf.filter fun d => !rdy (nms fd) d))), none, none, none, none] := by
  have b1 : fd.length ≤ big := by unfold big; omega
  have b2 : lf.length ≤ big := by unfold big; omega
  have e1 : ev (cal tx (n + 6)) (.comp [3] (.v 3) .seq [(.v 1)] (.k (.bl true)) (.ix (.v 3) (.k (.int 1)))) [some r0, some (.ref 0), some (.lst (encD lf)), none, none, none, none] [.lst (encD fd)] = .ok (.lst ((nms fd).map .str)) [.lst (encD fd)] := by
    have it : itemsOf [.lst (encD fd)] .seq [.ref 0] = some (fd.map Dn.enc) := rfl
    have stn : stands .seq [.ref 0] (fd.map Dn.enc) [.lst (encD fd)] = true := by simp only [stands, it]; simp
    simp [ev_comp, it, b1]
    rw [cM_of (o := fun d => some (.str d.nm)) stn]
    · simp [nms]
    · intro d _
      simp [turnC, Dn.enc]
  have e2 : ev (cal tx (n + 6)) (.comp [3] (.v 3) .seq [(.v 2)] (.op .all [(.comp [5] (.v 5) .seq [(.call .pure 81 [(.ix (.v 3) (.k (.int 2))), (.tup [(.k (.str [110, 97, 109, 101]))])])] (.k (.bl true)) (.cmp .isin (.v 5) (.v 4)))]) (.v 3)) [some r0, some (.ref 0), some (.lst (encD lf)), none, some (.lst ((nms fd).map .str)), none, none] [.lst (encD fd)] = .ok (.lst (encD (lf.filter (rdy (nms fd))))) [.lst (encD fd)] := by
    simp only [encD] at *
    simp [ev_comp, b2]
    rw [cM_of (o := fun d => if rdy (nms fd) d = true then some d.enc else none) (stands_any _ _ _ _ (by simp))]
    · simp
    · intro d m
      have hd := hf d m
      have cm := fun h => c_mentioned (n + 1) d.ex [.name] h hd.1 hd.2.1
      simp only [List.map_cons, List.map_nil, Rw.s1] at cm
      have bm : (d.ex.men [.name]).length ≤ big := by
        have h1 : (d.ex.men [.name]).length ≤ d.ex.refs.length := List.length_filterMap_le _ _
        have h2 : d.ex.refs.length ≤ d.ex.pre.length := by rw [refs_pre]; exact List.length_filterMap_le _ _
        rw [X.size_pre] at h2
        have := hd.2.1
        unfold big
        omega
      have e5 : ∀ h, ev (cal tx (n + 6)) (.comp [5] (.v 5) .seq [(.call .pure 81 [(.ix (.v 3) (.k (.int 2))), (.tup [(.k (.str [110, 97, 109, 101]))])])] (.k (.bl true)) (.cmp .isin (.v 5) (.v 4))) [some r0, some (.ref 0), some (.lst (lf.map Dn.enc)), some d.enc, some (.lst ((nms fd).map .str)), none, none] h = .ok (.lst ((d.ex.men [.name]).map fun s => .bl (decide (s ∈ nms fd)))) h := fun h => by
        have hps : pureL ((nms fd).map W.str) = true := pureL_map _ _ fun _ _ => by simp
        simp [ev_comp, Dn.enc, cm, bm]
        rw [cM_of (o := fun s => some (.bl (decide (s ∈ nms fd)))) (stands_any _ _ _ _ (by simp))]
        · simp
        · intro s _
          simp [turnC, hps, inStrs]
      have ea := op_all_map (d.ex.men [.name]) fun s => decide (s ∈ nms fd)
      cases q : rdy (nms fd) d
      · have q' := q
        simp only [rdy] at q'
        simp [turnC, e5, ea, q']
      · have q' := q
        simp only [rdy] at q'
        simp [turnC, e5, ea, q']
  generalize hrd : lf.filter (rdy (nms fd)) = rd at *
  have hrf : ∀ d ∈ rd, d.fine := fun d m => hf d (by rw [← hrd] at m; exact (List.mem_filter.mp m).1)
  have prd := encD_pure rd
  have drd := depL_encD hrf
  have e3 : ∀ h, ev (cal tx (n + 6)) (.comp [3] (.v 3) .seq [(.v 2)] (.cmp .notin (.v 3) (.v 6)) (.v 3)) [some r0, some (.ref 0), some (.lst (encD lf)), none, some (.lst ((nms fd).map .str)), none, some (.lst (encD rd))] h = .ok (.lst (encD (lf.filter fun d => !rdy (nms fd) d))) h := fun h => by
    have b2' : (encD lf).length ≤ big := by simpa [encD] using b2
    have it : itemsOf h .seq [.lst (encD lf)] = some (lf.map Dn.enc) := rfl
    rw [ev_comp]
    simp only [evs_cons', ev_v, getV_zero, getV_succ, R.bind_ok, evs_nil', it, List.length_map, b2, if_true, compL_cM]
    rw [cM_of (o := fun d => if (!rdy (nms fd) d) = true then some d.enc else none) (stands_any _ _ _ _ (by simp))]
    · simp only [R.bind_ok]
      rw [fm_ite]
      rfl
    · intro d m
      have key : decide (d.enc ∈ encD rd) = rdy (nms fd) d := by
        cases q : rdy (nms fd) d
        · simp only [decide_eq_false_iff_not]
          intro z
          obtain ⟨d2, m2, e2⟩ := List.mem_map.mp z
          have m3 : d2 ∈ lf ∧ rdy (nms fd) d2 = true := by rw [← hrd] at m2; exact List.mem_filter.mp m2
          have en : d2.nm = d.nm := by
            simp only [Dn.enc, W.tup.injEq, List.cons.injEq, W.str.injEq] at e2
            exact e2.2.1
          have : d2 = d := nm_inj nd m3.1 m en
          rw [this, q] at m3
          exact absurd m3.2 (by simp)
        · simp only [decide_eq_true_eq]
          exact List.mem_map_of_mem (by rw [← hrd]; exact List.mem_filter.mpr ⟨m, q⟩)
      have dd := Dn.dep (hf d m)
      have cn : cmpW .notin d.enc (.lst (encD rd)) = some (!rdy (nms fd) d) := by
        have hc : (pureW d.enc && (pureL (encD rd) && (scalW d.enc || (decide (depW d.enc ≤ 90) || decide (depL (encD rd) ≤ 90))))) = true := by
          rw [d.pure, prd, decide_eq_true (show depW d.enc ≤ 90 by omega)]
          simp
        simp only [cmpW]
        rw [if_pos hc, encD_in, key]
      rw [turnC_on (σ' := [some r0, some (.ref 0), some (.lst (encD lf)), some d.enc, some (.lst ((nms fd).map .str)), none, some (.lst (encD rd))]) (by simp)]
      rw [ev_cmp]
      simp only [ev_v, getV_zero, getV_succ, R.bind_ok, view_pure _ _ d.pure, view_lst, cn, Option.map_some, opt_some, onB_bl]
      cases rdy (nms fd) d <;> rfl
  refine ⟨[some r0, some (.ref 0), some (.lst (encD (lf.filter fun d => !rdy (nms fd) d))), none, some (.lst ((nms fd).map .str)), none, some (.lst (encD rd))], ?_, by simp⟩
  have b3 : (encD fd).length + (encD rd).length ≤ big := by
    have := filter_len (rdy (nms fd)) lf
    rw [hrd] at this
    simp only [encD, List.length_map]
    unfold big
    omega
  cases rd with
  | nil =>
    simp only [encD, List.map_nil] at *
    simp [ordB, e1, e2]
  | cons y r =>
    have hne : (encD (y :: r) = []) = False := by simp [encD]
    have ce : cmpW .eq (.lst (encD (y :: r))) (.lst []) = some false := by
      rw [cmp_eq _ _ (by simp) (by rw [pure_lst]; exact prd) (by simp)]
      simp [encD]
    have ea : encD fd ++ encD (y :: r) = encD (fd ++ y :: r) := by simp [encD]
    simp [ordB, e1, e2, ce, b3, e3, ea]
theorem ord_loop (n : Nat) (r0 : W) : ∀ (k fuel : Nat) (fd lf : List Dn), lf.length ≤ k → k < fuel → (∀ d ∈ fd, d.fine) → (∀ d ∈ lf, d.fine) → (nms lf).Nodup → fd.length + lf.length ≤ 1000 →
    match ordGo k fd lf with
    | some o => whlL (ev (cal tx (n + 6)) (.cmp .ne (.v 2) (.lst []))) (exs (cal tx (n + 6)) ordB) [4, 6] fuel [some r0, some (.ref 0), some (.lst (encD lf)), none, none, none, none] [.lst (encD fd)] = .nx [some r0, some (.ref 0), some (.lst []), none, none, none, none] [.lst (encD o)]
    | none => ∃ h', whlL (ev (cal tx (n + 6)) (.cmp .ne (.v 2) (.lst []))) (exs (cal tx (n + 6)) ordB) [4, 6] fuel [some r0, some (.ref 0), some (.lst (encD lf)), none, none, none, none] [.lst (encD fd)] = .rt .non h'
  | k, 0, _, _, _, h, _, _, _, _ => absurd h (Nat.not_lt_zero _)
  | k, fuel + 1, fd, [], hk, hfu, h1, h2, nd, hl => by
    have e : ordGo k fd [] = some fd := by cases k <;> simp [ordGo]
    rw [e]
    simp only
    unfold whlL
    simp [encD]
  | 0, fuel + 1, fd, d :: r, hk, hfu, h1, h2, nd, hl => absurd hk (by simp)
  | k + 1, fuel + 1, fd, d :: r, hk, hfu, h1, h2, nd, hl => by
    have hc : ev (cal tx (n + 6)) (.cmp .ne (.v 2) (.lst [])) [some r0, some (.ref 0), some (.lst (encD (d :: r))), none, none, none, none] [.lst (encD fd)] = .ok (.bl true) [.lst (encD fd)] := by
      have hp := encD_pure (d :: r)
      simp only [encD, List.map_cons] at hp ⊢
      simp only [pureL_cons, Bool.and_eq_true] at hp
      simp [hp.1, hp.2]
    obtain ⟨σ', e1, e2⟩ := ord_turn n r0 fd (d :: r) (by simp) h1 h2 nd hl
    rw [show ordGo (k + 1) fd (d :: r) = if ((d :: r).filter (rdy (nms fd))) = [] then none else ordGo k (fd ++ (d :: r).filter (rdy (nms fd))) ((d :: r).filter fun d => !rdy (nms fd) d) from rfl]
    by_cases q : (d :: r).filter (rdy (nms fd)) = []
    · rw [if_pos q]
      simp only
      rw [if_pos q] at e1
      refine ⟨[.lst (encD fd)], ?_⟩
      unfold whlL
      rw [hc]
      simp only [R.flow_ok, e1]
    · rw [if_neg q]
      rw [if_neg q] at e1
      have fl := filter_len (rdy (nms fd)) (d :: r)
      have hpos : 0 < ((d :: r).filter (rdy (nms fd))).length := List.length_pos_iff.mpr q
      have ih := ord_loop n r0 k fuel (fd ++ (d :: r).filter (rdy (nms fd))) ((d :: r).filter fun d => !rdy (nms fd) d) (by omega) (by omega)
        (fun x m => by
          rcases List.mem_append.mp m with m | m
          · exact h1 x m
          · exact h2 x (List.mem_filter.mp m).1) (fun x m => h2 x (List.mem_filter.mp m).1) (nd.sublist (List.Sublist.map _ List.filter_sublist)) (by rw [List.length_append]; omega)
      have st : whlL (ev (cal tx (n + 6)) (.cmp .ne (.v 2) (.lst []))) (exs (cal tx (n + 6)) ordB) [4, 6] (fuel + 1) [some r0, some (.ref 0), some (.lst (encD (d :: r))), none, none, none, none] [.lst (encD fd)] = whlL (ev (cal tx (n + 6)) (.cmp .ne (.v 2) (.lst []))) (exs (cal tx (n + 6)) ordB) [4, 6] fuel [some r0, some (.ref 0), some (.lst (encD ((d :: r).filter fun d => !rdy (nms fd) d))), none, none, none, none] [.lst (encD (fd ++ (d :: r).filter (rdy (nms fd))))] := by
        conv => lhs; unfold whlL
        rw [hc]
        simp only [R.flow_ok, e1, e2]
      rw [st]
      exact ih
theorem c_inorder (n : Nat) (ds : List Dn) (h : WH) (hf : ∀ d ∈ ds, d.fine) (nd : (nms ds).Nodup) (hl : ds.length ≤ 1000) : callM (cal tx (n + 7)) .pure 83 [.tup (encD ds)] h = .ok (ordW (inOrder ds)) h := by
  have L := ord_loop n (.tup (encD ds)) ds.length 100000 [] ds (Nat.le_refl _) (by omega) (by simp) hf nd (by simpa using hl)
  have key : run tx (n + 7) 83 [.tup (encD ds)] [] = (match inOrder ds with
    | some o => .ok (.ref 0) [.lst (encD o)]
    | none => .ok .non (match whlL (ev (cal tx (n + 6)) (.cmp .ne (.v 2) (.lst []))) (exs (cal tx (n + 6)) ordB) [4, 6] 100000 [some (.tup (encD ds)), some (.ref 0), some (.lst (encD ds)), none, none, none, none] [.lst []] with | .rt _ h => h | _ => [])) := by
    rw [run_succ e_in_order rfl]
    change finF (exs (cal tx (n + 6)) [(.par [1, 2] [(.thaw (.lst [])), (.op .list [(.v 0)])]), (.whl 100000 (.cmp .ne (.v 2) (.lst [])) [4, 6] ordB), (.ret (.v 1))] _ _) = _
    generalize hB : ordB = B at L ⊢
    unfold inOrder
    cases q : ordGo ds.length [] ds with
    | some o =>
      rw [q] at L
      simp only [encD, List.map_nil] at L ⊢
      simp [startE, setP, d_in_order, L]
    | none =>
      rw [q] at L
      obtain ⟨h', L⟩ := L
      simp only [encD, List.map_nil] at L ⊢
      simp [startE, setP, d_in_order, L]
  cases q : inOrder ds with
  | some o =>
    rw [q] at key
    exact call_of (by simp [encD_pure]) key (frz_lst rfl (encD_pure o))
  | none =>
    rw [q] at key
    exact call_of (by simp [encD_pure]) key (frz_pure _ _ _ (by simp))
end Ru

namespace So
open Y Tx Gp Ru
/-! first orders: the plain law -/
theorem lexN_irr : ∀ a : List Nat, lexN a a = false
  | [] => by simp [lexN]
  | x :: r => by simp [lexN, lexN_irr r]
theorem lexN_asymm : ∀ a b : List Nat, lexN a b = true → lexN b a = false
  | [], [], h => by simp [lexN] at h
  | [], _ :: _, _ => by simp [lexN]
  | _ :: _, [], h => by simp [lexN] at h
  | x :: r, y :: s, h => by
    simp only [lexN] at h ⊢
    by_cases q : x = y
    · subst q; simp only [if_true] at h ⊢; exact lexN_asymm r s h
    · have q2 : ¬ y = x := fun z => q z.symm
      simp only [q, q2, if_false, decide_eq_true_eq, decide_eq_false_iff_not] at h ⊢
      omega
/-- rows by < -/
def lexR : List Nme → List Nme → Bool
  | _, [] => false
  | [], _ :: _ => true
  | a :: r, b :: s => if a = b then lexR r s else lexN a b
theorem lexR_irr : ∀ a : List Nme, lexR a a = false
  | [] => by simp [lexR]
  | x :: r => by simp [lexR, lexR_irr r]
theorem lexR_asymm : ∀ a b : List Nme, lexR a b = true → lexR b a = false
  | [], [], h => by simp [lexR] at h
  | [], _ :: _, _ => by simp [lexR]
  | _ :: _, [], h => by simp [lexR] at h
  | x :: r, y :: s, h => by
    simp only [lexR] at h ⊢
    by_cases q : x = y
    · subst q; simp only [if_true] at h ⊢; exact lexR_asymm r s h
    · have q2 : ¬ y = x := fun z => q z.symm
      simp only [q, q2, if_false] at h ⊢
      exact lexN_asymm _ _ h
theorem lexR_app : ∀ (p : List Nme) (a b : Nme) (u v : List Nme), a ≠ b → lexN a b = true → lexR (p ++ a :: u) (p ++ b :: v) = true
  | [], a, b, u, v, h, q => by simp [lexR, h, q]
  | x :: r, a, b, u, v, h, q => by simp only [List.cons_append, lexR, if_true]; exact lexR_app r a b u v h q
def rowW (r : List Nme) : W := .tup (r.map W.str)
theorem ltB_row : ∀ a b : List Nme, ltB (rowW a) (rowW b) = lexR a b := by
  have key : ∀ a b : List Nme, ltBL (a.map W.str) (b.map W.str) = lexR a b := by
    intro a
    induction a with
    | nil => intro b; cases b <;> simp [ltBL, lexR]
    | cons x r ih =>
      intro b
      cases b with
      | nil => simp [ltBL, lexR]
      | cons y s => simp only [List.map_cons, ltBL, lexR, W.str.injEq, ih, ltB]
  intro a b
  simp only [rowW, ltB, key]
theorem minG_rows (g : List Nme) : ∀ (xs : List (List Nme)) (a : List Nme), (a = g ∨ g ∈ xs) → (∀ r ∈ a :: xs, g = r ∨ lexR g r = true) → minG (rowW a) (xs.map rowW) = rowW g
  | [], a, h, _ => by
    rcases h with h | h
    · rw [h]; rfl
    · cases h
  | y :: ys, a, h, hd => by
    unfold minG
    rw [List.map_cons, List.foldl_cons]
    simp only [ltB_row]
    cases q : lexR y a with
    | true =>
      simp only [if_true]
      refine minG_rows g ys y ?_ fun r m => hd r (List.mem_cons_of_mem _ m)
      rcases h with h | h
      · subst h
        rcases hd y (by simp) with e | e
        · exact .inl e.symm
        · rw [lexR_asymm _ _ e] at q; cases q
      · rcases List.mem_cons.mp h with e | e
        · exact .inl e.symm
        · exact .inr e
    | false =>
      simp only [Bool.false_eq_true, if_false]
      refine minG_rows g ys a ?_ fun r m => hd r (by
        rcases List.mem_cons.mp m with m | m
        · rw [m]; simp
        · exact List.mem_cons_of_mem _ (List.mem_cons_of_mem _ m))
      rcases h with h | h
      · exact .inl h
      · rcases List.mem_cons.mp h with e | e
        · rcases hd a (by simp) with e2 | e2
          · exact .inl e2.symm
          · rw [← e, e2] at q; cases q
        · exact .inr e
theorem nd_le : ∀ (l m : List Nme), l.Nodup → (∀ x ∈ l, x ∈ m) → l.length ≤ m.length
  | [], _, _, _ => Nat.zero_le _
  | x :: r, m, nd, h => by
    obtain ⟨n1, n2⟩ := List.nodup_cons.mp nd
    have mx := h x (by simp)
    have := nd_le r (m.erase x) n2 fun y my => by
      have ne : y ≠ x := fun z => n1 (z ▸ my)
      exact (List.mem_erase_of_ne ne).mpr (h y (List.mem_cons_of_mem _ my))
    rw [List.length_erase_of_mem mx] at this
    have : 0 < m.length := List.length_pos_of_mem mx
    simp only [List.length_cons]
    omega
section
variable (B : Nme → List Nme) (S : List Nme)
def av (fd : List Nme) (x : Nme) : Bool := (B x).all fun o => decide (o ∈ fd)
def grd : Nat → List Nme → List Nme → List Nme
  | 0, fd, _ => fd
  | n + 1, fd, lf => match lf.filter (av B fd) with
    | [] => fd
    | x :: _ => grd n (fd ++ [x]) (lf.filter fun y => decide (y ≠ x))
def nxt (r : List Nme) : List (List Nme) := (S.filter fun x => (!decide (x ∈ r)) && av B r x).map fun x => r ++ [x]
def rws : Nat → List (List Nme)
  | 0 => [[]]
  | n + 1 => (rws n).flatMap (nxt B S)
variable {B S}
theorem rws_mem {n : Nat} {r : List Nme} {x : Nme} (h : r ∈ rws B S n) (m : x ∈ S) (k : x ∉ r) (a : av B r x = true) : r ++ [x] ∈ rws B S (n + 1) :=
  List.mem_flatMap.mpr ⟨r, h, List.mem_map.mpr ⟨x, List.mem_filter.mpr ⟨m, by simp [k, a]⟩, rfl⟩⟩
theorem grd_first (rk : Nme → Nat) (hr : ∀ x ∈ S, ∀ y ∈ B x, y ∈ S ∧ rk y < rk x) (hs : S.Pairwise fun a b => lexN a b = true) : ∀ (m k : Nat) (fd : List Nme), k + m = S.length → fd.length = k → fd.Nodup → (∀ x ∈ fd, x ∈ S) → fd ∈ rws B S k →
    (∀ r ∈ rws B S k, fd = r ∨ ∀ u v, lexR (fd ++ u) (r ++ v) = true) → grd B m fd (S.filter fun x => decide (x ∉ fd)) ∈ rws B S S.length ∧ (grd B m fd (S.filter fun x => decide (x ∉ fd))).length = S.length ∧
      ∀ r ∈ rws B S S.length, grd B m fd (S.filter fun x => decide (x ∉ fd)) = r ∨ lexR (grd B m fd (S.filter fun x => decide (x ∉ fd))) r = true
  | 0, k, fd, hk, hl, nd, sub, hm, hd => by
    have e : S.length = k := by omega
    simp only [grd]
    rw [e]
    refine ⟨hm, hl, fun r m => (hd r m).imp id fun h => by simpa using h [] []⟩
  | m + 1, k, fd, hk, hl, nd, sub, hm, hd => by
    have nS : S.Nodup := hs.imp fun h => by
      intro e
      subst e
      rw [lexN_irr] at h
      cases h
    -- some name is left
    have hex : ∃ x ∈ S, x ∉ fd := by
      refine Classical.byContradiction fun q => ?_
      have q' : ∀ x ∈ S, x ∈ fd := fun x mx => Classical.byContradiction fun z => q ⟨x, mx, z⟩
      have := nd_le S fd nS q'
      omega
    -- one of the least rank
    have hmin : ∀ n : Nat, (∃ x ∈ S, x ∉ fd ∧ rk x ≤ n) → ∃ x ∈ S, x ∉ fd ∧ ∀ y ∈ S, y ∉ fd → rk x ≤ rk y := by
      intro n
      induction n with
      | zero => rintro ⟨x, mx, nx, hx⟩; exact ⟨x, mx, nx, fun y _ _ => by omega⟩
      | succ n ih =>
        rintro ⟨x, mx, nx, hx⟩
        by_cases q : ∃ y ∈ S, y ∉ fd ∧ rk y ≤ n
        · exact ih q
        · refine ⟨x, mx, nx, fun y my ny => ?_⟩
          exact Classical.byContradiction fun z => q ⟨y, my, ny, by omega⟩
    obtain ⟨x0, mx0, nx0⟩ := hex
    obtain ⟨x1, mx1, nx1, hx1⟩ := hmin (rk x0) ⟨x0, mx0, nx0, Nat.le_refl _⟩
    have a1 : av B fd x1 = true := by
      simp only [av, List.all_eq_true, decide_eq_true_eq]
      intro y my
      obtain ⟨q1, q2⟩ := hr x1 mx1 y my
      refine Classical.byContradiction fun z => ?_
      have := hx1 y q1 z
      omega
    have mf : x1 ∈ (S.filter fun x => decide (x ∉ fd)).filter (av B fd) := List.mem_filter.mpr ⟨List.mem_filter.mpr ⟨mx1, by simpa using nx1⟩, a1⟩
    cases q : (S.filter fun x => decide (x ∉ fd)).filter (av B fd) with
    | nil => rw [q] at mf; cases mf
    | cons x t =>
      have mx : x ∈ (S.filter fun x => decide (x ∉ fd)).filter (av B fd) := by rw [q]; simp
      obtain ⟨mx2, ax⟩ := List.mem_filter.mp mx
      obtain ⟨mx3, nx⟩ := List.mem_filter.mp mx2
      have nx : x ∉ fd := by simpa using nx
      have eg : grd B (m + 1) fd (S.filter fun x => decide (x ∉ fd)) = grd B m (fd ++ [x]) (S.filter fun y => decide (y ∉ fd ++ [x])) := by
        simp only [grd, q, List.filter_filter]
        congr 1
        refine List.filter_congr fun y _ => ?_
        by_cases z : y = x
        · subst z; simp
        · simp [z]
      rw [eg]
      refine grd_first rk hr hs m (k + 1) (fd ++ [x]) (by omega) (by simp [hl]) ?_ ?_ (rws_mem hm mx3 nx ax) ?_
      · refine List.nodup_append.mpr ⟨nd, by simp, fun a ha b hb => ?_⟩
        rw [List.mem_singleton.mp hb]
        exact fun z => nx (z ▸ ha)
      · intro y my
        rcases List.mem_append.mp my with my | my
        · exact sub y my
        · rw [List.mem_singleton.mp my]; exact mx3
      · intro r mr
        obtain ⟨r0, m0, m1⟩ := List.mem_flatMap.mp mr
        obtain ⟨y, my, rfl⟩ := List.mem_map.mp m1
        obtain ⟨myS, hy⟩ := List.mem_filter.mp my
        simp only [Bool.and_eq_true, Bool.not_eq_true', decide_eq_false_iff_not] at hy
        rcases hd r0 m0 with e | e
        · subst e
          have myf : y ∈ x :: t := by
            rw [← q]
            exact List.mem_filter.mpr ⟨List.mem_filter.mpr ⟨myS, by simpa using hy.1⟩, hy.2⟩
          have pw : (x :: t).Pairwise fun a b => lexN a b = true := by
            rw [← q]
            exact (hs.sublist List.filter_sublist).sublist List.filter_sublist
          rcases List.mem_cons.mp myf with e | e
          · exact .inl (by rw [e])
          · have l := (List.pairwise_cons.mp pw).1 y e
            refine .inr fun u v => ?_
            rw [List.append_assoc, List.append_assoc]
            exact lexR_app fd x y u v (fun z => by rw [z, lexN_irr] at l; cases l) l
        · exact .inr fun u v => by rw [List.append_assoc, List.append_assoc]; exact e _ _
theorem order_first (rk : Nme → Nat) (hr : ∀ x ∈ S, ∀ y ∈ B x, y ∈ S ∧ rk y < rk x) (hs : S.Pairwise fun a b => lexN a b = true) : ∃ a t, rws B S S.length = a :: t ∧ minG (rowW a) (t.map rowW) = rowW (grd B S.length [] S) := by
  obtain ⟨h1, _, h2⟩ := grd_first rk hr hs S.length 0 [] (by omega) rfl List.nodup_nil (fun x m => absurd m (by simp)) (by simp [rws]) (fun r m => by
    simp only [rws, List.mem_singleton] at m
    exact .inl m.symm)
  have ef : (S.filter fun x => decide (x ∉ ([] : List Nme))) = S := by simp
  rw [ef] at h1 h2
  cases q : rws B S S.length with
  | nil => rw [q] at h1; cases h1
  | cons a t =>
    rw [q] at h1 h2
    refine ⟨a, t, rfl, minG_rows _ t a ?_ h2⟩
    rcases List.mem_cons.mp h1 with e | e
    · exact .inl e.symm
    · exact .inr e
end
end So

namespace Ru
open Y Tx Gp
theorem cnt_lt {α : Type} [DecidableEq α] : ∀ (l s : List α) (n : Nat), (l.foldl cntS (s, n)).2 ≤ n + l.length ∧ ((l.foldl cntS (s, n)).2 = n + l.length ↔ l.Nodup ∧ ∀ x ∈ l, x ∉ s)
  | [], s, n => by simp
  | x :: r, s, n => by
    have e : (x :: r).foldl cntS (s, n) = r.foldl cntS (x :: s, if x ∈ s then n else n + 1) := rfl
    rw [e]
    obtain ⟨h1, h2⟩ := cnt_lt r (x :: s) (if x ∈ s then n else n + 1)
    by_cases q : x ∈ s
    · rw [if_pos q] at h1 h2 ⊢
      refine ⟨by rw [List.length_cons]; omega, ⟨fun z => by rw [List.length_cons] at z; omega, fun z => absurd q (z.2 x (by simp))⟩⟩
    · rw [if_neg q] at h1 h2 ⊢
      refine ⟨by rw [List.length_cons]; omega, ?_⟩
      have : (n + (x :: r).length) = n + 1 + r.length := by rw [List.length_cons]; omega
      rw [this, h2]
      simp only [List.nodup_cons, List.mem_cons, not_or]
      refine ⟨fun ⟨a, b⟩ => ⟨⟨fun m => (b x m).1 rfl, a⟩, fun y m => ?_⟩, fun ⟨⟨a, b⟩, c⟩ => ⟨b, fun y m => ⟨fun z => a (z ▸ m), c y (.inr m)⟩⟩⟩
      rcases m with m | m
      · rw [m]; exact q
      · exact (b y m).2
theorem cntF_nodup {α : Type} [DecidableEq α] (l : List α) : cntF l < l.length ↔ ¬ l.Nodup := by
  obtain ⟨h1, h2⟩ := cnt_lt l [] 0
  unfold cntF
  have h3 : (l.foldl cntS ([], 0)).2 = 0 + l.length ↔ l.Nodup := by rw [h2]; simp
  rw [← h3]
  omega
theorem nodup_str (l : List Nme) : (l.map W.str).Nodup ↔ l.Nodup := by
  induction l with
  | nil => simp
  | cons x r ih => simp [ih]
def mentOk (ds : List Dn) (d : Dn) : Bool := (d.ex.men [.name, .last, .year]).all fun s => decide (s ∈ nms ds)
def fitsB (ds : List Dn) : Bool := (decide (1 ≤ ds.length) && decide (ds.length ≤ 16)) && (ds.all Dn.ok && (decide (nms ds).Nodup && (ds.all (mentOk ds) && (inOrder ds).isSome)))
theorem men_len {x : X} {ws : List Rw} (h : x.size ≤ 60) : (x.men ws).length ≤ big := by
  have h1 : (x.men ws).length ≤ x.refs.length := List.length_filterMap_le _ _
  have h2 : x.refs.length ≤ x.pre.length := by rw [refs_pre]; exact List.length_filterMap_le _ _
  rw [X.size_pre] at h2
  unfold big
  omega
theorem c_fitsRules (n : Nat) (ds : List Dn) (h : WH) (hf : ∀ d ∈ ds, d.fine) (hl : ds.length ≤ 1000) : callM (cal tx (n + 8)) .pure 84 [.tup (encD ds)] h = .ok (.bl (fitsB ds)) h := by
  refine call_pure (h' := []) (by simp [encD_pure]) ?_ (by simp)
  rw [run_succ e_fits_rules rfl]
  have c67 : tx.con 67 = some (.int 16) := rfl
  have hb : ds.length ≤ big := by unfold big; omega
  have pD := encD_pure ds
  have tB : isT (.tup (encD ds)) 1 16 = (decide (1 ≤ ds.length) && decide (ds.length ≤ 16)) := by
    simp only [isT, encD, List.length_map]
    congr 1 <;> (refine decide_eq_decide.mpr ?_; omega)
  have e1 : ∀ x h, ev (cal tx (n + 7)) (.comp [1] (.v 1) .seq [(.v 0)] (.k (.bl true)) (.call .pure 82 [(.v 1)])) [some (.tup (encD ds)), none, x, none] h = .ok (.lst (ds.map fun d => .bl d.ok)) h := fun x h => by
    simp only [encD]
    simp [ev_comp, hb]
    rw [cM_of (o := fun d => some (.bl d.ok)) (stands_any _ _ _ _ (by simp))]
    · simp
    · intro d m
      simp [turnC, c_fitsDn (n + 2) d _ (hf d m)]
  have a1 := op_all_map ds Dn.ok
  have e2 : ∀ x h, ev (cal tx (n + 7)) (.comp [1] (.v 1) .seq [(.v 0)] (.k (.bl true)) (.ix (.v 1) (.k (.int 1)))) [some (.tup (encD ds)), none, x, none] h = .ok (.lst ((nms ds).map .str)) h := fun x h => by
    simp only [encD]
    simp [ev_comp, hb]
    rw [cM_of (o := fun d => some (.str d.nm)) (stands_any _ _ _ _ (by simp))]
    · simp [nms]
    · intro d m
      simp [turnC, Dn.enc]
  have keys : keysW ((nms ds).map .str) = true := by simp [keysW, isKeyW]
  have e3 : opW .lset [.lst ((nms ds).map .str)] = some (.int (cntF ((nms ds).map W.str) : Nat)) := by
    simp only [opW, keys, Bool.true_and]
    rw [if_pos (by simp [nms]; omega)]
  have e4 : (nms ds).length = ds.length := by simp [nms]
  have e5 : ((cntF ((nms ds).map W.str) : Nat) : Int) < (((nms ds).map W.str).length : Int) ↔ ¬ (nms ds).Nodup := by
    rw [← nodup_str, ← cntF_nodup]
    omega
  have e6 : forL (stands .seq [.tup (encD ds)] (encD ds)) [1] (turnF (cal tx (n + 7)) (.v 1) [(.ite (.notE (.op .all [(.comp [3] (.v 3) .seq [(.call .pure 81 [(.ix (.v 1) (.k (.int 2))), (.tup [(.k (.str [110, 97, 109, 101])), (.k (.str [108, 97, 115, 116])), (.k (.str [121, 101, 97, 114]))])])] (.k (.bl true)) (.cmp .isin (.v 3) (.v 2)))])) [(.ret (.k (.bl false)))] [])]) (encD ds) [some (.tup (encD ds)), none, some (.lst ((nms ds).map .str)), none] [] =
      if ds.all (mentOk ds) = true then .nx [some (.tup (encD ds)), none, some (.lst ((nms ds).map .str)), none] [] else .rt (.bl false) [] := by
    rw [show forL (stands .seq [.tup (encD ds)] (encD ds)) [1] (turnF (cal tx (n + 7)) (.v 1) [(.ite (.notE (.op .all [(.comp [3] (.v 3) .seq [(.call .pure 81 [(.ix (.v 1) (.k (.int 2))), (.tup [(.k (.str [110, 97, 109, 101])), (.k (.str [108, 97, 115, 116])), (.k (.str [121, 101, 97, 114]))])])] (.k (.bl true)) (.cmp .isin (.v 3) (.v 2)))])) [(.ret (.k (.bl false)))] [])]) (encD ds) = forL (stands .seq [.tup (encD ds)] (encD ds)) [1] (turnF (cal tx (n + 7)) (.v 1) [(.ite (.notE (.op .all [(.comp [3] (.v 3) .seq [(.call .pure 81 [(.ix (.v 1) (.k (.int 2))), (.tup [(.k (.str [110, 97, 109, 101])), (.k (.str [108, 97, 115, 116])), (.k (.str [121, 101, 97, 114]))])])] (.k (.bl true)) (.cmp .isin (.v 3) (.v 2)))])) [(.ret (.k (.bl false)))] [])]) (ds.map Dn.enc) from rfl]
    rw [forL_find (σ0 := [some (.tup (encD ds)), none, some (.lst ((nms ds).map .str)), none]) (out := fun d => if mentOk ds d = true then none else some (.bl false)) (stands_any _ _ _ _ (by simp)) ds _ (by simp) fun d m => ?_]
    · cases q : ds.all (mentOk ds) with
      | true =>
        have : ds.findSome? (fun d => if mentOk ds d = true then none else some (W.bl false)) = none := by
          rw [List.findSome?_eq_none_iff]
          intro d m
          rw [if_pos (List.all_eq_true.mp q d m)]
        rw [this]
        simp
      | false =>
        have : ds.findSome? (fun d => if mentOk ds d = true then none else some (W.bl false)) = some (.bl false) := by
          obtain ⟨d, m, hd⟩ := List.all_eq_false.mp q
          cases z : ds.findSome? (fun d => if mentOk ds d = true then none else some (W.bl false)) with
          | none =>
            have := List.findSome?_eq_none_iff.mp z d m
            rw [if_neg hd] at this
            cases this
          | some w =>
            obtain ⟨d2, m2, hw⟩ := List.exists_of_findSome?_eq_some z
            split at hw
            · cases hw
            · cases hw; rfl
        rw [this]
        simp
    · have cm := fun h => c_mentioned (n + 2) d.ex [.name, .last, .year] h (hf d m).1 (hf d m).2.1
      simp only [List.map_cons, List.map_nil, Rw.s1, Rw.s3, Rw.s4] at cm
      have bm := men_len (x := d.ex) (ws := [.name, .last, .year]) (hf d m).2.1
      have hps : pureL ((nms ds).map W.str) = true := pureL_map _ _ fun _ _ => by simp
      have e7 : ∀ h, ev (cal tx (n + 7)) (.comp [3] (.v 3) .seq [(.call .pure 81 [(.ix (.v 1) (.k (.int 2))), (.tup [(.k (.str [110, 97, 109, 101])), (.k (.str [108, 97, 115, 116])), (.k (.str [121, 101, 97, 114]))])])] (.k (.bl true)) (.cmp .isin (.v 3) (.v 2))) [some (.tup (encD ds)), some d.enc, some (.lst ((nms ds).map .str)), none] h = .ok (.lst ((d.ex.men [.name, .last, .year]).map fun s => .bl (decide (s ∈ nms ds)))) h := fun h => by
        simp [ev_comp, Dn.enc, cm, bm]
        rw [cM_of (o := fun s => some (.bl (decide (s ∈ nms ds)))) (stands_any _ _ _ _ (by simp))]
        · simp
        · intro s _
          simp [turnC, hps, inStrs]
      have ea := op_all_map (d.ex.men [.name, .last, .year]) fun s => decide (s ∈ nms ds)
      refine ⟨fun q => ⟨[some (.tup (encD ds)), some d.enc, some (.lst ((nms ds).map .str)), none], ?_, by simp⟩, fun w q => ?_⟩
      · split at q
        · rename_i q2
          have q3 := q2
          simp only [mentOk] at q3
          simp [turnF, e7, ea, q3]
        · cases q
      · split at q
        · cases q
        · rename_i q2
          cases q
          have q3 : mentOk ds d = false := by simpa using q2
          simp only [mentOk] at q3
          simp [turnF, e7, ea, q3]
  have it : itemsOf [] .seq [.tup (encD ds)] = some (encD ds) := rfl
  cases b1 : (decide (1 ≤ ds.length) && decide (ds.length ≤ 16)) with
  | false =>
    rw [b1] at tB
    simp [d_fits_rules, startE, c_is_tuple, pD, c67, tB, fitsB, b1]
  | true =>
    rw [b1] at tB
    cases b2 : ds.all Dn.ok with
    | false =>
      rw [b2] at a1
      simp [d_fits_rules, startE, c_is_tuple, pD, c67, tB, e1, a1, fitsB, b1, b2]
    | true =>
      rw [b2] at a1
      by_cases b3 : (nms ds).Nodup
      · have e5' := mt e5.mp (not_not_intro b3)
        simp only [List.length_map] at e5'
        cases b4 : ds.all (mentOk ds) with
        | false =>
          rw [b4] at e6
          rw [if_neg Bool.false_ne_true] at e6
          have e6' := e6
          generalize hb : turnF (cal tx (n + 7)) (.v 1) [(.ite (.notE (.op .all [(.comp [3] (.v 3) .seq [(.call .pure 81 [(.ix (.v 1) (.k (.int 2))), (.tup [(.k (.str [110, 97, 109, 101])), (.k (.str [108, 97, 115, 116])), (.k (.str [121, 101, 97, 114]))])])] (.k (.bl true)) (.cmp .isin (.v 3) (.v 2)))])) [(.ret (.k (.bl false)))] [])] = tf at e6
          simp [d_fits_rules, startE, c_is_tuple, pD, c67, tB, e1, a1, e2, e3, e5', fitsB, b1, b2, b3, b4, exe_for, it, hb, e6]
        | true =>
          rw [b4] at e6
          rw [if_pos rfl] at e6
          generalize hb : turnF (cal tx (n + 7)) (.v 1) [(.ite (.notE (.op .all [(.comp [3] (.v 3) .seq [(.call .pure 81 [(.ix (.v 1) (.k (.int 2))), (.tup [(.k (.str [110, 97, 109, 101])), (.k (.str [108, 97, 115, 116])), (.k (.str [121, 101, 97, 114]))])])] (.k (.bl true)) (.cmp .isin (.v 3) (.v 2)))])) [(.ret (.k (.bl false)))] [])] = tf at e6
          have co := fun h => c_inorder n ds h hf b3 hl
          cases b5 : inOrder ds <;> simp [d_fits_rules, startE, c_is_tuple, pD, c67, tB, e1, a1, e2, e3, e5', fitsB, b1, b2, b3, b4, exe_for, it, hb, e6, co, b5, ordW]
      · have e5' := e5.mpr b3
        simp only [List.length_map] at e5'
        simp [d_fits_rules, startE, c_is_tuple, pD, c67, tB, e1, a1, e2, e3, e5', fitsB, b1, b2, b3]
theorem c_isRules (n : Nat) (ds : List Dn) (h : WH) (hf : ∀ d ∈ ds, d.fine) (hl : ds.length ≤ 1000) : callM (cal tx (n + 9)) .pure 86 [.tup (encD ds)] h = .ok (.bl (fitsB ds)) h := by
  refine call_pure (h' := []) (by simp [encD_pure]) ?_ (by simp)
  rw [run_succ e_is_rules rfl]
  simp [d_is_rules, startE, c_fitsRules n ds _ hf hl]
theorem c_isExpr (n : Nat) (x : X) (h : WH) (hw : x.wf false = true) (hs : x.size ≤ 60) (hh : x.high ≤ 8) : callM (cal tx (n + 5)) .pure 85 [x.enc] h = .ok (.bl true) h := by
  refine call_pure (h' := []) (by simp [X.enc_pure]) ?_ (by simp)
  rw [run_succ e_is_expression rfl]
  simp [d_is_expression, startE, c_expr n x _ hw hs hh]
/-! no order, some order -/
theorem ordGo_none {P : Nme → Bool} : ∀ (n : Nat) (fd lf : List Dn), lf.length ≤ n → (∀ s ∈ nms fd, P s = false) → (∃ d ∈ lf, P d.nm = true) → (∀ d ∈ lf, P d.nm = true → ∃ s ∈ d.ex.men [.name], P s = true) → ordGo n fd lf = none
  | n, fd, [], _, _, h, _ => by obtain ⟨d, m, _⟩ := h; simp at m
  | 0, fd, d :: r, hl, _, _, _ => by simp at hl
  | n + 1, fd, d :: r, hl, h1, h2, h3 => by
    rw [show ordGo (n + 1) fd (d :: r) = if ((d :: r).filter (rdy (nms fd))) = [] then none else ordGo n (fd ++ (d :: r).filter (rdy (nms fd))) ((d :: r).filter fun d => !rdy (nms fd) d) from rfl]
    by_cases q : (d :: r).filter (rdy (nms fd)) = []
    · rw [if_pos q]
    · rw [if_neg q]
      have nr : ∀ x ∈ d :: r, P x.nm = true → rdy (nms fd) x = false := fun x m px => by
        obtain ⟨s, ms, ps⟩ := h3 x m px
        cases z : rdy (nms fd) x with
        | false => rfl
        | true =>
          have := List.all_eq_true.mp z s ms
          have := h1 s (of_decide_eq_true this)
          rw [ps] at this
          cases this
      have fl := filter_len (rdy (nms fd)) (d :: r)
      have hpos : 0 < ((d :: r).filter (rdy (nms fd))).length := List.length_pos_iff.mpr q
      refine ordGo_none n _ _ (by omega) (fun s m => ?_) ?_ fun x m px => h3 x (List.mem_filter.mp m).1 px
      · simp only [nms, List.map_append, List.mem_append] at m
        rcases m with m | m
        · exact h1 s m
        · obtain ⟨x, mx, rfl⟩ := List.mem_map.mp m
          obtain ⟨m1, m2⟩ := List.mem_filter.mp mx
          cases z : P x.nm with
          | false => rfl
          | true =>
            have m3 : rdy (nms fd) x = true := m2
            rw [nr x m1 z] at m3
            cases m3
      · obtain ⟨x, mx, px⟩ := h2
        exact ⟨x, List.mem_filter.mpr ⟨mx, by rw [nr x mx px]; rfl⟩, px⟩
theorem ordGo_some {rank : Nme → Nat} : ∀ (n : Nat) (fd lf : List Dn), lf.length ≤ n → (∀ d ∈ lf, ∀ s ∈ d.ex.men [.name], (s ∈ nms fd ∨ s ∈ nms lf) ∧ rank s < rank d.nm) → ∃ o, ordGo n fd lf = some o
  | n, fd, [], _, _ => ⟨fd, by cases n <;> simp [ordGo]⟩
  | 0, fd, d :: r, hl, _ => by simp at hl
  | n + 1, fd, d :: r, hl, h => by
    rw [show ordGo (n + 1) fd (d :: r) = if ((d :: r).filter (rdy (nms fd))) = [] then none else ordGo n (fd ++ (d :: r).filter (rdy (nms fd))) ((d :: r).filter fun d => !rdy (nms fd) d) from rfl]
    have ex : ∀ l : List Dn, l ≠ [] → ∃ x ∈ l, ∀ y ∈ l, rank x.nm ≤ rank y.nm := by
      intro l
      induction l with
      | nil => intro h; exact absurd rfl h
      | cons a t ih =>
        intro _
        by_cases ht : t = []
        · subst ht; exact ⟨a, by simp, by simp⟩
        · obtain ⟨x, mx, hx⟩ := ih ht
          by_cases q : rank a.nm ≤ rank x.nm
          · refine ⟨a, by simp, fun y m => ?_⟩
            rcases List.mem_cons.mp m with m | m
            · rw [m]; exact Nat.le_refl _
            · have := hx y m; omega
          · refine ⟨x, by simp [mx], fun y m => ?_⟩
            rcases List.mem_cons.mp m with m | m
            · rw [m]; omega
            · exact hx y m
    obtain ⟨x, mx, hx⟩ := ex (d :: r) (by simp)
    have rx : rdy (nms fd) x = true := by
      refine List.all_eq_true.mpr fun s ms => ?_
      obtain ⟨h1, h2⟩ := h x mx s ms
      rcases h1 with h1 | h1
      · exact decide_eq_true h1
      · obtain ⟨y, my, rfl⟩ := List.mem_map.mp h1
        have := hx y my
        omega
    have q : (d :: r).filter (rdy (nms fd)) ≠ [] := fun z => by
      have := List.mem_filter.mpr ⟨mx, rx⟩
      rw [z] at this
      simp at this
    rw [if_neg q]
    have fl := filter_len (rdy (nms fd)) (d :: r)
    have hpos : 0 < ((d :: r).filter (rdy (nms fd))).length := List.length_pos_iff.mpr q
    refine ordGo_some (rank := rank) n _ _ (by omega) fun y my s ms => ?_
    obtain ⟨h1, h2⟩ := h y (List.mem_filter.mp my).1 s ms
    refine ⟨?_, h2⟩
    simp only [nms, List.map_append, List.mem_append]
    rcases h1 with h1 | h1
    · exact .inl (.inl h1)
    · obtain ⟨z, mz, rfl⟩ := List.mem_map.mp h1
      cases qz : rdy (nms fd) z
      · have q5 : (!rdy (nms fd) z) = true := by rw [qz]; rfl
        exact .inr (List.mem_map_of_mem (List.mem_filter.mpr ⟨mz, q5⟩))
      · exact .inl (.inr (List.mem_map_of_mem (List.mem_filter.mpr ⟨mz, qz⟩)))
theorem no_order {P : Nme → Bool} {ds : List Dn} (h2 : ∃ d ∈ ds, P d.nm = true) (h3 : ∀ d ∈ ds, P d.nm = true → ∃ s ∈ d.ex.men [.name], P s = true) : inOrder ds = none :=
  ordGo_none ds.length [] ds (Nat.le_refl _) (by simp [nms]) h2 h3
theorem some_order {rank : Nme → Nat} {ds : List Dn} (h : ∀ d ∈ ds, ∀ s ∈ d.ex.men [.name], s ∈ nms ds ∧ rank s < rank d.nm) : (inOrder ds).isSome = true := by
  obtain ⟨o, e⟩ := ordGo_some (rank := rank) ds.length [] ds (Nat.le_refl _) fun d m s ms => ⟨.inr (h d m s ms).1, (h d m s ms).2⟩
  unfold inOrder
  rw [e]
  rfl
end Ru

namespace Ru
open Y Tx Gp
/-! random rules -/
theorem eCup : tx.df 16 = some dCup := rfl
theorem eRoll : tx.df 17 = some dRoll := rfl
theorem eSome : tx.df 18 = some (dSome 17) := rfl
def namesW (ns : List Nme) : W := .lst (ns.map .str)
structure Gx (ns : List Nme) (t : Bool) (sz hi : Nat) (x : X) : Prop where
  wf : x.wf t = true
  sz : x.size ≤ sz
  hi : x.high ≤ hi
  rf : ∀ p ∈ x.refs, p.1 = .fact ∨ p.1 = .name ∧ p.2 ∈ ns
def GW (ns : List Nme) (t : Bool) (sz hi : Nat) (w : W) : Prop := ∃ x, w = x.enc ∧ Gx ns t sz hi x
abbrev exprS (m : Nat) (ns : List Nme) (d : Int) (sz hi : Nat) : Prop := ∀ (t h : WH), Icup t h → Ok (run tx m 87 [.ref 0, namesW ns, .int d] h) fun w h' => GW ns false sz hi w ∧ Icup t h'
abbrev testS (m : Nat) (ns : List Nme) (d : Int) (sz hi : Nat) : Prop := ∀ (t h : WH), Icup t h → Ok (run tx m 88 [.ref 0, namesW ns, .int d] h) fun w h' => GW ns true sz hi w ∧ Icup t h'
structure NsOk (ns : List Nme) : Prop where
  ok : ∀ s ∈ ns, nmOk s = true
  len : ns.length ≤ 100
theorem leafE (n : Nat) {ns : List Nme} (h : NsOk ns) (d : Int) {t h0 : WH} (w : W) (i : Icup t h0) (tail : List S) {r : W → WH → Prop} {σ3 : Env} (k : ∀ w h', GW ns false 1 1 w → Icup t h' → r w h') :
    Fo (exs (cal tx (n + 2)) [(.asg (.v 4) (.lst [(.tup [(.k (.str [110, 117, 109])), (.call .heap 18 [(.v 0), (.lst [(.k (.int 0)), (.k (.int 1)), (.k (.int 2)), (.k (.int 7)), (.k (.int 100)), (.k (.int 999999999))])])]), (.tup [(.k (.str [102, 97, 99, 116])), (.call .heap 18 [(.v 0), (.lst [(.k (.str [104])), (.k (.str [107]))])])]), (.tup [(.k (.str [109, 111, 110, 116, 104]))]), (.tup [(.k (.str [102, 97, 99, 116])), (.k (.str [104]))])])), (.ret (.call .heap 18 [(.v 0), (.ife (.cmp .ne (.v 1) (.lst [])) (.bin .add (.v 4) (.bin .mul (.lst [(.tup [(.k (.str [110, 97, 109, 101])), (.call .heap 18 [(.v 0), (.v 1)])])]) (.k (.int 2)))) (.v 4))]))]
      [some (.ref 0), some (namesW ns), some (.int d), some w, none, none, none, none, none] h0) (fun _ _ => False) r := by
  have hk : nmOk [104] = true := by decide
  have kk : nmOk [107] = true := by decide
  simp
  refine Ok_some eRoll eSome (fun w => ∃ v, w = .int v ∧ 0 ≤ v ∧ v ≤ 999999999) (by simp) (by simp) i (by simp) fun w1 h1 ⟨v, e, v0, v1⟩ i1 => ?_
  subst e
  refine Ok_some eRoll eSome (fun w => ∃ s, w = .str s ∧ nmOk s = true) (by simp) (by simp) i1 (by simp [hk, kk]) fun w2 h2 ⟨s, e, s1⟩ i2 => ?_
  subst e
  have g1 : GW ns false 1 1 (.tup [.str [110, 117, 109], .int v]) := ⟨.num v, rfl, by simp [X.wf, X.own, v0, v1], by simp [X.size], by simp [X.high], by simp [X.refs]⟩
  have g2 : GW ns false 1 1 (.tup [.str [102, 97, 99, 116], .str s]) := ⟨.ref .fact s, rfl, by simp [X.wf, X.own, s1], by simp [X.size], by simp [X.high], by simp [X.refs]⟩
  have g3 : GW ns false 1 1 (.tup [.str [109, 111, 110, 116, 104]]) := ⟨.mon, rfl, by simp [X.wf], by simp [X.size], by simp [X.high], by simp [X.refs]⟩
  have g4 : GW ns false 1 1 (.tup [.str [102, 97, 99, 116], .str [104]]) := ⟨.ref .fact [104], rfl, by simp [X.wf, X.own, hk], by simp [X.size], by simp [X.high], by simp [X.refs]⟩
  simp only [namesW]
  cases ns with
  | nil =>
    simp
    exact Ok_some eRoll eSome (GW [] false 1 1) (by simp) (by simp) i2 (fun w m => by
      simp only [List.mem_cons, List.not_mem_nil, or_false] at m
      rcases m with rfl | rfl | rfl | rfl
      · exact g1
      · exact g2
      · exact g3
      · exact g4) fun w h' a b => k w h' a b
  | cons n0 ns =>
    have hp : pureL (ns.map W.str) = true := pureL_map _ _ fun _ _ => by simp
    simp [hp]
    refine Ok_some eRoll eSome (fun w => ∃ s, w = .str s ∧ s ∈ n0 :: ns) (by simp) (by have := h.len; simp at this ⊢; omega) i2 (fun w m => ?_) fun w3 h3 ⟨s', e, ms⟩ i3 => ?_
    · rcases List.mem_cons.mp m with m | m
      · exact ⟨n0, m, by simp⟩
      · obtain ⟨x, mx, rfl⟩ := List.mem_map.mp m
        exact ⟨x, rfl, by simp [mx]⟩
    · subst e
      have g5 : GW (n0 :: ns) false 1 1 (.tup [.str [110, 97, 109, 101], .str s']) := ⟨.ref .name s', rfl, by simp [X.wf, X.own, h.ok s' ms], by simp [X.size], by simp [X.high], by simp [X.refs, List.mem_cons.mp ms]⟩
      have em : ∀ w, binW .mul (.lst [w]) (.int 2) = some (.lst [w, w]) := fun w => rfl
      have ea : ∀ a b c d e f, binW .add (.lst [a, b, c, d]) (.lst [e, f]) = some (.lst [a, b, c, d, e, f]) := fun _ _ _ _ _ _ => rfl
      simp [em, ea]
      exact Ok_some eRoll eSome (GW (n0 :: ns) false 1 1) (by simp) (by simp) i3 (fun w m => by
        simp only [List.mem_cons, List.not_mem_nil, or_false] at m
        rcases m with rfl | rfl | rfl | rfl | rfl | rfl
        · exact g1
        · exact g2
        · exact g3
        · exact g4
        · exact g5
        · exact g5) fun w h' a b => k w h' a b
end Ru

namespace Ru
open Y Tx Gp
theorem Gx.mono {ns : List Nme} {t : Bool} {s1 h1 s2 h2 : Nat} {x : X} (g : Gx ns t s1 h1 x) (a : s1 ≤ s2) (b : h1 ≤ h2) : Gx ns t s2 h2 x := ⟨g.wf, Nat.le_trans g.sz a, Nat.le_trans g.hi b, g.rf⟩
theorem GW.mono {ns : List Nme} {t : Bool} {s1 h1 s2 h2 : Nat} {w : W} (g : GW ns t s1 h1 w) (a : s1 ≤ s2) (b : h1 ≤ h2) : GW ns t s2 h2 w := by
  obtain ⟨x, e, g⟩ := g
  exact ⟨x, e, g.mono a b⟩
def leafB : List S := [(.asg (.v 4) (.lst [(.tup [(.k (.str [110, 117, 109])), (.call .heap 18 [(.v 0), (.lst [(.k (.int 0)), (.k (.int 1)), (.k (.int 2)), (.k (.int 7)), (.k (.int 100)), (.k (.int 999999999))])])]), (.tup [(.k (.str [102, 97, 99, 116])), (.call .heap 18 [(.v 0), (.lst [(.k (.str [104])), (.k (.str [107]))])])]), (.tup [(.k (.str [109, 111, 110, 116, 104]))]), (.tup [(.k (.str [102, 97, 99, 116])), (.k (.str [104]))])])), (.ret (.call .heap 18 [(.v 0), (.ife (.cmp .ne (.v 1) (.lst [])) (.bin .add (.v 4) (.bin .mul (.lst [(.tup [(.k (.str [110, 97, 109, 101])), (.call .heap 18 [(.v 0), (.v 1)])])]) (.k (.int 2)))) (.v 4))]))]
theorem exprBody : d__law_expression.body = [(.asg (.v 3) (.call .heap 17 [(.v 0), (.k (.int 16))])), (.ite (.orL [(.cmp .eq (.v 2) (.k (.int 0))), (.cmp .lt (.v 3) (.k (.int 5)))]) leafB [])] ++ d__law_expression.body.drop 2 := rfl
theorem expr_zero (n : Nat) {ns : List Nme} (hn : NsOk ns) : exprS (n + 3) ns 0 1 1 := fun t h i => by
  refine Ok_run e__law_expression rfl ?_
  rw [exprBody]
  generalize hB : leafB = B
  generalize d__law_expression.body.drop 2 = tl
  have hst : startE d__law_expression.ns [.ref 0, namesW ns, .int 0] = [some (.ref 0), some (namesW ns), some (.int 0), none, none, none, none, none, none] := rfl
  rw [hst]
  try simp
  refine Ok_roll eRoll (by decide) (by decide) i fun r h1 r0 r1 i1 => ?_
  try simp
  subst hB
  exact (leafE n hn 0 (.int r) i1 [] (σ3 := []) fun w h' a b => ⟨a, b⟩).imp (fun _ _ z => z.elim) fun _ _ z => z
theorem expr_step (m : Nat) {ns : List Nme} (hn : NsOk ns) (d : Int) (hd : 1 ≤ d) {s1 h1 ts th : Nat} (E1 : exprS (m + 2) ns (d - 1) s1 h1) (T1 : testS (m + 2) ns (d - 1) ts th) (E0 : exprS (m + 2) ns 0 1 1) : exprS (m + 3) ns d (ts + 2 * s1 + 3) (max th (max h1 1) + 1) := fun t h i => by
  refine Ok_run e__law_expression rfl ?_
  rw [exprBody]
  generalize hB : leafB = B
  generalize htl : d__law_expression.body.drop 2 = tl
  have hst : startE d__law_expression.ns [.ref 0, namesW ns, .int d] = [some (.ref 0), some (namesW ns), some (.int d), none, none, none, none, none, none] := rfl
  rw [hst]
  have d0 : ¬ d = 0 := by omega
  have nv : ∀ h, view h (namesW ns) = namesW ns := fun _ => rfl
  try simp
  refine Ok_roll eRoll (by decide) (by decide) i fun r h1' r0 r1 i1 => ?_
  by_cases q5 : r < 5
  · simp [d0, q5]
    subst hB
    exact (leafE (m) hn d (.int r) i1 [] (σ3 := []) fun w h' a b => ⟨a.mono (by omega) (by omega), b⟩).imp (fun _ _ z => z.elim) fun _ _ z => z
  · simp [d0, q5]
    subst htl
    by_cases q9 : r < 9
    · simp [d__law_expression, q9]
      refine Ok_some eRoll eSome (fun w => ∃ o : O2, w = .str o.s) (by simp) (by simp) i1 (fun w mw => by
        simp only [List.mem_cons, List.not_mem_nil, or_false] at mw
        rcases mw with rfl | rfl | rfl | rfl | rfl | rfl
        · exact ⟨.plus, by simp⟩
        · exact ⟨.minus, by simp⟩
        · exact ⟨.times, by simp⟩
        · exact ⟨.min, by simp⟩
        · exact ⟨.max, by simp⟩
        · exact ⟨.plus, by simp⟩) fun w2 h2 ⟨o, e⟩ i2 => ?_
      subst e
      refine (E1 _ _ i2).imp fun w3 h3 ⟨⟨a, e, ga⟩, i3⟩ => ?_
      subst e
      refine (E1 _ _ i3).imp fun w4 h4 ⟨⟨b, e, gb⟩, i4⟩ => ?_
      subst e
      refine ⟨⟨.two o a b, rfl, by simp [X.wf, ga.wf, gb.wf], ?_, ?_, ?_⟩, i4⟩
      · have := ga.sz; have := gb.sz; simp only [X.size]; omega
      · have := ga.hi; have := gb.hi; simp only [X.high]; omega
      · intro p mp
        rcases List.mem_append.mp mp with mp | mp
        · exact ga.rf p mp
        · exact gb.rf p mp
    · by_cases q11 : r < 11
      · simp [d__law_expression, q9, q11]
        refine (E1 _ _ i1).imp fun w3 h3 ⟨⟨a, e, ga⟩, i3⟩ => ?_
        subst e
        refine (T1 _ _ i3).imp fun w4 h4 ⟨⟨u, e, gu⟩, i4⟩ => ?_
        subst e
        try simp
        refine (E1 _ _ i4).imp fun w5 h5 ⟨⟨b, e, gb⟩, i5⟩ => ?_
        subst e
        refine ⟨⟨.ite u a b, rfl, by simp [X.wf, ga.wf, gb.wf, gu.wf], ?_, ?_, ?_⟩, i5⟩
        · have := ga.sz; have := gb.sz; have := gu.sz; simp only [X.size]; omega
        · have := ga.hi; have := gb.hi; have := gu.hi; simp only [X.high]; omega
        · intro p mp
          rcases List.mem_append.mp mp with mp | mp
          · exact gu.rf p mp
          · rcases List.mem_append.mp mp with mp | mp
            · exact ga.rf p mp
            · exact gb.rf p mp
      · by_cases e11 : r = 11
        · subst e11
          simp [d__law_expression]
          refine (E1 _ _ i1).imp fun w3 h3 ⟨⟨a, e, ga⟩, i3⟩ => ?_
          subst e
          refine ⟨⟨.neg a, rfl, by simp [X.wf, ga.wf], ?_, ?_, ga.rf⟩, i3⟩
          · have := ga.sz; simp only [X.size]; omega
          · have := ga.hi; simp only [X.high]; omega
        · by_cases e12 : r = 12
          · subst e12
            simp [d__law_expression]
            refine Ok_some eRoll eSome (fun w => ∃ ls rs : List Int, w = .tup (isI ls) ∧ bandsOk ls rs = true ∧ slW (.tup [.int 1000, .int 2500, .int 10000]) none (some (1 + ls.length)) = some (.tup (isI rs))) (by simp) (by simp) i1 (fun w mw => by
              simp only [List.mem_cons, List.not_mem_nil, or_false] at mw
              rcases mw with rfl | rfl | rfl
              · exact ⟨[], [1000], rfl, by decide, rfl⟩
              · exact ⟨[10], [1000, 2500], rfl, by decide, rfl⟩
              · exact ⟨[5, 100], [1000, 2500, 10000], rfl, by decide, rfl⟩) fun w2 h2 ⟨ls, rs, e, hb, es⟩ i2 => ?_
            subst e
            refine (E1 _ _ i2).imp fun w3 h3 ⟨⟨a, e, ga⟩, i3⟩ => ?_
            subst e
            simp [partI, es]
            refine ⟨⟨.bands a ls rs, rfl, by simp [X.wf, X.own, ga.wf, hb], ?_, ?_, ga.rf⟩, i3⟩
            · have := ga.sz; simp only [X.size]; omega
            · have := ga.hi; simp only [X.high]; omega
          · simp [d__law_expression, q9, q11, e11, e12]
            refine Ok_some eRoll eSome (GW ns false 1 1) (by simp) (by simp) i1 (fun w mw => by
              simp only [List.mem_cons, List.not_mem_nil, or_false] at mw
              rcases mw with rfl | rfl | rfl
              · exact ⟨.num 3, rfl, by simp [X.wf, X.own], by simp [X.size], by simp [X.high], by simp [X.refs]⟩
              · exact ⟨.num 2, rfl, by simp [X.wf, X.own], by simp [X.size], by simp [X.high], by simp [X.refs]⟩
              · exact ⟨.ref .fact [107], rfl, by decide, by simp [X.size], by simp [X.high], by simp [X.refs]⟩) fun w2 h2 ⟨b, e, gb⟩ i2 => ?_
            subst e
            refine (E1 _ _ i2).imp fun w3 h3 ⟨⟨a, e, ga⟩, i3⟩ => ?_
            subst e
            refine (E0 _ _ i3).imp fun w4 h4 ⟨⟨c, e, gc⟩, i4⟩ => ?_
            subst e
            try simp
            refine ⟨⟨.part a c b, rfl, by simp [X.wf, ga.wf, gb.wf, gc.wf], ?_, ?_, ?_⟩, i4⟩
            · have := ga.sz; have := gb.sz; have := gc.sz; simp only [X.size]; omega
            · have := ga.hi; have := gb.hi; have := gc.hi; simp only [X.high]; omega
            · intro p mp
              rcases List.mem_append.mp mp with mp | mp
              · exact ga.rf p mp
              · rcases List.mem_append.mp mp with mp | mp
                · exact gc.rf p mp
                · exact gb.rf p mp
theorem test_base (m : Nat) {ns : List Nme} (d : Int) (E0 : exprS (m + 2) ns 0 1 1) {t h : WH} (i : Icup t h) {r : W → WH → Prop} (k : ∀ w h', GW ns true 3 2 w → Icup t h' → r w h') :
    Fo (exs (cal tx (m + 2)) (d__law_drawn_test.body.drop 1) [some (.ref 0), some (namesW ns), some (.int d), none, none] h) (fun _ _ => False) r := by
  simp [d__law_drawn_test]
  refine Ok_some eRoll eSome (fun w => ∃ o : C3, w = .str o.s) (by simp) (by simp) i (fun w mw => by
    simp only [List.mem_cons, List.not_mem_nil, or_false] at mw
    rcases mw with rfl | rfl | rfl
    · exact ⟨.below, by simp⟩
    · exact ⟨.most, by simp⟩
    · exact ⟨.same, by simp⟩) fun w2 h2 ⟨o, e⟩ i2 => ?_
  subst e
  refine (E0 _ _ i2).imp fun w3 h3 ⟨⟨a, e, ga⟩, i3⟩ => ?_
  subst e
  refine (E0 _ _ i3).imp fun w4 h4 ⟨⟨b, e, gb⟩, i4⟩ => ?_
  subst e
  refine k _ _ ⟨.cmp o a b, rfl, by simp [X.wf, ga.wf, gb.wf], ?_, ?_, ?_⟩ i4
  · have := ga.sz; have := gb.sz; simp only [X.size]; omega
  · have := ga.hi; have := gb.hi; simp only [X.high]; omega
  · intro p mp
    rcases List.mem_append.mp mp with mp | mp
    · exact ga.rf p mp
    · exact gb.rf p mp
theorem testBody : d__law_drawn_test.body = d__law_drawn_test.body.take 1 ++ d__law_drawn_test.body.drop 1 := (List.take_append_drop 1 _).symm
theorem test_zero (m : Nat) {ns : List Nme} (E0 : exprS (m + 2) ns 0 1 1) : testS (m + 3) ns 0 3 2 := fun t h i => by
  refine Ok_run e__law_drawn_test rfl ?_
  rw [testBody]
  generalize htl : d__law_drawn_test.body.drop 1 = tl
  have hst : startE d__law_drawn_test.ns [.ref 0, namesW ns, .int 0] = [some (.ref 0), some (namesW ns), some (.int 0), none, none] := rfl
  rw [hst, exs_app]
  simp [d__law_drawn_test]
  subst htl
  exact (test_base m 0 E0 i fun w h' a b => ⟨a, b⟩).imp (fun _ _ z => z.elim) fun _ _ z => z
theorem test_step (m : Nat) {ns : List Nme} (d : Int) (hd : 1 ≤ d) (E0 : exprS (m + 2) ns 0 1 1) {ts th : Nat} (T1 : testS (m + 2) ns (d - 1) ts th) (T0 : testS (m + 2) ns 0 3 2) : testS (m + 3) ns d (ts + 4) (max th 2 + 1) := fun t h i => by
  refine Ok_run e__law_drawn_test rfl ?_
  rw [testBody]
  generalize htl : d__law_drawn_test.body.drop 1 = tl
  have hst : startE d__law_drawn_test.ns [.ref 0, namesW ns, .int d] = [some (.ref 0), some (namesW ns), some (.int d), none, none] := rfl
  have d0 : 0 < d := by omega
  rw [hst, exs_app]
  simp [d__law_drawn_test, d0]
  refine Ok_roll eRoll (by decide) (by decide) i fun r h1 r0 r1 i1 => ?_
  by_cases q : r = 0
  · subst q
    try simp
    refine (T1 _ _ i1).imp fun w2 h2 ⟨⟨a, e, ga⟩, i2⟩ => ?_
    subst e
    try simp
    refine (T0 _ _ i2).imp fun w3 h3 ⟨⟨b, e, gb⟩, i3⟩ => ?_
    subst e
    try simp
    refine (T0 _ _ i3).imp fun w4 h4 ⟨⟨c, e, gc⟩, i4⟩ => ?_
    subst e
    have za := ga.sz
    have zb := gb.sz
    have zc := gc.sz
    have ya := ga.hi
    have yb := gb.hi
    have yc := gc.hi
    exact Ok_some eRoll eSome (GW ns true (ts + 4) (max th 2 + 1)) (by simp) (by simp) i4 (fun w mw => by
      simp only [List.mem_cons, List.not_mem_nil, or_false] at mw
      rcases mw with rfl | rfl | rfl
      · exact ⟨.not a, rfl, by simp [X.wf, ga.wf], by simp only [X.size]; omega, by simp only [X.high]; omega, ga.rf⟩
      · refine ⟨.join .and a b, rfl, by simp [X.wf, ga.wf, gb.wf], by simp only [X.size]; omega, by simp only [X.high]; omega, fun p mp => ?_⟩
        rcases List.mem_append.mp mp with mp | mp
        · exact ga.rf p mp
        · exact gb.rf p mp
      · refine ⟨.join .or a c, rfl, by simp [X.wf, ga.wf, gc.wf], by simp only [X.size]; omega, by simp only [X.high]; omega, fun p mp => ?_⟩
        rcases List.mem_append.mp mp with mp | mp
        · exact ga.rf p mp
        · exact gc.rf p mp) fun w h' a b => ⟨a, b⟩
  · simp [q]
    subst htl
    exact (test_base m d E0 i1 fun w h' a b => ⟨a.mono (by omega) (by omega), b⟩).imp (fun _ _ z => z.elim) fun _ _ z => z
/-- an expression as rules have it -/
theorem o_expr2 (n : Nat) {ns : List Nme} (hn : NsOk ns) : exprS (n + 6) ns 2 26 4 := by
  have e0 := fun n => expr_zero n hn
  have t0 := fun n => test_zero (n + 1) (e0 n)
  have e1 := fun n => expr_step (n + 2) hn 1 (by decide) (e0 (n + 1)) (t0 n) (e0 (n + 1))
  have t1 := fun n => test_step (n + 2) 1 (by decide) (e0 (n + 1)) (t0 n) (t0 n)
  have e2 := expr_step (n + 3) hn 2 (by decide) (e1 n) (t1 n) (e0 (n + 2))
  exact fun t h i => (e2 t h i).imp fun w h ⟨a, b⟩ => ⟨a.mono (by decide) (by decide), b⟩
end Ru

namespace Ru
open Y Tx Gp
def nmI (i : Nat) : Nme := [97 + i]
def rng (j : Nat) : List Nme := (List.range j).map nmI
structure GD (m j : Nat) (d : Dn) : Prop where
  k : kindOk d.kind = true
  wf : d.ex.wf false = true
  sz : d.ex.size ≤ 30
  hi : d.ex.high ≤ 5
  rf : ∃ i, i < j ∧ d.nm = nmI i ∧ ∀ p ∈ d.ex.refs, p.1 = .fact ∨ (p.1 = .name ∧ ∃ c, c < i ∧ p.2 = nmI c) ∨ ((p.1 = .last ∨ p.1 = .year) ∧ ∃ c, c < m ∧ p.2 = nmI c)
structure GR (m j : Nat) (ds : List Dn) : Prop where
  perm : (nms ds).Perm (rng j)
  all : ∀ d ∈ ds, GD m j d
theorem rng_ok {j : Nat} (h : j ≤ 5) : ∀ s ∈ rng j, nmOk s = true := fun s m => by
  obtain ⟨i, mi, rfl⟩ := List.mem_map.mp m
  have : i < j := by simpa using mi
  have : i = 0 ∨ i = 1 ∨ i = 2 ∨ i = 3 ∨ i = 4 := by omega
  rcases this with rfl | rfl | rfl | rfl | rfl <;> decide
theorem rng_take {m j : Nat} (h : j ≤ m) : (rng m).take j = rng j := by
  unfold rng
  rw [← List.map_take, List.take_range, Nat.min_eq_left h]
theorem rng_len (j : Nat) : (rng j).length = j := by simp [rng]
theorem GD.up {m j : Nat} {d : Dn} (g : GD m j d) : GD m (j + 1) d := ⟨g.k, g.wf, g.sz, g.hi, by
  obtain ⟨i, a, b, c⟩ := g.rf
  exact ⟨i, by omega, b, c⟩⟩
theorem cut_takeR {α : Type} (xs : List α) (k : Int) (h : 0 ≤ k) : cutL xs none (some k) = xs.take k.toNat := by
  unfold cutL sIx
  have : ¬ k < 0 := by omega
  simp only [this, if_false, List.drop_zero, Nat.sub_zero]
  by_cases q : k.toNat ≤ xs.length
  · rw [Nat.min_eq_left q]
  · rw [Nat.min_eq_right (by omega), List.take_of_length_le (Nat.le_refl _), List.take_of_length_le (by omega)]
def rulesTl : List S := [(.asg (.v 6) (.tup [(.call .heap 18 [(.v 0), (.lst [(.k (.int 0)), (.k (.int 0)), (.k (.int 1)), (.k (.int 2)), (.k (.int 3)), (.k (.int 4)), (.k (.int 5)), (.k (.int 6)), (.k (.int 9))])]), (.v 4), (.v 5)])), (.asg (.v 2) (.ife (.cmp .eq (.call .heap 17 [(.v 0), (.k (.int 2))]) (.k (.int 0))) (.bin .add (.tup [(.v 6)]) (.v 2)) (.bin .add (.v 2) (.tup [(.v 6)]))))]
theorem o_rules (n : Nat) {t h : WH} (i : Icup t h) : Ok (run tx (n + 7) 89 [.ref 0] h) fun w h' => (∃ m ds, 2 ≤ m ∧ m ≤ 5 ∧ w = .tup (encD ds) ∧ GR m m ds) ∧ Icup t h' := by
  refine Ok_run e__law_rules rfl ?_
  have hst : startE d__law_rules.ns [.ref 0] = [some (.ref 0), none, none, none, none, none, none] := rfl
  rw [hst]
  refine Fo_split 2 ?_
  simp [d__law_rules, partI]
  refine Ok_roll eRoll (by decide) (by decide) i fun r h1 r0 r1 i1 => ?_
  obtain ⟨m, hm⟩ : ∃ m : Nat, 2 + r = (m : Int) := ⟨(2 + r).toNat, by omega⟩
  have m2 : 2 ≤ m ∧ m ≤ 5 := by omega
  have es : slW (.lst [W.str [97], W.str [98], W.str [99], W.str [100], W.str [101]]) none (some (2 + r)) = some (namesW (rng m)) := by
    rw [hm]
    have : m = 2 ∨ m = 3 ∨ m = 4 ∨ m = 5 := by omega
    rcases this with rfl | rfl | rfl | rfl <;> rfl
  simp [es]
  have nv : ∀ h, view h (namesW (rng m)) = namesW (rng m) := fun _ => rfl
  have it : ∀ h, itemsOf h .enum [namesW (rng m)] = some ((rng m).zipIdx.map fun p => .tup [.int p.2, .str p.1]) := fun h => by
    simp only [namesW, items_enum_l, enumL_m]
  simp only [exe_for, evs_cons', ev_v, getV_zero, getV_succ, R.bind_ok, evs_nil', R.flow_ok, it, Fo_seq]
  refine Fo_rep (fun j σ h => (∃ ds, GR m j ds ∧ σ = [some (.ref 0), some (namesW (rng m)), some (.tup (encD ds)), none, none, none, none]) ∧ Icup t h) _ _ _ (fun _ _ _ _ => stands_any _ _ _ _ (by simp [namesW])) ⟨⟨[], ⟨by simp [nms, rng], fun d m => by simp at m⟩, by simp [encD]⟩, i1⟩ (fun j w σ h hj hw hi => ?_) (fun σ h hi => ?_)
  · obtain ⟨⟨ds, g, rfl⟩, i2⟩ := hi
    have hj2 : j < m := by simpa [rng_len] using hj
    have ew : w = .tup [.int j, .str (nmI j)] := by
      simp only [List.getElem?_map, Option.map_eq_some_iff] at hw
      obtain ⟨p, e1, e2⟩ := hw
      rw [List.getElem?_zipIdx] at e1
      simp only [rng, List.getElem?_map, List.getElem?_range hj2, Option.map_some, Option.some.injEq] at e1
      rw [← e2, ← e1]
      try simp
    subst ew
    have sl : slW (namesW (rng m)) none (some (j : Int)) = some (namesW (rng j)) := by
      simp only [namesW, slW, cut_takeR _ _ (show (0 : Int) ≤ j by omega), Int.toNat_natCast]
      rw [← List.map_take, rng_take (by omega)]
    have nsj : NsOk (rng j) := ⟨rng_ok (by omega), by rw [rng_len]; omega⟩
    have gl : ds.length = j := by have := g.perm.length_eq; simpa [nms, rng_len] using this
    unfold turnF
    have ea : asgT h (.t [.v 3, .v 4]) (.tup [.int j, .str (nmI j)]) [some (.ref 0), some (namesW (rng m)), some (.tup (encD ds)), none, none, none, none] = some [some (.ref 0), some (namesW (rng m)), some (.tup (encD ds)), some (.int j), some (.str (nmI j)), none, none] := by simp
    rw [ea]
    simp only
    have key : ∀ (y : X) (h3 : WH), Icup t h3 → y.wf false = true → y.size ≤ 30 → y.high ≤ 5 → (∀ p ∈ y.refs, p.1 = .fact ∨ (p.1 = .name ∧ ∃ c, c < j ∧ p.2 = nmI c) ∨ ((p.1 = .last ∨ p.1 = .year) ∧ ∃ c, c < m ∧ p.2 = nmI c)) →
        Fo (exs (cal tx (n + 6)) rulesTl
          [some (.ref 0), some (namesW (rng m)), some (.tup (encD ds)), some (.int j), some (.str (nmI j)), some y.enc, none] h3) (fun σ' h' => (∃ ds, GR m (j + 1) ds ∧ wipE σ' [3, 4, 5, 6] = [some (.ref 0), some (namesW (rng m)), some (.tup (encD ds)), none, none, none, none]) ∧ Icup t h') fun w h' => (∃ m ds, 2 ≤ m ∧ m ≤ 5 ∧ w = .tup (encD ds) ∧ GR m m ds) ∧ Icup t h' := fun y h3 i4 y1 y2 y3 y4 => by
      simp [rulesTl]
      refine Ok_some eRoll eSome (fun w => ∃ k, w = .int k ∧ kindOk k = true) (by simp) (by simp) i4 (by simp; decide) fun w4 h4 ⟨k, e, hk⟩ i5 => ?_
      subst e
      refine Ok_roll eRoll (by decide) (by decide) i5 fun b h5 b0 b1 i6 => ?_
      have gd : GD m (j + 1) ⟨k, nmI j, y⟩ := ⟨hk, y1, y2, y3, j, by omega, rfl, y4⟩
      have pr : (rng (j + 1)) = rng j ++ [nmI j] := by simp [rng, List.range_succ]
      have c1 : 1 + (encD ds).length ≤ big := by simp [encD, gl]; unfold big; omega
      have b2 : (encD ds).length + 1 ≤ big := by omega
      by_cases q : b = 0
      · subst q
        have e1 : [W.tup [W.int k, W.str (nmI j), y.enc]] ++ encD ds = encD (⟨k, nmI j, y⟩ :: ds) := rfl
        have ba : binW .add (.tup [W.tup [W.int k, W.str (nmI j), y.enc]]) (.tup (encD ds)) = some (.tup (encD (⟨k, nmI j, y⟩ :: ds))) := bin_addt _ _ (by simp only [List.length_singleton]; exact c1)
        simp [ba]
        refine ⟨⟨⟨k, nmI j, y⟩ :: ds, ⟨?_, fun d md => ?_⟩, rfl⟩, i6⟩
        · rw [pr]
          show (nmI j :: nms ds).Perm _
          exact (List.Perm.cons _ g.perm).trans (List.perm_append_singleton _ _).symm
        · rcases List.mem_cons.mp md with md | md
          · rw [md]; exact gd
          · exact (g.all d md).up
      · simp [q, b2]
        refine ⟨⟨ds ++ [⟨k, nmI j, y⟩], ⟨?_, fun d md => ?_⟩, by simp [encD, Dn.enc]⟩, i6⟩
        · rw [pr]
          simp only [nms, List.map_append, List.map_cons, List.map_nil]
          exact List.Perm.append_right _ g.perm
        · rcases List.mem_append.mp md with md | md
          · exact (g.all d md).up
          · rw [List.mem_singleton.mp md]; exact gd
    change Fo (exs (cal tx (n + 6)) ([(.asg (.v 5) (.call .heap 87 [(.v 0), (.sl (.v 1) (.k .non) (.v 3)), (.k (.int 2))])), (.ite (.cmp .eq (.call .heap 17 [(.v 0), (.k (.int 4))]) (.k (.int 0))) [(.asg (.v 5) (.tup [(.k (.str [112, 108, 117, 115])), (.v 5), (.tup [(.call .heap 18 [(.v 0), (.lst [(.k (.str [108, 97, 115, 116])), (.k (.str [121, 101, 97, 114]))])]), (.call .heap 18 [(.v 0), (.v 1)])])]))] [])] ++ rulesTl) _ _) _ _
    generalize rulesTl = tl at key ⊢
    rw [exs_app]
    simp [partI, nv, sl]
    refine (o_expr2 n nsj _ _ i2).imp fun w1 h2 ⟨⟨x, e, gx⟩, i3⟩ => ?_
    subst e
    have rfx : ∀ p ∈ x.refs, p.1 = .fact ∨ (p.1 = .name ∧ ∃ c, c < j ∧ p.2 = nmI c) ∨ ((p.1 = .last ∨ p.1 = .year) ∧ ∃ c, c < m ∧ p.2 = nmI c) := fun p mp => by
      rcases gx.rf p mp with q | ⟨q1, q2⟩
      · exact .inl q
      · obtain ⟨c, mc, ec⟩ := List.mem_map.mp q2
        exact .inr (.inl ⟨q1, c, by simpa using mc, ec.symm⟩)
    have zx := gx.sz
    have yx := gx.hi
    try simp
    refine Ok_roll eRoll (by decide) (by decide) i3 fun b h5 b0 b1 i6 => ?_
    by_cases q : b = 0
    · subst q
      try simp
      refine Ok_some eRoll eSome (fun w => ∃ u : Rw, w = .str u.s ∧ (u = .last ∨ u = .year)) (by simp) (by simp) i6 (fun w mw => by
        simp only [List.mem_cons, List.not_mem_nil, or_false] at mw
        rcases mw with rfl | rfl
        · exact ⟨.last, by simp, .inl rfl⟩
        · exact ⟨.year, by simp, .inr rfl⟩) fun w4 h4 ⟨u, e, hu⟩ i7 => ?_
      subst e
      simp only [namesW]
      refine Ok_some eRoll eSome (fun w => ∃ c, c < m ∧ w = .str (nmI c)) (by simp [rng]; omega) (by simp [rng_len]; omega) i7 (fun w mw => by
        obtain ⟨s, ms, rfl⟩ := List.mem_map.mp mw
        obtain ⟨c, mc, rfl⟩ := List.mem_map.mp ms
        exact ⟨c, by simpa using mc, rfl⟩) fun w5 h6 ⟨c, hc, e⟩ i8 => ?_
      subst e
      try simp
      refine (key (.two .plus x (.ref u (nmI c))) _ i8 ?_ ?_ ?_ fun p mp => ?_).imp (fun σ' h' z => by simpa [namesW] using z) fun w h' ⟨⟨m', ds', z1, z2, z3, z4⟩, z5⟩ => ⟨⟨m', z1, z2, ds', z3, z4⟩, z5⟩
      · have := rng_ok m2.2 (nmI c) (List.mem_map_of_mem (by simpa using hc))
        simp [X.wf, X.own, gx.wf, this]
      · simp only [X.size]; omega
      · simp only [X.high]; omega
      · rcases List.mem_append.mp mp with mp | mp
        · exact rfx p mp
        · have : p = (u, nmI c) := by simpa [X.refs] using mp
          subst this
          exact .inr (.inr ⟨hu, c, hc, rfl⟩)
    · simp [q]
      exact (key x _ i6 gx.wf (by omega) (by omega) rfx).imp (fun σ' h' z => by simpa using z) fun w h' ⟨⟨m', ds', z1, z2, z3, z4⟩, z5⟩ => ⟨⟨m', z1, z2, ds', z3, z4⟩, z5⟩
  · obtain ⟨⟨ds, g, rfl⟩, i2⟩ := hi
    simp only [List.length_map, List.length_zipIdx, rng_len] at g
    try simp
    exact ⟨⟨m, m2.1, m2.2, ds, rfl, g⟩, i2⟩
end Ru

namespace Ru
open Y Tx Gp
/-! random rules are rules, and what is near them is none -/
def zz : Nme := [122, 122]
def yy : Nme := [121, 121]
def xx : Nme := [120, 120]
theorem nmI_inj {a b : Nat} (h : nmI a = nmI b) : a = b := by simp [nmI] at h; exact h
section
variable {m : Nat} {ds : List Dn}
theorem gr_len (g : GR m m ds) : ds.length = m := by have := g.perm.length_eq; simpa [nms, rng_len] using this
theorem gr_mem (g : GR m m ds) (s : Nme) : s ∈ nms ds ↔ ∃ c, c < m ∧ s = nmI c := by
  rw [g.perm.mem_iff]
  simp only [rng, List.mem_map, List.mem_range]
  exact ⟨fun ⟨c, a, b⟩ => ⟨c, a, b.symm⟩, fun ⟨c, a, b⟩ => ⟨c, a, b.symm⟩⟩
theorem gr_nodup (g : GR m m ds) : (nms ds).Nodup := by
  rw [g.perm.nodup_iff]
  exact List.Pairwise.map _ (fun a b h e => h (nmI_inj e)) List.nodup_range
theorem gr_fine (g : GR m m ds) (hm : m ≤ 5) : ∀ d ∈ ds, d.fine := fun d md => by
  have G := g.all d md
  obtain ⟨i, _, e, _⟩ := G.rf
  exact ⟨G.wf, by have := G.sz; omega, by have := G.hi; omega, by rw [e]; simp [nmI]⟩
theorem gr_ok (g : GR m m ds) (hm : m ≤ 5) : ds.all Dn.ok = true := List.all_eq_true.mpr fun d md => by
  have G := g.all d md
  obtain ⟨i, hi, e, _⟩ := G.rf
  have := rng_ok hm (nmI i) (List.mem_map_of_mem (by simpa using hi))
  simp only [Dn.ok, G.k, e, this, Bool.and_self]
theorem two_not (g : GR m m ds) {s : Nme} (h : s.length = 2) : s ∉ nms ds := fun ms => by
  obtain ⟨c, _, e⟩ := (gr_mem g s).mp ms
  rw [e] at h
  simp [nmI] at h
theorem men_mem {x : X} {ws : List Rw} {s : Nme} : s ∈ x.men ws ↔ ∃ p ∈ x.refs, p.1 ∈ ws ∧ p.2 = s := by
  simp only [X.men, List.mem_filterMap]
  refine ⟨fun ⟨p, mp, h⟩ => ?_, fun ⟨p, mp, h1, h2⟩ => ⟨p, mp, by rw [if_pos h1, h2]⟩⟩
  split at h
  · rename_i q
    exact ⟨p, mp, q, by simpa using h⟩
  · cases h
theorem gr_ment (g : GR m m ds) : ∀ d ∈ ds, ∀ s ∈ d.ex.men [.name, .last, .year], s ∈ nms ds := fun d md s ms => by
  obtain ⟨p, mp, h1, h2⟩ := men_mem.mp ms
  obtain ⟨i, hi, e, hr⟩ := (g.all d md).rf
  rw [gr_mem g]
  rcases hr p mp with q | ⟨q, c, hc, ec⟩ | ⟨q, c, hc, ec⟩
  · rw [q] at h1; simp at h1
  · exact ⟨c, by omega, by rw [← h2, ec]⟩
  · exact ⟨c, hc, by rw [← h2, ec]⟩
def rankN : Nme → Nat
  | [c] => c
  | s => if s = zz then 1000 else 1001
theorem gr_rank (g : GR m m ds) : ∀ d ∈ ds, ∀ s ∈ d.ex.men [.name], rankN s < rankN d.nm := fun d md s ms => by
  obtain ⟨p, mp, h1, h2⟩ := men_mem.mp ms
  obtain ⟨i, hi, e, hr⟩ := (g.all d md).rf
  have h1 : p.1 = .name := by simpa using h1
  rcases hr p mp with q | ⟨q, c, hc, ec⟩ | ⟨q, c, hc, ec⟩
  · rw [q] at h1; cases h1
  · rw [← h2, ec, e]
    simp [rankN, nmI]
    exact hc
  · rw [h1] at q
    rcases q with q | q <;> cases q
theorem men_sub {x : X} {ws us : List Rw} (h : ∀ w ∈ ws, w ∈ us) : ∀ s ∈ x.men ws, s ∈ x.men us := fun s ms => by
  obtain ⟨p, mp, h1, h2⟩ := men_mem.mp ms
  exact men_mem.mpr ⟨p, mp, h _ h1, h2⟩
theorem gr_fits (g : GR m m ds) (h2 : 2 ≤ m) (hm : m ≤ 5) : fitsB ds = true := by
  have hl := gr_len g
  simp only [fitsB, Bool.and_eq_true, decide_eq_true_eq]
  refine ⟨⟨by omega, by omega⟩, gr_ok g hm, gr_nodup g, List.all_eq_true.mpr fun d md => List.all_eq_true.mpr fun s ms => decide_eq_true (gr_ment g d md s ms), ?_⟩
  exact some_order (rank := rankN) fun d md s ms => ⟨gr_ment g d md s (men_sub (by simp) s ms), gr_rank g d md s ms⟩
theorem nms_app (a b : List Dn) : nms (a ++ b) = nms a ++ nms b := by simp [nms]
theorem gr_more (g : GR m m ds) (h2 : 2 ≤ m) (hm : m ≤ 5) {s : Nme} (hs : s ∈ nms ds) : fitsB (ds ++ [⟨9, zz, .two .plus (.ref .last zz) (.ref .year s)⟩, ⟨0, yy, .ref .name zz⟩]) = true := by
  have hl := gr_len g
  have n1 := two_not g (s := zz) rfl
  have n2 := two_not g (s := yy) rfl
  have ment : ∀ d ∈ ds ++ [⟨9, zz, .two .plus (.ref .last zz) (.ref .year s)⟩, ⟨0, yy, .ref .name zz⟩], ∀ q ∈ d.ex.men [.name, .last, .year], q ∈ nms (ds ++ [⟨9, zz, .two .plus (.ref .last zz) (.ref .year s)⟩, ⟨0, yy, .ref .name zz⟩]) := fun d md q mq => by
    rw [nms_app, List.mem_append]
    rcases List.mem_append.mp md with md | md
    · exact .inl (gr_ment g d md q mq)
    · simp only [List.mem_cons, List.not_mem_nil, or_false] at md
      rcases md with rfl | rfl
      · simp [X.men, X.refs] at mq
        rcases mq with rfl | rfl
        · exact .inr (by simp [nms])
        · exact .inl hs
      · simp [X.men, X.refs] at mq
        subst mq
        exact .inr (by simp [nms])
  simp only [fitsB, Bool.and_eq_true, decide_eq_true_eq]
  refine ⟨⟨by simp, by simp; omega⟩, ?_, ?_, List.all_eq_true.mpr fun d md => List.all_eq_true.mpr fun s ms => decide_eq_true (ment d md s ms), ?_⟩
  · rw [List.all_append, gr_ok g hm]
    have k9 : kindOk 9 = true := by decide
    have k0 : kindOk 0 = true := by decide
    have nz : nmOk zz = true := by decide
    have ny : nmOk yy = true := by decide
    simp [Dn.ok, k9, k0, nz, ny]
  · rw [nms_app]
    refine List.nodup_append.mpr ⟨gr_nodup g, (by simp [nms, zz, yy]), fun a ha b hb e => ?_⟩
    subst e
    simp only [nms, List.map_cons, List.map_nil, List.mem_cons, List.not_mem_nil, or_false] at hb
    rcases hb with rfl | rfl
    · exact n1 ha
    · exact n2 ha
  · refine some_order (rank := rankN) fun d md q mq => ⟨ment d md q (men_sub (by simp) q mq), ?_⟩
    rcases List.mem_append.mp md with md | md
    · exact gr_rank g d md q mq
    · simp only [List.mem_cons, List.not_mem_nil, or_false] at md
      rcases md with rfl | rfl
      · simp [X.men, X.refs] at mq
      · simp [X.men, X.refs] at mq
        subst mq
        decide
theorem fitsB_nodup {l : List Dn} (h : ¬ (nms l).Nodup) : fitsB l = false := by
  cases q : fitsB l with
  | false => rfl
  | true =>
    simp only [fitsB, Bool.and_eq_true, decide_eq_true_eq] at q
    exact absurd q.2.2.1 h
theorem fitsB_ok {l : List Dn} {d : Dn} (m : d ∈ l) (h : d.ok = false) : fitsB l = false := by
  cases q : fitsB l with
  | false => rfl
  | true =>
    simp only [fitsB, Bool.and_eq_true, decide_eq_true_eq] at q
    rw [List.all_eq_true.mp q.2.1 d m] at h
    cases h
theorem fitsB_ment {l : List Dn} {d : Dn} {s : Nme} (m : d ∈ l) (h : s ∈ d.ex.men [.name, .last, .year]) (n : s ∉ nms l) : fitsB l = false := by
  cases q : fitsB l with
  | false => rfl
  | true =>
    simp only [fitsB, Bool.and_eq_true, decide_eq_true_eq] at q
    exact absurd (of_decide_eq_true (List.all_eq_true.mp (List.all_eq_true.mp q.2.2.2.1 d m) s h)) n
theorem fitsB_order {l : List Dn} (h : inOrder l = none) : fitsB l = false := by
  simp [fitsB, h]
theorem near_un (g : GR m m ds) {x : X} (h : ∃ p ∈ x.refs, p.1 ∈ [Rw.name, .last, .year] ∧ p.2 = yy) : fitsB (ds ++ [⟨9, zz, x⟩]) = false := by
  refine fitsB_ment (d := ⟨9, zz, x⟩) (s := yy) (by simp) (men_mem.mpr h) ?_
  rw [nms_app, List.mem_append]
  rintro (q | q)
  · exact two_not g rfl q
  · simp [nms, zz, yy] at q
theorem near_ring (g : GR m m ds) {e : List Dn} (P : Nme → Bool) (h0 : ∀ s, P s = true → s.length = 2) (h1 : ∃ d ∈ e, P d.nm = true) (h2 : ∀ d ∈ e, P d.nm = true → ∃ s ∈ d.ex.men [.name], P s = true) : fitsB (ds ++ e) = false := by
  refine fitsB_order (no_order (P := P) ?_ fun d md hd => ?_)
  · obtain ⟨d, md, hd⟩ := h1
    exact ⟨d, by simp [md], hd⟩
  · rcases List.mem_append.mp md with md | md
    · exact absurd (List.mem_map_of_mem md) (two_not g (h0 _ hd))
    · exact h2 d md hd
theorem near_self (g : GR m m ds) {x : X} (h : (Rw.name, zz) ∈ x.refs) : fitsB (ds ++ [⟨9, zz, x⟩]) = false := by
  refine near_ring g (fun s => decide (s = zz)) (fun s hs => by rw [of_decide_eq_true hs]; rfl) ⟨_, List.mem_cons_self, by simp⟩ fun d md hd => ?_
  rw [List.mem_singleton.mp md]
  exact ⟨zz, men_mem.mpr ⟨_, h, by simp, rfl⟩, by simp⟩
/-! what is near -/
def wraps (i : X) : List X := [i, .ite (.cmp .same i (.num 1)) (.num 1) (.num 1), .ite (.not (.join .or (.cmp .same i (.num 1)) (.cmp .same i (.num 1)))) (.num 1) (.num 1), .bands i [] [1], .part (.num 1) (.num 1) i, .two .times (.num 1) i]
def wrapD (i : X) : List (List Dn) := (wraps i).map fun x => [⟨9, zz, x⟩]
def near0 (f : Nme) : List (List Dn) := [[⟨9, f, .mon⟩], [⟨9, zz, .ref .last yy⟩], [⟨9, zz, .ref .name zz⟩], [⟨7, zz, .mon⟩], [⟨9, zz, .two .plus (.ref .name yy) (.num 1)⟩, ⟨9, yy, .neg (.ref .name zz)⟩],
  [⟨9, zz, .ite (.cmp .same (.num 1) (.num 2)) (.ref .name zz) (.num 1)⟩]]
def inners : List X := [.ref .name yy, .ref .year yy, .ref .name zz]
def near1 : List (List Dn) := [[⟨9, xx, .ref .name yy⟩, ⟨9, yy, .ref .name zz⟩, ⟨9, zz, .ref .name xx⟩]]
def nears (f : Nme) : List (List Dn) := near0 f ++ (inners.flatMap wrapD ++ near1)
theorem wraps_refs (i : X) : ∀ x ∈ wraps i, ∀ p ∈ i.refs, p ∈ x.refs := fun x mx p mp => by
  simp only [wraps, List.mem_cons, List.not_mem_nil, or_false] at mx
  rcases mx with rfl | rfl | rfl | rfl | rfl | rfl <;> simp [X.refs, mp]
theorem nears_no (g : GR m m ds) {f : Nme} (hf : f ∈ nms ds) : ∀ e ∈ nears f, fitsB (ds ++ e) = false := fun e me => by
  simp only [nears, List.mem_append, List.mem_flatMap] at me
  rcases me with me | ⟨i, mi, me⟩ | me
  · simp only [near0, List.mem_cons, List.not_mem_nil, or_false] at me
    rcases me with rfl | rfl | rfl | rfl | rfl | rfl
    · refine fitsB_nodup fun nd => ?_
      rw [nms_app] at nd
      exact (List.nodup_append.mp nd).2.2 f hf f (by simp [nms]) rfl
    · exact near_un g ⟨(.last, yy), by simp [X.refs], by simp, rfl⟩
    · exact near_self g (by simp [X.refs])
    · exact fitsB_ok (d := ⟨7, zz, .mon⟩) (by simp) (by decide)
    · refine near_ring g (fun s => decide (s = zz) || decide (s = yy)) (fun s hs => ?_) ⟨_, List.mem_cons_self, by decide⟩ fun d md hd => ?_
      · simp only [Bool.or_eq_true, decide_eq_true_eq] at hs
        rcases hs with rfl | rfl <;> rfl
      · simp only [List.mem_cons, List.not_mem_nil, or_false] at md
        rcases md with rfl | rfl
        · exact ⟨yy, men_mem.mpr ⟨(.name, yy), by simp [X.refs], by simp, rfl⟩, by decide⟩
        · exact ⟨zz, men_mem.mpr ⟨(.name, zz), by simp [X.refs], by simp, rfl⟩, by decide⟩
    · exact near_self g (by simp [X.refs])
  · obtain ⟨x, mx, rfl⟩ := List.mem_map.mp me
    have w := wraps_refs i x mx
    simp only [inners, List.mem_cons, List.not_mem_nil, or_false] at mi
    rcases mi with rfl | rfl | rfl
    · exact near_un g ⟨(.name, yy), w _ (by simp [X.refs]), by simp, rfl⟩
    · exact near_un g ⟨(.year, yy), w _ (by simp [X.refs]), by simp, rfl⟩
    · exact near_self g (w _ (by simp [X.refs]))
  · simp only [near1, List.mem_cons, List.not_mem_nil, or_false] at me
    subst me
    refine near_ring g (fun s => decide (s = xx) || (decide (s = zz) || decide (s = yy))) (fun s hs => ?_) ⟨_, List.mem_cons_self, by decide⟩ fun d md hd => ?_
    · simp only [Bool.or_eq_true, decide_eq_true_eq] at hs
      rcases hs with rfl | rfl | rfl <;> rfl
    · simp only [List.mem_cons, List.not_mem_nil, or_false] at md
      rcases md with rfl | rfl | rfl
      · exact ⟨yy, men_mem.mpr ⟨(.name, yy), by simp [X.refs], by simp, rfl⟩, by decide⟩
      · exact ⟨zz, men_mem.mpr ⟨(.name, zz), by simp [X.refs], by simp, rfl⟩, by decide⟩
      · exact ⟨xx, men_mem.mpr ⟨(.name, xx), by simp [X.refs], by simp, rfl⟩, by decide⟩
theorem nears_fine {f : Nme} (hf : f.length ≤ 1000) : ∀ e ∈ nears f, ∀ d ∈ e, d.fine := fun e me d md => by
  have key : ∀ d ∈ (nears f).flatten, d.ex.wf false = true ∧ d.ex.size ≤ 60 ∧ d.ex.high ≤ 8 := by
    simp [nears, near0, near1, inners, wrapD, wraps, X.wf, X.own, X.size, X.high, zz, yy, xx, nmOk, letters, bandsOk]
  have h1 := key d (List.mem_flatten.mpr ⟨e, me, md⟩)
  refine ⟨h1.1, h1.2.1, h1.2.2, ?_⟩
  have k2 : ∀ d ∈ (nears f).flatten, d.nm = f ∨ d.nm.length = 2 := by
    simp [nears, near0, near1, inners, wrapD, wraps, zz, yy, xx]
  rcases k2 d (List.mem_flatten.mpr ⟨e, me, md⟩) with q | q
  · rw [q]; exact hf
  · omega
end
end Ru

namespace So
open Y Tx Gp Ru
/-! first orders: what stands behind names -/
def menW (x : X) : W := .lst ((x.men [.name]).map W.str)
theorem menW_pure (x : X) : pureW (menW x) = true := by
  simp only [menW, pure_lst]
  exact pureL_map _ _ fun _ _ => by simp
theorem men_le {x : X} (hs : x.size ≤ 60) : (x.men [.name]).length ≤ 60 := by
  have h1 : (x.men [.name]).length ≤ x.refs.length := List.length_filterMap_le _ _
  have h2 : x.refs.length ≤ x.pre.length := by rw [refs_pre]; exact List.length_filterMap_le _ _
  rw [X.size_pre] at h2
  omega
theorem men_app (a b : X) (l : List (Rw × Nme)) : (a.refs ++ l).filterMap (fun p => if p.1 ∈ [Rw.name] then some p.2 else none) = a.men [.name] ++ l.filterMap (fun p => if p.1 ∈ [Rw.name] then some p.2 else none) := by simp [X.men]
theorem sl_1 (a : W) (r : List W) : slW (.tup (a :: r)) (some 1) none = some (.tup r) := by
  have : min (Int.toNat 1) (r.length + 1) = 1 := by simp
  simp [slW, cutL, sIx, this]
theorem sl_12 (a b : W) (r : List W) : slW (.tup (a :: b :: r)) (some 1) (some 2) = some (.tup [b]) := by
  have e1 : min (Int.toNat 1) (r.length + 1 + 1) = 1 := by simp
  have e2 : min (Int.toNat 2) (r.length + 1 + 1) = 2 := by simp
  simp [slW, cutL, sIx, e1, e2]
def menL (l : List X) : List Nme := l.flatMap fun y => y.men [.name]
theorem menL_le : ∀ {l : List X}, (∀ y ∈ l, y.size ≤ 60) → (menL l).length ≤ 60 * l.length
  | [], _ => by simp [menL]
  | y :: r, h => by
    have h1 := men_le (h y (by simp))
    have h2 := menL_le (l := r) fun z m => h z (List.mem_cons_of_mem _ m)
    simp only [menL, List.flatMap_cons, List.length_append, List.length_cons] at h2 ⊢
    omega
theorem men_loop {m n : Nat} (IH : ∀ (y : X), y.high ≤ m → y.size ≤ 60 → ∀ h, callM (cal tx (n + (m + 1))) .pure 103 [y.enc, .tup [.str [110, 97, 109, 101]]] h = .ok (menW y) h) (l : List X) (hl : ∀ y ∈ l, y.high ≤ m ∧ y.size ≤ 60) (hz : l.length ≤ 3) (x : W) (ck : WH → Bool) (hck : ck [] = true) :
    forL ck [3] (turnF (cal tx (n + (m + 1))) (.v 3) [.asg (.v 2) (.bin .add (.v 2) (.call .pure 103 [.v 3, .v 1]))]) (l.map X.enc) [some x, some (.tup [.str [110, 97, 109, 101]]), some (.lst []), none] [] =
      .nx [some x, some (.tup [.str [110, 97, 109, 101]]), some (.lst ((menL l).map W.str)), none] [] := by
  refine forL_run (sg := fun d => [some x, some (.tup [.str [110, 97, 109, 101]]), some (.lst ((menL d).map W.str)), none]) (hg := fun _ => []) (fun _ => hck) (by simp [menL]) rfl fun a y b e => ?_
  have my : y ∈ l := by rw [e]; simp
  have i1 := IH y (hl y my).1 (hl y my).2
  have b1 := men_le (hl y my).2
  have b2 := menL_le (l := a) fun z mz => (hl z (by rw [e]; simp [mz])).2
  have b3 : a.length ≤ 3 := by rw [e] at hz; simp at hz; omega
  have b4 : (menL a).length + (y.men [.name]).length ≤ big := by unfold big; omega
  simp only [menW] at i1
  refine ⟨[some x, some (.tup [.str [110, 97, 109, 101]]), some (.lst ((menL (a ++ [y])).map W.str)), some y.enc], ?_, by simp⟩
  have e2 : menL (a ++ [y]) = menL a ++ y.men [.name] := by simp [menL]
  rw [e2]
  simp [turnF, i1, b4]
theorem c_lawMen : ∀ (m : Nat) (x : X), x.high ≤ m → x.size ≤ 60 → ∀ (n : Nat) (h : WH), callM (cal tx (n + m + 1)) .pure 103 [x.enc, .tup [.str [110, 97, 109, 101]]] h = .ok (menW x) h := by
  intro m
  induction m with
  | zero => intro x hx; exact absurd hx (by cases x <;> simp [X.high])
  | succ m ih =>
    intro x hx hs n h
    refine call_pure (h' := []) (by simp [X.enc_pure]) ?_ (menW_pure x)
    rw [run_succ e__law_mentions rfl]
    have L := men_loop (m := m) (n := n) fun y hy hz h => ih y hy hz n h
    have st : ∀ (w : W) (items : List W), isRef w = false → stands .seq [w] items [] = true := fun w items hw => stands_any _ _ _ _ (by simp [hw])
    cases x with
    | num z => simp [d__law_mentions, startE, menW, X.men, X.refs]
    | mon => simp [d__law_mentions, startE, menW, X.men, X.refs]
    | ref w s => cases w <;> simp [d__law_mentions, startE, menW, X.men, X.refs]
    | neg a =>
      simp only [X.high, X.size] at hx hs
      have L1 := L [a] (by simp; omega) (by simp) (X.neg a).enc
      simp only [List.map_cons, List.map_nil, X.enc] at L1
      simp [d__law_mentions, startE, partI, sl_1, exe_for, L1, menW, menL, X.men, X.refs]
    | two o a b =>
      simp only [X.high, X.size] at hx hs
      have L1 := L [a, b] (by simp; omega) (by simp) (X.two o a b).enc
      simp only [List.map_cons, List.map_nil, X.enc] at L1
      cases o <;> simp at L1 <;> simp [d__law_mentions, startE, partI, sl_1, exe_for, L1, menW, menL, X.men, X.refs]
    | part a b c =>
      simp only [X.high, X.size] at hx hs
      have L1 := L [a, b, c] (by simp; omega) (by simp) (X.part a b c).enc
      simp only [List.map_cons, List.map_nil, X.enc] at L1
      simp [d__law_mentions, startE, partI, sl_1, exe_for, L1, menW, menL, X.men, X.refs]
    | bands a ls rs =>
      simp only [X.high, X.size] at hx hs
      have L1 := L [a] (by simp; omega) (by simp) (X.bands a ls rs).enc
      simp only [List.map_cons, List.map_nil, X.enc] at L1
      simp [d__law_mentions, startE, partI, sl_12, exe_for, L1, menW, menL, X.men, X.refs]
    | ite t a b =>
      simp only [X.high, X.size] at hx hs
      have L1 := L [t, a, b] (by simp; omega) (by simp) (X.ite t a b).enc
      simp only [List.map_cons, List.map_nil, X.enc] at L1
      simp [d__law_mentions, startE, partI, sl_1, exe_for, L1, menW, menL, X.men, X.refs]
    | cmp o a b =>
      simp only [X.high, X.size] at hx hs
      have L1 := L [a, b] (by simp; omega) (by simp) (X.cmp o a b).enc
      simp only [List.map_cons, List.map_nil, X.enc] at L1
      cases o <;> simp at L1 <;> simp [d__law_mentions, startE, partI, sl_1, exe_for, L1, menW, menL, X.men, X.refs]
    | not a =>
      simp only [X.high, X.size] at hx hs
      have L1 := L [a] (by simp; omega) (by simp) (X.not a).enc
      simp only [List.map_cons, List.map_nil, X.enc] at L1
      simp [d__law_mentions, startE, partI, sl_1, exe_for, L1, menW, menL, X.men, X.refs]
    | join o a b =>
      simp only [X.high, X.size] at hx hs
      have L1 := L [a, b] (by simp; omega) (by simp) (X.join o a b).enc
      simp only [List.map_cons, List.map_nil, X.enc] at L1
      cases o <;> simp at L1 <;> simp [d__law_mentions, startE, partI, sl_1, exe_for, L1, menW, menL, X.men, X.refs]
end So

namespace So
open Y Tx Gp Ru
/-! dicts of what stands behind names -/
def behK (ds : List Dn) : List (W × W) := ds.map fun d => (.str d.nm, menW d.ex)
def bhv (ds : List Dn) (s : Nme) : List Nme := match ds.find? (fun d => decide (d.nm = s)) with
  | some d => d.ex.men [.name]
  | none => []
theorem getD_none : ∀ {k : W} {l : List (W × W)}, (∀ p ∈ l, p.1 ≠ k) → getD k l = none
  | _, [], _ => rfl
  | k, (c, w) :: r, h => by
    have := h (c, w) (by simp)
    simp only at this
    simp only [getD, this, if_false]
    exact getD_none fun p m => h p (List.mem_cons_of_mem _ m)
theorem mergeD_new : ∀ {more acc : List (W × W)}, (∀ p ∈ more, ∀ q ∈ acc, q.1 ≠ p.1) → (more.map (·.1)).Nodup → mergeD acc more = acc ++ more
  | [], acc, _, _ => by simp [mergeD]
  | (k, w) :: r, acc, h, nd => by
    simp only [List.map_cons, List.nodup_cons] at nd
    have e : putD k w acc = acc ++ [(k, w)] := by
      simp [putD, getD_none (k := k) (l := acc) fun q m => h (k, w) (by simp) q m]
    rw [mergeD, e, mergeD_new (more := r) (acc := acc ++ [(k, w)]) (fun p m q mq => ?_) nd.2]
    · simp
    · rcases List.mem_append.mp mq with mq | mq
      · exact h p (List.mem_cons_of_mem _ m) q mq
      · rw [List.mem_singleton.mp mq]
        exact fun z => nd.1 (by rw [show k = p.1 from z]; exact List.mem_map_of_mem m)
theorem behK_keys (ds : List Dn) : (behK ds).map (·.1) = (nms ds).map W.str := by simp [behK, nms, Function.comp_def]
theorem behK_nd {ds : List Dn} (nd : (nms ds).Nodup) : ((behK ds).map (·.1)).Nodup := by
  rw [behK_keys]
  have inj : ∀ l : List Nme, l.Nodup → (l.map W.str).Nodup := by
    intro l
    induction l with
    | nil => intro _; simp
    | cons x r ih =>
      intro h
      obtain ⟨h1, h2⟩ := List.nodup_cons.mp h
      rw [List.map_cons, List.nodup_cons]
      refine ⟨fun z => ?_, ih h2⟩
      obtain ⟨y, my, e⟩ := List.mem_map.mp z
      cases e
      exact h1 my
  exact inj _ nd
theorem behK_get (s : Nme) : ∀ (ds : List Dn), s ∈ nms ds → getD (.str s) (behK ds) = some (.lst ((bhv ds s).map W.str))
  | [], h => by simp [nms] at h
  | d :: r, h => by
    by_cases q : d.nm = s
    · subst q; simp [behK, getD, bhv, menW]
    · have q2 : s ∈ nms r := by
        simp only [nms, List.map_cons, List.mem_cons] at h
        rcases h with h | h
        · exact absurd h.symm q
        · exact h
      have ih := behK_get s r q2
      simp only [behK] at ih
      simp [behK, getD, bhv, q, ih]
theorem vL_strs : ∀ l : List Nme, vL (l.map W.str) = true
  | [] => rfl
  | x :: r => by simp only [List.map_cons, vL, vW, vL_strs r, Bool.and_self]
theorem behK_v (ds : List Dn) : vW (.dct false (behK ds)) = true := by
  simp only [vW]
  induction ds with
  | nil => rfl
  | cons d r ih =>
    simp only [behK, List.map_cons, vD, Bool.and_eq_true] at ih ⊢
    exact ⟨by simp only [menW, vW, vL_strs], ih⟩
theorem pairsW_beh : ∀ ds : List Dn, pairsW (ds.map fun d => .tup [.str d.nm, menW d.ex]) = some (behK ds)
  | [] => rfl
  | d :: r => by
    simp only [List.map_cons, pairsW, isKeyW, if_true, pairsW_beh r]
    rfl
theorem fine_len {d : Dn} (h : d.fine) : (d.ex.men [.name]).length ≤ 60 := men_le h.2.1
theorem c_nowBehind (n : Nat) (ds : List Dn) (h : WH) (hf : ∀ d ∈ ds, d.fine) (hl : ds.length ≤ 1000) (nd : (nms ds).Nodup) : callM (cal tx (n + 6)) .pure 211 [.tup (encD ds)] h = .ok (.dct false (behK ds)) h := by
  have key : run tx (n + 6) 211 [.tup (encD ds)] [] = .ok (.dct false (behK ds)) [] := by
    rw [run_succ e_now_behind rfl]
    have hb : ds.length ≤ big := by unfold big; omega
    have ec : ev (cal tx (n + 5)) (.comp [1] (.v 1) .seq [(.v 0)] (.k (.bl true)) (.tup [(.ix (.v 1) (.k (.int 1))), (.call .pure 81 [(.ix (.v 1) (.k (.int 2))), (.tup [(.k (.str [110, 97, 109, 101]))])])])) [some (.tup (encD ds)), none] [] = .ok (.lst (ds.map fun d => .tup [.str d.nm, menW d.ex])) [] := by
      simp [ev_comp, encD, hb]
      rw [cM_of (o := fun d => some (.tup [.str d.nm, menW d.ex])) (stands_any _ _ _ _ (by simp))]
      · simp
      · intro d m
        have hd := hf d m
        have cm := fun h => c_mentioned n d.ex [.name] h hd.1 hd.2.1
        simp only [List.map_cons, List.map_nil, Rw.s1] at cm
        simp [turnC, Dn.enc, cm, menW]
    have em := mergeD_new (acc := []) (more := behK ds) (by simp) (behK_nd nd)
    simp only [List.nil_append] at em
    simp [d_now_behind, startE, ec, pairsW_beh, em]
  exact call_of (by simp [encD_pure]) key (frz_vW _ _ _ (behK_v ds))
theorem c_lawBehind (n : Nat) (ds : List Dn) (h : WH) (hf : ∀ d ∈ ds, d.fine) (hl : ds.length ≤ 1000) (nd : (nms ds).Nodup) : callM (cal tx (n + 10)) .pure 216 [.tup (encD ds)] h = .ok (.dct false (behK ds)) h := by
  have key : run tx (n + 10) 216 [.tup (encD ds)] [] = .ok (.dct false (behK ds)) [] := by
    rw [run_succ e__law_behind rfl]
    have hb : ds.length ≤ big := by unfold big; omega
    have ec : ev (cal tx (n + 9)) (.comp [1] (.v 1) .seq [(.v 0)] (.k (.bl true)) (.tup [(.ix (.v 1) (.k (.int 1))), (.call .pure 103 [(.ix (.v 1) (.k (.int 2))), (.tup [(.k (.str [110, 97, 109, 101]))])])])) [some (.tup (encD ds)), none] [] = .ok (.lst (ds.map fun d => .tup [.str d.nm, menW d.ex])) [] := by
      simp [ev_comp, encD, hb]
      rw [cM_of (o := fun d => some (.tup [.str d.nm, menW d.ex])) (stands_any _ _ _ _ (by simp))]
      · simp
      · intro d m
        have hd := hf d m
        have cm := fun h => c_lawMen 8 d.ex hd.2.2.1 hd.2.1 n h
        simp [turnC, Dn.enc, cm, menW]
    have em := mergeD_new (acc := []) (more := behK ds) (by simp) (behK_nd nd)
    simp only [List.nil_append] at em
    simp [d__law_behind, startE, ec, pairsW_beh, em]
  exact call_of (by simp [encD_pure]) key (frz_vW _ _ _ (behK_v ds))
/-! sorted names -/
def insN (x : Nme) : List Nme → List Nme
  | [] => [x]
  | y :: r => if lexN y x then y :: insN x r else x :: y :: r
def sortN : List Nme → List Nme
  | [] => []
  | x :: r => insN x (sortN r)
theorem sortW_str : ∀ l : List Nme, sortW (l.map W.str) = (sortN l).map W.str := by
  have ins : ∀ (x : Nme) (l : List Nme), insB ltB (.str x) (l.map W.str) = (insN x l).map W.str := by
    intro x l
    induction l with
    | nil => rfl
    | cons y r ih =>
      simp only [List.map_cons, insB, insN, ltB]
      by_cases q : lexN y x = true
      · simp [q, ih]
      · simp [q]
  intro l
  induction l with
  | nil => rfl
  | cons x r ih =>
    simp only [sortW] at ih
    simp only [List.map_cons, sortW, isortB, sortN, ih, ins]
theorem insN_mem {x y : Nme} : ∀ {l : List Nme}, y ∈ insN x l ↔ y = x ∨ y ∈ l
  | [] => by simp [insN]
  | z :: r => by
    simp only [insN]
    split
    · simp [insN_mem (l := r)]
      exact ⟨fun h => h.elim (fun h => .inr (.inl h)) fun h => h.elim .inl fun h => .inr (.inr h), fun h => h.elim (fun h => .inr (.inl h)) fun h => h.elim .inl fun h => .inr (.inr h)⟩
    · simp
theorem sortN_mem {y : Nme} : ∀ {l : List Nme}, y ∈ sortN l ↔ y ∈ l
  | [] => by simp [sortN]
  | x :: r => by simp [sortN, insN_mem, sortN_mem (l := r)]
theorem insN_len (x : Nme) : ∀ l : List Nme, (insN x l).length = l.length + 1
  | [] => rfl
  | y :: r => by
    simp only [insN]
    split
    · simp [insN_len x r]
    · simp
theorem sortN_len : ∀ l : List Nme, (sortN l).length = l.length
  | [] => rfl
  | x :: r => by simp [sortN, insN_len, sortN_len r]
theorem lexN_tri : ∀ a b : List Nat, lexN a b = false → a ≠ b → lexN b a = true
  | [], [], _, h => absurd rfl h
  | [], _ :: _, h, _ => by simp [lexN] at h
  | _ :: _, [], _, _ => by simp [lexN]
  | x :: r, y :: s, h, n => by
    simp only [lexN] at h ⊢
    by_cases q : x = y
    · subst q
      simp only [if_true] at h ⊢
      exact lexN_tri r s h fun z => n (by rw [z])
    · have q2 : ¬ y = x := fun z => q z.symm
      simp only [q, q2, if_false, decide_eq_false_iff_not, decide_eq_true_eq] at h ⊢
      omega
theorem lexN_trans : ∀ a b c : List Nat, lexN a b = true → lexN b c = true → lexN a c = true
  | _, _, [], _, h => by cases ‹List Nat› <;> simp [lexN] at h
  | [], _, _ :: _, _, _ => by simp [lexN]
  | _ :: _, [], _ :: _, h, _ => by simp [lexN] at h
  | x :: r, y :: s, z :: t, h1, h2 => by
    simp only [lexN] at h1 h2 ⊢
    by_cases q : x = y
    · subst q
      by_cases q2 : x = z
      · subst q2
        simp only [if_true] at h1 h2 ⊢
        exact lexN_trans r s t h1 h2
      · simp only [q2, if_false] at h2 ⊢; exact h2
    · simp only [q, if_false, decide_eq_true_eq] at h1
      by_cases q2 : y = z
      · subst q2
        simp only [q, if_false, decide_eq_true_eq]; exact h1
      · simp only [q2, if_false, decide_eq_true_eq] at h2
        have : ¬ x = z := by omega
        simp only [this, if_false, decide_eq_true_eq]
        omega
theorem insN_pw {x : Nme} : ∀ {l : List Nme}, x ∉ l → l.Pairwise (fun a b => lexN a b = true) → (insN x l).Pairwise fun a b => lexN a b = true
  | [], _, _ => by simp [insN]
  | y :: r, hn, h => by
    simp only [List.mem_cons, not_or] at hn
    obtain ⟨h1, h2⟩ := List.pairwise_cons.mp h
    simp only [insN]
    cases q : lexN y x with
    | true =>
      simp only [if_true]
      refine List.pairwise_cons.mpr ⟨fun z m => ?_, insN_pw hn.2 h2⟩
      rcases insN_mem.mp m with e | m
      · rw [e]; exact q
      · exact h1 z m
    | false =>
      simp only [Bool.false_eq_true, if_false]
      have k := lexN_tri y x q fun z => hn.1 z.symm
      refine List.pairwise_cons.mpr ⟨fun z m => ?_, h⟩
      rcases List.mem_cons.mp m with e | m
      · rw [e]; exact k
      · exact lexN_trans x y z k (h1 z m)
theorem sortN_pw : ∀ {l : List Nme}, l.Nodup → (sortN l).Pairwise fun a b => lexN a b = true
  | [], _ => .nil
  | x :: r, h => by
    obtain ⟨h1, h2⟩ := List.nodup_cons.mp h
    exact insN_pw (fun z => h1 (sortN_mem.mp z)) (sortN_pw h2)
theorem okSort_str (l : List Nme) : okSort (l.map W.str) = true := by
  simp only [okSort, Bool.and_eq_true, List.all_eq_true, Bool.or_eq_true]
  refine ⟨fun a m => ?_, .inr fun a m => ?_⟩
  · obtain ⟨s, _, rfl⟩ := List.mem_map.mp m
    refine ⟨by simp, by simp [depW], fun b mb => ?_⟩
    obtain ⟨t, _, rfl⟩ := List.mem_map.mp mb
    simp [alikeW]
  · obtain ⟨s, _, rfl⟩ := List.mem_map.mp m
    simp [isAtom]
theorem op_sorted_str (l : List Nme) (h : l.length ≤ 10000) : opW .sorted [.lst (l.map W.str)] = some (.lst ((sortN l).map W.str)) := by
  simp only [opW, okSort_str, List.length_map, h, decide_true, Bool.and_self, if_true, sortW_str]
theorem op_sorted_beh (ds : List Dn) (h : ds.length ≤ 10000) : opW .sorted [.dct false (behK ds)] = some (.lst ((sortN (nms ds)).map W.str)) := by
  simp only [opW, behK_keys, okSort_str, sortW_str]
  simp [behK, h]
end So

namespace So
open Y Tx Gp Ru
/-! the program's first order -/
theorem some_av {B : Nme → List Nme} {S : List Nme} (rk : Nme → Nat) (hr : ∀ x ∈ S, ∀ y ∈ B x, y ∈ S ∧ rk y < rk x) (fd : List Nme) (h : (S.filter fun x => decide (x ∉ fd)) ≠ []) : (S.filter fun x => decide (x ∉ fd)).filter (av B fd) ≠ [] := by
  have hmin : ∀ n : Nat, (∃ x ∈ S, x ∉ fd ∧ rk x ≤ n) → ∃ x ∈ S, x ∉ fd ∧ ∀ y ∈ S, y ∉ fd → rk x ≤ rk y := by
    intro n
    induction n with
    | zero => rintro ⟨x, mx, nx, hx⟩; exact ⟨x, mx, nx, fun y _ _ => by omega⟩
    | succ n ih =>
      rintro ⟨x, mx, nx, hx⟩
      by_cases q : ∃ y ∈ S, y ∉ fd ∧ rk y ≤ n
      · exact ih q
      · refine ⟨x, mx, nx, fun y my ny => ?_⟩
        exact Classical.byContradiction fun z => q ⟨y, my, ny, by omega⟩
  obtain ⟨x0, m0⟩ := List.exists_mem_of_ne_nil _ h
  obtain ⟨mx0, nx0⟩ := List.mem_filter.mp m0
  obtain ⟨x1, mx1, nx1, hx1⟩ := hmin (rk x0) ⟨x0, mx0, by simpa using nx0, Nat.le_refl _⟩
  have a1 : av B fd x1 = true := by
    simp only [av, List.all_eq_true, decide_eq_true_eq]
    intro y my
    obtain ⟨q1, q2⟩ := hr x1 mx1 y my
    refine Classical.byContradiction fun z => ?_
    have := hx1 y q1 z
    omega
  intro e
  have mf : x1 ∈ (S.filter fun x => decide (x ∉ fd)).filter (av B fd) := List.mem_filter.mpr ⟨List.mem_filter.mpr ⟨mx1, by simpa using nx1⟩, a1⟩
  rw [e] at mf
  cases mf
theorem grd_nil (B : Nme → List Nme) : ∀ (m : Nat) (fd : List Nme), grd B m fd [] = fd
  | 0, _ => rfl
  | m + 1, _ => by simp [grd]
theorem get_beh {ds : List Dn} {s : Nme} (h : s ∈ nms ds) : getW false (.dct false (behK ds)) (.str s) = some (some (.lst ((bhv ds s).map W.str))) := by
  simp only [getW, keyOk, isKeyW, if_true, behK_get s ds h]
theorem bhv_len {ds : List Dn} (hf : ∀ d ∈ ds, d.fine) (s : Nme) : (bhv ds s).length ≤ 60 := by
  unfold bhv
  split
  · rename_i d e
    exact fine_len (hf d (List.mem_of_find?_eq_some e))
  · simp
def nxS (B : Nme → List Nme) (s : List Nme × List Nme) : List Nme × List Nme := match s.2.filter (av B s.1) with
  | [] => s
  | x :: _ => (s.1 ++ [x], s.2.filter fun y => decide (y ≠ x))
def ordB2 : List S := [(.asg (.v 6) (.ix (.comp [1] (.v 1) .seq [(.v 4)] (.op .all [(.comp [5] (.v 5) .seq [(.dget false (.v 2) [(.v 1)])] (.k (.bl true)) (.cmp .isin (.v 5) (.v 3)))]) (.v 1)) (.k (.int 0)))), (.ex (.app (.v 3) (.v 6))), (.asg (.v 4) (.comp [1] (.v 1) .seq [(.v 4)] (.cmp .ne (.v 1) (.v 6)) (.v 1)))]
theorem turn2 (n : Nat) (r0 : W) (ds : List Dn) (fd lf : List Nme) (x : Nme) (t : List Nme) (hf : ∀ d ∈ ds, d.fine) (hsub : ∀ s ∈ lf, s ∈ nms ds) (h1 : fd.length < 1000) (h2 : lf.length ≤ 1000) (e : lf.filter (av (bhv ds) fd) = x :: t) :
    ∃ σ', exs (cal tx (n + 1)) ordB2 [some r0, none, some (.dct false (behK ds)), some (.ref 0), some (.lst (lf.map W.str)), none, none] [.lst (fd.map W.str)] = .nx σ' [.lst ((fd ++ [x]).map W.str)] ∧
      wipE σ' [6] = [some r0, none, some (.dct false (behK ds)), some (.ref 0), some (.lst ((lf.filter fun y => decide (y ≠ x)).map W.str)), none, none] := by
  have b2 : lf.length ≤ big := by unfold big; omega
  have b1 : fd.length < big := by unfold big; omega
  have hps : pureL (fd.map W.str) = true := pureL_map _ _ fun _ _ => by simp
  have e1 : ev (cal tx (n + 1)) (.comp [1] (.v 1) .seq [(.v 4)] (.op .all [(.comp [5] (.v 5) .seq [(.dget false (.v 2) [(.v 1)])] (.k (.bl true)) (.cmp .isin (.v 5) (.v 3)))]) (.v 1)) [some r0, none, some (.dct false (behK ds)), some (.ref 0), some (.lst (lf.map W.str)), none, none] [.lst (fd.map W.str)] =
      .ok (.lst ((lf.filter (av (bhv ds) fd)).map W.str)) [.lst (fd.map W.str)] := by
    simp [ev_comp, b2]
    rw [cM_of (o := fun s => if av (bhv ds) fd s = true then some (.str s) else none) (stands_any _ _ _ _ (by simp))]
    · simp
    · intro s m
      have hs := hsub s m
      have gb := get_beh hs
      have bl : (bhv ds s).length ≤ big := by have := bhv_len hf s; unfold big; omega
      have e5 : ∀ h, ev (cal tx (n + 1)) (.comp [5] (.v 5) .seq [(.dget false (.v 2) [(.v 1)])] (.k (.bl true)) (.cmp .isin (.v 5) (.v 3))) [some r0, some (.str s), some (.dct false (behK ds)), some (.ref 0), some (.lst (lf.map W.str)), none, none] (.lst (fd.map W.str) :: h) =
          .ok (.lst ((bhv ds s).map fun o => .bl (decide (o ∈ fd)))) (.lst (fd.map W.str) :: h) := by
        intro h
        simp [ev_comp, keyOf, gb, bl]
        rw [cM_of (o := fun o => some (.bl (decide (o ∈ fd)))) (stands_any _ _ _ _ (by simp))]
        · simp
        · intro o _
          simp [turnC, hps, inStrs]
      have ea := op_all_map (bhv ds s) fun o => decide (o ∈ fd)
      have eav : (bhv ds s).all (fun o => decide (o ∈ fd)) = av (bhv ds) fd s := rfl
      cases q : av (bhv ds) fd s
      · rw [q] at eav
        simp [turnC, e5, ea, eav]
      · rw [q] at eav
        simp [turnC, e5, ea, eav]
  have e3 : ∀ h, ev (cal tx (n + 1)) (.comp [1] (.v 1) .seq [(.v 4)] (.cmp .ne (.v 1) (.v 6)) (.v 1)) [some r0, none, some (.dct false (behK ds)), some (.ref 0), some (.lst (lf.map W.str)), none, some (.str x)] h = .ok (.lst ((lf.filter fun y => decide (y ≠ x)).map W.str)) h := by
    intro h
    simp [ev_comp, b2]
    rw [cM_of (o := fun s => if decide (s ≠ x) = true then some (.str s) else none) (stands_any _ _ _ _ (by simp))]
    · rw [fm_ite]; simp
    · intro s _
      by_cases q : s = x
      · subst q; simp [turnC]
      · simp [turnC, q]
  refine ⟨[some r0, none, some (.dct false (behK ds)), some (.ref 0), some (.lst ((lf.filter fun y => decide (y ≠ x)).map W.str)), none, some (.str x)], ?_, by simp⟩
  simp [ordB2, e1, e, exe_asg, b1, e3, ev_app]
end So

namespace So
open Y Tx Gp Ru
/-! first_order -/
def acyc (ds : List Dn) : Prop := ∃ rk : Nme → Nat, ∀ x ∈ sortN (nms ds), ∀ y ∈ bhv ds x, y ∈ sortN (nms ds) ∧ rk y < rk x
def fst (ds : List Dn) : List Nme := grd (bhv ds) (nms ds).length [] (sortN (nms ds))
theorem c_orderIn (n : Nat) (ds : List Dn) (h : WH) (hf : ∀ d ∈ ds, d.fine) (hl : ds.length ≤ 500) (nd : (nms ds).Nodup) (ac : acyc ds) : callM (cal tx (n + 7)) .pure 220 [.tup (encD ds)] h = .ok (rowW (fst ds)) h := by
  obtain ⟨rk, hr⟩ := ac
  refine call_pure (h' := [.lst ((fst ds).map W.str)]) (by simp [encD_pure]) ?_ (by simp only [rowW, pure_tup]; exact pureL_map _ _ fun _ _ => by simp)
  rw [run_succ e_order_in_2 rfl]
  have hb : ds.length ≤ big := by unfold big; omega
  have hln : (nms ds).length = ds.length := by simp [nms]
  have hls := sortN_len (nms ds)
  have cb := c_nowBehind n ds [] hf (by omega) nd
  have en : ∀ h, ev (cal tx (n + 6)) (.comp [1] (.v 1) .seq [(.v 0)] (.k (.bl true)) (.ix (.v 1) (.k (.int 1)))) [some (.tup (encD ds)), none, none, none, none, none, none] h = .ok (.lst ((nms ds).map W.str)) h := by
    intro h
    simp [ev_comp, encD, hb]
    rw [cM_of (o := fun d => some (.str d.nm)) (stands_any _ _ _ _ (by simp))]
    · simp [nms]
    · intro d _
      simp [turnC, Dn.enc]
  have es := op_sorted_str (nms ds) (by omega)
  have L := whlL_fix (S := List Nme × List Nme) (c := ev (cal tx (n + 6)) (.cmp .ne (.v 4) (.lst []))) (f := exs (cal tx (n + 6)) ordB2) (wip := [6])
    (fun s => [some (.tup (encD ds)), none, some (.dct false (behK ds)), some (.ref 0), some (.lst (s.2.map W.str)), none, none]) (fun s => [.lst (s.1.map W.str)]) (fun s => !s.2.isEmpty) (nxS (bhv ds)) (fun s => s.2.length)
    (fun s => s.2 = (sortN (nms ds)).filter (fun x => decide (x ∉ s.1)) ∧ s.1.length + s.2.length ≤ 500 ∧ ∃ m, s.2.length ≤ m ∧ grd (bhv ds) m s.1 s.2 = fst ds)
    (fun s _ => by
      obtain ⟨fd, lf⟩ := s
      have hps : pureL (lf.map W.str) = true := pureL_map _ _ fun _ _ => by simp
      cases lf with
      | nil => simp
      | cons x r =>
        simp only [List.map_cons, pureL_cons, Bool.and_eq_true] at hps
        simp [hps.2])
    (fun s hs hg => by
      obtain ⟨fd, lf⟩ := s
      obtain ⟨h1, h2, m, h3, h4⟩ := hs
      simp only at h1 h2 h3 h4
      have hne : lf ≠ [] := by cases lf <;> simp at hg ⊢
      have hav := some_av rk hr fd (by rw [← h1]; exact hne)
      rw [← h1] at hav
      have hsub : ∀ s ∈ lf, s ∈ nms ds := fun s ms => by
        rw [h1] at ms
        exact sortN_mem.mp (List.mem_filter.mp ms).1
      have hpos : 0 < lf.length := List.length_pos_iff.mpr hne
      cases q : lf.filter (av (bhv ds) fd) with
      | nil => exact absurd q hav
      | cons x t =>
        have mx : x ∈ lf := (List.mem_filter.mp (show x ∈ lf.filter (av (bhv ds) fd) by rw [q]; simp)).1
        have e1 : nxS (bhv ds) (fd, lf) = (fd ++ [x], lf.filter fun y => decide (y ≠ x)) := by simp [nxS, q]
        have hlt : (lf.filter fun y => decide (y ≠ x)).length < lf.length := List.length_filter_lt_length_iff_exists.mpr ⟨x, mx, by simp⟩
        rw [e1]
        obtain ⟨σ', a1, a2⟩ := turn2 (n + 5) (.tup (encD ds)) ds fd lf x t hf hsub (by omega) (by omega) q
        refine ⟨⟨?_, ?_, ?_⟩, hlt, σ', a1, a2⟩
        · simp only
          rw [h1, List.filter_filter]
          refine List.filter_congr fun y _ => ?_
          by_cases z : y = x
          · subst z; simp
          · simp [z]
        · simp only [List.length_append, List.length_cons, List.length_nil]; omega
        · cases m with
          | zero => omega
          | succ m =>
            refine ⟨m, by simp only; omega, ?_⟩
            simp only [grd, q] at h4
            exact h4)
    100000 ([], sortN (nms ds)) ⟨(List.filter_eq_self.mpr (by simp)).symm, by simp only [List.length_nil]; omega, (nms ds).length, by simp only; omega, rfl⟩ (by simp only; omega)
  obtain ⟨s', ⟨i1, _, m, _, i3⟩, g0, L⟩ := L
  obtain ⟨fd, lf⟩ := s'
  have e0 : lf = [] := by cases lf <;> simp at g0 ⊢
  subst e0
  rw [grd_nil] at i3
  simp only at i3
  subst i3
  change finF (exs (cal tx (n + 6)) [(.asg (.t [(.v 2), (.v 3), (.v 4)]) (.tup [(.call .pure 211 [(.v 0)]), (.thaw (.lst [])), (.op .sorted [(.comp [1] (.v 1) .seq [(.v 0)] (.k (.bl true)) (.ix (.v 1) (.k (.int 1))))])])), (.whl 100000 (.cmp .ne (.v 4) (.lst [])) [6] ordB2), (.ret (.op .tuple [(.v 3)]))] _ _) = _
  generalize ordB2 = B2 at L
  have L2 := L
  simp only [List.map_nil] at L2
  simp [startE, d_order_in_2, cb, en, es, L2, rowW]
theorem c_firstOrder (n : Nat) (ds : List Dn) (h : WH) (hf : ∀ d ∈ ds, d.fine) (hl : ds.length ≤ 500) (nd : (nms ds).Nodup) (ac : acyc ds) (ft : fitsB ds = true) : callM (cal tx (n + 10)) .pure 221 [.tup (encD ds)] h = .ok (rowW (fst ds)) h := by
  refine call_pure (h' := []) (by simp [encD_pure]) ?_ (by simp only [rowW, pure_tup]; exact pureL_map _ _ fun _ _ => by simp)
  rw [run_succ e_first_order_2 rfl]
  have cn : callM (cal tx (n + 9)) .pure 110 [.tup (encD ds)] [] = .ok .non [] := by
    refine call_pure (h' := []) (by simp [encD_pure]) ?_ (by simp)
    rw [run_succ e_need_rules rfl]
    simp [d_need_rules, startE, c_fitsRules n ds [] hf (by omega), ft]
  have co := c_orderIn (n + 2) ds [] hf hl nd ac
  simp [d_first_order_2, startE, cn, co]
end So

namespace So
open Y Tx Gp Ru
/-! the law's first order: all rows -/
theorem rowW_pure (r : List Nme) : pureW (rowW r) = true := by
  simp only [rowW, pure_tup]
  exact pureL_map _ _ fun _ _ => by simp
def rowsW (l : List (List Nme)) : W := .lst (l.map rowW)
theorem nxt_len (B : Nme → List Nme) (S : List Nme) (r : List Nme) : (nxt B S r).length ≤ S.length := by
  simp only [nxt, List.length_map]
  exact List.length_filter_le _ _
theorem flat_len (B : Nme → List Nme) (S : List Nme) : ∀ l : List (List Nme), (l.flatMap (nxt B S)).length ≤ S.length * l.length
  | [] => by simp
  | r :: l => by
    have h1 := nxt_len B S r
    have h2 := flat_len B S l
    simp only [List.flatMap_cons, List.length_append, List.length_cons, Nat.mul_add, Nat.mul_one]
    omega
theorem rws_len (B : Nme → List Nme) (S : List Nme) (h : S.length ≤ 5) : ∀ n : Nat, (rws B S n).length ≤ 5 ^ n
  | 0 => by simp [rws]
  | n + 1 => by
    have h1 := flat_len B S (rws B S n)
    have h2 := rws_len B S h n
    have h3 : S.length * (rws B S n).length ≤ 5 * 5 ^ n := Nat.mul_le_mul h h2
    simp only [rws]
    rw [Nat.pow_succ]
    omega
def rowE : E := .comp [6] (.v 6) .seq [(.op .sorted [(.v 1)])] (.andL [(.cmp .notin (.v 6) (.v 5)), (.cmp .eq (.comp [7] (.v 7) .seq [(.dget false (.v 1) [(.v 6)])] (.cmp .notin (.v 7) (.v 5)) (.v 7)) (.lst []))]) (.bin .add (.v 5) (.tup [(.v 6)]))
theorem row_next (n : Nat) (r0 w2 w3 w4 : W) (ds : List Dn) (r : List Nme) (h : WH) (hf : ∀ d ∈ ds, d.fine) (hl : ds.length ≤ 500) (hr : r.length ≤ 100) :
    ev (cal tx n) rowE [some r0, some (.dct false (behK ds)), some w2, some w3, some w4, some (rowW r), none, none] h = .ok (rowsW (nxt (bhv ds) (sortN (nms ds)) r)) h := by
  have hln : (nms ds).length = ds.length := by simp [nms]
  have hls := sortN_len (nms ds)
  have bs : (sortN (nms ds)).length ≤ big := by unfold big; omega
  have es := op_sorted_beh ds (by omega)
  have hps : pureL (r.map W.str) = true := pureL_map _ _ fun _ _ => by simp
  have br : r.length + 1 ≤ big := by unfold big; omega
  simp [rowE, ev_comp, es, bs]
  rw [cM_of (o := fun s => if ((!decide (s ∈ r)) && av (bhv ds) r s) = true then some (rowW (r ++ [s])) else none) (stands_any _ _ _ _ (by simp))]
  · rw [fm_ite]
    simp [rowsW, nxt, List.map_map, Function.comp_def]
  · intro s ms
    have hs : s ∈ nms ds := sortN_mem.mp ms
    have gb := get_beh hs
    have bl : (bhv ds s).length ≤ big := by have := bhv_len hf s; unfold big; omega
    have e7 : ev (cal tx n) (.comp [7] (.v 7) .seq [(.dget false (.v 1) [(.v 6)])] (.cmp .notin (.v 7) (.v 5)) (.v 7)) [some r0, some (.dct false (behK ds)), some w2, some w3, some w4, some (rowW r), some (.str s), none] h =
        .ok (.lst (((bhv ds s).filter fun o => !decide (o ∈ r)).map W.str)) h := by
      simp [ev_comp, keyOf, gb, bl]
      rw [cM_of (o := fun o => if (!decide (o ∈ r)) = true then some (.str o) else none) (stands_any _ _ _ _ (by simp))]
      · rw [fm_ite]; simp
      · intro o _
        by_cases q : o ∈ r <;> simp [turnC, rowW, hps, inStrs, q]
    have hp2 : pureL (((bhv ds s).filter fun o => !decide (o ∈ r)).map W.str) = true := pureL_map _ _ fun _ _ => by simp
    have ee : cmpW .eq (.lst (((bhv ds s).filter fun o => !decide (o ∈ r)).map W.str)) (.lst []) = some (av (bhv ds) r s) := by
      rw [cmp_eq _ _ (by simp) (by rw [pure_lst]; exact hp2) (by simp)]
      have ea : av (bhv ds) r s = ((bhv ds s).filter fun o => !decide (o ∈ r)).isEmpty := by
        simp only [av]
        induction bhv ds s with
        | nil => rfl
        | cons o t ih =>
          by_cases q : o ∈ r
          · simp [q] at ih ⊢
            exact ih
          · simp [q]
      rw [ea]
      cases ((bhv ds s).filter fun o => !decide (o ∈ r)) <;> simp
    by_cases q : s ∈ r
    · have e1 : inW (.str s) (r.map W.str) = true := by rw [inStrs]; simpa using q
      simp [turnC, rowW, hps, e1, q]
    · have e1 : inW (.str s) (r.map W.str) = false := by rw [inStrs]; simpa using q
      simp only [rowW] at e7
      cases q2 : av (bhv ds) r s
      · rw [q2] at ee
        simp [turnC, rowW, hps, e1, q, e7, ee]
      · rw [q2] at ee
        simp [turnC, rowW, hps, e1, q, e7, ee, br]
theorem okSort_rows {l : List (List Nme)} (h : ∀ r ∈ l, r ≠ []) : okSort (l.map rowW) = true := by
  simp only [okSort, Bool.and_eq_true, List.all_eq_true, Bool.or_eq_true, decide_eq_true_eq]
  have al : ∀ a b : List Nme, alikeL (a.map W.str) (b.map W.str) = true := by
    intro a
    induction a with
    | nil => intro b; cases b <;> simp [alikeL]
    | cons x r ih => intro b; cases b <;> simp [alikeL, alikeW, ih]
  refine ⟨fun a m => ?_, .inl fun a m => ?_⟩
  · obtain ⟨r, _, rfl⟩ := List.mem_map.mp m
    refine ⟨rowW_pure r, ?_, fun b mb => ?_⟩
    · have := depL_map W.str 0 r fun _ _ => by simp [depW]
      simp only [rowW, depW]; omega
    · obtain ⟨t, _, rfl⟩ := List.mem_map.mp mb
      simp only [rowW, alikeW, al]
  · obtain ⟨r, mr, rfl⟩ := List.mem_map.mp m
    have := h r mr
    cases r with
    | nil => exact absurd rfl this
    | cons x t => simp [rowW, isTup1]
theorem rws_row {B : Nme → List Nme} {S : List Nme} : ∀ {n : Nat} {r : List Nme}, r ∈ rws B S n → r.length = n
  | 0, r, h => by simp only [rws, List.mem_singleton] at h; rw [h]; rfl
  | n + 1, r, h => by
    obtain ⟨r0, m0, m1⟩ := List.mem_flatMap.mp h
    obtain ⟨y, _, rfl⟩ := List.mem_map.mp m1
    simp [rws_row m0]
def rowsB : List S := [(.asg (.v 4) (.lst [])), (.forS (.v 5) .seq [(.v 2)] [5] [(.asg (.v 4) (.bin .add (.v 4) rowE))]), (.asg (.v 2) (.v 4))]
theorem rows_turn (n : Nat) (r0 t3 : W) (ds : List Dn) (k : Nat) (h : WH) (hf : ∀ d ∈ ds, d.fine) (hl : ds.length ≤ 5) (hk : k ≤ 5) :
    ∃ σ', exs (cal tx n) rowsB [some r0, some (.dct false (behK ds)), some (rowsW (rws (bhv ds) (sortN (nms ds)) k)), some t3, none, none, none, none] h = .nx σ' h ∧
      wipE σ' [3, 4, 5] = [some r0, some (.dct false (behK ds)), some (rowsW (rws (bhv ds) (sortN (nms ds)) (k + 1))), none, none, none, none, none] := by
  have hln : (nms ds).length = ds.length := by simp [nms]
  have hls := sortN_len (nms ds)
  have hz := rws_len (bhv ds) (sortN (nms ds)) (by omega) k
  have hz2 : (5 : Nat) ^ k ≤ 3125 := by
    have : (5 : Nat) ^ k ≤ 5 ^ 5 := Nat.pow_le_pow_right (by decide) hk
    simpa using this
  generalize hR : rws (bhv ds) (sortN (nms ds)) k = R at *
  have L := forL_run (ck := stands .seq [rowsW R] (R.map rowW)) (wip := [5]) (f := turnF (cal tx n) (.v 5) [.asg (.v 4) (.bin .add (.v 4) rowE)]) (e := rowW) (l := R)
    (σ := [some r0, some (.dct false (behK ds)), some (rowsW R), some t3, some (.lst []), none, none, none]) (h := h)
    (sg := fun d => [some r0, some (.dct false (behK ds)), some (rowsW R), some t3, some (rowsW (d.flatMap (nxt (bhv ds) (sortN (nms ds))))), none, none, none]) (hg := fun _ => h)
    (fun _ => stands_any _ _ _ _ (by simp [rowsW])) (by simp [rowsW]) rfl (fun a r b e => by
      have mr : r ∈ R := by rw [e]; simp
      have lr : r.length = k := rws_row (by rw [hR]; exact mr)
      have la : a.length ≤ R.length := by rw [e]; simp
      have rn := row_next n r0 (rowsW R) t3 (rowsW (a.flatMap (nxt (bhv ds) (sortN (nms ds))))) ds r h hf (by omega) (by omega)
      have f1 := flat_len (bhv ds) (sortN (nms ds)) a
      have f2 := nxt_len (bhv ds) (sortN (nms ds)) r
      have f3 : (sortN (nms ds)).length * a.length ≤ 5 * 3125 := Nat.mul_le_mul (by omega) (by omega)
      have bb : (a.flatMap (nxt (bhv ds) (sortN (nms ds)))).length + (nxt (bhv ds) (sortN (nms ds)) r).length ≤ big := by unfold big; omega
      refine ⟨[some r0, some (.dct false (behK ds)), some (rowsW R), some t3, some (rowsW ((a ++ [r]).flatMap (nxt (bhv ds) (sortN (nms ds))))), some (rowW r), none, none], ?_, by simp⟩
      have e2 : (a ++ [r]).flatMap (nxt (bhv ds) (sortN (nms ds))) = a.flatMap (nxt (bhv ds) (sortN (nms ds))) ++ nxt (bhv ds) (sortN (nms ds)) r := by simp
      rw [e2]
      simp only [rowsW] at rn ⊢
      generalize rowE = E0 at rn ⊢
      have ba : binW .add (.lst ((a.flatMap (nxt (bhv ds) (sortN (nms ds)))).map rowW)) (.lst ((nxt (bhv ds) (sortN (nms ds)) r).map rowW)) = some (.lst ((a.flatMap (nxt (bhv ds) (sortN (nms ds)))).map rowW ++ (nxt (bhv ds) (sortN (nms ds)) r).map rowW)) := bin_addl _ _ (by simpa only [List.length_map] using bb)
      simp [turnF, rn, ba])
  refine ⟨[some r0, some (.dct false (behK ds)), some (rowsW (rws (bhv ds) (sortN (nms ds)) (k + 1))), some t3, some (rowsW (rws (bhv ds) (sortN (nms ds)) (k + 1))), none, none, none], ?_, by simp⟩
  have ek : rws (bhv ds) (sortN (nms ds)) (k + 1) = R.flatMap (nxt (bhv ds) (sortN (nms ds))) := by simp only [rws, hR]
  rw [ek]
  unfold rowsB
  simp only [rowsW] at L ⊢
  generalize rowE = E0 at L ⊢
  simp [exe_for, L]
theorem c_lawFirst (n : Nat) (ds : List Dn) (h : WH) (hf : ∀ d ∈ ds, d.fine) (h1 : 1 ≤ ds.length) (hl : ds.length ≤ 5) (nd : (nms ds).Nodup) (ac : acyc ds) : callM (cal tx (n + 11)) .pure 222 [.tup (encD ds)] h = .ok (rowW (fst ds)) h := by
  refine call_pure (h' := []) (by simp [encD_pure]) ?_ (rowW_pure _)
  rw [run_succ e__law_first_order_2 rfl]
  have hln : (nms ds).length = ds.length := by simp [nms]
  have hls := sortN_len (nms ds)
  have cb := c_lawBehind n ds [] hf (by omega) nd
  have sm : smallI (ds.length : Int) = true := by
    simp only [smallI, Bool.and_eq_true, decide_eq_true_eq]; omega
  have L := forL_run (ck := stands .rng1 [.int (ds.length : Int)] (rngL 0 ds.length)) (wip := [3, 4, 5]) (f := turnF (cal tx (n + 10)) (.v 3) rowsB) (e := fun i : Nat => W.int (0 + (i : Int))) (l := List.range ds.length)
    (σ := [some (.tup (encD ds)), some (.dct false (behK ds)), some (rowsW [[]]), none, none, none, none, none]) (h := [])
    (sg := fun d => [some (.tup (encD ds)), some (.dct false (behK ds)), some (rowsW (rws (bhv ds) (sortN (nms ds)) d.length)), none, none, none, none, none]) (hg := fun _ => [])
    (fun _ => stands_any _ _ _ _ (by simp)) (by simp [rws]) rfl (fun a i b e => by
      have la : a.length ≤ 5 := by
        have := congrArg List.length e
        simp at this
        omega
      obtain ⟨σ', a1, a2⟩ := rows_turn (n + 10) (.tup (encD ds)) (.int (0 + (i : Int))) ds a.length [] hf hl la
      refine ⟨σ', ?_, ?_⟩
      · simp only [turnF]
        generalize rowsB = B0 at a1 ⊢
        simpa using a1
      · rw [a2]; simp)
  obtain ⟨rk, hr⟩ := ac
  obtain ⟨x, t, ex, em⟩ := order_first rk hr (sortN_pw nd)
  rw [hls, hln] at ex em
  have mn : opW .min1 [rowsW (rws (bhv ds) (sortN (nms ds)) ds.length)] = some (rowW (fst ds)) := by
    have ok := okSort_rows (l := x :: t) fun r mr => by
      rw [← ex] at mr
      have := rws_row mr
      intro z
      rw [z] at this
      simp at this
      omega
    have hz := rws_len (bhv ds) (sortN (nms ds)) (by omega) ds.length
    have hz2 : (5 : Nat) ^ ds.length ≤ 3125 := by
      have : (5 : Nat) ^ ds.length ≤ 5 ^ 5 := Nat.pow_le_pow_right (by decide) hl
      simpa using this
    rw [ex] at hz ⊢
    simp only [List.length_cons] at hz
    have nt : intsOf (rowW x :: t.map rowW) = none := by simp only [rowW, intsOf]
    have ok2 : okSort (rowW x :: t.map rowW) = true := ok
    have lz : decide ((rowW x :: t.map rowW).length ≤ 1000000) = true := by simp only [List.length_cons, List.length_map, decide_eq_true_eq]; omega
    have ef : fst ds = grd (bhv ds) ds.length [] (sortN (nms ds)) := by simp only [fst, hln]
    rw [ef, ← em]
    simp only [rowsW, List.map_cons, opW, nt, minT, ok2, lz, Bool.and_self, if_true]
  have lr : (List.range ds.length).length = ds.length := List.length_range
  rw [lr] at L
  change finF (exs (cal tx (n + 10)) [(.asg (.t [(.v 1), (.v 2)]) (.tup [(.call .pure 216 [(.v 0)]), (.lst [(.tup [])])])), (.forS (.v 3) .rng1 [(.op .len [(.v 0)])] [3, 4, 5] rowsB), (.ret (.op .min1 [(.v 2)]))] _ _) = _
  generalize rowsB = B0 at L ⊢
  have L2 := L
  simp only [rowsW, List.map_cons, List.map_nil, rowW] at L2
  simp only [rowsW] at mn
  have er : (List.range ds.length).map (fun i : Nat => W.int (0 + (i : Int))) = rngL 0 ds.length := rfl
  rw [er] at L2
  have le : (encD ds).length = ds.length := by simp [encD]
  simp [startE, d__law_first_order_2, cb, exe_for, le, sm, L2, mn]
end So

namespace K49
open Y Tx Gp Ru So
theorem gr_acyc {m : Nat} {ds : List Dn} (g : GR m m ds) : acyc ds := by
  refine ⟨rankN, fun x mx y my => ?_⟩
  have mx : x ∈ nms ds := sortN_mem.mp mx
  unfold bhv at my
  split at my
  · rename_i d e
    have md := List.mem_of_find?_eq_some e
    have en : d.nm = x := by simpa using List.find?_some e
    have r := gr_rank g d md y my
    rw [en] at r
    exact ⟨sortN_mem.mpr (gr_ment g d md y (men_sub (by simp) y my)), r⟩
  · cases my
theorem rws_sub {B : Nme → List Nme} {S : List Nme} : ∀ {n : Nat} {r : List Nme}, r ∈ rws B S n → ∀ x ∈ r, x ∈ S
  | 0, r, h, x, mx => by simp only [rws, List.mem_singleton] at h; rw [h] at mx; cases mx
  | n + 1, r, h, x, mx => by
    obtain ⟨r0, m0, m1⟩ := List.mem_flatMap.mp h
    obtain ⟨y, my, rfl⟩ := List.mem_map.mp m1
    rcases List.mem_append.mp mx with mx | mx
    · exact rws_sub m0 x mx
    · rw [List.mem_singleton.mp mx]
      exact (List.mem_filter.mp my).1
theorem repr_first {m : Nat} {ds : List Dn} (g : GR m m ds) (hm : m ≤ 5) : ∃ t, reprW (rowW (fst ds)) = some (.str t) := by
  obtain ⟨rk, hr⟩ := gr_acyc g
  have nd := gr_nodup g
  have hln : (nms ds).length = ds.length := by simp [nms]
  have hls := sortN_len (nms ds)
  have hl := gr_len g
  obtain ⟨h1, h2, _⟩ := grd_first rk hr (sortN_pw nd) (sortN (nms ds)).length 0 [] (by omega) rfl List.nodup_nil (fun x m => absurd m (by simp)) (by simp [rws]) (fun r m => by
    simp only [rws, List.mem_singleton] at m
    exact .inl m.symm)
  have ef : (sortN (nms ds)).filter (fun x => decide (x ∉ ([] : List Nme))) = sortN (nms ds) := List.filter_eq_self.mpr (by simp)
  rw [ef, hls] at h1 h2
  change fst ds ∈ _ at h1
  change (fst ds).length = _ at h2
  have hs : ∀ x ∈ fst ds, ∃ c, c < m ∧ x = nmI c := fun x mx => (gr_mem g x).mp (sortN_mem.mp (rws_sub h1 x mx))
  generalize fst ds = r at h2 hs
  have k1 : okSL (r.map W.str) = true := by
    clear h1 h2
    induction r with
    | nil => rfl
    | cons x t ih =>
      obtain ⟨c, hc, rfl⟩ := hs x (by simp)
      simp only [List.map_cons, okSL, ih fun y my => hs y (List.mem_cons_of_mem _ my), Bool.and_true]
      simp only [okS, nmI, List.all_cons, List.all_nil, Bool.and_true, decide_eq_true_eq]
      omega
  have k2 : rzL (r.map W.str) ≤ 100 * r.length := by
    clear h1 h2 k1
    induction r with
    | nil => simp [rzL]
    | cons x t ih =>
      obtain ⟨c, hc, rfl⟩ := hs x (by simp)
      have ih2 : rzL (t.map W.str) ≤ 100 * t.length := ih fun y my => hs y (List.mem_cons_of_mem _ my)
      simp only [List.map_cons, rzL, rz, nmI, List.length_cons, List.length_nil]
      omega
  refine ⟨_, reprW_ok (by simp only [rowW, okS]; exact k1) ?_ ?_⟩
  · simp only [rowW, rz]
    unfold big
    omega
  · have := depL_map W.str 0 r fun _ _ => by simp [depW]
    simp only [rowW, depW]; omega
def bodyL : List S := [(.asg (.v 3) (.call .heap 89 [(.v 1)])), (.ite (.cmp .ne (.op .repr [(.call .pure 221 [(.v 3)])]) (.op .repr [(.call .pure 222 [(.v 3)])])) [(.ret (.k (.bl false)))] [])]
theorem turn_ok (s w : W) {t h : WH} (i : Icup t h) : Fo (exs (cal tx 19) bodyL [some s, some (.ref 0), some w, none, none, none, none, none, none, none] h) (fun σ' h' => (∃ t, Icup t h') ∧ wipE σ' [2, 3] = [some s, some (.ref 0), none, none, none, none, none, none, none, none]) (fun _ _ => False) := by
  simp only [bodyL, exs_cons, exe_asg, ev_call, evs_cons', ev_v, getV_zero, getV_succ, R.bind_ok, evs_nil', Fo_seq, Fo_flow]
  change Ok (run tx 19 89 [.ref 0] h) _
  refine (o_rules 12 i).imp fun w1 h1 ⟨⟨m, ds, m2, m5, e, g⟩, i2⟩ => ?_
  subst e
  have hl := gr_len g
  have hf := gr_fine g m5
  have nd := gr_nodup g
  have ac := gr_acyc g
  have c1 := fun h => c_firstOrder 9 ds h hf (by omega) nd ac (gr_fits g m2 m5)
  have c2 := fun h => c_lawFirst 8 ds h hf (by omega) (by omega) nd ac
  obtain ⟨tt, et⟩ := repr_first g m5
  simp [c1, c2, et, rowW_pure]
  exact ⟨_, i2⟩
end K49

namespace K49
open Y Tx Gp Ru So
theorem tailOk (s : W) (h : WH) : exs (cal tx 19) (d_law49.body.drop 2) [some s, some (.ref 0), none, none, none, none, none, none, none, none] h = .rt (.bl true) h := by
  kernel_rfl
end K49

namespace K49
open Y Tx Gp Ru So
theorem law_true (ns : List Int) (hl : ns.length ≤ 63) (hb : ∀ z ∈ ns, PySem.Builtin.Int.intBits z ≤ 1048576) : ∃ h', run tx 20 198 [.lst (ns.map W.int)] [] = .ok (.bl true) h' := by
  suffices q : Ok (run tx 20 198 [.lst (ns.map W.int)] []) fun w _ => w = .bl true by
    obtain ⟨w, h, e, rfl⟩ := q.ex
    exact ⟨h, e⟩
  obtain ⟨h0, e0, i0⟩ := cup_start eCup 18 ns hl hb
  refine Ok_run e_law49 rfl ?_
  generalize hs : W.lst (ns.map W.int) = s at e0
  have hT := tailOk s
  refine Fo_split 2 ?_
  generalize d_law49.body.drop 2 = tail at hT
  have hbd : d_law49.body.take 2 = [.asg (.v 1) (.call .own 16 [.v 0]), .forS (.v 2) .rng1 [(.k (.int 5))] [2, 3] bodyL] := rfl
  have hst : startE d_law49.ns [s] = [some s, none, none, none, none, none, none, none, none, none] := rfl
  rw [hbd, hst]
  generalize hB : bodyL = B
  simp [e0, exe_for, show smallI 5 = true by decide]
  refine Fo_rep (fun j σ h => (∃ t, Icup t h) ∧ σ = [some s, some (.ref 0), none, none, none, none, none, none, none, none]) _ _ _ (fun _ _ _ _ => by simp) ⟨⟨[], i0⟩, rfl⟩ (fun j w σ h hj hw hi => ?_) fun σ h hi => ?_
  · obtain ⟨⟨t, i⟩, rfl⟩ := hi
    subst hB
    simp only [turnF, asgT_v, List.length_cons, List.length_nil, Nat.reduceLT, Nat.reduceAdd, if_true, List.set_cons_zero, List.set_cons_succ]
    exact (turn_ok s w i).imp (fun _ _ z => z) fun _ _ z => z.elim
  · obtain ⟨⟨t, i⟩, rfl⟩ := hi
    rw [hT h]
    rfl
end K49

namespace Y
open PySem PySem.Spec PyProof.Rows L2
/-! what stands for what -/
structure Gx where
  K : PySem.W.Frag
  ca : Nm → Addr
  nm : Nm → PySem.Str
  ex : Nm → Bool
/-- where the heap of mine lies: at_ its objects, no all that values do not name -/
structure Ro where
  at_ : List Addr
  no : List Addr
  sub : ∀ a, a ∈ at_ → a ∈ no
def KTup (K : PySem.W.Frag) (a : Addr) (xs : List V) : Prop :=
  ∃ (o : Obj) (its : Array Value) (n : Nat), K.lookup a = some o ∧ o.cls = .type "tuple" ∧ o.data = .seq its n ∧ its.size ≤ sizeLine ∧ Vals xs its.toList
def KLst (K : PySem.W.Frag) (a : Addr) (xs : List V) : Prop :=
  ∃ (its : List Value) (n : Nat), K.lookup a = some { cls := .type "list", data := .seq its.toArray n } ∧ xs.length ≤ sizeLine ∧ Vals xs its
def LsQ (G : Gx) (H : Hp) (a : Addr) (xs : List V) : Prop := Rd H a (.lst xs) ∨ KLst G.K a xs
def LstR (G : Gx) (H : Hp) (ρ : Ro) (a : Addr) (xs : List V) : Prop := (Rd H a (.lst xs) ∧ a ∉ ρ.no) ∨ KLst G.K a xs
theorem LsQ.sq {G : Gx} {H : Hp} {a : Addr} {xs : List V} (h : LsQ G H a xs) : SqL G.K H a xs := h.imp id fun ⟨its, n, k, z, r⟩ => ⟨_, its.toArray, n, k, rfl, rfl, rfl, by rw [List.size_toArray, ← r.length]; exact z, by simpa using r⟩
theorem LstR.q {G : Gx} {H : Hp} {ρ : Ro} {a : Addr} {xs : List V} (h : LstR G H ρ a xs) : LsQ G H a xs := h.imp (fun h => h.1) id
def TupR (G : Gx) (H : Hp) (ρ : Ro) (mx : Bool) (a : Addr) (xs : List V) : Prop := (H a = some (.tup xs) ∧ a ∉ ρ.no) ∨ (KTup G.K a xs ∧ mx = false)
/-- a dict, not one of mine -/
def DctR (H : Hp) (ρ : Ro) (a : Addr) (u : HO) : Prop := H a = some u ∧ a ∉ ρ.no
mutual
def Rep (G : Gx) (H : Hp) (ρ : Ro) : W → V → Prop
  | .non, v => v = V.non
  | .bl b, v => v = V.bl b
  | .int i, v => v = V.int i
  | .str s, v => v = V.str (strC s)
  | .tup ws, v => ∃ a vs, v = V.ref a ∧ TupR G H ρ (mixW ws) a vs ∧ vs.length ≤ sizeLine ∧ RepL G H ρ ws vs
  | .lst ws, v => ∃ a vs, v = V.ref a ∧ LstR G H ρ a vs ∧ vs.length ≤ sizeLine ∧ RepL G H ρ ws vs
  | .dct t kvs, v => (t = false ∧ ∃ a l, v = V.ref a ∧ DctR H ρ a (.dK l) ∧ RepD G H ρ Key wK kvs l) ∨ (t = true ∧ ∃ a l, v = V.ref a ∧ DctR H ρ a (.dT l) ∧ RepD G H ρ (List Key) tkW kvs l)
  | .ref k, v => ∃ a, ρ.at_[k]? = some a ∧ v = V.ref a
def RepL (G : Gx) (H : Hp) (ρ : Ro) : List W → List V → Prop
  | [], vs => vs = []
  | w :: r, vs => ∃ v t, vs = v :: t ∧ Rep G H ρ w v ∧ RepL G H ρ r t
def RepD (G : Gx) (H : Hp) (ρ : Ro) (κ : Type) (f : κ → W) : List (W × W) → List (κ × V) → Prop
  | [], l => l = []
  | (k, w) :: r, l => ∃ c v t, l = (c, v) :: t ∧ k = f c ∧ Rep G H ρ w v ∧ RepD G H ρ κ f r t
end
/-- the heap goes on: what is not an object of mine stands -/
structure Ext (H : Hp) (ρ : Ro) (H' : Hp) (ρ' : Ro) : Prop where
  pre : ∀ (k : Nat) (a : Addr), ρ.at_[k]? = some a → ρ'.at_[k]? = some a
  sup : ∀ a, a ∈ ρ.no → a ∈ ρ'.no
  keep : ∀ a o, H a = some o → a ∉ ρ.at_ → H' a = some o
  new : ∀ a, a ∈ ρ'.no → a ∈ ρ.no ∨ H a = none
  newA : ∀ a, a ∈ ρ'.at_ → a ∈ ρ.at_ ∨ H a = none
theorem Ext.refl (H : Hp) (ρ : Ro) : Ext H ρ H ρ := ⟨fun _ _ e => e, fun _ m => m, fun _ _ e _ => e, fun _ h => .inl h, fun _ h => .inl h⟩
theorem Ext.out {H H' : Hp} {ρ ρ' : Ro} (e : Ext H ρ H' ρ') {a : Addr} {o : HO} (h : H a = some o) (n : a ∉ ρ.no) : a ∉ ρ'.no := fun m => by
  rcases e.new a m with z | z
  · exact n z
  · rw [h] at z; cases z
theorem Ext.trans {H H1 H2 : Hp} {ρ ρ1 ρ2 : Ro} (e : Ext H ρ H1 ρ1) (f : Ext H1 ρ1 H2 ρ2) : Ext H ρ H2 ρ2 := by
  have none_of : ∀ a, a ∉ ρ.at_ → H1 a = none → H a = none := fun a n z => by
    cases y : H a with
    | none => rfl
    | some o => rw [e.keep a o y n] at z; cases z
  refine ⟨fun k a h => f.pre k a (e.pre k a h), fun a m => f.sup a (e.sup a m), fun a o h n => f.keep a o (e.keep a o h n) fun m => ?_, fun a m => ?_, fun a m => ?_⟩
  · rcases e.newA a m with z | z
    · exact n z
    · rw [h] at z; cases z
  · rcases f.new a m with z | z
    · exact e.new a z
    · by_cases q : a ∈ ρ.at_
      · exact .inl (ρ.sub a q)
      · exact .inr (none_of a q z)
  · rcases f.newA a m with z | z
    · exact e.newA a z
    · by_cases q : a ∈ ρ.at_
      · exact .inl q
      · exact .inr (none_of a q z)
theorem Ext.rd {H H' : Hp} {ρ ρ' : Ro} (e : Ext H ρ H' ρ') {a : Addr} {u : HO} (h : Rd H a u ∧ a ∉ ρ.no) : Rd H' a u ∧ a ∉ ρ'.no := by
  obtain ⟨h | ⟨o, h⟩, n⟩ := h
  · exact ⟨.inl (e.keep a _ h fun m => n (ρ.sub a m)), e.out h n⟩
  · exact ⟨.inr ⟨o, e.keep a _ h fun m => n (ρ.sub a m)⟩, e.out h n⟩
theorem Ext.lst {G : Gx} {H H' : Hp} {ρ ρ' : Ro} (e : Ext H ρ H' ρ') {a : Addr} {xs : List V} (h : LstR G H ρ a xs) : LstR G H' ρ' a xs := h.imp (fun h => e.rd h) fun h => h
theorem Ext.tup {G : Gx} {H H' : Hp} {ρ ρ' : Ro} (e : Ext H ρ H' ρ') {mx : Bool} {a : Addr} {xs : List V} (h : TupR G H ρ mx a xs) : TupR G H' ρ' mx a xs := h.imp (fun h => ⟨e.keep a _ h.1 fun m => h.2 (ρ.sub a m), e.out h.1 h.2⟩) fun h => h
theorem Ext.dct {H H' : Hp} {ρ ρ' : Ro} (e : Ext H ρ H' ρ') {a : Addr} {u : HO} (h : DctR H ρ a u) : DctR H' ρ' a u := ⟨e.keep a _ h.1 fun m => h.2 (ρ.sub a m), e.out h.1 h.2⟩
/-- a new object, not referred to -/
theorem Ext.laid {H : Hp} {ρ : Ro} {p : Addr} {o : HO} (n : H p = none) : Ext H ρ (upd H p o) ρ :=
  ⟨fun _ _ e => e, fun _ m => m, fun a u h _ => by rw [upd_ne (ne_of_none h n)]; exact h, fun _ h => .inl h, fun _ h => .inl h⟩
theorem TupR.sq {G : Gx} {H : Hp} {ρ : Ro} {mx : Bool} {a : Addr} {xs : List V} (h : TupR G H ρ mx a xs) : SqT G.K H a xs := h.imp (fun h => .inl h.1) fun h => h.1
mutual
theorem Rep.mono {G : Gx} {H H' : Hp} {ρ ρ' : Ro} (e : Ext H ρ H' ρ') : ∀ (w : W) (v : V), Rep G H ρ w v → Rep G H' ρ' w v
  | .non, v, h => by rw [Rep] at h ⊢; exact h
  | .bl b, v, h => by rw [Rep] at h ⊢; exact h
  | .int b, v, h => by rw [Rep] at h ⊢; exact h
  | .str b, v, h => by rw [Rep] at h ⊢; exact h
  | .tup ws, v, h => by
    rw [Rep] at h ⊢
    obtain ⟨a, vs, e1, h1, h2, h3⟩ := h
    exact ⟨a, vs, e1, e.tup h1, h2, RepL.mono e ws vs h3⟩
  | .lst ws, v, h => by
    rw [Rep] at h ⊢
    obtain ⟨a, vs, e1, h1, h2, h3⟩ := h
    exact ⟨a, vs, e1, e.lst h1, h2, RepL.mono e ws vs h3⟩
  | .dct t ws, v, h => by
    rw [Rep] at h ⊢
    exact h.imp (fun ⟨e0, a, l, e1, h1, h2⟩ => ⟨e0, a, l, e1, e.dct h1, RepD.mono e ws l h2⟩) fun ⟨e0, a, l, e1, h1, h2⟩ => ⟨e0, a, l, e1, e.dct h1, RepD.mono e ws l h2⟩
  | .ref k, v, h => by
    rw [Rep] at h ⊢
    obtain ⟨a, e1, h1⟩ := h
    exact ⟨a, e.pre k a e1, h1⟩
theorem RepL.mono {G : Gx} {H H' : Hp} {ρ ρ' : Ro} (e : Ext H ρ H' ρ') : ∀ (ws : List W) (vs : List V), RepL G H ρ ws vs → RepL G H' ρ' ws vs
  | [], vs, h => by rw [RepL] at h ⊢; exact h
  | w :: r, vs, h => by
    rw [RepL] at h ⊢
    obtain ⟨v, t, e1, h1, h2⟩ := h
    exact ⟨v, t, e1, Rep.mono e w v h1, RepL.mono e r t h2⟩
theorem RepD.mono {G : Gx} {H H' : Hp} {ρ ρ' : Ro} (e : Ext H ρ H' ρ') {κ : Type} {f : κ → W} : ∀ (ws : List (W × W)) (l : List (κ × V)), RepD G H ρ κ f ws l → RepD G H' ρ' κ f ws l
  | [], l, h => by rw [RepD] at h ⊢; exact h
  | (k, w) :: r, l, h => by
    rw [RepD] at h ⊢
    obtain ⟨c, v, t, e1, h1, h2, h3⟩ := h
    exact ⟨c, v, t, e1, h1, Rep.mono e w v h2, RepD.mono e r t h3⟩
end
theorem RepL.length {G : Gx} {H : Hp} {ρ : Ro} : ∀ {ws : List W} {vs : List V}, RepL G H ρ ws vs → vs.length = ws.length
  | [], vs, h => by rw [RepL] at h; subst h; rfl
  | w :: r, vs, h => by
    rw [RepL] at h
    obtain ⟨v, t, e1, h1, h2⟩ := h
    subst e1
    simp only [List.length_cons, RepL.length h2]
theorem RepL.get {G : Gx} {H : Hp} {ρ : Ro} : ∀ {ws : List W} {vs : List V} {i : Nat} {w : W}, RepL G H ρ ws vs → ws[i]? = some w → ∃ v, vs[i]? = some v ∧ Rep G H ρ w v
  | [], vs, i, w, h, e => by simp at e
  | x :: r, vs, 0, w, h, e => by
    rw [RepL] at h
    obtain ⟨v, t, e1, h1, h2⟩ := h
    subst e1
    simp only [List.getElem?_cons_zero, Option.some.injEq] at e
    subst e
    exact ⟨v, rfl, h1⟩
  | x :: r, vs, i + 1, w, h, e => by
    rw [RepL] at h
    obtain ⟨v, t, e1, h1, h2⟩ := h
    subst e1
    exact RepL.get (i := i) h2 (by simpa using e)
theorem RepL.getV {G : Gx} {H : Hp} {ρ : Ro} {ws : List W} {vs : List V} {i : Nat} {v : V} (h : RepL G H ρ ws vs) (e : vs[i]? = some v) : ∃ w, ws[i]? = some w ∧ Rep G H ρ w v := by
  have hl := h.length
  have hi : i < vs.length := (List.getElem?_eq_some_iff.mp e).1
  obtain ⟨v', e', r⟩ := h.get (i := i) (w := ws[i]'(by omega)) (by simp [show i < ws.length by omega])
  rw [e] at e'; cases e'
  exact ⟨_, by simp [show i < ws.length by omega], r⟩
theorem RepL.append {G : Gx} {H : Hp} {ρ : Ro} : ∀ {ws us : List W} {vs xs : List V}, RepL G H ρ ws vs → RepL G H ρ us xs → RepL G H ρ (ws ++ us) (vs ++ xs)
  | [], us, vs, xs, h, k => by rw [RepL] at h; subst h; exact k
  | w :: r, us, vs, xs, h, k => by
    rw [RepL] at h
    obtain ⟨v, t, e1, h1, h2⟩ := h
    subst e1
    show RepL G H ρ (w :: (r ++ us)) (v :: (t ++ xs))
    rw [RepL]
    exact ⟨v, _, rfl, h1, RepL.append h2 k⟩
theorem RepL.cons {G : Gx} {H : Hp} {ρ : Ro} {w : W} {ws : List W} {v : V} {vs : List V} (h : Rep G H ρ w v) (k : RepL G H ρ ws vs) : RepL G H ρ (w :: ws) (v :: vs) := by
  rw [RepL]; exact ⟨v, vs, rfl, h, k⟩
theorem RepL.nil {G : Gx} {H : Hp} {ρ : Ro} : RepL G H ρ [] [] := by rw [RepL]
theorem RepL.take {G : Gx} {H : Hp} {ρ : Ro} : ∀ {ws : List W} {vs : List V} (n : Nat), RepL G H ρ ws vs → RepL G H ρ (ws.take n) (vs.take n)
  | _, _, 0, _ => by simp only [List.take_zero]; exact RepL.nil
  | [], vs, n + 1, h => by rw [RepL] at h; subst h; exact RepL.nil
  | w :: r, vs, n + 1, h => by
    rw [RepL] at h
    obtain ⟨v, t, e1, h1, h2⟩ := h
    subst e1
    exact RepL.cons h1 (RepL.take n h2)
theorem RepL.drop {G : Gx} {H : Hp} {ρ : Ro} : ∀ {ws : List W} {vs : List V} (n : Nat), RepL G H ρ ws vs → RepL G H ρ (ws.drop n) (vs.drop n)
  | _, _, 0, h => by simpa only [List.drop_zero] using h
  | [], vs, n + 1, h => by rw [RepL] at h; subst h; exact RepL.nil
  | w :: r, vs, n + 1, h => by
    rw [RepL] at h
    obtain ⟨v, t, e1, h1, h2⟩ := h
    subst e1
    exact RepL.drop n h2
theorem RepL.set {G : Gx} {H : Hp} {ρ : Ro} {x : W} {y : V} (q : Rep G H ρ x y) : ∀ {ws : List W} {vs : List V} (n : Nat), RepL G H ρ ws vs → RepL G H ρ (ws.set n x) (vs.set n y)
  | [], vs, n, h => by rw [RepL] at h; subst h; exact RepL.nil
  | w :: r, vs, 0, h => by
    rw [RepL] at h
    obtain ⟨v, t, e1, h1, h2⟩ := h
    subst e1
    exact RepL.cons q h2
  | w :: r, vs, n + 1, h => by
    rw [RepL] at h
    obtain ⟨v, t, e1, h1, h2⟩ := h
    subst e1
    exact RepL.cons h1 (RepL.set q n h2)
theorem RepL.rep {G : Gx} {H : Hp} {ρ : Ro} {ws : List W} {vs : List V} (h : RepL G H ρ ws vs) : ∀ n : Nat, RepL G H ρ (repW ws n) (List.replicate n vs).flatten
  | 0 => RepL.nil
  | n + 1 => by
    show RepL G H ρ (List.replicate (n + 1) ws).flatten _
    rw [List.replicate_succ, List.replicate_succ, List.flatten_cons, List.flatten_cons]
    exact RepL.append h (RepL.rep h n)
/-! the heap of mine -/
def ORep (G : Gx) (H : Hp) (ρ : Ro) (a : Addr) : O → Prop
  | .lst ws => ∃ vs, H a = some (.lst vs) ∧ vs.length ≤ sizeLine ∧ RepL G H ρ ws vs
  | .ins c fs => ∃ dx fs', H a = some (.ins (G.ca c) dx fs') ∧ fs'.length = fs.length ∧ ∀ (i : Nat) f w, fs[i]? = some (f, w) → ∃ v, fs'[i]? = some (G.nm f, v) ∧ Rep G H ρ w v
  | .dk kvs => ∃ l, H a = some (.dK l) ∧ RepD G H ρ Key wK kvs l
  | .dt kvs => ∃ l, H a = some (.dT l) ∧ RepD G H ρ (List Key) tkW kvs l
structure HRep (G : Gx) (H : Hp) (ρ : Ro) (h : WH) : Prop where
  len : ρ.at_.length = h.length
  nd : ρ.at_.Nodup
  live : ∀ a, a ∈ ρ.no → H a ≠ none
  at_ : ∀ (k : Nat) (a : Addr) (o : O), ρ.at_[k]? = some a → h[k]? = some o → ORep G H ρ a o
structure SRep (G : Gx) (H : Hp) (ρ : Ro) (σw : Env) (σ : L2.St) : Prop where
  len : σ.length = σw.length
  at_ : ∀ (i : Nat) (w : W), σw[i]? = some (some w) → ∃ v, σ[i]? = some (some v) ∧ Rep G H ρ w v
theorem SRep.mono {G : Gx} {H H' : Hp} {ρ ρ' : Ro} {σw : Env} {σ : L2.St} (e : Ext H ρ H' ρ') (s : SRep G H ρ σw σ) : SRep G H' ρ' σw σ :=
  ⟨s.len, fun i w h => let ⟨v, h1, h2⟩ := s.at_ i w h; ⟨v, h1, Rep.mono e w v h2⟩⟩
theorem SRep.set {G : Gx} {H : Hp} {ρ : Ro} {σw : Env} {σ : L2.St} {i : Nat} {w : W} {v : V} (s : SRep G H ρ σw σ) (r : Rep G H ρ w v) : SRep G H ρ (σw.set i (some w)) (σ.set i (some v)) := by
  refine ⟨by simp only [List.length_set]; exact s.len, fun j x h => ?_⟩
  by_cases hj : i = j
  · subst hj
    by_cases hi : i < σw.length
    · rw [List.getElem?_set_self hi] at h
      cases h
      exact ⟨v, by rw [List.getElem?_set_self (by rw [s.len]; exact hi)], r⟩
    · rw [List.getElem?_eq_none (by simpa using hi)] at h; cases h
  · rw [List.getElem?_set_ne hj] at h ⊢
    exact s.at_ j x h
theorem SRep.clear {G : Gx} {H : Hp} {ρ : Ro} {σw : Env} {σ : L2.St} {i : Nat} (s : SRep G H ρ σw σ) : SRep G H ρ (σw.set i none) σ := by
  refine ⟨by simp only [List.length_set]; exact s.len, fun j x h => ?_⟩
  by_cases hj : i = j
  · subst hj
    by_cases hi : i < σw.length
    · rw [List.getElem?_set_self hi] at h; cases h
    · rw [List.getElem?_eq_none (by simpa using hi)] at h; cases h
  · rw [List.getElem?_set_ne hj] at h
    exact s.at_ j x h
theorem SRep.clear2 {G : Gx} {H : Hp} {ρ : Ro} {σw : Env} {σ : L2.St} {i : Nat} (s : SRep G H ρ σw σ) : SRep G H ρ (σw.set i none) (σ.set i none) := by
  refine ⟨by simp only [List.length_set]; exact s.len, fun j x h => ?_⟩
  by_cases hj : i = j
  · subst hj
    by_cases hi : i < σw.length
    · rw [List.getElem?_set_self hi] at h; cases h
    · rw [List.getElem?_eq_none (by simpa using hi)] at h; cases h
  · rw [List.getElem?_set_ne hj] at h ⊢
    exact s.at_ j x h
theorem SRep.wip {G : Gx} {H : Hp} {ρ : Ro} {σw : Env} {σ : L2.St} (s : SRep G H ρ σw σ) : ∀ l : List Nat, SRep G H ρ (wipE σw l) σ
  | [] => s
  | i :: r => (SRep.wip s r).clear
theorem SRep.wip2 {G : Gx} {H : Hp} {ρ : Ro} {σw : Env} {σ : L2.St} (s : SRep G H ρ σw σ) : ∀ l : List Nat, SRep G H ρ (wipE σw l) (wipe σ l)
  | [] => s
  | i :: r => (SRep.wip2 s r).clear2
/-! what an expression's evaluation gives -/
/-- an exception of mine -/
def XRep (G : Gx) (c : Nm) (fs : List (Nm × W)) (cls : Value) (d : Option Addr) : Prop := cls = Value.ref (G.ca c) ∧ fs = [] ∧ d = none ∧ G.ex c = true
def GW (G : Gx) (Wx : WX) (σ : L2.St) (H : Hp) (ρ : Ro) (r : R W) (Q : VK) : Prop := match r with
  | .ok w h' => ∀ v H' ρ', Ext H ρ H' ρ' → HRep G H' ρ' h' → Rep G H' ρ' w v → Q v H'
  | .exc c fs h' => ∀ cls d H' ρ', Ext H ρ H' ρ' → HRep G H' ρ' h' → XRep G c fs cls d → Wx cls d σ H'
  | .bad => False
def GL (G : Gx) (Wx : WX) (σ : L2.St) (H : Hp) (ρ : Ro) (r : R (List W)) (Q : List V → Hp → Prop) : Prop := match r with
  | .ok w h' => ∀ v H' ρ', Ext H ρ H' ρ' → HRep G H' ρ' h' → RepL G H' ρ' w v → Q v H'
  | .exc c fs h' => ∀ cls d H' ρ', Ext H ρ H' ρ' → HRep G H' ρ' h' → XRep G c fs cls d → Wx cls d σ H'
  | .bad => False
/-- the same of a new list of which nobody knows yet -/
def GF (G : Gx) (Wx : WX) (σ : L2.St) (H : Hp) (ρ : Ro) (r : R W) (Q : VK) : Prop := match r with
  | .ok w h' => ∃ ws, w = .lst ws ∧ ∀ p vs H' ρ', Ext H ρ H' ρ' → HRep G H' ρ' h' → RepL G H' ρ' ws vs → H' p = none → vs.length ≤ sizeLine → Q (.ref p) (upd H' p (.lst vs))
  | .exc c fs h' => ∀ cls d H' ρ', Ext H ρ H' ρ' → HRep G H' ρ' h' → XRep G c fs cls d → Wx cls d σ H'
  | .bad => False
def tW (G : Gx) (Wx : WX) (m : Env → WH → R W) : TE := fun σ H Q => ∃ ρ σw h, SRep G H ρ σw σ ∧ HRep G H ρ h ∧ GW G Wx σ H ρ (m σw h) Q
def tL (G : Gx) (Wx : WX) (m : Env → WH → R (List W)) : TA := fun σ H Q => ∃ ρ σw h, SRep G H ρ σw σ ∧ HRep G H ρ h ∧ GL G Wx σ H ρ (m σw h) Q
def tF (G : Gx) (Wx : WX) (m : Env → WH → R W) : TE := fun σ H Q => ∃ ρ σw h, SRep G H ρ σw σ ∧ HRep G H ρ h ∧ GF G Wx σ H ρ (m σw h) Q
section
variable {G : Gx} {Wx : WX} {σ : L2.St} {H H1 : Hp} {ρ ρ1 : Ro}

theorem GW.mono {r : R W} {Q : VK} (e : Ext H ρ H1 ρ1) (g : GW G Wx σ H ρ r Q) : GW G Wx σ H1 ρ1 r Q := by
  cases r with
  | ok w h' => exact fun v H' ρ' e' hr rp => g v H' ρ' (e.trans e') hr rp
  | exc c fs h' => exact fun cls d H' ρ' e' hr x => g cls d H' ρ' (e.trans e') hr x
  | bad => exact g
theorem GL.mono {r : R (List W)} {Q : List V → Hp → Prop} (e : Ext H ρ H1 ρ1) (g : GL G Wx σ H ρ r Q) : GL G Wx σ H1 ρ1 r Q := by
  cases r with
  | ok w h' => exact fun v H' ρ' e' hr rp => g v H' ρ' (e.trans e') hr rp
  | exc c fs h' => exact fun cls d H' ρ' e' hr x => g cls d H' ρ' (e.trans e') hr x
  | bad => exact g
theorem GW.imp {r : R W} {Q Q' : VK} (k : ∀ v H, Q v H → Q' v H) (g : GW G Wx σ H ρ r Q) : GW G Wx σ H ρ r Q' := by
  cases r with
  | ok w h' => exact fun v H' ρ' e' hr rp => k _ _ (g v H' ρ' e' hr rp)
  | exc c fs h' => exact g
  | bad => exact g
/-- one behind the other -/
theorem GW.bind {r : R W} {f : W → WH → R W} {Q : VK} (g : GW G Wx σ H ρ (r.bind f) Q) :
    GW G Wx σ H ρ r fun v H1 => ∃ ρ1 w h1, Ext H ρ H1 ρ1 ∧ HRep G H1 ρ1 h1 ∧ Rep G H1 ρ1 w v ∧ GW G Wx σ H1 ρ1 (f w h1) Q := by
  cases r with
  | ok w h' => exact fun v H' ρ' e' hr rp => ⟨ρ', w, h', e', hr, rp, g.mono e'⟩
  | exc c fs h' => exact g
  | bad => exact g
theorem GL.bind {r : R (List W)} {f : List W → WH → R W} {Q : VK} (g : GW G Wx σ H ρ (r.bind f) Q) :
    GL G Wx σ H ρ r fun v H1 => ∃ ρ1 w h1, Ext H ρ H1 ρ1 ∧ HRep G H1 ρ1 h1 ∧ RepL G H1 ρ1 w v ∧ GW G Wx σ H1 ρ1 (f w h1) Q := by
  cases r with
  | ok w h' => exact fun v H' ρ' e' hr rp => ⟨ρ', w, h', e', hr, rp, g.mono e'⟩
  | exc c fs h' => exact g
  | bad => exact g
/-- from a new list -/
theorem HRep.fresh {h : WH} {p : Addr} (hr : HRep G H ρ h) (n : H p = none) : p ∉ ρ.no := fun m => hr.live p m n
theorem ORep.mono {a : Addr} {o : O} (e : Ext H ρ H1 ρ1) (k : ∀ u, H a = some u → H1 a = some u) (x : ORep G H ρ a o) : ORep G H1 ρ1 a o := by
  cases o with
  | lst ws => obtain ⟨vs, h1, h2, h3⟩ := x; exact ⟨vs, k _ h1, h2, RepL.mono e _ _ h3⟩
  | dk ws => obtain ⟨l, h1, h2⟩ := x; exact ⟨l, k _ h1, RepD.mono e _ _ h2⟩
  | dt ws => obtain ⟨l, h1, h2⟩ := x; exact ⟨l, k _ h1, RepD.mono e _ _ h2⟩
  | ins c fs =>
    obtain ⟨dx, fs', h1, h2, h3⟩ := x
    exact ⟨dx, fs', k _ h1, h2, fun i f w q => let ⟨v, z1, z2⟩ := h3 i f w q; ⟨v, z1, Rep.mono e _ _ z2⟩⟩
theorem HRep.laid {h : WH} {p : Addr} {o : HO} (hr : HRep G H ρ h) (n : H p = none) : HRep G (upd H p o) ρ h :=
  ⟨hr.len, hr.nd, fun a m z => by
    have q := hr.live a m
    by_cases e : a = p
    · exact q (e ▸ n)
    · rw [upd_ne e] at z; exact q z, fun k a u h1 h2 => (hr.at_ k a u h1 h2).mono (Ext.laid n) fun v hv => by rw [upd_ne (ne_of_none hv n)]; exact hv⟩
theorem Rep.lst_new {ws : List W} {vs : List V} {h : WH} {p : Addr} (hr : HRep G H ρ h) (n : H p = none) (hl : vs.length ≤ sizeLine) (r : RepL G H ρ ws vs) : Rep G (upd H p (.lst vs)) ρ (.lst ws) (.ref p) := by
  rw [Rep]
  exact ⟨p, vs, rfl, .inl ⟨.inl upd_same, hr.fresh n⟩, hl, RepL.mono (Ext.laid n) _ _ r⟩
theorem Rep.tup_new {ws : List W} {vs : List V} {h : WH} {p : Addr} (hr : HRep G H ρ h) (n : H p = none) (hl : vs.length ≤ sizeLine) (r : RepL G H ρ ws vs) : Rep G (upd H p (.tup vs)) ρ (.tup ws) (.ref p) := by
  rw [Rep]
  exact ⟨p, vs, rfl, .inl ⟨upd_same, hr.fresh n⟩, hl, RepL.mono (Ext.laid n) _ _ r⟩
theorem GF.of_W {r : R W} {Q : VK} (h : ∀ w h', r = .ok w h' → ∃ ws, w = .lst ws) (g : GW G Wx σ H ρ r Q) : GF G Wx σ H ρ r Q := by
  cases r with
  | ok w h' =>
    obtain ⟨ws, rfl⟩ := h w h' rfl
    exact ⟨ws, rfl, fun p vs H' ρ' e hr rl n hl => g _ _ ρ' (e.trans (Ext.laid n)) (hr.laid n) (Rep.lst_new hr n hl rl)⟩
  | exc c fs h' => exact g
  | bad => exact g
/-- a new list taken into the heap of mine -/
def Ro.push (ρ : Ro) (p : Addr) : Ro := ⟨ρ.at_ ++ [p], p :: ρ.no, fun a m => by
  rcases List.mem_append.mp m with m | m
  · exact List.mem_cons_of_mem _ (ρ.sub a m)
  · rw [List.mem_singleton.mp m]; exact List.mem_cons_self⟩
theorem HRep.push {o : O} {u : HO} {h : WH} {p : Addr} (hr : HRep G H ρ h) (n : H p = none) (r : Ext H ρ (upd H p u) (ρ.push p) → ORep G (upd H p u) (ρ.push p) p o) :
    Ext H ρ (upd H p u) (ρ.push p) ∧ HRep G (upd H p u) (ρ.push p) (h ++ [o]) := by
  have np := hr.fresh n
  have e : Ext H ρ (upd H p u) (ρ.push p) := by
    refine ⟨fun k a q => ?_, fun a m => List.mem_cons_of_mem _ m, fun a o q _ => by rw [upd_ne (ne_of_none q n)]; exact q, fun a m => ?_, fun a m => ?_⟩
    · show (ρ.at_ ++ [p])[k]? = some a
      rw [List.getElem?_append_left (List.getElem?_eq_some_iff.mp q).1]; exact q
    · rcases List.mem_cons.mp m with m | m
      · rw [m]; exact .inr n
      · exact .inl m
    · rcases List.mem_append.mp m with m | m
      · exact .inl m
      · rw [List.mem_singleton.mp m]; exact .inr n
  refine ⟨e, by simp [Ro.push, hr.len], List.nodup_append.mpr ⟨hr.nd, by simp, fun a ha b hb => by rw [List.mem_singleton.mp hb]; exact fun z => np (ρ.sub p (z ▸ ha))⟩, fun a m z => ?_, fun k a o' q1 q2 => ?_⟩
  · rcases List.mem_cons.mp m with m | m
    · rw [m, upd_same] at z; cases z
    · by_cases y : a = p
      · rw [y, upd_same] at z; cases z
      · rw [upd_ne y] at z; exact hr.live a m z
  · have q1 : (ρ.at_ ++ [p])[k]? = some a := q1
    by_cases hk : k < ρ.at_.length
    · rw [List.getElem?_append_left hk] at q1
      rw [List.getElem?_append_left (by rw [← hr.len]; exact hk)] at q2
      exact (hr.at_ k a o' q1 q2).mono e fun u hu => by rw [upd_ne (ne_of_none hu n)]; exact hu
    · rw [List.getElem?_append_right (by omega)] at q1
      rw [List.getElem?_append_right (by rw [← hr.len]; omega)] at q2
      have hk1 : k - ρ.at_.length = 0 := by
        have := (List.getElem?_eq_some_iff.mp q1).1
        simp at this; exact this
      rw [hk1] at q1
      rw [← hr.len, hk1] at q2
      simp only [List.getElem?_cons_zero, Option.some.injEq] at q1 q2
      subst q1; subst q2
      exact r e
theorem Ro.push_last {ρ : Ro} {p : Addr} {n : Nat} (h : ρ.at_.length = n) : (ρ.push p).at_[n]? = some p := by
  show (ρ.at_ ++ [p])[n]? = some p
  rw [← h, List.getElem?_append_right (Nat.le_refl _)]; simp
theorem GF.thaw {r : R W} {Q : VK} (g : GW G Wx σ H ρ (r.bind fun w h => match w with | .lst ws => .ok (.ref h.length) (h ++ [.lst ws]) | _ => .bad) Q) : GF G Wx σ H ρ r Q := by
  cases r with
  | ok w h' =>
    cases w with
    | lst ws =>
      refine ⟨ws, rfl, fun p vs H' ρ' e hr rl n hl => ?_⟩
      obtain ⟨e2, hr2⟩ := hr.push (o := .lst ws) (u := .lst vs) n fun e => ⟨vs, upd_same, hl, RepL.mono e _ _ rl⟩
      refine g _ _ (ρ'.push p) (e.trans e2) hr2 ?_
      rw [Rep]
      exact ⟨p, Ro.push_last hr.len, rfl⟩
    | _ => exact False.elim g
  | exc c fs h' => exact g
  | bad => exact g
end
end Y

namespace Y
open PySem PySem.Spec PyProof.Rows L2
/-- a value as it is looked at: a list of mine too -/
def VRep (G : Gx) (H : Hp) (ρ : Ro) : W → V → Prop
  | .lst ws, v => ∃ a vs, v = V.ref a ∧ LsQ G H a vs ∧ vs.length ≤ sizeLine ∧ RepL G H ρ ws vs
  | .dct t kvs, v => (t = false ∧ ∃ a l, v = V.ref a ∧ H a = some (.dK l) ∧ RepD G H ρ Key wK kvs l) ∨ (t = true ∧ ∃ a l, v = V.ref a ∧ H a = some (.dT l) ∧ RepD G H ρ (List Key) tkW kvs l)
  | w, v => Rep G H ρ w v
/-- what is wanted of a value that comes -/
def KW (G : Gx) (H : Hp) (ρ : Ro) (h : WH) (w : W) (Q : VK) : Prop := ∀ v H' ρ', Ext H ρ H' ρ' → HRep G H' ρ' h → Rep G H' ρ' w v → Q v H'
section
variable {G : Gx} {Wx : WX} {σ : L2.St} {H H1 : Hp} {ρ ρ1 : Ro} {h : WH}
theorem Rep.v {w : W} {v : V} (r : Rep G H ρ w v) : VRep G H ρ w v := by
  cases w with
  | lst ws => rw [Rep] at r; obtain ⟨a, vs, e, r1, r2, r3⟩ := r; exact ⟨a, vs, e, r1.q, r2, r3⟩
  | dct t kvs => rw [Rep] at r; exact r.imp (fun ⟨e0, a, l, e1, h1, h2⟩ => ⟨e0, a, l, e1, h1.1, h2⟩) fun ⟨e0, a, l, e1, h1, h2⟩ => ⟨e0, a, l, e1, h1.1, h2⟩
  | _ => exact r
theorem view_rep (hr : HRep G H ρ h) {w : W} {v : V} (r : Rep G H ρ w v) : VRep G H ρ (view h w) v := by
  cases w with
  | ref k =>
    rw [Rep] at r
    obtain ⟨a, e, rfl⟩ := r
    have rr : Rep G H ρ (.ref k) (.ref a) := by rw [Rep]; exact ⟨a, e, rfl⟩
    cases q : h[k]? with
    | none => have e1 : view h (.ref k) = .ref k := by simp only [view, q]
              rw [e1]; exact rr
    | some o =>
      have z := hr.at_ k a o e q
      cases o with
      | lst ws =>
        have e1 : view h (.ref k) = .lst ws := by simp only [view, q]
        rw [e1]
        obtain ⟨vs, z1, z2, z3⟩ := z; exact ⟨a, vs, rfl, .inl (.inl z1), z2, z3⟩
      | dk ws =>
        have e1 : view h (.ref k) = .dct false ws := by simp only [view, q]
        rw [e1]
        obtain ⟨l, z1, z2⟩ := z; exact .inl ⟨rfl, a, l, rfl, z1, z2⟩
      | dt ws =>
        have e1 : view h (.ref k) = .dct true ws := by simp only [view, q]
        rw [e1]
        obtain ⟨l, z1, z2⟩ := z; exact .inr ⟨rfl, a, l, rfl, z1, z2⟩
      | ins c fs =>
        have e1 : view h (.ref k) = .ref k := by simp only [view, q]
        rw [e1]; exact rr
  | _ => exact r.v
theorem KW.here {w : W} {v : V} {Q : VK} (k : KW G H ρ h w Q) (hr : HRep G H ρ h) (r : Rep G H ρ w v) : Q v H := k v H ρ (Ext.refl _ _) hr r
theorem KW.list {ws : List W} {vs : List V} {Q : VK} (k : KW G H ρ h (.lst ws) Q) (hr : HRep G H ρ h) (r : RepL G H ρ ws vs) (hl : vs.length ≤ sizeLine) : ∀ p, H p = none → Q (.ref p) (upd H p (.lst vs)) :=
  fun p n => k _ _ ρ (Ext.laid n) (hr.laid n) (Rep.lst_new hr n hl r)
theorem KW.tup {ws : List W} {vs : List V} {Q : VK} (k : KW G H ρ h (.tup ws) Q) (hr : HRep G H ρ h) (r : RepL G H ρ ws vs) (hl : vs.length ≤ sizeLine) : ∀ p, H p = none → Q (.ref p) (upd H p (.tup vs)) :=
  fun p n => k _ _ ρ (Ext.laid n) (hr.laid n) (Rep.tup_new hr n hl r)
theorem KW.of_G {w : W} {Q : VK} (g : GW G Wx σ H ρ (.ok w h) Q) : KW G H ρ h w Q := g
theorem opt_some_of {o : Option W} {Q : VK} (g : GW G Wx σ H ρ (opt o h) Q) : ∃ w, o = some w ∧ KW G H ρ h w Q := by
  cases o with
  | none => exact False.elim g
  | some w => exact ⟨w, rfl, g⟩
end
/-! tuples and lists, read in whatever way -/
section
variable {X : Cx} {pins : List (Addr × Obj)} {σ : L2.St} {H : Hp} {s : Shared}
theorem lstR {G : Gx} (hG : X.K = G.K) (I : Inv X pins σ H s) {l : Addr} {xs : List V} (h : LsQ G H l xs) : xs.length ≤ sizeLine ∧ ∃ (its : List Value) (n : Nat), Vals xs its ∧ xs.length = its.length ∧ s.heap.get? l = some { cls := .type "list", data := .seq its.toArray n } := by
  rcases h with h | ⟨its, n, k, z, r⟩
  · have q : ObjOk X.prog X.w H s.heap l (.lst xs) := h.ok I.hok
    obtain ⟨z, its, n, r, e⟩ := q
    exact ⟨z, its, n, r, r.length, e⟩
  · exact ⟨z, its, n, r, r.length, I.kIn l _ (hG ▸ k)⟩
theorem newTup (I : Inv X pins σ H s) {its : List Value} {xs : List V} {t' : Nat} (r : Vals xs its) (hz : xs.length ≤ sizeLine) :
    Inv X pins σ (upd H s.heap.objs.size (.tup xs)) { s with heap := s.heap.push { cls := .type "tuple", data := .seq its.toArray }, toks := t' } :=
  I.laid (fun _ _ q => Heap.get?_push_of_some _ q) (Nat.le_refl _) ⟨hz, its, r, IsTup.new _ _⟩
/-- list + list -/
def rCatR (G : Gx) : R2 := fun x y H Q => ∃ l b xs zs, x = .ref l ∧ y = .ref b ∧ LsQ G H l xs ∧ LsQ G H b zs ∧ xs.length + zs.length ≤ sizeLine ∧ ∀ p, H p = none → Q (.ref p) (upd H p (.lst (xs ++ zs)))
theorem op_catR {G : Gx} (hG : X.K = G.K) : OpR X (binaryOp .Add) (rCatR G) := by
  intro pins s σ H x y v u Q I rx ry h
  obtain ⟨l, b, xs, zs, rfl, rfl, hH, hB, hz, q⟩ := h
  cases rx
  cases ry
  obtain ⟨z, its, n, r, hl, e⟩ := lstR hG I hH
  obtain ⟨z2, its2, n2, r2, hl2, e2⟩ := lstR hG I hB
  refine PySem.P.add_list e e2 ?_ (by rw [List.size_toArray, List.size_toArray]; omega)
  have ea : its.toArray ++ its2.toArray = (its ++ its2).toArray := by simp
  rw [ea]
  exact ⟨.ref _, _, I.lnew (t' := s.toks) (r.append r2) (by rw [List.length_append]; omega), rfl, q _ I.fresh⟩
/-- list * int -/
def rRepR (G : Gx) : R2 := fun x y H Q => ∃ l k xs, x = .ref l ∧ y = .int k ∧ LsQ G H l xs ∧ -(2 ^ 63) ≤ k ∧ k < 2 ^ 63 ∧ xs.length * k.toNat ≤ sizeLine ∧
  ∀ p, H p = none → Q (.ref p) (upd H p (.lst (List.replicate k.toNat xs).flatten))
theorem op_repR {G : Gx} (hG : X.K = G.K) : OpR X (binaryOp .Mult) (rRepR G) := by
  intro pins s σ H x y v u Q I rx ry h
  obtain ⟨l, k, xs, rfl, rfl, hH, h1, h2, hz, q⟩ := h
  cases rx
  obtain ⟨t, rfl⟩ := ry
  obtain ⟨z, its, n, r, hl, e⟩ := lstR hG I hH
  have hlen : its.toArray.size * k.toNat ≤ sizeLine := by rw [List.size_toArray, ← hl]; exact hz
  have hcap : ¬ its.toArray.size * k.toNat > (2 ^ 63 - 1) / 8 := by
    have : (sizeLine : Nat) ≤ (2 ^ 63 - 1) / 8 := by decide
    omega
  have hfit : ¬ (!Builtin.List.listFitsIndex k) = true := by
    rw [fitsIndex_both h1 h2]
    exact Bool.false_ne_true
  have hlong : ¬ Builtin.List.listTooLong (its.toArray.size * k.toNat) = true := by
    rw [notLongL hlen]
    exact Bool.false_ne_true
  have hnew : List.foldl (fun x1 x2 => x1 ++ x2) #[] (List.replicate (if its.toArray.isEmpty = true then 0 else k.toNat) its.toArray) = (List.replicate k.toNat its).flatten.toArray := by
    rw [size_rep]
    cases its with
    | nil => simp
    | cons a r' => rw [if_neg (by simp)]
  refine wpAny_binaryOp_repeat_ref (T := "list") (U := "int") (by decide) ⟨_, e, rfl⟩ (fun s' => typeIs_int s' k t) noFill_list_mul F.fills_int_mul F.slot_int_rmul repeat_list F.slot_int_index.lookup
    (call_meets F.slot_int_rmul (typeIs_int s k t) F.entry_int_rmul (F.args_int_rmul_2 _ _) (int___rmul___int_list k t l its.toArray n)
      ⟨e, rfl, ⟨_, e, rfl⟩, call_meets F.slot_list_mul ⟨_, e, rfl⟩ F.entry_list_mul (F.args_list_mul_2 _ _) (AutoListH.list___mul___list_int_3 l its.toArray n k t hfit hcap hlong) ⟨e, ?_⟩⟩)
  rw [hnew]
  exact ⟨.ref _, _, I.lnew (t' := s.toks) (r.rep k.toNat) (by rw [PyProof.Rows.lm_len_rep_flat, Nat.mul_comm]; exact hz), rfl, q _ I.fresh⟩
end
/-! arithmetic -/
theorem mulOk_ok {i j : Int} (h : mulOk i j = true) : IntMulOk i j := by
  have h3 : i.natAbs.log2 + j.natAbs.log2 < 60000000 := of_decide_eq_true h
  have b : ∀ x : Int, Builtin.Int.intBits x ≤ x.natAbs.log2 + 1 := fun x => by
    unfold Builtin.Int.intBits
    split <;> omega
  have h1 := b i
  have h2 := b j
  have e : bitsLine = 134217728 := by decide
  unfold IntMulOk
  intro z
  rw [Bool.and_eq_true] at z
  have z2 := z.2
  unfold Builtin.Int.intTooBig at z2
  have z3 := of_decide_eq_true z2
  rw [e] at z3
  omega
def boS : BO → Operator
  | .add => .Add | .sub => .Sub | .mul => .Mult | .fdiv => .FloorDiv | .mod => .Mod | .pow => .Pow | .shl => .LShift | .shr => .RShift | .band => .BitAnd
/-- the reading of an operation of mine -/
def rB (G : Gx) (o : BO) : R2 := fun x y H Q => ∃ ρ h a b w, HRep G H ρ h ∧ VRep G H ρ a x ∧ VRep G H ρ b y ∧ binW o a b = some w ∧ KW G H ρ h w Q
theorem big_eq : big = sizeLine := by decide
section
variable {X : Cx} {G : Gx}
theorem tuple_mul_same (l : Addr) (items : Array Value) (n : Nat) (dd : Option Addr) (sl : Array (Option Value)) (x : Int) (u : Tok) (c0 : (decide (x < -(2 ^ 63)) || decide (x ≥ 2 ^ 63)) = false) (c1 : (items.isEmpty || x == 1) = true) :
    Meets (Builtin.«tuple.__mul__» ⟨[.ref l, .int x u], []⟩) (fun _ R s => s.heap.get? l = some { cls := .type "tuple", dict := dd, data := .seq items n, slots := sl } ∧ R (.ok (.ret (Value.ref l))) s) :=
  .of_wp fun prog w A R s h => by
    obtain ⟨hp, g, d, tk, os⟩ := s
    obtain ⟨hl, h⟩ := h
    have f1 := AutoSeq1.idx_int
    wp_walk using wpAny_loadPart' hl
    repeat (first
      | (refine wpAny_ite_false (decide_eq_false (by rw [c0]; exact Bool.false_ne_true)) ?_; wp_walk using wpAny_loadPart' hl)
      | (refine wpAny_ite_true (decide_eq_true c1) ?_; wp_walk using wpAny_loadPart' hl))
    exact ⟨_, rfl, h⟩
theorem tuple_mul_none (l : Addr) (items : Array Value) (n : Nat) (dd : Option Addr) (sl : Array (Option Value)) (x : Int) (u : Tok) (c0 : (decide (x < -(2 ^ 63)) || decide (x ≥ 2 ^ 63)) = false) (c1 : (items.isEmpty || x == 1) = false) (c2 : (decide (x ≤ 0) || items.isEmpty) = true) :
    Meets (Builtin.«tuple.__mul__» ⟨[.ref l, .int x u], []⟩) (fun _ R s => s.heap.get? l = some { cls := .type "tuple", dict := dd, data := .seq items n, slots := sl } ∧
      R (.ok (.ret (Value.ref s.heap.objs.size))) { s with heap := s.heap.push { cls := Value.type "tuple", data := Data.seq #[] }, toks := s.toks }) :=
  .of_wp fun prog w A R s h => by
    obtain ⟨hp, g, d, tk, os⟩ := s
    obtain ⟨hl, h⟩ := h
    have f1 := AutoSeq1.idx_int
    wp_walk using wpAny_loadPart' hl
    repeat (first
      | (refine wpAny_ite_false (decide_eq_false (by rw [c0]; exact Bool.false_ne_true)) ?_; wp_walk using wpAny_loadPart' hl)
      | (refine wpAny_ite_false (decide_eq_false (by rw [c1]; exact Bool.false_ne_true)) ?_; wp_walk using wpAny_loadPart' hl)
      | (refine wpAny_ite_true (decide_eq_true c2) ?_; wp_walk using wpAny_loadPart' hl))
    exact ⟨_, rfl, h⟩
/-- tuple * int, all that comes to no new tuple of two or more turns -/
theorem tup_times {pins : List (Addr × Obj)} {s : Shared} {σ : L2.St} {H : Hp} {l : Addr} {k : Int} {t : Tok} {xs : List V} {Q : VK} (I : Inv X pins σ H s) (hT : SqT X.K H l xs) (h1 : -(2 ^ 62) ≤ k) (h2 : k < 2 ^ 62)
    (hz : xs.length * k.toNat ≤ sizeLine) (hs : (List.replicate k.toNat xs).flatten = xs → Q (.ref l) H) (q : ∀ p, H p = none → Q (.ref p) (upd H p (.tup (List.replicate k.toNat xs).flatten))) :
    wpAny (model X.prog X.w) X.A (binaryOp .Mult (.ref l) (.int k t)) (EP X pins σ Q) X.xe s := by
  obtain ⟨its, r, ⟨⟨cls, dd, data, sl⟩, ho, hc, n, hd⟩, hsz⟩ := I.tuple hT
  simp only at hc hd
  subst hc hd
  have hle : its.length = xs.length := r.length.symm
  have c0 : (decide (k < -(2 ^ 63)) || decide (k ≥ 2 ^ 63)) = false := by
    rw [decide_eq_false (by omega), decide_eq_false (by omega)] <;> rfl
  have e0 : its.toArray.isEmpty = its.isEmpty := by simp
  refine wpAny_binaryOp_repeat_ref (T := "tuple") (U := "int") (by decide) ⟨_, ho, rfl⟩ (fun s' => typeIs_int s' k t) noFill_tuple_mul F.fills_int_mul F.slot_int_rmul repeat_tuple F.slot_int_index.lookup
    (call_meets F.slot_int_rmul (typeIs_int s k t) F.entry_int_rmul (F.args_int_rmul_2 _ _) (int_rmul_tuple k t l its.toArray n dd sl)
      ⟨ho, rfl, ⟨_, ho, rfl⟩, ?_⟩)
  by_cases hx : its = [] ∨ k = 1
  · have c1 : (its.toArray.isEmpty || k == 1) = true := by
      rcases hx with hx | hx
      · subst hx; rfl
      · subst hx; simp
    refine call_meets F.slot_tuple_mul ⟨_, ho, rfl⟩ F.entry_tuple_mul (F.args_tuple_mul_2 _ _) (tuple_mul_same l its.toArray n dd sl k t c0 c1) ⟨ho, ?_⟩
    refine ⟨.ref l, H, I, rfl, hs ?_⟩
    rcases hx with hx | hx
    · have : xs = [] := by rw [hx] at r; cases r; rfl
      subst this
      induction k.toNat with
      | zero => rfl
      | succ m ih => rw [List.replicate_succ, List.flatten_cons, ih]; rfl
    · subst hx
      show (List.replicate 1 xs).flatten = xs
      simp
  · have hn : its ≠ [] := fun e => hx (.inl e)
    have hk1 : k ≠ 1 := fun e => hx (.inr e)
    have hi : its.toArray.isEmpty = false := by
      cases its with
      | nil => exact absurd rfl hn
      | cons a b => rfl
    have c1 : (its.toArray.isEmpty || k == 1) = false := by
      rw [hi, Bool.false_or]
      exact beq_eq_false_iff_ne.mpr hk1
    by_cases hk : k ≤ 0
    · have c2 : (decide (k ≤ 0) || its.toArray.isEmpty) = true := by rw [decide_eq_true hk]; rfl
      refine call_meets F.slot_tuple_mul ⟨_, ho, rfl⟩ F.entry_tuple_mul (F.args_tuple_mul_2 _ _) (tuple_mul_none l its.toArray n dd sl k t c0 c1 c2) ⟨ho, ?_⟩
      have e1 : k.toNat = 0 := by omega
      rw [e1] at q
      exact ⟨.ref _, _, newTup (its := []) (xs := []) I .nil (Nat.zero_le _), rfl, q _ I.fresh⟩
    · have c2 : (decide (k ≤ 0) || its.toArray.isEmpty) = false := by
        rw [hi, Bool.or_false]
        exact decide_eq_false hk
      have hm : ((its.toArray.size : Nat) : Int) * k ≤ 16777216 := by
        rw [List.size_toArray, hle]
        have e : ((xs.length * k.toNat : Nat) : Int) = (xs.length : Int) * k := by
          rw [Int.natCast_mul, Int.toNat_of_nonneg (by omega)]
        rw [← e]
        have q2 : xs.length * k.toNat ≤ 16777216 := by rw [← sizeLine_eq]; exact hz
        exact Int.ofNat_le.mpr q2
      have c4 : Builtin.Tuple.tupleTooMany (((its.toArray.size : Nat) : Int) * k) = false := by
        unfold Builtin.Tuple.tupleTooMany
        rw [sizeLine_eq]
        exact decide_eq_false (by omega)
      have flen : (List.replicate k.toNat its).flatten.length ≤ sizeLine := by
        rw [PyProof.Rows.lm_len_rep_flat, hle, Nat.mul_comm]; exact hz
      refine call_meets F.slot_tuple_mul ⟨_, ho, rfl⟩ F.entry_tuple_mul (F.args_tuple_mul_2 _ _) (tuple_mulW l its.toArray n dd sl k t c0 c1 c2 (by omega) c4 (by rw [size_rep, List.size_toArray]; exact flen)) ⟨ho, ?_⟩
      rw [size_rep]
      exact ⟨.ref _, _, newTup I (r.rep k.toNat) (by rw [PyProof.Rows.lm_len_rep_flat, Nat.mul_comm]; exact hz), rfl, q _ I.fresh⟩
/-- an operation of mine -/
theorem strC_append (a b : List Nat) : strC a ++ strC b = strC (a ++ b) := by
  show PySem.Str.mk (a.toArray ++ b.toArray) = PySem.Str.mk (a ++ b).toArray
  simp
theorem strC_len (a : List Nat) : (strC a).length = a.length := by
  show a.toArray.size = a.length
  simp
theorem op_bin (hG : X.K = G.K) (o : BO) : OpR X (binaryOp (boS o)) (rB G o) := by
  intro pins s σ H x y v u Q I rx ry hq
  obtain ⟨ρ, h, a, b, w, hr, ra, rb, e, k⟩ := hq
  cases o with
  | add =>
    cases a <;> cases b <;> simp only [binW, reduceCtorEq] at e
    · rename_i i j
      cases e
      refine op_add pins s σ H x y v u Q I rx ry ⟨i, j, by simpa only [VRep, Rep] using ra, by simpa only [VRep, Rep] using rb, k.here hr (by rw [Rep])⟩
    · rename_i i j
      split at e
      · cases e
        rename_i hl
        refine op_add_str pins s σ H x y v u Q I rx ry ⟨strC i, strC j, by simpa only [VRep, Rep] using ra, by simpa only [VRep, Rep] using rb, ?_, k.here hr (by rw [Rep, strC_append])⟩
        rw [strC_len, strC_len, ← big_eq]; exact hl
      · cases e
    · rename_i i j
      split at e
      · cases e
        rename_i hl
        simp only [VRep, Rep] at ra rb
        obtain ⟨p1, x1, rfl, t1, l1, r1⟩ := ra
        obtain ⟨p2, x2, rfl, t2, l2, r2⟩ := rb
        have hz : x1.length + x2.length ≤ sizeLine := by rw [r1.length, r2.length, ← big_eq]; exact hl
        have r12 := r1.append r2
        refine op_catA pins s σ H _ _ v u Q I rx ry ⟨p1, p2, x1, x2, rfl, rfl, hG ▸ t1.sq, hG ▸ t2.sq, hz, fun e => ?_, fun e1 e2 => ?_, fun _ _ => k.tup hr r12 (by rw [List.length_append]; exact hz)⟩
        · subst e
          have ei : i = [] := List.length_eq_zero_iff.mp (r1.length ▸ rfl)
          subst ei
          exact k.here hr (by rw [Rep]; exact ⟨p2, x2, rfl, t2, l2, by simpa using r12⟩)
        · subst e2
          have ei : j = [] := List.length_eq_zero_iff.mp (r2.length ▸ rfl)
          subst ei
          exact k.here hr (by rw [Rep]; exact ⟨p1, x1, rfl, by simpa using t1, l1, by simpa using r12⟩)
      · cases e
    · rename_i i j
      split at e
      · cases e
        rename_i hl
        simp only [VRep] at ra rb
        obtain ⟨p1, x1, rfl, t1, l1, r1⟩ := ra
        obtain ⟨p2, x2, rfl, t2, l2, r2⟩ := rb
        have hz : x1.length + x2.length ≤ sizeLine := by rw [r1.length, r2.length, ← big_eq]; exact hl
        exact op_catR hG pins s σ H _ _ v u Q I rx ry ⟨p1, p2, x1, x2, rfl, rfl, t1, t2, hz, k.list hr (r1.append r2) (by rw [List.length_append]; exact hz)⟩
      · cases e
  | sub =>
    cases a <;> cases b <;> simp only [binW, reduceCtorEq] at e
    rename_i i j
    cases e
    exact op_sub pins s σ H x y v u Q I rx ry ⟨i, j, by simpa only [VRep, Rep] using ra, by simpa only [VRep, Rep] using rb, k.here hr (by rw [Rep])⟩
  | mul =>
    cases a <;> cases b <;> simp only [binW, reduceCtorEq] at e
    · rename_i i j
      split at e
      · cases e
        rename_i hm
        simp only [VRep, Rep] at ra rb
        subst ra; subst rb
        obtain ⟨t, rfl⟩ := rx
        obtain ⟨t', rfl⟩ := ry
        exact mul_int ⟨.int (i * j), H, I.tok _, ⟨_, rfl⟩, k.here hr (by rw [Rep])⟩ (mulOk_ok hm)
      · cases e
    · rename_i i j
      split at e
      · cases e
        rename_i hm
        simp only [smallI, Bool.and_eq_true, decide_eq_true_eq] at hm
        simp only [VRep, Rep] at ra rb
        obtain ⟨p1, x1, rfl, t1, l1, r1⟩ := ra
        subst rb
        obtain ⟨t', rfl⟩ := ry
        cases rx
        have hz : x1.length * j.toNat ≤ sizeLine := by rw [r1.length, ← big_eq]; exact hm.2
        refine tup_times I (hG ▸ t1.sq) hm.1.1 hm.1.2 hz (fun e => ?_) (k.tup hr (r1.rep _) (by rw [PyProof.Rows.lm_len_rep_flat, Nat.mul_comm]; exact hz))
        refine k.here hr ?_
        have ei : repW i j.toNat = i := by
          have hl := r1.length
          have h2 : j.toNat * x1.length = x1.length := by rw [← PyProof.Rows.lm_len_rep_flat, e]
          by_cases h0 : x1.length = 0
          · have : i = [] := List.length_eq_zero_iff.mp (by omega)
            subst this
            simp [repW]
          · have : j.toNat = 1 := Nat.eq_of_mul_eq_mul_right (Nat.pos_of_ne_zero h0) (by rw [h2, Nat.one_mul])
            rw [this]; simp [repW]
        rw [ei, Rep]
        exact ⟨p1, x1, rfl, t1, l1, r1⟩
      · cases e
    · rename_i i j
      split at e
      · cases e
        rename_i hm
        simp only [smallI, Bool.and_eq_true, decide_eq_true_eq] at hm
        simp only [VRep, Rep] at ra rb
        obtain ⟨p1, x1, rfl, t1, l1, r1⟩ := ra
        have hz : x1.length * j.toNat ≤ sizeLine := by rw [r1.length, ← big_eq]; exact hm.2
        exact op_repR hG pins s σ H _ _ v u Q I rx ry ⟨p1, j, x1, rfl, rb, t1, by omega, by omega, hz, k.list hr (r1.rep _) (by rw [PyProof.Rows.lm_len_rep_flat, Nat.mul_comm]; exact hz)⟩
      · cases e
  | fdiv =>
    cases a <;> cases b <;> simp only [binW, reduceCtorEq] at e
    rename_i i j
    split at e
    · cases e
      rename_i hm
      simp only [divOk, Bool.and_eq_true, decide_eq_true_eq] at hm
      exact op_fdivW pins s σ H x y v u Q I rx ry ⟨i, j, by simpa only [VRep, Rep] using ra, by simpa only [VRep, Rep] using rb, hm, k.here hr (by rw [Rep])⟩
    · cases e
  | mod =>
    cases a <;> cases b <;> simp only [binW, reduceCtorEq] at e
    rename_i i j
    split at e
    · cases e
      rename_i hm
      exact op_mod pins s σ H x y v u Q I rx ry ⟨i, j, by simpa only [VRep, Rep] using ra, by simpa only [VRep, Rep] using rb, hm, k.here hr (by rw [Rep])⟩
    · cases e
  | pow =>
    cases a <;> cases b <;> simp only [binW, reduceCtorEq] at e
    rename_i i j
    split at e
    · cases e
      rename_i hm
      simp only [Bool.and_eq_true, decide_eq_true_eq] at hm
      exact op_pow pins s σ H x y v u Q I rx ry ⟨i, j, by simpa only [VRep, Rep] using ra, by simpa only [VRep, Rep] using rb, ⟨hm.1, by omega, hm.2.2⟩, k.here hr (by rw [Rep])⟩
    · cases e
  | shl => simp only [binW, reduceCtorEq] at e
  | shr => simp only [binW, reduceCtorEq] at e
  | band => simp only [binW, reduceCtorEq] at e
end
end Y

namespace Y
open PySem PySem.Spec PyProof.Rows L2
theorem noTF {p : Prop} (h : false = true) : p := absurd h Bool.false_ne_true
theorem dataL_cons (w : W) (r : List W) : dataL (w :: r) = dataW w :: dataL r := rfl
theorem dataL_nil : dataL [] = [] := rfl
/-! values without references, as data -/
mutual
theorem plainW : ∀ w : W, pureW w = true → (dataW w).plain = true
  | .non, _ => rfl
  | .bl _, _ => rfl
  | .int _, _ => rfl
  | .str _, _ => rfl
  | .tup ws, h => by
    rw [pureW] at h
    rw [dataW, PyData.plain]; exact plainL ws h
  | .lst ws, h => by
    rw [pureW] at h
    rw [dataW, PyData.plain]; exact plainL ws h
  | .dct _ _, h => noTF h
  | .ref _, h => noTF h
theorem plainL : ∀ ws : List W, pureL ws = true → PyData.plainAll (dataL ws) = true
  | [], _ => rfl
  | w :: r, h => by
    rw [pureL, Bool.and_eq_true] at h
    rw [dataL, PyData.plainAll, plainW w h.1, plainL r h.2]; rfl
end
mutual
theorem depW_eq : ∀ w : W, (dataW w).depth = depW w
  | .non => rfl
  | .bl _ => rfl
  | .int _ => rfl
  | .str _ => rfl
  | .tup ws => by rw [dataW, PyData.depth, depW, depL_eq ws]
  | .lst ws => by rw [dataW, PyData.depth, depW, depL_eq ws]
  | .dct _ _ => rfl
  | .ref _ => rfl
theorem depL_eq : ∀ ws : List W, PyData.depthAll (dataL ws) = depL ws
  | [] => rfl
  | w :: r => by rw [dataL, PyData.depthAll, depL, depW_eq w, depL_eq r]
end
theorem strC_inj {a b : List Nat} (h : strC a = strC b) : a = b := by
  have e : a.toArray = b.toArray := congrArg PySem.Str.cps h
  simpa using e
theorem strC_beq (a b : List Nat) : (strC a == strC b) = decide (a = b) := by
  by_cases e : a = b
  · subst e; simp
  · have : strC a ≠ strC b := fun q => e (strC_inj q)
    rw [decide_eq_false e]
    exact beq_eq_false_iff_ne.mpr this
mutual
theorem eqvW : ∀ a b : W, pureW a = true → pureW b = true → PyData.eqv (dataW a) (dataW b) = eqW a b
  | .non, b, _, hb => by cases b <;> first | exact noTF hb | rfl
  | .bl x, b, _, hb => by
    cases b with
    | int j => show ((if x then 1 else 0) == j) = decide (b2i x = j); unfold b2i; cases x <;> rw [Bool.eq_iff_iff] <;> simp
    | dct _ _ => exact noTF hb
    | ref _ => exact noTF hb
    | _ => rfl
  | .int x, b, _, hb => by
    cases b with
    | int j => show (x == j) = decide (x = j); rw [Bool.eq_iff_iff]; simp
    | bl j => show (x == (if j then 1 else 0)) = decide (x = b2i j); unfold b2i; cases j <;> rw [Bool.eq_iff_iff] <;> simp
    | dct _ _ => exact noTF hb
    | ref _ => exact noTF hb
    | _ => rfl
  | .str x, b, _, hb => by
    cases b with
    | str y => show (strC x == strC y) = decide (x = y); exact strC_beq x y
    | dct _ _ => exact noTF hb
    | ref _ => exact noTF hb
    | _ => rfl
  | .tup x, b, ha, hb => by
    cases b with
    | tup y =>
      rw [pureW] at ha hb
      rw [dataW, dataW, PyData.eqv, eqW]; exact eqvL x y ha hb
    | dct _ _ => exact noTF hb
    | ref _ => exact noTF hb
    | _ => rfl
  | .lst x, b, ha, hb => by
    cases b with
    | lst y =>
      rw [pureW] at ha hb
      rw [dataW, dataW, PyData.eqv, eqW]; exact eqvL x y ha hb
    | dct _ _ => exact noTF hb
    | ref _ => exact noTF hb
    | _ => rfl
  | .dct _ _, _, ha, _ => noTF ha
  | .ref _, _, ha, _ => noTF ha
theorem eqvL : ∀ a b : List W, pureL a = true → pureL b = true → PyData.eqvAll (dataL a) (dataL b) = eqL a b
  | [], [], _, _ => rfl
  | [], _ :: _, _, _ => rfl
  | _ :: _, [], _, _ => rfl
  | x :: r, y :: s, ha, hb => by
    rw [pureL, Bool.and_eq_true] at ha hb
    rw [dataL, dataL, PyData.eqvAll, eqL, eqvW x y ha.1 hb.1, eqvL r s ha.2 hb.2]
end
section
variable {G : Gx} {H : Hp} {ρ : Ro}
mutual
theorem dpW : ∀ (w : W) (v : V), pureW w = true → Rep G H ρ w v → Dp G.K H v (dataW w)
  | .non, v, _, r => by rw [Rep] at r; subst r; exact .non
  | .bl b, v, _, r => by rw [Rep] at r; subst r; exact .bl b
  | .int b, v, _, r => by rw [Rep] at r; subst r; exact .int b
  | .str b, v, _, r => by rw [Rep] at r; subst r; exact .str _
  | .tup ws, v, h, r => by
    rw [Rep] at r
    rw [pureW] at h
    obtain ⟨a, vs, rfl, t, _, q⟩ := r
    rw [dataW]
    exact .tup t.sq (dpL ws vs h q)
  | .lst ws, v, h, r => by
    rw [Rep] at r
    rw [pureW] at h
    obtain ⟨a, vs, rfl, t, _, q⟩ := r
    rw [dataW]
    exact .lst t.q.sq (dpL ws vs h q)
  | .dct _ _, _, h, _ => noTF h
  | .ref _, _, h, _ => noTF h
theorem dpL : ∀ (ws : List W) (vs : List V), pureL ws = true → RepL G H ρ ws vs → DpAll G.K H vs (dataL ws)
  | [], vs, _, r => by rw [RepL] at r; subst r; exact .nil
  | w :: ws, vs, h, r => by
    rw [RepL] at r
    rw [pureL, Bool.and_eq_true] at h
    obtain ⟨v, t, rfl, r1, r2⟩ := r
    rw [dataL]
    exact .cons (dpW w v h.1 r1) (dpL ws t h.2 r2)
end
theorem dpV {w : W} {v : V} (h : pureW w = true) (r : VRep G H ρ w v) : Dp G.K H v (dataW w) := by
  cases w with
  | lst ws =>
    obtain ⟨a, vs, rfl, t, _, q⟩ := r
    rw [pureW] at h
    rw [dataW]
    exact .lst t.sq (dpL ws vs h q)
  | dct _ _ => rw [pureW] at h; cases h
  | _ => exact dpW (ρ := ρ) _ _ h r
end
/-! < of what is alike -/
theorem lexN_eq : ∀ a b : List Nat, lexN a b = decide (a < b)
  | [], [] => by simp [lexN]
  | _ :: _, [] => by simp [lexN]
  | [], _ :: _ => by simp [lexN]
  | x :: r, y :: s => by
    rw [lexN]
    by_cases e : x = y
    · subst e
      rw [if_pos rfl, lexN_eq r s, Bool.eq_iff_iff]
      simp [List.cons_lt_cons_iff]
    · rw [if_neg e, Bool.eq_iff_iff]
      simp [List.cons_lt_cons_iff, e]
mutual
theorem alikeW_data : ∀ a b : W, alikeW a b = true → PySem.W.alike (dataW a) (dataW b) = true
  | .non, b, h => by cases b <;> first | rfl | exact noTF h
  | .bl _, b, h => by cases b <;> first | rfl | exact noTF h
  | .int _, b, h => by cases b <;> first | rfl | exact noTF h
  | .str _, b, h => by cases b <;> first | rfl | exact noTF h
  | .tup x, b, h => by
    cases b with
    | tup y => rw [alikeW] at h; rw [dataW, dataW, PySem.W.alike]; exact alikeL_data x y h
    | _ => exact noTF h
  | .lst _, b, h => by cases b <;> exact noTF h
  | .dct _ _, b, h => by cases b <;> exact noTF h
  | .ref _, b, h => by cases b <;> exact noTF h
theorem alikeL_data : ∀ a b : List W, alikeL a b = true → PySem.W.alikeAll (dataL a) (dataL b) = true
  | [], b, _ => by cases b <;> simp [dataL, PySem.W.alikeAll]
  | _ :: _, [], _ => by simp [dataL, PySem.W.alikeAll]
  | x :: r, y :: s, h => by
    rw [alikeL, Bool.and_eq_true] at h
    rw [dataL, dataL, PySem.W.alikeAll, alikeW_data x y h.1, alikeL_data r s h.2]; rfl
end
mutual
/-- what is alike is equal just if it is the same -/
theorem eq_alike : ∀ a b : W, alikeW a b = true → eqW a b = decide (a = b)
  | .non, b, h => by cases b <;> first | rfl | exact noTF h
  | .bl x, b, h => by
    cases b with
    | bl y => show (x == y) = _; rw [Bool.eq_iff_iff]; simp
    | _ => exact noTF h
  | .int x, b, h => by
    cases b with
    | int y => show decide (x = y) = _; rw [Bool.eq_iff_iff]; simp
    | _ => exact noTF h
  | .str x, b, h => by
    cases b with
    | str y => show decide (x = y) = _; rw [Bool.eq_iff_iff]; simp
    | _ => exact noTF h
  | .tup x, b, h => by
    cases b with
    | tup y => rw [alikeW] at h; rw [eqW, eq_alikeL x y h, Bool.eq_iff_iff]; simp
    | _ => exact noTF h
  | .lst _, b, h => by cases b <;> exact noTF h
  | .dct _ _, b, h => by cases b <;> exact noTF h
  | .ref _, b, h => by cases b <;> exact noTF h
theorem eq_alikeL : ∀ a b : List W, alikeL a b = true → eqL a b = decide (a = b)
  | [], b, _ => by cases b <;> simp [eqL]
  | _ :: _, [], _ => by simp [eqL]
  | x :: r, y :: s, h => by
    rw [alikeL, Bool.and_eq_true] at h
    rw [eqL, eq_alike x y h.1, eq_alikeL r s h.2, Bool.eq_iff_iff]; simp
end
mutual
theorem ltB_data : ∀ a b : W, pureW a = true → pureW b = true → alikeW a b = true → PySem.W.dataLt (dataW a) (dataW b) = ltB a b
  | .non, b, _, _, h => by
    cases b with
    | non => exact (PyProof.Rows.lex_irrefl (O := PyProof.Rows.itemOrd) (PySem.W.keyToks PySem.PyData.none) : _)
    | _ => exact noTF h
  | .bl x, b, _, _, h => by
    cases b with
    | bl y => rw [dataW, dataW, PySem.W.dataLt_bool, ltB]; cases x <;> cases y <;> rfl
    | _ => exact noTF h
  | .int x, b, _, _, h => by
    cases b with
    | int y => rw [dataW, dataW, PySem.W.dataLt_int, ltB]
    | _ => exact noTF h
  | .str x, b, _, _, h => by
    cases b with
    | str y => rw [dataW, dataW, PySem.W.dataLt_str, ltB, lexN_eq]; exact decide_eq_decide.mpr Iff.rfl
    | _ => exact noTF h
  | .tup x, b, ha, hb, h => by
    cases b with
    | tup y =>
      rw [alikeW] at h
      rw [pureW] at ha hb
      rw [dataW, dataW, PySem.W.dataLt_tuple, ltB]
      exact ltBL_data x y ha hb h
    | _ => exact noTF h
  | .lst _, b, _, _, h => by cases b <;> exact noTF h
  | .dct _ _, b, _, _, h => by cases b <;> exact noTF h
  | .ref _, b, _, _, h => by cases b <;> exact noTF h
theorem ltBL_data : ∀ a b : List W, pureL a = true → pureL b = true → alikeL a b = true → PyProof.Rows.lexLt PyProof.Rows.itemOrd (PySem.W.keyToksAll (dataL a)) (PySem.W.keyToksAll (dataL b)) = ltBL a b
  | [], [], _, _, _ => by rw [ltBL]; exact PyProof.Rows.lex_irrefl _
  | _ :: _, [], _, _, _ => by
    rw [ltBL, dataL_cons, dataL_nil, PySem.W.keyToksAll, PySem.W.keyToksAll, PySem.W.lex_atom (by simp), PySem.W.lex_one]
    rfl
  | [], _ :: _, _, _, _ => by
    rw [ltBL, dataL_cons, dataL_nil, PySem.W.keyToksAll, PySem.W.keyToksAll, PySem.W.lex_atom (by simp), PySem.W.lex_one]
    rfl
  | x :: r, y :: s, ha, hb, h => by
    rw [alikeL, Bool.and_eq_true] at h
    rw [pureL, Bool.and_eq_true] at ha hb
    rw [ltBL, dataL_cons, dataL_cons, PySem.W.dataLt_cons (alikeW_data x y h.1), eqvW x y ha.1 hb.1, eq_alike x y h.1, ltBL_data r s ha.2 hb.2 h.2, ltB_data x y ha.1 hb.1 h.1]
    by_cases e : x = y
    · rw [if_pos e, if_pos (by simpa using e)]
    · rw [if_neg e, if_neg (by simpa using e)]
end
/-! comparisons -/
def coS : CO → CmpOp
  | .eq => .Eq | .ne => .NotEq | .lt => .Lt | .le => .LtE | .gt => .Gt | .ge => .GtE | .isin => .In | .notin => .NotIn | .isv => .Is | .isnt => .IsNot
def rC (G : Gx) (o : CO) : R2 := fun x y H Q => ∃ ρ a b c, VRep G H ρ a x ∧ VRep G H ρ b y ∧ cmpW o a b = some c ∧ Q (.bl c) H
theorem scal_dep {w : W} (h : scalW w = true) : depW w ≤ 1 := by
  cases w with
  | tup ws => cases ws with
    | nil => simp [depW, depL]
    | cons a r => simp [scalW] at h
  | lst ws => cases ws with
    | nil => simp [depW, depL]
    | cons a r => simp [scalW] at h
  | _ => simp [depW]
theorem depOk_min {a b : W} (h : depOk a b = true) : min (depW a) (depW b) ≤ 100 := by
  simp only [depOk, Bool.or_eq_true, decide_eq_true_eq] at h
  rcases h with h | h | h | h
  · have := scal_dep h; omega
  · have := scal_dep h; omega
  · omega
  · omega
theorem inW_data (x : W) (hx : pureW x = true) : ∀ ws : List W, pureL ws = true → ((dataL ws).any fun y => PyData.eqv y (dataW x)) = inW x ws
  | [], _ => rfl
  | w :: r, h => by
    rw [pureL, Bool.and_eq_true] at h
    have ih := inW_data x hx r h.2
    unfold inW at ih ⊢
    rw [dataL, List.any_cons, List.any_cons, ih, eqvW w x h.1 hx]
section
variable {X : Cx} {G : Gx}
theorem relV_bool {v : V} {u : Value} (r : RelV v u) (b : Bool) : (u == Value.bool b) = decide (v = .bl b) := by
  cases v with
  | non => cases r; rfl
  | bl c => cases r; cases b <;> cases c <;> rfl
  | int _ => obtain ⟨t, rfl⟩ := r; rfl
  | str _ => obtain ⟨t, rfl⟩ := r; rfl
  | byt _ => obtain ⟨t, rfl⟩ := r; rfl
  | flt _ => obtain ⟨t, rfl⟩ := r; rfl
  | ref _ => cases r; rfl
  | ty _ => cases r; rfl
theorem plainIs_bool {v : V} {u : Value} (r : RelV v u) (b : Bool) : plainIs u (.bool b) = true := by
  cases v with
  | non => cases r; rfl
  | bl c => cases r; rfl
  | int _ => obtain ⟨t, rfl⟩ := r; rfl
  | str _ => obtain ⟨t, rfl⟩ := r; rfl
  | byt _ => obtain ⟨t, rfl⟩ := r; rfl
  | flt _ => obtain ⟨t, rfl⟩ := r; rfl
  | ref _ => cases r; rfl
  | ty _ => cases r; rfl
theorem vrep_bl {H : Hp} {ρ : Ro} {a : W} {x : V} (r : VRep G H ρ a x) (b : Bool) : decide (x = .bl b) = isBlW b a := by
  cases a with
  | non => simp only [VRep, Rep] at r; subst r; rfl
  | bl c => simp only [VRep, Rep] at r; subst r; rw [Bool.eq_iff_iff]; simp [isBlW]
  | int c => simp only [VRep, Rep] at r; subst r; rfl
  | str c => simp only [VRep, Rep] at r; subst r; rfl
  | tup c => simp only [VRep, Rep] at r; obtain ⟨_, _, rfl, _⟩ := r; rfl
  | lst c => simp only [VRep] at r; obtain ⟨_, _, rfl, _⟩ := r; rfl
  | dct t c => simp only [VRep] at r; rcases r with ⟨_, _, _, rfl, _⟩ | ⟨_, _, _, rfl, _⟩ <;> rfl
  | ref c => simp only [VRep, Rep] at r; obtain ⟨_, _, rfl⟩ := r; rfl
theorem vrep_non {H : Hp} {ρ : Ro} {a : W} {x : V} (r : VRep G H ρ a x) : decide (x = .non) = isNonW a := by
  cases a with
  | non => simp only [VRep, Rep] at r; subst r; rfl
  | bl c => simp only [VRep, Rep] at r; subst r; rfl
  | int c => simp only [VRep, Rep] at r; subst r; rfl
  | str c => simp only [VRep, Rep] at r; subst r; rfl
  | tup c => simp only [VRep, Rep] at r; obtain ⟨_, _, rfl, _⟩ := r; rfl
  | lst c => simp only [VRep] at r; obtain ⟨_, _, rfl, _⟩ := r; rfl
  | dct t c => simp only [VRep] at r; rcases r with ⟨_, _, _, rfl, _⟩ | ⟨_, _, _, rfl, _⟩ <;> rfl
  | ref c => simp only [VRep, Rep] at r; obtain ⟨_, _, rfl⟩ := r; rfl
theorem op_cmpIn (hG : X.K = G.K) (hu : X.A.units + 150 < cLine) {pins : List (Addr × Obj)} {s : Shared} {σ : L2.St} {H : Hp} {ρ : Ro} {a : W} {ws : List W} {x y : V} {v u : Value} {Q : VK} (I : Inv X pins σ H s) (rx : RelV x v) (ry : RelV y u)
    (ra : VRep G H ρ a x) (ha : pureW a = true) (hw : pureL ws = true) (hd : (scalW a || (decide (depW a ≤ 90) || decide (depL ws ≤ 90))) = true) (hc : VRep G H ρ (.tup ws) y ∨ VRep G H ρ (.lst ws) y) :
    (Q (.bl (inW a ws)) H → wpAny (model X.prog X.w) X.A (compareOp .In v u) (EP X pins σ Q) X.xe s) ∧ (Q (.bl (!inW a ws)) H → wpAny (model X.prog X.w) X.A (compareOp .NotIn v u) (EP X pins σ Q) X.xe s) := by
  have dx := dpV ha ra
  rw [← hG] at dx
  obtain ⟨as, r1⟩ := Dp.reads I _ _ _ dx rx
  have hp := plainL ws hw
  have hu2 : X.A.units + 1 + min (PyData.depthAll (dataL ws)) (dataW a).depth < cLine := by
    rw [depL_eq, depW_eq]
    simp only [Bool.or_eq_true, decide_eq_true_eq] at hd
    rcases hd with h | h | h
    · have := scal_dep h; omega
    · omega
    · omega
  have e := inW_data a ha ws hw
  rcases hc with hc | hc
  · have dy := dpV (w := .tup ws) (by rw [pureW]; exact hw) hc
    rw [← hG, dataW] at dy
    obtain ⟨bs, r2⟩ := Dp.reads I _ _ _ dy ry
    exact ⟨fun q => PySem.SeqAt.in_tuple_data r2 r1 hp (plainW a ha) hu2 ⟨.bl _, H, I, rfl, by rw [e]; exact q⟩, fun q => PySem.SeqAt.notIn_tuple_data r2 r1 hp (plainW a ha) hu2 ⟨.bl _, H, I, rfl, by rw [e]; exact q⟩⟩
  · have dy := dpV (w := .lst ws) (by rw [pureW]; exact hw) hc
    rw [← hG, dataW] at dy
    obtain ⟨bs, r2⟩ := Dp.reads I _ _ _ dy ry
    exact ⟨fun q => PySem.SeqAt.in_list_data r2 r1 hp (plainW a ha) hu2 ⟨.bl _, H, I, rfl, by rw [e]; exact q⟩, fun q => PySem.SeqAt.notIn_list_data r2 r1 hp (plainW a ha) hu2 ⟨.bl _, H, I, rfl, by rw [e]; exact q⟩⟩
theorem contains_dec (s : List Nat) (c : Nat) : s.contains c = decide (c ∈ (strC s).cps.toList) := by
  rw [Bool.eq_iff_iff, List.contains_iff_mem]; exact (decide_eq_true_iff (p := c ∈ s)).symm
theorem lt_tup (hG : X.K = G.K) (hu : X.A.units + 150 < cLine) {pins : List (Addr × Obj)} {s : Shared} {σ : L2.St} {H : Hp} {ρ : Ro} {a b : List W} {x y : V} {v u : Value} {Q : VK} {c : Bool} (I : Inv X pins σ H s) (rx : RelV x v) (ry : RelV y u)
    (ra : VRep G H ρ (.tup a) x) (rb : VRep G H ρ (.tup b) y) (e : ltW (.tup a) (.tup b) = some c) (q : Q (.bl c) H) : wpAny (model X.prog X.w) X.A (compareOp .Lt v u) (EP X pins σ Q) X.xe s := by
  simp only [ltW] at e
  split at e
  · cases e
    rename_i h
    simp only [Bool.and_eq_true, Bool.or_eq_true, decide_eq_true_eq] at h
    obtain ⟨h1, h2, h3, h4⟩ := h
    have dx := dpV (w := .tup a) (by rw [pureW]; exact h1) ra
    have dy := dpV (w := .tup b) (by rw [pureW]; exact h2) rb
    rw [← hG] at dx dy
    obtain ⟨as, r1⟩ := Dp.reads I _ _ _ dx rx
    obtain ⟨bs, r2⟩ := Dp.reads I _ _ _ dy ry
    refine PySem.W.lt_data r1 r2 (alikeW_data (.tup a) (.tup b) (by rw [alikeW]; exact h3)) (by rw [dataW]; simp) (by rw [depW_eq, depW_eq, depW, depW]; omega) ?_
    rw [ltB_data (.tup a) (.tup b) (by rw [pureW]; exact h1) (by rw [pureW]; exact h2) (by rw [alikeW]; exact h3), ltB]
    exact ⟨.bl _, H, I, rfl, q⟩
  · cases e
theorem gt_tup (hG : X.K = G.K) (hu : X.A.units + 150 < cLine) {pins : List (Addr × Obj)} {s : Shared} {σ : L2.St} {H : Hp} {ρ : Ro} {a b : List W} {x y : V} {v u : Value} {Q : VK} {c : Bool} (I : Inv X pins σ H s) (rx : RelV x v) (ry : RelV y u)
    (ra : VRep G H ρ (.tup a) x) (rb : VRep G H ρ (.tup b) y) (e : ltW (.tup b) (.tup a) = some c) (q : Q (.bl c) H) : wpAny (model X.prog X.w) X.A (compareOp .Gt v u) (EP X pins σ Q) X.xe s := by
  simp only [ltW] at e
  split at e
  · cases e
    rename_i h
    simp only [Bool.and_eq_true, Bool.or_eq_true, decide_eq_true_eq] at h
    obtain ⟨h1, h2, h3, h4⟩ := h
    have dx := dpV (w := .tup a) (by rw [pureW]; exact h2) ra
    have dy := dpV (w := .tup b) (by rw [pureW]; exact h1) rb
    rw [← hG] at dx dy
    obtain ⟨as, r1⟩ := Dp.reads I _ _ _ dx rx
    obtain ⟨bs, r2⟩ := Dp.reads I _ _ _ dy ry
    have al := alikeW_data (.tup b) (.tup a) (by rw [alikeW]; exact h3)
    refine PySem.W.gt_data r1 r2 (by rw [PySem.W.alike_comm]; exact al) (by rw [dataW]; simp) (by rw [depW_eq, depW_eq, depW, depW]; omega) ?_
    rw [ltB_data (.tup b) (.tup a) (by rw [pureW]; exact h1) (by rw [pureW]; exact h2) (by rw [alikeW]; exact h3), ltB]
    exact ⟨.bl _, H, I, rfl, q⟩
  · cases e
end
end Y

namespace Y
open PySem PySem.Spec PyProof.Rows L2
section
variable {X : Cx} {G : Gx}
theorem vint {H : Hp} {ρ : Ro} {i : Int} {x : V} (r : VRep G H ρ (.int i) x) : x = .int i := by simpa only [VRep, Rep] using r
theorem vstr {H : Hp} {ρ : Ro} {i : List Nat} {x : V} (r : VRep G H ρ (.str i) x) : x = .str (strC i) := by simpa only [VRep, Rep] using r
theorem dec_lex (a b : List Nat) : decide ((strC a).cps.toList < (strC b).cps.toList) = lexN a b := by
  rw [lexN_eq]; exact decide_eq_decide.mpr Iff.rfl
theorem op_cmp (hG : X.K = G.K) (hu : X.A.units + 150 < cLine) (o : CO) : OpR X (compareOp (coS o)) (rC G o) := by
  intro pins s σ H x y v u Q I rx ry hq
  obtain ⟨ρ, a, b, c, ra, rb, e, q⟩ := hq
  cases o with
  | eq =>
    simp only [cmpW] at e
    split at e
    · cases e
      rename_i h
      simp only [Bool.and_eq_true] at h
      obtain ⟨h1, h2, h3⟩ := h
      have dx := dpV h1 ra
      have dy := dpV h2 rb
      rw [← hG] at dx dy
      obtain ⟨as, r1⟩ := Dp.reads I _ _ _ dx rx
      obtain ⟨bs, r2⟩ := Dp.reads I _ _ _ dy ry
      refine PySem.SeqAt.eq_plain r1 r2 (plainW a h1) (plainW b h2) ?_ ⟨.bl _, H, I, rfl, by rw [eqvW a b h1 h2]; exact q⟩
      rw [depW_eq, depW_eq]
      have := depOk_min h3
      omega
    · cases e
  | ne =>
    simp only [cmpW] at e
    split at e
    · cases e
      rename_i h
      simp only [Bool.and_eq_true] at h
      obtain ⟨h1, h2, h3⟩ := h
      have dx := dpV h1 ra
      have dy := dpV h2 rb
      rw [← hG] at dx dy
      obtain ⟨as, r1⟩ := Dp.reads I _ _ _ dx rx
      obtain ⟨bs, r2⟩ := Dp.reads I _ _ _ dy ry
      refine PySem.SeqAt.ne_plain r1 r2 (plainW a h1) (plainW b h2) ?_ ⟨.bl _, H, I, rfl, by rw [eqvW a b h1 h2]; exact q⟩
      rw [depW_eq, depW_eq]
      have := depOk_min h3
      omega
    · cases e
  | lt =>
    have e : ltW a b = some c := e
    cases a <;> cases b <;> first | (simp only [ltW, reduceCtorEq] at e; done) | skip
    · simp only [ltW, Option.some.injEq] at e
      subst e
      exact op_lt pins s σ H x y v u Q I rx ry ⟨_, _, vint ra, vint rb, q⟩
    · simp only [ltW, Option.some.injEq] at e
      subst e
      exact op_lt_str pins s σ H x y v u Q I rx ry ⟨_, _, vstr ra, vstr rb, by rw [dec_lex]; exact q⟩
    · exact lt_tup hG hu I rx ry ra rb e q
  | gt =>
    have e : ltW b a = some c := e
    cases a <;> cases b <;> first | (simp only [ltW, reduceCtorEq] at e; done) | skip
    · simp only [ltW, Option.some.injEq] at e
      subst e
      exact op_gt pins s σ H x y v u Q I rx ry ⟨_, _, vint ra, vint rb, q⟩
    · simp only [ltW, Option.some.injEq] at e
      subst e
      refine op_gt_str pins s σ H x y v u Q I rx ry ⟨_, _, vstr ra, vstr rb, ?_⟩
      rw [dec_lex]; exact q
    · exact gt_tup hG hu I rx ry ra rb e q
  | le =>
    cases a <;> cases b <;> first | (simp only [cmpW, reduceCtorEq] at e; done) | skip
    · simp only [cmpW, Option.some.injEq] at e
      subst e
      exact op_le pins s σ H x y v u Q I rx ry ⟨_, _, vint ra, vint rb, q⟩
    · simp only [cmpW, Option.some.injEq] at e
      subst e
      refine op_le_str pins s σ H x y v u Q I rx ry ⟨_, _, vstr ra, vstr rb, ?_⟩
      rw [dec_lex]; exact q
  | ge =>
    cases a <;> cases b <;> first | (simp only [cmpW, reduceCtorEq] at e; done) | skip
    · simp only [cmpW, Option.some.injEq] at e
      subst e
      exact op_ge pins s σ H x y v u Q I rx ry ⟨_, _, vint ra, vint rb, q⟩
    · simp only [cmpW, Option.some.injEq] at e
      subst e
      refine op_ge_str pins s σ H x y v u Q I rx ry ⟨_, _, vstr ra, vstr rb, ?_⟩
      rw [dec_lex]; exact q
  | isin =>
    cases b <;> first | (simp only [cmpW, reduceCtorEq] at e; done) | skip
    · -- a text
      rename_i z
      cases a <;> first | (simp only [cmpW, reduceCtorEq] at e; done) | skip
      rename_i w
      simp only [cmpW] at e
      cases w with
      | nil => simp only [inS, reduceCtorEq] at e
      | cons c0 r =>
        cases r with
        | nil =>
          simp only [inS, Option.some.injEq] at e
          subst e
          exact op_in_sign pins s σ H x y v u Q I rx ry ⟨c0, strC z, vstr ra, vstr rb, by rw [← contains_dec]; exact q⟩
        | cons d r' => simp only [inS, reduceCtorEq] at e
    · simp only [cmpW] at e
      split at e
      · cases e
        rename_i h
        simp only [Bool.and_eq_true] at h
        exact (op_cmpIn hG hu I rx ry ra h.1 h.2.1 h.2.2 (.inl rb)).1 q
      · cases e
    · simp only [cmpW] at e
      split at e
      · cases e
        rename_i h
        simp only [Bool.and_eq_true] at h
        exact (op_cmpIn hG hu I rx ry ra h.1 h.2.1 h.2.2 (.inr rb)).1 q
      · cases e
  | notin =>
    cases b <;> first | (simp only [cmpW, reduceCtorEq] at e; done) | skip
    · rename_i z
      cases a <;> first | (simp only [cmpW, reduceCtorEq] at e; done) | skip
      rename_i w
      simp only [cmpW] at e
      cases w with
      | nil => simp only [inS, Option.map_none, reduceCtorEq] at e
      | cons c0 r =>
        cases r with
        | nil =>
          simp only [inS, Option.map_some, Option.some.injEq] at e
          subst e
          exact op_notIn_sign pins s σ H x y v u Q I rx ry ⟨c0, strC z, vstr ra, vstr rb, by rw [← contains_dec]; exact q⟩
        | cons d r' => simp only [inS, Option.map_none, reduceCtorEq] at e
    · simp only [cmpW] at e
      split at e
      · cases e
        rename_i h
        simp only [Bool.and_eq_true] at h
        exact (op_cmpIn hG hu I rx ry ra h.1 h.2.1 h.2.2 (.inl rb)).2 q
      · cases e
    · simp only [cmpW] at e
      split at e
      · cases e
        rename_i h
        simp only [Bool.and_eq_true] at h
        exact (op_cmpIn hG hu I rx ry ra h.1 h.2.1 h.2.2 (.inr rb)).2 q
      · cases e
  | isv =>
    have e : isV a b = some c := e
    cases b <;> first | (simp only [isV, reduceCtorEq] at e; done) | skip
    · simp only [isV, Option.some.injEq] at e
      have hy : y = .non := by simpa only [VRep, Rep] using rb
      subst hy
      cases ry
      exact is_none_gen (fin_bl I q (by rw [rx.none_iff, vrep_non ra, ← e]))
    · rename_i k _
      simp only [isV, Option.some.injEq] at e
      have hy : y = .bl k := by simpa only [VRep, Rep] using rb
      subst hy
      cases ry
      exact wpAny_is_plain (plainIs_bool rx k) (fin_bl I q (by rw [relV_bool rx, vrep_bl ra, ← e]))
  | isnt =>
    have e : (isV a b).map (!·) = some c := e
    cases b <;> first | (simp only [isV, Option.map_none, reduceCtorEq] at e; done) | skip
    · simp only [isV, Option.map_some, Option.some.injEq] at e
      have hy : y = .non := by simpa only [VRep, Rep] using rb
      subst hy
      cases ry
      exact isnot_none_gen (fin_bl I q (by rw [rx.none_iff, vrep_non ra, ← e]))
    · rename_i k _
      simp only [isV, Option.map_some, Option.some.injEq] at e
      have hy : y = .bl k := by simpa only [VRep, Rep] using rb
      subst hy
      cases ry
      exact wpAny_isNot_plain (plainIs_bool rx k) (fin_bl I q (by rw [relV_bool rx, vrep_bl ra, ← e]))
end
end Y

namespace Y
open PySem PySem.Spec PyProof.Rows L2
/-! sorted(a list) of what is alike -/
abbrev leD : W → W → Bool := PySem.W.dataLe false dataW
theorem leD_eq (a b : W) : leD a b = !PySem.W.dataLt (dataW b) (dataW a) := rfl
theorem insB_congr {l1 l2 : W → W → Bool} (x : W) : ∀ l : List W, (∀ y ∈ l, l1 y x = l2 y x) → insB l1 x l = insB l2 x l
  | [], _ => rfl
  | y :: r, h => by
    rw [insB, insB, h y (by simp), insB_congr x r fun z m => h z (List.mem_cons_of_mem _ m)]
theorem insB_perm (lt : W → W → Bool) (x : W) : ∀ l : List W, (insB lt x l).Perm (x :: l)
  | [] => .refl _
  | y :: r => by
    rw [insB]
    split
    · exact ((insB_perm lt x r).cons y).trans (.swap x y r)
    · exact .refl _
theorem isortB_perm (lt : W → W → Bool) : ∀ l : List W, (isortB lt l).Perm l
  | [] => .refl _
  | x :: r => by
    rw [isortB]
    exact (insB_perm lt x _).trans ((isortB_perm lt r).cons x)
theorem isortB_congr {l1 l2 : W → W → Bool} : ∀ l : List W, (∀ x ∈ l, ∀ y ∈ l, l1 y x = l2 y x) → isortB l1 l = isortB l2 l
  | [], _ => rfl
  | x :: r, h => by
    have ih := isortB_congr r fun a ma b mb => h a (List.mem_cons_of_mem _ ma) b (List.mem_cons_of_mem _ mb)
    rw [isortB, isortB, ih]
    exact insB_congr x _ fun y m => h x (by simp) y (List.mem_cons_of_mem _ ((isortB_perm l2 r).mem_iff.mp m))
theorem leD_trans (a b c : W) (h1 : leD a b = true) (h2 : leD b c = true) : leD a c = true := (PySem.W.sortLe_total (listOrd itemOrd) false fun b => PySem.W.keyToks (dataW b)).trans a b c h1 h2
theorem leD_total (a b : W) : (leD a b || leD b a) = true := by
  rw [Bool.or_eq_true]
  exact (PySem.W.sortLe_total (listOrd itemOrd) false fun b => PySem.W.keyToks (dataW b)).total a b
theorem insB_pw (x : W) : ∀ l : List W, l.Pairwise (fun a b => leD a b = true) → (insB (fun a b => PySem.W.dataLt (dataW a) (dataW b)) x l).Pairwise (fun a b => leD a b = true)
  | [], _ => by rw [insB]; simp
  | y :: r, h => by
    obtain ⟨h1, h2⟩ := List.pairwise_cons.mp h
    rw [insB]
    split
    · rename_i q
      refine List.pairwise_cons.mpr ⟨fun z m => ?_, insB_pw x r h2⟩
      rcases List.mem_cons.mp ((insB_perm _ x r).mem_iff.mp m) with e | m
      · subst e
        have := leD_total y z
        rw [Bool.or_eq_true] at this
        rcases this with k | k
        · exact k
        · rw [leD_eq, q] at k; cases k
      · exact h1 z m
    · rename_i q
      have k : leD x y = true := by rw [leD_eq]; simpa using q
      refine List.pairwise_cons.mpr ⟨fun z m => ?_, h⟩
      rcases List.mem_cons.mp m with e | m
      · subst e; exact k
      · exact leD_trans x y z k (h1 z m)
theorem isortB_pw : ∀ l : List W, (isortB (fun a b => PySem.W.dataLt (dataW a) (dataW b)) l).Pairwise (fun a b => leD a b = true)
  | [] => .nil
  | x :: r => insB_pw x _ (isortB_pw r)
/-- alike and neither less: the same -/
theorem leD_anti {a b : W} (pa : pureW a = true) (pb : pureW b = true) (h : alikeW a b = true) (h1 : leD a b = true) (h2 : leD b a = true) : a = b := by
  have al := alikeW_data a b h
  have q1 : PySem.W.dataLt (dataW b) (dataW a) = false := by simpa [leD_eq] using h1
  have q2 : PySem.W.dataLt (dataW a) (dataW b) = false := by simpa [leD_eq] using h2
  have ek : PySem.W.keyToks (dataW a) = PySem.W.keyToks (dataW b) := lex_total _ _ q2 q1
  obtain ⟨t1, t2⟩ := PySem.W.toks_eqv _ _ al
  cases e : PyData.eqv (dataW a) (dataW b) with
  | true =>
    rw [eqvW a b pa pb, eq_alike a b h] at e
    exact of_decide_eq_true e
  | false =>
    have k := t2 e [] [.inl 0]
    rw [ek, List.append_nil] at k
    have k2 := PySem.W.lex_pre (PySem.W.keyToks (dataW b)) [] [.inl 0]
    rw [List.append_nil] at k2
    rw [k2, lex_irrefl] at k
    cases k
theorem sortW_merge {ws : List W} (hp : ∀ a ∈ ws, pureW a = true) (ha : ∀ a ∈ ws, ∀ b ∈ ws, alikeW a b = true) : ws.mergeSort leD = sortW ws := by
  have e : sortW ws = isortB (fun a b => PySem.W.dataLt (dataW a) (dataW b)) ws := isortB_congr ws fun x mx y my => (ltB_data y x (hp y my) (hp x mx) (ha y my x mx)).symm
  rw [e]
  refine List.Perm.eq_of_pairwise (le := fun a b => leD a b = true) (fun a b ma mb h1 h2 => ?_) (List.pairwise_mergeSort (fun a b c => leD_trans a b c) (fun a b => leD_total a b) ws) (isortB_pw ws) ((List.mergeSort_perm ws leD).trans (isortB_perm _ ws).symm)
  have ma2 := (List.mergeSort_perm ws leD).mem_iff.mp ma
  have mb2 := (isortB_perm _ ws).mem_iff.mp mb
  exact leD_anti (hp a ma2) (hp b mb2) (ha a ma2 b mb2) h1 h2
theorem sortW_perm (ws : List W) : (sortW ws).Perm ws := isortB_perm _ ws
section
variable {X : Cx} {G : Gx}
theorem each_of {H : Hp} {ρ : Ro} : ∀ {ws : List W} {vs : List V} {us : List Value}, RepL G H ρ ws vs → Vals vs us → PySem.W.EachIs (fun (u : Value) (w : W) => ∃ x, Rep G H ρ w x ∧ RelV x u) us ws
  | [], vs, us, r, q => by
    rw [RepL] at r; subst r; cases q; exact .nil
  | w :: ws, vs, us, r, q => by
    rw [RepL] at r
    obtain ⟨v, t, rfl, h1, h2⟩ := r
    cases q with
    | cons q1 q2 => exact .cons ⟨v, h1, q1⟩ (each_of h2 q2)
theorem of_each {H : Hp} {ρ : Ro} : ∀ {ws : List W} {us : List Value}, PySem.W.EachIs (fun (u : Value) (w : W) => ∃ x, Rep G H ρ w x ∧ RelV x u) us ws → ∃ vs, RepL G H ρ ws vs ∧ Vals vs us
  | [], us, h => by
    cases h; exact ⟨[], RepL.nil, .nil⟩
  | w :: ws, us, h => by
    cases h with
    | cons h1 h2 =>
      obtain ⟨x, a, b⟩ := h1
      obtain ⟨vs, c, d⟩ := of_each h2
      exact ⟨x :: vs, RepL.cons a c, .cons b d⟩
theorem each_reads {H : Hp} {ρ : Ro} {pins : List (Addr × Obj)} {s : Shared} {σ : L2.St} (hG : X.K = G.K) (I : Inv X pins σ H s) : ∀ {ws : List W} {vs : List V} {us : List Value}, (∀ w ∈ ws, pureW w = true) → RepL G H ρ ws vs → Vals vs us → PySem.W.EachIs (fun (u : Value) (w : W) => ∃ as, Reads s.heap u (dataW w) as) us ws
  | [], vs, us, _, r, q => by
    rw [RepL] at r; subst r; cases q; exact .nil
  | w :: ws, vs, us, hp, r, q => by
    rw [RepL] at r
    obtain ⟨v, t, rfl, h1, h2⟩ := r
    cases q with
    | cons q1 q2 =>
      have d := dpW w v (hp w (by simp)) h1
      rw [← hG] at d
      exact .cons (Dp.reads I _ _ _ d q1) (each_reads hG I (fun z m => hp z (List.mem_cons_of_mem _ m)) h2 q2)
theorem call_sorted (hG : X.K = G.K) (hu : X.A.units + 150 < cLine) {pins : List (Addr × Obj)} {s : Shared} {σ : L2.St} {H : Hp} {ρ : Ro} {xs : List W} {x : V} {v : Value} {Q : VK} (I : Inv X pins σ H s) (rx : RelV x v) (ra : VRep G H ρ (.lst xs) x)
    (hk : okSort xs = true) (hl : xs.length ≤ 10000) (q : ∀ (p : Addr) (vs : List V), H p = none → vs.length ≤ sizeLine → RepL G H ρ (sortW xs) vs → Q (.ref p) (upd H p (.lst vs))) : wpAny (model X.prog X.w) X.A (call (.builtin "sorted") [v]) (EP X pins σ Q) X.xe s := by
  simp only [okSort, Bool.and_eq_true, List.all_eq_true, Bool.or_eq_true, decide_eq_true_eq] at hk
  obtain ⟨h1, h2⟩ := hk
  simp only [VRep] at ra
  obtain ⟨p, vs, rfl, t, lz, r⟩ := ra
  cases rx
  obtain ⟨its, rv, il, _⟩ := I.list (hG ▸ t.sq)
  have hp : ∀ a ∈ xs, pureW a = true := fun a m => (h1 a m).1
  refine PySem.W.sorted_data (enc := dataW) il.isList (each_of r rv) (each_reads hG I hp r rv) (fun d hd d' hd' => ?_) ?_ (by rw [sizeLine_eq]; omega) (fun b m => ?_) fun out ho ho2 => ?_
  · obtain ⟨a, m, rfl⟩ := List.mem_map.mp hd
    obtain ⟨b, m', rfl⟩ := List.mem_map.mp hd'
    exact alikeW_data a b ((h1 a m).2.2 b m')
  · rcases h2 with h2 | h2
    · refine .inl fun d hd => ?_
      obtain ⟨a, m, rfl⟩ := List.mem_map.mp hd
      have k := h2 a m
      unfold isTup1 at k
      split at k
      · exact ⟨_, _, by rw [dataW, dataL]⟩
      · cases k
    · refine .inr fun d hd => ?_
      obtain ⟨a, m, rfl⟩ := List.mem_map.mp hd
      have k := h2 a m
      unfold isAtom at k
      split at k
      · exact ⟨by rw [dataW]; simp, fun z => by rw [dataW]; simp⟩
      · exact ⟨by rw [dataW]; simp, fun z => by rw [dataW]; simp⟩
      · exact ⟨by rw [dataW]; simp, fun z => by rw [dataW]; simp⟩
      · cases k
  · have := (h1 b m).2.1
    rw [depW_eq]
    omega
  · change PySem.W.EachIs _ out (xs.mergeSort leD) at ho2
    rw [sortW_merge hp fun a m b m' => (h1 a m).2.2 b m'] at ho2
    obtain ⟨ys, r2, v2⟩ := of_each ho2
    obtain ⟨ep, he'⟩ := PyProof.Rows.sortedAll_at s.heap its (List.toArray out)
    have hlen : ys.length ≤ sizeLine := by
      have := v2.length
      rw [sizeLine_eq]; omega
    exact ⟨.ref _, upd H (s.heap.objs.size + 1) (.lst ys), I.laid (t' := s.toks) (fun _ _ => PyProof.Rows.sortedAll_old) (Nat.le_succ _) ⟨hlen, out, ep, v2, he'⟩, rfl, q _ ys (I.hok.fresh (Nat.le_succ _)) hlen r2⟩
end
end Y

namespace Y
open PySem PySem.Spec PySem.Calls PyProof.Rows PyProof.V L2
/-! dicts -/
theorem wK_inj (a b : Key) (e : wK a = wK b) : a = b := by
  have c : ∀ x : Str, strC x.cps.toList = x := fun ⟨⟨l⟩⟩ => rfl
  cases a with
  | inl i => cases b with
    | inl j => simp only [wK, W.int.injEq] at e; rw [e]
    | inr j => simp only [wK, reduceCtorEq] at e
  | inr i => cases b with
    | inl j => simp only [wK, reduceCtorEq] at e
    | inr j =>
      simp only [wK, W.str.injEq] at e
      rw [← c i, ← c j, e]
theorem tkW_inj (a b : List Key) (e : tkW a = tkW b) : a = b := by
  simp only [tkW, W.tup.injEq] at e
  induction a generalizing b with
  | nil => cases b with
    | nil => rfl
    | cons _ _ => cases e
  | cons x r ih => cases b with
    | nil => cases e
    | cons y s =>
      simp only [List.map_cons, List.cons.injEq] at e
      rw [wK_inj _ _ e.1, ih s e.2]
section
variable {G : Gx} {H H' : Hp} {ρ ρ' : Ro} {κ : Type} [DecidableEq κ] {f : κ → W}
theorem RepD.length : ∀ {kvs : List (W × W)} {l : List (κ × V)}, RepD G H ρ κ f kvs l → l.length = kvs.length
  | [], l, h => by rw [RepD] at h; subst h; rfl
  | (k, w) :: r, l, h => by
    rw [RepD] at h
    obtain ⟨c, v, t, rfl, h1, h2, h3⟩ := h
    simp [RepD.length h3]
theorem RepD.keys : ∀ {kvs : List (W × W)} {l : List (κ × V)}, RepD G H ρ κ f kvs l → kvs.map (·.1) = l.map fun p => f p.1
  | [], l, h => by rw [RepD] at h; subst h; rfl
  | (k, w) :: r, l, h => by
    rw [RepD] at h
    obtain ⟨c, v, t, rfl, h1, h2, h3⟩ := h
    simp [RepD.keys h3, h1]
theorem RepD.cons {c : κ} {w : W} {v : V} {kvs : List (W × W)} {l : List (κ × V)} (h1 : Rep G H ρ w v) (h2 : RepD G H ρ κ f kvs l) : RepD G H ρ κ f ((f c, w) :: kvs) ((c, v) :: l) := by
  rw [RepD]; exact ⟨c, v, l, rfl, rfl, h1, h2⟩
theorem RepD.nil : RepD G H ρ κ f [] [] := by rw [RepD]
theorem RepD.append : ∀ {kvs more : List (W × W)} {l m : List (κ × V)}, RepD G H ρ κ f kvs l → RepD G H ρ κ f more m → RepD G H ρ κ f (kvs ++ more) (l ++ m)
  | [], more, l, m, h, q => by rw [RepD] at h; subst h; exact q
  | (k, w) :: r, more, l, m, h, q => by
    rw [RepD] at h
    obtain ⟨c, v, t, rfl, h1, h2, h3⟩ := h
    rw [h1]
    exact RepD.cons h2 (RepD.append h3 q)
theorem RepD.get (hf : ∀ a b, f a = f b → a = b) (k : κ) : ∀ {kvs : List (W × W)} {l : List (κ × V)}, RepD G H ρ κ f kvs l → (getD (f k) kvs = none ∧ valV l k = none) ∨ ∃ w v, getD (f k) kvs = some w ∧ valV l k = some v ∧ Rep G H ρ w v
  | [], l, h => by rw [RepD] at h; subst h; exact .inl ⟨rfl, rfl⟩
  | (k', w) :: r, l, h => by
    rw [RepD] at h
    obtain ⟨c, v, t, rfl, h1, h2, h3⟩ := h
    by_cases e : c = k
    · subst e
      refine .inr ⟨w, v, ?_, valV_pos (p := (c, v)) rfl, h2⟩
      rw [h1]; simp [getD]
    · have e2 : ¬ k' = f k := fun z => e (hf _ _ (h1.symm.trans z))
      rw [valV_neg (p := (c, v)) e]
      simp only [getD, e2, if_false]
      exact RepD.get hf k h3
theorem RepD.rep (hf : ∀ a b, f a = f b → a = b) (k : κ) {w : W} {v : V} (q : Rep G H ρ w v) : ∀ {kvs : List (W × W)} {l : List (κ × V)}, RepD G H ρ κ f kvs l → RepD G H ρ κ f (repD (f k) w kvs) (l.map fun kv => if kv.1 = k then (kv.1, v) else kv)
  | [], l, h => by rw [RepD] at h; subst h; exact RepD.nil
  | (k', w') :: r, l, h => by
    rw [RepD] at h
    obtain ⟨c, v', t, rfl, h1, h2, h3⟩ := h
    have ih := RepD.rep hf k q h3
    rw [List.map_cons, repD]
    by_cases e : c = k
    · have e2 : k' = f k := by rw [h1, e]
      rw [if_pos e2, if_pos (show ((c, v').1 = k) from e), h1]
      exact RepD.cons q ih
    · have e2 : ¬ k' = f k := fun z => e (hf _ _ (h1.symm.trans z))
      rw [if_neg e2, if_neg (show ¬ ((c, v').1 = k) from e), h1]
      exact RepD.cons h2 ih
theorem RepD.put (hf : ∀ a b, f a = f b → a = b) (k : κ) {w : W} {v : V} (q : Rep G H ρ w v) {kvs : List (W × W)} {l : List (κ × V)} (h : RepD G H ρ κ f kvs l) : RepD G H ρ κ f (putD (f k) w kvs) (putK l k v) := by
  unfold putD putK
  rw [valV_any]
  rcases RepD.get hf k h with ⟨h1, h2⟩ | ⟨w', v', h1, h2, h3⟩
  · rw [h1, h2]
    exact RepD.append h (RepD.cons q RepD.nil)
  · rw [h1, h2]
    exact RepD.rep hf k q h
theorem RepD.merge : ∀ {more : List (W × W)} {m : List (Key × V)} {kvs : List (W × W)} {l : List (Key × V)}, RepD G H ρ Key wK more m → RepD G H ρ Key wK kvs l → RepD G H ρ Key wK (mergeD kvs more) (mergeK l m)
  | [], m, kvs, l, h, q => by rw [RepD] at h; subst h; exact q
  | (k, w) :: r, m, kvs, l, h, q => by
    rw [RepD] at h
    obtain ⟨c, v, t, rfl, h1, h2, h3⟩ := h
    rw [mergeD, h1]
    show RepD G H ρ Key wK _ (mergeK (putK l c v) t)
    exact RepD.merge h3 (RepD.put wK_inj c h2 q)
theorem repD_len (k w : W) : ∀ l : List (W × W), (repD k w l).length = l.length
  | [] => rfl
  | (_, _) :: r => by rw [repD, List.length_cons, repD_len k w r, List.length_cons]
theorem RepL_keys : ∀ ks : List Key, RepL G H ρ (ks.map wK) (ks.map kV)
  | [] => RepL.nil
  | k :: r => by
    refine RepL.cons ?_ (RepL_keys r)
    cases k with
    | inl i => simp only [wK, kV, Rep]
    | inr s =>
      obtain ⟨⟨l⟩⟩ := s
      simp only [wK, kV, Rep]
      rfl
end
section
variable {X : Cx} {G : Gx}
theorem minG_data : ∀ {xs : List W} {a : W}, (∀ y ∈ a :: xs, pureW y = true) → (∀ y ∈ a :: xs, ∀ z ∈ a :: xs, alikeW y z = true) → dataW (minG a xs) = PySem.W.minD (dataW a) (xs.map dataW) ∧ minG a xs ∈ a :: xs
  | [], a, _, _ => ⟨rfl, by simp [minG]⟩
  | y :: ys, a, h1, h2 => by
    have e := ltB_data y a (h1 y (by simp)) (h1 a (by simp)) (h2 y (by simp) a (by simp))
    have sub : ∀ z, z ∈ y :: ys → z ∈ a :: y :: ys := fun z m => List.mem_cons_of_mem _ m
    have sub2 : ∀ z, z ∈ a :: ys → z ∈ a :: y :: ys := fun z m => by
      rcases List.mem_cons.mp m with m | m
      · rw [m]; simp
      · exact List.mem_cons_of_mem _ (List.mem_cons_of_mem _ m)
    unfold minG PySem.W.minD
    rw [List.foldl_cons, List.map_cons, List.foldl_cons]
    simp only [e]
    cases q : ltB y a with
    | true =>
      simp only [if_true]
      obtain ⟨z1, z2⟩ := minG_data (xs := ys) (a := y) (fun z m => h1 z (sub z m)) (fun z m u m' => h2 z (sub z m) u (sub u m'))
      exact ⟨z1, sub _ z2⟩
    | false =>
      simp only [Bool.false_eq_true, if_false]
      obtain ⟨z1, z2⟩ := minG_data (xs := ys) (a := a) (fun z m => h1 z (sub2 z m)) (fun z m u m' => h2 z (sub2 z m) u (sub2 u m'))
      exact ⟨z1, sub2 _ z2⟩
theorem readsAll_of {h : Heap} : ∀ {ws : List W} {us : List Value}, PySem.W.EachIs (fun (u : Value) (w : W) => ∃ as, Reads h u (dataW w) as) us ws → ∃ as, ReadsAll h us (ws.map dataW) as
  | [], us, e => by cases e; exact ⟨_, .nil⟩
  | w :: ws, us, e => by
    cases e with
    | cons h1 h2 =>
      obtain ⟨as, r⟩ := h1
      obtain ⟨bs, rs⟩ := readsAll_of h2
      exact ⟨_, .cons r rs⟩
theorem depthAll_le {n : Nat} : ∀ {xs : List PyData}, (∀ x ∈ xs, x.depth ≤ n) → PyData.depthAll xs ≤ n
  | [], _ => by simp [PyData.depthAll]
  | x :: xs, h => by
    have := h x (by simp)
    have := depthAll_le (xs := xs) fun y m => h y (List.mem_cons_of_mem _ m)
    simp only [PyData.depthAll]
    omega
theorem call_minT (hG : X.K = G.K) (hc : X.calm = true) (hu : X.A.units + 150 < cLine) {pins : List (Addr × Obj)} {s : Shared} {σ : L2.St} {H : Hp} {ρ : Ro} {ws : List W} {w : W} {x : V} {v : Value} {Q : VK} (I : Inv X pins σ H s) (rx : RelV x v) (ra : VRep G H ρ (.lst ws) x)
    (e : minT ws = some w) (q : ∀ u, Rep G H ρ w u → Q u H) : wpAny (model X.prog X.w) X.A (call (.builtin "min") [v]) (EP X pins σ Q) X.xe s := by
  cases ws with
  | nil => cases e
  | cons a xs =>
    simp only [minT] at e
    split at e
    · rename_i hm
      cases e
      simp only [Bool.and_eq_true, decide_eq_true_eq, okSort, List.all_eq_true, Bool.or_eq_true] at hm
      obtain ⟨⟨h1, h2⟩, hl⟩ := hm
      obtain ⟨p, vs, rfl, t, lz, r⟩ := ra
      cases rx
      obtain ⟨its, rv, il, _⟩ := I.list (hG ▸ t.sq)
      have hp : ∀ b ∈ a :: xs, pureW b = true := fun b m => (h1 b m).1
      have hal : ∀ b ∈ a :: xs, ∀ c ∈ a :: xs, alikeW b c = true := fun b m c m' => (h1 b m).2.2 c m'
      obtain ⟨as, rall⟩ := readsAll_of (each_reads hG I hp r rv)
      obtain ⟨g1, g2⟩ := minG_data hp hal
      refine PySem.W.min_list_data (as := as) (I.ok.hd hc) il.isList (x := dataW a) (xs := xs.map dataW) (by simpa using rall) ⟨fun d hd d' hd' => ?_, fun d hd => ?_⟩ ?_ fun i u h' tk bs hi rd hk => ?_
      · rw [← List.map_cons] at hd hd'
        obtain ⟨b, m, rfl⟩ := List.mem_map.mp hd
        obtain ⟨c, m', rfl⟩ := List.mem_map.mp hd'
        exact alikeW_data b c (hal b m c m')
      · rw [← List.map_cons] at hd
        obtain ⟨b, m, rfl⟩ := List.mem_map.mp hd
        rcases h2 with h2 | h2
        · have k := h2 b m
          unfold isTup1 at k
          split at k
          · rw [dataW]; simp
          · cases k
        · have k := h2 b m
          unfold isAtom at k
          split at k
          · rw [dataW]; simp
          · rw [dataW]; simp
          · rw [dataW]; simp
          · cases k
      · have : PyData.depthAll (dataW a :: xs.map dataW) ≤ 100 := depthAll_le fun d hd => by
          rw [← List.map_cons] at hd
          obtain ⟨b, m, rfl⟩ := List.mem_map.mp hd
          rw [depW_eq]
          exact (h1 b m).2.1
        omega
      · have hi2 : its[i]? = some u := by simpa using hi
        have hil : i < its.length := (List.getElem?_eq_some_iff.mp hi2).1
        have e1 := rv.length
        have e2 := r.length
        obtain ⟨wi, ew⟩ : ∃ wi, (a :: xs)[i]? = some wi := ⟨_, List.getElem?_eq_getElem (by omega)⟩
        obtain ⟨y, ey, ry⟩ := r.get ew
        obtain ⟨u', eu, rvu⟩ := rv.get ey
        rw [hi2] at eu
        cases eu
        have mi := List.mem_of_getElem? ew
        have d := dpW wi y (hp wi mi) ry
        rw [← hG] at d
        obtain ⟨as', rd'⟩ := Dp.reads I _ _ _ d rvu
        have ed := (reads_det (fun b o e _ => hk b o e) rd' rd).1
        rw [← g1] at ed
        have same : minG a xs = wi := by
          refine leD_anti (hp _ g2) (hp _ mi) (hal _ g2 _ mi) ?_ ?_
          · rw [leD_eq, ed]; simp [PySem.W.dataLt, lex_irrefl]
          · rw [leD_eq, ed]; simp [PySem.W.dataLt, lex_irrefl]
        exact ⟨y, H, I.kept hk, rvu, q y (same ▸ ry)⟩
    · cases e
theorem call_lenD {pins : List (Addr × Obj)} {s : Shared} {σ : L2.St} {H : Hp} {ρ : Ro} {kvs : List (W × W)} {x : V} {v : Value} {Q : VK} (I : Inv X pins σ H s) (rx : RelV x v) (ra : VRep G H ρ (.dct false kvs) x)
    (q : Q (.int kvs.length) H) : wpAny (model X.prog X.w) X.A (call (.builtin "len") [v]) (EP X pins σ Q) X.xe s := by
  rcases ra with ⟨_, a, l, rfl, e, rd⟩ | ⟨z, _⟩
  · cases rx
    refine d_len I (.inl e) fun t s' I' => ⟨.int _, H, I', ⟨t, rfl⟩, ?_⟩
    rw [rd.length]; exact q
  · cases z
theorem call_listD (hc : X.calm = true) {pins : List (Addr × Obj)} {s : Shared} {σ : L2.St} {H : Hp} {ρ : Ro} {kvs : List (W × W)} {x : V} {us : List Value} {Q : VK} (I : Inv X pins σ H s) (r : Vals [x] us) (ra : VRep G H ρ (.dct false kvs) x)
    (q : ∀ (p : Addr) (vs : List V), H p = none → vs.length ≤ sizeLine → RepL G H ρ (kvs.map (·.1)) vs → Q (.ref p) (upd H p (.lst vs))) : wpAny (model X.prog X.w) X.A (call (.type "list") us) (EP X pins σ Q) X.xe s := by
  rcases ra with ⟨_, a, l, rfl, e, rd⟩ | ⟨z, _⟩
  · obtain ⟨z, _⟩ := dk_of I.hok e
    refine call_list_dK hc pins s σ H _ us Q I r ⟨a, l, rfl, e, fun p n => q p _ n (by rw [List.length_map]; exact z) ?_⟩
    rw [rd.keys]
    have := RepL_keys (G := G) (H := H) (ρ := ρ) (l.map (·.1))
    rw [List.map_map, List.map_map] at this
    exact this
  · cases z
theorem atom_reads {h : Heap} : ∀ {ks : List Key} {us : List Value}, us.length = ks.length → (∀ (j : Nat) (v : Value), us[j]? = some v → ∃ k, ks[j]? = some k ∧ keyIs k v = true) → PySem.W.EachIs (fun (u : Value) (w : W) => ∃ as, Reads h u (dataW w) as ∧ h.objs.size - 1 ∉ as) us (ks.map wK) ∧ PySem.W.EachIs (fun (u : Value) (w : W) => ∃ k, w = wK k ∧ RelV (kV k) u) us (ks.map wK)
  | [], us, hl, _ => by
    have : us = [] := List.length_eq_zero_iff.mp hl
    subst this
    exact ⟨.nil, .nil⟩
  | k :: ks, us, hl, hk => by
    cases us with
    | nil => cases hl
    | cons u us =>
      obtain ⟨k', e1, e2⟩ := hk 0 u rfl
      cases e1
      have ih := atom_reads (h := h) (ks := ks) (us := us) (by simpa using hl) fun j v e => by simpa using hk (j + 1) v (by simpa using e)
      have rv := keyIs_rel e2
      refine ⟨.cons ?_ ih.1, .cons ⟨k, rfl, rv⟩ ih.2⟩
      cases k with
      | inl i =>
        obtain ⟨t, rfl⟩ := rv
        exact ⟨[], by show Reads h _ (.int i) []; exact .int i t, by simp⟩
      | inr s =>
        obtain ⟨t, rfl⟩ := rv
        obtain ⟨⟨l⟩⟩ := s
        exact ⟨[], by show Reads h _ (.str _) []; exact .str _ t, by simp⟩
theorem of_keys {H : Hp} {ρ : Ro} : ∀ {ws : List W} {us : List Value}, PySem.W.EachIs (fun (u : Value) (w : W) => ∃ k, w = wK k ∧ RelV (kV k) u) us ws → ∃ vs, RepL G H ρ ws vs ∧ Vals vs us
  | [], us, h => by
    cases h; exact ⟨[], RepL.nil, .nil⟩
  | w :: ws, us, h => by
    cases h with
    | cons h1 h2 =>
      obtain ⟨k, rfl, b⟩ := h1
      obtain ⟨vs, c, d⟩ := of_keys h2
      refine ⟨kV k :: vs, RepL.cons ?_ c, .cons b d⟩
      have := RepL_keys (G := G) (H := H) (ρ := ρ) [k]
      simp only [List.map_cons, List.map_nil] at this
      rw [RepL] at this
      obtain ⟨v, t, e, h, _⟩ := this
      cases e
      exact h
theorem call_sortedD (hc : X.calm = true) (hu : X.A.units + 150 < cLine) {pins : List (Addr × Obj)} {s : Shared} {σ : L2.St} {H : Hp} {ρ : Ro} {kvs : List (W × W)} {x : V} {v : Value} {Q : VK} (I : Inv X pins σ H s) (rx : RelV x v) (ra : VRep G H ρ (.dct false kvs) x)
    (hk : okSort (kvs.map (·.1)) = true) (hl : kvs.length ≤ 10000) (q : ∀ (p : Addr) (vs : List V), H p = none → vs.length ≤ sizeLine → RepL G H ρ (sortW (kvs.map (·.1))) vs → Q (.ref p) (upd H p (.lst vs))) : wpAny (model X.prog X.w) X.A (call (.builtin "sorted") [v]) (EP X pins σ Q) X.xe s := by
  rcases ra with ⟨_, a, l, rfl, e, rd⟩ | ⟨z, _⟩
  · cases rx
    obtain ⟨z, lo, vs, rel, dd⟩ := dk_of I.hok e
    obtain ⟨ep, hat⟩ := dd.dictAt
    have ek : kvs.map (·.1) = (vs.map (·.1)).map wK := by
      rw [rd.keys, ← rel.keys, List.map_map]; rfl
    have hvl : vs.length = kvs.length := by rw [← rel.length, rd.length]
    simp only [okSort, Bool.and_eq_true, List.all_eq_true, Bool.or_eq_true, decide_eq_true_eq] at hk
    obtain ⟨h1, h2⟩ := hk
    refine call_function_entry kind_sorted plain_sorted entry_sorted (args_sorted1 _) ?_
    unfold Builtin.«sorted»
    refine wpAny_bind (m := checkCount "sorted" 1 1 _) (wpAny_pure ?_)
    refine wpAny_bind (PySem.W.kdu_collect (A := X.A.in1) (PySem.W.kdl_dict (knd := mixKind X.prog X.w) (kvs := vs) (ep := ep) lo) (I.ok.hd hc) hat (by rw [← rel.length]; exact z) fun h' tk acc hkp hacc => ?_)
    have hlen : acc.toList.length = vs.length := by rw [Array.length_toList]; exact hacc.1
    refine wpAny_bind (wpAny_newList ?_ (by rw [hlen, ← rel.length]; exact z))
    have at_ : ∀ (j : Nat) (u : Value), acc.toList[j]? = some u → ∃ k, (vs.map (·.1))[j]? = some k ∧ keyIs k u = true := fun j u eu => by
      obtain ⟨k, y, e1, e2⟩ := hacc.2 j u (by rw [← Array.getElem?_toList]; exact eu)
      exact ⟨k, by rw [List.getElem?_map, e1]; rfl, e2⟩
    obtain ⟨er, ei⟩ := atom_reads (h := h'.push { cls := .type "list", data := .seq acc.toList.toArray }) (ks := vs.map (·.1)) (us := acc.toList) (by rw [List.length_map]; exact hlen) at_
    rw [← ek] at er ei
    refine wpAny_bind (wpAny_holding (PySem.W.list_sort_data (enc := dataW) (n := 0) (Heap.get?_push_size _ rfl) ei (er.mono fun u w ⟨as, r1, r2⟩ => ⟨as, r1, by simpa [Heap.push] using r2⟩) (fun d hd d' hd' => ?_) ?_ (by rw [sizeLine_eq, List.length_map]; omega) (fun b m => ?_) fun out ho ho2 => ?_))
    · obtain ⟨a, m, rfl⟩ := List.mem_map.mp hd
      obtain ⟨b, m', rfl⟩ := List.mem_map.mp hd'
      exact alikeW_data a b ((h1 a m).2.2 b m')
    · rcases h2 with h2 | h2
      · refine .inl fun d hd => ?_
        obtain ⟨a, m, rfl⟩ := List.mem_map.mp hd
        have k := h2 a m
        unfold isTup1 at k
        split at k
        · exact ⟨_, _, by rw [dataW, dataL]⟩
        · cases k
      · refine .inr fun d hd => ?_
        obtain ⟨a, m, rfl⟩ := List.mem_map.mp hd
        have k := h2 a m
        unfold isAtom at k
        split at k
        · exact ⟨by rw [dataW]; simp, fun z => by rw [dataW]; simp⟩
        · exact ⟨by rw [dataW]; simp, fun z => by rw [dataW]; simp⟩
        · exact ⟨by rw [dataW]; simp, fun z => by rw [dataW]; simp⟩
        · cases k
    · have := (h1 b m).2.1
      rw [depW_eq]
      show X.A.in1.units + 1 + depW b < cLine
      have e1 : X.A.in1.units ≤ X.A.units + 2 := by simp [Around.in1]
      omega
    · change PySem.W.EachIs _ out ((kvs.map (·.1)).mergeSort leD) at ho2
      rw [sortW_merge (fun a m => (h1 a m).1) fun a m b m' => (h1 a m).2.2 b m'] at ho2
      obtain ⟨ys, r2, v2⟩ := of_keys (G := G) (H := H) (ρ := ρ) ho2
      have hol : out.length = kvs.length := by rw [ho, List.length_map]
      have hlen2 : ys.length ≤ sizeLine := by
        rw [v2.length, hol, sizeLine_eq]; omega
      have hp : s.heap.get? h'.objs.size = none := by
        cases z : s.heap.get? h'.objs.size with
        | none => rfl
        | some o => exact absurd (Heap.lt_size (hkp _ _ z)) (Nat.lt_irrefl _)
      have hn : H h'.objs.size = none := I.hok.gone hp
      obtain ⟨ep, hat2⟩ := PyProof.Rows.sortedHeap_at (h := h'.push { cls := .type "list", data := .seq acc.toList.toArray }) (a := h'.objs.size) (vs := acc.toList) (n := 0) (out := out.toArray) (Heap.get?_push_size _ rfl)
      refine wpAny_pure ⟨_, rfl, .ref _, upd H h'.objs.size (.lst ys), I.laidN (fun b u eb => ?_) hp hn (show ObjOk X.prog X.w _ _ _ (.lst ys) from ⟨hlen2, out, ep, v2, hat2⟩), rfl, q _ ys hn hlen2 r2⟩
      have e2 := hkp _ _ eb
      have lt := Heap.lt_size e2
      rw [PyProof.Rows.sortedHeap_old (Nat.ne_of_lt lt) (Nat.lt_of_lt_of_le lt (by rw [size_push']; exact Nat.le_succ _))]
      exact Heap.get?_push_of_some _ e2
  · cases z
end
end Y

namespace Y
open PySem PySem.Spec PyProof.Rows L2
/-! built-in functions, by values -/
def VRepL (G : Gx) (H : Hp) (ρ : Ro) : List W → List V → Prop
  | [], vs => vs = []
  | w :: r, vs => ∃ v t, vs = v :: t ∧ VRep G H ρ w v ∧ VRepL G H ρ r t
section
variable {G : Gx} {H : Hp} {ρ : Ro} {h : WH}
theorem viewL_rep (hr : HRep G H ρ h) : ∀ {ws : List W} {vs : List V}, RepL G H ρ ws vs → VRepL G H ρ (ws.map (view h)) vs
  | [], vs, r => by rw [RepL] at r; exact r
  | w :: r, vs, q => by
    rw [RepL] at q
    obtain ⟨v, t, e, q1, q2⟩ := q
    exact ⟨v, t, e, view_rep hr q1, viewL_rep hr q2⟩
theorem VRepL.one {w : W} {vs : List V} (r : VRepL G H ρ [w] vs) : ∃ v, vs = [v] ∧ VRep G H ρ w v := by
  obtain ⟨v, t, e, q1, q2⟩ := r
  have q2 : t = [] := q2
  subst q2
  exact ⟨v, e, q1⟩
theorem VRepL.two {w u : W} {vs : List V} (r : VRepL G H ρ [w, u] vs) : ∃ v x, vs = [v, x] ∧ VRep G H ρ w v ∧ VRep G H ρ u x := by
  obtain ⟨v, t, e, q1, q2⟩ := r
  obtain ⟨x, rfl, q3⟩ := VRepL.one q2
  exact ⟨v, x, e, q1, q3⟩
theorem ints_rep : ∀ {ws : List W} {vs : List V} {l : List Int}, intsOf ws = some l → RepL G H ρ ws vs → vs = l.map V.int
  | [], vs, l, e, r => by
    rw [RepL] at r
    simp only [intsOf, Option.some.injEq] at e
    subst e; subst r; rfl
  | w :: ws, vs, l, e, r => by
    rw [RepL] at r
    obtain ⟨v, t, e1, q1, q2⟩ := r
    cases w with
    | int i =>
      simp only [intsOf, Option.map_eq_some_iff] at e
      obtain ⟨m, em, rfl⟩ := e
      rw [e1, ints_rep em q2, List.map_cons]
      simp only [Rep] at q1
      rw [q1]
    | _ => simp only [intsOf, reduceCtorEq] at e
theorem bools_rep : ∀ {ws : List W} {vs : List V} {l : List Bool}, boolsOf ws = some l → RepL G H ρ ws vs → vs = l.map V.bl
  | [], vs, l, e, r => by
    rw [RepL] at r
    simp only [boolsOf, Option.some.injEq] at e
    subst e; subst r; rfl
  | w :: ws, vs, l, e, r => by
    rw [RepL] at r
    obtain ⟨v, t, e1, q1, q2⟩ := r
    cases w with
    | bl i =>
      simp only [boolsOf, Option.map_eq_some_iff] at e
      obtain ⟨m, em, rfl⟩ := e
      rw [e1, bools_rep em q2, List.map_cons]
      simp only [Rep] at q1
      rw [q1]
    | _ => simp only [boolsOf, reduceCtorEq] at e
theorem strs_rep : ∀ {ws : List W} {vs : List V} {l : List (List Nat)}, strsOf ws = some l → RepL G H ρ ws vs → vs = (l.map strC).map V.str
  | [], vs, l, e, r => by
    rw [RepL] at r
    simp only [strsOf, Option.some.injEq] at e
    subst e; subst r; rfl
  | w :: ws, vs, l, e, r => by
    rw [RepL] at r
    obtain ⟨v, t, e1, q1, q2⟩ := r
    cases w with
    | str i =>
      simp only [strsOf, Option.map_eq_some_iff] at e
      obtain ⟨m, em, rfl⟩ := e
      rw [e1, strs_rep em q2, List.map_cons, List.map_cons]
      simp only [Rep] at q1
      rw [q1]
    | _ => simp only [strsOf, reduceCtorEq] at e
end
theorem maxI_spec : ∀ (r : List Int) (x : Int), maxI x r ∈ x :: r ∧ ∀ y ∈ x :: r, y ≤ maxI x r
  | [], x => ⟨by simp [maxI], fun y hy => by simp at hy; simp [maxI, hy]⟩
  | y :: r, x => by
    unfold maxI
    obtain ⟨h1, h2⟩ := maxI_spec r (if y > x then y else x)
    have h3 := h2 (if y > x then y else x) (by simp)
    generalize maxI (if y > x then y else x) r = M at h1 h2 h3 ⊢
    refine ⟨?_, fun z hz => ?_⟩
    · rcases List.mem_cons.mp h1 with e | e
      · rw [e]; split <;> simp
      · exact List.mem_cons_of_mem _ (List.mem_cons_of_mem _ e)
    · rcases List.mem_cons.mp hz with e | hz
      · subst e; split at h3 <;> omega
      · rcases List.mem_cons.mp hz with e | hz
        · subst e; split at h3 <;> omega
        · exact h2 z (List.mem_cons_of_mem _ hz)
theorem minI_spec : ∀ (r : List Int) (x : Int), minI x r ∈ x :: r ∧ ∀ y ∈ x :: r, minI x r ≤ y
  | [], x => ⟨by simp [minI], fun y hy => by simp at hy; simp [minI, hy]⟩
  | y :: r, x => by
    unfold minI
    obtain ⟨h1, h2⟩ := minI_spec r (if y < x then y else x)
    have h3 := h2 (if y < x then y else x) (by simp)
    generalize minI (if y < x then y else x) r = M at h1 h2 h3 ⊢
    refine ⟨?_, fun z hz => ?_⟩
    · rcases List.mem_cons.mp h1 with e | e
      · rw [e]; split <;> simp
      · exact List.mem_cons_of_mem _ (List.mem_cons_of_mem _ e)
    · rcases List.mem_cons.mp hz with e | hz
      · subst e; split at h3 <;> omega
      · rcases List.mem_cons.mp hz with e | hz
        · subst e; split at h3 <;> omega
        · exact h2 z (List.mem_cons_of_mem _ hz)
/-- of an operation: the name that is called, what it stands for -/
def opN : Op → Str
  | .len => "len" | .sum => "sum" | .max1 => "max" | .max2 => "max" | .min1 => "min" | .min2 => "min" | .abs => "abs" | .int => "int" | .list => "list" | .tuple => "tuple" | .all => "all" | .any => "any" | .repr => "repr" | .str => "str"
  | .isi _ => "isinstance" | .sorted => "sorted" | _ => ""
def opF : Op → Option Value
  | .len => some (.builtin "len") | .sum => some (.builtin "sum") | .max1 => some (.builtin "max") | .max2 => some (.builtin "max") | .min1 => some (.builtin "min") | .min2 => some (.builtin "min") | .abs => some (.builtin "abs")
  | .int => some (.type "int") | .list => some (.type "list") | .tuple => some (.type "tuple") | .all => some (.builtin "all") | .any => some (.builtin "any") | .repr => some (.builtin "repr") | .str => some (.type "str")
  | .sorted => some (.builtin "sorted")
  | _ => none
theorem opF_boot {f : Op} {u : Value} (h : opF f = some u) : bootBuiltins (opN f) = some u := by
  cases f <;> simp only [opF, Option.some.injEq, reduceCtorEq] at h <;> subst h <;> first | exact boot_len | exact boot_sum | exact boot_max | exact boot_min | exact boot_abs | exact boot_int | exact boot_list | exact boot_tuple | exact boot_all | exact boot_any | exact boot_repr | exact boot_str | exact PyProof.Rows.boot_sorted
theorem opN_ok (f : Op) : opN f ≠ ("__name__" : Str) ∧ (opN f == ("__debug__" : Str)) = false := by
  cases f <;> first | exact ⟨by decide, by decide⟩ | exact ⟨by show ("isinstance" : Str) ≠ _; decide, by show (("isinstance" : Str) == _) = false; decide⟩
def rOp (G : Gx) (f : Op) : List V → Hp → VK → Prop := fun vs H Q => ∃ ρ h ws w, HRep G H ρ h ∧ VRepL G H ρ ws vs ∧ opW f ws = some w ∧ KW G H ρ h w Q
section
variable {X : Cx} {G : Gx}
theorem hasDict_no : ∀ w : W, (dataW w).hasDict = false := by
  intro w
  exact noD w
where
  noD : ∀ w : W, (dataW w).hasDict = false
    | .non => by rfl
    | .bl _ => by rfl
    | .int _ => by rfl
    | .str _ => by rfl
    | .tup ws => by rw [dataW, PyData.hasDict]; exact noDL ws
    | .lst ws => by rw [dataW, PyData.hasDict]; exact noDL ws
    | .dct _ _ => by rfl
    | .ref _ => by rfl
  noDL : ∀ ws : List W, PyData.hasDictAll (dataL ws) = false
    | [] => by rfl
    | w :: r => by rw [dataL, PyData.hasDictAll, noD w, noDL r]; rfl
theorem strC_cps (x : Str) : strC x.cps.toList = x := by
  obtain ⟨⟨l⟩⟩ := x
  rfl
theorem repr_non {M : Program} {w : World} {A : Around} {E : Value → Shared → Prop} {s : Shared} {Q : Value → Shared → Prop} (h : Q (.str "None" s.toks) { s with toks := s.toks + 1 }) : wpAny (model M w) A (call (.builtin "repr") [.none]) Q E s :=
  call_repr_gives (typeIs_none s) F.slot_NoneType_repr F.entry_NoneType_repr (F.args_NoneType_repr_1 _) (.of_eq rfl) h
theorem call_reprW (hG : X.K = G.K) (hu : X.A.units + 150 < cLine) (hg : X.A.guards = some []) {pins : List (Addr × Obj)} {s : Shared} {σ : L2.St} {H : Hp} {ρ : Ro} {a w : W} {x : V} {v : Value} {Q : VK} (I : Inv X pins σ H s) (rx : RelV x v) (ra : VRep G H ρ a x)
    (e : reprW a = some w) (q : ∀ c, w = .str c → Q (.str (strC c)) H) : wpAny (model X.prog X.w) X.A (call (.builtin "repr") [v]) (EP X pins σ Q) X.xe s := by
  unfold reprW at e
  split at e
  · rename_i hm
    simp only [Bool.and_eq_true, decide_eq_true_eq] at hm
    obtain ⟨h1, h2, h3, h4⟩ := hm
    cases e
    have q := q _ rfl
    rw [strC_cps] at q
    have d := dpV h1 ra
    rw [← hG] at d
    obtain ⟨as, r⟩ := Dp.reads I _ _ _ d rx
    rw [big_eq] at h3
    cases a with
    | non =>
      simp only [VRep, Rep] at ra; subst ra; cases rx
      exact repr_non ⟨.str _, H, I.tok _, ⟨_, rfl⟩, q⟩
    | bl b =>
      simp only [VRep, Rep] at ra; subst ra; cases rx
      exact PySem.P.repr_of_bool ⟨.str _, H, I.tok _, ⟨_, rfl⟩, q⟩
    | int i =>
      simp only [VRep, Rep] at ra; subst ra; obtain ⟨t, rfl⟩ := rx
      exact PySem.P.repr_of_int (by simpa [dataW, PyData.showable] using h2) ⟨.str _, H, I.tok _, ⟨_, rfl⟩, q⟩
    | str c =>
      simp only [VRep, Rep] at ra; subst ra; obtain ⟨t, rfl⟩ := rx
      exact PySem.P.repr_of_str (hsz := h3) ⟨.str _, H, I.tok _, ⟨_, rfl⟩, q⟩
    | tup ws =>
      simp only [VRep, Rep] at ra
      obtain ⟨p, vs, rfl, _⟩ := ra
      cases rx
      exact repr_of_reads' r h2 (PyData.noDict_hsm (hasDict_no _)) hg (by rw [depW_eq]; omega) (fun _ _ e => e) (fun h' u tk hk => ⟨.str _, H, I.kept hk, ⟨_, rfl⟩, q⟩) h3
    | lst ws =>
      simp only [VRep] at ra
      obtain ⟨p, vs, rfl, _⟩ := ra
      cases rx
      exact repr_of_reads' r h2 (PyData.noDict_hsm (hasDict_no _)) hg (by rw [depW_eq]; omega) (fun _ _ e => e) (fun h' u tk hk => ⟨.str _, H, I.kept hk, ⟨_, rfl⟩, q⟩) h3
    | dct _ _ => simp only [pureW, Bool.false_eq_true] at h1
    | ref _ => simp only [pureW, Bool.false_eq_true] at h1
  · cases e
theorem sum_tup (hc : X.calm = true) {pins : List (Addr × Obj)} {s : Shared} {σ : L2.St} {H : Hp} {p : Addr} {ns : List Int} {Q : VK} (I : Inv X pins σ H s) (hT : SqT X.K H p (ns.map V.int)) (q : Q (.int ns.sum) H) :
    wpAny (model X.prog X.w) X.A (call (.builtin "sum") [.ref p]) (EP X pins σ Q) X.xe s := by
  obtain ⟨its, rv, hl, _⟩ := I.tuple hT
  have hi := rv.ints
  obtain ⟨xs, e⟩ := hi.allInts.items
  have hn : numsOf (intItems xs).toList = ns := by rw [← e]; exact hi.numsOf
  rw [nums_intItems] at hn
  rw [e] at hl
  refine PySem.W.ktm_sumG (I.ok.hd hc) hl fun h' tk t' hk => ?_
  rw [preSum_eq, List.take_of_length_le (by simp), hn]
  exact ⟨.int _, H, I.kept hk, ⟨_, rfl⟩, q⟩
theorem vseq {H : Hp} {ρ : Ro} {ws : List W} {x : V} (hG : X.K = G.K) : (VRep G H ρ (.lst ws) x → ∃ p ys, x = .ref p ∧ SqL X.K H p ys ∧ ys.length ≤ sizeLine ∧ RepL G H ρ ws ys) ∧ (VRep G H ρ (.tup ws) x → ∃ p ys, x = .ref p ∧ SqT X.K H p ys ∧ ys.length ≤ sizeLine ∧ RepL G H ρ ws ys) := by
  refine ⟨fun r => ?_, fun r => ?_⟩
  · obtain ⟨p, ys, rfl, h1, h2, h3⟩ := r
    exact ⟨p, ys, rfl, hG ▸ h1.sq, h2, h3⟩
  · simp only [VRep, Rep] at r
    obtain ⟨p, ys, rfl, h1, h2, h3⟩ := r
    exact ⟨p, ys, rfl, hG ▸ h1.sq, h2, h3⟩
theorem call_op (hG : X.K = G.K) (hc : X.calm = true) (hu : X.A.units + 150 < cLine) (hg : X.A.guards = some []) {f : Op} {u : Value} (hf : opF f = some u) : CallR X u (rOp G f) := by
  intro pins s σ H vs us Q I r hq
  obtain ⟨ρ, h, ws, w, hr, rv, e, k⟩ := hq
  cases f with
  | len =>
    cases hf
    simp only [opW] at e
    split at e
    · cases e
      obtain ⟨x, rfl, rx⟩ := rv.one
      obtain ⟨p, ys, rfl, h1, h2, h3⟩ := (vseq (X := X) hG).2 rx
      exact call_len_seq pins s σ H _ us Q I r ⟨p, ys, rfl, .inr h1, k.here hr (by rw [Rep, h3.length])⟩
    · cases e
      obtain ⟨x, rfl, rx⟩ := rv.one
      obtain ⟨p, ys, rfl, h1, h2, h3⟩ := (vseq (X := X) hG).1 rx
      exact call_len_seq pins s σ H _ us Q I r ⟨p, ys, rfl, .inl h1, k.here hr (by rw [Rep, h3.length])⟩
    · split at e
      · cases e
        rename_i hz
        obtain ⟨x, rfl, rx⟩ := rv.one
        exact call_len_str pins s σ H _ us Q I r ⟨_, by rw [vstr rx], by rw [strC_len, ← big_eq]; exact hz, k.here hr (by rw [Rep, strC_len])⟩
      · cases e
    · cases e
      obtain ⟨x, rfl, rx⟩ := rv.one
      obtain ⟨v, rfl, r1⟩ := vals1 r
      exact call_lenD I r1 rx (k.here hr (by rw [Rep]))
    · cases e
  | sum =>
    cases hf
    simp only [opW] at e
    split at e
    · simp only [Option.map_eq_some_iff] at e
      obtain ⟨l, el, rfl⟩ := e
      obtain ⟨x, rfl, rx⟩ := rv.one
      obtain ⟨p, ys, rfl, h1, h2, h3⟩ := (vseq (X := X) hG).2 rx
      rw [ints_rep el h3] at h1
      rw [r.ref1]
      exact sum_tup hc I h1 (k.here hr (by rw [Rep]))
    · simp only [Option.map_eq_some_iff] at e
      obtain ⟨l, el, rfl⟩ := e
      obtain ⟨x, rfl, rx⟩ := rv.one
      obtain ⟨p, ys, rfl, h1, h2, h3⟩ := (vseq (X := X) hG).1 rx
      rw [ints_rep el h3] at h1
      exact cr_sum hc pins s σ H _ us Q I r ⟨p, l, rfl, h1, k.here hr (by rw [Rep])⟩
    · cases e
  | max1 =>
    cases hf
    simp only [opW] at e
    split at e
    · simp only [Option.bind_eq_some_iff] at e
      obtain ⟨l, el, e⟩ := e
      obtain ⟨x, rfl, rx⟩ := rv.one
      obtain ⟨p, ys, rfl, h1, h2, h3⟩ := (vseq (X := X) hG).1 rx
      rw [ints_rep el h3] at h1
      cases l with
      | nil => cases e
      | cons a l =>
        cases e
        refine cr_max hc pins s σ H _ us Q I r ⟨p, _, rfl, h1, by simp, fun m m1 m2 => k.here hr ?_⟩
        obtain ⟨g1, g2⟩ := maxI_spec l a
        rw [Rep, Int.le_antisymm (m2 _ g1) (g2 _ m1)]
    · cases e
  | min1 =>
    cases hf
    simp only [opW] at e
    split at e
    · obtain ⟨x, rfl, rx⟩ := rv.one
      split at e
      · rename_i l el
        obtain ⟨p, ys, rfl, h1, h2, h3⟩ := (vseq (X := X) hG).1 rx
        rw [ints_rep el h3] at h1
        cases l with
        | nil => cases e
        | cons a l =>
        cases e
        refine cr_min hc pins s σ H _ us Q I r ⟨p, _, rfl, h1, by simp, fun m m1 m2 => k.here hr ?_⟩
        obtain ⟨g1, g2⟩ := minI_spec l a
        rw [Rep, Int.le_antisymm (g2 _ m1) (m2 _ g1)]
      · obtain ⟨v, rfl, r1⟩ := vals1 r
        exact call_minT hG hc hu I r1 rx e fun u ru => k.here hr ru
    · cases e
  | max2 =>
    cases hf
    simp only [opW] at e
    split at e
    · cases e
      obtain ⟨x, y, rfl, rx, ry⟩ := rv.two
      exact call_max2 hc pins s σ H _ us Q I r ⟨_, _, by rw [vint rx, vint ry], k.here hr (by rw [Rep])⟩
    · cases e
  | min2 =>
    cases hf
    simp only [opW] at e
    split at e
    · cases e
      obtain ⟨x, y, rfl, rx, ry⟩ := rv.two
      exact call_min2 hc pins s σ H _ us Q I r ⟨_, _, by rw [vint rx, vint ry], k.here hr (by rw [Rep])⟩
    · cases e
  | abs =>
    cases hf
    simp only [opW] at e
    split at e
    · cases e
      obtain ⟨x, rfl, rx⟩ := rv.one
      exact call_abs pins s σ H _ us Q I r ⟨_, by rw [vint rx], k.here hr (by rw [Rep])⟩
    · cases e
  | int =>
    cases hf
    simp only [opW] at e
    split at e
    · cases e
      obtain ⟨x, rfl, rx⟩ := rv.one
      exact call_int1 pins s σ H _ us Q I r (.inl ⟨_, by rw [vint rx], k.here hr (by rw [Rep])⟩)
    · cases e
  | list =>
    cases hf
    simp only [opW] at e
    split at e
    · cases e
      obtain ⟨x, rfl, rx⟩ := rv.one
      obtain ⟨p, ys, rfl, h1, h2, h3⟩ := (vseq (X := X) hG).2 rx
      exact call_list_of pins s σ H _ us Q I r ⟨p, ys, rfl, .inr h1, k.list hr h3 h2⟩
    · cases e
      obtain ⟨x, rfl, rx⟩ := rv.one
      obtain ⟨p, ys, rfl, h1, h2, h3⟩ := (vseq (X := X) hG).1 rx
      exact call_list_of pins s σ H _ us Q I r ⟨p, ys, rfl, .inl h1, k.list hr h3 h2⟩
    · cases e
      obtain ⟨x, rfl, rx⟩ := rv.one
      exact call_listD hc I r rx fun p vs n hl rr => k.list hr rr hl p n
    · cases e
  | tuple =>
    cases hf
    simp only [opW] at e
    split at e
    · cases e
      obtain ⟨x, rfl, rx⟩ := rv.one
      obtain ⟨p, ys, rfl, h1, h2, h3⟩ := (vseq (X := X) hG).2 rx
      exact call_tuple_of pins s σ H _ us Q I r ⟨p, ys, rfl, .inr ⟨h1, k.here hr rx⟩⟩
    · cases e
      obtain ⟨x, rfl, rx⟩ := rv.one
      obtain ⟨p, ys, rfl, h1, h2, h3⟩ := (vseq (X := X) hG).1 rx
      exact call_tuple_of pins s σ H _ us Q I r ⟨p, ys, rfl, .inl ⟨h1, k.tup hr h3 h2⟩⟩
    · cases e
  | all =>
    cases hf
    simp only [opW] at e
    split at e
    · simp only [Option.map_eq_some_iff] at e
      obtain ⟨l, el, rfl⟩ := e
      obtain ⟨x, rfl, rx⟩ := rv.one
      obtain ⟨p, ys, rfl, h1, h2, h3⟩ := (vseq (X := X) hG).1 rx
      rw [bools_rep el h3] at h1
      exact cr_all hc pins s σ H _ us Q I r ⟨p, l, rfl, h1, k.here hr (by rw [Rep])⟩
    · cases e
  | any =>
    cases hf
    simp only [opW] at e
    split at e
    · simp only [Option.map_eq_some_iff] at e
      obtain ⟨l, el, rfl⟩ := e
      obtain ⟨x, rfl, rx⟩ := rv.one
      obtain ⟨p, ys, rfl, h1, h2, h3⟩ := (vseq (X := X) hG).1 rx
      rw [bools_rep el h3] at h1
      exact cr_any hc pins s σ H _ us Q I r ⟨p, l, rfl, h1, k.here hr (by rw [Rep])⟩
    · cases e
  | repr =>
    cases hf
    simp only [opW] at e
    split at e
    · obtain ⟨x, rfl, rx⟩ := rv.one
      obtain ⟨v, rfl, r1⟩ := vals1 r
      exact call_reprW hG hu hg I r1 rx e fun c ec => k.here hr (by rw [ec, Rep])
    · cases e
  | str =>
    cases hf
    simp only [opW] at e
    split at e
    · split at e
      · cases e
        rename_i hz
        obtain ⟨x, rfl, rx⟩ := rv.one
        exact call_str_int pins s σ H _ us Q I r ⟨_, by rw [vint rx], hz, k.here hr (by rw [Rep, strOf, strC_cps])⟩
      · cases e
    · cases e
  | isi t => cases hf
  | sorted =>
    cases hf
    simp only [opW] at e
    split at e
    · split at e
      · rename_i xs hq
        simp only [Bool.and_eq_true, decide_eq_true_eq] at hq
        cases e
        obtain ⟨x, rfl, rx⟩ := rv.one
        obtain ⟨v, rfl, r1⟩ := vals1 r
        exact call_sorted hG hu I r1 rx hq.1 hq.2 fun p vs n hl rr => k.list hr rr hl p n
      · cases e
    · split at e
      · rename_i xs hq
        simp only [Bool.and_eq_true, decide_eq_true_eq] at hq
        cases e
        obtain ⟨x, rfl, rx⟩ := rv.one
        obtain ⟨v, rfl, r1⟩ := vals1 r
        exact call_sortedD hc hu I r1 rx hq.1 hq.2 fun p vs n hl rr => k.list hr rr hl p n
      · cases e
    · cases e
  | join => cases hf
  | sset => cases hf
  | lset => cases hf
  | lrg => cases hf
  | rev => cases hf
end
end Y

namespace Y
open PySem PySem.Spec PyProof.Rows L2
/-! what a call may do -/
def spW (G : Gx) (F : List W → WH → R W) : Sp := fun vs H Q E => ∃ ρ ws h, RepL G H ρ ws vs ∧ HRep G H ρ h ∧ GW G (fun c d _ H' => E c d H') [] H ρ (F ws h) Q
structure FnW (P : Program) (w : World) (K : PySem.W.Frag) (mg : Str → Option Value) (base : Heap) (k : Nat) (f : Addr) (fd : FuncData) (ps : List Str) (sp : Sp) : Prop where
  len : ∀ vs H Q E, sp vs H Q E → vs.length = ps.length
  run : ∀ (A : Around) (outer : List PySem.Env) (s : Shared) (H : Hp) (args : Args) (us : List Value) (vs : List V) (Q : VK) (E : XK), Room k A → A.guards = some [] → Env0 P w K mg base A outer s H → BindsTo s fd args (ps.zip us) → Vals vs us → sp vs H Q E →
    codeAny (model P w) A (.call (.ref f) args) (CR (L2.CX P w) outer P w H s Q E) s
section
variable {G : Gx} {H : Hp} {ρ ρ' : Ro}
mutual
theorem vW_move (hs : ∀ a, a ∈ ρ.no → a ∈ ρ'.no) : ∀ (w : W) (v : V), vW w = true → Rep G H ρ' w v → Rep G H ρ w v
  | .non, v, _, h => by rw [Rep] at h ⊢; exact h
  | .bl b, v, _, h => by rw [Rep] at h ⊢; exact h
  | .int b, v, _, h => by rw [Rep] at h ⊢; exact h
  | .str b, v, _, h => by rw [Rep] at h ⊢; exact h
  | .tup ws, v, p, h => by
    rw [Rep] at h ⊢
    obtain ⟨a, vs, e1, h1, h2, h3⟩ := h
    exact ⟨a, vs, e1, h1.imp (fun z => ⟨z.1, fun m => z.2 (hs a m)⟩) id, h2, vL_move hs ws vs (by rw [vW] at p; exact p) h3⟩
  | .lst ws, v, p, h => by
    rw [Rep] at h ⊢
    obtain ⟨a, vs, e1, h1, h2, h3⟩ := h
    exact ⟨a, vs, e1, h1.imp (fun z => ⟨z.1, fun m => z.2 (hs a m)⟩) id, h2, vL_move hs ws vs (by rw [vW] at p; exact p) h3⟩
  | .dct t ws, v, p, h => by
    rw [Rep] at h ⊢
    rw [vW] at p
    exact h.imp (fun ⟨e0, a, l, e1, h1, h2⟩ => ⟨e0, a, l, e1, ⟨h1.1, fun m => h1.2 (hs a m)⟩, vD_move hs ws l p h2⟩) fun ⟨e0, a, l, e1, h1, h2⟩ => ⟨e0, a, l, e1, ⟨h1.1, fun m => h1.2 (hs a m)⟩, vD_move hs ws l p h2⟩
  | .ref k, v, p, h => by rw [vW] at p; exact absurd p Bool.false_ne_true
theorem vL_move (hs : ∀ a, a ∈ ρ.no → a ∈ ρ'.no) : ∀ (ws : List W) (vs : List V), vL ws = true → RepL G H ρ' ws vs → RepL G H ρ ws vs
  | [], vs, _, h => by rw [RepL] at h ⊢; exact h
  | w :: r, vs, p, h => by
    rw [RepL] at h ⊢
    rw [vL, Bool.and_eq_true] at p
    obtain ⟨v, t, e1, h1, h2⟩ := h
    exact ⟨v, t, e1, vW_move hs w v p.1 h1, vL_move hs r t p.2 h2⟩
theorem vD_move (hs : ∀ a, a ∈ ρ.no → a ∈ ρ'.no) {κ : Type} {f : κ → W} : ∀ (ws : List (W × W)) (l : List (κ × V)), vD ws = true → RepD G H ρ' κ f ws l → RepD G H ρ κ f ws l
  | [], l, _, h => by rw [RepD] at h ⊢; exact h
  | (k, w) :: r, l, p, h => by
    rw [RepD] at h ⊢
    rw [vD, Bool.and_eq_true] at p
    obtain ⟨c, v, t, e1, h1, h2, h3⟩ := h
    exact ⟨c, v, t, e1, h1, vW_move hs w v p.1 h2, vD_move hs r t p.2 h3⟩
end
mutual
theorem vW_of : ∀ w : W, pureW w = true → vW w = true
  | .non, _ => rfl
  | .bl _, _ => rfl
  | .int _, _ => rfl
  | .str _, _ => rfl
  | .tup ws, p => by rw [vW]; exact vL_of ws (by rw [pureW] at p; exact p)
  | .lst ws, p => by rw [vW]; exact vL_of ws (by rw [pureW] at p; exact p)
  | .dct _ _, p => by rw [pureW] at p; cases p
  | .ref _, p => by rw [pureW] at p; cases p
theorem vL_of : ∀ ws : List W, pureL ws = true → vL ws = true
  | [], _ => by rw [vL]
  | w :: r, p => by
    rw [pureL, Bool.and_eq_true] at p
    rw [vL, vW_of w p.1, vL_of r p.2]; rfl
end
theorem vL_or {ws : List W} (h : (pureL ws || vL ws) = true) : vL ws = true := by
  rw [Bool.or_eq_true] at h
  exact h.elim (vL_of ws) id
theorem pure_move (hs : ∀ a, a ∈ ρ.no → a ∈ ρ'.no) (w : W) (v : V) (p : pureW w = true) (h : Rep G H ρ' w v) : Rep G H ρ w v := vW_move hs w v (vW_of w p) h
theorem pure_moveL (hs : ∀ a, a ∈ ρ.no → a ∈ ρ'.no) (ws : List W) (vs : List V) (p : pureL ws = true) (h : RepL G H ρ' ws vs) : RepL G H ρ ws vs := vL_move hs ws vs (vL_of ws p) h
theorem mapM_rep {f : W → Option W} (hf : ∀ w u v, f w = some u → Rep G H ρ' w v → Rep G H ρ u v) : ∀ {ws us : List W} {vs : List V}, ws.mapM f = some us → RepL G H ρ' ws vs → RepL G H ρ us vs
  | [], us, vs, e, r => by
    simp only [List.mapM_nil, Option.pure_def, Option.some.injEq] at e
    subst e
    rw [RepL] at r ⊢; exact r
  | w :: ws, us, vs, e, r => by
    rw [RepL] at r
    obtain ⟨v, t, e1, h1, h2⟩ := r
    simp only [List.mapM_cons, Option.pure_def, Option.bind_eq_bind, Option.bind_eq_some_iff, Option.some.injEq] at e
    obtain ⟨u, eu, us', eus, rfl⟩ := e
    rw [RepL]
    exact ⟨v, t, e1, hf _ _ _ eu h1, mapM_rep hf eus h2⟩
theorem frz_sc {h' : WH} {n : Nat} {w u : W} (e : frz h' n w = some u) : (∀ i, u = .int i ↔ w = .int i) ∧ (∀ i, u = .str i ↔ w = .str i) := by
  cases n with
  | zero => unfold frz at e; cases e
  | succ n =>
    unfold frz at e
    split at e
    · cases e; exact ⟨fun _ => Iff.rfl, fun _ => Iff.rfl⟩
    · cases w <;> simp only [reduceCtorEq, Option.map_eq_some_iff] at e
      · obtain ⟨_, _, rfl⟩ := e; simp
      · obtain ⟨_, _, rfl⟩ := e; simp
      · split at e
        · simp only [Option.map_eq_some_iff] at e; obtain ⟨_, _, rfl⟩ := e; simp
        · split at e <;> cases e; simp
        · split at e <;> cases e; simp
        · cases e
theorem mix_iff (ws : List W) : mixW ws = true ↔ ∃ i s, ws = [.int i, .str s] ∨ ws = [.str s, .int i] := by
  constructor
  · intro h
    unfold mixW at h
    split at h
    · exact ⟨_, _, .inl rfl⟩
    · exact ⟨_, _, .inr rfl⟩
    · cases h
  · rintro ⟨i, s, rfl | rfl⟩ <;> rfl
theorem frz_mix {h' : WH} {n : Nat} {ws us : List W} (e : ws.mapM (frz h' n) = some us) : mixW us = mixW ws := by
  rw [Bool.eq_iff_iff, mix_iff, mix_iff]
  have two : ∀ {us : List W} {a b : W}, [a, b].mapM (frz h' n) = some us → ∃ x y, us = [x, y] ∧ frz h' n a = some x ∧ frz h' n b = some y := by
    intro us a b e
    simp only [List.mapM_cons, List.mapM_nil, Option.pure_def, Option.bind_eq_bind, Option.bind_eq_some_iff, Option.some.injEq] at e
    obtain ⟨x, ex, _, ⟨y, ey, _, rfl, rfl⟩, rfl⟩ := e
    exact ⟨x, y, rfl, ex, ey⟩
  have len : ∀ (ws us : List W), ws.mapM (frz h' n) = some us → us.length = ws.length := by
    intro ws
    induction ws with
    | nil => intro us e; simp only [List.mapM_nil, Option.pure_def, Option.some.injEq] at e; subst e; rfl
    | cons a r ih =>
      intro us e
      simp only [List.mapM_cons, Option.pure_def, Option.bind_eq_bind, Option.bind_eq_some_iff, Option.some.injEq] at e
      obtain ⟨x, _, t, et, rfl⟩ := e
      simp [ih t et]
  constructor
  · rintro ⟨i, s, rfl | rfl⟩
    · have hl := len _ _ e
      match ws, hl with
      | [a, b], _ =>
        obtain ⟨x, y, e1, ex, ey⟩ := two e
        simp only [List.cons.injEq, and_true] at e1
        obtain ⟨rfl, rfl⟩ := e1
        exact ⟨i, s, .inl (by rw [((frz_sc ex).1 i).mp rfl, ((frz_sc ey).2 s).mp rfl])⟩
    · have hl := len _ _ e
      match ws, hl with
      | [a, b], _ =>
        obtain ⟨x, y, e1, ex, ey⟩ := two e
        simp only [List.cons.injEq, and_true] at e1
        obtain ⟨rfl, rfl⟩ := e1
        exact ⟨i, s, .inr (by rw [((frz_sc ex).2 s).mp rfl, ((frz_sc ey).1 i).mp rfl])⟩
  · rintro ⟨i, s, rfl | rfl⟩
    all_goals
      obtain ⟨x, y, rfl, ex, ey⟩ := two e
    · exact ⟨i, s, .inl (by rw [((frz_sc ex).1 i).mpr rfl, ((frz_sc ey).2 s).mpr rfl])⟩
    · exact ⟨i, s, .inr (by rw [((frz_sc ex).2 s).mpr rfl, ((frz_sc ey).1 i).mpr rfl])⟩
theorem frz_rep {h' : WH} (hs : ∀ a, a ∈ ρ.no → a ∈ ρ'.no) (hn : ∀ a, a ∈ ρ'.at_ → a ∉ ρ.no) (hr : HRep G H ρ' h') : ∀ (n : Nat) (w u : W) (v : V), frz h' n w = some u → Rep G H ρ' w v → Rep G H ρ u v
  | 0, w, u, v, e, _ => by unfold frz at e; cases e
  | n + 1, w, u, v, e, r => by
    unfold frz at e
    by_cases hp : (pureW w || vW w) = true
    · rw [if_pos hp] at e
      cases e
      exact vW_move hs _ _ (by rw [Bool.or_eq_true] at hp; exact hp.elim (vW_of _) id) r
    · rw [if_neg hp] at e
      cases w with
      | ref k =>
        simp only at e
        split at e
        · rename_i ws hk
          simp only [Option.map_eq_some_iff] at e
          obtain ⟨us, eu, rfl⟩ := e
          rw [Rep] at r
          obtain ⟨a, ea, rfl⟩ := r
          obtain ⟨vs, z1, z2, z3⟩ := hr.at_ k a _ ea hk
          rw [Rep]
          exact ⟨a, vs, rfl, .inl ⟨.inl z1, hn a (List.mem_of_getElem? ea)⟩, z2, mapM_rep (frz_rep hs hn hr n) eu z3⟩
        · rename_i kvs hk
          split at e
          · rename_i hd
            cases e
            rw [Rep] at r
            obtain ⟨a, ea, rfl⟩ := r
            obtain ⟨l, z1, z2⟩ := hr.at_ k a _ ea hk
            rw [Rep]
            exact .inl ⟨rfl, a, l, rfl, ⟨z1, hn a (List.mem_of_getElem? ea)⟩, vD_move hs _ _ hd z2⟩
          · cases e
        · rename_i kvs hk
          split at e
          · rename_i hd
            cases e
            rw [Rep] at r
            obtain ⟨a, ea, rfl⟩ := r
            obtain ⟨l, z1, z2⟩ := hr.at_ k a _ ea hk
            rw [Rep]
            exact .inr ⟨rfl, a, l, rfl, ⟨z1, hn a (List.mem_of_getElem? ea)⟩, vD_move hs _ _ hd z2⟩
          · cases e
        · cases e
      | tup ws =>
        simp only [Option.map_eq_some_iff] at e
        obtain ⟨us, eu, rfl⟩ := e
        rw [Rep] at r ⊢
        obtain ⟨a, vs, e1, h1, h2, h3⟩ := r
        refine ⟨a, vs, e1, ?_, h2, mapM_rep (frz_rep hs hn hr n) eu h3⟩
        rw [frz_mix eu]
        exact h1.imp (fun z => ⟨z.1, fun m => z.2 (hs a m)⟩) id
      | lst ws =>
        simp only [Option.map_eq_some_iff] at e
        obtain ⟨us, eu, rfl⟩ := e
        rw [Rep] at r ⊢
        obtain ⟨a, vs, e1, h1, h2, h3⟩ := r
        exact ⟨a, vs, e1, h1.imp (fun z => ⟨z.1, fun m => z.2 (hs a m)⟩) id, h2, mapM_rep (frz_rep hs hn hr n) eu h3⟩
      | _ => simp only [reduceCtorEq] at e
/-- an empty heap of mine -/
def Ro.zero (ρ : Ro) : Ro := ⟨[], ρ.no, fun a m => absurd m (by simp)⟩
theorem HRep.zero {h : WH} (hr : HRep G H ρ h) : HRep G H ρ.zero [] :=
  ⟨rfl, by simp [Ro.zero], hr.live, fun k a o e _ => by simp [Ro.zero] at e⟩
theorem Ext.un {H' : Hp} (e : Ext H ρ.zero H' ρ') (hl : ∀ a, a ∈ ρ.no → H a ≠ Option.none) : Ext H ρ H' ρ ∧ (∀ a, a ∈ ρ'.at_ → a ∉ ρ.no) := by
  have keep : ∀ a o, H a = some o → H' a = some o := fun a o q => e.keep a o q (by simp [Ro.zero])
  refine ⟨⟨fun _ _ q => q, fun _ q => q, fun a o q _ => keep a o q, fun _ q => .inl q, fun _ q => .inl q⟩, fun a m n => ?_⟩
  rcases e.newA a m with z | z
  · simp [Ro.zero] at z
  · exact hl a n z
theorem HRep.stay {H' : Hp} {h : WH} (hr : HRep G H ρ h) (e : Ext H ρ H' ρ) (keep : ∀ a o, H a = some o → H' a = some o) : HRep G H' ρ h :=
  ⟨hr.len, hr.nd, fun a m z => (by
    cases q : H a with
    | none => exact hr.live a m q
    | some o => rw [keep a o q] at z; cases z), fun k a o h1 h2 => (hr.at_ k a o h1 h2).mono e fun u hu => keep a u hu⟩
theorem own_move {H' : Hp} {h h' : WH} {p : Addr} {k : Nat} {ws : List W} (hr : HRep G H ρ h) (e : Ext H ρ.zero H' ρ') (hr' : HRep G H' ρ' h') (hk : h'[k]? = some (.lst ws)) (hp : ρ'.at_[k]? = some p) (pw : pureL ws = true) :
    Ext H ρ H' (ρ.push p) ∧ HRep G H' (ρ.push p) (h ++ [.lst ws]) := by
  have keep : ∀ a o, H a = some o → H' a = some o := fun a o q => e.keep a o q (by simp [Ro.zero])
  obtain ⟨e1, hn⟩ := e.un hr.live
  have mp := List.mem_of_getElem? hp
  have np := hn p mp
  have Hn : H p = Option.none := by
    rcases e.newA p mp with z | z
    · simp [Ro.zero] at z
    · exact z
  obtain ⟨vs, z1, z2, z3⟩ := hr'.at_ k p _ hp hk
  have e2 : Ext H ρ H' (ρ.push p) := by
    refine ⟨fun k a q => ?_, fun a m => List.mem_cons_of_mem _ m, fun a o q _ => keep a o q, fun a m => ?_, fun a m => ?_⟩
    · show (ρ.at_ ++ [p])[k]? = some a
      rw [List.getElem?_append_left (List.getElem?_eq_some_iff.mp q).1]; exact q
    · rcases List.mem_cons.mp m with m | m
      · rw [m]; exact .inr Hn
      · exact .inl m
    · rcases List.mem_append.mp m with m | m
      · exact .inl m
      · rw [List.mem_singleton.mp m]; exact .inr Hn
  refine ⟨e2, by simp [Ro.push, hr.len], List.nodup_append.mpr ⟨hr.nd, by simp, fun a ha b hb => by rw [List.mem_singleton.mp hb]; exact fun z => np (ρ.sub p (z ▸ ha))⟩, fun a m z => ?_, fun j a o q1 q2 => ?_⟩
  · rcases List.mem_cons.mp m with m | m
    · rw [m, z1] at z; cases z
    · cases q : H a with
      | none => exact hr.live a m q
      | some o => rw [keep a o q] at z; cases z
  · have q1 : (ρ.at_ ++ [p])[j]? = some a := q1
    by_cases hj : j < ρ.at_.length
    · rw [List.getElem?_append_left hj] at q1
      rw [List.getElem?_append_left (by rw [← hr.len]; exact hj)] at q2
      exact (hr.at_ j a o q1 q2).mono e2 fun u hu => keep a u hu
    · rw [List.getElem?_append_right (by omega)] at q1
      rw [List.getElem?_append_right (by rw [← hr.len]; omega)] at q2
      have hj1 : j - ρ.at_.length = 0 := by
        have := (List.getElem?_eq_some_iff.mp q1).1
        simp at this; exact this
      rw [hj1] at q1
      rw [← hr.len, hj1] at q2
      simp only [List.getElem?_cons_zero, Option.some.injEq] at q1 q2
      subst q1; subst q2
      refine ⟨vs, z1, z2, pure_moveL (ρ' := ρ') (fun a m => ?_) _ _ pw z3⟩
      rcases List.mem_cons.mp m with m | m
      · rw [m]; exact ρ'.sub p mp
      · exact e.sup a m
/-- the modes of a call, as what its promise wants -/
theorem call_modes {Wx : WX} {σ : L2.St} {T : Cal} {m : Md} {f : Nm} {h : WH} {ws : List W} {vs : List V} {Q : VK} (hr : HRep G H ρ h) (rv : RepL G H ρ ws vs) (g : GW G Wx σ H ρ (callM T m f ws h) Q) : spW G (T.run f) vs H Q (WE Wx σ) := by
  cases m with
  | heap =>
    have g : GW G Wx σ H ρ (T.run f ws h) Q := g
    refine ⟨ρ, ws, h, rv, hr, ?_⟩
    cases e : T.run f ws h with
    | ok w h' => rw [e] at g; exact g
    | exc c fs h' => rw [e] at g; exact g
    | bad => rw [e] at g; exact g
  | pure =>
    simp only [callM] at g
    split at g
    · rename_i pw
      refine ⟨ρ.zero, ws, [], vL_move (ρ := ρ.zero) (ρ' := ρ) (fun a q => q) _ _ (vL_or pw) rv, hr.zero, ?_⟩
      cases e : T.run f ws [] with
      | ok w h' =>
        rw [e] at g
        simp only at g
        obtain ⟨u, eu, k⟩ := opt_some_of g
        intro v H' ρ' x hr' rp
        obtain ⟨x1, hn⟩ := x.un hr.live
        exact k v H' ρ x1 (hr.stay x1 fun a o q => x.keep a o q (by simp [Ro.zero])) (frz_rep (ρ := ρ) x.sup hn hr' _ _ _ _ eu rp)
      | exc c fs h' =>
        rw [e] at g
        intro cls d H' ρ' x hr' rp
        obtain ⟨x1, hn⟩ := x.un hr.live
        exact g cls d H' ρ x1 (hr.stay x1 fun a o q => x.keep a o q (by simp [Ro.zero])) rp
      | bad => rw [e] at g; exact g
    · exact g.elim
  | own =>
    simp only [callM] at g
    split at g
    · rename_i pw
      refine ⟨ρ.zero, ws, [], vL_move (ρ := ρ.zero) (ρ' := ρ) (fun a q => q) _ _ (vL_or pw) rv, hr.zero, ?_⟩
      cases e : T.run f ws [] with
      | ok w h' =>
        rw [e] at g
        cases w with
        | ref k =>
          simp only at g
          split at g
          · rename_i xs hk
            split at g
            · rename_i px
              intro v H' ρ' x hr' rp
              rw [Rep] at rp
              obtain ⟨p, ep, rfl⟩ := rp
              obtain ⟨x1, hx⟩ := own_move hr x hr' hk ep px
              refine g _ H' (ρ.push p) x1 hx ?_
              rw [Rep]
              exact ⟨p, Ro.push_last hr.len, rfl⟩
            · exact g.elim
          · exact g.elim
        | _ => exact g.elim
      | exc c fs h' =>
        rw [e] at g
        intro cls d H' ρ' x hr' rp
        obtain ⟨x1, hn⟩ := x.un hr.live
        exact g cls d H' ρ x1 (hr.stay x1 fun a o q => x.keep a o q (by simp [Ro.zero])) rp
      | bad => rw [e] at g; exact g
    · exact g.elim
end
section
variable {X : Cx} {k : Nat} {f : Addr} {fd : FuncData} {ps : List Str} {sp : Sp} {E : L2.St → XK} {x : Str} {p pos : Pos} {es : List Expr} {t : TA} {σ : L2.St} {H : Hp}
theorem run_fnW {pins : List (Addr × Obj)} {s : Shared} {Q : VK} {us : List Value} {vs : List V} (F : FnW X.prog X.w X.K X.mg X.base k f fd ps sp) (hr : Room k X.A) (hg : X.A.guards = some []) (hb : Binds X.K fd ps []) (hx : PassesAt (L2.CX X.prog X.w) X σ (E σ))
    (I : Inv X pins σ H s) (r : Vals vs us) (h : sp vs H Q (E σ)) : wpAny (model X.prog X.w) X.A (call (.ref f) us) (EP X pins σ Q) X.xe s := by
  have hl : us.length = ps.length := by rw [← r.length]; exact F.len _ _ _ _ h
  have b := hb s us I.kIn (by rw [List.append_nil]; exact hl)
  rw [List.append_nil] at b
  refine wpAny_call (codeAny_mono (F.run X.A X.stack s H ⟨us, []⟩ us vs Q (E σ) hr hg I.env0 b r h) fun r s' hq => ?_)
  cases r with
  | error e => exact hx pins H s e s' I hq
  | ok fl =>
    cases fl with
    | ret u => exact I.after hq
    | next => exact False.elim hq
    | brk => exact False.elim hq
    | cont => exact False.elim hq
theorem noplus {pos : Pos} {env : PySem.Env} : ∀ {es : List Expr}, (∀ e ∈ es, ∀ a p, e ≠ .Starred a p) → (backTo pos (starEach es env)).any (·.1) = false
  | [], _ => by rfl
  | e :: r, h => by
    have h1 := h e (by simp)
    have h2 := noplus (pos := pos) (env := env) (es := r) fun e m => h e (List.mem_cons_of_mem _ m)
    have : starEach (e :: r) env = (false, eval e env) :: starEach r env := by
      cases e <;> first | rfl | exact absurd rfl (h1 _ _)
    rw [this]
    show (false || (backTo pos (starEach r env)).any (·.1)) = false
    rw [h2]; rfl
theorem star_cons {env : PySem.Env} {e : Expr} {r : List Expr} (h : ∀ a p, e ≠ .Starred a p) : starEach (e :: r) env = (false, eval e env) :: starEach r env := by
  cases e <;> first | rfl | exact absurd rfl (h _ _)
theorem pe_callW {e : Expr} (F : FnW X.prog X.w X.K X.mg X.base k f fd ps sp) (hr : Room k X.A) (hgu : X.A.guards = some []) (hg : Gl X x) (hm : X.mg x = some (.ref f)) (hk : PySem.W.keepIn X.K (.ref f) = true) (hb : Binds X.K fd ps []) (hx : ∀ σ, PassesAt (L2.CX X.prog X.w) X σ (E σ))
    (ha : PA X (e :: es) t) (hdb : (x == ("__debug__" : Str)) = false) (hs : ∀ a ∈ e :: es, ∀ b p, a ≠ .Starred b p) : PE X (.Call (.Name x p) (e :: es) [] pos) (tCallS sp E t) := by
  refine ⟨fun pins s σ H Q I h => ?_⟩
  refine wpAny_Call_Name_kw (ld_glob I hg hm ?_ hdb)
  refine PySem.W.callWith_K (h₀ := X.base) I.ok.mod.kin hk (thn (ha.run pos pins s σ H _ I h) fun us s1 ⟨vs, H1, I1, r, q⟩ => ⟨I1.kIn, ?_⟩) (star_cons (hs e (by simp))) (noplus fun e m => hs e (List.mem_cons_of_mem _ m))
  exact run_fnW F hr hgu hb (hx σ) I1 r q
theorem pe_callW0 (F : FnW X.prog X.w X.K X.mg X.base k f fd ps sp) (hr : Room k X.A) (hgu : X.A.guards = some []) (hg : Gl X x) (hm : X.mg x = some (.ref f)) (hk : PySem.W.keepIn X.K (.ref f) = true) (hb : Binds X.K fd ps []) (hx : ∀ σ, PassesAt (L2.CX X.prog X.w) X σ (E σ))
    (hdb : (x == ("__debug__" : Str)) = false) : PE X (.Call (.Name x p) [] [] pos) (tCallS sp E tNil) := by
  refine ⟨fun pins s σ H Q I h => ?_⟩
  refine wpAny_Call_Name_kw (ld_glob I hg hm ?_ hdb)
  exact PySem.W.callWith_K0 I.kIn hk (run_fnW (us := []) F hr hgu hb (hx σ) I .nil h)
end
end Y

namespace Y
open PySem PySem.Spec PyProof.Rows L2
/-! enumerate over a tuple -/
theorem enum_new1 {v : Value} {o : Obj} {Hh : Heap → Prop} (B : Begins v o Hh) :
    Meets (Builtin.«enumerate.__new__» ⟨[.type "enumerate", v], []⟩) (fun _ R s => Hh s.heap ∧
      R (.ok (.ret (.ref (s.heap.push o).objs.size))) { s with heap := (s.heap.push o).push { cls := .type "enumerate", data := .fields #[.none, .bool false, .ref s.heap.objs.size, rawInt 0, .none, .none] } }) :=
  .of_wp fun prog w A R s hx => by
    obtain ⟨hp, gn, dr, tk, osx⟩ := s; obtain ⟨hx1, hx2⟩ := hx
    have hsub := sub_enumerate
    have qq : ∀ {A2 : Around} {E2 : Value → Shared → Prop} {Q2 : Value → Shared → Prop}, Q2 (.ref hp.objs.size) ⟨hp.push o, gn, dr, tk, osx⟩ → wpAny (model prog w) A2 (pyIter v) Q2 E2 ⟨hp, gn, dr, tk, osx⟩ :=
      fun z => B.iter prog w _ _ ⟨hp, gn, dr, tk, osx⟩ _ hx1 z
    wp_walk using qq
    refine wpAny_stack_any fun stk => wpAny_pure ?_
    split
    · rename_i c _ _ _ _ _
      cases (c == Value.type "enumerate") <;> (wp_walk using qq; exact ⟨_, rfl, hx2⟩)
    · wp_walk using qq
      exact ⟨_, rfl, hx2⟩
theorem enum_made {prog : Program} {w : World} {A : Around} {E : Value → Shared → Prop} {s : Shared} {v : Value} {o : Obj} {Hh : Heap → Prop} {Q : Value → Shared → Prop} (B : Begins v o Hh) (h1 : Hh s.heap)
    (k : ∀ h', IsEnum h' (s.heap.objs.size + 1) s.heap.objs.size 0 .none → h'.get? s.heap.objs.size = some o → (∀ b u, s.heap.get? b = some u → h'.get? b = some u) → Q (.ref (s.heap.objs.size + 1)) { s with heap := h' }) :
    wpAny (model prog w) A (call (.type "enumerate") [v]) Q E s := by
  refine callType_new F.called_enumerate (by decide) (F.typeCall_enumerate_1 _) (F.newCall_enumerate_1 _) (fun z => F.args_object_init_2 z _) F.entry_enumerate_new (enum_new1 B) ⟨h1, ?_⟩
  have sz1 : (s.heap.push o).objs.size = s.heap.objs.size + 1 := Heap.size_push ..
  show _ ∧ _
  rw [sz1]
  have q := Heap.get?_push_size (s.heap.push o) (o := { cls := .type "enumerate", data := .fields #[.none, .bool false, .ref s.heap.objs.size, rawInt 0, .none, .none] }) rfl
  rw [sz1] at q
  exact ⟨⟨_, q, rfl⟩, k _ q (Heap.get?_push_of_some _ (Heap.get?_push_size _ B.free)) fun b u z => Heap.get?_push_of_some _ (Heap.get?_push_of_some _ z)⟩
def IteT (K : PySem.W.Frag) (a : Addr) : It where
  go := fun i H => ∃ xs x, SqT K H a xs ∧ xs[i]? = some x
  yld := fun i H v H' => ∃ T x, v = .ref T ∧ H T = none ∧ H' = upd H T (.tup [.int (i : Nat), x]) ∧ ∀ xs, SqT K H a xs → xs[i]? = some x
  stop := fun i H => ∃ xs, SqT K H a xs ∧ xs.length = i
theorem turn_enumTup {P : Program} {w : World} {K : PySem.W.Frag} {elts : List Expr} {kk : Nat} {tpos : Pos} (a e it : Addr) :
    Turn P w K (.Tuple elts kk tpos) (IteT K a) [e, it] e (fun i h => (∃ old, IsEnum h e it ((i : Nat) : Int) old) ∧ h.IsTupleIter it a i ∧ e ≠ it ∧ a ≠ it) where
  mem := List.mem_cons_self
  obj := fun i h st b hb => by
    obtain ⟨⟨old, he⟩, ⟨o, ho, hc, hd⟩, _⟩ := st
    rcases List.mem_cons.mp hb with z | z
    · subst z; exact ⟨_, he, fun v q => nomatch q⟩
    · have z := List.mem_singleton.mp z
      subst z; exact ⟨o, ho, fun v q => by rw [hd] at q; cases q⟩
  keep := fun i h h' st k => let ⟨⟨old, he⟩, hi, hne⟩ := st; ⟨⟨old, k e (by simp) _ he⟩, hi.at fun o q => k it (by simp) o q, hne⟩
  item := by
    intro X pP pw pK hc i pins s σ H E I hf ⟨⟨old, he⟩, hit, hne, hai⟩ ⟨xs, x, hq, hx⟩
    subst pP pw pK
    obtain ⟨its, rv, tp, _⟩ := I.tuple hq
    obtain ⟨u, hu, ru⟩ := rv.get hx
    have lt1 : e < s.heap.objs.size := Heap.lt_size he
    have lt2 : it < s.heap.objs.size := by obtain ⟨_, q, _⟩ := hit; exact Heap.lt_size q
    have hil : i < its.toArray.size := by
      have := (List.getElem?_eq_some_iff.mp hu).1
      simpa using this
    have hea : e ≠ a := fun z => by
      obtain ⟨o, ho, hc', n, hd⟩ := tp
      rw [← z, he] at ho; cases ho; cases hd
    refine wpAny_pyNext_enum_itemD (Draws.tuple (A := X.A.in1) (I.ok.hd hc) it a hai its.toArray) he ⟨hit, tp⟩ hil hne (by simp [hne, hea]) fun y h' tk py ho st' hT hsz hk => ?_
    have ey : y = u := by
      have py : its.toArray[i]? = some y := py
      rw [show its.toArray[i]? = some u by simpa using hu] at py
      exact (Option.some.inj py).symm
    subst ey
    refine ⟨_, rfl, wpAny_letOwnedTupleGo_enum (s := { s with heap := h', toks := tk + 1 }) ho fun h2 he' sb => ?_⟩
    have hT2 : h2.get? s.heap.objs.size = some { cls := .type "tuple", data := .seq #[.int i tk, y] } := (sb.2 _ (Nat.ne_of_gt lt1)).trans hT
    have I1 : Inv X pins σ (upd H s.heap.objs.size (.tup [.int (i : Nat), x])) { s with heap := h2, toks := tk + 1 } :=
      I.turnedNew (ch := [e, it]) (fun b ob hb q => (sb.2 b (fun z => hb (by simp [z]))).trans (hk b ob (fun z => hb (by simp [z])) (fun z => hb (by simp [z])) q)) hf (Nat.le_refl _)
        ⟨by show 2 ≤ sizeLine; decide, [.int i tk, y], .cons ⟨_, rfl⟩ (.cons ru .nil), ⟨_, hT2, rfl, _, rfl⟩⟩
    refine ⟨.ref s.heap.objs.size, _, I1, rfl, ⟨_, x, rfl, I.hok.fresh (Nat.le_refl _), rfl, fun ys hy => by rw [I.tuple_inj hy hq]; exact hx⟩, ⟨⟨y, ?_⟩, st'.1.at fun o q => (sb.2 it (Ne.symm hne)).trans q, hne, hai⟩, fun b hb => ?_⟩
    · rw [show ((i + 1 : Nat) : Int) = (i : Int) + 1 by omega]; exact he'
    · have : b < s.heap.objs.size := by
        rcases List.mem_cons.mp hb with z | z
        · rw [z]; exact lt1
        · rw [List.mem_singleton.mp z]; exact lt2
      rw [upd_ne (Nat.ne_of_lt this)]
      exact (hf b hb).1
  done := by
    intro X pP pw pK hc i pins s σ H E I hf ⟨⟨old, he⟩, hit, hne, hai⟩ ⟨xs, hq, hx⟩
    subst pP pw pK
    obtain ⟨its, rv, tp, _⟩ := I.tuple hq
    obtain ⟨f0, f1, f2, f3, f4, f5⟩ := hf it (by simp)
    have hl := rv.length
    have z : its.toArray.size = i := by rw [List.size_toArray]; omega
    exact wpAny_pyNext_enum_endD (Draws.tuple (A := X.A.in1) (I.ok.hd hc) it a hai its.toArray) he (z ▸ ⟨hit, tp⟩) fun h' eb => ⟨rfl, I.turned (t' := s.toks) (fun b o hb q => eb b o hb q) f0 f1 f3 f4 f5⟩
  self := fun A i s Q E st h => let ⟨⟨_, he⟩, _⟩ := st; wpAny_pyIter_enum he h
end Y

namespace Y
open PySem PySem.Spec PyProof.Rows L2
/-! zip of a list and a tuple, in any order -/
inductive Kd where
  | l | t
def SqK (K : PySem.W.Frag) (H : Hp) : Kd → Addr → List V → Prop
  | .l => SqL K H
  | .t => SqT K H
def ItK (h : Heap) : Kd → Addr → Addr → Nat → Prop
  | .l => h.IsListIter
  | .t => h.IsTupleIter
def StK (k : Kd) (it a : Addr) (its : Array Value) (i : Nat) (h : Heap) : Prop := match k with
  | .l => h.IsListIter it a i ∧ h.IsList a its
  | .t => h.IsTupleIter it a i ∧ h.IsTuple a its
theorem drawsK {P : Program} {w : World} {A : Around} (k : Kd) (hh : A.handled = none) (it a : Addr) (n : a ≠ it) (its : Array Value) : Draws P w A it [it, a] its.size (fun i v => its[i]? = some v) (StK k it a its) := by
  cases k with
  | l => exact Draws.list hh it a n its
  | t => exact Draws.tuple hh it a n its
section
variable {X : Cx} {pins : List (Addr × Obj)} {σ : L2.St} {H : Hp} {s : Shared}
theorem seqK (I : Inv X pins σ H s) {k : Kd} {a it : Addr} {xs : List V} (h : SqK X.K H k a xs) : ∃ its : List Value, Vals xs its ∧ (∀ i, ItK s.heap k it a i → StK k it a its.toArray i s.heap) := by
  cases k with
  | l => obtain ⟨its, rv, pl, _⟩ := I.list h; exact ⟨its, rv, fun i z => ⟨z, pl.isList⟩⟩
  | t => obtain ⟨its, rv, pl, _⟩ := I.tuple h; exact ⟨its, rv, fun i z => ⟨z, pl⟩⟩
theorem injK (I : Inv X pins σ H s) {k : Kd} {a : Addr} {xs ys : List V} (h : SqK X.K H k a xs) (g : SqK X.K H k a ys) : xs = ys := by
  cases k with
  | l => exact I.list_inj h g
  | t => exact I.tuple_inj h g
end
theorem ItK.live {h : Heap} {k : Kd} {it a : Addr} {i : Nat} (z : ItK h k it a i) : ∃ o, h.get? it = some o ∧ ∀ v, o.data ≠ .cell v := by
  cases k with
  | l => obtain ⟨o, e, _, d⟩ := z; exact ⟨o, e, fun v q => by rw [d] at q; cases q⟩
  | t => obtain ⟨o, e, _, d⟩ := z; exact ⟨o, e, fun v q => by rw [d] at q; cases q⟩
theorem ItK.at_ {h h' : Heap} {k : Kd} {it a : Addr} {i : Nat} (z : ItK h k it a i) (q : ∀ o, h.get? it = some o → h'.get? it = some o) : ItK h' k it a i := by
  cases k with
  | l => exact Heap.IsListIter.at z q
  | t => exact Heap.IsTupleIter.at z q
theorem StK.it {h : Heap} {k : Kd} {it a : Addr} {its : Array Value} {i : Nat} (z : StK k it a its i h) : ItK h k it a i := by
  cases k with
  | l => exact z.1
  | t => exact z.1
/-- the cells of a zip, and the two sources, lie apart -/
structure Apart (z TI TO i1 i2 a b : Addr) : Prop where
  TIz : TI ≠ z
  TOz : TO ≠ z
  TITO : TI ≠ TO
  i1z : i1 ≠ z
  i2z : i2 ≠ z
  i1TI : i1 ≠ TI
  i2TI : i2 ≠ TI
  i1TO : i1 ≠ TO
  i2TO : i2 ≠ TO
  i12 : i1 ≠ i2
  az : a ≠ z
  bz : b ≠ z
  aTO : a ≠ TO
  bTO : b ≠ TO
  ai1 : a ≠ i1
  ai2 : a ≠ i2
  bi1 : b ≠ i1
  bi2 : b ≠ i2
theorem Apart.sep {z TI TO i1 i2 a b : Addr} (D : Apart z TI TO i1 i2 a b) : ZipSep2 z TI TO i1 i2 [i1, a] [i2, b] :=
  ⟨D.TIz, D.TOz, D.TITO, D.i1TI.symm, by simp, by simp [D.i1z.symm, D.az.symm], by simp [D.i1TO.symm, D.aTO.symm], D.i2TI.symm, by simp, by simp [D.i2z.symm, D.bz.symm], by simp [D.i2TO.symm, D.bTO.symm], by simp [D.i12, D.bi1.symm], by simp [D.i12.symm, D.ai2.symm]⟩
def ItzM (K : PySem.W.Frag) (k1 k2 : Kd) (a b : Addr) : It where
  go := fun i H => ∃ xs ys x y, SqK K H k1 a xs ∧ SqK K H k2 b ys ∧ xs[i]? = some x ∧ ys[i]? = some y
  yld := fun i H v H' => ∃ T x y, v = .ref T ∧ H T = none ∧ H' = upd H T (.tup [x, y]) ∧ (∀ xs, SqK K H k1 a xs → xs[i]? = some x) ∧ ∀ ys, SqK K H k2 b ys → ys[i]? = some y
  stop := fun i H => ∃ xs ys, SqK K H k1 a xs ∧ SqK K H k2 b ys ∧ i = min xs.length ys.length
theorem turn_zipM {P : Program} {w : World} {K : PySem.W.Frag} {elts : List Expr} {kk : Nat} {tpos : Pos} {k1 k2 : Kd} {a b z TI TO i1 i2 : Addr} (D : Apart z TI TO i1 i2 a b) :
    Turn P w K (.Tuple elts kk tpos) (ItzM K k1 k2 a b) [z, TI, TO, i1, i2] z (fun i h => IsZip h z TI TO .none ∧ IsTupOf2 h TI (.ref i1) (.ref i2) ∧ (∃ x y, IsTupOf2 h TO x y) ∧ ItK h k1 i1 a i ∧ ItK h k2 i2 b i) where
  mem := List.mem_cons_self
  obj := fun i h st c hc => by
    obtain ⟨hz, hTI, ⟨x, y, hTO⟩, h1, h2⟩ := st
    have e' : c = z ∨ c = TI ∨ c = TO ∨ c = i1 ∨ c = i2 := by simpa using hc
    rcases e' with q | q | q | q | q
    · subst q; exact ⟨_, hz, fun v q => nomatch q⟩
    · subst q; exact ⟨_, hTI, fun v q => nomatch q⟩
    · subst q; exact ⟨_, hTO, fun v q => nomatch q⟩
    · subst q; exact h1.live
    · subst q; exact h2.live
  keep := fun i h h' st kp => by
    obtain ⟨hz, hTI, ⟨x, y, hTO⟩, h1, h2⟩ := st
    exact ⟨kp z (by simp) _ hz, kp TI (by simp) _ hTI, ⟨x, y, kp TO (by simp) _ hTO⟩, h1.at_ fun o q => kp i1 (by simp) o q, h2.at_ fun o q => kp i2 (by simp) o q⟩
  item := by
    intro X pP pw pK hc i pins s σ H E I hf st hg
    subst pP pw pK
    obtain ⟨hz, hTI, ⟨x0, y0, hTO⟩, h1, h2⟩ := st
    obtain ⟨xs, ys, x, y, hqx, hqy, hx, hy⟩ := hg
    obtain ⟨its, rv, s1⟩ := seqK (it := i1) I hqx
    obtain ⟨its2, rv2, s2⟩ := seqK (it := i2) I hqy
    obtain ⟨u, hu, ru⟩ := rv.get hx
    obtain ⟨u2, hu2, ru2⟩ := rv2.get hy
    have l1 : i < its.toArray.size := by have := (List.getElem?_eq_some_iff.mp hu).1; simpa using this
    have l2 : i < its2.toArray.size := by have := (List.getElem?_eq_some_iff.mp hu2).1; simpa using this
    have zlt : z < s.heap.objs.size := Heap.lt_size hz
    refine wpAny_pyNext_zipD2_item D.sep (drawsK (A := X.A.in1) k1 (I.ok.hd hc) i1 a D.ai1 its.toArray) (drawsK (A := X.A.in1) k2 (I.ok.hd hc) i2 b D.bi2 its2.toArray) hz hTI hTO (s1 i h1) (s2 i h2) l1 l2 fun v1 v2 h' tk p1 p2 z' TO' st1 st2 hT hsz hk => ?_
    have e1 : v1 = u := by
      have p1 : its.toArray[i]? = some v1 := p1
      rw [show its.toArray[i]? = some u by simpa using hu] at p1
      exact (Option.some.inj p1).symm
    have e2 : v2 = u2 := by
      have p2 : its2.toArray[i]? = some v2 := p2
      rw [show its2.toArray[i]? = some u2 by simpa using hu2] at p2
      exact (Option.some.inj p2).symm
    subst e1 e2
    refine ⟨_, rfl, wpAny_letOwnedTupleGo_zip (s := { s with heap := h', toks := tk }) z' fun h2' z2 sb => ?_⟩
    have hT2 : h2'.get? s.heap.objs.size = some { cls := .type "tuple", data := .seq #[v1, v2] } := (sb.2 _ (Nat.ne_of_gt zlt)).trans hT
    have I1 : Inv X pins σ (upd H s.heap.objs.size (.tup [x, y])) { s with heap := h2', toks := tk } :=
      I.turnedNew (t' := tk) (ch := [z, TI, TO, i1, i2]) (fun c o hb q => (sb.2 c (fun q' => hb (by simp [q']))).trans (hk c o (fun q' => hb (by simp [q'])) (fun q' => hb (by simp [q'])) (fun q' => hb (by simp [q'])) (fun q' => hb (by simp [q'])) q)) hf (Nat.le_refl _)
        ⟨by show 2 ≤ sizeLine; decide, [v1, v2], .cons ru (.cons ru2 .nil), ⟨_, hT2, rfl, _, rfl⟩⟩
    refine ⟨.ref s.heap.objs.size, _, I1, rfl, ⟨_, x, y, rfl, I.hok.fresh (Nat.le_refl _), rfl, fun l hl => by rw [injK I hl hqx]; exact hx, fun l hl => by rw [injK I hl hqy]; exact hy⟩, ⟨z2, ?_, ⟨v1, v2, ?_⟩, ?_, ?_⟩, fun c hcm => ?_⟩
    · exact (sb.2 _ D.TIz).trans (hk _ _ D.TIz D.TITO D.i1TI.symm D.i2TI.symm hTI)
    · exact (sb.2 _ D.TOz).trans TO'
    · exact st1.it.at_ fun o q => (sb.2 _ D.i1z).trans q
    · exact st2.it.at_ fun o q => (sb.2 _ D.i2z).trans q
    · have hlt : c < s.heap.objs.size := by
        have e' : c = z ∨ c = TI ∨ c = TO ∨ c = i1 ∨ c = i2 := by simpa using hcm
        rcases e' with q | q | q | q | q
        · rw [q]; exact zlt
        · rw [q]; exact Heap.lt_size hTI
        · rw [q]; exact Heap.lt_size hTO
        · rw [q]; obtain ⟨_, y1, _⟩ := h1.live; exact Heap.lt_size y1
        · rw [q]; obtain ⟨_, y1, _⟩ := h2.live; exact Heap.lt_size y1
      rw [upd_ne (Nat.ne_of_lt hlt)]
      exact (hf c hcm).1
  done := by
    intro X pP pw pK hc i pins s σ H E I hf st hg
    subst pP pw pK
    obtain ⟨hz, hTI, ⟨x0, y0, hTO⟩, h1, h2⟩ := st
    obtain ⟨xs, ys, hqx, hqy, hend⟩ := hg
    obtain ⟨its, rv, s1⟩ := seqK (it := i1) I hqx
    obtain ⟨its2, rv2, s2⟩ := seqK (it := i2) I hqy
    have n1 : its.toArray.size = xs.length := by rw [List.size_toArray]; exact rv.length.symm
    have n2 : its2.toArray.size = ys.length := by rw [List.size_toArray]; exact rv2.length.symm
    exact wpAny_pyNext_zipD2_end D.sep (drawsK (A := X.A.in1) k1 (I.ok.hd hc) i1 a D.ai1 its.toArray) (drawsK (A := X.A.in1) k2 (I.ok.hd hc) i2 b D.bi2 its2.toArray) hz hTI hTO (s1 i h1) (s2 i h2) (by omega) (by omega) (by omega) fun h' tk hk =>
      ⟨rfl, I.turnedL (t' := tk) (ch := [z, TI, TO, i1, i2]) (fun c o hb q => hk c o (fun q' => hb (by simp [q'])) (fun q' => hb (by simp [q'])) (fun q' => hb (by simp [q'])) (fun q' => hb (by simp [q'])) q) hf⟩
  self := fun A i s Q E st h => wpAny_pyIter_zip st.1 h

def bgO (k : Kd) (a : Addr) : Obj := match k with
  | .l => { cls := .type "list_iterator", data := .fields #[.ref a, .int 0 0] }
  | .t => { cls := .type "tuple_iterator", data := .fields #[.ref a, .int 0 0] }
def bgH (k : Kd) (a : Addr) (its : Array Value) (h : Heap) : Prop := match k with
  | .l => h.IsList a its
  | .t => h.IsTuple a its
theorem beginsK (k : Kd) (a : Addr) (its : Array Value) : Begins (.ref a) (bgO k a) (bgH k a its) := by
  cases k with
  | l => exact begins_list a its
  | t => exact begins_tuple a its
theorem ItK.new {h : Heap} {k : Kd} {it a : Addr} (e : h.get? it = some (bgO k a)) : ItK h k it a 0 := by
  cases k with
  | l => exact ⟨_, e, rfl, rfl⟩
  | t => exact ⟨_, e, rfl, rfl⟩
theorem bgH_of {X : Cx} {pins : List (Addr × Obj)} {σ : L2.St} {H : Hp} {s : Shared} (I : Inv X pins σ H s) {k : Kd} {a : Addr} {xs : List V} (h : SqK X.K H k a xs) : ∃ its, bgH k a its s.heap ∧ a < s.heap.objs.size := by
  cases k with
  | l => obtain ⟨its, rv, pl, _⟩ := I.list h; exact ⟨_, pl.isList, pl.lt⟩
  | t => obtain ⟨its, rv, pl, _⟩ := I.tuple h; exact ⟨_, pl, by obtain ⟨o, ho, _⟩ := id pl; exact Heap.lt_size ho⟩
def iZipM (K : PySem.W.Frag) (ta : TA) : TI := fun σ H R => ta σ H fun vs H1 => ∃ a b k1 k2 xs ys, vs = [.ref a, .ref b] ∧ SqK K H1 k1 a xs ∧ SqK K H1 k2 b ys ∧ R (ItzM K k1 k2 a b) H1
theorem apart_nat (n a b : Nat) (la : a < n) (lb : b < n) : n + 2 ≠ n + 4 ∧ n + 3 ≠ n + 4 ∧ n + 2 ≠ n + 3 ∧ n ≠ n + 4 ∧ n + 1 ≠ n + 4 ∧ n ≠ n + 2 ∧ n + 1 ≠ n + 2 ∧ n ≠ n + 3 ∧ n + 1 ≠ n + 3 ∧ n ≠ n + 1 ∧ a ≠ n + 4 ∧ b ≠ n + 4 ∧ a ≠ n + 3 ∧ b ≠ n + 3 ∧ a ≠ n ∧ a ≠ n + 1 ∧ b ≠ n ∧ b ≠ n + 1 := by omega
theorem apart_new {n : Nat} {a b : Addr} (la : a < n) (lb : b < n) : Apart (n + 4) (n + 2) (n + 3) n (n + 1) a b := by
  obtain ⟨h1, h2, h3, h4, h5, h6, h7, h8, h9, h10, h11, h12, h13, h14, h15, h16, h17, h18⟩ := apart_nat n a b la lb
  exact ⟨h1, h2, h3, h4, h5, h6, h7, h8, h9, h10, h11, h12, h13, h14, h15, h16, h17, h18⟩
theorem pi_zipM {X : Cx} {e e2 : Expr} {ta : TA} {p pos tpos : Pos} {elts : List Expr} {kk : Nat} (hg : Gl X "zip") (hm : X.mg "zip" = none) (ha : PA X [e, e2] ta)
    (hs : starEach [e, e2] X.env = (false, eval e X.env) :: starEach [e2] X.env := by rfl) (hpl : (backTo pos (starEach [e2] X.env)).any (·.1) = false := by rfl) :
    PI X (.Tuple elts kk tpos) (.Call (.Name "zip" p) [e, e2] [] pos) (iZipM X.K ta) := by
  refine ⟨fun pins s σ H R I h => ?_⟩
  refine Call_ (ld_blt I hg hm PyProof.Rows.boot_zip (PyProof.Rows.callWith_type1 (thn (ha.run pos pins s σ H _ I h) fun us s1 ⟨vs, H1, I1, r1, a, b, k1, k2, xs, ys, ex, hqx, hqy, q⟩ => ?_) hs hpl))
  subst ex
  cases r1 with
  | cons r rr =>
    cases rr with
    | cons r' rr =>
      cases rr
      cases r
      cases r'
      have fresh5 : ∀ c, c ∈ [s1.heap.objs.size + 4, s1.heap.objs.size + 2, s1.heap.objs.size + 3, s1.heap.objs.size, s1.heap.objs.size + 1] → FpOk X pins H1 c := fun c hcm => by
        have hle : s1.heap.objs.size ≤ c := by
          have e' : c = s1.heap.objs.size + 4 ∨ c = s1.heap.objs.size + 2 ∨ c = s1.heap.objs.size + 3 ∨ c = s1.heap.objs.size ∨ c = s1.heap.objs.size + 1 := by simpa using hcm
          rcases e' with z | z | z | z | z
          · rw [z]; exact Nat.le_add_right _ _
          · rw [z]; exact Nat.le_add_right _ _
          · rw [z]; exact Nat.le_add_right _ _
          · rw [z]; exact Nat.le_refl _
          · rw [z]; exact Nat.le_add_right _ _
        exact I1.fpOk hle (I1.hok.fresh hle)
      obtain ⟨its, g1, la⟩ := bgH_of I1 hqx
      obtain ⟨its2, g2, lb⟩ := bgH_of I1 hqy
      refine zip_begins2 (beginsK k1 a its) (beginsK k2 b its2) g1 g2 fun h' hz hTI hTO h1 h2 hsz hk => wpAny_pyIter_zip hz ?_
      have I2 : Inv X pins σ H1 { s1 with heap := h' } := I1.kept (t' := s1.toks) hk
      exact ⟨s1.heap.objs.size + 4, [s1.heap.objs.size + 4, s1.heap.objs.size + 2, s1.heap.objs.size + 3, s1.heap.objs.size, s1.heap.objs.size + 1], _, _, H1, rfl, I2, turn_zipM (apart_new la lb), ⟨hz, hTI, ⟨_, _, hTO⟩, .new h1, .new h2⟩, fresh5, q⟩
end Y

namespace Y
open PySem PySem.Spec PyProof.Rows L2
/-! weaker readings -/
theorem PEimp {X : Cx} {e : Expr} {t t' : TE} (h : PE X e t) (k : ∀ σ H Q, t' σ H Q → t σ H Q) : PE X e t' := ⟨fun pins s σ H Q I q => h.run pins s σ H Q I (k σ H Q q)⟩
theorem PTimp {X : Cx} {e : Expr} {t t' : TT} (h : PT X e t) (k : ∀ σ H Q, t' σ H Q → t σ H Q) : PT X e t' := ⟨fun pins s σ H Q I q => h.run pins s σ H Q I (k σ H Q q)⟩
theorem PWimp {X : Cx} {e : Expr} {t t' : TT} (h : PW X e t) (k : ∀ σ H Q, t' σ H Q → t σ H Q) : PW X e t' := ⟨fun wh pins s σ H Q I q => h.run wh pins s σ H Q I (k σ H Q q)⟩
theorem PAimp {X : Cx} {e : List Expr} {t t' : TA} (h : PA X e t) (k : ∀ σ H Q, t' σ H Q → t σ H Q) : PA X e t' := ⟨fun pos pins s σ H Q I q => h.run pos pins s σ H Q I (k σ H Q q)⟩
theorem PSimp {X : Cx} {e : Stmt} {t t' : TS} (h : PS X e t) (k : ∀ D σ H, t' D σ H → t D σ H) : PS X e t' := ⟨fun pins s σ H D I q => h.run pins s σ H D I (k D σ H q)⟩
theorem PIimp {X : Cx} {tg e : Expr} {t t' : TI} (h : PI X tg e t) (k : ∀ σ H R, t' σ H R → t σ H R) : PI X tg e t' := ⟨fun pins s σ H R I q => h.run pins s σ H R I (k σ H R q)⟩
theorem PGimp {X : Cx} {e : Expr} {t t' : TG} (h : PG X e t) (k : ∀ v σ H Q, t' v σ H Q → t v σ H Q) : PG X e t' := ⟨fun pins s σ H v u Q I r q => h.run pins s σ H v u Q I r (k v σ H Q q)⟩
theorem PTsimp {X : Cx} {e : List Expr} {t t' : TT} (h : PTs X e t) (k : ∀ σ H Q, t' σ H Q → t σ H Q) : PTs X e t' := ⟨fun pins s σ H Q I q => h.run pins s σ H Q I (k σ H Q q)⟩
section
variable {G : Gx} {Wx : WX} {σ : L2.St} {H H1 : Hp} {ρ ρ1 : Ro}
theorem GL.imp {r : R (List W)} {Q Q' : List V → Hp → Prop} (k : ∀ v H, Q v H → Q' v H) (g : GL G Wx σ H ρ r Q) : GL G Wx σ H ρ r Q' := by
  cases r with
  | ok w h' => exact fun v H' ρ' e' hr rp => k _ _ (g v H' ρ' e' hr rp)
  | exc c fs h' => exact g
  | bad => exact g
end
/-! what is walked -/
def JOk (G : Gx) (J : It) (H1 : Hp) (ρ1 : Ro) (ck : WH → Bool) (items : List W) : Prop :=
  ∀ (i : Nat) H' ρ' h', Ext H1 ρ1 H' ρ' → HRep G H' ρ' h' → ck h' = true →
    (∀ w, items[i]? = some w → J.go i H' ∧ ∀ x H2, J.yld i H' x H2 → ∃ ρ2, Ext H' ρ' H2 ρ2 ∧ HRep G H2 ρ2 h' ∧ Rep G H2 ρ2 w x) ∧ (i = items.length → J.stop i H')
theorem view_same {h h' : WH} {w : W} (n : isRef w = false) : view h w = view h' w := by
  cases w <;> first | rfl | cases n
theorem stands_items {ik : IK} {ws items : List W} {h h' : WH} (e : itemsOf h ik ws = some items) (s : stands ik ws items h' = true) : itemsOf h' ik ws = some items := by
  unfold stands at s
  split at s
  · exact of_decide_eq_true s
  · rename_i n
    rw [← e]
    have nn : ∀ w ∈ ws, view h' w = view h w := fun w m => view_same (by
      cases q : isRef w with
      | false => rfl
      | true => exact absurd (List.any_eq_true.mpr ⟨w, m, q⟩) n)
    unfold itemsOf
    split <;> first | rfl | (rw [nn _ (by simp)]; done) | (rw [nn _ (by simp), nn _ (by simp)]; done) | skip
section
variable {X : Cx} {G : Gx} {H : Hp} {ρ : Ro}
theorem vlst (hG : X.K = G.K) {w : W} {v : V} {ws : List W} {h : WH} (hr : HRep G H ρ h) (r : Rep G H ρ w v) (e : view h w = .lst ws) : ∃ a vs, v = .ref a ∧ SqL X.K H a vs ∧ vs.length ≤ sizeLine ∧ RepL G H ρ ws vs :=
  (vseq (X := X) hG).1 (e ▸ view_rep hr r)
theorem vtup (hG : X.K = G.K) {w : W} {v : V} {ws : List W} {h : WH} (hr : HRep G H ρ h) (r : Rep G H ρ w v) (e : view h w = .tup ws) : ∃ a vs, v = .ref a ∧ SqT X.K H a vs ∧ vs.length ≤ sizeLine ∧ RepL G H ρ ws vs :=
  (vseq (X := X) hG).2 (e ▸ view_rep hr r)
theorem rngL_get {lo : Int} {n i : Nat} : (rngL lo n)[i]? = if i < n then some (.int (lo + (i : Nat))) else none := by
  unfold rngL
  rw [List.getElem?_map]
  by_cases h : i < n
  · rw [if_pos h, List.getElem?_range h]; rfl
  · rw [if_neg h, List.getElem?_eq_none (by simpa using h)]; rfl
theorem rngL_len {lo : Int} {n : Nat} : (rngL lo n).length = n := by simp [rngL]
theorem jok_rng {lo : Int} {n : Nat} {ck : WH → Bool} : JOk G (Itr lo n) H ρ ck (rngL lo n) := by
  intro i H' ρ' h' e hr c
  refine ⟨fun w ew => ?_, fun ei => by rw [ei, rngL_len]; exact Nat.le_refl n⟩
  rw [rngL_get] at ew
  split at ew
  · rename_i hi
    cases ew
    refine ⟨hi, fun x H2 y => ?_⟩
    obtain ⟨rfl, rfl⟩ := y
    exact ⟨ρ', Ext.refl _ _, hr, by rw [Rep]⟩
  · cases ew
theorem enumL_get : ∀ {ws : List W} {n i : Nat}, (enumL n ws)[i]? = ws[i]?.map fun w => .tup [.int ((n + i : Nat) : Int), w]
  | [], n, i => by simp [enumL]
  | w :: r, n, 0 => by simp [enumL]
  | w :: r, n, i + 1 => by
    show (enumL (n + 1) r)[i]? = _
    rw [enumL_get, show n + 1 + i = n + (i + 1) by omega]; rfl
theorem enumL_len : ∀ {ws : List W} {n : Nat}, (enumL n ws).length = ws.length
  | [], n => rfl
  | w :: r, n => by simp [enumL, enumL_len]
theorem zipL_get : ∀ {xs ys : List W} {i : Nat}, (zipL xs ys)[i]? = match xs[i]?, ys[i]? with | some a, some b => some (.tup [a, b]) | _, _ => none
  | [], ys, i => by simp [zipL]
  | x :: xs, [], i => by
    simp only [zipL, List.getElem?_nil]
    split <;> simp_all
  | x :: xs, y :: ys, 0 => by simp [zipL]
  | x :: xs, y :: ys, i + 1 => by
    show (zipL xs ys)[i]? = _
    rw [zipL_get]; rfl
theorem zipL_len : ∀ {xs ys : List W}, (zipL xs ys).length = min xs.length ys.length
  | [], ys => by simp [zipL]
  | x :: xs, [] => by simp [zipL]
  | x :: xs, y :: ys => by simp only [zipL, List.length_cons, zipL_len]; omega
/-- a pair just made -/
theorem pair_rep {h : WH} {p : Addr} {a b : W} {x y : V} (hr : HRep G H ρ h) (n : H p = none) (ra : Rep G H ρ a x) (rb : Rep G H ρ b y) : Ext H ρ (upd H p (.tup [x, y])) ρ ∧ HRep G (upd H p (.tup [x, y])) ρ h ∧ Rep G (upd H p (.tup [x, y])) ρ (.tup [a, b]) (.ref p) :=
  ⟨Ext.laid n, hr.laid n, Rep.tup_new hr n (by show 2 ≤ sizeLine; decide) (RepL.cons ra (RepL.cons rb RepL.nil))⟩
theorem inj_ref {a b : Addr} (h : V.ref a = V.ref b) : a = b := by cases h; rfl
theorem jok_seqL (hG : X.K = G.K) {w : W} {a : Addr} {ws : List W} {ck : WH → Bool} (r : Rep G H ρ w (.ref a)) (hc : ∀ h', ck h' = true → view h' w = .lst ws) : JOk G (Itl X.K a) H ρ ck ws := by
  intro i H' ρ' h' e hr c
  obtain ⟨a', vs, ea, sq, _, rv⟩ := vlst (X := X) hG hr (Rep.mono e _ _ r) (hc h' c)
  cases inj_ref ea
  refine ⟨fun w ew => ?_, fun ei => ⟨vs, sq, by rw [rv.length]; omega⟩⟩
  obtain ⟨v, ev, rp⟩ := rv.get ew
  refine ⟨⟨vs, v, sq, ev⟩, fun x H2 y => ?_⟩
  obtain ⟨rfl, y⟩ := y
  have := y vs sq
  rw [ev] at this; cases this
  exact ⟨ρ', Ext.refl _ _, hr, rp⟩
theorem jok_seqT (hG : X.K = G.K) {w : W} {a : Addr} {ws : List W} {ck : WH → Bool} (r : Rep G H ρ w (.ref a)) (hc : ∀ h', ck h' = true → view h' w = .tup ws) : JOk G (Itt X.K a) H ρ ck ws := by
  intro i H' ρ' h' e hr c
  obtain ⟨a', vs, ea, sq, _, rv⟩ := vtup (X := X) hG hr (Rep.mono e _ _ r) (hc h' c)
  cases inj_ref ea
  refine ⟨fun w ew => ?_, fun ei => ⟨vs, sq, by rw [rv.length]; omega⟩⟩
  obtain ⟨v, ev, rp⟩ := rv.get ew
  refine ⟨⟨vs, v, sq, ev⟩, fun x H2 y => ?_⟩
  obtain ⟨rfl, y⟩ := y
  have := y vs sq
  rw [ev] at this; cases this
  exact ⟨ρ', Ext.refl _ _, hr, rp⟩
theorem jok_enumL (hG : X.K = G.K) {w : W} {a : Addr} {ws : List W} {ck : WH → Bool} (r : Rep G H ρ w (.ref a)) (hc : ∀ h', ck h' = true → view h' w = .lst ws) : JOk G (Ite X.K a) H ρ ck (enumL 0 ws) := by
  intro i H' ρ' h' e hr c
  obtain ⟨a', vs, ea, sq, _, rv⟩ := vlst (X := X) hG hr (Rep.mono e _ _ r) (hc h' c)
  cases inj_ref ea
  refine ⟨fun w ew => ?_, fun ei => ⟨vs, sq, by rw [rv.length]; rw [enumL_len] at ei; omega⟩⟩
  rw [enumL_get, Option.map_eq_some_iff] at ew
  obtain ⟨u, eu, rfl⟩ := ew
  obtain ⟨v, ev, rp⟩ := rv.get eu
  refine ⟨⟨vs, v, sq, ev⟩, fun x H2 y => ?_⟩
  obtain ⟨T, y1, rfl, hT, rfl, y⟩ := y
  have := y vs sq
  rw [ev] at this; cases this
  exact ⟨ρ', pair_rep hr hT (by rw [Rep, Nat.zero_add]) rp⟩
theorem jok_enumT (hG : X.K = G.K) {w : W} {a : Addr} {ws : List W} {ck : WH → Bool} (r : Rep G H ρ w (.ref a)) (hc : ∀ h', ck h' = true → view h' w = .tup ws) : JOk G (IteT X.K a) H ρ ck (enumL 0 ws) := by
  intro i H' ρ' h' e hr c
  obtain ⟨a', vs, ea, sq, _, rv⟩ := vtup (X := X) hG hr (Rep.mono e _ _ r) (hc h' c)
  cases inj_ref ea
  refine ⟨fun w ew => ?_, fun ei => ⟨vs, sq, by rw [rv.length]; rw [enumL_len] at ei; omega⟩⟩
  rw [enumL_get, Option.map_eq_some_iff] at ew
  obtain ⟨u, eu, rfl⟩ := ew
  obtain ⟨v, ev, rp⟩ := rv.get eu
  refine ⟨⟨vs, v, sq, ev⟩, fun x H2 y => ?_⟩
  obtain ⟨T, y1, rfl, hT, rfl, y⟩ := y
  have := y vs sq
  rw [ev] at this; cases this
  exact ⟨ρ', pair_rep hr hT (by rw [Rep, Nat.zero_add]) rp⟩
def kdW : W → Kd
  | .tup _ => .t
  | _ => .l
theorem vseqK (hG : X.K = G.K) {w : W} {v : V} {ws : List W} {h : WH} (hr : HRep G H ρ h) (r : Rep G H ρ w v) (e : seqN (view h w) = some ws) : ∃ a vs, v = .ref a ∧ SqK X.K H (kdW w) a vs ∧ RepL G H ρ ws vs := by
  have kl : ∀ us, view h w = .lst us → kdW w = .l := fun us z => by
    cases w with
    | tup _ => cases z
    | _ => rfl
  have kt : ∀ us, view h w = .tup us → kdW w = .t := fun us z => by
    cases w with
    | tup _ => rfl
    | ref k => simp only [view] at z; split at z <;> cases z
    | _ => cases z
  revert e
  cases z : view h w <;> intro e <;> simp only [seqN, Option.some.injEq, reduceCtorEq] at e
  · subst e
    obtain ⟨a, vs, ev, sq, _, rv⟩ := vtup (X := X) hG hr r z
    exact ⟨a, vs, ev, by rw [kt _ z]; exact sq, rv⟩
  · subst e
    obtain ⟨a, vs, ev, sq, _, rv⟩ := vlst (X := X) hG hr r z
    exact ⟨a, vs, ev, by rw [kl _ z]; exact sq, rv⟩
theorem jok_zipM (hG : X.K = G.K) {w u : W} {a b : Addr} {items : List W} {ck : WH → Bool} (r : Rep G H ρ w (.ref a)) (r2 : Rep G H ρ u (.ref b)) (hc : ∀ h', ck h' = true → ∃ xs ys, seqN (view h' w) = some xs ∧ seqN (view h' u) = some ys ∧ items = zipL xs ys) : JOk G (ItzM X.K (kdW w) (kdW u) a b) H ρ ck items := by
  intro i H' ρ' h' e hr c
  obtain ⟨xs, ys, e1, e2, rfl⟩ := hc h' c
  obtain ⟨a', vs, ea, sq, rv⟩ := vseqK (X := X) hG hr (Rep.mono e _ _ r) e1
  cases inj_ref ea
  obtain ⟨b', vs2, eb, sq2, rv2⟩ := vseqK (X := X) hG hr (Rep.mono e _ _ r2) e2
  cases inj_ref eb
  refine ⟨fun w ew => ?_, fun ei => ⟨vs, vs2, sq, sq2, by rw [rv.length, rv2.length, ei, zipL_len]⟩⟩
  rw [zipL_get] at ew
  split at ew
  · rename_i x y ex ey
    cases ew
    obtain ⟨v, ev, rp⟩ := rv.get ex
    obtain ⟨v2, ev2, rp2⟩ := rv2.get ey
    refine ⟨⟨vs, vs2, v, v2, sq, sq2, ev, ev2⟩, fun x H2 y => ?_⟩
    obtain ⟨T, y1, y2, rfl, hT, rfl, y, y'⟩ := y
    have q1 := y vs sq
    have q2 := y' vs2 sq2
    rw [ev] at q1; cases q1
    rw [ev2] at q2; cases q2
    exact ⟨ρ', pair_rep hr hT rp rp2⟩
  · cases ew
theorem strC_get {s : List Nat} {i : Nat} : (strC s).cps[i]? = s[i]? := by simp [strC]
theorem jok_str {s : List Nat} {ck : WH → Bool} : JOk G (Its (strC s)) H ρ ck (s.map fun c => .str [c]) := by
  intro i H' ρ' h' e hr c
  have hl : (strC s).cps.size = s.length := by simp [strC]
  refine ⟨fun w ew => ?_, fun ei => by rw [ei, List.length_map]; show (strC s).cps.size ≤ _; rw [hl]; exact Nat.le_refl _⟩
  rw [List.getElem?_map, Option.map_eq_some_iff] at ew
  obtain ⟨c, ec, rfl⟩ := ew
  refine ⟨by show i < (strC s).cps.size; rw [hl]; exact (List.getElem?_eq_some_iff.mp ec).1, fun x H2 y => ?_⟩
  obtain ⟨rfl, c', ec', rfl⟩ := y
  rw [strC_get, ec] at ec'
  cases ec'
  exact ⟨ρ', Ext.refl _ _, hr, by rw [Rep]; rfl⟩
end
/-- the reading of a source -/
def iW (G : Gx) (Wx : WX) (T : Cal) (ik : IK) (es : List E) : TI := fun σ H R => ∃ ρ σw h, SRep G H ρ σw σ ∧ HRep G H ρ h ∧ GL G Wx σ H ρ (evs T es σw h) fun vs H1 => ∃ ρ1 ws h1 items, Ext H ρ H1 ρ1 ∧ HRep G H1 ρ1 h1 ∧ RepL G H1 ρ1 ws vs ∧
  itemsOf h1 ik ws = some items ∧ ∀ J, JOk G J H1 ρ1 (stands ik ws items) items → R J H1
theorem RepL.one {G : Gx} {H : Hp} {ρ : Ro} {w : W} {vs : List V} (r : RepL G H ρ [w] vs) : ∃ v, vs = [v] ∧ Rep G H ρ w v := by
  simp only [RepL] at r
  obtain ⟨v, t, rfl, r1, rfl⟩ := r
  exact ⟨v, rfl, r1⟩
theorem RepL.two {G : Gx} {H : Hp} {ρ : Ro} {w u : W} {vs : List V} (r : RepL G H ρ [w, u] vs) : ∃ v x, vs = [v, x] ∧ Rep G H ρ w v ∧ Rep G H ρ u x := by
  simp only [RepL] at r
  obtain ⟨v, t, rfl, r1, x, t', rfl, r2, rfl⟩ := r
  exact ⟨v, x, rfl, r1, r2⟩
theorem evs_one {G : Gx} {Wx : WX} {T : Cal} {e : E} {σ : L2.St} {H : Hp} {ρ : Ro} {σw : Env} {h : WH} {Q : List V → Hp → Prop} (g : GL G Wx σ H ρ (evs T [e] σw h) Q) : GW G Wx σ H ρ (ev T e σw h) fun v H1 => Q [v] H1 := by
  simp only [evs] at g
  cases q : ev T e σw h with
  | ok w h' => rw [q] at g; exact fun v H' ρ' e' hr rp => g [v] H' ρ' e' hr (RepL.cons rp RepL.nil)
  | exc c fs h' => rw [q] at g; exact g
  | bad => rw [q] at g; exact g
section
variable {X : Cx} {G : Gx} {Wx : WX} {T : Cal} {tg : Expr} {l a b : Expr} {e : E} {es : List E} {p pos : Pos}
theorem it_list {pins : List (Addr × Obj)} {σ : L2.St} {H1 : Hp} {s1 : Shared} {ad : Addr} {xs : List V} {R : It → Hp → Prop} (I1 : Inv X pins σ H1 s1) (hq : SqL X.K H1 ad xs) (q : R (Itl X.K ad) H1) : wpAny (model X.prog X.w) X.A (pyIter (.ref ad)) (PIE X pins σ tg R) X.xe s1 := by
  obtain ⟨_, _, pl, _⟩ := I1.list hq
  exact wpAny_pyIter_list pl.isList (pi_one (tk := s1.toks) I1 _ (turn_list ad _) ⟨_, Heap.get?_push_size _ rfl, rfl, rfl⟩ q)
theorem it_tup {pins : List (Addr × Obj)} {σ : L2.St} {H1 : Hp} {s1 : Shared} {ad : Addr} {xs : List V} {R : It → Hp → Prop} (I1 : Inv X pins σ H1 s1) (hq : SqT X.K H1 ad xs) (q : R (Itt X.K ad) H1) : wpAny (model X.prog X.w) X.A (pyIter (.ref ad)) (PIE X pins σ tg R) X.xe s1 := by
  obtain ⟨its, _, pl, _⟩ := I1.tuple hq
  exact wpAny_pyIter_tuple (show s1.heap.IsTuple ad its.toArray from pl) (pi_one (tk := s1.toks) I1 _ (turn_tuple ad _) ⟨_, Heap.get?_push_size _ rfl, rfl, rfl⟩ q)
theorem it_str {pins : List (Addr × Obj)} {σ : L2.St} {H1 : Hp} {s1 : Shared} {x : Str} {t : Tok} {R : It → Hp → Prop} (I1 : Inv X pins σ H1 s1) (q : R (Its x) H1) : wpAny (model X.prog X.w) X.A (pyIter (.str x t)) (PIE X pins σ tg R) X.xe s1 := by
  by_cases ha : x.cps.all (· < 128) = true
  · exact wpAny_pyIter_ascii ha (pi_one (tk := s1.toks) I1 _ (turn_str _ x t "str_ascii_iterator" (.inl rfl)) ⟨_, Heap.get?_push_size _ rfl, rfl, rfl⟩ q)
  · exact wpAny_pyIter_wide (by simpa using ha) (pi_one (tk := s1.toks) I1 _ (turn_str _ x t "str_iterator" (.inr rfl)) ⟨_, Heap.get?_push_size _ rfl, rfl, rfl⟩ q)
theorem seq_view {h : WH} {w : W} {items : List W} (e : seqW (view h w) = some items) : view h w = .lst items ∨ view h w = .tup items ∨ ∃ s, view h w = .str s ∧ items = s.map fun c => .str [c] := by
  revert e
  cases view h w <;> intro e <;> simp only [seqW, Option.some.injEq, reduceCtorEq] at e
  · exact .inr (.inr ⟨_, rfl, e.symm⟩)
  · exact .inr (.inl (by rw [e]))
  · exact .inl (by rw [e])
theorem view_kind {h h' : WH} {w : W} : (∀ ws, view h w = .lst ws → (∃ us, w = .lst us) ∨ ∃ k, w = .ref k) ∧ (∀ ws, view h w = .tup ws → ∃ us, w = .tup us) ∧ (∀ s, view h w = .str s → w = .str s) := by
  cases w with
  | ref k =>
    refine ⟨fun ws _ => .inr ⟨k, rfl⟩, fun ws e => ?_, fun s e => ?_⟩
    · simp only [view] at e; split at e <;> cases e
    · simp only [view] at e; split at e <;> cases e
  | lst us => exact ⟨fun ws _ => .inl ⟨us, rfl⟩, fun ws e => (by cases e), fun s e => (by cases e)⟩
  | tup us => exact ⟨fun ws e => (by cases e), fun ws e => ⟨us, rfl⟩, fun s e => (by cases e)⟩
  | str us => exact ⟨fun ws e => (by cases e), fun ws e => (by cases e), fun s e => e⟩
  | _ => exact ⟨fun ws e => (by cases e), fun ws e => (by cases e), fun s e => (by cases e)⟩
theorem pi_seqW (hG : X.K = G.K) (hl : PE X l (tW G Wx (ev T e))) : PI X tg l (iW G Wx T .seq [e]) := by
  refine ⟨fun pins s σ H R I ⟨ρ, σw, h, sr, hr, g⟩ => ?_⟩
  refine thn (hl.run pins s σ H _ I ⟨ρ, σw, h, sr, hr, evs_one g⟩) fun v s1 ⟨x, H1, I1, r1, ρ1, ws, h1, items, e1, hr1, rv, ei, k⟩ => ?_
  match ws, ei with
  | [w], ei =>
    obtain ⟨x', ex, rp⟩ := rv.one
    cases ex
    have ei' : seqW (view h1 w) = some items := ei
    have st : ∀ h', stands .seq [w] items h' = true → seqW (view h' w) = some items := fun h' q => stands_items ei q
    rcases seq_view ei' with z | z | ⟨c, z, rfl⟩
    · obtain ⟨ad, vs, rfl, sq, _, _⟩ := vlst (X := X) hG hr1 rp z
      cases r1
      refine it_list I1 sq (k _ (jok_seqL hG rp fun h' q => ?_))
      rcases seq_view (st h' q) with y | y | ⟨c, y, _⟩
      · exact y
      · obtain ⟨us, eu⟩ := (view_kind (h' := h')).2.1 _ y
        rw [eu] at z; cases z
      · rw [(view_kind (h' := h')).2.2 _ y] at z; cases z
    · obtain ⟨ad, vs, rfl, sq, _, _⟩ := vtup (X := X) hG hr1 rp z
      cases r1
      refine it_tup I1 sq (k _ (jok_seqT hG rp fun h' q => ?_))
      obtain ⟨us, eu⟩ := (view_kind (h' := h')).2.1 _ z
      rw [eu] at z ⊢; exact z
    · have ew := (view_kind (h' := h1)).2.2 _ z
      subst ew
      simp only [Rep] at rp
      subst rp
      obtain ⟨t, rfl⟩ := r1
      exact it_str I1 (k _ jok_str)
theorem pi_rng1W (hg : Gl X "range") (hm : X.mg "range" = none) (ha : PA X [a] (tL G Wx (evs T es))) (hs : ∀ b p, a ≠ .Starred b p) : PI X tg (.Call (.Name "range" p) [a] [] pos) (iW G Wx T .rng1 es) := by
  refine PIimp (pi_range1 hg hm ha (star_cons hs)) fun σ H R ⟨ρ, σw, h, sr, hr, g⟩ => ⟨ρ, σw, h, sr, hr, g.imp fun vs H1 ⟨ρ1, ws, h1, items, e1, hr1, rv, ei, k⟩ => ?_⟩
  unfold itemsOf at ei
  split at ei <;> first | (rename_i q; cases q; done) | skip
  · rename_i n _
    split at ei
    · cases ei
      rename_i hn
      simp only [smallI, Bool.and_eq_true, decide_eq_true_eq] at hn
      obtain ⟨x, rfl, rx⟩ := rv.one
      simp only [Rep] at rx
      subst rx
      exact ⟨n, rfl, hn.1, hn.2, k _ jok_rng⟩
    · cases ei
  · cases ei
theorem pi_rng2W (hg : Gl X "range") (hm : X.mg "range" = none) (ha : PA X [a, b] (tL G Wx (evs T es))) (hs : ∀ c p, a ≠ .Starred c p) (hs2 : ∀ c p, b ≠ .Starred c p) : PI X tg (.Call (.Name "range" p) [a, b] [] pos) (iW G Wx T .rng2 es) := by
  refine PIimp (pi_range2 hg hm ha (by rw [star_cons hs, star_cons hs2]; rfl) (star_cons hs2)) fun σ H R ⟨ρ, σw, h, sr, hr, g⟩ => ⟨ρ, σw, h, sr, hr, g.imp fun vs H1 ⟨ρ1, ws, h1, items, e1, hr1, rv, ei, k⟩ => ?_⟩
  unfold itemsOf at ei
  split at ei <;> first | (rename_i q; cases q; done) | skip
  · rename_i n m _
    split at ei
    · cases ei
      rename_i hn
      simp only [smallI, Bool.and_eq_true, decide_eq_true_eq] at hn
      obtain ⟨x, y, rfl, rx, ry⟩ := rv.two
      simp only [Rep] at rx ry
      subst rx; subst ry
      exact ⟨n, m, rfl, ⟨hn.1.1, hn.1.2, hn.2.1, hn.2.2⟩, k _ jok_rng⟩
    · cases ei
  · cases ei
theorem enum_pi {elts : List Expr} {kk : Nat} {tpos : Pos} {pins : List (Addr × Obj)} {σ : L2.St} {H1 : Hp} {s1 : Shared} {v : Value} {o : Obj} {Hh : Heap → Prop} {R : It → Hp → Prop} {J : It} {tn : Nat → Heap → Prop} (I1 : Inv X pins σ H1 s1) (B : Begins v o Hh) (h0 : Hh s1.heap)
    (T : Turn X.prog X.w X.K (.Tuple elts kk tpos) J [s1.heap.objs.size + 1, s1.heap.objs.size] (s1.heap.objs.size + 1) tn)
    (st : ∀ h', IsEnum h' (s1.heap.objs.size + 1) s1.heap.objs.size 0 .none → h'.get? s1.heap.objs.size = some o → tn 0 h') (q : R J H1) :
    wpAny (model X.prog X.w) X.A (call (.type "enumerate") [v]) (fun u s' => wpAny (model X.prog X.w) X.A (pyIter u) (PIE X pins σ (.Tuple elts kk tpos) R) X.xe s') X.xe s1 := by
  refine enum_made B h0 fun h' ie io kp => wpAny_pyIter_enum (s := { s1 with heap := h' }) ie ?_
  refine ⟨s1.heap.objs.size + 1, [s1.heap.objs.size + 1, s1.heap.objs.size], tn, J, H1, rfl, I1.kept (t' := s1.toks) kp, T, st h' ie io, fun b hb => ?_, q⟩
  have hle : s1.heap.objs.size ≤ b := by
    rcases List.mem_cons.mp hb with z | z
    · rw [z]; exact Nat.le_succ _
    · rw [List.mem_singleton.mp z]; exact Nat.le_refl _
  exact I1.fpOk hle (I1.hok.fresh hle)
theorem enumL_inj : ∀ {xs ys : List W} {n : Nat}, enumL n xs = enumL n ys → xs = ys
  | [], [], _, _ => rfl
  | [], y :: ys, n, e => by simp [enumL] at e
  | x :: xs, [], n, e => by simp [enumL] at e
  | x :: xs, y :: ys, n, e => by
    simp only [enumL, List.cons.injEq, W.tup.injEq, and_true, true_and] at e
    rw [e.1, enumL_inj e.2]
theorem pi_enumW {elts : List Expr} {kk : Nat} {tpos : Pos} (hG : X.K = G.K) (hg : Gl X "enumerate") (hm : X.mg "enumerate" = none) (ha : PA X [a] (tL G Wx (evs T es))) (hs : ∀ b p, a ≠ .Starred b p) :
    PI X (.Tuple elts kk tpos) (.Call (.Name "enumerate" p) [a] [] pos) (iW G Wx T .enum es) := by
  refine ⟨fun pins s σ H R I ⟨ρ, σw, h, sr, hr, g⟩ => ?_⟩
  refine Call_ (ld_blt I hg hm boot_enumerate (PyProof.Rows.callWith_type1 (thn (ha.run pos pins s σ H _ I ⟨ρ, σw, h, sr, hr, g⟩) fun us s1 ⟨vs, H1, I1, r1, ρ1, ws, h1, items, e1, hr1, rv, ei, k⟩ => ?_) (star_cons hs) rfl))
  have st : ∀ h', stands .enum ws items h' = true → itemsOf h' .enum ws = some items := fun h' q => stands_items ei q
  match ws, ei with
  | [w], ei =>
    obtain ⟨x, rfl, rp⟩ := rv.one
    obtain ⟨u, rfl, ru⟩ := vals1 r1
    simp only [itemsOf] at ei st
    split at ei
    · rename_i us z
      cases ei
      obtain ⟨ad, ys, rfl, sq, _, _⟩ := vtup (X := X) hG hr1 rp z
      cases ru
      obtain ⟨its, _, pl, _⟩ := I1.tuple sq
      have la : ad < s1.heap.objs.size := by obtain ⟨o, ho, _⟩ := id pl; exact Heap.lt_size ho
      refine enum_pi I1 (begins_tuple ad its.toArray) (show s1.heap.IsTuple ad its.toArray from pl) (turn_enumTup ad _ _) (fun h' ie io => ⟨⟨.none, ie⟩, ⟨_, io, rfl, rfl⟩, Nat.succ_ne_self _, Nat.ne_of_lt la⟩) (k _ (jok_enumT hG rp fun h' q => ?_))
      obtain ⟨us', eu⟩ := (view_kind (h' := h')).2.1 _ z
      rw [eu] at z ⊢; exact z
    · rename_i us z
      cases ei
      obtain ⟨ad, ys, rfl, sq, _, _⟩ := vlst (X := X) hG hr1 rp z
      cases ru
      obtain ⟨its, _, pl, _⟩ := I1.list sq
      refine enum_pi I1 (begins_list ad its.toArray) pl.isList (turn_enum ad _ _) (fun h' ie io => ⟨⟨.none, ie⟩, ⟨_, io, rfl, rfl⟩, Nat.succ_ne_self _⟩) (k _ (jok_enumL hG rp fun h' q => ?_))
      have y := st h' q
      split at y
      · rename_i us' z'
        obtain ⟨us', eu⟩ := (view_kind (h' := h')).2.1 _ z'
        rw [eu] at z; cases z
      · rename_i us' z'
        rw [z', enumL_inj (Option.some.inj y)]
      · cases y
    · cases ei
theorem pi_zipW {elts : List Expr} {kk : Nat} {tpos : Pos} (hG : X.K = G.K) (hg : Gl X "zip") (hm : X.mg "zip" = none) (ha : PA X [a, b] (tL G Wx (evs T es))) (hs : ∀ c p, a ≠ .Starred c p) (hs2 : ∀ c p, b ≠ .Starred c p) :
    PI X (.Tuple elts kk tpos) (.Call (.Name "zip" p) [a, b] [] pos) (iW G Wx T .zip es) := by
  refine PIimp (pi_zipM hg hm ha (star_cons hs) (noplus fun e m => by rw [List.mem_singleton.mp m]; exact hs2)) fun σ H R ⟨ρ, σw, h, sr, hr, g⟩ => ⟨ρ, σw, h, sr, hr, g.imp fun vs H1 ⟨ρ1, ws, h1, items, e1, hr1, rv, ei, k⟩ => ?_⟩
  have st : ∀ h', stands .zip ws items h' = true → itemsOf h' .zip ws = some items := fun h' q => stands_items ei q
  match ws, ei with
  | [w, u], ei =>
    obtain ⟨x, y, rfl, rp, rp2⟩ := rv.two
    simp only [itemsOf] at ei st
    split at ei
    · rename_i us us2 z z2
      obtain ⟨ad, ys, rfl, sq, _⟩ := vseqK (X := X) hG hr1 rp z
      obtain ⟨ad2, ys2, rfl, sq2, _⟩ := vseqK (X := X) hG hr1 rp2 z2
      refine ⟨ad, ad2, _, _, ys, ys2, rfl, sq, sq2, k _ (jok_zipM hG rp rp2 fun h' q => ?_)⟩
      have y := st h' q
      split at y
      · rename_i us' us2' z' z2'
        exact ⟨us', us2', z', z2', (Option.some.inj y).symm⟩
      · cases y
    · cases ei
end
end Y

namespace Y
open PySem PySem.Spec PyProof.Rows L2
/-! where the text stands -/
structure Cc where
  nm : Nm → Str
  N : List Str
  sc : Scope
  fnc : Str → Bool
  calls : Nm → Bool
  exc : Nm → Bool
  cst : Nm → Bool
def visK : Option NameKind → Bool
  | some .local => true
  | some .cell => true
  | some .free => true
  | _ => false
def glK : Option NameKind → Bool
  | some .globalImplicit => true
  | _ => false
def Cc.vis (c : Cc) (i : Nat) (x : Str) : Bool := decide (c.N[i]? = some x) && (visK (c.sc.names.lookup x) && (!(x == ("__debug__" : Str)) && !(x == ("__classdict__" : Str))))
def Cc.gl (c : Cc) (x : Str) : Bool := glK (c.sc.names.lookup x) && !(x == ("__debug__" : Str))
def locK (f : Bool) : Option NameKind → Bool
  | some .local => true
  | some .cell => f
  | _ => false
def Cc.loc (c : Cc) (i : Nat) (x : Str) : Bool := decide (c.N[i]? = some x) && locK (c.fnc x) (c.sc.names.lookup x)
def bltNames : List Str := ["range", "enumerate", "zip", "isinstance", "len", "sum", "max", "min", "abs", "int", "list", "tuple", "all", "any", "repr", "str", "bool", "dict", "sorted", "set", "ValueError"]
def Cc.blk (c : Cc) (scope : Scope) : Cc := { c with sc := relS scope c.sc, fnc := fun x => scope.names.lookup x == some .cell }
/-- an own exception class without own __init__ -/
def ExcK (K : PySem.W.Frag) (C : Addr) : Prop := PySem.W.excIn K C He.veBase "ValueError.__new__" = true ∧ PySem.W.keepIn K (.ref C) = true ∧ PySem.W.subIn K (.ref C) (.type "BaseException") = some true ∧ PySem.W.typeIn K (.ref C) = some (.type "type")
/-- which exception is one of which class -/
structure ExcM (K : PySem.W.Frag) (G : Gx) (sub : Nm → Nm → Bool) : Prop where
  exm : ∀ x k, G.ex x = true → G.ex k = true → PySem.W.exmOne K (.ref (G.ca x)) (.ref (G.ca k)) = some (sub x k) ∧ PySem.W.kitOne K (.ref (G.ca x)) (.ref (G.ca k)) = some (sub x k)
  ve : ∀ x, G.ex x = true → PySem.W.kitOne K (.ref (G.ca x)) (.type "ValueError") = some true
  cls : ∀ x, G.ex x = true → ExcC K (G.ca x)
structure XOk (c : Cc) (G : Gx) (T : Cal) (lvl : Nat) (Wx : WX) (X : Cx) : Prop where
  N : X.N = c.N
  nd : c.N.Nodup
  sc : X.env.scope = c.sc
  fnc : X.fn = c.fnc
  calm : X.calm = true
  K : X.K = G.K
  nmg : c.nm = G.nm
  tk : Takes X Wx
  room : Room lvl X.A
  gu : X.A.guards = some []
  con : ∀ k w, c.cst k = true → T.con k = some w → ∃ u v, X.mg (c.nm k) = some u ∧ RelV v u ∧ ∀ H ρ, Rep G H ρ w v
  blt : ∀ x, x ∈ bltNames → X.mg x = none
  fns : ∀ k, c.calls k = true → ∃ f fd ps, X.mg (c.nm k) = some (.ref f) ∧ PySem.W.keepIn X.K (.ref f) = true ∧ Binds X.K fd ps [] ∧ FnW X.prog X.w X.K X.mg X.base lvl f fd ps (spW G (T.run k))
  exs : ∀ k, c.exc k = true → X.mg (c.nm k) = some (.ref (G.ca k)) ∧ ExcK X.K (G.ca k)
  exx : ∀ k, c.exc k = true → G.ex k = true
  exm : ExcM X.K G T.sub
def noW : WX := fun _ _ _ _ => False
section
variable {c : Cc} {G : Gx} {T : Cal} {lvl : Nat} {Wx : WX} {X : Cx}
theorem XOk.un (ok : XOk c G T lvl Wx X) : X.A.units + 150 < cLine := by have := ok.room.un; omega
theorem XOk.blk (ok : XOk c G T lvl Wx X) (s : Shared) (H : Hp) (scope : Scope) (C : Addr) (cl : List (Str × Addr)) (fp : List Addr) : XOk (c.blk scope) G T lvl noW (X.blk s H scope (compEnvC scope cl C X.env) fp) where
  N := ok.N
  nd := ok.nd
  sc := by
    show relS scope X.env.scope = relS scope c.sc
    rw [ok.sc]
  fnc := rfl
  calm := ok.calm
  K := ok.K
  nmg := ok.nmg
  tk := fun u s' h => by
    obtain ⟨a, B, sI, pins, σ, H, cls, d, _, _, _, _, _, _, _, _, z⟩ := h
    exact z
  room := ok.room
  gu := ok.gu
  con := ok.con
  blt := ok.blt
  fns := ok.fns
  exs := ok.exs
  exx := ok.exx
  exm := ok.exm
theorem XOk.vis (ok : XOk c G T lvl Wx X) {i : Nat} {x : Str} (h : c.vis i x = true) : X.N[i]? = some x ∧ Vis X.env.scope x ∧ (x == ("__debug__" : Str)) = false ∧ (x == ("__classdict__" : Str)) = false := by
  simp only [Cc.vis, Bool.and_eq_true, decide_eq_true_eq, Bool.not_eq_true'] at h
  obtain ⟨h1, h2, h3, h4⟩ := h
  refine ⟨by rw [ok.N]; exact h1, ?_, h3, h4⟩
  unfold Vis
  rw [ok.sc]
  revert h2
  cases c.sc.names.lookup x with
  | none => intro z; cases z
  | some k => cases k <;> intro z <;> first | exact .inl rfl | exact .inr (.inl rfl) | exact .inr (.inr rfl) | cases z
theorem XOk.gl (ok : XOk c G T lvl Wx X) {x : Str} (h : c.gl x = true) : Gl X x ∧ (x == ("__debug__" : Str)) = false := by
  simp only [Cc.gl, Bool.and_eq_true, Bool.not_eq_true'] at h
  refine ⟨?_, h.2⟩
  show X.env.scope.names.lookup x = _
  rw [ok.sc]
  have h := h.1
  revert h
  cases c.sc.names.lookup x with
  | none => intro z; cases z
  | some k => cases k <;> intro z <;> first | rfl | cases z
theorem XOk.loc (ok : XOk c G T lvl Wx X) {i : Nat} {x : Str} (h : c.loc i x = true) : X.N[i]? = some x ∧ L2.Loc X.env.scope x ∧ (X.fn x = true ∨ X.env.scope.names.lookup x = some .local) := by
  simp only [Cc.loc, Bool.and_eq_true, decide_eq_true_eq] at h
  obtain ⟨h1, h2⟩ := h
  refine ⟨by rw [ok.N]; exact h1, ?_⟩
  unfold L2.Loc
  rw [ok.sc, ok.fnc]
  revert h2
  cases c.sc.names.lookup x with
  | none => intro z; cases z
  | some k => cases k <;> intro z <;> first | exact ⟨.inl rfl, .inr rfl⟩ | exact ⟨.inr rfl, .inl z⟩ | cases z
end
/-! targets -/
def notStar : Expr → Bool
  | .Starred _ _ => false
  | _ => true
theorem notStar_ne {e : Expr} (h : notStar e = true) : ∀ a p, e ≠ .Starred a p := fun a p z => by subst z; cases h
def notSet : Expr → Bool
  | .Set _ _ _ => false
  | _ => true
mutual
def tgV : Tg → List Nat
  | .v i => [i]
  | .t ts => tgVs ts
def tgVs : List Tg → List Nat
  | [] => []
  | t :: ts => tgV t ++ tgVs ts
end
mutual
def mG (c : Cc) : Tg → Expr → Bool
  | .v i, .Name x _ => c.loc i x
  | .t ts, .Tuple xs _ _ => mGs c ts xs
  | _, _ => false
def mGs (c : Cc) : List Tg → List Expr → Bool
  | [], [] => true
  | t :: ts, x :: xs => notStar x && (mG c t x && mGs c ts xs)
  | _, _ => false
end
def Same (vs : List Nat) (σ σ2 : L2.St) : Prop := σ2.length = σ.length ∧ ∀ i, i ∉ vs → σ2[i]? = σ[i]?
theorem Same.refl {vs : List Nat} {σ : L2.St} : Same vs σ σ := ⟨rfl, fun _ _ => rfl⟩
theorem Same.trans {vs us : List Nat} {σ σ1 σ2 : L2.St} (a : Same vs σ σ1) (b : Same us σ1 σ2) : Same (vs ++ us) σ σ2 :=
  ⟨b.1.trans a.1, fun i h => (b.2 i fun m => h (List.mem_append_right _ m)).trans (a.2 i fun m => h (List.mem_append_left _ m))⟩
theorem wipe_at {σ : L2.St} : ∀ {vs : List Nat} {i : Nat}, (wipe σ vs)[i]? = if i ∈ vs then (σ[i]?).map (fun _ => none) else σ[i]?
  | [], i => by simp [wipe]
  | v :: vs, i => by
    unfold wipe
    by_cases hv : v = i
    · subst hv
      rw [if_pos List.mem_cons_self]
      by_cases hl : v < σ.length
      · rw [List.getElem?_set_self (by rw [wipe_length]; exact hl)]
        simp [hl]
      · rw [List.getElem?_eq_none (by rw [List.length_set, wipe_length]; omega), List.getElem?_eq_none (by omega)]; rfl
    · rw [List.getElem?_set_ne hv, wipe_at]
      by_cases hm : i ∈ vs
      · rw [if_pos hm, if_pos (List.mem_cons_of_mem _ hm)]
      · rw [if_neg hm, if_neg (by simp [hm, Ne.symm hv])]
theorem Same.wipe {vs own : List Nat} {σ σ2 : L2.St} (h : Same vs σ σ2) (hs : ∀ i ∈ vs, i ∈ own) : L2.wipe σ2 own = L2.wipe σ own := by
  apply List.ext_getElem?
  intro i
  rw [wipe_at, wipe_at]
  by_cases hm : i ∈ own
  · rw [if_pos hm, if_pos hm]
    have hl := h.1
    by_cases hi : i < σ.length
    · simp [hi, hl]
    · rw [List.getElem?_eq_none (by omega), List.getElem?_eq_none (by omega)]
  · rw [if_neg hm, if_neg hm, h.2 i fun m => hm (hs i m)]
def gW (G : Gx) (t : Tg) : TG := fun v σ H Q => ∃ ρ σw h w σ', SRep G H ρ σw σ ∧ HRep G H ρ h ∧ Rep G H ρ w v ∧ asgT h t w σw = some σ' ∧ ∀ σ2, SRep G H ρ σ' σ2 → Same (tgV t) σ σ2 → Q σ2 H
def gWs (G : Gx) (ts : List Tg) : TGs := fun vs σ H Q => ∃ ρ σw h ws σ', SRep G H ρ σw σ ∧ HRep G H ρ h ∧ RepL G H ρ ws vs ∧ asgL h ts ws σw = some σ' ∧ ∀ σ2, SRep G H ρ σ' σ2 → Same (tgVs ts) σ σ2 → Q σ2 H
section
variable {c : Cc} {G : Gx} {T : Cal} {lvl : Nat} {Wx : WX} {X : Cx}
theorem each_len {env : PySem.Env} : ∀ (ts : List Tg) (xs : List Expr), mGs c ts xs = true → (assignEach xs env).length = ts.length ∧ (assignEach xs env).findIdx? (·.1) = none
  | [], [], _ => ⟨rfl, rfl⟩
  | [], _ :: _, h => by simp [mGs] at h
  | _ :: _, [], h => by simp [mGs] at h
  | t :: ts, x :: xs, h => by
    simp only [mGs, Bool.and_eq_true] at h
    obtain ⟨h1, h2⟩ := each_len (env := env) ts xs h.2.2
    have e : assignEach (x :: xs) env = (false, assign x env) :: assignEach xs env := by
      have := h.1
      cases x <;> first | rfl | cases this
    rw [e]
    refine ⟨by simp [h1], ?_⟩
    rw [List.findIdx?_cons, h2]; rfl
theorem asgL_len {h : WH} : ∀ {ts : List Tg} {ws : List W} {σ σ' : Env}, asgL h ts ws σ = some σ' → ws.length = ts.length
  | [], [], _, _, _ => rfl
  | [], _ :: _, _, _, e => by simp [asgL] at e
  | _ :: _, [], _, _, e => by simp [asgL] at e
  | t :: ts, w :: ws, σ, σ', e => by
    simp only [asgL] at e
    split at e
    · rw [List.length_cons, List.length_cons, asgL_len e]
    · cases e
mutual
theorem pgW (ok : XOk c G T lvl Wx X) : ∀ (t : Tg) (x : Expr), mG c t x = true → PG X x (gW G t)
  | .v i, x, h => by
    cases x with
    | Name x pos =>
      simp only [mG] at h
      obtain ⟨h1, h2, h3⟩ := ok.loc h
      refine PGimp (pg_name (by rw [ok.N]; exact ok.nd) h1 h2 h3) fun v σ H Q q => ?_
      obtain ⟨ρ, σw, h, w, σ', sr, hr, rp, e, k⟩ := q
      simp only [asgT] at e
      split at e
      · cases e
        exact k _ (sr.set rp) ⟨by simp, fun j hj => by rw [List.getElem?_set_ne (by simpa [tgV, eq_comm] using hj)]⟩
      · cases e
    | _ => simp only [mG, Bool.false_eq_true] at h
  | .t ts, x, h => by
    cases x with
    | Tuple xs k pos =>
      simp only [mG] at h
      have hs := pgsW ok ts xs h
      obtain ⟨e1, e2⟩ := each_len (env := X.env) ts xs h
      refine ⟨fun pins s σ H v u Q I r q => ?_⟩
      obtain ⟨ρ, σw, h, w, σ', sr, hr, rp, e, k⟩ := q
      simp only [asgT] at e
      split at e
      · rename_i ws z
        obtain ⟨a, vs, rfl, sq, _, rv⟩ := vtup (X := X) ok.K hr rp z
        have hl : vs.length = ts.length := by rw [rv.length]; exact asgL_len e
        exact (pg_tup ok.calm hs e1 e2).run pins s σ H _ u Q I r ⟨a, vs, rfl, sq, hl, ρ, σw, h, ws, σ', sr, hr, rv, e, k⟩
      · rename_i ws z
        obtain ⟨a, vs, rfl, sq, _, rv⟩ := vlst (X := X) ok.K hr rp z
        have hl : vs.length = ts.length := by rw [rv.length]; exact asgL_len e
        exact (pg_lst ok.calm hs e1 e2).run pins s σ H _ u Q I r ⟨a, vs, rfl, sq, hl, ρ, σw, h, ws, σ', sr, hr, rv, e, k⟩
      · cases e
    | _ => simp only [mG, Bool.false_eq_true] at h
theorem pgsW (ok : XOk c G T lvl Wx X) : ∀ (ts : List Tg) (xs : List Expr), mGs c ts xs = true → PGs X xs (gWs G ts)
  | [], [], _ => by
    refine ⟨fun pins s σ H vs us Q I r q => pgs_nil.run pins s σ H vs us Q I r ?_⟩
    obtain ⟨ρ, σw, h, ws, σ', sr, hr, rv, e, k⟩ := q
    cases ws with
    | nil =>
      simp only [asgL, Option.some.injEq] at e
      subst e
      rw [RepL] at rv
      exact ⟨rv, k _ sr Same.refl⟩
    | cons w ws => simp [asgL] at e
  | [], _ :: _, h => by simp [mGs] at h
  | _ :: _, [], h => by simp [mGs] at h
  | t :: ts, x :: xs, h => by
    simp only [mGs, Bool.and_eq_true] at h
    have e0 : (assignEach (x :: xs) X.env).map (·.2) = assign x X.env :: (assignEach xs X.env).map (·.2) := by
      have := h.1
      cases x <;> first | rfl | cases this
    refine ⟨fun pins s σ H vs us Q I r q => (pgs_cons (pgW ok t x h.2.1) (pgsW ok ts xs h.2.2) e0).run pins s σ H vs us Q I r ?_⟩
    obtain ⟨ρ, σw, h, ws, σ', sr, hr, rv, e, k⟩ := q
    cases ws with
    | nil => simp [asgL] at e
    | cons w ws =>
      rw [RepL] at rv
      obtain ⟨v, vr, rfl, r1, r2⟩ := rv
      simp only [asgL] at e
      split at e
      · rename_i σ1 e1
        exact ⟨v, vr, rfl, ρ, σw, h, w, σ1, sr, hr, r1, e1, fun σ2 s2 m2 => ⟨ρ, σ1, h, ws, σ', s2, hr, r2, e, fun σ3 s3 m3 => k σ3 s3 (m2.trans m3)⟩⟩
      · cases e
end
end
end Y

namespace Y
open PySem PySem.Spec PyProof.Rows L2
/-! does a text of mine stand for a given one -/
def mK : W → Expr → Bool
  | .int i, .Constant (.int j) _ _ => decide (i = j)
  | .bl a, .Constant (.bool b) _ _ => decide (a = b)
  | .non, .Constant .none _ _ => true
  | .str s, .Constant (.str x) _ _ => decide (x = strC s)
  | _, _ => false
def notSlice : Expr → Bool
  | .Slice _ _ _ _ => false
  | _ => true
def plainRecv : Expr → Bool
  | .Call _ _ _ _ => false
  | _ => true
/-- the arguments of a source -/
def srcX (c : Cc) : IK → Expr → Expr → Option (List Expr)
  | .seq, _, x => if notSet x then some [x] else none
  | .rng1, _, .Call (.Name n _) [a] [] _ => if decide (n = ("range" : Str)) && c.gl n then some [a] else none
  | .rng2, _, .Call (.Name n _) [a, b] [] _ => if decide (n = ("range" : Str)) && c.gl n then some [a, b] else none
  | .enum, .Tuple _ _ _, .Call (.Name n _) [a] [] _ => if decide (n = ("enumerate" : Str)) && c.gl n then some [a] else none
  | .zip, .Tuple _ _ _, .Call (.Name n _) [a, b] [] _ => if decide (n = ("zip" : Str)) && c.gl n then some [a, b] else none
  | _, _, _ => none
def tyN : Ty → Str
  | .int => "int" | .bool => "bool" | .str => "str" | .tuple => "tuple" | .list => "list" | .dict => "dict"
/-- the arguments of an operation -/
def opX (c : Cc) : Op → Expr → Option (List Expr)
  | .isi t, .Call (.Name n _) [a, .Name m _] [] _ => if decide (n = ("isinstance" : Str)) && (c.gl n && (decide (m = tyN t) && c.gl m)) then some [a] else none
  | .sset, .Call (.Name n _) [.Call (.Name m _) [a] [] _] [] _ => if decide (n = ("sorted" : Str)) && (c.gl n && (decide (m = ("set" : Str)) && c.gl m)) then some [a] else none
  | .lset, .Call (.Name n _) [.Call (.Name m _) [a] [] _] [] _ => if decide (n = ("len" : Str)) && (c.gl n && (decide (m = ("set" : Str)) && c.gl m)) then some [a] else none
  | .lrg, .Call (.Name n _) [.Call (.Name m _) [a] [] _] [] _ => if decide (n = ("list" : Str)) && (c.gl n && (decide (m = ("range" : Str)) && c.gl m)) then some [a] else none
  | .rev, .Subscript a (.Slice none none (some (.UnaryOp .USub (.Constant (.int k) _ _) _)) _) _ => if k = 1 then some [a] else none
  | f, .Call (.Name n _) (a :: xs) [] _ => if (opF f).isSome && (decide (n = opN f) && c.gl n) then some (a :: xs) else none
  | _, _ => none
def notNone : E → Bool
  | .k .non => false
  | _ => true
def freshE : E → Bool
  | .lst _ => true
  | .comp _ _ _ _ _ _ => true
  | .op .list _ => true
  | .bin .mul _ _ => true
  | .bin .add _ _ => true
  | _ => false
/-- the arguments of a key -/
def keyX : Bool → Expr → List Expr
  | true, .Tuple xs _ _ => xs
  | true, _ => []
  | false, x => [x]
def dispX : Expr → Bool
  | .Tuple _ _ _ => true
  | _ => false
mutual
def mE (c : Cc) : E → Expr → Bool
  | .v i, x => (match x with
    | .Name y _ => c.vis i y
    | _ => false)
  | .k w, x => mK w x
  | .g k, x => (match x with
    | .Name y _ => decide (c.nm k = y) && (c.gl y && c.cst k)
    | _ => false)
  | .tup es, x => (match x with
    | .Tuple xs _ _ => decide (es.length ≤ 1000) && mEs c es xs
    | _ => false)
  | .lst es, x => (match x with
    | .List xs _ => decide (es.length ≤ 1000) && mEs c es xs
    | _ => false)
  | .bin o a b, x => (match x with
    | .BinOp y p z _ => decide (p = boS o) && (mE c a y && mE c b z)
    | _ => false)
  | .neg a, x => (match x with
    | .UnaryOp p y _ => decide (p = .USub) && mE c a y
    | _ => false)
  | .cmp o a b, x => (match x with
    | .Compare y [p] [z] _ => decide (p = coS o) && (notSet z && (mE c a y && mE c b z))
    | _ => false)
  | .cmp2 o q a b d, x => (match x with
    | .Compare y [p1, p2] [z, u] _ => decide (p1 = coS o) && (decide (p2 = coS q) && (notSet u && (mE c a y && (mE c b z && mE c d u))))
    | _ => false)
  | .andL es, x => (match x with
    | .BoolOp .And (y :: ys) _ => mEs c es (y :: ys)
    | _ => false)
  | .orL es, x => (match x with
    | .BoolOp .Or (y :: ys) _ => mEs c es (y :: ys)
    | _ => false)
  | .notE a, x => (match x with
    | .UnaryOp p y _ => decide (p = .Not) && mE c a y
    | _ => false)
  | .ife t a b, x => (match x with
    | .IfExp y z u _ => mE c t y && (mE c a z && mE c b u)
    | _ => false)
  | .ix a i, x => (match x with
    | .Subscript y z _ => notSlice z && (mE c a y && mE c i z)
    | _ => false)
  | .sl a lo hi, x => (match x with
    | .Subscript y (.Slice l u none _) _ => mE c a y && ((match l with
      | none => (match lo with
        | .k .non => true
        | _ => false)
      | some l => notNone lo && mE c lo l) && (match u with
      | none => (match hi with
        | .k .non => true
        | _ => false)
      | some l => notNone hi && mE c hi l))
    | _ => false)
  | .call m f es, x => (match x with
    | .Call (.Name y _) xs [] _ => c.calls f && (decide (c.nm f = y) && (c.gl y && mEs c es xs))
    | _ => false)
  | .op f es, x => (match opX c f x with
    | some xs => mEs c es xs
    | none => false)
  | .comp own tg ik es cond elt, x => (match x with
    | .ListComp y [⟨tgx, iter, ifs, a⟩] scope _ => decide (a = 0) && (blkC c.N c.sc scope (own.map fun i => (c.N.getD i ("" : Str), i)) && ((tgV tg).all (fun i => own.contains i) && (mG (c.blk scope) tg tgx && ((match srcX c ik tgx iter with
      | some xs => mEs c es xs
      | none => false) && (notSet iter && ((match ifs with
      | [] => (match cond with
        | .k (.bl true) => true
        | _ => false)
      | [z] => mE (c.blk scope) cond z
      | _ => false) && mE (c.blk scope) elt y))))))
    | _ => false)
  | .app o e, x => (match x with
    | .Call (.Attribute y n apos) [z] [] cpos => decide (n = ("append" : Str)) && (plainRecv y && (decide (apos.endLine = cpos.line) && (notStar z && (mE c o y && mE c e z))))
    | _ => false)
  | .pop o, x => (match x with
    | .Call (.Attribute y n apos) [] [] cpos => decide (n = ("pop" : Str)) && (plainRecv y && (decide (apos.endLine = cpos.line) && mE c o y))
    | _ => false)
  | .thaw e, x => freshE e && mE c e x
  | .dget tp d ks, x => (match x with
    | .Subscript y z _ => notSlice z && (decide (tp = dispX z) && (mE c d y && mEs c ks (keyX tp z)))
    | _ => false)
  | .dget2 tp d ks e, x => (match x with
    | .Call (.Attribute y n apos) [z, u] [] cpos => decide (n = ("get" : Str)) && (plainRecv y && (decide (apos.endLine = cpos.line) && (notStar z && (notStar u && (decide (tp = dispX z) && (mE c d y && (mEs c ks (keyX tp z) && mE c e u)))))))
    | _ => false)
  | .din no tp ks d, x => (match x with
    | .Compare z [p] [y] _ => decide (p = if no then CmpOp.NotIn else CmpOp.In) && (notSet y && (decide (tp = dispX z) && (mE c d y && mEs c ks (keyX tp z))))
    | _ => false)
  | .dnew _, x => (match x with
    | .Dict [] [] _ => true
    | _ => false)
  | .mkd e, x => (match x with
    | .Call (.Name n _) [a] [] _ => decide (n = ("dict" : Str)) && (c.gl n && (notStar a && mE c e a))
    | _ => false)
  | .fld _ _, _ => false
  | .meth _ _ _ _, _ => false
  | .new _ _, _ => false
def mEs (c : Cc) : List E → List Expr → Bool
  | [], xs => (match xs with
    | [] => true
    | _ => false)
  | e :: es, xs => (match xs with
    | x :: r => notStar x && (mE c e x && mEs c es r)
    | _ => false)
end
section
variable {c : Cc} {G : Gx} {T : Cal} {lvl : Nat} {Wx : WX} {X : Cx} {x y z a b : Expr} {pos p : Pos} {σ : L2.St} {H : Hp}
/-! single rules, as my readings -/
theorem tB_ok {m : Env → WH → R W} {ρ : Ro} {σw : Env} {h h' : WH} {k : Bool} {Q : Bool → Hp → Prop} (sr : SRep G H ρ σw σ) (hr : HRep G H ρ h) (g : GW G Wx σ H ρ (m σw h) fun v H1 => ∃ c, v = .bl c ∧ Q c H1) : tB (tW G Wx m) σ H Q := ⟨ρ, σw, h, sr, hr, g⟩
theorem r_k (w : W) (h : mK w x = true) : PE X x (tW G Wx (ev T (.k w))) := by
  have key : ∀ v : V, (∀ H ρ, Rep G H ρ w v) → ∀ σ H Q, tW G Wx (ev T (.k w)) σ H Q → tC v σ H Q := fun v r σ H Q ⟨ρ, σw, h, sr, hr, g⟩ => by
    simp only [ev] at g
    exact g v H ρ (Ext.refl _ _) hr (r H ρ)
  unfold mK at h
  split at h
  · have h := of_decide_eq_true h
    subst h
    exact PEimp pe_int (key _ fun H ρ => by rw [Rep])
  · have h := of_decide_eq_true h
    subst h
    exact PEimp pe_bl (key _ fun H ρ => by rw [Rep])
  · exact PEimp pe_non (key _ fun H ρ => by rw [Rep])
  · have h := of_decide_eq_true h
    subst h
    exact PEimp pe_str (key _ fun H ρ => by rw [Rep])
  · cases h
theorem r_var (ok : XOk c G T lvl Wx X) {i : Nat} {n : Str} (h : c.vis i n = true) : PE X (.Name n pos) (tW G Wx (ev T (.v i))) := by
  obtain ⟨h1, h2, h3, h4⟩ := ok.vis h
  refine PEimp (pe_var h1 h2 h3 h4) fun σ H Q ⟨ρ, σw, h, sr, hr, g⟩ => ?_
  simp only [ev, getV] at g
  split at g
  · rename_i w e
    obtain ⟨v, ev', rp⟩ := sr.at_ i w e
    exact ⟨v, ev', g v H ρ (Ext.refl _ _) hr rp⟩
  · exact g.elim
theorem r_glob (ok : XOk c G T lvl Wx X) {k : Nm} {n : Str} (h1 : c.nm k = n) (h2 : c.gl n = true) (h3 : c.cst k = true) : PE X (.Name n pos) (tW G Wx (ev T (.g k))) := by
  obtain ⟨g1, g2⟩ := ok.gl h2
  cases e : T.con k with
  | none =>
    refine ⟨fun pins s σ H Q I ⟨ρ, σw, h, sr, hr, g⟩ => ?_⟩
    simp only [ev, e, opt_none] at g
    exact g.elim
  | some w =>
    obtain ⟨u, v, m, r, rp⟩ := ok.con k w h3 e
    rw [h1] at m
    refine PEimp (pe_glob g1 m r g2) fun σ H Q ⟨ρ, σw, h, sr, hr, g⟩ => ?_
    simp only [ev, e, opt_some] at g
    exact g v H ρ (Ext.refl _ _) hr (rp H ρ)
theorem r_bin (ok : XOk c G T lvl Wx X) (o : BO) {e f : E} (ha : PE X a (tW G Wx (ev T e))) (hb : PE X b (tW G Wx (ev T f))) : PE X (.BinOp a (boS o) b pos) (tW G Wx (ev T (.bin o e f))) := by
  refine PEimp (pe_op (op_bin ok.K o) ha hb) fun σ H Q ⟨ρ, σw, h, sr, hr, g⟩ => ?_
  simp only [ev] at g
  refine ⟨ρ, σw, h, sr, hr, (GW.bind g).imp fun x H1 ⟨ρ1, w1, h1, e1, hr1, r1, g1⟩ => ⟨ρ1, σw, h1, sr.mono e1, hr1, (GW.bind g1).imp fun y H2 ⟨ρ2, w2, h2, e2, hr2, r2, g2⟩ => ?_⟩⟩
  obtain ⟨w, ew, k⟩ := opt_some_of g2
  exact ⟨ρ2, h2, _, _, w, hr2, view_rep hr2 (Rep.mono e2 _ _ r1), view_rep hr2 r2, ew, k⟩
theorem r_neg (ok : XOk c G T lvl Wx X) {e : E} (ha : PE X a (tW G Wx (ev T e))) : PE X (.UnaryOp .USub a pos) (tW G Wx (ev T (.neg e))) := by
  refine PEimp (pe_un un_neg ha) fun σ H Q ⟨ρ, σw, h, sr, hr, g⟩ => ?_
  simp only [ev] at g
  refine ⟨ρ, σw, h, sr, hr, (GW.bind g).imp fun x H1 ⟨ρ1, w1, h1, e1, hr1, r1, g1⟩ => ?_⟩
  cases w1 <;> first | exact g1.elim | skip
  simp only [Rep] at r1
  exact ⟨_, r1, g1 _ _ ρ1 (Ext.refl _ _) hr1 (by rw [Rep])⟩
theorem behind_no {op : CmpOp} (h : notSet y = true) : behindInMarks op y = false := by
  cases y <;> first | rfl | cases h
theorem cmp_read (ok : XOk c G T lvl Wx X) (o : CO) {e f : E} {σ : L2.St} {H : Hp} {Q : VK} (g : tW G Wx (ev T (.cmp o e f)) σ H Q) : tOp (rC G o) (tW G Wx (ev T e)) (tW G Wx (ev T f)) σ H Q := by
  obtain ⟨ρ, σw, h, sr, hr, g⟩ := g
  simp only [ev] at g
  refine ⟨ρ, σw, h, sr, hr, (GW.bind g).imp fun x H1 ⟨ρ1, w1, h1, e1, hr1, r1, g1⟩ => ⟨ρ1, σw, h1, sr.mono e1, hr1, (GW.bind g1).imp fun y H2 ⟨ρ2, w2, h2, e2, hr2, r2, g2⟩ => ?_⟩⟩
  obtain ⟨w, ew, k⟩ := opt_some_of g2
  simp only [Option.map_eq_some_iff] at ew
  obtain ⟨b, eb, rfl⟩ := ew
  exact ⟨ρ2, _, _, b, view_rep hr2 (Rep.mono e2 _ _ r1), view_rep hr2 r2, eb, k.here hr2 (by rw [Rep])⟩
theorem r_cmp (ok : XOk c G T lvl Wx X) (o : CO) {e f : E} (ha : PE X a (tW G Wx (ev T e))) (hb : PE X b (tW G Wx (ev T f))) (hn : notSet b = true) :
    PE X (.Compare a [coS o] [b] pos) (tW G Wx (ev T (.cmp o e f))) ∧ PT X (.Compare a [coS o] [b] pos) (tB (tW G Wx (ev T (.cmp o e f)))) :=
  ⟨PEimp (pe_cmpR (op_cmp ok.K ok.un o) ha hb (behind_no hn)) fun σ H Q g => cmp_read ok o g,
   PTimp (pt_cmpR (op_cmp ok.K ok.un o) ha hb (behind_no hn)) fun σ H Q g => cmp_read ok o g⟩
theorem cmp2_read (ok : XOk c G T lvl Wx X) (o q : CO) {e f d : E} {σ : L2.St} {H : Hp} {Q : VK} (g : tW G Wx (ev T (.cmp2 o q e f d)) σ H Q) : tChain (rC G o) (rC G q) (tW G Wx (ev T e)) (tW G Wx (ev T f)) (tW G Wx (ev T d)) σ H Q := by
  obtain ⟨ρ, σw, h, sr, hr, g⟩ := g
  simp only [ev] at g
  refine ⟨ρ, σw, h, sr, hr, (GW.bind g).imp fun x H1 ⟨ρ1, w1, h1, e1, hr1, r1, g1⟩ => ⟨ρ1, σw, h1, sr.mono e1, hr1, (GW.bind g1).imp fun y H2 ⟨ρ2, w2, h2, e2, hr2, r2, g2⟩ => ?_⟩⟩
  split at g2
  · rename_i ew
    refine ⟨ρ2, _, _, true, view_rep hr2 (Rep.mono e2 _ _ r1), view_rep hr2 r2, ew, true, rfl, ?_⟩
    rw [if_pos rfl]
    refine ⟨ρ2, σw, h2, (sr.mono e1).mono e2, hr2, (GW.bind g2).imp fun u H3 ⟨ρ3, w3, h3, e3, hr3, r3, g3⟩ => ?_⟩
    obtain ⟨w, ew, k⟩ := opt_some_of g3
    simp only [Option.map_eq_some_iff] at ew
    obtain ⟨b, eb, rfl⟩ := ew
    exact ⟨ρ3, _, _, b, view_rep hr3 (Rep.mono e3 _ _ r2), view_rep hr3 r3, eb, k.here hr3 (by rw [Rep])⟩
  · rename_i ew
    refine ⟨ρ2, _, _, false, view_rep hr2 (Rep.mono e2 _ _ r1), view_rep hr2 r2, ew, false, rfl, ?_⟩
    rw [if_neg Bool.false_ne_true]
    exact g2 _ _ ρ2 (Ext.refl _ _) hr2 (by rw [Rep])
  · exact g2.elim
theorem r_cmp2 (ok : XOk c G T lvl Wx X) (o q : CO) {e f d : E} (ha : PE X a (tW G Wx (ev T e))) (hb : PE X b (tW G Wx (ev T f))) (hd : PE X z (tW G Wx (ev T d))) (hn : notSet z = true) :
    PE X (.Compare a [coS o, coS q] [b, z] pos) (tW G Wx (ev T (.cmp2 o q e f d))) ∧ PT X (.Compare a [coS o, coS q] [b, z] pos) (tB (tW G Wx (ev T (.cmp2 o q e f d)))) := by
  have hm : lastMarks [coS o, coS q] [b, z] = false := behind_no hn
  exact ⟨PEimp (pe_chain (op_cmp ok.K ok.un o) (op_cmp ok.K ok.un q) ha hb hd hm) fun σ H Q g => cmp2_read ok o q g,
   PTimp (pt_chain (op_cmp ok.K ok.un o) (op_cmp ok.K ok.un q) ha hb hd hm) fun σ H Q g => cmp2_read ok o q g⟩
theorem r_not (ok : XOk c G T lvl Wx X) {e : E} (ha : PE X a (tW G Wx (ev T e))) (hp : PT X a (tB (tW G Wx (ev T e)))) : PE X (.UnaryOp .Not a pos) (tW G Wx (ev T (.notE e))) ∧ PT X (.UnaryOp .Not a pos) (tB (tW G Wx (ev T (.notE e)))) := by
  refine ⟨PEimp (pe_not ha) fun σ H Q ⟨ρ, σw, h, sr, hr, g⟩ => ?_, PTimp (pt_not hp) fun σ H Q ⟨ρ, σw, h, sr, hr, g⟩ => ?_⟩
  · simp only [ev] at g
    refine ⟨ρ, σw, h, sr, hr, (GW.bind g).imp fun x H1 ⟨ρ1, w1, h1, e1, hr1, r1, g1⟩ => ?_⟩
    cases w1 <;> first | exact g1.elim | skip
    simp only [Rep] at r1
    exact ⟨_, r1, g1 _ _ ρ1 (Ext.refl _ _) hr1 (by rw [Rep])⟩
  · simp only [ev] at g
    refine ⟨ρ, σw, h, sr, hr, (GW.bind g).imp fun x H1 ⟨ρ1, w1, h1, e1, hr1, r1, g1⟩ => ?_⟩
    cases w1 <;> first | exact g1.elim | skip
    simp only [Rep] at r1
    obtain ⟨b, eb, q⟩ := g1 _ _ ρ1 (Ext.refl _ _) hr1 (by rw [Rep])
    cases eb
    exact ⟨_, r1, q⟩
theorem pt_ife {t u v : TT} (hc : PT X x t) (ha : PT X a u) (hb : PT X b v) : PT X (.IfExp x a b pos) (fun σ H Q => t σ H fun d H1 => if d = true then u σ H1 Q else v σ H1 Q) := by
  refine ⟨fun pins s σ H Q I h => ?_⟩
  unfold PySem.isTrue
  refine wpAny_bind (thn (hc.run pins s σ H _ I h) fun d s1 ⟨H1, I1, q1⟩ => ?_)
  cases d with
  | true => exact ha.run pins s1 σ H1 Q I1 q1
  | false => exact hb.run pins s1 σ H1 Q I1 q1
theorem ife_read {t e f : E} {σ : L2.St} {H : Hp} {Q : VK} (g : tW G Wx (ev T (.ife t e f)) σ H Q) : tB (tW G Wx (ev T t)) σ H fun d H1 => if d = true then tW G Wx (ev T e) σ H1 Q else tW G Wx (ev T f) σ H1 Q := by
  obtain ⟨ρ, σw, h, sr, hr, g⟩ := g
  simp only [ev] at g
  refine ⟨ρ, σw, h, sr, hr, (GW.bind g).imp fun x H1 ⟨ρ1, w1, h1, e1, hr1, r1, g1⟩ => ?_⟩
  cases w1 <;> first | exact g1.elim | skip
  rename_i d
  simp only [Rep] at r1
  refine ⟨d, r1, ?_⟩
  cases d with
  | true => rw [if_pos rfl]; exact ⟨ρ1, σw, h1, sr.mono e1, hr1, g1⟩
  | false => rw [if_neg Bool.false_ne_true]; exact ⟨ρ1, σw, h1, sr.mono e1, hr1, g1⟩
theorem r_ife (ok : XOk c G T lvl Wx X) {t e f : E} (hp : PT X x (tB (tW G Wx (ev T t)))) (ha : PE X a (tW G Wx (ev T e))) (hb : PE X b (tW G Wx (ev T f))) (pa : PT X a (tB (tW G Wx (ev T e)))) (pb : PT X b (tB (tW G Wx (ev T f)))) :
    PE X (.IfExp x a b pos) (tW G Wx (ev T (.ife t e f))) ∧ PT X (.IfExp x a b pos) (tB (tW G Wx (ev T (.ife t e f)))) :=
  ⟨PEimp (pe_ifExp hp ha hb) fun σ H Q g => ife_read g, PTimp (pt_ife hp pa pb) fun σ H Q g => ife_read g⟩
end
end Y

namespace Y
open PySem PySem.Spec PyProof.Rows L2
theorem evs_len {T : Cal} : ∀ {es : List E} {σw : Env} {h h' : WH} {ws : List W}, evs T es σw h = .ok ws h' → ws.length = es.length
  | [], σw, h, h', ws, e => by
    simp only [evs, R.ok.injEq] at e
    rw [← e.1]; rfl
  | x :: es, σw, h, h', ws, e => by
    simp only [evs] at e
    cases q : ev T x σw h with
    | ok w h1 =>
      rw [q] at e
      simp only [R.bind_ok] at e
      cases q2 : evs T es σw h1 with
      | ok us h2 =>
        rw [q2] at e
        simp only [R.bind_ok, R.ok.injEq] at e
        rw [← e.1, List.length_cons, List.length_cons, evs_len q2]
      | exc c fs h2 => rw [q2] at e; cases e
      | bad => rw [q2] at e; cases e
    | exc c fs h1 => rw [q] at e; cases e
    | bad => rw [q] at e; cases e
theorem atI_same {α : Type} (xs : List α) (i : Int) : L2.atI xs i = Y.atI xs i := by
  unfold L2.atI Y.atI L2.ixN Y.ixN
  rfl
theorem atI_rep {G : Gx} {H : Hp} {ρ : Ro} {ws : List W} {vs : List V} {i : Int} {w : W} (r : RepL G H ρ ws vs) (e : Y.atI ws i = some w) : ∃ v, L2.atI vs i = some v ∧ Rep G H ρ w v := by
  rw [atI_same]
  unfold Y.atI at e ⊢
  rw [r.length]
  simp only [Option.bind_eq_some_iff] at e
  obtain ⟨j, e1, e2⟩ := e
  obtain ⟨v, ev, rp⟩ := r.get e2
  exact ⟨v, by rw [e1]; exact ev, rp⟩
def rIx (G : Gx) : R2 := fun x y H Q => ∃ ρ h a i w, HRep G H ρ h ∧ VRep G H ρ a x ∧ y = .int i ∧ ixW a (.int i) = some w ∧ KW G H ρ h w Q
def rSl (G : Gx) : V → Option Int → Option Int → Hp → VK → Prop := fun x lo hi H Q => ∃ ρ h a w, HRep G H ρ h ∧ VRep G H ρ a x ∧ slW a lo hi = some w ∧ KW G H ρ h w Q
theorem sIx_same (n d : Nat) (o : Option Int) : HT.sIx n d o = Y.sIx n d o := by cases o <;> rfl
theorem cut_same {α : Type} (xs : List α) (lo hi : Option Int) : Y.cutL xs lo hi = (xs.drop (HT.sIx xs.length 0 lo)).take (HT.sIx xs.length xs.length hi - HT.sIx xs.length 0 lo) := by
  unfold Y.cutL
  rw [sIx_same, sIx_same]
theorem cut_rep {G : Gx} {H : Hp} {ρ : Ro} {ws : List W} {vs : List V} {lo hi : Option Int} (r : RepL G H ρ ws vs) : RepL G H ρ (Y.cutL ws lo hi) (cutV vs lo hi) := by
  rw [cut_same]
  unfold cutV
  rw [r.length]
  exact RepL.take _ (RepL.drop _ r)
section
variable {c : Cc} {G : Gx} {T : Cal} {lvl : Nat} {Wx : WX} {X : Cx} {x y z a b : Expr} {pos p : Pos} {σ : L2.St} {H : Hp}
theorem ix_all (hG : X.K = G.K) : IxR X (rIx G) := by
  intro value slice pins s σ H x y v u Q I rx ry h hs
  obtain ⟨ρ, hh, a, i, w, hr, ra, rfl, e, k⟩ := h
  cases a <;> simp only [ixW, reduceCtorEq] at e
  · split at e
    · rename_i sl hz
      simp only [Option.map_eq_some_iff] at e
      obtain ⟨c, ec, rfl⟩ := e
      refine ix_str value slice pins s σ H x _ v u Q I rx ry ⟨_, i, c, vstr ra, rfl, by rw [strC_len, ← big_eq]; exact hz, ?_, k.here hr (by rw [Rep]; rfl)⟩ hs
      rw [atI_same]
      exact ec
    · cases e
  · obtain ⟨p, ys, rfl, h1, h2, h3⟩ := (vseq (X := X) hG).2 ra
    obtain ⟨v', ev', rp⟩ := atI_rep h3 e
    exact ix_tup value slice pins s σ H _ _ v u Q I rx ry ⟨p, ys, i, v', rfl, rfl, h1, ev', k.here hr rp⟩ hs
  · obtain ⟨p, ys, rfl, h1, h2, h3⟩ := (vseq (X := X) hG).1 ra
    obtain ⟨v', ev', rp⟩ := atI_rep h3 e
    exact ix_list value slice pins s σ H _ _ v u Q I rx ry ⟨p, ys, i, v', rfl, rfl, h1, ev', k.here hr rp⟩ hs
theorem plain_ix (h : notSlice b = true) : PlainIx b := by
  intro o i
  cases b <;> first | rfl | cases h
theorem r_ix (ok : XOk c G T lvl Wx X) {e f : E} (ha : PE X a (tW G Wx (ev T e))) (hb : PE X b (tW G Wx (ev T f))) (hn : notSlice b = true) : PE X (.Subscript a b pos) (tW G Wx (ev T (.ix e f))) := by
  refine PEimp (pe_ix (ix_all ok.K) ha hb (plain_ix hn)) fun σ H Q ⟨ρ, σw, h, sr, hr, g⟩ => ?_
  simp only [ev] at g
  refine ⟨ρ, σw, h, sr, hr, (GW.bind g).imp fun x H1 ⟨ρ1, w1, h1, e1, hr1, r1, g1⟩ => ⟨ρ1, σw, h1, sr.mono e1, hr1, (GW.bind g1).imp fun y H2 ⟨ρ2, w2, h2, e2, hr2, r2, g2⟩ => ?_⟩⟩
  obtain ⟨w, ew, k⟩ := opt_some_of g2
  cases w2 <;> first | (revert ew; cases view h2 w1 <;> intro ew <;> simp only [ixW, reduceCtorEq] at ew; done) | skip
  simp only [Rep] at r2
  exact ⟨ρ2, h2, _, _, w, hr2, view_rep hr2 (Rep.mono e2 _ _ r1), r2, ew, k⟩
theorem sl_all (hG : X.K = G.K) : SlR X (rSl G) := by
  intro pins s σ H x v vl vu lo hi sl Q I rx hs pl pu h
  obtain ⟨ρ, hh, a, w, hr, ra, e, k⟩ := h
  cases a <;> simp only [slW, reduceCtorEq] at e
  · split at e
    · rename_i s0 hz
      cases e
      refine sl_str pins s σ H x v vl vu lo hi sl Q I rx hs pl pu ⟨_, vstr ra, by rw [strC_len, ← big_eq]; exact hz, k.here hr ?_⟩
      rw [Rep]
      unfold cutS
      rw [strC_len, cut_same]
      rfl
    · cases e
  · cases e
    obtain ⟨p, ys, rfl, h1, h2, h3⟩ := (vseq (X := X) hG).2 ra
    rename_i ws
    refine sl_tupA pins s σ H _ v vl vu lo hi sl Q I rx hs pl pu ⟨p, ys, rfl, h1, fun hw => k.here hr ?_, fun _ => k.tup hr (cut_rep h3) (Nat.le_trans (cutV_length ys lo hi) h2)⟩
    have ec : Y.cutL ws lo hi = ws := by
      rw [cut_same, ← h3.length, hw.1, hw.2, List.drop_zero, Nat.sub_zero, List.take_of_length_le (by rw [h3.length]; exact Nat.le_refl _)]
    rw [ec]
    exact ra
  · cases e
    obtain ⟨p, ys, rfl, h1, h2, h3⟩ := (vseq (X := X) hG).1 ra
    exact sl_list pins s σ H _ v vl vu lo hi sl Q I rx hs pl pu ⟨p, ys, rfl, h1, k.list hr (cut_rep h3) (Nat.le_trans (cutV_length ys lo hi) h2)⟩
/-- a part of a slice: its reading -/
def tP (G : Gx) (Wx : WX) (T : Cal) (e : E) : TO := fun σ H Q => ∃ ρ σw h, SRep G H ρ σw σ ∧ HRep G H ρ h ∧ GW G Wx σ H ρ (ev T e σw h) fun v H1 => ∃ ρ1 w h1, Ext H ρ H1 ρ1 ∧ HRep G H1 ρ1 h1 ∧ Rep G H1 ρ1 w v ∧ ∃ o, partI e w = some o ∧ Q o H1
theorem POimp {e : Option Expr} {t t' : TO} (h : PO X e t) (k : ∀ σ H Q, t' σ H Q → t σ H Q) : PO X e t' := ⟨fun pins s σ H Q I q => h.run pins s σ H Q I (k σ H Q q)⟩
theorem r_none : PO X none (tP G Wx T (.k .non)) := by
  refine POimp po_none fun σ H Q ⟨ρ, σw, h, sr, hr, g⟩ => ?_
  simp only [ev] at g
  obtain ⟨ρ1, w, h1, e1, hr1, rp, o, eo, q⟩ := g .non H ρ (Ext.refl _ _) hr (by rw [Rep])
  simp only [partI, Option.some.injEq] at eo
  subst eo
  exact q
theorem r_some {e : E} (hn : notNone e = true) (h : PE X x (tW G Wx (ev T e))) : PO X (some x) (tP G Wx T e) := by
  refine POimp (po_some h) fun σ H Q ⟨ρ, σw, h, sr, hr, g⟩ => ⟨ρ, σw, h, sr, hr, g.imp fun v H1 ⟨ρ1, w, h1, e1, hr1, rp, o, eo, q⟩ => ?_⟩
  have key : ∃ i, w = .int i ∧ o = some i := by
    unfold partI at eo
    split at eo
    · cases hn
    · cases eo; exact ⟨_, rfl, rfl⟩
    · cases eo
  obtain ⟨i, rfl, rfl⟩ := key
  simp only [Rep] at rp
  exact ⟨i, rp, q⟩
theorem r_sl (ok : XOk c G T lvl Wx X) {e f d : E} {l u : Option Expr} {p2 : Pos} (ha : PE X a (tW G Wx (ev T e))) (hl : PO X l (tP G Wx T f)) (hu : PO X u (tP G Wx T d)) : PE X (.Subscript a (.Slice l u none p2) pos) (tW G Wx (ev T (.sl e f d))) := by
  refine PEimp (pe_slice (sl_all ok.K) ha hl hu) fun σ H Q ⟨ρ, σw, h, sr, hr, g⟩ => ?_
  simp only [ev] at g
  refine ⟨ρ, σw, h, sr, hr, (GW.bind g).imp fun x H1 ⟨ρ1, w1, h1, e1, hr1, r1, g1⟩ => ⟨ρ1, σw, h1, sr.mono e1, hr1, (GW.bind g1).imp fun y H2 ⟨ρ2, w2, h2, e2, hr2, r2, g2⟩ => ⟨ρ2, w2, h2, e2, hr2, r2, ?_⟩⟩⟩
  split at g2
  · rename_i o p1
    refine ⟨o, p1, ρ2, σw, h2, (sr.mono e1).mono e2, hr2, (GW.bind g2).imp fun z H3 ⟨ρ3, w3, h3, e3, hr3, r3, g3⟩ => ⟨ρ3, w3, h3, e3, hr3, r3, ?_⟩⟩
    split at g3
    · rename_i o2 p2
      refine ⟨o2, p2, ?_⟩
      obtain ⟨w, ew, k⟩ := opt_some_of g3
      exact ⟨ρ3, h3, _, w, hr3, view_rep hr3 (Rep.mono e3 _ _ (Rep.mono e2 _ _ r1)), ew, k⟩
    · exact g3.elim
  · exact g2.elim
/-! displays, calls -/
theorem evs_cons {e : E} {es : List E} {σ : L2.St} {H : Hp} {Q : List V → Hp → Prop} (g : tL G Wx (evs T (e :: es)) σ H Q) : tCons (tW G Wx (ev T e)) (tL G Wx (evs T es)) σ H Q := by
  obtain ⟨ρ, σw, h, sr, hr, g⟩ := g
  simp only [evs] at g
  refine ⟨ρ, σw, h, sr, hr, ?_⟩
  cases q : ev T e σw h with
  | exc c fs h' => rw [q] at g; exact g
  | bad => rw [q] at g; exact g
  | ok w h' =>
    rw [q] at g
    intro v H' ρ' x hr' rp
    refine ⟨ρ', σw, h', sr.mono x, hr', ?_⟩
    simp only [R.bind_ok] at g
    cases q2 : evs T es σw h' with
    | exc c fs h2 => rw [q2] at g; exact fun cls d H2 ρ2 x2 hr2 xr => g cls d H2 ρ2 (x.trans x2) hr2 xr
    | bad => rw [q2] at g; exact g
    | ok ws h2 =>
      rw [q2] at g
      exact fun vs H2 ρ2 x2 hr2 rv => g (v :: vs) H2 ρ2 (x.trans x2) hr2 (RepL.cons (Rep.mono x2 _ _ rp) rv)
theorem evs_nil {σ : L2.St} {H : Hp} {Q : List V → Hp → Prop} (g : tL G Wx (evs T []) σ H Q) : tNil σ H Q := by
  obtain ⟨ρ, σw, h, sr, hr, g⟩ := g
  simp only [evs] at g
  exact g [] H ρ (Ext.refl _ _) hr RepL.nil
theorem r_tup {es : List E} {xs : List Expr} {k : Nat} (ha : PA X xs (tL G Wx (evs T es))) (hz : es.length ≤ 1000) : PE X (.Tuple xs k pos) (tW G Wx (ev T (.tup es))) := by
  refine PEimp (pe_tup ha) fun σ H Q ⟨ρ, σw, h, sr, hr, g⟩ => ?_
  simp only [ev] at g
  refine ⟨ρ, σw, h, sr, hr, ?_⟩
  cases q : evs T es σw h with
  | exc c fs h' => rw [q] at g; exact g
  | bad => rw [q] at g; exact g
  | ok ws h' =>
    rw [q] at g
    intro vs H' ρ' x hr' rv
    have hl : vs.length ≤ sizeLine := by rw [rv.length, evs_len q]; exact Nat.le_trans hz (by decide)
    exact ⟨hl, fun p n => g _ _ ρ' (x.trans (Ext.laid n)) (hr'.laid n) (Rep.tup_new hr' n hl rv)⟩
theorem r_lstF {es : List E} {xs : List Expr} (ha : PA X xs (tL G Wx (evs T es))) (hz : es.length ≤ 1000) : PE X (.List xs pos) (tF G Wx (ev T (.lst es))) := by
  refine PEimp (pe_lst ha) fun σ H Q ⟨ρ, σw, h, sr, hr, g⟩ => ?_
  simp only [ev] at g
  refine ⟨ρ, σw, h, sr, hr, ?_⟩
  cases q : evs T es σw h with
  | exc c fs h' => rw [q] at g; exact g
  | bad => rw [q] at g; exact g
  | ok ws h' =>
    rw [q] at g
    obtain ⟨us, eu, k⟩ := g
    cases eu
    intro vs H' ρ' x hr' rv
    have hl : vs.length ≤ sizeLine := by rw [rv.length, evs_len q]; exact Nat.le_trans hz (by decide)
    exact ⟨hl, fun p n => k p vs H' ρ' x hr' rv n hl⟩
theorem tF_tW {e : E} (he : ∀ σw h w h', ev T e σw h = .ok w h' → ∃ ws, w = .lst ws) (h : PE X x (tF G Wx (ev T e))) : PE X x (tW G Wx (ev T e)) :=
  PEimp h fun σ H Q ⟨ρ, σw, h, sr, hr, g⟩ => ⟨ρ, σw, h, sr, hr, GF.of_W (he σw h) g⟩
theorem tF_thaw {e : E} (h : PE X x (tF G Wx (ev T e))) : PE X x (tW G Wx (ev T (.thaw e))) :=
  PEimp h fun σ H Q ⟨ρ, σw, h, sr, hr, g⟩ => ⟨ρ, σw, h, sr, hr, GF.thaw (by simp only [ev] at g; exact g)⟩
theorem lst_is {es : List E} : ∀ σw h w h', ev T (.lst es) σw h = .ok w h' → ∃ ws, w = .lst ws := fun σw h w h' e => by
  simp only [ev] at e
  cases q : evs T es σw h with
  | ok ws h1 => rw [q] at e; cases e; exact ⟨_, rfl⟩
  | exc c fs h1 => rw [q] at e; cases e
  | bad => rw [q] at e; cases e
theorem WE_tk (ok : XOk c G T lvl Wx X) : ∀ σ, PassesAt (L2.CX X.prog X.w) X σ (WE Wx σ) := fun σ => passAt ok.tk σ
theorem r_call (ok : XOk c G T lvl Wx X) {m : Md} {f : Nm} {n : Str} {es : List E} {xs : List Expr} (hc : c.calls f = true) (hn : c.nm f = n) (hg : c.gl n = true) (hs : ∀ e ∈ xs, ∀ a p, e ≠ .Starred a p) (ha : PA X xs (tL G Wx (evs T es))) (h0 : xs = [] → es = []) :
    PE X (.Call (.Name n p) xs [] pos) (tW G Wx (ev T (.call m f es))) := by
  obtain ⟨ff, fd, ps, m1, m2, m3, F⟩ := ok.fns f hc
  rw [hn] at m1
  obtain ⟨g1, g2⟩ := ok.gl hg
  have rd : ∀ σ H Q, tW G Wx (ev T (.call m f es)) σ H Q → tCallS (spW G (T.run f)) (WE Wx) (tL G Wx (evs T es)) σ H Q := fun σ H Q ⟨ρ, σw, h, sr, hr, g⟩ => by
    simp only [ev] at g
    exact ⟨ρ, σw, h, sr, hr, (GL.bind g).imp fun vs H1 ⟨ρ1, ws, h1, e1, hr1, rv, g1⟩ => call_modes hr1 rv g1⟩
  cases xs with
  | nil =>
    have := h0 rfl
    subst this
    refine PEimp (pe_callW0 F ok.room ok.gu g1 m1 m2 m3 (WE_tk ok) g2) fun σ H Q q => ?_
    exact evs_nil (rd σ H Q q)
  | cons e xs => exact PEimp (pe_callW F ok.room ok.gu g1 m1 m2 m3 (WE_tk ok) ha g2 hs) rd
/-! operations -/
theorem r_opF (ok : XOk c G T lvl Wx X) {f : Op} {n : Str} {es : List E} {e : Expr} {xs : List Expr} (hf : (opF f).isSome = true) (hn : n = opN f) (hg : c.gl n = true) (hs : ∀ d ∈ e :: xs, ∀ a p, d ≠ .Starred a p) (ha : PA X (e :: xs) (tL G Wx (evs T es))) :
    PE X (.Call (.Name n p) (e :: xs) [] pos) (tW G Wx (ev T (.op f es))) := by
  obtain ⟨u, hu⟩ := Option.isSome_iff_exists.mp hf
  subst hn
  obtain ⟨g1, g2⟩ := ok.gl hg
  have hm : X.mg (opN f) = none := ok.blt _ (by cases f <;> first | (cases hu; done) | (simp only [opN, bltNames]; simp))
  have hc := call_op ok.K ok.calm ok.un ok.gu hu
  have rd : ∀ σ H Q, tW G Wx (ev T (.op f es)) σ H Q → tCB (rOp G f) (tL G Wx (evs T es)) σ H Q := fun σ H Q ⟨ρ, σw, h, sr, hr, g⟩ => by
    simp only [ev] at g
    refine ⟨ρ, σw, h, sr, hr, (GL.bind g).imp fun vs H1 ⟨ρ1, ws, h1, e1, hr1, rv, g1⟩ => ?_⟩
    have g1 : GW G Wx σ H1 ρ1 (opt (opW f (ws.map (view h1))) h1) Q := g1
    obtain ⟨w, ew, k⟩ := opt_some_of g1
    exact ⟨ρ1, h1, _, w, hr1, viewL_rep hr1 rv, ew, k⟩
  have hst := star_cons (env := X.env) (r := xs) (hs e (by simp))
  have hnp := noplus (pos := pos) (env := X.env) (es := xs) fun d m => hs d (List.mem_cons_of_mem _ m)
  cases u with
  | builtin id => exact PEimp (pe_callB hc g1 hm (opF_boot hu) ha (opN_ok f).1 g2 hst hnp) rd
  | type t => exact PEimp (pe_callTy hc g1 hm (opF_boot hu) ha (opN_ok f).1 g2 hst hnp) rd
  | _ => cases f <;> cases hu
theorem evs_none {es : List E} {σw : Env} {h h' : WH} {ws : List W} (e : evs T es σw h = .ok ws h') : ws.length = es.length := evs_len e
end
end Y

namespace Y
open PySem PySem.Spec PyProof.Rows L2
/-! isinstance -/
def tyT : Ty → String
  | .int => "int" | .bool => "bool" | .str => "str" | .tuple => "tuple" | .list => "list" | .dict => "dict"
def tyS : W → String
  | .non => "NoneType" | .bl _ => "bool" | .int _ => "int" | .str _ => "str" | .tup _ => "tuple" | _ => "list"
theorem ty_boot (t : Ty) : bootBuiltins (tyN t) = some (.type (tyT t)) := by
  cases t <;> first | exact boot_int | exact boot_bool | exact boot_str | exact boot_tuple | exact boot_list | exact boot_dict
theorem kit_ty (K : PySem.W.Frag) (t : Ty) (a : W) (h : isRef a = false) (h2 : ∀ t k, a ≠ .dct t k) : PySem.W.kitOne K (.type (tyS a)) (.type (tyT t)) = some (tyW t a) := by
  cases a <;> first | (cases h; done) | (exact absurd rfl (h2 _ _)) | (cases t <;> kernel_rfl)
def rIsi (G : Gx) (t : Ty) : List V → Hp → VK → Prop := fun vs H Q => ∃ ρ a x, vs = [x, .ty (tyT t)] ∧ VRep G H ρ a x ∧ isRef a = false ∧ (∀ t k, a ≠ .dct t k) ∧ Q (.bl (tyW t a)) H
section
variable {c : Cc} {G : Gx} {T : Cal} {lvl : Nat} {Wx : WX} {X : Cx} {x y z a b : Expr} {pos p : Pos} {σ : L2.St} {H : Hp}
theorem call_isi (hG : X.K = G.K) (t : Ty) : CallR X (.builtin "isinstance") (rIsi G t) := by
  intro pins s σ H vs us Q I r h
  obtain ⟨ρ, a, x, rfl, ra, hn, nd, q⟩ := h
  obtain ⟨u, u2, rfl, r1, r2⟩ := vals2 r
  cases r2
  have fin : ∀ tk, EP X pins σ Q (.bool (tyW t a)) { s with toks := tk } := fun tk => ⟨.bl _, H, I.tok _, rfl, q⟩
  have ek := kit_ty X.K t a hn nd
  cases a with
  | non => simp only [VRep, Rep] at ra; subst ra; cases r1; exact PySem.W.kia_one PySem.W.kitx_none I.kIn True.intro ek (fun z => nomatch z) fin
  | bl b => simp only [VRep, Rep] at ra; subst ra; cases r1; exact PySem.W.kia_one PySem.W.kitx_bool I.kIn True.intro ek (fun z => nomatch z) fin
  | int i => simp only [VRep, Rep] at ra; subst ra; obtain ⟨tk, rfl⟩ := r1; exact PySem.W.kia_one PySem.W.kitx_int I.kIn True.intro ek (fun z => nomatch z) fin
  | str i => simp only [VRep, Rep] at ra; subst ra; obtain ⟨tk, rfl⟩ := r1; exact PySem.W.kia_one PySem.W.kitx_str I.kIn True.intro ek (fun z => nomatch z) fin
  | tup ws =>
    obtain ⟨p, ys, rfl, h1, h2, h3⟩ := (vseq (X := X) hG).2 ra
    cases r1
    obtain ⟨its, _, ⟨o, e1, e2, _⟩, _⟩ := I.tuple h1
    exact PySem.W.kia_one PySem.W.kitx_tuple I.kIn ⟨o, e1, e2⟩ ek (fun z => nomatch z) fin
  | lst ws =>
    obtain ⟨p, ys, rfl, h1, h2, h3⟩ := (vseq (X := X) hG).1 ra
    cases r1
    obtain ⟨its, _, ⟨o, n, e1, e2, _⟩, _⟩ := I.list h1
    exact PySem.W.kia_one PySem.W.kitx_list I.kIn ⟨o, e1, e2⟩ ek (fun z => nomatch z) fin
  | dct t k => exact absurd rfl (nd t k)
  | ref k => cases hn
theorem r_isi (ok : XOk c G T lvl Wx X) {t : Ty} {n m : Str} {es : List E} {p2 : Pos} (hn : n = ("isinstance" : Str)) (hg : c.gl n = true) (hm : m = tyN t) (hg2 : c.gl m = true) {e : E} (he : es = [e]) (hs : ∀ b p, a ≠ .Starred b p) (ha : PE X a (tW G Wx (ev T e))) :
    PE X (.Call (.Name n p) [a, .Name m p2] [] pos) (tW G Wx (ev T (.op (.isi t) es))) := by
  subst he hn hm
  obtain ⟨g1, g2⟩ := ok.gl hg
  obtain ⟨g3, g4⟩ := ok.gl hg2
  have m1 : X.mg "isinstance" = none := ok.blt _ (by simp [bltNames])
  have m2 : X.mg (tyN t) = none := ok.blt _ (by cases t <;> simp [tyN, bltNames])
  have hty : PE X (.Name (tyN t) p2) (tC (.ty (tyT t))) := pe_bltn g3 m2 (ty_boot t) rfl (by cases t <;> decide) g4
  have hpa : PA X [a, .Name (tyN t) p2] (tCons (tW G Wx (ev T e)) (tCons (tC (.ty (tyT t))) tNil)) := pa_cons ha (pa_cons hty pa_nil) (star_cons hs)
  refine PEimp (pe_callB (call_isi (G := G) ok.K t) g1 m1 boot_isinstance hpa (by decide) g2 (star_cons hs) rfl) fun σ H Q ⟨ρ, σw, h, sr, hr, g⟩ => ?_
  simp only [ev] at g
  refine ⟨ρ, σw, h, sr, hr, ?_⟩
  have g1 : GL G Wx σ H ρ (evs T [e] σw h) _ := GL.bind g
  refine (evs_one g1).imp fun v H1 ⟨ρ1, ws, h1, e1, hr1, rv, gg⟩ => ?_
  obtain ⟨w, ew, k⟩ := opt_some_of (show GW G Wx σ H1 ρ1 (opt (opW (.isi t) (ws.map (view h1))) h1) Q from gg)
  have hl := rv.length
  match ws, hl with
  | [w1], _ =>
    obtain ⟨v', ev', rp⟩ := rv.one
    cases ev'
    have hv := view_rep hr1 rp
    simp only [List.map_cons, List.map_nil, opW] at ew
    split at ew
    · cases ew
    · cases ew
    · rename_i w2 hw2 hw3 ews
      cases ew
      simp only [List.cons.injEq, and_true] at ews
      rw [ews] at hv
      refine ⟨ρ1, w2, v, rfl, hv, ?_, fun t k z => hw3 t k (by rw [z]), k.here hr1 (by rw [Rep])⟩
      cases w2 <;> first | rfl | exact absurd rfl (hw2 _)
    · cases ew
/-! a list of mine changed -/
theorem HRep.mut {ρ : Ro} {h : WH} {k : Nat} {p : Addr} {o : O} {u : HO} (hr : HRep G H ρ h) (hp : ρ.at_[k]? = some p) (hne : H p ≠ none) (hk : k < h.length) (no : Ext H ρ (upd H p u) ρ → ORep G (upd H p u) ρ p o) :
    Ext H ρ (upd H p u) ρ ∧ HRep G (upd H p u) ρ (h.set k o) := by
  have mp := List.mem_of_getElem? hp
  have e : Ext H ρ (upd H p u) ρ := ⟨fun _ _ q => q, fun _ q => q, fun b ob q n => (by rw [upd_ne (show b ≠ p from fun z => n (by rw [z]; exact mp))]; exact q), fun _ q => .inl q, fun _ q => .inl q⟩
  refine ⟨e, by rw [List.length_set]; exact hr.len, hr.nd, fun b m z => ?_, fun j b ob q1 q2 => ?_⟩
  · by_cases y : b = p
    · rw [y, upd_same] at z; cases z
    · rw [upd_ne y] at z; exact hr.live b m z
  · by_cases y : k = j
    · subst y
      rw [hp] at q1; cases q1
      rw [List.getElem?_set_self hk] at q2; cases q2
      exact no e
    · rw [List.getElem?_set_ne y] at q2
      have nb : b ≠ p := fun z => by
        subst z
        exact y ((List.getElem?_inj (List.getElem?_eq_some_iff.mp hp).1 hr.nd).mp (hp.trans q1.symm))
      exact (hr.at_ j b ob q1 q2).mono e fun v hv => by rw [upd_ne nb]; exact hv
theorem recv_base {nm : Str} (h : plainRecv a = true) : attributeBase a nm X.env (eval a X.env) = eval a X.env := by
  cases a <;> first | rfl | cases h
theorem r_append (ok : XOk c G T lvl Wx X) {n : Str} {apos : Pos} {e f : E} (hn : n = ("append" : Str)) (hl : plainRecv a = true) (hp : apos.endLine = pos.line) (hs : ∀ d p, b ≠ .Starred d p) (ha : PE X a (tW G Wx (ev T e))) (hb : PE X b (tW G Wx (ev T f))) :
    PE X (.Call (.Attribute a n apos) [b] [] pos) (tW G Wx (ev T (.app e f))) := by
  subst hn
  have hpa : PA X [b] (tCons (tW G Wx (ev T f)) tNil) := pa_cons hb pa_nil (star_cons hs)
  refine PEimp (pe_bm PySem.F.plainAttrs_list PySem.F.slot_list_append PySem.F.type_list_append mt_append ha hpa (recv_base hl) (by rw [star_cons hs]; rfl) (by rw [hp]; exact beq_self_eq_true _) (star_cons hs) rfl) fun σ H Q ⟨ρ, σw, h, sr, hr, g⟩ => ?_
  simp only [ev] at g
  refine ⟨ρ, σw, h, sr, hr, (GW.bind g).imp fun x H1 ⟨ρ1, w1, h1, e1, hr1, r1, g1⟩ => ?_⟩
  cases w1 <;> first | exact g1.elim | skip
  rename_i k
  simp only at g1
  split at g1
  · rename_i xs0 hk0
    rw [Rep] at r1
    obtain ⟨ad, ea, rfl⟩ := r1
    obtain ⟨vs0, z1, z2, z3⟩ := hr1.at_ k ad _ ea hk0
    refine ⟨.inl ⟨rfl, vs0, .inl (.inl z1)⟩, ρ1, σw, h1, sr.mono e1, hr1, (GW.bind g1).imp fun y H2 ⟨ρ2, w2, h2, e2, hr2, r2, g2⟩ => ?_⟩
    split at g2
    · rename_i xs hk
      split at g2
      · rename_i hz
        have ea2 := e2.pre k ad ea
        obtain ⟨vs, y1, y2, y3⟩ := hr2.at_ k ad _ ea2 hk
        have hlen : vs.length < sizeLine := by rw [y3.length, ← big_eq]; exact hz
        obtain ⟨e3, hr3⟩ := hr2.mut (o := .lst (xs ++ [w2])) (u := .lst (vs ++ [y])) ea2 (by rw [y1]; simp) (List.getElem?_eq_some_iff.mp hk).1 fun ex => ⟨vs ++ [y], upd_same, by rw [List.length_append]; exact hlen, RepL.mono ex _ _ (RepL.append y3 (RepL.cons r2 RepL.nil))⟩
        exact ⟨ad, vs, y, rfl, rfl, y1, hlen, g2 _ _ ρ2 e3 hr3 (by rw [Rep])⟩
      · exact g2.elim
    · exact g2.elim
  · exact g1.elim
theorem lastRest_eq {ws r : List W} {w : W} (e : lastRest ws = some (w, r)) : ws[ws.length - 1]? = some w ∧ r = ws.dropLast := by
  unfold lastRest at e
  split at e
  · rename_i z hz
    cases e
    exact ⟨by rw [← List.getLast?_eq_getElem?]; exact hz, rfl⟩
  · cases e
theorem RepL.dropLast {ρ : Ro} {ws : List W} {vs : List V} (r : RepL G H ρ ws vs) : RepL G H ρ ws.dropLast vs.dropLast := by
  rw [List.dropLast_eq_take, List.dropLast_eq_take, r.length]
  exact RepL.take _ r
theorem r_pop (ok : XOk c G T lvl Wx X) {n : Str} {apos : Pos} {e : E} (hn : n = ("pop" : Str)) (hl : plainRecv a = true) (hp : apos.endLine = pos.line) (ha : PE X a (tW G Wx (ev T e))) :
    PE X (.Call (.Attribute a n apos) [] [] pos) (tW G Wx (ev T (.pop e))) := by
  subst hn
  refine PEimp (pe_bm0 PySem.F.plainAttrs_list PySem.F.slot_list_pop PySem.F.type_list_pop mt_pop ha (recv_base hl) (by rw [hp]; exact beq_self_eq_true _)) fun σ H Q ⟨ρ, σw, h, sr, hr, g⟩ => ?_
  simp only [ev] at g
  refine ⟨ρ, σw, h, sr, hr, (GW.bind g).imp fun x H1 ⟨ρ1, w1, h1, e1, hr1, r1, g1⟩ => ?_⟩
  cases w1 <;> first | exact g1.elim | skip
  rename_i k
  simp only at g1
  split at g1
  · rename_i xs hk
    rw [Rep] at r1
    obtain ⟨ad, ea, rfl⟩ := r1
    obtain ⟨vs, z1, z2, z3⟩ := hr1.at_ k ad _ ea hk
    split at g1
    · rename_i w r el
      obtain ⟨l1, rfl⟩ := lastRest_eq el
      obtain ⟨v, ev', rp⟩ := z3.get l1
      obtain ⟨e3, hr3⟩ := hr1.mut (o := .lst xs.dropLast) (u := .lst vs.dropLast) ea (by rw [z1]; simp) (List.getElem?_eq_some_iff.mp hk).1 fun ex => ⟨vs.dropLast, upd_same, by rw [List.length_dropLast]; omega, RepL.mono ex _ _ z3.dropLast⟩
      exact ⟨.inl ⟨rfl, vs, .inl (.inl z1)⟩, ad, vs, v, rfl, rfl, z1, by rw [z3.length]; exact ev', g1 _ _ ρ1 e3 hr3 (Rep.mono e3 _ _ rp)⟩
    · exact g1.elim
  · exact g1.elim
end
end Y

namespace Y
open PySem PySem.Spec PyProof.Rows L2
/-! comprehensions -/
section
variable {G : Gx} {H H' : Hp} {ρ ρ' : Ro}
mutual
theorem Rep.move (hk : ∀ a, a ∉ ρ.no → H' a = H a) (hs : ∀ a, a ∈ ρ'.no → a ∈ ρ.no) (hp : ∀ (k : Nat) a, ρ.at_[k]? = some a → ρ'.at_[k]? = some a) : ∀ (w : W) (v : V), Rep G H ρ w v → Rep G H' ρ' w v
  | .non, v, h => by rw [Rep] at h ⊢; exact h
  | .bl b, v, h => by rw [Rep] at h ⊢; exact h
  | .int b, v, h => by rw [Rep] at h ⊢; exact h
  | .str b, v, h => by rw [Rep] at h ⊢; exact h
  | .tup ws, v, h => by
    rw [Rep] at h ⊢
    obtain ⟨a, vs, e1, h1, h2, h3⟩ := h
    exact ⟨a, vs, e1, h1.imp (fun z => ⟨(hk a z.2).trans z.1, fun m => z.2 (hs a m)⟩) id, h2, RepL.move hk hs hp ws vs h3⟩
  | .lst ws, v, h => by
    rw [Rep] at h ⊢
    obtain ⟨a, vs, e1, h1, h2, h3⟩ := h
    exact ⟨a, vs, e1, h1.imp (fun z => ⟨z.1.imp (fun y => (hk a z.2).trans y) fun ⟨o, y⟩ => ⟨o, (hk a z.2).trans y⟩, fun m => z.2 (hs a m)⟩) id, h2, RepL.move hk hs hp ws vs h3⟩
  | .dct t ws, v, h => by
    rw [Rep] at h ⊢
    exact h.imp (fun ⟨e0, a, l, e1, h1, h2⟩ => ⟨e0, a, l, e1, ⟨(hk a h1.2).trans h1.1, fun m => h1.2 (hs a m)⟩, RepD.move hk hs hp ws l h2⟩) fun ⟨e0, a, l, e1, h1, h2⟩ => ⟨e0, a, l, e1, ⟨(hk a h1.2).trans h1.1, fun m => h1.2 (hs a m)⟩, RepD.move hk hs hp ws l h2⟩
  | .ref k, v, h => by
    rw [Rep] at h ⊢
    obtain ⟨a, e1, h1⟩ := h
    exact ⟨a, hp k a e1, h1⟩
theorem RepL.move (hk : ∀ a, a ∉ ρ.no → H' a = H a) (hs : ∀ a, a ∈ ρ'.no → a ∈ ρ.no) (hp : ∀ (k : Nat) a, ρ.at_[k]? = some a → ρ'.at_[k]? = some a) : ∀ (ws : List W) (vs : List V), RepL G H ρ ws vs → RepL G H' ρ' ws vs
  | [], vs, h => by rw [RepL] at h ⊢; exact h
  | w :: r, vs, h => by
    rw [RepL] at h ⊢
    obtain ⟨v, t, e1, h1, h2⟩ := h
    exact ⟨v, t, e1, Rep.move hk hs hp w v h1, RepL.move hk hs hp r t h2⟩
theorem RepD.move (hk : ∀ a, a ∉ ρ.no → H' a = H a) (hs : ∀ a, a ∈ ρ'.no → a ∈ ρ.no) (hp : ∀ (k : Nat) a, ρ.at_[k]? = some a → ρ'.at_[k]? = some a) {κ : Type} {f : κ → W} : ∀ (ws : List (W × W)) (l : List (κ × V)), RepD G H ρ κ f ws l → RepD G H' ρ' κ f ws l
  | [], l, h => by rw [RepD] at h ⊢; exact h
  | (k, w) :: r, l, h => by
    rw [RepD] at h ⊢
    obtain ⟨c, v, t, e1, h1, h2, h3⟩ := h
    exact ⟨c, v, t, e1, h1, Rep.move hk hs hp w v h2, RepD.move hk hs hp r t h3⟩
end
theorem ORep.move {a : Addr} {o : O} (hk : ∀ a, a ∉ ρ.no → H' a = H a) (hs : ∀ a, a ∈ ρ'.no → a ∈ ρ.no) (hp : ∀ (k : Nat) a, ρ.at_[k]? = some a → ρ'.at_[k]? = some a) (ha : H' a = H a) (x : ORep G H ρ a o) : ORep G H' ρ' a o := by
  cases o with
  | lst ws => obtain ⟨vs, h1, h2, h3⟩ := x; exact ⟨vs, ha.trans h1, h2, RepL.move hk hs hp _ _ h3⟩
  | dk ws => obtain ⟨l, h1, h2⟩ := x; exact ⟨l, ha.trans h1, RepD.move hk hs hp _ _ h2⟩
  | dt ws => obtain ⟨l, h1, h2⟩ := x; exact ⟨l, ha.trans h1, RepD.move hk hs hp _ _ h2⟩
  | ins c fs =>
    obtain ⟨dx, fs', h1, h2, h3⟩ := x
    exact ⟨dx, fs', ha.trans h1, h2, fun i f w q => let ⟨v, z1, z2⟩ := h3 i f w q; ⟨v, z1, Rep.move hk hs hp _ _ z2⟩⟩
/-- the new list of a comprehension, kept out of what values name -/
def Ro.hold (ρ : Ro) (D : Addr) : Ro := ⟨ρ.at_, D :: ρ.no, fun a m => List.mem_cons_of_mem _ (ρ.sub a m)⟩
def Ro.drop (ρ : Ro) (D : Addr) (n : D ∉ ρ.at_) : Ro := ⟨ρ.at_, ρ.no.filter (fun a => a ≠ D), fun a m => List.mem_filter.mpr ⟨ρ.sub a m, by simp only [ne_eq, decide_not, Bool.not_eq_true', decide_eq_false_iff_not]; exact fun z => n (z ▸ m)⟩⟩
def hideAt (H : Hp) (D : Addr) : Hp := fun a => if a = D then none else H a
theorem hide_upd {D : Addr} {o : HO} (h : H D = some o) : upd (hideAt H D) D o = H := by
  funext a
  by_cases e : a = D
  · subst e; rw [upd_same, h]
  · rw [upd_ne e]; exact if_neg e
theorem compL_ok {ck : WH → Bool} {f : W → WH → R (Option W)} : ∀ {items : List W} {h : WH} {c : Nm} {fs} {h' : WH}, compL ck f items h ≠ .exc c fs h'
  | [], h, c, fs, h' => by
    unfold compL
    split <;> intro e <;> cases e
  | w :: r, h, c, fs, h' => by
    unfold compL
    split
    · split
      · split <;> intro e <;> cases e
      · intro e; cases e
    · intro e; cases e
theorem compL_nil {ck : WH → Bool} {f : W → WH → R (Option W)} {h h' : WH} {ys : List W} (e : compL ck f [] h = .ok ys h') : ck h = true ∧ ys = [] ∧ h' = h := by
  unfold compL at e
  split at e
  · rename_i z; cases e; exact ⟨z, rfl, rfl⟩
  · cases e
def addO : Option W → List W → List W
  | some y, zs => y :: zs
  | none, zs => zs
theorem compL_cons {ck : WH → Bool} {f : W → WH → R (Option W)} {w : W} {r : List W} {h h' : WH} {ys : List W} (e : compL ck f (w :: r) h = .ok ys h') : ck h = true ∧ ∃ o h1 zs, f w h = .ok o h1 ∧ compL ck f r h1 = .ok zs h' ∧ ys = addO o zs := by
  unfold compL at e
  split at e
  · rename_i z
    refine ⟨z, ?_⟩
    split at e
    · rename_i o h1 ef
      split at e
      · rename_i zs h2 er
        cases e
        exact ⟨o, h1, zs, ef, er, by cases o <;> rfl⟩
      · cases e
    · cases e
  · cases e
theorem wipe_twice (σ : L2.St) (own : List Nat) : wipe (wipe σ own) own = wipe σ own := by
  apply List.ext_getElem?
  intro i
  rw [wipe_at, wipe_at]
  by_cases hm : i ∈ own
  · rw [if_pos hm, if_pos hm, Option.map_map]; rfl
  · rw [if_neg hm, if_neg hm]
end
def compF (T : Cal) (own : List Nat) (tg : Tg) (cond elt : E) (σ : Env) (w : W) (h : WH) : R (Option W) := match asgT h tg w (wipE σ own) with
  | some σ' => (ev T cond σ' h).bind fun b h => (match b with
    | .bl true => (ev T elt σ' h).bind fun y h => .ok (some y) h
    | .bl false => .ok none h
    | _ => .bad)
  | none => .bad
theorem compF_ok {T : Cal} {own : List Nat} {tg : Tg} {cond elt : E} {σ : Env} {w : W} {h h' : WH} {o : Option W} (e : compF T own tg cond elt σ w h = .ok o h') :
    ∃ σ' b hc, asgT h tg w (wipE σ own) = some σ' ∧ ev T cond σ' h = .ok (.bl b) hc ∧ ((b = true ∧ ∃ y, ev T elt σ' hc = .ok y h' ∧ o = some y) ∨ (b = false ∧ o = none ∧ h' = hc)) := by
  unfold compF at e
  split at e
  · rename_i σ' e1
    cases q : ev T cond σ' h with
    | ok b hc =>
      rw [q] at e
      simp only [R.bind_ok] at e
      split at e
      · cases q2 : ev T elt σ' hc with
        | ok y h2 =>
          rw [q2] at e
          simp only [R.bind_ok, R.ok.injEq] at e
          obtain ⟨rfl, rfl⟩ := e
          exact ⟨σ', true, hc, e1, q, .inl ⟨rfl, y, q2, rfl⟩⟩
        | exc c fs h2 => rw [q2] at e; cases e
        | bad => rw [q2] at e; cases e
      · simp only [R.ok.injEq] at e
        obtain ⟨rfl, rfl⟩ := e
        exact ⟨σ', false, _, e1, q, .inr ⟨rfl, rfl, rfl⟩⟩
      · cases e
    | exc c fs hc => rw [q] at e; cases e
    | bad => rw [q] at e; cases e
  · cases e
/-- what is true ahead of turn i -/
def CInv (G : Gx) (H1 : Hp) (ρ1 : Ro) (D : Addr) (ck : WH → Bool) (F : W → WH → R (Option W)) (items ys : List W) (hE : WH) (i : Nat) (Hc : Hp) : Prop :=
  i ≤ items.length ∧ ∃ ρc hc acc ysa rest, Ext H1 ρ1 Hc ρc ∧ HRep G Hc ρc hc ∧ (D ∈ ρc.no ∧ D ∉ ρc.at_ ∧ Hc D = some (.lst acc)) ∧ RepL G Hc ρc ysa acc ∧ ysa.length ≤ i ∧ compL ck F (items.drop i) hc = .ok rest hE ∧ ys = ysa ++ rest
section
variable {G : Gx} {T : Cal} {Wx : WX} {σ : L2.St} {H : Hp} {Q : VK}
theorem comp_read {own : List Nat} {tg : Tg} {ik : IK} {es : List E} {cond elt : E} (htg : ∀ i ∈ tgV tg, i ∈ own) (g : tF G Wx (ev T (.comp own tg ik es cond elt)) σ H Q) :
    tLc (iW G Wx T ik es) (gW G tg) (tB (tW G noW (ev T cond))) (tW G noW (ev T elt)) own σ H Q := by
  obtain ⟨ρ, σw, h, sr, hr, g⟩ := g
  simp only [ev] at g
  refine ⟨ρ, σw, h, sr, hr, ?_⟩
  cases q : evs T es σw h with
  | exc c fs h' => rw [q] at g; exact g
  | bad => rw [q] at g; exact g
  | ok ws h1 =>
    rw [q] at g
    simp only [R.bind_ok] at g
    intro vs H1 ρ1 e1 hr1 rv
    cases ei : itemsOf h1 ik ws with
    | none => rw [ei] at g; exact g.elim
    | some items =>
      rw [ei] at g
      simp only at g
      by_cases hz : items.length ≤ big
      · rw [if_pos hz] at g
        refine ⟨ρ1, ws, h1, items, e1, hr1, rv, ei, fun J jok D hD => ?_⟩
        have g : GF G Wx σ H ρ ((compL (stands ik ws items) (compF T own tg cond elt σw) items h1).bind fun ys h => .ok (.lst ys) h) Q := g
        cases ec : compL (stands ik ws items) (compF T own tg cond elt σw) items h1 with
        | exc c fs h' => exact absurd ec compL_ok
        | bad => rw [ec] at g; exact g.elim
        | ok ys hE =>
          rw [ec] at g
          obtain ⟨us, eu, k⟩ := g
          cases eu
          refine ⟨fun i m Hc => m = items.length - i ∧ CInv G H1 ρ1 D (stands ik ws items) (compF T own tg cond elt σw) items ys hE i Hc, ⟨_, rfl, Nat.zero_le _, ?_⟩, ?_⟩
          · have ex : Ext H1 ρ1 (upd H1 D (.lst [])) (ρ1.hold D) := by
              refine ⟨fun _ _ z => z, fun a m => List.mem_cons_of_mem _ m, fun a o z _ => by rw [upd_ne (ne_of_none z hD)]; exact z, fun a m => ?_, fun a m => .inl m⟩
              rcases List.mem_cons.mp m with z | z
              · rw [z]; exact .inr hD
              · exact .inl z
            refine ⟨ρ1.hold D, h1, [], [], ys, ex, ⟨hr1.len, hr1.nd, fun a m z => ?_, fun j a o z1 z2 => (hr1.at_ j a o z1 z2).mono ex fun u hu => by rw [upd_ne (ne_of_none hu hD)]; exact hu⟩, ⟨List.mem_cons_self, fun m => hr1.live D (ρ1.sub D m) hD, upd_same⟩, RepL.nil, Nat.le_refl _, by rw [List.drop_zero]; exact ec, rfl⟩
            by_cases y : a = D
            · rw [y, upd_same] at z; cases z
            · rw [upd_ne y] at z
              rcases List.mem_cons.mp m with m | m
              · exact y m
              · exact hr1.live a m z
          · rintro i m Hc ⟨rfl, hi, ρc, hc, acc, ysa, rest, xc, hrc, ⟨mD, nD, hDc⟩, ra, hl, el, rfl⟩
            by_cases hlt : i < items.length
            · obtain ⟨w, ew⟩ : ∃ w, items[i]? = some w := ⟨items[i], List.getElem?_eq_getElem hlt⟩
              have ed : items.drop i = w :: items.drop (i + 1) := by
                rw [List.drop_eq_getElem_cons hlt]
                rw [List.getElem?_eq_getElem hlt] at ew
                rw [Option.some.inj ew]
              rw [ed] at el
              obtain ⟨ckc, o, hf, zs, ef, er, rfl⟩ := compL_cons el
              obtain ⟨go, yl⟩ := (jok i Hc ρc hc xc hrc ckc).1 w ew
              refine .inr ⟨go, CInv G H1 ρ1 D (stands ik ws items) (compF T own tg cond elt σw) items (ysa ++ addO o zs) hE (i + 1), fun H' n => ⟨items.length - (i + 1), by omega, rfl, n⟩, fun x H2 y => ?_⟩
              obtain ⟨ρ2, x2, hr2, rp⟩ := yl x H2 y
              obtain ⟨σ', b, hb, ea, ec', hcase⟩ := compF_ok ef
              have sr2 : SRep G H2 ρ2 σw σ := ((sr.mono e1).mono xc).mono x2
              refine ⟨ρ2, wipE σw own, hc, w, σ', sr2.wip2 own, hr2, rp, ea, fun σ2 s2 same => ⟨(same.wipe htg).trans (wipe_twice σ own), ρ2, σ', hc, s2, hr2, ?_⟩⟩
              rw [ec']
              intro v H3 ρ3 x3 hr3 r3
              simp only [Rep] at r3
              refine ⟨b, r3, ?_⟩
              have stay : ∀ {H4 : Hp} {ρ4 : Ro}, Ext Hc ρc H4 ρ4 → D ∈ ρ4.no ∧ D ∉ ρ4.at_ ∧ H4 D = some (.lst acc) := fun x4 =>
                ⟨x4.sup D mD, fun m => (x4.newA D m).elim nD fun z => (by rw [hDc] at z; cases z), x4.keep D _ hDc nD⟩
              rcases hcase with ⟨rfl, y', ey, rfl⟩ | ⟨rfl, rfl, rfl⟩
              · show tW G noW (ev T elt) σ2 H3 _
                refine ⟨ρ3, σ', hb, s2.mono x3, hr3, ?_⟩
                rw [ey]
                intro yv H4 ρ4 x4 hr4 r4
                have xx := (x2.trans x3).trans x4
                obtain ⟨m4, n4, d4⟩ := stay xx
                have hacc : acc.length < sizeLine := by rw [ra.length, ← big_eq]; omega
                have mv : ∀ a, a ∉ ρ4.no → upd H4 D (.lst (acc ++ [yv])) a = H4 a := fun a n => upd_ne fun z => n (z ▸ m4)
                refine ⟨acc, d4, hacc, by omega, ρ4, hf, acc ++ [yv], ysa ++ [y'], zs, ?_, ?_, ⟨m4, n4, upd_same⟩, RepL.move mv (fun _ z => z) (fun _ _ z => z) _ _ (RepL.append (RepL.mono xx _ _ ra) (RepL.cons r4 RepL.nil)), by simp; omega, er, by simp [addO]⟩
                · have x5 := xc.trans xx
                  exact ⟨x5.pre, x5.sup, fun a o z n => by rw [upd_ne (ne_of_none z hD)]; exact x5.keep a o z n, x5.new, x5.newA⟩
                · refine ⟨hr4.len, hr4.nd, fun a m z => ?_, fun j a ob z1 z2 => (hr4.at_ j a ob z1 z2).move mv (fun _ z => z) (fun _ _ z => z) (upd_ne fun z => n4 (z ▸ List.mem_of_getElem? z1))⟩
                  by_cases y : a = D
                  · rw [y, upd_same] at z; cases z
                  · rw [upd_ne y] at z; exact hr4.live a m z
              · show CInv _ _ _ _ _ _ _ _ _ _ _
                have xx := x2.trans x3
                obtain ⟨m4, n4, d4⟩ := stay xx
                exact ⟨by omega, ρ3, _, acc, ysa, zs, xc.trans xx, hr3, ⟨m4, n4, d4⟩, RepL.mono xx _ _ ra, by omega, er, rfl⟩
            · have ei' : i = items.length := by omega
              subst ei'
              rw [List.drop_length] at el
              obtain ⟨ckc, rfl, rfl⟩ := compL_nil el
              refine .inl ⟨(jok _ Hc ρc hE xc hrc ckc).2 rfl, ?_⟩
              have mv : ∀ a, a ∉ ρc.no → hideAt Hc D a = Hc a := fun a n => if_neg (show ¬ a = D from fun z => n (by rw [z]; exact mD))
              have hs : ∀ a, a ∈ (ρc.drop D nD).no → a ∈ ρc.no := fun a m => (List.mem_filter.mp m).1
              have kk := k D acc (hideAt Hc D) (ρc.drop D nD) (e1.trans ⟨xc.pre, fun a m => List.mem_filter.mpr ⟨xc.sup a m, by
                  simp only [ne_eq, decide_not, Bool.not_eq_true', decide_eq_false_iff_not]
                  exact fun z => hr1.live a m (z ▸ hD)⟩, fun a o z n => by
                    show (if a = D then none else Hc a) = _
                    rw [if_neg (ne_of_none z hD)]; exact xc.keep a o z n, fun a m => xc.new a (hs a m), xc.newA⟩)
                ⟨hrc.len, hrc.nd, fun a m z => ?_, fun j a ob z1 z2 => (hrc.at_ j a ob z1 z2).move mv hs (fun _ _ z => z) (if_neg (show ¬ a = D from fun z => nD (by rw [← z]; exact List.mem_of_getElem? z1)))⟩
                (by rw [List.append_nil]; exact RepL.move mv hs (fun _ _ z => z) _ _ ra) (if_pos rfl) (by rw [ra.length, ← big_eq]; omega)
              · rw [hide_upd hDc] at kk; exact kk
              · have n2 := (List.mem_filter.mp m).2
                simp only [ne_eq, decide_not, Bool.not_eq_true', decide_eq_false_iff_not] at n2
                have z : (if a = D then none else Hc a) = none := z
                rw [if_neg n2] at z
                exact hrc.live a (hs a m) z
      · rw [if_neg hz] at g; exact g.elim
end
end Y

namespace Y
open PySem PySem.Spec PyProof.Rows L2
/-! set(a list) -/
/-- a set as it is born -/
abbrev born (w : World) : Obj := { cls := .type "set", dict := none, data := .set #[] 0 (.fresh 0 0 (!w.params.followText "set-order")) }
abbrev walker (l : Addr) : Obj := { cls := .type "list_iterator", data := .fields #[.ref l, .int 0 0] }
section
variable {P : Program} {w : World} {A : Around} {E : Value → Shared → Prop} {s : Shared}
theorem set_of_list {l : Addr} {items : Array Value} {Q : Value → Shared → Prop} (Φ : Heap → Prop) (hh : A.handled = none) (hl : s.heap.IsList l items)
    (loop : ∀ R : Result → Shared → Prop, (∀ h' tk, Φ h' → (∀ b o, s.heap.get? b = some o → h'.get? b = some o) → R (.ok (.ret .none)) { s with heap := h', toks := tk }) →
      ∀ {B : Around}, B.in1.handled = none → codeAny (model P w) B (.builtin "set.update.loop" ⟨[.ref s.heap.objs.size, .ref (s.heap.push (born w)).objs.size], []⟩) R { s with heap := (s.heap.push (born w)).push (walker l) })
    (h : ∀ h' tk, Φ h' → (∀ b o, s.heap.get? b = some o → h'.get? b = some o) → Q (.ref s.heap.objs.size) { s with heap := h', toks := tk }) :
    wpAny (model P w) A (call (.type "set") [.ref l]) Q E s := by
  obtain ⟨c, tl, hmro⟩ := F.called_set.mro
  have made := F.called_set.made
  have isub := F.called_set.sub
  refine wpAny_call (codeAny_of_tree ?_)
  show wpAny _ _ (callAny (.type "set") _) _ _ _
  refine wpAny_pure ⟨Code.quiet_builtin _ (by decide +kernel), codeAny_builtin F.entry_type_call ?_⟩
  rw [Around.under_plain (weight_type_call_type "set" [.ref l] []) rfl]
  have k1 := F.called_set.notType
  have k2 := F.called_set.canCreate
  have k3 := F.typeCall_set_1 (.ref l)
  repeat (any_goals (first | assumption | wp_step))
  refine codeAny_mono (code_set_led1 (.ref l) (E := E) (Q₁ := fun x z => x = .ref s.heap.objs.size ∧ z = { s with heap := s.heap.push (born w) }) ⟨rfl, rfl⟩) fun r z zr => ?_
  cases r with
  | error e => exact zr
  | ok fl =>
  cases fl with
  | ret x =>
    obtain ⟨rfl, rfl⟩ := zr
    have at0 : (s.heap.push (born w)).get? s.heap.objs.size = some (born w) := Heap.get?_push_size _ rfl
    have ty0 : Shared.TypeIs { s with heap := s.heap.push (born w) } (.ref s.heap.objs.size) "set" := ⟨_, at0, rfl⟩
    have k4 := F.called_set.init.lookup
    have k5 := F.called_set.init.bind (.ref s.heap.objs.size)
    repeat (any_goals (first | assumption | wp_step))
    refine codeAny_mono (codeAny_call_builtin (R := wants (fun r z => r = .none ∧ ∃ h' tk, z = { s with heap := h', toks := tk } ∧ Φ h' ∧ ∀ b o, s.heap.get? b = some o → h'.get? b = some o) E) F.called_set.init.plain F.entry_set_init (check_set_init_1 ty0 ?_)) fun r z zr => ?_
    · obtain ⟨⟨oc, od, odt, osl⟩, ol, cl, nl, dl⟩ := hl
      simp only at cl dl
      subst cl; subst dl
      have ol2 : (s.heap.push (born w)).get? l = some { cls := .type "list", dict := od, data := .seq items nl, slots := osl } := Heap.get?_push_of_some _ ol
      have k6 := F.sub_list_set
      have k7 := F.sub_list_frozenset
      have k8 : (Value.type "list" == Value.type "dict") = false := by decide
      have il : (s.heap.push (born w)).IsList l items := ⟨_, ol2, rfl, nl, rfl⟩
      unfold Builtin.«set.__init__» noKeywords Builtin.Frozenset.updateFrom
      generalize gi : pyIter = PI
      wp_walk
      subst gi
      refine wpAny_pyIter_list il ?_
      refine wpAny_bind (wpAny_runValue ?_)
      refine loop _ (fun h' tk φ kp => ?_) (by simp [hh])
      show wpAny _ _ _ _ _ _
      refine wpAny_pure ?_
      show wpAny _ _ (ret Value.none) _ _ _
      exact wpAny_pure ⟨rfl, h', tk, rfl, φ, kp⟩
    · cases r with
      | error e => exact zr
      | ok fl =>
      cases fl with
      | ret r =>
        obtain ⟨rfl, h', tk, rfl, φ, kp⟩ := zr
        repeat (any_goals (first | assumption | wp_step))
        exact h _ _ φ kp
      | _ => exact zr.elim
  | _ => exact zr.elim
theorem set_of_ints {l : Addr} {items : Array Value} (ns : List Int) {Q : Value → Shared → Prop} (hh : A.handled = none) (hl : s.heap.IsList l items) (hit : IntsAre items.toList ns) (hb : ns.length + 1 < scanBound)
    (h : ∀ h' tk, (∃ c, SetR w h' s.heap.objs.size (fun j => decide (j ∈ ns)) c ∧ c ≤ ns.length) → (∀ b o, s.heap.get? b = some o → h'.get? b = some o) → Q (.ref s.heap.objs.size) { s with heap := h', toks := tk }) :
    wpAny (model P w) A (call (.type "set") [.ref l]) Q E s := by
  refine set_of_list (fun h' => ∃ c, SetR w h' s.heap.objs.size (fun j => decide (j ∈ ns)) c ∧ c ≤ ns.length) hh hl (fun R hR B hB => ?_) h
  have sz : items.size = ns.length := by have q := IntsAre.length hit; rwa [Array.length_toList] at q
  have ls : l < s.heap.objs.size := by obtain ⟨_, ol, _⟩ := hl; exact Heap.lt_size ol
  have p1 : (s.heap.push (born w)).objs.size = s.heap.objs.size + 1 := Heap.size_push ..
  have val : ∀ (i : Nat) (v : Value), items[i]? = some v → ∃ k t, ns[i]? = some k ∧ v = .int k t := fun i v hv => by
    have hi : i < ns.length := by rw [← sz]; exact (Array.getElem?_eq_some_iff.mp hv).1
    obtain ⟨t, e⟩ := PyProof.Rows.IntsAre.int_at hit i v (by rw [Array.getElem?_toList]; exact hv)
    exact ⟨ns[i], t, List.getElem?_eq_getElem hi, by rw [e, List.getD_eq_getElem?_getD, List.getElem?_eq_getElem hi] <;> rfl⟩
  refine set_update_ints ((Walks.list hB _ l (p1 ▸ Nat.ne_of_lt (Nat.lt_succ_of_lt ls)) items).toS) s.heap.objs.size (p1 ▸ fun m => (List.mem_cons.mp m).elim (fun q => Nat.ne_of_lt (Nat.lt_succ_self _) q) fun q => Nat.ne_of_gt ls (List.mem_singleton.mp q)) ns sz hb val (items.size - 0) 0 _ (by omega) (Nat.zero_le _) ⟨⟨_, Heap.get?_push_size _ rfl, rfl, rfl⟩, (hl.push _).push _⟩
    ⟨0, Nat.le_refl 0, setR_new_at (Heap.get?_push_of_some _ (Heap.get?_push_size _ rfl))⟩ fun s' c hm hc hS => ?_
  obtain ⟨h', g', d', tk', os'⟩ := s'
  have eg : g' = s.gens := hm.gens
  have ed : d' = s.drawn := hm.drawn
  have eo : os' = s.os := hm.os
  subst eg; subst ed; subst eo
  refine hR h' tk' ⟨c, hS, by omega⟩ fun b o e => ?_
  have lt : b < s.heap.objs.size := Heap.lt_size e
  exact hm.heap b o (p1 ▸ fun m => (List.mem_cons.mp m).elim (fun q => Nat.ne_of_lt lt q) fun q => Nat.ne_of_lt (Nat.lt_succ_of_lt lt) (List.mem_singleton.mp q)) (Heap.get?_push_of_some _ (Heap.get?_push_of_some _ e))
end
end Y

namespace Y
/-! sorted(set(ints)) -/
theorem insU_mem (x z : Int) : ∀ l : List Int, z ∈ insU x l ↔ z = x ∨ z ∈ l
  | [] => by simp [insU]
  | y :: r => by
    unfold insU
    split
    · simp
    · split
      · rename_i e; subst e; simp
      · have ih := insU_mem x z r
        simp only [List.mem_cons, ih]
        exact ⟨fun q => q.elim (fun q => .inr (.inl q)) fun q => q.elim .inl fun q => .inr (.inr q), fun q => q.elim (fun q => .inr (.inl q)) fun q => q.elim .inl fun q => .inr (.inr q)⟩
theorem ssetI_mem (z : Int) : ∀ l : List Int, z ∈ ssetI l ↔ z ∈ l
  | [] => by simp [ssetI]
  | y :: r => by simp [ssetI, insU_mem, ssetI_mem z r]
theorem insU_sorted (x : Int) : ∀ l : List Int, l.Pairwise (· < ·) → (insU x l).Pairwise (· < ·)
  | [], _ => by simp [insU]
  | y :: r, h => by
    obtain ⟨h1, h2⟩ := List.pairwise_cons.mp h
    unfold insU
    split
    · rename_i q
      refine List.pairwise_cons.mpr ⟨fun z m => ?_, h⟩
      rcases List.mem_cons.mp m with e | m
      · subst e; exact q
      · have := h1 z m; omega
    · split
      · exact h
      · refine List.pairwise_cons.mpr ⟨fun z m => ?_, insU_sorted x r h2⟩
        rcases (insU_mem x z r).mp m with e | m
        · omega
        · exact h1 z m
theorem ssetI_sorted : ∀ l : List Int, (ssetI l).Pairwise (· < ·)
  | [] => .nil
  | y :: r => insU_sorted y _ (ssetI_sorted r)
theorem insU_len (x : Int) : ∀ l : List Int, (insU x l).length ≤ l.length + 1
  | [] => by simp [insU]
  | y :: r => by
    have := insU_len x r
    unfold insU
    split
    · simp
    · split
      · simp
      · simp; exact this
theorem ssetI_len : ∀ l : List Int, (ssetI l).length ≤ l.length
  | [] => Nat.le_refl _
  | y :: r => by
    have h1 := insU_len y (ssetI r)
    have h2 := ssetI_len r
    simp only [ssetI, List.length_cons]
    omega
theorem sorted_uniq : ∀ (a b : List Int), a.Pairwise (· < ·) → b.Pairwise (· < ·) → (∀ z, z ∈ a ↔ z ∈ b) → a = b
  | [], [], _, _, _ => rfl
  | [], y :: r, _, _, h => by simpa using (h y)
  | x :: r, [], _, _, h => by simpa using (h x)
  | x :: r, y :: t, h1, h2, h => by
    obtain ⟨a1, a2⟩ := List.pairwise_cons.mp h1
    obtain ⟨b1, b2⟩ := List.pairwise_cons.mp h2
    have e : x = y := by
      have q1 := (h x).mp (by simp)
      have q2 := (h y).mpr (by simp)
      rcases List.mem_cons.mp q1 with e | m1
      · exact e
      · rcases List.mem_cons.mp q2 with e | m2
        · exact e.symm
        · have := a1 y m2; have := b1 x m1; omega
    subst e
    rw [sorted_uniq r t a2 b2 fun z => ?_]
    have q := h z
    simp only [List.mem_cons] at q
    constructor
    · intro m
      have := a1 z m
      rcases q.mp (.inr m) with e | m2
      · omega
      · exact m2
    · intro m
      have := b1 z m
      rcases q.mpr (.inr m) with e | m2
      · omega
      · exact m2
end Y

namespace Y
open PySem PySem.Spec PyProof.Rows L2
/-- set(a list of ints) -/
def rSetL (K : PySem.W.Frag) (w : World) : List V → Hp → VK → Prop := fun vs H Q => ∃ (a : Addr) (ns : List Int), vs = [V.ref a] ∧ SqL K H a (ns.map V.int) ∧ ns.length < 60 ∧ ∀ p c, H p = none → c ≤ ns.length → Q (.ref p) (upd H p (SetO w p (fun j => decide (j ∈ ns)) c))
section
variable {X : Cx}
theorem cr_setL (hc : X.calm = true) : CallR X (.type "set") (rSetL X.K X.w) := by
  intro pins s σ H vs us Q I r hq
  obtain ⟨a, ns, rfl, sq, hl, q⟩ := hq
  obtain ⟨its, rv, il, hz⟩ := I.list sq
  rw [Vals.ref1 r]
  refine set_of_ints ns (I.ok.hd hc) il.isList (ints_of_vals rv) (by unfold scanBound; omega) fun h' tk ⟨c, R, hcl⟩ kp => ?_
  have n0 : H s.heap.objs.size = none := I.hok.fresh (Nat.le_refl _)
  exact ⟨.ref s.heap.objs.size, _, I.call' (ch := []) rfl (Un.laid kp (Nat.le_refl _) n0) (I.hok.laid kp (Nat.le_refl _) (setO_new R)) I.bare (fun _ z => nomatch z), rfl, q _ c n0 hcl⟩
end
theorem boot_set' : bootBuiltins ("set" : Str) = some (.type "set") := PyProof.Rows.boot_set
section
variable {c : Cc} {G : Gx} {T : Cal} {lvl : Nat} {Wx : WX} {X : Cx} {a : Expr} {pos p p2 pos2 : Pos}
theorem intsOf_eq : ∀ {xs : List W} {l : List Int}, intsOf xs = some l → xs = l.map W.int
  | [], l, e => by cases e; rfl
  | .int i :: r, l, e => by
    simp only [intsOf, Option.map_eq_some_iff] at e
    obtain ⟨l2, e2, rfl⟩ := e
    rw [intsOf_eq e2]; rfl
  | .non :: _, _, e => by cases e
  | .bl _ :: _, _, e => by cases e
  | .str _ :: _, _, e => by cases e
  | .tup _ :: _, _, e => by cases e
  | .lst _ :: _, _, e => by cases e
  | .dct _ _ :: _, _, e => by cases e
  | .ref _ :: _, _, e => by cases e
theorem RepL_intsV {H : Hp} {ρ : Ro} : ∀ {l : List Int} {vs : List V}, RepL G H ρ (l.map W.int) vs → vs = l.map V.int
  | [], vs, r => by rw [List.map_nil, RepL] at r; exact r
  | i :: l, vs, r => by
    rw [List.map_cons, RepL] at r
    obtain ⟨v, t, rfl, h1, h2⟩ := r
    rw [Rep] at h1
    rw [h1, RepL_intsV h2]; rfl
theorem RepL_ints {H : Hp} {ρ : Ro} : ∀ l : List Int, RepL G H ρ (l.map W.int) (l.map V.int)
  | [] => RepL.nil
  | n :: r => RepL.cons (by rw [Rep]) (RepL_ints r)
theorem r_sset (ok : XOk c G T lvl Wx X) {n m : Str} {es : List E} {e : E} (hn : n = ("sorted" : Str)) (hg : c.gl n = true) (hm : m = ("set" : Str)) (hg2 : c.gl m = true) (he : es = [e]) (hs : ∀ b p, a ≠ .Starred b p) (ha : PE X a (tW G Wx (ev T e))) :
    PE X (.Call (.Name n p) [.Call (.Name m p2) [a] [] pos2] [] pos) (tW G Wx (ev T (.op .sset es))) := by
  subst he hn hm
  obtain ⟨g1, g2⟩ := ok.gl hg
  obtain ⟨g3, g4⟩ := ok.gl hg2
  have m1 : X.mg "sorted" = none := ok.blt _ (by simp [bltNames])
  have m2 : X.mg "set" = none := ok.blt _ (by simp [bltNames])
  have inner : PE X (.Call (.Name "set" p2) [a] [] pos2) (tCB (rSetL X.K X.w) (tCons (tW G Wx (ev T e)) tNil)) := pe_callTy (cr_setL ok.calm) g3 m2 boot_set' (pa_cons ha pa_nil (star_cons hs)) (by decide) g4 (star_cons hs) rfl
  have pa : PA X [.Call (.Name "set" p2) [a] [] pos2] (tCons (tCB (rSetL X.K X.w) (tCons (tW G Wx (ev T e)) tNil)) tNil) := pa_cons inner pa_nil
  refine PEimp (pe_callB (cr_sortedSet ok.calm) g1 m1 PyProof.Rows.boot_sorted pa (by decide) g2 rfl rfl) fun σ H Q ⟨ρ, σw, h, sr, hr, g⟩ => ?_
  simp only [ev] at g
  refine ⟨ρ, σw, h, sr, hr, ?_⟩
  have g1 : GL G Wx σ H ρ (evs T [e] σw h) _ := GL.bind g
  refine (evs_one g1).imp fun v H1 ⟨ρ1, ws, h1, e1, hr1, rv, gg⟩ => ?_
  obtain ⟨w, ew, k⟩ := opt_some_of (show GW G Wx σ H1 ρ1 (opt (opW .sset (ws.map (view h1))) h1) Q from gg)
  have hl := rv.length
  match ws, hl with
  | [w1], _ =>
    obtain ⟨v', ev', rp⟩ := rv.one
    cases ev'
    have hv := view_rep hr1 rp
    simp only [List.map_cons, List.map_nil, opW] at ew
    split at ew
    · rename_i xs ews
      simp only [List.cons.injEq, and_true] at ews
      rw [ews] at hv
      simp only [Option.bind_eq_some_iff] at ew
      obtain ⟨l, el, ew⟩ := ew
      split at ew
      · rename_i hlen
        cases ew
        have := intsOf_eq el
        subst this
        simp only [VRep] at hv
        obtain ⟨p, vs, rfl, t1, l1, r1⟩ := hv
        have hvs := RepL_intsV r1
        subst hvs
        refine ⟨p, l, rfl, ok.K ▸ t1.sq, hlen, fun q c n0 hc => ⟨q, _, c, rfl, upd_same, by omega, fun ns p2 hp hmem _ hn2 => ?_⟩⟩
        have e : ns = ssetI l := sorted_uniq ns (ssetI l) hp (ssetI_sorted l) fun z => by rw [hmem z, ssetI_mem]; simp
        subst e
        have hr2 := hr1.laid (o := SetO X.w q (fun j => decide (j ∈ l)) c) n0
        have hz : ((ssetI l).map V.int).length ≤ sizeLine := by
          rw [List.length_map, sizeLine_eq]
          have := ssetI_len l
          omega
        exact k _ _ ρ1 ((Ext.laid n0).trans (Ext.laid hn2)) (hr2.laid hn2) (Rep.lst_new hr2 hn2 hz (RepL_ints _))
      · cases ew
    · cases ew
end
end Y

namespace Y
open PySem PySem.Spec PyProof.Rows L2
/-! a new list from + or * -/
def rBF (G : Gx) (o : BO) : R2 := fun x y H Q => ∃ ρ h a b ws, HRep G H ρ h ∧ VRep G H ρ a x ∧ VRep G H ρ b y ∧ binW o a b = some (.lst ws) ∧ ∀ p vs H' ρ', Ext H ρ H' ρ' → HRep G H' ρ' h → RepL G H' ρ' ws vs → H' p = none → vs.length ≤ sizeLine → Q (.ref p) (upd H' p (.lst vs))
section
variable {X : Cx} {G : Gx}
theorem op_addF (hG : X.K = G.K) : OpR X (binaryOp .Add) (rBF G .add) := by
  intro pins s σ H x y v u Q I rx ry ⟨ρ, h, a, b, ws, hr, ra, rb, e, k⟩
  cases a <;> cases b <;> simp only [binW, reduceCtorEq, Option.some.injEq, Option.ite_none_right_eq_some, and_false] at e
  obtain ⟨hl, e⟩ := e
  cases e
  simp only [VRep] at ra rb
  obtain ⟨p1, x1, rfl, t1, l1, r1⟩ := ra
  obtain ⟨p2, x2, rfl, t2, l2, r2⟩ := rb
  have hz : x1.length + x2.length ≤ sizeLine := by rw [r1.length, r2.length, ← big_eq]; exact hl
  exact op_catR hG pins s σ H _ _ v u Q I rx ry ⟨p1, p2, x1, x2, rfl, rfl, t1, t2, hz, fun p n => k p _ H ρ (Ext.refl _ _) hr (r1.append r2) n (by rw [List.length_append]; exact hz)⟩
theorem op_mulF (hG : X.K = G.K) : OpR X (binaryOp .Mult) (rBF G .mul) := by
  intro pins s σ H x y v u Q I rx ry ⟨ρ, h, a, b, ws, hr, ra, rb, e, k⟩
  cases a <;> cases b <;> simp only [binW, reduceCtorEq, Option.some.injEq, Option.ite_none_right_eq_some, and_false] at e
  obtain ⟨hm, e⟩ := e
  cases e
  simp only [smallI, Bool.and_eq_true, decide_eq_true_eq] at hm
  simp only [VRep, Rep] at ra rb
  obtain ⟨p1, x1, rfl, t1, l1, r1⟩ := ra
  rename_i i j
  have hz : x1.length * j.toNat ≤ sizeLine := by rw [r1.length, ← big_eq]; exact hm.2
  exact op_repR hG pins s σ H _ _ v u Q I rx ry ⟨p1, j, x1, rfl, rb, t1, by omega, by omega, hz, fun p n => k p _ H ρ (Ext.refl _ _) hr (r1.rep _) n (by rw [PyProof.Rows.lm_len_rep_flat, Nat.mul_comm]; exact hz)⟩
variable {c : Cc} {T : Cal} {lvl : Nat} {Wx : WX} {a b : Expr} {pos : Pos}
theorem r_binF (ok : XOk c G T lvl Wx X) {o : BO} (ho : OpR X (binaryOp (boS o)) (rBF G o)) {e f : E} (ha : PE X a (tW G Wx (ev T e))) (hb : PE X b (tW G Wx (ev T f))) : PE X (.BinOp a (boS o) b pos) (tF G Wx (ev T (.bin o e f))) := by
  refine PEimp (pe_op ho ha hb) fun σ H Q ⟨ρ, σw, h, sr, hr, g⟩ => ?_
  simp only [ev] at g
  refine ⟨ρ, σw, h, sr, hr, ?_⟩
  cases q1 : ev T e σw h with
  | exc c fs h' => rw [q1] at g; exact g
  | bad => rw [q1] at g; exact g
  | ok w1 h1 =>
    rw [q1] at g
    simp only [R.bind_ok] at g
    intro v1 H1 ρ1 e1 hr1 rp1
    refine ⟨ρ1, σw, h1, sr.mono e1, hr1, ?_⟩
    cases q2 : ev T f σw h1 with
    | exc c fs h' => rw [q2] at g; exact fun cls d H' ρ' e' hr' x => g cls d H' ρ' (e1.trans e') hr' x
    | bad => rw [q2] at g; exact g
    | ok w2 h2 =>
      rw [q2] at g
      simp only [R.bind_ok] at g
      intro v2 H2 ρ2 e2 hr2 rp2
      cases q3 : binW o (view h2 w1) (view h2 w2) with
      | none => rw [q3] at g; exact g.elim
      | some w =>
        rw [q3] at g
        obtain ⟨ws, rfl, k⟩ := g
        exact ⟨ρ2, h2, _, _, ws, hr2, view_rep hr2 (Rep.mono e2 _ _ rp1), view_rep hr2 rp2, q3, fun p vs H' ρ' e' hr' rl n hl => k p vs H' ρ' ((e1.trans e2).trans e') hr' rl n hl⟩
end
end Y

namespace Y
open PySem PySem.Spec PyProof.Rows L2
/-! len(set(a list of ints and texts)) -/
@[reducible] def decMemG {α : Type} [DecidableEq α] (x : α) (l : List α) : Decidable (x ∈ l) := inferInstance
instance decMemK (x : L2.Key) (l : List L2.Key) : Decidable (x ∈ l) := decMemG x l
theorem cnt_congr {α β : Type} [DecidableEq α] [DecidableEq β] (f : α → β) (hf : ∀ a b, f a = f b → a = b) : ∀ (l s : List α) (n : Nat), (l.map f).foldl cntS (s.map f, n) = (((l.foldl cntS (s, n)).1).map f, (l.foldl cntS (s, n)).2)
  | [], s, n => rfl
  | x :: r, s, n => by
    have e : (f x ∈ s.map f) ↔ x ∈ s := ⟨fun m => by obtain ⟨y, my, ey⟩ := List.mem_map.mp m; rw [← hf _ _ ey]; exact my, fun m => List.mem_map_of_mem m⟩
    have e2 : (if f x ∈ s.map f then n else n + 1) = if x ∈ s then n else n + 1 := by
      by_cases q : x ∈ s
      · rw [if_pos q, if_pos (e.mpr q)]
      · rw [if_neg q, if_neg (fun z => q (e.mp z))]
    simp only [List.map_cons, List.foldl_cons]
    have e3 : cntS (s.map f, n) (f x) = ((x :: s).map f, if x ∈ s then n else n + 1) := by simp only [cntS, e2, List.map_cons]
    rw [e3, cnt_congr f hf r (x :: s)]
    rfl
theorem cnt_map {α β : Type} [DecidableEq α] [DecidableEq β] (f : α → β) (hf : ∀ a b, f a = f b → a = b) (l : List α) : cntF (l.map f) = cntF l := by
  have := cnt_congr f hf l [] 0
  rw [List.map_nil] at this
  unfold cntF
  rw [this]
theorem cnt_seen {α : Type} [DecidableEq α] : ∀ (l s : List α) (n : Nat), (l.foldl cntS (s, n)).1 = l.reverse ++ s
  | [], s, n => rfl
  | x :: r, s, n => by
    rw [List.foldl_cons]
    show (r.foldl cntS (x :: s, _)).1 = _
    rw [cnt_seen r]
    simp
theorem cnt_snoc {α : Type} [DecidableEq α] (l : List α) (x : α) : cntF (l ++ [x]) = if x ∈ l then cntF l else cntF l + 1 := by
  unfold cntF
  rw [List.foldl_append]
  show (if x ∈ (l.foldl cntS ([], 0)).1 then _ else _) = _
  rw [cnt_seen]
  simp
theorem cnt_le {α : Type} [DecidableEq α] (l : List α) : cntF l ≤ l.length := by
  have : ∀ (l s : List α) (n : Nat), (l.foldl cntS (s, n)).2 ≤ n + l.length := by
    intro l
    induction l with
    | nil => intro s n; exact Nat.le_refl _
    | cons x r ih =>
      intro s n
      rw [List.foldl_cons]
      have := ih (x :: s) (if x ∈ s then n else n + 1)
      have e : cntS (s, n) x = (x :: s, if x ∈ s then n else n + 1) := rfl
      rw [e]
      refine Nat.le_trans this ?_
      rw [List.length_cons]
      split <;> omega
  have := this l [] 0
  unfold cntF
  omega
section
variable {P : Program} {w : World} {A : Around} {E : Value → Shared → Prop} {s : Shared}
theorem set_update_keys {I : Addr} {fp wr : List Addr} {G : Array GenState → Array GenState → Prop} {n : Nat} {Pv : Nat → Value → Prop} {St : Nat → Shared → Prop} {R : Result → Shared → Prop}
    (W : WalksS P w A.in1 I fp wr G n Pv St) (S : Addr) (hSf : S ∉ fp) (ks : List Key) (hn : n = ks.length) (hb : ks.length + 1 < scanBound) (hval : ∀ i v, Pv i v → ∃ k, ks[i]? = some k ∧ RelV (kV k) v) :
    ∀ (k i : Nat) (s : Shared), n - i = k → i ≤ n → St i s → s.heap.SetOf (mixKind P w) S (fun j => decide (j ∈ ks.take i)) (cntF (ks.take i)) →
      (∀ s', Moved (S :: wr) G s s' → s'.heap.SetOf (mixKind P w) S (fun j => decide (j ∈ ks)) (cntF ks) → R (.ok (.ret .none)) s') →
      codeAny (model P w) A (.builtin "set.update.loop" ⟨[.ref S, .ref I], []⟩) R s := by
  have hSw : S ∉ wr := fun h => hSf (W.sub _ h)
  have hsub : ∀ b ∈ wr, b ∈ S :: wr := fun b hb => List.mem_cons_of_mem _ hb
  intro k
  induction k with
  | zero =>
    intro i s hk' hi hst hS hR
    have hin : i = n := by omega
    subst hin
    refine codeAny_builtin F.entry_set_update_loop ?_
    rw [Around.under_plainId F.plain_set_update_loop _]
    show wpAny _ A.in1 (pyNext (.ref I) >>= _) _ _ s
    refine wpAny_bind (W.done s _ _ hst fun s' hm => ?_)
    show wpAny _ A.in1 (ret Value.none) _ _ s'
    have e : ks.take i = ks := List.take_of_length_le (by omega)
    rw [e] at hS
    exact wpAny_pure (hR s' (hm.mono hsub) (setOf_at hS fun o e => hm.heap S o hSw e))
  | succ k ih =>
    intro i s hk' hi hst hS hR
    have hlt : i < n := by omega
    refine codeAny_builtin F.entry_set_update_loop ?_
    rw [Around.under_plainId F.plain_set_update_loop _]
    show wpAny _ A.in1 (pyNext (.ref I) >>= _) _ _ s
    refine wpAny_bind (W.item i s _ _ hlt hst fun v s' hP hst' hm => ?_)
    obtain ⟨z, hz, rz⟩ := hval i v hP
    have hS' : s'.heap.SetOf (mixKind P w) S (fun j => decide (j ∈ ks.take i)) (cntF (ks.take i)) := setOf_at hS fun o e => hm.heap S o hSw e
    have hle : cntF (ks.take i) ≤ i := Nat.le_trans (cnt_le _) (by rw [List.length_take]; exact Nat.min_le_left _ _)
    show wpAny _ A.in1 (holding [v] (setAdd S v) >>= _) _ _ s'
    refine wpAny_bind (wpAny_holding ?_)
    unfold setAdd
    refine wpAny_holding ?_
    refine wpAny_bind ((mixKind P w).pyHash (kV_is rz) ?_)
    refine wpAny_setAddHashed_of (s := { s' with toks := s'.toks + 1 }) (kV_is rz) (key_scan rz) hS' (by omega) fun h' hsb hS2 => ?_
    have e1 : ks.take (i + 1) = ks.take i ++ [z] := by rw [List.take_add_one, hz]; rfl
    have hS3 : h'.SetOf (mixKind P w) S (fun j => decide (j ∈ ks.take (i + 1))) (cntF (ks.take (i + 1))) := by
      rw [e1, cnt_snoc]
      have ef : (fun j => decide (j ∈ ks.take i ++ [z])) = fun j => (decide (j ∈ ks.take i) || decide (j = z)) := by
        funext j
        simp [List.mem_append]
      rw [ef]
      have en : (if decide (z ∈ ks.take i) = true then cntF (ks.take i) else cntF (ks.take i) + 1) = if z ∈ ks.take i then cntF (ks.take i) else cntF (ks.take i) + 1 := by
        by_cases q : z ∈ ks.take i <;> simp [q]
      rw [← en]
      exact hS2
    refine wpAny_pure ⟨plainId_quiet F.plain_set_update_loop _, ih (i + 1) _ (by omega) hlt (W.frame _ s' _ _ hst' (Nat.le_succ _) fun b hb o e => ?_) hS3 fun s'' hm'' hS'' => ?_⟩
    · rw [hsb.2 b (fun h : b = S => hSf (by rw [← h]; exact hb))]; exact e
    · refine hR s'' (Moved.trans W.gtrans ((hm.mono hsub).then_heap (Nat.le_succ _) fun b o hb e => ?_) hm'') hS''
      rw [hsb.2 b (fun h : b = S => hb (by rw [h]; exact List.mem_cons_self))]; exact e
theorem set_of_keys {l : Addr} {items : Array Value} (ks : List Key) {Q : Value → Shared → Prop} (hh : A.handled = none) (hl : s.heap.IsList l items) (hit : Vals (ks.map kV) items.toList) (hb : ks.length + 1 < scanBound)
    (h : ∀ h' tk, h'.SetOf (mixKind P w) s.heap.objs.size (fun j => decide (j ∈ ks)) (cntF ks) → (∀ b o, s.heap.get? b = some o → h'.get? b = some o) → Q (.ref s.heap.objs.size) { s with heap := h', toks := tk }) :
    wpAny (model P w) A (call (.type "set") [.ref l]) Q E s := by
  refine set_of_list (fun h' => h'.SetOf (mixKind P w) s.heap.objs.size (fun j => decide (j ∈ ks)) (cntF ks)) hh hl (fun R hR B hB => ?_) h
  have sz : items.size = ks.length := by have q := hit.length; rw [List.length_map, Array.length_toList] at q; exact q.symm
  have ls : l < s.heap.objs.size := by obtain ⟨_, ol, _⟩ := hl; exact Heap.lt_size ol
  have p1 : (s.heap.push (born w)).objs.size = s.heap.objs.size + 1 := Heap.size_push ..
  have val : ∀ (i : Nat) (v : Value), items[i]? = some v → ∃ k, ks[i]? = some k ∧ RelV (kV k) v := fun i v hv => by
    have hi : i < ks.length := by rw [← sz]; exact (Array.getElem?_eq_some_iff.mp hv).1
    have e : (ks.map kV)[i]? = some (kV ks[i]) := by simp [hi]
    obtain ⟨u, hu, ru⟩ := hit.get e
    rw [Array.getElem?_toList, hv] at hu
    cases hu
    exact ⟨ks[i], List.getElem?_eq_getElem hi, ru⟩
  have new : (s.heap.push (born w)).SetOf (mixKind P w) s.heap.objs.size (fun j => decide (j ∈ ks.take 0)) (cntF (ks.take 0)) :=
    ⟨_, #[], 0, _, Heap.get?_push_size _ rfl, ⟨rfl, rfl, rfl⟩, rfl, (fun e he => by simp at he), (fun k => by simp), (by decide), (by rfl), by simp [cntF]⟩
  refine set_update_keys ((Walks.list hB _ l (p1 ▸ Nat.ne_of_lt (Nat.lt_succ_of_lt ls)) items).toS) s.heap.objs.size (p1 ▸ fun m => (List.mem_cons.mp m).elim (fun q => Nat.ne_of_lt (Nat.lt_succ_self _) q) fun q => Nat.ne_of_gt ls (List.mem_singleton.mp q)) ks sz hb val (items.size - 0) 0 _ (by omega) (Nat.zero_le _) ⟨⟨_, Heap.get?_push_size _ rfl, rfl, rfl⟩, (hl.push _).push _⟩
    (setOf_at new fun o e => Heap.get?_push_of_some _ e) fun s' hm hS => ?_
  obtain ⟨h', g', d', tk', os'⟩ := s'
  have eg : g' = s.gens := hm.gens
  have ed : d' = s.drawn := hm.drawn
  have eo : os' = s.os := hm.os
  subst eg; subst ed; subst eo
  refine hR h' tk' hS fun b o e => ?_
  have lt : b < s.heap.objs.size := Heap.lt_size e
  exact hm.heap b o (p1 ▸ fun m => (List.mem_cons.mp m).elim (fun q => Nat.ne_of_lt lt q) fun q => Nat.ne_of_lt (Nat.lt_succ_of_lt lt) (List.mem_singleton.mp q)) (Heap.get?_push_of_some _ (Heap.get?_push_of_some _ e))
end
def rSetLK (K : PySem.W.Frag) (P : Program) (w : World) : List V → Hp → VK → Prop := fun vs H Q => ∃ (a : Addr) (ks : List Key), vs = [V.ref a] ∧ SqL K H a (ks.map kV) ∧ ks.length < 4000 ∧ ∀ p, H p = none → Q (.ref p) (upd H p (SetK P w p (fun j => decide (j ∈ ks)) (cntF ks)))
def rLenK (P : Program) (w : World) : List V → Hp → VK → Prop := fun vs H Q => ∃ (a : Addr) (S : Key → Bool) (n : Nat), vs = [V.ref a] ∧ H a = some (SetK P w a S n) ∧ Q (.int (n : Nat)) H
section
variable {X : Cx}
theorem cr_setLK (hc : X.calm = true) : CallR X (.type "set") (rSetLK X.K X.prog X.w) := by
  intro pins s σ H vs us Q I r hq
  obtain ⟨a, ks, rfl, sq, hl, q⟩ := hq
  obtain ⟨its, rv, il, hz⟩ := I.list sq
  rw [Vals.ref1 r]
  refine set_of_keys ks (I.ok.hd hc) il.isList (by simpa using rv) (by unfold scanBound; omega) fun h' tk R kp => ?_
  have n0 : H s.heap.objs.size = none := I.hok.fresh (Nat.le_refl _)
  exact ⟨.ref s.heap.objs.size, _, I.call' (ch := []) rfl (Un.laid kp (Nat.le_refl _) n0) (I.hok.laid kp (Nat.le_refl _) (setK_new R)) I.bare (fun _ z => nomatch z), rfl, q _ n0⟩
theorem cr_lenK : CallR X (.builtin "len") (rLenK X.prog X.w) := by
  intro pins s σ H vs us Q I r hq
  obtain ⟨a, S, n, rfl, ha, q⟩ := hq
  rw [Vals.ref1 r]
  obtain ⟨o, es, ep, t, ho, hex, hd, _, _, hb, hf, hn⟩ := setK_get I ha
  have hb2 : es.size < 4096 := hb
  refine call_len_set ho hex hd hf (by omega) ⟨.int (n : Nat), H, I.kept (t' := s.toks + 1 + 1) (fun _ _ e => e), ⟨s.toks + 1, by rw [hn]⟩, q⟩
end
section
variable {c : Cc} {G : Gx} {T : Cal} {lvl : Nat} {Wx : WX} {X : Cx} {a : Expr} {pos p p2 pos2 : Pos}
theorem keysW_eq {H : Hp} {ρ : Ro} : ∀ {xs : List W} {vs : List V}, keysW xs = true → RepL G H ρ xs vs → ∃ ks : List Key, vs = ks.map kV ∧ xs = ks.map wK
  | [], vs, _, r => by rw [RepL] at r; exact ⟨[], by rw [r]; rfl, rfl⟩
  | x :: xs, vs, h, r => by
    rw [RepL] at r
    obtain ⟨v, t, rfl, r1, r2⟩ := r
    simp only [keysW, List.all_cons, Bool.and_eq_true] at h
    obtain ⟨ks, rfl, e⟩ := keysW_eq (xs := xs) h.2 r2
    have h1 := h.1
    cases x <;> simp only [isKeyW, Bool.false_eq_true] at h1
    · simp only [Rep] at r1
      exact ⟨.inl _ :: ks, by rw [r1]; rfl, by rw [e]; rfl⟩
    · rename_i s
      simp only [Rep] at r1
      refine ⟨.inr (strC s) :: ks, by rw [r1]; rfl, ?_⟩
      rw [e]
      show _ = W.str (strC s).cps.toList :: _
      simp [strC]
theorem r_lset (ok : XOk c G T lvl Wx X) {n m : Str} {es : List E} {e : E} (hn : n = ("len" : Str)) (hg : c.gl n = true) (hm : m = ("set" : Str)) (hg2 : c.gl m = true) (he : es = [e]) (hs : ∀ b p, a ≠ .Starred b p) (ha : PE X a (tW G Wx (ev T e))) :
    PE X (.Call (.Name n p) [.Call (.Name m p2) [a] [] pos2] [] pos) (tW G Wx (ev T (.op .lset es))) := by
  subst he hn hm
  obtain ⟨g1, g2⟩ := ok.gl hg
  obtain ⟨g3, g4⟩ := ok.gl hg2
  have m1 : X.mg "len" = none := ok.blt _ (by simp [bltNames])
  have m2 : X.mg "set" = none := ok.blt _ (by simp [bltNames])
  have inner : PE X (.Call (.Name "set" p2) [a] [] pos2) (tCB (rSetLK X.K X.prog X.w) (tCons (tW G Wx (ev T e)) tNil)) := pe_callTy (cr_setLK ok.calm) g3 m2 boot_set' (pa_cons ha pa_nil (star_cons hs)) (by decide) g4 (star_cons hs) rfl
  have pa : PA X [.Call (.Name "set" p2) [a] [] pos2] (tCons (tCB (rSetLK X.K X.prog X.w) (tCons (tW G Wx (ev T e)) tNil)) tNil) := pa_cons inner pa_nil
  refine PEimp (pe_callB cr_lenK g1 m1 PySem.boot_len pa (by decide) g2 rfl rfl) fun σ H Q ⟨ρ, σw, h, sr, hr, g⟩ => ?_
  simp only [ev] at g
  refine ⟨ρ, σw, h, sr, hr, ?_⟩
  have g1 : GL G Wx σ H ρ (evs T [e] σw h) _ := GL.bind g
  refine (evs_one g1).imp fun v H1 ⟨ρ1, ws, h1, e1, hr1, rv, gg⟩ => ?_
  obtain ⟨w, ew, k⟩ := opt_some_of (show GW G Wx σ H1 ρ1 (opt (opW .lset (ws.map (view h1))) h1) Q from gg)
  have hl := rv.length
  match ws, hl with
  | [w1], _ =>
    obtain ⟨v', ev', rp⟩ := rv.one
    cases ev'
    have hv := view_rep hr1 rp
    simp only [List.map_cons, List.map_nil, opW] at ew
    split at ew
    · rename_i xs ews
      simp only [List.cons.injEq, and_true] at ews
      rw [ews] at hv
      split at ew
      · rename_i hlen
        cases ew
        simp only [Bool.and_eq_true, decide_eq_true_eq] at hlen
        simp only [VRep] at hv
        obtain ⟨p, vs, rfl, t1, l1, r1⟩ := hv
        obtain ⟨ks, rfl, rfl⟩ := keysW_eq hlen.1 r1
        refine ⟨p, ks, rfl, ok.K ▸ t1.sq, by simpa using hlen.2, fun q n0 => ⟨q, _, _, rfl, upd_same, ?_⟩⟩
        rw [cnt_map wK wK_inj] at k
        exact k _ _ ρ1 (Ext.laid n0) (hr1.laid n0) (by rw [Rep])
      · cases ew
    · cases ew
end
end Y

namespace Y
open PySem PySem.Spec PySem.Calls PyProof.Rows PyProof.V L2 HT
/-! [::-1] of lists and tuples -/
theorem fm_ext {α β : Type} {f g : α → Option β} : ∀ {l : List α}, (∀ x ∈ l, f x = g x) → l.filterMap f = l.filterMap g
  | [], _ => rfl
  | x :: r, h => by rw [List.filterMap_cons, List.filterMap_cons, h x (by simp), fm_ext fun y m => h y (List.mem_cons_of_mem _ m)]
section
variable {prog : Program} {w : World} {A : Around} {E : Value → Shared → Prop} {s : Shared}
theorem adjust_rev (n : Nat) : Builtin.Slice.sliceAdjust none none (-1) (n : Int) = ((n : Int) - 1, -1) := by
  have h1 : ((-1 : Int) < 0) := by omega
  unfold Builtin.Slice.sliceAdjust
  simp only [h1, if_true]
theorem places_rev (n : Nat) : Builtin.Slice.slicePlaces ((n : Int) - 1) (-1) (-1) = n := by
  unfold Builtin.Slice.slicePlaces
  have h1 : ¬ ((-1 : Int) > 0) := by omega
  simp only [h1, if_false, Int.neg_neg, Int.ediv_one]
  split <;> omega
theorem sliceApplied_rev {sl : Addr} {vs : Value} {n : Nat} {Q : Int × Int × Nat → Shared → Prop} (hs : s.heap.IsSliceOf sl .none .none vs) (ps : IsPart vs (some (-1)))
    (h : Q ((n : Int) - 1, -1, n) s) : wpAny (model prog w) A (Builtin.Slice.sliceApplied (.ref sl) (pure (n : Int))) Q E s := by
  obtain ⟨os, hos, hcs, hds⟩ := id hs
  unfold Builtin.Slice.sliceApplied Builtin.Slice.sliceFields
  refine wpAny_bind (wpAny_bind (wpAny_field hos hds (x := .none) rfl (wpAny_bind (wpAny_field hos hds (x := .none) rfl (wpAny_bind (wpAny_field hos hds (x := vs) rfl (wpAny_pure ?_)))))))
  refine wpAny_bind (slicePart_ ps ?_)
  show wpAny _ _ (if ((-1 : Int) == 0) = true then _ else _) _ _ s
  rw [if_neg (by decide)]
  refine wpAny_bind (slicePart_none (wpAny_bind (slicePart_none (wpAny_bind (wpAny_pure ?_)))))
  show wpAny _ _ (match Builtin.Slice.sliceAdjust none none (-1) (n : Int) with | (lo, hi) => pure (lo, (-1 : Int), Builtin.Slice.slicePlaces lo hi (-1))) _ _ s
  rw [adjust_rev n]
  show wpAny _ _ (pure ((n : Int) - 1, (-1 : Int), Builtin.Slice.slicePlaces ((n : Int) - 1) (-1) (-1))) _ _ s
  rw [places_rev]
  exact wpAny_pure h
theorem pick_rev (xs : Array Value) : ((List.range xs.size).filterMap fun (m : Nat) => xs[(((xs.size : Int) - 1) + (m : Int) * (-1)).toNat]?).toArray = xs.toList.reverse.toArray := by
  congr 1
  apply List.ext_getElem?
  intro i
  have e : (List.range xs.size).filterMap (fun (m : Nat) => xs[(((xs.size : Int) - 1) + (m : Int) * (-1)).toNat]?) = xs.toList.reverse := by
    have h1 : (List.range xs.size).filterMap (fun (m : Nat) => xs[(((xs.size : Int) - 1) + (m : Int) * (-1)).toNat]?) = (List.range xs.toList.length).filterMap (fun m => xs.toList.reverse[m]?) := by
      rw [Array.length_toList]
      refine fm_ext fun m hm => ?_
      have hm : m < xs.size := by simpa using hm
      have e1 : (((xs.size : Int) - 1) + (m : Int) * (-1)).toNat = xs.size - 1 - m := by omega
      rw [e1, List.getElem?_reverse (by simpa using hm), Array.length_toList, Array.getElem?_toList]
    rw [h1]
    have h2 : ∀ l : List Value, (List.range l.length).filterMap (fun m => l[m]?) = l := by
      intro l
      induction l with
      | nil => rfl
      | cons x r ih =>
        rw [List.length_cons, List.range_succ_eq_map, List.filterMap_cons]
        simp only [List.getElem?_cons_zero, List.filterMap_map, Function.comp_def, List.getElem?_cons_succ]
        rw [ih]
    have h3 := h2 xs.toList.reverse
    rw [List.length_reverse] at h3
    exact h3
  rw [e]
theorem getItem_tuple_rev {t sl : Addr} {items : Array Value} {vs : Value} {Q : Value → Shared → Prop} (ht : IsTup s.heap t items) (hs : s.heap.IsSliceOf sl .none .none vs) (ps : IsPart vs (some (-1)))
    (h : Q (.ref s.heap.objs.size) { s with heap := s.heap.push { cls := .type "tuple", data := .seq items.toList.reverse.toArray } })
    (hsz : items.size ≤ sizeLine) : wpAny (model prog w) A (getItem (.ref t) (.ref sl)) Q E s := by
  have htake : sizeOk (.seq items.toList.reverse.toArray) := by
    show items.toList.reverse.toArray.size ≤ sizeLine
    rw [List.size_toArray, List.length_reverse, Array.length_toList]
    exact hsz
  obtain ⟨os, hos, hcs, hds⟩ := id hs
  have hTs : s.TypeIs (.ref sl) "slice" := ⟨os, hos, hcs⟩
  unfold getItem
  try with_reducible refine wpAny_holding ?_
  first | refine wpAny_bind (wpAny_pure ?_) | skip
  refine wpAny_bind (wpAny_sequenceKey ht.typeIs (by decide) ?_)
  refine wpAny_bind (wpAny_callSpecial?_slot (name := Str.ofString "__getitem__") ht.typeIs PyProof.Rows.slot_tuple_getitem
    (wpAny_call_entry PyProof.Rows.slot_tuple_getitem ht.typeIs entry_tuple_getitem ?_ (args_tuple_getitem _ _)))
  show wpAny _ _ (Builtin.Tuple.tupleItemsOf (.ref t) >>= _) _ _ s
  refine wpAny_bind (tupleItemsOf_ ht ?_)
  refine wpAny_bind (wpAny_typeOf hTs ?_)
  rw [if_pos (by decide)]
  refine wpAny_bind (sliceApplied_rev hs ps ?_)
  have hno : ¬ ((((items.size : Int) - 1) == 0 && (-1 : Int) == 1 && items.size == items.size) = true) := by
    intro q
    rw [Bool.and_eq_true, Bool.and_eq_true] at q
    have q1 : (-1 : Int) = 1 := eq_of_beq q.1.2
    omega
  show wpAny _ _ (if (((items.size : Int) - 1) == 0 && (-1 : Int) == 1 && items.size == items.size) = true then _ else _) _ _ s
  rw [if_neg hno, pick_rev]
  first
    | exact wpAny_bind (m := Builtin.Tuple.tupleExact _) (wpAny_newObj_type (wpAny_pure ⟨_, rfl, wpAny_pure h⟩) htake)
    | exact wpAny_bind (m := Builtin.Tuple.tupleExact _) (wpAny_newObj_type (wpAny_bind (wpAny_pure (wpAny_pure ⟨_, rfl, wpAny_pure h⟩))) htake)
    | exact wpAny_bind (wpAny_bind (m := Builtin.Tuple.tupleExact _) (wpAny_newObj_type (wpAny_pure (wpAny_pure ⟨_, rfl, wpAny_pure h⟩)) htake))
    | exact wpAny_bind (wpAny_bind (m := Builtin.Tuple.tupleExact _) (wpAny_newObj_type (wpAny_pure ⟨_, rfl, wpAny_pure h⟩) htake))
end
def tRevX (K : PySem.W.Frag) (te : TE) : TE := fun σ H Q => te σ H fun x H1 => ∃ a xs, x = .ref a ∧ ((SqL K H1 a xs ∧ ∀ p, H1 p = none → Q (.ref p) (upd H1 p (.lst xs.reverse))) ∨ (SqT K H1 a xs ∧ ∀ p, H1 p = none → Q (.ref p) (upd H1 p (.tup xs.reverse))))
theorem pe_revX {X : Cx} {e : Expr} {te : TE} {k : Nat} {p1 p2 p3 pos : Pos} (he : PE X e te) : PE X (.Subscript e (.Slice none none (some (.UnaryOp .USub (.Constant (.int 1) k p1) p2)) p3) pos) (tRevX X.K te) := by
  refine ⟨fun pins s σ H Q I h => ?_⟩
  refine Subscript_ (thn (he.run pins s σ H _ I h) fun v s1 ⟨x, H1, I1, r1, q1⟩ => ?_)
  obtain ⟨a, xs, ex, q⟩ := q1
  subst ex
  cases r1
  have hst : PO X (some (.UnaryOp .USub (.Constant (.int 1) k p1) p2)) (tPart (tUn (rU fun i => .int (-i)) (tC (.int 1)))) := po_some (pe_un un_neg pe_int)
  refine wpAny_Slice (thn (po_none.run pins s1 σ H1 (fun o H2 => o = none ∧ H2 = H1) I1 ⟨rfl, rfl⟩) fun vl s2 ⟨l, H2, I2, pl, el, e2⟩ => ?_)
  subst el e2
  refine thn (po_none.run pins s2 σ H2 (fun o H3 => o = none ∧ H3 = H2) I2 ⟨rfl, rfl⟩) fun vu s3 ⟨u, H3, I3, pu, eu, e3⟩ => ?_
  subst eu e3
  refine thn (hst.run pins s3 σ H3 (fun o H4 => o = some (-1) ∧ H4 = H3) I3 ⟨1, rfl, -1, rfl, rfl, rfl⟩) fun vs s4 ⟨o, H4, I4, ps, eo, e4⟩ => ?_
  subst eo e4
  have I5 : Inv X pins σ H4 { s4 with heap := s4.heap.push { cls := .type "slice", data := .fields #[vl, vu, vs] } } := I4.kept (t' := s4.toks) fun b ob q => Heap.get?_push_of_some _ q
  show wpAny (model X.prog X.w) X.A (subscriptTail e (.Slice none none (some (.UnaryOp .USub (.Constant (.int 1) k p1) p2)) p3) (.ref a) (.ref s4.heap.objs.size)) (EP X pins σ Q) X.xe { s4 with heap := s4.heap.push { cls := .type "slice", data := .fields #[vl, vu, vs] } }
  rcases q with ⟨hx, q⟩ | ⟨hx, q⟩
  · obtain ⟨its, r, ht, hz⟩ := I5.list hx
    have hlen := r.length
    refine tail_any (ops := [.ref a, .ref s4.heap.objs.size]) ht.isList.typeIs (PySem.slot_list_getitem.lookup) ?_ (by with_unfolding_all rfl)
    refine wpAny_getItem_list_slice ht.isList (Heap.IsSliceOf.new _ vl vu vs) pl pu ps (by decide) ?_ (by rw [List.size_toArray]; omega)
    rw [PySem.W.krv_pick]
    refine ⟨.ref _, _, I5.laid (t' := s4.toks) (o := .lst xs.reverse) (fun b ob q => Heap.get?_push_of_some _ q) (Nat.le_refl _) ?_, rfl, q _ (I5.hok.fresh (Nat.le_refl _))⟩
    exact ⟨by rw [List.length_reverse]; exact hz, _, 0, r.reverse, Heap.get?_push_size _ rfl⟩
  · obtain ⟨its, r, ht, hz⟩ := I5.tuple hx
    have hlen := r.length
    cases pl
    cases pu
    refine tail_any (ops := [.ref a, .ref s4.heap.objs.size]) ht.typeIs (PyProof.Rows.slot_tuple_getitem.lookup) ?_ (by with_unfolding_all rfl)
    refine getItem_tuple_rev ht (Heap.IsSliceOf.new _ .none .none vs) ps ?_ (by rw [List.size_toArray]; omega)
    refine ⟨.ref _, _, I5.laid (t' := s4.toks) (o := .tup xs.reverse) (fun b ob q => Heap.get?_push_of_some _ q) (Nat.le_refl _) ?_, rfl, q _ (I5.hok.fresh (Nat.le_refl _))⟩
    exact ⟨by rw [List.length_reverse]; exact hz, _, r.reverse, IsTup.new _ _⟩
end Y

namespace Y
open PySem PySem.Spec PyProof.Rows L2
section
variable {c : Cc} {G : Gx} {T : Cal} {lvl : Nat} {Wx : WX} {X : Cx} {a : Expr} {pos p p2 p3 pos2 : Pos}
theorem RepL_rev {H : Hp} {ρ : Ro} : ∀ {ws : List W} {vs : List V}, RepL G H ρ ws vs → RepL G H ρ ws.reverse vs.reverse
  | [], vs, r => by rw [RepL] at r; subst r; exact RepL.nil
  | w :: ws, vs, r => by
    rw [RepL] at r
    obtain ⟨v, t, rfl, h1, h2⟩ := r
    rw [List.reverse_cons, List.reverse_cons]
    exact (RepL_rev h2).append (RepL.cons h1 RepL.nil)
theorem r_rev (ok : XOk c G T lvl Wx X) {es : List E} {e : E} {k : Nat} (he : es = [e]) (ha : PE X a (tW G Wx (ev T e))) :
    PE X (.Subscript a (.Slice none none (some (.UnaryOp .USub (.Constant (.int 1) k p) p2)) p3) pos) (tW G Wx (ev T (.op .rev es))) := by
  subst he
  refine PEimp (pe_revX ha) fun σ H Q ⟨ρ, σw, h, sr, hr, g⟩ => ?_
  simp only [ev] at g
  refine ⟨ρ, σw, h, sr, hr, ?_⟩
  have g1 : GL G Wx σ H ρ (evs T [e] σw h) _ := GL.bind g
  refine (evs_one g1).imp fun v H1 ⟨ρ1, ws, h1, e1, hr1, rv, gg⟩ => ?_
  obtain ⟨w, ew, q⟩ := opt_some_of (show GW G Wx σ H1 ρ1 (opt (opW .rev (ws.map (view h1))) h1) Q from gg)
  have hl := rv.length
  match ws, hl with
  | [w1], _ =>
    obtain ⟨v', ev', rp⟩ := rv.one
    cases ev'
    have hv := view_rep hr1 rp
    simp only [List.map_cons, List.map_nil, opW] at ew
    split at ew
    · rename_i xs ews
      simp only [List.cons.injEq, and_true] at ews
      rw [ews] at hv
      cases ew
      simp only [VRep] at hv
      obtain ⟨p, vs, rfl, t1, l1, r1⟩ := hv
      exact ⟨p, vs, rfl, .inl ⟨ok.K ▸ t1.sq, fun q2 n0 => q _ _ ρ1 (Ext.laid n0) (hr1.laid n0) (Rep.lst_new hr1 n0 (by rw [List.length_reverse]; exact l1) (RepL_rev r1))⟩⟩
    · rename_i xs ews
      simp only [List.cons.injEq, and_true] at ews
      rw [ews] at hv
      cases ew
      simp only [VRep, Rep] at hv
      obtain ⟨p, vs, rfl, t1, l1, r1⟩ := hv
      exact ⟨p, vs, rfl, .inr ⟨ok.K ▸ t1.sq, fun q2 n0 => q _ _ ρ1 (Ext.laid n0) (hr1.laid n0) (Rep.tup_new hr1 n0 (by rw [List.length_reverse]; exact l1) (RepL_rev r1))⟩⟩
    · cases ew
theorem rgV_eq (n : Int) : rgV 0 n = ((List.range n.toNat).map fun (i : Nat) => (i : Int)).map V.int := by
  unfold rgV
  rw [Int.sub_zero, List.map_map]
  refine List.map_congr_left fun i _ => ?_
  simp
theorem r_lrg (ok : XOk c G T lvl Wx X) {n m : Str} {es : List E} {e : E} (hn : n = ("list" : Str)) (hg : c.gl n = true) (hm : m = ("range" : Str)) (hg2 : c.gl m = true) (he : es = [e]) (hs : ∀ b p, a ≠ .Starred b p) (ha : PE X a (tW G Wx (ev T e))) :
    PE X (.Call (.Name n p) [.Call (.Name m p2) [a] [] pos2] [] pos) (tW G Wx (ev T (.op .lrg es))) := by
  subst he hn hm
  obtain ⟨g1, g2⟩ := ok.gl hg
  obtain ⟨g3, g4⟩ := ok.gl hg2
  have m1 : X.mg "list" = none := ok.blt _ (by simp [bltNames])
  have m2 : X.mg "range" = none := ok.blt _ (by simp [bltNames])
  refine PEimp (pe_listRg ok.calm g1 m1 (prg_1 g3 m2 ha (star_cons hs)) rfl) fun σ H Q ⟨ρ, σw, h, sr, hr, g⟩ => ?_
  simp only [ev] at g
  refine ⟨ρ, σw, h, sr, hr, ?_⟩
  have g1 : GL G Wx σ H ρ (evs T [e] σw h) _ := GL.bind g
  refine (evs_one g1).imp fun v H1 ⟨ρ1, ws, h1, e1, hr1, rv, gg⟩ => ?_
  obtain ⟨w, ew, q⟩ := opt_some_of (show GW G Wx σ H1 ρ1 (opt (opW .lrg (ws.map (view h1))) h1) Q from gg)
  have hl := rv.length
  match ws, hl with
  | [w1], _ =>
    obtain ⟨v', ev', rp⟩ := rv.one
    cases ev'
    have hv := view_rep hr1 rp
    simp only [List.map_cons, List.map_nil, opW] at ew
    split at ew
    · rename_i i ews
      simp only [List.cons.injEq, and_true] at ews
      rw [ews] at hv
      split at ew
      · rename_i hi
        simp only [Bool.and_eq_true, decide_eq_true_eq] at hi
        cases ew
        refine ⟨i, vint hv, RgOk.of_le (by omega) (by omega) (by omega) (by omega), fun q2 n0 => ?_⟩
        rw [rgV_eq]
        refine q _ _ ρ1 (Ext.laid n0) (hr1.laid n0) (Rep.lst_new hr1 n0 ?_ ?_)
        · rw [List.length_map, List.length_map, List.length_range, sizeLine_eq]; omega
        · have := RepL_ints (G := G) (H := H1) (ρ := ρ1) ((List.range i.toNat).map fun (i : Nat) => (i : Int))
          rw [List.map_map] at this
          exact this
      · cases ew
    · cases ew
end
end Y

namespace Y
open PySem PySem.Spec PyProof.Rows L2
section
variable {c : Cc} {G : Gx} {T : Cal} {lvl : Nat} {Wx : WX} {X : Cx} {x y z a b : Expr} {pos p : Pos} {σ : L2.St} {H : Hp}
theorem set_fold (h : notSet x = true) : ∀ v, foldedSetIterable x X.env v = pure v := by
  intro v
  cases x <;> first | rfl | cases h
/-- and, or: one more -/
theorem and_read {e : E} {es : List E} {Q : VK} (hne : es ≠ []) (g : tW G Wx (evAnd T (e :: es)) σ H Q) : tAndV (tW G Wx (ev T e)) (tW G Wx (evAnd T es)) σ H Q := by
  obtain ⟨ρ, σw, h, sr, hr, g⟩ := g
  simp only [evAnd] at g
  refine ⟨ρ, σw, h, sr, hr, (GW.bind g).imp fun x H1 ⟨ρ1, w1, h1, e1, hr1, r1, g1⟩ => ?_⟩
  cases w1 <;> first | exact g1.elim | skip
  rename_i d
  simp only [Rep] at r1
  refine ⟨d, r1, ?_⟩
  cases d with
  | true =>
    rw [if_pos rfl]
    cases es with
    | nil => exact absurd rfl hne
    | cons e2 es2 => exact ⟨ρ1, σw, h1, sr.mono e1, hr1, g1⟩
  | false => rw [if_neg Bool.false_ne_true]; exact g1 _ _ ρ1 (Ext.refl _ _) hr1 (by rw [Rep])
theorem and_readT {e : E} {es : List E} {Q : Bool → Hp → Prop} (hne : es ≠ []) (g : tB (tW G Wx (evAnd T (e :: es))) σ H Q) : tAnd (tB (tW G Wx (ev T e))) (tB (tW G Wx (evAnd T es))) σ H Q := by
  obtain ⟨ρ, σw, h, sr, hr, g⟩ := g
  simp only [evAnd] at g
  refine ⟨ρ, σw, h, sr, hr, (GW.bind g).imp fun x H1 ⟨ρ1, w1, h1, e1, hr1, r1, g1⟩ => ?_⟩
  cases w1 <;> first | exact g1.elim | skip
  rename_i d
  simp only [Rep] at r1
  refine ⟨d, r1, ?_⟩
  cases d with
  | true =>
    rw [if_pos rfl]
    cases es with
    | nil => exact absurd rfl hne
    | cons e2 es2 => exact ⟨ρ1, σw, h1, sr.mono e1, hr1, g1⟩
  | false =>
    rw [if_neg Bool.false_ne_true]
    obtain ⟨k, ek, q⟩ := g1 _ _ ρ1 (Ext.refl _ _) hr1 (by rw [Rep])
    cases ek
    exact q
theorem and_one {e : E} {Q : VK} (g : tW G Wx (evAnd T [e]) σ H Q) : tW G Wx (ev T e) σ H Q := by
  obtain ⟨ρ, σw, h, sr, hr, g⟩ := g
  simp only [evAnd] at g
  refine ⟨ρ, σw, h, sr, hr, (GW.bind g).imp fun x H1 ⟨ρ1, w1, h1, e1, hr1, r1, g1⟩ => ?_⟩
  cases w1 <;> first | exact g1.elim | skip
  rename_i d
  cases d with
  | true => exact g1 _ _ ρ1 (Ext.refl _ _) hr1 r1
  | false => exact g1 _ _ ρ1 (Ext.refl _ _) hr1 r1
theorem or_read {e : E} {es : List E} {Q : VK} (hne : es ≠ []) (g : tW G Wx (evOr T (e :: es)) σ H Q) : tOrV (tW G Wx (ev T e)) (tW G Wx (evOr T es)) σ H Q := by
  obtain ⟨ρ, σw, h, sr, hr, g⟩ := g
  simp only [evOr] at g
  refine ⟨ρ, σw, h, sr, hr, (GW.bind g).imp fun x H1 ⟨ρ1, w1, h1, e1, hr1, r1, g1⟩ => ?_⟩
  cases w1 <;> first | exact g1.elim | skip
  rename_i d
  simp only [Rep] at r1
  refine ⟨d, r1, ?_⟩
  cases d with
  | false =>
    rw [if_neg Bool.false_ne_true]
    cases es with
    | nil => exact absurd rfl hne
    | cons e2 es2 => exact ⟨ρ1, σw, h1, sr.mono e1, hr1, g1⟩
  | true => rw [if_pos rfl]; exact g1 _ _ ρ1 (Ext.refl _ _) hr1 (by rw [Rep])
theorem or_readT {e : E} {es : List E} {Q : Bool → Hp → Prop} (hne : es ≠ []) (g : tB (tW G Wx (evOr T (e :: es))) σ H Q) : tOr (tB (tW G Wx (ev T e))) (tB (tW G Wx (evOr T es))) σ H Q := by
  obtain ⟨ρ, σw, h, sr, hr, g⟩ := g
  simp only [evOr] at g
  refine ⟨ρ, σw, h, sr, hr, (GW.bind g).imp fun x H1 ⟨ρ1, w1, h1, e1, hr1, r1, g1⟩ => ?_⟩
  cases w1 <;> first | exact g1.elim | skip
  rename_i d
  simp only [Rep] at r1
  refine ⟨d, r1, ?_⟩
  cases d with
  | false =>
    rw [if_neg Bool.false_ne_true]
    cases es with
    | nil => exact absurd rfl hne
    | cons e2 es2 => exact ⟨ρ1, σw, h1, sr.mono e1, hr1, g1⟩
  | true =>
    rw [if_pos rfl]
    obtain ⟨k, ek, q⟩ := g1 _ _ ρ1 (Ext.refl _ _) hr1 (by rw [Rep])
    cases ek
    exact q
theorem or_one {e : E} {Q : VK} (g : tW G Wx (evOr T [e]) σ H Q) : tW G Wx (ev T e) σ H Q := by
  obtain ⟨ρ, σw, h, sr, hr, g⟩ := g
  simp only [evOr] at g
  refine ⟨ρ, σw, h, sr, hr, (GW.bind g).imp fun x H1 ⟨ρ1, w1, h1, e1, hr1, r1, g1⟩ => ?_⟩
  cases w1 <;> first | exact g1.elim | skip
  rename_i d
  cases d with
  | true => exact g1 _ _ ρ1 (Ext.refl _ _) hr1 r1
  | false => exact g1 _ _ ρ1 (Ext.refl _ _) hr1 r1
/-- of a list of texts: what is shown -/
structure Lst (c : Cc) (G : Gx) (T : Cal) (Wx : WX) (X : Cx) (es : List E) (xs : List Expr) : Prop where
  pa : PA X xs (tL G Wx (evs T es))
  len : es.length = xs.length
  ns : ∀ e ∈ xs, ∀ a p, e ≠ .Starred a p
  one : ∀ x, xs = [x] → ∃ e, es = [e] ∧ PE X x (tW G Wx (ev T e))
  two : ∀ x y, xs = [x, y] → ∃ e f, es = [e, f] ∧ PE X x (tW G Wx (ev T e)) ∧ PE X y (tW G Wx (ev T f))
  and_ : ∀ pos, xs ≠ [] → PE X (.BoolOp .And xs pos) (tW G Wx (evAnd T es)) ∧ PW X (.BoolOp .And xs pos) (tB (tW G Wx (evAnd T es)))
  or_ : ∀ pos, xs ≠ [] → PE X (.BoolOp .Or xs pos) (tW G Wx (evOr T es)) ∧ PW X (.BoolOp .Or xs pos) (tB (tW G Wx (evOr T es)))
theorem Lst.nil : Lst c G T Wx X [] [] :=
  ⟨PAimp pa_nil fun σ H Q g => evs_nil g, rfl, fun e m => absurd m (by simp), fun x e => (by cases e), fun x y e => (by cases e), fun pos n => absurd rfl n, fun pos n => absurd rfl n⟩
theorem Lst.cons {e : E} {es : List E} {x : Expr} {xs : List Expr} (hs : notStar x = true) (h1 : PE X x (tW G Wx (ev T e))) (h2 : PT X x (tB (tW G Wx (ev T e)))) (r : Lst c G T Wx X es xs) : Lst c G T Wx X (e :: es) (x :: xs) where
  pa := PAimp (pa_cons h1 r.pa (star_cons (notStar_ne hs))) fun σ H Q g => evs_cons g
  len := by simp [r.len]
  ns := fun d m => by
    rcases List.mem_cons.mp m with z | z
    · rw [z]; exact notStar_ne hs
    · exact r.ns d z
  one := fun y ey => by
    simp only [List.cons.injEq] at ey
    obtain ⟨rfl, rfl⟩ := ey
    have := r.len
    cases es with
    | nil => exact ⟨e, rfl, h1⟩
    | cons _ _ => simp at this
  two := fun y z ey => by
    simp only [List.cons.injEq] at ey
    obtain ⟨rfl, rfl⟩ := ey
    obtain ⟨f, ef, hf⟩ := r.one z rfl
    exact ⟨e, f, by rw [ef], h1, hf⟩
  and_ := fun pos _ => by
    cases xs with
    | nil =>
      have := r.len
      cases es with
      | nil => exact ⟨PEimp (pe_one h1) fun σ H Q g => and_one g, PWimp (pw_and1 h2) fun σ H Q g => and_one g⟩
      | cons _ _ => simp at this
    | cons x2 xs2 =>
      have hne : es ≠ [] := fun z => by have := r.len; rw [z] at this; simp at this
      obtain ⟨g1, g2⟩ := r.and_ pos (by simp)
      exact ⟨PEimp (pe_and h1 g1) fun σ H Q g => and_read hne g, PWimp (pw_and h2 g2) fun σ H Q g => and_readT hne g⟩
  or_ := fun pos _ => by
    cases xs with
    | nil =>
      have := r.len
      cases es with
      | nil => exact ⟨PEimp (pe_one h1) fun σ H Q g => or_one g, PWimp (pw_or1 h2) fun σ H Q g => or_one g⟩
      | cons _ _ => simp at this
    | cons x2 xs2 =>
      have hne : es ≠ [] := fun z => by have := r.len; rw [z] at this; simp at this
      obtain ⟨g1, g2⟩ := r.or_ pos (by simp)
      exact ⟨PEimp (pe_or h1 g1) fun σ H Q g => or_read hne g, PWimp (pw_or h2 g2) fun σ H Q g => or_readT hne g⟩
/-- the source of a loop -/
theorem r_src (ok : XOk c G T lvl Wx X) {ik : IK} {tgx iter : Expr} {xs : List Expr} {es : List E} (hx : srcX c ik tgx iter = some xs) (r : Lst c G T Wx X es xs) : PI X tgx iter (iW G Wx T ik es) := by
  have mR : X.mg "range" = none := ok.blt _ (by simp [bltNames])
  have mE' : X.mg "enumerate" = none := ok.blt _ (by simp [bltNames])
  have mZ : X.mg "zip" = none := ok.blt _ (by simp [bltNames])
  unfold srcX at hx
  split at hx
  · split at hx
    · cases hx
      obtain ⟨e, rfl, he⟩ := r.one _ rfl
      exact pi_seqW ok.K he
    · cases hx
  · split at hx
    · rename_i hc
      cases hx
      simp only [Bool.and_eq_true, decide_eq_true_eq] at hc
      obtain ⟨rfl, hg⟩ := hc
      exact pi_rng1W (ok.gl hg).1 mR r.pa (r.ns _ (by simp))
    · cases hx
  · split at hx
    · rename_i hc
      cases hx
      simp only [Bool.and_eq_true, decide_eq_true_eq] at hc
      obtain ⟨rfl, hg⟩ := hc
      exact pi_rng2W (ok.gl hg).1 mR r.pa (r.ns _ (by simp)) (r.ns _ (by simp))
    · cases hx
  · split at hx
    · rename_i hc
      cases hx
      simp only [Bool.and_eq_true, decide_eq_true_eq] at hc
      obtain ⟨rfl, hg⟩ := hc
      exact pi_enumW ok.K (ok.gl hg).1 mE' r.pa (r.ns _ (by simp))
    · cases hx
  · split at hx
    · rename_i hc
      cases hx
      simp only [Bool.and_eq_true, decide_eq_true_eq] at hc
      obtain ⟨rfl, hg⟩ := hc
      exact pi_zipW ok.K (ok.gl hg).1 mZ r.pa (r.ns _ (by simp)) (r.ns _ (by simp))
    · cases hx
  · cases hx
theorem r_op (ok : XOk c G T lvl Wx X) {f : Op} {es : List E} {xs : List Expr} (hx : opX c f x = some xs) (r : Lst c G T Wx X es xs) : PE X x (tW G Wx (ev T (.op f es))) ∧ ∀ whole, PySem.isTrue x X.env whole = (do let v ← whole; standAt x.pos; holding [v] (truthy v)) := by
  unfold opX at hx
  split at hx
  · split at hx
    · rename_i hc
      cases hx
      simp only [Bool.and_eq_true, decide_eq_true_eq] at hc
      obtain ⟨e, he, hpe⟩ := r.one _ rfl
      exact ⟨r_isi ok hc.1 hc.2.1 hc.2.2.1 hc.2.2.2 he (r.ns _ (by simp)) hpe, fun _ => rfl⟩
    · cases hx
  · split at hx
    · rename_i hc
      cases hx
      simp only [Bool.and_eq_true, decide_eq_true_eq] at hc
      obtain ⟨e, he, hpe⟩ := r.one _ rfl
      exact ⟨r_sset ok hc.1 hc.2.1 hc.2.2.1 hc.2.2.2 he (r.ns _ (by simp)) hpe, fun _ => rfl⟩
    · cases hx
  · split at hx
    · rename_i hc
      cases hx
      simp only [Bool.and_eq_true, decide_eq_true_eq] at hc
      obtain ⟨e, he, hpe⟩ := r.one _ rfl
      exact ⟨r_lset ok hc.1 hc.2.1 hc.2.2.1 hc.2.2.2 he (r.ns _ (by simp)) hpe, fun _ => rfl⟩
    · cases hx
  · split at hx
    · rename_i hc
      cases hx
      simp only [Bool.and_eq_true, decide_eq_true_eq] at hc
      obtain ⟨e, he, hpe⟩ := r.one _ rfl
      exact ⟨r_lrg ok hc.1 hc.2.1 hc.2.2.1 hc.2.2.2 he (r.ns _ (by simp)) hpe, fun _ => rfl⟩
    · cases hx
  · split at hx
    · rename_i hc
      subst hc
      cases hx
      obtain ⟨e, he, hpe⟩ := r.one _ rfl
      exact ⟨r_rev ok he hpe, fun _ => rfl⟩
    · cases hx
  · split at hx
    · rename_i hc
      cases hx
      simp only [Bool.and_eq_true, decide_eq_true_eq] at hc
      exact ⟨r_opF ok hc.1 hc.2.1 hc.2.2 r.ns r.pa, fun _ => rfl⟩
    · cases hx
  · cases hx
theorem r_comp (ok : XOk c G T lvl Wx X) {own : List Nat} {tg : Tg} {ik : IK} {es : List E} {cond elt : E} {tgx iter : Expr} {ifs : List Expr} {scope : Scope} {xs : List Expr}
    (hb : blkC c.N c.sc scope (own.map fun i => (c.N.getD i ("" : Str), i)) = true) (ht : (tgV tg).all (fun i => own.contains i) = true) (hg : mG (c.blk scope) tg tgx = true) (hx : srcX c ik tgx iter = some xs) (r : Lst c G T Wx X es xs) (hn : notSet iter = true)
    (hc : ∀ X', XOk (c.blk scope) G T lvl noW X' → PTs X' ifs (tB (tW G noW (ev T cond)))) (he : ∀ X', XOk (c.blk scope) G T lvl noW X' → PE X' y (tW G noW (ev T elt))) :
    PE X (.ListComp y [⟨tgx, iter, ifs, 0⟩] scope pos) (tF G Wx (ev T (.comp own tg ik es cond elt))) := by
  have okB : BlkOk X.N X.env.scope scope (own.map fun i => (c.N.getD i ("" : Str), i)) := by rw [ok.N, ok.sc]; exact blkOk_by hb
  have eo : (own.map fun i => (c.N.getD i ("" : Str), i)).map (·.2) = own := by rw [List.map_map]; exact List.map_id' own
  have P := pe_lc (pos := pos) ok.calm (by rw [ok.N]; exact ok.nd) (r_src ok hx r) okB (fun s H C cl fp => pgW (ok.blk s H scope C cl fp) tg tgx hg) (fun s H C cl fp => hc _ (ok.blk s H scope C cl fp)) (fun s H C cl fp => he _ (ok.blk s H scope C cl fp)) (set_fold hn)
  rw [eo] at P
  exact PEimp P fun σ H Q g => comp_read (fun i m => by simpa using List.all_eq_true.mp ht i m) g
end
end Y

namespace Y
open PySem PySem.Spec PyProof.Rows L2
/-! dicts: looked at, made -/
section
variable {G : Gx} {H : Hp} {ρ : Ro}
theorem keys_of : ∀ {xs : List W} {vs : List V}, keysW xs = true → RepL G H ρ xs vs → ∃ ks : List Key, vs = ks.map kV ∧ xs = ks.map wK
  | [], vs, _, r => by rw [RepL] at r; exact ⟨[], by rw [r]; rfl, rfl⟩
  | x :: xs, vs, h, r => by
    rw [RepL] at r
    obtain ⟨v, t, rfl, r1, r2⟩ := r
    simp only [keysW, List.all_cons, Bool.and_eq_true] at h
    obtain ⟨ks, rfl, e⟩ := keys_of (xs := xs) h.2 r2
    have h1 := h.1
    cases x <;> simp only [isKeyW, Bool.false_eq_true] at h1
    · simp only [Rep] at r1
      exact ⟨.inl _ :: ks, by rw [r1]; rfl, by rw [e]; rfl⟩
    · rename_i s
      simp only [Rep] at r1
      refine ⟨.inr (strC s) :: ks, by rw [r1]; rfl, ?_⟩
      rw [e]
      show _ = W.str (strC s).cps.toList :: _
      simp [strC]
/-- a key as the dict wants it -/
def KeyAt (H : Hp) (ρ : Ro) (t : Bool) (y : W) (v : V) : Prop := (t = false ∧ ∃ k, y = wK k ∧ v = kV k) ∨ (t = true ∧ ∃ ks b, y = tkW ks ∧ v = .ref b ∧ H b = some (.tup (ks.map kV)) ∧ b ∉ ρ.no)
theorem KeyAt.mono {H' : Hp} {ρ' : Ro} {t : Bool} {y : W} {v : V} (e : Ext H ρ H' ρ') (k : KeyAt H ρ t y v) : KeyAt H' ρ' t y v := k.imp id fun ⟨z, ks, b, h1, h2, h3, h4⟩ => ⟨z, ks, b, h1, h2, e.keep b _ h3 fun m => h4 (ρ.sub b m), e.out h3 h4⟩
theorem key_plain {t : Bool} {y : W} {v : V} (h : keyOk false t y = true) (r : Rep G H ρ y v) : KeyAt H ρ t y v := by
  cases t with
  | false =>
    have h : isKeyW y = true := by cases y <;> exact h
    obtain ⟨ks, e1, e2⟩ := keys_of (xs := [y]) (vs := [v]) (by simp [keysW, h]) (RepL.cons r RepL.nil)
    match ks, e1, e2 with
    | [k], e1, e2 =>
      simp only [List.map_cons, List.map_nil, List.cons.injEq, and_true] at e1 e2
      exact .inl ⟨rfl, k, e2, e1⟩
    | [], e1, _ => cases e1
    | _ :: _ :: _, e1, _ => cases e1
  | true =>
    cases y <;> simp only [keyOk, Bool.false_eq_true, Bool.false_or, Bool.and_eq_true] at h
    rename_i ws
    rw [Rep] at r
    obtain ⟨a, vs, rfl, t1, l1, r1⟩ := r
    obtain ⟨ks, rfl, rfl⟩ := keys_of h.1 r1
    rcases t1 with t1 | t1
    · exact .inr ⟨rfl, ks, a, rfl, rfl, t1⟩
    · rw [h.2] at t1; cases t1.2
theorem key_disp {t : Bool} {ws : List W} {vs : List V} {p : Addr} (h : keyOk true t (.tup ws) = true) (r : RepL G H ρ ws vs) (n : p ∉ ρ.no) : KeyAt (upd H p (.tup vs)) ρ t (.tup ws) (.ref p) := by
  cases t with
  | false => cases h
  | true =>
    simp only [keyOk, Bool.true_or, Bool.and_true] at h
    obtain ⟨ks, rfl, rfl⟩ := keys_of h r
    exact .inr ⟨rfl, ks, p, rfl, rfl, upd_same, n⟩
theorem dget_at {t : Bool} {kvs : List (W × W)} {x v : V} {y : W} (r : VRep G H ρ (.dct t kvs) x) (k : KeyAt H ρ t y v) : ∃ a o, x = .ref a ∧ DGet H a v o ∧ ((getD y kvs = none ∧ o = none) ∨ ∃ w u, getD y kvs = some w ∧ o = some u ∧ Rep G H ρ w u) := by
  rcases r with ⟨rfl, a, l, rfl, e, rd⟩ | ⟨rfl, a, l, rfl, e, rd⟩
  · rcases k with ⟨_, k, rfl, rfl⟩ | ⟨z, _⟩
    · refine ⟨a, valV l k, rfl, .k e, ?_⟩
      rcases RepD.get wK_inj k rd with ⟨h1, h2⟩ | ⟨w, u, h1, h2, h3⟩
      · exact .inl ⟨h1, h2⟩
      · exact .inr ⟨w, u, h1, h2, h3⟩
    · cases z
  · rcases k with ⟨z, _⟩ | ⟨_, ks, b, rfl, rfl, eb, _⟩
    · cases z
    · refine ⟨a, valV l ks, rfl, .t e eb, ?_⟩
      rcases RepD.get tkW_inj ks rd with ⟨h1, h2⟩ | ⟨w, u, h1, h2, h3⟩
      · exact .inl ⟨h1, h2⟩
      · exact .inr ⟨w, u, h1, h2, h3⟩
theorem VRep.mono_d {H' : Hp} {ρ' : Ro} (e : Ext H ρ H' ρ') {h h' : WH} {w : W} {v : V} (hr' : HRep G H' ρ' h') (r : Rep G H ρ w v) : VRep G H' ρ' (view h' w) v := view_rep hr' (Rep.mono e _ _ r)
end
section
variable {c : Cc} {G : Gx} {T : Cal} {lvl : Nat} {Wx : WX} {X : Cx} {x y z u : Expr} {pos p : Pos}
/-- the key of a display, of any other text -/
def tKy (G : Gx) (Wx : WX) (T : Cal) (tp : Bool) (ks : List E) : TE := fun σ H Q => match tp with
  | true => ∃ ρ σw h, SRep G H ρ σw σ ∧ HRep G H ρ h ∧ GL G Wx σ H ρ (evs T ks σw h) fun vs H1 => vs.length ≤ sizeLine ∧ ∀ p, H1 p = none → Q (.ref p) (upd H1 p (.tup vs))
  | false => ∃ ρ σw h, SRep G H ρ σw σ ∧ HRep G H ρ h ∧ GL G Wx σ H ρ (evs T ks σw h) fun vs H1 => ∃ v, vs = [v] ∧ Q v H1
theorem pe_key {tp : Bool} {ks : List E} (ht : tp = dispX z) (r : Lst c G T Wx X ks (keyX tp z)) : PE X z (tKy G Wx T tp ks) := by
  cases tp with
  | true =>
    cases z <;> first | (cases ht; done) | skip
    rename_i xs q pos
    exact PEimp (pe_tup r.pa) fun σ H Q g => g
  | false =>
    obtain ⟨e, rfl, P⟩ := r.one z rfl
    refine PEimp P fun σ H Q ⟨ρ, σw, h, sr, hr, g⟩ => ⟨ρ, σw, h, sr, hr, (evs_one g).imp fun v H1 ⟨u, e, q⟩ => ?_⟩
    cases e; exact q
/-- what a key gives -/
theorem key_read {tp : Bool} {ks : List E} {σ : L2.St} {H : Hp} {ρ : Ro} {σw : Env} {h : WH} {R : List W → WH → Hp → Ro → Prop} {Q : VK} (mono : ∀ ws h Hx ρx Hy ρy, Ext Hx ρx Hy ρy → R ws h Hx ρx → R ws h Hy ρy) (sr : SRep G H ρ σw σ) (hr : HRep G H ρ h)
    (g : GL G Wx σ H ρ (evs T ks σw h) fun vs H1 => ∃ ρ1 ws h1, Ext H ρ H1 ρ1 ∧ HRep G H1 ρ1 h1 ∧ RepL G H1 ρ1 ws vs ∧ R ws h1 H1 ρ1)
    (q : ∀ v H1 ρ1 ws h1 y, Ext H ρ H1 ρ1 → HRep G H1 ρ1 h1 → R ws h1 H1 ρ1 → keyOf tp ws = some y → (∀ t, keyOk tp t y = true → KeyAt H1 ρ1 t y v) → Q v H1)
    (no : ∀ ws h1 H1 ρ1, R ws h1 H1 ρ1 → keyOf tp ws ≠ none) : tKy G Wx T tp ks σ H Q := by
  cases tp with
  | true =>
    refine ⟨ρ, σw, h, sr, hr, ?_⟩
    cases e : evs T ks σw h with
    | exc c fs h' => rw [e] at g; exact g
    | bad => rw [e] at g; exact g
    | ok ws h1 =>
      rw [e] at g
      intro vs H1 ρ1 e1 hr1 rv
      obtain ⟨ρ2, ws2, h2, e2, hr2, rv2, r2⟩ := g vs H1 ρ1 e1 hr1 rv
      have hk : keyOf true ws2 ≠ none := no ws2 h2 _ _ r2
      simp only [keyOf] at hk
      split at hk
      · rename_i hl
        have hz : vs.length ≤ sizeLine := by rw [rv2.length]; exact Nat.le_trans hl (by decide)
        exact ⟨hz, fun p n => q (.ref p) _ ρ2 ws2 h2 (.tup ws2) (e2.trans (Ext.laid n)) (hr2.laid n) (mono _ _ _ _ _ _ (Ext.laid n) r2) (by simp only [keyOf, hl, if_true]) fun t kt => key_disp kt rv2 (hr2.fresh n)⟩
      · exact absurd rfl hk
  | false =>
    refine ⟨ρ, σw, h, sr, hr, ?_⟩
    cases e : evs T ks σw h with
    | exc c fs h' => rw [e] at g; exact g
    | bad => rw [e] at g; exact g
    | ok ws h1 =>
      rw [e] at g
      intro vs H1 ρ1 e1 hr1 rv
      obtain ⟨ρ2, ws2, h2, e2, hr2, rv2, r2⟩ := g vs H1 ρ1 e1 hr1 rv
      have hk : keyOf false ws2 ≠ none := no ws2 h2 _ _ r2
      match ws2, rv2, r2, hk with
      | [w], rv2, r2, _ =>
        rw [RepL] at rv2
        obtain ⟨v, t, rfl, r1, r3⟩ := rv2
        rw [RepL] at r3
        subst r3
        exact ⟨v, rfl, q v H1 ρ2 [w] h2 w e2 hr2 r2 rfl fun t kt => key_plain kt r1⟩
      | [], _, _, hk => exact absurd rfl hk
      | _ :: _ :: _, _, _, hk => exact absurd rfl hk
theorem getW_dct {tp : Bool} {d y : W} {o : Option W} (h : getW tp d y = some o) : ∃ t kvs, d = .dct t kvs ∧ keyOk tp t y = true ∧ o = getD y kvs := by
  cases d <;> simp only [getW, reduceCtorEq] at h
  rename_i t kvs
  split at h
  · rename_i hk
    cases h
    exact ⟨t, kvs, rfl, hk, rfl⟩
  · cases h
theorem r_dget (ok : XOk c G T lvl Wx X) {tp : Bool} {d : E} {ks : List E} (h0 : notSlice z = true) (ht : tp = dispX z) (Pd : PE X y (tW G Wx (ev T d))) (r : Lst c G T Wx X ks (keyX tp z)) : PE X (.Subscript y z pos) (tW G Wx (ev T (.dget tp d ks))) := by
  have hu : X.A.units + 1 < cLine := by have := ok.un; omega
  refine PEimp (pe_dget hu Pd (pe_key ht r) (by intro ov iv; cases z <;> first | rfl | cases h0)) fun σ H Q ⟨ρ, σw, h, sr, hr, g⟩ => ?_
  simp only [ev] at g
  refine ⟨ρ, σw, h, sr, hr, (GW.bind g).imp fun v1 H1 ⟨ρ1, w1, h1, e1, hr1, r1, g1⟩ => ?_⟩
  refine key_read (R := fun ws h2 H2 ρ2 => GW G Wx σ H2 ρ2 (match (keyOf tp ws).bind (getW tp (view h2 w1)) with | some (some w) => .ok w h2 | _ => .bad) Q) (fun _ _ _ _ _ _ e g => GW.mono e g) (sr.mono e1) hr1 (GL.bind g1) (fun v H2 ρ2 ws h2 k e2 hr2 g2 ek at_ => ?_) fun ws h2 H2 ρ2 g2 z => ?_
  · rw [ek, Option.bind_some] at g2
    split at g2
    · rename_i w ew
      obtain ⟨t, kvs, ed, kt, eo⟩ := getW_dct ew
      have rv := view_rep hr2 (Rep.mono e2 _ _ r1)
      rw [ed] at rv
      obtain ⟨a, o, rfl, dg, oc⟩ := dget_at rv (at_ t kt)
      rcases oc with ⟨z, _⟩ | ⟨w', u, z1, rfl, z3⟩
      · rw [z] at eo; cases eo
      · rw [z1] at eo; cases eo
        exact ⟨a, u, rfl, dg, g2 u H2 ρ2 (Ext.refl _ _) hr2 z3⟩
    · exact g2.elim
  · rw [z, Option.bind_none] at g2
    exact g2
theorem r_din (ok : XOk c G T lvl Wx X) {tp : Bool} (no : Bool) {d : E} {ks : List E} (hn : notSet y = true) (ht : tp = dispX z) (Pd : PE X y (tW G Wx (ev T d))) (r : Lst c G T Wx X ks (keyX tp z)) :
    PE X (.Compare z [if no then CmpOp.NotIn else CmpOp.In] [y] pos) (tW G Wx (ev T (.din no tp ks d))) ∧ PT X (.Compare z [if no then CmpOp.NotIn else CmpOp.In] [y] pos) (tB (tW G Wx (ev T (.din no tp ks d)))) := by
  have hu : X.A.units + 1 < cLine := by have := ok.un; omega
  have main : ∀ σ H Q, tW G Wx (ev T (.din no tp ks d)) σ H Q → tKy G Wx T tp ks σ H fun y H1 => tW G Wx (ev T d) σ H1 fun x H2 => ∃ a o, x = .ref a ∧ DGet H2 a y o ∧ Q (.bl (if no then !o.isSome else o.isSome)) H2 := by
    intro σ H Q ⟨ρ, σw, h, sr, hr, g⟩
    simp only [ev] at g
    refine key_read (R := fun ws h1 H1 ρ1 => GW G Wx σ H1 ρ1 (match keyOf tp ws with
      | some y => (ev T d σw h1).bind fun x h => (match getW tp (view h x) y with
        | some o => .ok (.bl (if no then !o.isSome else o.isSome)) h
        | none => .bad)
      | none => .bad) Q) (fun _ _ _ _ _ _ e g => GW.mono e g) sr hr (GL.bind g) (fun v H1 ρ1 ws h1 k e1 hr1 g1 ek at_ => ?_) fun ws h2 H2 ρ2 g2 z => ?_
    · rw [ek] at g1
      refine ⟨ρ1, σw, h1, sr.mono e1, hr1, (GW.bind g1).imp fun x H2 ⟨ρ2, w2, h2, e2, hr2, r2, g2⟩ => ?_⟩
      split at g2
      · rename_i o ew
        obtain ⟨t, kvs, ed, kt, eo⟩ := getW_dct ew
        have rv := view_rep hr2 r2
        rw [ed] at rv
        obtain ⟨a, o', rfl, dg, oc⟩ := dget_at rv ((at_ t kt).mono e2)
        refine ⟨a, o', rfl, dg, ?_⟩
        have es : o'.isSome = o.isSome := by
          rcases oc with ⟨z, z2⟩ | ⟨w', u, z1, z2, z3⟩
          · rw [eo, z, z2]; rfl
          · rw [eo, z1, z2]; rfl
        rw [es]
        exact g2 _ H2 ρ2 (Ext.refl _ _) hr2 (by rw [Rep])
      · exact g2.elim
    · rw [z] at g2
      exact g2
  cases no with
  | true => exact ⟨PEimp (pe_cmp (pc_dnotin hu (pe_key ht r) Pd) (behind_no hn)) main, PTimp (pt_cmp (pc_dnotin hu (pe_key ht r) Pd) (behind_no hn)) fun σ H Q g => main _ _ _ g⟩
  | false => exact ⟨PEimp (pe_cmp (pc_din hu (pe_key ht r) Pd) (behind_no hn)) main, PTimp (pt_cmp (pc_din hu (pe_key ht r) Pd) (behind_no hn)) fun σ H Q g => main _ _ _ g⟩
theorem r_dnew (t : Bool) : PE X (.Dict [] [] pos) (tW G Wx (ev T (.dnew t))) := by
  cases t with
  | false =>
    refine PEimp pe_dnewK fun σ H Q ⟨ρ, σw, h, sr, hr, g⟩ p n => ?_
    simp only [ev, Bool.false_eq_true, if_false] at g
    obtain ⟨e2, hr2⟩ := hr.push (o := .dk []) (u := .dK []) n fun e => ⟨[], upd_same, RepD.nil⟩
    exact g _ _ (ρ.push p) e2 hr2 (by rw [Rep]; exact ⟨p, Ro.push_last hr.len, rfl⟩)
  | true =>
    refine PEimp pe_dnewT fun σ H Q ⟨ρ, σw, h, sr, hr, g⟩ p n => ?_
    simp only [ev, if_true] at g
    obtain ⟨e2, hr2⟩ := hr.push (o := .dt []) (u := .dT []) n fun e => ⟨[], upd_same, RepD.nil⟩
    exact g _ _ (ρ.push p) e2 hr2 (by rw [Rep]; exact ⟨p, Ro.push_last hr.len, rfl⟩)
theorem pairs_rep {H : Hp} {ρ : Ro} : ∀ {ws : List W} {vs : List V} {kvs : List (W × W)}, pairsW ws = some kvs → RepL G H ρ ws vs → ∃ (ps : List Addr) (l : List (Key × V)), vs = ps.map V.ref ∧ Paired (fun p kv => SqT G.K H p [kV kv.1, kv.2]) ps l ∧ RepD G H ρ Key wK kvs l
  | [], vs, kvs, e, r => by
    rw [RepL] at r; subst r
    cases e
    exact ⟨[], [], rfl, .nil, RepD.nil⟩
  | w :: ws, vs, kvs, e, r => by
    unfold pairsW at e
    split at e
    · rename_i e0; cases e0
    · rename_i k x r' e0
      cases e0
      split at e
      · rename_i hk
        simp only [Option.map_eq_some_iff] at e
        obtain ⟨kvs', e', rfl⟩ := e
        rw [RepL] at r
        obtain ⟨v, t, rfl, r1, r2⟩ := r
        obtain ⟨ps, l, rfl, hp, rd⟩ := pairs_rep e' r2
        rw [Rep] at r1
        obtain ⟨a, us, rfl, t1, l1, r3⟩ := r1
        simp only [RepL] at r3
        obtain ⟨v1, t1', rfl, q1, v2, t2', rfl, q2, rfl⟩ := r3
        obtain ⟨ks, z1, z2⟩ := keys_of (xs := [k]) (vs := [v1]) (by simp [keysW, hk]) (RepL.cons q1 RepL.nil)
        match ks, z1, z2 with
        | [kk], z1, z2 =>
          simp only [List.map_cons, List.map_nil, List.cons.injEq, and_true] at z1 z2
          subst z1; subst z2
          exact ⟨a :: ps, (kk, v2) :: l, rfl, .cons t1.sq hp, RepD.cons q2 rd⟩
        | [], z1, _ => cases z1
        | _ :: _ :: _, z1, _ => cases z1
      · cases e
    · cases e
theorem r_mkd (ok : XOk c G T lvl Wx X) {n : Str} {e : E} (hn : n = ("dict" : Str)) (hg : c.gl n = true) (hs : ∀ b p, z ≠ .Starred b p) (ha : PE X z (tW G Wx (ev T e))) : PE X (.Call (.Name n p) [z] [] pos) (tW G Wx (ev T (.mkd e))) := by
  subst hn
  obtain ⟨g1, g2⟩ := ok.gl hg
  have hm : X.mg "dict" = none := ok.blt _ (by simp [bltNames])
  refine PEimp (pe_callTy (call_dictP ok.calm) g1 hm boot_dict (pa_cons ha pa_nil (star_cons hs)) (by decide) g2 (star_cons hs) rfl) fun σ H Q ⟨ρ, σw, h, sr, hr, g⟩ => ?_
  simp only [ev] at g
  refine ⟨ρ, σw, h, sr, hr, (GW.bind g).imp fun v1 H1 ⟨ρ1, w1, h1, e1, hr1, r1, g1⟩ => ?_⟩
  have rv := view_rep hr1 r1
  split at g1
  · rename_i ws ew
    rw [ew] at rv
    split at g1
    · rename_i kvs ek
      simp only [VRep] at rv
      obtain ⟨a, vs, rfl, t1, l1, r2⟩ := rv
      obtain ⟨ps, l, rfl, hp, rd⟩ := pairs_rep ek r2
      refine ⟨a, ps, l, rfl, ok.K ▸ t1.sq, ok.K ▸ hp, fun q n => g1 _ _ ρ1 (Ext.laid n) (hr1.laid n) ?_⟩
      rw [Rep]
      exact .inl ⟨rfl, q, _, rfl, ⟨upd_same, hr1.fresh n⟩, RepD.mono (Ext.laid n) _ _ (RepD.merge rd RepD.nil)⟩
    · exact g1.elim
  · exact g1.elim
theorem r_dget2 (ok : XOk c G T lvl Wx X) {tp : Bool} {d e : E} {ks : List E} {n : Str} {apos : Pos} (hn : n = ("get" : Str)) (hl : plainRecv y = true) (hp : apos.endLine = pos.line) (hs1 : ∀ b p, z ≠ .Starred b p) (hs2 : ∀ b p, u ≠ .Starred b p) (ht : tp = dispX z)
    (Pd : PE X y (tW G Wx (ev T d))) (r : Lst c G T Wx X ks (keyX tp z)) (Pe : PE X u (tW G Wx (ev T e))) : PE X (.Call (.Attribute y n apos) [z, u] [] pos) (tW G Wx (ev T (.dget2 tp d ks e))) := by
  subst hn
  have hu : X.A.units + 1 < cLine := by have := ok.un; omega
  have m : M2 X y "get" apos z u pos := ⟨recv_base hl, by rw [star_cons hs1, star_cons hs2]; rfl, by rw [hp]; exact beq_self_eq_true _, by rw [star_cons hs1, star_cons hs2]; rfl⟩
  refine PEimp (pe_dget2 hu Pd (pe_key ht r) Pe m) fun σ H Q ⟨ρ, σw, h, sr, hr, g⟩ => ?_
  simp only [ev] at g
  refine ⟨ρ, σw, h, sr, hr, (GW.bind g).imp fun v1 H1 ⟨ρ1, w1, h1, e1, hr1, r1, g1⟩ => ?_⟩
  split at g1
  · rename_i hd
    have rv1 := view_rep hr1 r1
    obtain ⟨t0, kvs0, ed0⟩ : ∃ t kvs, view h1 w1 = .dct t kvs := by
      cases q : view h1 w1 <;> rw [q] at hd <;> first | exact ⟨_, _, rfl⟩ | cases hd
    rw [ed0] at rv1
    have isd : ∃ a, v1 = .ref a ∧ IsD H1 a := by
      rcases rv1 with ⟨_, a, l, rfl, ee, _⟩ | ⟨_, a, l, rfl, ee, _⟩
      · exact ⟨a, rfl, .inl ⟨l, .inl ee⟩⟩
      · exact ⟨a, rfl, .inr ⟨l, .inl ee⟩⟩
    obtain ⟨a0, ea0, isd⟩ := isd
    refine ⟨a0, ea0, isd, ?_⟩
    refine key_read (R := fun ws h1 H1 ρ1 => GW G Wx σ H1 ρ1 (match keyOf tp ws with
      | some y => (ev T e σw h1).bind fun w h => (match getW tp (view h w1) y with
        | some o => .ok (o.getD w) h
        | none => .bad)
      | none => .bad) Q) (fun _ _ _ _ _ _ e g => GW.mono e g) (sr.mono e1) hr1 (GL.bind g1) (fun v H2 ρ2 ws h2 k e2 hr2 g2 ek at_ => ?_) fun ws h2 H2 ρ2 g2 z => ?_
    · rw [ek] at g2
      refine ⟨ρ2, σw, h2, (sr.mono e1).mono e2, hr2, (GW.bind g2).imp fun x H3 ⟨ρ3, w3, h3, e3, hr3, r3, g3⟩ => ?_⟩
      split at g3
      · rename_i o ew
        obtain ⟨t, kvs, ed, kt, eo⟩ := getW_dct ew
        have rv := view_rep hr3 (Rep.mono e3 _ _ (Rep.mono e2 _ _ r1))
        rw [ed] at rv
        obtain ⟨a, o', ea, dg, oc⟩ := dget_at rv ((at_ t kt).mono e3)
        rw [ea0] at ea
        cases ea
        refine ⟨o', dg, ?_⟩
        refine g3 _ H3 ρ3 (Ext.refl _ _) hr3 ?_
        rcases oc with ⟨z, rfl⟩ | ⟨w', u, z1, rfl, z3⟩
        · rw [eo, z]; exact r3
        · rw [eo, z1]; exact z3
      · exact g3.elim
    · rw [z] at g2
      exact g2
  · exact g1.elim
end
end Y

namespace Y
open PySem PySem.Spec PyProof.Rows L2
/-! every expression that stands for a given one, is it -/
theorem pt_of {X : Cx} {x : Expr} {t : TE} (h : PE X x t) (he : ∀ whole, PySem.isTrue x X.env whole = (do let v ← whole; standAt x.pos; holding [v] (truthy v))) : PT X x (tB t) := pt_val h he
section
variable {G : Gx} {T : Cal} {lvl : Nat}
theorem comp_lst {own : List Nat} {tg : Tg} {ik : IK} {es : List E} {cond elt : E} : ∀ σw h w h', ev T (.comp own tg ik es cond elt) σw h = .ok w h' → ∃ ws, w = .lst ws := fun σw h w h' e => by
  simp only [ev] at e
  cases q : evs T es σw h with
  | ok ws h1 =>
    rw [q] at e
    simp only [R.bind_ok] at e
    cases q2 : itemsOf h1 ik ws with
    | none => rw [q2] at e; cases e
    | some items =>
      rw [q2] at e
      simp only at e
      split at e
      · have e : (compL (stands ik ws items) (compF T own tg cond elt σw) items h1).bind (fun ys h => .ok (.lst ys) h) = .ok w h' := e
        cases q3 : compL (stands ik ws items) (compF T own tg cond elt σw) items h1 with
        | ok ys h2 => rw [q3] at e; cases e; exact ⟨_, rfl⟩
        | exc c fs h2 => rw [q3] at e; cases e
        | bad => rw [q3] at e; cases e
      · cases e
  | exc c fs h1 => rw [q] at e; cases e
  | bad => rw [q] at e; cases e
theorem lstop_lst {es : List E} : ∀ σw h w h', ev T (.op .list es) σw h = .ok w h' → ∃ ws, w = .lst ws := fun σw h w h' e => by
  simp only [ev] at e
  cases q : evs T es σw h with
  | ok ws h1 =>
    rw [q] at e
    simp only [R.bind_ok, opR] at e
    cases q2 : opW .list (ws.map (view h1)) with
    | none => rw [q2] at e; cases e
    | some u =>
      rw [q2] at e
      cases e
      simp only [opW] at q2
      split at q2 <;> first | (cases q2; exact ⟨_, rfl⟩) | cases q2
  | exc c fs h1 => rw [q] at e; cases e
  | bad => rw [q] at e; cases e
/-- list(..), handed over -/
def rListF (G : Gx) : List V → Hp → VK → Prop := fun vs H Q => ∃ ρ h ws us, HRep G H ρ h ∧ VRepL G H ρ ws vs ∧ opW .list ws = some (.lst us) ∧ ∀ p ys H' ρ', Ext H ρ H' ρ' → HRep G H' ρ' h → RepL G H' ρ' us ys → H' p = none → ys.length ≤ sizeLine → Q (.ref p) (upd H' p (.lst ys))
theorem call_listF {X : Cx} (hG : X.K = G.K) (hc : X.calm = true) : CallR X (.type "list") (rListF G) := by
  intro pins s σ H vs us Q I r hq
  obtain ⟨ρ, h, ws, us', hr, rv, e, k⟩ := hq
  simp only [opW] at e
  split at e
  · cases e
    obtain ⟨x, rfl, rx⟩ := rv.one
    obtain ⟨p, ys, rfl, h1, h2, h3⟩ := (vseq (X := X) hG).2 rx
    exact call_list_of pins s σ H _ us Q I r ⟨p, ys, rfl, .inr h1, fun l n => k l ys H ρ (Ext.refl _ _) hr h3 n h2⟩
  · cases e
    obtain ⟨x, rfl, rx⟩ := rv.one
    obtain ⟨p, ys, rfl, h1, h2, h3⟩ := (vseq (X := X) hG).1 rx
    exact call_list_of pins s σ H _ us Q I r ⟨p, ys, rfl, .inl h1, fun l n => k l ys H ρ (Ext.refl _ _) hr h3 n h2⟩
  · cases e
    obtain ⟨x, rfl, rx⟩ := rv.one
    exact call_listD hc I r rx fun p vs n hl rr => k p vs H ρ (Ext.refl _ _) hr rr n hl
  · cases e
theorem r_listF {c : Cc} {Wx : WX} {X : Cx} (ok : XOk c G T lvl Wx X) {x : Expr} {es : List E} {xs : List Expr} (hx : opX c .list x = some xs) (r : Lst c G T Wx X es xs) : PE X x (tF G Wx (ev T (.op .list es))) := by
  unfold opX at hx
  split at hx
  · contradiction
  · contradiction
  · contradiction
  · contradiction
  · contradiction
  · split at hx
    · rename_i hc
      cases hx
      simp only [Bool.and_eq_true, decide_eq_true_eq] at hc
      obtain ⟨_, rfl, hg⟩ := hc
      obtain ⟨g1, g2⟩ := ok.gl hg
      have hm : X.mg (opN .list) = none := ok.blt _ (by simp [opN, bltNames])
      refine PEimp (pe_callTy (call_listF ok.K ok.calm) g1 hm boot_list r.pa (opN_ok .list).1 g2 (star_cons (r.ns _ (by simp))) (noplus fun d m => r.ns d (List.mem_cons_of_mem _ m))) fun σ H Q ⟨ρ, σw, h, sr, hr, g⟩ => ?_
      simp only [ev] at g
      refine ⟨ρ, σw, h, sr, hr, ?_⟩
      cases q : evs T es σw h with
      | exc c fs h' => rw [q] at g; exact g
      | bad => rw [q] at g; exact g
      | ok ws h1 =>
        rw [q] at g
        simp only [R.bind_ok, opR] at g
        intro vs H1 ρ1 e1 hr1 rv
        cases q2 : opW .list (ws.map (view h1)) with
        | none => rw [q2] at g; exact g.elim
        | some u =>
          rw [q2] at g
          obtain ⟨us, rfl, k⟩ := g
          exact ⟨ρ1, h1, _, us, hr1, viewL_rep hr1 rv, q2, fun p ys H' ρ' e' hr' rl n hl => k p ys H' ρ' (e1.trans e') hr' rl n hl⟩
    · cases hx
  · cases hx
def plainT (X : Cx) (x : Expr) : Prop := ∀ whole, PySem.isTrue x X.env whole = (do let v ← whole; standAt x.pos; holding [v] (truthy v))
def SE (G : Gx) (T : Cal) (lvl : Nat) (e : E) : Prop := ∀ (c : Cc) (Wx : WX) (X : Cx) (x : Expr), XOk c G T lvl Wx X → mE c e x = true → PE X x (tW G Wx (ev T e)) ∧ PT X x (tB (tW G Wx (ev T e))) ∧ (freshE e = true → PE X x (tF G Wx (ev T e)) ∧ plainT X x)
def SEs (G : Gx) (T : Cal) (lvl : Nat) (es : List E) : Prop := ∀ (c : Cc) (Wx : WX) (X : Cx) (xs : List Expr), XOk c G T lvl Wx X → mEs c es xs = true → Lst c G T Wx X es xs
theorem mkS {X : Cx} {Wx : WX} {x : Expr} {e : E} (hf : freshE e = false) (P : PE X x (tW G Wx (ev T e))) (he : plainT X x) : PE X x (tW G Wx (ev T e)) ∧ PT X x (tB (tW G Wx (ev T e))) ∧ (freshE e = true → PE X x (tF G Wx (ev T e)) ∧ plainT X x) :=
  ⟨P, pt_of P he, fun z => by rw [hf] at z; cases z⟩
theorem mkS2 {X : Cx} {Wx : WX} {x : Expr} {e : E} (hf : freshE e = false) (P : PE X x (tW G Wx (ev T e)) ∧ PT X x (tB (tW G Wx (ev T e)))) : PE X x (tW G Wx (ev T e)) ∧ PT X x (tB (tW G Wx (ev T e))) ∧ (freshE e = true → PE X x (tF G Wx (ev T e)) ∧ plainT X x) :=
  ⟨P.1, P.2, fun z => by rw [hf] at z; cases z⟩
theorem mkF {X : Cx} {Wx : WX} {x : Expr} {e : E} (hl : ∀ σw h w h', ev T e σw h = .ok w h' → ∃ ws, w = .lst ws) (P : PE X x (tF G Wx (ev T e))) (he : plainT X x) : PE X x (tW G Wx (ev T e)) ∧ PT X x (tB (tW G Wx (ev T e))) ∧ (freshE e = true → PE X x (tF G Wx (ev T e)) ∧ plainT X x) :=
  ⟨tF_tW hl P, pt_of (tF_tW hl P) he, fun _ => ⟨P, he⟩⟩
theorem s_v (i : Nat) : SE G T lvl (.v i) := fun c Wx X x ok h => by
  simp only [mE] at h
  split at h
  · exact mkS rfl (r_var ok h) fun _ => rfl
  · cases h
theorem s_k (w : W) : SE G T lvl (.k w) := fun c Wx X x ok h => by
  simp only [mE] at h
  refine mkS rfl (r_k w h) fun _ => ?_
  unfold mK at h
  split at h <;> first | rfl | cases h
theorem s_g (k : Nm) : SE G T lvl (.g k) := fun c Wx X x ok h => by
  simp only [mE] at h
  split at h
  · simp only [Bool.and_eq_true, decide_eq_true_eq] at h
    exact mkS rfl (r_glob ok h.1 h.2.1 h.2.2) fun _ => rfl
  · cases h
theorem s_tup {es : List E} (ih : SEs G T lvl es) : SE G T lvl (.tup es) := fun c Wx X x ok h => by
  simp only [mE] at h
  split at h
  · simp only [Bool.and_eq_true, decide_eq_true_eq] at h
    exact mkS rfl (r_tup (ih c Wx X _ ok h.2).pa h.1) fun _ => rfl
  · cases h
theorem s_lst {es : List E} (ih : SEs G T lvl es) : SE G T lvl (.lst es) := fun c Wx X x ok h => by
  simp only [mE] at h
  split at h
  · simp only [Bool.and_eq_true, decide_eq_true_eq] at h
    exact mkF lst_is (r_lstF (ih c Wx X _ ok h.2).pa h.1) fun _ => rfl
  · cases h
theorem s_bin (o : BO) {a b : E} (ia : SE G T lvl a) (ib : SE G T lvl b) : SE G T lvl (.bin o a b) := fun c Wx X x ok h => by
  simp only [mE] at h
  split at h
  · simp only [Bool.and_eq_true, decide_eq_true_eq] at h
    rename_i pos
    obtain ⟨rfl, h1, h2⟩ := h
    have P := r_bin (pos := pos) ok o (ia c Wx X _ ok h1).1 (ib c Wx X _ ok h2).1
    refine ⟨P, pt_of P fun _ => rfl, fun z => ⟨?_, fun _ => rfl⟩⟩
    cases o <;> first | cases z | skip
    · exact r_binF (o := .add) ok (op_addF ok.K) (ia c Wx X _ ok h1).1 (ib c Wx X _ ok h2).1
    · exact r_binF (o := .mul) ok (op_mulF ok.K) (ia c Wx X _ ok h1).1 (ib c Wx X _ ok h2).1
  · cases h
theorem s_neg {a : E} (ia : SE G T lvl a) : SE G T lvl (.neg a) := fun c Wx X x ok h => by
  simp only [mE] at h
  split at h
  · simp only [Bool.and_eq_true, decide_eq_true_eq] at h
    obtain ⟨rfl, h1⟩ := h
    exact mkS rfl (r_neg ok (ia c Wx X _ ok h1).1) fun _ => rfl
  · cases h
theorem s_cmp (o : CO) {a b : E} (ia : SE G T lvl a) (ib : SE G T lvl b) : SE G T lvl (.cmp o a b) := fun c Wx X x ok h => by
  simp only [mE] at h
  split at h
  · simp only [Bool.and_eq_true, decide_eq_true_eq] at h
    obtain ⟨rfl, h0, h1, h2⟩ := h
    exact mkS2 rfl (r_cmp ok o (ia c Wx X _ ok h1).1 (ib c Wx X _ ok h2).1 h0)
  · cases h
theorem s_cmp2 (o q : CO) {a b d : E} (ia : SE G T lvl a) (ib : SE G T lvl b) (id' : SE G T lvl d) : SE G T lvl (.cmp2 o q a b d) := fun c Wx X x ok h => by
  simp only [mE] at h
  split at h
  · simp only [Bool.and_eq_true, decide_eq_true_eq] at h
    obtain ⟨rfl, rfl, h0, h1, h2, h3⟩ := h
    exact mkS2 rfl (r_cmp2 ok o q (ia c Wx X _ ok h1).1 (ib c Wx X _ ok h2).1 (id' c Wx X _ ok h3).1 h0)
  · cases h
theorem s_and {es : List E} (ih : SEs G T lvl es) : SE G T lvl (.andL es) := fun c Wx X x ok h => by
  simp only [mE] at h
  split at h
  · rename_i y ys pos
    obtain ⟨P, Q⟩ := (ih c Wx X _ ok h).and_ pos (by simp)
    exact mkS2 rfl ⟨PEimp P fun σ H Q ⟨ρ, σw, h, sr, hr, g⟩ => ⟨ρ, σw, h, sr, hr, by simp only [ev] at g; exact g⟩, PTimp Q.pt fun σ H Q ⟨ρ, σw, h, sr, hr, g⟩ => ⟨ρ, σw, h, sr, hr, by simp only [ev] at g; exact g⟩⟩
  · cases h
theorem s_or {es : List E} (ih : SEs G T lvl es) : SE G T lvl (.orL es) := fun c Wx X x ok h => by
  simp only [mE] at h
  split at h
  · rename_i y ys pos
    obtain ⟨P, Q⟩ := (ih c Wx X _ ok h).or_ pos (by simp)
    exact mkS2 rfl ⟨PEimp P fun σ H Q ⟨ρ, σw, h, sr, hr, g⟩ => ⟨ρ, σw, h, sr, hr, by simp only [ev] at g; exact g⟩, PTimp Q.pt fun σ H Q ⟨ρ, σw, h, sr, hr, g⟩ => ⟨ρ, σw, h, sr, hr, by simp only [ev] at g; exact g⟩⟩
  · cases h
theorem s_not {a : E} (ia : SE G T lvl a) : SE G T lvl (.notE a) := fun c Wx X x ok h => by
  simp only [mE] at h
  split at h
  · simp only [Bool.and_eq_true, decide_eq_true_eq] at h
    obtain ⟨rfl, h1⟩ := h
    have P := ia c Wx X _ ok h1
    exact mkS2 rfl (r_not ok P.1 P.2.1)
  · cases h
theorem s_ife {t a b : E} (it : SE G T lvl t) (ia : SE G T lvl a) (ib : SE G T lvl b) : SE G T lvl (.ife t a b) := fun c Wx X x ok h => by
  simp only [mE] at h
  split at h
  · simp only [Bool.and_eq_true] at h
    obtain ⟨h1, h2, h3⟩ := h
    have Pa := ia c Wx X _ ok h2
    have Pb := ib c Wx X _ ok h3
    exact mkS2 rfl (r_ife ok (it c Wx X _ ok h1).2.1 Pa.1 Pb.1 Pa.2.1 Pb.2.1)
  · cases h
theorem s_ix {a i : E} (ia : SE G T lvl a) (ii : SE G T lvl i) : SE G T lvl (.ix a i) := fun c Wx X x ok h => by
  simp only [mE] at h
  split at h
  · simp only [Bool.and_eq_true] at h
    obtain ⟨h1, h2, h3⟩ := h
    exact mkS rfl (r_ix ok (ia c Wx X _ ok h2).1 (ii c Wx X _ ok h3).1 h1) fun _ => rfl
  · cases h
theorem s_sl {a lo hi : E} (ia : SE G T lvl a) (il : SE G T lvl lo) (ih : SE G T lvl hi) : SE G T lvl (.sl a lo hi) := fun c Wx X x ok h => by
  simp only [mE] at h
  split at h
  · rename_i y l u p2 pos
    simp only [Bool.and_eq_true] at h
    obtain ⟨h1, h2, h3⟩ := h
    have Pl : PO X l (tP G Wx T lo) := by
      split at h2
      · split at h2
        · exact r_none
        · cases h2
      · simp only [Bool.and_eq_true] at h2
        exact r_some h2.1 (il c Wx X _ ok h2.2).1
    have Pu : PO X u (tP G Wx T hi) := by
      split at h3
      · split at h3
        · exact r_none
        · cases h3
      · simp only [Bool.and_eq_true] at h3
        exact r_some h3.1 (ih c Wx X _ ok h3.2).1
    exact mkS rfl (r_sl ok (ia c Wx X _ ok h1).1 Pl Pu) fun _ => rfl
  · cases h
theorem s_call (m : Md) (f : Nm) {es : List E} (ih : SEs G T lvl es) : SE G T lvl (.call m f es) := fun c Wx X x ok h => by
  simp only [mE] at h
  split at h
  · simp only [Bool.and_eq_true, decide_eq_true_eq] at h
    obtain ⟨h1, h2, h3, h4⟩ := h
    have L := ih c Wx X _ ok h4
    refine mkS rfl (r_call ok (m := m) h1 h2 h3 L.ns L.pa fun z => ?_) fun _ => rfl
    have := L.len
    rw [z] at this
    exact List.length_eq_zero_iff.mp this
  · cases h
theorem s_op (f : Op) {es : List E} (ih : SEs G T lvl es) : SE G T lvl (.op f es) := fun c Wx X x ok h => by
  simp only [mE] at h
  split at h
  · rename_i xs hx
    have L := ih c Wx X _ ok h
    obtain ⟨P, e⟩ := r_op ok hx L
    refine ⟨P, pt_of P e, fun hf => ?_⟩
    have ef : f = .list := by cases f <;> first | rfl | cases hf
    subst ef
    exact ⟨r_listF ok hx L, e⟩
  · cases h
theorem s_comp (own : List Nat) (tg : Tg) (ik : IK) {es : List E} {cond elt : E} (ih : SEs G T lvl es) (ic : SE G T lvl cond) (ie : SE G T lvl elt) : SE G T lvl (.comp own tg ik es cond elt) := fun c Wx X x ok h => by
  simp only [mE] at h
  split at h
  · rename_i y tgx iter ifs a scope pos
    simp only [Bool.and_eq_true, decide_eq_true_eq] at h
    obtain ⟨rfl, h1, h2, h3, h4, h5, h6, h7⟩ := h
    split at h4
    · rename_i xs hx
      have L := ih c Wx X _ ok h4
      refine mkF comp_lst (r_comp ok h1 h2 h3 hx L h5 (fun X' ok' => ?_) fun X' ok' => (ie _ _ X' _ ok' h7).1) fun _ => rfl
      split at h6
      · split at h6
        · refine PTsimp pts_nil fun σ H Q ⟨ρ, σw, h, sr, hr, g⟩ => ?_
          simp only [ev] at g
          obtain ⟨k, ek, q⟩ := g _ H ρ (Ext.refl _ _) hr (by rw [Rep])
          cases ek
          exact q
        · cases h6
      · exact pts_one (ic _ _ X' _ ok' h6).2.1
      · cases h6
    · cases h4
  · cases h
theorem s_thaw {e : E} (ie : SE G T lvl e) : SE G T lvl (.thaw e) := fun c Wx X x ok h => by
  simp only [mE, Bool.and_eq_true] at h
  obtain ⟨P, e⟩ := (ie c Wx X x ok h.2).2.2 h.1
  exact mkS rfl (tF_thaw P) e
theorem s_app {o e : E} (io : SE G T lvl o) (ie : SE G T lvl e) : SE G T lvl (.app o e) := fun c Wx X x ok h => by
  simp only [mE] at h
  split at h
  · simp only [Bool.and_eq_true, decide_eq_true_eq] at h
    obtain ⟨h1, h2, h3, h4, h5, h6⟩ := h
    exact mkS rfl (r_append ok h1 h2 h3 (notStar_ne h4) (io c Wx X _ ok h5).1 (ie c Wx X _ ok h6).1) fun _ => rfl
  · cases h
theorem s_pop {o : E} (io : SE G T lvl o) : SE G T lvl (.pop o) := fun c Wx X x ok h => by
  simp only [mE] at h
  split at h
  · simp only [Bool.and_eq_true, decide_eq_true_eq] at h
    obtain ⟨h1, h2, h3, h4⟩ := h
    exact mkS rfl (r_pop ok h1 h2 h3 (io c Wx X _ ok h4).1) fun _ => rfl
  · cases h
theorem s_dget {tp : Bool} {d : E} {ks : List E} (id_ : SE G T lvl d) (ik : SEs G T lvl ks) : SE G T lvl (.dget tp d ks) := fun c Wx X x ok h => by
  simp only [mE] at h
  split at h
  · simp only [Bool.and_eq_true, decide_eq_true_eq] at h
    obtain ⟨h1, h2, h3, h4⟩ := h
    exact mkS rfl (r_dget ok h1 h2 (id_ c Wx X _ ok h3).1 (ik c Wx X _ ok h4)) fun _ => rfl
  · cases h
theorem s_dget2 {tp : Bool} {d e : E} {ks : List E} (id_ : SE G T lvl d) (ik : SEs G T lvl ks) (ie : SE G T lvl e) : SE G T lvl (.dget2 tp d ks e) := fun c Wx X x ok h => by
  simp only [mE] at h
  split at h
  · simp only [Bool.and_eq_true, decide_eq_true_eq] at h
    obtain ⟨h1, h2, h3, h4, h5, h6, h7, h8, h9⟩ := h
    exact mkS rfl (r_dget2 ok h1 h2 h3 (notStar_ne h4) (notStar_ne h5) h6 (id_ c Wx X _ ok h7).1 (ik c Wx X _ ok h8) (ie c Wx X _ ok h9).1) fun _ => rfl
  · cases h
theorem s_din (no tp : Bool) {d : E} {ks : List E} (id_ : SE G T lvl d) (ik : SEs G T lvl ks) : SE G T lvl (.din no tp ks d) := fun c Wx X x ok h => by
  simp only [mE] at h
  split at h
  · simp only [Bool.and_eq_true, decide_eq_true_eq] at h
    obtain ⟨rfl, h1, h2, h3, h4⟩ := h
    exact mkS2 rfl (r_din ok no h1 h2 (id_ c Wx X _ ok h3).1 (ik c Wx X _ ok h4))
  · cases h
theorem s_dnew (t : Bool) : SE G T lvl (.dnew t) := fun c Wx X x ok h => by
  simp only [mE] at h
  split at h
  · exact mkS rfl (r_dnew t) fun _ => rfl
  · cases h
theorem s_mkd {e : E} (ie : SE G T lvl e) : SE G T lvl (.mkd e) := fun c Wx X x ok h => by
  simp only [mE] at h
  split at h
  · simp only [Bool.and_eq_true, decide_eq_true_eq] at h
    obtain ⟨h1, h2, h3, h4⟩ := h
    exact mkS rfl (r_mkd ok h1 h2 (notStar_ne h3) (ie c Wx X _ ok h4).1) fun _ => rfl
  · cases h
theorem s_nil : SEs G T lvl [] := fun c Wx X xs ok h => by
  simp only [mEs] at h
  split at h
  · exact Lst.nil
  · cases h
theorem s_cons {e : E} {es : List E} (ie : SE G T lvl e) (ih : SEs G T lvl es) : SEs G T lvl (e :: es) := fun c Wx X xs ok h => by
  simp only [mEs] at h
  split at h
  · simp only [Bool.and_eq_true] at h
    obtain ⟨h1, h2, h3⟩ := h
    have P := ie c Wx X _ ok h2
    exact Lst.cons h1 P.1 P.2.1 (ih c Wx X _ ok h3)
  · cases h
mutual
theorem sE : ∀ e : E, SE G T lvl e
  | .v i => s_v i
  | .k w => s_k w
  | .g k => s_g k
  | .tup es => s_tup (sEs es)
  | .lst es => s_lst (sEs es)
  | .bin o a b => s_bin o (sE a) (sE b)
  | .neg a => s_neg (sE a)
  | .cmp o a b => s_cmp o (sE a) (sE b)
  | .cmp2 o q a b d => s_cmp2 o q (sE a) (sE b) (sE d)
  | .andL es => s_and (sEs es)
  | .orL es => s_or (sEs es)
  | .notE a => s_not (sE a)
  | .ife t a b => s_ife (sE t) (sE a) (sE b)
  | .ix a i => s_ix (sE a) (sE i)
  | .sl a lo hi => s_sl (sE a) (sE lo) (sE hi)
  | .call m f es => s_call m f (sEs es)
  | .op f es => s_op f (sEs es)
  | .comp own tg ik es cond elt => s_comp own tg ik (sEs es) (sE cond) (sE elt)
  | .thaw e => s_thaw (sE e)
  | .app o e => s_app (sE o) (sE e)
  | .pop o => s_pop (sE o)
  | .dget _ d ks => s_dget (sE d) (sEs ks)
  | .dget2 _ d ks e => s_dget2 (sE d) (sEs ks) (sE e)
  | .din no tp ks d => s_din no tp (sE d) (sEs ks)
  | .dnew t => s_dnew t
  | .mkd e => s_mkd (sE e)
  | .fld _ _ => fun c Wx X x ok h => by simp only [mE, Bool.false_eq_true] at h
  | .meth _ _ _ _ => fun c Wx X x ok h => by simp only [mE, Bool.false_eq_true] at h
  | .new _ _ => fun c Wx X x ok h => by simp only [mE, Bool.false_eq_true] at h
theorem sEs : ∀ es : List E, SEs G T lvl es
  | [] => s_nil
  | e :: es => s_cons (sE e) (sEs es)
end
end
end Y

namespace Y
open PySem PySem.Spec PyProof.Rows L2
/-! statements -/
def GS (G : Gx) (Wx : WX) (D : Ends) (H : Hp) (ρ : Ro) : Fl → Prop
  | .nx σ' h' => ∀ σ2 H' ρ', Ext H ρ H' ρ' → HRep G H' ρ' h' → SRep G H' ρ' σ' σ2 → D.nx σ2 H'
  | .rt w h' => ∀ v H' ρ', Ext H ρ H' ρ' → HRep G H' ρ' h' → Rep G H' ρ' w v → D.rt v H'
  | .bk σ' h' => ∀ σ2 H' ρ', Ext H ρ H' ρ' → HRep G H' ρ' h' → SRep G H' ρ' σ' σ2 → D.bk σ2 H'
  | .exc c fs h' => ∀ cls d σ2 H' ρ', Ext H ρ H' ρ' → HRep G H' ρ' h' → XRep G c fs cls d → Wx cls d σ2 H'
  | .bad => False
def tS (G : Gx) (Wx : WX) (m : Env → WH → Fl) : TS := fun D σ H => ∃ ρ σw h, SRep G H ρ σw σ ∧ HRep G H ρ h ∧ GS G Wx D H ρ (m σw h)
section
variable {G : Gx} {Wx : WX} {σ : L2.St} {H H1 : Hp} {ρ ρ1 : Ro} {D D' : Ends}
theorem GS.mono {r : Fl} (e : Ext H ρ H1 ρ1) (g : GS G Wx D H ρ r) : GS G Wx D H1 ρ1 r := by
  cases r with
  | nx σ' h' => exact fun σ2 H' ρ' e' hr s => g σ2 H' ρ' (e.trans e') hr s
  | bk σ' h' => exact fun σ2 H' ρ' e' hr s => g σ2 H' ρ' (e.trans e') hr s
  | rt w h' => exact fun v H' ρ' e' hr s => g v H' ρ' (e.trans e') hr s
  | exc c fs h' => exact fun cls d σ2 H' ρ' e' hr x => g cls d σ2 H' ρ' (e.trans e') hr x
  | bad => exact g
theorem GS.flow {r : R W} {f : W → WH → Fl} (σ : L2.St) (g : GS G Wx D H ρ (r.flow f)) : GW G Wx σ H ρ r fun v H1 => ∃ ρ1 w h1, Ext H ρ H1 ρ1 ∧ HRep G H1 ρ1 h1 ∧ Rep G H1 ρ1 w v ∧ GS G Wx D H1 ρ1 (f w h1) := by
  cases r with
  | ok w h' => exact fun v H' ρ' e' hr rp => ⟨ρ', w, h', e', hr, rp, g.mono e'⟩
  | exc c fs h' => exact fun cls d H' ρ' e hr x => g cls d σ H' ρ' e hr x
  | bad => exact g
theorem GS.flowL {r : R (List W)} {f : List W → WH → Fl} (σ : L2.St) (g : GS G Wx D H ρ (r.flow f)) : GL G Wx σ H ρ r fun v H1 => ∃ ρ1 w h1, Ext H ρ H1 ρ1 ∧ HRep G H1 ρ1 h1 ∧ RepL G H1 ρ1 w v ∧ GS G Wx D H1 ρ1 (f w h1) := by
  cases r with
  | ok w h' => exact fun v H' ρ' e' hr rp => ⟨ρ', w, h', e', hr, rp, g.mono e'⟩
  | exc c fs h' => exact fun cls d H' ρ' e hr x => g cls d σ H' ρ' e hr x
  | bad => exact g
theorem GS.seq {r : Fl} {f : Env → WH → Fl} (g : GS G Wx D H ρ (r.seq f)) : GS G Wx { D with nx := fun σ2 H2 => ∃ ρ2 σw2 h2, SRep G H2 ρ2 σw2 σ2 ∧ HRep G H2 ρ2 h2 ∧ GS G Wx D H2 ρ2 (f σw2 h2) } H ρ r := by
  cases r with
  | nx σ' h' => exact fun σ2 H' ρ' e hr s => ⟨ρ', σ', h', s, hr, g.mono e⟩
  | bk σ' h' => exact g
  | rt w h' => exact g
  | exc c fs h' => exact g
  | bad => exact g
/-- the body of a loop -/
def loopK (K : Env → WH → Fl) : Fl → Fl
  | .nx σ h => K σ h
  | .bk σ h => .nx σ h
  | x => x
theorem GS.loop {r : Fl} {K : Env → WH → Fl} (g : GS G Wx D H ρ (loopK K r)) {N : L2.St → Hp → Prop} (hN : ∀ σ2 H2 ρ2 σw2 h2, Ext H ρ H2 ρ2 → SRep G H2 ρ2 σw2 σ2 → HRep G H2 ρ2 h2 → GS G Wx D H2 ρ2 (K σw2 h2) → N σ2 H2) :
    GS G Wx { D with nx := N, ct := N, bk := D.nx } H ρ r := by
  cases r with
  | nx σ' h' => exact fun σ2 H' ρ' e hr s => hN σ2 H' ρ' σ' h' e s hr (GS.mono e g)
  | bk σ' h' => exact g
  | rt w h' => exact g
  | exc c fs h' => exact g
  | bad => exact g
end
structure SOk (c : Cc) (G : Gx) (T : Cal) (lvl : Nat) (Wx : WX) (X : Cx) : Prop where
  x : XOk c G T lvl Wx X
  po : PassesOwn (model X.prog X.w) X.A X.env X.xe
  hs : X.stack = X.env :: X.outer
  hf : X.env.frame = some X.env.locals
  kind : c.sc.kind = .function
/-! side conditions of an assignment -/
def twoTup : Expr → Expr → Bool
  | .Tuple _ _ _, .Tuple _ _ _ => true
  | .List _ _, _ => true
  | _, _ => false
def isComp : Expr → Bool
  | .ListComp _ _ _ _ => true
  | .SetComp _ _ _ _ => true
  | .DictComp _ _ _ _ _ => true
  | _ => false
def isName : Expr → Bool
  | .Name _ _ => true
  | _ => false
theorem sw_stores {x y : Expr} {env : PySem.Env} (h : twoTup x y = false) : swappedStores [x] y env = pure none := by
  cases x <;> first | (cases h; done) | (cases y <;> first | rfl | cases h)
theorem sw_none {x y : Expr} {l : Nat} {env : PySem.Env} (h : (isComp y && isName x) = false) : swapsWithSole [x] y l env = pure false := by
  show swapsWith y (some x) l env = pure false
  cases y <;> first | rfl | (cases x <;> first | rfl | cases h)
theorem sw_drop {y : Expr} {l : Nat} {env : PySem.Env} (h : isComp y = false) : swapsWith y none l env = pure false := by
  cases y <;> first | rfl | cases h
/-- are the names of a comprehension let go behind the store -/
def swB (c : Cc) (t : Str) (tp : Pos) (scope : Scope) (cp : Pos) : Bool :=
  (c.sc.names.lookup t == some NameKind.local) && (tp.line == cp.line) && !(scope.names.any fun (n, k) => n == t && (k == .local || k == .cell))
theorem sw_comp {c : Cc} {t : Str} {tp cp : Pos} {elt : Expr} {gs : List Comprehension} {scope : Scope} {l : Nat} {env : PySem.Env} (hk : c.sc.kind = .function) (he : env.scope = c.sc) :
    swapsWith (.ListComp elt gs scope cp) (some (.Name t tp)) l env = pure (swB c t tp scope cp) := by
  have hb : env.blockKind = .function := by unfold PySem.Env.blockKind; rw [he, hk]; rfl
  have ky : env.kindOf t = c.sc.names.lookup t := by unfold PySem.Env.kindOf; rw [he]
  unfold swapsWith swB
  simp only [hb, ky, Expr.pos]
  rfl
def isStar : Expr → Bool
  | .Starred _ _ => true
  | _ => false
/-- a tuple of names = a tuple: which names are stored from the right -/
def swNames (c : Cc) (ts : List Expr) : List Str := ts.filterMap fun t => match t with
  | .Name id pos => if c.sc.names.lookup id == some .local && pos.line == (ts.head?.map (·.pos.line)).getD 0 then some id else none
  | _ => none
def swS (c : Cc) (ts vs : List Expr) : Option (Option (List Str)) :=
  if (!(ts.length == 2 || ts.length == 3) || vs.length != ts.length) = true then some none
  else if (vs.any isStar) = true then some none
  else if ((swNames c ts).length != ts.length || (swNames c ts).eraseDups.length != (swNames c ts).length) = true then some none
  else if (vs.all (foldedForSure 8)) = true then some none
  else if (vs.all (constantsAlone 8)) = true then none
  else some (some (swNames c ts))
def swNamesE (env : PySem.Env) (ts : List Expr) : List Str := ts.filterMap fun t => match t with
  | .Name id pos => if env.kindOf id == some .local && pos.line == (ts.head?.map (·.pos.line)).getD 0 then some id else none
  | _ => none
theorem sw_unfold {ts vs : List Expr} {k k2 : Nat} {p p2 : Pos} {env : PySem.Env} : swappedStores [.Tuple ts k p] (.Tuple vs k2 p2) env =
    (if (!(ts.length == 2 || ts.length == 3) || vs.length != ts.length || env.blockKind != .function) = true then pure none
    else if (vs.any isStar) = true then pure none
    else if ((swNamesE env ts).length != ts.length || (swNamesE env ts).eraseDups.length != (swNamesE env ts).length) = true then pure none
    else if (vs.all (foldedForSure 8)) = true then pure none
    else if (vs.all (constantsAlone 8)) = true then (do unsupported "assign.tuple-of-constant-expressions:order-of-the-stores"; pure (some (swNamesE env ts)))
    else pure (some (swNamesE env ts))) := rfl
theorem swS_ok {c : Cc} {ts vs : List Expr} {k k2 : Nat} {p p2 : Pos} {env : PySem.Env} {r : Option (List Str)} (hk : c.sc.kind = .function) (he : env.scope = c.sc) (h : swS c ts vs = some r) : swappedStores [.Tuple ts k p] (.Tuple vs k2 p2) env = pure r := by
  have hb : env.blockKind = .function := by unfold PySem.Env.blockKind; rw [he, hk]; rfl
  have hz : (env.blockKind != ScopeKind.function) = false := by rw [hb]; rfl
  have e2 : swNamesE env ts = swNames c ts := by
    unfold swNamesE swNames PySem.Env.kindOf
    rw [he]
  rw [sw_unfold, hz, Bool.or_false, e2]
  unfold swS at h
  split at h
  · rename_i q
    cases h
    rw [if_pos q]
  · rename_i q
    rw [if_neg q]
    split at h
    · rename_i q; cases h; rw [if_pos q]
    · rename_i q
      rw [if_neg q]
      split at h
      · rename_i q; cases h; rw [if_pos q]
      · rename_i q
        rw [if_neg q]
        split at h
        · rename_i q; cases h; rw [if_pos q]
        · rename_i q
          rw [if_neg q]
          split at h
          · cases h
          · rename_i q; cases h; rw [if_neg q]
def storesNo (c : Cc) : Expr → Expr → Bool
  | .Tuple ts _ _, .Tuple vs _ _ => (match swS c ts vs with
    | some none => true
    | _ => false)
  | x, y => !twoTup x y
theorem storesNo_ok {c : Cc} {x y : Expr} {env : PySem.Env} (hk : c.sc.kind = .function) (he : env.scope = c.sc) (h : storesNo c x y = true) : swappedStores [x] y env = pure none := by
  unfold storesNo at h
  split at h
  · split at h
    · rename_i q; exact swS_ok hk he q
    · cases h
  · exact sw_stores (by simpa using h)
/-! which text of mine stands for which statement -/
def locN (c : Cc) (i : Nat) (x : Str) : Bool := decide (c.N[i]? = some x) && (c.sc.names.lookup x == some NameKind.local)
def mPar (c : Cc) : List Nat → List Expr → List Str → Bool
  | [i, j], [.Name x _, .Name y _], names => locN c i x && (locN c j y && (decide (i ≠ j) && decide (names = [x, y])))
  | [i, j, l], [.Name x _, .Name y _, .Name z _], names => locN c i x && (locN c j y && (locN c l z && (decide (i ≠ j ∧ i ≠ l ∧ j ≠ l) && decide (names = [x, y, z]))))
  | _, _, _ => false
def leafH : HE → Bool
  | .isi _ => true
  | .isb => true
  | _ => false
/-- what an except suite hands back, of the text -/
def mH (c : Cc) (n : Option (Nat × Str)) : HE → Expr → Bool
  | .k w, x => mK w x
  | .isi k, x => (match x, n with
    | .Call (.Name f _) [.Name e _, .Name y _] [] _, some (i, e') => decide (f = ("isinstance" : Str)) && (c.gl f && (decide (e = e') && (c.vis i e && (decide (c.nm k = y) && (c.gl y && c.exc k)))))
    | _, _ => false)
  | .isb, x => (match x, n with
    | .Call (.Name f _) [.Name e _, .Name y _] [] _, some (i, e') => decide (f = ("isinstance" : Str)) && (c.gl f && (decide (e = e') && (c.vis i e && (decide (y = ("ValueError" : Str)) && c.gl y))))
    | _, _ => false)
  | .and a b, x => (match x with
    | .BoolOp .And [y, z] _ => mH c n a y && mH c n b z
    | _ => false)
  | .or a b, x => (match x with
    | .BoolOp .Or [y, z] _ => mH c n a y && mH c n b z
    | _ => false)
  | .ife t a b, x => (match x with
    | .IfExp y z u _ => (leafH t && mH c n t y) && (mH c n a z && mH c n b u)
    | _ => false)
def mHs (c : Cc) : List (Nm × HE) → List ExceptHandler → Bool
  | [], xs => (match xs with
    | [] => true
    | _ => false)
  | (k, he) :: r, xs => (match xs with
    | .ExceptHandler (some (.Name n _)) none [.Return (some y) _] _ :: t => decide (c.nm k = n) && (c.gl n && (c.exc k && (mH c none he y && mHs c r t)))
    | _ => false)
mutual
def mS (c : Cc) : S → Stmt → Bool
  | .asg tg e, x => (match x with
    | .Assign [y] z p => notStar y && (storesNo c y z && (mG c tg y && (match z with
      | .ListComp elt gs scope cp => (match y with
        | .Name t tp => (match e with
          | .comp _ _ _ _ _ _ => mE c e z
          | .thaw (.comp _ _ _ _ _ _) => mE c e z
          | _ => false)
        | _ => mE c e z)
      | z => !isComp z && mE c e z)))
    | _ => false)
  | .par is es, x => (match x with
    | .Assign [.Tuple ts _ _] (.Tuple vs _ _) p => (match swS c ts vs with
      | some (some names) => mPar c is ts names && mEs c es vs
      | _ => false)
    | _ => false)
  | .sub o i e, x => (match x with
    | .Assign [.Subscript y z _] v p => notSlice z && (!isComp v && (mE c e v && (mE c o y && mE c i z)))
    | _ => false)
  | .dput tp d ks e, x => (match x with
    | .Assign [.Subscript y z _] v _ => notSlice z && (!isComp v && (decide (tp = dispX z) && (mE c e v && (mE c d y && mEs c ks (keyX tp z)))))
    | _ => false)
  | .fld _ _ _, _ => false
  | .aug i o e, x => (match x with
    | .AugAssign (.Name y _) .Add z _ => (match o with
      | .add => c.loc i y && mE c e z
      | _ => false)
    | _ => false)
  | .ex e, x => (match x with
    | .Expr y p => !isComp y && mE c e y
    | _ => false)
  | .ret e, x => (match x with
    | .Return (some y) _ => mE c e y
    | _ => false)
  | .retN, x => (match x with
    | .Return none _ => true
    | _ => false)
  | .ite t a b, x => (match x with
    | .If y ys zs _ => mE c t y && (mSs c a ys && mSs c b zs)
    | _ => false)
  | .forS tg ik es wip body, x => (match x with
    | .For tgx iter ys [] _ => mG c tg tgx && ((match srcX c ik tgx iter with
      | some xs => mEs c es xs
      | none => false) && (notSet iter && mSs c body ys))
    | _ => false)
  | .whl n t wip body, x => (match x with
    | .While y ys [] _ => mE c t y && mSs c body ys
    | _ => false)
  | .pass, x => (match x with
    | .Pass _ => true
    | _ => false)
  | .brk, x => (match x with
    | .Break _ => true
    | _ => false)
  | .raise k, x => (match x with
    | .Raise (some (.Call (.Name n _) [.Constant (.str _) _ _] [] _)) none _ => decide (c.nm k = n) && (c.gl n && c.exc k)
    | _ => false)
  | .tryS body b hs, x => (match x with
    | .Try ys (z :: zs) [] [] _ => (match b, zs with
      | some i, [] => (match z, hs with
        | .ExceptHandler (some (.Name n _)) (some e) [.Return (some y) _] _, [(k, he)] => decide (c.nm k = n) && (c.gl n && (c.exc k && (c.loc i e && (locK false (c.sc.names.lookup e) && (mH c (some (i, e)) he y && mSs c body ys)))))
        | _, _ => false)
      | none, _ => mHs c hs (z :: zs) && mSs c body ys
      | _, _ => false)
    | _ => false)
def mSs (c : Cc) : List S → List Stmt → Bool
  | [], xs => (match xs with
    | [] => true
    | _ => false)
  | s :: ss, xs => (match xs with
    | x :: r => mS c s x && mSs c ss r
    | _ => false)
end
section
variable {c : Cc} {G : Gx} {T : Cal} {lvl : Nat} {Wx : WX} {X : Cx} {x y z a b : Expr} {pos p : Pos} {σ : L2.St} {H : Hp}
theorem PSsimp {e : List Stmt} {t t' : TS} (h : PSs X e t) (k : ∀ D σ H, t' D σ H → t D σ H) : PSs X e t' := ⟨fun pins s σ H D I q => h.run pins s σ H D I (k D σ H q)⟩
theorem one_target {env : PySem.Env} (h : notStar x = true) : (assignEach [x] env).map (·.2) = [assign x env] := by
  cases x <;> first | rfl | cases h
theorem asg_read {tg : Tg} {e : E} {D : Ends} (g : tS G Wx (exe T (.asg tg e)) D σ H) : tAsg (tW G Wx (ev T e)) (gW G tg) D σ H := by
  obtain ⟨ρ, σw, h, sr, hr, g⟩ := g
  simp only [exe] at g
  refine ⟨ρ, σw, h, sr, hr, (GS.flow σ g).imp fun v H1 ⟨ρ1, w, h1, e1, hr1, rp, g1⟩ => ?_⟩
  split at g1
  · rename_i σ' ea
    exact ⟨ρ1, σw, h1, w, σ', sr.mono e1, hr1, rp, ea, fun σ2 s2 _ => g1 σ2 H1 ρ1 (Ext.refl _ _) hr1 s2⟩
  · exact g1.elim
theorem st_asg (ok : SOk c G T lvl Wx X) {tg : Tg} {e : E} (h1 : notStar y = true) (h2 : storesNo c y z = true) (h3 : mG c tg y = true) (h4 : (isComp z && isName y) = false) (P : PE X z (tW G Wx (ev T e))) : PS X (.Assign [y] z pos) (tS G Wx (exe T (.asg tg e))) :=
  PSimp (ps_asg P (pgW ok.x tg y h3) (sw_none h4) (storesNo_ok ok.kind ok.x.sc h2) (one_target h1)) fun D σ H g => asg_read g
/-- name = [..] -/
theorem r_setcomp (ok : SOk c G T lvl Wx X) {i : Nat} {t : Str} {tp : Pos} {own : List Nat} {tg : Tg} {ik : IK} {es : List E} {cond elt : E} {tgx iter : Expr} {ifs : List Expr} {scope : Scope} {cp : Pos} (hl : locN c i t = true)
    (hsw : swB c t tp scope cp = true) (h : mE c (.comp own tg ik es cond elt) (.ListComp y [⟨tgx, iter, ifs, 0⟩] scope cp) = true) :
    PS X (.Assign [.Name t tp] (.ListComp y [⟨tgx, iter, ifs, 0⟩] scope cp) pos) (tAsg (tF G Wx (ev T (.comp own tg ik es cond elt))) (gName i)) := by
  simp only [mE, Bool.and_eq_true, decide_eq_true_eq] at h
  obtain ⟨_, h1, h2, h3, h4, h5, h6, h7⟩ := h
  simp only [locN, Bool.and_eq_true, decide_eq_true_eq] at hl
  split at h4
  · rename_i xs hx
    have L := sEs (G := G) (T := T) (lvl := lvl) es c Wx X _ ok.x h4
    have okB : BlkOk X.N X.env.scope scope (own.map fun i => (c.N.getD i ("" : Str), i)) := by rw [ok.x.N, ok.x.sc]; exact blkOk_by h1
    have eo : (own.map fun i => (c.N.getD i ("" : Str), i)).map (·.2) = own := by rw [List.map_map]; exact List.map_id' own
    have P := ps_setLc (py := tp) (pos := cp) (spos := pos) ok.x.calm (by rw [ok.x.N]; exact ok.x.nd) (by rw [ok.x.N]; exact hl.1) (by rw [ok.x.sc]; exact eq_of_beq hl.2) (by rw [sw_comp ok.kind ok.x.sc, hsw]) (r_src ok.x hx L) okB
      (fun s H C cl fp => pgW (ok.x.blk s H scope C cl fp) tg tgx h3) (tt := tB (tW G noW (ev T cond))) (ifs := ifs) (fun s H C cl fp => ?_) (fun s H C cl fp => (sE (G := G) (T := T) (lvl := lvl) elt _ _ _ _ (ok.x.blk s H scope C cl fp) h7).1) (set_fold h5)
    · rw [eo] at P
      exact PSimp P fun D σ H g => comp_read (fun i m => by simpa using List.all_eq_true.mp h2 i m) g
    · split at h6
      · split at h6
        · refine PTsimp pts_nil fun σ H Q ⟨ρ, σw, h, sr, hr, g⟩ => ?_
          simp only [ev] at g
          obtain ⟨k, ek, q⟩ := g _ H ρ (Ext.refl _ _) hr (by rw [Rep])
          cases ek
          exact q
        · cases h6
      · exact pts_one (sE (G := G) (T := T) (lvl := lvl) cond _ _ _ _ (ok.x.blk s H scope C cl fp) h6).2.1
      · cases h6
  · cases h4
theorem loc_of {t : Str} {tp : Pos} {tg : Tg} (h : mG c tg (.Name t tp) = true) : ∃ i, tg = .v i ∧ c.loc i t = true := by
  cases tg with
  | v i => exact ⟨i, rfl, by simpa [mG] using h⟩
  | t ts => simp [mG] at h
theorem GF.imp {ρ : Ro} {r : R W} {Q Q' : VK} (k : ∀ v H, Q v H → Q' v H) (g : GF G Wx σ H ρ r Q) : GF G Wx σ H ρ r Q' := by
  cases r with
  | ok w h' =>
    obtain ⟨ws, e, g⟩ := g
    exact ⟨ws, e, fun p vs H' ρ' e' hr rl n hl => k _ _ (g p vs H' ρ' e' hr rl n hl)⟩
  | exc c fs h' => exact g
  | bad => exact g
theorem set_end {i : Nat} {D : Ends} {ρ : Ro} {σw : Env} {r : R W} (sr : SRep G H ρ σw σ) (g : GW G Wx σ H ρ r fun v H1 => ∃ ρ1 w h1, Ext H ρ H1 ρ1 ∧ HRep G H1 ρ1 h1 ∧ Rep G H1 ρ1 w v ∧ GS G Wx D H1 ρ1 (match asgT h1 (.v i) w σw with
    | some σ' => .nx σ' h1
    | none => .bad)) : GW G Wx σ H ρ r fun v H1 => gName i v σ H1 D.nx := by
  refine g.imp fun v H1 ⟨ρ1, w, h1, e1, hr1, rp, g1⟩ => ?_
  split at g1
  · rename_i σ' ea
    simp only [asgT] at ea
    split at ea
    · cases ea
      exact g1 _ H1 ρ1 (Ext.refl _ _) hr1 ((sr.mono e1).set rp)
    · cases ea
  · exact g1.elim
theorem asg_comp {i : Nat} {e : E} {D : Ends} (hl : ∀ σw h w h', ev T e σw h = .ok w h' → ∃ ws, w = .lst ws) (g : tS G Wx (exe T (.asg (.v i) e)) D σ H) : tAsg (tF G Wx (ev T e)) (gName i) D σ H := by
  obtain ⟨ρ, σw, h, sr, hr, g⟩ := g
  simp only [exe] at g
  exact ⟨ρ, σw, h, sr, hr, GF.of_W (hl σw h) (set_end sr (GS.flow σ g))⟩
theorem asg_thaw {i : Nat} {e : E} {D : Ends} (g : tS G Wx (exe T (.asg (.v i) (.thaw e))) D σ H) : tAsg (tF G Wx (ev T e)) (gName i) D σ H := by
  obtain ⟨ρ, σw, h, sr, hr, g⟩ := g
  simp only [exe] at g
  have g2 := set_end sr (GS.flow σ g)
  simp only [ev] at g2
  exact ⟨ρ, σw, h, sr, hr, GF.thaw g2⟩
theorem st_comp (ok : SOk c G T lvl Wx X) {tg : Tg} {e : E} {elt : Expr} {gs : List Comprehension} {scope : Scope} {cp tp : Pos} {t : Str} (h1 : notStar (.Name t tp) = true) (h2 : storesNo c (.Name t tp) (.ListComp elt gs scope cp) = true) (h3 : mG c tg (.Name t tp) = true)
    (h4 : (match e with
          | .comp _ _ _ _ _ _ => mE c e (.ListComp elt gs scope cp)
          | .thaw (.comp _ _ _ _ _ _) => mE c e (.ListComp elt gs scope cp)
          | _ => false) = true) : PS X (.Assign [.Name t tp] (.ListComp elt gs scope cp) pos) (tS G Wx (exe T (.asg tg e))) := by
  have hm : mE c e (.ListComp elt gs scope cp) = true := by
    revert h4
    split <;> intro h4 <;> first | exact h4 | cases h4
  cases hb : swB c t tp scope cp with
  | false =>
    have hsw : swapsWithSole [Expr.Name t tp] (Expr.ListComp elt gs scope cp) pos.line X.env = pure false := by
      have q := sw_comp (elt := elt) (gs := gs) (t := t) (tp := tp) (cp := cp) (scope := scope) (l := pos.line) ok.kind ok.x.sc
      rw [hb] at q
      exact q
    exact PSimp (ps_asg (sE (G := G) (T := T) (lvl := lvl) e c Wx X _ ok.x hm).1 (pgW ok.x tg _ h3) hsw (storesNo_ok ok.kind ok.x.sc h2) (one_target h1)) fun D σ H g => asg_read g
  | true =>
    obtain ⟨i, rfl, hl⟩ := loc_of h3
    have hl2 : locN c i t = true := by
      simp only [Cc.loc, Bool.and_eq_true] at hl
      simp only [swB, Bool.and_eq_true] at hb
      simp only [locN, Bool.and_eq_true]
      exact ⟨hl.1, hb.1.1⟩
    have shape : ∀ (own : List Nat) (tg : Tg) (ik : IK) (es : List E) (cond e2 : E), mE c (.comp own tg ik es cond e2) (.ListComp elt gs scope cp) = true → ∃ tgx iter ifs, gs = [⟨tgx, iter, ifs, 0⟩] := fun own tg ik es cond e2 hm => by
      simp only [mE] at hm
      split at hm
      · rename_i q
        cases q
        simp only [Bool.and_eq_true, decide_eq_true_eq] at hm
        obtain ⟨rfl, _⟩ := hm
        exact ⟨_, _, _, rfl⟩
      · cases hm
    split at h4
    · obtain ⟨tgx, iter, ifs, rfl⟩ := shape _ _ _ _ _ _ h4
      exact PSimp (r_setcomp ok hl2 hb h4) fun D σ H g => asg_comp comp_lst g
    · have h5 := h4
      simp only [mE, Bool.and_eq_true] at h5
      have h6 := h5.2
      obtain ⟨tgx, iter, ifs, rfl⟩ := shape _ _ _ _ _ _ (by simpa only [mE] using h6)
      exact PSimp (r_setcomp ok hl2 hb (by simpa only [mE] using h6)) fun D σ H g => asg_thaw g
    · cases h4
end
end Y

namespace PySem.AutoSeq1
open PySem PyProof.Rows
theorem list_iadd_any (l : Addr) (items : Array Value) (n : Nat) (b : Addr) (items2 : Array Value) (n2 : Nat) (od : Option Addr) (osl : Array (Option Value)) (hs0 : ¬(!items.isEmpty && Builtin.List.listTooLong (items.size + items2.size)) = true) (hs1 : items.size ≤ sizeLine) (hs2 : items.size + items2.size ≤ sizeLine + 1) :
    Meets (Builtin.«list.__iadd__» ⟨[.ref l, .ref b], []⟩) (fun _ R s => s.heap.get? l = some { cls := .type "list", dict := none, data := .seq items n, slots := #[] } ∧ s.heap.get? b = some { cls := .type "list", dict := od, data := .seq items2 n2, slots := osl } ∧ R (.ok (.ret (Value.ref l))) { s with heap := s.heap.update l (Obj.mapSeq fun x => x ++ items2), toks := s.toks }) :=
  .of_wp fun prog w A R s h => by
    obtain ⟨hp, g, d, tk, os⟩ := s; obtain ⟨hl, hb, h⟩ := h; have f1 := idx_int; have f2 := sub_tuple_tuple; have f3 := sub_list_list; have f4 := sub_tuple_list; have f5 := sub_list_tuple;
    have hz' : (items ++ items2).size ≤ sizeLine + 1 := by rw [Array.size_append]; exact hs2
    wp_walk using (wpAny_updateSeq hl rfl (hz := hs1) (_hz' := hz')), wpAny_loadPart' hl, wpAny_loadPart' hb; exact ⟨_, rfl, h⟩
end PySem.AutoSeq1
namespace Y
open PySem PySem.Spec PyProof.Rows L2
def rExtA (K : PySem.W.Frag) : R2 := fun x y H Q => ∃ l b xs zs, x = .ref l ∧ y = .ref b ∧ H l = some (.lst xs) ∧ SqL K H b zs ∧ xs.length + zs.length ≤ sizeLine ∧ Q (.ref l) (upd H l (.lst (xs ++ zs)))
section
variable {X : Cx}
theorem iop_extA : OpR X (inplaceOp .Add) (rExtA X.K) := by
  intro pins s σ H x y v u Q I rx ry h
  obtain ⟨l, b, xs, zs, rfl, rfl, hH, hB, hz, q⟩ := h
  cases rx
  cases ry
  obtain ⟨z, its, n, r, hl, e⟩ := I.lstM hH
  obtain ⟨its2, r2, ⟨⟨cls, dd, data, sls⟩, n2, e2, hc, hdn, hdt⟩, hlen⟩ := I.list hB
  simp only at hc hdt
  subst hc hdt
  have hl2 := r2.length
  have hl1 := r.length
  have hsz : its.toArray.size + its2.toArray.size ≤ sizeLine := by rw [List.size_toArray, List.size_toArray]; omega
  have hlong : ¬ (!its.toArray.isEmpty && Builtin.List.listTooLong (its.toArray.size + its2.toArray.size)) = true := by
    rw [notLongL hsz, Bool.and_false]
    exact Bool.false_ne_true
  refine iadd_road ⟨_, e, rfl⟩ ⟨_, e2, rfl⟩ (call_meets PySem.F.slot_list_iadd ⟨_, e, rfl⟩ PySem.F.entry_list_iadd (PySem.F.args_list_iadd_2 _ _)
    (AutoSeq1.list_iadd_any l its.toArray n b its2.toArray n2 dd sls hlong (by rw [List.size_toArray]; omega) (by omega)) ⟨e, e2, ?_⟩)
  refine ⟨.ref l, _, I.lset (its' := its ++ its2) (t' := s.toks) hH e (by simp) (r.append r2) ?_, rfl, q⟩
  rw [List.length_append]
  omega
end
end Y

namespace Y
open PySem PySem.Spec PyProof.Rows L2
section
variable {c : Cc} {G : Gx} {T : Cal} {lvl : Nat} {Wx : WX} {X : Cx} {x y z a b : Expr} {pos p : Pos} {σ : L2.St} {H : Hp}
theorem SRep.set2 {ρ : Ro} {σw : Env} {i j : Nat} {u w : W} {v x : V} (s : SRep G H ρ σw σ) (r : Rep G H ρ u v) (q : Rep G H ρ w x) : SRep G H ρ ((σw.set i (some u)).set j (some w)) ((σ.set i (some v)).set j (some x)) := (s.set r).set q
theorem st_par (ok : SOk c G T lvl Wx X) {is : List Nat} {es : List E} {ts vs : List Expr} {names : List Str} {k k2 : Nat} {pt p2 : Pos} (hsw : swS c ts vs = some (some names)) (hp : mPar c is ts names = true) (L : Lst c G T Wx X es vs) :
    PS X (.Assign [.Tuple ts k pt] (.Tuple vs k2 p2) pos) (tS G Wx (exe T (.par is es))) := by
  have hw := swS_ok (k := k) (k2 := k2) (p := pt) (p2 := p2) ok.kind ok.x.sc hsw
  have hlen : vs.length = ts.length := by
    unfold swS at hsw
    split at hsw
    · cases hsw
    · rename_i q
      simp only [Bool.not_eq_true, Bool.or_eq_false_iff, bne_eq_false_iff_eq] at q
      exact q.2
  unfold mPar at hp
  split at hp
  · rename_i i j n1 q1 n2 q2 nm
    simp only [locN, Bool.and_eq_true, decide_eq_true_eq] at hp
    obtain ⟨⟨a1, a2⟩, ⟨b1, b2⟩, hij, rfl⟩ := hp
    match vs, hlen with
    | [v1, v2], _ =>
      refine PSimp (ps_par ok.x.calm (by rw [ok.x.N]; exact ok.x.nd) (by rw [ok.x.N]; exact a1) (by rw [ok.x.N]; exact b1) hij (by rw [ok.x.sc]; exact eq_of_beq a2) (by rw [ok.x.sc]; exact eq_of_beq b2) L.pa hw) fun D σ H ⟨ρ, σw, h, sr, hr, g⟩ => ?_
      simp only [exe] at g
      refine ⟨ρ, σw, h, sr, hr, (GS.flowL σ g).imp fun vv H1 ⟨ρ1, ws, h1, e1, hr1, rv, g1⟩ => ?_⟩
      split at g1
      · rename_i σ' es'
        match ws, es' with
        | [w1, w2], es' =>
          obtain ⟨x1, x2, rfl, r1, r2⟩ := rv.two
          simp only [setP] at es'
          split at es'
          · split at es'
            · cases es'
              exact ⟨x1, x2, rfl, g1 _ H1 ρ1 (Ext.refl _ _) hr1 ((sr.mono e1).set2 r1 r2)⟩
            · cases es'
          · cases es'
        | [], es' => simp [setP] at es'
        | [_], es' => simp only [setP] at es'; split at es' <;> cases es'
        | _ :: _ :: _ :: _, es' => simp only [setP] at es'; split at es' <;> first | cases es' | (split at es' <;> cases es')
      · exact g1.elim
  · rename_i i j l n1 q1 n2 q2 n3 q3 nm
    simp only [locN, Bool.and_eq_true, decide_eq_true_eq] at hp
    obtain ⟨⟨a1, a2⟩, ⟨b1, b2⟩, ⟨c1, c2⟩, ⟨hij, hil, hjl⟩, rfl⟩ := hp
    match vs, hlen with
    | [v1, v2, v3], _ =>
      refine PSimp (ps_par3 ok.x.calm (by rw [ok.x.N]; exact ok.x.nd) (by rw [ok.x.N]; exact a1) (by rw [ok.x.N]; exact b1) (by rw [ok.x.N]; exact c1) hij hil hjl (by rw [ok.x.sc]; exact eq_of_beq a2) (by rw [ok.x.sc]; exact eq_of_beq b2) (by rw [ok.x.sc]; exact eq_of_beq c2) L.pa hw) fun D σ H ⟨ρ, σw, h, sr, hr, g⟩ => ?_
      simp only [exe] at g
      refine ⟨ρ, σw, h, sr, hr, (GS.flowL σ g).imp fun vv H1 ⟨ρ1, ws, h1, e1, hr1, rv, g1⟩ => ?_⟩
      split at g1
      · rename_i σ' es'
        match ws, es' with
        | [w1, w2, w3], es' =>
          simp only [RepL] at rv
          obtain ⟨x1, t1, rfl, r1, x2, t2, rfl, r2, x3, t3, rfl, r3, rfl⟩ := rv
          simp only [setP] at es'
          split at es'
          · split at es'
            · split at es'
              · cases es'
                exact ⟨x1, x2, x3, rfl, g1 _ H1 ρ1 (Ext.refl _ _) hr1 (((sr.mono e1).set2 r1 r2).set r3)⟩
              · cases es'
            · cases es'
          · cases es'
        | [], es' => simp [setP] at es'
        | [_], es' => simp only [setP] at es'; split at es' <;> cases es'
        | [_, _], es' => simp only [setP] at es'; split at es' <;> first | cases es' | (split at es' <;> cases es')
        | _ :: _ :: _ :: _ :: _, es' => simp only [setP] at es'; split at es' <;> first | cases es' | (split at es' <;> first | cases es' | (split at es' <;> cases es'))
      · exact g1.elim
  · cases hp
theorem ixN_same (n : Nat) (i : Int) : L2.ixN n i = Y.ixN n i := rfl
theorem st_sub (ok : SOk c G T lvl Wx X) {o i e : E} {v : Expr} {tp : Pos} (h0 : notSlice z = true) (h1 : isComp v = false) (Pv : PE X v (tW G Wx (ev T e))) (Po : PE X y (tW G Wx (ev T o))) (Pi : PE X z (tW G Wx (ev T i))) :
    PS X (.Assign [.Subscript y z tp] v pos) (tS G Wx (exe T (.sub o i e))) := by
  have hst : twoTup (.Subscript y z tp) v = false := rfl
  refine PSimp (ps_asg Pv (pg_sub Po Pi set_list (by intro v; cases z <;> first | rfl | cases h0)) (sw_none (by rw [h1]; rfl)) (sw_stores hst) rfl) fun D σ H ⟨ρ, σw, h, sr, hr, g⟩ => ?_
  simp only [exe] at g
  refine ⟨ρ, σw, h, sr, hr, (GS.flow σ g).imp fun v1 H1 ⟨ρ1, w1, h1, e1, hr1, r1, g1⟩ => ⟨ρ1, σw, h1, sr.mono e1, hr1, (GS.flow σ g1).imp fun v2 H2 ⟨ρ2, w2, h2, e2, hr2, r2, g2⟩ => ⟨ρ2, σw, h2, (sr.mono e1).mono e2, hr2, (GS.flow σ g2).imp fun v3 H3 ⟨ρ3, w3, h3, e3, hr3, r3, g3⟩ => ?_⟩⟩⟩
  replace r2 := Rep.mono e3 _ _ r2
  replace r1 := Rep.mono e3 _ _ (Rep.mono e2 _ _ r1)
  cases w2 with
  | ref k =>
    cases w3 with
    | int n =>
      simp only at g3
      split at g3
      · rename_i ws hk
        split at g3
        · rename_i j hj
          simp only [Rep] at r2 r3
          obtain ⟨ad, ea, rfl⟩ := r2
          subst r3
          obtain ⟨vs, y1, y2, y3⟩ := hr3.at_ k ad _ ea hk
          obtain ⟨e4, hr4⟩ := hr3.mut (o := .lst (ws.set j w1)) (u := .lst (vs.set j v1)) ea (by rw [y1]; simp) (List.getElem?_eq_some_iff.mp hk).1 fun ex => ⟨vs.set j v1, upd_same, by rw [List.length_set]; exact y2, RepL.mono ex _ _ (RepL.set r1 j y3)⟩
          exact ⟨ad, vs, n, j, rfl, rfl, y1, by rw [ixN_same, y3.length]; exact hj, g3 _ _ ρ3 e4 hr4 ((((sr.mono e1).mono e2).mono e3).mono e4)⟩
        · exact g3.elim
      · exact g3.elim
    | _ => exact g3.elim
  | _ => exact g3.elim
theorem st_dput (ok : SOk c G T lvl Wx X) {tpl : Bool} {d e : E} {ks : List E} {v : Expr} {tp : Pos} (h0 : notSlice z = true) (h1 : isComp v = false) (ht : tpl = dispX z) (Pv : PE X v (tW G Wx (ev T e))) (Pd : PE X y (tW G Wx (ev T d))) (r : Lst c G T Wx X ks (keyX tpl z)) :
    PS X (.Assign [.Subscript y z tp] v pos) (tS G Wx (exe T (.dput tpl d ks e))) := by
  have hu : X.A.units + 1 < cLine := by have := ok.x.un; omega
  refine PSimp (ps_dput hu Pd (pe_key ht r) Pv (by have := sw_none (x := .Subscript y z tp) (y := v) (l := pos.line) (env := X.env) (by rw [h1]; rfl); exact this)) fun D σ H ⟨ρ, σw, h, sr, hr, g⟩ => ?_
  simp only [exe] at g
  refine ⟨ρ, σw, h, sr, hr, (GS.flow σ g).imp fun v1 H1 ⟨ρ1, w1, h1, e1, hr1, r1, g1⟩ => ⟨ρ1, σw, h1, sr.mono e1, hr1, (GS.flow σ g1).imp fun v2 H2 ⟨ρ2, w2, h2, e2, hr2, r2, g2⟩ => ?_⟩⟩
  replace r1 := Rep.mono e2 _ _ r1
  refine key_read (R := fun ws h3 H3 ρ3 => GS G Wx D H3 ρ3 (match (generalizing := false) w2, keyOf tpl ws with
    | .ref a, some y => (match h3[a]? with
      | some (.dk kvs) => if keyOk tpl false y && decide (kvs.length < big) then .nx σw (h3.set a (.dk (putD y w1 kvs))) else .bad
      | some (.dt kvs) => if keyOk tpl true y && decide (kvs.length < big) then .nx σw (h3.set a (.dt (putD y w1 kvs))) else .bad
      | _ => .bad)
    | _, _ => .bad)) (fun _ _ _ _ _ _ e g => g.mono e) ((sr.mono e1).mono e2) hr2 (GS.flowL σ g2) (fun v3 H3 ρ3 ws h3 k e3 hr3 g3 ek at_ => ?_) fun ws h3 H3 ρ3 g3 z => ?_
  · rw [ek] at g3
    replace r1 := Rep.mono e3 _ _ r1
    replace r2 := Rep.mono e3 _ _ r2
    cases w2 with
    | ref k =>
      simp only at g3
      simp only [Rep] at r2
      obtain ⟨ad, ea, rfl⟩ := r2
      split at g3
      · rename_i kvs hk
        split at g3
        · rename_i hz
          simp only [Bool.and_eq_true, decide_eq_true_eq] at hz
          obtain ⟨l, y1, y3⟩ := hr3.at_ k ad _ ea hk
          rcases at_ false hz.1 with ⟨_, kk, rfl, rfl⟩ | ⟨z, _⟩
          · have hlen : l.length < sizeLine := by rw [y3.length, ← big_eq]; exact hz.2
            obtain ⟨e4, hr4⟩ := hr3.mut (o := .dk (putD (wK kk) w1 kvs)) (u := .dK (putK l kk v1)) ea (by rw [y1]; simp) (List.getElem?_eq_some_iff.mp hk).1 fun ex => ⟨putK l kk v1, upd_same, RepD.mono ex _ _ (RepD.put wK_inj kk r1 y3)⟩
            exact ⟨ad, _, rfl, .k y1 hlen, g3 _ _ ρ3 e4 hr4 ((((sr.mono e1).mono e2).mono e3).mono e4)⟩
          · cases z
        · exact g3.elim
      · rename_i kvs hk
        split at g3
        · rename_i hz
          simp only [Bool.and_eq_true, decide_eq_true_eq] at hz
          obtain ⟨l, y1, y3⟩ := hr3.at_ k ad _ ea hk
          rcases at_ true hz.1 with ⟨z, _⟩ | ⟨_, kk, b, rfl, rfl, eb, nb⟩
          · cases z
          · have hlen : l.length < sizeLine := by rw [y3.length, ← big_eq]; exact hz.2
            obtain ⟨e4, hr4⟩ := hr3.mut (o := .dt (putD (tkW kk) w1 kvs)) (u := .dT (putK l kk v1)) ea (by rw [y1]; simp) (List.getElem?_eq_some_iff.mp hk).1 fun ex => ⟨putK l kk v1, upd_same, RepD.mono ex _ _ (RepD.put tkW_inj kk r1 y3)⟩
            exact ⟨ad, _, rfl, .t y1 eb hlen, g3 _ _ ρ3 e4 hr4 ((((sr.mono e1).mono e2).mono e3).mono e4)⟩
        · exact g3.elim
      · exact g3.elim
    | _ => exact g3.elim
  · rw [z] at g3
    cases w2 <;> exact g3
theorem st_aug (ok : SOk c G T lvl Wx X) {i : Nat} {n : Str} {e : E} {np : Pos} (hl : c.loc i n = true) (P : PE X y (tW G Wx (ev T e))) : PS X (.AugAssign (.Name n np) .Add y pos) (tS G Wx (exe T (.aug i .add e))) := by
  obtain ⟨l1, l2, l3⟩ := ok.x.loc hl
  refine PSimp (ps_aug (ti := rExtA X.K) (by rw [ok.x.N]; exact ok.x.nd) l1 l2 P iop_extA l3) fun D σ H ⟨ρ, σw, h, sr, hr, g⟩ => ?_
  simp only [exe, getV] at g
  split at g
  · rename_i w0 e0
    obtain ⟨v0, ev0, rp0⟩ := sr.at_ i w0 e0
    simp only [R.flow_ok] at g
    refine ⟨v0, ev0, ρ, σw, h, sr, hr, (GS.flow σ g).imp fun v1 H1 ⟨ρ1, w1, h1, e1, hr1, r1, g1⟩ => ?_⟩
    replace rp0 := Rep.mono e1 _ _ rp0
    cases w0 with
    | ref k =>
      simp only at g1
      split at g1
      · rename_i xs ys hk hv
        split at g1
        · rename_i hz
          simp only [Rep] at rp0
          obtain ⟨ad, ea, rfl⟩ := rp0
          obtain ⟨vs, y1, y2, y3⟩ := hr1.at_ k ad _ ea hk
          have rv := view_rep hr1 r1
          rw [hv] at rv
          simp only [VRep] at rv
          obtain ⟨b, us, rfl, t1, l1, r2⟩ := rv
          have hlen := y3.length
          have hlen2 := r2.length
          have hz2 : (vs ++ us).length ≤ sizeLine := by rw [List.length_append, hlen, hlen2, ← big_eq]; exact hz
          obtain ⟨e4, hr4⟩ := hr1.mut (o := .lst (xs ++ ys)) (u := .lst (vs ++ us)) ea (by rw [y1]; simp) (List.getElem?_eq_some_iff.mp hk).1 fun ex => ⟨vs ++ us, upd_same, hz2, (RepL.mono ex _ _ y3).append (RepL.mono ex _ _ r2)⟩
          refine ⟨ad, b, vs, us, rfl, rfl, y1, ok.x.K ▸ t1.sq, by rw [← List.length_append]; exact hz2, ?_⟩
          have es : σ.set i (some (V.ref ad)) = σ := by
            obtain ⟨hi, hx⟩ := List.getElem?_eq_some_iff.mp ev0
            rw [← hx, List.set_getElem_self]
          show D.nx (σ.set i (some (V.ref ad))) _
          rw [es]
          exact g1 _ _ ρ1 e4 hr4 ((sr.mono e1).mono e4)
        · exact g1.elim
      · exact g1.elim
    | _ => exact g1.elim
  · exact g.elim
theorem st_ex (ok : SOk c G T lvl Wx X) {e : E} (h1 : isComp y = false) (P : PE X y (tW G Wx (ev T e))) : PS X (.Expr y pos) (tS G Wx (exe T (.ex e))) := by
  refine PSimp (ps_expr P (sw_drop h1)) fun D σ H ⟨ρ, σw, h, sr, hr, g⟩ => ?_
  simp only [exe] at g
  exact ⟨ρ, σw, h, sr, hr, (GS.flow σ g).imp fun v1 H1 ⟨ρ1, w1, h1, e1, hr1, r1, g1⟩ => g1 _ H1 ρ1 (Ext.refl _ _) hr1 (sr.mono e1)⟩
theorem st_ret {e : E} (P : PE X y (tW G Wx (ev T e))) : PS X (.Return (some y) pos) (tS G Wx (exe T (.ret e))) := by
  refine PSimp (ps_ret P) fun D σ H ⟨ρ, σw, h, sr, hr, g⟩ => ?_
  simp only [exe] at g
  exact ⟨ρ, σw, h, sr, hr, (GS.flow σ g).imp fun v1 H1 ⟨ρ1, w1, h1, e1, hr1, r1, g1⟩ => g1 _ H1 ρ1 (Ext.refl _ _) hr1 r1⟩
theorem st_retN : PS X (.Return none pos) (tS G Wx (exe T .retN)) := by
  refine PSimp ps_retN fun D σ H ⟨ρ, σw, h, sr, hr, g⟩ => ?_
  simp only [exe] at g
  exact g _ H ρ (Ext.refl _ _) hr (by rw [Rep])
theorem st_pass : PS X (.Pass pos) (tS G Wx (exe T .pass)) := by
  refine PSimp ps_pass fun D σ H ⟨ρ, σw, h, sr, hr, g⟩ => ?_
  simp only [exe] at g
  exact g _ H ρ (Ext.refl _ _) hr sr
theorem st_brk : PS X (.Break pos) (tS G Wx (exe T .brk)) := by
  refine PSimp ps_break fun D σ H ⟨ρ, σw, h, sr, hr, g⟩ => ?_
  simp only [exe] at g
  exact g _ H ρ (Ext.refl _ _) hr sr
theorem ss_nil : PSs X [] (tS G Wx (exs T [])) := by
  refine PSsimp pss_nil fun D σ H ⟨ρ, σw, h, sr, hr, g⟩ => ?_
  simp only [exs] at g
  exact g _ H ρ (Ext.refl _ _) hr sr
theorem ss_cons {s : S} {ss : List S} {t : Stmt} {ts : List Stmt} (h1 : PS X t (tS G Wx (exe T s))) (h2 : PSs X ts (tS G Wx (exs T ss))) : PSs X (t :: ts) (tS G Wx (exs T (s :: ss))) := by
  refine PSsimp (pss_cons h1 h2) fun D σ H ⟨ρ, σw, h, sr, hr, g⟩ => ?_
  simp only [exs] at g
  exact ⟨ρ, σw, h, sr, hr, GS.seq g⟩
theorem st_ite {t : E} {ss us : List S} {ys zs : List Stmt} (P : PT X x (tB (tW G Wx (ev T t)))) (h1 : PSs X ys (tS G Wx (exs T ss))) (h2 : PSs X zs (tS G Wx (exs T us))) : PS X (.If x ys zs pos) (tS G Wx (exe T (.ite t ss us))) := by
  refine PSimp (ps_if P h1 h2) fun D σ H ⟨ρ, σw, h, sr, hr, g⟩ => ?_
  simp only [exe] at g
  refine ⟨ρ, σw, h, sr, hr, (GS.flow σ g).imp fun v1 H1 ⟨ρ1, w1, h1, e1, hr1, r1, g1⟩ => ?_⟩
  cases w1 <;> first | exact g1.elim | skip
  rename_i d
  simp only [Rep] at r1
  refine ⟨d, r1, ?_⟩
  cases d with
  | true => exact ⟨ρ1, σw, h1, sr.mono e1, hr1, g1⟩
  | false => exact ⟨ρ1, σw, h1, sr.mono e1, hr1, g1⟩
theorem st_whl (ok : SOk c G T lvl Wx X) {n : Nat} {t : E} {wip : List Nat} {body : List S} {ys : List Stmt} (P : PT X x (tB (tW G Wx (ev T t)))) (h1 : PSs X ys (tS G Wx (exs T body))) : PS X (.While x ys [] pos) (tS G Wx (exe T (.whl n t wip body))) := by
  refine PSimp (ps_while ok.po P h1) fun D σ H ⟨ρ, σw, h, sr, hr, g⟩ => ?_
  simp only [exe] at g
  refine ⟨fun m σ H => ∃ ρ σw h, SRep G H ρ σw σ ∧ HRep G H ρ h ∧ GS G Wx D H ρ (whlL (ev T t) (exs T body) wip m σw h), ⟨n, ρ, σw, h, sr, hr, g⟩, ?_⟩
  rintro m σ H ⟨ρ, σw, h, sr, hr, g⟩
  cases m with
  | zero => exact g.elim
  | succ m =>
    simp only [whlL] at g
    refine ⟨ρ, σw, h, sr, hr, (GS.flow σ g).imp fun v1 H1 ⟨ρ1, w1, h1, e1, hr1, r1, g1⟩ => ?_⟩
    cases w1 <;> first | exact g1.elim | skip
    rename_i d
    simp only [Rep] at r1
    refine ⟨d, r1, ?_⟩
    cases d with
    | true =>
      rw [if_pos rfl]
      refine ⟨fun σ2 H2 => ∃ ρ σw h, SRep G H2 ρ σw σ2 ∧ HRep G H2 ρ h ∧ GS G Wx D H2 ρ (whlL (ev T t) (exs T body) wip m σw h), fun σ2 H2 n => ⟨m, Nat.lt_succ_self _, n⟩, ρ1, σw, h1, sr.mono e1, hr1, ?_⟩
      have g1 : GS G Wx D H1 ρ1 (loopK (fun σ' h' => whlL (ev T t) (exs T body) wip m (wipE σ' wip) h') (exs T body σw h1)) := by
        revert g1
        simp only
        cases exs T body σw h1 <;> exact fun z => z
      exact g1.loop fun σ2 H2 ρ2 σw2 h2 e s hr2 q => ⟨ρ2, wipE σw2 wip, h2, s.wip wip, hr2, q⟩
    | false =>
      rw [if_neg Bool.false_ne_true]
      exact g1 _ H1 ρ1 (Ext.refl _ _) hr1 (sr.mono e1)
theorem forL_nil {ck : WH → Bool} {wip : List Nat} {f : W → Env → WH → Fl} {D : Ends} {ρ : Ro} {σw : Env} {h : WH} (g : GS G Wx D H ρ (forL ck wip f [] σw h)) : ck h = true ∧ GS G Wx D H ρ (.nx (wipE σw wip) h) := by
  unfold forL at g
  split at g
  · rename_i q; exact ⟨q, g⟩
  · exact g.elim
theorem forL_cons {ck : WH → Bool} {wip : List Nat} {f : W → Env → WH → Fl} {D : Ends} {ρ : Ro} {σw : Env} {h : WH} {w : W} {r : List W} (g : GS G Wx D H ρ (forL ck wip f (w :: r) σw h)) : ck h = true ∧ GS G Wx D H ρ (loopK (fun σ' h' => forL ck wip f r σ' h') (f w (wipE σw wip) h)) := by
  unfold forL at g
  split at g
  · rename_i q
    refine ⟨q, ?_⟩
    revert g
    cases f w (wipE σw wip) h <;> exact fun z => z
  · exact g.elim
theorem st_for (ok : SOk c G T lvl Wx X) {tg : Tg} {ik : IK} {es : List E} {wip : List Nat} {body : List S} {ys : List Stmt} {tgx iter : Expr} {xs : List Expr} (hg : mG c tg tgx = true) (hx : srcX c ik tgx iter = some xs) (L : Lst c G T Wx X es xs) (hn : notSet iter = true) (h1 : PSs X ys (tS G Wx (exs T body))) :
    PS X (.For tgx iter ys [] pos) (tS G Wx (exe T (.forS tg ik es wip body))) := by
  refine PSimp (ps_for ok.po ok.x.calm (r_src ok.x hx L) (pgW ok.x tg tgx hg) h1 (set_fold hn)) fun D σ H ⟨ρ, σw, h, sr, hr, g⟩ => ?_
  simp only [exe] at g
  refine ⟨ρ, σw, h, sr, hr, (GS.flowL σ g).imp fun vs H1 ⟨ρ1, ws, h1, e1, hr1, rv, g1⟩ => ?_⟩
  split at g1
  · rename_i items ei
    refine ⟨ρ1, ws, h1, items, e1, hr1, rv, ei, fun J jok => ?_⟩
    generalize hF : (fun (w : W) (σ : Env) (h : WH) => match asgT h tg w σ with
      | some σ' => exs T body σ' h
      | none => Fl.bad) = F at g1
    refine ⟨fun i m σc Hc => m = items.length - i ∧ i ≤ items.length ∧ ∃ ρc σw hc, Ext H1 ρ1 Hc ρc ∧ SRep G Hc ρc σw σc ∧ HRep G Hc ρc hc ∧ GS G Wx D Hc ρc (forL (stands ik ws items) wip F (items.drop i) σw hc), ⟨_, rfl, Nat.zero_le _, ρ1, σw, h1, Ext.refl _ _, sr.mono e1, hr1, by rw [List.drop_zero]; exact g1⟩, ?_⟩
    rintro i m σc Hc ⟨rfl, hi, ρc, σv, hc, xc, sc, hrc, gc⟩
    by_cases hlt : i < items.length
    · obtain ⟨w, ew⟩ : ∃ w, items[i]? = some w := ⟨items[i], List.getElem?_eq_getElem hlt⟩
      have ed : items.drop i = w :: items.drop (i + 1) := by
        rw [List.drop_eq_getElem_cons hlt]
        rw [List.getElem?_eq_getElem hlt] at ew
        rw [Option.some.inj ew]
      rw [ed] at gc
      obtain ⟨ckc, g2⟩ := forL_cons gc
      obtain ⟨go, yl⟩ := (jok i Hc ρc hc xc hrc ckc).1 w ew
      refine .inr ⟨go, fun σ2 H2 => i + 1 ≤ items.length ∧ ∃ ρc σw hc, Ext H1 ρ1 H2 ρc ∧ SRep G H2 ρc σw σ2 ∧ HRep G H2 ρc hc ∧ GS G Wx D H2 ρc (forL (stands ik ws items) wip F (items.drop (i + 1)) σw hc), fun σ2 H2 n => ⟨items.length - (i + 1), by omega, rfl, n⟩, fun x H2 y => ?_⟩
      obtain ⟨ρ2, x2, hr2, rp⟩ := yl x H2 y
      have g3 := GS.mono x2 g2
      cases ea : asgT hc tg w (wipE σv wip) with
      | none =>
        have ef : F w (wipE σv wip) hc = .bad := by rw [← hF]; simp only [ea]
        rw [ef] at g3
        exact g3.elim
      | some σ' =>
        have ef : F w (wipE σv wip) hc = exs T body σ' hc := by rw [← hF]; simp only [ea]
        rw [ef] at g3
        exact ⟨ρ2, wipE σv wip, hc, w, σ', (sc.mono x2).wip wip, hr2, rp, ea, fun σ2 s2 _ => ⟨ρ2, σ', hc, s2, hr2, g3.loop fun σ3 H3 ρ3 σw3 h3 e s hr3 q => ⟨by omega, ρ3, σw3, h3, (xc.trans x2).trans e, s, hr3, q⟩⟩⟩
    · have ei' : i = items.length := by omega
      subst ei'
      rw [List.drop_length] at gc
      obtain ⟨ckc, g2⟩ := forL_nil gc
      exact .inl ⟨(jok _ Hc ρc hc xc hrc ckc).2 rfl, g2 _ Hc ρc (Ext.refl _ _) hrc (sc.wip wip)⟩
  · exact g1.elim
end
theorem q_raise {c : Cc} {G : Gx} {T : Cal} {lvl : Nat} {Wx : WX} {X : Cx} {k : Nm} {x : Stmt} (ok : SOk c G T lvl Wx X) (h : mS c (.raise k) x = true) : PS X x (tS G Wx (exe T (.raise k))) := by
  simp only [mS] at h
  split at h
  · simp only [Bool.and_eq_true, decide_eq_true_eq] at h
    obtain ⟨h1, h2, h3⟩ := h
    obtain ⟨g1, g2⟩ := ok.x.gl h2
    obtain ⟨m1, e1, e2, e3, e4⟩ := ok.x.exs k h3
    rw [h1] at m1
    refine PSimp (ps_raise ok.x.calm ok.x.tk (pmk_own PySem.F.excBase_ValueError e1 m1 e2 (raises_own e3 e4) g1 g2)) fun D σ H ⟨ρ, σw, h, sr, hr, g⟩ => ?_
    simp only [exe] at g
    exact g (.ref (G.ca k)) none σ H ρ (Ext.refl _ _) hr ⟨rfl, rfl, rfl, ok.x.exx k h3⟩
  · cases h
/-! try .. except -/
def tHE (G : Gx) (T : Cal) (a : Addr) (cls : Value) (d : Option Addr) (n : Option (Nat × Str)) (he : HE) : TE := fun σ H Q => ∃ x w, G.ex x = true ∧ cls = Value.ref (G.ca x) ∧ d = none ∧ (∀ i e, n = some (i, e) → σ[i]? = some (some (.ref a))) ∧ heV T x he = some w ∧ ∀ v, (∀ H ρ, Rep G H ρ w v) → Q v H
section
variable {c : Cc} {G : Gx} {T : Cal} {lvl : Nat} {Wx : WX} {X : Cx} {a : Addr} {oe : Obj} {cls : Value} {d : Option Addr} {pn : List (Addr × Obj)} {n : Option (Nat × Str)}
theorem he_k {X : Cx} {x : Expr} (w : W) (h : mK w x = true) : PE X x (tHE G T a cls d n (.k w)) := by
  have key : ∀ v : V, (∀ H ρ, Rep G H ρ w v) → ∀ σ H Q, tHE G T a cls d n (.k w) σ H Q → tC v σ H Q := fun v r σ H Q ⟨x, w', _, _, _, _, e, g⟩ => by
    simp only [heV, Option.some.injEq] at e
    subst e
    exact g v r
  unfold mK at h
  split at h
  · have h := of_decide_eq_true h
    subst h
    exact PEimp pe_int (key _ fun H ρ => by rw [Rep])
  · have h := of_decide_eq_true h
    subst h
    exact PEimp pe_bl (key _ fun H ρ => by rw [Rep])
  · exact PEimp pe_non (key _ fun H ρ => by rw [Rep])
  · have h := of_decide_eq_true h
    subst h
    exact PEimp pe_str (key _ fun H ρ => by rw [Rep])
  · cases h
/-- isinstance(e, C) within the suite -/
theorem he_isi (ok : XOk c G T lvl Wx X) (hz : Zc cls d oe) (hf : ∃ vs, oe.data = .fields vs) {i : Nat} {e y : Str} {p1 p2 p3 p4 : Pos} {he : HE} {cv : V} {u : Value} (hn : n = some (i, e)) (hg : c.gl "isinstance" = true) (hv : c.vis i e = true)
    (hy : PE (X.suite a ((a, oe) :: pn)) (.Name y p3) (tC cv)) (hu : ∀ z, RelV cv z → z = u) (hk : ∀ x, G.ex x = true → ∃ b, heV T x he = some (.bl b) ∧ PySem.W.kitOne X.K (.ref (G.ca x)) u = some b) :
    PE (X.suite a ((a, oe) :: pn)) (.Call (.Name "isinstance" p1) [.Name e p2, .Name y p3] [] p4) (tHE G T a cls d n he) := by
  obtain ⟨g1, g2⟩ := ok.gl hg
  obtain ⟨v1, v2, v3, v4⟩ := ok.vis hv
  refine ⟨fun pins s σ H Q I ⟨x, w, hx, hcl, hd, hs, e2, g⟩ => ?_⟩
  subst hcl hd
  obtain ⟨b, hb, hkit⟩ := hk x hx
  rw [hb] at e2
  cases e2
  have hpa : PA (X.suite a ((a, oe) :: pn)) [.Name e p2, .Name y p3] (tCons (tVar i) (tCons (tC cv) tNil)) := pa_cons (pe_var (X := X.suite a ((a, oe) :: pn)) v1 v2 v3 v4) (pa_cons hy pa_nil)
  refine (pe_callB (X := X.suite a ((a, oe) :: pn)) (call_isE (ok.exm.cls x hx) hz hf) g1 (ok.blt "isinstance" (by simp [bltNames])) boot_isinstance hpa (by decide) g2 rfl rfl).run pins s σ H Q I ?_
  exact ⟨.ref a, hs i e hn, cv, u, b, rfl, hu, hkit, g _ fun H ρ => by rw [Rep]⟩
theorem pe_he (ok : XOk c G T lvl Wx X) (hz : Zc cls d oe) (hf : ∃ vs, oe.data = .fields vs) : ∀ (he : HE) (x : Expr), mH c n he x = true → PE (X.suite a ((a, oe) :: pn)) x (tHE G T a cls d n he)
  | .k w, x, h => he_k w (by simp only [mH] at h; exact h)
  | .isi k, x, h => by
    simp only [mH] at h
    split at h
    · rename_i f p1 e p2 y p3 p4 i e'
      simp only [Bool.and_eq_true, decide_eq_true_eq] at h
      obtain ⟨rfl, h2, rfl, h4, rfl, h6, h7⟩ := h
      obtain ⟨g1, g2⟩ := ok.gl h6
      have m := (ok.exs k h7).1
      refine he_isi ok hz hf rfl h2 h4 (cv := .ref (G.ca k)) (u := .ref (G.ca k)) (pe_glob (X := X.suite a ((a, oe) :: pn)) g1 m rfl g2) (fun z r => r) fun x hx => ⟨T.sub x k, rfl, (ok.exm.exm x k hx (ok.exx k h7)).2⟩
    · cases h
  | .isb, x, h => by
    simp only [mH] at h
    split at h
    · rename_i f p1 e p2 y p3 p4 i e'
      simp only [Bool.and_eq_true, decide_eq_true_eq] at h
      obtain ⟨rfl, h2, rfl, h4, rfl, h6⟩ := h
      obtain ⟨g1, g2⟩ := ok.gl h6
      have m := ok.blt "ValueError" (by simp [bltNames])
      refine he_isi ok hz hf rfl h2 h4 (cv := .ty "ValueError") (u := .type "ValueError") (pe_bltn (X := X.suite a ((a, oe) :: pn)) g1 m PyProof.Rows.Boot.«ValueError» rfl (by decide) g2) (fun z r => r) fun x hx => ⟨true, rfl, ok.exm.ve x hx⟩
    · cases h
  | .and p q, x, h => by
    simp only [mH] at h
    split at h
    · rename_i y z pos
      simp only [Bool.and_eq_true] at h
      refine PEimp (pe_and (pe_he ok hz hf p y h.1) (pe_one (pe_he ok hz hf q z h.2))) fun σ H Q ⟨x, w, hx, hcl, hd, hs, e2, g⟩ => ?_
      simp only [heV] at e2
      split at e2
      · rename_i e3
        refine ⟨x, _, hx, hcl, hd, hs, e3, fun v r => ?_⟩
        have := r H ⟨[], [], fun _ m => m⟩
        rw [Rep] at this
        refine ⟨true, this, ?_⟩
        rw [if_pos rfl]
        exact ⟨x, w, hx, hcl, hd, hs, e2, g⟩
      · rename_i e3
        cases e2
        refine ⟨x, _, hx, hcl, hd, hs, e3, fun v r => ?_⟩
        have := r H ⟨[], [], fun _ m => m⟩
        rw [Rep] at this
        refine ⟨false, this, ?_⟩
        rw [if_neg Bool.false_ne_true]
        exact g _ fun H ρ => by rw [Rep]
      · cases e2
    · cases h
  | .or p q, x, h => by
    simp only [mH] at h
    split at h
    · rename_i y z pos
      simp only [Bool.and_eq_true] at h
      refine PEimp (pe_or (pe_he ok hz hf p y h.1) (pe_one (pe_he ok hz hf q z h.2))) fun σ H Q ⟨x, w, hx, hcl, hd, hs, e2, g⟩ => ?_
      simp only [heV] at e2
      split at e2
      · rename_i e3
        refine ⟨x, _, hx, hcl, hd, hs, e3, fun v r => ?_⟩
        have := r H ⟨[], [], fun _ m => m⟩
        rw [Rep] at this
        refine ⟨false, this, ?_⟩
        rw [if_neg Bool.false_ne_true]
        exact ⟨x, w, hx, hcl, hd, hs, e2, g⟩
      · rename_i e3
        cases e2
        refine ⟨x, _, hx, hcl, hd, hs, e3, fun v r => ?_⟩
        have := r H ⟨[], [], fun _ m => m⟩
        rw [Rep] at this
        refine ⟨true, this, ?_⟩
        rw [if_pos rfl]
        exact g _ fun H ρ => by rw [Rep]
      · cases e2
    · cases h
  | .ife t p q, x, h => by
    simp only [mH] at h
    split at h
    · rename_i y z u pos
      simp only [Bool.and_eq_true] at h
      have pt : PT (X.suite a ((a, oe) :: pn)) y (tB (tHE G T a cls d n t)) := pt_of (pe_he ok hz hf t y h.1.2) (by
        have := h.1
        cases t <;> simp only [leafH, Bool.false_eq_true, false_and] at this
        all_goals
          simp only [mH] at this
          split at this
          · exact fun _ => rfl
          · exact absurd this.2 Bool.false_ne_true)
      refine PEimp (pe_ifExp pt (pe_he ok hz hf p z h.2.1) (pe_he ok hz hf q u h.2.2)) fun σ H Q ⟨x, w, hx, hcl, hd, hs, e2, g⟩ => ?_
      simp only [heV] at e2
      split at e2
      · rename_i e3
        refine ⟨x, _, hx, hcl, hd, hs, e3, fun v r => ?_⟩
        have := r H ⟨[], [], fun _ m => m⟩
        rw [Rep] at this
        refine ⟨true, this, ?_⟩
        show if true = true then _ else _
        rw [if_pos rfl]
        exact ⟨x, w, hx, hcl, hd, hs, e2, g⟩
      · rename_i e3
        refine ⟨x, _, hx, hcl, hd, hs, e3, fun v r => ?_⟩
        have := r H ⟨[], [], fun _ m => m⟩
        rw [Rep] at this
        refine ⟨false, this, ?_⟩
        show if false = true then _ else _
        rw [if_neg Bool.false_ne_true]
        exact ⟨x, w, hx, hcl, hd, hs, e2, g⟩
      · cases e2
    · cases h
end
/-! all of them -/
def SS (G : Gx) (T : Cal) (lvl : Nat) (s : S) : Prop := ∀ (c : Cc) (Wx : WX) (X : Cx) (x : Stmt), SOk c G T lvl Wx X → mS c s x = true → PS X x (tS G Wx (exe T s))
def SSs (G : Gx) (T : Cal) (lvl : Nat) (ss : List S) : Prop := ∀ (c : Cc) (Wx : WX) (X : Cx) (xs : List Stmt), SOk c G T lvl Wx X → mSs c ss xs = true → PSs X xs (tS G Wx (exs T ss))
section
variable {G : Gx} {T : Cal} {lvl : Nat}
/-- the slots' number is known where something is raised -/
theorem takes_len {X : Cx} {W : WX} (t : Takes X W) : Takes X fun cls d σ H => σ.length = X.N.length → W cls d σ H := fun u s' ⟨a, B, sI, pins, σ, H, cls, d, e, I, nb, up, sky, na, os, ag, w⟩ =>
  t u s' ⟨a, B, sI, pins, σ, H, cls, d, e, I, nb, up, sky, na, os, ag, w I.len⟩
theorem SOk.tr {c : Cc} {T : Cal} {lvl : Nat} {Wx W : WX} {X : Cx} (ok : SOk c G T lvl Wx X) {pn : List (Addr × Obj)} {xe : Value → Shared → Prop} (tk : Takes (X.tr pn xe) W) (po : PassesOwn (model X.prog X.w) X.A X.env xe) : SOk c G T lvl W (X.tr pn xe) where
  x := { N := ok.x.N, nd := ok.x.nd, sc := ok.x.sc, fnc := ok.x.fnc, calm := ok.x.calm, K := ok.x.K, nmg := ok.x.nmg, tk := tk, room := ok.x.room, gu := ok.x.gu, con := ok.x.con, blt := ok.x.blt, fns := ok.x.fns, exs := ok.x.exs, exx := ok.x.exx, exm := ok.x.exm }
  po := po
  hs := ok.hs
  hf := ok.hf
  kind := ok.kind
def tSu (G : Gx) (T : Cal) (n : Option (Nat × Str)) (he : HE) : Addr → Value → Option Addr → TS := fun a cls d => tRet (tHE G T a cls d n he)
theorem names_of {c : Cc} {T : Cal} {lvl : Nat} {Wx : WX} {X : Cx} (ok : XOk c G T lvl Wx X) {k : Nm} {n : Str} (h1 : c.nm k = n) (h2 : c.gl n = true) (h3 : c.exc k = true) : Names X n (.ref (G.ca k)) := by
  obtain ⟨g1, g2⟩ := ok.gl h2
  have m := (ok.exs k h3).1
  rw [h1] at m
  exact ⟨g1, g2, .inl m⟩
/-- what the body is asked, if it raises -/
theorem many_ok {c : Cc} {T : Cal} {lvl : Nat} {Wx : WX} {X : Cx} (ok : XOk c G T lvl Wx X) : ∀ (hs : List (Nm × HE)) (xs : List ExceptHandler), mHs c hs xs = true → ∃ l, HdsOk X xs l ∧
    ∀ (D : Ends) (x : Nm) (h' : WH) (H H' : Hp) (ρ ρ' : Ro) (σ2 : L2.St), G.ex x = true → HRep G H' ρ' h' → Ext H ρ H' ρ' →
      GS G Wx D H ρ (match hfind T x hs with
        | some he => (match heV T x he with
          | some w => .rt w h'
          | none => .bad)
        | none => .exc x [] h') → wMany X.K Wx D l (.ref (G.ca x)) none σ2 H'
  | [], xs, h => by
    simp only [mHs] at h
    split at h
    · refine ⟨[], .nil, fun D x h' H H' ρ ρ' σ2 hx hr e g => ?_⟩
      simp only [hfind] at g
      exact g _ _ σ2 H' ρ' e hr ⟨rfl, rfl, rfl, hx⟩
    · cases h
  | (k, he) :: r, xs, h => by
    simp only [mHs] at h
    split at h
    · rename_i n np y rp hp t
      simp only [Bool.and_eq_true, decide_eq_true_eq] at h
      obtain ⟨h1, h2, h3, h4, h5⟩ := h
      obtain ⟨l, hl, kl⟩ := many_ok ok r t h5
      refine ⟨(.ref (G.ca k), tSu G T none he) :: l, .cons (names_of ok h1 h2 h3) (fun a oe cls d pn hz hf => pss_one (ps_ret (pe_he ok hz hf he y h4))) hl, fun D x h' H H' ρ ρ' σ2 hx hr e g => ?_⟩
      refine ⟨T.sub x k, ok.K ▸ (ok.exm.exm x k hx (ok.exx k h3)).1, fun hb a na => ?_, fun hb => ?_⟩
      · simp only [hfind, hb, if_true] at g
        split at g
        · rename_i w ew
          refine ⟨x, w, hx, rfl, rfl, ?_, ew, ?_⟩
          · intro i e z; cases z
          · exact fun v rv => g v H' ρ' e hr (rv H' ρ')
        · exact g.elim
      · simp only [hfind, hb, Bool.false_eq_true, if_false] at g
        exact kl D x h' H H' ρ ρ' σ2 hx hr e g
    · cases h
theorem q_try {body : List S} (b : Option Nat) (hs : List (Nm × HE)) (ib : SSs G T lvl body) : SS G T lvl (.tryS body b hs) := fun c Wx X x ok h => by
  simp only [mS] at h
  split at h
  · rename_i ys z zs pos
    split at h
    · rename_i i
      split at h
      · rename_i n np e y rp hp k he
        simp only [Bool.and_eq_true, decide_eq_true_eq] at h
        obtain ⟨h1, h2, h3, h4, h5, h6, h7⟩ := h
        obtain ⟨l1, l2, l3⟩ := ok.x.loc h4
        have kd : X.env.kindOf e = some .local := by
          show X.env.scope.names.lookup e = _
          rw [ok.x.sc]
          unfold locK at h5
          split at h5 <;> first | assumption | cases h5
        refine PSimp (ps_try_as (tb := fun W => tS G (fun cls d σ H => σ.length = X.N.length → W cls d σ H) (exs T body)) (ts := tSu G T (some (i, e)) he) (i := i) ok.hs ok.hf (ok.x.N ▸ ok.x.nd) l1 kd (names_of ok.x h1 h2 h3) ok.x.tk (fun W pn xe tk po => ?_) fun a oe cls d pn hz hf => pss_one (ps_ret (pe_he ok.x hz hf he y h6))) fun D σ H ⟨ρ, σw, h, sr, hr, g⟩ => ?_
        · exact ib c _ (X.tr pn xe) ys (ok.tr (takes_len tk) po) h7
        · refine ⟨ρ, σw, h, sr, hr, ?_⟩
          simp only [exe] at g
          cases q : exs T body σw h with
          | nx σ' h' => rw [q] at g; exact g
          | rt w h' => rw [q] at g; exact g
          | bk σ' h' => rw [q] at g; exact g
          | bad => rw [q] at g; exact g
          | exc x fs h' =>
            rw [q] at g
            intro cls d σ2 H' ρ' e' hr' ⟨c1, c2, c3, c4⟩ hlen
            subst c1 c2 c3
            refine ⟨T.sub x k, ok.x.K ▸ (ok.x.exm.exm x k c4 (ok.x.exx k h3)).1, fun hb a na => ?_, fun hb => ?_⟩
            · simp only [hfind, hb, if_true] at g
              split at g
              · rename_i w ew
                have hi : i < σ2.length := by rw [hlen]; exact (List.getElem?_eq_some_iff.mp l1).1
                exact ⟨x, w, c4, rfl, rfl, fun i' e2 z => by cases z; simp [hi], ew, fun v rv => g v H' ρ' e' hr' (rv H' ρ')⟩
              · exact g.elim
            · simp only [hfind, hb, Bool.false_eq_true, if_false] at g
              exact g _ _ σ2 H' ρ' e' hr' ⟨rfl, rfl, rfl, c4⟩
      · cases h
    · simp only [Bool.and_eq_true] at h
      obtain ⟨l, hl, kl⟩ := many_ok ok.x hs (z :: zs) h.1
      refine PSimp (ps_try_many (tb := fun W => tS G W (exs T body)) ok.hs ok.hf ok.x.tk (fun W pn xe tk po => ib c _ (X.tr pn xe) ys (ok.tr tk po) h.2) hl) fun D σ H ⟨ρ, σw, h, sr, hr, g⟩ => ?_
      refine ⟨ρ, σw, h, sr, hr, ?_⟩
      simp only [exe] at g
      cases q : exs T body σw h with
      | nx σ' h' => rw [q] at g; exact g
      | rt w h' => rw [q] at g; exact g
      | bk σ' h' => rw [q] at g; exact g
      | bad => rw [q] at g; exact g
      | exc x fs h' =>
        rw [q] at g
        intro cls d σ2 H' ρ' e' hr' ⟨c1, c2, c3, c4⟩
        subst c1 c2 c3
        exact kl D x h' H H' ρ ρ' σ2 c4 hr' e' g
    · cases h
  · cases h
theorem q_asg (tg : Tg) (e : E) : SS G T lvl (.asg tg e) := fun c Wx X x ok h => by
  simp only [mS] at h
  split at h
  · rename_i y z p
    simp only [Bool.and_eq_true] at h
    obtain ⟨h1, h2, h3, h4⟩ := h
    split at h4
    · rename_i elt gs scope cp
      split at h4
      · exact st_comp ok h1 h2 h3 h4
      · rename_i hy
        refine st_asg ok h1 h2 h3 ?_ (sE (G := G) (T := T) (lvl := lvl) e c Wx X _ ok.x h4).1
        cases y <;> first | rfl | exact absurd rfl (hy _ _)
    · simp only [Bool.and_eq_true, Bool.not_eq_true'] at h4
      exact st_asg ok h1 h2 h3 (by rw [h4.1]; rfl) (sE (G := G) (T := T) (lvl := lvl) e c Wx X _ ok.x h4.2).1
  · cases h
theorem q_par (is : List Nat) (es : List E) : SS G T lvl (.par is es) := fun c Wx X x ok h => by
  simp only [mS] at h
  split at h
  · split at h
    · rename_i hsw
      simp only [Bool.and_eq_true] at h
      exact st_par ok hsw h.1 (sEs (G := G) (T := T) (lvl := lvl) es c Wx X _ ok.x h.2)
    · cases h
  · cases h
theorem q_sub (o i e : E) : SS G T lvl (.sub o i e) := fun c Wx X x ok h => by
  simp only [mS] at h
  split at h
  · simp only [Bool.and_eq_true, Bool.not_eq_true'] at h
    obtain ⟨h0, h1, h2, h3, h4⟩ := h
    exact st_sub ok h0 h1 (sE (G := G) (T := T) (lvl := lvl) e c Wx X _ ok.x h2).1 (sE (G := G) (T := T) (lvl := lvl) o c Wx X _ ok.x h3).1 (sE (G := G) (T := T) (lvl := lvl) i c Wx X _ ok.x h4).1
  · cases h
theorem q_dput (tpl : Bool) (d : E) (ks : List E) (e : E) : SS G T lvl (.dput tpl d ks e) := fun c Wx X x ok h => by
  simp only [mS] at h
  split at h
  · simp only [Bool.and_eq_true, Bool.not_eq_true', decide_eq_true_eq] at h
    obtain ⟨h0, h1, h2, h3, h4, h5⟩ := h
    exact st_dput ok h0 h1 h2 (sE (G := G) (T := T) (lvl := lvl) e c Wx X _ ok.x h3).1 (sE (G := G) (T := T) (lvl := lvl) d c Wx X _ ok.x h4).1 (sEs (G := G) (T := T) (lvl := lvl) ks c Wx X _ ok.x h5)
  · cases h
theorem q_aug (i : Nat) (o : BO) (e : E) : SS G T lvl (.aug i o e) := fun c Wx X x ok h => by
  simp only [mS] at h
  split at h
  · split at h
    · simp only [Bool.and_eq_true] at h
      exact st_aug ok h.1 (sE (G := G) (T := T) (lvl := lvl) e c Wx X _ ok.x h.2).1
    · cases h
  · cases h
theorem q_ex (e : E) : SS G T lvl (.ex e) := fun c Wx X x ok h => by
  simp only [mS] at h
  split at h
  · simp only [Bool.and_eq_true, Bool.not_eq_true'] at h
    exact st_ex ok h.1 (sE (G := G) (T := T) (lvl := lvl) e c Wx X _ ok.x h.2).1
  · cases h
theorem q_ret (e : E) : SS G T lvl (.ret e) := fun c Wx X x ok h => by
  simp only [mS] at h
  split at h
  · exact st_ret (sE (G := G) (T := T) (lvl := lvl) e c Wx X _ ok.x h).1
  · cases h
theorem q_ite (t : E) {a b : List S} (ia : SSs G T lvl a) (ib : SSs G T lvl b) : SS G T lvl (.ite t a b) := fun c Wx X x ok h => by
  simp only [mS] at h
  split at h
  · simp only [Bool.and_eq_true] at h
    obtain ⟨h1, h2, h3⟩ := h
    exact st_ite (sE (G := G) (T := T) (lvl := lvl) t c Wx X _ ok.x h1).2.1 (ia c Wx X _ ok h2) (ib c Wx X _ ok h3)
  · cases h
theorem q_for (tg : Tg) (ik : IK) (es : List E) (wip : List Nat) {body : List S} (ib : SSs G T lvl body) : SS G T lvl (.forS tg ik es wip body) := fun c Wx X x ok h => by
  simp only [mS] at h
  split at h
  · simp only [Bool.and_eq_true] at h
    obtain ⟨h1, h2, h3, h4⟩ := h
    split at h2
    · rename_i xs hx
      exact st_for ok h1 hx (sEs (G := G) (T := T) (lvl := lvl) es c Wx X _ ok.x h2) h3 (ib c Wx X _ ok h4)
    · cases h2
  · cases h
theorem q_whl (n : Nat) (t : E) (wip : List Nat) {body : List S} (ib : SSs G T lvl body) : SS G T lvl (.whl n t wip body) := fun c Wx X x ok h => by
  simp only [mS] at h
  split at h
  · simp only [Bool.and_eq_true] at h
    exact st_whl ok (sE (G := G) (T := T) (lvl := lvl) t c Wx X _ ok.x h.1).2.1 (ib c Wx X _ ok h.2)
  · cases h
mutual
theorem sS : ∀ s : S, SS G T lvl s
  | .asg tg e => q_asg tg e
  | .par is es => q_par is es
  | .sub o i e => q_sub o i e
  | .dput tpl d ks e => q_dput tpl d ks e
  | .fld _ _ _ => fun c Wx X x ok h => by simp only [mS, Bool.false_eq_true] at h
  | .aug i o e => q_aug i o e
  | .ex e => q_ex e
  | .ret e => q_ret e
  | .retN => fun c Wx X x ok h => by
    simp only [mS] at h
    split at h
    · exact st_retN
    · cases h
  | .ite t a b => q_ite t (sSs a) (sSs b)
  | .forS tg ik es wip body => q_for tg ik es wip (sSs body)
  | .whl n t wip body => q_whl n t wip (sSs body)
  | .pass => fun c Wx X x ok h => by
    simp only [mS] at h
    split at h
    · exact st_pass
    · cases h
  | .brk => fun c Wx X x ok h => by
    simp only [mS] at h
    split at h
    · exact st_brk
    · cases h
  | .raise k => fun c Wx X x ok h => q_raise ok h
  | .tryS body b hs => q_try b hs (sSs body)
theorem sSs : ∀ ss : List S, SSs G T lvl ss
  | [] => fun c Wx X xs ok h => by
    simp only [mSs] at h
    split at h
    · exact ss_nil
    · cases h
  | s :: ss => fun c Wx X xs ok h => by
    simp only [mSs] at h
    split at h
    · simp only [Bool.and_eq_true] at h
      exact ss_cons (sS s c Wx X _ ok h.1) (sSs ss c Wx X _ ok h.2)
    · cases h
end
end
end Y

namespace Y
open PySem PySem.Spec PyProof.Rows L2
/-! defs -/
section
variable {P : Program} {w : World} {K : PySem.W.Frag} {mg : Str → Option Value} {base : Heap}
/-- a def keeps its promise: its body is read in its own context -/
theorem fnW_of {x qual : Str} {params : Arguments} {body : List Stmt} {scope : Scope} {f : Addr} {fd : FuncData} {N ps : List Str} {k : Nat} {sp : Sp} (F : FunD K x qual params body scope [] [] f fd) (S : FnScope N ps scope) (len : ∀ vs H Q E, sp vs H Q E → vs.length = ps.length)
    (bd : ∀ (cv : Value) (A : Around) (up : List PySem.Env) (s : Shared) (H : Hp) (vs : List V) (Q : VK) (E : XK), Room k (A.deeper (envOfC qual scope s.heap.objs.size f cv)) → A.guards = some [] → sp vs H Q E →
      ∃ t, PSs (cxOf (L2.CX P w) P w K mg base N qual scope f cv A up s H E) body t ∧ t { nx := fun _ H' => Q .non H', rt := Q } (L2.start N vs) H) : FnW P w K mg base (k + 1) f fd ps sp := by
  obtain ⟨oc, od, dV, kV, doc, pm, an, cv, ct, osl, rfl, lk, hcd, _, _⟩ := F.ex
  refine ⟨len, fun A up s H args us vs Q E hr hgu e0 hb rv hsp => ?_⟩
  have kin : K.In s.heap := e0.mod.kin.keeps fun b o e => (e0.bs b o e).1
  have nol : s.heap.NoLimit := e0.mod.nolimit.keeps fun b o e => (e0.bs b o e).1
  have kinds : ∀ y ∈ ps.zip us, scope.names.lookup y.1 = some .local ∨ (scope.names.lookup y.1 = some .cell ∧ ((cellsFrom (s.heap.objs.size + 1) scope.names []).lookup y.1).isSome = true) := by
    rintro ⟨nm, v⟩ hy
    cases S.par nm (List.of_mem_zip hy).1 with
    | inl q => exact .inl q
    | inr q => exact .inr ⟨q, PySem.W.cellsFrom_some _ _ _ (.inl q)⟩
  refine codeAny_call_function hr.depth (kin _ _ lk) rfl S.co S.gen rfl (PySem.W.codeRec_of kin hcd) (hb _ _ _ _ ?_)
  refine wpAny_newFunctionEnv_cells S.kind kinds fun env he s1 ic => ?_
  subst he
  refine ⟨nol.keeps ic.toInCall.keep, codeAny_func ?_⟩
  obtain ⟨t, pt, hq⟩ := bd cv A up s H vs Q E (hr.deeper _) hgu hsp
  have I0 := inv_start (CX := L2.CX P w) (N := N) (E := E) S hr.hd e0 (len _ _ _ _ hsp) rv ic
  refine wpAny_mono (pt.run [] s1 (L2.start N vs) H _ I0 hq) (fun fl s' hs => ?_) fun e s' hs => hs
  cases fl with
  | ret u =>
    obtain ⟨v, σ', H', J, rv', q⟩ := hs
    exact ⟨v, H', J.os, J.bare, J.base, J.hok, rv', q⟩
  | next =>
    obtain ⟨σ', H', J, q⟩ := hs
    exact ⟨.non, H', J.os, J.bare, J.base, J.hok, rfl, q⟩
  | brk => obtain ⟨_, _, _, q⟩ := hs; exact q.elim
  | cont => obtain ⟨_, _, _, q⟩ := hs; exact q.elim
/-- a def of the text and the one of mine -/
structure DefOk (G : Gx) (mg : Str → Option Value) (calls exc cst : Nm → Bool) (k : Nm) (d : Df) : Prop where
  ex : ∃ (x qual : Str) (params : Arguments) (body : List Stmt) (scope : Scope) (f : Addr) (fd : FuncData) (N ps : List Str), FunD G.K x qual params body scope [] [] f fd ∧ mg (G.nm k) = some (.ref f) ∧ FnScope N ps scope ∧ (∀ (s : Shared) (us : List Value), us.length = ps.length → BindsTo s fd ⟨us, []⟩ (ps.zip us)) ∧
    d.ps = ps.length ∧ d.ns = N.length ∧ mSs ⟨G.nm, N, scope, fun _ => true, calls, exc, cst⟩ d.body body = true
/-- what the text's module has -/
structure TxOk (G : Gx) (T : Tx) (mg : Str → Option Value) (calls exc cst : Nm → Bool) : Prop where
  con : ∀ k w, cst k = true → T.con k = some w → ∃ u v, mg (G.nm k) = some u ∧ RelV v u ∧ ∀ H ρ, Rep G H ρ w v
  blt : ∀ x, x ∈ bltNames → mg x = none
  defs : ∀ k, calls k = true → ∃ d, T.df k = some d ∧ DefOk G mg calls exc cst k d
  exs : ∀ k, exc k = true → mg (G.nm k) = some (.ref (G.ca k)) ∧ ExcK G.K (G.ca k)
  exx : ∀ k, exc k = true → G.ex k = true
  exm : ExcM G.K G T.sub
theorem startE_rep {G : Gx} {H : Hp} {ρ : Ro} {ws : List W} {vs : List V} {N : List Str} (r : RepL G H ρ ws vs) : SRep G H ρ (startE N.length ws) (L2.start N vs) := by
  have hl := r.length
  refine ⟨by unfold startE L2.start; simp [hl], fun i w e => ?_⟩
  unfold startE at e
  by_cases hi : i < ws.length
  · rw [List.getElem?_append_left (by simpa using hi), List.getElem?_map] at e
    cases q : ws[i]? with
    | none => rw [q] at e; cases e
    | some u =>
      rw [q] at e
      cases e
      obtain ⟨v, ev', rp⟩ := r.get q
      refine ⟨v, ?_, rp⟩
      unfold L2.start
      rw [List.getElem?_append_left (by simpa [hl] using hi), List.getElem?_map, ev']
      rfl
  · rw [List.getElem?_append_right (by simpa using hi), List.getElem?_replicate] at e
    split at e <;> cases e
theorem GS_fin {G : Gx} {H : Hp} {ρ : Ro} {E : XK} {Q : VK} {r : Fl} (g : GW G (fun c d _ H' => E c d H') [] H ρ (finF r) Q) : GS G (fun c d _ H' => E c d H') { nx := fun _ H' => Q .non H', rt := Q } H ρ r := by
  cases r with
  | nx σ' h' => exact fun σ2 H' ρ' e hr s => g .non H' ρ' e hr (by rw [Rep])
  | rt w h' => exact g
  | bk σ' h' => exact g.elim
  | exc c fs h' => exact fun cls d σ2 H' ρ' e hr x => g cls d H' ρ' e hr x
  | bad => exact g
theorem run_len {T : Tx} {n : Nat} {k : Nm} {d : Df} {ws : List W} {h : WH} (e : T.df k = some d) (hb : run T (n + 1) k ws h ≠ .bad) : ws.length = d.ps := by
  by_cases q : ws.length = d.ps
  · exact q
  · simp only [run, e, q, if_false, ne_eq, not_true_eq_false] at hb
theorem GW_bad {G : Gx} {Wx : WX} {σ : L2.St} {H : Hp} {ρ : Ro} {r : R W} {Q : VK} (g : GW G Wx σ H ρ r Q) : r ≠ .bad := fun z => by rw [z] at g; exact g
/-- a def, one level on -/
theorem one_fn {G : Gx} (hK : G.K = K) {T : Tx} {calls exc cst : Nm → Bool} (X : TxOk G T mg calls exc cst) {n : Nat} {k : Nm} {d : Df} (ed : T.df k = some d)
    (ih : ∀ j, calls j = true → ∃ f fd ps, mg (G.nm j) = some (.ref f) ∧ PySem.W.keepIn K (.ref f) = true ∧ (∀ (s : Shared) (us : List Value), us.length = ps.length → BindsTo s fd ⟨us, []⟩ (ps.zip us)) ∧ FnW P w K mg base n f fd ps (spW G (run T n j)))
    {x qual : Str} {params : Arguments} {body : List Stmt} {scope : Scope} {f : Addr} {fd : FuncData} {N ps : List Str} (F : FunD G.K x qual params body scope [] [] f fd) (S : FnScope N ps scope) (e1 : d.ps = ps.length) (e2 : d.ns = N.length)
    (hs : mSs ⟨G.nm, N, scope, fun _ => true, calls, exc, cst⟩ d.body body = true) : FnW P w K mg base (n + 1) f fd ps (spW G (run T (n + 1) k)) := by
  subst hK
  refine fnW_of F S (fun vs H Q E ⟨ρ, ws, h, rv, hr, g⟩ => by rw [rv.length, run_len ed (GW_bad g), e1]) fun cv A up s H vs Q E hr hgu ⟨ρ, ws, h, rv, hrr, g⟩ => ?_
  have hl := run_len ed (GW_bad g)
  rw [run_succ ed hl] at g
  have ok : SOk ⟨G.nm, N, scope, fun _ => true, calls, exc, cst⟩ G (cal T n) n (fun c d _ H' => E c d H') (cxOf (L2.CX P w) P w G.K mg base N qual scope f cv A up s H E) := {
    x := {
      N := rfl
      nd := S.nd
      sc := rfl
      fnc := rfl
      calm := rfl
      K := rfl
      nmg := rfl
      tk := takes_of (X := cxOf (L2.CX P w) P w G.K mg base N qual scope f cv A up s H E) rfl rfl rfl rfl
      room := hr
      gu := hgu
      con := X.con
      blt := X.blt
      exs := X.exs
      exx := X.exx
      exm := X.exm
      fns := fun j hj => by
        obtain ⟨f', fd', ps', a1, a2, a3, a4⟩ := ih j hj
        exact ⟨f', fd', ps', a1, a2, fun s us _ hl => by rw [List.append_nil] at hl ⊢; exact a3 s us hl, a4⟩ }
    po := passes_of rfl
    hs := rfl
    hf := rfl
    kind := S.kind }
  refine ⟨_, sSs (G := G) (T := cal T n) (lvl := n) d.body _ _ _ body ok hs, ρ, startE d.ns ws, h, ?_, hrr, GS_fin g⟩
  rw [e2]
  exact startE_rep rv
/-- EVERY DEF, at every depth -/
theorem all_fns {G : Gx} (hK : G.K = K) {T : Tx} {calls exc cst : Nm → Bool} (X : TxOk G T mg calls exc cst) : ∀ (n : Nat) (k : Nm), calls k = true → ∃ f fd ps, mg (G.nm k) = some (.ref f) ∧ PySem.W.keepIn K (.ref f) = true ∧ (∀ (s : Shared) (us : List Value), us.length = ps.length → BindsTo s fd ⟨us, []⟩ (ps.zip us)) ∧ FnW P w K mg base n f fd ps (spW G (run T n k)) := by
  intro n
  induction n with
  | zero =>
    intro k hc
    obtain ⟨d, ed, ⟨x, qual, params, body, scope, f, fd, N, ps, F, hm, S, hb, e1, e2, hs⟩⟩ := X.defs k hc
    subst hK
    exact ⟨f, fd, ps, hm, F.kp, hb, ⟨fun vs H Q E ⟨ρ, ws, h, rv, hr, g⟩ => g.elim, fun A up s H args us vs Q E _ _ _ _ _ ⟨ρ, ws, h, rv, hr, g⟩ => g.elim⟩⟩
  | succ n ih =>
    intro k hc
    obtain ⟨d, ed, ⟨x, qual, params, body, scope, f, fd, N, ps, F, hm, S, hb, e1, e2, hs⟩⟩ := X.defs k hc
    exact ⟨f, fd, ps, hm, hK ▸ F.kp, hb, one_fn hK X ed ih F S e1 e2 hs⟩
end
end Y

namespace Y
open PySem PySem.Spec PyProof.Rows L2
/-! the law's own def, called with the script -/
def Ro.nil : Ro := ⟨[], [], fun a m => absurd m (by simp)⟩
theorem ints_RepL {G : Gx} {H : Hp} {ρ : Ro} : ∀ ns : List Int, RepL G H ρ (ns.map W.int) (ns.map V.int)
  | [] => RepL.nil
  | n :: r => RepL.cons (by rw [Rep]) (ints_RepL r)
section
variable {P : Program} {w : World} {K : PySem.W.Frag} {mg mb : Str → Option Value} {G : Gx} {s₁ : Shared} {a : Addr} {vs : List Value} {ns : List Int}
/-- what the promise is asked, where the script stands -/
theorem script_sp {H : Hp} {F : List W → WH → R W} (hv : ∃ h', F [.lst (ns.map W.int)] [] = .ok (.bl true) h') (hs : LsQ G H a (ns.map V.int)) (hz : ns.length ≤ sizeLine) : spW G F [.ref a] H (fun v _ => v = .bl true) fun _ _ _ => False := by
  obtain ⟨h', e⟩ := hv
  refine ⟨Ro.nil, [.lst (ns.map W.int)], [], RepL.cons ?_ RepL.nil, ⟨rfl, by simp [Ro.nil], fun b m => absurd m (by simp [Ro.nil]), fun k b o q _ => by simp [Ro.nil] at q⟩, ?_⟩
  · rw [Rep]
    exact ⟨a, ns.map V.int, rfl, hs.imp (fun z => ⟨z, by simp [Ro.nil]⟩) id, by rw [List.length_map]; exact hz, ints_RepL ns⟩
  · rw [e]
    intro v H' ρ' x hr rp
    rwa [Rep] at rp
/-- over a heap in which at most the script is tracked -/
theorem law_over {F : List W → WH → R W} {fa : Addr} {fd : FuncData} {x : Str} {lvl : Nat} {H : Hp} (KX : K.In s₁.heap) (n1 : s₁.heap.Ns mainGlobals mg) (n2 : s₁.heap.Ns builtinsNs mb) (n3 : ∀ x : Str, x ≠ "__name__" → mb x = bootBuiltins x) (n4 : s₁.heap.NoLimit) (hg : s₁.gens = #[])
    (ha : s₁.heap.get? a = some { cls := .type "list", data := .seq vs.toArray }) (hr : Room lvl callerA) (Fn : ∀ base : Heap, K.In base → base.Ns mainGlobals mg → FnW P w K mg base lvl fa fd [x] (spW G F))
    (hbind : ∀ (s : Shared) (u : Value), BindsTo s fd ⟨[u], []⟩ [(x, u)]) (hsp : spW G F [.ref a] H (fun v _ => v = .bl true) fun _ _ _ => False)
    (only : ∀ b, H b = none ∨ (b = a ∧ ∃ o xs, H b = some (.frz o (.lst xs)))) (hok : HOk P w H s₁.heap) (kno : H a ≠ none → K.lookup a = none) :
    codeAny (model P w) callerA (.call (.ref fa) ⟨[.ref a], []⟩) (fun r s' => r = .ok (.ret (.bool true)) ∧ OldK s₁.heap s'.heap ∧ s'.os = s₁.os ∧ AllBare s'.gens) s₁ := by
  have isA : ∀ b, H b ≠ none → b = a := fun b n => by
    rcases only b with z | z
    · exact absurd z n
    · exact z.1
  have dictFree : ∀ {b : Addr} {o : Obj} {es : Array DictEntry} {ep : Nat}, s₁.heap.get? b = some o → o.data = .dict es ep → H b = none := by
    intro b o es ep e d
    cases q : H b with
    | none => rfl
    | some u =>
      have y := isA b (by rw [q]; simp)
      rw [y, ha] at e
      cases e
      cases (show Data.seq vs.toArray _ = Data.dict es ep from d)
  have keepNs : ∀ {b : Addr} {m : Str → Option Value}, s₁.heap.Ns b m → (hidT s₁.heap H).Ns b m := fun ⟨o, es, ep, e, d, r⟩ => ⟨o, es, ep, hidT_get e (dictFree e d), d, r⟩
  have kin : K.In (hidT s₁.heap H) := fun b o e => hidT_get (KX b o e) (by
    cases q : H b with
    | none => rfl
    | some u =>
      have y := isA b (by rw [q]; simp)
      subst y
      rw [kno (by rw [q]; simp)] at e
      cases e)
  have modOk : Mod K mg (hidT s₁.heap H) := ⟨kin, keepNs n1, ⟨mb, keepNs n2, n3⟩, let ⟨mc, h1, h2⟩ := n4; ⟨mc, keepNs h1, h2⟩⟩
  have e0 : Env0 P w K mg (hidT s₁.heap H) callerA [] s₁ H := ⟨rfl, modOk, fun b o e => of_hidT e, Nat.le_of_eq (hidT_size _ _), trivial, fun b z => absurd z (by simp [frs]), hok, .of_eq hg⟩
  refine codeAny_mono ((Fn _ kin (keepNs n1)).run callerA [] s₁ H ⟨[.ref a], []⟩ [.ref a] [.ref a] _ _ hr rfl e0 (hbind s₁ (.ref a)) (.cons rfl .nil) hsp) fun r s' got => ?_
  cases r with
  | error e =>
    obtain ⟨_, _, _, _, _, _, _, _, _, _, _, _, z⟩ := got
    exact z.elim
  | ok fl =>
    cases fl with
    | ret u =>
      obtain ⟨v, H', os, bare, un, hok', rv, q⟩ := got
      have q : v = .bl true := q
      subst q
      cases (show u = Value.bool true from rv)
      refine ⟨rfl, OldK.of_keep fun b o e => ?_, os, bare⟩
      rcases only b with z | ⟨_, ob, xs, z⟩
      · exact un.keep b o e z (by simp [frs]) (by simp)
      · obtain ⟨e1, _⟩ := hok b _ z
        obtain ⟨e2, _⟩ := hok' b _ (un.frzs b ob _ z)
        rw [e] at e1
        cases e1
        exact e2
    | next => exact got.elim
    | brk => exact got.elim
    | cont => exact got.elim
theorem law_run {F : List W → WH → R W} {fa : Addr} {fd : FuncData} {x : Str} {lvl : Nat} (hK : G.K = K) (KX : K.In s₁.heap) (n1 : s₁.heap.Ns mainGlobals mg) (n2 : s₁.heap.Ns builtinsNs mb) (n3 : ∀ x : Str, x ≠ "__name__" → mb x = bootBuiltins x) (n4 : s₁.heap.NoLimit) (hg : s₁.gens = #[])
    (ha : s₁.heap.get? a = some { cls := .type "list", data := .seq vs.toArray }) (hi : IntsAre vs ns) (hl : ns.length ≤ sizeLine) (hr : Room lvl callerA) (Fn : ∀ base : Heap, K.In base → base.Ns mainGlobals mg → FnW P w K mg base lvl fa fd [x] (spW G F))
    (hbind : ∀ (s : Shared) (u : Value), BindsTo s fd ⟨[u], []⟩ [(x, u)]) (hv : ∃ h', F [.lst (ns.map W.int)] [] = .ok (.bl true) h') :
    codeAny (model P w) callerA (.call (.ref fa) ⟨[.ref a], []⟩) (fun r s' => r = .ok (.ret (.bool true)) ∧ OldK s₁.heap s'.heap ∧ s'.os = s₁.os ∧ AllBare s'.gens) s₁ := by
  have rv := vals_ints hi
  cases hk : K.lookup a with
  | some o =>
    have e := KX a o hk
    rw [ha] at e
    cases e
    exact law_over (H := fun _ => none) KX n1 n2 n3 n4 hg ha hr Fn hbind (script_sp hv (.inr ⟨vs, _, by rw [hK]; exact hk, by rw [List.length_map]; exact hl, rv⟩) hl) (fun b => .inl rfl) (fun b u z => by cases z) fun z => absurd rfl z
  | none =>
    refine law_over (H := fun b => if b = a then some (.frz { cls := .type "list", data := .seq vs.toArray } (.lst (ns.map V.int))) else none) KX n1 n2 n3 n4 hg ha hr Fn hbind (script_sp hv (.inl (.inr ⟨{ cls := .type "list", data := .seq vs.toArray }, if_pos rfl⟩)) hl) (fun b => ?_) (fun b u z => ?_) fun _ => hk
    · by_cases hb : b = a
      · exact .inr ⟨hb, _, _, if_pos hb⟩
      · exact .inl (if_neg hb)
    · by_cases hb : b = a
      · have y := (if_pos hb).symm.trans z
        cases y
        subst hb
        exact ⟨ha, by rw [List.length_map]; exact hl, vs, _, rv, ha⟩
      · have y := (if_neg hb).symm.trans z
        cases y
end
/-- the goal that the head leaves -/
theorem walk_mine {l : PySem.W.OpenLaw} {lvl : Nat} {q : Program} {loose : List Str} {XP : (Str → Option Value) → Heap → Prop} {YP : World → Heap → Prop} {d : DefRec}
    (hn : l.most = some 63) (hdf : d.params.defaults = []) (hr : Room lvl callerA)
    (Fn : ∀ (w : World) (mg : Str → Option Value) (fa : Addr) (h : Heap), YP w h → h.Ns mainGlobals mg → mg d.name = some (.ref fa) →
      ∃ (G : Gx) (fd : FuncData) (F : List W → WH → R W) (x : Str), G.K.In h ∧ (∀ (s : Shared) (u : Value), BindsTo s fd ⟨[u], []⟩ [(x, u)]) ∧
        (∀ ns : List Int, ns.length ≤ 63 → (∀ z ∈ ns, Builtin.Int.intBits z ≤ 1048576) → ∃ h', F [.lst (ns.map W.int)] [] = .ok (.bl true) h') ∧
        ∀ base : Heap, G.K.In base → base.Ns mainGlobals mg → FnW l.prog w G.K mg base lvl fa fd [x] (spW G F)) :
    PySem.W.WalkO q loose XP YP l.row.toRowW d [] (fun f vs => PySem.call f vs) := by
  refine Att.attach_callB hn hdf fun w s₀ s₁ mg mb fa o pm cd doc a vs ns G Y ho hd hcd hmg hobj hints hlen hbits hg => ?_
  obtain ⟨Gx, fd, F, x, kin, hb, hv, hF⟩ := Fn w mg fa _ Y G.T.g hmg
  exact law_run rfl kin G.T.g G.T.b G.T.builtins G.T.nolimit hg hobj hints (Nat.le_trans hlen (by decide)) hr hF hb (hv ns hlen hbits)
end Y

namespace Y
open PySem PySem.Spec PyProof.Rows L2
/-! the head's facts, with facts of my own -/
abbrev Ph := PySem.W.Frag → Bool
abbrev AlM : Type := He.AlD × Bool
def SaysM (fa : List He.Fa) (ph : List Ph) (fn : List He.DefD) (K : PySem.W.Frag) : Prop := He.SaysD fa fn K ∧ (ph.all fun p => p K) = true
def obsM (n : Nat) (fa : List He.Fa) (ph : List Ph) (fn : List He.DefD) (g : Addr → Option Obj) : AlM := (He.obsDG n fa fn g, ph.all fun p => p (He.frG g (He.asD g n)))
def hookM (n : Nat) (fa : List He.Fa) (ph : List Ph) (fn : List He.DefD) : PySem.W.Hook where
  α := AlM
  obs := fun s => obsM n fa ph fn s.heap.get?
  val := fun _ => (He.valD fn, true)
  says := fun _ h => ∃ K : PySem.W.Frag, K.In h ∧ SaysM fa ph fn K
  of := fun _ _ e => ⟨_, He.frG_in, congrArg (fun z : AlM => z.1) e, congrArg (fun z : AlM => z.2) e⟩
  keeps := fun _ _ _ ⟨K, hK, c⟩ k => ⟨K, PySem.W.Frag.In.keeps hK k, c⟩
theorem obsM_eq {n : Nat} {fa : List He.Fa} {ph : List Ph} {fn : List He.DefD} {g : Addr → Option Obj} {s : Shared} (h : ∀ a, g a = s.heap.get? a) : obsM n fa ph fn g = (hookM n fa ph fn).obs s := by
  have e : g = s.heap.get? := funext h
  rw [e] <;> rfl
theorem SaysM.ph {fa : List He.Fa} {ph : List Ph} {fn : List He.DefD} {K : PySem.W.Frag} (c : SaysM fa ph fn K) (i : Nat) {p : Ph} (h : ph[i]? = some p := by rfl) : p K = true := List.all_eq_true.mp c.2 p (List.mem_of_getElem? h)
/-- of the exceptions' classes -/
def excPh (nm : Nm → Str) (sub : Nm → Nm → Bool) (xs : List Nm) : Ph := fun K => xs.all fun x =>
  (decide (PySem.W.kitOne K (.ref (He.ga K (nm x))) (.type "ValueError") = some true) &&
  (He.eqO (PySem.W.findIn K (.ref (He.ga K (nm x))) "__getattribute__") (some (some (.builtin "BaseException.__getattribute__"))) &&
  (He.eqO (PySem.W.findIn K (.ref (He.ga K (nm x))) "__getattr__") (some none) &&
  (decide (PySem.W.subIn K (.ref (He.ga K (nm x))) (.type "BaseException") = some true) &&
  (PySem.W.hasDictIn K (He.ga K (nm x)) &&
  (He.eqO (PySem.W.findIn K (.ref (He.ga K (nm x))) "__class__") (some (some (.builtin "object.__class__"))) &&
  (He.eqO (PySem.W.specialIn K (.builtin "object.__class__") "__get__") (some (some (.builtin "getset_descriptor.__get__"))) &&
  (decide (PySem.W.takesIn K (.builtin "object.__class__") = some true) &&
  decide (PySem.W.mroIn K (He.ga K (nm x)) (.type "object") = some true))))))))) &&
  xs.all fun y => decide (PySem.W.exmOne K (.ref (He.ga K (nm x))) (.ref (He.ga K (nm y))) = some (sub x y)) && decide (PySem.W.kitOne K (.ref (He.ga K (nm x))) (.ref (He.ga K (nm y))) = some (sub x y))
theorem excM_of {nm : Nm → Str} {sub : Nm → Nm → Bool} {xs : List Nm} {K : PySem.W.Frag} (h : excPh nm sub xs K = true) : ExcM K ⟨K, fun k => He.ga K (nm k), nm, fun k => xs.contains k⟩ sub := by
  have h : ∀ x ∈ xs, _ := List.all_eq_true.mp h
  simp only [Bool.and_eq_true, decide_eq_true_eq, List.all_eq_true] at h
  have mm : ∀ x, xs.contains x = true → x ∈ xs := fun x e => by simpa using e
  exact ⟨fun x k hx hk => (h x (mm x hx)).2 k (mm k hk), fun x hx => (h x (mm x hx)).1.1, fun x hx => by
    obtain ⟨_, e1, e2, e3, e4, e5, e6, e7, e8⟩ := (h x (mm x hx)).1
    exact ⟨He.eqO_ok e1, He.eqO_ok e2, e3, e4, He.eqO_ok e5, He.eqO_ok e6, e7, e8⟩⟩
/-! written tuples of the module -/
def valIs : Value → W → Bool
  | .int j _, .int i => decide (i = j)
  | .str z _, .str s => decide (z = strC s)
  | _, _ => false
def valsAre : List Value → List W → Bool
  | [], [] => true
  | v :: vs, w :: ws => valIs v w && valsAre vs ws
  | _, _ => false
def tupAt (K : PySem.W.Frag) (a : Addr) (ws : List W) : Bool := match K.lookup a with
  | some o => (match o.data with
    | .seq its _ => decide (o.cls = .type "tuple") && (decide (its.size ≤ sizeLine) && (valsAre its.toList ws && !mixW ws))
    | _ => false)
  | none => false
def tupPh (nm : Nm → Str) (l : List (Nm × List W)) : Ph := fun K => l.all fun p => tupAt K (He.ga K (nm p.1)) p.2
theorem valsAre_rep {G : Gx} : ∀ {vs : List Value} {ws : List W}, valsAre vs ws = true → ∃ xs : List V, Vals xs vs ∧ ∀ H ρ, RepL G H ρ ws xs
  | [], [], _ => ⟨[], .nil, fun _ _ => RepL.nil⟩
  | [], _ :: _, h => by simp [valsAre] at h
  | _ :: _, [], h => by simp [valsAre] at h
  | v :: vs, w :: ws, h => by
    simp only [valsAre, Bool.and_eq_true] at h
    obtain ⟨xs, h1, h2⟩ := valsAre_rep (G := G) h.2
    have h0 := h.1
    unfold valIs at h0
    split at h0
    · rename_i j t i
      have e := of_decide_eq_true h0
      subst e
      exact ⟨.int i :: xs, .cons ⟨t, rfl⟩ h1, fun H ρ => RepL.cons (by rw [Rep]) (h2 H ρ)⟩
    · rename_i z t s
      have e := of_decide_eq_true h0
      subst e
      exact ⟨.str (strC s) :: xs, .cons ⟨t, rfl⟩ h1, fun H ρ => RepL.cons (by rw [Rep]) (h2 H ρ)⟩
    · cases h0
theorem tupAt_rep {G : Gx} {a : Addr} {ws : List W} (h : tupAt G.K a ws = true) (H : Hp) (ρ : Ro) : Rep G H ρ (.tup ws) (.ref a) := by
  unfold tupAt at h
  split at h
  · rename_i o ho
    split at h
    · rename_i its n hd
      simp only [Bool.and_eq_true, decide_eq_true_eq] at h
      obtain ⟨h1, h2, h3, h4⟩ := h
      obtain ⟨xs, v1, v2⟩ := valsAre_rep (G := G) h3
      rw [Rep]
      exact ⟨a, xs, rfl, .inr ⟨⟨o, its, n, ho, h1, hd, h2, v1⟩, by simpa using h4⟩, by rw [v1.length, Array.length_toList]; exact h2, v2 H ρ⟩
    · cases h
  · cases h
theorem tupPh_rep {G : Gx} {l : List (Nm × List W)} (h : tupPh G.nm l G.K = true) {k : Nm} {ws : List W} (m : (k, ws) ∈ l) (H : Hp) (ρ : Ro) : Rep G H ρ (.tup ws) (.ref (He.ga G.K (G.nm k))) :=
  tupAt_rep (List.all_eq_true.mp h _ m) H ρ
end Y

namespace B49
open PySem PySem.Spec PyProof.Rows L2
def top (i : Nat) : Stmt := PySem.Challenge.pw_payhouse_k49_whole_first_orders.main.body.getD i (.Pass ⟨0, 0, 0, 0⟩)
def dOf (x : Str) (i : Nat) : He.DefD := ⟨(x, none), x, x, defArgs (top i), defBody (top i), defScope (top i), [], []⟩
def nmS : Nat → Str
  | 1 => "PayError"
  | 93 => "InvalidRules"
  | 62 => "NAME"
  | 63 => "LETTERS"
  | 64 => "NUMBER"
  | 65 => "DEEP"
  | 66 => "PARTS"
  | 67 => "DEFINITIONS"
  | 68 => "LIMITS"
  | 69 => "RATE"
  | 70 => "PLAIN"
  | 71 => "KINDS"
  | 72 => "NAMED"
  | 73 => "TWO"
  | 74 => "COMPARED"
  | 75 => "JOINED"
  | 3 => "is_whole"
  | 4 => "is_tuple_of"
  | 76 => "is_name"
  | 77 => "fits_bands"
  | 78 => "inner_of"
  | 79 => "fits_expression"
  | 80 => "parts_of"
  | 81 => "mentioned"
  | 82 => "fits_definition"
  | 83 => "in_order"
  | 84 => "fits_rules"
  | 110 => "need_rules"
  | 211 => "now_behind"
  | 220 => "order_in"
  | 221 => "first_order"
  | 16 => "_law_cup"
  | 17 => "_law_roll"
  | 18 => "_law_some"
  | 87 => "_law_expression"
  | 88 => "_law_drawn_test"
  | 89 => "_law_rules"
  | 103 => "_law_mentions"
  | 216 => "_law_behind"
  | 209 => "_law_paid"
  | 222 => "_law_first_order"
  | 198 => "law"
  | _ => ""
def callsT : Nat → Bool
  | 3 => true
  | 4 => true
  | 76 => true
  | 77 => true
  | 78 => true
  | 79 => true
  | 80 => true
  | 81 => true
  | 82 => true
  | 83 => true
  | 84 => true
  | 110 => true
  | 211 => true
  | 220 => true
  | 221 => true
  | 16 => true
  | 17 => true
  | 18 => true
  | 87 => true
  | 88 => true
  | 89 => true
  | 103 => true
  | 216 => true
  | 209 => true
  | 222 => true
  | 198 => true
  | _ => false
def cstT : Nat → Bool
  | 62 => true
  | 63 => true
  | 64 => true
  | 65 => true
  | 66 => true
  | 67 => true
  | 68 => true
  | 69 => true
  | 70 => true
  | 71 => true
  | 72 => true
  | 73 => true
  | 74 => true
  | 75 => true
  | _ => false
def excL : List Nat := [1, 93]
abbrev excT : Nat → Bool := fun k => excL.contains k
def tupL : List (Nat × List Y.W) := [(71, [(.int 0), (.int 1), (.int 2), (.int 3), (.int 4), (.int 5), (.int 6), (.int 9)]), (72, [(.str [110, 97, 109, 101]), (.str [102, 97, 99, 116]), (.str [108, 97, 115, 116]), (.str [121, 101, 97, 114])]), (73, [(.str [112, 108, 117, 115]), (.str [109, 105, 110, 117, 115]), (.str [116, 105, 109, 101, 115]), (.str [109, 105, 110]), (.str [109, 97, 120])]), (74, [(.str [98, 101, 108, 111, 119]), (.str [109, 111, 115, 116]), (.str [115, 97, 109, 101])]), (75, [(.str [97, 110, 100]), (.str [111, 114])])]
def ph : List Y.Ph := [Y.excPh nmS Tx.subT excL, Y.tupPh nmS tupL]
def fn : List He.DefD := [dOf "is_whole" 18, dOf "is_tuple_of" 19, dOf "is_name" 20, dOf "fits_bands" 21, dOf "inner_of" 22, dOf "fits_expression" 23, dOf "parts_of" 24, dOf "mentioned" 25, dOf "fits_definition" 26, dOf "in_order" 27, dOf "fits_rules" 28, dOf "need_rules" 29, dOf "now_behind" 31, dOf "order_in" 32, dOf "first_order" 33, dOf "_law_cup" 35, dOf "_law_roll" 36, dOf "_law_some" 37, dOf "_law_expression" 38, dOf "_law_drawn_test" 39, dOf "_law_rules" 40, dOf "_law_mentions" 41, dOf "_law_behind" 42, dOf "_law_paid" 43, dOf "_law_first_order" 44, dOf "law" 45]
def fa : List He.Fa := [.glo "is_whole", .glo "is_tuple_of", .glo "is_name", .glo "fits_bands", .glo "inner_of", .glo "fits_expression", .glo "parts_of", .glo "mentioned", .glo "fits_definition", .glo "in_order", .glo "fits_rules", .glo "need_rules", .glo "now_behind", .glo "order_in", .glo "first_order", .glo "_law_cup", .glo "_law_roll", .glo "_law_some", .glo "_law_expression", .glo "_law_drawn_test", .glo "_law_rules", .glo "_law_mentions", .glo "_law_behind", .glo "_law_paid", .glo "_law_first_order", .glo "law", .glo "PayError", .exc "PayError", .glo "InvalidRules", .exc "InvalidRules", .free "range", .free "enumerate", .free "zip", .free "isinstance", .free "len", .free "sum", .free "max", .free "min", .free "abs", .free "int", .free "list", .free "tuple", .free "all", .free "any", .free "repr", .free "str", .free "bool", .free "dict", .free "sorted", .free "set", .free "ValueError", .int "NAME" 8, .str "LETTERS" "abcdefghijklmnopqrstuvwxyz", .int "NUMBER" 999999999, .int "DEEP" 8, .int "PARTS" 60, .int "DEFINITIONS" 16, .int "LIMITS" 4, .int "RATE" 10000, .int "PLAIN" 9, .glo "KINDS", .glo "NAMED", .glo "TWO", .glo "COMPARED", .glo "JOINED"]
abbrev Rw : PySem.W.OpenRow := PySem.W.OpenLaw.row PySem.Challenge.rw_payhouse_k49_whole_first_orders
abbrev hk : PySem.W.Hook := Y.hookM 4 fa ph fn
def ob (s : PySem.W.SharedT) : Y.AlM := Y.obsM 4 fa ph fn (HandSHeadRun.getT s)
theorem ob_eq (s : PySem.W.SharedT) : ob s = hk.obs s.abs := Y.obsM_eq (HandSHeadRun.getT_eq s)
def nm0 : List PySem.Str := ["PayError", "InvalidRules", "NAME", "LETTERS", "NUMBER", "DEEP", "PARTS", "DEFINITIONS", "LIMITS", "RATE", "PLAIN", "KINDS", "NAMED", "TWO", "COMPARED", "JOINED", "is_whole", "is_tuple_of", "is_name", "fits_bands", "inner_of", "fits_expression", "parts_of", "mentioned", "fits_definition", "in_order", "fits_rules", "need_rules", "now_behind", "order_in"]
def nm1 : List PySem.Str := ["first_order", "_law_cup", "_law_roll", "_law_some", "_law_expression", "_law_drawn_test", "_law_rules", "_law_mentions", "_law_behind", "_law_paid", "_law_first_order"]
abbrev nms : List PySem.Str := nm0 ++ nm1
theorem hrun (w : World) : HandSHeadRun.RunEq Rw (PySem.W.view Rw.prog [45]) hk ob 20000 nms w := by
  intro os
  kernel_rfl
def N_is_whole : List Str := ["value", "low", "high"]
theorem sc_is_whole : FnScope N_is_whole ["value", "low", "high"] (defScope (top 18)) := ⟨rfl, rfl, rfl, by decide +kernel, rfl, by decide +kernel, by decide +kernel⟩
theorem m_is_whole : Y.mSs ⟨nmS, N_is_whole, defScope (top 18), fun _ => true, callsT, excT, cstT⟩ Tx.d_is_whole.body (defBody (top 18)) = true := by decide +kernel
def N_is_tuple_of : List Str := ["value", "low", "high"]
theorem sc_is_tuple_of : FnScope N_is_tuple_of ["value", "low", "high"] (defScope (top 19)) := ⟨rfl, rfl, rfl, by decide +kernel, rfl, by decide +kernel, by decide +kernel⟩
theorem m_is_tuple_of : Y.mSs ⟨nmS, N_is_tuple_of, defScope (top 19), fun _ => true, callsT, excT, cstT⟩ Tx.d_is_tuple_of.body (defBody (top 19)) = true := by decide +kernel
def N_is_name : List Str := ["value", "letter"]
theorem sc_is_name : FnScope N_is_name ["value"] (defScope (top 20)) := ⟨rfl, rfl, rfl, by decide +kernel, rfl, by decide +kernel, by decide +kernel⟩
theorem m_is_name : Y.mSs ⟨nmS, N_is_name, defScope (top 20), fun _ => true, callsT, excT, cstT⟩ Tx.d_is_name.body (defBody (top 20)) = true := by decide +kernel
def N_fits_bands : List Str := ["limits", "rates", "one", "other", "many"]
theorem sc_fits_bands : FnScope N_fits_bands ["limits", "rates"] (defScope (top 21)) := ⟨rfl, rfl, rfl, by decide +kernel, rfl, by decide +kernel, by decide +kernel⟩
theorem m_fits_bands : Y.mSs ⟨nmS, N_fits_bands, defScope (top 21), fun _ => true, callsT, excT, cstT⟩ Tx.d_fits_bands.body (defBody (top 21)) = true := by decide +kernel
def N_inner_of : List Str := ["value", "is_test", "word", "rest", "one"]
theorem sc_inner_of : FnScope N_inner_of ["value", "is_test"] (defScope (top 22)) := ⟨rfl, rfl, rfl, by decide +kernel, rfl, by decide +kernel, by decide +kernel⟩
theorem m_inner_of : Y.mSs ⟨nmS, N_inner_of, defScope (top 22), fun _ => true, callsT, excT, cstT⟩ Tx.d_inner_of.body (defBody (top 22)) = true := by decide +kernel
def N_fits_expression : List Str := ["value", "line", "many", "one", "is_test", "deep", "inner", "part", "test"]
theorem sc_fits_expression : FnScope N_fits_expression ["value"] (defScope (top 23)) := ⟨rfl, rfl, rfl, by decide +kernel, rfl, by decide +kernel, by decide +kernel⟩
theorem m_fits_expression : Y.mSs ⟨nmS, N_fits_expression, defScope (top 23), fun _ => true, callsT, excT, cstT⟩ Tx.d_fits_expression.body (defBody (top 23)) = true := by decide +kernel
def N_parts_of : List Str := ["expression", "found", "line", "one", "is_test"]
theorem sc_parts_of : FnScope N_parts_of ["expression"] (defScope (top 24)) := ⟨rfl, rfl, rfl, by decide +kernel, rfl, by decide +kernel, by decide +kernel⟩
theorem m_parts_of : Y.mSs ⟨nmS, N_parts_of, defScope (top 24), fun _ => true, callsT, excT, cstT⟩ Tx.d_parts_of.body (defBody (top 24)) = true := by decide +kernel
def N_mentioned : List Str := ["expression", "words", "one"]
theorem sc_mentioned : FnScope N_mentioned ["expression", "words"] (defScope (top 25)) := ⟨rfl, rfl, rfl, by decide +kernel, rfl, by decide +kernel, by decide +kernel⟩
theorem m_mentioned : Y.mSs ⟨nmS, N_mentioned, defScope (top 25), fun _ => true, callsT, excT, cstT⟩ Tx.d_mentioned.body (defBody (top 25)) = true := by decide +kernel
def N_fits_definition : List Str := ["value"]
theorem sc_fits_definition : FnScope N_fits_definition ["value"] (defScope (top 26)) := ⟨rfl, rfl, rfl, by decide +kernel, rfl, by decide +kernel, by decide +kernel⟩
theorem m_fits_definition : Y.mSs ⟨nmS, N_fits_definition, defScope (top 26), fun _ => true, callsT, excT, cstT⟩ Tx.d_fits_definition.body (defBody (top 26)) = true := by decide +kernel
def N_in_order : List Str := ["rules", "found", "left", "one", "known", "name", "ready"]
theorem sc_in_order : FnScope N_in_order ["rules"] (defScope (top 27)) := ⟨rfl, rfl, rfl, by decide +kernel, rfl, by decide +kernel, by decide +kernel⟩
theorem m_in_order : Y.mSs ⟨nmS, N_in_order, defScope (top 27), fun _ => true, callsT, excT, cstT⟩ Tx.d_in_order.body (defBody (top 27)) = true := by decide +kernel
def N_fits_rules : List Str := ["value", "one", "names", "name"]
theorem sc_fits_rules : FnScope N_fits_rules ["value"] (defScope (top 28)) := ⟨rfl, rfl, rfl, by decide +kernel, rfl, by decide +kernel, by decide +kernel⟩
theorem m_fits_rules : Y.mSs ⟨nmS, N_fits_rules, defScope (top 28), fun _ => true, callsT, excT, cstT⟩ Tx.d_fits_rules.body (defBody (top 28)) = true := by decide +kernel
def N_need_rules : List Str := ["value"]
theorem sc_need_rules : FnScope N_need_rules ["value"] (defScope (top 29)) := ⟨rfl, rfl, rfl, by decide +kernel, rfl, by decide +kernel, by decide +kernel⟩
theorem m_need_rules : Y.mSs ⟨nmS, N_need_rules, defScope (top 29), fun _ => true, callsT, excT, cstT⟩ Tx.d_need_rules.body (defBody (top 29)) = true := by decide +kernel
def N_now_behind : List Str := ["rules", "one"]
theorem sc_now_behind : FnScope N_now_behind ["rules"] (defScope (top 31)) := ⟨rfl, rfl, rfl, by decide +kernel, rfl, by decide +kernel, by decide +kernel⟩
theorem m_now_behind : Y.mSs ⟨nmS, N_now_behind, defScope (top 31), fun _ => true, callsT, excT, cstT⟩ Tx.d_now_behind.body (defBody (top 31)) = true := by decide +kernel
def N_order_in : List Str := ["rules", "one", "behind", "found", "left", "other", "name"]
theorem sc_order_in : FnScope N_order_in ["rules"] (defScope (top 32)) := ⟨rfl, rfl, rfl, by decide +kernel, rfl, by decide +kernel, by decide +kernel⟩
theorem m_order_in : Y.mSs ⟨nmS, N_order_in, defScope (top 32), fun _ => true, callsT, excT, cstT⟩ Tx.d_order_in_2.body (defBody (top 32)) = true := by decide +kernel
def N_first_order : List Str := ["rules"]
theorem sc_first_order : FnScope N_first_order ["rules"] (defScope (top 33)) := ⟨rfl, rfl, rfl, by decide +kernel, rfl, by decide +kernel, by decide +kernel⟩
theorem m_first_order : Y.mSs ⟨nmS, N_first_order, defScope (top 33), fun _ => true, callsT, excT, cstT⟩ Tx.d_first_order_2.body (defBody (top 33)) = true := by decide +kernel
def N__law_cup : List Str := ["script", "cell"]
theorem sc__law_cup : FnScope N__law_cup ["script"] (defScope (top 35)) := ⟨rfl, rfl, rfl, by decide +kernel, rfl, by decide +kernel, by decide +kernel⟩
theorem m__law_cup : Y.mSs ⟨nmS, N__law_cup, defScope (top 35), fun _ => true, callsT, excT, cstT⟩ Tx.d__law_cup.body (defBody (top 35)) = true := by decide +kernel
def N__law_roll : List Str := ["cup", "many", "found", "deep"]
theorem sc__law_roll : FnScope N__law_roll ["cup", "many"] (defScope (top 36)) := ⟨rfl, rfl, rfl, by decide +kernel, rfl, by decide +kernel, by decide +kernel⟩
theorem m__law_roll : Y.mSs ⟨nmS, N__law_roll, defScope (top 36), fun _ => true, callsT, excT, cstT⟩ Tx.d__law_roll.body (defBody (top 36)) = true := by decide +kernel
def N__law_some : List Str := ["cup", "things"]
theorem sc__law_some : FnScope N__law_some ["cup", "things"] (defScope (top 37)) := ⟨rfl, rfl, rfl, by decide +kernel, rfl, by decide +kernel, by decide +kernel⟩
theorem m__law_some : Y.mSs ⟨nmS, N__law_some, defScope (top 37), fun _ => true, callsT, excT, cstT⟩ Tx.d__law_some.body (defBody (top 37)) = true := by decide +kernel
def N__law_expression : List Str := ["cup", "names", "deep", "way", "leaves", "word", "chosen", "limits", "below"]
theorem sc__law_expression : FnScope N__law_expression ["cup", "names", "deep"] (defScope (top 38)) := ⟨rfl, rfl, rfl, by decide +kernel, rfl, by decide +kernel, by decide +kernel⟩
theorem m__law_expression : Y.mSs ⟨nmS, N__law_expression, defScope (top 38), fun _ => true, callsT, excT, cstT⟩ Tx.d__law_expression.body (defBody (top 38)) = true := by decide +kernel
def N__law_drawn_test : List Str := ["cup", "names", "deep", "one", "word"]
theorem sc__law_drawn_test : FnScope N__law_drawn_test ["cup", "names", "deep"] (defScope (top 39)) := ⟨rfl, rfl, rfl, by decide +kernel, rfl, by decide +kernel, by decide +kernel⟩
theorem m__law_drawn_test : Y.mSs ⟨nmS, N__law_drawn_test, defScope (top 39), fun _ => true, callsT, excT, cstT⟩ Tx.d__law_drawn_test.body (defBody (top 39)) = true := by decide +kernel
def N__law_rules : List Str := ["cup", "all_names", "found", "at", "name", "expression", "one"]
theorem sc__law_rules : FnScope N__law_rules ["cup"] (defScope (top 40)) := ⟨rfl, rfl, rfl, by decide +kernel, rfl, by decide +kernel, by decide +kernel⟩
theorem m__law_rules : Y.mSs ⟨nmS, N__law_rules, defScope (top 40), fun _ => true, callsT, excT, cstT⟩ Tx.d__law_rules.body (defBody (top 40)) = true := by decide +kernel
def N__law_mentions : List Str := ["expression", "words", "found", "part"]
theorem sc__law_mentions : FnScope N__law_mentions ["expression", "words"] (defScope (top 41)) := ⟨rfl, rfl, rfl, by decide +kernel, rfl, by decide +kernel, by decide +kernel⟩
theorem m__law_mentions : Y.mSs ⟨nmS, N__law_mentions, defScope (top 41), fun _ => true, callsT, excT, cstT⟩ Tx.d__law_mentions.body (defBody (top 41)) = true := by decide +kernel
def N__law_behind : List Str := ["rules", "one"]
theorem sc__law_behind : FnScope N__law_behind ["rules"] (defScope (top 42)) := ⟨rfl, rfl, rfl, by decide +kernel, rfl, by decide +kernel, by decide +kernel⟩
theorem m__law_behind : Y.mSs ⟨nmS, N__law_behind, defScope (top 42), fun _ => true, callsT, excT, cstT⟩ Tx.d__law_behind.body (defBody (top 42)) = true := by decide +kernel
def N__law_paid : List Str := ["base", "wage", "gain", "half", "total"]
theorem sc__law_paid : FnScope N__law_paid [] (defScope (top 43)) := ⟨rfl, rfl, rfl, by decide +kernel, rfl, by decide +kernel, by decide +kernel⟩
theorem m__law_paid : Y.mSs ⟨nmS, N__law_paid, defScope (top 43), fun _ => true, callsT, excT, cstT⟩ Tx.d__law_paid_3.body (defBody (top 43)) = true := by decide +kernel
def N__law_first_order : List Str := ["rules", "behind", "rows", "turn", "longer", "row", "name", "other"]
theorem sc__law_first_order : FnScope N__law_first_order ["rules"] (defScope (top 44)) := ⟨rfl, rfl, rfl, by decide +kernel, rfl, by decide +kernel, by decide +kernel⟩
theorem m__law_first_order : Y.mSs ⟨nmS, N__law_first_order, defScope (top 44), fun _ => true, callsT, excT, cstT⟩ Tx.d__law_first_order_2.body (defBody (top 44)) = true := by decide +kernel
def N_law : List Str := ["script", "cup", "turn", "rules", "paid", "yearly", "late", "at", "names", "back"]
theorem sc_law : FnScope N_law ["script"] (defScope (top 45)) := ⟨rfl, rfl, rfl, by decide +kernel, rfl, by decide +kernel, by decide +kernel⟩
theorem m_law : Y.mSs ⟨nmS, N_law, defScope (top 45), fun _ => true, callsT, excT, cstT⟩ Tx.d_law49.body (defBody (top 45)) = true := by decide +kernel
section
variable {K : PySem.W.Frag} {h : Heap} {mg : Str → Option Value}
abbrev Gk (K : PySem.W.Frag) : Y.Gx := ⟨K, fun k => He.ga K (nmS k), nmS, fun k => excL.contains k⟩
theorem ok_is_whole (X : K.In h) (g : h.Ns mainGlobals mg) (cm : Y.SaysM fa ph fn K) : Y.DefOk (Gk K) mg callsT excT cstT 3 Tx.d_is_whole := by
  have c := cm.1
  obtain ⟨fd, F⟩ := c.def_ 0 (d := dOf "is_whole" 18) rfl
  exact ⟨⟨_, _, _, _, _, _, fd, N_is_whole, ["value", "low", "high"], F, He.glo_ok X g (c.fact 0 (f := .glo "is_whole") rfl), sc_is_whole, fun s us hl => FunD.bindsA F (fun _ _ _ _ _ _ us hl => match us, hl with | [_, _, _], _ => rfl) s us hl, rfl, rfl, m_is_whole⟩⟩
theorem ok_is_tuple_of (X : K.In h) (g : h.Ns mainGlobals mg) (cm : Y.SaysM fa ph fn K) : Y.DefOk (Gk K) mg callsT excT cstT 4 Tx.d_is_tuple_of := by
  have c := cm.1
  obtain ⟨fd, F⟩ := c.def_ 1 (d := dOf "is_tuple_of" 19) rfl
  exact ⟨⟨_, _, _, _, _, _, fd, N_is_tuple_of, ["value", "low", "high"], F, He.glo_ok X g (c.fact 1 (f := .glo "is_tuple_of") rfl), sc_is_tuple_of, fun s us hl => FunD.bindsA F (fun _ _ _ _ _ _ us hl => match us, hl with | [_, _, _], _ => rfl) s us hl, rfl, rfl, m_is_tuple_of⟩⟩
theorem ok_is_name (X : K.In h) (g : h.Ns mainGlobals mg) (cm : Y.SaysM fa ph fn K) : Y.DefOk (Gk K) mg callsT excT cstT 76 Tx.d_is_name := by
  have c := cm.1
  obtain ⟨fd, F⟩ := c.def_ 2 (d := dOf "is_name" 20) rfl
  exact ⟨⟨_, _, _, _, _, _, fd, N_is_name, ["value"], F, He.glo_ok X g (c.fact 2 (f := .glo "is_name") rfl), sc_is_name, fun s us hl => FunD.bindsA F (fun _ _ _ _ _ _ us hl => match us, hl with | [_], _ => rfl) s us hl, rfl, rfl, m_is_name⟩⟩
theorem ok_fits_bands (X : K.In h) (g : h.Ns mainGlobals mg) (cm : Y.SaysM fa ph fn K) : Y.DefOk (Gk K) mg callsT excT cstT 77 Tx.d_fits_bands := by
  have c := cm.1
  obtain ⟨fd, F⟩ := c.def_ 3 (d := dOf "fits_bands" 21) rfl
  exact ⟨⟨_, _, _, _, _, _, fd, N_fits_bands, ["limits", "rates"], F, He.glo_ok X g (c.fact 3 (f := .glo "fits_bands") rfl), sc_fits_bands, fun s us hl => FunD.bindsA F (fun _ _ _ _ _ _ us hl => match us, hl with | [_, _], _ => rfl) s us hl, rfl, rfl, m_fits_bands⟩⟩
theorem ok_inner_of (X : K.In h) (g : h.Ns mainGlobals mg) (cm : Y.SaysM fa ph fn K) : Y.DefOk (Gk K) mg callsT excT cstT 78 Tx.d_inner_of := by
  have c := cm.1
  obtain ⟨fd, F⟩ := c.def_ 4 (d := dOf "inner_of" 22) rfl
  exact ⟨⟨_, _, _, _, _, _, fd, N_inner_of, ["value", "is_test"], F, He.glo_ok X g (c.fact 4 (f := .glo "inner_of") rfl), sc_inner_of, fun s us hl => FunD.bindsA F (fun _ _ _ _ _ _ us hl => match us, hl with | [_, _], _ => rfl) s us hl, rfl, rfl, m_inner_of⟩⟩
theorem ok_fits_expression (X : K.In h) (g : h.Ns mainGlobals mg) (cm : Y.SaysM fa ph fn K) : Y.DefOk (Gk K) mg callsT excT cstT 79 Tx.d_fits_expression := by
  have c := cm.1
  obtain ⟨fd, F⟩ := c.def_ 5 (d := dOf "fits_expression" 23) rfl
  exact ⟨⟨_, _, _, _, _, _, fd, N_fits_expression, ["value"], F, He.glo_ok X g (c.fact 5 (f := .glo "fits_expression") rfl), sc_fits_expression, fun s us hl => FunD.bindsA F (fun _ _ _ _ _ _ us hl => match us, hl with | [_], _ => rfl) s us hl, rfl, rfl, m_fits_expression⟩⟩
theorem ok_parts_of (X : K.In h) (g : h.Ns mainGlobals mg) (cm : Y.SaysM fa ph fn K) : Y.DefOk (Gk K) mg callsT excT cstT 80 Tx.d_parts_of := by
  have c := cm.1
  obtain ⟨fd, F⟩ := c.def_ 6 (d := dOf "parts_of" 24) rfl
  exact ⟨⟨_, _, _, _, _, _, fd, N_parts_of, ["expression"], F, He.glo_ok X g (c.fact 6 (f := .glo "parts_of") rfl), sc_parts_of, fun s us hl => FunD.bindsA F (fun _ _ _ _ _ _ us hl => match us, hl with | [_], _ => rfl) s us hl, rfl, rfl, m_parts_of⟩⟩
theorem ok_mentioned (X : K.In h) (g : h.Ns mainGlobals mg) (cm : Y.SaysM fa ph fn K) : Y.DefOk (Gk K) mg callsT excT cstT 81 Tx.d_mentioned := by
  have c := cm.1
  obtain ⟨fd, F⟩ := c.def_ 7 (d := dOf "mentioned" 25) rfl
  exact ⟨⟨_, _, _, _, _, _, fd, N_mentioned, ["expression", "words"], F, He.glo_ok X g (c.fact 7 (f := .glo "mentioned") rfl), sc_mentioned, fun s us hl => FunD.bindsA F (fun _ _ _ _ _ _ us hl => match us, hl with | [_, _], _ => rfl) s us hl, rfl, rfl, m_mentioned⟩⟩
theorem ok_fits_definition (X : K.In h) (g : h.Ns mainGlobals mg) (cm : Y.SaysM fa ph fn K) : Y.DefOk (Gk K) mg callsT excT cstT 82 Tx.d_fits_definition := by
  have c := cm.1
  obtain ⟨fd, F⟩ := c.def_ 8 (d := dOf "fits_definition" 26) rfl
  exact ⟨⟨_, _, _, _, _, _, fd, N_fits_definition, ["value"], F, He.glo_ok X g (c.fact 8 (f := .glo "fits_definition") rfl), sc_fits_definition, fun s us hl => FunD.bindsA F (fun _ _ _ _ _ _ us hl => match us, hl with | [_], _ => rfl) s us hl, rfl, rfl, m_fits_definition⟩⟩
theorem ok_in_order (X : K.In h) (g : h.Ns mainGlobals mg) (cm : Y.SaysM fa ph fn K) : Y.DefOk (Gk K) mg callsT excT cstT 83 Tx.d_in_order := by
  have c := cm.1
  obtain ⟨fd, F⟩ := c.def_ 9 (d := dOf "in_order" 27) rfl
  exact ⟨⟨_, _, _, _, _, _, fd, N_in_order, ["rules"], F, He.glo_ok X g (c.fact 9 (f := .glo "in_order") rfl), sc_in_order, fun s us hl => FunD.bindsA F (fun _ _ _ _ _ _ us hl => match us, hl with | [_], _ => rfl) s us hl, rfl, rfl, m_in_order⟩⟩
theorem ok_fits_rules (X : K.In h) (g : h.Ns mainGlobals mg) (cm : Y.SaysM fa ph fn K) : Y.DefOk (Gk K) mg callsT excT cstT 84 Tx.d_fits_rules := by
  have c := cm.1
  obtain ⟨fd, F⟩ := c.def_ 10 (d := dOf "fits_rules" 28) rfl
  exact ⟨⟨_, _, _, _, _, _, fd, N_fits_rules, ["value"], F, He.glo_ok X g (c.fact 10 (f := .glo "fits_rules") rfl), sc_fits_rules, fun s us hl => FunD.bindsA F (fun _ _ _ _ _ _ us hl => match us, hl with | [_], _ => rfl) s us hl, rfl, rfl, m_fits_rules⟩⟩
theorem ok_need_rules (X : K.In h) (g : h.Ns mainGlobals mg) (cm : Y.SaysM fa ph fn K) : Y.DefOk (Gk K) mg callsT excT cstT 110 Tx.d_need_rules := by
  have c := cm.1
  obtain ⟨fd, F⟩ := c.def_ 11 (d := dOf "need_rules" 29) rfl
  exact ⟨⟨_, _, _, _, _, _, fd, N_need_rules, ["value"], F, He.glo_ok X g (c.fact 11 (f := .glo "need_rules") rfl), sc_need_rules, fun s us hl => FunD.bindsA F (fun _ _ _ _ _ _ us hl => match us, hl with | [_], _ => rfl) s us hl, rfl, rfl, m_need_rules⟩⟩
theorem ok_now_behind (X : K.In h) (g : h.Ns mainGlobals mg) (cm : Y.SaysM fa ph fn K) : Y.DefOk (Gk K) mg callsT excT cstT 211 Tx.d_now_behind := by
  have c := cm.1
  obtain ⟨fd, F⟩ := c.def_ 12 (d := dOf "now_behind" 31) rfl
  exact ⟨⟨_, _, _, _, _, _, fd, N_now_behind, ["rules"], F, He.glo_ok X g (c.fact 12 (f := .glo "now_behind") rfl), sc_now_behind, fun s us hl => FunD.bindsA F (fun _ _ _ _ _ _ us hl => match us, hl with | [_], _ => rfl) s us hl, rfl, rfl, m_now_behind⟩⟩
theorem ok_order_in (X : K.In h) (g : h.Ns mainGlobals mg) (cm : Y.SaysM fa ph fn K) : Y.DefOk (Gk K) mg callsT excT cstT 220 Tx.d_order_in_2 := by
  have c := cm.1
  obtain ⟨fd, F⟩ := c.def_ 13 (d := dOf "order_in" 32) rfl
  exact ⟨⟨_, _, _, _, _, _, fd, N_order_in, ["rules"], F, He.glo_ok X g (c.fact 13 (f := .glo "order_in") rfl), sc_order_in, fun s us hl => FunD.bindsA F (fun _ _ _ _ _ _ us hl => match us, hl with | [_], _ => rfl) s us hl, rfl, rfl, m_order_in⟩⟩
theorem ok_first_order (X : K.In h) (g : h.Ns mainGlobals mg) (cm : Y.SaysM fa ph fn K) : Y.DefOk (Gk K) mg callsT excT cstT 221 Tx.d_first_order_2 := by
  have c := cm.1
  obtain ⟨fd, F⟩ := c.def_ 14 (d := dOf "first_order" 33) rfl
  exact ⟨⟨_, _, _, _, _, _, fd, N_first_order, ["rules"], F, He.glo_ok X g (c.fact 14 (f := .glo "first_order") rfl), sc_first_order, fun s us hl => FunD.bindsA F (fun _ _ _ _ _ _ us hl => match us, hl with | [_], _ => rfl) s us hl, rfl, rfl, m_first_order⟩⟩
theorem ok__law_cup (X : K.In h) (g : h.Ns mainGlobals mg) (cm : Y.SaysM fa ph fn K) : Y.DefOk (Gk K) mg callsT excT cstT 16 Tx.d__law_cup := by
  have c := cm.1
  obtain ⟨fd, F⟩ := c.def_ 15 (d := dOf "_law_cup" 35) rfl
  exact ⟨⟨_, _, _, _, _, _, fd, N__law_cup, ["script"], F, He.glo_ok X g (c.fact 15 (f := .glo "_law_cup") rfl), sc__law_cup, fun s us hl => FunD.bindsA F (fun _ _ _ _ _ _ us hl => match us, hl with | [_], _ => rfl) s us hl, rfl, rfl, m__law_cup⟩⟩
theorem ok__law_roll (X : K.In h) (g : h.Ns mainGlobals mg) (cm : Y.SaysM fa ph fn K) : Y.DefOk (Gk K) mg callsT excT cstT 17 Tx.d__law_roll := by
  have c := cm.1
  obtain ⟨fd, F⟩ := c.def_ 16 (d := dOf "_law_roll" 36) rfl
  exact ⟨⟨_, _, _, _, _, _, fd, N__law_roll, ["cup", "many"], F, He.glo_ok X g (c.fact 16 (f := .glo "_law_roll") rfl), sc__law_roll, fun s us hl => FunD.bindsA F (fun _ _ _ _ _ _ us hl => match us, hl with | [_, _], _ => rfl) s us hl, rfl, rfl, m__law_roll⟩⟩
theorem ok__law_some (X : K.In h) (g : h.Ns mainGlobals mg) (cm : Y.SaysM fa ph fn K) : Y.DefOk (Gk K) mg callsT excT cstT 18 Tx.d__law_some := by
  have c := cm.1
  obtain ⟨fd, F⟩ := c.def_ 17 (d := dOf "_law_some" 37) rfl
  exact ⟨⟨_, _, _, _, _, _, fd, N__law_some, ["cup", "things"], F, He.glo_ok X g (c.fact 17 (f := .glo "_law_some") rfl), sc__law_some, fun s us hl => FunD.bindsA F (fun _ _ _ _ _ _ us hl => match us, hl with | [_, _], _ => rfl) s us hl, rfl, rfl, m__law_some⟩⟩
theorem ok__law_expression (X : K.In h) (g : h.Ns mainGlobals mg) (cm : Y.SaysM fa ph fn K) : Y.DefOk (Gk K) mg callsT excT cstT 87 Tx.d__law_expression := by
  have c := cm.1
  obtain ⟨fd, F⟩ := c.def_ 18 (d := dOf "_law_expression" 38) rfl
  exact ⟨⟨_, _, _, _, _, _, fd, N__law_expression, ["cup", "names", "deep"], F, He.glo_ok X g (c.fact 18 (f := .glo "_law_expression") rfl), sc__law_expression, fun s us hl => FunD.bindsA F (fun _ _ _ _ _ _ us hl => match us, hl with | [_, _, _], _ => rfl) s us hl, rfl, rfl, m__law_expression⟩⟩
theorem ok__law_drawn_test (X : K.In h) (g : h.Ns mainGlobals mg) (cm : Y.SaysM fa ph fn K) : Y.DefOk (Gk K) mg callsT excT cstT 88 Tx.d__law_drawn_test := by
  have c := cm.1
  obtain ⟨fd, F⟩ := c.def_ 19 (d := dOf "_law_drawn_test" 39) rfl
  exact ⟨⟨_, _, _, _, _, _, fd, N__law_drawn_test, ["cup", "names", "deep"], F, He.glo_ok X g (c.fact 19 (f := .glo "_law_drawn_test") rfl), sc__law_drawn_test, fun s us hl => FunD.bindsA F (fun _ _ _ _ _ _ us hl => match us, hl with | [_, _, _], _ => rfl) s us hl, rfl, rfl, m__law_drawn_test⟩⟩
theorem ok__law_rules (X : K.In h) (g : h.Ns mainGlobals mg) (cm : Y.SaysM fa ph fn K) : Y.DefOk (Gk K) mg callsT excT cstT 89 Tx.d__law_rules := by
  have c := cm.1
  obtain ⟨fd, F⟩ := c.def_ 20 (d := dOf "_law_rules" 40) rfl
  exact ⟨⟨_, _, _, _, _, _, fd, N__law_rules, ["cup"], F, He.glo_ok X g (c.fact 20 (f := .glo "_law_rules") rfl), sc__law_rules, fun s us hl => FunD.bindsA F (fun _ _ _ _ _ _ us hl => match us, hl with | [_], _ => rfl) s us hl, rfl, rfl, m__law_rules⟩⟩
theorem ok__law_mentions (X : K.In h) (g : h.Ns mainGlobals mg) (cm : Y.SaysM fa ph fn K) : Y.DefOk (Gk K) mg callsT excT cstT 103 Tx.d__law_mentions := by
  have c := cm.1
  obtain ⟨fd, F⟩ := c.def_ 21 (d := dOf "_law_mentions" 41) rfl
  exact ⟨⟨_, _, _, _, _, _, fd, N__law_mentions, ["expression", "words"], F, He.glo_ok X g (c.fact 21 (f := .glo "_law_mentions") rfl), sc__law_mentions, fun s us hl => FunD.bindsA F (fun _ _ _ _ _ _ us hl => match us, hl with | [_, _], _ => rfl) s us hl, rfl, rfl, m__law_mentions⟩⟩
theorem ok__law_behind (X : K.In h) (g : h.Ns mainGlobals mg) (cm : Y.SaysM fa ph fn K) : Y.DefOk (Gk K) mg callsT excT cstT 216 Tx.d__law_behind := by
  have c := cm.1
  obtain ⟨fd, F⟩ := c.def_ 22 (d := dOf "_law_behind" 42) rfl
  exact ⟨⟨_, _, _, _, _, _, fd, N__law_behind, ["rules"], F, He.glo_ok X g (c.fact 22 (f := .glo "_law_behind") rfl), sc__law_behind, fun s us hl => FunD.bindsA F (fun _ _ _ _ _ _ us hl => match us, hl with | [_], _ => rfl) s us hl, rfl, rfl, m__law_behind⟩⟩
theorem ok__law_paid (X : K.In h) (g : h.Ns mainGlobals mg) (cm : Y.SaysM fa ph fn K) : Y.DefOk (Gk K) mg callsT excT cstT 209 Tx.d__law_paid_3 := by
  have c := cm.1
  obtain ⟨fd, F⟩ := c.def_ 23 (d := dOf "_law_paid" 43) rfl
  exact ⟨⟨_, _, _, _, _, _, fd, N__law_paid, [], F, He.glo_ok X g (c.fact 23 (f := .glo "_law_paid") rfl), sc__law_paid, fun s us hl => FunD.bindsA F (fun _ _ _ _ _ _ us hl => match us, hl with | [], _ => rfl) s us hl, rfl, rfl, m__law_paid⟩⟩
theorem ok__law_first_order (X : K.In h) (g : h.Ns mainGlobals mg) (cm : Y.SaysM fa ph fn K) : Y.DefOk (Gk K) mg callsT excT cstT 222 Tx.d__law_first_order_2 := by
  have c := cm.1
  obtain ⟨fd, F⟩ := c.def_ 24 (d := dOf "_law_first_order" 44) rfl
  exact ⟨⟨_, _, _, _, _, _, fd, N__law_first_order, ["rules"], F, He.glo_ok X g (c.fact 24 (f := .glo "_law_first_order") rfl), sc__law_first_order, fun s us hl => FunD.bindsA F (fun _ _ _ _ _ _ us hl => match us, hl with | [_], _ => rfl) s us hl, rfl, rfl, m__law_first_order⟩⟩
theorem ok_law (X : K.In h) (g : h.Ns mainGlobals mg) (cm : Y.SaysM fa ph fn K) : Y.DefOk (Gk K) mg callsT excT cstT 198 Tx.d_law49 := by
  have c := cm.1
  obtain ⟨fd, F⟩ := c.def_ 25 (d := dOf "law" 45) rfl
  exact ⟨⟨_, _, _, _, _, _, fd, N_law, ["script"], F, He.glo_ok X g (c.fact 25 (f := .glo "law") rfl), sc_law, fun s us hl => FunD.bindsA F (fun _ _ _ _ _ _ us hl => match us, hl with | [_], _ => rfl) s us hl, rfl, rfl, m_law⟩⟩
theorem txok (X : K.In h) (g : h.Ns mainGlobals mg) (cm : Y.SaysM fa ph fn K) : Y.TxOk (Gk K) Tx.tx mg callsT excT cstT where
  con := fun k w c1 e => by
    have c := cm.1
    have e : Tx.conT k = some w := e
    unfold cstT at c1
    split at c1
    · cases e
      obtain ⟨t, m⟩ := He.int_ok X g (c.fact 51 (f := .int "NAME" 8) rfl)
      exact ⟨_, .int 8, m, ⟨t, rfl⟩, fun H ρ => by rw [Y.Rep]⟩
    · cases e
      obtain ⟨t, m⟩ := He.str_ok X g (c.fact 52 (f := .str "LETTERS" "abcdefghijklmnopqrstuvwxyz") rfl)
      exact ⟨_, .str "abcdefghijklmnopqrstuvwxyz", m, ⟨t, rfl⟩, fun H ρ => by rw [Y.Rep]; rfl⟩
    · cases e
      obtain ⟨t, m⟩ := He.int_ok X g (c.fact 53 (f := .int "NUMBER" 999999999) rfl)
      exact ⟨_, .int 999999999, m, ⟨t, rfl⟩, fun H ρ => by rw [Y.Rep]⟩
    · cases e
      obtain ⟨t, m⟩ := He.int_ok X g (c.fact 54 (f := .int "DEEP" 8) rfl)
      exact ⟨_, .int 8, m, ⟨t, rfl⟩, fun H ρ => by rw [Y.Rep]⟩
    · cases e
      obtain ⟨t, m⟩ := He.int_ok X g (c.fact 55 (f := .int "PARTS" 60) rfl)
      exact ⟨_, .int 60, m, ⟨t, rfl⟩, fun H ρ => by rw [Y.Rep]⟩
    · cases e
      obtain ⟨t, m⟩ := He.int_ok X g (c.fact 56 (f := .int "DEFINITIONS" 16) rfl)
      exact ⟨_, .int 16, m, ⟨t, rfl⟩, fun H ρ => by rw [Y.Rep]⟩
    · cases e
      obtain ⟨t, m⟩ := He.int_ok X g (c.fact 57 (f := .int "LIMITS" 4) rfl)
      exact ⟨_, .int 4, m, ⟨t, rfl⟩, fun H ρ => by rw [Y.Rep]⟩
    · cases e
      obtain ⟨t, m⟩ := He.int_ok X g (c.fact 58 (f := .int "RATE" 10000) rfl)
      exact ⟨_, .int 10000, m, ⟨t, rfl⟩, fun H ρ => by rw [Y.Rep]⟩
    · cases e
      obtain ⟨t, m⟩ := He.int_ok X g (c.fact 59 (f := .int "PLAIN" 9) rfl)
      exact ⟨_, .int 9, m, ⟨t, rfl⟩, fun H ρ => by rw [Y.Rep]⟩
    · cases e
      exact ⟨_, .ref (He.ga K "KINDS"), He.glo_ok X g (c.fact 60 (f := .glo "KINDS") rfl), rfl, fun H ρ => Y.tupPh_rep (G := Gk K) (cm.ph 1) (k := 71) (by simp [tupL]) H ρ⟩
    · cases e
      exact ⟨_, .ref (He.ga K "NAMED"), He.glo_ok X g (c.fact 61 (f := .glo "NAMED") rfl), rfl, fun H ρ => Y.tupPh_rep (G := Gk K) (cm.ph 1) (k := 72) (by simp [tupL]) H ρ⟩
    · cases e
      exact ⟨_, .ref (He.ga K "TWO"), He.glo_ok X g (c.fact 62 (f := .glo "TWO") rfl), rfl, fun H ρ => Y.tupPh_rep (G := Gk K) (cm.ph 1) (k := 73) (by simp [tupL]) H ρ⟩
    · cases e
      exact ⟨_, .ref (He.ga K "COMPARED"), He.glo_ok X g (c.fact 63 (f := .glo "COMPARED") rfl), rfl, fun H ρ => Y.tupPh_rep (G := Gk K) (cm.ph 1) (k := 74) (by simp [tupL]) H ρ⟩
    · cases e
      exact ⟨_, .ref (He.ga K "JOINED"), He.glo_ok X g (c.fact 64 (f := .glo "JOINED") rfl), rfl, fun H ρ => Y.tupPh_rep (G := Gk K) (cm.ph 1) (k := 75) (by simp [tupL]) H ρ⟩
    · cases c1
  blt := fun x m => by
    have c := cm.1
    simp only [Y.bltNames, List.mem_cons, List.not_mem_nil, or_false] at m
    rcases m with rfl | rfl | rfl | rfl | rfl | rfl | rfl | rfl | rfl | rfl | rfl | rfl | rfl | rfl | rfl | rfl | rfl | rfl | rfl | rfl | rfl
    · exact He.free_ok X g (c.fact 30 (f := .free "range") rfl)
    · exact He.free_ok X g (c.fact 31 (f := .free "enumerate") rfl)
    · exact He.free_ok X g (c.fact 32 (f := .free "zip") rfl)
    · exact He.free_ok X g (c.fact 33 (f := .free "isinstance") rfl)
    · exact He.free_ok X g (c.fact 34 (f := .free "len") rfl)
    · exact He.free_ok X g (c.fact 35 (f := .free "sum") rfl)
    · exact He.free_ok X g (c.fact 36 (f := .free "max") rfl)
    · exact He.free_ok X g (c.fact 37 (f := .free "min") rfl)
    · exact He.free_ok X g (c.fact 38 (f := .free "abs") rfl)
    · exact He.free_ok X g (c.fact 39 (f := .free "int") rfl)
    · exact He.free_ok X g (c.fact 40 (f := .free "list") rfl)
    · exact He.free_ok X g (c.fact 41 (f := .free "tuple") rfl)
    · exact He.free_ok X g (c.fact 42 (f := .free "all") rfl)
    · exact He.free_ok X g (c.fact 43 (f := .free "any") rfl)
    · exact He.free_ok X g (c.fact 44 (f := .free "repr") rfl)
    · exact He.free_ok X g (c.fact 45 (f := .free "str") rfl)
    · exact He.free_ok X g (c.fact 46 (f := .free "bool") rfl)
    · exact He.free_ok X g (c.fact 47 (f := .free "dict") rfl)
    · exact He.free_ok X g (c.fact 48 (f := .free "sorted") rfl)
    · exact He.free_ok X g (c.fact 49 (f := .free "set") rfl)
    · exact He.free_ok X g (c.fact 50 (f := .free "ValueError") rfl)
  defs := fun k e => by
    unfold callsT at e
    split at e
    · exact ⟨Tx.d_is_whole, rfl, ok_is_whole X g cm⟩
    · exact ⟨Tx.d_is_tuple_of, rfl, ok_is_tuple_of X g cm⟩
    · exact ⟨Tx.d_is_name, rfl, ok_is_name X g cm⟩
    · exact ⟨Tx.d_fits_bands, rfl, ok_fits_bands X g cm⟩
    · exact ⟨Tx.d_inner_of, rfl, ok_inner_of X g cm⟩
    · exact ⟨Tx.d_fits_expression, rfl, ok_fits_expression X g cm⟩
    · exact ⟨Tx.d_parts_of, rfl, ok_parts_of X g cm⟩
    · exact ⟨Tx.d_mentioned, rfl, ok_mentioned X g cm⟩
    · exact ⟨Tx.d_fits_definition, rfl, ok_fits_definition X g cm⟩
    · exact ⟨Tx.d_in_order, rfl, ok_in_order X g cm⟩
    · exact ⟨Tx.d_fits_rules, rfl, ok_fits_rules X g cm⟩
    · exact ⟨Tx.d_need_rules, rfl, ok_need_rules X g cm⟩
    · exact ⟨Tx.d_now_behind, rfl, ok_now_behind X g cm⟩
    · exact ⟨Tx.d_order_in_2, rfl, ok_order_in X g cm⟩
    · exact ⟨Tx.d_first_order_2, rfl, ok_first_order X g cm⟩
    · exact ⟨Tx.d__law_cup, rfl, ok__law_cup X g cm⟩
    · exact ⟨Tx.d__law_roll, rfl, ok__law_roll X g cm⟩
    · exact ⟨Tx.d__law_some, rfl, ok__law_some X g cm⟩
    · exact ⟨Tx.d__law_expression, rfl, ok__law_expression X g cm⟩
    · exact ⟨Tx.d__law_drawn_test, rfl, ok__law_drawn_test X g cm⟩
    · exact ⟨Tx.d__law_rules, rfl, ok__law_rules X g cm⟩
    · exact ⟨Tx.d__law_mentions, rfl, ok__law_mentions X g cm⟩
    · exact ⟨Tx.d__law_behind, rfl, ok__law_behind X g cm⟩
    · exact ⟨Tx.d__law_paid_3, rfl, ok__law_paid X g cm⟩
    · exact ⟨Tx.d__law_first_order_2, rfl, ok__law_first_order X g cm⟩
    · exact ⟨Tx.d_law49, rfl, ok_law X g cm⟩
    · cases e
  exs := fun k e => by
    have c := cm.1
    have m : k ∈ excL := by simpa using e
    simp only [excL, List.mem_cons, List.not_mem_nil, or_false] at m
    rcases m with rfl | rfl
    · exact ⟨He.glo_ok X g (c.fact 26 (f := .glo "PayError") rfl), He.exc_ok (c.fact 27 (f := .exc "PayError") rfl)⟩
    · exact ⟨He.glo_ok X g (c.fact 28 (f := .glo "InvalidRules") rfl), He.exc_ok (c.fact 29 (f := .exc "InvalidRules") rfl)⟩
  exx := fun k e => e
  exm := Y.excM_of (cm.ph 0)
end
/-- the end: what the text of mine comes to is all that is wanted -/
theorem end_ (hv : ∀ ns : List Int, ns.length ≤ 63 → (∀ z ∈ ns, Builtin.Int.intBits z ≤ 1048576) → ∃ h', Y.run Tx.tx 20 198 [.lst (ns.map Y.W.int)] [] = .ok (.bl true) h') {w : World} {mg : Str → Option Value} {fa0 : Addr} {h : Heap} (Yy : hk.says w h) (g : h.Ns mainGlobals mg) (hm : mg "law" = some (.ref fa0)) :
    ∃ (G : Y.Gx) (fd : FuncData) (F : List Y.W → Y.WH → Y.R Y.W) (x : Str), G.K.In h ∧ (∀ (s : Shared) (u : Value), BindsTo s fd ⟨[u], []⟩ [(x, u)]) ∧
        (∀ ns : List Int, ns.length ≤ 63 → (∀ z ∈ ns, Builtin.Int.intBits z ≤ 1048576) → ∃ h', F [.lst (ns.map Y.W.int)] [] = .ok (.bl true) h') ∧
        ∀ base : Heap, G.K.In base → base.Ns mainGlobals mg → Y.FnW Rw.prog w G.K mg base 20 fa0 fd [x] (Y.spW G F) := by
  obtain ⟨K, X, c⟩ := Yy
  have cm := c
  have c := cm.1
  obtain ⟨fd, F⟩ := c.def_ 25 (d := dOf "law" 45) rfl
  refine ⟨Gk K, fd, Y.run Tx.tx 20 198, "script", X, fun s u => FunD.bindsA (ps := ["script"]) F (fun _ _ _ _ _ _ us hl => match us, hl with | [_], _ => rfl) s [u] rfl, hv, fun base _ _ => ?_⟩
  have e : mg "law" = some (.ref (He.fAd K ("law", none))) := He.glo_ok X g (c.fact 25 (f := .glo "law") rfl)
  have e2 : fa0 = He.fAd K ("law", none) := by
    have q := hm.symm.trans e
    cases q
    rfl
  rw [e2]
  exact Y.one_fn (G := Gk K) rfl (txok X g cm) (d := Tx.d_law49) rfl (Y.all_fns (G := Gk K) rfl (txok X g cm) 19) F sc_law rfl rfl m_law
end B49
section
open PySem PySem.W PySem.Calls PyProof.Rows
theorem fin_ (hv : ∀ ns : List Int, ns.length ≤ 63 → (∀ z ∈ ns, Builtin.Int.intBits z ≤ 1048576) → ∃ h', Y.run Tx.tx 20 198 [.lst (ns.map Y.W.int)] [] = .ok (.bl true) h') : PySem.Challenge.rw_payhouse_k49_whole_first_orders.Holds := by
  w_on; o_law
  refine HandSHeadRun.head_any (r := OpenLaw.row PySem.Challenge.rw_payhouse_k49_whole_first_orders) (q := view (OpenLaw.row PySem.Challenge.rw_payhouse_k49_whole_first_orders).prog [45]) (H := B49.hk) (ob := B49.ob) (M := 20000) (loose := B49.nms) (d := HandSHeadRun.topDef (OpenLaw.row PySem.Challenge.rw_payhouse_k49_whole_first_orders).prog 45) (kwd := []) B49.ob_eq
    (by kernel_rfl) (fun s => by kernel_rfl) B49.hrun (by kernel_rfl) (by kernel_rfl) (by kernel_rfl) (by rfl) (by first | assumption | decide +kernel) (by decide +kernel) ⟨rfl, rfl, rfl, rfl, rfl, by decide +kernel⟩ ?hw ?hc
  case hw => w_witness2
  case hc =>
    refine Y.walk_mine (l := PySem.Challenge.rw_payhouse_k49_whole_first_orders) (lvl := 20) rfl (by kernel_rfl) ⟨rfl, by decide, by decide⟩ ?F
    intro w mg fa h Yy G hmg0
    have hmg : mg ("law" : PySem.Str) = some (.ref fa) := by
      have e : (HandSHeadRun.topDef (OpenLaw.row PySem.Challenge.rw_payhouse_k49_whole_first_orders).prog 45).name = ("law" : PySem.Str) := by kernel_rfl
      rw [← e]
      exact hmg0
    exact B49.end_ hv Yy G hmg
end

theorem PySem.Challenge.cw_payhouse_k49_whole_first_orders_holds : PySem.Challenge.rw_payhouse_k49_whole_first_orders.Holds :=
  fin_ fun ns h1 h2 => K49.law_true ns h1 h2
