import PyProof.Rows.All
import HandS.ForMost
import HandS.Head0
import HandS.Head1
import HandS.Head2
import HandS.HeadEnd
import HandS.HeadHook1
import HandS.HeadHook2
import HandS.HeadHook3
import HandS.HeadHook4
import HandS.EndTab
import HandS.Wide
import HandS.IsInst
import HandS.TryMany
import HandS.Lambda
import HandS.Style
import HandS.Flow
import HandS.TupMul
import HandS.More
import HandS.Strs
import HandS.SetFor
import HandS.SortInts
import HandS.Zip
import HandS.Deep
import HandS.RaiseMore
import HandS.WordsDict
import HandS.ExcOwn
import HandS.Small
import HandS.HeadWalk
import PySem.Challenge.RW_chainledger_k41_reasons_that_bar
set_option Elab.async false
set_option linter.all false
set_option maxRecDepth 100000
set_option maxHeartbeats 4000000
/-! DL1: data, the small language, its evaluator. -/
namespace DL

/-- data -/
inductive D where
  | non | bl (b : Bool) | int (i : Int) | str (s : List Nat) | tup (xs : List D) | lst (xs : List D)
  | dic (ks vs : List D) | set (xs : List D) | fn (f : Nat) | frz (xs : List D)
  deriving Inhabited

mutual
def D.beq : D → D → Bool
  | .non, .non => true
  | .bl a, .bl b => a == b
  | .bl a, .int j => (if a then 1 else 0) == j
  | .int i, .bl b => i == (if b then 1 else 0)
  | .int i, .int j => i == j
  | .str x, .str y => x == y
  | .tup xs, .tup ys => D.beqs xs ys
  | .lst xs, .lst ys => D.beqs xs ys
  | _, _ => false
def D.beqs : List D → List D → Bool
  | [], [] => true
  | x :: xs, y :: ys => D.beq x y && D.beqs xs ys
  | _, _ => false
end
mutual
/-- no dict, set, function within: what == can compare -/
def D.flat : D → Bool
  | .dic _ _ => false | .set _ => false | .fn _ => false | .frz _ => false
  | .tup xs => D.flats xs
  | .lst xs => D.flats xs
  | _ => true
def D.flats : List D → Bool
  | [] => true
  | x :: xs => D.flat x && D.flats xs
end
mutual
def D.dep : D → Nat
  | .tup xs => D.deps xs + 1
  | .lst xs => D.deps xs + 1
  | _ => 0
def D.deps : List D → Nat
  | [] => 0
  | x :: xs => max (D.dep x) (D.deps xs)
end
/-- == of two values, where it is told -/
def D.eqv (x y : D) : Option Bool := if x.flat && y.flat && decide (min x.dep y.dep ≤ 64) then some (D.beq x y) else none

mutual
def D.same : D → D → Bool
  | .non, .non => true
  | .bl a, .bl b => a == b
  | .int i, .int j => decide (i = j)
  | .str x, .str y => decide (x = y)
  | .tup xs, .tup ys => D.sames xs ys
  | .lst xs, .lst ys => D.sames xs ys
  | .dic ks vs, .dic ls ws => D.sames ks ls && D.sames vs ws
  | .set xs, .set ys => D.sames xs ys
  | .fn f, .fn g => decide (f = g)
  | .frz xs, .frz ys => D.sames xs ys
  | _, _ => false
def D.sames : List D → List D → Bool
  | [], [] => true
  | x :: xs, y :: ys => D.same x y && D.sames xs ys
  | _, _ => false
end
mutual
theorem D.same_eq : ∀ d e : D, D.same d e = true → d = e
  | .non, e, h => by cases e <;> first | rfl | (simp [D.same] at h)
  | .bl a, e, h => by cases e <;> first | (simp [D.same] at h; done) | skip
                      rw [show a = _ by simpa [D.same] using h]
  | .int a, e, h => by cases e <;> first | (simp [D.same] at h; done) | skip
                       rw [show a = _ by simpa [D.same] using h]
  | .str a, e, h => by cases e <;> first | (simp [D.same] at h; done) | skip
                       rw [show a = _ by simpa [D.same] using h]
  | .fn a, e, h => by cases e <;> first | (simp [D.same] at h; done) | skip
                      rw [show a = _ by simpa [D.same] using h]
  | .tup xs, e, h => by cases e <;> first | (simp [D.same] at h; done) | skip
                        rw [D.sames_eq xs _ (by simpa [D.same] using h)]
  | .lst xs, e, h => by cases e <;> first | (simp [D.same] at h; done) | skip
                        rw [D.sames_eq xs _ (by simpa [D.same] using h)]
  | .set xs, e, h => by cases e <;> first | (simp [D.same] at h; done) | skip
                        rw [D.sames_eq xs _ (by simpa [D.same] using h)]
  | .frz xs, e, h => by cases e <;> first | (simp [D.same] at h; done) | skip
                        rw [D.sames_eq xs _ (by simpa [D.same] using h)]
  | .dic ks vs, e, h => by
    cases e <;> first | (simp [D.same] at h; done) | skip
    have h' := Bool.and_eq_true_iff.mp (by simpa only [D.same] using h)
    rw [D.sames_eq ks _ h'.1, D.sames_eq vs _ h'.2]
theorem D.sames_eq : ∀ d e : List D, D.sames d e = true → d = e
  | [], e, h => by cases e <;> first | rfl | (simp [D.sames] at h)
  | d :: ds, e, h => by
    cases e <;> first | (simp [D.sames] at h; done) | skip
    have h' := Bool.and_eq_true_iff.mp (by simpa only [D.sames] using h)
    rw [D.same_eq d _ h'.1, D.sames_eq ds _ h'.2]
end

structure Ex where
  cls : Nat
  arg : Option D

inductive Rs (α : Type) where
  | ok (a : α) | exc (x : Ex) | bad
def Rs.bind {α β : Type} : Rs α → (α → Rs β) → Rs β
  | .ok a, f => f a
  | .exc x, _ => .exc x
  | .bad, _ => .bad
@[simp] theorem Rs.bind_ok {α β : Type} (a : α) (f : α → Rs β) : (Rs.ok a).bind f = f a := rfl
@[simp] theorem Rs.bind_exc {α β : Type} (x : Ex) (f : α → Rs β) : (Rs.exc x : Rs α).bind f = .exc x := rfl
@[simp] theorem Rs.bind_bad {α β : Type} (f : α → Rs β) : (Rs.bad : Rs α).bind f = .bad := rfl
def Rs.opt {α : Type} : Option α → Rs α
  | some a => .ok a
  | none => .bad
@[simp] theorem Rs.opt_some {α : Type} (a : α) : Rs.opt (some a) = .ok a := rfl
@[simp] theorem Rs.opt_none {α : Type} : (Rs.opt none : Rs α) = .bad := rfl

/-- a slot: without a value, a value that stays as it is, an own one that may change, a lent one that may change -/
inductive Sl where
  | no | val (d : D) | own (d : D) | lnt (d : D)
abbrev En := List Sl

inductive Op where
  | add | sub | mul | fdiv | mod | pow | shl | shr | band | bor | bxor
  deriving DecidableEq
inductive Cm where
  | eq | ne | lt | le | gt | ge | is | isNot | isIn | notIn
  deriving DecidableEq
inductive Ty where
  | int | bool | str | tuple | list | dict
  deriving DecidableEq
inductive Bi where
  | len | abs | int | all | any | sum | min | max | sorted | tuple | list | set | dict | str | repr
  deriving DecidableEq
inductive Me where
  | get | index | join | isdigit | isalpha | lower | rstrip
  deriving DecidableEq
/-- what is done with a written dict -/
inductive Kop where
  | sub | isIn | notIn | index
  deriving DecidableEq
/-- sets that are used at once -/
inductive So where
  | sorted | len
  deriving DecidableEq
inductive Tg where
  | n (i : Nat) | t (is : List Nat)
  deriving DecidableEq

mutual
inductive E where
  | c (d : D) | v (i : Nat)
  | tup (es : Es) | lst (es : Es) | dic (ks : List D) (vs : Es) | kd (o : Kop) (ks vs : List D) (a : E) | kget (ks vs : List D) (as : Es) | so (o : So) (a : E)
  | bin (o : Op) (a b : E) | neg (a : E)
  | cmp (o : Cm) (a b : E) | chain (o p : Cm) (a b c : E)
  | and (a b : E) | or (a b : E) | not (a : E) | ite (c a b : E)
  | sub (a b : E) | slice (a : E) (lo hi : Es) | rev (a : E)
  | call (f : Nat) (as : As) | callv (i : Nat) (as : As)
  | bi (b : Bi) (as : Es) | meth (m : Me) (a : E) (as : Es) | isi (a : E) (t : Ty)
  | comp (e : E) (t : Tg) (it : I) (cs : Es) (vs : List Nat)
  | lamc (f : Nat) (b : E)
inductive Es where
  | nil | cons (e : E) (es : Es)
inductive As where
  | nil | val (e : E) (as : As) | lend (i : Nat) (as : As)
inductive I where
  | it (e : E) | range1 (a : E) | range2 (a b : E) | enum (a : E) | zip (as : Es) | rev (a : E)
end

def Es.len : Es → Nat
  | .nil => 0
  | .cons _ es => es.len + 1

mutual
/-- nothing own changes while it is reckoned -/
def E.quiet : E → Bool
  | .c _ => true | .v _ => true
  | .tup es => es.quiet | .lst es => es.quiet
  | .bin _ a b => a.quiet && b.quiet
  | .neg a => a.quiet
  | .cmp _ a b => a.quiet && b.quiet
  | .sub a b => a.quiet && b.quiet
  | .slice a lo hi => a.quiet && (lo.quiet && hi.quiet)
  | .bi _ as => as.quiet
  | .kd _ _ _ a => a.quiet
  | .kget _ _ as => as.quiet
  | .so _ a => a.quiet
  | _ => false
def Es.quiet : Es → Bool
  | .nil => true
  | .cons e es => e.quiet && es.quiet
end

/-! ### dicts -/
def keyB : D → Bool
  | .int _ => true
  | .str s => s.all (· < 0x110000)
  | _ => false
def dGet : List D → List D → D → Option D
  | k :: ks, v :: vs, x => if D.same k x then some v else dGet ks vs x
  | _, _, _ => none
def dHas (ks : List D) (x : D) : Bool := ks.any fun k => D.same k x
def dSet : List D → List D → D → D → List D
  | k :: ks, v :: vs, x, y => (if D.same k x then y else v) :: dSet ks vs x y
  | _, _, _, _ => []
def dPut (p : List D × List D) (x y : D) : List D × List D := if dHas p.1 x then (p.1, dSet p.1 p.2 x y) else (p.1 ++ [x], p.2 ++ [y])
def ndB : List D → Bool
  | [] => true
  | k :: ks => !dHas ks k && ndB ks
def prB : D → Bool
  | .tup [k, _] => keyB k
  | _ => false
def prK : D → D
  | .tup (k :: _) => k
  | _ => .non
def prV : D → D
  | .tup [_, v] => v
  | _ => .non
/-- dict(pairs) -/
def dOf (ps : List D) : List D × List D := ps.foldl (fun a p => dPut a (prK p) (prV p)) ([], [])
/-- the last pair with a key -/
def pGet (ps : List D) (x : D) : Option D := (ps.reverse.find? fun p => D.same (prK p) x).map prV
/-! ### sorted -/
def insI (x : Int) : List Int → List Int
  | [] => [x]
  | y :: ys => if x ≤ y then x :: y :: ys else y :: insI x ys
def sortI (l : List Int) : List Int := l.foldr insI []
/-- without doubles -/
def insU (x : Int) : List Int → List Int
  | [] => [x]
  | y :: ys => if x < y then x :: y :: ys else if x = y then y :: ys else y :: insU x ys
def sortU (l : List Int) : List Int := l.foldr insU []
def fstI : D → Int
  | .tup (.int i :: _) => i
  | _ => 0
def pairI : D → Bool
  | .tup [.int _, _] => true
  | _ => false
def insP (x : D) : List D → List D
  | [] => [x]
  | y :: ys => if fstI x < fstI y then x :: y :: ys else y :: insP x ys
def sortP (l : List D) : List D := l.foldr insP []
def sortPB (l : List D) : Bool := l.all pairI && decide ((l.map fstI).Nodup)
def asStrs : List D → Option (List (List Nat))
  | [] => some []
  | .str s :: r => (asStrs r).map (s :: ·)
  | _ => none
/-! ### operations, -/
def sizeL : Nat := 16777216
def wideB : Nat := 20000
def mulOk (i j : Int) : Bool := (decide (-(2 ^ 64) < i) && decide (i < 2 ^ 64)) || (decide (-(2 ^ 64) < j) && decide (j < 2 ^ 64)) || (decide (i.natAbs < 2 ^ 9000) && decide (j.natAbs < 2 ^ 9000))
def fdivOk (j : Int) : Bool := (decide (j ≠ 0) && decide (j.natAbs < 1073741824)) || (decide (0 < j) && decide (j.natAbs < 2 ^ 9000))

def opD : Op → D → D → Option (Bool × D)
  | .add, .int i, .int j => some (false, .int (i + j))
  | .add, .lst xs, .lst ys => if xs.length + ys.length ≤ sizeL then some (true, .lst (xs ++ ys)) else none
  | .add, .tup xs, .tup ys => if xs.length + ys.length ≤ sizeL then some (false, .tup (xs ++ ys)) else none
  | .add, .str x, .str y => if x.length + y.length ≤ sizeL then some (false, .str (x ++ y)) else none
  | .sub, .int i, .int j => some (false, .int (i - j))
  | .mul, .int i, .int j => if mulOk i j then some (false, .int (i * j)) else none
  | .mul, .lst xs, .int k => if xs.length * k.toNat ≤ sizeL ∧ -(2 ^ 63) ≤ k ∧ k < 2 ^ 63 then some (true, .lst (List.replicate k.toNat xs).flatten) else none
  | .mul, .tup xs, .int k => if xs.isEmpty = false ∧ 2 ≤ k ∧ k ≤ 16777216 ∧ xs.length * k.toNat ≤ sizeL then some (false, .tup (List.replicate k.toNat xs).flatten) else none
  | .fdiv, .int i, .int j => if fdivOk j then some (false, .int (i.fdiv j)) else none
  | .mod, .int i, .int j => if j ≠ 0 then some (false, .int (i.fmod j)) else none
  | .pow, .int i, .int j => if 0 ≤ j ∧ j ≤ 1000000 ∧ i.natAbs < 2 ^ 64 then some (false, .int (i ^ j.toNat)) else none
  | .shl, .int i, .int j => if 0 ≤ j ∧ j ≤ 1000000 ∧ i.natAbs < 2 ^ 64 then some (false, .int (i * 2 ^ j.toNat)) else none
  | .shr, .int i, .int j => if 0 ≤ j then some (false, .int (i / 2 ^ j.toNat)) else none
  | .band, .int i, .int j => some (false, .int (PySem.Builtin.bitAnd i j))
  | .bor, .int i, .int j => some (false, .int (PySem.Builtin.bitOr i j))
  | .bxor, .int i, .int j => some (false, .int (PySem.Builtin.bitXor i j))
  | _, _, _ => none

def D.inL (x : D) (ys : List D) : Option Bool := if x.flat && D.flats ys && decide (min (D.deps ys) x.dep ≤ 64) then some (ys.any fun y => D.beq y x) else none
def cmD : Cm → D → D → Option Bool
  | .eq, x, y => D.eqv x y
  | .ne, x, y => (D.eqv x y).map (!·)
  | .lt, .int i, .int j => some (decide (i < j))
  | .le, .int i, .int j => some (decide (i ≤ j))
  | .gt, .int i, .int j => some (decide (j < i))
  | .ge, .int i, .int j => some (decide (j ≤ i))
  | .is, .non, .non => some true
  | .is, .bl _, .non => some false
  | .is, .int _, .non => some false
  | .is, .str _, .non => some false
  | .is, .tup _, .non => some false
  | .is, .lst _, .non => some false
  | .is, .bl a, .bl b => some (a == b)
  | .isNot, .non, .non => some false
  | .isNot, .bl _, .non => some true
  | .isNot, .int _, .non => some true
  | .isNot, .str _, .non => some true
  | .isNot, .tup _, .non => some true
  | .isNot, .lst _, .non => some true
  | .isNot, .bl a, .bl b => some (!(a == b))
  | .isIn, x, .tup ys => D.inL x ys
  | .isIn, x, .lst ys => D.inL x ys
  | .notIn, x, .tup ys => (D.inL x ys).map (!·)
  | .notIn, x, .lst ys => (D.inL x ys).map (!·)
  | .isIn, x, .dic ks _ => if keyB x then some (dHas ks x) else none
  | .notIn, x, .dic ks _ => if keyB x then some (!dHas ks x) else none
  | _, _, _ => none

def idx {α : Type} (xs : List α) (i : Int) : Option α := if 0 ≤ i then xs[i.toNat]? else if -(xs.length : Int) ≤ i then xs[(i + xs.length).toNat]? else none
def subD : D → D → Option D
  | .tup xs, .int i => idx xs i
  | .lst xs, .int i => idx xs i
  | .dic ks vs, x => if keyB x then dGet ks vs x else none
  | _, _ => none
def cutIx (n d : Nat) : Option Int → Nat
  | none => d
  | some v => if v < 0 then (v + n).toNat else min v.toNat n
def cut {α : Type} (xs : List α) (lo hi : Option Int) : List α := (xs.drop (cutIx xs.length 0 lo)).take (cutIx xs.length xs.length hi - cutIx xs.length 0 lo)
def sliceD (lo hi : Option Int) : D → Option (Bool × D)
  | .tup xs => some (false, .tup (cut xs lo hi))
  | .lst xs => some (true, .lst (cut xs lo hi))
  | _ => none
def revD : D → Option (Bool × D)
  | .lst xs => some (true, .lst xs.reverse)
  | _ => none
def isiD : Ty → D → Option Bool
  | .int, .int _ => some true
  | .int, .bl _ => some true
  | .int, .non => some false | .int, .str _ => some false | .int, .tup _ => some false | .int, .lst _ => some false
  | .bool, .bl _ => some true
  | .bool, .int _ => some false | .bool, .non => some false | .bool, .str _ => some false | .bool, .tup _ => some false | .bool, .lst _ => some false
  | .str, .str _ => some true
  | .str, .int _ => some false | .str, .non => some false | .str, .bl _ => some false | .str, .tup _ => some false | .str, .lst _ => some false
  | .tuple, .tup _ => some true
  | .tuple, .int _ => some false | .tuple, .non => some false | .tuple, .bl _ => some false | .tuple, .str _ => some false | .tuple, .lst _ => some false
  | .list, .lst _ => some true
  | .list, .int _ => some false | .list, .non => some false | .list, .bl _ => some false | .list, .str _ => some false | .list, .tup _ => some false
  | _, _ => none

def D.asInts : List D → Option (List Int)
  | [] => some []
  | .int i :: r => (D.asInts r).map (i :: ·)
  | _ :: _ => none
def D.asBls : List D → Option (List Bool)
  | [] => some []
  | .bl i :: r => (D.asBls r).map (i :: ·)
  | _ :: _ => none
def D.items : D → Option (List D)
  | .tup xs => some xs
  | .lst xs => some xs
  | _ => none
def minI : Int → List Int → Int
  | m, [] => m
  | m, x :: r => minI (if x < m then x else m) r
def maxI : Int → List Int → Int
  | m, [] => m
  | m, x :: r => maxI (if m < x then x else m) r

/-- the text of an int -/
def reprI (i : Int) : List Nat := (toString i).toList.map Char.toNat
def biD : Bi → List D → Option (Bool × D)
  | .len, [.tup xs] => some (false, .int xs.length)
  | .len, [.lst xs] => some (false, .int xs.length)
  | .abs, [.int i] => some (false, .int (if i < 0 then -i else i))
  | .int, [.int i] => some (false, .int i)
  | .int, [.bl b] => some (false, .int (if b then 1 else 0))
  | .all, [.lst xs] => (D.asBls xs).map fun bs => (false, .bl (bs.all id))
  | .any, [.lst xs] => (D.asBls xs).map fun bs => (false, .bl (bs.any id))
  | .sum, [.lst xs] => (D.asInts xs).map fun ns => (false, .int ns.sum)
  | .max, [.int i, .int j] => some (false, .int (if j > i then j else i))
  | .min, [.int i, .int j] => some (false, .int (if j < i then j else i))
  | .tuple, [.tup xs] => some (false, .tup xs)
  | .tuple, [.lst xs] => some (false, .tup xs)
  | .list, [.tup xs] => some (true, .lst xs)
  | .list, [.lst xs] => some (true, .lst xs)
  | .list, [.frz xs] => some (true, .lst xs)
  | .len, [.dic ks _] => some (false, .int ks.length)
  | .len, [.str s] => if s.length ≤ sizeL then some (false, .int s.length) else none
  | .list, [.dic ks _] => some (true, .lst ks)
  | .repr, [.int i] => if i.natAbs.log2 < 1920 then some (false, .str (reprI i)) else none
  | .repr, [.non] => some (false, .str [78, 111, 110, 101])
  | .dict, [.lst ps] => if ps.all prB then some (true, .dic (dOf ps).1 (dOf ps).2) else none
  | .sorted, [.lst xs] => match D.asInts xs with
    | some ns => some (true, .lst ((sortI ns).map D.int))
    | none => if sortPB xs then some (true, .lst (sortP xs)) else none
  | .sorted, [.dic ks _] => match D.asInts ks with
    | some ns => if ns.length < 64 then some (true, .lst ((sortI ns).map D.int)) else none
    | none => none
  | _, _ => none
def ixD (x : D) : List D → Nat → Option Nat
  | [], _ => none
  | y :: ys, n => if D.beq y x then some n else ixD x ys (n + 1)
def meD : Me → D → List D → Option (Bool × D)
  | .get, .dic ks vs, [x, d] => if keyB x then some (false, (dGet ks vs x).getD d) else none
  | .get, .dic ks vs, [x] => if keyB x then some (false, (dGet ks vs x).getD .non) else none
  | .index, .lst xs, [x] => if x.flat && D.flats xs && decide (D.deps xs ≤ 60) && decide (x.dep ≤ 60) then (ixD x xs 0).map fun n : Nat => (false, .int (n : Int)) else none
  | _, _, _ => none
def meOk : Me → D → Bool
  | .get, .dic _ _ => true
  | .index, .lst _ => true
  | _, _ => false
def kdD (o : Kop) (ks vs : List D) : D → Option (Bool × D)
  | .str x => match o with
    | .sub => (dGet ks vs (.str x)).map fun d => (false, d)
    | .isIn => some (false, .bl (dHas ks (.str x)))
    | .notIn => some (false, .bl (!dHas ks (.str x)))
    | .index => match asStrs ks with
      | some ys => if x ∈ ys then some (false, .int (ys.idxOf x)) else none
      | none => none
  | _ => none
def kgetD (ks vs : List D) : List D → Option D
  | [.str x, d] => some ((dGet ks vs (.str x)).getD d)
  | _ => none
def soD (o : So) : D → Option (Bool × D)
  | .lst xs => match D.asInts xs with
    | some ns => if ns.length < 64 then (match o with | .sorted => some (true, .lst ((sortU ns).map D.int)) | .len => some (false, .int (sortU ns).length)) else none
    | none => none
  | _ => none

def cmF (o : Cm) (x y : D) : Option (Bool × D) := (cmD o x y).map fun z => (false, .bl z)
def subF (x y : D) : Option (Bool × D) := (subD x y).map fun z => (false, z)
def isiF (t : Ty) (x : D) : Option (Bool × D) := (isiD t x).map fun z => (false, .bl z)

/-! ### the evaluator -/
def getS (ε : En) (i : Nat) : Sl := ε.getD i .no
/-- a slot is given a value -/
def putS (ε : En) (i : Nat) (o : Bool) (d : D) : Rs En :=
  match ε[i]? with
  | none => .bad
  | some (.lnt _) => .bad
  | some _ => .ok (ε.set i (if o then .own d else .val d))
def wipeE (ε : En) : List Nat → En
  | [] => ε
  | v :: vs => (wipeE ε vs).set v .no
/-- the slots vs as they are in the first one -/
def backE (ε₀ ε : En) : List Nat → En
  | [] => ε
  | v :: vs => (backE ε₀ ε vs).set v (ε₀.getD v .no)
def bindNs (ε : En) : List Nat → List D → Rs En
  | [], [] => .ok ε
  | i :: is, d :: ds => (putS ε i false d).bind fun ε' => bindNs ε' is ds
  | _, _ => .bad
def bindT (ε : En) (t : Tg) (d : D) : Rs En :=
  match t with
  | .n i => putS ε i false d
  | .t is => match d with
    | .tup ds => bindNs ε is ds
    | _ => .bad
/-- a look at a slot that leaves it as it is -/
def pk (e : E) (ε : En) (r : Rs (Bool × D × En)) : Rs (Bool × D × En) :=
  match e with
  | .v i => match ε[i]? with
    | some (.val d) => .ok (false, d, ε)
    | some (.own d) => .ok (false, d, ε)
    | some (.lnt d) => .ok (false, d, ε)
    | _ => .bad
  | _ => r
def lk (e b : E) (ε : En) (r : Rs (Bool × D × En)) : Rs (Bool × D × En) := if b.quiet then pk e ε r else r

def hideE (ε : En) : En := ε.map fun s => match s with | .own _ => .no | .lnt _ => .no | s => s
inductive Arg where
  | val (d : D) | lent (d : D)
def As.lends : As → List Nat
  | .nil => []
  | .val _ as => as.lends
  | .lend i as => i :: as.lends
/-- the arguments: what is lent is read behind all -/
def mkAs (ε : En) : As → List D → Option (List Arg)
  | .nil, [] => some []
  | .val _ as, d :: ds => (mkAs ε as ds).map (.val d :: ·)
  | .lend i as, ds => if as.lends.contains i then none else match ε[i]? with
    | some (.own d) => (mkAs ε as ds).map (.lent d :: ·)
    | some (.lnt d) => (mkAs ε as ds).map (.lent d :: ·)
    | _ => none
  | _, _ => none
/-- behind a call: what was lent as it is now -/
def backAs (ε : En) : As → List D → Option En
  | .nil, [] => some ε
  | .val _ as, ds => backAs ε as ds
  | .lend i as, d :: ds => match ε[i]? with
    | some (.own _) => backAs (ε.set i (.own d)) as ds
    | some (.lnt _) => backAs (ε.set i (.lnt d)) as ds
    | _ => none
  | _, _ => none
/-- a comprehension's turns -/
def compL (turn : D → En → Rs (Option D × En)) : List D → En → Rs (List D × En)
  | [], ε => .ok ([], ε)
  | x :: xs, ε => (turn x ε).bind fun (r, ε1) => (compL turn xs ε1).bind fun (ds, ε2) => .ok (match r with | some d => d :: ds | none => ds, ε2)

def optI : List D → Option (Option Int)
  | [] => some none
  | [.int i] => some (some i)
  | _ => none
def enumD : Nat → List D → List D
  | _, [] => []
  | i, d :: ds => .tup [.int (i : Int), d] :: enumD (i + 1) ds
def zipD (xs ys : List D) : List D := xs.zipWith (fun d e => .tup [d, e]) ys
def rangeD (a b : Int) : List D := (List.range (b - a).toNat).map fun i : Nat => D.int (a + (i : Int))

section
variable (call : Nat → List Arg → Rs (Bool × D × List D)) (hand : Nat → Rs D → Rs D)
mutual
def evE : E → En → Rs (Bool × D × En)
  | .c d, ε => .ok (false, d, ε)
  | .v i, ε => match ε[i]? with
    | some (.val d) => .ok (false, d, ε)
    | some (.own d) => .ok (false, d, ε.set i (.val d))
    | _ => .bad
  | .tup es, ε => (evEs es ε).bind fun (ds, ε1) => .ok (false, .tup ds, ε1)
  | .lst es, ε => (evEs es ε).bind fun (ds, ε1) => .ok (true, .lst ds, ε1)
  | .dic ks vs, ε => (evEs vs ε).bind fun (ds, ε1) => if ks.all keyB && ndB ks && decide (ks.length = ds.length) then .ok (true, .dic ks ds, ε1) else .bad
  | .kd o ks vs a, ε => (pk a ε (evE a ε)).bind fun (_, x, ε1) => (Rs.opt (kdD o ks vs x)).bind fun (w, z) => .ok (w, z, ε1)
  | .kget ks vs as, ε => (evEs as ε).bind fun (ds, ε1) => (Rs.opt (kgetD ks vs ds)).bind fun z => .ok (false, z, ε1)
  | .so o a, ε => (pk a ε (evE a ε)).bind fun (_, x, ε1) => (Rs.opt (soD o x)).bind fun (w, z) => .ok (w, z, ε1)
  | .bin o a b, ε => (lk a b ε (evE a ε)).bind fun (_, x, ε1) => (pk b ε1 (evE b ε1)).bind fun (_, y, ε2) => (Rs.opt (opD o x y)).bind fun (w, z) => .ok (w, z, ε2)
  | .neg a, ε => (evE a ε).bind fun (_, x, ε1) => match x with
    | .int i => .ok (false, .int (-i), ε1)
    | _ => .bad
  | .cmp o a b, ε => (lk a b ε (evE a ε)).bind fun (_, x, ε1) => (pk b ε1 (evE b ε1)).bind fun (_, y, ε2) => (Rs.opt (cmF o x y)).bind fun (w, z) => .ok (w, z, ε2)
  | .chain o p a b c, ε => (evE a ε).bind fun (_, x, ε1) => (evE b ε1).bind fun (_, y, ε2) => (Rs.opt (cmD o x y)).bind fun z => match z with
    | true => (evE c ε2).bind fun (_, w, ε3) => (Rs.opt (cmD p y w)).bind fun z => .ok (false, .bl z, ε3)
    | false => .ok (false, .bl false, ε2)
  | .and a b, ε => (evE a ε).bind fun (_, x, ε1) => match x with
    | .bl true => (evE b ε1).bind fun (_, y, ε2) => match y with
      | .bl z => .ok (false, .bl z, ε2)
      | _ => .bad
    | .bl false => .ok (false, .bl false, ε1)
    | _ => .bad
  | .or a b, ε => (evE a ε).bind fun (_, x, ε1) => match x with
    | .bl true => .ok (false, .bl true, ε1)
    | .bl false => (evE b ε1).bind fun (_, y, ε2) => match y with
      | .bl z => .ok (false, .bl z, ε2)
      | _ => .bad
    | _ => .bad
  | .not a, ε => (evE a ε).bind fun (_, x, ε1) => match x with
    | .bl z => .ok (false, .bl (!z), ε1)
    | _ => .bad
  | .ite c a b, ε => (evE c ε).bind fun (_, x, ε1) => match x with
    | .bl true => evE a ε1
    | .bl false => evE b ε1
    | _ => .bad
  | .sub a b, ε => (lk a b ε (evE a ε)).bind fun (_, x, ε1) => (pk b ε1 (evE b ε1)).bind fun (_, y, ε2) => (Rs.opt (subF x y)).bind fun (w, z) => .ok (w, z, ε2)
  | .slice a lo hi, ε => (match lo.quiet && hi.quiet with | true => pk a ε (evE a ε) | false => evE a ε).bind fun (_, x, ε1) => (evO lo ε1).bind fun (l, ε2) => (evO hi ε2).bind fun (h, ε3) =>
    (Rs.opt (sliceD l h x)).bind fun (w, z) => .ok (w, z, ε3)
  | .rev a, ε => (pk a ε (evE a ε)).bind fun (_, x, ε1) => (Rs.opt (revD x)).bind fun (w, z) => .ok (w, z, ε1)
  | .call f as, ε => (evAs as ε).bind fun (ds, ε1) => (Rs.opt (mkAs ε1 as ds)).bind fun xs => (call f xs).bind fun (w, z, outs) => (Rs.opt (backAs ε1 as outs)).bind fun ε2 => .ok (w, z, ε2)
  | .callv i as, ε => match ε[i]? with
    | some (.val (.fn f)) => (evAs as ε).bind fun (ds, ε1) => (Rs.opt (mkAs ε1 as ds)).bind fun xs => (call f xs).bind fun (w, z, outs) => (Rs.opt (backAs ε1 as outs)).bind fun ε2 => .ok (w, z, ε2)
    | _ => .bad
  | .bi b as, ε => (evPs as ε).bind fun (xs, ε1) => (Rs.opt (biD b xs)).bind fun (w, z) => .ok (w, z, ε1)
  | .meth m a as, ε => (match as.quiet with | true => pk a ε (evE a ε) | false => evE a ε).bind fun (_, x, ε1) => match meOk m x with
    | true => (evEs as ε1).bind fun (xs, ε2) => (Rs.opt (meD m x xs)).bind fun (w, z) => .ok (w, z, ε2)
    | false => .bad
  | .isi a t, ε => (pk a ε (evE a ε)).bind fun (_, x, ε1) => (Rs.opt (isiF t x)).bind fun (w, z) => .ok (w, z, ε1)
  | .comp e t it cs vs, ε => (evI it ε).bind fun (xs, ε1) => match compL (fun x ε2 => (bindT (wipeE ε2 vs) t x).bind fun ε3 => (evCs cs ε3).bind fun (b, ε4) => match b with
      | true => (evE e ε4).bind fun (_, d, ε5) => .ok (some d, ε5)
      | false => .ok (none, ε4)) xs ε1 with
    | .ok (ds, ε2) => if ds.length ≤ sizeL then .ok (true, .lst ds, backE ε1 ε2 vs) else .bad
    | _ => .bad
  | .lamc f b, ε => match hand f ((evE b (hideE ε)).bind fun (_, x, _) => .ok x) with
    | .ok d => .ok (false, d, ε)
    | _ => .bad
def evEs : Es → En → Rs (List D × En)
  | .nil, ε => .ok ([], ε)
  | .cons e es, ε => (evE e ε).bind fun (_, d, ε1) => (evEs es ε1).bind fun (ds, ε2) => .ok (d :: ds, ε2)
/-- looks: each but those ahead of what is not quiet -/
def evPs : Es → En → Rs (List D × En)
  | .nil, ε => .ok ([], ε)
  | .cons e es, ε => (match es.quiet with | true => pk e ε (evE e ε) | false => evE e ε).bind fun (_, d, ε1) => (evPs es ε1).bind fun (ds, ε2) => .ok (d :: ds, ε2)
def evAs : As → En → Rs (List D × En)
  | .nil, ε => .ok ([], ε)
  | .val e as, ε => (evE e ε).bind fun (_, d, ε1) => (evAs as ε1).bind fun (ds, ε2) => .ok (d :: ds, ε2)
  | .lend i as, ε => match ε[i]? with
    | some (.own _) => evAs as ε
    | some (.lnt _) => evAs as ε
    | _ => .bad
def evO : Es → En → Rs (Option Int × En)
  | .nil, ε => .ok (none, ε)
  | .cons e .nil, ε => (evE e ε).bind fun (_, x, ε1) => match x with
    | .int i => .ok (some i, ε1)
    | _ => .bad
  | .cons _ (.cons _ _), _ => .bad
def evCs : Es → En → Rs (Bool × En)
  | .nil, ε => .ok (true, ε)
  | .cons e .nil, ε => (evE e ε).bind fun (_, x, ε1) => match x with
    | .bl z => .ok (z, ε1)
    | _ => .bad
  | .cons _ (.cons _ _), _ => .bad
def evI : I → En → Rs (List D × En)
  | .it e, ε => (evE e ε).bind fun (_, x, ε1) => (Rs.opt x.items).bind fun ds => .ok (ds, ε1)
  | .range1 a, ε => (evE a ε).bind fun (_, x, ε1) => match x with
    | .int n => if -(2 ^ 62) ≤ n ∧ n < 2 ^ 62 then .ok (rangeD 0 n, ε1) else .bad
    | _ => .bad
  | .range2 a b, ε => (evE a ε).bind fun (_, x, ε1) => (evE b ε1).bind fun (_, y, ε2) => match x, y with
    | .int m, .int n => if -(2 ^ 62) ≤ m ∧ m < 2 ^ 62 ∧ -(2 ^ 62) ≤ n ∧ n < 2 ^ 62 then .ok (rangeD m n, ε2) else .bad
    | _, _ => .bad
  | .enum a, ε => (evE a ε).bind fun (_, x, ε1) => match x with
    | .lst ds => .ok (enumD 0 ds, ε1)
    | _ => .bad
  | .zip as, ε => (evEs as ε).bind fun (ds, ε1) => match ds with
    | [.tup xs, .tup ys] => .ok (zipD xs ys, ε1)
    | _ => .bad
  | .rev a, ε => (evE a ε).bind fun (_, x, ε1) => (Rs.opt x.items).bind fun ds => .ok (ds.reverse, ε1)
end
end

/-! ### statements -/
mutual
inductive S where
  | set (i : Nat) (e : E) | setT (is : List Nat) (e : E) | asgT (is : List Nat) (es : Es)
  | app (i : Nat) (e : E) | put (i : Nat) (k e : E) | expr (e : E)
  | ret (e : E) | retN
  | iff (c : E) (a b : Ss) | for_ (t : Tg) (it : I) (b : Ss) | while_ (c : E) (b : Ss)
  | pass | cont | raise (cls : Nat) (e : E) (keep : Bool)
inductive Ss where
  | nil | cons (s : S) (ss : Ss)
end
inductive Fl where
  | nx (ε : En) | rt (o : Bool) (d : D) (ε : En) | ct (ε : En) | exc (x : Ex) | bad
def Fl.of {α : Type} : Rs α → (α → Fl) → Fl
  | .ok a, f => f a
  | .exc x, _ => .exc x
  | .bad, _ => .bad
@[simp] theorem Fl.of_ok {α : Type} (a : α) (f : α → Fl) : Fl.of (.ok a) f = f a := rfl
@[simp] theorem Fl.of_exc {α : Type} (x : Ex) (f : α → Fl) : Fl.of (.exc x) f = .exc x := rfl
@[simp] theorem Fl.of_bad {α : Type} (f : α → Fl) : Fl.of .bad f = .bad := rfl
def Fl.seq : Fl → (En → Fl) → Fl
  | .nx ε, f => f ε
  | r, _ => r
@[simp] theorem Fl.seq_nx (ε : En) (f : En → Fl) : (Fl.nx ε).seq f = f ε := rfl
@[simp] theorem Fl.seq_rt (o : Bool) (d : D) (ε : En) (f : En → Fl) : (Fl.rt o d ε).seq f = .rt o d ε := rfl
@[simp] theorem Fl.seq_ct (ε : En) (f : En → Fl) : (Fl.ct ε).seq f = .ct ε := rfl
@[simp] theorem Fl.seq_exc (x : Ex) (f : En → Fl) : (Fl.exc x).seq f = .exc x := rfl
@[simp] theorem Fl.seq_bad (f : En → Fl) : Fl.bad.seq f = .bad := rfl
def forL (body : D → En → Fl) : List D → En → Fl
  | [], ε => .nx ε
  | x :: xs, ε => match body x ε with
    | .nx ε1 => forL body xs ε1
    | .ct ε1 => forL body xs ε1
    | r => r
def whileL (c : En → Rs (Bool × En)) (body : En → Fl) : Nat → En → Fl
  | 0, _ => .bad
  | n + 1, ε => Fl.of (c ε) fun (b, ε1) => match b with
    | false => .nx ε1
    | true => match body ε1 with
      | .nx ε2 => whileL c body n ε2
      | .ct ε2 => whileL c body n ε2
      | r => r
def evT (r : Rs (Bool × D × En)) : Rs (Bool × En) := r.bind fun (_, x, ε1) => match x with
  | .bl z => .ok (z, ε1)
  | _ => .bad
def putNs (ε : En) : List Nat → List D → Rs En
  | [], [] => .ok ε
  | i :: is, d :: ds => (putS ε i false d).bind fun ε' => putNs ε' is ds
  | _, _ => .bad
/-- own or not -/
def evOs (ev : E → En → Rs (Bool × D × En)) : Es → En → Rs (List (Bool × D) × En)
  | .nil, ε => .ok ([], ε)
  | .cons e es, ε => (ev e ε).bind fun (o, d, ε1) => (evOs ev es ε1).bind fun (ds, ε2) => .ok ((o, d) :: ds, ε2)
def putOs (ε : En) : List Nat → List (Bool × D) → Rs En
  | [], [] => .ok ε
  | i :: is, (o, d) :: ds => (putS ε i o d).bind fun ε' => putOs ε' is ds
  | _, _ => .bad
def appS (ε : En) (i : Nat) (d : D) : Rs En :=
  match ε[i]? with
  | some (.own (.lst xs)) => if xs.length < sizeL then .ok (ε.set i (.own (.lst (xs ++ [d])))) else .bad
  | some (.lnt (.lst xs)) => if xs.length < sizeL then .ok (ε.set i (.lnt (.lst (xs ++ [d])))) else .bad
  | _ => .bad
def ixN (n : Nat) (i : Int) : Option Nat := if 0 ≤ i then (if i < n then some i.toNat else none) else if -(n : Int) ≤ i then some (i + n).toNat else none
def putD (d k v : D) : Option D :=
  match d, k with
  | .lst xs, .int i => (ixN xs.length i).map fun j => .lst (xs.set j v)
  | .dic ks vs, k => if keyB k && decide (ks.length < sizeL) then some (.dic (dPut (ks, vs) k v).1 (dPut (ks, vs) k v).2) else none
  | _, _ => none
def putI (ε : En) (i : Nat) (k v : D) : Rs En :=
  match ε[i]? with
  | some (.own d) => (Rs.opt (putD d k v)).bind fun d' => .ok (ε.set i (.own d'))
  | some (.lnt d) => (Rs.opt (putD d k v)).bind fun d' => .ok (ε.set i (.lnt d'))
  | _ => .bad
def isC (ε : En) (i : Nat) : Bool := match ε[i]? with
  | some (.own _) => true | some (.lnt _) => true | _ => false
def isL (ε : En) (i : Nat) : Bool := match ε[i]? with
  | some (.own (.lst _)) => true | some (.lnt (.lst _)) => true | _ => false
/-- return x: what is own is handed on -/
def evR (e : E) (ε : En) (r : Rs (Bool × D × En)) : Rs (Bool × D × En) :=
  match e with
  | .v i => match ε[i]? with
    | some (.own d) => .ok (true, d, ε)
    | _ => r
  | _ => r

section
variable (call : Nat → List Arg → Rs (Bool × D × List D)) (hand : Nat → Rs D → Rs D) (wf : Nat)
mutual
def exS : S → En → Fl
  | .set i e, ε => Fl.of (evE call hand e ε) fun (o, d, ε1) => Fl.of (putS ε1 i o d) .nx
  | .setT is e, ε => Fl.of (evE call hand e ε) fun (_, d, ε1) => match d with
    | .tup ds => Fl.of (bindNs ε1 is ds) .nx
    | _ => .bad
  | .asgT is es, ε => Fl.of (evOs (evE call hand) es ε) fun (ds, ε1) => Fl.of (putOs ε1 is ds) .nx
  | .app i e, ε => match isL ε i with
    | true => Fl.of (evE call hand e ε) fun (_, d, ε1) => Fl.of (appS ε1 i d) .nx
    | false => .bad
  | .put i k e, ε => Fl.of (evE call hand e ε) fun (_, v, ε1) => match isC ε1 i with
    | true => Fl.of (evE call hand k ε1) fun (_, k, ε2) => Fl.of (putI ε2 i k v) .nx
    | false => .bad
  | .expr e, ε => Fl.of (evE call hand e ε) fun (_, _, ε1) => .nx ε1
  | .ret e, ε => Fl.of (evR e ε (evE call hand e ε)) fun (o, d, ε1) => .rt o d ε1
  | .retN, ε => .rt false .non ε
  | .iff c a b, ε => Fl.of (evT (evE call hand c ε)) fun (z, ε1) => match z with
    | true => exSs a ε1
    | false => exSs b ε1
  | .for_ t it b, ε => Fl.of (evI call hand it ε) fun (xs, ε1) => forL (fun x ε2 => Fl.of (bindT ε2 t x) fun ε3 => exSs b ε3) xs ε1
  | .while_ c b, ε => whileL (fun ε1 => evT (evE call hand c ε1)) (fun ε1 => exSs b ε1) wf ε
  | .pass, ε => .nx ε
  | .cont, ε => .ct ε
  | .raise cls e keep, ε => Fl.of (evE call hand e ε) fun (_, d, _) => .exc ⟨cls, if keep then some d else none⟩
def exSs : Ss → En → Fl
  | .nil, ε => .nx ε
  | .cons s ss, ε => (exS s ε).seq fun ε1 => exSs ss ε1
end
end

/-! ### functions -/
structure Fn where
  np : Nat
  ns : Nat
  body : Ss
def slOf : Arg → Sl
  | .val d => .val d
  | .lent d => .lnt d
def startE (n : Nat) (as : List Arg) : En := as.map slOf ++ List.replicate (n - as.length) .no
def outsE (ε : En) : Nat → List Arg → Option (List D)
  | _, [] => some []
  | i, .val _ :: as => outsE ε (i + 1) as
  | i, .lent _ :: as => match ε[i]? with
    | some (.lnt d) => (outsE ε (i + 1) as).map (d :: ·)
    | _ => none
structure Hn where
  hs : List (Nat × Option D)
  after : D
def findH (subs : Nat → Nat → Option Bool) (i : Nat) : List (Nat × Option D) → Option D
  | [] => none
  | (j, d) :: r => match subs i j with
    | some true => d
    | some false => findH subs i r
    | none => none
def handD (subs : Nat → Nat → Option Bool) (H : Hn) : Rs D → Rs D
  | .ok _ => .ok H.after
  | .exc x => Rs.opt (findH subs x.cls H.hs)
  | .bad => .bad
structure Pg where
  fn : Nat → Option Fn
  hn : Nat → Option Hn
  subs : Nat → Nat → Option Bool
  wf : Nat
def handP (P : Pg) (f : Nat) (r : Rs D) : Rs D := match P.hn f with
  | some H => handD P.subs H r
  | none => .bad
def runF (P : Pg) : Nat → Nat → List Arg → Rs (Bool × D × List D)
  | 0, _, _ => .bad
  | k + 1, f, as => match P.fn f with
    | none => .bad
    | some F => if as.length = F.np ∧ F.np ≤ F.ns then
        match exSs (runF P k) (handP P) P.wf F.body (startE F.ns as) with
        | .rt o d ε => (Rs.opt (outsE ε 0 as)).bind fun outs => .ok (o, d, outs)
        | .nx ε => (Rs.opt (outsE ε 0 as)).bind fun outs => .ok (false, .non, outs)
        | .exc x => .exc x
        | _ => .bad
      else .bad
end DL

set_option Elab.async false
set_option linter.all false
set_option maxRecDepth 100000
set_option maxHeartbeats 4000000
/-! DL2: data in an abstract heap. -/
namespace DL
open PySem PySem.Spec PyProof.Rows L2

abbrev Sx (l : List Nat) : Str := ⟨l.toArray⟩
def strB (l : List Nat) : Bool := l.all (· < 0x110000)

/-- the library's key -/
def keyK : D → L2.Key
  | .int i => .inl i
  | .str s => .inr (Sx s)
  | _ => .inl 0
def zipK : List D → List V → List (L2.Key × V)
  | k :: ks, v :: vs => (keyK k, v) :: zipK ks vs
  | _, _ => []
section
variable (K : PySem.W.Frag) (fa : Nat → Option Addr)
mutual
/-- v bears d, by what stands in F (nothing of it changes any more) -/
inductive Rp (F : Hp) : V → D → Prop
  | non : Rp F .non .non
  | bl (b : Bool) : Rp F (.bl b) (.bl b)
  | int (i : Int) : Rp F (.int i) (.int i)
  | str (x : List Nat) : strB x = true → Rp F (.str (Sx x)) (.str x)
  | tup {a : Addr} {vs : List V} {ds : List D} : SqT K F a vs → Rps F vs ds → Rp F (.ref a) (.tup ds)
  | lst {a : Addr} {vs : List V} {ds : List D} : F a = some (.lst vs) → Rps F vs ds → Rp F (.ref a) (.lst ds)
  | fn {f : Nat} {a : Addr} : fa f = some a → Rp F (.ref a) (.fn f)
  | frz {a : Addr} {vs : List V} {ds : List D} : SqL K F a vs → Rps F vs ds → Rp F (.ref a) (.frz ds)
  | dic {a : Addr} {vs : List V} {ks ds : List D} : F a = some (.dK (zipK ks vs)) → ks.all keyB = true → ks.length = ds.length → Rps F vs ds → Rp F (.ref a) (.dic ks ds)
inductive Rps (F : Hp) : List V → List D → Prop
  | nil : Rps F [] []
  | cons {v : V} {vs : List V} {d : D} {ds : List D} : Rp F v d → Rps F vs ds → Rps F (v :: vs) (d :: ds)
end
end

def Sub (F H : Hp) : Prop := ∀ a o, F a = some o → H a = some o
theorem Sub.refl (F : Hp) : Sub F F := fun _ _ h => h
theorem Sub.trans {F G H : Hp} (a : Sub F G) (b : Sub G H) : Sub F H := fun c o h => b c o (a c o h)
theorem Sub.new {H : Hp} {p : Addr} {o : HO} (h : H p = none) : Sub H (upd H p o) := fun a u e => by
  rw [upd_ne (ne_of_none e h)]; exact e
theorem Sub.new2 {F H : Hp} {p : Addr} {o : HO} (s : Sub F H) : Sub (upd F p o) (upd H p o) := fun a u e => by
  by_cases q : a = p
  · subst q; rw [upd_same] at e ⊢; exact e
  · rw [upd_ne q] at e ⊢; exact s a u e

section
variable {K : PySem.W.Frag} {fa : Nat → Option Addr} {F H : Hp}
theorem rd_mono (s : Sub F H) {a : Addr} {u : HO} (h : Rd F a u) : Rd H a u := by
  rcases h with h | ⟨o, h⟩
  · exact .inl (s _ _ h)
  · exact .inr ⟨o, s _ _ h⟩
theorem sqT_mono (s : Sub F H) {a : Addr} {vs : List V} (h : SqT K F a vs) : SqT K H a vs := h.imp (rd_mono s) id
theorem sqL_mono (s : Sub F H) {a : Addr} {vs : List V} (h : SqL K F a vs) : SqL K H a vs := h.imp (rd_mono s) id
mutual
theorem Rp.mono (s : Sub F H) : ∀ (d : D) {v : V}, Rp K fa F v d → Rp K fa H v d
  | .non, _, h => by cases h; exact .non
  | .bl _, _, h => by cases h; exact .bl _
  | .int _, _, h => by cases h; exact .int _
  | .str _, _, h => by cases h with | str _ q => exact .str _ q
  | .tup ds, _, h => by cases h with | tup a b => exact .tup (sqT_mono s a) (Rps.mono s ds b)
  | .lst ds, _, h => by cases h with | lst a b => exact .lst (s _ _ a) (Rps.mono s ds b)
  | .fn _, _, h => by cases h with | fn a => exact .fn a
  | .frz ds, _, h => by cases h with | frz a b => exact .frz (sqL_mono s a) (Rps.mono s ds b)
  | .dic _ ds, _, h => by cases h with | dic a k l b => exact .dic (s _ _ a) k l (Rps.mono s ds b)
  | .set _, _, h => by cases h
theorem Rps.mono (s : Sub F H) : ∀ (ds : List D) {vs : List V}, Rps K fa F vs ds → Rps K fa H vs ds
  | [], _, h => by cases h; exact .nil
  | d :: ds, _, h => by cases h with | cons a b => exact .cons (Rp.mono s d a) (Rps.mono s ds b)
end
theorem Rps.len : ∀ {vs : List V} {ds : List D}, Rps K fa F vs ds → vs.length = ds.length
  | _, _, .nil => rfl
  | _, _, .cons _ t => by simp [Rps.len t]
theorem Rps.get : ∀ {vs : List V} {ds : List D} {i : Nat} {d : D}, Rps K fa F vs ds → ds[i]? = some d → ∃ v, vs[i]? = some v ∧ Rp K fa F v d
  | _, _, _, _, .nil, e => by simp at e
  | _, _, 0, _, .cons r _, e => by simp at e; subst e; exact ⟨_, rfl, r⟩
  | _, _, i + 1, _, .cons _ t, e => by
    obtain ⟨v, a, b⟩ := Rps.get (i := i) t (by simpa using e)
    exact ⟨v, by simpa using a, b⟩
theorem Rps.app : ∀ {vs ws : List V} {ds es : List D}, Rps K fa F vs ds → Rps K fa F ws es → Rps K fa F (vs ++ ws) (ds ++ es)
  | _, _, _, _, .nil, s => s
  | _, _, _, _, .cons r t, s => .cons r (Rps.app t s)
theorem Rps.take : ∀ {vs : List V} {ds : List D} (n : Nat), Rps K fa F vs ds → Rps K fa F (vs.take n) (ds.take n)
  | _, _, 0, _ => .nil
  | _, _, _ + 1, .nil => .nil
  | _, _, n + 1, .cons r t => .cons r (Rps.take n t)
theorem Rps.drop : ∀ {vs : List V} {ds : List D} (n : Nat), Rps K fa F vs ds → Rps K fa F (vs.drop n) (ds.drop n)
  | _, _, 0, r => r
  | _, _, _ + 1, .nil => .nil
  | _, _, n + 1, .cons _ t => Rps.drop n t
theorem Rps.rev {vs : List V} {ds : List D} (h : Rps K fa F vs ds) : Rps K fa F vs.reverse ds.reverse := by
  induction h using Rps.rec (motive_1 := fun _ _ _ => True) with
  | nil => exact .nil
  | cons r t _ ih => rw [List.reverse_cons, List.reverse_cons]; exact ih.app (.cons r .nil)
  | _ => trivial
theorem Rps.set {v : V} {d : D} (r : Rp K fa F v d) : ∀ {vs : List V} {ds : List D} (i : Nat), Rps K fa F vs ds → Rps K fa F (vs.set i v) (ds.set i d)
  | _, _, _, .nil => .nil
  | _, _, 0, .cons _ t => .cons r t
  | _, _, i + 1, .cons q t => .cons q (Rps.set r i t)
theorem Rps.rep {vs : List V} {ds : List D} (h : Rps K fa F vs ds) : ∀ k : Nat, Rps K fa F (List.replicate k vs).flatten (List.replicate k ds).flatten
  | 0 => .nil
  | k + 1 => by rw [List.replicate_succ, List.replicate_succ, List.flatten_cons, List.flatten_cons]; exact h.app (Rps.rep h k)
theorem Rps.ints : ∀ {vs : List V} {ds : List D} {ns : List Int}, Rps K fa F vs ds → D.asInts ds = some ns → vs = ns.map V.int
  | _, _, _, .nil, e => by simp [D.asInts] at e; subst e; rfl
  | _, d :: ds, ns, .cons r t, e => by
    cases d with
    | int i =>
      cases r
      unfold D.asInts at e
      cases q : D.asInts ds with
      | none => rw [q] at e; cases e
      | some m => rw [q] at e; cases e; rw [Rps.ints t q]; rfl
    | _ => cases e
theorem Rps.bls : ∀ {vs : List V} {ds : List D} {ns : List Bool}, Rps K fa F vs ds → D.asBls ds = some ns → vs = ns.map V.bl
  | _, _, _, .nil, e => by simp [D.asBls] at e; subst e; rfl
  | _, d :: ds, ns, .cons r t, e => by
    cases d with
    | bl i =>
      cases r
      unfold D.asBls at e
      cases q : D.asBls ds with
      | none => rw [q] at e; cases e
      | some m => rw [q] at e; cases e; rw [Rps.bls t q]; rfl
    | _ => cases e

/-! ### == : over the library's data -/
mutual
def D.toP : D → PyData
  | .non => .none
  | .bl b => .bool b
  | .int i => .int i
  | .str x => .str (Sx x)
  | .tup xs => .tuple (D.toPs xs)
  | .lst xs => .list (D.toPs xs)
  | _ => .none
def D.toPs : List D → List PyData
  | [] => []
  | x :: xs => D.toP x :: D.toPs xs
end
mutual
theorem Rp.dp (s : Sub F H) : ∀ (d : D) {v : V}, Rp K fa F v d → d.flat = true → Dp K H v d.toP
  | .non, _, h, _ => by cases h; exact .non
  | .bl _, _, h, _ => by cases h; exact .bl _
  | .int _, _, h, _ => by cases h; exact .int _
  | .str _, _, h, _ => by cases h with | str _ q => exact .str _
  | .tup ds, _, h, f => by cases h with | tup a b => exact .tup (sqT_mono s a) (Rps.dp s ds b (by simpa [D.flat] using f))
  | .lst ds, _, h, f => by cases h with | lst a b => exact .lst (.inl (.inl (s _ _ a))) (Rps.dp s ds b (by simpa [D.flat] using f))
  | .fn _, _, _, f => by simp [D.flat] at f
  | .frz _, _, _, f => by simp [D.flat] at f
  | .dic _ _, _, h, f => by simp [D.flat] at f
  | .set _, _, h, _ => by cases h
theorem Rps.dp (s : Sub F H) : ∀ (ds : List D) {vs : List V}, Rps K fa F vs ds → D.flats ds = true → DpAll K H vs (D.toPs ds)
  | [], _, h, _ => by cases h; exact .nil
  | d :: ds, _, h, f => by
    cases h with | cons a b =>
    have f' : d.flat = true ∧ D.flats ds = true := by simpa [D.flats] using f
    exact .cons (Rp.dp s d a f'.1) (Rps.dp s ds b f'.2)
end
mutual
theorem Rp.lay : ∀ (d : D) {v : V}, Rp K fa F v d → d.flat = true → d.toP.canLay0 = true
  | .non, _, _, _ => rfl
  | .bl _, _, _, _ => rfl
  | .int _, _, _, _ => rfl
  | .str x, _, h, _ => by
    cases h with | str _ q =>
    simp only [D.toP, PyData.canLay0]
    unfold PyData.strOk
    simpa [strB] using q
  | .tup ds, _, h, f => by
    cases h with | tup a b =>
    simp only [D.toP, PyData.canLay0]
    exact Rps.lay ds b (by simpa [D.flat] using f)
  | .lst ds, _, h, f => by
    cases h with | lst a b =>
    simp only [D.toP, PyData.canLay0]
    exact Rps.lay ds b (by simpa [D.flat] using f)
  | .fn _, _, _, f => by simp [D.flat] at f
  | .frz _, _, _, f => by simp [D.flat] at f
  | .dic _ _, _, h, f => by simp [D.flat] at f
  | .set _, _, h, _ => by cases h
theorem Rps.lay : ∀ (ds : List D) {vs : List V}, Rps K fa F vs ds → D.flats ds = true → PyData.canLayAll0 (D.toPs ds) = true
  | [], _, _, _ => rfl
  | d :: ds, _, h, f => by
    cases h with | cons a b =>
    have f' : d.flat = true ∧ D.flats ds = true := by simpa [D.flats] using f
    simp only [D.toPs, PyData.canLayAll0, Rp.lay d a f'.1, Rps.lay ds b f'.2, Bool.and_self]
end
mutual
theorem D.dep_toP : ∀ d : D, d.flat = true → d.toP.depth = d.dep
  | .non, _ => rfl
  | .bl _, _ => rfl
  | .int _, _ => rfl
  | .str _, _ => rfl
  | .tup ds, f => by simp only [D.toP, PyData.depth, D.dep, D.deps_toP ds (by simpa [D.flat] using f)]
  | .lst ds, f => by simp only [D.toP, PyData.depth, D.dep, D.deps_toP ds (by simpa [D.flat] using f)]
  | .fn _, f => by simp [D.flat] at f
  | .frz _, f => by simp [D.flat] at f
  | .dic _ _, f => by simp [D.flat] at f
  | .set _, f => by simp [D.flat] at f
theorem D.deps_toP : ∀ ds : List D, D.flats ds = true → PyData.depthAll (D.toPs ds) = D.deps ds
  | [], _ => rfl
  | d :: ds, f => by
    have f' : d.flat = true ∧ D.flats ds = true := by simpa [D.flats] using f
    simp only [D.toPs, PyData.depthAll, D.deps, D.dep_toP d f'.1, D.deps_toP ds f'.2]
end
theorem sx_beq (x y : List Nat) : ((Sx x) == (Sx y)) = (x == y) := SX.S_beq x y
mutual
theorem D.eqv_toP : ∀ d e : D, d.flat = true → e.flat = true → PyData.eqv d.toP e.toP = D.beq d e
  | .tup xs, e, f, g => by
    cases e <;> first | (simp [D.flat] at g; done) | skip
    all_goals first | rfl | skip
    rename_i ys
    simp only [D.toP, PyData.eqv, D.beq]
    exact D.eqvs_toP xs ys (by simpa [D.flat] using f) (by simpa [D.flat] using g)
  | .lst xs, e, f, g => by
    cases e <;> first | (simp [D.flat] at g; done) | skip
    all_goals first | rfl | skip
    rename_i ys
    simp only [D.toP, PyData.eqv, D.beq]
    exact D.eqvs_toP xs ys (by simpa [D.flat] using f) (by simpa [D.flat] using g)
  | .non, e, f, g => by cases e <;> first | (simp [D.flat] at g; done) | rfl
  | .bl a, e, f, g => by cases e <;> first | (simp [D.flat] at g; done) | rfl
  | .int a, e, f, g => by cases e <;> first | (simp [D.flat] at g; done) | rfl
  | .str a, e, f, g => by
    cases e <;> first | (simp [D.flat] at g; done) | rfl | skip
    rename_i b
    simp only [D.toP, PyData.eqv, D.beq]
    exact sx_beq a b
  | .fn _, _, f, _ => by simp [D.flat] at f
  | .frz _, _, f, _ => by simp [D.flat] at f
  | .dic _ _, _, f, _ => by simp [D.flat] at f
  | .set _, _, f, _ => by simp [D.flat] at f
theorem D.eqvs_toP : ∀ ds es : List D, D.flats ds = true → D.flats es = true → PyData.eqvAll (D.toPs ds) (D.toPs es) = D.beqs ds es
  | [], [], _, _ => rfl
  | [], _ :: _, _, _ => rfl
  | _ :: _, [], _, _ => rfl
  | d :: ds, e :: es, f, g => by
    have f' : d.flat = true ∧ D.flats ds = true := by simpa [D.flats] using f
    have g' : e.flat = true ∧ D.flats es = true := by simpa [D.flats] using g
    simp only [D.toPs, PyData.eqvAll, D.beqs, D.eqv_toP d e f'.1 g'.1, D.eqvs_toP ds es f'.2 g'.2]
end
end

/-! ### what may change; looks -/
/-- at a stands what may change, as d -/
def Cell (K : PySem.W.Frag) (fa : Nat → Option Addr) (F H : Hp) (a : Addr) : D → Prop
  | .lst ds => ∃ vs, H a = some (.lst vs) ∧ Rps K fa F vs ds
  | .dic ks ds => ∃ vs, H a = some (.dK (zipK ks vs)) ∧ ks.all keyB = true ∧ ks.length = ds.length ∧ Rps K fa F vs ds
  | _ => False
/-- such an object -/
def CO (K : PySem.W.Frag) (fa : Nat → Option Addr) (F : Hp) (o : HO) : D → Prop
  | .lst ds => ∃ vs, o = .lst vs ∧ Rps K fa F vs ds
  | .dic ks ds => ∃ vs, o = .dK (zipK ks vs) ∧ ks.all keyB = true ∧ ks.length = ds.length ∧ Rps K fa F vs ds
  | _ => False
/-- v is read as d: it stays as it is, or it may change -/
def Rp1 (K : PySem.W.Frag) (fa : Nat → Option Addr) (F H : Hp) (v : V) (d : D) : Prop :=
  Rp K fa F v d ∨ ∃ a, v = .ref a ∧ Cell K fa F H a d
section
variable {K : PySem.W.Frag} {fa : Nat → Option Addr} {F G H : Hp} {v : V}
theorem CO.tbl {o : HO} {d : D} (c : CO K fa F o d) : ∀ ps, o ≠ .tbl ps := by
  intro ps e
  cases d <;> first | exact c.elim | skip
  · obtain ⟨vs, e2, _⟩ := c; rw [e] at e2; cases e2
  · obtain ⟨vs, e2, _⟩ := c; rw [e] at e2; cases e2
theorem CO.mono {o : HO} (s : Sub F G) : ∀ {d : D}, CO K fa F o d → CO K fa G o d := by
  intro d c
  cases d <;> first | exact c.elim | skip
  · obtain ⟨vs, e, r⟩ := c; exact ⟨vs, e, Rps.mono s _ r⟩
  · obtain ⟨vs, e, k, l, r⟩ := c; exact ⟨vs, e, k, l, Rps.mono s _ r⟩
theorem CO.rp {o : HO} {a : Addr} : ∀ {d : D}, CO K fa F o d → F a = some o → Rp K fa F (.ref a) d := by
  intro d c h
  cases d <;> first | exact c.elim | skip
  · obtain ⟨vs, rfl, r⟩ := c; exact .lst h r
  · obtain ⟨vs, rfl, k, l, r⟩ := c; exact .dic h k l r
theorem Cell.co {a : Addr} : ∀ {d : D}, Cell K fa F H a d → ∃ o, H a = some o ∧ CO K fa F o d := by
  intro d c
  cases d <;> first | exact c.elim | skip
  · obtain ⟨vs, h, r⟩ := c; exact ⟨_, h, vs, rfl, r⟩
  · obtain ⟨vs, h, k, l, r⟩ := c; exact ⟨_, h, vs, rfl, k, l, r⟩
theorem CO.cell {a : Addr} {o : HO} : ∀ {d : D}, CO K fa F o d → H a = some o → Cell K fa F H a d := by
  intro d c h
  cases d <;> first | exact c.elim | skip
  · obtain ⟨vs, rfl, r⟩ := c; exact ⟨vs, h, r⟩
  · obtain ⟨vs, rfl, k, l, r⟩ := c; exact ⟨vs, h, k, l, r⟩
theorem Cell.flat {a : Addr} {d : D} (c : Cell K fa F H a d) (f : d.flat = true) : ∃ ds vs, d = .lst ds ∧ H a = some (.lst vs) ∧ Rps K fa F vs ds := by
  cases d <;> first | exact c.elim | skip
  · obtain ⟨vs, h, r⟩ := c; exact ⟨_, vs, rfl, h, r⟩
  · simp [D.flat] at f
theorem Rp1.dp (s : Sub F H) {d : D} (h : Rp1 K fa F H v d) (f : d.flat = true) : Dp K H v d.toP := by
  rcases h with h | ⟨a, rfl, c⟩
  · exact h.dp s d f
  · obtain ⟨ds, vs, rfl, e, r⟩ := c.flat f
    exact .lst (.inl (.inl e)) (Rps.dp s ds r (by simpa [D.flat] using f))
theorem Rp1.lay {d : D} (h : Rp1 K fa F H v d) (f : d.flat = true) : d.toP.canLay0 = true := by
  rcases h with h | ⟨a, rfl, c⟩
  · exact h.lay d f
  · obtain ⟨ds, vs, rfl, e, r⟩ := c.flat f
    simp only [D.toP, PyData.canLay0]
    exact Rps.lay ds r (by simpa [D.flat] using f)
theorem Rp1.int {i : Int} (h : Rp1 K fa F H v (.int i)) : v = .int i := by
  rcases h with h | ⟨a, rfl, c⟩
  · cases h; rfl
  · exact c.elim
theorem Rp1.bl {i : Bool} (h : Rp1 K fa F H v (.bl i)) : v = .bl i := by
  rcases h with h | ⟨a, rfl, c⟩
  · cases h; rfl
  · exact c.elim
theorem Rp1.non (h : Rp1 K fa F H v .non) : v = .non := by
  rcases h with h | ⟨a, rfl, c⟩
  · cases h; rfl
  · exact c.elim
theorem Rp1.str {x : List Nat} (h : Rp1 K fa F H v (.str x)) : v = .str (Sx x) ∧ strB x = true := by
  rcases h with h | ⟨a, rfl, c⟩
  · cases h with | str _ q => exact ⟨rfl, q⟩
  · exact c.elim
theorem Rp1.tup (s : Sub F H) {ds : List D} (h : Rp1 K fa F H v (.tup ds)) : ∃ a vs, v = .ref a ∧ SqT K H a vs ∧ Rps K fa F vs ds := by
  rcases h with h | ⟨a, rfl, c⟩
  · cases h with | tup a b => exact ⟨_, _, rfl, sqT_mono s a, b⟩
  · exact c.elim
theorem Rp1.lst (s : Sub F H) {ds : List D} (h : Rp1 K fa F H v (.lst ds)) : ∃ a vs, v = .ref a ∧ H a = some (.lst vs) ∧ Rps K fa F vs ds := by
  rcases h with h | ⟨a, rfl, c⟩
  · cases h with | lst a b => exact ⟨_, _, rfl, s _ _ a, b⟩
  · obtain ⟨vs, e, r⟩ := c; exact ⟨a, vs, rfl, e, r⟩
theorem Rp1.dic (s : Sub F H) {ks ds : List D} (h : Rp1 K fa F H v (.dic ks ds)) : ∃ a vs, v = .ref a ∧ H a = some (.dK (zipK ks vs)) ∧ ks.all keyB = true ∧ ks.length = ds.length ∧ Rps K fa F vs ds := by
  rcases h with h | ⟨a, rfl, c⟩
  · cases h with | dic a k l b => exact ⟨_, _, rfl, s _ _ a, k, l, b⟩
  · obtain ⟨vs, e, k, l, r⟩ := c; exact ⟨a, vs, rfl, e, k, l, r⟩
theorem Rp1.frz (s : Sub F H) {ds : List D} (h : Rp1 K fa F H v (.frz ds)) : ∃ a vs, v = .ref a ∧ SqL K H a vs ∧ Rps K fa F vs ds := by
  rcases h with h | ⟨a, rfl, c⟩
  · cases h with | frz a b => exact ⟨_, _, rfl, sqL_mono s a, b⟩
  · exact c.elim
/-! ### keys -/
theorem Rp1.key {x : D} (h : Rp1 K fa F H v x) (k : keyB x = true) : v = L2.kV (keyK x) := by
  cases x <;> first | (cases k; done) | skip
  · exact h.int
  · exact h.str.1
theorem Rp.key {x : D} (k : keyB x = true) : Rp K fa F (L2.kV (keyK x)) x := by
  cases x <;> first | (cases k; done) | skip
  · exact .int _
  · exact .str _ k
theorem Rps.keys : ∀ {ks : List D}, ks.all keyB = true → Rps K fa F (ks.map fun k => L2.kV (keyK k)) ks
  | [], _ => .nil
  | k :: ks, h => by
    have h' : keyB k = true ∧ ks.all keyB = true := by simpa using h
    exact .cons (.key h'.1) (Rps.keys h'.2)
theorem same_refl : ∀ {x : D}, keyB x = true → D.same x x = true := by
  intro x k
  cases x <;> first | (cases k; done) | simp [D.same]
theorem keyK_inj {x y : D} (hx : keyB x = true) (hy : keyB y = true) : keyK x = keyK y ↔ x = y := by
  refine ⟨fun e => ?_, fun e => by rw [e]⟩
  cases x <;> first | (cases hx; done) | skip
  · cases y <;> first | (cases hy; done) | skip
    · rw [Sum.inl.inj e]
    · cases e
  · cases y <;> first | (cases hy; done) | skip
    · cases e
    · have h2 := congrArg (fun s : Str => s.cps.toList) (Sum.inr.inj e)
      exact congrArg D.str h2
theorem same_iff {x y : D} (hx : keyB x = true) (hy : keyB y = true) : D.same x y = true ↔ x = y := by
  refine ⟨fun h => D.same_eq _ _ h, fun e => by rw [e]; exact same_refl hy⟩
theorem same_key {x y : D} (hx : keyB x = true) (hy : keyB y = true) : D.same x y = decide (keyK x = keyK y) := by
  by_cases e : keyK x = keyK y
  · rw [decide_eq_true e, (same_iff hx hy).mpr ((keyK_inj hx hy).mp e)]
  · rw [decide_eq_false e]
    cases h : D.same x y with
    | false => rfl
    | true => exact absurd ((keyK_inj hx hy).mpr ((same_iff hx hy).mp h)) e
theorem zipK_keys : ∀ {ks : List D} {vs : List V}, ks.length = vs.length → (zipK ks vs).map (·.1) = ks.map keyK
  | [], [], _ => rfl
  | [], _ :: _, h => by cases h
  | _ :: _, [], h => by cases h
  | k :: ks, v :: vs, h => by simp only [zipK, List.map_cons, zipK_keys (by simpa using h)]
theorem zipK_len : ∀ {ks : List D} {vs : List V}, ks.length = vs.length → (zipK ks vs).length = ks.length
  | [], [], _ => rfl
  | [], _ :: _, h => by cases h
  | _ :: _, [], h => by cases h
  | k :: ks, v :: vs, h => by simp only [zipK, List.length_cons, zipK_len (by simpa using h)]
theorem zipK_app : ∀ {ks : List D} {vs : List V} {k : D} {v : V}, ks.length = vs.length → zipK (ks ++ [k]) (vs ++ [v]) = zipK ks vs ++ [(keyK k, v)]
  | [], [], _, _, _ => rfl
  | [], _ :: _, _, _, h => by cases h
  | _ :: _, [], _, _, h => by cases h
  | k :: ks, v :: vs, _, _, h => by simp only [List.cons_append, zipK, zipK_app (ks := ks) (vs := vs) (by simpa using h)]
/-- what is there at a key -/
theorem dGet_val {x : D} (hx : keyB x = true) : ∀ {ks ds : List D} {vs : List V}, ks.all keyB = true → Rps K fa F vs ds → match dGet ks ds x with | some d => ∃ v, L2.valV (zipK ks vs) (keyK x) = some v ∧ Rp K fa F v d | none => ks.length = ds.length → L2.valV (zipK ks vs) (keyK x) = none
  | [], _, _, _, _ => by simp only [dGet]; intro _; rfl
  | k :: ks, _, _, h, .nil => by simp only [dGet]; intro h; cases h
  | k :: ks, d :: ds, v :: vs, h, .cons r t => by
    have h' : keyB k = true ∧ ks.all keyB = true := by simpa using h
    simp only [dGet, same_key h'.1 hx]
    by_cases e : keyK k = keyK x
    · rw [decide_eq_true e, if_pos rfl]
      exact ⟨v, L2.valV_pos (p := (keyK k, v)) e, r⟩
    · rw [decide_eq_false e, if_neg (by decide)]
      have ih := dGet_val hx h'.2 t
      have e2 : L2.valV (zipK (k :: ks) (v :: vs)) (keyK x) = L2.valV (zipK ks vs) (keyK x) := L2.valV_neg (p := (keyK k, v)) e
      rw [e2]
      cases q : dGet ks ds x with
      | some d => rw [q] at ih; exact ih
      | none => rw [q] at ih; exact fun l => ih (by simpa using l)
theorem dHas_any {x : D} (hx : keyB x = true) : ∀ {ks : List D} {vs : List V}, ks.all keyB = true → ks.length = vs.length → ((zipK ks vs).any fun kv => decide (kv.1 = keyK x)) = dHas ks x
  | [], [], _, _ => rfl
  | [], _ :: _, _, h => by cases h
  | _ :: _, [], _, h => by cases h
  | k :: ks, v :: vs, h, l => by
    have h' : keyB k = true ∧ ks.all keyB = true := by simpa using h
    have ih := dHas_any hx h'.2 (vs := vs) (by simpa using l)
    unfold dHas at ih ⊢
    simp only [zipK, List.any_cons, same_key h'.1 hx, ih]
theorem dHas_some {x : D} (hx : keyB x = true) {ks : List D} {vs : List V} (h : ks.all keyB = true) (l : ks.length = vs.length) : (L2.valV (zipK ks vs) (keyK x)).isSome = dHas ks x := by
  rw [← L2.valV_any, dHas_any hx h l]
theorem dSet_len {x y : D} : ∀ {ks ds : List D}, ks.length = ds.length → ks.length = (dSet ks ds x y).length
  | [], [], _ => rfl
  | [], _ :: _, h => by cases h
  | _ :: _, [], h => by cases h
  | k :: ks, d :: ds, h => by simp only [dSet, List.length_cons, ← dSet_len (ks := ks) (ds := ds) (by simpa using h)]
theorem dSet_map {x d : D} {v : V} (hx : keyB x = true) (hv : Rp K fa F v d) : ∀ {ks ds : List D} {vs : List V}, ks.all keyB = true → ks.length = ds.length → Rps K fa F vs ds →
    ∃ ws, ((zipK ks vs).map fun kv => if kv.1 = keyK x then (kv.1, v) else kv) = zipK ks ws ∧ Rps K fa F ws (dSet ks ds x d)
  | [], [], _, _, _, .nil => ⟨[], rfl, .nil⟩
  | [], _ :: _, _, _, h, _ => by cases h
  | _ :: _, [], _, _, h, _ => by cases h
  | k :: ks, d0 :: ds, v0 :: vs, h, l, .cons r t => by
    have h' : keyB k = true ∧ ks.all keyB = true := by simpa using h
    obtain ⟨ws, e, q⟩ := dSet_map hx hv h'.2 (by simpa using l) t
    simp only [zipK, List.map_cons, dSet, e, same_key h'.1 hx]
    by_cases z : keyK k = keyK x
    · rw [if_pos z, decide_eq_true z, if_pos rfl]; exact ⟨v :: ws, rfl, .cons hv q⟩
    · rw [if_neg z, decide_eq_false z, if_neg (by decide)]; exact ⟨v0 :: ws, rfl, .cons r q⟩
theorem dPut_put {x d : D} {v : V} (hx : keyB x = true) (hv : Rp K fa F v d) {ks ds : List D} {vs : List V} (h : ks.all keyB = true) (l : ks.length = ds.length) (r : Rps K fa F vs ds) :
    ∃ ws, L2.putK (zipK ks vs) (keyK x) v = zipK (dPut (ks, ds) x d).1 ws ∧ (dPut (ks, ds) x d).1.all keyB = true ∧ (dPut (ks, ds) x d).1.length = (dPut (ks, ds) x d).2.length ∧ Rps K fa F ws (dPut (ks, ds) x d).2 := by
  have lv : ks.length = vs.length := by rw [r.len]; exact l
  unfold L2.putK dPut
  rw [dHas_any hx h lv]
  by_cases z : dHas ks x = true
  · rw [if_pos z, if_pos z]
    obtain ⟨ws, e, q⟩ := dSet_map hx hv h l r
    exact ⟨ws, e, h, dSet_len l, q⟩
  · rw [if_neg z, if_neg z]
    refine ⟨vs ++ [v], (zipK_app lv).symm, ?_, by simp [l], r.app (.cons hv .nil)⟩
    simp only [List.all_append, h, List.all_cons, hx, List.all_nil, Bool.and_self]
end
end DL

set_option Elab.async false
set_option linter.all false
set_option maxRecDepth 100000
set_option maxHeartbeats 4000000
/-! DL3: the operations are what the language does. -/
namespace DL
open PySem PySem.Spec PyProof.Rows L2

theorem sizeL_eq : (sizeL : Nat) = sizeLine := by rw [sizeLine_eq]; rfl
/-- nothing stands there, or a table -/
def Nn (H : Hp) (a : Addr) : Prop := ∀ o, H a = some o → ∃ ps, o = .tbl ps
theorem Nn.of {H : Hp} {a : Addr} (h : H a = none) : Nn H a := fun o e => by rw [h] at e; cases e
theorem Nn.no {H : Hp} {a : Addr} {o : HO} {q : Prop} (h : Nn H a) (e : H a = some o) (n : ∀ ps, o ≠ .tbl ps) : q := let ⟨ps, z⟩ := h o e; absurd z (n ps)
theorem Nn.yes {H : Hp} {a : Addr} {o : HO} (e : H a = some o) (n : ∀ ps, o ≠ .tbl ps) : ¬ Nn H a := fun h => h.no e n
theorem Sub.none' {F H : Hp} (s : Sub F H) {p : Addr} (hp : H p = none) : F p = none := by
  cases e : F p with
  | none => rfl
  | some o => have := s p o e; rw [hp] at this; cases this
/-- nothing that stands changes, new things come -/
structure Grow (F H F' H' : Hp) : Prop where
  f : Sub F F'
  h : Sub H H'
  s : Sub F' H'
  n : ∀ a o, F' a = some o → F a = some o ∨ (H a = none ∧ ∀ ps, o ≠ .tbl ps)
  t : ∀ a ps, H' a = some (.tbl ps) → H a = some (.tbl ps)
theorem upd_tbl {H : Hp} {p : Addr} {o : HO} (n : ∀ ps, o ≠ .tbl ps) : ∀ (a : Addr) (ps : Array Value), upd H p o a = some (.tbl ps) → H a = some (.tbl ps) := fun a ps e => by
  by_cases q : a = p
  · subst q; rw [upd_same] at e; cases e; exact absurd rfl (n ps)
  · rw [upd_ne q] at e; exact e
theorem Grow.refl {F H : Hp} (s : Sub F H) : Grow F H F H := ⟨Sub.refl _, Sub.refl _, s, fun _ _ e => .inl e, fun _ _ e => e⟩
/-- a result: an own new thing, or one that stays -/
def RR (K : PySem.W.Frag) (fa : Nat → Option Addr) (H0 F H : Hp) (v : V) : Bool → D → Prop
  | true, d => ∃ a, v = .ref a ∧ Nn H0 a ∧ F a = none ∧ Cell K fa F H a d
  | false, d => Rp K fa F v d
def Rq (K : PySem.W.Frag) (fa : Nat → Option Addr) (F H : Hp) (w : Bool) (z : D) (Q : VK) : Prop :=
  ∀ v F' H', Grow F H F' H' → RR K fa H F' H' v w z → Q v H'
section
variable {K : PySem.W.Frag} {fa : Nat → Option Addr} {F H : Hp} {Q : VK}
theorem Rq.same (s : Sub F H) {v : V} {z : D} (r : Rp K fa F v z) (q : Rq K fa F H false z Q) : Q v H := q v F H (Grow.refl s) r
theorem Rq.tup (s : Sub F H) {vs : List V} {ds : List D} (r : Rps K fa F vs ds) (q : Rq K fa F H false (.tup ds) Q) : ∀ p, H p = none → Q (.ref p) (upd H p (.tup vs)) := fun p hp => by
  have fp : F p = none := by
    cases e : F p with
    | none => rfl
    | some o => have := s p o e; rw [hp] at this; cases this
  have g : Grow F H (upd F p (.tup vs)) (upd H p (.tup vs)) := ⟨Sub.new fp, Sub.new hp, s.new2, fun a o e => by
    by_cases q : a = p
    · subst q; rw [upd_same] at e; cases e; exact .inr ⟨hp, fun ps z => by cases z⟩
    · rw [upd_ne q] at e; exact .inl e, upd_tbl fun ps z => by cases z⟩
  exact q _ _ _ g (.tup (.inl (.inl upd_same)) (Rps.mono (Sub.new fp) _ r))
theorem Rq.lst (s : Sub F H) {vs : List V} {ds : List D} (r : Rps K fa F vs ds) (q : Rq K fa F H true (.lst ds) Q) : ∀ p, H p = none → Q (.ref p) (upd H p (.lst vs)) := fun p hp => by
  have fp : F p = none := by
    cases e : F p with
    | none => rfl
    | some o => have := s p o e; rw [hp] at this; cases this
  have g : Grow F H F (upd H p (.lst vs)) := ⟨Sub.refl _, Sub.new hp, s.trans (Sub.new hp), fun a o e => .inl e, upd_tbl fun ps z => by cases z⟩
  exact q _ _ _ g ⟨p, rfl, Nn.of hp, fp, vs, upd_same, r⟩
theorem Rq.dic {Q : VK} {ks ds : List D} {vs : List V} (s : Sub F H) (hk : ks.all keyB = true) (hl : ks.length = ds.length) (r : Rps K fa F vs ds) (q : Rq K fa F H true (.dic ks ds) Q) : ∀ p, H p = none → Q (.ref p) (upd H p (.dK (zipK ks vs))) := fun p hp => by
  have fp : F p = none := s.none' hp
  have g : Grow F H F (upd H p (.dK (zipK ks vs))) := ⟨Sub.refl _, Sub.new hp, s.trans (Sub.new hp), fun a o e => .inl e, upd_tbl fun ps z => by cases z⟩
  exact q _ _ _ g ⟨p, rfl, Nn.of hp, fp, vs, upd_same, hk, hl, r⟩
end
section
variable {X : Cx} {pins : List (Addr × Obj)} {σ : L2.St} {H : Hp} {s : Shared}
/-- t + u of any tuples -/
theorem catT_ok {a b : Addr} {xs ys : List V} {Q : VK} (I : Inv X pins σ H s) (ha : SqT X.K H a xs) (hb : SqT X.K H b ys) (hz : xs.length + ys.length ≤ sizeLine)
    (q0 : xs = [] → Q (.ref b) H) (q1 : ys = [] → Q (.ref a) H) (q2 : ∀ p, H p = none → Q (.ref p) (upd H p (.tup (xs ++ ys)))) :
    wpAny (model X.prog X.w) X.A (binaryOp .Add (.ref a) (.ref b)) (EP X pins σ Q) X.xe s := by
  by_cases hx : xs = []
  · obtain ⟨its, r1, p1, _⟩ := I.tuple ha
    obtain ⟨its2, r2, p2, _⟩ := I.tuple hb
    obtain ⟨⟨cls, dd, data, sl⟩, ho, hc, n, hd⟩ := id p1
    obtain ⟨⟨cls2, dd2, data2, sl2⟩, ho2, hc2, n2, hd2⟩ := id p2
    simp only at hc hd hc2 hd2
    subst hc hd hc2 hd2
    have hv : its = [] := r1.nil_iff.mpr hx
    exact concat_meets ⟨_, ho, rfl⟩ ⟨_, ho2, rfl⟩ noFill_tuple_add seq_tuple_add PySem.F.slot_tuple_add PySem.F.entry_tuple_add (PySem.F.args_tuple_add_2 _ _)
      (tuple_addW0 a b its.toArray its2.toArray n n2 dd dd2 sl sl2 (by simpa using hv)) ⟨ho, ho2, ⟨.ref b, H, I, rfl, q0 hx⟩⟩
  · exact op_catT pins s σ H (.ref a) (.ref b) _ _ _ I rfl rfl ⟨a, b, xs, ys, rfl, rfl, ha, hb, hx, hz, q1, fun _ => q2⟩
/-- t * k, k from 2 -/
theorem repT_ok {l : Addr} {k : Int} {t : Tok} {xs : List V} {Q : VK} (I : Inv X pins σ H s) (hT : SqT X.K H l xs) (hne : xs ≠ []) (h1 : 2 ≤ k) (h2 : k ≤ 16777216) (hz : xs.length * k.toNat ≤ sizeLine)
    (q : ∀ p, H p = none → Q (.ref p) (upd H p (.tup (List.replicate k.toNat xs).flatten))) :
    wpAny (model X.prog X.w) X.A (binaryOp .Mult (.ref l) (.int k t)) (EP X pins σ Q) X.xe s := by
  obtain ⟨its, r, ⟨⟨cls, dd, data, sl⟩, ho, hc, n, hd⟩, hs⟩ := I.tuple hT
  simp only at hc hd
  subst hc hd
  have hle : its.length = xs.length := r.length.symm
  have hn : its ≠ [] := fun e => hne (by
    rw [e] at hle
    exact List.eq_nil_of_length_eq_zero hle.symm)
  have hi : its.toArray.isEmpty = false := by
    cases its with
    | nil => exact absurd rfl hn
    | cons a b => rfl
  have hsz0 : its.toArray.size = xs.length := by rw [List.size_toArray, hle]
  rw [sizeLine_eq] at hz
  have hm : ((its.toArray.size : Nat) : Int) * k ≤ 16777216 := by
    rw [hsz0]
    have e : k = (k.toNat : Int) := by omega
    rw [e, ← Int.natCast_mul]
    omega
  have flen : (List.replicate k.toNat its).flatten.length ≤ sizeLine := by
    rw [PyProof.Rows.lm_len_rep_flat, hle, sizeLine_eq, Nat.mul_comm]
    exact hz
  have c0 : (decide (k < -(2 ^ 63)) || decide (k ≥ 2 ^ 63)) = false := by
    rw [decide_eq_false (by omega), decide_eq_false (by omega)] <;> rfl
  have c1 : (its.toArray.isEmpty || k == 1) = false := by
    rw [hi, Bool.false_or]
    exact beq_eq_false_iff_ne.mpr (by omega)
  have c2 : (decide (k ≤ 0) || its.toArray.isEmpty) = false := by
    rw [hi, Bool.or_false]
    exact decide_eq_false (by omega)
  have c4 : Builtin.Tuple.tupleTooMany (((its.toArray.size : Nat) : Int) * k) = false := by
    unfold Builtin.Tuple.tupleTooMany
    rw [sizeLine_eq]
    exact decide_eq_false (by omega)
  refine wpAny_binaryOp_repeat_ref (T := "tuple") (U := "int") (by decide) ⟨_, ho, rfl⟩ (fun s' => typeIs_int s' k t) noFill_tuple_mul F.fills_int_mul F.slot_int_rmul repeat_tuple F.slot_int_index.lookup
    (call_meets F.slot_int_rmul (typeIs_int s k t) F.entry_int_rmul (F.args_int_rmul_2 _ _) (int_rmul_tuple k t l its.toArray n dd sl)
      ⟨ho, rfl, ⟨_, ho, rfl⟩, call_meets F.slot_tuple_mul ⟨_, ho, rfl⟩ F.entry_tuple_mul (F.args_tuple_mul_2 _ _) (tuple_mulW l its.toArray n dd sl k t c0 c1 c2 (by omega) c4 (by rw [size_rep, List.size_toArray]; exact flen)) ⟨ho, ?_⟩⟩)
  rw [size_rep]
  refine ⟨.ref s.heap.objs.size, _, I.laid (t' := s.toks) (o := .tup (List.replicate k.toNat xs).flatten) (fun b ob q => Heap.get?_push_of_some _ q) (Nat.le_refl _) ?_, rfl, q _ (I.hok.fresh (Nat.le_refl _))⟩
  exact ⟨by rw [PyProof.Rows.lm_len_rep_flat, sizeLine_eq, Nat.mul_comm]; exact hz, _, r.rep k.toNat, IsTup.new _ _⟩
end

/-! ### the operators -/
def opOf : Operator → Option Op
  | .Add => some .add | .Sub => some .sub | .Mult => some .mul | .FloorDiv => some .fdiv | .Mod => some .mod | .Pow => some .pow
  | .LShift => some .shl | .RShift => some .shr | .BitAnd => some .band | .BitOr => some .bor | .BitXor => some .bxor
  | _ => none
theorem mulOk_cases {i j : Int} (h : mulOk i j = true) : CMul i j ∨ (i.natAbs < 2 ^ 9000 ∧ j.natAbs < 2 ^ 9000) := by
  unfold mulOk at h
  simp only [Bool.or_eq_true, Bool.and_eq_true, decide_eq_true_eq] at h
  rcases h with (h | h) | h
  · exact .inl (.inl h)
  · exact .inl (.inr h)
  · exact .inr h
theorem fdivOk_cases {j : Int} (h : fdivOk j = true) : (j ≠ 0 ∧ j.natAbs < 1073741824) ∨ (0 < j ∧ j.natAbs < 2 ^ 9000) := by
  unfold fdivOk at h
  simpa only [Bool.or_eq_true, Bool.and_eq_true, decide_eq_true_eq] using h
section
variable {x y z : D} {w : Bool}
theorem opD_sub (e : opD .sub x y = some (w, z)) : ∃ i j, x = .int i ∧ y = .int j ∧ w = false ∧ z = .int (i - j) := by
  unfold opD at e
  split at e <;> first | (rename_i hh; cases hh; done) | skip
  all_goals first | (cases e; exact ⟨_, _, rfl, rfl, rfl, rfl⟩) | (cases e; done)
theorem opD_fdiv (e : opD .fdiv x y = some (w, z)) : ∃ i j, x = .int i ∧ y = .int j ∧ (fdivOk j = true) ∧ w = false ∧ z = .int (i.fdiv j) := by
  unfold opD at e
  split at e <;> first | (rename_i hh; cases hh; done) | skip
  all_goals first | (cases e; done) | skip
  all_goals (split at e <;> first | (rename_i hc; cases e; exact ⟨_, _, rfl, rfl, hc, rfl, rfl⟩) | cases e)
theorem opD_mod (e : opD .mod x y = some (w, z)) : ∃ i j, x = .int i ∧ y = .int j ∧ (j ≠ 0) ∧ w = false ∧ z = .int (i.fmod j) := by
  unfold opD at e
  split at e <;> first | (rename_i hh; cases hh; done) | skip
  all_goals first | (cases e; done) | skip
  all_goals (split at e <;> first | (rename_i hc; cases e; exact ⟨_, _, rfl, rfl, hc, rfl, rfl⟩) | cases e)
theorem opD_pow (e : opD .pow x y = some (w, z)) : ∃ i j, x = .int i ∧ y = .int j ∧ (0 ≤ j ∧ j ≤ 1000000 ∧ i.natAbs < 2 ^ 64) ∧ w = false ∧ z = .int (i ^ j.toNat) := by
  unfold opD at e
  split at e <;> first | (rename_i hh; cases hh; done) | skip
  all_goals first | (cases e; done) | skip
  all_goals (split at e <;> first | (rename_i hc; cases e; exact ⟨_, _, rfl, rfl, hc, rfl, rfl⟩) | cases e)
theorem opD_shl (e : opD .shl x y = some (w, z)) : ∃ i j, x = .int i ∧ y = .int j ∧ (0 ≤ j ∧ j ≤ 1000000 ∧ i.natAbs < 2 ^ 64) ∧ w = false ∧ z = .int (i * 2 ^ j.toNat) := by
  unfold opD at e
  split at e <;> first | (rename_i hh; cases hh; done) | skip
  all_goals first | (cases e; done) | skip
  all_goals (split at e <;> first | (rename_i hc; cases e; exact ⟨_, _, rfl, rfl, hc, rfl, rfl⟩) | cases e)
theorem opD_shr (e : opD .shr x y = some (w, z)) : ∃ i j, x = .int i ∧ y = .int j ∧ (0 ≤ j) ∧ w = false ∧ z = .int (i / 2 ^ j.toNat) := by
  unfold opD at e
  split at e <;> first | (rename_i hh; cases hh; done) | skip
  all_goals first | (cases e; done) | skip
  all_goals (split at e <;> first | (rename_i hc; cases e; exact ⟨_, _, rfl, rfl, hc, rfl, rfl⟩) | cases e)
theorem opD_band (e : opD .band x y = some (w, z)) : ∃ i j, x = .int i ∧ y = .int j ∧ w = false ∧ z = .int (Builtin.bitAnd i j) := by
  unfold opD at e
  split at e <;> first | (rename_i hh; cases hh; done) | skip
  all_goals first | (cases e; exact ⟨_, _, rfl, rfl, rfl, rfl⟩) | (cases e; done)
theorem opD_bor (e : opD .bor x y = some (w, z)) : ∃ i j, x = .int i ∧ y = .int j ∧ w = false ∧ z = .int (Builtin.bitOr i j) := by
  unfold opD at e
  split at e <;> first | (rename_i hh; cases hh; done) | skip
  all_goals first | (cases e; exact ⟨_, _, rfl, rfl, rfl, rfl⟩) | (cases e; done)
theorem opD_bxor (e : opD .bxor x y = some (w, z)) : ∃ i j, x = .int i ∧ y = .int j ∧ w = false ∧ z = .int (Builtin.bitXor i j) := by
  unfold opD at e
  split at e <;> first | (rename_i hh; cases hh; done) | skip
  all_goals first | (cases e; exact ⟨_, _, rfl, rfl, rfl, rfl⟩) | (cases e; done)
theorem opD_mul (e : opD .mul x y = some (w, z)) : (∃ i j, x = .int i ∧ y = .int j ∧ mulOk i j = true ∧ w = false ∧ z = .int (i * j)) ∨
    (∃ xs k, x = .lst xs ∧ y = .int k ∧ xs.length * k.toNat ≤ sizeL ∧ -(2 ^ 63) ≤ k ∧ k < 2 ^ 63 ∧ w = true ∧ z = .lst (List.replicate k.toNat xs).flatten) ∨
    (∃ xs k, x = .tup xs ∧ y = .int k ∧ xs.isEmpty = false ∧ 2 ≤ k ∧ k ≤ 16777216 ∧ xs.length * k.toNat ≤ sizeL ∧ w = false ∧ z = .tup (List.replicate k.toNat xs).flatten) := by
  unfold opD at e
  split at e <;> first | (rename_i hh; cases hh; done) | skip
  · split at e
    · rename_i hc; cases e; exact .inl ⟨_, _, rfl, rfl, hc, rfl, rfl⟩
    · cases e
  · split at e
    · rename_i hc; cases e; exact .inr (.inl ⟨_, _, rfl, rfl, hc.1, hc.2.1, hc.2.2, rfl, rfl⟩)
    · cases e
  · split at e
    · rename_i hc; cases e; exact .inr (.inr ⟨_, _, rfl, rfl, hc.1, hc.2.1, hc.2.2.1, hc.2.2.2, rfl, rfl⟩)
    · cases e
  · cases e
end
/-- an operator by data -/
def rOp (K : PySem.W.Frag) (fa : Nat → Option Addr) (o : Op) : R2 := fun v u H Q => ∃ F x y w z, Sub F H ∧ Rp1 K fa F H v x ∧ Rp1 K fa F H u y ∧ opD o x y = some (w, z) ∧ Rq K fa F H w z Q
section
variable {X : Cx} {fa : Nat → Option Addr}
theorem strB_app {x y : List Nat} (h : strB x = true) (g : strB y = true) : strB (x ++ y) = true := by
  unfold strB at *
  rw [List.all_append, h, g]; rfl
theorem op_ok {op : Operator} {o : Op} (ho : opOf op = some o) : OpR X (binaryOp op) (rOp X.K fa o) := by
  intro pins s σ H v u vv uu Q I rv ru h
  obtain ⟨F, x, y, w, z, sb, hx, hy, e, q⟩ := h
  cases op <;> simp only [opOf, Option.some.injEq] at ho <;> first | (cases ho; done) | skip
  all_goals subst ho
  case Add =>
    unfold opD at e
    split at e
    all_goals first | (simp at *; done) | skip
    all_goals try (rename_i hh; first | (cases hh; done) | skip)
    · cases e
      obtain rfl := hx.int
      obtain rfl := hy.int
      exact op_add pins s σ H _ _ _ _ _ I rv ru ⟨_, _, rfl, rfl, Rq.same sb (.int _) q⟩
    · split at e
      · rename_i hl
        cases e
        obtain ⟨a, vs, rfl, ha, ra⟩ := hx.lst sb
        obtain ⟨b, ws, rfl, hb, rb⟩ := hy.lst sb
        refine op_cat pins s σ H _ _ _ _ _ I rv ru ⟨a, b, vs, ws, rfl, rfl, ha, hb, ?_, Rq.lst sb (ra.app rb) q⟩
        rw [ra.len, rb.len, ← sizeL_eq]; exact hl
      · cases e
    · split at e
      · rename_i hl
        cases e
        obtain ⟨a, vs, rfl, ha, ra⟩ := hx.tup sb
        obtain ⟨b, ws, rfl, hb, rb⟩ := hy.tup sb
        cases rv; cases ru
        refine catT_ok I ha hb (by rw [ra.len, rb.len, ← sizeL_eq]; exact hl) (fun z => ?_) (fun z => ?_) (Rq.tup sb (ra.app rb) q)
        · subst z
          cases ra
          rcases hy with hy | ⟨_, _, c⟩
          · exact Rq.same sb hy q
          · exact c.elim
        · subst z
          cases rb
          rw [List.append_nil] at q
          rcases hx with hx | ⟨_, _, c⟩
          · exact Rq.same sb hx q
          · exact c.elim
      · cases e
    · split at e
      · rename_i a b hl
        cases e
        obtain ⟨rfl, g1⟩ := hx.str
        obtain ⟨rfl, g2⟩ := hy.str
        have ee : (Sx a ++ Sx b : Str) = Sx (a ++ b) := SX.S_cat a b
        refine op_add_str pins s σ H _ _ _ _ _ I rv ru ⟨Sx a, Sx b, rfl, rfl, by rw [SX.S_len, SX.S_len, ← sizeL_eq]; exact hl, ?_⟩
        rw [ee]
        exact Rq.same sb (.str _ (strB_app g1 g2)) q
      · cases e
  case Sub =>
    obtain ⟨i, j, rfl, rfl, rfl, rfl⟩ := opD_sub e
    obtain rfl := hx.int
    obtain rfl := hy.int
    exact op_sub pins s σ H _ _ _ _ _ I rv ru ⟨_, _, rfl, rfl, Rq.same sb (.int _) q⟩
  case Mult =>
    rcases opD_mul e with ⟨i, j, rfl, rfl, hc, rfl, rfl⟩ | ⟨xs, k, rfl, rfl, h1, h2, h3, rfl, rfl⟩ | ⟨xs, k, rfl, rfl, h0, h1, h2, h3, rfl, rfl⟩
    · obtain rfl := hx.int
      obtain rfl := hy.int
      rcases mulOk_cases hc with h | h
      · exact op_mul pins s σ H _ _ _ _ _ I rv ru ⟨_, _, rfl, rfl, h, Rq.same sb (.int _) q⟩
      · exact op_mulW pins s σ H _ _ _ _ _ I rv ru ⟨_, _, rfl, rfl, wide_mul h.1 h.2 (by decide) (by decide) (by decide), Rq.same sb (.int _) q⟩
    · obtain ⟨a, vs, rfl, ha, ra⟩ := hx.lst sb
      obtain rfl := hy.int
      exact op_rep pins s σ H _ _ _ _ _ I rv ru ⟨a, k, vs, rfl, rfl, ha, h2, h3, by rw [ra.len, ← sizeL_eq]; exact h1, Rq.lst sb (ra.rep _) q⟩
    · obtain ⟨a, vs, rfl, ha, ra⟩ := hx.tup sb
      obtain rfl := hy.int
      obtain ⟨t, rfl⟩ := ru
      cases rv
      refine repT_ok I ha (fun z => ?_) h1 h2 (by rw [ra.len, ← sizeL_eq]; exact h3) (Rq.tup sb (ra.rep _) q)
      subst z
      cases ra
      cases h0
  case FloorDiv =>
    obtain ⟨i, j, rfl, rfl, hc, rfl, rfl⟩ := opD_fdiv e
    obtain rfl := hx.int
    obtain rfl := hy.int
    rcases fdivOk_cases hc with h | h
    · exact op_fdivN pins s σ H _ _ _ _ _ I rv ru ⟨_, _, rfl, rfl, h, Rq.same sb (.int _) q⟩
    · refine op_fdivW pins s σ H _ _ _ _ _ I rv ru ⟨_, _, rfl, rfl, wide_div h.1 h.2 (by decide) (by decide), ?_⟩
      show Q (.int (i / j)) H
      rw [← Int.fdiv_eq_ediv_of_nonneg _ (Int.le_of_lt h.1)]
      exact Rq.same sb (.int _) q
  case Mod =>
    obtain ⟨i, j, rfl, rfl, hc, rfl, rfl⟩ := opD_mod e
    obtain rfl := hx.int
    obtain rfl := hy.int
    exact op_modN pins s σ H _ _ _ _ _ I rv ru ⟨_, _, rfl, rfl, hc, Rq.same sb (.int _) q⟩
  case Pow =>
    obtain ⟨i, j, rfl, rfl, hc, rfl, rfl⟩ := opD_pow e
    obtain rfl := hx.int
    obtain rfl := hy.int
    exact op_pow pins s σ H _ _ _ _ _ I rv ru ⟨_, _, rfl, rfl, hc, Rq.same sb (.int _) q⟩
  case LShift =>
    obtain ⟨i, j, rfl, rfl, hc, rfl, rfl⟩ := opD_shl e
    obtain rfl := hx.int
    obtain rfl := hy.int
    exact op_shl pins s σ H _ _ _ _ _ I rv ru ⟨_, _, rfl, rfl, hc, Rq.same sb (.int _) q⟩
  case RShift =>
    obtain ⟨i, j, rfl, rfl, hc, rfl, rfl⟩ := opD_shr e
    obtain rfl := hx.int
    obtain rfl := hy.int
    exact op_shr pins s σ H _ _ _ _ _ I rv ru ⟨_, _, rfl, rfl, hc, Rq.same sb (.int _) q⟩
  case BitAnd =>
    obtain ⟨i, j, rfl, rfl, rfl, rfl⟩ := opD_band e
    obtain rfl := hx.int
    obtain rfl := hy.int
    exact op_and pins s σ H _ _ _ _ _ I rv ru ⟨_, _, rfl, rfl, Rq.same sb (.int _) q⟩
  case BitOr =>
    obtain ⟨i, j, rfl, rfl, rfl, rfl⟩ := opD_bor e
    obtain rfl := hx.int
    obtain rfl := hy.int
    exact op_or pins s σ H _ _ _ _ _ I rv ru ⟨_, _, rfl, rfl, Rq.same sb (.int _) q⟩
  case BitXor =>
    obtain ⟨i, j, rfl, rfl, rfl, rfl⟩ := opD_bxor e
    obtain rfl := hx.int
    obtain rfl := hy.int
    exact op_xor pins s σ H _ _ _ _ _ I rv ru ⟨_, _, rfl, rfl, Rq.same sb (.int _) q⟩
end
end DL

set_option Elab.async false
set_option linter.all false
set_option maxRecDepth 100000
set_option maxHeartbeats 4000000
/-! DL3a: dicts, sorted, sets. -/
namespace DL
open PySem PySem.Spec PyProof.Rows L2

/-! ### dict(pairs) -/
section
variable {K : PySem.W.Frag} {fa : Nat → Option Addr} {F H : Hp}
theorem prs_ex (sb : Sub F H) : ∀ {vs : List V} {ps : List D}, Rps K fa F vs ps → ps.all prB = true →
    ∃ (as : List Addr) (kvs : List (L2.Key × V)), vs = as.map V.ref ∧ Paired (fun p kv => SqT K H p [kV kv.1, kv.2]) as kvs ∧
      Paired (fun (kv : L2.Key × V) p => keyB (prK p) = true ∧ kv.1 = keyK (prK p) ∧ Rp K fa F kv.2 (prV p)) kvs ps
  | _, [], .nil, _ => ⟨[], [], rfl, .nil, .nil⟩
  | _, p :: ps, @Rps.cons _ _ _ v vs _ _ r t, h => by
    rw [List.all_cons, Bool.and_eq_true] at h
    obtain ⟨as, kvs, e, q1, q2⟩ := prs_ex sb t h.2
    have hp := h.1
    unfold prB at hp
    split at hp
    · rename_i k v0
      cases r with | tup a b =>
      cases b with | cons rk b =>
      cases b with | cons rv b =>
      cases b
      have ek : _ = L2.kV (keyK k) := Rp1.key (H := H) (.inl rk) hp
      subst ek
      exact ⟨_ :: as, (keyK k, _) :: kvs, by rw [e]; rfl, .cons (sqT_mono sb a) q1, .cons ⟨hp, rfl, rv⟩ q2⟩
    · cases hp
theorem dOf_go : ∀ {kvs : List (L2.Key × V)} {ps : List D}, Paired (fun (kv : L2.Key × V) p => keyB (prK p) = true ∧ kv.1 = keyK (prK p) ∧ Rp K fa F kv.2 (prV p)) kvs ps →
    ∀ {ks ds : List D} {vs : List V}, ks.all keyB = true → ks.length = ds.length → Rps K fa F vs ds →
    ∃ ws, mergeK (zipK ks vs) kvs = zipK (ps.foldl (fun a p => dPut a (prK p) (prV p)) (ks, ds)).1 ws ∧ (ps.foldl (fun a p => dPut a (prK p) (prV p)) (ks, ds)).1.all keyB = true ∧
      (ps.foldl (fun a p => dPut a (prK p) (prV p)) (ks, ds)).1.length = (ps.foldl (fun a p => dPut a (prK p) (prV p)) (ks, ds)).2.length ∧ Rps K fa F ws (ps.foldl (fun a p => dPut a (prK p) (prV p)) (ks, ds)).2
  | _, _, .nil, ks, ds, vs, h, l, r => ⟨vs, rfl, h, l, r⟩
  | _, _, @Paired.cons _ _ _ kv p kvs ps q t, ks, ds, vs, h, l, r => by
    obtain ⟨q1, q2, q3⟩ := q
    obtain ⟨ws, e, h2, l2, r2⟩ := dPut_put q1 q3 h l r
    obtain ⟨ws2, e2, z⟩ := dOf_go t h2 l2 r2
    refine ⟨ws2, ?_, z⟩
    rw [List.foldl_cons, ← e2, ← e, ← q2]
    rfl
end

/-! ### there is one sorted list -/
theorem insI_perm (x : Int) : ∀ l : List Int, (insI x l).Perm (x :: l)
  | [] => .refl _
  | y :: ys => by
    unfold insI
    split
    · exact .refl _
    · exact ((insI_perm x ys).cons y).trans (.swap x y ys)
theorem sortI_perm : ∀ l : List Int, (sortI l).Perm l
  | [] => .refl _
  | x :: l => (insI_perm x _).trans ((sortI_perm l).cons x)
theorem insI_pw {x : Int} : ∀ {l : List Int}, l.Pairwise (· ≤ ·) → (insI x l).Pairwise (· ≤ ·)
  | [], _ => List.pairwise_singleton _ _
  | y :: ys, h => by
    obtain ⟨h1, h2⟩ := List.pairwise_cons.mp h
    unfold insI
    split
    · rename_i hx
      exact List.pairwise_cons.mpr ⟨fun z hz => (List.mem_cons.mp hz).elim (fun e => by omega) fun m => by have := h1 z m; omega, h⟩
    · rename_i hx
      refine List.pairwise_cons.mpr ⟨fun z hz => ?_, insI_pw h2⟩
      rcases List.mem_cons.mp ((insI_perm x ys).mem_iff.mp hz) with e | m
      · omega
      · exact h1 z m
theorem sortI_pw : ∀ l : List Int, (sortI l).Pairwise (· ≤ ·)
  | [] => List.Pairwise.nil
  | _ :: l => insI_pw (sortI_pw l)
theorem pw_uniq {α : Type} {r : α → α → Prop} (asym : ∀ x y, r x y → r y x → x = y) : ∀ {l m : List α}, l.Pairwise r → m.Pairwise r → l.Perm m → l = m
  | [], m, _, _, p => (List.Perm.eq_nil p.symm).symm
  | x :: l, [], _, _, p => absurd p.length_eq (by simp)
  | x :: l, y :: m, hl, hm, p => by
    obtain ⟨l1, l2⟩ := List.pairwise_cons.mp hl
    obtain ⟨m1, m2⟩ := List.pairwise_cons.mp hm
    have e : x = y := by
      rcases List.mem_cons.mp (p.mem_iff.mp List.mem_cons_self) with e | a
      · exact e
      · rcases List.mem_cons.mp (p.mem_iff.mpr List.mem_cons_self) with e | b
        · exact e.symm
        · exact asym x y (l1 y b) (m1 x a)
    subst e
    rw [pw_uniq asym l2 m2 p.cons_inv]
theorem sortI_uniq {l m : List Int} (h : m.Pairwise (· ≤ ·)) (p : m.Perm l) : m = sortI l :=
  pw_uniq (fun x y a b => Int.le_antisymm a b) h (sortI_pw l) (p.trans (sortI_perm l).symm)
theorem insU_mem {x z : Int} : ∀ {l : List Int}, z ∈ insU x l ↔ z = x ∨ z ∈ l
  | [] => by simp [insU]
  | y :: ys => by
    unfold insU
    split
    · simp
    · split
      · rename_i e; subst e; simp
      · simp only [List.mem_cons, insU_mem (l := ys)]
        constructor
        · rintro (h | h | h)
          · exact .inr (.inl h)
          · exact .inl h
          · exact .inr (.inr h)
        · rintro (h | h | h)
          · exact .inr (.inl h)
          · exact .inl h
          · exact .inr (.inr h)
theorem sortU_mem {z : Int} : ∀ {l : List Int}, z ∈ sortU l ↔ z ∈ l
  | [] => Iff.rfl
  | x :: l => by
    show z ∈ insU x (sortU l) ↔ _
    rw [insU_mem, sortU_mem (l := l), List.mem_cons]
theorem insU_pw {x : Int} : ∀ {l : List Int}, l.Pairwise (· < ·) → (insU x l).Pairwise (· < ·)
  | [], _ => List.pairwise_singleton _ _
  | y :: ys, h => by
    obtain ⟨h1, h2⟩ := List.pairwise_cons.mp h
    unfold insU
    split
    · rename_i hx
      exact List.pairwise_cons.mpr ⟨fun z hz => (List.mem_cons.mp hz).elim (fun e => by omega) fun m => by have := h1 z m; omega, h⟩
    · split
      · exact h
      · rename_i hx hy
        refine List.pairwise_cons.mpr ⟨fun z hz => ?_, insU_pw h2⟩
        rcases insU_mem.mp hz with e | m
        · omega
        · exact h1 z m
theorem sortU_pw : ∀ l : List Int, (sortU l).Pairwise (· < ·)
  | [] => List.Pairwise.nil
  | _ :: l => insU_pw (sortU_pw l)
theorem pw_lt_uniq : ∀ {l m : List Int}, l.Pairwise (· < ·) → m.Pairwise (· < ·) → (∀ z, z ∈ l ↔ z ∈ m) → l = m
  | [], [], _, _, _ => rfl
  | [], y :: m, _, _, h => by have := (h y).mpr List.mem_cons_self; cases this
  | x :: l, [], _, _, h => by have := (h x).mp List.mem_cons_self; cases this
  | x :: l, y :: m, hl, hm, h => by
    obtain ⟨l1, l2⟩ := List.pairwise_cons.mp hl
    obtain ⟨m1, m2⟩ := List.pairwise_cons.mp hm
    have e : x = y := by
      rcases List.mem_cons.mp ((h x).mp List.mem_cons_self) with e | a
      · exact e
      · rcases List.mem_cons.mp ((h y).mpr List.mem_cons_self) with e | b
        · exact e.symm
        · have := l1 y b; have := m1 x a; omega
    subst e
    rw [pw_lt_uniq l2 m2 fun z => ⟨fun hz => by
      rcases List.mem_cons.mp ((h z).mp (List.mem_cons_of_mem _ hz)) with e | a
      · have := l1 z hz; omega
      · exact a, fun hz => by
      rcases List.mem_cons.mp ((h z).mpr (List.mem_cons_of_mem _ hz)) with e | a
      · have := m1 z hz; omega
      · exact a⟩]
theorem sortU_uniq {l m : List Int} (h : m.Pairwise (· < ·)) (p : ∀ z, z ∈ m ↔ z ∈ l) : m = sortU l :=
  pw_lt_uniq h (sortU_pw l) fun z => (p z).trans sortU_mem.symm
theorem insP_perm (x : D) : ∀ l : List D, (insP x l).Perm (x :: l)
  | [] => .refl _
  | y :: ys => by
    unfold insP
    split
    · exact .refl _
    · exact ((insP_perm x ys).cons y).trans (.swap x y ys)
theorem sortP_perm : ∀ l : List D, (sortP l).Perm l
  | [] => .refl _
  | x :: l => (insP_perm x _).trans ((sortP_perm l).cons x)
theorem insP_pw {x : D} : ∀ {l : List D}, l.Pairwise (fun a b => fstI a ≤ fstI b) → (insP x l).Pairwise (fun a b => fstI a ≤ fstI b)
  | [], _ => List.pairwise_singleton _ _
  | y :: ys, h => by
    obtain ⟨h1, h2⟩ := List.pairwise_cons.mp h
    unfold insP
    split
    · rename_i hx
      exact List.pairwise_cons.mpr ⟨fun z hz => (List.mem_cons.mp hz).elim (fun e => by subst e; omega) fun m => by have := h1 z m; omega, h⟩
    · rename_i hx
      refine List.pairwise_cons.mpr ⟨fun z hz => ?_, insP_pw h2⟩
      rcases List.mem_cons.mp ((insP_perm x ys).mem_iff.mp hz) with e | m
      · subst e; omega
      · exact h1 z m
theorem sortP_pw : ∀ l : List D, (sortP l).Pairwise (fun a b => fstI a ≤ fstI b)
  | [] => List.Pairwise.nil
  | _ :: l => insP_pw (sortP_pw l)
theorem nodup_inj {α : Type} {β : Type} {f : α → β} : ∀ {l : List α}, (l.map f).Nodup → ∀ x ∈ l, ∀ y ∈ l, f x = f y → x = y
  | [], _, x, hx, _, _, _ => by cases hx
  | a :: l, h, x, hx, y, hy, e => by
    rw [List.map_cons, List.nodup_cons] at h
    rcases List.mem_cons.mp hx with rfl | hx'
    · rcases List.mem_cons.mp hy with rfl | hy'
      · rfl
      · exact absurd (List.mem_map.mpr ⟨y, hy', e.symm⟩) h.1
    · rcases List.mem_cons.mp hy with rfl | hy'
      · exact absurd (List.mem_map.mpr ⟨x, hx', e⟩) h.1
      · exact nodup_inj h.2 x hx' y hy' e
theorem sortP_uniq {l m : List D} (n : (l.map fstI).Nodup) (h : m.Pairwise (fun a b => fstI a ≤ fstI b)) (p : m.Perm l) : m = sortP l := by
  have key : ∀ {a b : List D}, a.Pairwise (fun a b => fstI a ≤ fstI b) → b.Pairwise (fun a b => fstI a ≤ fstI b) → a.Perm b → (a.map fstI).Nodup → a = b := by
    intro a
    induction a with
    | nil => intro b _ _ p _; exact (List.Perm.eq_nil p.symm).symm
    | cons x a ih =>
      intro b ha hb p n
      cases b with
      | nil => exact absurd p.length_eq (by simp)
      | cons y b =>
        obtain ⟨l1, l2⟩ := List.pairwise_cons.mp ha
        obtain ⟨m1, m2⟩ := List.pairwise_cons.mp hb
        have e : x = y := by
          refine nodup_inj n x List.mem_cons_self y (p.mem_iff.mpr List.mem_cons_self) ?_
          rcases List.mem_cons.mp (p.mem_iff.mp List.mem_cons_self) with e | c
          · rw [e]
          · rcases List.mem_cons.mp (p.mem_iff.mpr List.mem_cons_self) with e | d
            · rw [e]
            · have := l1 y d; have := m1 x c; omega
        subst e
        rw [List.map_cons, List.nodup_cons] at n
        rw [ih l2 m2 p.cons_inv n.2]
  exact key h (sortP_pw l) (p.trans (sortP_perm l).symm) ((p.map fstI).nodup_iff.mpr n)

/-! ### sorted of pairs with distinct ints in front -/
section
variable {prog : Program} {w : World} {A : Around} {E : Value → Shared → Prop} {s : Shared}
def IsPr (h : Heap) (v : Value) (x : Int) (y : Value) : Prop := ∃ a o t n, v = .ref a ∧ h.get? a = some o ∧ o.cls = .type "tuple" ∧ o.data = .seq #[.int x t, y] n
theorem pr_firsts {h : Heap} {kv : Value → Int × Value} : ∀ {vs : List Value}, (∀ v ∈ vs, IsPr h v (kv v).1 (kv v).2) → ∃ fs : List Value, PySem.W.KatTups h vs fs ∧ fs.length = vs.length ∧ ∀ f ∈ fs, ∃ x t, f = Value.int x t
  | [], _ => ⟨[], .nil, rfl, fun _ m => by cases m⟩
  | v :: vs, hp => by
    obtain ⟨fs, k1, k2, k3⟩ := pr_firsts (vs := vs) fun u m => hp u (List.mem_cons_of_mem _ m)
    obtain ⟨a, o, t, n, e, ho, hc, hd⟩ := hp v List.mem_cons_self
    subst e
    refine ⟨.int (kv (.ref a)).1 t :: fs, .cons ho hc hd rfl k1, by simp [k2], fun f m => ?_⟩
    rcases List.mem_cons.mp m with rfl | m
    · exact ⟨_, t, rfl⟩
    · exact k3 f m
theorem pr_cmp {vs : List Value} {kv : Value → Int × Value} (hp : ∀ v ∈ vs, IsPr s.heap v (kv v).1 (kv v).2) (nd : ∀ u ∈ vs, ∀ v ∈ vs, (kv u).1 = (kv v).1 → u = v) :
    SrtO.Cmp prog w A s (tuples' true) (fun p => p.1 ∈ vs) (SrtO.lt2 fun v u => decide ((kv v).1 < (kv u).1)) := by
  intro p q hm hm'
  obtain ⟨a, o, t, n, e, ho, hc, hd⟩ := hp _ hm
  obtain ⟨a', o', t', n', e', ho', hc', hd'⟩ := hp _ hm'
  have inj := nd _ hm _ hm'
  show wpAny (model prog w) A (keyLt' (tuples' true) p.1 q.1) (fun r s' => s' = s ∧ r = decide ((kv p.1).1 < (kv q.1).1)) (fun _ _ => False) s
  revert inj hd hd'
  generalize ex : (kv p.1).1 = x
  generalize ey : (kv q.1).1 = y
  generalize ex2 : (kv p.1).2 = x2
  generalize ey2 : (kv q.1).2 = y2
  intro hd hd' inj
  have e2 : x = y → x2 = y2 := fun z => by rw [← ex2, ← ey2, inj z]
  rw [e, e']
  refine PySem.W.kat_lt ho hd ho' hd' ?_
  show PySem.W.KatLex prog w A true (decide (2 < 2)) _ [(.int x t, .int y t'), (x2, y2)] 0 s
  refine PySem.W.kat_cons (SeqAt.EqAt.int_int x t y t' prog w _ _ (PySem.W.kat_go (fun z => ?_) fun z => ?_))
  · have z : x = y := by simpa using z
    rw [e2 z]
    refine PySem.W.kat_yes (PySem.W.kat_cons (SeqAt.EqAt.same y2 prog w _ _ ?_))
    exact PySem.W.kat_yes (PySem.W.kat_nil ⟨rfl, by rw [z]; exact (decide_eq_false (Int.lt_irrefl _)).symm⟩)
  · exact PySem.W.kat_no (oneLt_int ⟨rfl, rfl⟩)
theorem pr_swo (k : Value → Int) : SrtO.Swo fun v u => decide (k v < k u) := by
  refine ⟨fun x y h => ?_, fun x y z h1 h2 => ?_⟩
  · have h := of_decide_eq_true h
    exact decide_eq_false (by omega)
  · have h1 := of_decide_eq_false h1
    have h2 := of_decide_eq_false h2
    exact decide_eq_false (by omega)
theorem pr_sorted {l : Addr} {vs : List Value} {kv : Value → Int × Value} {Q : Value → Shared → Prop} (hl : s.heap.IsList l vs.toArray) (hz : vs.length ≤ sizeLine) (hp : ∀ v ∈ vs, IsPr s.heap v (kv v).1 (kv v).2) (nd : ∀ u ∈ vs, ∀ v ∈ vs, (kv u).1 = (kv v).1 → u = v)
    (h : ∀ (h' : Heap) (d : Addr) (out : List Value), out.Perm vs → out.Pairwise (fun a b => (kv a).1 ≤ (kv b).1) → (∀ b o, s.heap.get? b = some o → h'.get? b = some o) → s.heap.objs.size ≤ d → (∃ n, h'.get? d = some (seqObj "list" out.toArray n)) → Q (.ref d) { s with heap := h' }) :
    wpAny (model prog w) A (call (.builtin "sorted") [.ref l]) Q E s := by
  refine SrtO.sorted_ord (pr_swo fun v => (kv v).1) hl hz (fun h2 h₁ a ha kk => ?_) fun out hs hb => ?_
  · intro h' keep
    have hp' : ∀ v ∈ vs, IsPr h' v (kv v).1 (kv v).2 := fun v hm => by
      obtain ⟨b, o, t, n, e, ho, hc, hd⟩ := hp v hm
      refine ⟨b, o, t, n, e, keep b o (fun z => ?_) (kk b o ho).2, hc, hd⟩
      exact (kk b o ho).1 z
    obtain ⟨fs, k1, k2, k3⟩ := pr_firsts hp'
    refine ⟨tuples' true, fun Q E hq => ?_, pr_cmp (s := { s with heap := h' }) hp' nd⟩
    refine PySem.W.kat_kind (T := .type "int") k1 (by omega) (fun f hm => ?_) (by rfl) ?_
    · obtain ⟨x, t, rfl⟩ := k3 f hm
      exact PySem.W.Looks.now
    · have e : (Value.type "int" != Value.type "tuple") = true := by decide +kernel
      rw [e]; exact hq
  · exact h _ _ out hb.perm (hs.imp fun {x y} z => Int.not_lt.mp (of_decide_eq_false z)) (fun b o e => sortedAll_old e) (Nat.le_succ _) (sortedAll_at s.heap vs out.toArray)
end
section
variable {X : Cx}
def rSortedPr (K : PySem.W.Frag) : List V → Hp → VK → Prop := fun vs H Q => ∃ (a : Addr) (xs : List V) (k : V → Int × V), vs = [V.ref a] ∧ SqL K H a xs ∧ (∀ x ∈ xs, ∃ t, x = V.ref t ∧ SqT K H t [.int (k x).1, (k x).2]) ∧ (∀ u ∈ xs, ∀ v ∈ xs, (k u).1 = (k v).1 → u = v) ∧
  ∀ ys p, ys.Perm xs → ys.Pairwise (fun a b => (k a).1 ≤ (k b).1) → H p = none → Q (.ref p) (upd H p (.lst ys))
theorem cr_sortedPr : CallR X (.builtin "sorted") (rSortedPr X.K) := by
  intro pins s σ H vs us Q I r h
  obtain ⟨a, xs, k, rfl, hs, hx, nd, q⟩ := h
  obtain ⟨its, rv, hl, hz⟩ := I.list hs
  obtain ⟨u, rfl, ru⟩ := vals1 r
  obtain rfl : u = Value.ref a := ru
  obtain ⟨e1, e2⟩ := refs_back rv fun x m => let ⟨t, e, _⟩ := hx x m; ⟨t, e⟩
  have ex : ∀ v ∈ its, ∃ y, IsPr s.heap v (k (backV v)).1 y := fun v hv => by
    obtain ⟨t, rfl⟩ := e2 v hv
    have hm : V.ref t ∈ xs := by rw [e1]; exact List.mem_map.mpr ⟨_, hv, rfl⟩
    obtain ⟨t', e, ht⟩ := hx _ hm
    cases e
    obtain ⟨its2, r2, ⟨o, ho, hc, n, hd⟩, _⟩ := I.tuple ht
    obtain ⟨u1, u2, rfl, ri, rj⟩ := vals2 r2
    obtain ⟨t1, rfl⟩ := ri
    exact ⟨u2, t, o, t1, n, rfl, ho, hc, hd⟩
  let kv : Value → Int × Value := fun v => ((k (backV v)).1, if hv : v ∈ its then (ex v hv).choose else .none)
  refine pr_sorted (kv := kv) hl.isList (by rw [← rv.length]; exact hz) (fun v hv => ?_) (fun u hu v hv e => ?_) fun h' d out h1 h2 kp hd hn => ?_
  · show IsPr s.heap v (k (backV v)).1 (if hv : v ∈ its then (ex v hv).choose else .none)
    rw [dif_pos hv]
    exact (ex v hv).choose_spec
  · obtain ⟨t, rfl⟩ := e2 u hu
    obtain ⟨t', rfl⟩ := e2 v hv
    have := nd (V.ref t) (by rw [e1]; exact List.mem_map.mpr ⟨_, hu, rfl⟩) (V.ref t') (by rw [e1]; exact List.mem_map.mpr ⟨_, hv, rfl⟩) e
    cases this; rfl
  · have h3 : ∀ u ∈ out, ∃ a, u = Value.ref a := fun u hu => e2 u (h1.mem_iff.mp hu)
    obtain ⟨n, hn⟩ := hn
    have hb : (out.map backV).Perm xs := by rw [e1]; exact h1.map backV
    refine ⟨.ref d, upd H d (.lst (out.map backV)), I.laid (t' := s.toks) kp hd ⟨?_, out, n, vals_back h3, hn⟩, rfl, q _ d hb (List.pairwise_map.mpr h2) (I.hok.fresh hd)⟩
    rw [hb.length_eq]; exact hz
end
end DL

set_option Elab.async false
set_option linter.all false
set_option maxRecDepth 100000
set_option maxHeartbeats 4000000
/-! DL3s: set(list of ints), used at once. -/
namespace DL
open PySem PySem.Spec PyProof.Rows L2

/-- a new set -/
abbrev emSet (w : World) : Obj := { cls := .type "set", dict := none, data := .set #[] 0 (.fresh 0 0 (!w.params.followText "set-order")) }
section
variable {P : Program} {w : World} {A : Around} {E : Value → Shared → Prop} {s : Shared}
set_option maxRecDepth 100000 in
set_option maxHeartbeats 3200000 in
theorem set_of_list {l : Addr} {its : Array Value} (ns : List Int) {Q : Value → Shared → Prop} (hno : A.handled = none) (hL : s.heap.IsList l its) (hI : IntsAre its.toList ns) (hB : ns.length + 1 < scanBound)
    (fin : ∀ (h' : Heap) (tk c : Nat), SetR w h' s.heap.objs.size (fun j => decide (j ∈ ns)) c → c ≤ ns.length → (∀ b o, s.heap.get? b = some o → h'.get? b = some o) → Q (.ref s.heap.objs.size) { s with heap := h', toks := tk }) :
    wpAny (model P w) A (call (.type "set") [.ref l]) Q E s := by
  have isz : its.size = ns.length := by
    have z := IntsAre.length hI; rw [Array.length_toList] at z; exact z
  obtain ⟨cc, tl, hm1⟩ := F.called_set.mro
  have hm2 := F.called_set.made; have hm3 := F.called_set.sub
  refine wpAny_call (codeAny_of_tree (wpAny_pure ⟨Code.quiet_builtin _ (by decide +kernel), codeAny_builtin F.entry_type_call ?_⟩))
  rw [Around.under_plain (weight_type_call_type "set" [.ref l] []) rfl]
  have g1 := F.called_set.notType; have g2 := F.called_set.canCreate; have g3 := F.typeCall_set_1 (.ref l)
  repeat (any_goals (first | assumption | wp_step))
  refine codeAny_mono (code_set_led1 (.ref l) (E := E) (Q₁ := fun ob s1 => ob = .ref s.heap.objs.size ∧ s1 = { s with heap := s.heap.push (emSet w) }) ⟨rfl, rfl⟩) fun r s1 hr => ?_
  cases r with
  | error e => exact hr
  | ok fl =>
    cases fl with
    | ret ob =>
      obtain ⟨rfl, rfl⟩ := hr
      have hS : (s.heap.push (emSet w)).get? s.heap.objs.size = some (emSet w) := Heap.get?_push_size _ rfl
      have hT : Shared.TypeIs { s with heap := s.heap.push (emSet w) } (.ref s.heap.objs.size) "set" := ⟨_, hS, rfl⟩
      have i1 := F.called_set.init.lookup; have i2 := F.called_set.init.bind (.ref s.heap.objs.size)
      repeat (any_goals (first | assumption | wp_step))
      refine codeAny_mono (codeAny_call_builtin (R := wants (fun r s2 => r = .none ∧ ∃ h' tk c, s2 = { s with heap := h', toks := tk } ∧ SetR w h' s.heap.objs.size (fun j => decide (j ∈ ns)) c ∧ c ≤ ns.length ∧
          (∀ b o, s.heap.get? b = some o → h'.get? b = some o)) E) F.called_set.init.plain F.entry_set_init (check_set_init_1 hT ?_)) fun r2 s2 hr2 => ?_
      · obtain ⟨ol, ho, hc, nl, hd⟩ := hL
        obtain ⟨oc, od, oda, osl⟩ := ol
        simp only at hc hd
        subst hc; subst hd
        have ho1 : (s.heap.push (emSet w)).get? l = some { cls := .type "list", dict := od, data := .seq its nl, slots := osl } := Heap.get?_push_of_some _ ho
        have j1 := F.sub_list_set; have j2 := F.sub_list_frozenset
        have j3 : (Value.type "list" == Value.type "dict") = false := by decide
        have hl1 : (s.heap.push (emSet w)).IsList l its := ⟨_, ho1, rfl, nl, rfl⟩
        unfold Builtin.«set.__init__» noKeywords Builtin.Frozenset.updateFrom
        generalize hPI : pyIter = PI
        wp_walk
        subst hPI
        refine wpAny_pyIter_list hl1 ?_
        refine wpAny_bind (wpAny_runValue ?_)
        have lS : l < s.heap.objs.size := Heap.lt_size ho
        have hh3 : A.in1.in1.in1.handled = none := by simp [hno]
        have zz : (s.heap.push (emSet w)).objs.size = s.heap.objs.size + 1 := Heap.size_push ..
        have neI : l ≠ (s.heap.push (emSet w)).objs.size := by rw [zz]; exact Nat.ne_of_lt (Nat.lt_succ_of_lt lS)
        have nS : s.heap.objs.size ∉ [(s.heap.push (emSet w)).objs.size, l] := by
          rw [zz]; simp only [List.mem_cons, List.not_mem_nil, or_false, not_or]; exact ⟨Nat.ne_of_lt (Nat.lt_succ_self _), Nat.ne_of_gt lS⟩
        have hv : ∀ (i : Nat) (v : Value), its[i]? = some v → ∃ k t, ns[i]? = some k ∧ v = .int k t := fun i v q => by
          have li : i < ns.length := by rw [← isz]; exact (Array.getElem?_eq_some_iff.mp q).1
          obtain ⟨t, e⟩ := PyProof.Rows.IntsAre.int_at hI i v (by rw [Array.getElem?_toList]; exact q)
          exact ⟨ns[i], t, List.getElem?_eq_getElem li, by rw [e, List.getD_eq_getElem?_getD, List.getElem?_eq_getElem li]; rfl⟩
        refine set_update_ints ((Walks.list hh3 _ l neI its).toS) s.heap.objs.size nS ns isz hB hv (its.size - 0) 0 _ (by omega) (Nat.zero_le _) ⟨⟨_, Heap.get?_push_size _ rfl, rfl, rfl⟩, (hl1.push _)⟩ ?sA ?sB
        case sA => exact ⟨0, Nat.le_refl 0, setR_new_at (Heap.get?_push_of_some _ hS)⟩
        case sB =>
          intro s3 c3 hm h3 hS3
          obtain ⟨h', gg, dd, tt, oo⟩ := s3
          have eg : gg = s.gens := hm.gens
          have ed : dd = s.drawn := hm.drawn
          have eo : oo = s.os := hm.os
          subst eg; subst ed; subst eo
          show wpAny _ _ _ _ _ _
          refine wpAny_pure ?_
          show wpAny _ _ (ret Value.none) _ _ _
          rw [isz] at h3
          refine wpAny_pure ⟨rfl, h', tt, c3, rfl, hS3, h3, fun b o e => ?_⟩
          have hb0 : b < s.heap.objs.size := Heap.lt_size e
          refine hm.heap b o ?_ (Heap.get?_push_of_some _ (Heap.get?_push_of_some _ e))
          rw [zz]; simp only [List.mem_cons, List.not_mem_nil, or_false, not_or]; exact ⟨Nat.ne_of_lt hb0, Nat.ne_of_lt (Nat.lt_succ_of_lt hb0)⟩
      · cases r2 with
        | error e => exact hr2
        | ok fl2 =>
          cases fl2 with
          | ret r =>
            obtain ⟨rfl, h', tk, c, rfl, hS', hc', hk'⟩ := hr2
            repeat (any_goals (first | assumption | wp_step))
            exact fin _ _ _ hS' hc' hk'
          | _ => exact hr2.elim
    | _ => exact hr.elim
end
theorem setR_count {w : World} {h : Heap} {a : Addr} {ns : List Int} {c : Nat} (R : SetR w h a (fun j => decide (j ∈ ns)) c) : c = (sortU ns).length := by
  obtain ⟨o, es, ep, t, ho, h1, h2, h3, h4, h5, h6, h7, h8, _⟩ := R
  have p : (es.toList.map keyOf).Perm (sortU ns) := by
    refine (List.perm_ext_iff_of_nodup h4 ((sortU_pw ns).imp fun z => by omega)).mpr fun z => ?_
    rw [sortU_mem, ← h5 z, decide_eq_true_eq]
  have := p.length_eq
  rw [List.length_map, Array.length_toList, h8] at this
  exact this
section
variable {X : Cx}
def rSetL (w : World) (K : PySem.W.Frag) : List V → Hp → VK → Prop := fun xs H Q => ∃ (a : Addr) (ns : List Int), xs = [.ref a] ∧ SqL K H a (ns.map V.int) ∧ ns.length < 64 ∧
  ∀ p, H p = none → Q (.ref p) (upd H p (SetO w p (fun j => decide (j ∈ ns)) (sortU ns).length))
theorem cr_setL (hc : X.calm = true) : CallR X (.type "set") (rSetL X.w X.K) := by
  intro pins s σ H xs us Q I r h
  obtain ⟨a, ns, rfl, hs, h64, q⟩ := h
  obtain ⟨its, rv, hl, hz⟩ := I.list hs
  obtain ⟨u, rfl, ru⟩ := vals1 r
  obtain rfl : u = Value.ref a := ru
  have hI : IntsAre its.toArray.toList ns := by simpa using ints_of_vals rv
  refine set_of_list ns (I.ok.hd hc) hl.isList hI (by unfold scanBound; omega) fun h' tk c R hc kp => ?_
  have e := setR_count R
  subst e
  exact ⟨.ref _, upd H s.heap.objs.size (SetO X.w s.heap.objs.size _ _), I.laid (t' := tk) kp (Nat.le_refl _) (setO_new R), rfl, q _ (I.hok.fresh (Nat.le_refl _))⟩
/-- len(set(..)) -/
theorem cr_lenS : CallR X (.builtin "len") (fun vs H Q => ∃ (a : Addr) (S : Int → Bool) (n : Nat), vs = [V.ref a] ∧ H a = some (SetO X.w a S n) ∧ n < 64 ∧ Q (.int n) H) := by
  intro pins s σ H vs us Q I r h
  obtain ⟨a, S, n, rfl, ha, h64, q⟩ := h
  obtain ⟨o, es, ep, t, ho, h1, h2, h3, h4, h5, h6, h7, h8, _⟩ := setO_get I ha
  rw [Vals.ref1 r]
  refine call_len_set ho h1 h2 h7 (by rw [h8]; omega) ⟨.int n, H, I.tok _, ⟨_, by rw [h8]⟩, q⟩
end
end DL

set_option Elab.async false
set_option linter.all false
set_option maxRecDepth 100000
set_option maxHeartbeats 4000000
/-! DL3b: comparisons, places, slices, built-ins. -/
namespace DL
open PySem PySem.Spec PyProof.Rows L2

def cmOf : CmpOp → Option Cm
  | .Eq => some .eq | .NotEq => some .ne | .Lt => some .lt | .LtE => some .le | .Gt => some .gt | .GtE => some .ge
  | .Is => some .is | .IsNot => some .isNot | .In => some .isIn | .NotIn => some .notIn
def rCm (K : PySem.W.Frag) (fa : Nat → Option Addr) (o : Cm) : R2 := fun v u H Q => ∃ F x y z, Sub F H ∧ Rp1 K fa F H v x ∧ Rp1 K fa F H u y ∧ cmD o x y = some z ∧ Q (.bl z) H
theorem eqv_some {x y : D} {z : Bool} (e : D.eqv x y = some z) : x.flat = true ∧ y.flat = true ∧ min x.dep y.dep ≤ 64 ∧ z = D.beq x y := by
  unfold D.eqv at e
  split at e
  · rename_i h
    simp only [Bool.and_eq_true, decide_eq_true_eq] at h
    exact ⟨h.1.1, h.1.2, h.2, (Option.some.inj e).symm⟩
  · cases e
theorem inL_some {x : D} {ys : List D} {z : Bool} (e : D.inL x ys = some z) : x.flat = true ∧ D.flats ys = true ∧ min (D.deps ys) x.dep ≤ 64 ∧ z = ys.any fun y => D.beq y x := by
  unfold D.inL at e
  split at e
  · rename_i h
    simp only [Bool.and_eq_true, decide_eq_true_eq] at h
    exact ⟨h.1.1, h.1.2, h.2, (Option.some.inj e).symm⟩
  · cases e
theorem any_toP (x : D) (fx : x.flat = true) : ∀ ys : List D, D.flats ys = true → ((D.toPs ys).any fun y => PyData.eqv y x.toP) = ys.any fun y => D.beq y x
  | [], _ => rfl
  | y :: ys, f => by
    have f' : y.flat = true ∧ D.flats ys = true := by simpa [D.flats] using f
    simp only [D.toPs, List.any_cons, D.eqv_toP y x f'.1 fx, any_toP x fx ys f'.2]
section
variable {X : Cx} {fa : Nat → Option Addr} {pins : List (Addr × Obj)} {s : Shared} {σ : L2.St} {F H : Hp} {v u : V} {vv uu : Value} {x y : D} {z : Bool} {Q : VK}
theorem in_ok (hu : X.A.units + 200 < cLine) (I : Inv X pins σ H s) (sb : Sub F H) (rv : L2.RelV v vv) (ru : L2.RelV u uu) (hx : Rp1 X.K fa F H v x) {ys : List D} (hy : Rp1 X.K fa F H u (.tup ys) ∨ Rp1 X.K fa F H u (.lst ys))
    (e : D.inL x ys = some z) : (Q (.bl z) H → wpAny (model X.prog X.w) X.A (compareOp .In vv uu) (EP X pins σ Q) X.xe s) ∧ (Q (.bl (!z)) H → wpAny (model X.prog X.w) X.A (compareOp .NotIn vv uu) (EP X pins σ Q) X.xe s) := by
  obtain ⟨fx, fy, hd, rfl⟩ := inL_some e
  obtain ⟨as, r1⟩ := Dp.reads I _ v vv (hx.dp sb fx) rv
  have hroom : X.A.units + 1 + min (PyData.depthAll (D.toPs ys)) x.toP.depth < cLine := by
    rw [D.deps_toP ys fy, D.dep_toP x fx]; omega
  have lx := hx.lay fx
  rcases hy with hy | hy
  · have ft : D.flat (.tup ys) = true := by simpa [D.flat] using fy
    obtain ⟨bs, r2⟩ := Dp.reads I _ u uu (hy.dp sb ft) ru
    have ly := hy.lay ft
    simp only [D.toP, PyData.canLay0] at r2 ly
    exact ⟨fun q => SeqAt.in_tuple_reads r2 r1 ly lx hroom ⟨.bl _, H, I, rfl, by rw [any_toP x fx ys fy]; exact q⟩,
      fun q => SeqAt.notIn_tuple_reads r2 r1 ly lx hroom ⟨.bl _, H, I, rfl, by rw [any_toP x fx ys fy]; exact q⟩⟩
  · have ft : D.flat (.lst ys) = true := by simpa [D.flat] using fy
    obtain ⟨bs, r2⟩ := Dp.reads I _ u uu (hy.dp sb ft) ru
    have ly := hy.lay ft
    simp only [D.toP, PyData.canLay0] at r2 ly
    exact ⟨fun q => SeqAt.in_list_reads r2 r1 ly lx hroom ⟨.bl _, H, I, rfl, by rw [any_toP x fx ys fy]; exact q⟩,
      fun q => SeqAt.notIn_list_reads r2 r1 ly lx hroom ⟨.bl _, H, I, rfl, by rw [any_toP x fx ys fy]; exact q⟩⟩
theorem eq_ok (hu : X.A.units + 200 < cLine) (I : Inv X pins σ H s) (sb : Sub F H) (rv : L2.RelV v vv) (ru : L2.RelV u uu) (hx : Rp1 X.K fa F H v x) (hy : Rp1 X.K fa F H u y) (e : D.eqv x y = some z) :
    (Q (.bl z) H → wpAny (model X.prog X.w) X.A (compareOp .Eq vv uu) (EP X pins σ Q) X.xe s) ∧ (Q (.bl (!z)) H → wpAny (model X.prog X.w) X.A (compareOp .NotEq vv uu) (EP X pins σ Q) X.xe s) := by
  obtain ⟨fx, fy, hd, rfl⟩ := eqv_some e
  obtain ⟨as, r1⟩ := Dp.reads I _ v vv (hx.dp sb fx) rv
  obtain ⟨bs, r2⟩ := Dp.reads I _ u uu (hy.dp sb fy) ru
  have hroom : X.A.units + min x.toP.depth y.toP.depth < cLine := by
    rw [D.dep_toP x fx, D.dep_toP y fy]; omega
  exact ⟨fun q => SeqAt.compareEq_reads r1 r2 (hx.lay fx) (hy.lay fy) hroom ⟨.bl _, H, I, rfl, by rw [D.eqv_toP x y fx fy]; exact q⟩,
    fun q => SeqAt.compareNe_reads r1 r2 (hx.lay fx) (hy.lay fy) hroom ⟨.bl _, H, I, rfl, by rw [D.eqv_toP x y fx fy]; exact q⟩⟩
theorem cm_ok {op : CmpOp} {o : Cm} (ho : cmOf op = some o) (hu : X.A.units + 200 < cLine) : OpR X (compareOp op) (rCm X.K fa o) := by
  intro pins s σ H v u vv uu Q I rv ru h
  obtain ⟨F, x, y, z, sb, hx, hy, e, q⟩ := h
  cases op <;> simp only [cmOf, Option.some.injEq] at ho <;> subst ho
  case Eq => exact (eq_ok hu I sb rv ru hx hy e).1 q
  case NotEq =>
    unfold cmD at e
    obtain ⟨b, e1, rfl⟩ := Option.map_eq_some_iff.mp e
    exact (eq_ok hu I sb rv ru hx hy e1).2 q
  case In =>
    cases y <;> simp only [cmD, reduceCtorEq] at e
    · exact (in_ok hu I sb rv ru hx (.inl hy) e).1 q
    · exact (in_ok hu I sb rv ru hx (.inr hy) e).1 q
    · split at e
      · rename_i hk
        cases e
        obtain ⟨a, vs, rfl, hH, k1, k2, r⟩ := hy.dic sb
        cases ru
        refine d_in (by omega) I (by rw [hx.key hk]; exact DGet.k hH) rv fun s' I' => ⟨.bl _, H, I', rfl, ?_⟩
        rw [dHas_some hk k1 (by rw [r.len]; exact k2)]; exact q
      · cases e
  case NotIn =>
    cases y <;> simp only [cmD, reduceCtorEq] at e
    · obtain ⟨b, e1, rfl⟩ := Option.map_eq_some_iff.mp e
      exact (in_ok hu I sb rv ru hx (.inl hy) e1).2 q
    · obtain ⟨b, e1, rfl⟩ := Option.map_eq_some_iff.mp e
      exact (in_ok hu I sb rv ru hx (.inr hy) e1).2 q
    · split at e
      · rename_i hk
        cases e
        obtain ⟨a, vs, rfl, hH, k1, k2, r⟩ := hy.dic sb
        cases ru
        refine d_notIn (by omega) I (by rw [hx.key hk]; exact DGet.k hH) rv fun s' I' => ⟨.bl _, H, I', rfl, ?_⟩
        rw [dHas_some hk k1 (by rw [r.len]; exact k2)]; exact q
      · cases e
  case Lt =>
    cases x <;> cases y <;> simp only [cmD, reduceCtorEq, Option.some.injEq] at e
    subst e
    obtain rfl := hx.int
    obtain rfl := hy.int
    exact op_lt pins s σ H _ _ _ _ _ I rv ru ⟨_, _, rfl, rfl, q⟩
  case LtE =>
    cases x <;> cases y <;> simp only [cmD, reduceCtorEq, Option.some.injEq] at e
    subst e
    obtain rfl := hx.int
    obtain rfl := hy.int
    exact op_le pins s σ H _ _ _ _ _ I rv ru ⟨_, _, rfl, rfl, q⟩
  case Gt =>
    cases x <;> cases y <;> simp only [cmD, reduceCtorEq, Option.some.injEq] at e
    subst e
    obtain rfl := hx.int
    obtain rfl := hy.int
    exact op_gt pins s σ H _ _ _ _ _ I rv ru ⟨_, _, rfl, rfl, q⟩
  case GtE =>
    cases x <;> cases y <;> simp only [cmD, reduceCtorEq, Option.some.injEq] at e
    subst e
    obtain rfl := hx.int
    obtain rfl := hy.int
    exact op_ge pins s σ H _ _ _ _ _ I rv ru ⟨_, _, rfl, rfl, q⟩
  case Is =>
    cases y <;> simp only [cmD, reduceCtorEq] at e
    · obtain rfl := hy.non
      have : z = decide (v = .non) := by
        cases x <;> simp only [cmD, reduceCtorEq, Option.some.injEq] at e <;> subst e
        · rw [hx.non]; rfl
        · rw [hx.bl]; rfl
        · rw [hx.int]; rfl
        · rw [hx.str.1]; rfl
        · obtain ⟨a, vs, rfl, _⟩ := hx.tup sb; rfl
        · obtain ⟨a, vs, rfl, _⟩ := hx.lst sb; rfl
      subst this
      exact op_isN pins s σ H _ _ _ _ _ I rv ru ⟨rfl, q⟩
    · cases x <;> simp only [cmD, reduceCtorEq, Option.some.injEq] at e
      subst e
      obtain rfl := hx.bl
      obtain rfl := hy.bl
      exact op_isBl pins s σ H _ _ _ _ _ I rv ru ⟨_, _, rfl, rfl, by rw [← Bool.beq_eq_decide_eq]; exact q⟩
  case IsNot =>
    cases y <;> simp only [cmD, reduceCtorEq] at e
    · obtain rfl := hy.non
      have : z = !decide (v = .non) := by
        cases x <;> simp only [cmD, reduceCtorEq, Option.some.injEq] at e <;> subst e
        · rw [hx.non]; rfl
        · rw [hx.bl]; rfl
        · rw [hx.int]; rfl
        · rw [hx.str.1]; rfl
        · obtain ⟨a, vs, rfl, _⟩ := hx.tup sb; rfl
        · obtain ⟨a, vs, rfl, _⟩ := hx.lst sb; rfl
      subst this
      exact op_notN pins s σ H _ _ _ _ _ I rv ru ⟨rfl, q⟩
    · cases x <;> simp only [cmD, reduceCtorEq, Option.some.injEq] at e
      subst e
      obtain rfl := hx.bl
      obtain rfl := hy.bl
      exact op_notBl pins s σ H _ _ _ _ _ I rv ru ⟨_, _, rfl, rfl, by rw [← Bool.beq_eq_decide_eq]; exact q⟩
end

/-! ### places -/
theorem idx_get {α : Type} {xs : List α} {i : Int} {d : α} (e : idx xs i = some d) : ∃ j, xs[j]? = some d ∧ L2.ixN xs.length i = some j := by
  unfold idx at e
  unfold L2.ixN
  split at e
  · rename_i h
    obtain ⟨hl, _⟩ := List.getElem?_eq_some_iff.mp e
    exact ⟨_, e, by rw [if_pos h, if_pos (by omega)]⟩
  · rename_i h
    split at e
    · rename_i h2
      exact ⟨_, e, by rw [if_neg h, if_pos h2]⟩
    · cases e
theorem atI_of {α : Type} {xs : List α} {i : Int} {j : Nat} {v : α} (h : L2.ixN xs.length i = some j) (g : xs[j]? = some v) : L2.atI xs i = some v := by
  unfold L2.atI
  rw [h]; exact g
/-- x[i] by data -/
def rSub (K : PySem.W.Frag) (fa : Nat → Option Addr) : R2 := fun v u H Q => ∃ F x y z, Sub F H ∧ Rp1 K fa F H v x ∧ Rp1 K fa F H u y ∧ subD x y = some z ∧ Rq K fa F H false z Q
theorem sub_ok {X : Cx} {fa : Nat → Option Addr} : IxR X (rSub X.K fa) := by
  have hh := @ix_seq X
  intro ve se pins s σ H v u vv uu Q I rv ru h hsub
  obtain ⟨F, x, y, z, sb, hx, hy, e, q⟩ := h
  by_cases hd : ∃ ks ds, x = .dic ks ds
  · obtain ⟨ks, ds, rfl⟩ := hd
    simp only [subD] at e
    split at e
    · rename_i hk
      obtain ⟨a, vs, rfl, hH, k1, k2, r⟩ := hx.dic sb
      have g := dGet_val hk k1 r
      rw [e] at g
      obtain ⟨w, g1, g2⟩ := g
      cases rv
      obtain ⟨_, hlow, us, rel, dd⟩ := dk_of I.hok hH
      obtain ⟨w', hw, rw'⟩ := RelO.some_of (v := w) (o := PySem.valueAt us (keyK y)) (by rw [← g1]; exact rel.val _)
      rw [hy.key hk] at ru
      exact tail_any dd.typeIs PySem.F.slot_dict_getitem.lookup (wpAny_getItem_of (kV_is ru) dd.mapOf hw ⟨w, H, I.tok _, rw', Rq.same sb g2 q⟩) hsub
    · cases e
  refine hh ve se pins s σ H v u vv uu Q I rv ru ?_ hsub
  cases x <;> first | (exact absurd ⟨_, _, rfl⟩ hd) | skip
  all_goals cases y <;> simp only [subD, reduceCtorEq] at e
  · obtain ⟨a, vs, rfl, ha, ra⟩ := hx.tup sb
    obtain rfl := hy.int
    obtain ⟨j, e1, e2⟩ := idx_get e
    obtain ⟨w, g1, g2⟩ := ra.get e1
    exact .inr (.inl ⟨a, vs, _, w, rfl, rfl, ha, atI_of (by rw [ra.len]; exact e2) g1, Rq.same sb g2 q⟩)
  · obtain ⟨a, vs, rfl, ha, ra⟩ := hx.lst sb
    obtain rfl := hy.int
    obtain ⟨j, e1, e2⟩ := idx_get e
    obtain ⟨w, g1, g2⟩ := ra.get e1
    exact .inl ⟨a, vs, _, w, rfl, rfl, SqL.of ha, atI_of (by rw [ra.len]; exact e2) g1, Rq.same sb g2 q⟩

/-! ### slices -/
theorem cutIx_sIx (n d : Nat) (hd : d ≤ n) (o : Option Int) : cutIx n d o = HT.sIx n d o := by
  cases o with
  | none => rfl
  | some v =>
    have h := HT.clip_eq v n d
    unfold cutIx
    show (if v < 0 then (v + n).toNat else min v.toNat n) = _
    split at h <;> rename_i hv
    · rw [if_pos hv]; omega
    · rw [if_neg hv]; omega
theorem cut_cutV (xs : List V) (lo hi : Option Int) : cut xs lo hi = L2.cutV xs lo hi := by
  unfold cut L2.cutV
  rw [cutIx_sIx _ _ (Nat.zero_le _), cutIx_sIx _ _ (Nat.le_refl _)]
theorem Rps.cut {K : PySem.W.Frag} {fa : Nat → Option Addr} {F : Hp} {vs : List V} {ds : List D} (h : Rps K fa F vs ds) (lo hi : Option Int) : Rps K fa F (DL.cut vs lo hi) (DL.cut ds lo hi) := by
  unfold DL.cut
  rw [h.len]
  exact (h.drop _).take _
section
variable {prog : Program} {w : World} {A : Around} {E : Value → Shared → Prop} {s : Shared}
theorem getItem_tuple_whole {t sl : Addr} {items : Array Value} {vl vu : Value} {lo hi : Option Int} {Q : Value → Shared → Prop} (ht : IsTup s.heap t items) (hs : s.heap.IsSliceOf sl vl vu .none) (pl : IsPart vl lo) (pu : IsPart vu hi)
    (hw : HT.sIx items.size 0 lo = 0 ∧ HT.sIx items.size items.size hi = items.size) (h : Q (.ref t) s) : wpAny (model prog w) A (getItem (.ref t) (.ref sl)) Q E s := by
  obtain ⟨os, hos, hcs, hds⟩ := id hs
  have hTs : s.TypeIs (.ref sl) "slice" := ⟨os, hos, hcs⟩
  unfold getItem
  try with_reducible refine wpAny_holding ?_
  first | refine wpAny_bind (wpAny_pure ?_) | skip
  refine wpAny_bind (wpAny_sequenceKey ht.typeIs (by decide) ?_)
  refine wpAny_bind (wpAny_callSpecial?_slot (name := Str.ofString "__getitem__") ht.typeIs PyProof.Rows.slot_tuple_getitem
    (wpAny_call_entry PyProof.Rows.slot_tuple_getitem ht.typeIs entry_tuple_getitem ?_ (args_tuple_getitem _ _)))
  show wpAny _ _ (Builtin.Tuple.tupleItemsOf (.ref t) >>= _) _ _ s
  refine wpAny_bind (tupleItemsOf_ ht ?_)
  refine wpAny_bind (wpAny_typeOf hTs ?_)
  rw [if_pos (by decide)]
  refine wpAny_bind (HT.sliceApplied_gen hs pl pu ?_)
  rw [hw.1, hw.2]
  have hyes : ((((0 : Nat) : Int) == 0 && (1 : Int) == 1 && (items.size - 0) == items.size) = true) := by simp
  show wpAny _ _ (if ((((0 : Nat) : Int) == 0 && (1 : Int) == 1 && (items.size - 0) == items.size) = true) then _ else _) _ _ s
  rw [if_pos hyes]
  refine wpAny_bind (wpAny_bind (wpAny_typeOf ht.typeIs (wpAny_pure ?_)))
  rw [if_pos (by decide)]
  first
    | exact wpAny_bind (wpAny_rule (wpAny_pure ⟨_, rfl, wpAny_pure h⟩))
    | exact wpAny_bind (wpAny_rule ⟨_, rfl, wpAny_pure h⟩)
    | exact wpAny_rule (wpAny_pure ⟨_, rfl, wpAny_pure h⟩)
end
def rSl (K : PySem.W.Frag) (fa : Nat → Option Addr) : V → Option Int → Option Int → Hp → VK → Prop := fun v lo hi H Q => ∃ F x w z, Sub F H ∧ Rp1 K fa F H v x ∧ sliceD lo hi x = some (w, z) ∧ Rq K fa F H w z Q
theorem cut_whole {α : Type} (xs : List α) (lo hi : Option Int) (h1 : cutIx xs.length 0 lo = 0) (h2 : cutIx xs.length xs.length hi = xs.length) : cut xs lo hi = xs := by
  unfold cut
  rw [h1, h2]; simp
theorem slice_ok {X : Cx} {fa : Nat → Option Addr} : SlR X (rSl X.K fa) := by
  intro pins s σ H v vv vl vu lo hi sl Q I rv hs pl pu h
  obtain ⟨F, x, w, z, sb, hx, e, q⟩ := h
  cases x <;> simp only [sliceD, reduceCtorEq, Option.some.injEq, Prod.mk.injEq] at e
  · obtain ⟨rfl, rfl⟩ := e
    obtain ⟨a, vs, rfl, ha, ra⟩ := hx.tup sb
    rename_i ds
    by_cases hw : HT.sIx vs.length 0 lo = 0 ∧ HT.sIx vs.length vs.length hi = vs.length
    · cases rv
      obtain ⟨its, r, ht, hz⟩ := I.tuple ha
      have hlen : its.toArray.size = vs.length := by rw [List.size_toArray]; exact r.length.symm
      refine ⟨"tuple", _, PyProof.Rows.slot_tuple_getitem.lookup, ht.typeIs, ?_⟩
      refine getItem_tuple_whole ht hs pl pu (by rw [hlen]; exact hw) ⟨.ref a, H, I, rfl, ?_⟩
      have ew : cut ds lo hi = ds := cut_whole ds lo hi (by rw [← ra.len, cutIx_sIx _ _ (Nat.zero_le _)]; exact hw.1) (by rw [← ra.len, cutIx_sIx _ _ (Nat.le_refl _)]; exact hw.2)
      rw [ew] at q
      rcases hx with hx | ⟨_, _, c⟩
      · exact Rq.same sb hx q
      · exact c.elim
    · have r2 := ra.cut lo hi
      rw [cut_cutV] at r2
      exact sl_tup pins s σ H _ vv vl vu lo hi sl Q I rv hs pl pu ⟨a, vs, rfl, ha, hw, Rq.tup sb r2 q⟩
  · obtain ⟨rfl, rfl⟩ := e
    obtain ⟨a, vs, rfl, ha, ra⟩ := hx.lst sb
    have r2 := ra.cut lo hi
    rw [cut_cutV] at r2
    exact sl_list pins s σ H _ vv vl vu lo hi sl Q I rv hs pl pu ⟨a, vs, rfl, SqL.of ha, Rq.lst sb r2 q⟩

/-! ### built-ins -/
inductive Rp1s (K : PySem.W.Frag) (fa : Nat → Option Addr) (F H : Hp) : List V → List D → Prop
  | nil : Rp1s K fa F H [] []
  | cons {v : V} {d : D} {vs : List V} {ds : List D} : Rp1 K fa F H v d → Rp1s K fa F H vs ds → Rp1s K fa F H (v :: vs) (d :: ds)
def biName : Bi → String
  | .len => "len" | .abs => "abs" | .int => "int" | .all => "all" | .any => "any" | .sum => "sum" | .min => "min" | .max => "max" | .sorted => "sorted"
  | .tuple => "tuple" | .list => "list" | .set => "set" | .dict => "dict" | .str => "str" | .repr => "repr"
def biTy : Bi → Bool
  | .int => true | .tuple => true | .list => true | .set => true | .dict => true | .str => true | _ => false
def biVal (b : Bi) : Value := if biTy b then .type (biName b) else .builtin (biName b)
def rBi (K : PySem.W.Frag) (fa : Nat → Option Addr) (b : Bi) : List V → Hp → VK → Prop := fun vs H Q => ∃ F ds w z, Sub F H ∧ Rp1s K fa F H vs ds ∧ biD b ds = some (w, z) ∧ Rq K fa F H w z Q
section
variable {X : Cx} {fa : Nat → Option Addr} {K : PySem.W.Frag} {F H : Hp}
theorem Rp1s.one {vs : List V} {d : D} (h : Rp1s K fa F H vs [d]) : ∃ v, vs = [v] ∧ Rp1 K fa F H v d := by
  cases h with | cons a t => cases t; exact ⟨_, rfl, a⟩
theorem Rp1s.two {vs : List V} {d e : D} (h : Rp1s K fa F H vs [d, e]) : ∃ v u, vs = [v, u] ∧ Rp1 K fa F H v d ∧ Rp1 K fa F H u e := by
  cases h with | cons a t => cases t with | cons b t => cases t; exact ⟨_, _, rfl, a, b⟩
theorem reprI_ok {i : Int} : strB (reprI i) = true := by
  unfold strB reprI
  rw [List.all_map, List.all_eq_true]
  intro c _
  have := c.valid
  show decide (c.toNat < 0x110000) = true
  rw [decide_eq_true_eq]
  have h2 : c.toNat < 55296 ∨ (57343 < c.toNat ∧ c.toNat < 1114112) := this
  omega
theorem reprI_sx {i : Int} : (Sx (reprI i) : Str) = Str.ofString (toString i) := (Str.ofString_eq_toList (toString i)).symm
theorem none_sx : (Sx [78, 111, 110, 101] : Str) = Str.ofString "None" := by decide +kernel
theorem repr_non : CallR X (.builtin "repr") (fun xs H Q => xs = [.non] ∧ Q (.str (Sx [78, 111, 110, 101])) H) := by
  intro pins s σ H xs us Q I r h
  obtain ⟨rfl, q⟩ := h
  obtain ⟨u, rfl, ru⟩ := vals1 r
  obtain rfl : u = Value.none := ru
  rw [none_sx] at q
  exact PySem.P.repr_of_none ⟨.str _, H, I.tok _, ⟨_, rfl⟩, q⟩
theorem asInts_eq : ∀ {ds : List D} {ns : List Int}, D.asInts ds = some ns → ds = ns.map D.int
  | [], ns, e => by cases e; rfl
  | d :: ds, ns, e => by
    cases d <;> first | (cases e; done) | skip
    unfold D.asInts at e
    obtain ⟨m, e1, rfl⟩ := Option.map_eq_some_iff.mp e
    rw [asInts_eq e1]; rfl
theorem Rps.ofInts : ∀ ns : List Int, Rps K fa F (ns.map V.int) (ns.map D.int)
  | [] => .nil
  | n :: ns => .cons (.int n) (Rps.ofInts ns)
theorem Rp1s.ofRps {vs : List V} {ds : List D} (r : Rps K fa F vs ds) : ∀ v ∈ vs, ∃ d ∈ ds, Rp K fa F v d := by
  induction r using Rps.rec (motive_1 := fun _ _ _ => True) with
  | nil => intro v h; cases h
  | cons r t _ ih =>
    intro v h
    rcases List.mem_cons.mp h with rfl | h
    · exact ⟨_, List.mem_cons_self, r⟩
    · obtain ⟨d, hd, q⟩ := ih v h
      exact ⟨d, List.mem_cons_of_mem _ hd, q⟩
  | _ => trivial
/-- one of the values for each of the data, by places -/
theorem Rps.pick {vs ws : List V} {ds : List D} (r : Rps K fa F vs ds) (p : ws.Perm vs) : ∃ es, es.Perm ds ∧ Rps K fa F ws es := by
  induction p generalizing ds with
  | nil => cases r; exact ⟨[], .refl _, .nil⟩
  | cons x p ih =>
    cases r with | cons a t =>
    obtain ⟨es, p2, q⟩ := ih t
    exact ⟨_ :: es, p2.cons _, .cons a q⟩
  | swap x y l =>
    cases r with | cons a t =>
    cases t with | cons b t =>
    exact ⟨_, .swap _ _ _, .cons b (.cons a t)⟩
  | trans p1 p2 ih1 ih2 =>
    obtain ⟨es, q1, q2⟩ := ih2 r
    obtain ⟨es2, q3, q4⟩ := ih1 q2
    exact ⟨es2, q3.trans q1, q4⟩
theorem sortPr_ok {pins : List (Addr × Obj)} {s : Shared} {σ : L2.St} {us : List Value} {Q : VK} (I : Inv X pins σ H s) (sb : Sub F H) {a : Addr} {ws : List V} {xs : List D} (r : Vals [V.ref a] us) (ha : H a = some (.lst ws)) (ra : Rps X.K fa F ws xs)
    (b1 : xs.all pairI = true) (b2 : (xs.map fstI).Nodup) (q : Rq X.K fa F H true (.lst (sortP xs)) Q) : wpAny (model X.prog X.w) X.A (call (.builtin "sorted") us) (EP X pins σ Q) X.xe s := by
  have pr : ∀ {v : V} {d : D}, Rp X.K fa F v d → d ∈ xs → ∃ t y, v = V.ref t ∧ SqT X.K H t [.int (fstI d), y] := fun {v d} hr hd => by
    have := List.all_eq_true.mp b1 d hd
    unfold pairI at this
    split at this
    · cases hr with | tup t1 t2 =>
      cases t2 with | cons c1 t2 =>
      cases t2 with | cons c2 t2 =>
      cases t2
      cases c1
      exact ⟨_, _, rfl, sqT_mono sb t1⟩
    · cases this
  have ex : ∀ v ∈ ws, ∃ k : Int × V, ∃ t, v = V.ref t ∧ SqT X.K H t [.int k.1, k.2] ∧ ∃ d ∈ xs, Rp X.K fa F v d ∧ fstI d = k.1 := fun v hv => by
    obtain ⟨d, hd, q⟩ := Rp1s.ofRps ra v hv
    obtain ⟨t, y, e, h⟩ := pr q hd
    exact ⟨(fstI d, y), t, e, h, d, hd, q, rfl⟩
  let k : V → Int × V := fun v => if hv : v ∈ ws then (ex v hv).choose else (0, .non)
  have hk : ∀ v (hv : v ∈ ws), ∃ t, v = V.ref t ∧ SqT X.K H t [.int (k v).1, (k v).2] ∧ ∃ d ∈ xs, Rp X.K fa F v d ∧ fstI d = (k v).1 := fun v hv => by
    show ∃ t, v = V.ref t ∧ SqT X.K H t [.int (if hv : v ∈ ws then (ex v hv).choose else (0, .non)).1, (if hv : v ∈ ws then (ex v hv).choose else (0, .non)).2] ∧ ∃ d ∈ xs, Rp X.K fa F v d ∧ fstI d = (if hv : v ∈ ws then (ex v hv).choose else (0, .non)).1
    rw [dif_pos hv]
    exact (ex v hv).choose_spec
  -- the int in front hangs on the value alone
  have uq : ∀ {v : V} {d : D}, v ∈ ws → d ∈ xs → Rp X.K fa F v d → fstI d = (k v).1 := fun {v d} hv hd hr => by
    obtain ⟨t, e, h, _⟩ := hk v hv
    obtain ⟨t', y, e', h'⟩ := pr hr hd
    rw [e] at e'
    cases e'
    have z := congrArg (fun l : List V => l.head?) (I.tuple_inj h h')
    simp only [List.head?_cons, Option.some.injEq, V.int.injEq] at z
    exact z.symm
  have np : ∀ {vs : List V} {ds : List D}, Rps X.K fa F vs ds → (∀ v ∈ vs, v ∈ ws) → (∀ d ∈ ds, d ∈ xs) → vs.map (fun v => (k v).1) = ds.map fstI := by
    intro vs ds r
    induction r using Rps.rec (motive_1 := fun _ _ _ => True) with
    | nil => intro _ _; rfl
    | cons r t _ ih =>
      intro h1 h2
      rw [List.map_cons, List.map_cons, ih (fun v hv => h1 v (List.mem_cons_of_mem _ hv)) (fun d hd => h2 d (List.mem_cons_of_mem _ hd)), uq (h1 _ List.mem_cons_self) (h2 _ List.mem_cons_self) r]
    | _ => trivial
  have nd : (ws.map fun v => (k v).1).Nodup := by rw [np ra (fun _ h => h) (fun _ h => h)]; exact b2
  refine cr_sortedPr pins s σ H _ us Q I r ⟨a, ws, k, rfl, SqL.of ha, fun x hx => let ⟨t, e, h, _⟩ := hk x hx; ⟨t, e, h⟩, nodup_inj nd, fun ys p hp hw hn => ?_⟩
  obtain ⟨es, p2, q2⟩ := ra.pick hp
  have e1 := np q2 (fun v hv => hp.mem_iff.mp hv) (fun d hd => p2.mem_iff.mp hd)
  have e2 : es = sortP xs := by
    refine sortP_uniq b2 ?_ p2
    have : (ys.map fun v => (k v).1).Pairwise (· ≤ ·) := List.pairwise_map.mpr hw
    rw [e1] at this
    exact List.pairwise_map.mp this
  rw [e2] at q2
  exact Rq.lst sb q2 q p hn
theorem bi_ok (hc : X.calm = true) (b : Bi) : CallR X (biVal b) (rBi X.K fa b) := by
  intro pins s σ H vs us Q I r h
  obtain ⟨F, ds, w, z, sb, hx, e, q⟩ := h
  unfold biD at e
  split at e
  · cases e
    obtain ⟨v, rfl, h1⟩ := hx.one
    obtain ⟨a, ws, rfl, ha, ra⟩ := h1.tup sb
    refine call_len_seq pins s σ H _ us Q I r ⟨a, ws, rfl, .inr ha, ?_⟩
    rw [ra.len]; exact Rq.same sb (.int _) q
  · cases e
    obtain ⟨v, rfl, h1⟩ := hx.one
    obtain ⟨a, ws, rfl, ha, ra⟩ := h1.lst sb
    refine call_len_seq pins s σ H _ us Q I r ⟨a, ws, rfl, .inl (SqL.of ha), ?_⟩
    rw [ra.len]; exact Rq.same sb (.int _) q
  · cases e
    obtain ⟨v, rfl, h1⟩ := hx.one
    obtain rfl := h1.int
    exact call_abs pins s σ H _ us Q I r ⟨_, rfl, Rq.same sb (.int _) q⟩
  · cases e
    obtain ⟨v, rfl, h1⟩ := hx.one
    obtain rfl := h1.int
    exact call_int1 pins s σ H _ us Q I r (.inl ⟨_, rfl, Rq.same sb (.int _) q⟩)
  · cases e
    obtain ⟨v, rfl, h1⟩ := hx.one
    obtain rfl := h1.bl
    exact call_int1 pins s σ H _ us Q I r (.inr ⟨_, rfl, Rq.same sb (.int _) q⟩)
  · obtain ⟨bs, e1, e2⟩ := Option.map_eq_some_iff.mp e
    cases e2
    obtain ⟨v, rfl, h1⟩ := hx.one
    obtain ⟨a, ws, rfl, ha, ra⟩ := h1.lst sb
    have := ra.bls e1
    subst this
    exact cr_all hc pins s σ H _ us Q I r ⟨a, bs, rfl, SqL.of ha, Rq.same sb (.bl _) q⟩
  · obtain ⟨bs, e1, e2⟩ := Option.map_eq_some_iff.mp e
    cases e2
    obtain ⟨v, rfl, h1⟩ := hx.one
    obtain ⟨a, ws, rfl, ha, ra⟩ := h1.lst sb
    have := ra.bls e1
    subst this
    exact cr_any hc pins s σ H _ us Q I r ⟨a, bs, rfl, SqL.of ha, Rq.same sb (.bl _) q⟩
  · obtain ⟨bs, e1, e2⟩ := Option.map_eq_some_iff.mp e
    cases e2
    obtain ⟨v, rfl, h1⟩ := hx.one
    obtain ⟨a, ws, rfl, ha, ra⟩ := h1.lst sb
    have := ra.ints e1
    subst this
    exact cr_sum hc pins s σ H _ us Q I r ⟨a, bs, rfl, SqL.of ha, Rq.same sb (.int _) q⟩
  · cases e
    obtain ⟨v, u, rfl, h1, h2⟩ := hx.two
    obtain rfl := h1.int
    obtain rfl := h2.int
    exact call_max2 hc pins s σ H _ us Q I r ⟨_, _, rfl, Rq.same sb (.int _) q⟩
  · cases e
    obtain ⟨v, u, rfl, h1, h2⟩ := hx.two
    obtain rfl := h1.int
    obtain rfl := h2.int
    exact call_min2 hc pins s σ H _ us Q I r ⟨_, _, rfl, Rq.same sb (.int _) q⟩
  · cases e
    obtain ⟨v, rfl, h1⟩ := hx.one
    obtain ⟨a, ws, rfl, ha, ra⟩ := h1.tup sb
    refine call_tuple_of pins s σ H _ us Q I r ⟨a, ws, rfl, .inr ⟨ha, ?_⟩⟩
    rcases h1 with h1 | ⟨_, _, c⟩
    · exact Rq.same sb h1 q
    · exact c.elim
  · cases e
    obtain ⟨v, rfl, h1⟩ := hx.one
    obtain ⟨a, ws, rfl, ha, ra⟩ := h1.lst sb
    exact call_tuple_of pins s σ H _ us Q I r ⟨a, ws, rfl, .inl ⟨SqL.of ha, Rq.tup sb ra q⟩⟩
  · cases e
    obtain ⟨v, rfl, h1⟩ := hx.one
    obtain ⟨a, ws, rfl, ha, ra⟩ := h1.tup sb
    exact call_list_of pins s σ H _ us Q I r ⟨a, ws, rfl, .inr ha, Rq.lst sb ra q⟩
  · cases e
    obtain ⟨v, rfl, h1⟩ := hx.one
    obtain ⟨a, ws, rfl, ha, ra⟩ := h1.lst sb
    exact call_list_of pins s σ H _ us Q I r ⟨a, ws, rfl, .inl (SqL.of ha), Rq.lst sb ra q⟩
  · cases e
    obtain ⟨v, rfl, h1⟩ := hx.one
    obtain ⟨a, ws, rfl, ha, ra⟩ := h1.frz sb
    exact call_list_of pins s σ H _ us Q I r ⟨a, ws, rfl, .inl ha, Rq.lst sb ra q⟩
  · cases e
    obtain ⟨v, rfl, h1⟩ := hx.one
    obtain ⟨a, ws, rfl, ha, k1, k2, ra⟩ := h1.dic sb
    refine call_lenD pins s σ H _ us Q I r ⟨a, _, rfl, ha, ?_⟩
    rw [zipK_len (k2.trans ra.len.symm)]; exact Rq.same sb (.int _) q
  · split at e
    · rename_i hl
      cases e
      obtain ⟨v, rfl, h1⟩ := hx.one
      obtain ⟨rfl, g1⟩ := h1.str
      refine call_len_str pins s σ H _ us Q I r ⟨_, rfl, by rw [SX.S_len, ← sizeL_eq]; exact hl, ?_⟩
      rw [SX.S_len]; exact Rq.same sb (.int _) q
    · cases e
  · cases e
    obtain ⟨v, rfl, h1⟩ := hx.one
    obtain ⟨a, ws, rfl, ha, k1, k2, ra⟩ := h1.dic sb
    refine call_listD hc pins s σ H _ us Q I r ⟨a, _, rfl, .inl ha, ?_⟩
    have ez := zipK_keys (k2.trans ra.len.symm)
    have ey := congrArg (List.map kV) ez
    rw [List.map_map, List.map_map] at ey
    have := Rq.lst sb (Rps.keys k1) q
    rw [show (_ : List D).map (fun k => kV (keyK k)) = _ from ey.symm] at this
    exact this
  · split at e
    · rename_i hl
      cases e
      obtain ⟨v, rfl, h1⟩ := hx.one
      obtain rfl := h1.int
      refine SkE.call_repr_int pins s σ H _ us Q I r ⟨_, rfl, hl, ?_⟩
      have this := Rq.same sb (.str _ reprI_ok) q
      rw [reprI_sx] at this
      exact this
    · cases e
  · cases e
    obtain ⟨v, rfl, h1⟩ := hx.one
    obtain rfl := h1.non
    refine repr_non pins s σ H _ us Q I r ⟨rfl, ?_⟩
    exact Rq.same sb (.str _ (by decide)) q
  · split at e
    · rename_i hp
      cases e
      obtain ⟨v, rfl, h1⟩ := hx.one
      obtain ⟨a, ws, rfl, ha, ra⟩ := h1.lst sb
      obtain ⟨as, kvs, rfl, q1, q2⟩ := prs_ex sb ra hp
      obtain ⟨ws2, e2, z1, z2, z3⟩ := dOf_go q2 (ks := []) (ds := []) (vs := []) rfl rfl .nil
      refine call_dictP hc pins s σ H _ us Q I r ⟨a, as, kvs, rfl, SqL.of ha, q1, ?_⟩
      rw [show mergeK [] kvs = _ from e2]
      exact Rq.dic sb z1 z2 z3 q
    · cases e
  · obtain ⟨v, rfl, h1⟩ := hx.one
    obtain ⟨a, ws, rfl, ha, ra⟩ := h1.lst sb
    split at e
    · rename_i ns en
      cases e
      have := ra.ints en
      subst this
      refine cr_sortedI pins s σ H _ us Q I r ⟨a, ns, rfl, SqL.of ha, fun ns' p hp hw hn => ?_⟩
      rw [sortI_uniq hw hp]
      exact Rq.lst sb (Rps.ofInts _) q p hn
    · split at e
      · rename_i hb
        cases e
        simp only [sortPB, Bool.and_eq_true, decide_eq_true_eq] at hb
        obtain ⟨b1, b2⟩ := hb
        exact sortPr_ok I sb r ha ra b1 b2 q
      · cases e
  · obtain ⟨v, rfl, h1⟩ := hx.one
    obtain ⟨a, ws, rfl, ha, k1, k2, ra⟩ := h1.dic sb
    split at e
    · rename_i ns en
      split at e
      · rename_i h64
        cases e
        have ek := asInts_eq en
        have ez := zipK_keys (k2.trans ra.len.symm)
        refine call_sortedDI hc pins s σ H _ us Q I r ⟨a, _, ns, rfl, .inl ha, by rw [ez, ek, List.map_map]; rfl, h64, fun ns' p hp hw hn => ?_⟩
        rw [sortI_uniq hw hp]
        exact Rq.lst sb (Rps.ofInts _) q p hn
      · cases e
    · cases e
  · cases e

/-! ### isinstance -/
def tyName : Ty → String
  | .int => "int" | .bool => "bool" | .str => "str" | .tuple => "tuple" | .list => "list" | .dict => "dict"
def rIs (K : PySem.W.Frag) (fa : Nat → Option Addr) (t : Ty) : List V → Hp → VK → Prop := fun vs H Q => ∃ F v d z, Sub F H ∧ vs = [v, .ty (tyName t)] ∧ Rp1 K fa F H v d ∧ isiD t d = some z ∧ Q (.bl z) H
def dTy : D → Option String
  | .non => some "NoneType" | .bl _ => some "bool" | .int _ => some "int" | .str _ => some "str" | .tup _ => some "tuple" | .lst _ => some "list"
  | _ => none
theorem tyX_of {v : V} {d : D} (sb : Sub F H) (h : Rp1 K fa F H v d) {n : String} (e : dTy d = some n) : TyX K H v (.type n) := by
  cases d <;> simp only [dTy, Option.some.injEq, reduceCtorEq] at e <;> subst e
  · rw [h.non]; exact .base .non
  · rw [h.bl]; exact .base (.bl _)
  · rw [h.int]; exact .base (.int _)
  · rw [h.str.1]; exact .base (.str _)
  · obtain ⟨a, vs, rfl, ha, ra⟩ := h.tup sb
    rcases ha with (ha | ⟨o, ha⟩) | ⟨o, its, n, h1, h2, _⟩
    · exact .base (.tup ha)
    · exact .fTuple ha
    · exact .kTuple h1 h2
  · obtain ⟨a, vs, rfl, ha, ra⟩ := h.lst sb
    exact .base (.lst ha)
theorem isi_kit {t : Ty} {d : D} {z : Bool} (e : isiD t d = some z) : ∃ n, dTy d = some n ∧ kitB n (tyName t) = some z := by
  cases t <;> cases d <;> simp only [isiD, reduceCtorEq, Option.some.injEq] at e <;> subst e <;> exact ⟨_, rfl, by decide +kernel⟩
theorem isi_ok (t : Ty) : CallR X (.builtin "isinstance") (rIs X.K fa t) := by
  intro pins s σ H vs us Q I r h
  obtain ⟨F, v, d, z, sb, rfl, h1, e, q⟩ := h
  obtain ⟨n, e1, e2⟩ := isi_kit e
  exact call_isi pins s σ H _ us Q I r ⟨v, .ty _, .type n, .type (tyName t), z, rfl, .ty _, tyX_of sb h1 e1, kit_ty e2, q⟩
end
end DL

set_option Elab.async false
set_option linter.all false
set_option maxRecDepth 100000
set_option maxHeartbeats 4000000
/-! DL4: states, readings. -/
namespace DL
open PySem PySem.Spec PyProof.Rows L2

abbrev notTbl (o : HO) : Prop := ∀ ps, o ≠ .tbl ps
/-- what may change is at a, by slot i -/
def Ow (σ : L2.St) (ε : En) (i : Nat) (a : Addr) : Prop := ((∃ d, ε[i]? = some (Sl.own d)) ∨ ∃ d, ε[i]? = some (Sl.lnt d)) ∧ σ[i]? = some (some (V.ref a))
def Owns (σ : L2.St) (ε : En) (a : Addr) : Prop := ∃ i, Ow σ ε i a
def OwnO (σ : L2.St) (ε : En) (a : Addr) : Prop := ∃ (i : Nat) (d : D), ε[i]? = some (Sl.own d) ∧ σ[i]? = some (some (V.ref a))
def SlOk (K : PySem.W.Frag) (fa : Nat → Option Addr) (F H : Hp) (sv : Option (Option V)) : Sl → Prop
  | .no => True
  | .val d => ∃ v, sv = some (some v) ∧ Rp K fa F v d
  | .own d => ∃ a, sv = some (some (V.ref a)) ∧ F a = none ∧ Cell K fa F H a d
  | .lnt d => ∃ a, sv = some (some (V.ref a)) ∧ F a = none ∧ Cell K fa F H a d
/-- the ghosts of a law: the written part, the functions' addresses, the lambdas' tables -/
structure Gh where
  K : PySem.W.Frag
  fa : Nat → Option Addr
  T : List (Addr × Str)
/-- the tables, and no other ones -/
def TB (T : List (Addr × Str)) (H : Hp) : Prop := LamX.Tabs T H
structure Stt (g : Gh) (F H : Hp) (σ : L2.St) (ε : En) : Prop where
  sb : Sub F H
  tb : TB g.T H
  ft : ∀ a ps, F a ≠ some (.tbl ps)
  len : σ.length = ε.length
  sl : ∀ (i : Nat) (s : Sl), ε[i]? = some s → SlOk g.K g.fa F H (σ[i]?) s
  ap : ∀ (i j : Nat) (a : Addr), Ow σ ε i a → Ow σ ε j a → i = j
/-- from a state to a later one of the same slots' places -/
structure Stp (q : Bool) (σ : L2.St) (ε : En) (F H : Hp) (ε' : En) (F' H' : Hp) : Prop where
  f : Sub F F'
  n : ∀ a o, F' a = some o → F a = some o ∨ Nn H a ∨ OwnO σ ε a
  k : ∀ a o, H a = some o → notTbl o → (q = false → ¬ Owns σ ε a) → H' a = some o
  z : ∀ a, Nn H' a → Nn H a
  o : ∀ a, Owns σ ε' a → Owns σ ε a
  oo : ∀ a, OwnO σ ε' a → OwnO σ ε a
  l : ∀ (i : Nat) (d : D), ε'[i]? = some (Sl.lnt d) → ∃ d, ε[i]? = some (Sl.lnt d)
section
variable {g : Gh} {F H F' H' F2 H2 : Hp} {σ : L2.St} {ε ε' ε2 : En} {q q' : Bool}
theorem Owns.of {a : Addr} (h : OwnO σ ε a) : Owns σ ε a := let ⟨i, d, a, b⟩ := h; ⟨i, .inl ⟨d, a⟩, b⟩
theorem Stt.slO (S : Stt g F H σ ε) {i : Nat} {a : Addr} (o : Ow σ ε i a) : ∃ d, (ε[i]? = some (Sl.own d) ∨ ε[i]? = some (Sl.lnt d)) ∧ F a = none ∧ Cell g.K g.fa F H a d := by
  obtain ⟨h, hs⟩ := o
  rcases h with ⟨d, h⟩ | ⟨d, h⟩
  · obtain ⟨b, e, f, c⟩ := S.sl i _ h
    rw [hs] at e; cases e
    exact ⟨d, .inl h, f, c⟩
  · obtain ⟨b, e, f, c⟩ := S.sl i _ h
    rw [hs] at e; cases e
    exact ⟨d, .inr h, f, c⟩
theorem Cell.ex {K : PySem.W.Frag} {fa : Nat → Option Addr} {a : Addr} {d : D} (c : Cell K fa F H a d) : ∃ o, H a = some o ∧ notTbl o := by
  obtain ⟨o, h, q⟩ := c.co
  exact ⟨o, h, q.tbl⟩
theorem Cell.keep {K : PySem.W.Frag} {fa : Nat → Option Addr} {a : Addr} {d : D} (c : Cell K fa F H a d) (sf : Sub F F') (h : ∀ o, H a = some o → notTbl o → H' a = some o) : Cell K fa F' H' a d := by
  obtain ⟨o, e, q⟩ := c.co
  exact (q.mono sf).cell (h o e q.tbl)
theorem Stt.ownF (S : Stt g F H σ ε) {a : Addr} (o : Owns σ ε a) : F a = none := let ⟨_, h⟩ := o; let ⟨_, _, f, _⟩ := S.slO h; f
theorem Stt.ownH (S : Stt g F H σ ε) {a : Addr} (o : Owns σ ε a) : ∃ u, H a = some u ∧ notTbl u := let ⟨_, h⟩ := o; let ⟨_, _, _, c⟩ := S.slO h; c.ex
theorem Stp.refl : Stp q σ ε F H ε F H := ⟨Sub.refl _, fun _ _ e => .inl e, fun _ _ e _ _ => e, fun _ e => e, fun _ e => e, fun _ e => e, fun _ d e => ⟨d, e⟩⟩
theorem Stp.weak (s : Stp true σ ε F H ε' F' H') : Stp q σ ε F H ε' F' H' := ⟨s.f, s.n, fun a o e n _ => s.k a o e n (fun z => nomatch z), s.z, s.o, s.oo, s.l⟩
theorem Stp.to (s : Stp q σ ε F H ε' F' H') : Stp false σ ε F H ε' F' H' := ⟨s.f, s.n, fun a o e n h => s.k a o e n (fun _ => h rfl), s.z, s.o, s.oo, s.l⟩
theorem Stp.and (s : Stp q σ ε F H ε' F' H') (s2 : Stp q' σ ε' F' H' ε2 F2 H2) : Stp (q && q') σ ε F H ε2 F2 H2 := by
  refine ⟨s.f.trans s2.f, fun a o e => ?_, fun a o e n h => ?_, fun a e => s.z a (s2.z a e), fun a e => s.o a (s2.o a e), fun a e => s.oo a (s2.oo a e), fun i d e => let ⟨d1, e1⟩ := s2.l i d e; s.l i d1 e1⟩
  · rcases s2.n a o e with h | h | h
    · exact s.n a o h
    · exact .inr (.inl (s.z a h))
    · exact .inr (.inr (s.oo a h))
  · have h1 := s.k a o e n (fun z => h (by rw [z]; rfl))
    exact s2.k a o h1 n (fun z x => by
      cases q with
      | false => exact h rfl (s.o a x)
      | true => exact h (by rw [z]; rfl) (s.o a x))
theorem Stp.trans (s : Stp q σ ε F H ε' F' H') (s2 : Stp q σ ε' F' H' ε2 F2 H2) : Stp q σ ε F H ε2 F2 H2 := by
  have := s.and s2; rwa [Bool.and_self] at this
theorem Sub.none (s : Sub H H') {a : Addr} (e : H' a = Option.none) : H a = Option.none := by
  cases x : H a with
  | none => rfl
  | some o => rw [s a o x] at e; cases e
theorem Nn.back {a : Addr} (e : Nn H' a) (s : Sub H H') : Nn H a := fun o h => e o (s a o h)
theorem Stp.grow (gr : Grow F H F' H') : Stp q σ ε F H ε F' H' :=
  ⟨gr.f, fun a o e => (gr.n a o e).imp id (fun x => .inl (Nn.of x.1)), fun a o e _ _ => gr.h a o e, fun a e => e.back gr.h, fun _ e => e, fun _ e => e, fun _ d e => ⟨d, e⟩⟩
theorem Stt.grow (S : Stt g F H σ ε) (gr : Grow F H F' H') : Stt g F' H' σ ε := by
  have fo : ∀ a d, F a = none → Cell g.K g.fa F H a d → F' a = none := fun a d f c => by
    cases x : F' a with
    | none => rfl
    | some o =>
      rcases gr.n a o x with y | y
      · rw [f] at y; cases y
      · obtain ⟨u, hu, _⟩ := c.ex
        rw [hu] at y; cases y.1
  refine ⟨gr.s, LamX.Tabs.ext S.tb gr.h, fun a ps e => (gr.n a _ e).elim (S.ft a ps) (fun x => x.2 ps rfl), S.len, fun i s h => ?_, S.ap⟩
  have := S.sl i s h
  cases s with
  | no => trivial
  | val d => obtain ⟨v, e, r⟩ := this; exact ⟨v, e, r.mono gr.f d⟩
  | own d => obtain ⟨a, e, f, c⟩ := this; exact ⟨a, e, fo a d f c, c.keep gr.f fun o e _ => gr.h a o e⟩
  | lnt d => obtain ⟨a, e, f, c⟩ := this; exact ⟨a, e, fo a d f c, c.keep gr.f fun o e _ => gr.h a o e⟩
/-- an own temporary, or what stays, later on -/
theorem RR.later {v : V} {w : Bool} {z : D} {H0 : Hp} (r : RR g.K g.fa H0 F H v w z) (S : Stt g F H σ ε) (s : Stp q σ ε F H ε' F' H') (h0 : ∀ a, Owns σ ε a → ¬ Nn H0 a) :
    Rp1 g.K g.fa F' H' v z := by
  cases w with
  | false => exact .inl (Rp.mono s.f z r)
  | true =>
    obtain ⟨a, rfl, hn, f, c⟩ := r
    exact .inr ⟨a, rfl, c.keep s.f fun o e n => s.k a o e n fun _ x => h0 a x hn⟩
theorem RR.now {v : V} {w : Bool} {z : D} {H0 : Hp} (r : RR g.K g.fa H0 F H v w z) : Rp1 g.K g.fa F H v z := by
  cases w with
  | false => exact .inl r
  | true => obtain ⟨a, rfl, hn, f, c⟩ := r; exact .inr ⟨a, rfl, c⟩
theorem RR.back {v : V} {w : Bool} {z : D} {H0 H1 : Hp} (r : RR g.K g.fa H1 F H v w z) (h : ∀ a, Nn H1 a → Nn H0 a) : RR g.K g.fa H0 F H v w z := by
  cases w with
  | false => exact r
  | true => obtain ⟨a, e, hn, f, c⟩ := r; exact ⟨a, e, h a hn, f, c⟩
theorem Rp1.later {v : V} {z : D} (r : Rp1 g.K g.fa F H v z) (s : Stp true σ ε F H ε' F' H') : Rp1 g.K g.fa F' H' v z := by
  rcases r with r | ⟨a, e, c⟩
  · exact .inl (Rp.mono s.f z r)
  · exact .inr ⟨a, e, c.keep s.f fun o e n => s.k a o e n fun x => nomatch x⟩
end
end DL

set_option Elab.async false
set_option linter.all false
set_option maxRecDepth 100000
set_option maxHeartbeats 4000000
/-! DL5: readings of expressions. -/
namespace DL
open PySem PySem.Spec PyProof.Rows L2

/-- the ghosts with the exceptions' classes and their fields -/
structure Gx extends Gh where
  ca : Nat → Addr
  an : Nat → Option Str
def ExR (g : Gx) (x : Ex) (cls : Value) (d : Option Addr) (F H : Hp) : Prop :=
  cls = .ref (g.ca x.cls) ∧ match x.arg with
    | none => True
    | some dd => ∃ (a : Addr) (n : Str) (v : V), g.an x.cls = some n ∧ d = some a ∧ H a = some (.xd [(n, v)]) ∧ Rp g.K g.fa F v dd
/-- behind an exception -/
structure Stx (g : Gh) (σ : L2.St) (ε : En) (F H F' H' : Hp) : Prop where
  sb : Sub F' H'
  tb : TB g.T H'
  ft : ∀ a ps, F' a ≠ some (.tbl ps)
  f : Sub F F'
  n : ∀ a o, F' a = some o → F a = some o ∨ Nn H a ∨ OwnO σ ε a
  k : ∀ a o, H a = some o → notTbl o → ¬ Owns σ ε a → H' a = some o
  z : ∀ a, Nn H' a → Nn H a
def XW (g : Gx) (W : WX) (σ : L2.St) (ε : En) (F H : Hp) (x : Ex) : Prop := ∀ cls d F' H', Stx g.toGh σ ε F H F' H' → ExR g x cls d F' H' → W cls d σ H'
def RG (g : Gx) (p : Bool) (H0 F H : Hp) (v : V) (w : Bool) (z : D) : Prop := match p with
  | true => Rp1 g.K g.fa F H v z
  | false => RR g.K g.fa H0 F H v w z
def rdG (p : Bool) (g : Gx) (W : WX) (ev : En → Rs (Bool × D × En)) (q : Bool) : TE := fun σ H Q => ∃ ε F, Stt g.toGh F H σ ε ∧ match ev ε with
  | .ok (w, z, ε') => ∀ v F' H', Stt g.toGh F' H' σ ε' → Stp q σ ε F H ε' F' H' → RG g p H F' H' v w z → Q v H'
  | .exc x => XW g W σ ε F H x
  | .bad => False
def rdT (g : Gx) (W : WX) (ev : En → Rs (Bool × En)) (q : Bool) : TT := fun σ H Q => ∃ ε F, Stt g.toGh F H σ ε ∧ match ev ε with
  | .ok (b, ε') => ∀ F' H', Stt g.toGh F' H' σ ε' → Stp q σ ε F H ε' F' H' → Q b H'
  | .exc x => XW g W σ ε F H x
  | .bad => False
/-- temporaries -/
inductive Tmps (g : Gx) (H0 F H : Hp) : List V → List D → Prop
  | nil : Tmps g H0 F H [] []
  | cons {v : V} {d : D} {w : Bool} {vs : List V} {ds : List D} : RR g.K g.fa H0 F H v w d → Tmps g H0 F H vs ds → Tmps g H0 F H (v :: vs) (d :: ds)
def rdA (g : Gx) (W : WX) (ev : En → Rs (List D × En)) (q : Bool) : TA := fun σ H Q => ∃ ε F, Stt g.toGh F H σ ε ∧ match ev ε with
  | .ok (ds, ε') => ∀ vs F' H', Stt g.toGh F' H' σ ε' → Stp q σ ε F H ε' F' H' → Tmps g H F' H' vs ds → Q vs H'
  | .exc x => XW g W σ ε F H x
  | .bad => False
def rdPs (g : Gx) (W : WX) (ev : En → Rs (List D × En)) (q : Bool) : TA := fun σ H Q => ∃ ε F, Stt g.toGh F H σ ε ∧ match ev ε with
  | .ok (ds, ε') => ∀ vs F' H', Stt g.toGh F' H' σ ε' → Stp q σ ε F H ε' F' H' → Rp1s g.K g.fa F' H' vs ds → Q vs H'
  | .exc x => XW g W σ ε F H x
  | .bad => False
section
variable {g : Gx} {F H F' H' F2 H2 : Hp} {σ : L2.St} {ε ε' ε2 : En} {q q' p : Bool} {W : WX} {x : Ex}
theorem Stp.xw (s : Stp q σ ε F H ε' F' H') (h : XW g W σ ε F H x) : XW g W σ ε' F' H' x := fun cls d F2 H2 t e => by
  refine h cls d F2 H2 ⟨t.sb, t.tb, t.ft, s.f.trans t.f, fun a o r => ?_, fun a o r n u => ?_, fun a r => s.z a (t.z a r)⟩ e
  · rcases t.n a o r with y | y | y
    · exact s.n a o y
    · exact .inr (.inl (s.z a y))
    · exact .inr (.inr (s.oo a y))
  · exact t.k a o (s.k a o r n fun _ => u) n fun y => u (s.o a y)
theorem RG.now {v : V} {w : Bool} {z : D} {H0 : Hp} (r : RG g p H0 F H v w z) : Rp1 g.K g.fa F H v z := by
  cases p with
  | true => exact r
  | false => exact RR.now (g := g.toGh) r
theorem Stt.ownN (S : Stt g.toGh F H σ ε) : ∀ a, Owns σ ε a → ¬ Nn H a := fun a o e => by
  obtain ⟨u, hu, n⟩ := S.ownH o
  exact e.no hu n
/-- an operand that was reckoned first, behind the second one -/
theorem RG.later {v : V} {w : Bool} {z : D} (S : Stt g.toGh F H σ ε) (s : Stp q σ ε F H ε' F' H') (r : RG g p H F' H' v w z) (s2 : Stp q' σ ε' F' H' ε2 F2 H2) (hq : p = true → q' = true) : Rp1 g.K g.fa F2 H2 v z := by
  cases p with
  | true =>
    have e := hq rfl
    subst e
    exact Rp1.later (g := g.toGh) r s2
  | false =>
    cases w with
    | false => exact .inl (Rp.mono s2.f z r)
    | true =>
      obtain ⟨a, rfl, hn, f, c⟩ := r
      exact .inr ⟨a, rfl, c.keep s2.f fun o e n => s2.k a o e n fun _ y => S.ownN a (s.o a y) hn⟩
theorem RG.ofRR {v : V} {w : Bool} {z : D} {H0 : Hp} (r : RR g.K g.fa H0 F H v w z) : RG g p H0 F H v w z := by
  cases p with
  | true => exact RR.now (g := g.toGh) r
  | false => exact r
/-- what an operation by data asks, from what is wanted behind the whole -/
theorem rq_of {Q : VK} {w : Bool} {z : D} (S2 : Stt g.toGh F2 H2 σ ε2) (s : Stp q σ ε F H ε2 F2 H2) (h : ∀ v F' H', Stt g.toGh F' H' σ ε2 → Stp q σ ε F H ε2 F' H' → RG g p H F' H' v w z → Q v H') : Rq g.K g.fa F2 H2 w z Q :=
  fun v F' H' gr r => h v F' H' (S2.grow gr) (s.trans (Stp.grow gr)) (RG.ofRR (RR.back (g := g.toGh) r s.z))
/-- a weaker reading -/
theorem PE.imp {X : Cx} {e : Expr} {t t' : TE} (h : PE X e t) (i : ∀ σ H Q, t' σ H Q → t σ H Q) : PE X e t' := ⟨fun pins s σ H Q I q => h.run pins s σ H Q I (i σ H Q q)⟩
theorem PT.imp {X : Cx} {e : Expr} {t t' : TT} (h : PT X e t) (i : ∀ σ H Q, t' σ H Q → t σ H Q) : PT X e t' := ⟨fun pins s σ H Q I q => h.run pins s σ H Q I (i σ H Q q)⟩
theorem PA.imp {X : Cx} {e : List Expr} {t t' : TA} (h : PA X e t) (i : ∀ σ H Q, t' σ H Q → t σ H Q) : PA X e t' := ⟨fun pos pins s σ H Q I q => h.run pos pins s σ H Q I (i σ H Q q)⟩
theorem PSs.imp {X : Cx} {e : List Stmt} {t t' : TS} (h : PSs X e t) (i : ∀ D σ H, t' D σ H → t D σ H) : PSs X e t' := ⟨fun pins s σ H D I q => h.run pins s σ H D I (i D σ H q)⟩
theorem PS.imp {X : Cx} {e : Stmt} {t t' : TS} (h : PS X e t) (i : ∀ D σ H, t' D σ H → t D σ H) : PS X e t' := ⟨fun pins s σ H D I q => h.run pins s σ H D I (i D σ H q)⟩

/-- a reading goes from a looser result to a stricter one -/
theorem rdG_peek {ev : En → Rs (Bool × D × En)} {σ : L2.St} {H : Hp} {Q : VK} (h : rdG true g W ev q σ H Q) : rdG false g W ev q σ H Q := by
  obtain ⟨ε, F, S, m⟩ := h
  refine ⟨ε, F, S, ?_⟩
  cases e : ev ε with
  | ok r => rw [e] at m; exact fun v F' H' S' s r => m v F' H' S' s (RG.now r)
  | exc x => rw [e] at m; exact m
  | bad => rw [e] at m; exact m

/-! ### two operands, then an operation by data -/
theorem two_ok {eva evb : En → Rs (Bool × D × En)} {qa qb pa : Bool} {f : D → D → Option (Bool × D)} {r : R2} (hq : pa = true → qb = true)
    (hr : ∀ {F H v u x y w z Q}, Sub F H → Rp1 g.K g.fa F H v x → Rp1 g.K g.fa F H u y → f x y = some (w, z) → Rq g.K g.fa F H w z Q → r v u H Q) {σ : L2.St} {H : Hp} {Q : VK}
    (h : rdG p g W (fun ε => (eva ε).bind fun (_, x, ε1) => (evb ε1).bind fun (_, y, ε2) => (Rs.opt (f x y)).bind fun (w, z) => .ok (w, z, ε2)) (qa && qb) σ H Q) :
    tOp r (rdG pa g W eva qa) (rdG true g W evb qb) σ H Q := by
  obtain ⟨ε, F, S, m⟩ := h
  refine ⟨ε, F, S, ?_⟩
  cases ea : eva ε with
  | exc x => simp only [ea, Rs.bind] at m; exact m
  | bad => simp only [ea, Rs.bind] at m
  | ok ra =>
    obtain ⟨wa, xa, ε1⟩ := ra
    simp only [ea, Rs.bind] at m
    intro v F1 H1 S1 s1 r1
    refine ⟨ε1, F1, S1, ?_⟩
    cases eb : evb ε1 with
    | exc x => simp only [eb] at m; exact s1.xw m
    | bad => simp only [eb] at m
    | ok rb =>
      obtain ⟨wb, xb, ε2⟩ := rb
      simp only [eb] at m
      intro u F2 H2 S2 s2 r2
      cases ef : f xa xb with
      | none => simp only [ef, Rs.opt] at m
      | some wz =>
        obtain ⟨w, z⟩ := wz
        simp only [ef, Rs.opt] at m
        exact hr S2.sb (RG.later S s1 r1 s2 hq) (RG.now r2) ef (rq_of S2 (s1.and s2) m)
/-- one operand, then an operation by data -/
theorem one_ok {eva : En → Rs (Bool × D × En)} {qa : Bool} {f : D → Option (Bool × D)} {r : V → Hp → VK → Prop}
    (hr : ∀ {F H v x w z Q}, Sub F H → Rp1 g.K g.fa F H v x → f x = some (w, z) → Rq g.K g.fa F H w z Q → r v H Q) {σ : L2.St} {H : Hp} {Q : VK}
    (h : rdG p g W (fun ε => (eva ε).bind fun (_, x, ε1) => (Rs.opt (f x)).bind fun (w, z) => .ok (w, z, ε1)) qa σ H Q) :
    rdG true g W eva qa σ H fun v H1 => r v H1 Q := by
  obtain ⟨ε, F, S, m⟩ := h
  refine ⟨ε, F, S, ?_⟩
  cases ea : eva ε with
  | exc x => simp only [ea, Rs.bind] at m; exact m
  | bad => simp only [ea, Rs.bind] at m
  | ok ra =>
    obtain ⟨wa, xa, ε1⟩ := ra
    simp only [ea, Rs.bind] at m
    intro v F1 H1 S1 s1 r1
    cases ef : f xa with
    | none => simp only [ef, Rs.opt] at m
    | some wz =>
      obtain ⟨w, z⟩ := wz
      simp only [ef, Rs.opt] at m
      exact hr S1.sb (RG.now r1) ef (rq_of S1 s1 m)
end
end DL

set_option Elab.async false
set_option linter.all false
set_option maxRecDepth 100000
set_option maxHeartbeats 4000000
/-! DL6: each construct's reading. -/
namespace DL
open PySem PySem.Spec PyProof.Rows L2
section
variable {g : Gx} {q q' p : Bool} {W : WX} {X : Cx} {pos : Pos}

/-! ### constants, names -/
theorem c_ok {e : Expr} {v : V} {d : D} (h : PE X e (tC v)) (r : ∀ F, Rp g.K g.fa F v d) : PE X e (rdG p g W (fun ε => .ok (false, d, ε)) q) := by
  refine PE.imp h fun σ H Q hh => ?_
  obtain ⟨ε, F, S, m⟩ := hh
  exact m v F H S Stp.refl (RG.ofRR (r F))
theorem v_pk {x : Str} {i : Nat} (hN : X.N[i]? = some x) (hv : Vis X.env.scope x) (hd : (x == ("__debug__" : Str)) = false) (hcd : (x == ("__classdict__" : Str)) = false)
    {r : En → Rs (Bool × D × En)} : PE X (.Name x pos) (rdG true g W (fun ε => pk (.v i) ε (r ε)) q) := by
  refine PE.imp (pe_var hN hv hd hcd) fun σ H Q hh => ?_
  obtain ⟨ε, F, S, m⟩ := hh
  simp only [pk] at m
  cases e : ε[i]? with
  | none => simp only [e] at m
  | some s =>
    have hs := S.sl i s e
    simp only [e] at m
    cases s with
    | no => simp only at m
    | val d =>
      simp only at m
      obtain ⟨v, ev, r⟩ := hs
      exact ⟨v, ev, m v F H S Stp.refl (.inl r)⟩
    | own d =>
      simp only at m
      obtain ⟨a, ev, f, c⟩ := hs
      exact ⟨_, ev, m _ F H S Stp.refl (.inr ⟨a, rfl, c⟩)⟩
    | lnt d =>
      simp only at m
      obtain ⟨a, ev, f, c⟩ := hs
      exact ⟨_, ev, m _ F H S Stp.refl (.inr ⟨a, rfl, c⟩)⟩
/-- an own slot's thing stays from now on as it is -/
theorem freeze {F H : Hp} {σ : L2.St} {ε : En} (S : Stt g.toGh F H σ ε) {i : Nat} {d : D} (e : ε[i]? = some (Sl.own d)) :
    ∃ a F', σ[i]? = some (some (V.ref a)) ∧ Rp g.K g.fa F' (.ref a) d ∧ Stt g.toGh F' H σ (ε.set i (.val d)) ∧ Stp q σ ε F H (ε.set i (.val d)) F' H := by
  obtain ⟨a, ev, f, c⟩ := S.sl i _ e
  obtain ⟨o0, hH, rs⟩ := c.co
  have sf : Sub F (upd F a o0) := Sub.new f
  have hi : i < ε.length := (List.getElem?_eq_some_iff.mp e).1
  have rr : Rp g.K g.fa (upd F a o0) (.ref a) d := (rs.mono sf).rp upd_same
  have ow : ∀ {b : Addr} {j : Nat}, Ow σ (ε.set i (.val d)) j b → Ow σ ε j b ∧ j ≠ i := fun {b j} h => by
    by_cases hj : j = i
    · subst hj
      obtain ⟨h, _⟩ := h
      rw [List.getElem?_set_self hi] at h
      rcases h with ⟨_, h⟩ | ⟨_, h⟩ <;> cases h
    · refine ⟨?_, hj⟩
      obtain ⟨h, h2⟩ := h
      rw [List.getElem?_set_ne (Ne.symm hj)] at h
      exact ⟨h, h2⟩
  have oi : Ow σ ε i a := ⟨.inl ⟨_, e⟩, ev⟩
  have ne : ∀ {b : Addr} {j : Nat}, Ow σ (ε.set i (.val d)) j b → b ≠ a := fun {b j} h z => by
    subst z
    obtain ⟨h1, h2⟩ := ow h
    exact h2 (S.ap _ _ _ h1 oi)
  refine ⟨a, _, ev, rr, ⟨fun b o h => ?_, S.tb, fun b ps h => ?_, by rw [List.length_set]; exact S.len, fun j s h => ?_, fun j k b h1 h2 => S.ap _ _ b (ow h1).1 (ow h2).1⟩, sf, fun b o h => ?_, fun b o h _ _ => h, fun b h => h, fun b ⟨j, h⟩ => ⟨j, (ow h).1⟩, fun b ⟨j, dd, h1, h2⟩ => ?_, fun j dd h => ?_⟩
  · by_cases hb : b = a
    · subst hb; rw [upd_same] at h; cases h; exact hH
    · rw [upd_ne hb] at h; exact S.sb _ _ h
  · by_cases hb : b = a
    · subst hb; rw [upd_same] at h; cases h; exact rs.tbl ps rfl
    · rw [upd_ne hb] at h; exact S.ft _ _ h
  · by_cases hj : j = i
    · subst hj
      rw [List.getElem?_set_self hi] at h
      cases h
      exact ⟨_, ev, rr⟩
    · have h0 := h
      rw [List.getElem?_set_ne (Ne.symm hj)] at h
      have hs := S.sl j s h
      cases s with
      | no => trivial
      | val d => obtain ⟨v, e1, r⟩ := hs; exact ⟨v, e1, r.mono sf d⟩
      | own d =>
        obtain ⟨b, e1, f1, c1⟩ := hs
        have hb : b ≠ a := ne ⟨.inl ⟨d, h0⟩, e1⟩
        exact ⟨b, e1, by rw [upd_ne hb]; exact f1, c1.keep sf fun _ h _ => h⟩
      | lnt d =>
        obtain ⟨b, e1, f1, c1⟩ := hs
        have hb : b ≠ a := ne ⟨.inr ⟨d, h0⟩, e1⟩
        exact ⟨b, e1, by rw [upd_ne hb]; exact f1, c1.keep sf fun _ h _ => h⟩
  · by_cases hb : b = a
    · subst hb; exact .inr (.inr ⟨i, _, e, ev⟩)
    · rw [upd_ne hb] at h; exact .inl h
  · have hj : j ≠ i := (ow ⟨.inl ⟨dd, h1⟩, h2⟩).2
    rw [List.getElem?_set_ne (Ne.symm hj)] at h1
    exact ⟨j, dd, h1, h2⟩
  · by_cases hj : j = i
    · subst hj; rw [List.getElem?_set_self hi] at h; cases h
    · rw [List.getElem?_set_ne (Ne.symm hj)] at h; exact ⟨dd, h⟩
theorem v_ok {x : Str} {i : Nat} (hN : X.N[i]? = some x) (hv : Vis X.env.scope x) (hd : (x == ("__debug__" : Str)) = false) (hcd : (x == ("__classdict__" : Str)) = false)
    {call : Nat → List Arg → Rs (Bool × D × List D)} {hand : Nat → Rs D → Rs D} : PE X (.Name x pos) (rdG false g W (evE call hand (.v i)) q) := by
  refine PE.imp (pe_var hN hv hd hcd) fun σ H Q hh => ?_
  obtain ⟨ε, F, S, m⟩ := hh
  simp only [evE] at m
  cases e : ε[i]? with
  | none => simp only [e] at m
  | some s =>
    have hs := S.sl i s e
    simp only [e] at m
    cases s with
    | no => simp only at m
    | val d =>
      simp only at m
      obtain ⟨v, ev, r⟩ := hs
      exact ⟨v, ev, m v F H S Stp.refl r⟩
    | own d =>
      simp only at m
      obtain ⟨a, F', ev, r, S', s'⟩ := freeze (q := q) S e
      exact ⟨_, ev, m _ F' H S' s' r⟩
    | lnt d => simp only at m

/-! ### tests -/
theorem rdT_to {ev : En → Rs (Bool × D × En)} {σ : L2.St} {H : Hp} {Q : Bool → Hp → Prop} (h : rdT g W (fun ε => evT (ev ε)) q σ H Q) : rdG false g W ev q σ H fun x H1 => ∃ c, x = .bl c ∧ Q c H1 := by
  obtain ⟨ε, F, S, m⟩ := h
  refine ⟨ε, F, S, ?_⟩
  cases e : ev ε with
  | exc x => simp only [e, evT, Rs.bind] at m; exact m
  | bad => simp only [e, evT, Rs.bind] at m
  | ok r =>
    obtain ⟨w, z, ε'⟩ := r
    simp only [e, evT, Rs.bind] at m
    intro v F' H' S' s r
    cases z with
    | bl b =>
      simp only at m
      exact ⟨b, (RG.now r).bl, m F' H' S' s⟩
    | _ => simp only at m
theorem t_val {e : Expr} {ev : En → Rs (Bool × D × En)} (h : PE X e (rdG false g W ev q)) (he : ∀ whole, isTrue e X.env whole = (do let v ← whole; standAt e.pos; holding [v] (truthy v))) : PT X e (rdT g W (fun ε => evT (ev ε)) q) :=
  PT.imp (pt_val h he) fun σ H Q hh => rdT_to hh
/-- the value of a test -/
theorem PT.not' {a : Expr} {ev : En → Rs (Bool × D × En)} (h : PT X a (rdT g W (fun ε => evT (ev ε)) q)) :
    PT X (.UnaryOp .Not a pos) (rdT g W (fun ε => evT ((ev ε).bind fun (_, x, ε1) => match x with | .bl z => .ok (false, .bl (!z), ε1) | _ => .bad)) q) := by
  refine PT.imp (pt_not h) fun σ H Q hh => ?_
  obtain ⟨ε, F, S, m⟩ := hh
  refine ⟨ε, F, S, ?_⟩
  cases e : ev ε with
  | exc x => simp only [e, evT, Rs.bind] at m ⊢; exact m
  | bad => simp only [e, evT, Rs.bind] at m
  | ok r =>
    obtain ⟨w, z, ε'⟩ := r
    cases z <;> simp only [e, evT, Rs.bind] at m ⊢
    exact m
theorem not_ok {a : Expr} {ev : En → Rs (Bool × D × En)} (h : PE X a (rdG false g W ev q)) :
    PE X (.UnaryOp .Not a pos) (rdG p g W (fun ε => (ev ε).bind fun (_, x, ε1) => match x with | .bl z => .ok (false, .bl (!z), ε1) | _ => .bad) q) := by
  refine PE.imp (pe_not h) fun σ H Q hh => ?_
  obtain ⟨ε, F, S, m⟩ := hh
  refine ⟨ε, F, S, ?_⟩
  cases e : ev ε with
  | exc x => simp only [e, Rs.bind] at m; exact m
  | bad => simp only [e, Rs.bind] at m
  | ok r =>
    obtain ⟨w, z, ε'⟩ := r
    cases z <;> simp only [e, Rs.bind] at m
    intro v F' H' S' s r
    exact ⟨_, (RG.now r).bl, m _ F' H' S' s (RG.ofRR (.bl _))⟩
theorem neg_ok {a : Expr} {ev : En → Rs (Bool × D × En)} (h : PE X a (rdG false g W ev q)) :
    PE X (.UnaryOp .USub a pos) (rdG p g W (fun ε => (ev ε).bind fun (_, x, ε1) => match x with | .int i => .ok (false, .int (-i), ε1) | _ => .bad) q) := by
  refine PE.imp (pe_un un_neg h) fun σ H Q hh => ?_
  obtain ⟨ε, F, S, m⟩ := hh
  refine ⟨ε, F, S, ?_⟩
  cases e : ev ε with
  | exc x => simp only [e, Rs.bind] at m; exact m
  | bad => simp only [e, Rs.bind] at m
  | ok r =>
    obtain ⟨w, z, ε'⟩ := r
    cases z <;> simp only [e, Rs.bind] at m
    intro v F' H' S' s r
    exact ⟨_, (RG.now r).int, m _ F' H' S' s (RG.ofRR (.int _))⟩

/-! ### and, or -/
def andEv (eva evb : En → Rs (Bool × D × En)) : En → Rs (Bool × D × En) := fun ε => (eva ε).bind fun (_, x, ε1) => match x with
    | .bl true => (evb ε1).bind fun (_, y, ε2) => match y with
      | .bl z => .ok (false, .bl z, ε2)
      | _ => .bad
    | .bl false => .ok (false, .bl false, ε1)
    | _ => .bad
def orEv (eva evb : En → Rs (Bool × D × En)) : En → Rs (Bool × D × En) := fun ε => (eva ε).bind fun (_, x, ε1) => match x with
    | .bl true => .ok (false, .bl true, ε1)
    | .bl false => (evb ε1).bind fun (_, y, ε2) => match y with
      | .bl z => .ok (false, .bl z, ε2)
      | _ => .bad
    | _ => .bad
def iteEv (evc eva evb : En → Rs (Bool × D × En)) : En → Rs (Bool × D × En) := fun ε => (evc ε).bind fun (_, x, ε1) => match x with
    | .bl true => eva ε1
    | .bl false => evb ε1
    | _ => .bad
variable {eva evb evc : En → Rs (Bool × D × En)} {qa qb qc : Bool} {a b c : Expr} {rest : List Expr}
theorem and_ok (ha : PE X a (rdG false g W eva qa)) (hb : PE X (.BoolOp .And (b :: rest) pos) (rdG false g W evb qb)) : PE X (.BoolOp .And (a :: b :: rest) pos) (rdG p g W (andEv eva evb) false) := by
  refine PE.imp (pe_and ha hb) fun σ H Q hh => ?_
  obtain ⟨ε, F, S, m⟩ := hh
  unfold andEv at m
  refine ⟨ε, F, S, ?_⟩
  cases e : eva ε with
  | exc x => simp only [e, Rs.bind] at m; exact m
  | bad => simp only [e, Rs.bind] at m
  | ok r =>
    obtain ⟨w, z, ε1⟩ := r
    intro v F1 H1 S1 s1 r1
    cases z <;> simp only [e, Rs.bind] at m
    rename_i z
    refine ⟨z, (RG.now r1).bl, ?_⟩
    cases z with
    | false =>
      simp only at m
      rw [if_neg Bool.false_ne_true]
      exact m _ F1 H1 S1 s1.to (RG.ofRR (.bl _))
    | true =>
      simp only at m
      rw [if_pos rfl]
      refine ⟨ε1, F1, S1, ?_⟩
      cases e2 : evb ε1 with
      | exc x => simp only [e2] at m; exact s1.xw m
      | bad => simp only [e2] at m
      | ok r =>
        obtain ⟨w2, z2, ε2⟩ := r
        intro u F2 H2 S2 s2 r2
        cases z2 <;> simp only [e2] at m
        have := (RG.now r2).bl
        subst this
        exact m _ F2 H2 S2 (s1.to.trans s2.to) (RG.ofRR (.bl _))
theorem or_ok (ha : PE X a (rdG false g W eva qa)) (hb : PE X (.BoolOp .Or (b :: rest) pos) (rdG false g W evb qb)) : PE X (.BoolOp .Or (a :: b :: rest) pos) (rdG p g W (orEv eva evb) false) := by
  refine PE.imp (pe_or ha hb) fun σ H Q hh => ?_
  obtain ⟨ε, F, S, m⟩ := hh
  unfold orEv at m
  refine ⟨ε, F, S, ?_⟩
  cases e : eva ε with
  | exc x => simp only [e, Rs.bind] at m; exact m
  | bad => simp only [e, Rs.bind] at m
  | ok r =>
    obtain ⟨w, z, ε1⟩ := r
    intro v F1 H1 S1 s1 r1
    cases z <;> simp only [e, Rs.bind] at m
    rename_i z
    refine ⟨z, (RG.now r1).bl, ?_⟩
    cases z with
    | true =>
      simp only at m
      rw [if_pos rfl]
      exact m _ F1 H1 S1 s1.to (RG.ofRR (.bl _))
    | false =>
      simp only at m
      rw [if_neg Bool.false_ne_true]
      refine ⟨ε1, F1, S1, ?_⟩
      cases e2 : evb ε1 with
      | exc x => simp only [e2] at m; exact s1.xw m
      | bad => simp only [e2] at m
      | ok r =>
        obtain ⟨w2, z2, ε2⟩ := r
        intro u F2 H2 S2 s2 r2
        cases z2 <;> simp only [e2] at m
        have := (RG.now r2).bl
        subst this
        exact m _ F2 H2 S2 (s1.to.trans s2.to) (RG.ofRR (.bl _))
theorem andT_ok (ha : PT X a (rdT g W (fun ε => evT (eva ε)) qa)) (hb : PW X (.BoolOp .And (b :: rest) pos) (rdT g W (fun ε => evT (evb ε)) qb)) : PW X (.BoolOp .And (a :: b :: rest) pos) (rdT g W (fun ε => evT (andEv eva evb ε)) false) := by
  refine ⟨fun wh pins s σ H Q I hh => (pw_and ha hb).run wh pins s σ H Q I ?_⟩
  obtain ⟨ε, F, S, m⟩ := hh
  unfold andEv evT at m
  refine ⟨ε, F, S, ?_⟩
  unfold evT
  cases e : eva ε with
  | exc x => simp only [e, Rs.bind] at m ⊢; exact m
  | bad => simp only [e, Rs.bind] at m
  | ok r =>
    obtain ⟨w, z, ε1⟩ := r
    cases z <;> simp only [e, Rs.bind] at m ⊢
    rename_i z
    intro F1 H1 S1 s1
    cases z with
    | false =>
      simp only at m
      rw [if_neg Bool.false_ne_true]
      exact m F1 H1 S1 s1.to
    | true =>
      simp only at m
      rw [if_pos rfl]
      refine ⟨ε1, F1, S1, ?_⟩
      cases e2 : evb ε1 with
      | exc x => simp only [e2] at m ⊢; exact s1.xw m
      | bad => simp only [e2] at m
      | ok r =>
        obtain ⟨w2, z2, ε2⟩ := r
        cases z2 <;> simp only [e2] at m ⊢
        intro F2 H2 S2 s2
        exact m F2 H2 S2 (s1.to.trans s2.to)
theorem orT_ok (ha : PT X a (rdT g W (fun ε => evT (eva ε)) qa)) (hb : PW X (.BoolOp .Or (b :: rest) pos) (rdT g W (fun ε => evT (evb ε)) qb)) : PW X (.BoolOp .Or (a :: b :: rest) pos) (rdT g W (fun ε => evT (orEv eva evb ε)) false) := by
  refine ⟨fun wh pins s σ H Q I hh => (pw_or ha hb).run wh pins s σ H Q I ?_⟩
  obtain ⟨ε, F, S, m⟩ := hh
  unfold orEv evT at m
  refine ⟨ε, F, S, ?_⟩
  unfold evT
  cases e : eva ε with
  | exc x => simp only [e, Rs.bind] at m ⊢; exact m
  | bad => simp only [e, Rs.bind] at m
  | ok r =>
    obtain ⟨w, z, ε1⟩ := r
    cases z <;> simp only [e, Rs.bind] at m ⊢
    rename_i z
    intro F1 H1 S1 s1
    cases z with
    | true =>
      simp only at m
      rw [if_pos rfl]
      exact m F1 H1 S1 s1.to
    | false =>
      simp only at m
      rw [if_neg Bool.false_ne_true]
      refine ⟨ε1, F1, S1, ?_⟩
      cases e2 : evb ε1 with
      | exc x => simp only [e2] at m ⊢; exact s1.xw m
      | bad => simp only [e2] at m
      | ok r =>
        obtain ⟨w2, z2, ε2⟩ := r
        cases z2 <;> simp only [e2] at m ⊢
        intro F2 H2 S2 s2
        exact m F2 H2 S2 (s1.to.trans s2.to)
/-! ### a if c else b -/
theorem ite_ok (hc : PT X c (rdT g W (fun ε => evT (evc ε)) qc)) (ha : PE X a (rdG false g W eva qa)) (hb : PE X b (rdG false g W evb qb)) : PE X (.IfExp c a b pos) (rdG p g W (iteEv evc eva evb) false) := by
  refine PE.imp (pe_ifExp hc ha hb) fun σ H Q hh => ?_
  obtain ⟨ε, F, S, m⟩ := hh
  unfold iteEv at m
  refine ⟨ε, F, S, ?_⟩
  unfold evT
  cases e : evc ε with
  | exc x => simp only [e, Rs.bind] at m ⊢; exact m
  | bad => simp only [e, Rs.bind] at m
  | ok r =>
    obtain ⟨w, z, ε1⟩ := r
    cases z <;> simp only [e, Rs.bind] at m ⊢
    rename_i z
    intro F1 H1 S1 s1
    cases z with
    | true =>
      simp only at m
      rw [if_pos rfl]
      refine ⟨ε1, F1, S1, ?_⟩
      cases e2 : eva ε1 with
      | exc x => simp only [e2] at m ⊢; exact s1.xw m
      | bad => simp only [e2] at m
      | ok r =>
        simp only [e2] at m ⊢
        exact fun v F2 H2 S2 s2 r2 => m v F2 H2 S2 (s1.to.trans s2.to) (RG.ofRR (RR.back (g := g.toGh) r2 s1.z))
    | false =>
      simp only at m
      rw [if_neg Bool.false_ne_true]
      refine ⟨ε1, F1, S1, ?_⟩
      cases e2 : evb ε1 with
      | exc x => simp only [e2] at m ⊢; exact s1.xw m
      | bad => simp only [e2] at m
      | ok r =>
        simp only [e2] at m ⊢
        exact fun v F2 H2 S2 s2 r2 => m v F2 H2 S2 (s1.to.trans s2.to) (RG.ofRR (RR.back (g := g.toGh) r2 s1.z))
theorem pt_ifE {tc ta tb : TT} (hc : PT X c tc) (ha : PT X a ta) (hb : PT X b tb) : PT X (.IfExp c a b pos) (fun σ H Q => tc σ H fun k H1 => if k = true then ta σ H1 Q else tb σ H1 Q) := by
  refine ⟨fun pins s σ H Q I h => ?_⟩
  show wpAny _ _ (do if ← isTrue c X.env (eval c X.env) then isTrue a X.env (eval a X.env) else isTrue b X.env (eval b X.env)) _ _ _
  refine wpAny_bind (thn (hc.run pins s σ H _ I h) fun k s1 ⟨H1, I1, q1⟩ => ?_)
  cases k with
  | true => exact ha.run pins s1 σ H1 Q I1 q1
  | false => exact hb.run pins s1 σ H1 Q I1 q1
theorem iteT_ok (hc : PT X c (rdT g W (fun ε => evT (evc ε)) qc)) (ha : PT X a (rdT g W (fun ε => evT (eva ε)) qa)) (hb : PT X b (rdT g W (fun ε => evT (evb ε)) qb)) : PT X (.IfExp c a b pos) (rdT g W (fun ε => evT (iteEv evc eva evb ε)) false) := by
  refine PT.imp (pt_ifE hc ha hb) fun σ H Q hh => ?_
  obtain ⟨ε, F, S, m⟩ := hh
  unfold iteEv evT at m
  refine ⟨ε, F, S, ?_⟩
  unfold evT
  cases e : evc ε with
  | exc x => simp only [e, Rs.bind] at m ⊢; exact m
  | bad => simp only [e, Rs.bind] at m
  | ok r =>
    obtain ⟨w, z, ε1⟩ := r
    cases z <;> simp only [e, Rs.bind] at m ⊢
    rename_i z
    intro F1 H1 S1 s1
    cases z with
    | true =>
      simp only at m
      rw [if_pos rfl]
      refine ⟨ε1, F1, S1, ?_⟩
      cases e2 : eva ε1 with
      | exc x => simp only [e2] at m ⊢; exact s1.xw m
      | bad => simp only [e2] at m
      | ok r =>
        obtain ⟨w2, z2, ε2⟩ := r
        cases z2 <;> simp only [e2] at m ⊢
        exact fun F2 H2 S2 s2 => m F2 H2 S2 (s1.to.trans s2.to)
    | false =>
      simp only at m
      rw [if_neg Bool.false_ne_true]
      refine ⟨ε1, F1, S1, ?_⟩
      cases e2 : evb ε1 with
      | exc x => simp only [e2] at m ⊢; exact s1.xw m
      | bad => simp only [e2] at m
      | ok r =>
        obtain ⟨w2, z2, ε2⟩ := r
        cases z2 <;> simp only [e2] at m ⊢
        exact fun F2 H2 S2 s2 => m F2 H2 S2 (s1.to.trans s2.to)
end
end DL

set_option Elab.async false
set_option linter.all false
set_option maxRecDepth 100000
set_option maxHeartbeats 4000000
/-! DL7: operators, comparisons, places, displays, lists of arguments, built-ins. -/
namespace DL
open PySem PySem.Spec PyProof.Rows L2
section
variable {g : Gx} {q q' p : Bool} {W : WX} {X : Cx} {pos : Pos} {eva evb evc : En → Rs (Bool × D × En)} {qa qb qc pa : Bool} {a b c : Expr}
def binEv (f : D → D → Option (Bool × D)) (eva evb : En → Rs (Bool × D × En)) : En → Rs (Bool × D × En) :=
  fun ε => (eva ε).bind fun (_, x, ε1) => (evb ε1).bind fun (_, y, ε2) => (Rs.opt (f x y)).bind fun (w, z) => .ok (w, z, ε2)
theorem bin_ok {op : Operator} {o : Op} (ho : opOf op = some o) (hq : pa = true → qb = true) (ha : PE X a (rdG pa g W eva qa)) (hb : PE X b (rdG true g W evb qb)) (hk : X.K = g.K) :
    PE X (.BinOp a op b pos) (rdG p g W (binEv (opD o) eva evb) (qa && qb)) := by
  refine PE.imp (pe_op (op_ok (fa := g.fa) ho) ha hb) fun σ H Q hh => two_ok hq (fun {F H v u x y w z Q} s hx hy e r => ?_) hh
  rw [hk]
  exact ⟨F, x, y, w, z, s, hx, hy, e, r⟩
theorem cmF_some {o : Cm} {x y : D} {w : Bool} {z : D} (e : cmF o x y = some (w, z)) : ∃ b, cmD o x y = some b ∧ w = false ∧ z = .bl b := by
  unfold cmF at e
  obtain ⟨b, h, e2⟩ := Option.map_eq_some_iff.mp e
  cases e2
  exact ⟨b, h, rfl, rfl⟩
theorem cmp_hr (hk : X.K = g.K) {o : Cm} {F H : Hp} {v u : V} {x y z : D} {w : Bool} {Q : VK} (s : Sub F H) (hx : Rp1 g.K g.fa F H v x) (hy : Rp1 g.K g.fa F H u y) (e : cmF o x y = some (w, z)) (r : Rq g.K g.fa F H w z Q) : rCm X.K g.fa o v u H Q := by
  obtain ⟨b, h, rfl, rfl⟩ := cmF_some e
  rw [hk]
  exact ⟨F, x, y, b, s, hx, hy, h, Rq.same s (.bl _) r⟩
theorem behindNo {op : CmpOp} {b : Expr} (h : ∀ e k p, b ≠ .Set e k p) : behindInMarks op b = false := by
  cases b <;> first | rfl | exact absurd rfl (h _ _ _)
theorem cmp_ok {op : CmpOp} {o : Cm} (ho : cmOf op = some o) (hu : X.A.units + 200 < cLine) (hm : behindInMarks op b = false) (hq : pa = true → qb = true) (ha : PE X a (rdG pa g W eva qa)) (hb : PE X b (rdG true g W evb qb)) (hk : X.K = g.K) :
    PE X (.Compare a [op] [b] pos) (rdG p g W (binEv (cmF o) eva evb) (qa && qb)) :=
  PE.imp (pe_cmpR (cm_ok (fa := g.fa) ho hu) ha hb hm) fun σ H Q hh => two_ok hq (fun s hx hy e r => cmp_hr hk s hx hy e r) hh
theorem cmpT_ok {op : CmpOp} {o : Cm} (ho : cmOf op = some o) (hu : X.A.units + 200 < cLine) (hm : behindInMarks op b = false) (hq : pa = true → qb = true) (ha : PE X a (rdG pa g W eva qa)) (hb : PE X b (rdG true g W evb qb)) (hk : X.K = g.K) :
    PT X (.Compare a [op] [b] pos) (rdT g W (fun ε => evT (binEv (cmF o) eva evb ε)) (qa && qb)) :=
  PT.imp (pt_cmpR (cm_ok (fa := g.fa) ho hu) ha hb hm) fun σ H Q hh => two_ok hq (fun s hx hy e r => cmp_hr hk s hx hy e r) (rdT_to hh)

/-! ### a < b < c -/
def chainEv (o p : Cm) (eva evb evc : En → Rs (Bool × D × En)) : En → Rs (Bool × D × En) := fun ε => (eva ε).bind fun (_, x, ε1) => (evb ε1).bind fun (_, y, ε2) => (Rs.opt (cmD o x y)).bind fun z => match z with
    | true => (evc ε2).bind fun (_, w, ε3) => (Rs.opt (cmD p y w)).bind fun z => .ok (false, .bl z, ε3)
    | false => .ok (false, .bl false, ε2)
theorem chain_rd {o o' : Cm} (hk : X.K = g.K) {σ : L2.St} {H : Hp} {Q : VK} (h : rdG p g W (chainEv o o' eva evb evc) false σ H Q) :
    tChain (rCm X.K g.fa o) (rCm X.K g.fa o') (rdG false g W eva qa) (rdG false g W evb qb) (rdG false g W evc qc) σ H Q := by
  obtain ⟨ε, F, S, m⟩ := h
  unfold chainEv at m
  refine ⟨ε, F, S, ?_⟩
  cases e : eva ε with
  | exc x => simp only [e, Rs.bind] at m; exact m
  | bad => simp only [e, Rs.bind] at m
  | ok r =>
    obtain ⟨w1, z1, ε1⟩ := r
    intro v F1 H1 S1 s1 r1
    simp only [e, Rs.bind] at m
    refine ⟨ε1, F1, S1, ?_⟩
    cases e2 : evb ε1 with
    | exc x => simp only [e2] at m; exact s1.xw m
    | bad => simp only [e2] at m
    | ok r =>
      obtain ⟨w2, z2, ε2⟩ := r
      simp only [e2] at m
      intro u F2 H2 S2 s2 r2
      cases ec : cmD o z1 z2 with
      | none => simp only [ec, Rs.opt] at m
      | some k =>
        simp only [ec, Rs.opt] at m
        rw [hk]
        refine ⟨F2, z1, z2, k, S2.sb, RG.later S s1 r1 s2 (fun z => nomatch z), RG.now r2, ec, k, rfl, ?_⟩
        cases k with
        | false =>
          simp only at m
          rw [if_neg Bool.false_ne_true]
          exact m _ F2 H2 S2 (s1.to.trans s2.to) (RG.ofRR (.bl _))
        | true =>
          simp only at m
          rw [if_pos rfl]
          refine ⟨ε2, F2, S2, ?_⟩
          cases e3 : evc ε2 with
          | exc x => simp only [e3] at m; exact (s1.to.trans s2.to).xw m
          | bad => simp only [e3] at m
          | ok r =>
            obtain ⟨w3, z3, ε3⟩ := r
            simp only [e3] at m
            intro t F3 H3 S3 s3 r3
            cases ed : cmD o' z2 z3 with
            | none => simp only [ed] at m
            | some k =>
              simp only [ed] at m
              exact ⟨F3, z2, z3, k, S3.sb, RG.later S1 s2 r2 s3 (fun z => nomatch z), RG.now r3, ed, m _ F3 H3 S3 ((s1.to.trans s2.to).trans s3.to) (RG.ofRR (.bl _))⟩
theorem chain_ok {op op' : CmpOp} {o o' : Cm} (ho : cmOf op = some o) (ho' : cmOf op' = some o') (hu : X.A.units + 200 < cLine) (hm : behindInMarks op' c = false) (ha : PE X a (rdG false g W eva qa)) (hb : PE X b (rdG false g W evb qb)) (hc : PE X c (rdG false g W evc qc)) (hk : X.K = g.K) :
    PE X (.Compare a [op, op'] [b, c] pos) (rdG p g W (chainEv o o' eva evb evc) false) :=
  PE.imp (pe_chain (cm_ok (fa := g.fa) ho hu) (cm_ok (fa := g.fa) ho' hu) ha hb hc hm) fun σ H Q hh => chain_rd hk hh
theorem chainT_ok {op op' : CmpOp} {o o' : Cm} (ho : cmOf op = some o) (ho' : cmOf op' = some o') (hu : X.A.units + 200 < cLine) (hm : behindInMarks op' c = false) (ha : PE X a (rdG false g W eva qa)) (hb : PE X b (rdG false g W evb qb)) (hc : PE X c (rdG false g W evc qc)) (hk : X.K = g.K) :
    PT X (.Compare a [op, op'] [b, c] pos) (rdT g W (fun ε => evT (chainEv o o' eva evb evc ε)) false) :=
  PT.imp (pt_chain (cm_ok (fa := g.fa) ho hu) (cm_ok (fa := g.fa) ho' hu) ha hb hc hm) fun σ H Q hh => chain_rd hk (rdT_to hh)

/-! ### places, slices -/
theorem subE_ok (hq : pa = true → qb = true) (ha : PE X a (rdG pa g W eva qa)) (hb : PE X b (rdG true g W evb qb)) (hk : X.K = g.K) (hs : PlainIx b) :
    PE X (.Subscript a b pos) (rdG p g W (binEv subF eva evb) (qa && qb)) := by
  refine PE.imp (pe_ix (sub_ok (fa := g.fa)) ha hb hs) fun σ H Q hh => two_ok hq (fun {F H v u x y w z Q} s hx hy e r => ?_) hh
  unfold subF at e
  obtain ⟨b, h, e2⟩ := Option.map_eq_some_iff.mp e
  cases e2
  rw [hk]
  exact ⟨F, x, y, _, s, hx, hy, h, r⟩
def sliceEv (eva : En → Rs (Bool × D × En)) (evl evh : En → Rs (Option Int × En)) : En → Rs (Bool × D × En) := fun ε => (eva ε).bind fun (_, x, ε1) => (evl ε1).bind fun (l, ε2) => (evh ε2).bind fun (h, ε3) =>
    (Rs.opt (sliceD l h x)).bind fun (w, z) => .ok (w, z, ε3)
def rdO (g : Gx) (W : WX) (ev : En → Rs (Option Int × En)) (q : Bool) : TO := fun σ H Q => ∃ ε F, Stt g.toGh F H σ ε ∧ match ev ε with
  | .ok (o, ε') => ∀ F' H', Stt g.toGh F' H' σ ε' → Stp q σ ε F H ε' F' H' → Q o H'
  | .exc x => XW g W σ ε F H x
  | .bad => False
theorem slice_okE {lo hi : Option Expr} {p2 : Pos} {evl evh : En → Rs (Option Int × En)} {ql qh : Bool} (hq : pa = true → (ql && qh) = true) (ha : PE X a (rdG pa g W eva qa)) (hl : PO X lo (rdO g W evl ql)) (hh : PO X hi (rdO g W evh qh)) (hk : X.K = g.K) :
    PE X (.Subscript a (.Slice lo hi none p2) pos) (rdG p g W (sliceEv eva evl evh) (qa && (ql && qh))) := by
  refine PE.imp (pe_slice (slice_ok (fa := g.fa)) ha hl hh) fun σ H Q h => ?_
  obtain ⟨ε, F, S, m⟩ := h
  unfold sliceEv at m
  refine ⟨ε, F, S, ?_⟩
  cases e : eva ε with
  | exc x => simp only [e, Rs.bind] at m; exact m
  | bad => simp only [e, Rs.bind] at m
  | ok r =>
    obtain ⟨w1, z1, ε1⟩ := r
    intro v F1 H1 S1 s1 r1
    simp only [e, Rs.bind] at m
    refine ⟨ε1, F1, S1, ?_⟩
    cases e2 : evl ε1 with
    | exc x => simp only [e2] at m; exact s1.xw m
    | bad => simp only [e2] at m
    | ok r =>
      obtain ⟨l, ε2⟩ := r
      simp only [e2] at m ⊢
      intro F2 H2 S2 s2
      refine ⟨ε2, F2, S2, ?_⟩
      cases e3 : evh ε2 with
      | exc x => simp only [e3] at m; exact (s1.and s2).xw m
      | bad => simp only [e3] at m
      | ok r =>
        obtain ⟨h, ε3⟩ := r
        simp only [e3] at m ⊢
        intro F3 H3 S3 s3
        cases ef : sliceD l h z1 with
        | none => simp only [ef, Rs.opt] at m
        | some wz =>
          obtain ⟨w, z⟩ := wz
          simp only [ef, Rs.opt] at m
          rw [hk]
          exact ⟨F3, z1, w, z, S3.sb, RG.later S s1 r1 (s2.and s3) hq, ef, rq_of S3 (s1.and (s2.and s3)) m⟩
theorem part_none : PO X none (rdO g W (fun ε => .ok (none, ε)) q) := by
  have h := @po_none X
  refine ⟨fun pins s σ H Q I hh => h.run pins s σ H Q I ?_⟩
  obtain ⟨ε, F, S, m⟩ := hh
  exact m F H S Stp.refl
def partEv (ev : En → Rs (Bool × D × En)) : En → Rs (Option Int × En) := fun ε => (ev ε).bind fun (_, x, ε1) => match x with | .int i => .ok (some i, ε1) | _ => .bad
theorem part_some (ha : PE X a (rdG false g W eva qa)) : PO X (some a) (rdO g W (partEv eva) qa) := by
  have h := po_some ha
  refine ⟨fun pins s σ H Q I hh => h.run pins s σ H Q I ?_⟩
  obtain ⟨ε, F, S, m⟩ := hh
  unfold partEv at m
  refine ⟨ε, F, S, ?_⟩
  cases e : eva ε with
  | exc x => simp only [e, Rs.bind] at m; exact m
  | bad => simp only [e, Rs.bind] at m
  | ok r =>
    obtain ⟨w1, z1, ε1⟩ := r
    intro v F1 H1 S1 s1 r1
    cases z1 <;> simp only [e, Rs.bind] at m
    exact ⟨_, (RG.now r1).int, m F1 H1 S1 s1⟩
theorem rev_ok {k : Nat} {p1 p2 p3 : Pos} (ha : PE X a (rdG true g W eva qa)) (hk : X.K = g.K) :
    PE X (.Subscript a (.Slice none none (some (.UnaryOp .USub (.Constant (.int 1) k p1) p2)) p3) pos) (rdG p g W (fun ε => (eva ε).bind fun (_, x, ε1) => (Rs.opt (revD x)).bind fun (w, z) => .ok (w, z, ε1)) qa) := by
  refine PE.imp (pe_revL ha) fun σ H Q h => one_ok (r := fun v H1 Q => ∃ a xs, v = .ref a ∧ SqL X.K H1 a xs ∧ ∀ p, H1 p = none → Q (.ref p) (upd H1 p (.lst xs.reverse))) (fun {F H v x w z Q} s hx e r => ?_) h
  cases x <;> simp only [revD, reduceCtorEq, Option.some.injEq, Prod.mk.injEq] at e
  obtain ⟨rfl, rfl⟩ := e
  obtain ⟨a, vs, rfl, ha, ra⟩ := hx.lst s
  exact ⟨a, vs, rfl, SqL.of ha, Rq.lst s ra.rev r⟩

/-! ### lists of arguments, displays -/
theorem starEach_cons {e : Expr} {es : List Expr} (h : ∀ x p, e ≠ .Starred x p) {env : PySem.Env} : starEach (e :: es) env = (false, eval e env) :: starEach es env := by
  cases e <;> first | rfl | exact absurd rfl (h _ _)
theorem RR.keep {F H F' H' : Hp} {σ : L2.St} {ε ε' : En} {v : V} {w : Bool} {z : D} {H0 : Hp} (S : Stt g.toGh F H σ ε) (r : RR g.K g.fa H0 F H v w z) (s : Stp q σ ε F H ε' F' H') (h0 : ∀ a, Owns σ ε a → ¬ Nn H0 a) : RR g.K g.fa H0 F' H' v w z := by
  cases w with
  | false => exact Rp.mono s.f z r
  | true =>
    obtain ⟨a, rfl, hn, f, c⟩ := r
    refine ⟨a, rfl, hn, ?_, c.keep s.f fun o e n => s.k a o e n fun _ x => h0 a x hn⟩
    cases e : F' a with
    | none => rfl
    | some o =>
      rcases s.n a o e with h | h | h
      · rw [f] at h; cases h
      · obtain ⟨u, hu, nu⟩ := c.ex
        exact h.no hu nu
      · exact absurd hn (h0 a (Owns.of h))
def consEv (ev : En → Rs (Bool × D × En)) (evs : En → Rs (List D × En)) : En → Rs (List D × En) := fun ε => (ev ε).bind fun (_, d, ε1) => (evs ε1).bind fun (ds, ε2) => .ok (d :: ds, ε2)
theorem args_nil : PA X [] (rdA g W (fun ε => .ok ([], ε)) q) := PA.imp pa_nil fun σ H Q h => by
  obtain ⟨ε, F, S, m⟩ := h
  exact m [] F H S Stp.refl .nil
theorem Tmps.back {H0 H1 F H : Hp} (h : ∀ a, Nn H1 a → Nn H0 a) : ∀ {vs : List V} {ds : List D}, Tmps g H1 F H vs ds → Tmps g H0 F H vs ds
  | _, _, .nil => .nil
  | _, _, .cons r t => .cons (RR.back (g := g.toGh) r h) (Tmps.back h t)
theorem args_cons {es : List Expr} {evs : En → Rs (List D × En)} {qs : Bool} (hst : ∀ x p, a ≠ .Starred x p) (ha : PE X a (rdG false g W eva qa)) (hs : PA X es (rdA g W evs qs)) : PA X (a :: es) (rdA g W (consEv eva evs) (qa && qs)) := by
  refine PA.imp (pa_cons ha hs (starEach_cons hst)) fun σ H Q h => ?_
  obtain ⟨ε, F, S, m⟩ := h
  unfold consEv at m
  refine ⟨ε, F, S, ?_⟩
  cases e : eva ε with
  | exc x => simp only [e, Rs.bind] at m; exact m
  | bad => simp only [e, Rs.bind] at m
  | ok r =>
    obtain ⟨w1, z1, ε1⟩ := r
    intro v F1 H1 S1 s1 r1
    simp only [e, Rs.bind] at m
    refine ⟨ε1, F1, S1, ?_⟩
    cases e2 : evs ε1 with
    | exc x => simp only [e2] at m; exact s1.xw m
    | bad => simp only [e2] at m
    | ok r =>
      obtain ⟨ds, ε2⟩ := r
      simp only [e2] at m ⊢
      intro vs F2 H2 S2 s2 r2
      refine m _ F2 H2 S2 (s1.and s2) (.cons (w := w1) ?_ (Tmps.back s1.z r2))
      exact RR.keep S1 r1 s2 fun a o => S.ownN a (s1.o a o)
theorem looks_nil : PA X [] (rdPs g W (fun ε => .ok ([], ε)) q) := PA.imp pa_nil fun σ H Q h => by
  obtain ⟨ε, F, S, m⟩ := h
  exact m [] F H S Stp.refl .nil
theorem looks_cons {es : List Expr} {evs : En → Rs (List D × En)} {qs : Bool} (hst : ∀ x p, a ≠ .Starred x p) (hq : pa = true → qs = true) (ha : PE X a (rdG pa g W eva qa)) (hs : PA X es (rdPs g W evs qs)) : PA X (a :: es) (rdPs g W (consEv eva evs) (qa && qs)) := by
  refine PA.imp (pa_cons ha hs (starEach_cons hst)) fun σ H Q h => ?_
  obtain ⟨ε, F, S, m⟩ := h
  unfold consEv at m
  refine ⟨ε, F, S, ?_⟩
  cases e : eva ε with
  | exc x => simp only [e, Rs.bind] at m; exact m
  | bad => simp only [e, Rs.bind] at m
  | ok r =>
    obtain ⟨w1, z1, ε1⟩ := r
    intro v F1 H1 S1 s1 r1
    simp only [e, Rs.bind] at m
    refine ⟨ε1, F1, S1, ?_⟩
    cases e2 : evs ε1 with
    | exc x => simp only [e2] at m; exact s1.xw m
    | bad => simp only [e2] at m
    | ok r =>
      obtain ⟨ds, ε2⟩ := r
      simp only [e2] at m ⊢
      intro vs F2 H2 S2 s2 r2
      exact m _ F2 H2 S2 (s1.and s2) (.cons (RG.later S s1 r1 s2 hq) r2)
/-- a temporary stays from now on -/
theorem RR.frz1 {H H0 F F1 : Hp} {σ : L2.St} {ε : En} (h0 : ∀ a, Owns σ ε a → ¬ Nn H0 a) (S1 : Stt g.toGh F1 H σ ε) (sf : Sub F F1) {v : V} {w : Bool} {d : D} (r : RR g.K g.fa H0 F H v w d) :
    ∃ F', Sub F1 F' ∧ Rp g.K g.fa F' v d ∧ Stt g.toGh F' H σ ε ∧ (∀ a o, F' a = some o → F1 a = some o ∨ Nn H0 a) := by
  cases w with
  | false => exact ⟨F1, Sub.refl _, Rp.mono sf d r, S1, fun _ _ e => .inl e⟩
  | true =>
    obtain ⟨a, rfl, hn, f, c⟩ := r
    obtain ⟨o0, hH, rs2⟩ := c.co
    by_cases hf : F1 a = none
    · have s2 : Sub F1 (upd F1 a o0) := Sub.new hf
      have hno : ∀ b, Owns σ ε b → b ≠ a := fun b o e => by subst e; exact h0 b o hn
      have hnn : ∀ b, F1 b = none → b ≠ a → upd F1 a o0 b = none := fun b e n => by rw [upd_ne n]; exact e
      refine ⟨upd F1 a o0, s2, (rs2.mono (sf.trans s2)).rp upd_same, ⟨fun b o h => ?_, S1.tb, fun b ps h => ?_, S1.len, fun i s h => ?_, S1.ap⟩, fun b o h => ?_⟩
      · by_cases hb : b = a
        · subst hb; rw [upd_same] at h; cases h; exact hH
        · rw [upd_ne hb] at h; exact S1.sb _ _ h
      · by_cases hb : b = a
        · subst hb; rw [upd_same] at h; cases h; exact rs2.tbl ps rfl
        · rw [upd_ne hb] at h; exact S1.ft _ _ h
      · have hs := S1.sl i s h
        cases s with
        | no => trivial
        | val d => obtain ⟨v, e, r⟩ := hs; exact ⟨v, e, r.mono s2 d⟩
        | own d => obtain ⟨b, e, f', c'⟩ := hs; exact ⟨b, e, hnn b f' (hno b ⟨i, .inl ⟨d, h⟩, e⟩), c'.keep s2 fun _ e _ => e⟩
        | lnt d => obtain ⟨b, e, f', c'⟩ := hs; exact ⟨b, e, hnn b f' (hno b ⟨i, .inr ⟨d, h⟩, e⟩), c'.keep s2 fun _ e _ => e⟩
      · by_cases hb : b = a
        · subst hb; exact .inr hn
        · rw [upd_ne hb] at h; exact .inl h
    · obtain ⟨o, ho⟩ : ∃ o, F1 a = some o := by
        cases e : F1 a with
        | none => exact absurd e hf
        | some o => exact ⟨o, rfl⟩
      have e1 := S1.sb a o ho
      rw [hH] at e1
      cases e1
      exact ⟨F1, Sub.refl _, (rs2.mono sf).rp ho, S1, fun _ _ e => .inl e⟩
/-- temporaries stay from now on -/
theorem Tmps.freeze {H H0 : Hp} {σ : L2.St} {ε : En} (h0 : ∀ a, Owns σ ε a → ¬ Nn H0 a) : ∀ {vs : List V} {ds : List D} {F : Hp}, Stt g.toGh F H σ ε → Tmps g H0 F H vs ds →
    ∃ F', Sub F F' ∧ Rps g.K g.fa F' vs ds ∧ Stt g.toGh F' H σ ε ∧ (∀ a o, F' a = some o → F a = some o ∨ Nn H0 a)
  | _, _, F, S, .nil => ⟨F, Sub.refl _, .nil, S, fun _ _ e => .inl e⟩
  | _, _, F, S, @Tmps.cons _ _ _ _ v d w vs ds r t => by
    obtain ⟨F1, sf, rs, S1, n1⟩ := Tmps.freeze h0 S t
    obtain ⟨F2, sf2, r2, S2, n2⟩ := RR.frz1 h0 S1 sf r
    exact ⟨F2, sf.trans sf2, .cons r2 (Rps.mono sf2 _ rs), S2, fun a o e => (n2 a o e).elim (n1 a o) .inr⟩
theorem Stp.frz {F H F1 H1 F2 : Hp} {σ : L2.St} {ε ε' : En} (s : Stp q σ ε F H ε' F1 H1) (sf : Sub F1 F2) (n : ∀ a o, F2 a = some o → F1 a = some o ∨ Nn H a) : Stp q σ ε F H ε' F2 H1 :=
  ⟨s.f.trans sf, fun a o e => (n a o e).elim (s.n a o) fun h => .inr (.inl h), s.k, s.z, s.o, s.oo, s.l⟩
theorem Tmps.len {F H H0 : Hp} : ∀ {vs : List V} {ds : List D}, Tmps g H0 F H vs ds → vs.length = ds.length
  | _, _, .nil => rfl
  | _, _, .cons _ t => by simp [Tmps.len t]
def tupEv (evs : En → Rs (List D × En)) : En → Rs (Bool × D × En) := fun ε => (evs ε).bind fun (ds, ε1) => .ok (false, .tup ds, ε1)
def lstEv (evs : En → Rs (List D × En)) : En → Rs (Bool × D × En) := fun ε => (evs ε).bind fun (ds, ε1) => .ok (true, .lst ds, ε1)
theorem tup_ok {es : List Expr} {evs : En → Rs (List D × En)} {qs : Bool} {x1} (hs : PA X es (rdA g W evs qs)) (hl : ∀ ε ds ε', evs ε = .ok (ds, ε') → ds.length ≤ sizeLine) : PE X (.Tuple es x1 pos) (rdG p g W (tupEv evs) qs) := by
  refine PE.imp (pe_tup hs) fun σ H Q h => ?_
  obtain ⟨ε, F, S, m⟩ := h
  unfold tupEv at m
  refine ⟨ε, F, S, ?_⟩
  cases e : evs ε with
  | exc x => simp only [e, Rs.bind] at m; exact m
  | bad => simp only [e, Rs.bind] at m
  | ok r =>
    obtain ⟨ds, ε1⟩ := r
    simp only [e, Rs.bind] at m ⊢
    intro vs F1 H1 S1 s1 r1
    refine ⟨by rw [r1.len]; exact hl _ _ _ e, ?_⟩
    obtain ⟨F2, sf, rs, S2, n2⟩ := Tmps.freeze (fun a o => S.ownN a (s1.o a o)) S1 r1
    exact Rq.tup S2.sb rs (rq_of S2 (s1.frz sf n2) m)
theorem lst_ok {es : List Expr} {evs : En → Rs (List D × En)} {qs : Bool} (hs : PA X es (rdA g W evs qs)) (hl : ∀ ε ds ε', evs ε = .ok (ds, ε') → ds.length ≤ sizeLine) : PE X (.List es pos) (rdG p g W (lstEv evs) qs) := by
  refine PE.imp (pe_lst hs) fun σ H Q h => ?_
  obtain ⟨ε, F, S, m⟩ := h
  unfold lstEv at m
  refine ⟨ε, F, S, ?_⟩
  cases e : evs ε with
  | exc x => simp only [e, Rs.bind] at m; exact m
  | bad => simp only [e, Rs.bind] at m
  | ok r =>
    obtain ⟨ds, ε1⟩ := r
    simp only [e, Rs.bind] at m ⊢
    intro vs F1 H1 S1 s1 r1
    refine ⟨by rw [r1.len]; exact hl _ _ _ e, ?_⟩
    obtain ⟨F2, sf, rs, S2, n2⟩ := Tmps.freeze (fun a o => S.ownN a (s1.o a o)) S1 r1
    exact Rq.lst S2.sb rs (rq_of S2 (s1.frz sf n2) m)

/-! ### built-ins, isinstance -/
theorem plain_args {es : List Expr} (h : ∀ e ∈ es, ∀ x p, e ≠ .Starred x p) {env : PySem.Env} : (backTo pos (starEach es env)).any (·.1) = false := by
  induction es with
  | nil => rfl
  | cons e es ih =>
    rw [starEach_cons (h e List.mem_cons_self)]
    exact ih fun x hx => h x (List.mem_cons_of_mem _ hx)
theorem callEv_ok {ty : Bool} {n : String} {x : Str} {pp : Pos} {es : List Expr} {evs : En → Rs (List D × En)} {qs : Bool} {f : List D → Option (Bool × D)} {r : List V → Hp → VK → Prop}
    (hc : CallR X (if ty then .type n else .builtin n) r) (hr : ∀ {F H vs ds w z Q}, Sub F H → Rp1s g.K g.fa F H vs ds → f ds = some (w, z) → Rq g.K g.fa F H w z Q → r vs H Q)
    (hg : Gl X x) (hm : X.mg x = none) (hv : bootBuiltins x = some (if ty then .type n else .builtin n)) (hn : x ≠ "__name__") (hdb : (x == ("__debug__" : Str)) = false)
    (hst : ∀ e ∈ a :: es, ∀ x p, e ≠ .Starred x p) (hs : PA X (a :: es) (rdPs g W evs qs)) : PE X (.Call (.Name x pp) (a :: es) [] pos) (rdG p g W (fun ε => (evs ε).bind fun (xs, ε1) => (Rs.opt (f xs)).bind fun (w, z) => .ok (w, z, ε1)) qs) := by
  have he := starEach_cons (env := X.env) (hst a List.mem_cons_self) (es := es)
  have hpl := plain_args (pos := pos) (env := X.env) (es := es) fun e he => hst e (List.mem_cons_of_mem _ he)
  have key : PE X (.Call (.Name x pp) (a :: es) [] pos) (tCB r (rdPs g W evs qs)) := by
    cases ty with
    | true => exact pe_callTy hc hg hm hv hs hn hdb he hpl
    | false => exact pe_callB hc hg hm hv hs hn hdb he hpl
  refine PE.imp key fun σ H Q h => ?_
  obtain ⟨ε, F, S, m⟩ := h
  refine ⟨ε, F, S, ?_⟩
  cases e : evs ε with
  | exc x => simp only [e, Rs.bind] at m; exact m
  | bad => simp only [e, Rs.bind] at m
  | ok rr =>
    obtain ⟨ds, ε1⟩ := rr
    simp only [e, Rs.bind] at m ⊢
    intro vs F1 H1 S1 s1 r1
    cases ef : f ds with
    | none => simp only [ef, Rs.opt] at m
    | some wz =>
      obtain ⟨w, z⟩ := wz
      simp only [ef, Rs.opt] at m
      exact hr S1.sb r1 ef (rq_of S1 s1 m)
theorem biVal_eq (b : Bi) : biVal b = (if biTy b then .type (biName b) else .builtin (biName b)) := rfl
theorem bi_okE {b : Bi} {x : Str} {pp : Pos} {es : List Expr} {evs : En → Rs (List D × En)} {qs : Bool} (hcalm : X.calm = true) (hg : Gl X x) (hm : X.mg x = none) (hv : bootBuiltins x = some (biVal b)) (hn : x ≠ "__name__") (hdb : (x == ("__debug__" : Str)) = false)
    (hst : ∀ e ∈ a :: es, ∀ x p, e ≠ .Starred x p) (hs : PA X (a :: es) (rdPs g W evs qs)) (hk : X.K = g.K) :
    PE X (.Call (.Name x pp) (a :: es) [] pos) (rdG p g W (fun ε => (evs ε).bind fun (xs, ε1) => (Rs.opt (biD b xs)).bind fun (w, z) => .ok (w, z, ε1)) qs) :=
  callEv_ok (f := biD b) (bi_ok (fa := g.fa) hcalm b) (fun {F H vs ds w z Q} s h e r => by rw [hk]; exact ⟨F, ds, w, z, s, h, e, r⟩) hg hm hv hn hdb hst hs
def tIsi (t : Ty) : List V → Hp → VK → Prop := fun vs H Q => True
/-- isinstance(a, T) -/
theorem isi_okE {t : Ty} {x y : Str} {pp pp2 : Pos} (hg : Gl X x) (hm : X.mg x = none) (hv : bootBuiltins x = some (.builtin "isinstance")) (hn : x ≠ "__name__") (hdb : (x == ("__debug__" : Str)) = false)
    (hg2 : Gl X y) (hm2 : X.mg y = none) (hv2 : bootBuiltins y = some (.type (tyName t))) (hn2 : y ≠ "__name__") (hdb2 : (y == ("__debug__" : Str)) = false)
    (hst : ∀ x p, a ≠ .Starred x p) (ha : PE X a (rdG true g W eva qa)) (hk : X.K = g.K) :
    PE X (.Call (.Name x pp) [a, .Name y pp2] [] pos) (rdG p g W (fun ε => (eva ε).bind fun (_, x, ε1) => (Rs.opt (isiF t x)).bind fun (w, z) => .ok (w, z, ε1)) qa) := by
  have hy : PE X (.Name y pp2) (tC (.ty (tyName t))) := pe_bltn hg2 hm2 hv2 rfl hn2 hdb2
  have hpa : PA X [a, .Name y pp2] (tCons (rdG true g W eva qa) (tCons (tC (.ty (tyName t))) tNil)) := pa_cons ha (pa_cons hy pa_nil) (starEach_cons hst)
  refine PE.imp (pe_callB (isi_ok (fa := g.fa) t) hg hm hv hpa hn hdb (starEach_cons hst) (by rfl)) fun σ H Q h => ?_
  refine one_ok (r := fun v H1 Q => rIs X.K g.fa t [v, .ty (tyName t)] H1 Q) (fun {F H v x w z Q} s hx e r => ?_) h
  unfold isiF at e
  obtain ⟨b, h, e2⟩ := Option.map_eq_some_iff.mp e
  cases e2
  rw [hk]
  exact ⟨F, v, x, b, s, rfl, hx, h, Rq.same s (.bl _) r⟩
end
end DL

set_option Elab.async false
set_option linter.all false
set_option maxRecDepth 100000
set_option maxHeartbeats 4000000
/-! DL8: calls of the text's own functions. -/
namespace DL
open PySem PySem.Spec PyProof.Rows L2

/-- what was lent, behind a call -/
inductive Outs (g : Gx) (F H : Hp) : List V → List Arg → List D → Prop
  | nil : Outs g F H [] [] []
  | val {v : V} {d : D} {vs : List V} {as : List Arg} {ds : List D} : Outs g F H vs as ds → Outs g F H (v :: vs) (.val d :: as) ds
  | lent {a : Addr} {d e : D} {vs : List V} {as : List Arg} {ds : List D} : F a = none → Cell g.K g.fa F H a e → Outs g F H vs as ds → Outs g F H (.ref a :: vs) (.lent d :: as) (e :: ds)
/-- the promise of a function that reckons ev -/
def spD (g : Gx) (n : Nat) (ev : List Arg → Rs (Bool × D × List D)) : Sp := fun vs H Q E => ∃ F as, as.length = vs.length ∧ vs.length = n ∧ Stt g.toGh F H (vs.map some) (as.map slOf) ∧ match ev as with
  | .ok (w, z, outs) => ∀ v F' H', Stx g.toGh (vs.map some) (as.map slOf) F H F' H' → Outs g F' H' vs as outs → RR g.K g.fa H F' H' v w z → Q v H'
  | .exc x => XW g (fun cls d _ H' => E cls d H') (vs.map some) (as.map slOf) F H x
  | .bad => False
/-- evaluated arguments -/
inductive ATmps (g : Gx) (σ : L2.St) (H0 F H : Hp) : As → List V → List D → Prop
  | nil : ATmps g σ H0 F H .nil [] []
  | val {v : V} {d : D} {w : Bool} {e : E} {as : As} {vs : List V} {ds : List D} : RR g.K g.fa H0 F H v w d → ATmps g σ H0 F H as vs ds → ATmps g σ H0 F H (.val e as) (v :: vs) (d :: ds)
  | lend {v : V} {i : Nat} {as : As} {vs : List V} {ds : List D} : σ[i]? = some (some v) → ATmps g σ H0 F H as vs ds → ATmps g σ H0 F H (.lend i as) (v :: vs) ds
def rdAs (g : Gx) (W : WX) (as : As) (ev : En → Rs (List D × En)) (q : Bool) : TA := fun σ H Q => ∃ ε F, Stt g.toGh F H σ ε ∧ match ev ε with
  | .ok (ds, ε') => ∀ vs F' H', Stt g.toGh F' H' σ ε' → Stp q σ ε F H ε' F' H' → ATmps g σ H F' H' as vs ds → Q vs H'
  | .exc x => XW g W σ ε F H x
  | .bad => False
inductive AOk (g : Gx) (F H : Hp) (σ : L2.St) (ε : En) : As → List V → List Arg → Prop
  | nil : AOk g F H σ ε .nil [] []
  | val {v : V} {d : D} {e : E} {as : As} {vs : List V} {xs : List Arg} : Rp g.K g.fa F v d → AOk g F H σ ε as vs xs → AOk g F H σ ε (.val e as) (v :: vs) (.val d :: xs)
  | lend {a : Addr} {d : D} {i : Nat} {as : As} {vs : List V} {xs : List Arg} : Ow σ ε i a → F a = none → Cell g.K g.fa F H a d → i ∉ as.lends → AOk g F H σ ε as vs xs → AOk g F H σ ε (.lend i as) (.ref a :: vs) (.lent d :: xs)
section
variable {g : Gx} {q q' p : Bool} {W : WX} {X : Cx} {pos : Pos} {F H F' H' F2 H2 H0 : Hp} {σ : L2.St} {ε ε' ε1 ε2 : En} {x : Ex}
theorem ATmps.back {H1 : Hp} (h : ∀ a, Nn H1 a → Nn H0 a) : ∀ {as : As} {vs : List V} {ds : List D}, ATmps g σ H1 F H as vs ds → ATmps g σ H0 F H as vs ds
  | _, _, _, .nil => .nil
  | _, _, _, .val r t => .val (RR.back (g := g.toGh) r h) (ATmps.back h t)
  | _, _, _, .lend e t => .lend e (ATmps.back h t)
theorem asA_nil : PA X [] (rdAs g W .nil (fun ε => .ok ([], ε)) q) := PA.imp pa_nil fun σ H Q h => by
  obtain ⟨ε, F, S, m⟩ := h
  exact m [] F H S Stp.refl .nil
theorem asA_val {a : Expr} {e : E} {es : List Expr} {as : As} {eva : En → Rs (Bool × D × En)} {evs : En → Rs (List D × En)} {qa qs : Bool} (hst : ∀ x p, a ≠ .Starred x p) (ha : PE X a (rdG false g W eva qa)) (hs : PA X es (rdAs g W as evs qs)) : PA X (a :: es) (rdAs g W (.val e as) (consEv eva evs) (qa && qs)) := by
  refine PA.imp (pa_cons ha hs (starEach_cons hst)) fun σ H Q h => ?_
  obtain ⟨ε, F, S, m⟩ := h
  unfold consEv at m
  refine ⟨ε, F, S, ?_⟩
  cases e : eva ε with
  | exc x => simp only [e, Rs.bind] at m; exact m
  | bad => simp only [e, Rs.bind] at m
  | ok r =>
    obtain ⟨w1, z1, ε1⟩ := r
    intro v F1 H1 S1 s1 r1
    simp only [e, Rs.bind] at m
    refine ⟨ε1, F1, S1, ?_⟩
    cases e2 : evs ε1 with
    | exc x => simp only [e2] at m; exact s1.xw m
    | bad => simp only [e2] at m
    | ok r =>
      obtain ⟨ds, ε2⟩ := r
      simp only [e2] at m ⊢
      intro vs F2 H2 S2 s2 r2
      exact m _ F2 H2 S2 (s1.and s2) (.val (w := w1) (RR.keep S1 r1 s2 fun a o => S.ownN a (s1.o a o)) (ATmps.back s1.z r2))
theorem asA_lend {x : Str} {i : Nat} {es : List Expr} {as : As} {evs : En → Rs (List D × En)} {qs : Bool} {pp : Pos} (hN : X.N[i]? = some x) (hv : Vis X.env.scope x) (hd : (x == ("__debug__" : Str)) = false) (hcd : (x == ("__classdict__" : Str)) = false)
    (hs : PA X es (rdAs g W as evs qs)) : PA X (.Name x pp :: es) (rdAs g W (.lend i as) (fun ε => match ε[i]? with | some (.own _) => evs ε | some (.lnt _) => evs ε | _ => .bad) qs) := by
  refine PA.imp (pa_cons (pe_var (pos := pp) hN hv hd hcd) hs (by rfl)) fun σ H Q h => ?_
  obtain ⟨ε, F, S, m⟩ := h
  cases e : ε[i]? with
  | none => simp only [e] at m
  | some s =>
    have hsl := S.sl i s e
    simp only [e] at m
    cases s with
    | no => simp only at m
    | val d => simp only at m
    | own d =>
      simp only at m
      obtain ⟨a, ev, f, c⟩ := hsl
      refine ⟨_, ev, ε, F, S, ?_⟩
      cases e2 : evs ε with
      | exc x => simp only [e2] at m; exact m
      | bad => simp only [e2] at m
      | ok r =>
        obtain ⟨ds, ε2⟩ := r
        simp only [e2] at m ⊢
        exact fun vs F2 H2 S2 s2 r2 => m _ F2 H2 S2 s2 (.lend ev r2)
    | lnt d =>
      simp only at m
      obtain ⟨a, ev, f, c⟩ := hsl
      refine ⟨_, ev, ε, F, S, ?_⟩
      cases e2 : evs ε with
      | exc x => simp only [e2] at m; exact m
      | bad => simp only [e2] at m
      | ok r =>
        obtain ⟨ds, ε2⟩ := r
        simp only [e2] at m ⊢
        exact fun vs F2 H2 S2 s2 r2 => m _ F2 H2 S2 s2 (.lend ev r2)
theorem AOk.mono {F' : Hp} (sf : Sub F F') (S : Stt g.toGh F' H σ ε) : ∀ {as : As} {vs : List V} {xs : List Arg}, AOk g F H σ ε as vs xs → AOk g F' H σ ε as vs xs
  | _, _, _, .nil => .nil
  | _, _, _, .val r t => .val (Rp.mono sf _ r) (AOk.mono sf S t)
  | _, _, _, .lend o f c n t => .lend o (S.ownF ⟨_, o⟩) (c.keep sf fun _ e _ => e) n (AOk.mono sf S t)
/-- the temporaries among the arguments stay from now on -/
theorem ATmps.ok (h0 : ∀ a, Owns σ ε a → ¬ Nn H0 a) : ∀ {as : As} {vs : List V} {ds : List D} {xs : List Arg}, ∀ {F : Hp}, Stt g.toGh F H σ ε → ATmps g σ H0 F H as vs ds → mkAs ε as ds = some xs →
    ∃ F', Sub F F' ∧ AOk g F' H σ ε as vs xs ∧ Stt g.toGh F' H σ ε ∧ (∀ a o, F' a = some o → F a = some o ∨ Nn H0 a)
  | _, _, _, xs, F, S, .nil, e => by
    simp only [mkAs, Option.some.injEq] at e
    subst e
    exact ⟨F, Sub.refl _, .nil, S, fun _ _ e => .inl e⟩
  | _, _, _, xs, F, S, .val (v := v) (d := d) (w := w) r t, e => by
    simp only [mkAs] at e
    obtain ⟨ys, e1, rfl⟩ := Option.map_eq_some_iff.mp e
    obtain ⟨F1, sf1, ok1, S1, n1⟩ := ATmps.ok h0 S t e1
    obtain ⟨F2, sf2, r2, S2, n2⟩ := RR.frz1 h0 S1 sf1 r
    exact ⟨F2, sf1.trans sf2, .val r2 (AOk.mono sf2 S2 ok1), S2, fun a o e => (n2 a o e).elim (n1 a o) .inr⟩
  | _, _, _, xs, F, S, .lend (v := v) (i := i) ev t, e => by
    simp only [mkAs] at e
    split at e
    · cases e
    · rename_i hni
      have hni : i ∉ _ := fun z => hni (List.contains_iff_mem.mpr z)
      split at e
      · rename_i d hd
        obtain ⟨ys, e1, rfl⟩ := Option.map_eq_some_iff.mp e
        obtain ⟨F2, sf2, ok2, S2, n2⟩ := ATmps.ok h0 S t e1
        obtain ⟨a, ea, f, c⟩ := S2.sl i _ hd
        rw [ev] at ea; cases ea
        exact ⟨F2, sf2, .lend ⟨.inl ⟨d, hd⟩, ev⟩ f c hni ok2, S2, n2⟩
      · rename_i d hd
        obtain ⟨ys, e1, rfl⟩ := Option.map_eq_some_iff.mp e
        obtain ⟨F2, sf2, ok2, S2, n2⟩ := ATmps.ok h0 S t e1
        obtain ⟨a, ea, f, c⟩ := S2.sl i _ hd
        rw [ev] at ea; cases ea
        exact ⟨F2, sf2, .lend ⟨.inr ⟨d, hd⟩, ev⟩ f c hni ok2, S2, n2⟩
      · cases e

theorem AOk.len : ∀ {as : As} {vs : List V} {xs : List Arg}, AOk g F H σ ε as vs xs → xs.length = vs.length
  | _, _, _, .nil => rfl
  | _, _, _, .val _ t => by simp [AOk.len t]
  | _, _, _, .lend _ _ _ _ t => by simp [AOk.len t]
theorem AOk.ow : ∀ {as : As} {vs : List V} {xs : List Arg}, AOk g F H σ ε as vs xs → ∀ {j : Nat} {a : Addr}, Ow (vs.map some) (xs.map slOf) j a → ∃ i, i ∈ as.lends ∧ Ow σ ε i a
  | _, _, _, .nil, j, a, h => by
    obtain ⟨_, h⟩ := h
    simp at h
  | _, _, _, .val r t, 0, a, h => by
    obtain ⟨h, _⟩ := h
    rcases h with ⟨_, h⟩ | ⟨_, h⟩ <;> simp [slOf] at h
  | _, _, _, .val r t, j + 1, a, h => by
    obtain ⟨i, h1, h2⟩ := AOk.ow t (j := j) (a := a) (by simpa [Ow] using h)
    exact ⟨i, h1, h2⟩
  | _, _, _, .lend (a := b) o f c n t, 0, a, h => by
    obtain ⟨_, h⟩ := h
    have : b = a := by simpa using h
    subst this
    exact ⟨_, List.mem_cons_self, o⟩
  | _, _, _, .lend o f c n t, j + 1, a, h => by
    obtain ⟨i, h1, h2⟩ := AOk.ow t (j := j) (a := a) (by simpa [Ow] using h)
    exact ⟨i, List.mem_cons_of_mem _ h1, h2⟩
theorem AOk.ap (S : Stt g.toGh F H σ ε) : ∀ {as : As} {vs : List V} {xs : List Arg}, AOk g F H σ ε as vs xs → ∀ (j k : Nat) (a : Addr), Ow (vs.map some) (xs.map slOf) j a → Ow (vs.map some) (xs.map slOf) k a → j = k
  | _, _, _, .nil, j, k, a, h, _ => by
    obtain ⟨_, h⟩ := h
    simp at h
  | _, _, _, .val r t, 0, _, a, h, _ => by
    obtain ⟨h, _⟩ := h
    rcases h with ⟨_, h⟩ | ⟨_, h⟩ <;> simp [slOf] at h
  | _, _, _, .val r t, _ + 1, 0, a, _, h => by
    obtain ⟨h, _⟩ := h
    rcases h with ⟨_, h⟩ | ⟨_, h⟩ <;> simp [slOf] at h
  | _, _, _, .val r t, j + 1, k + 1, a, h, h' => by
    rw [AOk.ap S t j k a (by simpa [Ow] using h) (by simpa [Ow] using h')]
  | _, _, _, .lend o f c n t, 0, 0, _, _, _ => rfl
  | _, _, _, .lend (a := b) o f c n t, 0, k + 1, a, h, h' => by
    obtain ⟨_, h⟩ := h
    have : b = a := by simpa using h
    subst this
    obtain ⟨i, h1, h2⟩ := AOk.ow t (j := k) (a := b) (by simpa [Ow] using h')
    rw [S.ap _ _ _ o h2] at n
    exact absurd h1 n
  | _, _, _, .lend (a := b) o f c n t, j + 1, 0, a, h', h => by
    obtain ⟨_, h⟩ := h
    have : b = a := by simpa using h
    subst this
    obtain ⟨i, h1, h2⟩ := AOk.ow t (j := j) (a := b) (by simpa [Ow] using h')
    rw [S.ap _ _ _ o h2] at n
    exact absurd h1 n
  | _, _, _, .lend o f c n t, j + 1, k + 1, a, h, h' => by
    rw [AOk.ap S t j k a (by simpa [Ow] using h) (by simpa [Ow] using h')]
theorem AOk.sl : ∀ {as : As} {vs : List V} {xs : List Arg}, AOk g F H σ ε as vs xs → ∀ (i : Nat) (s : Sl), (xs.map slOf)[i]? = some s → SlOk g.K g.fa F H ((vs.map some)[i]?) s
  | _, _, _, .nil, i, s, h => by simp at h
  | _, _, _, .val r t, 0, s, h => by
    simp [slOf] at h
    subst h
    exact ⟨_, by simp, r⟩
  | _, _, _, .val r t, i + 1, s, h => by
    simpa using AOk.sl t i s (by simpa using h)
  | _, _, _, .lend o f c n t, 0, s, h => by
    simp [slOf] at h
    subst h
    exact ⟨_, by simp, f, c⟩
  | _, _, _, .lend o f c n t, i + 1, s, h => by
    simpa using AOk.sl t i s (by simpa using h)
/-- the callee's state -/
theorem AOk.stt {as : As} {vs : List V} {xs : List Arg} (S : Stt g.toGh F H σ ε) (a : AOk g F H σ ε as vs xs) : Stt g.toGh F H (vs.map some) (xs.map slOf) :=
  ⟨S.sb, S.tb, S.ft, by simp [a.len], a.sl, a.ap S⟩

/-! ### behind the call -/
def kind : Sl → Nat
  | .no => 0 | .val _ => 1 | .own _ => 2 | .lnt _ => 3
structure Back (g : Gx) (F' H' : Hp) (σ : L2.St) (ε1 ε : En) (ls : List Nat) : Prop where
  len : ε.length = ε1.length
  knd : ∀ i : Nat, (ε[i]?).map kind = (ε1[i]?).map kind
  sl : ∀ (i : Nat) (s : Sl), ε[i]? = some s → i ∉ ls → SlOk g.K g.fa F' H' (σ[i]?) s
theorem Back.run {ε1 : En} : ∀ {as : As} {vs : List V} {xs : List Arg} {outs : List D} {ε ε2 : En}, AOk g F H σ ε1 as vs xs → Outs g F' H' vs xs outs → Back g F' H' σ ε1 ε as.lends → backAs ε as outs = some ε2 → Back g F' H' σ ε1 ε2 []
  | _, _, _, _, ε, ε2, .nil, .nil, b, e => by
    simp only [backAs, Option.some.injEq] at e
    subst e
    exact b
  | _, _, _, _, ε, ε2, .val r t, .val o, b, e => by
    simp only [backAs] at e
    exact Back.run t o b e
  | _, _, _, _, ε, ε2, .lend (a := a) (i := i) ow f c n t, .lent (e := d) f' c' o, b, e => by
    simp only [backAs] at e
    have hs : σ[i]? = some (some (V.ref a)) := ow.2
    split at e
    · rename_i d0 h0
      have hi : i < ε.length := (List.getElem?_eq_some_iff.mp h0).1
      refine Back.run t o ⟨by rw [List.length_set]; exact b.len, fun j => ?_, fun j s h hn => ?_⟩ e
      · by_cases hj : j = i
        · subst hj
          rw [List.getElem?_set_self hi, ← b.knd, h0]; rfl
        · rw [List.getElem?_set_ne (Ne.symm hj)]; exact b.knd j
      · by_cases hj : j = i
        · subst hj
          rw [List.getElem?_set_self hi] at h
          cases h
          exact ⟨a, hs, f', c'⟩
        · rw [List.getElem?_set_ne (Ne.symm hj)] at h
          exact b.sl j s h (fun z => (List.mem_cons.mp z).elim hj hn)
    · rename_i d0 h0
      have hi : i < ε.length := (List.getElem?_eq_some_iff.mp h0).1
      refine Back.run t o ⟨by rw [List.length_set]; exact b.len, fun j => ?_, fun j s h hn => ?_⟩ e
      · by_cases hj : j = i
        · subst hj
          rw [List.getElem?_set_self hi, ← b.knd, h0]; rfl
        · rw [List.getElem?_set_ne (Ne.symm hj)]; exact b.knd j
      · by_cases hj : j = i
        · subst hj
          rw [List.getElem?_set_self hi] at h
          cases h
          exact ⟨a, hs, f', c'⟩
        · rw [List.getElem?_set_ne (Ne.symm hj)] at h
          exact b.sl j s h (fun z => (List.mem_cons.mp z).elim hj hn)
    · cases e
theorem kind_own {s : Sl} (h : kind s = 2) : ∃ d, s = .own d := by cases s <;> simp [kind] at h; exact ⟨_, rfl⟩
theorem kind_lnt {s : Sl} (h : kind s = 3) : ∃ d, s = .lnt d := by cases s <;> simp [kind] at h; exact ⟨_, rfl⟩
theorem Back.own {ls : List Nat} {ε1 : En} (b : Back g F' H' σ ε1 ε ls) {i : Nat} {d : D} (h : ε[i]? = some (Sl.own d)) : ∃ d, ε1[i]? = some (Sl.own d) := by
  have k := b.knd i
  rw [h] at k
  cases e : ε1[i]? with
  | none => rw [e] at k; cases k
  | some s =>
    rw [e] at k
    obtain ⟨d, rfl⟩ := kind_own (Option.some.inj k).symm
    exact ⟨d, rfl⟩
theorem Back.lnt {ls : List Nat} {ε1 : En} (b : Back g F' H' σ ε1 ε ls) {i : Nat} {d : D} (h : ε[i]? = some (Sl.lnt d)) : ∃ d, ε1[i]? = some (Sl.lnt d) := by
  have k := b.knd i
  rw [h] at k
  cases e : ε1[i]? with
  | none => rw [e] at k; cases k
  | some s =>
    rw [e] at k
    obtain ⟨d, rfl⟩ := kind_lnt (Option.some.inj k).symm
    exact ⟨d, rfl⟩
theorem Back.ow {ls : List Nat} {ε1 : En} (b : Back g F' H' σ ε1 ε ls) {i : Nat} {a : Addr} (h : Ow σ ε i a) : Ow σ ε1 i a := by
  obtain ⟨h, h2⟩ := h
  rcases h with ⟨d, h⟩ | ⟨d, h⟩
  · exact ⟨.inl (b.own h), h2⟩
  · exact ⟨.inr (b.lnt h), h2⟩
/-- the caller's state behind the call -/
theorem call_back {as : As} {vs : List V} {xs : List Arg} {outs : List D} (S : Stt g.toGh F H σ ε) (a : AOk g F H σ ε as vs xs) (t : Stx g.toGh (vs.map some) (xs.map slOf) F H F' H') (o : Outs g F' H' vs xs outs) (e : backAs ε as outs = some ε2) :
    Stt g.toGh F' H' σ ε2 ∧ Stp false σ ε F H ε2 F' H' := by
  have nown : ∀ b, ¬ OwnO (vs.map some) (xs.map slOf) b := fun b ⟨i, d, h, _⟩ => by
    rw [List.getElem?_map] at h
    obtain ⟨x, _, h⟩ := Option.map_eq_some_iff.mp h
    cases x <;> cases h
  have own : ∀ b, Owns (vs.map some) (xs.map slOf) b → ∃ i, i ∈ as.lends ∧ Ow σ ε i b := fun b ⟨j, h⟩ => a.ow h
  have fnew : ∀ b o, F' b = some o → F b = some o ∨ Nn H b := fun b o h => by
    rcases t.n b o h with x | x | x
    · exact .inl x
    · exact .inr x
    · exact absurd x (nown b)
  have st : Back g F' H' σ ε ε as.lends := by
    refine ⟨rfl, fun _ => rfl, fun i s h hn => ?_⟩
    have hs := S.sl i s h
    have keep : ∀ {b : Addr} {d : D}, Ow σ ε i b → F b = none → Cell g.K g.fa F H b d → F' b = none ∧ Cell g.K g.fa F' H' b d := fun {b d} ow f c => by
      refine ⟨?_, c.keep t.f fun u hu n => t.k b u hu n fun z => ?_⟩
      · cases x : F' b with
        | none => rfl
        | some u =>
          rcases fnew b u x with y | y
          · rw [f] at y; cases y
          · obtain ⟨u', hu, nu⟩ := c.ex
            exact y.no hu nu
      · obtain ⟨k, k1, k2⟩ := own b z
        rw [S.ap _ _ _ ow k2] at hn
        exact hn k1
    cases s with
    | no => trivial
    | val d => obtain ⟨v, e, r⟩ := hs; exact ⟨v, e, r.mono t.f d⟩
    | own d =>
      obtain ⟨b, e, f, c⟩ := hs
      obtain ⟨f', c'⟩ := keep ⟨.inl ⟨d, h⟩, e⟩ f c
      exact ⟨b, e, f', c'⟩
    | lnt d =>
      obtain ⟨b, e, f, c⟩ := hs
      obtain ⟨f', c'⟩ := keep ⟨.inr ⟨d, h⟩, e⟩ f c
      exact ⟨b, e, f', c'⟩
  have b2 := Back.run a o st e
  refine ⟨⟨t.sb, t.tb, t.ft, by rw [b2.len]; exact S.len, fun i s h => b2.sl i s h (by simp), fun i j a h1 h2 => S.ap i j a (b2.ow h1) (b2.ow h2)⟩,
    t.f, fun b u h => (fnew b u h).imp id .inl, fun b u h n hn => t.k b u h n fun z => ?_, t.z, fun b ⟨i, h⟩ => ⟨i, b2.ow h⟩, fun b ⟨i, d, h, h2⟩ => ?_, fun i d h => b2.lnt h⟩
  · obtain ⟨k, _, k2⟩ := own b z
    exact hn rfl ⟨k, k2⟩
  · obtain ⟨d, h⟩ := b2.own h
    exact ⟨i, d, h, h2⟩
end
end DL

set_option Elab.async false
set_option linter.all false
set_option maxRecDepth 100000
set_option maxHeartbeats 4000000
/-! DL9: the call itself; comprehensions. -/
namespace DL
open PySem PySem.Spec PyProof.Rows L2

/-- function f, at level k, keeps its promise -/
structure FnX (g : Gx) (P : Program) (w : World) (mg : Str → Option Value) (base : Heap) (k : Nat) (x : Str) (n : Nat) (ev : List Arg → Rs (Bool × D × List D)) : Prop where
  ex : ∃ (f : Addr) (fd : FuncData) (ps : List Str), mg x = some (.ref f) ∧ PySem.W.keepIn g.K (.ref f) = true ∧ Binds g.K fd ps [] ∧ FnOk P w g.K mg base (L2.CX P w) k f fd ps (spD g n ev)
section
variable {g : Gx} {q q' p : Bool} {W : WX} {X : Cx} {pos : Pos} {F H F' H' F2 H2 H0 : Hp} {σ : L2.St} {ε ε' ε1 ε2 : En} {x : Ex}
def callEv (ev : List Arg → Rs (Bool × D × List D)) (as : As) (evs : En → Rs (List D × En)) : En → Rs (Bool × D × En) := fun ε => (evs ε).bind fun (ds, ε1) => (Rs.opt (mkAs ε1 as ds)).bind fun xs => (ev xs).bind fun (w, z, outs) => (Rs.opt (backAs ε1 as outs)).bind fun ε2 => .ok (w, z, ε2)
/-- ok means: so many arguments -/
def Told (n : Nat) (ev : List Arg → Rs (Bool × D × List D)) : Prop := ∀ xs, xs.length ≠ n → ev xs = .bad
theorem call_rd {as : As} {evs : En → Rs (List D × En)} {qs : Bool} {n : Nat} {ev : List Arg → Rs (Bool × D × List D)} (hn : Told n ev) {Q : VK} (h : rdG p g W (callEv ev as evs) false σ H Q) :
    tCallS (spD g n ev) (fun σ => WE W σ) (rdAs g W as evs qs) σ H Q := by
  obtain ⟨ε, F, S, m⟩ := h
  unfold callEv at m
  refine ⟨ε, F, S, ?_⟩
  cases e : evs ε with
  | exc x => simp only [e, Rs.bind] at m; exact m
  | bad => simp only [e, Rs.bind] at m
  | ok r =>
    obtain ⟨ds, ε1⟩ := r
    simp only [e, Rs.bind] at m ⊢
    intro vs F1 H1 S1 s1 r1
    cases e2 : mkAs ε1 as ds with
    | none => simp only [e2, Rs.opt] at m
    | some xs =>
      simp only [e2, Rs.opt] at m
      obtain ⟨F2, sf, ao, S2, n2⟩ := ATmps.ok (fun a o => S.ownN a (s1.o a o)) S1 r1 e2
      have s2 := s1.frz sf n2
      have hl : xs.length = n := by
        apply Classical.byContradiction
        intro hh
        rw [hn xs hh] at m
        exact m
      refine ⟨F2, xs, ao.len, by rw [← ao.len]; exact hl, ao.stt S2, ?_⟩
      cases e3 : ev xs with
      | bad => simp only [e3] at m
      | exc x =>
        simp only [e3] at m ⊢
        intro cls d F' H' t er
        have m' := s2.xw m
        refine m' cls d F' H' ⟨t.sb, t.tb, t.ft, t.f, fun a o e => ?_, fun a o e n hno => t.k a o e n fun z => ?_, t.z⟩ er
        · rcases t.n a o e with y | y | ⟨i, d, y, _⟩
          · exact .inl y
          · exact .inr (.inl y)
          · rw [List.getElem?_map] at y
            obtain ⟨x, _, y⟩ := Option.map_eq_some_iff.mp y
            cases x <;> cases y
        · obtain ⟨j, hj⟩ := z
          obtain ⟨i, _, hi⟩ := ao.ow hj
          exact hno ⟨i, hi⟩
      | ok r3 =>
        obtain ⟨w, z, outs⟩ := r3
        simp only [e3] at m ⊢
        intro v F' H' t o rr
        cases e4 : backAs ε1 as outs with
        | none => simp only [e4] at m
        | some ε2 =>
          simp only [e4] at m
          obtain ⟨S', s'⟩ := call_back S2 ao t o e4
          exact m v F' H' S' (s2.to.trans s') (RG.ofRR (RR.back (g := g.toGh) rr s2.z))
theorem call_ok {as : As} {a : Expr} {es : List Expr} {evs : En → Rs (List D × En)} {qs : Bool} {k n : Nat} {x : Str} {pp : Pos} {ev : List Arg → Rs (Bool × D × List D)} (hn : Told n ev) (FX : FnX g X.prog X.w X.mg X.base k x n ev) (hr : Room k X.A) (hg : Gl X x)
    (hdb : (x == ("__debug__" : Str)) = false) (hst : ∀ e ∈ a :: es, ∀ x p, e ≠ .Starred x p) (hs : PA X (a :: es) (rdAs g W as evs qs)) (hk : X.K = g.K) (tk : Takes X W) :
    PE X (.Call (.Name x pp) (a :: es) [] pos) (rdG p g W (callEv ev as evs) false) := by
  obtain ⟨f, fd, ps, mf, kf, bf, ok⟩ := FX.ex
  rw [← hk] at ok kf bf
  have he := starEach_cons (env := X.env) (hst a List.mem_cons_self) (es := es)
  have hpl := plain_args (pos := pos) (env := X.env) (es := es) fun e he => hst e (List.mem_cons_of_mem _ he)
  exact PE.imp (pe_callS ok hr hg mf kf bf (passAt tk) hs hdb he hpl) fun σ H Q h => call_rd hn h
theorem callv_ok {as : As} {a : Expr} {es : List Expr} {evs : En → Rs (List D × En)} {qs : Bool} {k i : Nat} {x : Str} {pp : Pos} {ev : Nat → List Arg → Rs (Bool × D × List D)}
    (hfv : ∀ f b, g.fa f = some b → ∃ n fd ps, Told n (ev f) ∧ PySem.W.keepIn g.K (.ref b) = true ∧ Binds g.K fd ps [] ∧ FnOk X.prog X.w g.K X.mg X.base (L2.CX X.prog X.w) k b fd ps (spD g n (ev f))) (hr : Room k X.A) (hN : X.N[i]? = some x) (hv : Vis X.env.scope x)
    (hdb : (x == ("__debug__" : Str)) = false) (hcd : (x == ("__classdict__" : Str)) = false) (hst : ∀ e ∈ a :: es, ∀ x p, e ≠ .Starred x p) (hs : PA X (a :: es) (rdAs g W as evs qs)) (hk : X.K = g.K) (tk : Takes X W) :
    PE X (.Call (.Name x pp) (a :: es) [] pos) (rdG p g W (fun ε => match ε[i]? with | some (.val (.fn f)) => callEv (ev f) as evs ε | _ => .bad) false) := by
  have he := starEach_cons (env := X.env) (hst a List.mem_cons_self) (es := es)
  have hpl := plain_args (pos := pos) (env := X.env) (es := es) fun e he => hst e (List.mem_cons_of_mem _ he)
  refine ⟨fun pins s σ H Q I h => ?_⟩
  obtain ⟨ε, F, S, m⟩ := h
  simp only at m
  have key : ∃ f, ε[i]? = some (.val (.fn f)) := by
    cases e : ε[i]? with
    | none => rw [e] at m; exact m.elim
    | some sl =>
      cases sl with
      | val d => cases d <;> first | exact ⟨_, rfl⟩ | (rw [e] at m; exact m.elim)
      | _ => rw [e] at m; exact m.elim
  obtain ⟨f, e⟩ := key
  obtain ⟨v, hs1, r⟩ := S.sl i _ e
  cases r with
  | fn hf =>
    rename_i b
    obtain ⟨n, fd, ps, hn, kf, bf, ok⟩ := hfv f _ hf
    rw [← hk] at ok kf bf
    refine wpAny_Call_Name_kw (thn ((pe_var (pos := pp) hN hv hdb hcd).run pins s σ H (fun v H1 => v = .ref b ∧ H1 = H) I ⟨.ref b, hs1, rfl, rfl⟩) fun u s1 ⟨v, H1, I1, r1, q1⟩ => ?_)
    obtain ⟨rfl, rfl⟩ := q1
    cases r1
    have hh : rdG p g W (callEv (ev f) as evs) false σ H1 Q := ⟨ε, F, S, by rw [e] at m; exact m⟩
    refine PySem.W.callWith_K (h₀ := X.base) I1.ok.mod.kin kf (thn (hs.run pos pins s1 σ H1 _ I1 (call_rd (qs := qs) hn hh)) fun us s2 ⟨vs, H2, I2, r, q⟩ => ⟨I2.kIn, ?_⟩) he hpl
    exact run_fnS ok hr bf (passAt tk σ) I2 r q
theorem call0_ok {evs : En → Rs (List D × En)} {k n : Nat} {x : Str} {pp : Pos} {ev : List Arg → Rs (Bool × D × List D)} (hn : Told n ev) (FX : FnX g X.prog X.w X.mg X.base k x n ev) (hr : Room k X.A) (hg : Gl X x)
    (hdb : (x == ("__debug__" : Str)) = false) (hk : X.K = g.K) (tk : Takes X W) :
    PE X (.Call (.Name x pp) [] [] pos) (rdG p g W (callEv ev .nil (fun ε => .ok ([], ε))) false) := by
  obtain ⟨f, fd, ps, mf, kf, bf, ok⟩ := FX.ex
  rw [← hk] at ok kf bf
  refine ⟨fun pins s σ H Q I h => ?_⟩
  refine wpAny_Call_Name_kw (ld_glob I hg mf ?_ hdb)
  have h2 := call_rd (qs := true) hn h
  have h3 : spD g n ev [] H Q (WE W σ) := by
    obtain ⟨ε, F, S, m⟩ := h2
    exact m [] F H S Stp.refl .nil
  exact PySem.W.callWith_K0 I.kIn kf (run_fnS (us := []) ok hr bf (passAt tk σ) I .nil h3)
end
end DL

set_option Elab.async false
set_option linter.all false
set_option maxRecDepth 100000
set_option maxHeartbeats 4000000
/-! DL10: what is walked, targets, comprehensions. -/
namespace DL
open PySem PySem.Spec PyProof.Rows L2

/-- what was lent is still where it was -/
def LtK (σ : L2.St) (ε : En) (σ' : L2.St) (ε' : En) : Prop := ∀ (i : Nat) (d : D), ε'[i]? = some (Sl.lnt d) → (∃ d, ε[i]? = some (Sl.lnt d)) ∧ σ'[i]? = σ[i]?
theorem LtK.refl {σ : L2.St} {ε : En} : LtK σ ε σ ε := fun i d h => ⟨⟨d, h⟩, rfl⟩
theorem LtK.trans {σ σ' σ2 : L2.St} {ε ε' ε2 : En} (a : LtK σ ε σ' ε') (b : LtK σ' ε' σ2 ε2) : LtK σ ε σ2 ε2 := fun i d h => by
  obtain ⟨⟨d', h'⟩, e⟩ := b i d h
  obtain ⟨h2, e2⟩ := a i d' h'
  exact ⟨h2, e.trans e2⟩
/-- from a state to a later one, slots changed -/
structure SSt (σ : L2.St) (ε : En) (F H : Hp) (σ' : L2.St) (ε' : En) (F' H' : Hp) : Prop where
  f : Sub F F'
  n : ∀ a o, F' a = some o → F a = some o ∨ Nn H a ∨ OwnO σ ε a
  k : ∀ a o, H a = some o → notTbl o → ¬ Owns σ ε a → H' a = some o
  z : ∀ a, Nn H' a → Nn H a
  o : ∀ a, Owns σ' ε' a → Owns σ ε a ∨ Nn H a
  oo : ∀ a, OwnO σ' ε' a → OwnO σ ε a ∨ Nn H a
  l : LtK σ ε σ' ε'
/-- an iterator yields these data -/
structure ItOk (g : Gx) (J : It) (F0 : Hp) (ds : List D) : Prop where
  go : ∀ (i : Nat) (F H : Hp), Sub F0 F → Sub F H → i < ds.length → J.go i H
  stop : ∀ (i : Nat) (F H : Hp), Sub F0 F → Sub F H → ds.length ≤ i → J.stop i H
  yld : ∀ (i : Nat) (F H : Hp) (x : V) (H' : Hp), Sub F0 F → Sub F H → i < ds.length → J.yld i H x H' → ∃ F' d, Grow F H F' H' ∧ ds[i]? = some d ∧ Rp g.K g.fa F' x d
def rdI (g : Gx) (W : WX) (ev : En → Rs (List D × En)) (q : Bool) : TI := fun σ H R => ∃ ε F, Stt g.toGh F H σ ε ∧ match ev ε with
  | .ok (ds, ε') => ∀ J F' H', Stt g.toGh F' H' σ ε' → Stp q σ ε F H ε' F' H' → ItOk g J F' ds → R J H'
  | .exc x => XW g W σ ε F H x
  | .bad => False
section
variable {g : Gx} {q q' p : Bool} {W : WX} {X : Cx} {pos : Pos} {F H F' H' F2 H2 H0 : Hp} {σ σ' σ2 : L2.St} {ε ε' ε1 ε2 : En} {x : Ex}
theorem SSt.refl : SSt σ ε F H σ ε F H := ⟨Sub.refl _, fun _ _ e => .inl e, fun _ _ e _ _ => e, fun _ e => e, fun _ e => .inl e, fun _ e => .inl e, LtK.refl⟩
theorem SSt.trans (s : SSt σ ε F H σ' ε' F' H') (s2 : SSt σ' ε' F' H' σ2 ε2 F2 H2) : SSt σ ε F H σ2 ε2 F2 H2 := by
  refine ⟨s.f.trans s2.f, fun a o e => ?_, fun a o e n h => ?_, fun a e => s.z a (s2.z a e), fun a e => ?_, fun a e => ?_, s.l.trans s2.l⟩
  · rcases s2.n a o e with h | h | h
    · exact s.n a o h
    · exact .inr (.inl (s.z a h))
    · rcases s.oo a h with h | h
      · exact .inr (.inr h)
      · exact .inr (.inl h)
  · refine s2.k a o (s.k a o e n h) n fun x => ?_
    rcases s.o a x with y | y
    · exact h y
    · exact y.no e n
  · rcases s2.o a e with h | h
    · exact s.o a h
    · exact .inr (s.z a h)
  · rcases s2.oo a e with h | h
    · exact s.oo a h
    · exact .inr (s.z a h)
theorem Stp.ss (s : Stp q σ ε F H ε' F' H') : SSt σ ε F H σ ε' F' H' := ⟨s.f, s.n, fun a o e n h => s.k a o e n fun _ => h, s.z, fun a e => .inl (s.o a e), fun a e => .inl (s.oo a e), fun i d h => ⟨s.l i d h, rfl⟩⟩
theorem SSt.xw (s : SSt σ ε F H σ' ε' F' H') (h : ∀ cls d F2 H2, Stx g.toGh σ ε F H F2 H2 → ExR g x cls d F2 H2 → W cls d σ' H2) : XW g W σ' ε' F' H' x := fun cls d F2 H2 t e => by
  refine h cls d F2 H2 ⟨t.sb, t.tb, t.ft, s.f.trans t.f, fun a o r => ?_, fun a o r n u => ?_, fun a r => s.z a (t.z a r)⟩ e
  · rcases t.n a o r with y | y | y
    · exact s.n a o y
    · exact .inr (.inl (s.z a y))
    · rcases s.oo a y with y | y
      · exact .inr (.inr y)
      · exact .inr (.inl y)
  · refine t.k a o (s.k a o r n u) n fun y => ?_
    rcases s.o a y with y | y
    · exact u y
    · exact y.no r n

/-- .. in which nothing becomes own -/
structure SSb (σ : L2.St) (ε : En) (F H : Hp) (σ' : L2.St) (ε' : En) (F' H' : Hp) : Prop extends SSt σ ε F H σ' ε' F' H' where
  o1 : ∀ a, Owns σ' ε' a → Owns σ ε a
  oo1 : ∀ a, OwnO σ' ε' a → OwnO σ ε a
theorem SSb.refl : SSb σ ε F H σ ε F H := ⟨SSt.refl, fun _ e => e, fun _ e => e⟩
theorem SSb.trans (s : SSb σ ε F H σ' ε' F' H') (s2 : SSb σ' ε' F' H' σ2 ε2 F2 H2) : SSb σ ε F H σ2 ε2 F2 H2 := ⟨s.toSSt.trans s2.toSSt, fun a e => s.o1 a (s2.o1 a e), fun a e => s.oo1 a (s2.oo1 a e)⟩
theorem Stp.sb (s : Stp q σ ε F H ε' F' H') : SSb σ ε F H σ ε' F' H' := ⟨s.ss, s.o, s.oo⟩

/-! ### a list, a tuple, a range walked -/
theorem it_list {a : Addr} {vs : List V} {ds : List D} {F0 : Hp} (h : F0 a = some (.lst vs)) (r : Rps g.K g.fa F0 vs ds) : ItOk g (Itl g.K a) F0 ds := by
  refine ⟨fun i F H s1 s2 hi => ?_, fun i F H s1 s2 hi => ⟨vs, SqL.of (s2 _ _ (s1 _ _ h)), by rw [r.len]; exact hi⟩, fun i F H x H' s1 s2 hi y => ?_⟩
  · have hi2 : i < vs.length := by rw [r.len]; exact hi
    exact ⟨vs, vs[i], SqL.of (s2 _ _ (s1 _ _ h)), List.getElem?_eq_getElem hi2⟩
  · obtain ⟨e, y⟩ := y
    subst e
    have y2 := y vs (SqL.of (s2 _ _ (s1 _ _ h)))
    obtain ⟨v, e1, e2⟩ := r.get (List.getElem?_eq_getElem hi)
    rw [y2] at e1; cases e1
    exact ⟨F, _, Grow.refl s2, List.getElem?_eq_getElem hi, Rp.mono s1 _ e2⟩
theorem it_tup {a : Addr} {vs : List V} {ds : List D} {F0 : Hp} (h : SqT g.K F0 a vs) (r : Rps g.K g.fa F0 vs ds) : ItOk g (Itt g.K a) F0 ds := by
  refine ⟨fun i F H s1 s2 hi => ?_, fun i F H s1 s2 hi => ⟨vs, sqT_mono (s1.trans s2) h, by rw [r.len]; exact hi⟩, fun i F H x H' s1 s2 hi y => ?_⟩
  · have hi2 : i < vs.length := by rw [r.len]; exact hi
    exact ⟨vs, vs[i], sqT_mono (s1.trans s2) h, List.getElem?_eq_getElem hi2⟩
  · obtain ⟨e, y⟩ := y
    subst e
    have y2 := y vs (sqT_mono (s1.trans s2) h)
    obtain ⟨v, e1, e2⟩ := r.get (List.getElem?_eq_getElem hi)
    rw [y2] at e1; cases e1
    exact ⟨F, _, Grow.refl s2, List.getElem?_eq_getElem hi, Rp.mono s1 _ e2⟩
theorem it_range {lo hi : Int} {F0 : Hp} : ItOk g (Itr lo (hi - lo).toNat) F0 (rangeD lo hi) := by
  have hl : (rangeD lo hi).length = (hi - lo).toNat := by simp [rangeD]
  refine ⟨fun i F H s1 s2 h => by rw [hl] at h; exact h, fun i F H s1 s2 h => by rw [hl] at h; exact h, fun i F H x H' s1 s2 h y => ?_⟩
  obtain ⟨e, y⟩ := y
  subst e y
  rw [hl] at h
  refine ⟨F, .int (lo + (i : Int)), Grow.refl s2, ?_, .int _⟩
  unfold rangeD
  rw [List.getElem?_map, List.getElem?_range h]; rfl
/-- a list or a tuple -/
theorem pi_seq {tg e : Expr} {te : TE} (he : PE X e te) : PI X tg e (fun σ H R => te σ H fun x H1 => ∃ a, x = .ref a ∧ (((∃ xs, SqL X.K H1 a xs) ∧ R (Itl X.K a) H1) ∨ ((∃ xs, SqT X.K H1 a xs) ∧ R (Itt X.K a) H1))) := by
  refine ⟨fun pins s σ H R I h => ?_⟩
  refine thn (he.run pins s σ H _ I h) fun v s1 ⟨x, H1, I1, r1, a, ex, q⟩ => ?_
  subst ex
  rcases q with ⟨⟨xs, hq⟩, q⟩ | ⟨⟨xs, hq⟩, q⟩
  · have h2 := (pi_list (X := X) (tg := tg) (l := e) (tl := te) he)
    cases r1
    obtain ⟨its, rv, p, hz⟩ := I1.list hq
    refine wpAny_pyIter_list p.isList ?_
    refine ⟨s1.heap.objs.size, [s1.heap.objs.size], _, _, H1, rfl, I1.kept (t' := s1.toks) fun b o e => Heap.get?_push_of_some _ e, turn_list a _, ⟨_, Heap.get?_push_size _ rfl, rfl, rfl⟩, fun b hb => ?_, q⟩
    have e : b = s1.heap.objs.size := by simpa using hb
    subst e
    exact I1.fpOk (Nat.le_refl _) (I1.hok.fresh (Nat.le_refl _))
  · cases r1
    obtain ⟨its, rv, p, hz⟩ := I1.tuple hq
    refine wpAny_pyIter_tuple (show s1.heap.IsTuple a its.toArray from p) ?_
    refine ⟨s1.heap.objs.size, [s1.heap.objs.size], _, _, H1, rfl, I1.kept (t' := s1.toks) fun b o e => Heap.get?_push_of_some _ e, turn_tuple a _, ⟨_, Heap.get?_push_size _ rfl, rfl, rfl⟩, fun b hb => ?_, q⟩
    have e : b = s1.heap.objs.size := by simpa using hb
    subst e
    exact I1.fpOk (Nat.le_refl _) (I1.hok.fresh (Nat.le_refl _))
def itEv (ev : En → Rs (Bool × D × En)) : En → Rs (List D × En) := fun ε => (ev ε).bind fun (_, x, ε1) => (Rs.opt x.items).bind fun ds => .ok (ds, ε1)
theorem it_ok {tg a : Expr} {eva : En → Rs (Bool × D × En)} {qa : Bool} (ha : PE X a (rdG false g W eva qa)) (hk : X.K = g.K) : PI X tg a (rdI g W (itEv eva) qa) := by
  refine ⟨fun pins s σ H R I h => (pi_seq ha).run pins s σ H R I ?_⟩
  obtain ⟨ε, F, S, m⟩ := h
  unfold itEv at m
  refine ⟨ε, F, S, ?_⟩
  cases e : eva ε with
  | exc x => simp only [e, Rs.bind] at m; exact m
  | bad => simp only [e, Rs.bind] at m
  | ok r =>
    obtain ⟨w1, z1, ε1⟩ := r
    simp only [e, Rs.bind] at m
    intro v F1 H1 S1 s1 r1
    have h0 : ∀ a, Owns σ ε1 a → ¬ Nn H a := fun a o => S.ownN a (s1.o a o)
    obtain ⟨F2, sf, r2, S2, n2⟩ := RR.frz1 h0 S1 (Sub.refl _) r1
    have s2 := s1.frz sf n2
    rw [hk]
    cases z1 <;> simp only [D.items, Rs.opt] at m
    · cases r2 with | tup a b =>
      exact ⟨_, rfl, .inr ⟨⟨_, sqT_mono S2.sb a⟩, m _ F2 H1 S2 s2 (it_tup a b)⟩⟩
    · cases r2 with | lst a b =>
      exact ⟨_, rfl, .inl ⟨⟨_, SqL.of (S2.sb _ _ a)⟩, m _ F2 H1 S2 s2 (it_list a b)⟩⟩
theorem zipD_get {xs ys : List D} {i : Nat} {x y : D} (h1 : xs[i]? = some x) (h2 : ys[i]? = some y) : (zipD xs ys)[i]? = some (.tup [x, y]) := by
  unfold zipD
  rw [List.getElem?_zipWith, h1, h2]
theorem zipD_len {xs ys : List D} : (zipD xs ys).length = min xs.length ys.length := by unfold zipD; rw [List.length_zipWith]
theorem enumD_get : ∀ (xs : List D) (k i : Nat) {x : D}, xs[i]? = some x → (enumD k xs)[i]? = some (.tup [.int ((k + i : Nat) : Int), x])
  | [], _, _, _, h => by simp at h
  | d :: ds, k, 0, x, h => by simp at h; subst h; simp [enumD]
  | d :: ds, k, i + 1, x, h => by
    have := enumD_get ds (k + 1) i (by simpa using h)
    simp only [enumD, List.getElem?_cons_succ]
    rw [this, show k + 1 + i = k + (i + 1) by omega]
theorem enumD_len : ∀ (xs : List D) (k : Nat), (enumD k xs).length = xs.length
  | [], _ => rfl
  | d :: ds, k => by simp [enumD, enumD_len ds]
/-- a new pair -/
theorem grow_pair {F H : Hp} (s : Sub F H) {T : Addr} {x y : V} {dx dy : D} (h : H T = none) (rx : Rp g.K g.fa F x dx) (ry : Rp g.K g.fa F y dy) : Grow F H (upd F T (.tup [x, y])) (upd H T (.tup [x, y])) ∧ Rp g.K g.fa (upd F T (.tup [x, y])) (.ref T) (.tup [dx, dy]) := by
  have fT : F T = none := s.none h
  refine ⟨⟨Sub.new fT, Sub.new h, Sub.new2 s, fun a o e => ?_, upd_tbl fun ps z => nomatch z⟩, .tup (.inl (.inl upd_same)) (.cons (Rp.mono (Sub.new fT) _ rx) (.cons (Rp.mono (Sub.new fT) _ ry) .nil))⟩
  by_cases q : a = T
  · subst q
    rw [upd_same] at e
    cases e
    exact .inr ⟨h, fun ps z => nomatch z⟩
  · rw [upd_ne q] at e; exact .inl e
theorem it_zipT {a b : Addr} {vs ws : List V} {xs ys : List D} {F0 : Hp} (h : SqT g.K F0 a vs) (r : Rps g.K g.fa F0 vs xs) (h2 : SqT g.K F0 b ws) (r2 : Rps g.K g.fa F0 ws ys) : ItOk g (RZ.ItzT g.K a b) F0 (zipD xs ys) := by
  refine ⟨fun i F H s1 s2 hi => ?_, fun i F H s1 s2 hi => ⟨vs, ws, sqT_mono (s1.trans s2) h, sqT_mono (s1.trans s2) h2, by rw [zipD_len] at hi; rw [r.len, r2.len]; omega⟩, fun i F H x H' s1 s2 hi y => ?_⟩
  · rw [zipD_len] at hi
    have hv : i < vs.length := by rw [r.len]; omega
    have hw : i < ws.length := by rw [r2.len]; omega
    exact ⟨vs, ws, vs[i], ws[i], sqT_mono (s1.trans s2) h, sqT_mono (s1.trans s2) h2, List.getElem?_eq_getElem hv, List.getElem?_eq_getElem hw⟩
  · rw [zipD_len] at hi
    obtain ⟨T, vx, vy, rfl, hT, rfl, y1, y2⟩ := y
    have y1 := y1 vs (sqT_mono (s1.trans s2) h)
    have y2 := y2 ws (sqT_mono (s1.trans s2) h2)
    have hx : i < xs.length := by omega
    have hy : i < ys.length := by omega
    obtain ⟨v, e1, e2⟩ := r.get (List.getElem?_eq_getElem hx)
    rw [y1] at e1; cases e1
    obtain ⟨w, e3, e4⟩ := r2.get (List.getElem?_eq_getElem hy)
    rw [y2] at e3; cases e3
    obtain ⟨g1, g2⟩ := grow_pair s2 hT (Rp.mono s1 _ e2) (Rp.mono s1 _ e4)
    exact ⟨_, _, g1, zipD_get (List.getElem?_eq_getElem hx) (List.getElem?_eq_getElem hy), g2⟩
theorem it_enum {a : Addr} {vs : List V} {ds : List D} {F0 : Hp} (h : F0 a = some (.lst vs)) (r : Rps g.K g.fa F0 vs ds) : ItOk g (Ite g.K a) F0 (enumD 0 ds) := by
  refine ⟨fun i F H s1 s2 hi => ?_, fun i F H s1 s2 hi => ⟨vs, SqL.of (s2 _ _ (s1 _ _ h)), by rw [enumD_len] at hi; rw [r.len]; exact hi⟩, fun i F H x H' s1 s2 hi y => ?_⟩
  · rw [enumD_len] at hi
    have hi2 : i < vs.length := by rw [r.len]; exact hi
    exact ⟨vs, vs[i], SqL.of (s2 _ _ (s1 _ _ h)), List.getElem?_eq_getElem hi2⟩
  · rw [enumD_len] at hi
    obtain ⟨T, vx, rfl, hT, rfl, y1⟩ := y
    have y1 := y1 vs (SqL.of (s2 _ _ (s1 _ _ h)))
    obtain ⟨v, e1, e2⟩ := r.get (List.getElem?_eq_getElem hi)
    rw [y1] at e1; cases e1
    obtain ⟨g1, g2⟩ := grow_pair s2 hT (.int (i : Int)) (Rp.mono s1 _ e2)
    refine ⟨_, _, g1, ?_, g2⟩
    rw [enumD_get ds 0 i (List.getElem?_eq_getElem hi), Nat.zero_add]
def enumEv (ev : En → Rs (Bool × D × En)) : En → Rs (List D × En) := fun ε => (ev ε).bind fun (_, x, ε1) => match x with
    | .lst ds => .ok (enumD 0 ds, ε1)
    | _ => .bad
theorem enum_ok {elts : List Expr} {kk : Nat} {tpos : Pos} {a : Expr} {eva : En → Rs (Bool × D × En)} {qa : Bool} {pp : Pos} (hg : Gl X "enumerate") (hm : X.mg "enumerate" = none) (hst : ∀ x p, a ≠ .Starred x p) (ha : PE X a (rdG false g W eva qa)) (hk : X.K = g.K) :
    PI X (.Tuple elts kk tpos) (.Call (.Name "enumerate" pp) [a] [] pos) (rdI g W (enumEv eva) qa) := by
  have hp := pi_enum (elts := elts) (kk := kk) (tpos := tpos) (p := pp) (pos := pos) hg hm (pa_cons ha pa_nil (starEach_cons hst)) (by rw [starEach_cons hst]; rfl)
  refine ⟨fun pins s σ H R I h => hp.run pins s σ H R I ?_⟩
  obtain ⟨ε, F, S, m⟩ := h
  unfold enumEv at m
  refine ⟨ε, F, S, ?_⟩
  cases e : eva ε with
  | exc x => simp only [e, Rs.bind] at m; exact m
  | bad => simp only [e, Rs.bind] at m
  | ok r =>
    obtain ⟨w1, z1, ε1⟩ := r
    simp only [e, Rs.bind] at m
    intro v F1 H1 S1 s1 r1
    have h0 : ∀ a, Owns σ ε1 a → ¬ Nn H a := fun a o => S.ownN a (s1.o a o)
    obtain ⟨F2, sf, r2, S2, n2⟩ := RR.frz1 h0 S1 (Sub.refl _) r1
    have s2 := s1.frz sf n2
    cases z1 <;> simp only at m
    cases r2 with | lst a b =>
    rw [hk]
    exact ⟨_, _, rfl, SqL.of (S2.sb _ _ a), m _ F2 H1 S2 s2 (it_enum a b)⟩
def zipEv (ev : En → Rs (List D × En)) : En → Rs (List D × En) := fun ε => (ev ε).bind fun (ds, ε1) => match ds with
    | [.tup xs, .tup ys] => .ok (zipD xs ys, ε1)
    | _ => .bad
theorem RR.tupR {H0 F H : Hp} {v : V} {w : Bool} {ds : List D} (r : RR g.K g.fa H0 F H v w (.tup ds)) : ∃ a vs, v = .ref a ∧ SqT g.K F a vs ∧ Rps g.K g.fa F vs ds := by
  cases w with
  | false => cases r with | tup a b => exact ⟨_, _, rfl, a, b⟩
  | true =>
    obtain ⟨a, _, _, _, c⟩ := r
    exact c.elim
theorem zip_ok {elts : List Expr} {kk : Nat} {tpos : Pos} {a b : Expr} {evs : En → Rs (List D × En)} {qs : Bool} {pp : Pos} (hg : Gl X "zip") (hm : X.mg "zip" = none) (hst : ∀ x p, a ≠ .Starred x p) (hst2 : ∀ x p, b ≠ .Starred x p) (ha : PA X [a, b] (rdA g W evs qs)) (hk : X.K = g.K) :
    PI X (.Tuple elts kk tpos) (.Call (.Name "zip" pp) [a, b] [] pos) (rdI g W (zipEv evs) qs) := by
  have hp := RZ.pi_zipA (elts := elts) (kk := kk) (tpos := tpos) (p := pp) (pos := pos) hg hm ha (starEach_cons hst) (by rw [starEach_cons hst2]; rfl)
  refine ⟨fun pins s σ H R I h => hp.run pins s σ H R I ?_⟩
  obtain ⟨ε, F, S, m⟩ := h
  unfold zipEv at m
  refine ⟨ε, F, S, ?_⟩
  cases e : evs ε with
  | exc x => simp only [e, Rs.bind] at m; exact m
  | bad => simp only [e, Rs.bind] at m
  | ok r =>
    obtain ⟨ds, ε1⟩ := r
    simp only [e, Rs.bind] at m
    intro vs F1 H1 S1 s1 t1
    have key : ∃ xs ys, ds = [.tup xs, .tup ys] := by
      split at m
      · rename_i h; split at h
        · exact ⟨_, _, rfl⟩
        · cases h
      · rename_i h; split at h <;> cases h
      · exact m.elim
    obtain ⟨xs, ys, rfl⟩ := key
    simp only at m
    cases t1 with | cons r1 t1 =>
    cases t1 with | cons r2 t1 =>
    cases t1
    obtain ⟨a, us, rfl, a1, b1⟩ := RR.tupR (g := g) r1
    obtain ⟨b, ws, rfl, a2, b2⟩ := RR.tupR (g := g) r2
    rw [hk]
    exact ⟨a, b, us, ws, rfl, .inr ⟨sqT_mono S1.sb a1, sqT_mono S1.sb a2, m _ F1 H1 S1 s1 (it_zipT a1 b1 a2 b2)⟩⟩
def rng1Ev (ev : En → Rs (Bool × D × En)) : En → Rs (List D × En) := fun ε => (ev ε).bind fun (_, x, ε1) => match x with
    | .int n => if -(2 ^ 62) ≤ n ∧ n < 2 ^ 62 then .ok (rangeD 0 n, ε1) else .bad
    | _ => .bad
theorem rng1_ok {tg a : Expr} {eva : En → Rs (Bool × D × En)} {qa : Bool} {pp : Pos} (hg : Gl X "range") (hm : X.mg "range" = none) (hst : ∀ x p, a ≠ .Starred x p) (ha : PE X a (rdG false g W eva qa)) : PI X tg (.Call (.Name "range" pp) [a] [] pos) (rdI g W (rng1Ev eva) qa) := by
  have hp := pi_range1 (tg := tg) (p := pp) (pos := pos) hg hm (pa_cons ha pa_nil (starEach_cons hst)) (by rw [starEach_cons hst]; rfl)
  refine ⟨fun pins s σ H R I h => hp.run pins s σ H R I ?_⟩
  obtain ⟨ε, F, S, m⟩ := h
  unfold rng1Ev at m
  refine ⟨ε, F, S, ?_⟩
  cases e : eva ε with
  | exc x => simp only [e, Rs.bind] at m; exact m
  | bad => simp only [e, Rs.bind] at m
  | ok r =>
    obtain ⟨w1, z1, ε1⟩ := r
    simp only [e, Rs.bind] at m
    intro v F1 H1 S1 s1 r1
    cases z1 <;> simp only at m
    rename_i n
    by_cases hb : -(2 ^ 62) ≤ n ∧ n < 2 ^ 62
    · rw [if_pos hb] at m
      have := (RG.now r1).int
      subst this
      refine ⟨n, rfl, hb.1, hb.2, ?_⟩
      have e0 : n.toNat = (n - 0).toNat := by omega
      rw [e0]
      exact m _ F1 H1 S1 s1 it_range
    · rw [if_neg hb] at m
      exact m.elim
def rng2Ev (eva evb : En → Rs (Bool × D × En)) : En → Rs (List D × En) := fun ε => (eva ε).bind fun (_, x, ε1) => (evb ε1).bind fun (_, y, ε2) => match x, y with
    | .int m, .int n => if -(2 ^ 62) ≤ m ∧ m < 2 ^ 62 ∧ -(2 ^ 62) ≤ n ∧ n < 2 ^ 62 then .ok (rangeD m n, ε2) else .bad
    | _, _ => .bad
theorem rng2_ok {tg a b : Expr} {eva evb : En → Rs (Bool × D × En)} {qa qb : Bool} {pp : Pos} (hg : Gl X "range") (hm : X.mg "range" = none) (hst : ∀ x p, a ≠ .Starred x p) (hst2 : ∀ x p, b ≠ .Starred x p) (ha : PE X a (rdG false g W eva qa)) (hb : PE X b (rdG false g W evb qb)) :
    PI X tg (.Call (.Name "range" pp) [a, b] [] pos) (rdI g W (rng2Ev eva evb) (qa && qb)) := by
  have hp := pi_range2 (tg := tg) (p := pp) (pos := pos) hg hm (pa_cons ha (pa_cons hb pa_nil (starEach_cons hst2)) (starEach_cons hst)) (by rw [starEach_cons hst, starEach_cons hst2]; rfl) (by rw [starEach_cons hst2]; rfl)
  refine ⟨fun pins s σ H R I h => hp.run pins s σ H R I ?_⟩
  obtain ⟨ε, F, S, m⟩ := h
  unfold rng2Ev at m
  refine ⟨ε, F, S, ?_⟩
  cases e : eva ε with
  | exc x => simp only [e, Rs.bind] at m; exact m
  | bad => simp only [e, Rs.bind] at m
  | ok r =>
    obtain ⟨w1, z1, ε1⟩ := r
    simp only [e, Rs.bind] at m
    intro v F1 H1 S1 s1 r1
    refine ⟨ε1, F1, S1, ?_⟩
    cases e2 : evb ε1 with
    | exc x => simp only [e2] at m; exact s1.xw m
    | bad => simp only [e2] at m
    | ok r =>
      obtain ⟨w2, z2, ε2⟩ := r
      simp only [e2] at m
      intro u F2 H2 S2 s2 r2
      cases z1 <;> cases z2 <;> simp only at m
      rename_i k n
      by_cases hb : -(2 ^ 62) ≤ k ∧ k < 2 ^ 62 ∧ -(2 ^ 62) ≤ n ∧ n < 2 ^ 62
      · rw [if_pos hb] at m
        have h1 := (RG.later S s1 r1 s2 (fun z => nomatch z)).int
        have h2 := (RG.now r2).int
        subst h1 h2
        exact ⟨_, _, rfl, hb, m _ F2 H2 S2 (s1.and s2) it_range⟩
      · rw [if_neg hb] at m
        exact m.elim

/-! ### targets -/
/-- a slot is given what stays -/
theorem put_val {i : Nat} {v : V} {d : D} {ε' : En} (S : Stt g.toGh F H σ ε) (r : Rp g.K g.fa F v d) (e : putS ε i false d = .ok ε') : Stt g.toGh F H (σ.set i (some v)) ε' ∧ SSb σ ε F H (σ.set i (some v)) ε' F H ∧ i < ε.length := by
  unfold putS at e
  have key : i < ε.length ∧ ε' = ε.set i (.val d) := by
    split at e
    · cases e
    · cases e
    · rename_i s hs _ _
      simp only [Bool.false_eq_true, if_false] at e
      injection e with e
      first
        | exact ⟨(List.getElem?_eq_some_iff.mp (by assumption)).1, e.symm⟩
  obtain ⟨hi, rfl⟩ := key
  have hiσ : i < σ.length := by rw [S.len]; exact hi
  have ow : ∀ {b : Addr} {j : Nat}, Ow (σ.set i (some v)) (ε.set i (.val d)) j b → Ow σ ε j b ∧ j ≠ i := fun {b j} h => by
    by_cases hj : j = i
    · subst hj
      obtain ⟨h, _⟩ := h
      rw [List.getElem?_set_self hi] at h
      rcases h with ⟨_, h⟩ | ⟨_, h⟩ <;> cases h
    · refine ⟨?_, hj⟩
      obtain ⟨h, h2⟩ := h
      rw [List.getElem?_set_ne (Ne.symm hj)] at h h2
      exact ⟨h, h2⟩
  have oww : ∀ b, OwnO (σ.set i (some v)) (ε.set i (.val d)) b → OwnO σ ε b := fun b ⟨j, dd, h1, h2⟩ => by
    have hj : j ≠ i := (ow ⟨.inl ⟨dd, h1⟩, h2⟩).2
    rw [List.getElem?_set_ne (Ne.symm hj)] at h1 h2
    exact ⟨j, dd, h1, h2⟩
  refine ⟨⟨S.sb, S.tb, S.ft, by rw [List.length_set, List.length_set]; exact S.len, fun j s h => ?_, fun j k b h1 h2 => S.ap _ _ b (ow h1).1 (ow h2).1⟩,
    ⟨⟨Sub.refl _, fun _ _ e => .inl e, fun _ _ e _ _ => e, fun _ e => e, fun b ⟨j, h⟩ => .inl ⟨j, (ow h).1⟩, fun b h => .inl (oww b h), fun j dd h => ?_⟩, fun b ⟨j, h⟩ => ⟨j, (ow h).1⟩, oww⟩, hi⟩
  · by_cases hj : j = i
    · subst hj
      rw [List.getElem?_set_self hi] at h
      cases h
      exact ⟨v, List.getElem?_set_self hiσ, r⟩
    · rw [List.getElem?_set_ne (Ne.symm hj)] at h
      have hs := S.sl j s h
      have e1 : (σ.set i (some v))[j]? = σ[j]? := List.getElem?_set_ne (Ne.symm hj)
      rw [e1]; exact hs
  · by_cases hj : j = i
    · subst hj; rw [List.getElem?_set_self hi] at h; cases h
    · rw [List.getElem?_set_ne (Ne.symm hj)] at h
      exact ⟨⟨dd, h⟩, List.getElem?_set_ne (Ne.symm hj)⟩
end
end DL

set_option Elab.async false
set_option linter.all false
set_option maxRecDepth 100000
set_option maxHeartbeats 4000000
/-! DL11: comprehensions. -/
namespace DL
open PySem PySem.Spec PyProof.Rows L2

def gOfs : List Nat → TGs
  | [] => gNil
  | i :: is => gCons (gName i) (gOfs is)
def gOf (K : PySem.W.Frag) : Tg → TG
  | .n i => gName i
  | .t is => gTup K is.length (gOfs is)
def Tg.slots : Tg → List Nat
  | .n i => [i]
  | .t is => is
theorem wipeE_len (ε : En) : ∀ vs : List Nat, (wipeE ε vs).length = ε.length
  | [] => rfl
  | v :: vs => by unfold wipeE; rw [List.length_set, wipeE_len ε vs]
theorem wipeE_out {ε : En} {i : Nat} : ∀ {vs : List Nat}, i ∉ vs → (wipeE ε vs)[i]? = ε[i]?
  | [], _ => rfl
  | v :: vs, h => by
    unfold wipeE
    rw [List.getElem?_set_ne (fun e => h (by rw [e]; exact List.mem_cons_self))]
    exact wipeE_out fun z => h (List.mem_cons_of_mem _ z)
theorem wipeE_in {ε : En} {i : Nat} {s : Sl} : ∀ {vs : List Nat}, i ∈ vs → (wipeE ε vs)[i]? = some s → s = .no
  | [], h, _ => by cases h
  | v :: vs, h, e => by
    unfold wipeE at e
    by_cases hi : v = i
    · subst hi
      rw [List.getElem?_set] at e
      split at e
      · split at e
        · exact (Option.some.inj e).symm
        · cases e
      · exact absurd rfl (by assumption)
    · rw [List.getElem?_set_ne hi] at e
      rcases List.mem_cons.mp h with h | h
      · exact absurd h.symm hi
      · exact wipeE_in h e
theorem backE_len (ε0 ε : En) : ∀ vs : List Nat, (backE ε0 ε vs).length = ε.length
  | [] => rfl
  | v :: vs => by unfold backE; rw [List.length_set, backE_len ε0 ε vs]
theorem backE_out {ε0 ε : En} {i : Nat} : ∀ {vs : List Nat}, i ∉ vs → (backE ε0 ε vs)[i]? = ε[i]?
  | [], _ => rfl
  | v :: vs, h => by
    unfold backE
    rw [List.getElem?_set_ne (fun e => h (by rw [e]; exact List.mem_cons_self))]
    exact backE_out fun z => h (List.mem_cons_of_mem _ z)
theorem backE_in {ε0 ε : En} {i : Nat} {s : Sl} : ∀ {vs : List Nat}, i ∈ vs → (backE ε0 ε vs)[i]? = some s → s = ε0.getD i .no
  | [], h, _ => by cases h
  | v :: vs, h, e => by
    unfold backE at e
    by_cases hi : v = i
    · subst hi
      rw [List.getElem?_set] at e
      split at e
      · split at e
        · exact (Option.some.inj e).symm
        · cases e
      · exact absurd rfl (by assumption)
    · rw [List.getElem?_set_ne hi] at e
      rcases List.mem_cons.mp h with h | h
      · exact absurd h.symm hi
      · exact backE_in h e
theorem wipe_outL {σ : L2.St} {i : Nat} : ∀ {vs : List Nat}, i ∉ vs → (L2.wipe σ vs)[i]? = σ[i]?
  | [], _ => rfl
  | v :: vs, h => by
    unfold L2.wipe
    rw [List.getElem?_set_ne (fun e => h (by rw [e]; exact List.mem_cons_self))]
    exact wipe_outL fun z => h (List.mem_cons_of_mem _ z)
theorem wipe_in {σ : L2.St} {i : Nat} {v : V} : ∀ {vs : List Nat}, (L2.wipe σ vs)[i]? = some (some v) → i ∉ vs := fun h => (L2.wipe_some h).2
theorem wipe_set {σ : L2.St} {i : Nat} {v : Option V} : ∀ {vs : List Nat}, i ∈ vs → L2.wipe (σ.set i v) vs = L2.wipe σ vs
  | [], h => by cases h
  | u :: vs, h => by
    unfold L2.wipe
    by_cases hi : i ∈ vs
    · rw [wipe_set hi]
    · have e : u = i := ((List.mem_cons.mp h).resolve_right hi).symm
      subst e
      have key : ∀ (ws : List Nat), u ∉ ws → L2.wipe (σ.set u v) ws = (L2.wipe σ ws).set u v := by
        intro ws
        induction ws with
        | nil => intro _; rfl
        | cons w ws ih =>
          intro hn
          unfold L2.wipe
          rw [ih (fun z => hn (List.mem_cons_of_mem _ z)), List.set_comm _ _ (fun e => hn (by rw [e]; exact List.mem_cons_self))]
      rw [key vs hi, List.set_set]
section
variable {g : Gx} {q q' p : Bool} {W : WX} {X : Cx} {pos : Pos} {F H F' H' F2 H2 H0 : Hp} {σ σ' σ2 : L2.St} {ε ε' ε1 ε2 : En} {x : Ex}
theorem Ow.wipe {vs : List Nat} {j : Nat} {a : Addr} (h : Ow (L2.wipe σ vs) (wipeE ε vs) j a) : j ∉ vs ∧ Ow σ ε j a := by
  obtain ⟨h, h2⟩ := h
  have hj := wipe_in h2
  rw [wipe_outL hj] at h2
  rw [wipeE_out hj] at h
  exact ⟨hj, h, h2⟩
theorem OwnO.wipe {vs : List Nat} {a : Addr} (h : OwnO (L2.wipe σ vs) (wipeE ε vs) a) : OwnO σ ε a := by
  obtain ⟨j, d, h, h2⟩ := h
  have hj := wipe_in h2
  rw [wipe_outL hj] at h2
  rw [wipeE_out hj] at h
  exact ⟨j, d, h, h2⟩
theorem Stt.wipe {vs : List Nat} (S : Stt g.toGh F H σ ε) : Stt g.toGh F H (L2.wipe σ vs) (wipeE ε vs) := by
  refine ⟨S.sb, S.tb, S.ft, by rw [L2.wipe_length, wipeE_len]; exact S.len, fun i s h => ?_, fun i j a h1 h2 => S.ap i j a h1.wipe.2 h2.wipe.2⟩
  by_cases hi : i ∈ vs
  · rw [wipeE_in hi h]; trivial
  · rw [wipeE_out hi] at h
    rw [wipe_outL hi]
    exact S.sl i s h
/-- a thing that no slot has stays -/
theorem SSt.keep (s : SSt σ ε F H σ' ε' F' H') {a : Addr} {o : HO} (h : H a = some o) (n : notTbl o) (hn : ¬ Owns σ ε a) : H' a = some o ∧ ¬ Owns σ' ε' a :=
  ⟨s.k a o h n hn, fun z => (s.o a z).elim hn fun y => y.no h n⟩
theorem SSt.fnone (s : SSt σ ε F H σ' ε' F' H') {a : Addr} {o : HO} (h : H a = some o) (nt : notTbl o) (hn : ¬ Owns σ ε a) (f : F a = none) : F' a = none := by
  cases e : F' a with
  | none => rfl
  | some u =>
    rcases s.n a u e with y | y | y
    · rw [f] at y; cases y
    · exact y.no h nt
    · exact absurd (Owns.of y) hn
theorem bindNs_rd {Q : L2.St → Hp → Prop} : ∀ {is : List Nat} {xs : List V} {ds : List D} {σ : L2.St} {ε ε' : En}, Stt g.toGh F H σ ε → Rps g.K g.fa F xs ds → bindNs ε is ds = .ok ε' →
    (∀ σ', Stt g.toGh F H σ' ε' → SSb σ ε F H σ' ε' F H → (∀ vs : List Nat, (∀ i ∈ is, i ∈ vs) → L2.wipe σ' vs = L2.wipe σ vs) → Q σ' H) → gOfs is xs σ H Q
  | [], xs, ds, σ, ε, ε', S, r, e, h => by
    cases r with
    | nil =>
      simp only [bindNs] at e
      injection e with e
      subst e
      exact ⟨rfl, h σ S SSb.refl fun _ _ => rfl⟩
    | cons _ _ => simp only [bindNs] at e; cases e
  | i :: is, xs, ds, σ, ε, ε', S, r, e, h => by
    cases r with
    | nil => simp only [bindNs] at e; cases e
    | @cons v vs d ds r t =>
      simp only [bindNs] at e
      cases e1 : putS ε i false d with
      | exc x => rw [e1] at e; cases e
      | bad => rw [e1] at e; cases e
      | ok ε1 =>
        rw [e1] at e
        simp only [Rs.bind] at e
        obtain ⟨S1, s1, hi⟩ := put_val S r e1
        refine ⟨v, vs, rfl, ?_⟩
        refine bindNs_rd (σ := σ.set i (some v)) S1 t e fun σ' S' s' hw => h σ' S' (s1.trans s') fun ws hs => ?_
        rw [hw ws fun j hj => hs j (List.mem_cons_of_mem _ hj), wipe_set (hs i List.mem_cons_self)]
theorem bindT_rd {t : Tg} {v : V} {d : D} {Q : L2.St → Hp → Prop} (S : Stt g.toGh F H σ ε) (r : Rp g.K g.fa F v d) (e : bindT ε t d = .ok ε')
    (h : ∀ σ', Stt g.toGh F H σ' ε' → SSb σ ε F H σ' ε' F H → (∀ vs : List Nat, (∀ i ∈ t.slots, i ∈ vs) → L2.wipe σ' vs = L2.wipe σ vs) → Q σ' H) : gOf g.K t v σ H Q := by
  cases t with
  | n i =>
    simp only [bindT] at e
    obtain ⟨S1, s1, hi⟩ := put_val S r e
    exact h _ S1 s1 fun vs hs => wipe_set (hs i (by simp [Tg.slots]))
  | t is =>
    cases d <;> simp only [bindT] at e <;> first | (cases e; done) | skip
    rename_i ds
    cases r with
    | @tup a vs _ ha rs =>
      have hl : vs.length = is.length := by
        rw [rs.len]
        have : ∀ (is : List Nat) (ds : List D) (ε ε' : En), bindNs ε is ds = .ok ε' → ds.length = is.length := by
          intro is
          induction is with
          | nil =>
            intro ds ε ε' e
            cases ds with
            | nil => rfl
            | cons _ _ => simp only [bindNs] at e; cases e
          | cons i is ih =>
            intro ds ε ε' e
            cases ds with
            | nil => simp only [bindNs] at e; cases e
            | cons d ds =>
              simp only [bindNs] at e
              cases e1 : putS ε i false d with
              | exc x => rw [e1] at e; cases e
              | bad => rw [e1] at e; cases e
              | ok ε1 =>
                rw [e1] at e
                simp only [Rs.bind] at e
                simp [ih _ _ _ e]
        exact this is ds ε ε' e
      exact ⟨a, vs, rfl, sqT_mono S.sb ha, hl, bindNs_rd S rs e h⟩
/-! ### the comprehension -/
def compTurn (t : Tg) (evc : En → Rs (Bool × En)) (ev : En → Rs (Bool × D × En)) (vs : List Nat) : D → En → Rs (Option D × En) := fun x ε2 => (bindT (wipeE ε2 vs) t x).bind fun ε3 => (evc ε3).bind fun (b, ε4) => match b with
      | true => (ev ε4).bind fun (_, d, ε5) => .ok (some d, ε5)
      | false => .ok (none, ε4)
def compEv (evi : En → Rs (List D × En)) (t : Tg) (evc : En → Rs (Bool × En)) (ev : En → Rs (Bool × D × En)) (vs : List Nat) : En → Rs (Bool × D × En) := fun ε => (evi ε).bind fun (xs, ε1) => match compL (compTurn t evc ev vs) xs ε1 with
    | .ok (ds, ε2) => if ds.length ≤ sizeL then .ok (true, .lst ds, backE ε1 ε2 vs) else .bad
    | _ => .bad
def W0 : WX := fun _ _ _ _ => False
theorem no_xw {st : En} (h : XW g W0 σ ε F H x) (S : Stt g.toGh F H σ ε) (hx : ∀ dd, x.arg = some dd → False) : False := by
  have := h (.ref (g.ca x.cls)) none F H ⟨S.sb, S.tb, S.ft, Sub.refl _, fun _ _ e => .inl e, fun _ _ e _ _ => e, fun _ e => e⟩ ⟨rfl, by
    cases e : x.arg with
    | none => trivial
    | some dd => exact (hx dd e).elim⟩
  exact this
structure CInv (g : Gx) (σ : L2.St) (vs : List Nat) (ε1 : En) (F1 H1 : Hp) (A : Addr) (turn : D → En → Rs (Option D × En)) (ds dsF : List D) (εF : En) (i : Nat) (H : Hp) : Prop where
  ex : ∃ (ε : En) (F : Hp) (acc : List D) (av : List V) (more : List D), Stt g.toGh F H (L2.wipe σ vs) (wipeE ε vs) ∧ SSb (L2.wipe σ vs) (wipeE ε1 vs) F1 H1 (L2.wipe σ vs) (wipeE ε vs) F H ∧ ε.length = ε1.length ∧
    H A = some (.lst av) ∧ F A = none ∧ Rps g.K g.fa F av acc ∧ ¬ Owns (L2.wipe σ vs) (wipeE ε vs) A ∧ compL turn (ds.drop i) ε = .ok (more, εF) ∧ acc ++ more = dsF
theorem sst_grow (gr : Grow F H F' H') : SSb σ ε F H σ ε F' H' := (Stp.grow (q := true) gr).sb
theorem SSb.wipe {vs : List Nat} (hw : L2.wipe σ' vs = L2.wipe σ vs) (s : SSb (L2.wipe σ vs) ε F H σ' ε' F' H') : SSb (L2.wipe σ vs) ε F H (L2.wipe σ vs) (wipeE ε' vs) F' H' := by
  have h1 : ∀ a, Owns (L2.wipe σ vs) (wipeE ε' vs) a → Owns σ' ε' a := fun a ⟨j, h⟩ => by
    rw [← hw] at h
    exact ⟨j, h.wipe.2⟩
  have h2 : ∀ a, OwnO (L2.wipe σ vs) (wipeE ε' vs) a → OwnO σ' ε' a := fun a h => by
    rw [← hw] at h
    exact h.wipe
  exact ⟨⟨s.f, s.n, s.k, s.z, fun a h => s.o a (h1 a h), fun a h => s.oo a (h2 a h), fun i d h => by
    by_cases hi : i ∈ vs
    · cases wipeE_in hi h
    · rw [wipeE_out hi] at h
      exact ⟨(s.l i d h).1, rfl⟩⟩, fun a h => s.o1 a (h1 a h), fun a h => s.oo1 a (h2 a h)⟩
theorem wipe_idem {vs : List Nat} : L2.wipe (L2.wipe σ vs) vs = L2.wipe σ vs := by
  apply List.ext_getElem?
  intro i
  by_cases hi : i ∈ vs
  · have key : ∀ (τ : L2.St), (L2.wipe τ vs)[i]? = if i < τ.length then some none else none := by
      intro τ
      by_cases hl : i < τ.length
      · rw [if_pos hl]
        have h2 : i < (L2.wipe τ vs).length := by rw [L2.wipe_length]; exact hl
        rw [List.getElem?_eq_getElem h2]
        cases e : (L2.wipe τ vs)[i] with
        | none => rfl
        | some v => exact absurd hi (wipe_in (v := v) (by rw [List.getElem?_eq_getElem h2, e]))
      · rw [if_neg hl, List.getElem?_eq_none]
        rw [L2.wipe_length]; omega
    rw [key, key, L2.wipe_length]
  · rw [wipe_outL hi]
/-- behind the loop: the block's own slots as they were -/
theorem comp_end {vs : List Nat} {Fs Hs : Hp} (S1 : Stt g.toGh Fs Hs σ ε1) (S : Stt g.toGh F H (L2.wipe σ vs) (wipeE ε vs)) (s : SSb (L2.wipe σ vs) (wipeE ε1 vs) Fs Hs (L2.wipe σ vs) (wipeE ε vs) F H) (hl : ε.length = ε1.length) :
    Stt g.toGh F H σ (backE ε1 ε vs) ∧ Stp false σ ε1 Fs Hs (backE ε1 ε vs) F H := by
  have old : ∀ {i : Nat} {sl : Sl}, i ∈ vs → (backE ε1 ε vs)[i]? = some sl → ε1[i]? = some sl := fun {i sl} hi h => by
    have e := backE_in hi h
    have hlt : i < ε1.length := by
      have := (List.getElem?_eq_some_iff.mp h).1
      rw [backE_len] at this
      rw [← hl]; exact this
    subst e
    rw [List.getD_eq_getElem?_getD, List.getElem?_eq_getElem hlt]; rfl
  have oww : ∀ {j : Nat} {a : Addr}, Ow (L2.wipe σ vs) (wipeE ε1 vs) j a → j ∉ vs := fun h => h.wipe.1
  have ow : ∀ {j : Nat} {a : Addr}, Ow σ (backE ε1 ε vs) j a → (j ∈ vs ∧ Ow σ ε1 j a) ∨ (j ∉ vs ∧ Ow (L2.wipe σ vs) (wipeE ε vs) j a) := fun {j a} h => by
    obtain ⟨h, h2⟩ := h
    by_cases hj : j ∈ vs
    · refine .inl ⟨hj, ?_, h2⟩
      rcases h with ⟨d, h⟩ | ⟨d, h⟩
      · exact .inl ⟨d, old hj h⟩
      · exact .inr ⟨d, old hj h⟩
    · refine .inr ⟨hj, ?_, by rw [wipe_outL hj]; exact h2⟩
      rw [wipeE_out hj]
      rw [backE_out hj] at h
      exact h
  -- the block's own things are not the loop's
  have far : ∀ {j : Nat} {a : Addr}, j ∈ vs → Ow σ ε1 j a → ¬ Owns (L2.wipe σ vs) (wipeE ε1 vs) a := fun {j a} hj o ⟨k, h⟩ => by
    obtain ⟨hk, h⟩ := h.wipe
    have := S1.ap _ _ _ o h
    subst this
    exact hk hj
  have hold : ∀ {j : Nat} {a : Addr}, j ∈ vs → Ow σ ε1 j a → ∀ d, Cell g.K g.fa Fs Hs a d → F a = none ∧ Cell g.K g.fa F H a d := fun {j a} hj o d c => by
    obtain ⟨u, hu, nu⟩ := c.ex
    exact ⟨s.fnone hu nu (far hj o) (S1.ownF ⟨_, o⟩), c.keep s.f fun w hw nw => s.k a w hw nw (far hj o)⟩
  refine ⟨⟨S.sb, S.tb, S.ft, ?_, fun i sl h => ?_, fun i j a h1 h2 => ?_⟩, s.f, fun a o e => ?_, fun a o e n h => s.k a o e n fun ⟨j, z⟩ => h rfl ⟨j, z.wipe.2⟩, s.z, fun a ⟨j, h⟩ => ?_, fun a ⟨j, d, h, h2⟩ => ?_, fun j d h => ?_⟩
  · rw [backE_len, hl]; exact S1.len
  · by_cases hi : i ∈ vs
    · have h1 := old hi h
      have hs := S1.sl i sl h1
      cases sl with
      | no => trivial
      | val d => obtain ⟨v, e, r⟩ := hs; exact ⟨v, e, r.mono s.f d⟩
      | own d =>
        obtain ⟨a, e, f, c⟩ := hs
        obtain ⟨f', c'⟩ := hold hi ⟨.inl ⟨d, h1⟩, e⟩ d c
        exact ⟨a, e, f', c'⟩
      | lnt d =>
        obtain ⟨a, e, f, c⟩ := hs
        obtain ⟨f', c'⟩ := hold hi ⟨.inr ⟨d, h1⟩, e⟩ d c
        exact ⟨a, e, f', c'⟩
    · rw [backE_out hi] at h
      have := S.sl i sl (by rw [wipeE_out hi]; exact h)
      rw [wipe_outL hi] at this
      exact this
  · rcases ow h1 with ⟨a1, b1⟩ | ⟨a1, b1⟩ <;> rcases ow h2 with ⟨a2, b2⟩ | ⟨a2, b2⟩
    · exact S1.ap i j a b1 b2
    · rcases s.o a ⟨j, b2⟩ with y | y
      · exact absurd y (far a1 b1)
      · exact absurd y (S1.ownN a ⟨i, b1⟩)
    · rcases s.o a ⟨i, b1⟩ with y | y
      · exact absurd y (far a2 b2)
      · exact absurd y (S1.ownN a ⟨j, b2⟩)
    · exact S.ap i j a b1 b2
  · rcases s.n a o e with y | y | y
    · exact .inl y
    · exact .inr (.inl y)
    · exact .inr (.inr y.wipe)
  · rcases ow h with ⟨_, b⟩ | ⟨_, b⟩
    · exact ⟨j, b⟩
    · obtain ⟨k, b⟩ := s.o1 a ⟨j, b⟩
      exact ⟨k, b.wipe.2⟩
  · by_cases hj : j ∈ vs
    · exact ⟨j, d, old hj h, h2⟩
    · rw [backE_out hj] at h
      exact (s.oo1 a ⟨j, d, by rw [wipeE_out hj]; exact h, by rw [wipe_outL hj]; exact h2⟩).wipe
  · by_cases hj : j ∈ vs
    · exact ⟨d, old hj h⟩
    · rw [backE_out hj] at h
      obtain ⟨⟨d', h'⟩, _⟩ := s.l j d (by rw [wipeE_out hj]; exact h)
      rw [wipeE_out hj] at h'
      exact ⟨d', h'⟩
/-- a list or a dict -/
def IsLD (o : HO) : Prop := (∃ xs, o = .lst xs) ∨ ∃ kvs, o = .dK kvs
theorem CO.ld {K : PySem.W.Frag} {fa : Nat → Option Addr} {F : Hp} {o : HO} {d : D} (c : CO K fa F o d) : IsLD o := by
  cases d <;> first | exact c.elim | skip
  · obtain ⟨vs, e, _⟩ := c; exact .inl ⟨_, e⟩
  · obtain ⟨vs, e, _⟩ := c; exact .inr ⟨_, e⟩
theorem tabs_upd0 {T : List (Addr × Str)} {A : Addr} {o o' : HO} (h : LamX.Tabs T H) (hA : H A = some o) (ld : IsLD o) : LamX.Tabs T (upd H A o') := fun p hp => by
  obtain ⟨ps, h1, h2, h3⟩ := h p hp
  refine ⟨ps, by rw [upd_ne (ne_of h1 hA (fun z => by rcases ld with ⟨_, rfl⟩ | ⟨_, rfl⟩ <;> cases z))]; exact h1, h2, fun pos cv hc => ?_⟩
  obtain ⟨c, e1, e2⟩ := h3 pos cv hc
  refine ⟨c, e1, ?_⟩
  rw [upd_ne (ne_of e2 hA (fun z => by unfold LamX.CodeO at z; rcases ld with ⟨_, rfl⟩ | ⟨_, rfl⟩ <;> cases z))]
  exact e2
theorem tabs_upd {T : List (Addr × Str)} {A : Addr} {o o' : HO} (h : TB T H) (hA : H A = some o) (ld : IsLD o) : TB T (upd H A o') := tabs_upd0 h hA ld
theorem grow_obj {A : Addr} {o0 o1 : HO} (S : Stt g.toGh F H σ ε) (hA : H A = some o0) (ld : IsLD o0) (fA : F A = none) (nA : ¬ Owns σ ε A) : Stt g.toGh F (upd H A o1) σ ε := by
  refine ⟨fun a o h => ?_, tabs_upd S.tb hA ld, S.ft, S.len, fun i s h => ?_, S.ap⟩
  · by_cases e : a = A
    · subst e; rw [fA] at h; cases h
    · rw [upd_ne e]; exact S.sb a o h
  · have hs := S.sl i s h
    have key : ∀ {b : Addr} {d : D}, Ow σ ε i b → Cell g.K g.fa F H b d → Cell g.K g.fa F (upd H A o1) b d := fun {b d} o c => c.keep (Sub.refl _) fun u hu _ => by
      rw [upd_ne (fun e => nA (by rw [← e]; exact ⟨i, o⟩))]; exact hu
    cases s with
    | no => trivial
    | val d => exact hs
    | own d => obtain ⟨b, e, f, c⟩ := hs; exact ⟨b, e, f, key ⟨.inl ⟨d, h⟩, e⟩ c⟩
    | lnt d => obtain ⟨b, e, f, c⟩ := hs; exact ⟨b, e, f, key ⟨.inr ⟨d, h⟩, e⟩ c⟩
theorem grow_list {A : Addr} {av ws : List V} (S : Stt g.toGh F H σ ε) (hA : H A = some (.lst av)) (fA : F A = none) (nA : ¬ Owns σ ε A) : Stt g.toGh F (upd H A (.lst ws)) σ ε :=
  grow_obj S hA (.inl ⟨_, rfl⟩) fA nA
theorem SSb.updNew {F1 H1 : Hp} {A : Addr} {o : HO} (s : SSb σ ε F1 H1 σ' ε' F H) (h1 : H1 A = none) (hA : ∃ u, H A = some u) : SSb σ ε F1 H1 σ' ε' F (upd H A o) := by
  refine ⟨⟨s.f, s.n, fun a u hu n hn => ?_, fun a h => ?_, s.o, s.oo, s.l⟩, s.o1, s.oo1⟩
  · rw [upd_ne (fun e => by subst e; rw [h1] at hu; cases hu)]
    exact s.k a u hu n hn
  · by_cases e : a = A
    · subst e; exact Nn.of h1
    · exact s.z a fun u hu => h u (by rw [upd_ne e]; exact hu)
theorem compL_cons {turn : D → En → Rs (Option D × En)} {d : D} {ds more : List D} {ε εF : En} (h : compL turn (d :: ds) ε = .ok (more, εF)) : ∃ r ε5 more2, turn d ε = .ok (r, ε5) ∧ compL turn ds ε5 = .ok (more2, εF) ∧ more = (match r with | some d => d :: more2 | none => more2) := by
  simp only [compL] at h
  cases e1 : turn d ε with
  | exc x => rw [e1] at h; cases h
  | bad => rw [e1] at h; cases h
  | ok r1 =>
    obtain ⟨r, ε5⟩ := r1
    rw [e1] at h
    simp only [Rs.bind] at h
    cases e2 : compL turn ds ε5 with
    | exc x => rw [e2] at h; cases h
    | bad => rw [e2] at h; cases h
    | ok r2 =>
      obtain ⟨more2, ε6⟩ := r2
      rw [e2] at h
      simp only at h
      cases r <;> (cases h; exact ⟨_, _, _, rfl, e2, rfl⟩)
theorem comp_rd {t : Tg} {evi : En → Rs (List D × En)} {evc : En → Rs (Bool × En)} {ev : En → Rs (Bool × D × En)} {qi qc qe : Bool} {vs : List Nat} (hsl : ∀ i ∈ t.slots, i ∈ vs) {σ : L2.St} {H : Hp} {Q : VK}
    (h : rdG p g W (compEv evi t evc ev vs) false σ H Q) : tLc (rdI g W evi qi) (gOf g.K t) (rdT g W0 evc qc) (rdG false g W0 ev qe) vs σ H Q := by
  obtain ⟨ε, F, S, m⟩ := h
  unfold compEv at m
  refine ⟨ε, F, S, ?_⟩
  cases e : evi ε with
  | exc x => simp only [e, Rs.bind] at m; exact m
  | bad => simp only [e, Rs.bind] at m
  | ok r =>
    obtain ⟨ds, ε1⟩ := r
    simp only [e, Rs.bind] at m ⊢
    intro J F1 H1 S1 s1 it D hD
    cases ec : compL (compTurn t evc ev vs) ds ε1 with
    | exc x => simp only [ec] at m
    | bad => simp only [ec] at m
    | ok r2 =>
      obtain ⟨dsF, εF⟩ := r2
      simp only [ec] at m
      by_cases hlen : dsF.length ≤ sizeL
      case neg => rw [if_neg hlen] at m; exact m.elim
      rw [if_pos hlen] at m
      have fD : F1 D = none := by
        cases z : F1 D with
        | none => rfl
        | some o => have := S1.sb D o z; rw [hD] at this; cases this
      have gr0 : Grow F1 H1 F1 (upd H1 D (.lst [])) := ⟨Sub.refl _, Sub.new hD, S1.sb.trans (Sub.new hD), fun a o e => .inl e, upd_tbl fun ps z => by cases z⟩
      have nD : ¬ Owns (L2.wipe σ vs) (wipeE ε1 vs) D := fun ⟨j, h⟩ => by
        obtain ⟨u, hu, _⟩ := S1.ownH ⟨j, h.wipe.2⟩
        rw [hD] at hu; cases hu
      refine ⟨fun i m H' => m = ds.length - i ∧ i ≤ ds.length ∧ CInv g σ vs ε1 F1 H1 D (compTurn t evc ev vs) ds dsF εF i H', ⟨ds.length, by simp, Nat.zero_le _, ⟨ε1, F1, [], [], dsF, (S1.wipe (vs := vs)).grow gr0, sst_grow gr0, rfl, upd_same, fD, .nil, nD, by simpa using ec, rfl⟩⟩, ?_⟩
      rintro i m' H' ⟨rfl, hi', ⟨ε', F', acc, av, more, S', s', hl', hA, fA, ra, nA, em, eapp⟩⟩
      by_cases hlt : i < ds.length
      · refine .inr ⟨it.go i F' H' s'.f S'.sb hlt, fun H'' => CInv g σ vs ε1 F1 H1 D (compTurn t evc ev vs) ds dsF εF (i + 1) H'', fun H'' c => ⟨ds.length - (i + 1), by omega, rfl, by omega, c⟩, fun x H'' hy => ?_⟩
        obtain ⟨F'', d, gr, ed, rd⟩ := it.yld i F' H' x H'' s'.f S'.sb hlt hy
        have edrop : ds.drop i = d :: ds.drop (i + 1) := by
          have h1 := List.getElem?_eq_some_iff.mp ed
          rw [← h1.2]
          exact List.drop_eq_getElem_cons hlt
        rw [edrop] at em
        obtain ⟨rr, ε5, more2, em2, e5, emore⟩ := compL_cons em
        clear em
        subst emore
        have S2 := S'.grow gr
        have s2 : SSb (L2.wipe σ vs) (wipeE ε1 vs) F1 H1 (L2.wipe σ vs) (wipeE ε' vs) F'' H'' := s'.trans (sst_grow gr)
        have hA2 : H'' D = some (.lst av) := gr.h _ _ hA
        have fA2 : F'' D = none := by
          cases z : F'' D with
          | none => rfl
          | some o =>
            rcases gr.n D o z with y | y
            · rw [fA] at y; cases y
            · rw [hA] at y; cases y.1
        unfold compTurn at em2
        cases eb : bindT (wipeE ε' vs) t d with
        | exc x => simp only [eb, Rs.bind] at em2; cases em2
        | bad => simp only [eb, Rs.bind] at em2; cases em2
        | ok ε3 =>
          simp only [eb, Rs.bind] at em2
          refine bindT_rd S2 rd eb fun σ3 S3 s3 hw3 => ?_
          have hw : L2.wipe σ3 vs = L2.wipe σ vs := by rw [hw3 vs hsl, wipe_idem]
          refine ⟨by rw [hw], ε3, F'', S3, ?_⟩
          have sA := s2.trans s3
          obtain ⟨hA3, nA3⟩ := s3.toSSt.keep hA2 (fun ps z => by cases z) nA
          cases eC : evc ε3 with
          | exc x => simp only [eC] at em2; cases em2
          | bad => simp only [eC] at em2; cases em2
          | ok r4 =>
            obtain ⟨b, ε4⟩ := r4
            simp only [eC] at em2 ⊢
            intro F4 H4 S4 s4
            obtain ⟨hA4, nA4⟩ := s4.sb.toSSt.keep hA3 (fun ps z => by cases z) nA3
            have fA4 := s4.sb.toSSt.fnone hA3 (fun ps z => by cases z) nA3 fA2
            have sB := sA.trans s4.sb
            cases b with
            | false =>
              simp only at em2
              obtain ⟨e7, e8⟩ : rr = none ∧ ε5 = ε4 := by cases em2; exact ⟨rfl, rfl⟩
              subst e7 e8
              rw [if_neg Bool.false_ne_true]
              refine ⟨ε5, F4, acc, av, more2, ?_, sB.wipe hw, ?_, hA4, fA4, Rps.mono (gr.f.trans (s3.f.trans s4.f)) _ ra, ?_, e5, eapp⟩
              · have := S4.wipe (vs := vs); rw [hw] at this; exact this
              · have := S4.len; have h2 := S1.len; have h3 : σ3.length = σ.length := by rw [← L2.wipe_length σ3 vs, hw, L2.wipe_length]
                omega
              · exact fun ⟨j, h⟩ => nA4 (by rw [← hw] at h; exact ⟨j, h.wipe.2⟩)
            | true =>
              simp only at em2
              rw [if_pos rfl]
              refine ⟨ε4, F4, S4, ?_⟩
              cases e6 : ev ε4 with
              | exc x => simp only [e6] at em2; cases em2
              | bad => simp only [e6] at em2; cases em2
              | ok r6 =>
                obtain ⟨w6, z6, ε6⟩ := r6
                simp only [e6] at em2 ⊢
                obtain ⟨e7, e8⟩ : rr = some z6 ∧ ε5 = ε6 := by cases em2; exact ⟨rfl, rfl⟩
                subst e7 e8
                intro y F6 H6 S6 s6 r6
                obtain ⟨hA6, nA6⟩ := s6.sb.toSSt.keep hA4 (fun ps z => by cases z) nA4
                have fA6 := s6.sb.toSSt.fnone hA4 (fun ps z => by cases z) nA4 fA4
                obtain ⟨F7, sf7, r7, S7, n7⟩ := RR.frz1 (fun a o => S4.ownN a (s6.o a o)) S6 (Sub.refl _) r6
                have s7 := s6.frz sf7 n7
                have sD := sB.trans s7.sb
                have hl2 : acc.length + 1 + more2.length = dsF.length := by rw [← eapp]; simp; omega
                refine ⟨av, hA6, ?_, ?_⟩
                · rw [ra.len, ← sizeL_eq]; omega
                have fA7 := s7.sb.toSSt.fnone hA4 (fun ps z => by cases z) nA4 fA4
                have ra7 : Rps g.K g.fa F7 (av ++ [y]) (acc ++ [z6]) := (Rps.mono (gr.f.trans (s3.f.trans (s4.f.trans s7.f))) _ ra).app (.cons r7 .nil)
                have S8 := grow_list S7 hA6 fA7 nA6 (ws := av ++ [y])
                have sE := sD.updNew (o := .lst (av ++ [y])) hD ⟨_, hA6⟩
                refine ⟨ε5, F7, acc ++ [z6], av ++ [y], more2, ?_, ?_, ?_, upd_same, fA7, ra7, ?_, e5, by rw [List.append_assoc]; exact eapp⟩
                · have := S8.wipe (vs := vs); rw [hw] at this; exact this
                · exact sE.wipe hw
                · have := S8.len; have h2 := S1.len; have h3 : σ3.length = σ.length := by rw [← L2.wipe_length σ3 vs, hw, L2.wipe_length]
                  omega
                · exact fun ⟨j, h⟩ => nA6 (by rw [← hw] at h; exact ⟨j, h.wipe.2⟩)
      · have ei : i = ds.length := by omega
        subst ei
        refine .inl ⟨it.stop _ F' H' s'.f S'.sb (Nat.le_refl _), ?_⟩
        rw [List.drop_length] at em
        simp only [compL] at em
        cases em
        rw [List.append_nil] at eapp
        subst eapp
        obtain ⟨S9, s9⟩ := comp_end S1 S' s' hl'
        exact m _ F' H' S9 (s1.to.trans s9) (RG.ofRR ⟨D, rfl, s1.z D (Nn.of hD), fA, av, hA, ra⟩)
theorem comp_ok {elt tg iter : Expr} {ifs : List Expr} {scope : Scope} {own : List (Str × Nat)} {t : Tg} {evi : En → Rs (List D × En)} {evc : En → Rs (Bool × En)} {ev : En → Rs (Bool × D × En)} {qi qc qe : Bool}
    (hc : X.calm = true) (hN : X.N.Nodup) (hi : PI X tg iter (rdI g W evi qi)) (ok : BlkOk X.N X.env.scope scope own)
    (hg : ∀ (s : Shared) (H : Hp) (C : Addr) (cl : List (Str × Addr)) (fp : List Addr), PG (X.blk s H scope (compEnvC scope cl C X.env) fp) tg (gOf g.K t))
    (ht : ∀ (s : Shared) (H : Hp) (C : Addr) (cl : List (Str × Addr)) (fp : List Addr), PTs (X.blk s H scope (compEnvC scope cl C X.env) fp) ifs (rdT g W0 evc qc))
    (he : ∀ (s : Shared) (H : Hp) (C : Addr) (cl : List (Str × Addr)) (fp : List Addr), PE (X.blk s H scope (compEnvC scope cl C X.env) fp) elt (rdG false g W0 ev qe))
    (hs : ∀ x, foldedSetIterable iter X.env x = pure x) (hsl : ∀ i ∈ t.slots, i ∈ own.map (·.2)) : PE X (.ListComp elt [⟨tg, iter, ifs, 0⟩] scope pos) (rdG p g W (compEv evi t evc ev (own.map (·.2))) false) :=
  PE.imp (pe_lc hc hN hi ok hg ht he hs) fun σ H Q h => comp_rd hsl h
end
end DL

set_option Elab.async false
set_option linter.all false
set_option maxRecDepth 100000
set_option maxHeartbeats 4000000
/-! DL12: statements. -/
namespace DL
open PySem PySem.Spec PyProof.Rows L2

def RT (g : Gx) (σ : L2.St) (ε : En) (H F' H' : Hp) (v : V) : Bool → D → Prop
  | false, d => Rp g.K g.fa F' v d
  | true, d => ∃ a, v = .ref a ∧ F' a = none ∧ Cell g.K g.fa F' H' a d ∧ (Nn H a ∨ OwnO σ ε a)
def XS (g : Gx) (W : WX) (σ : L2.St) (ε : En) (F H : Hp) (x : Ex) : Prop := ∀ cls d σ' F' H', Stx g.toGh σ ε F H F' H' → ExR g x cls d F' H' → W cls d σ' H'
def post (g : Gx) (W : WX) (D : Ends) (σ : L2.St) (ε : En) (F H : Hp) : Fl → Prop
  | .nx ε' => ∀ σ' F' H', Stt g.toGh F' H' σ' ε' → SSt σ ε F H σ' ε' F' H' → D.nx σ' H'
  | .ct ε' => ∀ σ' F' H', Stt g.toGh F' H' σ' ε' → SSt σ ε F H σ' ε' F' H' → D.ct σ' H'
  | .rt o d ε' => ∀ v σ' F' H', Stt g.toGh F' H' σ' ε' → SSt σ ε F H σ' ε' F' H' → RT g σ ε H F' H' v o d → D.rt v H'
  | .exc x => XS g W σ ε F H x
  | .bad => False
def rdS (g : Gx) (W : WX) (ex : En → Fl) : TS := fun D σ H => ∃ ε F, Stt g.toGh F H σ ε ∧ post g W D σ ε F H (ex ε)
section
variable {g : Gx} {q q' p : Bool} {W : WX} {X : Cx} {pos : Pos} {F H F' H' F2 H2 H0 : Hp} {σ σ' σ2 : L2.St} {ε ε' ε1 ε2 : En} {x : Ex} {D : Ends}
theorem XS.to (s : SSt σ ε F H σ' ε' F' H') (h : XS g W σ ε F H x) : XS g W σ' ε' F' H' x := fun cls d σ3 F2 H2 t e => by
  refine h cls d σ3 F2 H2 ⟨t.sb, t.tb, t.ft, s.f.trans t.f, fun a o r => ?_, fun a o r n u => ?_, fun a r => s.z a (t.z a r)⟩ e
  · rcases t.n a o r with y | y | y
    · exact s.n a o y
    · exact .inr (.inl (s.z a y))
    · rcases s.oo a y with y | y
      · exact .inr (.inr y)
      · exact .inr (.inl y)
  · refine t.k a o (s.k a o r n u) n fun y => ?_
    rcases s.o a y with y | y
    · exact u y
    · exact y.no r n
theorem XS.xw (h : XS g W σ ε F H x) : XW g W σ ε F H x := fun cls d F2 H2 t e => h cls d σ F2 H2 t e
theorem RT.back {v : V} {o : Bool} {d : DL.D} (s : SSt σ ε F H σ' ε' F' H') (r : RT g σ' ε' H' F2 H2 v o d) : RT g σ ε H F2 H2 v o d := by
  cases o with
  | false => exact r
  | true =>
    obtain ⟨a, e, f, c, h⟩ := r
    refine ⟨a, e, f, c, ?_⟩
    rcases h with h | h
    · exact .inl (s.z a h)
    · exact (s.oo a h).symm
/-- from a later state -/
theorem post.to (s : SSt σ ε F H σ' ε' F' H') {f : Fl} (h : post g W D σ ε F H f) : post g W D σ' ε' F' H' f := by
  cases f with
  | nx ε3 => exact fun σ3 F3 H3 S3 s3 => h σ3 F3 H3 S3 (s.trans s3)
  | ct ε3 => exact fun σ3 F3 H3 S3 s3 => h σ3 F3 H3 S3 (s.trans s3)
  | rt o d ε3 => exact fun v σ3 F3 H3 S3 s3 r => h v σ3 F3 H3 S3 (s.trans s3) (RT.back s r)
  | exc x => exact XS.to s h
  | bad => exact h

/-! ### slots are given values -/
theorem putS_own {i : Nat} {d : DL.D} {o : Bool} (e : putS ε i o d = .ok ε') : i < ε.length ∧ ε' = ε.set i (if o then .own d else .val d) := by
  unfold putS at e
  split at e
  · cases e
  · cases e
  · injection e with e
    first
      | exact ⟨(List.getElem?_eq_some_iff.mp (by assumption)).1, e.symm⟩
theorem putS_nl {i : Nat} {d c : DL.D} {o : Bool} (e : putS ε i o d = .ok ε') : ε[i]? ≠ some (.lnt c) := fun z => by
  unfold putS at e
  rw [z] at e
  cases e
theorem put_own {i : Nat} {a : Addr} {d : DL.D} {σ0 : L2.St} {ε0 : En} {F0 Hs : Hp} (S : Stt g.toGh F H σ ε) (s : SSt σ0 ε0 F0 Hs σ ε F H) (hn : Nn Hs a) (no : ¬ Owns σ ε a) (f : F a = none) (c : Cell g.K g.fa F H a d) (e : putS ε i true d = .ok ε') :
    Stt g.toGh F H (σ.set i (some (.ref a))) ε' ∧ SSt σ0 ε0 F0 Hs (σ.set i (some (.ref a))) ε' F H ∧ (∀ b, Owns (σ.set i (some (.ref a))) ε' b → Owns σ ε b ∨ b = a) := by
  obtain ⟨hi, rfl⟩ := putS_own e
  simp only [if_true]
  have hiσ : i < σ.length := by rw [S.len]; exact hi
  have ow : ∀ {b : Addr} {j : Nat}, Ow (σ.set i (some (V.ref a))) (ε.set i (.own d)) j b → (j = i ∧ b = a) ∨ (j ≠ i ∧ Ow σ ε j b) := fun {b j} h => by
    by_cases hj : j = i
    · subst hj
      obtain ⟨_, h⟩ := h
      rw [List.getElem?_set_self hiσ] at h
      cases h
      exact .inl ⟨rfl, rfl⟩
    · refine .inr ⟨hj, ?_⟩
      obtain ⟨h, h2⟩ := h
      rw [List.getElem?_set_ne (Ne.symm hj)] at h h2
      exact ⟨h, h2⟩
  refine ⟨⟨S.sb, S.tb, S.ft, by rw [List.length_set, List.length_set]; exact S.len, fun j s h => ?_, fun j k b h1 h2 => ?_⟩,
    ⟨s.f, s.n, s.k, s.z, fun b ⟨j, h⟩ => ?_, fun b ⟨j, dd, h1, h2⟩ => ?_, fun j dd h => ?_⟩, fun b ⟨j, h⟩ => ?_⟩
  · by_cases hj : j = i
    · subst hj
      rw [List.getElem?_set_self hi] at h
      cases h
      exact ⟨a, List.getElem?_set_self hiσ, f, c⟩
    · rw [List.getElem?_set_ne (Ne.symm hj)] at h
      have hs := S.sl j s h
      have e1 : (σ.set i (some (V.ref a)))[j]? = σ[j]? := List.getElem?_set_ne (Ne.symm hj)
      rw [e1]; exact hs
  · rcases ow h1 with ⟨j1, b1⟩ | ⟨j1, b1⟩ <;> rcases ow h2 with ⟨j2, b2⟩ | ⟨j2, b2⟩
    · rw [j1, j2]
    · subst b1; exact absurd ⟨_, b2⟩ no
    · subst b2; exact absurd ⟨_, b1⟩ no
    · exact S.ap _ _ b b1 b2
  · rcases ow h with ⟨_, b1⟩ | ⟨_, b1⟩
    · subst b1; exact .inr hn
    · exact s.o b ⟨j, b1⟩
  · by_cases hj : j = i
    · subst hj
      rw [List.getElem?_set_self hiσ] at h2
      cases h2
      exact .inr hn
    · rw [List.getElem?_set_ne (Ne.symm hj)] at h1 h2
      exact s.oo b ⟨j, dd, h1, h2⟩
  · by_cases hj : j = i
    · subst hj; rw [List.getElem?_set_self hi] at h; cases h
    · rw [List.getElem?_set_ne (Ne.symm hj)] at h
      rw [List.getElem?_set_ne (Ne.symm hj)]
      exact s.l j dd h
  · rcases ow h with ⟨_, b1⟩ | ⟨_, b1⟩
    · exact .inr b1
    · exact .inl ⟨j, b1⟩
theorem put_rr {i : Nat} {v : V} {o : Bool} {d : DL.D} {σ0 : L2.St} {ε0 : En} {F0 Hs H1 : Hp} (S : Stt g.toGh F H σ ε) (s : SSt σ0 ε0 F0 Hs σ ε F H) (r : RR g.K g.fa H1 F H v o d) (h1 : ∀ a, Nn H1 a → Nn Hs a) (h2 : ∀ a, Owns σ ε a → ¬ Nn H1 a) (e : putS ε i o d = .ok ε') :
    Stt g.toGh F H (σ.set i (some v)) ε' ∧ SSt σ0 ε0 F0 Hs (σ.set i (some v)) ε' F H ∧ (∀ b, Owns (σ.set i (some v)) ε' b → Owns σ ε b ∨ (o = true ∧ v = .ref b)) := by
  cases o with
  | false =>
    obtain ⟨S', s', hi⟩ := put_val S r e
    exact ⟨S', s.trans s'.toSSt, fun b h => .inl (s'.o1 b h)⟩
  | true =>
    obtain ⟨a, rfl, hn, f, c⟩ := r
    obtain ⟨S', s', hb⟩ := put_own S s (h1 a hn) (fun z => h2 a z hn) f c e
    exact ⟨S', s', fun b h => (hb b h).imp id fun z => ⟨rfl, by rw [z]⟩⟩
/-- values with their flags -/
inductive TmpsO (g : Gx) : Hp → Hp → Hp → List V → List (Bool × DL.D) → Prop
  | nil {H0 F H : Hp} : TmpsO g H0 F H [] []
  | cons {H0 H1 F H : Hp} {v : V} {d : DL.D} {w : Bool} {vs : List V} {ds : List (Bool × DL.D)} : RR g.K g.fa H0 F H v w d → (∀ a, Nn H1 a → Nn H0 a) → (∀ a, w = true → v = .ref a → ¬ Nn H1 a) → TmpsO g H1 F H vs ds → TmpsO g H0 F H (v :: vs) ((w, d) :: ds)
def rdOs (g : Gx) (W : WX) (ev : En → Rs (List (Bool × DL.D) × En)) (q : Bool) : TA := fun σ H Q => ∃ ε F, Stt g.toGh F H σ ε ∧ match ev ε with
  | .ok (ds, ε') => ∀ vs F' H', Stt g.toGh F' H' σ ε' → Stp q σ ε F H ε' F' H' → TmpsO g H F' H' vs ds → Q vs H'
  | .exc x => XW g W σ ε F H x
  | .bad => False
def consO (ev : En → Rs (Bool × DL.D × En)) (evs : En → Rs (List (Bool × DL.D) × En)) : En → Rs (List (Bool × DL.D) × En) := fun ε => (ev ε).bind fun (o, d, ε1) => (evs ε1).bind fun (ds, ε2) => .ok ((o, d) :: ds, ε2)
theorem o_nil : PA X [] (rdOs g W (fun ε => .ok ([], ε)) q) := PA.imp pa_nil fun σ H Q h => by
  obtain ⟨ε, F, S, m⟩ := h
  exact m [] F H S Stp.refl .nil
theorem o_cons {a : Expr} {es : List Expr} {eva : En → Rs (Bool × DL.D × En)} {evs : En → Rs (List (Bool × DL.D) × En)} {qa qs : Bool} (hst : ∀ x p, a ≠ .Starred x p) (ha : PE X a (rdG false g W eva qa)) (hs : PA X es (rdOs g W evs qs)) : PA X (a :: es) (rdOs g W (consO eva evs) (qa && qs)) := by
  refine PA.imp (pa_cons ha hs (starEach_cons hst)) fun σ H Q h => ?_
  obtain ⟨ε, F, S, m⟩ := h
  unfold consO at m
  refine ⟨ε, F, S, ?_⟩
  cases e : eva ε with
  | exc x => simp only [e, Rs.bind] at m; exact m
  | bad => simp only [e, Rs.bind] at m
  | ok r =>
    obtain ⟨w1, z1, ε1⟩ := r
    intro v F1 H1 S1 s1 r1
    simp only [e, Rs.bind] at m
    refine ⟨ε1, F1, S1, ?_⟩
    cases e2 : evs ε1 with
    | exc x => simp only [e2] at m; exact s1.xw m
    | bad => simp only [e2] at m
    | ok r =>
      obtain ⟨ds, ε2⟩ := r
      simp only [e2] at m ⊢
      intro vs F2 H2 S2 s2 r2
      refine m _ F2 H2 S2 (s1.and s2) (.cons (H1 := H1) ?_ s1.z (fun a hw hv => ?_) r2)
      · exact RR.keep S1 r1 s2 fun a o => S.ownN a (s1.o a o)
      · subst hw
        obtain ⟨b, e1, _, _, c⟩ := r1
        rw [hv] at e1
        cases e1
        obtain ⟨u, hu, nu⟩ := c.ex
        exact Nn.yes hu nu
def setV (σ : L2.St) : List Nat → List V → L2.St
  | i :: is, v :: vs => setV (σ.set i (some v)) is vs
  | _, _ => σ
theorem put_os {σ0 : L2.St} {ε0 : En} {F0 Hs : Hp} : ∀ {is : List Nat} {H1 : Hp} {vs : List V} {ds : List (Bool × DL.D)} {σ : L2.St} {ε ε' : En}, Stt g.toGh F H σ ε → SSt σ0 ε0 F0 Hs σ ε F H → TmpsO g H1 F H vs ds → (∀ a, Nn H1 a → Nn Hs a) →
    (∀ a, Owns σ ε a → ¬ Nn H1 a) → putOs ε is ds = .ok ε' → vs.length = is.length ∧ Stt g.toGh F H (setV σ is vs) ε' ∧ SSt σ0 ε0 F0 Hs (setV σ is vs) ε' F H
  | [], H1, vs, ds, σ, ε, ε', S, s, t, h1, h2, e => by
    cases t with
    | nil =>
      simp only [putOs] at e
      injection e with e
      subst e
      exact ⟨rfl, S, s⟩
    | cons _ _ _ _ => simp only [putOs] at e; cases e
  | i :: is, H1, vs, ds, σ, ε, ε', S, s, t, h1, h2, e => by
    cases t with
    | nil => simp only [putOs] at e; cases e
    | cons r hz ha t =>
      simp only [putOs] at e
      cases e1 : putS ε i _ _ with
      | exc x => rw [e1] at e; cases e
      | bad => rw [e1] at e; cases e
      | ok ε1 =>
        rw [e1] at e
        simp only [Rs.bind] at e
        obtain ⟨S1, s1, hb⟩ := put_rr S s r h1 h2 e1
        obtain ⟨l, S2, s2⟩ := put_os S1 s1 t (fun a z => h1 a (hz a z)) (fun a o => by
          rcases hb a o with y | ⟨y, y2⟩
          · exact fun z => h2 a y (hz a z)
          · exact ha a y y2) e
        exact ⟨by simp [l], S2, s2⟩
/-- what is own or lent changes -/
theorem own_upd {i : Nat} {a : Addr} {d0 d1 : DL.D} {o1 : HO} {k : DL.D → Sl} (S : Stt g.toGh F H σ ε) (hk : k = Sl.own ∨ k = Sl.lnt) (e : ε[i]? = some (k d0)) (es : σ[i]? = some (some (V.ref a))) (r : CO g.K g.fa F o1 d1) :
    Stt g.toGh F (upd H a o1) σ (ε.set i (k d1)) ∧ SSt σ ε F H σ (ε.set i (k d1)) F (upd H a o1) := by
  have hi : i < ε.length := (List.getElem?_eq_some_iff.mp e).1
  have oi : Ow σ ε i a := ⟨by rcases hk with rfl | rfl; exact .inl ⟨_, e⟩; exact .inr ⟨_, e⟩, es⟩
  have fa : F a = none := S.ownF ⟨i, oi⟩
  obtain ⟨o0, hA, ld⟩ : ∃ o0, H a = some o0 ∧ IsLD o0 := by
    obtain ⟨d, _, _, c⟩ := S.slO oi
    obtain ⟨o, h, q⟩ := c.co
    exact ⟨o, h, q.ld⟩
  have ow : ∀ {b : Addr} {j : Nat}, Ow σ (ε.set i (k d1)) j b → Ow σ ε j b := fun {b j} h => by
    by_cases hj : j = i
    · subst hj
      obtain ⟨_, h2⟩ := h
      rw [es] at h2; cases h2
      exact oi
    · obtain ⟨h, h2⟩ := h
      rw [List.getElem?_set_ne (Ne.symm hj)] at h
      exact ⟨h, h2⟩
  have owo : ∀ b, OwnO σ (ε.set i (k d1)) b → OwnO σ ε b := fun b ⟨j, d, h, h2⟩ => by
    by_cases hj : j = i
    · subst hj
      rw [List.getElem?_set_self hi] at h
      rcases hk with rfl | rfl
      · exact ⟨j, _, e, h2⟩
      · cases h
    · rw [List.getElem?_set_ne (Ne.symm hj)] at h
      exact ⟨j, d, h, h2⟩
  refine ⟨⟨fun b o h => ?_, tabs_upd S.tb hA ld, S.ft, by rw [List.length_set]; exact S.len, fun j s h => ?_, fun j k b h1 h2 => S.ap _ _ b (ow h1) (ow h2)⟩,
    Sub.refl _, fun _ _ e => .inl e, fun b o h n hn => ?_, fun b h => ?_, fun b ⟨j, h⟩ => .inl ⟨j, ow h⟩, fun b h => .inl (owo b h), fun j d h => ⟨?_, rfl⟩⟩
  · rw [upd_ne (fun z => by subst z; rw [fa] at h; cases h)]
    exact S.sb b o h
  · by_cases hj : j = i
    · subst hj
      rw [List.getElem?_set_self hi] at h
      cases h
      have cc : Cell g.K g.fa F (upd H a o1) a d1 := r.cell upd_same
      rcases hk with rfl | rfl
      · exact ⟨a, es, fa, cc⟩
      · exact ⟨a, es, fa, cc⟩
    · rw [List.getElem?_set_ne (Ne.symm hj)] at h
      have hs := S.sl j s h
      have key : ∀ {b : Addr} {d : DL.D}, Ow σ ε j b → Cell g.K g.fa F H b d → Cell g.K g.fa F (upd H a o1) b d := fun {b d} o c => c.keep (Sub.refl _) fun u hu _ => by
        rw [upd_ne (fun z => by subst z; exact hj (S.ap _ _ _ o oi))]; exact hu
      cases s with
      | no => trivial
      | val d => exact hs
      | own d => obtain ⟨b, e, f, c⟩ := hs; exact ⟨b, e, f, key ⟨.inl ⟨d, h⟩, e⟩ c⟩
      | lnt d => obtain ⟨b, e, f, c⟩ := hs; exact ⟨b, e, f, key ⟨.inr ⟨d, h⟩, e⟩ c⟩
  · rw [upd_ne (fun z => by subst z; exact hn ⟨i, oi⟩)]; exact h
  · by_cases z : b = a
    · subst z; exact h.no upd_same r.tbl
    · exact fun u hu => h u (by rw [upd_ne z]; exact hu)
  · by_cases hj : j = i
    · subst hj
      rw [List.getElem?_set_self hi] at h
      rcases hk with rfl | rfl
      · cases h
      · exact ⟨_, e⟩
    · rw [List.getElem?_set_ne (Ne.symm hj)] at h
      exact ⟨d, h⟩
end
end DL

set_option Elab.async false
set_option linter.all false
set_option maxRecDepth 100000
set_option maxHeartbeats 4000000
/-! DL13: statements' readings. -/
namespace DL
open PySem PySem.Spec PyProof.Rows L2
section
variable {g : Gx} {q q' p : Bool} {W : WX} {X : Cx} {pos : Pos} {F H F' H' F2 H2 H0 : Hp} {σ σ' σ2 : L2.St} {ε ε' ε1 ε2 : En} {x : Ex} {D : Ends} {qe : Bool}
theorem XW.ss (S : Stt g.toGh F H σ ε) (h : XS g W σ ε F H x) : XW g W σ ε F H x := h.xw
/-- an exception out of an expression -/
theorem xs_xw (h : XS g W σ ε F H x) : XW g W σ ε F H x := h.xw

def setEv (ev : En → Rs (Bool × DL.D × En)) (i : Nat) : En → Fl := fun ε => Fl.of (ev ε) fun (o, d, ε1) => Fl.of (putS ε1 i o d) .nx
theorem set_rd {ev : En → Rs (Bool × DL.D × En)} {i : Nat} {te : TE} (ht : ∀ σ H Q, rdG false g W ev qe σ H Q → te σ H Q) (h : rdS g W (setEv ev i) D σ H) : tAsg te (gName i) D σ H := by
  obtain ⟨ε, F, S, m⟩ := h
  refine ht σ H _ ⟨ε, F, S, ?_⟩
  unfold setEv at m
  cases e : ev ε with
  | exc x => simp only [e, Fl.of] at m; exact m.xw
  | bad => simp only [e, Fl.of] at m; exact m
  | ok r =>
    obtain ⟨o, d, ε1⟩ := r
    simp only [e, Fl.of] at m ⊢
    intro v F' H' S' s' r
    cases e2 : putS ε1 i o d with
    | exc x =>
      unfold putS at e2
      split at e2 <;> cases e2
    | bad => simp only [e2] at m; exact m.elim
    | ok ε2 =>
      simp only [e2] at m
      obtain ⟨S2, s2, _⟩ := put_rr S' s'.ss r (fun a h => h) (fun a o => S.ownN a (s'.o a o)) e2
      exact m _ F' H' S2 s2
theorem set_ok {i : Nat} {y : Str} {e : Expr} {ev : En → Rs (Bool × DL.D × En)} {pos' : Pos} (hN : X.N.Nodup) (hi : X.N[i]? = some y) (hx : Loc X.env.scope y) (he : PE X e (rdG false g W ev qe)) (hs : swapsWith e (some (.Name y pos')) pos.line X.env = pure false)
    (hf : X.fn y = true ∨ X.env.scope.names.lookup y = some .local) : PS X (.Assign [.Name y pos'] e pos) (rdS g W (setEv ev i)) :=
  PS.imp (ps_set hN hi hx he hs hf) fun D σ H h => set_rd (fun _ _ _ h => h) h
def setTEv (ev : En → Rs (Bool × DL.D × En)) (is : List Nat) : En → Fl := fun ε => Fl.of (ev ε) fun (_, d, ε1) => match d with
    | .tup ds => Fl.of (bindNs ε1 is ds) .nx
    | _ => .bad
theorem bindNs_exc {is : List Nat} : ∀ {ds : List DL.D} {ε : En} {x : Ex}, bindNs ε is ds ≠ .exc x := by
  induction is with
  | nil => intro ds ε x e; cases ds <;> (simp only [bindNs] at e; cases e)
  | cons i is ih =>
    intro ds ε x e
    cases ds with
    | nil => simp only [bindNs] at e; cases e
    | cons d ds =>
      simp only [bindNs] at e
      unfold putS at e
      split at e
      · cases e
      · cases e
      · simp only [Rs.bind] at e; exact ih e
theorem setT_ok {is : List Nat} {tg e : Expr} {ev : En → Rs (Bool × DL.D × En)} (he : PE X e (rdG false g W ev qe)) (hg : PG X tg (gOf g.K (.t is))) (hs : swapsWithSole [tg] e pos.line X.env = pure false) (hw : swappedStores [tg] e X.env = pure none)
    (h1 : (assignEach [tg] X.env).map (·.2) = [assign tg X.env]) : PS X (.Assign [tg] e pos) (rdS g W (setTEv ev is)) := by
  refine PS.imp (ps_asg he hg hs hw h1) fun D σ H h => ?_
  obtain ⟨ε, F, S, m⟩ := h
  refine ⟨ε, F, S, ?_⟩
  unfold setTEv at m
  cases e : ev ε with
  | exc x => simp only [e, Fl.of] at m; exact m.xw
  | bad => simp only [e, Fl.of] at m; exact m
  | ok r =>
    obtain ⟨o, d, ε1⟩ := r
    simp only [e, Fl.of] at m ⊢
    intro v F' H' S' s' r
    cases d <;> simp only at m <;> first | exact m.elim | skip
    rename_i ds
    cases e2 : bindNs ε1 is ds with
    | exc x => exact absurd e2 bindNs_exc
    | bad => simp only [e2] at m; exact m.elim
    | ok ε2 =>
      simp only [e2] at m
      have rr : Rp g.K g.fa F' v (.tup ds) := by
        cases o with
        | false => exact r
        | true =>
          obtain ⟨a, _, _, _, c⟩ := r
          exact c.elim
      refine bindT_rd (t := .t is) S' rr e2 fun σ' S2 s2 _ => ?_
      exact m _ F' H' S2 (s'.ss.trans s2.toSSt)
def asgEv (evs : En → Rs (List (Bool × DL.D) × En)) (is : List Nat) : En → Fl := fun ε => Fl.of (evs ε) fun (ds, ε1) => Fl.of (putOs ε1 is ds) .nx
theorem putOs_exc {is : List Nat} : ∀ {ds : List (Bool × DL.D)} {ε : En} {x : Ex}, putOs ε is ds ≠ .exc x := by
  induction is with
  | nil => intro ds ε x e; cases ds <;> (simp only [putOs] at e; cases e)
  | cons i is ih =>
    intro ds ε x e
    cases ds with
    | nil => simp only [putOs] at e; cases e
    | cons d ds =>
      obtain ⟨o, d⟩ := d
      simp only [putOs] at e
      unfold putS at e
      split at e
      · cases e
      · cases e
      · simp only [Rs.bind] at e; exact ih e
theorem par_rd {evs : En → Rs (List (Bool × DL.D) × En)} {is : List Nat} (h : rdS g W (asgEv evs is) D σ H) : rdOs g W evs qe σ H fun vs H1 => vs.length = is.length ∧ D.nx (setV σ is vs) H1 := by
  obtain ⟨ε, F, S, m⟩ := h
  refine ⟨ε, F, S, ?_⟩
  unfold asgEv at m
  cases e : evs ε with
  | exc x => simp only [e, Fl.of] at m; exact m.xw
  | bad => simp only [e, Fl.of] at m; exact m
  | ok r =>
    obtain ⟨ds, ε1⟩ := r
    simp only [e, Fl.of] at m ⊢
    intro vs F' H' S' s' r
    cases e2 : putOs ε1 is ds with
    | exc x => exact absurd e2 putOs_exc
    | bad => simp only [e2] at m; exact m.elim
    | ok ε2 =>
      simp only [e2] at m
      obtain ⟨l, S2, s2⟩ := put_os S' s'.ss r (fun a h => h) (fun a o => S.ownN a (s'.o a o)) e2
      exact ⟨l, m _ F' H' S2 s2⟩
theorem par2_ok {i j : Nat} {y z : Str} {a b : Expr} {evs : En → Rs (List (Bool × DL.D) × En)} {px py pt : Pos} {kt k2 pt2} (hc : X.calm = true) (hN : X.N.Nodup) (hi : X.N[i]? = some y) (hj : X.N[j]? = some z) (hij : i ≠ j)
    (hx : X.env.scope.names.lookup y = some .local) (hy : X.env.scope.names.lookup z = some .local) (ha : PA X [a, b] (rdOs g W evs qe))
    (hw : swappedStores [.Tuple [.Name y px, .Name z py] kt pt] (.Tuple [a, b] k2 pt2) X.env = pure (some [y, z]))
    (hs : swapsWithSole [.Tuple [.Name y px, .Name z py] kt pt] (.Tuple [a, b] k2 pt2) pos.line X.env = pure false) :
    PS X (.Assign [.Tuple [.Name y px, .Name z py] kt pt] (.Tuple [a, b] k2 pt2) pos) (rdS g W (asgEv evs [i, j])) := by
  refine PS.imp (ps_par hc hN hi hj hij hx hy ha hw hs) fun D σ H h => ?_
  obtain ⟨ε, F, S, m⟩ := par_rd (qe := qe) h
  refine ⟨ε, F, S, ?_⟩
  cases e : evs ε with
  | exc x => simp only [e] at m ⊢; exact m
  | bad => simp only [e] at m
  | ok r =>
    simp only [e] at m ⊢
    intro vs F' H' S' s' r
    obtain ⟨l, n⟩ := m vs F' H' S' s' r
    match vs, l, n with
    | [v, w], _, n => exact ⟨v, w, rfl, n⟩
theorem par3_ok {i j l : Nat} {y z u : Str} {a b c : Expr} {evs : En → Rs (List (Bool × DL.D) × En)} {px py pz pt : Pos} {kt k2 pt2} (hc : X.calm = true) (hN : X.N.Nodup) (hi : X.N[i]? = some y) (hj : X.N[j]? = some z) (hl : X.N[l]? = some u) (hij : i ≠ j) (hil : i ≠ l) (hjl : j ≠ l)
    (hx : X.env.scope.names.lookup y = some .local) (hy : X.env.scope.names.lookup z = some .local) (hz : X.env.scope.names.lookup u = some .local) (ha : PA X [a, b, c] (rdOs g W evs qe))
    (hw : swappedStores [.Tuple [.Name y px, .Name z py, .Name u pz] kt pt] (.Tuple [a, b, c] k2 pt2) X.env = pure (some [y, z, u]))
    (hs : swapsWithSole [.Tuple [.Name y px, .Name z py, .Name u pz] kt pt] (.Tuple [a, b, c] k2 pt2) pos.line X.env = pure false) :
    PS X (.Assign [.Tuple [.Name y px, .Name z py, .Name u pz] kt pt] (.Tuple [a, b, c] k2 pt2) pos) (rdS g W (asgEv evs [i, j, l])) := by
  refine PS.imp (ps_par3 hc hN hi hj hl hij hil hjl hx hy hz ha hw hs) fun D σ H h => ?_
  obtain ⟨ε, F, S, m⟩ := par_rd (qe := qe) h
  refine ⟨ε, F, S, ?_⟩
  cases e : evs ε with
  | exc x => simp only [e] at m ⊢; exact m
  | bad => simp only [e] at m
  | ok r =>
    simp only [e] at m ⊢
    intro vs F' H' S' s' r
    obtain ⟨l, n⟩ := m vs F' H' S' s' r
    match vs, l, n with
    | [v, w, x], _, n => exact ⟨v, w, x, rfl, n⟩
/-- more than three: a tuple is made and taken apart -/
theorem parN_g {Q : L2.St → Hp → Prop} : ∀ {is : List Nat} {vs : List V} {σ : L2.St}, vs.length = is.length → Q (setV σ is vs) H → gOfs is vs σ H Q
  | [], [], _, _, h => ⟨rfl, h⟩
  | i :: is, v :: vs, σ, l, h => ⟨v, vs, rfl, parN_g (is := is) (vs := vs) (by simpa using l) h⟩
  | [], _ :: _, _, l, _ => by simp at l
  | _ :: _, [], _, l, _ => by simp at l
theorem TmpsO.grow (gr : Grow F H F' H') : ∀ {vs : List V} {ds : List (Bool × DL.D)} {H0 : Hp}, TmpsO g H0 F H vs ds → TmpsO g H0 F' H' vs ds
  | _, _, _, .nil => .nil
  | _, _, _, .cons (w := w) (d := d) r h1 h2 t => by
    refine .cons ?_ h1 h2 (TmpsO.grow gr t)
    cases w with
    | false => exact Rp.mono gr.f d r
    | true =>
      obtain ⟨a, e, hn, f, c⟩ := r
      refine ⟨a, e, hn, ?_, c.keep gr.f fun o h _ => gr.h a o h⟩
      cases z : F' a with
      | none => rfl
      | some o =>
        rcases gr.n a o z with y | y
        · rw [f] at y; cases y
        · obtain ⟨u, hu, _⟩ := c.ex
          rw [hu] at y; cases y.1
theorem parN_ok {is : List Nat} {tg : Expr} {es : List Expr} {evs : En → Rs (List (Bool × DL.D) × En)} {k2 pt2} (hk : X.K = g.K) (hz : is.length ≤ sizeLine) (ha : PA X es (rdOs g W evs qe)) (hg : PG X tg (gOf g.K (.t is))) (hs : swapsWithSole [tg] (.Tuple es k2 pt2) pos.line X.env = pure false) (hw : swappedStores [tg] (.Tuple es k2 pt2) X.env = pure none)
    (h1 : (assignEach [tg] X.env).map (·.2) = [assign tg X.env]) : PS X (.Assign [tg] (.Tuple es k2 pt2) pos) (rdS g W (asgEv evs is)) := by
  refine PS.imp (ps_asg (pe_tup ha) hg hs hw h1) fun D σ H h => ?_
  obtain ⟨ε, F, S, m⟩ := h
  refine ⟨ε, F, S, ?_⟩
  unfold asgEv at m
  cases e : evs ε with
  | exc x => simp only [e, Fl.of] at m; exact m.xw
  | bad => simp only [e, Fl.of] at m; exact m
  | ok r =>
    obtain ⟨ds, ε1⟩ := r
    simp only [e, Fl.of] at m ⊢
    intro vs F' H' S' s' r
    cases e2 : putOs ε1 is ds with
    | exc x => exact absurd e2 putOs_exc
    | bad => simp only [e2] at m; exact m.elim
    | ok ε2 =>
      simp only [e2] at m
      have l := (put_os S' s'.ss r (fun a h => h) (fun a o => S.ownN a (s'.o a o)) e2).1
      refine ⟨by rw [l]; exact hz, fun pp hp => ?_⟩
      have gr : Grow F' H' F' (upd H' pp (.tup vs)) := ⟨Sub.refl _, Sub.new hp, S'.sb.trans (Sub.new hp), fun a o e => .inl e, upd_tbl fun ps z => by cases z⟩
      have S3 := S'.grow gr
      have s3 := s'.trans (Stp.grow gr)
      have r3 := TmpsO.grow gr r
      obtain ⟨_, S2, s2⟩ := put_os S3 s3.ss r3 (fun a h => h) (fun a o => S.ownN a (s'.o a o)) e2
      exact ⟨pp, vs, rfl, SqT.of upd_same, l, parN_g l (m _ F' _ S2 s2)⟩
/-! ### changes -/
def appEv (ev : En → Rs (Bool × DL.D × En)) (i : Nat) : En → Fl := fun ε => match isL ε i with
    | true => Fl.of (ev ε) fun (_, d, ε1) => Fl.of (appS ε1 i d) .nx
    | false => .bad
theorem isL_ex {i : Nat} (h : isL ε i = true) : ∃ k ds, (k = Sl.own ∨ k = Sl.lnt) ∧ ε[i]? = some (k (.lst ds)) := by
  unfold isL at h
  split at h
  · rename_i xs e; exact ⟨_, xs, .inl rfl, e⟩
  · rename_i xs e; exact ⟨_, xs, .inr rfl, e⟩
  · cases h
theorem isC_ex {i : Nat} (h : isC ε i = true) : ∃ k d, (k = Sl.own ∨ k = Sl.lnt) ∧ ε[i]? = some (k d) := by
  unfold isC at h
  split at h
  · rename_i xs e; exact ⟨_, xs, .inl rfl, e⟩
  · rename_i xs e; exact ⟨_, xs, .inr rfl, e⟩
  · cases h
theorem Stt.cell (S : Stt g.toGh F H σ ε) {i : Nat} {k : DL.D → Sl} {d : DL.D} (hk : k = Sl.own ∨ k = Sl.lnt) (e : ε[i]? = some (k d)) : ∃ (a : Addr) (o : HO), σ[i]? = some (some (V.ref a)) ∧ F a = none ∧ H a = some o ∧ CO g.K g.fa F o d := by
  have hs := S.sl i _ e
  rcases hk with rfl | rfl
  · obtain ⟨a, e1, f, c⟩ := hs
    obtain ⟨o, h1, h2⟩ := c.co
    exact ⟨a, o, e1, f, h1, h2⟩
  · obtain ⟨a, e1, f, c⟩ := hs
    obtain ⟨o, h1, h2⟩ := c.co
    exact ⟨a, o, e1, f, h1, h2⟩
theorem appS_exc {i : Nat} {d : DL.D} : appS ε i d ≠ .exc x := fun h => by
  unfold appS at h
  split at h
  · split at h <;> cases h
  · split at h <;> cases h
  · cases h
theorem appS_ok {i : Nat} {d : DL.D} (h : appS ε i d = .ok ε') : ∃ k es, (k = Sl.own ∨ k = Sl.lnt) ∧ ε[i]? = some (k (.lst es)) ∧ es.length < sizeL ∧ ε' = ε.set i (k (.lst (es ++ [d]))) := by
  unfold appS at h
  split at h
  · rename_i xs e
    split at h
    · rename_i hl; cases h; exact ⟨_, xs, .inl rfl, e, hl, rfl⟩
    · cases h
  · rename_i xs e
    split at h
    · rename_i hl; cases h; exact ⟨_, xs, .inr rfl, e, hl, rfl⟩
    · cases h
  · cases h
theorem app_ok {i : Nat} {y : Str} {e : Expr} {ev : En → Rs (Bool × DL.D × En)} {py apos cpos : Pos} (hN : X.N[i]? = some y) (hv : Vis X.env.scope y) (hd : (y == ("__debug__" : Str)) = false) (hcd : (y == ("__classdict__" : Str)) = false)
    (hst : ∀ x p, e ≠ .Starred x p) (he : PE X e (rdG false g W ev qe)) (hbase : attributeBase (.Name y py) "append" X.env (eval (.Name y py) X.env) = eval (.Name y py) X.env) (hline : (apos.endLine == cpos.line) = true)
    (hs : swapsWith (.Call (.Attribute (.Name y py) "append" apos) [e] [] cpos) none pos.line X.env = pure false) :
    PS X (.Expr (.Call (.Attribute (.Name y py) "append" apos) [e] [] cpos) pos) (rdS g W (appEv ev i)) := by
  have hse := starEach_cons (env := X.env) (es := []) hst
  have hp := pe_bm (X := X) (apos := apos) (cpos := cpos) PySem.F.plainAttrs_list PySem.F.slot_list_append PySem.F.type_list_append mt_append (pe_var (pos := py) hN hv hd hcd) (pa_cons he pa_nil hse) hbase (by rw [hse]; rfl) hline hse (by rfl)
  refine PS.imp (ps_expr hp hs) fun D σ H h => ?_
  obtain ⟨ε, F, S, m⟩ := h
  unfold appEv at m
  cases hL : isL ε i with
  | false => simp only [hL] at m; exact m.elim
  | true =>
    simp only [hL] at m
    obtain ⟨k, ds, hk, ek⟩ := isL_ex hL
    obtain ⟨a, _, ea, _, hH, vs, rfl, _⟩ := S.cell hk ek
    refine ⟨_, ea, .inl ⟨rfl, _, SqL.of hH⟩, ε, F, S, ?_⟩
    cases e : ev ε with
    | exc x => simp only [e, Fl.of] at m; exact m.xw
    | bad => simp only [e, Fl.of] at m; exact m
    | ok r =>
      obtain ⟨o, d, ε1⟩ := r
      simp only [e, Fl.of] at m ⊢
      intro v F' H' S' s' r
      obtain ⟨F2, sf, rp, S2, n2⟩ := RR.frz1 (fun a o => S.ownN a (s'.o a o)) S' (Sub.refl _) r
      have s2 := s'.frz sf n2
      cases e2 : appS ε1 i d with
      | exc x => exact absurd e2 appS_exc
      | bad => simp only [e2] at m; exact m.elim
      | ok ε2 =>
        simp only [e2] at m
        obtain ⟨k, es, hk, e1, hl, rfl⟩ := appS_ok e2
        obtain ⟨a', _, ea', _, hH', vs', rfl, rs⟩ := S2.cell hk e1
        rw [ea] at ea'
        cases ea'
        obtain ⟨S3, s3⟩ := own_upd (d1 := .lst _) S2 hk e1 ea ⟨_, rfl, rs.app (.cons rp .nil)⟩
        refine ⟨a, vs', v, rfl, rfl, hH', by rw [rs.len, ← sizeL_eq]; exact hl, ?_⟩
        exact m _ F2 _ S3 (s2.ss.trans s3)
def putEv (ev evk : En → Rs (Bool × DL.D × En)) (i : Nat) : En → Fl := fun ε => Fl.of (ev ε) fun (_, v, ε1) => match isC ε1 i with
    | true => Fl.of (evk ε1) fun (_, k, ε2) => Fl.of (putI ε2 i k v) .nx
    | false => .bad
theorem putI_exc {i : Nat} {d e : DL.D} : putI ε i d e ≠ .exc x := fun h => by
  unfold putI at h
  split at h
  · rename_i dd _
    cases z : putD dd d e with
    | none => rw [z] at h; cases h
    | some _ => rw [z] at h; cases h
  · rename_i dd _
    cases z : putD dd d e with
    | none => rw [z] at h; cases h
    | some _ => rw [z] at h; cases h
  · cases h
theorem putI_ok {i : Nat} {kk v : DL.D} (h : putI ε i kk v = .ok ε') : ∃ k d d', (k = Sl.own ∨ k = Sl.lnt) ∧ ε[i]? = some (k d) ∧ putD d kk v = some d' ∧ ε' = ε.set i (k d') := by
  unfold putI at h
  split at h
  · rename_i dd e
    cases z : putD dd kk v with
    | none => rw [z] at h; cases h
    | some d' => rw [z] at h; cases h; exact ⟨_, dd, d', .inl rfl, e, z, rfl⟩
  · rename_i dd e
    cases z : putD dd kk v with
    | none => rw [z] at h; cases h
    | some d' => rw [z] at h; cases h; exact ⟨_, dd, d', .inr rfl, e, z, rfl⟩
  · cases h
theorem ixN_eq (n : Nat) (i : Int) : DL.ixN n i = L2.ixN n i := by
  unfold DL.ixN L2.ixN
  rfl
theorem set_ld (hu : X.A.units + 1 < cLine) : PSet X (fun o i v H Q => L2.rSetL o i v H Q ∨ L2.rSetD o i v H Q) := by
  intro pins s σ H o i v ov iv u Q I ro ri rv h
  rcases h with h | h
  · exact set_list pins s σ H o i v ov iv u Q I ro ri rv h
  · exact set_dict hu pins s σ H o i v ov iv u Q I ro ri rv h
theorem put_ok (hu : X.A.units + 1 < cLine) {i : Nat} {y : Str} {e ke : Expr} {ev evk : En → Rs (Bool × DL.D × En)} {qk : Bool} {py tpos : Pos} (hN : X.N[i]? = some y) (hv : Vis X.env.scope y) (hd : (y == ("__debug__" : Str)) = false) (hcd : (y == ("__classdict__" : Str)) = false)
    (he : PE X e (rdG false g W ev qe)) (hke : PE X ke (rdG false g W evk qk)) (ha : ∀ v, assign (.Subscript (.Name y py) ke tpos) X.env v = (do
      let ov ← holding [v] (eval (.Name y py) X.env)
      let iv ← holding [v, ov] (eval ke X.env)
      standAt tpos
      holding [v, ov, iv] (setItem ov iv v)
      release [v, ov, iv] []))
    (hs : swapsWithSole [.Subscript (.Name y py) ke tpos] e pos.line X.env = pure false) (hw : swappedStores [.Subscript (.Name y py) ke tpos] e X.env = pure none)
    (h1 : (assignEach [.Subscript (.Name y py) ke tpos] X.env).map (·.2) = [assign (.Subscript (.Name y py) ke tpos) X.env]) :
    PS X (.Assign [.Subscript (.Name y py) ke tpos] e pos) (rdS g W (putEv ev evk i)) := by
  refine PS.imp (ps_asg he (pg_sub (pe_var (pos := py) hN hv hd hcd) hke (set_ld hu) ha) hs hw h1) fun D σ H h => ?_
  obtain ⟨ε, F, S, m⟩ := h
  refine ⟨ε, F, S, ?_⟩
  unfold putEv at m
  cases e1 : ev ε with
  | exc x => simp only [e1, Fl.of] at m; exact m.xw
  | bad => simp only [e1, Fl.of] at m; exact m
  | ok r =>
    obtain ⟨o, d, ε1⟩ := r
    simp only [e1, Fl.of] at m ⊢
    intro v F' H' S' s' r
    obtain ⟨F2, sf, rp, S2, n2⟩ := RR.frz1 (fun a o => S.ownN a (s'.o a o)) S' (Sub.refl _) r
    have s2 := s'.frz sf n2
    cases hL : isC ε1 i with
    | false => simp only [hL] at m; exact m.elim
    | true =>
      simp only [hL] at m
      obtain ⟨k, dd, hk, ek⟩ := isC_ex hL
      obtain ⟨a, _, ea, _, hH, _⟩ := S2.cell hk ek
      refine ⟨_, ea, ε1, F2, S2, ?_⟩
      cases e2 : evk ε1 with
      | exc x => simp only [e2] at m; exact s2.xw m.xw
      | bad => simp only [e2] at m; exact m
      | ok r =>
        obtain ⟨o3, kd, ε3⟩ := r
        simp only [e2] at m ⊢
        intro kv F3 H3 S3 s3 r3
        cases e3 : putI ε3 i kd d with
        | exc x => exact absurd e3 putI_exc
        | bad => simp only [e3] at m; exact m.elim
        | ok ε4 =>
          simp only [e3] at m
          obtain ⟨k, dc, d', hk, e5, ep, rfl⟩ := putI_ok e3
          obtain ⟨a', o', ea', _, hH', co⟩ := S3.cell hk e5
          rw [ea] at ea'
          cases ea'
          cases dc <;> first | exact co.elim | skip
          · obtain ⟨vs', rfl, rs⟩ := co
            cases kd <;> simp only [putD] at ep <;> first | (cases ep; done) | skip
            obtain ⟨j, ej, rfl⟩ := Option.map_eq_some_iff.mp ep
            have hi := (RG.now (p := false) (g := g) r3).int
            subst hi
            obtain ⟨S4, s4⟩ := own_upd (d1 := .lst _) S3 hk e5 ea ⟨_, rfl, Rps.set (Rp.mono s3.f _ rp) j rs⟩
            refine .inl ⟨a, vs', _, j, rfl, rfl, hH', by rw [rs.len, ← ixN_eq]; exact ej, ?_⟩
            exact m _ F3 _ S4 ((s2.ss.trans s3.ss).trans s4)
          · obtain ⟨vs', rfl, k1, k2, rs⟩ := co
            simp only [putD] at ep
            split at ep
            · rename_i hc
              cases ep
              simp only [Bool.and_eq_true, decide_eq_true_eq] at hc
              obtain ⟨ws, e6, z1, z2, z3⟩ := dPut_put hc.1 (Rp.mono s3.f _ rp) k1 k2 rs
              obtain ⟨S4, s4⟩ := own_upd (d1 := .dic _ _) S3 hk e5 ea ⟨ws, rfl, z1, z2, z3⟩
              refine .inr ⟨a, _, rfl, ?_, m _ F3 _ S4 ((s2.ss.trans s3.ss).trans s4)⟩
              rw [(RG.now (p := false) (g := g) r3).key hc.1, ← e6]
              exact DPut.k hH' (by rw [zipK_len (k2.trans rs.len.symm), ← sizeL_eq]; exact hc.2)
            · cases ep
def exprEv (ev : En → Rs (Bool × DL.D × En)) : En → Fl := fun ε => Fl.of (ev ε) fun (_, _, ε1) => .nx ε1
theorem expr_ok {e : Expr} {ev : En → Rs (Bool × DL.D × En)} (he : PE X e (rdG false g W ev qe)) (hs : swapsWith e none pos.line X.env = pure false) : PS X (.Expr e pos) (rdS g W (exprEv ev)) := by
  refine PS.imp (ps_expr he hs) fun D σ H h => ?_
  obtain ⟨ε, F, S, m⟩ := h
  refine ⟨ε, F, S, ?_⟩
  unfold exprEv at m
  cases e1 : ev ε with
  | exc x => simp only [e1, Fl.of] at m; exact m.xw
  | bad => simp only [e1, Fl.of] at m; exact m
  | ok r =>
    simp only [e1, Fl.of] at m ⊢
    exact fun v F' H' S' s' r => m _ F' H' S' s'.ss
def retEv (ev : En → Rs (Bool × DL.D × En)) : En → Fl := fun ε => Fl.of (ev ε) fun (o, d, ε1) => .rt o d ε1
theorem RR.rt {v : V} {o : Bool} {d : DL.D} (r : RR g.K g.fa H F' H' v o d) : RT g σ ε H F' H' v o d := by
  cases o with
  | false => exact r
  | true =>
    obtain ⟨a, e, hn, f, c⟩ := r
    exact ⟨a, e, f, c, .inl hn⟩
theorem ret_ok {e : Expr} {ev : En → Rs (Bool × DL.D × En)} (he : PE X e (rdG false g W ev qe)) : PS X (.Return (some e) pos) (rdS g W (retEv ev)) := by
  refine PS.imp (ps_ret he) fun D σ H h => ?_
  obtain ⟨ε, F, S, m⟩ := h
  refine ⟨ε, F, S, ?_⟩
  unfold retEv at m
  cases e1 : ev ε with
  | exc x => simp only [e1, Fl.of] at m; exact m.xw
  | bad => simp only [e1, Fl.of] at m; exact m
  | ok r =>
    simp only [e1, Fl.of] at m ⊢
    exact fun v F' H' S' s' r => m _ _ F' H' S' s'.ss (RR.rt r)
/-- return x -/
theorem retV_ok {i : Nat} {y : Str} {call : Nat → List Arg → Rs (Bool × DL.D × List DL.D)} {hand : Nat → Rs DL.D → Rs DL.D} {py : Pos} (hN : X.N[i]? = some y) (hv : Vis X.env.scope y) (hd : (y == ("__debug__" : Str)) = false) (hcd : (y == ("__classdict__" : Str)) = false) :
    PS X (.Return (some (.Name y py)) pos) (rdS g W (retEv fun ε => evR (.v i) ε (evE call hand (.v i) ε))) := by
  refine PS.imp (ps_ret (pe_var (pos := py) hN hv hd hcd)) fun D σ H h => ?_
  obtain ⟨ε, F, S, m⟩ := h
  unfold retEv at m
  simp only [evR, evE] at m
  cases e : ε[i]? with
  | none => simp only [e, Fl.of] at m; exact m.elim
  | some s =>
    have hs := S.sl i s e
    simp only [e] at m
    cases s with
    | no => simp only [Fl.of] at m; exact m.elim
    | lnt d => simp only [Fl.of] at m; exact m.elim
    | val d =>
      simp only [Fl.of] at m
      obtain ⟨v, ev, r⟩ := hs
      exact ⟨v, ev, m v σ F H S SSt.refl r⟩
    | own d =>
      simp only [Fl.of] at m
      obtain ⟨a, ev, f, c⟩ := hs
      exact ⟨_, ev, m _ σ F H S SSt.refl ⟨a, rfl, f, c, .inr ⟨i, d, e, ev⟩⟩⟩
theorem retN_ok : PS X (.Return none pos) (rdS g W (fun ε => .rt false .non ε)) := PS.imp ps_retN fun D σ H h => by
  obtain ⟨ε, F, S, m⟩ := h
  exact m _ σ F H S SSt.refl .non
theorem pass_ok : PS X (.Pass pos) (rdS g W (fun ε => .nx ε)) := PS.imp ps_pass fun D σ H h => by
  obtain ⟨ε, F, S, m⟩ := h
  exact m σ F H S SSt.refl
theorem cont_ok : PS X (.Continue pos) (rdS g W (fun ε => .ct ε)) := PS.imp ps_continue fun D σ H h => by
  obtain ⟨ε, F, S, m⟩ := h
  exact m σ F H S SSt.refl
theorem nil_ok : PSs X [] (rdS g W (fun ε => .nx ε)) := PSs.imp pss_nil fun D σ H h => by
  obtain ⟨ε, F, S, m⟩ := h
  exact m σ F H S SSt.refl
theorem doc_ok {xs : Str} {j : Nat} {pos' : Pos} {st : List Stmt} {f : En → Fl} : PSs X st (rdS g W f) → PSs X (.Expr (.Constant (.str xs) j pos) pos' :: st) (rdS g W f) := fun h => PSs.imp (pss_cons ps_doc h) fun D σ H h => h
theorem cons_ok {st : Stmt} {sts : List Stmt} {f : En → Fl} {k : En → Fl} (h1 : PS X st (rdS g W f)) (h2 : PSs X sts (rdS g W k)) : PSs X (st :: sts) (rdS g W fun ε => (f ε).seq k) := by
  refine PSs.imp (pss_cons h1 h2) fun D σ H h => ?_
  obtain ⟨ε, F, S, m⟩ := h
  refine ⟨ε, F, S, ?_⟩
  simp only at m
  cases e : f ε with
  | nx ε1 =>
    rw [e] at m
    exact fun σ' F' H' S' s' => ⟨ε1, F', S', post.to s' m⟩
  | ct ε1 => rw [e] at m; exact m
  | rt o d ε1 => rw [e] at m; exact m
  | exc x => rw [e] at m; exact m
  | bad => rw [e] at m; exact m
def iffEv (ev : En → Rs (Bool × En)) (a b : En → Fl) : En → Fl := fun ε => Fl.of (ev ε) fun (z, ε1) => match z with
    | true => a ε1
    | false => b ε1
theorem iff_ok {c : Expr} {a b : List Stmt} {ev : En → Rs (Bool × En)} {fa fb : En → Fl} (hc : PT X c (rdT g W ev qe)) (ha : PSs X a (rdS g W fa)) (hb : PSs X b (rdS g W fb)) : PS X (.If c a b pos) (rdS g W (iffEv ev fa fb)) := by
  refine PS.imp (ps_if hc ha hb) fun D σ H h => ?_
  obtain ⟨ε, F, S, m⟩ := h
  refine ⟨ε, F, S, ?_⟩
  unfold iffEv at m
  cases e1 : ev ε with
  | exc x => simp only [e1, Fl.of] at m; exact m.xw
  | bad => simp only [e1, Fl.of] at m; exact m
  | ok r =>
    obtain ⟨z, ε1⟩ := r
    simp only [e1, Fl.of] at m ⊢
    intro F' H' S' s'
    cases z with
    | true => rw [if_pos rfl]; exact ⟨ε1, F', S', post.to s'.ss m⟩
    | false => rw [if_neg Bool.false_ne_true]; exact ⟨ε1, F', S', post.to s'.ss m⟩
def forEv (evi : En → Rs (List DL.D × En)) (t : Tg) (b : En → Fl) : En → Fl := fun ε => Fl.of (evi ε) fun (xs, ε1) => forL (fun x ε2 => Fl.of (bindT ε2 t x) fun ε3 => b ε3) xs ε1
theorem bindT_exc {t : Tg} {d : DL.D} : bindT ε t d ≠ .exc x := fun h => by
  cases t with
  | n i => simp only [bindT] at h; unfold putS at h; split at h <;> cases h
  | t is =>
    cases d <;> simp only [bindT] at h <;> first | (cases h; done) | exact bindNs_exc h
theorem for_ok {iter tg : Expr} {body : List Stmt} {t : Tg} {evi : En → Rs (List DL.D × En)} {fb : En → Fl} (hp : PassesOwn (model X.prog X.w) X.A X.env X.xe) (hc : X.calm = true) (hi : PI X tg iter (rdI g W evi qe)) (hg : PG X tg (gOf g.K t)) (hb : PSs X body (rdS g W fb))
    (hs : ∀ x, foldedSetIterable iter X.env x = pure x) : PS X (.For tg iter body [] pos) (rdS g W (forEv evi t fb)) := by
  refine PS.imp (ps_for hp hc hi hg hb hs) fun D σ H h => ?_
  obtain ⟨ε, F, S, m⟩ := h
  refine ⟨ε, F, S, ?_⟩
  unfold forEv at m
  cases e1 : evi ε with
  | exc x => simp only [e1, Fl.of_exc] at m; exact m.xw
  | bad => simp only [e1, Fl.of_bad] at m; exact m
  | ok r =>
    obtain ⟨ds, ε1⟩ := r
    simp only [e1, Fl.of_ok] at m ⊢
    intro J F1 H1 S1 s1 it
    refine ⟨fun i m σ' H' => m = ds.length - i ∧ i ≤ ds.length ∧ ∃ ε' F', Stt g.toGh F' H' σ' ε' ∧ Sub F1 F' ∧ post g W D σ' ε' F' H' (forL (fun x ε2 => Fl.of (bindT ε2 t x) fun ε3 => fb ε3) (ds.drop i) ε'),
      ⟨ds.length, by simp, Nat.zero_le _, ε1, F1, S1, Sub.refl _, post.to s1.ss (by simpa using m)⟩, ?_⟩
    rintro i m' σ' H' ⟨rfl, hi', ε', F', S', sf, pm⟩
    by_cases hlt : i < ds.length
    · refine .inr ⟨it.go i F' H' sf S'.sb hlt, fun σ2 H2 => ∃ ε' F', Stt g.toGh F' H2 σ2 ε' ∧ Sub F1 F' ∧ post g W D σ2 ε' F' H2 (forL (fun x ε2 => Fl.of (bindT ε2 t x) fun ε3 => fb ε3) (ds.drop (i + 1)) ε'), fun σ2 H2 c => ⟨ds.length - (i + 1), by omega, rfl, by omega, c⟩, fun x H'' hy => ?_⟩
      obtain ⟨F'', d, gr, ed, rd⟩ := it.yld i F' H' x H'' sf S'.sb hlt hy
      have edrop : ds.drop i = d :: ds.drop (i + 1) := by
        have h1 := List.getElem?_eq_some_iff.mp ed
        rw [← h1.2]
        exact List.drop_eq_getElem_cons hlt
      rw [edrop] at pm
      simp only [forL] at pm
      have S2 := S'.grow gr
      have s2 : SSt σ' ε' F' H' σ' ε' F'' H'' := (sst_grow gr).toSSt
      cases eb : bindT ε' t d with
      | exc x => exact absurd eb bindT_exc
      | bad => simp only [eb, Fl.of_bad] at pm; exact pm.elim
      | ok ε3 =>
        simp only [eb, Fl.of_ok] at pm
        refine bindT_rd S2 rd eb fun σ3 S3 s3 _ => ⟨ε3, F'', S3, ?_⟩
        have s4 := s2.trans s3.toSSt
        have fin : ∀ {ε5 : En} {σ5 : L2.St} {F5 H5 : Hp}, Stt g.toGh F5 H5 σ5 ε5 → SSt σ3 ε3 F'' H'' σ5 ε5 F5 H5 → post g W D σ' ε' F' H' (forL (fun x ε2 => Fl.of (bindT ε2 t x) fun ε3 => fb ε3) (ds.drop (i + 1)) ε5) → ∃ ε' F', Stt g.toGh F' H5 σ5 ε' ∧ Sub F1 F' ∧ post g W D σ5 ε' F' H5 (forL (fun x ε2 => Fl.of (bindT ε2 t x) fun ε3 => fb ε3) (ds.drop (i + 1)) ε') :=
          fun S5 s5 pm => ⟨_, _, S5, (sf.trans gr.f).trans s5.f, post.to (s4.trans s5) pm⟩
        cases ef : fb ε3 with
        | nx ε5 => simp only [ef] at pm ⊢; exact fun σ5 F5 H5 S5 s5 => fin S5 s5 pm
        | ct ε5 => simp only [ef] at pm ⊢; exact fun σ5 F5 H5 S5 s5 => fin S5 s5 pm
        | rt o d ε5 => simp only [ef] at pm; exact post.to (f := .rt o d ε5) s4 pm
        | exc x => simp only [ef] at pm; exact post.to (f := .exc x) s4 pm
        | bad => simp only [ef] at pm; exact pm
    · have ei : i = ds.length := by omega
      subst ei
      refine .inl ⟨it.stop _ F' H' sf S'.sb (Nat.le_refl _), ?_⟩
      rw [List.drop_length] at pm
      simp only [forL] at pm
      exact pm σ' F' H' S' SSt.refl
theorem while_ok {c : Expr} {body : List Stmt} {ev : En → Rs (Bool × En)} {fb : En → Fl} {wf : Nat} (hp : PassesOwn (model X.prog X.w) X.A X.env X.xe) (hc : PT X c (rdT g W ev qe)) (hb : PSs X body (rdS g W fb)) : PS X (.While c body [] pos) (rdS g W (fun ε => whileL ev fb wf ε)) := by
  refine PS.imp (ps_while hp hc hb) fun D σ H h => ?_
  obtain ⟨ε, F, S, m⟩ := h
  refine ⟨fun n σ' H' => ∃ ε' F', Stt g.toGh F' H' σ' ε' ∧ post g W D σ' ε' F' H' (whileL ev fb n ε'), ⟨wf, ε, F, S, m⟩, ?_⟩
  rintro n σ' H' ⟨ε', F', S', pm⟩
  refine ⟨ε', F', S', ?_⟩
  cases n with
  | zero => simp only [whileL] at pm; exact pm.elim
  | succ n =>
    simp only [whileL] at pm
    cases e1 : ev ε' with
    | exc x => simp only [e1, Fl.of] at pm; exact pm.xw
    | bad => simp only [e1, Fl.of] at pm; exact pm
    | ok r =>
      obtain ⟨b, ε1⟩ := r
      simp only [e1, Fl.of] at pm ⊢
      intro F1 H1 S1 s1
      cases b with
      | false => rw [if_neg Bool.false_ne_true]; exact pm σ' F1 H1 S1 s1.ss
      | true =>
        rw [if_pos rfl]
        simp only at pm
        refine ⟨fun σ2 H2 => ∃ ε' F', Stt g.toGh F' H2 σ2 ε' ∧ post g W D σ2 ε' F' H2 (whileL ev fb n ε'), fun σ2 H2 c => ⟨n, Nat.lt_succ_self n, c⟩, ε1, F1, S1, ?_⟩
        cases ef : fb ε1 with
        | nx ε5 => simp only [ef] at pm ⊢; exact fun σ5 F5 H5 S5 s5 => ⟨_, _, S5, post.to (s1.ss.trans s5) pm⟩
        | ct ε5 => simp only [ef] at pm ⊢; exact fun σ5 F5 H5 S5 s5 => ⟨_, _, S5, post.to (s1.ss.trans s5) pm⟩
        | rt o d ε5 => simp only [ef] at pm; exact post.to (f := .rt o d ε5) s1.ss pm
        | exc x => simp only [ef] at pm; exact post.to (f := .exc x) s1.ss pm
        | bad => simp only [ef] at pm; exact pm
theorem raise_ok {e : Expr} {cls : Nat} (hc : X.calm = true) (tk : Takes X W) (he : PMk X e (fun _ H Q => Q (.ref (g.ca cls)) none H)) : PS X (.Raise (some e) none pos) (rdS g W (fun _ => .exc ⟨cls, none⟩)) := by
  refine PS.imp (ps_raise hc tk he) fun D σ H h => ?_
  obtain ⟨ε, F, S, m⟩ := h
  exact m _ _ σ F H ⟨S.sb, S.tb, S.ft, Sub.refl _, fun _ _ e => .inl e, fun _ _ e _ _ => e, fun _ e => e⟩ ⟨rfl, trivial⟩
end
end DL

set_option Elab.async false
set_option linter.all false
set_option maxRecDepth 100000
set_option maxHeartbeats 4000000
/-! DL13b: displays of dicts, methods, sets used at once. -/
namespace DL
open PySem PySem.Spec PyProof.Rows L2
section
variable {X : Cx} {g : Gx} {W : WX} {pos : Pos} {p q qa qs pa : Bool} {a : Expr} {eva : En → Rs (Bool × D × En)}
/-! ### {k: v, ..} -/
def dicEv (ks : List D) (evs : En → Rs (List D × En)) : En → Rs (Bool × D × En) := fun ε => (evs ε).bind fun (ds, ε1) => if ks.all keyB && ndB ks && decide (ks.length = ds.length) then .ok (true, .dic ks ds, ε1) else .bad
theorem dic0_ok : PE X (.Dict [] [] pos) (rdG p g W (dicEv [] fun ε => .ok ([], ε)) q) := by
  refine PE.imp pe_dnewK fun σ H Q h => ?_
  obtain ⟨ε, F, S, m⟩ := h
  have m : ∀ v F' H', Stt g.toGh F' H' σ ε → Stp q σ ε F H ε F' H' → RG g p H F' H' v true (.dic [] []) → Q v H' := m
  exact Rq.dic (vs := []) S.sb rfl rfl .nil (rq_of (q := q) S Stp.refl m)
/-- the pairs of a display -/
structure Prs (X : Cx) (g : Gx) (W : WX) (pos : Pos) (ks : List D) (keys : List (Option Expr)) (xs : List Expr) (evs : En → Rs (List D × En)) (qs : Bool) : Prop where
  ex : ∃ trs, PPs X pos keys xs trs ∧ ∀ (σ : L2.St) (H : Hp) (Q : List (V × V) → Hp → Prop), (∃ ε F, Stt g.toGh F H σ ε ∧ match evs ε with
    | .ok (ds, ε') => ∀ vs F' H', Stt g.toGh F' H' σ ε' → Stp qs σ ε F H ε' F' H' → Tmps g H F' H' vs ds → Q ((ks.map fun k => kV (keyK k)).zip vs) H'
    | .exc x => XW g W σ ε F H x
    | .bad => False) → tPairs trs σ H Q
theorem prs_nil : Prs X g W pos [] [] [] (fun ε => .ok ([], ε)) q := ⟨[], pps_nil, fun σ H Q h => by
  obtain ⟨ε, F, S, m⟩ := h
  exact m [] F H S Stp.refl .nil⟩
theorem prs_cons {k : D} {ks : List D} {kx : Expr} {keys : List (Option Expr)} {xs : List Expr} {evs : En → Rs (List D × En)} (kb : keyB k = true) (hk : PE X kx (rdG false g W (fun ε => .ok (false, k, ε)) true)) (ha : PE X a (rdG false g W eva qa)) (hr : Prs X g W pos ks keys xs evs qs) :
    Prs X g W pos (k :: ks) (some kx :: keys) (a :: xs) (consEv eva evs) (qa && qs) := by
  obtain ⟨trs, hp, hq⟩ := hr.ex
  refine ⟨_, pps_cons hk ha hp, fun σ H Q h => ?_⟩
  obtain ⟨ε, F, S, m⟩ := h
  unfold consEv at m
  refine ⟨ε, F, S, ?_⟩
  intro kv F0 H0 S0 s0 r0
  have ek : kv = kV (keyK k) := Rp1.key (F := F0) (H := H0) (RG.now (p := false) (g := g) r0) kb
  subst ek
  refine ⟨ε, F0, S0, ?_⟩
  cases e : eva ε with
  | exc x => simp only [e, Rs.bind] at m; exact s0.xw m
  | bad => simp only [e, Rs.bind] at m
  | ok r =>
    obtain ⟨w1, z1, ε1⟩ := r
    intro v F1 H1 S1 s1 r1
    simp only [e, Rs.bind] at m
    refine hq _ _ _ ⟨ε1, F1, S1, ?_⟩
    cases e2 : evs ε1 with
    | exc x => simp only [e2] at m; exact (s0.and s1).xw m
    | bad => simp only [e2] at m
    | ok r =>
      obtain ⟨ds, ε2⟩ := r
      simp only [e2] at m ⊢
      intro vs F2 H2 S2 s2 r2
      have s1' := s0.and s1
      rw [Bool.true_and] at s1'
      exact m (v :: vs) F2 H2 S2 (s1'.and s2) (.cons (w := w1) (RR.keep S1 (RR.back (g := g.toGh) (show RR g.K g.fa H0 F1 H1 v w1 z1 from r1) s0.z) s2 fun b o => S.ownN b (s1'.o b o)) (Tmps.back s1'.z r2))
theorem zip_kvs : ∀ {ks : List D} {vs : List V}, (ks.map fun k => kV (keyK k)).zip vs = (zipK ks vs).map fun kv => (kV kv.1, kv.2)
  | [], vs => by cases vs <;> rfl
  | _ :: _, [] => rfl
  | k :: ks, v :: vs => by simp only [List.map_cons, List.zip_cons_cons, zipK, zip_kvs (ks := ks)]
/-- with keys all different nothing is put in twice -/
theorem merge_new : ∀ {kvs acc : List (L2.Key × V)}, ((acc ++ kvs).map (·.1)).Nodup → mergeK acc kvs = acc ++ kvs
  | [], acc, _ => by simp [mergeK]
  | kv :: kvs, acc, h => by
    have hn : valV acc kv.1 = none := by
      have : (acc.any fun p => decide (p.1 = kv.1)) = false := by
        rw [Bool.eq_false_iff]
        intro z
        obtain ⟨p, hp, e⟩ := List.any_eq_true.mp z
        have e := of_decide_eq_true e
        rw [List.map_append, List.nodup_append] at h
        exact h.2.2 p.1 (List.mem_map.mpr ⟨p, hp, rfl⟩) kv.1 (List.mem_map.mpr ⟨kv, List.mem_cons_self, rfl⟩) e
      rw [valV_any] at this
      simpa using this
    show mergeK (putK acc kv.1 kv.2) kvs = _
    rw [putK_new kv.2 hn, merge_new (by rw [List.append_assoc]; exact h), List.append_assoc]
    rfl
theorem dHas_mem {ks : List D} {x : D} (hx : keyB x = true) (hk : ks.all keyB = true) : dHas ks x = true ↔ x ∈ ks := by
  unfold dHas
  rw [List.any_eq_true]
  constructor
  · rintro ⟨y, hy, e⟩
    have := (same_iff (List.all_eq_true.mp hk y hy) hx).mp e
    rw [← this]; exact hy
  · exact fun h => ⟨x, h, same_refl hx⟩
theorem ndB_nodup : ∀ {ks : List D}, ks.all keyB = true → ndB ks = true → (ks.map keyK).Nodup
  | [], _, _ => List.nodup_nil
  | k :: ks, h, n => by
    have h' : keyB k = true ∧ ks.all keyB = true := by simpa using h
    have n' : dHas ks k = false ∧ ndB ks = true := by simpa [ndB] using n
    rw [List.map_cons, List.nodup_cons]
    refine ⟨fun hm => ?_, ndB_nodup h'.2 n'.2⟩
    obtain ⟨y, hy, e⟩ := List.mem_map.mp hm
    have := (keyK_inj (List.all_eq_true.mp h'.2 y hy) h'.1).mp e
    subst this
    rw [(dHas_mem h'.1 h'.2).mpr hy] at n'
    cases n'.1
theorem dic_ok {ks : List D} {keys : List (Option Expr)} {xs : List Expr} {evs : En → Rs (List D × En)} (h : Prs X g W pos ks keys xs evs qs) (hall : keys.all (·.isSome) = true) (hl : keys.length = xs.length) (h0 : keys ≠ []) (h15 : keys.length ≤ 15) (hk : ks.length = keys.length) :
    PE X (.Dict keys xs pos) (rdG p g W (dicEv ks evs) false) := by
  obtain ⟨trs, hp, hq⟩ := h.ex
  refine PE.imp (pe_disp hp hall hl h0 h15) fun σ H Q hh => ?_
  obtain ⟨ε, F, S, m⟩ := hh
  unfold dicEv at m
  intro pp np
  have fp : F pp = none := S.sb.none' np
  have gr : Grow F H F (upd H pp (.dK [])) := ⟨Sub.refl _, Sub.new np, S.sb.trans (Sub.new np), fun a o e => .inl e, upd_tbl fun ps z => by cases z⟩
  have S0 := S.grow gr
  have s0 : Stp true σ ε F H ε F (upd H pp (.dK [])) := Stp.grow gr
  have nO : ¬ Owns σ ε pp := fun o => by
    obtain ⟨u, hu, _⟩ := S.ownH o
    rw [np] at hu; cases hu
  refine hq _ _ _ ⟨ε, F, S0, ?_⟩
  cases e : evs ε with
  | exc x => simp only [e, Rs.bind] at m; exact s0.xw m
  | bad => simp only [e, Rs.bind] at m
  | ok r =>
    obtain ⟨ds, ε1⟩ := r
    simp only [e, Rs.bind] at m ⊢
    intro vs F1 H1 S1 s1 r1
    cases hc : (ks.all keyB && ndB ks && decide (ks.length = ds.length)) with
    | false => simp only [hc] at m; exact m.elim
    | true =>
      simp only [hc] at m
      simp only [Bool.and_eq_true, decide_eq_true_eq] at hc
      obtain ⟨⟨c1, c2⟩, c3⟩ := hc
      have hP : H1 pp = some (.dK []) := s1.k pp _ upd_same (fun ps z => by cases z) fun _ => nO
      obtain ⟨F2, sf, rs, S2, n2⟩ := Tmps.freeze (fun b o => S0.ownN b (s1.o b o)) S1 r1
      have lv : ks.length = vs.length := by rw [rs.len]; exact c3
      refine ⟨hP, zipK ks vs, zip_kvs, by rw [zipK_len lv, hk]; exact h15, ?_⟩
      rw [merge_new (acc := []) (by rw [List.nil_append, zipK_keys lv]; exact ndB_nodup c1 c2), List.nil_append]
      have F2p : F2 pp = none := by
        cases x : F2 pp with
        | none => rfl
        | some o =>
          have h1 : F1 pp = none := by
            cases y : F1 pp with
            | none => rfl
            | some o =>
              rcases s1.n pp o y with z | z | z
              · rw [fp] at z; cases z
              · exact z.no upd_same fun ps z => by cases z
              · exact absurd (Owns.of z) nO
          rcases n2 pp o x with z | z
          · rw [h1] at z; cases z
          · exact z.no upd_same fun ps z => by cases z
      have nO2 : ¬ Owns σ ε1 pp := fun o => nO (s1.o pp o)
      have S3 := grow_obj (o1 := .dK (zipK ks vs)) S2 hP (.inr ⟨_, rfl⟩) F2p nO2
      have s2 : Stp false σ ε F (upd H pp (.dK [])) ε1 F2 H1 := (s1.frz sf n2).to
      refine m _ F2 _ S3 ?_ (RG.ofRR ⟨pp, rfl, Nn.of np, F2p, vs, upd_same, c1, c3, rs⟩)
      refine ⟨s2.f, fun b o x => ?_, fun b o hb nb ho => ?_, fun b hb => ?_, s2.o, s2.oo, s2.l⟩
      · rcases s2.n b o x with z | z | z
        · exact .inl z
        · exact .inr (.inl (s0.z b z))
        · exact .inr (.inr z)
      · have ne : b ≠ pp := fun z => by subst z; rw [np] at hb; cases hb
        rw [upd_ne ne]
        exact s2.k b o (by rw [upd_ne ne]; exact hb) nb ho
      · by_cases z : b = pp
        · subst z; exact Nn.of np
        · exact s0.z b (s2.z b fun u hu => hb u (by rw [upd_ne z]; exact hu))
/-! ### methods -/
def meEv (me : Me) (eva : En → Rs (Bool × D × En)) (evs : En → Rs (List D × En)) : En → Rs (Bool × D × En) := fun ε => (eva ε).bind fun (_, x, ε1) => match meOk me x with
    | true => (evs ε1).bind fun (xs, ε2) => (Rs.opt (meD me x xs)).bind fun (w, z) => .ok (w, z, ε2)
    | false => .bad
def meName : Me → String
  | .get => "get" | .index => "index" | .join => "join" | .isdigit => "isdigit" | .isalpha => "isalpha" | .lower => "lower" | .rstrip => "rstrip"
def notCall0 : Expr → Bool
  | .Call _ _ _ _ => false
  | _ => true
theorem base_ok {o : Expr} {n : Str} {env : PySem.Env} {wh : Sem Value} (h : notCall0 o = true) : attributeBase o n env wh = wh := by
  cases o <;> first | rfl | cases h
theorem base_ok2 {f : Expr} {x : Expr} {xs : List Expr} {kw : List Keyword} {pp : Pos} {n : Str} {env : PySem.Env} {wh : Sem Value} : attributeBase (.Call f (x :: xs) kw pp) n env wh = wh := by
  cases f <;> rfl
theorem ixD_some {x : D} : ∀ {ys : List D} {n j : Nat}, ixD x ys n = some j → ∃ i, j = n + i ∧ (∃ y, ys[i]? = some y ∧ D.beq y x = true) ∧ ∀ m y, m < i → ys[m]? = some y → D.beq y x = false
  | [], _, _, h => by cases h
  | y :: ys, n, j, h => by
    unfold ixD at h
    split at h
    · rename_i hy
      cases h
      exact ⟨0, rfl, ⟨y, rfl, hy⟩, fun m z hm => absurd hm (by omega)⟩
    · rename_i hy
      obtain ⟨i, e, ⟨z, hz, hb⟩, hno⟩ := ixD_some h
      refine ⟨i + 1, by omega, ⟨z, by simpa using hz, hb⟩, fun m u hm hu => ?_⟩
      cases m with
      | zero => simp at hu; subst hu; simpa using hy
      | succ m => exact hno m u (by omega) (by simpa using hu)
theorem toPs_get : ∀ {ys : List D} {i : Nat}, (D.toPs ys)[i]? = (ys[i]?).map D.toP
  | [], _ => by simp [D.toPs]
  | y :: ys, 0 => by simp [D.toPs]
  | y :: ys, i + 1 => by simp [D.toPs, toPs_get (ys := ys)]
theorem flats_get : ∀ {ys : List D} {i : Nat} {y : D}, D.flats ys = true → ys[i]? = some y → y.flat = true
  | [], _, _, _, h => by simp at h
  | z :: ys, 0, y, f, h => by simp at h; subst h; exact (by simpa [D.flats] using f : z.flat = true ∧ D.flats ys = true).1
  | z :: ys, i + 1, y, f, h => flats_get (by simpa [D.flats] using f : z.flat = true ∧ D.flats ys = true).2 (by simpa using h)
theorem asStrs_eq {K : PySem.W.Frag} {fa : Nat → Option Addr} {F : Hp} : ∀ {xs : List D} {ys : List (List Nat)} {vs : List V}, asStrs xs = some ys → Rps K fa F vs xs → vs = (ys.map fun y => (Sx y : Str)).map V.str
  | [], ys, vs, e, r => by cases e; cases r; rfl
  | x :: xs, ys, vs, e, r => by
    cases x <;> first | (cases e; done) | skip
    unfold asStrs at e
    obtain ⟨zs, e1, rfl⟩ := Option.map_eq_some_iff.mp e
    cases r with | cons a t =>
    cases a with | str _ q =>
    rw [asStrs_eq e1 t]; rfl
/-- the call of a method by data -/
theorem me_call (hu : X.A.units + 200 < cLine) {me : Me} {pins : List (Addr × Obj)} {s : Shared} {σ : L2.St} {F H : Hp} {v : V} {vv : Value} {x : D} {vs : List V} {us : List Value} {ds : List D} {w : Bool} {z : D} {Q : VK} (hk : X.K = g.K)
    (I : Inv X pins σ H s) (sb : Sub F H) (rv : L2.RelV v vv) (ru : Vals vs us) (hx : Rp1 g.K g.fa F H v x) (rs : Rps g.K g.fa F vs ds) (ho : meOk me x = true) (e : meD me x ds = some (w, z)) (q : Rq g.K g.fa F H w z Q) :
    ∀ id, (∀ T, (match x with | .dic _ _ => T = "dict" | .lst _ => T = "list" | _ => False) → id = T ++ "." ++ meName me) → wpAny (model X.prog X.w) X.A (call (.builtin id) (vv :: us)) (EP X pins σ Q) X.xe s := by
  intro id hid
  unfold meD at e
  split at e
  · split at e
    · rename_i hkb
      cases e
      obtain rfl : id = "dict.get" := hid "dict" rfl
      obtain ⟨a, ws, rfl, hH, k1, k2, r⟩ := hx.dic sb
      cases rs with | cons rx rs =>
      cases rs with | cons rd rs =>
      cases rs
      cases rv
      cases ru with | cons u1 ru =>
      cases ru with | cons u2 ru =>
      cases ru
      have gv := dGet_val hkb k1 r
      refine d_get2 (by omega) I (by rw [Rp1.key (H := H) (.inl rx) hkb]; exact DGet.k hH) u1 u2 fun w' s' I' rw' => ⟨_, H, I', rw', ?_⟩
      split at gv
      · rename_i d0 eg
        obtain ⟨v0, g1, g2⟩ := gv
        rw [eg] at q
        rw [g1]
        exact Rq.same sb g2 q
      · rename_i eg
        rw [eg] at q
        rw [gv k2]
        exact Rq.same sb rd q
    · cases e
  · split at e
    · rename_i hkb
      cases e
      obtain rfl : id = "dict.get" := hid "dict" rfl
      obtain ⟨a, ws, rfl, hH, k1, k2, r⟩ := hx.dic sb
      cases rs with | cons rx rs =>
      cases rs
      cases rv
      cases ru with | cons u1 ru =>
      cases ru
      have gv := dGet_val hkb k1 r
      refine d_get1 (by omega) I (by rw [Rp1.key (H := H) (.inl rx) hkb]; exact DGet.k hH) u1 fun w' s' I' rw' => ⟨_, H, I', rw', ?_⟩
      split at gv
      · rename_i d0 eg
        obtain ⟨v0, g1, g2⟩ := gv
        rw [eg] at q
        rw [g1]
        exact Rq.same sb g2 q
      · rename_i eg
        rw [eg] at q
        rw [gv k2]
        exact Rq.same sb .non q
    · cases e
  · split at e
    · rename_i xs y hc
      obtain ⟨j, ej, e2⟩ := Option.map_eq_some_iff.mp e
      cases e2
      simp only [Bool.and_eq_true, decide_eq_true_eq] at hc
      obtain ⟨⟨⟨c1, c2⟩, c3⟩, c4⟩ := hc
      obtain rfl : id = "list.index" := hid "list" rfl
      obtain ⟨a, ws, rfl, hH, r⟩ := hx.lst sb
      cases rs with | cons rx rs =>
      cases rs
      obtain ⟨i, e0, ⟨u, hu1, hu2⟩, hno⟩ := ixD_some ej
      have e0 : j = i := by omega
      subst e0
      have fl : D.flat (.lst xs) = true := by simpa [D.flat] using c2
      have dl := hx.dp sb fl
      have ll := hx.lay fl
      have dx := Rp.dp sb _ rx c1
      have lx := Rp.lay _ rx c1
      rw [← hk] at dl dx
      refine mt_indexD (by omega) pins s σ H _ _ _ _ Q I rv ru ⟨a, _, y.toP, D.toPs xs, j, u.toP, rfl, rfl, dl, dx, ?_, ?_, by rw [toPs_get, hu1]; rfl, by rw [D.eqv_toP u y (flats_get c2 hu1) c1]; exact hu2, fun m z' hm hz => ?_, ?_⟩
      · unfold SeqAt.shaped
        have : (D.toP (.lst xs)).canLay0 = true := ll
        simp only [D.toP] at this
        rw [this, Bool.true_and, decide_eq_true_eq]
        simp only [PyData.depth, D.deps_toP xs c2]
        omega
      · unfold SeqAt.shaped
        rw [lx, Bool.true_and, decide_eq_true_eq, D.dep_toP y c1]
        omega
      · rw [toPs_get] at hz
        obtain ⟨z0, hz0, rfl⟩ := Option.map_eq_some_iff.mp hz
        rw [D.eqv_toP z0 y (flats_get c2 hz0) c1]
        exact hno m z0 hm hz0
      · exact Rq.same sb (.int _) q
    · cases e
  · cases e
/-- a method's receiver -/
theorem me_recv {me : Me} {pins : List (Addr × Obj)} {s : Shared} {σ : L2.St} {F H : Hp} {v : V} {vv : Value} {x : D} (I : Inv X pins σ H s) (sb : Sub F H) (rv : L2.RelV v vv) (hx : Rp1 g.K g.fa F H v x) (ho : meOk me x = true) :
    ∃ T id, PlainAttrs T ∧ Slot T (meName me) id ∧ typeOf (.builtin id) = pure (.type "method_descriptor") ∧ s.TypeIs vv T ∧ (∀ a, vv = .ref a → ∃ ob, s.heap.get? a = some ob ∧ ob.dict = none) ∧
      ∀ U, (match x with | .dic _ _ => U = "dict" | .lst _ => U = "list" | _ => False) → id = U ++ "." ++ meName me := by
  unfold meOk at ho
  split at ho
  · obtain ⟨a, vs, rfl, hH, _⟩ := hx.dic sb
    obtain ⟨h1, h2⟩ := tyV_is (T := "dict") I rv (.inr (.inr (.inl ⟨rfl, .inl ⟨_, hH⟩⟩)))
    exact ⟨"dict", "dict.get", PySem.F.plainAttrs_dict, PySem.F.slot_dict_get, PySem.F.type_dict_get, h1, h2, fun U e => by rw [e]; rfl⟩
  · obtain ⟨a, vs, rfl, hH, _⟩ := hx.lst sb
    obtain ⟨h1, h2⟩ := tyV_is (T := "list") I rv (.inl ⟨rfl, _, SqL.of hH⟩)
    exact ⟨"list", "list.index", PySem.F.plainAttrs_list, PySem.F.slot_list_index, PySem.F.type_list_index, h1, h2, fun U e => by rw [e]; rfl⟩
  · cases ho
theorem few_ok {e : Expr} {es : List Expr} {env : PySem.Env} {cpos : Pos} (hst : ∀ x ∈ e :: es, ∀ y p, x ≠ .Starred y p) (hl : (e :: es).length ≤ 20) :
    ((backTo cpos (starEach (e :: es) env)).all (fun x => !x.1) && (backToKw cpos (keywordEach [] env)).all (fun x => x.1.isSome) && decide ((e :: es).length + ([] : List Keyword).length + (if ([] : List Keyword).isEmpty then 0 else 1) < 30)) = true := by
  have h1 : (backTo cpos (starEach (e :: es) env)).all (fun x => !x.1) = true := by
    have := plain_args (pos := cpos) (env := env) hst
    rw [List.any_eq_false] at this
    rw [List.all_eq_true]
    intro x hx
    have := this x hx
    simpa using this
  rw [h1]
  show (true && true && decide ((e :: es).length + 0 + 0 < 30)) = true
  simp only [Bool.true_and, decide_eq_true_eq]
  omega
theorem meth_ok (hu : X.A.units + 200 < cLine) {me : Me} {b : Expr} {bs : List Expr} {apos : Pos} {evs : En → Rs (List D × En)} (hq : pa = true → qs = true) (ha : PE X a (rdG pa g W eva qa)) (hs : PA X (b :: bs) (rdA g W evs qs)) (hst : ∀ e ∈ b :: bs, ∀ x p, e ≠ .Starred x p)
    (hbase : attributeBase a (meName me) X.env (eval a X.env) = eval a X.env) (hline : (apos.endLine == pos.line) = true) (hlen : (b :: bs).length ≤ 20) (hk : X.K = g.K) :
    PE X (.Call (.Attribute a (meName me) apos) (b :: bs) [] pos) (rdG p g W (meEv me eva evs) (qa && qs)) := by
  refine ⟨fun pins s σ H Q I h => ?_⟩
  obtain ⟨ε, F, S, m⟩ := h
  have A1 : rdG pa g W eva qa σ H fun v H1 => ∃ w x ε1 F1, eva ε = .ok (w, x, ε1) ∧ Stt g.toGh F1 H1 σ ε1 ∧ Stp qa σ ε F H ε1 F1 H1 ∧ RG g pa H F1 H1 v w x := by
    refine ⟨ε, F, S, ?_⟩
    unfold meEv at m
    cases e : eva ε with
    | exc x => simp only [e, Rs.bind] at m; exact m
    | bad => simp only [e, Rs.bind] at m
    | ok r => exact fun v F' H' S' s' r' => ⟨_, _, _, F', rfl, S', s', r'⟩
  refine wpAny_Call_method_late hbase (few_ok hst hlen) hline rfl (thn (ha.run pins s σ H _ I A1) fun vv s1 ⟨v, H1, I1, rv, w, x, ε1, F1, ea, S1, t1, r1⟩ => ?_)
  unfold meEv at m
  simp only [ea, Rs.bind] at m
  cases hm : meOk me x with
  | false => simp only [hm] at m
  | true =>
    simp only [hm] at m
    have hx := RG.now r1
    obtain ⟨T, id, k1, k2, k3, k4, k5, k6⟩ := me_recv I1 S1.sb rv hx hm
    refine ⟨T, id, k1, k2, k3, k4, k5, ?_⟩
    have A2 : rdA g W evs qs σ H1 fun vs H2 => ∃ ds ε2 F2, evs ε1 = .ok (ds, ε2) ∧ Stt g.toGh F2 H2 σ ε2 ∧ Stp qs σ ε1 F1 H1 ε2 F2 H2 ∧ Tmps g H1 F2 H2 vs ds := by
      refine ⟨ε1, F1, S1, ?_⟩
      cases e : evs ε1 with
      | exc x => simp only [e] at m; exact t1.xw m
      | bad => simp only [e] at m
      | ok r => exact fun v F' H' S' s' r' => ⟨_, _, F', rfl, S', s', r'⟩
    have hA := hs.run pos pins s1 σ H1 _ I1 A2
    have hse := starEach_cons (env := X.env) (hst b List.mem_cons_self) (es := bs)
    have hpl := plain_args (pos := pos) (env := X.env) (es := bs) fun e he => hst e (List.mem_cons_of_mem _ he)
    rw [hse] at hA ⊢
    refine Calls.callWith_builtin (by show (false || (backTo pos (starEach bs X.env)).any (·.1)) = false; rw [hpl]; rfl) (Calls.evalArgs_plain ?_)
    refine thn hA fun us s2 ⟨vs, H2, I2, ru, ds, ε2, F2, es, S2, t2, r2⟩ => ?_
    simp only [es] at m
    cases em : meD me x ds with
    | none => simp only [em, Rs.opt] at m
    | some wz =>
      obtain ⟨w2, z⟩ := wz
      simp only [em, Rs.opt] at m
      obtain ⟨F3, sf, rs, S3, n3⟩ := Tmps.freeze (fun c o => S1.ownN c (t2.o c o)) S2 r2
      have t3 := t2.frz sf n3
      have hx2 : Rp1 g.K g.fa F3 H2 v x := RG.later S t1 r1 t3 hq
      exact me_call hu hk I2 S3.sb rv ru hx2 rs hm em (rq_of S3 (t1.and t3) m) id k6
theorem Grow.trans {F H F1 H1 F2 H2 : Hp} (a : Grow F H F1 H1) (b : Grow F1 H1 F2 H2) : Grow F H F2 H2 := by
  obtain ⟨a1, a2, a3, a4, a5⟩ := a
  obtain ⟨b1, b2, b3, b4, b5⟩ := b
  refine ⟨a1.trans b1, a2.trans b2, b3, fun c o e => ?_, fun c ps e => a5 c ps (b5 c ps e)⟩
  rcases b4 c o e with z | ⟨z, y⟩
  · exact a4 c o z
  · exact .inr ⟨Sub.none a2 z, y⟩
/-! ### sets used at once -/
theorem insU_le (x : Int) : ∀ l : List Int, (insU x l).length ≤ l.length + 1
  | [] => Nat.le_refl _
  | y :: l => by
    have := insU_le x l
    unfold insU
    split
    · simp
    · split
      · simp
      · simp only [List.length_cons]; omega
theorem sortU_le : ∀ l : List Int, (sortU l).length ≤ l.length
  | [] => Nat.le_refl _
  | x :: l => by
    have h1 := insU_le x (sortU l)
    have h2 := sortU_le l
    show (insU x (sortU l)).length ≤ l.length + 1
    omega
theorem nst {f : Expr} {xs : List Expr} {kw : List Keyword} {p0 : Pos} : ∀ x q, Expr.Call f xs kw p0 ≠ .Starred x q := fun _ _ z => nomatch z
def soName : So → String
  | .sorted => "sorted" | .len => "len"
theorem so_ok {o : So} {x y : Str} {pp pp2 pos2 : Pos} (hcalm : X.calm = true) (hg : Gl X x) (hm : X.mg x = none) (hv : bootBuiltins x = some (.builtin (soName o))) (hn : x ≠ "__name__") (hdb : (x == ("__debug__" : Str)) = false)
    (hg2 : Gl X y) (hm2 : X.mg y = none) (hv2 : bootBuiltins y = some (.type "set")) (hn2 : y ≠ "__name__") (hdb2 : (y == ("__debug__" : Str)) = false) (hst : ∀ x p, a ≠ .Starred x p) (ha : PE X a (rdG true g W eva qa)) (hk : X.K = g.K) :
    PE X (.Call (.Name x pp) [.Call (.Name y pp2) [a] [] pos2] [] pos) (rdG p g W (fun ε => (eva ε).bind fun (_, x, ε1) => (Rs.opt (soD o x)).bind fun (w, z) => .ok (w, z, ε1)) qa) := by
  have hp1 : PE X (.Call (.Name y pp2) [a] [] pos2) (tCB (rSetL X.w X.K) (tCons (rdG true g W eva qa) tNil)) := pe_callTy (cr_setL hcalm) hg2 hm2 hv2 (pa_cons ha pa_nil (starEach_cons hst)) hn2 hdb2 (starEach_cons hst) (by rfl)
  have hp2 : PA X [.Call (.Name y pp2) [a] [] pos2] (tCons (tCB (rSetL X.w X.K) (tCons (rdG true g W eva qa) tNil)) tNil) := pa_cons hp1 pa_nil (starEach_cons nst)
  cases o with
  | sorted =>
    refine PE.imp (pe_callB (cr_sortedSet hcalm) hg hm hv hp2 hn hdb (starEach_cons nst) (by rfl)) fun σ H Q h => ?_
    refine one_ok (f := soD .sorted) (r := fun v H1 Q => rSetL X.w X.K [v] H1 fun v2 H2 => rSortedSet X.w [v2] H2 Q) (fun {F H v x w z Q} s hx e r => ?_) h
    unfold soD at e
    split at e
    · split at e
      · rename_i ns en
        split at e
        · rename_i h64
          cases e
          obtain ⟨b, ws, rfl, hb, rb⟩ := hx.lst s
          have := rb.ints en
          subst this
          rw [hk]
          refine ⟨b, ns, rfl, SqL.of hb, h64, fun p np => ⟨p, _, _, rfl, upd_same, ?_, fun ns' p2 h1 h2 h3 np2 => ?_⟩⟩
          · exact Nat.lt_of_le_of_lt (sortU_le ns) h64
          · rw [sortU_uniq (l := ns) h1 fun k => by rw [h2 k, decide_eq_true_eq]]
            have s2 : Sub _ (upd _ p (SetO X.w p (fun j => decide (j ∈ ns)) (sortU ns).length)) := s.trans (Sub.new np)
            have gr : Grow _ _ _ (upd _ p (SetO X.w p (fun j => decide (j ∈ ns)) (sortU ns).length)) := ⟨Sub.refl _, Sub.new np, s2, fun a o e => .inl e, upd_tbl fun ps z => by unfold SetO at z; cases z⟩
            refine Rq.lst (K := g.K) (fa := g.fa) (F := _) s2 (Rps.ofInts _) (fun v F' H' g' rr => ?_) p2 np2
            exact r v F' H' (gr.trans g') (RR.back (g := g.toGh) rr fun a z => z.back (Sub.new np))
        · cases e
      · cases e
    · cases e
  | len =>
    refine PE.imp (pe_callB cr_lenS hg hm hv hp2 hn hdb (starEach_cons nst) (by rfl)) fun σ H Q h => ?_
    refine one_ok (f := soD .len) (r := fun v H1 Q => rSetL X.w X.K [v] H1 fun v2 H2 => ∃ (a : Addr) (S : Int → Bool) (n : Nat), [v2] = [V.ref a] ∧ H2 a = some (SetO X.w a S n) ∧ n < 64 ∧ Q (.int n) H2) (fun {F H v x w z Q} s hx e r => ?_) h
    unfold soD at e
    split at e
    · split at e
      · rename_i ns en
        split at e
        · rename_i h64
          cases e
          obtain ⟨b, ws, rfl, hb, rb⟩ := hx.lst s
          have := rb.ints en
          subst this
          rw [hk]
          refine ⟨b, ns, rfl, SqL.of hb, h64, fun p np => ⟨p, _, _, rfl, upd_same, ?_, ?_⟩⟩
          · exact Nat.lt_of_le_of_lt (sortU_le ns) h64
          · have s2 : Sub _ (upd _ p (SetO X.w p (fun j => decide (j ∈ ns)) (sortU ns).length)) := s.trans (Sub.new np)
            have gr : Grow _ _ _ (upd _ p (SetO X.w p (fun j => decide (j ∈ ns)) (sortU ns).length)) := ⟨Sub.refl _, Sub.new np, s2, fun a o e => .inl e, upd_tbl fun ps z => by unfold SetO at z; cases z⟩
            exact r _ _ _ gr (.int _)
        · cases e
      · cases e
    · cases e
/-! ### written dicts, written tuples of texts -/
def KdOk (g : Gx) (w : World) (mg : Str → Option Value) (y : Str) (t : Bool) (ks vs : List D) : Prop := ∃ a, mg y = some (.ref a) ∧ match t with
  | false => ∃ es n, KDict g.K w a es n ∧ ∀ x, strB x = true → (match dGet ks vs (.str x) with
    | some d => ∃ u v, PySem.W.nsIn g.K a (Sx x) = some (some u) ∧ RelV v u ∧ ∀ F, Rp g.K g.fa F v d
    | none => PySem.W.nsIn g.K a (Sx x) = some none) ∧ (dHas ks (.str x) = (dGet ks vs (.str x)).isSome)
  | true => ∃ o ys, g.K.lookup a = some o ∧ o.cls = .type "tuple" ∧ o.dict = none ∧ asStrs ks = some ys ∧ ∀ H : Hp, SqT g.K H a (ys.map fun y => V.str (Sx y))
/-- a global's value: data, a written dict, a written tuple of texts -/
def GlOk (g : Gx) (w : World) (mg : Str → Option Value) (y : Str) (d : D) : Prop := match d with
  | .set [.dic ks vs] => KdOk g w mg y false ks vs
  | .set _ => False
  | .tup ks => (∃ u v, mg y = some u ∧ RelV v u ∧ ∀ F, Rp g.K g.fa F v (.tup ks)) ∧ ((asStrs ks).isSome = true → KdOk g w mg y true ks [])
  | d => ∃ u v, mg y = some u ∧ RelV v u ∧ ∀ F, Rp g.K g.fa F v d
def notKd : D → Bool
  | .set _ => false
  | _ => true
theorem GlOk.dat {w : World} {mg : Str → Option Value} {y : Str} {d : D} (h : GlOk g w mg y d) (n : notKd d = true) : ∃ u v, mg y = some u ∧ RelV v u ∧ ∀ F, Rp g.K g.fa F v d := by
  cases d <;> first | exact h | (cases n; done) | exact h.1
theorem kget_ok {y : Str} {ks vs : List D} {b : Expr} {bs : List Expr} {np apos : Pos} {evs : En → Rs (List D × En)} (K : KdOk g X.w X.mg y false ks vs) (hg : Gl X y) (hdb : (y == ("__debug__" : Str)) = false) (hs : PA X (b :: bs) (rdA g W evs qs)) (hst : ∀ e ∈ b :: bs, ∀ x p, e ≠ .Starred x p)
    (hline : (apos.endLine == pos.line) = true) (hlen : (b :: bs).length ≤ 20) (hk : X.K = g.K) :
    PE X (.Call (.Attribute (.Name y np) "get" apos) (b :: bs) [] pos) (rdG p g W (fun ε => (evs ε).bind fun (ds, ε1) => (Rs.opt (kgetD ks vs ds)).bind fun z => .ok (false, z, ε1)) qs) := by
  obtain ⟨a, hm, es, n, KD, kv⟩ := K
  rw [← hk] at KD
  have hN : PE X (.Name y np) (tC (V.ref a)) := pe_glob hg hm rfl hdb
  refine ⟨fun pins s σ H Q I h => ?_⟩
  refine wpAny_Call_method_late (base_ok rfl) (few_ok hst hlen) hline rfl (thn (hN.run pins s σ H (fun v H1 => v = V.ref a ∧ H1 = H) I ⟨rfl, rfl⟩) fun vv s1 ⟨v, H1, I1, rv, ev, eh⟩ => ?_)
  subst ev; subst eh
  obtain rfl : vv = Value.ref a := rv
  have mp := PySem.W.mapOf_K (prog := X.prog) (w := X.w) I1.kIn KD.at_ KD.lit
  refine ⟨"dict", "dict.get", PySem.F.plainAttrs_dict, PySem.F.slot_dict_get, PySem.F.type_dict_get, mp.typeIs, mp.noDict, ?_⟩
  obtain ⟨ε, F, S, m⟩ := h
  have A2 : rdA g W evs qs σ H1 fun us H2 => ∃ ds ε2 F2, evs ε = .ok (ds, ε2) ∧ Stt g.toGh F2 H2 σ ε2 ∧ Stp qs σ ε F H1 ε2 F2 H2 ∧ Tmps g H1 F2 H2 us ds := by
    refine ⟨ε, F, S, ?_⟩
    cases e : evs ε with
    | exc x => simp only [e, Rs.bind] at m; exact m
    | bad => simp only [e, Rs.bind] at m
    | ok r => exact fun v F' H' S' s' r' => ⟨_, _, F', rfl, S', s', r'⟩
  have hA := hs.run pos pins s1 σ H1 _ I1 A2
  have hse := starEach_cons (env := X.env) (hst b List.mem_cons_self) (es := bs)
  have hpl := plain_args (pos := pos) (env := X.env) (es := bs) fun e he => hst e (List.mem_cons_of_mem _ he)
  rw [hse] at hA ⊢
  refine Calls.callWith_builtin (by show (false || (backTo pos (starEach bs X.env)).any (·.1)) = false; rw [hpl]; rfl) (Calls.evalArgs_plain ?_)
  refine thn hA fun us s2 ⟨ws, H2, I2, ru, ds, ε2, F2, es2, S2, t2, r2⟩ => ?_
  simp only [es2, Rs.bind] at m
  obtain ⟨F3, sf, rs, S3, n3⟩ := Tmps.freeze (fun c o => S.ownN c (t2.o c o)) S2 r2
  cases em : kgetD ks vs ds with
  | none => simp only [em, Rs.opt] at m
  | some z =>
    simp only [em, Rs.opt] at m
    have qq := rq_of S3 (t2.frz sf n3) m
    unfold kgetD at em
    split at em
    · cases em
      cases rs with | cons rx rs =>
      cases rs with | cons rd rs =>
      cases rs
      cases rx with | str _ sq =>
      cases ru with | cons u1 ru =>
      cases ru with | cons u2 ru =>
      cases ru
      obtain ⟨tk, rfl⟩ := u1
      have mp2 := PySem.W.mapOf_K (prog := X.prog) (w := X.w) I2.kIn KD.at_ KD.lit
      obtain ⟨kv, _⟩ := kv _ sq
      refine call_meetsIn PySem.F.slot_dict_get mp2.typeIs PySem.F.entry_dict_get (PySem.F.args_dict_get_3 _ _ _) (meets_dict_get_default (strKind X.prog X.w) a (strKind_is X.prog X.w _ tk) KD.low _) ⟨_, mp2, ?_⟩
      split at kv
      · rename_i d0 eg
        obtain ⟨u, v, k1, k2, k3⟩ := kv
        rw [← hk] at k1
        rw [PySem.W.find_K KD.at_ k1]
        rw [eg] at qq
        exact ⟨v, H2, I2.tok _, k2, Rq.same S3.sb (k3 _) qq⟩
      · rename_i eg
        rw [← hk] at kv
        rw [PySem.W.find_K KD.at_ kv]
        rw [eg] at qq
        exact ⟨_, H2, I2.tok _, u2, Rq.same S3.sb rd qq⟩
    · cases em
theorem kd_sub {y : Str} {ks vs : List D} {np : Pos} (K : KdOk g X.w X.mg y false ks vs) (hg : Gl X y) (hdb : (y == ("__debug__" : Str)) = false) (ha : PE X a (rdG true g W eva qa)) (hi : PlainIx a) (hk : X.K = g.K) :
    PE X (.Subscript (.Name y np) a pos) (rdG p g W (fun ε => (eva ε).bind fun (_, x, ε1) => (Rs.opt (kdD .sub ks vs x)).bind fun (w, z) => .ok (w, z, ε1)) qa) := by
  obtain ⟨c, hm, es, n, KD, kv⟩ := K
  have hN : PE X (.Name y np) (tC (V.ref c)) := pe_glob hg hm rfl hdb
  refine PE.imp (pe_ix ix_kdict hN ha hi) fun σ H Q h => ?_
  refine one_ok (f := kdD .sub ks vs) (r := fun v H1 Q => rIxD X.K X.w (V.ref c) v H1 Q) (fun {F H v x w z Q} s hx e r => ?_) h
  unfold kdD at e
  split at e
  · rename_i x
    obtain ⟨rfl, sq⟩ := hx.str
    obtain ⟨kv, _⟩ := kv x sq
    obtain ⟨d0, eg, e2⟩ := Option.map_eq_some_iff.mp e
    cases e2
    rw [eg] at kv
    obtain ⟨u, v, k1, k2, k3⟩ := kv
    rw [hk]
    exact ⟨c, Sx x, v, rfl, rfl, ⟨es, n, u, KD.at_, KD.lit, k1, k2⟩, Rq.same s (k3 _) r⟩
  · cases e
theorem kd_in {y : Str} {ks vs : List D} {np : Pos} (K : KdOk g X.w X.mg y false ks vs) (hg : Gl X y) (hdb : (y == ("__debug__" : Str)) = false) (ha : PE X a (rdG true g W eva qa)) (hk : X.K = g.K) :
    PE X (.Compare a [.In] [.Name y np] pos) (rdG p g W (fun ε => (eva ε).bind fun (_, x, ε1) => (Rs.opt (kdD .isIn ks vs x)).bind fun (w, z) => .ok (w, z, ε1)) qa) ∧
      PT X (.Compare a [.In] [.Name y np] pos) (rdT g W (fun ε => evT ((eva ε).bind fun (_, x, ε1) => (Rs.opt (kdD .isIn ks vs x)).bind fun (w, z) => .ok (w, z, ε1))) qa) := by
  obtain ⟨c, hm, es, n, KD, kv⟩ := K
  rw [← hk] at KD
  have hN : PE X (.Name y np) (tC (V.ref c)) := pe_glob hg hm rfl hdb
  suffices key : ∀ {p : Bool} {σ : L2.St} {H : Hp} {Q : VK}, rdG p g W (fun ε => (eva ε).bind fun (_, x, ε1) => (Rs.opt (kdD .isIn ks vs x)).bind fun (w, z) => .ok (w, z, ε1)) qa σ H Q → tOp (fun x y H Q => ∃ (z : Str) (r : Option Value), x = .str z ∧ y = .ref c ∧ PySem.W.nsIn X.K c z = some r ∧ Q (.bl r.isSome) H) (rdG true g W eva qa) (tC (V.ref c)) σ H Q from ⟨PE.imp (pe_cmpR (op_in_kd KD) ha hN rfl) fun σ H Q h => key h, PT.imp (pt_cmpR (op_in_kd KD) ha hN rfl) fun σ H Q h => key (rdT_to h)⟩
  intro p σ H Q h
  refine one_ok (f := kdD .isIn ks vs) (r := fun v H1 Q => ∃ (z : Str) (r : Option Value), v = .str z ∧ V.ref c = .ref c ∧ PySem.W.nsIn X.K c z = some r ∧ Q (.bl r.isSome) H1) (fun {F H v x w z Q} s hx e r => ?_) h
  unfold kdD at e
  split at e
  · rename_i x
    obtain ⟨rfl, sq⟩ := hx.str
    obtain ⟨kv, kh⟩ := kv x sq
    cases e
    rw [hk]
    split at kv
    · rename_i d0 eg
      obtain ⟨u, v, k1, k2, k3⟩ := kv
      refine ⟨_, _, rfl, rfl, k1, ?_⟩
      rw [kh, eg] at r
      exact Rq.same s (.bl _) r
    · rename_i eg
      refine ⟨_, _, rfl, rfl, kv, ?_⟩
      rw [kh, eg] at r
      exact Rq.same s (.bl _) r
  · cases e
theorem kd_ni {y : Str} {ks vs : List D} {np : Pos} (K : KdOk g X.w X.mg y false ks vs) (hg : Gl X y) (hdb : (y == ("__debug__" : Str)) = false) (ha : PE X a (rdG true g W eva qa)) (hk : X.K = g.K) :
    PE X (.Compare a [.NotIn] [.Name y np] pos) (rdG p g W (fun ε => (eva ε).bind fun (_, x, ε1) => (Rs.opt (kdD .notIn ks vs x)).bind fun (w, z) => .ok (w, z, ε1)) qa) ∧
      PT X (.Compare a [.NotIn] [.Name y np] pos) (rdT g W (fun ε => evT ((eva ε).bind fun (_, x, ε1) => (Rs.opt (kdD .notIn ks vs x)).bind fun (w, z) => .ok (w, z, ε1))) qa) := by
  obtain ⟨c, hm, es, n, KD, kv⟩ := K
  rw [← hk] at KD
  have hN : PE X (.Name y np) (tC (V.ref c)) := pe_glob hg hm rfl hdb
  suffices key : ∀ {p : Bool} {σ : L2.St} {H : Hp} {Q : VK}, rdG p g W (fun ε => (eva ε).bind fun (_, x, ε1) => (Rs.opt (kdD .notIn ks vs x)).bind fun (w, z) => .ok (w, z, ε1)) qa σ H Q → tOp (fun x y H Q => ∃ (z : Str) (r : Option Value), x = .str z ∧ y = .ref c ∧ PySem.W.nsIn X.K c z = some r ∧ Q (.bl (!r.isSome)) H) (rdG true g W eva qa) (tC (V.ref c)) σ H Q from ⟨PE.imp (pe_cmpR (op_notIn_kd KD) ha hN rfl) fun σ H Q h => key h, PT.imp (pt_cmpR (op_notIn_kd KD) ha hN rfl) fun σ H Q h => key (rdT_to h)⟩
  intro p σ H Q h
  refine one_ok (f := kdD .notIn ks vs) (r := fun v H1 Q => ∃ (z : Str) (r : Option Value), v = .str z ∧ V.ref c = .ref c ∧ PySem.W.nsIn X.K c z = some r ∧ Q (.bl (!r.isSome)) H1) (fun {F H v x w z Q} s hx e r => ?_) h
  unfold kdD at e
  split at e
  · rename_i x
    obtain ⟨rfl, sq⟩ := hx.str
    obtain ⟨kv, kh⟩ := kv x sq
    cases e
    rw [hk]
    split at kv
    · rename_i d0 eg
      obtain ⟨u, v, k1, k2, k3⟩ := kv
      refine ⟨_, _, rfl, rfl, k1, ?_⟩
      rw [kh, eg] at r
      exact Rq.same s (.bl _) r
    · rename_i eg
      refine ⟨_, _, rfl, rfl, kv, ?_⟩
      rw [kh, eg] at r
      exact Rq.same s (.bl _) r
  · cases e
theorem kd_ix {y : Str} {ks vs : List D} {np apos : Pos} (K : KdOk g X.w X.mg y true ks []) (hg : Gl X y) (hdb : (y == ("__debug__" : Str)) = false) (hst : ∀ x p, a ≠ .Starred x p) (ha : PE X a (rdG true g W eva qa)) (hline : (apos.endLine == pos.line) = true) (hk : X.K = g.K) :
    PE X (.Call (.Attribute (.Name y np) "index" apos) [a] [] pos) (rdG p g W (fun ε => (eva ε).bind fun (_, x, ε1) => (Rs.opt (kdD .index ks vs x)).bind fun (w, z) => .ok (w, z, ε1)) qa) := by
  obtain ⟨c, hm, o, ys, h1, h2, h3, h4, h5⟩ := K
  have hN : PE X (.Name y np) (tC (V.ref c)) := pe_glob hg hm rfl hdb
  have hse := starEach_cons (env := X.env) (es := []) hst
  refine PE.imp (pe_bm (apos := apos) (cpos := pos) PySem.F.plainAttrs_tuple PySem.F.slot_tuple_index PySem.F.type_tuple_index mt_tup_index hN (pa_cons ha pa_nil hse) (base_ok rfl) (by rw [hse]; rfl) hline hse (by rfl)) fun σ H Q h => ?_
  refine ⟨.inr (.inl ⟨rfl, o, by rw [hk]; exact h1, h2, h3⟩), ?_⟩
  refine one_ok (f := kdD .index ks vs) (r := fun v H1 Q => ∃ p, ∃ ys : List Str, ∃ z j, V.ref c = .ref p ∧ [v] = [.str z] ∧ SqT X.K H1 p (ys.map V.str) ∧ ys[j]? = some z ∧ (∀ m, m < j → ys[m]? ≠ some z) ∧ Q (.int (j : Nat)) H1) (fun {F H v x w z Q} s hx e r => ?_) h
  unfold kdD at e
  split at e
  · rename_i x
    obtain ⟨rfl, sq⟩ := hx.str
    simp only [h4] at e
    split at e
    · rename_i hmem
      cases e
      have hj := List.idxOf_lt_length_of_mem hmem
      have h5 := h5 H
      rw [← hk] at h5
      refine ⟨c, ys.map fun y => (Sx y : Str), Sx x, ys.idxOf x, rfl, rfl, by rw [List.map_map]; exact h5, ?_, fun m hm2 he => ?_, Rq.same s (.int _) r⟩
      · rw [List.getElem?_map, List.getElem?_eq_getElem hj, List.getElem_idxOf hj]; rfl
      · rw [List.getElem?_map] at he
        obtain ⟨z, hz, ez⟩ := Option.map_eq_some_iff.mp he
        have ez2 : z = x := congrArg (fun s : Str => s.cps.toList) ez
        subst ez2
        obtain ⟨hml, hmz⟩ := List.getElem?_eq_some_iff.mp hz
        have := List.not_of_lt_findIdx (p := (· == z)) (xs := ys) hm2
        rw [hmz, beq_self_eq_true] at this
        cases this
    · cases e
  · cases e
end
end DL

set_option Elab.async false
set_option linter.all false
set_option maxRecDepth 100000
set_option maxHeartbeats 4000000
/-! DL14: the program's text against the small language. -/
namespace DL
open PySem PySem.Spec PyProof.Rows L2

structure Ck where
  N : List Str
  gl : List (Str × D)
  fn : List (Str × Nat)
  cl : List (Str × Nat)
  hn : List (Str × Nat)
  lam : Bool
def dbgS : Str := "__debug__"
def cdcS : Str := "__classdict__"
def visB (sc : Scope) (y : Str) : Bool := match sc.names.lookup y with
  | some .local => true | some .cell => true | some .free => true | _ => false
def locB (fb : Str → Bool) (sc : Scope) (y : Str) : Bool := match sc.names.lookup y with
  | some .local => true | some .cell => fb y | _ => false
def fbT : Str → Bool := fun _ => true
def fbF : Str → Bool := fun _ => false
def fbS (scope : Scope) : Str → Bool := fun y => scope.names.lookup y == some .cell
def glB (sc : Scope) (y : Str) : Bool := match sc.names.lookup y with
  | some .globalImplicit => y != dbgS | _ => false
def ckV (N : List Str) (sc : Scope) (i : Nat) (y : Str) : Bool := match N[i]? with
  | some z => z == y && visB sc y && y != dbgS && y != cdcS
  | none => false
def ckL (N : List Str) (fl : Str → Bool) (sc : Scope) (i : Nat) (y : Str) : Bool := match N[i]? with
  | some z => z == y && locB fl sc y
  | none => false
def notStar : Expr → Bool
  | .Starred _ _ => false
  | _ => true
def notSet : Expr → Bool
  | .Set _ _ _ => false
  | _ => true
def plainIx : Expr → Bool
  | .Slice _ _ _ _ => false
  | _ => true
/-- its test is its value's truth -/
def plainT : Expr → Bool
  | .UnaryOp .Not _ _ => false
  | .BoolOp _ _ _ => false
  | .IfExp _ _ _ _ => false
  | .Compare _ _ _ _ => false
  | _ => true
def ckC (gl : List (Str × D)) (sc : Scope) (d : D) : Expr → Bool
  | .Constant .none _ _ => match d with | .non => true | _ => false
  | .Constant (.bool b) _ _ => match d with | .bl c => b == c | _ => false
  | .Constant (.int i) _ _ => match d with | .int j => decide (i = j) | _ => false
  | .Constant (.str x) _ _ => match d with | .str y => x == Sx y && strB y | _ => false
  | .Name y _ => glB sc y && notKd d && (match gl.lookup y with | some e => D.same e d | none => false)
  | _ => false
def ckNs (N : List Str) (fl : Str → Bool) (sc : Scope) : List Nat → List Expr → Bool
  | [], [] => true
  | i :: is, .Name y _ :: es => ckL N fl sc i y && ckNs N fl sc is es
  | _, _ => false
def ckT (N : List Str) (fl : Str → Bool) (sc : Scope) : Tg → Expr → Bool
  | .n i, .Name y _ => ckL N fl sc i y
  | .t is, .Tuple es _ _ => ckNs N fl sc is es
  | _, _ => false
def hasLoc (sc : Scope) : Bool := sc.names.any fun y => decide (y.2 = .local) || decide (y.2 = .cell)
def noPar (p : Arguments) : Bool := p.posonlyargs.isEmpty && p.args.isEmpty && p.vararg.isNone && p.kwonlyargs.isEmpty && p.kw_defaults.isEmpty && p.kwarg.isNone && p.defaults.isEmpty
def unB (op : BoolOp) (p : Pos) : List Expr → Expr
  | [y] => y
  | l => .BoolOp op l p
def rangeS : Str := "range"
def enumS : Str := "enumerate"
def zipS : Str := "zip"
def isTu : Expr → Bool
  | .Tuple _ _ _ => true
  | _ => false
def isiS : Str := "isinstance"
def appS_ : Str := "append"
def biS (b : Bi) : Str := biName b
def tyS (t : Ty) : Str := tyName t
def allBi : List Bi := [.len, .abs, .int, .all, .any, .sum, .min, .max, .sorted, .tuple, .list, .set, .dict, .str, .repr]
def allTy : List Ty := [.int, .bool, .str, .tuple, .list, .dict]
def bltS : List Str := enumS :: zipS :: rangeS :: isiS :: allBi.map biS ++ allTy.map tyS
def setS : Str := "set"
def getS_ : Str := "get"
def indexS : Str := "index"
/-- a global's written dict, a written tuple of texts -/
def kdB (gl : List (Str × D)) (y : Str) (t : Bool) (ks vs : List D) : Bool := match gl.lookup y with
  | some (.set [.dic ks' vs']) => !t && D.sames ks' ks && D.sames vs' vs
  | some (.tup ks') => t && (asStrs ks').isSome && D.sames ks' ks
  | _ => false
/-- a function's second name -/
def glFn (gl : List (Str × D)) (y : Str) (f : Nat) : Bool := match gl.lookup y with
  | some (.fn h) => h == f
  | _ => false
/-- no call without arguments -/
def nc0 : Expr → Bool
  | .Call _ [] _ _ => false
  | _ => true
theorem nc0_ok {o : Expr} {n : Str} {env : PySem.Env} {wh : Sem Value} (h : nc0 o = true) : attributeBase o n env wh = wh := by
  cases o <;> first | rfl | skip
  rename_i f xs kw p
  cases xs with
  | nil => cases h
  | cons _ _ => exact base_ok2
def ckKs (gl : List (Str × D)) (sc : Scope) : List D → List (Option Expr) → Bool
  | [], [] => true
  | k :: ks, some x :: xs => keyB k && ckC gl sc k x && ckKs gl sc ks xs
  | _, _ => false
def ownOf (N : List Str) (vs : List Nat) : List (Str × Nat) := vs.map fun i => ((N[i]?).getD "", i)

section
variable (C : Ck)
mutual
def ckE (sc : Scope) : E → Expr → Bool
  | .c d, a => ckC C.gl sc d a
  | .v i, a => match a with
    | .Name y _ => ckV C.N sc i y
    | _ => false
  | .tup es, a => match a with
    | .Tuple xs _ _ => decide (xs.length ≤ 1000) && ckEs sc es xs
    | _ => false
  | .lst es, a => match a with
    | .List xs _ => decide (xs.length ≤ 1000) && ckEs sc es xs
    | _ => false
  | .dic ks vs, a => match a with
    | .Dict keys xs _ => decide (keys.length ≤ 15) && decide (keys.length = xs.length) && keys.all (·.isSome) && ckKs C.gl sc ks keys && ckEs sc vs xs
    | _ => false
  | .kd o ks vs e, a => match o with
    | .sub => (match a with
      | .Subscript (.Name y _) x _ => glB sc y && kdB C.gl y false ks vs && plainIx x && ckE sc e x
      | _ => false)
    | .isIn => (match a with
      | .Compare x [.In] [.Name y _] _ => glB sc y && kdB C.gl y false ks vs && ckE sc e x
      | _ => false)
    | .notIn => (match a with
      | .Compare x [.NotIn] [.Name y _] _ => glB sc y && kdB C.gl y false ks vs && ckE sc e x
      | _ => false)
    | .index => (match a with
      | .Call (.Attribute (.Name y _) n apos) [x] [] cpos => n == indexS && apos.endLine == cpos.line && glB sc y && kdB C.gl y true ks vs && notStar x && ckE sc e x
      | _ => false)
  | .kget ks vs as, a => match a with
    | .Call (.Attribute (.Name y _) n apos) (x :: xs) [] cpos => n == getS_ && apos.endLine == cpos.line && glB sc y && kdB C.gl y false ks vs && decide ((x :: xs).length ≤ 20) && ckEs sc as (x :: xs)
    | _ => false
  | .so o e, a => match a with
    | .Call (.Name y _) [.Call (.Name z _) [x] [] _] [] _ => glB sc y && y == (soName o : Str) && glB sc z && z == setS && notStar x && ckE sc e x
    | _ => false
  | .bin o l r, a => match a with
    | .BinOp x op y _ => decide (opOf op = some o) && ckE sc l x && ckE sc r y
    | _ => false
  | .neg e, a => match a with
    | .UnaryOp .USub x _ => ckE sc e x
    | _ => false
  | .cmp o l r, a => match a with
    | .Compare x [op] [y] _ => decide (cmOf op = some o) && !(behindInMarks op y) && ckE sc l x && ckE sc r y
    | _ => false
  | .chain o p l m r, a => match a with
    | .Compare x [op, op'] [y, z] _ => decide (cmOf op = some o) && decide (cmOf op' = some p) && !(behindInMarks op' z) && ckE sc l x && ckE sc m y && ckE sc r z
    | _ => false
  | .and l r, a => match a with
    | .BoolOp .And (x :: y :: rest) p => ckE sc l x && ckE sc r (unB .And p (y :: rest))
    | _ => false
  | .or l r, a => match a with
    | .BoolOp .Or (x :: y :: rest) p => ckE sc l x && ckE sc r (unB .Or p (y :: rest))
    | _ => false
  | .not e, a => match a with
    | .UnaryOp .Not x _ => ckE sc e x
    | _ => false
  | .ite c l r, a => match a with
    | .IfExp x y z _ => ckE sc c x && ckE sc l y && ckE sc r z
    | _ => false
  | .sub l r, a => match a with
    | .Subscript x y _ => plainIx y && ckE sc l x && ckE sc r y
    | _ => false
  | .slice e lo hi, a => match a with
    | .Subscript x (.Slice l h none _) _ => ckE sc e x && ckO sc lo l && ckO sc hi h
    | _ => false
  | .rev e, a => match a with
    | .Subscript x (.Slice none none (some (.UnaryOp .USub (.Constant (.int 1) _ _) _)) _) _ => ckE sc e x
    | _ => false
  | .call f as, a => match a with
    | .Call (.Name y _) xs [] _ => glB sc y && (decide (C.fn.lookup y = some f) || glFn C.gl y f) && ckAs sc as xs
    | _ => false
  | .callv i as, a => match a with
    | .Call (.Name y _) (x :: xs) [] _ => ckV C.N sc i y && ckAs sc as (x :: xs)
    | _ => false
  | .bi b es, a => match a with
    | .Call (.Name y _) (x :: xs) [] _ => glB sc y && y == biS b && decide (bootBuiltins y = some (biVal b)) && ckEs sc es (x :: xs)
    | _ => false
  | .meth m e as, a => match a with
    | .Call (.Attribute x n apos) (y :: ys) [] cpos => n == (meName m : Str) && apos.endLine == cpos.line && decide ((y :: ys).length ≤ 20) && nc0 x && ckE sc e x && ckEs sc as (y :: ys)
    | _ => false
  | .isi e t, a => match a with
    | .Call (.Name y _) [x, .Name z _] [] _ => glB sc y && y == isiS && glB sc z && z == tyS t && notStar x && ckE sc e x
    | _ => false
  | .comp e t it cs vs, a => match a with
    | .ListComp elt [⟨tg, iter, ifs, z⟩] scope _ => (!C.lam || hasLoc sc) && decide (z = 0) && notSet iter && blkC C.N sc scope (ownOf C.N vs) && ckT C.N (fbS scope) (relS scope sc) t tg && decide (∀ i ∈ t.slots, i ∈ vs) && ckI (isTu tg) sc it iter && ckCs (relS scope sc) cs ifs && ckE (relS scope sc) e elt
    | _ => false
  | .lamc f b, a => match a with
    | .Call (.Name y _) [.Lambda params body scope _] [] _ => glB sc y && decide (C.hn.lookup y = some f) && C.lam && hasLoc sc && LamX.lamSB sc scope && noPar params && ckE scope b body
    | _ => false
def ckEs (sc : Scope) : Es → List Expr → Bool
  | .nil, xs => xs.isEmpty
  | .cons e es, xs => match xs with
    | x :: xs => notStar x && ckE sc e x && ckEs sc es xs
    | [] => false
def ckO (sc : Scope) : Es → Option Expr → Bool
  | .nil, o => o.isNone
  | .cons e .nil, o => match o with
    | some x => ckE sc e x
    | none => false
  | .cons _ (.cons _ _), _ => false
def ckCs (sc : Scope) : Es → List Expr → Bool
  | .nil, o => o.isEmpty
  | .cons e .nil, o => match o with
    | [x] => ckE sc e x
    | _ => false
  | .cons _ (.cons _ _), _ => false
def ckAs (sc : Scope) : As → List Expr → Bool
  | .nil, xs => xs.isEmpty
  | .val e as, xs => match xs with
    | x :: xs => notStar x && ckE sc e x && ckAs sc as xs
    | [] => false
  | .lend i as, xs => match xs with
    | .Name y _ :: xs => ckV C.N sc i y && ckAs sc as xs
    | _ => false
def ckI (tt : Bool) (sc : Scope) : I → Expr → Bool
  | .it e, a => ckE sc e a
  | .range1 e, a => match a with
    | .Call (.Name y _) [x] [] _ => glB sc y && y == rangeS && notStar x && ckE sc e x
    | _ => false
  | .range2 e f, a => match a with
    | .Call (.Name y _) [x, z] [] _ => glB sc y && y == rangeS && notStar x && notStar z && ckE sc e x && ckE sc f z
    | _ => false
  | .enum e, a => match a with
    | .Call (.Name y _) [x] [] _ => tt && glB sc y && y == enumS && notStar x && ckE sc e x
    | _ => false
  | .zip as, a => match a with
    | .Call (.Name y _) [x, z] [] _ => tt && glB sc y && y == zipS && ckEs sc as [x, z]
    | _ => false
  | .rev _, _ => false
end
end

/-- what a def that calls what it got makes of it -/
def cvD : D → V
  | .str s => .str (Sx s) | .bl b => .bl b | .int i => .int i | _ => .non
def cOk : D → Bool
  | .str s => strB s | .bl _ => true | .int _ => true | .non => true | _ => false
theorem cvD_ok {K : PySem.W.Frag} {fa : Nat → Option Addr} {F : Hp} {d : D} (h : cOk d = true) : Rp K fa F (cvD d) d := by
  cases d <;> first | (cases h; done) | skip
  · exact .non
  · exact .bl _
  · exact .int _
  · exact .str _ h
def TTh (g : Gx) (subs : Nat → Nat → Option Bool) (Hd : Hn) : (XK → Hp → VK → Prop) → Hp → VK → Prop := fun tl H Q =>
  tl (fun cls _ H' => ∃ i d, cls = .ref (g.ca i) ∧ findH subs i Hd.hs = some d ∧ Q (cvD d) H') H fun _ H' => Q (cvD Hd.after) H'
structure HnOk (g : Gx) (P : Program) (w : World) (mg : Str → Option Value) (base : Heap) (y : Str) (hd : Rs D → Rs D) : Prop where
  ex : ∃ (a : Str) (ga : Addr) (pg : Arguments) (bg : List Stmt) (sg : Scope) (dV kV doc pm cdv ct oc : Value) (an od : Option Addr) (osl : Array (Option Value)) (Ng : List Str) (subs : Nat → Nat → Option Bool) (Hd : Hn),
    mg y = some (.ref ga) ∧ PySem.W.keepIn g.K (.ref ga) = true ∧ g.K.lookup ga = some ⟨oc, od, .func (PySem.W.fnOf y y pg bg sg dV kV doc pm an cdv ct), osl⟩ ∧ PySem.W.codeIn g.K cdv y = true ∧
    Binds g.K (PySem.W.fnOf y y pg bg sg dV kV doc pm an cdv ct) [a] [] ∧ FnScope Ng [a] sg ∧ Ng[0]? = some a ∧ Vis sg a ∧ (a == ("__debug__" : Str)) = false ∧ (a == ("__classdict__" : Str)) = false ∧
    (∀ r, hd r = handD subs Hd r) ∧ cOk Hd.after = true ∧ (∀ h ∈ Hd.hs, ∀ d, h.2 = some d → cOk d = true) ∧
    ∀ (X : Cx) (q : Str), X.prog = P → X.w = w → X.K = g.K → X.mg = mg → X.base = base → LamX.GivesTo X Ng y sg ga cdv bg a q (TTh g subs Hd)
/-- what holds of a place where the text is run -/
structure XOk (C : Ck) (g : Gx) (call : Nat → List Arg → Rs (Bool × D × List D)) (hand : Nat → Rs D → Rs D) (k : Nat) (W : WX) (sc : Scope) (fl : Bool) (fb : Str → Bool) (X : Cx) : Prop where
  N : X.N = C.N
  nd : X.N.Nodup
  sc : X.env.scope = sc
  K : X.K = g.K
  calm : X.calm = true
  room : Room k X.A
  tk : Takes X W
  po : fl = true → PassesOwn (model X.prog X.w) X.A X.env X.xe
  fn : ∀ y, fb y = true → X.fn y = true
  gl : ∀ y d, C.gl.lookup y = some d → GlOk g X.w X.mg y d
  blt : ∀ y ∈ bltS, X.mg y = none
  fns : ∀ y f, C.fn.lookup y = some f → ∃ n, Told n (call f) ∧ FnX g X.prog X.w X.mg X.base k y n (call f)
  fv : ∀ f b, g.fa f = some b → ∃ n fd ps, Told n (call f) ∧ PySem.W.keepIn g.K (.ref b) = true ∧ Binds g.K fd ps [] ∧ FnOk X.prog X.w g.K X.mg X.base (L2.CX X.prog X.w) k b fd ps (spD g n (call f))
  cls : ∀ y c, C.cl.lookup y = some c → ∃ B newId initId bmB, ExcBaseFacts B newId initId bmB ∧ PySem.W.excIn X.K (g.ca c) bmB newId = true ∧ X.mg y = some (.ref (g.ca c)) ∧ PySem.W.keepIn X.K (.ref (g.ca c)) = true ∧ Raises X (.ref (g.ca c))
  hnd : ∀ y f, C.hn.lookup y = some f → HnOk g X.prog X.w X.mg X.base y (hand f)
  lam : C.lam = true → hasLoc X.env.scope = true → Room (k + 2) X.A ∧ ∃ c P, LamX.TabB X.base X.mg c P ∧ X.env.code = .ref c ∧ (P, X.env.qual ++ "<lambda>") ∈ g.T ∧ ∀ p ∈ g.T, p.1 = P → p.2 = X.env.qual ++ "<lambda>"
section
variable {C : Ck} {g : Gx} {call : Nat → List Arg → Rs (Bool × D × List D)} {hand : Nat → Rs D → Rs D} {k : Nat} {W : WX} {sc : Scope} {fl : Bool} {fb : Str → Bool} {X : Cx} {q p : Bool} {pos : Pos}
theorem rdG_to {ev : En → Rs (Bool × D × En)} {σ : L2.St} {H : Hp} {Q : VK} (h : rdG p g W ev false σ H Q) : rdG p g W ev q σ H Q := by
  obtain ⟨ε, F, S, m⟩ := h
  refine ⟨ε, F, S, ?_⟩
  cases e : ev ε with
  | ok r => rw [e] at m; exact fun v F' H' S' s r => m v F' H' S' s.to r
  | exc x => rw [e] at m; exact m
  | bad => rw [e] at m; exact m
theorem rdT_to' {ev : En → Rs (Bool × En)} {σ : L2.St} {H : Hp} {Q : Bool → Hp → Prop} (h : rdT g W ev false σ H Q) : rdT g W ev q σ H Q := by
  obtain ⟨ε, F, S, m⟩ := h
  refine ⟨ε, F, S, ?_⟩
  cases e : ev ε with
  | ok r => rw [e] at m; exact fun F' H' S' s => m F' H' S' s.to
  | exc x => rw [e] at m; exact m
  | bad => rw [e] at m; exact m
theorem PE.weak {a : Expr} {ev : En → Rs (Bool × D × En)} (h : PE X a (rdG p g W ev q)) : PE X a (rdG p g W ev false) := PE.imp h fun _ _ _ h => rdG_to h
theorem PT.weak {a : Expr} {ev : En → Rs (Bool × En)} (h : PT X a (rdT g W ev q)) : PT X a (rdT g W ev false) := PT.imp h fun _ _ _ h => rdT_to' h
theorem PE.peek {a : Expr} {ev : En → Rs (Bool × D × En)} (h : PE X a (rdG false g W ev q)) : PE X a (rdG true g W ev q) := PE.imp h fun σ H Q hh => by
  obtain ⟨ε, F, S, m⟩ := hh
  refine ⟨ε, F, S, ?_⟩
  cases e : ev ε with
  | ok r => rw [e] at m; exact fun v F' H' S' s r => m v F' H' S' s (RG.now r)
  | exc x => rw [e] at m; exact m
  | bad => rw [e] at m; exact m
theorem ckV_ok (O : XOk C g call hand k W sc fl fb X) {i : Nat} {y : Str} (h : ckV C.N sc i y = true) : X.N[i]? = some y ∧ Vis X.env.scope y ∧ (y == ("__debug__" : Str)) = false ∧ (y == ("__classdict__" : Str)) = false := by
  unfold ckV at h
  split at h
  · rename_i z e
    simp only [Bool.and_eq_true, beq_iff_eq, bne_iff_ne] at h
    obtain ⟨⟨⟨rfl, h2⟩, h3⟩, h4⟩ := h
    refine ⟨by rw [O.N]; exact e, ?_, beq_eq_false_iff_ne.mpr h3, beq_eq_false_iff_ne.mpr h4⟩
    rw [O.sc]
    unfold visB at h2
    split at h2
    · exact .inl (by assumption)
    · exact .inr (.inl (by assumption))
    · exact .inr (.inr (by assumption))
    · cases h2
  · cases h
theorem ckL_ok (O : XOk C g call hand k W sc fl fb X) {i : Nat} {y : Str} (h : ckL C.N fb sc i y = true) : X.N[i]? = some y ∧ Loc X.env.scope y ∧ (X.fn y = true ∨ X.env.scope.names.lookup y = some .local) := by
  unfold ckL at h
  split at h
  · rename_i z e
    simp only [Bool.and_eq_true, beq_iff_eq] at h
    obtain ⟨rfl, h2⟩ := h
    refine ⟨by rw [O.N]; exact e, ?_⟩
    rw [O.sc]
    unfold locB at h2
    split at h2
    · rename_i e2; exact ⟨.inl e2, .inr e2⟩
    · rename_i e2; exact ⟨.inr e2, .inl (O.fn _ h2)⟩
    · cases h2
  · cases h
theorem glB_ok (O : XOk C g call hand k W sc fl fb X) {y : Str} (h : glB sc y = true) : Gl X y ∧ (y == ("__debug__" : Str)) = false := by
  unfold glB at h
  split at h
  · rename_i e
    refine ⟨?_, beq_eq_false_iff_ne.mpr (bne_iff_ne.mp h)⟩
    show X.env.scope.names.lookup y = _
    rw [O.sc]; exact e
  · cases h
theorem notStar_ok {x : Expr} (h : notStar x = true) : ∀ y p, x ≠ .Starred y p := fun y p e => by subst e; cases h
theorem plainIx_ok {x : Expr} (h : plainIx x = true) : PlainIx x := by
  intro o i
  cases x <;> first | rfl | cases h
theorem notSet_ok {x : Expr} {env : PySem.Env} (h : notSet x = true) : ∀ v, foldedSetIterable x env v = pure v := by
  intro v
  cases x <;> first | rfl | cases h
theorem ckC_ok (O : XOk C g call hand k W sc fl fb X) {d : D} {a : Expr} (h : ckC C.gl sc d a = true) : PE X a (rdG p g W (fun ε => .ok (false, d, ε)) q) := by
  unfold ckC at h
  split at h
  · split at h
    · exact c_ok pe_non fun F => .non
    · cases h
  · split at h
    · rw [beq_iff_eq] at h; subst h; exact c_ok pe_bl fun F => .bl _
    · cases h
  · split at h
    · have h := of_decide_eq_true h; subst h; exact c_ok pe_int fun F => .int _
    · cases h
  · split at h
    · simp only [Bool.and_eq_true, beq_iff_eq] at h
      obtain ⟨rfl, h⟩ := h
      exact c_ok pe_str fun F => .str _ h
    · cases h
  · simp only [Bool.and_eq_true] at h
    obtain ⟨⟨h1, hn⟩, h2⟩ := h
    split at h2
    · rename_i e
      have es := D.same_eq _ _ h2
      obtain ⟨u, v, h3, h4, h5⟩ := (O.gl _ _ e).dat (by rw [es]; exact hn)
      obtain ⟨g1, g2⟩ := glB_ok O h1
      rw [← es]
      exact c_ok (pe_glob g1 h3 h4 g2) h5
    · cases h2
  · cases h
theorem kdB_ok (O : XOk C g call hand k W sc fl fb X) {y : Str} {t : Bool} {ks vs : List D} (h : kdB C.gl y t ks vs = true) : KdOk g X.w X.mg y t ks (match t with | true => [] | false => vs) := by
  unfold kdB at h
  split at h
  · rename_i ks' vs' e
    simp only [Bool.and_eq_true] at h
    obtain ⟨⟨h1, h2⟩, h3⟩ := h
    have e1 := D.sames_eq _ _ h2
    have e2 := D.sames_eq _ _ h3
    subst e1 e2
    cases t with
    | true => cases h1
    | false => exact O.gl _ _ e
  · rename_i ks' e
    simp only [Bool.and_eq_true] at h
    have e1 := D.sames_eq _ _ h.2
    subst e1
    cases t with
    | false => cases h.1.1
    | true => exact (O.gl _ _ e).2 h.1.2
  · cases h
theorem glFn_ok (O : XOk C g call hand k W sc fl fb X) {y : Str} {f : Nat} (h : glFn C.gl y f = true) : ∃ n, Told n (call f) ∧ FnX g X.prog X.w X.mg X.base k y n (call f) := by
  unfold glFn at h
  split at h
  · rename_i f' e
    have h := beq_iff_eq.mp h
    subst h
    obtain ⟨u, v, h1, h2, h3⟩ := O.gl _ _ e
    have h3 := h3 (fun _ => none)
    cases h3 with | fn h4 =>
    obtain ⟨n, fd, ps, a1, a2, a3, a4⟩ := O.fv _ _ h4
    cases h2
    exact ⟨n, a1, ⟨_, fd, ps, h1, a2, a3, a4⟩⟩
  · cases h
theorem PGs.ofNs (O : XOk C g call hand k W sc fl fb X) : ∀ {is : List Nat} {es : List Expr}, ckNs C.N fb sc is es = true → PGs X es (gOfs is) ∧ (assignEach es X.env).length = is.length ∧ (assignEach es X.env).findIdx? (·.1) = none
  | [], [], _ => ⟨pgs_nil, rfl, rfl⟩
  | i :: is, .Name y p :: es, h => by
    unfold ckNs at h
    simp only [Bool.and_eq_true] at h
    obtain ⟨h1, h2⟩ := h
    obtain ⟨a, b, c⟩ := PGs.ofNs O h2
    obtain ⟨e1, e2, e3⟩ := ckL_ok O h1
    have e : assignEach (Expr.Name y p :: es) X.env = (false, assign (.Name y p) X.env) :: assignEach es X.env := rfl
    refine ⟨pgs_cons (pg_name O.nd e1 e2 e3) a (by rw [e]; rfl), by rw [e, List.length_cons, b]; rfl, ?_⟩
    rw [e, List.findIdx?_cons, c]; rfl
  | [], _ :: _, h => by cases h
  | _ :: _, [], h => by cases h
  | _ :: _, e :: _, h => by
    cases e <;> first | (cases h; done) | skip
    unfold ckNs at h
    simp only [Bool.and_eq_true] at h
    obtain ⟨h1, h2⟩ := h
    obtain ⟨a, b, c⟩ := PGs.ofNs O h2
    obtain ⟨e1, e2, e3⟩ := ckL_ok O h1
    rename_i i is es y p
    have e : assignEach (Expr.Name y p :: es) X.env = (false, assign (.Name y p) X.env) :: assignEach es X.env := rfl
    refine ⟨pgs_cons (pg_name O.nd e1 e2 e3) a (by rw [e]; rfl), by rw [e, List.length_cons, b]; rfl, ?_⟩
    rw [e, List.findIdx?_cons, c]; rfl
theorem ckT_ok (O : XOk C g call hand k W sc fl fb X) {t : Tg} {a : Expr} (h : ckT C.N fb sc t a = true) : PG X a (gOf g.K t) := by
  unfold ckT at h
  split at h
  · obtain ⟨e1, e2, e3⟩ := ckL_ok O h
    exact pg_name O.nd e1 e2 e3
  · obtain ⟨a, b, c⟩ := PGs.ofNs O h
    show PG X _ (gTup g.K _ (gOfs _))
    rw [← O.K]
    exact pg_tup O.calm a b c
  · cases h
end
end DL

set_option Elab.async false
set_option linter.all false
set_option maxRecDepth 100000
set_option maxHeartbeats 4000000
/-! DL15: expressions: the text is read as the small language's. -/
namespace DL
open PySem PySem.Spec PyProof.Rows L2
section
variable {C : Ck} {g : Gx} {call : Nat → List Arg → Rs (Bool × D × List D)} {hand : Nat → Rs D → Rs D} {k : Nat} {W : WX} {sc : Scope} {fl : Bool} {fb : Str → Bool} {X : Cx} {q p : Bool} {pos : Pos}
theorem evEs_len : ∀ {es : Es} {xs : List Expr} {ε ε' : En} {ds : List D}, ckEs C sc es xs = true → evEs call hand es ε = .ok (ds, ε') → ds.length = xs.length
  | .nil, xs, ε, ε', ds, h, e => by
    unfold ckEs at h
    simp only [evEs] at e
    cases e
    cases xs with
    | nil => rfl
    | cons _ _ => cases h
  | .cons a es, xs, ε, ε', ds, h, e => by
    cases xs with
    | nil => unfold ckEs at h; cases h
    | cons x xs =>
      unfold ckEs at h
      simp only [Bool.and_eq_true] at h
      simp only [evEs] at e
      cases e1 : evE call hand a ε with
      | exc x => rw [e1] at e; cases e
      | bad => rw [e1] at e; cases e
      | ok r =>
        obtain ⟨w, d, ε1⟩ := r
        rw [e1] at e
        simp only [Rs.bind] at e
        cases e2 : evEs call hand es ε1 with
        | exc x => rw [e2] at e; cases e
        | bad => rw [e2] at e; cases e
        | ok r2 =>
          obtain ⟨ds2, ε2⟩ := r2
          rw [e2] at e
          cases e
          simp [evEs_len h.2 e2]
theorem thou_line : 1000 ≤ sizeLine := by rw [sizeLine_eq]; omega
theorem XOk.unit (O : XOk C g call hand k W sc fl fb X) : X.A.units + 200 < cLine := by have := O.room.un; omega
theorem XOk.mk' (O : XOk C g call hand k W sc fl fb X) (hl : (!C.lam || hasLoc sc) = true) {scope : Scope} {s : Shared} {H : Hp} {Cc : Addr} {cl : List (Str × Addr)} {fp : List Addr} : XOk C g call hand k W0 (relS scope sc) false (fbS scope) (X.blk s H scope (compEnvC scope cl Cc X.env) fp) := by
  refine ⟨O.N, O.nd, ?_, O.K, O.calm, O.room, fun u s' x => ?_, (fun h => nomatch h), (fun _ h => h), O.gl, O.blt, O.fns, O.fv, O.cls, O.hnd, fun h1 _ => O.lam h1 (by rw [h1] at hl; rw [O.sc]; exact hl)⟩
  · show relabel scope X.env = relS scope sc
    rw [← O.sc]; rfl
  · obtain ⟨_, _, _, _, _, _, _, _, _, _, _, _, _, _, _, _, w⟩ := x
    exact w.elim
/-- the value, its test -/
def Both (g : Gx) (W : WX) (X : Cx) (a : Expr) (ev : En → Rs (Bool × D × En)) (q : Bool) : Prop := PE X a (rdG false g W ev q) ∧ PT X a (rdT g W (fun ε => evT (ev ε)) q)
theorem plainT_ok {a : Expr} (h : plainT a = true) : ∀ whole, isTrue a X.env whole = (do let v ← whole; standAt a.pos; holding [v] (truthy v)) := by
  intro wh
  cases a with
  | UnaryOp op x p => cases op <;> first | rfl | cases h
  | _ => first | rfl | cases h
theorem Both.val {a : Expr} {ev : En → Rs (Bool × D × En)} (h : PE X a (rdG false g W ev q)) (ht : plainT a = true) : Both g W X a ev q := ⟨h, t_val h (plainT_ok ht)⟩
theorem Both.lk {a : Expr} {e b : E} (h : Both g W X a (evE call hand e) e.quiet) (hv : ∀ i, e = .v i → ∃ y p, a = .Name y p ∧ ckV C.N sc i y = true) (O : XOk C g call hand k W sc fl fb X) : PE X a (rdG b.quiet g W (fun ε => lk e b ε (evE call hand e ε)) e.quiet) := by
  cases hb : b.quiet with
  | false =>
    have : (fun ε => DL.lk e b ε (evE call hand e ε)) = evE call hand e := by
      funext ε; unfold DL.lk; rw [hb]; rfl
    rw [this]; exact h.1
  | true =>
    have : (fun ε => DL.lk e b ε (evE call hand e ε)) = fun ε => pk e ε (evE call hand e ε) := by
      funext ε; unfold DL.lk; rw [hb]; rfl
    rw [this]
    cases e with
    | v i =>
      obtain ⟨y, pp, rfl, hy⟩ := hv i rfl
      obtain ⟨h1, h2, h3, h4⟩ := ckV_ok O hy
      exact v_pk h1 h2 h3 h4
    | _ => exact PE.peek h.1
theorem Both.pk {a : Expr} {e : E} (h : Both g W X a (evE call hand e) e.quiet) (hv : ∀ i, e = .v i → ∃ y p, a = .Name y p ∧ ckV C.N sc i y = true) (O : XOk C g call hand k W sc fl fb X) : PE X a (rdG true g W (fun ε => DL.pk e ε (evE call hand e ε)) e.quiet) := by
  cases e with
  | v i =>
    obtain ⟨y, pp, rfl, hy⟩ := hv i rfl
    obtain ⟨h1, h2, h3, h4⟩ := ckV_ok O hy
    exact v_pk h1 h2 h3 h4
  | _ => exact PE.peek h.1
theorem ckE_v {a : Expr} {e : E} (h : ckE C sc e a = true) : ∀ i, e = .v i → ∃ y p, a = .Name y p ∧ ckV C.N sc i y = true := by
  intro i ei
  subst ei
  unfold ckE at h
  split at h
  · exact ⟨_, _, rfl, h⟩
  · cases h
theorem unB_pe {op : BoolOp} {y : Expr} {rest : List Expr} {ev : En → Rs (Bool × D × En)} (h : PE X (unB op pos (y :: rest)) (rdG false g W ev q)) : PE X (.BoolOp op (y :: rest) pos) (rdG false g W ev q) := by
  cases rest with
  | nil => exact pe_one h
  | cons z r => exact h
theorem unB_and {y : Expr} {rest : List Expr} {ev : En → Rs (Bool × En)} (h : PT X (unB .And pos (y :: rest)) (rdT g W ev q)) (hp : ∀ y' z' r, PT X (.BoolOp .And (y' :: z' :: r) pos) (rdT g W ev q) → PW X (.BoolOp .And (y' :: z' :: r) pos) (rdT g W ev q)) : PW X (.BoolOp .And (y :: rest) pos) (rdT g W ev q) := by
  cases rest with
  | nil => exact pw_and1 h
  | cons z r => exact hp _ _ _ h
theorem pw_of {op : BoolOp} {l : List Expr} {t : TT} (h : PT X (.BoolOp op l pos) t) : PW X (.BoolOp op l pos) t := ⟨fun wh pins s σ H Q I hh => h.run pins s σ H Q I hh⟩
/-- what is own is out of sight of a lambda -/
theorem hideE_get {ε : En} {i : Nat} {s : Sl} (h : (hideE ε)[i]? = some s) : s = .no ∨ ((∃ d, s = .val d) ∧ ε[i]? = some s) := by
  unfold hideE at h
  rw [List.getElem?_map] at h
  obtain ⟨t, e, h⟩ := Option.map_eq_some_iff.mp h
  cases t with
  | no => exact .inl h.symm
  | val d => subst h; exact .inr ⟨⟨d, rfl⟩, e⟩
  | own d => exact .inl h.symm
  | lnt d => exact .inl h.symm
theorem hide_no {σ : L2.St} {ε : En} {a : Addr} : ¬ Owns σ (hideE ε) a := fun ⟨i, h, _⟩ => by
  rcases h with ⟨d, h⟩ | ⟨d, h⟩ <;> rcases hideE_get h with z | ⟨⟨e, z⟩, _⟩ <;> cases z
theorem stt_hide {F H H1 : Hp} {σ : L2.St} {ε : En} (S : Stt g.toGh F H σ ε) (e : LamX.ExtN H H1) (t : TB g.T H1) : Stt g.toGh F H1 σ (hideE ε) := by
  refine ⟨fun a o h => e a o (S.sb a o h) fun ps z => S.ft a ps (by rw [← z]; exact h), t, S.ft, by simp [hideE]; exact S.len, fun i s h => ?_, fun i j a h => (hide_no ⟨i, h⟩).elim⟩
  rcases hideE_get h with z | ⟨⟨d, z⟩, h2⟩
  · subst z; trivial
  · subst z; exact S.sl i _ h2
/-- behind the lambda -/
theorem hide_back {F H H1 F' H' : Hp} {σ : L2.St} {ε : En} (S : Stt g.toGh F H σ ε) (e : LamX.ExtN H H1) (t : TB g.T H1) (x : Stx g.toGh σ (hideE ε) F H1 F' H') : Stt g.toGh F' H' σ ε ∧ Stp false σ ε F H ε F' H' := by
  have kk : ∀ a o, H a = some o → notTbl o → H' a = some o := fun a o h n => x.k a o (e a o h n) n hide_no
  have zz : ∀ a, Nn H1 a → Nn H a := fun a h o q => by
    by_cases n : notTbl o
    · exact h.no (e a o q n) n
    · obtain ⟨ps, z⟩ := Classical.not_forall.mp n
      exact ⟨ps, Classical.not_not.mp z⟩
  have fo : ∀ {a : Addr} {d : D}, F a = none → Cell g.K g.fa F H a d → F' a = none := fun {a d} f c => by
    cases q : F' a with
    | none => rfl
    | some o =>
      rcases x.n a o q with y | y | y
      · rw [f] at y; cases y
      · obtain ⟨u, hu, n⟩ := c.ex
        exact y.no (e a u hu n) n
      · exact (hide_no (Owns.of y)).elim
  refine ⟨⟨x.sb, x.tb, x.ft, S.len, fun i s h => ?_, S.ap⟩, x.f, fun a o h => ?_, fun a o h n _ => kk a o h n, fun a h => zz a (x.z a h), fun _ h => h, fun _ h => h, fun i d h => ⟨d, h⟩⟩
  · have hs := S.sl i s h
    cases s with
    | no => trivial
    | val d => obtain ⟨v, e1, r⟩ := hs; exact ⟨v, e1, r.mono x.f d⟩
    | own d => obtain ⟨a, e1, f, c⟩ := hs; exact ⟨a, e1, fo f c, c.keep x.f fun o h n => kk a o h n⟩
    | lnt d => obtain ⟨a, e1, f, c⟩ := hs; exact ⟨a, e1, fo f c, c.keep x.f fun o h n => kk a o h n⟩
  · rcases x.n a o h with y | y | y
    · exact .inl y
    · exact .inr (.inl (zz a y))
    · exact (hide_no (Owns.of y)).elim
theorem Stp.stx {F H F' H' : Hp} {σ : L2.St} {ε ε' : En} (S : Stt g.toGh F' H' σ ε') (s : Stp q σ ε F H ε' F' H') : Stx g.toGh σ ε F H F' H' := ⟨S.sb, S.tb, S.ft, s.f, s.n, fun a o h n hn => s.k a o h n fun _ => hn, s.z⟩
/-- the lambda's body's place -/
theorem XOk.lamX (O : XOk C g call hand k W sc fl fb X) {scope : Scope} {A : Around} {outer : List Env} {s : Shared} {H : Hp} {E : XK} {f c' : Addr} (hl : LamX.lamSB sc scope = true) (hr : Room k (A.deeper (LamX.lamEnv X scope s.heap.objs.size f c'))) :
    XOk C g call hand k (fun cls d _ H => E cls d H) scope false fbF (LamX.lamCx X A outer s H E scope f c') := by
  refine ⟨O.N, O.nd, rfl, O.K, rfl, hr, takes_of rfl rfl rfl rfl, (fun h => nomatch h), (fun _ h => nomatch h), O.gl, O.blt, O.fns, O.fv, O.cls, O.hnd, fun _ h => ?_⟩
  have L := LamX.lamS_by hl
  have h : hasLoc scope = true := h
  unfold hasLoc at h
  obtain ⟨y, hy, h⟩ := List.any_eq_true.mp h
  have := L.own y hy
  simp only [Bool.or_eq_true, decide_eq_true_eq] at h
  exact (h.elim this.1 this.2).elim
theorem noPar_eq {p : Arguments} (h : noPar p = true) : p = ⟨[], [], none, [], [], none, []⟩ := by
  obtain ⟨a, b, c, d, e, f, i⟩ := p
  simp only [noPar, Bool.and_eq_true, List.isEmpty_iff, Option.isNone_iff_eq_none] at h
  obtain ⟨⟨⟨⟨⟨⟨rfl, rfl⟩, rfl⟩, rfl⟩, rfl⟩, rfl⟩, rfl⟩ := h
  rfl
theorem findH_mem {subs : Nat → Nat → Option Bool} {i : Nat} : ∀ {l : List (Nat × Option D)} {d : D}, findH subs i l = some d → ∃ h ∈ l, h.2 = some d
  | [], d, h => by cases h
  | (j, e) :: r, d, h => by
    unfold findH at h
    split at h
    · exact ⟨_, List.mem_cons_self, h⟩
    · obtain ⟨h, hm, e⟩ := findH_mem h
      exact ⟨h, List.mem_cons_of_mem _ hm, e⟩
    · cases h
theorem lamc_ok {y : Str} {f : Nat} {b : E} {params : Arguments} {body : Expr} {scope : Scope} {lpos pp : Pos} (O : XOk C g call hand k W sc fl fb X) (h1 : glB sc y = true) (h2 : C.hn.lookup y = some f) (h3 : C.lam = true) (h4 : hasLoc sc = true) (hl : LamX.lamSB sc scope = true) (hp : noPar params = true)
    (hb : ∀ {X' : Cx} {W' : WX}, XOk C g call hand k W' scope false fbF X' → PE X' body (rdG false g W' (evE call hand b) q)) : PE X (.Call (.Name y pp) [.Lambda params body scope lpos] [] pos) (rdG p g W (evE call hand (.lamc f b)) false) := by
  obtain ⟨g1, g2⟩ := glB_ok O h1
  obtain ⟨a, ga, pg, bg, sg, dV, kV, doc, pm, cdv, ct, oc, an, od, osl, Ng, subs, Hd, e1, e2, e3, e4, e5, e6, e7, e8, e9, e10, e11, e12, e13, e14⟩ := (O.hnd _ _ h2).ex
  obtain ⟨room, c, P, TBc, hco, hmT, hu⟩ := O.lam h3 (by rw [O.sc]; exact h4)
  have hp := noPar_eq hp
  subst hp
  have hls : LamX.lamSB X.env.scope scope = true := by rw [O.sc]; exact hl
  rw [← O.K] at e2 e3 e4 e5
  have key := LamX.pe_lamcall (p := pp) (lpos := lpos) (pos := pos) (params := ⟨[], [], none, [], [], none, []⟩) (body := body) (scope := scope) (t := fun E => rdG false g (fun cls d _ H => E cls d H) (evE call hand b) q) g1 e1 e2 e3 e4 e5 e6 e7 e8 (e14 X _ rfl rfl O.K rfl rfl) TBc hco hmT hu room (LamX.lamS_by hls) (by rfl) (fun _ _ _ _ _ => by rfl)
    (fun A outer s H E f c' hr => hb (O.lamX hl hr)) g2 e9 e10
  refine PE.imp key fun σ H Q h => ?_
  obtain ⟨ε, F, S, m⟩ := h
  refine ⟨S.tb, fun H1 eN T1 => ?_⟩
  refine ⟨hideE ε, F, stt_hide S eN T1, ?_⟩
  simp only [evE, e11] at m
  cases eb : evE call hand b (hideE ε) with
  | ok r =>
    obtain ⟨w, z, ε2⟩ := r
    simp only [eb, Rs.bind, handD] at m ⊢
    intro v F' H' S' s' r
    obtain ⟨S2, s2⟩ := hide_back S eN T1 (s'.stx S')
    exact m _ F' H' S2 s2 (RG.ofRR (cvD_ok e12))
  | exc x =>
    simp only [eb, Rs.bind, handD] at m ⊢
    intro cls d F' H' t ex
    obtain ⟨S2, s2⟩ := hide_back S eN T1 t
    cases ef : findH subs x.cls Hd.hs with
    | none => simp only [ef, Rs.opt] at m
    | some d =>
      simp only [ef, Rs.opt] at m
      refine ⟨x.cls, d, ex.1, ef, ?_⟩
      obtain ⟨h, hh, e⟩ := findH_mem ef
      exact m _ F' H' S2 s2 (RG.ofRR (cvD_ok (e13 h hh d e)))
  | bad =>
    simp only [eb, Rs.bind, handD] at m
end
end DL

set_option Elab.async false
set_option linter.all false
set_option maxRecDepth 100000
set_option maxHeartbeats 4000000
/-! DL16: expressions: all of them. -/
namespace DL
open PySem PySem.Spec PyProof.Rows L2
section
variable {C : Ck} {g : Gx} {call : Nat → List Arg → Rs (Bool × D × List D)} {hand : Nat → Rs D → Rs D} {k : Nat}
theorem blt_bi (b : Bi) : biS b ∈ bltS := by cases b <;> decide
theorem blt_ty (t : Ty) : tyS t ∈ bltS := by cases t <;> decide
theorem blt_ty2 (t : Ty) : bootBuiltins (tyS t) = some (.type (tyName t)) := by cases t <;> decide +kernel
theorem name_bi (b : Bi) : biS b ≠ "__name__" := by cases b <;> decide
theorem name_ty (t : Ty) : tyS t ≠ "__name__" := by cases t <;> decide
def PBoth (g : Gx) (W : WX) (X : Cx) (a : Expr) (ev : En → Rs (Bool × D × En)) (q : Bool) : Prop := Both g W X a ev q
theorem ckKs_len {gl : List (Str × D)} {sc : Scope} : ∀ {ks : List D} {keys : List (Option Expr)}, ckKs gl sc ks keys = true → ks.length = keys.length
  | [], [], _ => rfl
  | [], _ :: _, h => by cases h
  | _ :: _, [], h => by cases h
  | _ :: _, none :: _, h => by cases h
  | k :: ks, some x :: keys, h => by
    simp only [ckKs, Bool.and_eq_true] at h
    simp [ckKs_len h.2]
theorem blt_so (o : So) : (soName o : Str) ∈ bltS := by cases o <;> decide
theorem boot_so (o : So) : bootBuiltins (soName o) = some (.builtin (soName o)) := by cases o <;> decide +kernel
theorem name_so (o : So) : (soName o : Str) ≠ "__name__" := by cases o <;> decide
theorem callN {W : WX} {sc : Scope} {fl : Bool} {fb : Str → Bool} {X : Cx} (O : XOk C g call hand k W sc fl fb X) {y : Str} {f : Nat} (h : (decide (C.fn.lookup y = some f) || glFn C.gl y f) = true) : ∃ n, Told n (call f) ∧ FnX g X.prog X.w X.mg X.base k y n (call f) := by
  rcases Bool.or_eq_true_iff.mp h with h | h
  · exact O.fns _ _ (of_decide_eq_true h)
  · exact glFn_ok O h
mutual
theorem E.ok : ∀ (e : E) (a : Expr) {sc : Scope}, ckE C sc e a = true → ∀ {fl : Bool} {fb : Str → Bool} {W : WX} {X : Cx}, XOk C g call hand k W sc fl fb X → Both g W X a (evE call hand e) e.quiet
  | .c d, a, sc, h, fl, fb, W, X, O => by
    unfold ckE at h
    have e : evE call hand (.c d) = fun ε => .ok (false, d, ε) := by funext ε; simp only [evE]
    rw [e]
    refine Both.val (ckC_ok O h) ?_
    cases a <;> first | rfl | (unfold ckC at h; cases h)
  | .v i, a, sc, h, fl, fb, W, X, O => by
    unfold ckE at h
    split at h
    · obtain ⟨h1, h2, h3, h4⟩ := ckV_ok O h
      exact Both.val (v_ok h1 h2 h3 h4) rfl
    · cases h
  | .tup es, a, sc, h, fl, fb, W, X, O => by
    unfold ckE at h
    split at h
    · simp only [Bool.and_eq_true, decide_eq_true_eq] at h
      have e : evE call hand (.tup es) = tupEv (evEs call hand es) := by funext ε; simp only [evE] <;> rfl
      rw [e]
      exact Both.val (tup_ok (Es.ok es _ h.2 O) fun ε ds ε' e => by rw [evEs_len h.2 e]; exact Nat.le_trans h.1 thou_line) rfl
    · cases h
  | .lst es, a, sc, h, fl, fb, W, X, O => by
    unfold ckE at h
    split at h
    · simp only [Bool.and_eq_true, decide_eq_true_eq] at h
      have e : evE call hand (.lst es) = lstEv (evEs call hand es) := by funext ε; simp only [evE] <;> rfl
      rw [e]
      exact Both.val (lst_ok (Es.ok es _ h.2 O) fun ε ds ε' e => by rw [evEs_len h.2 e]; exact Nat.le_trans h.1 thou_line) rfl
    · cases h
  | .dic ks vs, a, sc, h, fl, fb, W, X, O => by
    unfold ckE at h
    split at h
    · rename_i keys xs pos
      simp only [Bool.and_eq_true, decide_eq_true_eq] at h
      obtain ⟨⟨⟨⟨h1, h2⟩, h3⟩, h4⟩, h5⟩ := h
      have e : evE call hand (.dic ks vs) = dicEv ks (evEs call hand vs) := by funext ε; simp only [evE] <;> rfl
      rw [e]
      refine Both.val ?_ rfl
      cases keys with
      | nil =>
        cases xs with
        | cons _ _ => cases h2
        | nil =>
          cases ks with
          | cons _ _ => cases h4
          | nil =>
            cases vs with
            | cons _ _ => unfold ckEs at h5; cases h5
            | nil =>
              have e2 : evEs call hand Es.nil = fun ε => .ok ([], ε) := by funext ε; simp only [evEs]
              rw [e2]
              exact dic0_ok
      | cons k0 keys => exact dic_ok (Es.okD vs xs h4 h5 O h2) h3 h2 (fun z => nomatch z) h1 (ckKs_len h4)
    · cases h
  | .kd o ks vs l, a, sc, h, fl, fb, W, X, O => by
    have e : evE call hand (.kd o ks vs l) = fun ε => (pk l ε (evE call hand l ε)).bind fun (_, x, ε1) => (Rs.opt (kdD o ks vs x)).bind fun (w, z) => .ok (w, z, ε1) := by funext ε; simp only [evE]
    rw [e]
    unfold ckE at h
    cases o with
    | sub =>
      simp only at h
      split at h
      · simp only [Bool.and_eq_true] at h
        obtain ⟨⟨⟨h1, h2⟩, h3⟩, h4⟩ := h
        obtain ⟨g1, g2⟩ := glB_ok O h1
        exact Both.val (kd_sub (kdB_ok O h2) g1 g2 ((E.ok l _ h4 O).pk (ckE_v h4) O) (plainIx_ok h3) O.K) rfl
      · cases h
    | isIn =>
      simp only at h
      split at h
      · simp only [Bool.and_eq_true] at h
        obtain ⟨⟨h1, h2⟩, h4⟩ := h
        obtain ⟨g1, g2⟩ := glB_ok O h1
        exact (kd_in (kdB_ok O h2) g1 g2 ((E.ok l _ h4 O).pk (ckE_v h4) O) O.K)
      · cases h
    | notIn =>
      simp only at h
      split at h
      · simp only [Bool.and_eq_true] at h
        obtain ⟨⟨h1, h2⟩, h4⟩ := h
        obtain ⟨g1, g2⟩ := glB_ok O h1
        exact (kd_ni (kdB_ok O h2) g1 g2 ((E.ok l _ h4 O).pk (ckE_v h4) O) O.K)
      · cases h
    | index =>
      simp only at h
      split at h
      · simp only [Bool.and_eq_true, beq_iff_eq] at h
        obtain ⟨⟨⟨⟨⟨h0, h1⟩, h2⟩, h3⟩, h4⟩, h5⟩ := h
        subst h0
        obtain ⟨g1, g2⟩ := glB_ok O h2
        exact Both.val (kd_ix (kdB_ok O h3) g1 g2 (notStar_ok h4) ((E.ok l _ h5 O).pk (ckE_v h5) O) (beq_iff_eq.mpr h1) O.K) rfl
      · cases h
  | .kget ks vs as, a, sc, h, fl, fb, W, X, O => by
    unfold ckE at h
    split at h
    · simp only [Bool.and_eq_true, beq_iff_eq, decide_eq_true_eq] at h
      obtain ⟨⟨⟨⟨⟨h1, h2⟩, h3⟩, h4⟩, h5⟩, h6⟩ := h
      subst h1
      obtain ⟨g1, g2⟩ := glB_ok O h3
      have e : evE call hand (.kget ks vs as) = fun ε => (evEs call hand as ε).bind fun (ds, ε1) => (Rs.opt (kgetD ks vs ds)).bind fun z => .ok (false, z, ε1) := by funext ε; simp only [evE]
      rw [e]
      exact Both.val (kget_ok (kdB_ok O h4) g1 g2 (Es.ok as _ h6 O) (Es.okP as _ h6 O).2 (beq_iff_eq.mpr h2) h5 O.K) rfl
    · cases h
  | .so o l, a, sc, h, fl, fb, W, X, O => by
    unfold ckE at h
    split at h
    · simp only [Bool.and_eq_true, beq_iff_eq] at h
      obtain ⟨⟨⟨⟨⟨h1, h2⟩, h3⟩, h4⟩, h5⟩, h6⟩ := h
      obtain ⟨g1, g2⟩ := glB_ok O h1
      obtain ⟨g3, g4⟩ := glB_ok O h3
      subst h2 h4
      have e : evE call hand (.so o l) = fun ε => (pk l ε (evE call hand l ε)).bind fun (_, x, ε1) => (Rs.opt (soD o x)).bind fun (w, z) => .ok (w, z, ε1) := by funext ε; simp only [evE]
      rw [e]
      exact Both.val (so_ok O.calm g1 (O.blt _ (blt_so o)) (boot_so o) (name_so o) g2 g3 (O.blt _ (by decide)) (by decide +kernel) (by decide) g4 (notStar_ok h5) ((E.ok l _ h6 O).pk (ckE_v h6) O) O.K) rfl
    · cases h
  | .bin o l r, a, sc, h, fl, fb, W, X, O => by
    unfold ckE at h
    split at h
    · simp only [Bool.and_eq_true, decide_eq_true_eq] at h
      obtain ⟨⟨h1, h2⟩, h3⟩ := h
      have e : evE call hand (.bin o l r) = binEv (opD o) (fun ε => lk l r ε (evE call hand l ε)) (fun ε => pk r ε (evE call hand r ε)) := by funext ε; simp only [evE] <;> rfl
      rw [e]
      exact Both.val (bin_ok h1 id ((E.ok l _ h2 O).lk (ckE_v h2) O) ((E.ok r _ h3 O).pk (ckE_v h3) O) O.K) rfl
    · cases h
  | .neg l, a, sc, h, fl, fb, W, X, O => by
    unfold ckE at h
    split at h
    · have e : evE call hand (.neg l) = fun ε => (evE call hand l ε).bind fun (_, x, ε1) => match x with | .int i => .ok (false, .int (-i), ε1) | _ => .bad := by funext ε; simp only [evE] <;> rfl
      rw [e]
      exact Both.val (neg_ok (E.ok l _ h O).1) rfl
    · cases h
  | .cmp o l r, a, sc, h, fl, fb, W, X, O => by
    unfold ckE at h
    split at h
    · simp only [Bool.and_eq_true, decide_eq_true_eq, Bool.not_eq_true'] at h
      obtain ⟨⟨⟨h1, hm⟩, h2⟩, h3⟩ := h
      have e : evE call hand (.cmp o l r) = binEv (cmF o) (fun ε => lk l r ε (evE call hand l ε)) (fun ε => pk r ε (evE call hand r ε)) := by funext ε; simp only [evE] <;> rfl
      rw [e]
      exact ⟨cmp_ok h1 O.unit hm id ((E.ok l _ h2 O).lk (ckE_v h2) O) ((E.ok r _ h3 O).pk (ckE_v h3) O) O.K,
        cmpT_ok h1 O.unit hm id ((E.ok l _ h2 O).lk (ckE_v h2) O) ((E.ok r _ h3 O).pk (ckE_v h3) O) O.K⟩
    · cases h
  | .chain o p l m r, a, sc, h, fl, fb, W, X, O => by
    unfold ckE at h
    split at h
    · simp only [Bool.and_eq_true, decide_eq_true_eq, Bool.not_eq_true'] at h
      obtain ⟨⟨⟨⟨⟨h1, h1'⟩, hm⟩, h2⟩, h3⟩, h4⟩ := h
      have e : evE call hand (.chain o p l m r) = chainEv o p (evE call hand l) (evE call hand m) (evE call hand r) := by funext ε; simp only [evE] <;> rfl
      rw [e]
      exact ⟨chain_ok h1 h1' O.unit hm (E.ok l _ h2 O).1 (E.ok m _ h3 O).1 (E.ok r _ h4 O).1 O.K,
        chainT_ok h1 h1' O.unit hm (E.ok l _ h2 O).1 (E.ok m _ h3 O).1 (E.ok r _ h4 O).1 O.K⟩
    · cases h
  | .and l r, a, sc, h, fl, fb, W, X, O => by
    unfold ckE at h
    split at h
    · simp only [Bool.and_eq_true] at h
      have e : evE call hand (.and l r) = andEv (evE call hand l) (evE call hand r) := by funext ε; simp only [evE] <;> rfl
      rw [e]
      have hl := E.ok l _ h.1 O
      have hr := E.ok r _ h.2 O
      refine ⟨and_ok hl.1 (unB_pe hr.1), (andT_ok (qb := r.quiet) hl.2 ?_).pt⟩
      exact unB_and hr.2 fun _ _ _ h => pw_of h
    · cases h
  | .or l r, a, sc, h, fl, fb, W, X, O => by
    unfold ckE at h
    split at h
    · simp only [Bool.and_eq_true] at h
      have e : evE call hand (.or l r) = orEv (evE call hand l) (evE call hand r) := by funext ε; simp only [evE] <;> rfl
      rw [e]
      have hl := E.ok l _ h.1 O
      have hr := E.ok r _ h.2 O
      refine ⟨or_ok hl.1 (unB_pe hr.1), (orT_ok (qb := r.quiet) hl.2 ?_).pt⟩
      rename_i x y rest p
      cases rest with
      | nil => exact pw_or1 hr.2
      | cons z r => exact pw_of hr.2
    · cases h
  | .not l, a, sc, h, fl, fb, W, X, O => by
    unfold ckE at h
    split at h
    · have e : evE call hand (.not l) = fun ε => (evE call hand l ε).bind fun (_, x, ε1) => match x with | .bl z => .ok (false, .bl (!z), ε1) | _ => .bad := by funext ε; simp only [evE] <;> rfl
      rw [e]
      have hl := E.ok l _ h O
      exact ⟨PE.weak (not_ok hl.1), PT.weak (PT.not' hl.2)⟩
    · cases h
  | .ite c l r, a, sc, h, fl, fb, W, X, O => by
    unfold ckE at h
    split at h
    · simp only [Bool.and_eq_true] at h
      have e : evE call hand (.ite c l r) = iteEv (evE call hand c) (evE call hand l) (evE call hand r) := by funext ε; simp only [evE] <;> rfl
      rw [e]
      have hc := E.ok c _ h.1.1 O
      have hl := E.ok l _ h.1.2 O
      have hr := E.ok r _ h.2 O
      exact ⟨ite_ok hc.2 hl.1 hr.1, iteT_ok hc.2 hl.2 hr.2⟩
    · cases h
  | .sub l r, a, sc, h, fl, fb, W, X, O => by
    unfold ckE at h
    split at h
    · simp only [Bool.and_eq_true] at h
      obtain ⟨⟨h1, h2⟩, h3⟩ := h
      have e : evE call hand (.sub l r) = binEv subF (fun ε => lk l r ε (evE call hand l ε)) (fun ε => pk r ε (evE call hand r ε)) := by funext ε; simp only [evE] <;> rfl
      rw [e]
      exact Both.val (subE_ok id ((E.ok l _ h2 O).lk (ckE_v h2) O) ((E.ok r _ h3 O).pk (ckE_v h3) O) O.K (plainIx_ok h1)) rfl
    · cases h
  | .slice l lo hi, a, sc, h, fl, fb, W, X, O => by
    unfold ckE at h
    split at h
    · simp only [Bool.and_eq_true] at h
      obtain ⟨⟨h1, h2⟩, h3⟩ := h
      have hl := E.ok l _ h1 O
      have hp := Es.okO lo _ h2 O
      have hq := Es.okO hi _ h3 O
      have e : evE call hand (.slice l lo hi) = sliceEv (fun ε => match lo.quiet && hi.quiet with | true => pk l ε (evE call hand l ε) | false => evE call hand l ε) (evO call hand lo) (evO call hand hi) := by funext ε; simp only [evE] <;> rfl
      rw [e]
      refine Both.val ?_ rfl
      refine slice_okE (pa := lo.quiet && hi.quiet) id ?_ hp hq O.K
      cases lo.quiet && hi.quiet with
      | true => exact hl.pk (ckE_v h1) O
      | false => exact hl.1
    · cases h
  | .rev l, a, sc, h, fl, fb, W, X, O => by
    unfold ckE at h
    split at h
    · have e : evE call hand (.rev l) = fun ε => (pk l ε (evE call hand l ε)).bind fun (_, x, ε1) => (Rs.opt (revD x)).bind fun (w, z) => .ok (w, z, ε1) := by funext ε; simp only [evE]
      rw [e]
      exact Both.val (PE.weak (rev_ok ((E.ok l _ h O).pk (ckE_v h) O) O.K)) rfl
    · cases h
  | .call f as, a, sc, h, fl, fb, W, X, O => by
    unfold ckE at h
    split at h
    · rename_i y pp xs pos
      simp only [Bool.and_eq_true] at h
      obtain ⟨⟨h1, h2⟩, h3⟩ := h
      obtain ⟨g1, g2⟩ := glB_ok O h1
      obtain ⟨n, hn, FX⟩ := callN O h2
      have e : evE call hand (.call f as) = callEv (call f) as (evAs call hand as) := by funext ε; simp only [evE] <;> rfl
      rw [e]
      obtain ⟨ha, hst⟩ := As.ok as xs h3 O
      refine Both.val ?_ rfl
      cases xs with
      | nil =>
        cases as with
        | nil =>
          have e2 : evAs call hand As.nil = fun ε => .ok ([], ε) := by funext ε; simp only [evAs]
          rw [e2]
          exact call0_ok (evs := fun ε => .ok ([], ε)) hn FX O.room g1 g2 O.K O.tk
        | val _ _ => unfold ckAs at h3; cases h3
        | lend _ _ => unfold ckAs at h3; cases h3
      | cons x xs => exact call_ok hn FX O.room g1 g2 hst ha O.K O.tk
    · cases h
  | .callv i as, a, sc, h, fl, fb, W, X, O => by
    unfold ckE at h
    split at h
    · rename_i y pp x xs pos
      simp only [Bool.and_eq_true] at h
      obtain ⟨h1, h3⟩ := h
      obtain ⟨g1, g2, g3, g4⟩ := ckV_ok O h1
      obtain ⟨ha, hst⟩ := As.ok as _ h3 O
      have e : evE call hand (.callv i as) = fun ε => match ε[i]? with | some (.val (.fn f)) => callEv (call f) as (evAs call hand as) ε | _ => .bad := by funext ε; simp only [evE] <;> rfl
      rw [e]
      exact Both.val (callv_ok O.fv O.room g1 g2 g3 g4 hst ha O.K O.tk) rfl
    · cases h
  | .bi b es, a, sc, h, fl, fb, W, X, O => by
    unfold ckE at h
    split at h
    · simp only [Bool.and_eq_true, decide_eq_true_eq, beq_iff_eq] at h
      obtain ⟨⟨⟨h1, h2⟩, h3⟩, h4⟩ := h
      obtain ⟨g1, g2⟩ := glB_ok O h1
      subst h2
      obtain ⟨ha, hst⟩ := Es.okP es _ h4 O
      have e : evE call hand (.bi b es) = fun ε => (evPs call hand es ε).bind fun (xs, ε1) => (Rs.opt (biD b xs)).bind fun (w, z) => .ok (w, z, ε1) := by funext ε; simp only [evE]
      rw [e]
      exact Both.val (bi_okE O.calm g1 (O.blt _ (blt_bi b)) h3 (name_bi b) g2 hst ha O.K) rfl
    · cases h
  | .meth m l as, a, sc, h, fl, fb, W, X, O => by
    unfold ckE at h
    split at h
    · simp only [Bool.and_eq_true, beq_iff_eq, decide_eq_true_eq] at h
      obtain ⟨⟨⟨⟨⟨h1, h2⟩, h3⟩, h4⟩, h5⟩, h6⟩ := h
      subst h1
      have e : evE call hand (.meth m l as) = meEv m (fun ε => match as.quiet with | true => pk l ε (evE call hand l ε) | false => evE call hand l ε) (evEs call hand as) := by funext ε; simp only [evE]; rfl
      rw [e]
      have hl := E.ok l _ h5 O
      refine Both.val (PE.weak (meth_ok (pa := as.quiet) (qa := l.quiet) O.unit id ?_ (Es.ok as _ h6 O) (Es.okP as _ h6 O).2 (nc0_ok h4) (beq_iff_eq.mpr h2) h3 O.K)) rfl
      cases as.quiet with
      | true => exact hl.pk (ckE_v h5) O
      | false => exact hl.1
    · cases h
  | .isi l t, a, sc, h, fl, fb, W, X, O => by
    unfold ckE at h
    split at h
    · simp only [Bool.and_eq_true, beq_iff_eq] at h
      obtain ⟨⟨⟨⟨⟨h1, h2⟩, h3⟩, h4⟩, h5⟩, h6⟩ := h
      obtain ⟨g1, g2⟩ := glB_ok O h1
      obtain ⟨g3, g4⟩ := glB_ok O h3
      subst h2 h4
      have e : evE call hand (.isi l t) = fun ε => (pk l ε (evE call hand l ε)).bind fun (_, x, ε1) => (Rs.opt (isiF t x)).bind fun (w, z) => .ok (w, z, ε1) := by funext ε; simp only [evE]
      rw [e]
      exact Both.val (PE.weak (isi_okE g1 (O.blt _ (by decide)) (by decide +kernel) (by decide) g2 g3 (O.blt _ (blt_ty t)) (blt_ty2 t) (name_ty t) g4 (notStar_ok h5) ((E.ok l _ h6 O).pk (ckE_v h6) O) O.K)) rfl
    · cases h
  | .comp e t it cs vs, a, sc, h, fl, fb, W, X, O => by
    unfold ckE at h
    split at h
    · simp only [Bool.and_eq_true, decide_eq_true_eq] at h
      obtain ⟨⟨⟨⟨⟨⟨⟨⟨h00, h0⟩, h1⟩, h2⟩, h3⟩, h4⟩, h5⟩, h6⟩, h7⟩ := h
      subst h0
      have eo : (ownOf C.N vs).map (·.2) = vs := by unfold ownOf; rw [List.map_map]; exact List.map_id' vs
      have ee : evE call hand (.comp e t it cs vs) = compEv (evI call hand it) t (evCs call hand cs) (evE call hand e) ((ownOf C.N vs).map (·.2)) := by rw [eo]; funext ε; simp only [evE] <;> rfl
      rw [ee]
      have bo := blkOk_by h2
      rename_i elt tg iter ifs z scope pos
      have bo : BlkOk X.N X.env.scope scope (ownOf C.N vs) := by rw [O.N, O.sc]; exact bo
      refine Both.val ?_ rfl
      obtain ⟨qi, hi⟩ := I.ok (tg := _) it _ h5 id O
      refine comp_ok O.calm O.nd hi bo (fun s H Cc cl fp => ckT_ok (O.mk' h00) h3) (fun s H Cc cl fp => Es.okC cs _ h6 (O.mk' h00)) (fun s H Cc cl fp => (E.ok e _ h7 (O.mk' h00)).1) (notSet_ok h1) ?_
      rw [eo]; exact h4
    · cases h
  | .lamc f b, a, sc, h, fl, fb, W, X, O => by
    unfold ckE at h
    split at h
    · simp only [Bool.and_eq_true, decide_eq_true_eq] at h
      obtain ⟨⟨⟨⟨⟨⟨h1, h2⟩, h3⟩, h4⟩, h5⟩, h6⟩, h7⟩ := h
      exact Both.val (lamc_ok O h1 h2 h3 h4 h5 h6 fun O' => (E.ok b _ h7 O').1) rfl
    · cases h
theorem Es.ok : ∀ (es : Es) (xs : List Expr) {sc : Scope}, ckEs C sc es xs = true → ∀ {fl : Bool} {fb : Str → Bool} {W : WX} {X : Cx}, XOk C g call hand k W sc fl fb X → PA X xs (rdA g W (evEs call hand es) es.quiet)
  | .nil, xs, sc, h, fl, fb, W, X, O => by
    unfold ckEs at h
    have e : evEs call hand Es.nil = fun ε => .ok ([], ε) := by funext ε; simp only [evEs]
    rw [e]
    cases xs with
    | nil => exact args_nil
    | cons _ _ => cases h
  | .cons e es, xs, sc, h, fl, fb, W, X, O => by
    unfold ckEs at h
    split at h
    · simp only [Bool.and_eq_true] at h
      obtain ⟨⟨h1, h2⟩, h3⟩ := h
      have ee : evEs call hand (.cons e es) = consEv (evE call hand e) (evEs call hand es) := by funext ε; simp only [evEs] <;> rfl
      rw [ee]
      exact args_cons (notStar_ok h1) (E.ok e _ h2 O).1 (Es.ok es _ h3 O)
    · cases h
theorem Es.okD : ∀ (es : Es) (xs : List Expr) {sc : Scope} {ks : List D} {keys : List (Option Expr)} {pos : Pos}, ckKs C.gl sc ks keys = true → ckEs C sc es xs = true → ∀ {fl : Bool} {fb : Str → Bool} {W : WX} {X : Cx}, XOk C g call hand k W sc fl fb X → keys.length = xs.length → Prs X g W pos ks keys xs (evEs call hand es) es.quiet
  | .nil, xs, sc, ks, keys, pos, hk, h, fl, fb, W, X, O, hl => by
    unfold ckEs at h
    have e : evEs call hand Es.nil = fun ε => .ok ([], ε) := by funext ε; simp only [evEs]
    rw [e]
    cases xs with
    | cons _ _ => cases h
    | nil =>
      cases keys with
      | cons _ _ => cases hl
      | nil =>
        cases ks with
        | cons _ _ => cases hk
        | nil => exact prs_nil
  | .cons e es, xs, sc, ks, keys, pos, hk, h, fl, fb, W, X, O, hl => by
    unfold ckEs at h
    split at h
    · rename_i x xs
      simp only [Bool.and_eq_true] at h
      obtain ⟨⟨h1, h2⟩, h3⟩ := h
      have ee : evEs call hand (.cons e es) = consEv (evE call hand e) (evEs call hand es) := by funext ε; simp only [evEs] <;> rfl
      rw [ee]
      cases keys with
      | nil => cases hl
      | cons kx keys =>
        cases ks with
        | nil => cases hk
        | cons k0 ks =>
          cases kx with
          | none => cases hk
          | some kx =>
            simp only [ckKs, Bool.and_eq_true] at hk
            exact prs_cons hk.1.1 (ckC_ok O hk.1.2) (E.ok e _ h2 O).1 (Es.okD es xs hk.2 h3 O (by simpa using hl))
    · cases h
theorem Es.okP : ∀ (es : Es) (xs : List Expr) {sc : Scope}, ckEs C sc es xs = true → ∀ {fl : Bool} {fb : Str → Bool} {W : WX} {X : Cx}, XOk C g call hand k W sc fl fb X → PA X xs (rdPs g W (evPs call hand es) es.quiet) ∧ ∀ e ∈ xs, ∀ x p, e ≠ .Starred x p
  | .nil, xs, sc, h, fl, fb, W, X, O => by
    unfold ckEs at h
    have e : evPs call hand Es.nil = fun ε => .ok ([], ε) := by funext ε; simp only [evPs]
    rw [e]
    cases xs with
    | nil => exact ⟨looks_nil, fun e he => by cases he⟩
    | cons _ _ => cases h
  | .cons e es, xs, sc, h, fl, fb, W, X, O => by
    unfold ckEs at h
    split at h
    · simp only [Bool.and_eq_true] at h
      obtain ⟨⟨h1, h2⟩, h3⟩ := h
      have hl := E.ok e _ h2 O
      obtain ⟨hs, hst⟩ := Es.okP es _ h3 O
      have ee : evPs call hand (.cons e es) = consEv (fun ε => match es.quiet with | true => pk e ε (evE call hand e ε) | false => evE call hand e ε) (evPs call hand es) := by funext ε; simp only [evPs] <;> rfl
      rw [ee]
      refine ⟨looks_cons (pa := es.quiet) (notStar_ok h1) id ?_ hs, fun x hx => (List.mem_cons.mp hx).elim (fun z => by subst z; exact notStar_ok h1) (hst x)⟩
      cases es.quiet with
      | true => exact hl.pk (ckE_v h2) O
      | false => exact hl.1
    · cases h
theorem Es.okO : ∀ (es : Es) (o : Option Expr) {sc : Scope}, ckO C sc es o = true → ∀ {fl : Bool} {fb : Str → Bool} {W : WX} {X : Cx}, XOk C g call hand k W sc fl fb X → PO X o (rdO g W (evO call hand es) es.quiet)
  | .nil, o, sc, h, fl, fb, W, X, O => by
    unfold ckO at h
    have e : evO call hand Es.nil = fun ε => .ok (none, ε) := by funext ε; simp only [evO]
    rw [e]
    cases o with
    | none => exact part_none
    | some _ => cases h
  | .cons e .nil, o, sc, h, fl, fb, W, X, O => by
    unfold ckO at h
    split at h
    · have ee : evO call hand (.cons e .nil) = partEv (evE call hand e) := by funext ε; simp only [evO] <;> rfl
      rw [ee]
      have : (Es.cons e .nil).quiet = e.quiet := by simp [Es.quiet]
      rw [this]
      exact part_some (E.ok e _ h O).1
    · cases h
  | .cons _ (.cons _ _), o, sc, h, fl, fb, W, X, O => by unfold ckO at h; cases h
theorem Es.okC : ∀ (es : Es) (xs : List Expr) {sc : Scope}, ckCs C sc es xs = true → ∀ {fl : Bool} {fb : Str → Bool} {W : WX} {X : Cx}, XOk C g call hand k W sc fl fb X → PTs X xs (rdT g W (evCs call hand es) false)
  | .nil, xs, sc, h, fl, fb, W, X, O => by
    unfold ckCs at h
    have e : evCs call hand Es.nil = fun ε => .ok (true, ε) := by funext ε; simp only [evCs]
    rw [e]
    cases xs with
    | nil => exact ⟨fun pins s σ H Q I hh => pts_nil.run pins s σ H Q I (by
        obtain ⟨ε, F, S, m⟩ := hh
        exact m F H S Stp.refl)⟩
    | cons _ _ => cases h
  | .cons e .nil, xs, sc, h, fl, fb, W, X, O => by
    unfold ckCs at h
    split at h
    · have ee : evCs call hand (.cons e .nil) = fun ε => evT (evE call hand e ε) := by funext ε; simp only [evCs] <;> rfl
      rw [ee]
      exact pts_one (PT.weak (E.ok e _ h O).2)
    · cases h
  | .cons _ (.cons _ _), xs, sc, h, fl, fb, W, X, O => by unfold ckCs at h; cases h
theorem As.ok : ∀ (as : As) (xs : List Expr) {sc : Scope}, ckAs C sc as xs = true → ∀ {fl : Bool} {fb : Str → Bool} {W : WX} {X : Cx}, XOk C g call hand k W sc fl fb X → PA X xs (rdAs g W as (evAs call hand as) false) ∧ ∀ e ∈ xs, ∀ x p, e ≠ .Starred x p
  | .nil, xs, sc, h, fl, fb, W, X, O => by
    unfold ckAs at h
    have e : evAs call hand As.nil = fun ε => .ok ([], ε) := by funext ε; simp only [evAs]
    rw [e]
    cases xs with
    | nil => exact ⟨asA_nil, fun e he => by cases he⟩
    | cons _ _ => cases h
  | .val e as, xs, sc, h, fl, fb, W, X, O => by
    unfold ckAs at h
    split at h
    · simp only [Bool.and_eq_true] at h
      obtain ⟨⟨h1, h2⟩, h3⟩ := h
      obtain ⟨hs, hst⟩ := As.ok as _ h3 O
      have ee : evAs call hand (.val e as) = consEv (evE call hand e) (evAs call hand as) := by funext ε; simp only [evAs] <;> rfl
      rw [ee]
      have := asA_val (as := as) (e := e) (notStar_ok h1) (PE.weak (E.ok e _ h2 O).1) hs
      exact ⟨this, fun x hx => (List.mem_cons.mp hx).elim (fun z => by subst z; exact notStar_ok h1) (hst x)⟩
    · cases h
  | .lend i as, xs, sc, h, fl, fb, W, X, O => by
    unfold ckAs at h
    split at h
    · simp only [Bool.and_eq_true] at h
      obtain ⟨h1, h3⟩ := h
      obtain ⟨hs, hst⟩ := As.ok as _ h3 O
      obtain ⟨g1, g2, g3, g4⟩ := ckV_ok O h1
      have ee : evAs call hand (.lend i as) = fun ε => match ε[i]? with | some (.own _) => evAs call hand as ε | some (.lnt _) => evAs call hand as ε | _ => .bad := by funext ε; simp only [evAs] <;> rfl
      rw [ee]
      exact ⟨asA_lend g1 g2 g3 g4 hs, fun x hx => (List.mem_cons.mp hx).elim (fun z => by subst z; exact fun _ _ z => nomatch z) (hst x)⟩
    · cases h
theorem I.ok : ∀ (it : I) (a : Expr) {tt : Bool} {sc : Scope} {tg : Expr}, ckI C tt sc it a = true → (tt = true → isTu tg = true) → ∀ {fl : Bool} {fb : Str → Bool} {W : WX} {X : Cx}, XOk C g call hand k W sc fl fb X → ∃ q, PI X tg a (rdI g W (evI call hand it) q)
  | .it e, a, tt, sc, tg, h, ht, fl, fb, W, X, O => by
    unfold ckI at h
    have ee : evI call hand (.it e) = itEv (evE call hand e) := by funext ε; simp only [evI] <;> rfl
    rw [ee]
    exact ⟨_, it_ok (E.ok e _ h O).1 O.K⟩
  | .range1 e, a, tt, sc, tg, h, ht, fl, fb, W, X, O => by
    unfold ckI at h
    split at h
    · simp only [Bool.and_eq_true, beq_iff_eq] at h
      obtain ⟨⟨⟨h1, h2⟩, h3⟩, h4⟩ := h
      subst h2
      have ee : evI call hand (.range1 e) = rng1Ev (evE call hand e) := by funext ε; simp only [evI] <;> rfl
      rw [ee]
      exact ⟨_, rng1_ok (glB_ok O h1).1 (O.blt _ (by decide)) (notStar_ok h3) (E.ok e _ h4 O).1⟩
    · cases h
  | .range2 e f, a, tt, sc, tg, h, ht, fl, fb, W, X, O => by
    unfold ckI at h
    split at h
    · simp only [Bool.and_eq_true, beq_iff_eq] at h
      obtain ⟨⟨⟨⟨⟨h1, h2⟩, h3⟩, h3'⟩, h4⟩, h5⟩ := h
      subst h2
      have ee : evI call hand (.range2 e f) = rng2Ev (evE call hand e) (evE call hand f) := by funext ε; simp only [evI] <;> rfl
      rw [ee]
      exact ⟨_, rng2_ok (glB_ok O h1).1 (O.blt _ (by decide)) (notStar_ok h3) (notStar_ok h3') (E.ok e _ h4 O).1 (E.ok f _ h5 O).1⟩
    · cases h
  | .enum e, a, tt, sc, tg, h, ht, fl, fb, W, X, O => by
    unfold ckI at h
    split at h
    · simp only [Bool.and_eq_true, beq_iff_eq] at h
      obtain ⟨⟨⟨⟨h0, h1⟩, h2⟩, h3⟩, h4⟩ := h
      subst h2
      have ee : evI call hand (.enum e) = enumEv (evE call hand e) := by funext ε; simp only [evI] <;> rfl
      rw [ee]
      have ht := ht h0
      cases tg <;> first | (cases ht; done) | skip
      exact ⟨_, enum_ok (glB_ok O h1).1 (O.blt _ (by decide)) (notStar_ok h3) (E.ok e _ h4 O).1 O.K⟩
    · cases h
  | .zip as, a, tt, sc, tg, h, ht, fl, fb, W, X, O => by
    unfold ckI at h
    split at h
    · rename_i y pp x z pos
      simp only [Bool.and_eq_true, beq_iff_eq] at h
      obtain ⟨⟨⟨h0, h1⟩, h2⟩, h4⟩ := h
      subst h2
      have ee : evI call hand (.zip as) = zipEv (evEs call hand as) := by funext ε; simp only [evI] <;> rfl
      rw [ee]
      have ht := ht h0
      cases tg <;> first | (cases ht; done) | skip
      have hs := (Es.okP as _ h4 O).2
      exact ⟨_, zip_ok (glB_ok O h1).1 (O.blt _ (by decide)) (hs x (by simp)) (hs z (by simp)) (Es.ok as _ h4 O) O.K⟩
    · cases h
  | .rev _, a, tt, sc, tg, h, ht, fl, fb, W, X, O => by unfold ckI at h; cases h
end
end
end DL

set_option Elab.async false
set_option linter.all false
set_option maxRecDepth 100000
set_option maxHeartbeats 4000000
/-! DL17: statements: the text is read as the small language's. -/
namespace DL
open PySem PySem.Spec PyProof.Rows L2

def notComp : Expr → Bool
  | .ListComp _ _ _ _ => false | .SetComp _ _ _ _ => false | .DictComp _ _ _ _ _ => false
  | _ => true
def notTup : Expr → Bool
  | .Tuple _ _ _ => false
  | _ => true
/-- is a comprehension's list put into the name at once -/
def swB (sc : Scope) (y : Str) (py : Pos) : Expr → Bool
  | .ListComp _ _ scope pos => decide (sc.names.lookup y = some .local) && py.line == pos.line && !(scope.names.any fun (n, k) => n == y && (k == .local || k == .cell))
  | _ => false
def okLC : Expr → Bool
  | .SetComp _ _ _ _ => false | .DictComp _ _ _ _ _ => false
  | _ => true
def isStarE : Expr → Bool
  | .Starred .. => true
  | _ => false
def nmOf (kd : Str → Option NameKind) (line : Nat) : Expr → Option Str
  | .Name id pos => if kd id == some .local && pos.line == line then some id else none
  | _ => none
def lineOf (ts : List Expr) : Nat := (ts.head?.map (·.pos.line)).getD 0
/-- the names that a pair or triple of values is stored in at once -/
def swSt (sc : Scope) (ts vs : List Expr) : Option (Option (List Str)) :=
  if (!(ts.length == 2 || ts.length == 3) || vs.length != ts.length) then some none else
  if vs.any isStarE then some none else
  if ((ts.filterMap (nmOf (fun n => sc.names.lookup n) (lineOf ts))).length != ts.length || (ts.filterMap (nmOf (fun n => sc.names.lookup n) (lineOf ts))).eraseDups.length != (ts.filterMap (nmOf (fun n => sc.names.lookup n) (lineOf ts))).length) then some none else
  if vs.all (foldedForSure 8) then some none else
  if vs.all (constantsAlone 8) then none else some (some (ts.filterMap (nmOf (fun n => sc.names.lookup n) (lineOf ts))))
theorem swapped_eq {env : PySem.Env} {ts vs : List Expr} {a b : Nat} {p1 p2 : Pos} : swappedStores [.Tuple ts a p1] (.Tuple vs b p2) env =
    (if (!(ts.length == 2 || ts.length == 3) || vs.length != ts.length || env.blockKind != .function) then pure none else
     if vs.any isStarE then pure none else
     if ((ts.filterMap (nmOf env.kindOf (lineOf ts))).length != ts.length || (ts.filterMap (nmOf env.kindOf (lineOf ts))).eraseDups.length != (ts.filterMap (nmOf env.kindOf (lineOf ts))).length) then pure none else
     if vs.all (foldedForSure 8) then pure none else
     if vs.all (constantsAlone 8) then (do unsupported "assign.tuple-of-constant-expressions:order-of-the-stores"; pure (some (ts.filterMap (nmOf env.kindOf (lineOf ts))))) else pure (some (ts.filterMap (nmOf env.kindOf (lineOf ts))))) := by
  have e1 : isStarE = (fun | .Starred .. => true | _ => false) := by funext x; cases x <;> rfl
  have e2 : nmOf env.kindOf (lineOf ts) = (fun | .Name id pos => if env.kindOf id == some .local && pos.line == (ts.head?.map (·.pos.line)).getD 0 then some id else none | _ => none) := by funext x; cases x <;> rfl
  rw [e1, e2]
  rfl
theorem swSt_ok {sc : Scope} {env : PySem.Env} (he : env.scope = sc) (hk : sc.kind = .function) {ts vs : List Expr} {a b : Nat} {p1 p2 : Pos} {r : Option (List Str)} (h : swSt sc ts vs = some r) : swappedStores [.Tuple ts a p1] (.Tuple vs b p2) env = pure r := by
  subst he
  rw [swapped_eq]
  unfold swSt at h
  have hb : env.blockKind = .function := by unfold Env.blockKind; rw [hk]; rfl
  have hkd : (fun n => List.lookup n env.scope.names) = env.kindOf := rfl
  rw [hkd] at h
  simp only [hb, bne_self_eq_false, Bool.or_false]
  split at h
  · rename_i h1; cases h; rw [if_pos h1]
  · rename_i h1
    rw [if_neg h1]
    split at h
    · rename_i h2; cases h; rw [if_pos h2]
    · rename_i h2
      rw [if_neg h2]
      split at h
      · rename_i h3; cases h; rw [if_pos h3]
      · rename_i h3
        rw [if_neg h3]
        split at h
        · rename_i h4; cases h; rw [if_pos h4]
        · rename_i h4
          rw [if_neg h4]
          split at h
          · cases h
          · rename_i h5; cases h; rw [if_neg h5]
theorem sw_ne {a : Expr} {t : Option Expr} {l : Nat} {env : PySem.Env} (h : notComp a = true) : swapsWith a t l env = pure false := by
  cases a <;> first | rfl | cases h
theorem sw_tup {a : Expr} {es : List Expr} {k : Nat} {p : Pos} {l : Nat} {env : PySem.Env} : swapsWithSole [.Tuple es k p] a l env = pure false := by
  cases a <;> rfl
theorem sw_sub {a o i : Expr} {p : Pos} {l : Nat} {env : PySem.Env} : swapsWithSole [.Subscript o i p] a l env = pure false := by
  cases a <;> rfl
theorem st_sub {a o i : Expr} {p : Pos} {env : PySem.Env} : swappedStores [.Subscript o i p] a env = pure none := by
  cases a <;> rfl
theorem asg_sub {o i : Expr} {p : Pos} {env : PySem.Env} (h : plainIx i = true) : ∀ v, assign (.Subscript o i p) env v = (do
      let ov ← holding [v] (eval o env)
      let iv ← holding [v, ov] (eval i env)
      standAt p
      holding [v, ov, iv] (setItem ov iv v)
      release [v, ov, iv] []) := by
  intro v
  cases i <;> first | rfl | cases h
theorem st_tup {a : Expr} {es : List Expr} {k : Nat} {p : Pos} {env : PySem.Env} (h : notTup a = true) : swappedStores [.Tuple es k p] a env = pure none := by
  cases a <;> first | rfl | cases h
theorem sw_false {a : Expr} {y : Str} {py : Pos} {l : Nat} {env : PySem.Env} {sc : Scope} (he : env.scope = sc) (h1 : okLC a = true) (h : swB sc y py a = false) : swapsWith a (some (.Name y py)) l env = pure false := by
  subst he
  cases a <;> first | rfl | (cases h1; done) | skip
  rename_i elt gs scope pos
  simp only [swB] at h
  have e : swapsWith (.ListComp elt gs scope pos) (some (.Name y py)) l env = pure (env.blockKind == .function && env.kindOf y == some .local && py.line == pos.line && !(scope.names.any fun (n, k) => n == y && (k == .local || k == .cell))) := rfl
  rw [e]
  have e2 : (env.kindOf y == some .local) = decide (env.scope.names.lookup y = some .local) := by
    unfold Env.kindOf
    by_cases q : List.lookup y env.scope.names = some .local
    · simp [q]
    · rw [beq_eq_false_iff_ne.mpr q, decide_eq_false q]
  rw [e2, Bool.and_assoc, Bool.and_assoc, ← Bool.and_assoc (decide _), h, Bool.and_false]

section
variable (C : Ck) (sc : Scope)
def ckA2 (is : List Nat) (ts vs : List Expr) : Bool := match swSt sc ts vs with
  | some none => ckNs C.N fbT sc is ts && decide (is.length ≤ 1000)
  | some (some _) => match is, ts with
    | [i, j], [.Name y _, .Name z _] => ckL C.N fbF sc i y && ckL C.N fbF sc j z && decide (swSt sc ts vs = some (some [y, z])) && decide (i ≠ j)
    | [i, j, l], [.Name y _, .Name z _, .Name u _] => ckL C.N fbF sc i y && ckL C.N fbF sc j z && ckL C.N fbF sc l u && decide (swSt sc ts vs = some (some [y, z, u])) && decide (i ≠ j) && decide (i ≠ l) && decide (j ≠ l)
    | _, _ => false
  | none => false
mutual
def ckS : S → Stmt → Bool
  | .set i e, st => match st with
    | .Assign [.Name y py] a _ => ckL C.N fbT sc i y && okLC a && ckE C sc e a && (match swB sc y py a with
      | true => (match e with | .comp _ _ _ _ _ => true | _ => false)
      | false => true)
    | _ => false
  | .setT is e, st => match st with
    | .Assign [.Tuple ts _ _] a _ => notTup a && ckNs C.N fbT sc is ts && ckE C sc e a
    | _ => false
  | .asgT is es, st => match st with
    | .Assign [.Tuple ts _ _] (.Tuple vs _ _) _ => ckA2 C sc is ts vs && ckEs C sc es vs
    | _ => false
  | .app i e, st => match st with
    | .Expr (.Call (.Attribute (.Name y _) m apos) [x] [] cpos) _ => ckV C.N sc i y && m == appS_ && apos.endLine == cpos.line && notStar x && ckE C sc e x
    | _ => false
  | .put i k e, st => match st with
    | .Assign [.Subscript (.Name y _) kx _] a _ => plainIx kx && ckV C.N sc i y && ckE C sc k kx && ckE C sc e a
    | _ => false
  | .expr e, st => match st with
    | .Expr a _ => notComp a && ckE C sc e a
    | _ => false
  | .ret e, st => match st with
    | .Return (some a) _ => ckE C sc e a
    | _ => false
  | .retN, st => match st with
    | .Return none _ => true
    | _ => false
  | .iff c a b, st => match st with
    | .If x p q _ => ckE C sc c x && ckSs a p && ckSs b q
    | _ => false
  | .for_ t it b, st => match st with
    | .For tg iter body [] _ => notSet iter && ckT C.N fbT sc t tg && ckI C (isTu tg) sc it iter && ckSs b body
    | _ => false
  | .while_ c b, st => match st with
    | .While x body [] _ => ckE C sc c x && ckSs b body
    | _ => false
  | .pass, st => match st with
    | .Pass _ => true
    | _ => false
  | .cont, st => match st with
    | .Continue _ => true
    | _ => false
  | .raise c e keep, st => match st with
    | .Raise (some (.Call (.Name y _) [.Constant (.str _) _ _] [] _)) none _ => !keep && glB sc y && decide (C.cl.lookup y = some c) && (match e with | .c _ => true | _ => false)
    | _ => false
def ckSs : Ss → List Stmt → Bool
  | .nil, l => l.isEmpty
  | .cons s ss, l => match l with
    | st :: l => ckS s st && ckSs ss l
    | [] => false
end
end
section
variable {C : Ck} {g : Gx} {call : Nat → List Arg → Rs (Bool × D × List D)} {hand : Nat → Rs D → Rs D} {k wf : Nat} {W : WX} {sc : Scope} {X : Cx} {pos : Pos}
theorem Es.okOs : ∀ (es : Es) (xs : List Expr), ckEs C sc es xs = true → ∀ {fl : Bool} {fb : Str → Bool} {W : WX} {X : Cx}, XOk C g call hand k W sc fl fb X → PA X xs (rdOs g W (evOs (evE call hand) es) es.quiet)
  | .nil, xs, h, fl, fb, W, X, O => by
    unfold ckEs at h
    have e : evOs (evE call hand) Es.nil = fun ε => .ok ([], ε) := by funext ε; simp only [evOs]
    rw [e]
    cases xs with
    | nil => exact o_nil
    | cons _ _ => cases h
  | .cons e es, xs, h, fl, fb, W, X, O => by
    unfold ckEs at h
    split at h
    · simp only [Bool.and_eq_true] at h
      obtain ⟨⟨h1, h2⟩, h3⟩ := h
      have ee : evOs (evE call hand) (.cons e es) = consO (evE call hand e) (evOs (evE call hand) es) := by funext ε; simp only [evOs]; rfl
      rw [ee]
      exact o_cons (notStar_ok h1) (E.ok e _ h2 O).1 (Es.okOs es _ h3 O)
    · cases h
theorem ckL_loc {i : Nat} {y : Str} {fl : Bool} {fb : Str → Bool} (O : XOk C g call hand k W sc fl fb X) (h : ckL C.N fbF sc i y = true) : X.N[i]? = some y ∧ X.env.scope.names.lookup y = some .local := by
  unfold ckL at h
  split at h
  · rename_i z e
    simp only [Bool.and_eq_true, beq_iff_eq] at h
    obtain ⟨rfl, h2⟩ := h
    refine ⟨by rw [O.N]; exact e, ?_⟩
    rw [O.sc]
    unfold locB at h2
    split at h2
    · assumption
    · cases h2
    · cases h2
  · cases h
theorem asgT_ok {is : List Nat} {es : Es} {ts vs : List Expr} {a b : Nat} {p1 p2 : Pos} (O : XOk C g call hand k W sc true fbT X) (hk : sc.kind = .function) (h1 : ckA2 C sc is ts vs = true) (h2 : ckEs C sc es vs = true) :
    PS X (.Assign [.Tuple ts a p1] (.Tuple vs b p2) pos) (rdS g W (asgEv (evOs (evE call hand) es) is)) := by
  have ha := Es.okOs (hand := hand) es vs h2 O
  unfold ckA2 at h1
  split at h1
  · rename_i e
    simp only [Bool.and_eq_true, decide_eq_true_eq] at h1
    obtain ⟨x, y, z⟩ := PGs.ofNs O h1.1
    have hg : PG X (.Tuple ts a p1) (gOf g.K (.t is)) := by
      show PG X _ (gTup g.K _ (gOfs _))
      rw [← O.K]
      exact pg_tup O.calm x y z
    exact parN_ok O.K (Nat.le_trans h1.2 thou_line) ha hg sw_tup (swSt_ok O.sc hk e) rfl
  · split at h1
    · simp only [Bool.and_eq_true, decide_eq_true_eq] at h1
      obtain ⟨⟨⟨b1, b2⟩, b3⟩, b4⟩ := h1
      obtain ⟨c1, c2⟩ := ckL_loc O b1
      obtain ⟨c3, c4⟩ := ckL_loc O b2
      have hlen := swSt_ok (a := a) (b := b) (p1 := p1) (p2 := p2) O.sc hk b3
      have l2 : vs.length = 2 := by
        have e := b3
        unfold swSt at e
        split at e
        · cases e
        · rename_i hn
          simp at hn; exact hn
      match vs, l2, ha, hlen with
      | [v, w], _, ha, hlen => exact par2_ok O.calm O.nd c1 c3 b4 c2 c4 ha hlen sw_tup
    · simp only [Bool.and_eq_true, decide_eq_true_eq] at h1
      obtain ⟨⟨⟨⟨⟨⟨b1, b2⟩, b2'⟩, b3⟩, b4⟩, b5⟩, b6⟩ := h1
      obtain ⟨c1, c2⟩ := ckL_loc O b1
      obtain ⟨c3, c4⟩ := ckL_loc O b2
      obtain ⟨c5, c6⟩ := ckL_loc O b2'
      have hlen := swSt_ok (a := a) (b := b) (p1 := p1) (p2 := p2) O.sc hk b3
      have l2 : vs.length = 3 := by
        have e := b3
        unfold swSt at e
        split at e
        · cases e
        · rename_i hn
          simp at hn; exact hn
      match vs, l2, ha, hlen with
      | [v, w, u], _, ha, hlen => exact par3_ok O.calm O.nd c1 c3 c5 b4 b5 b6 c2 c4 c6 ha hlen sw_tup
    · cases h1
  · cases h1
theorem retE_ok {e : E} {a : Expr} (O : XOk C g call hand k W sc true fbT X) (h : ckE C sc e a = true) : PS X (.Return (some a) pos) (rdS g W (retEv fun ε => evR e ε (evE call hand e ε))) := by
  have hb := E.ok (hand := hand) e a h O
  cases e with
  | v i =>
    obtain ⟨y, pp, rfl, hy⟩ := ckE_v h i rfl
    obtain ⟨h1, h2, h3, h4⟩ := ckV_ok O hy
    exact retV_ok h1 h2 h3 h4
  | _ => exact ret_ok hb.1
theorem setLc_ok {i : Nat} {y : Str} {py : Pos} {a : Expr} {e : E} {t : Tg} {it : I} {cs : Es} {vs : List Nat} (O : XOk C g call hand k W sc true fbT X) (hk : sc.kind = .function) (hl : ckL C.N fbT sc i y = true) (hs : swB sc y py a = true) (h : ckE C sc (.comp e t it cs vs) a = true) :
    PS X (.Assign [.Name y py] a pos) (rdS g W (setEv (evE call hand (.comp e t it cs vs)) i)) := by
  obtain ⟨e1, e2, e3⟩ := ckL_ok O hl
  unfold ckE at h
  split at h
  · simp only [Bool.and_eq_true, decide_eq_true_eq] at h
    obtain ⟨⟨⟨⟨⟨⟨⟨⟨h00, h0⟩, h1⟩, h2⟩, h3⟩, h4⟩, h5⟩, h6⟩, h7⟩ := h
    subst h0
    rename_i elt tg iter ifs scope cpos
    have eo : (ownOf C.N vs).map (·.2) = vs := by unfold ownOf; rw [List.map_map]; exact List.map_id' vs
    have ee : evE call hand (.comp e t it cs vs) = compEv (evI call hand it) t (evCs call hand cs) (evE call hand e) ((ownOf C.N vs).map (·.2)) := by rw [eo]; funext ε; simp only [evE]; rfl
    rw [ee]
    have bo := blkOk_by h2
    have bo : BlkOk X.N X.env.scope scope (ownOf C.N vs) := by rw [O.N, O.sc]; exact bo
    simp only [swB, Bool.and_eq_true, decide_eq_true_eq, Bool.not_eq_true'] at hs
    obtain ⟨⟨s1, s2⟩, s3⟩ := hs
    have hyl : X.env.scope.names.lookup y = some .local := by rw [O.sc]; exact s1
    obtain ⟨qi, hi⟩ := I.ok (tg := tg) (hand := hand) it _ h5 id O
    refine PS.imp (ps_setLc O.calm O.nd e1 hyl (sw_true (by rw [O.sc]; exact hk) hyl s2 s3) hi bo (fun s H Cc cl fp => ckT_ok (O.mk' h00) h3) (fun s H Cc cl fp => Es.okC cs _ h6 (O.mk' h00)) (fun s H Cc cl fp => (E.ok e _ h7 (O.mk' h00)).1) (notSet_ok h1)) fun D σ H hh => set_rd (fun σ H Q hq => comp_rd ?_ hq) hh
    rw [eo]; exact h4
  · cases h
mutual
theorem S.ok (hk : sc.kind = .function) : ∀ (s : S) (st : Stmt), ckS C sc s st = true → ∀ {W : WX} {X : Cx}, XOk C g call hand k W sc true fbT X → PS X st (rdS g W (exS call hand wf s))
  | .set i e, st, h, W, X, O => by
    unfold ckS at h
    split at h
    · rename_i y py a pos
      simp only [Bool.and_eq_true] at h
      obtain ⟨⟨⟨h1, h2⟩, h3⟩, h4⟩ := h
      have ee : exS call hand wf (.set i e) = setEv (evE call hand e) i := by funext ε; simp only [exS]; rfl
      rw [ee]
      obtain ⟨e1, e2, e3⟩ := ckL_ok O h1
      cases hs : swB sc y py a with
      | false => exact set_ok O.nd e1 e2 (E.ok e _ h3 O).1 (sw_false O.sc h2 hs) e3
      | true =>
        rw [hs] at h4
        cases e with
        | comp e t it cs vs => exact setLc_ok O hk h1 hs h3
        | _ => cases h4
    · cases h
  | .setT is e, st, h, W, X, O => by
    unfold ckS at h
    split at h
    · simp only [Bool.and_eq_true] at h
      obtain ⟨⟨h1, h2⟩, h3⟩ := h
      have ee : exS call hand wf (.setT is e) = setTEv (evE call hand e) is := by funext ε; simp only [exS]; rfl
      rw [ee]
      obtain ⟨x, y, z⟩ := PGs.ofNs O h2
      refine setT_ok (E.ok e _ h3 O).1 ?_ sw_tup (st_tup h1) rfl
      show PG X _ (gTup g.K _ (gOfs _))
      rw [← O.K]
      exact pg_tup O.calm x y z
    · cases h
  | .asgT is es, st, h, W, X, O => by
    unfold ckS at h
    split at h
    · simp only [Bool.and_eq_true] at h
      have ee : exS call hand wf (.asgT is es) = asgEv (evOs (evE call hand) es) is := by funext ε; simp only [exS]; rfl
      rw [ee]
      exact asgT_ok O hk h.1 h.2
    · cases h
  | .app i e, st, h, W, X, O => by
    unfold ckS at h
    split at h
    · simp only [Bool.and_eq_true, beq_iff_eq] at h
      obtain ⟨⟨⟨⟨h1, h2⟩, h3⟩, h4⟩, h5⟩ := h
      subst h2
      obtain ⟨e1, e2, e3, e4⟩ := ckV_ok O h1
      have ee : exS call hand wf (.app i e) = appEv (evE call hand e) i := by funext ε; simp only [exS]; rfl
      rw [ee]
      exact app_ok e1 e2 e3 e4 (notStar_ok h4) (E.ok e _ h5 O).1 rfl (beq_iff_eq.mpr h3) rfl
    · cases h
  | .put i k e, st, h, W, X, O => by
    unfold ckS at h
    split at h
    · simp only [Bool.and_eq_true] at h
      obtain ⟨⟨⟨h0, h1⟩, h2⟩, h3⟩ := h
      obtain ⟨e1, e2, e3, e4⟩ := ckV_ok O h1
      have ee : exS call hand wf (.put i k e) = putEv (evE call hand e) (evE call hand k) i := by funext ε; simp only [exS]; rfl
      rw [ee]
      exact put_ok (by have := O.unit; omega) e1 e2 e3 e4 (E.ok e _ h3 O).1 (E.ok k _ h2 O).1 (asg_sub h0) sw_sub st_sub rfl
    · cases h
  | .expr e, st, h, W, X, O => by
    unfold ckS at h
    split at h
    · simp only [Bool.and_eq_true] at h
      have ee : exS call hand wf (.expr e) = exprEv (evE call hand e) := by funext ε; simp only [exS]; rfl
      rw [ee]
      exact expr_ok (E.ok e _ h.2 O).1 (sw_ne h.1)
    · cases h
  | .ret e, st, h, W, X, O => by
    unfold ckS at h
    split at h
    · have ee : exS call hand wf (.ret e) = retEv fun ε => evR e ε (evE call hand e ε) := by funext ε; simp only [exS]; rfl
      rw [ee]
      exact retE_ok O h
    · cases h
  | .retN, st, h, W, X, O => by
    unfold ckS at h
    split at h
    · have ee : exS call hand wf .retN = fun ε => .rt false .non ε := by funext ε; simp only [exS]
      rw [ee]
      exact retN_ok
    · cases h
  | .iff c a b, st, h, W, X, O => by
    unfold ckS at h
    split at h
    · simp only [Bool.and_eq_true] at h
      obtain ⟨⟨h1, h2⟩, h3⟩ := h
      have ee : exS call hand wf (.iff c a b) = iffEv (fun ε => evT (evE call hand c ε)) (exSs call hand wf a) (exSs call hand wf b) := by funext ε; simp only [exS]; rfl
      rw [ee]
      exact iff_ok (E.ok c _ h1 O).2 (Ss.ok hk a _ h2 O) (Ss.ok hk b _ h3 O)
    · cases h
  | .for_ t it b, st, h, W, X, O => by
    unfold ckS at h
    split at h
    · rename_i tg iter body pos
      simp only [Bool.and_eq_true] at h
      obtain ⟨⟨⟨h1, h2⟩, h3⟩, h4⟩ := h
      have ee : exS call hand wf (.for_ t it b) = forEv (evI call hand it) t (exSs call hand wf b) := by funext ε; simp only [exS]; rfl
      rw [ee]
      obtain ⟨qi, hi⟩ := I.ok (tg := tg) (hand := hand) it _ h3 id O
      exact for_ok (O.po rfl) O.calm hi (ckT_ok O h2) (Ss.ok hk b _ h4 O) (notSet_ok h1)
    · cases h
  | .while_ c b, st, h, W, X, O => by
    unfold ckS at h
    split at h
    · simp only [Bool.and_eq_true] at h
      have ee : exS call hand wf (.while_ c b) = fun ε => whileL (fun ε1 => evT (evE call hand c ε1)) (fun ε1 => exSs call hand wf b ε1) wf ε := by funext ε; simp only [exS]
      rw [ee]
      exact while_ok (O.po rfl) (E.ok c _ h.1 O).2 (Ss.ok hk b _ h.2 O)
    · cases h
  | .pass, st, h, W, X, O => by
    unfold ckS at h
    split at h
    · have ee : exS call hand wf .pass = fun ε => .nx ε := by funext ε; simp only [exS]
      rw [ee]
      exact pass_ok
    · cases h
  | .cont, st, h, W, X, O => by
    unfold ckS at h
    split at h
    · have ee : exS call hand wf .cont = fun ε => .ct ε := by funext ε; simp only [exS]
      rw [ee]
      exact cont_ok
    · cases h
  | .raise c e keep, st, h, W, X, O => by
    unfold ckS at h
    split at h
    · simp only [Bool.and_eq_true, decide_eq_true_eq, Bool.not_eq_true'] at h
      obtain ⟨⟨⟨h1, h2⟩, h3⟩, h4⟩ := h
      subst h1
      obtain ⟨g1, g2⟩ := glB_ok O h2
      obtain ⟨B, n1, n2, bm, F, q, mm, kk, r⟩ := O.cls _ _ h3
      cases e <;> first | (cases h4; done) | skip
      rename_i dd
      have ee : exS call hand wf (.raise c (.c dd) false) = fun _ => .exc ⟨c, none⟩ := by funext ε; simp only [exS, evE]; rfl
      rw [ee]
      exact raise_ok O.calm O.tk (pmk_own F q mm kk r g1 g2)
    · cases h
theorem Ss.ok (hk : sc.kind = .function) : ∀ (ss : Ss) (sts : List Stmt), ckSs C sc ss sts = true → ∀ {W : WX} {X : Cx}, XOk C g call hand k W sc true fbT X → PSs X sts (rdS g W (exSs call hand wf ss))
  | .nil, l, h, W, X, O => by
    unfold ckSs at h
    have ee : exSs call hand wf .nil = fun ε => .nx ε := by funext ε; simp only [exSs]
    rw [ee]
    cases l with
    | nil => exact nil_ok
    | cons _ _ => cases h
  | .cons s ss, l, h, W, X, O => by
    unfold ckSs at h
    split at h
    · simp only [Bool.and_eq_true] at h
      have ee : exSs call hand wf (.cons s ss) = fun ε => (exS call hand wf s ε).seq (exSs call hand wf ss) := by funext ε; simp only [exSs]
      rw [ee]
      exact cons_ok (S.ok hk s _ h.1 O) (Ss.ok hk ss _ h.2 O)
    · cases h
end
end
end DL

set_option Elab.async false
set_option linter.all false
set_option maxRecDepth 100000
/-! except clauses, some of them with a name: of those with a name it is only told that they are passed over -/
namespace DL
open PySem PySem.Spec PyProof.Rows L2
abbrev Cls := Value × (Addr → Value → Option Addr → TS)
inductive HdsN (X : Cx) : List ExceptHandler → List Cls → Prop
  | nil : HdsN X [] []
  | cons {x : Str} {c : Value} {ts : Addr → Value → Option Addr → TS} {b₀ : Stmt} {suite : List Stmt} {np pos' : Pos} {hds : List ExceptHandler} {l : List Cls} (hc : Names X x c)
      (hsu : ∀ (a : Addr) (oe : Obj) (cls : Value) (d : Option Addr) (pn : List (Addr × Obj)), Zc cls d oe → (∃ vs, oe.data = .fields vs) → PSs (X.suite a ((a, oe) :: pn)) (b₀ :: suite) (ts a cls d)) (r : HdsN X hds l) :
      HdsN X (.ExceptHandler (some (.Name x np)) none (b₀ :: suite) pos' :: hds) ((c, ts) :: l)
  | skip {x nm : Str} {c : Value} {b₀ : Stmt} {suite : List Stmt} {np pos' : Pos} {hds : List ExceptHandler} {l : List Cls} (hc : Names X x c) (r : HdsN X hds l) :
      HdsN X (.ExceptHandler (some (.Name x np)) (some nm) (b₀ :: suite) pos' :: hds) ((c, fun _ _ _ _ _ _ => False) :: l)
section
variable {X : Cx} {body : List Stmt} {h₀ : ExceptHandler} {hds : List ExceptHandler} {l : List Cls} {pos : Pos} {tb : WX → TS} {Wout : WX}
/-- the clauses one after the other, for an exception that was caught -/
theorem hdsN_run {pins : List (Addr × Obj)} {sI s' : Shared} {h3 : Heap} {D : Ends} {σ' : L2.St} {H' : Hp} {a : Addr} {cls : Value} {d : Option Addr} {B : Heap} {pins' : List (Addr × Obj)} {oe3 : Obj}
    (hs : X.stack = X.env :: X.outer) (hf : X.env.frame = some X.env.locals) (tk : Takes X Wout) (ok : X.Ok) (J : Inv X pins σ' H' sI) (na : H' a = none)
    (os : s'.os = sI.os) (ag : AllBare s'.gens) (nb : ∀ b o, sI.heap.get? b = some o → b ∉ frs X.stack → B.get? b = some o) (up : sI.heap.UpToSlots s'.heap) (up3 : s'.heap.UpToSlots h3)
    (fl3 : HandSPX.FlyingZ B (X.env :: X.outer) a (Zc cls d) h3) (S3 : Inv (X.suite a ((a, oe3) :: (X.pn ++ pins))) [] σ' H' { s' with heap := h3 }) (kIn : X.K.In h3) (he3 : h3.get? a = some oe3) (hz3 : Zc cls d oe3)
    (nL : a ≠ X.env.locals) (nF : a ∉ X.fs) :
    ∀ {hds : List ExceptHandler} {l : List Cls}, HdsN X hds l → wMany X.K Wout D l cls d σ' H' → wpAny (model X.prog X.w) X.A (handleBy (.ref a) X.env hds) (SP X pins D) X.xe { s' with heap := h3 } := by
  intro hds l hk
  have names : ∀ {x : Str} {c : Value} {np : Pos}, Names X x c → ∀ {Q : Value → Shared → Prop} {E : Value → Shared → Prop}, Q c { s' with heap := h3 } → wpAny (model X.prog X.w) (X.A.mark (some (.ref a))) (eval (.Name x np) X.env) Q E { s' with heap := h3 } := by
    intro x c np hc Q E q
    obtain ⟨hg, hdbg, hm | ⟨hm, hv, hnn⟩⟩ := hc
    · exact ld_glob (X := X.suite a ((a, oe3) :: (X.pn ++ pins))) S3 hg hm q hdbg
    · exact ld_blt (X := X.suite a ((a, oe3) :: (X.pn ++ pins))) S3 hg hm hv q hnn hdbg
  have LT : PySem.W.Looks (model X.prog X.w) h3 (typeOf (.ref a)) cls := fun A Q E s k q => wpAny_typeOf_ref (k _ _ he3) (by rw [hz3.1]; exact q)
  induction hk with
  | nil =>
    intro w
    refine wpAny_handleBy_nil ?_
    obtain ⟨_, _, _, _, _, T, _, _, he, _, hd, h1, _⟩ := id fl3
    unfold PySem.passOn
    refine wpAny_bind (wpAny_field he hd h1 ?_)
    rw [if_neg (show ¬ ((Value.ref T == Value.none) = true) from by simp)]
    have fin : wpAny (model X.prog X.w) X.A (setFlight (.ref a) X.env.frame) (fun _ s4 => wpAny (model X.prog X.w) X.A (throw (.ref a) : Sem Flow) (SP X pins D) X.xe s4) X.xe { s' with heap := h3 } := by
      rw [hf]
      refine HandSPX.setFlight_upZ fl3 fun h4 hh4 up4 => wpAny_throw (tk _ _ ?_)
      exact ⟨a, B, sI, pins, σ', H', cls, d, rfl, J, nb, (up.trans up3).trans up4, .inr (.inr (by rw [hs]; exact hh4)), na, os, ag, w⟩
    first
      | exact wpAny_bind (wpAny_pure (wpAny_bind fin))
      | exact wpAny_bind fin
  | @skip x nm c b₀ suite np pos' hds2 l2 hc r ih =>
    intro w
    obtain ⟨b, hb1, hyes, hno⟩ := w
    have LM := PySem.W.exm_one (M := model X.prog X.w) kIn LT hb1
    refine wpAny_handleBy_cons (codeAny_handlers_test ?_) (by intro q; cases q)
    refine names hc (LM.here ?_)
    cases b with
    | true => exact (hyes rfl a na).elim
    | false => exact ih (hno rfl)
  | @cons x c ts b₀ suite np pos' hds2 l2 hc hsu r ih =>
    intro w
    obtain ⟨b, hb1, hyes, hno⟩ := w
    have LM := PySem.W.exm_one (M := model X.prog X.w) kIn LT hb1
    refine wpAny_handleBy_cons (codeAny_handlers_test ?_) (by intro q; cases q)
    refine names hc (LM.here ?_)
    cases b with
    | false => exact ih (hno rfl)
    | true =>
      refine codeAny_handlers_suite ?_
      refine HandSPX.lands_againZ fl3 fun h4 fl4 up4 => ?_
      have J4 : Inv X pins σ' H' { s' with heap := h4 } := J.landed nb fl4.1 ((up.trans up3).trans up4) os ag
      obtain ⟨oe4, vs4, he4, hz4, hd4⟩ := fl4.there
      have run := (hsu a oe4 cls d (X.pn ++ pins) hz4 ⟨_, hd4⟩).run [] _ _ H' _ (J4.suite he4 hd4 na nL nF) (hyes rfl a na)
      refine wpAny_mono run (fun f s6 hsp => ?_) (fun _ _ z => False.elim z)
      cases f <;> first
        | (obtain ⟨v6, σ6, H6, S6, r6, q6⟩ := hsp; exact ⟨_, _, _, S6.unsuite ok, r6, q6⟩)
        | (obtain ⟨σ6, H6, S6, q6⟩ := hsp; exact ⟨_, _, S6.unsuite ok, q6⟩)
theorem ps_try_n (hs : X.stack = X.env :: X.outer) (hf : X.env.frame = some X.env.locals) (tk : Takes X Wout)
    (hb : ∀ (W : WX) (pn : List (Addr × Obj)) (xe : Value → Shared → Prop), Takes (X.tr pn xe) W → PassesOwn (model X.prog X.w) X.A X.env xe → PSs (X.tr pn xe) body (tb W))
    (hh : HdsN X (h₀ :: hds) l) : PS X (.Try body (h₀ :: hds) [] [] pos) (fun D σ H => tb (wMany X.K Wout D l) D σ H) := by
  refine ⟨fun pins s σ H D I h => ?_⟩
  have ok := I.ok
  have hfr : X.A.frames = some (X.env :: X.outer) := by rw [ok.frames, hs]
  refine wpAny_Try_except ?_
  refine wpAny_mono ((hb (wMany X.K Wout D l) (X.pn ++ pins) (fun e s₁ => wpAny (model X.prog X.w) X.A (noteFrame e X.env) (fun _ s₂ => wpAny (model X.prog X.w) X.A (setFlight e none) (fun _ s₃ =>
    wpAny (model X.prog X.w) X.A (handleBy e X.env (h₀ :: hds)) (SP X pins D) X.xe s₃) X.xe s₂) X.xe s₁) (fun u s' xx => ?_) PassesOwn.looking).run [] s σ H D (I.toTry _) h) (fun f s1 hsp => ?_) (fun e s1 he => he)
  · obtain ⟨a, B, sI, pins', σ', H', cls, d, rfl, J', nb, up, sky, na, os, ag, w⟩ := xx
    have J : Inv X pins σ' H' sI := J'.ofTry ok
    show wpAny (model X.prog X.w) X.A (noteFrame (.ref a) X.env) _ _ _
    refine Sky.land Zc.steady hfr hf (show Sky B (X.env :: X.outer) a (Zc cls d) X.env.locals s'.heap by rw [← hs]; exact sky) fun h3 fl3 up3 => ?_
    have J3 : Inv X pins σ' H' { s' with heap := h3 } := J.landed nb fl3.1 (up.trans up3) os ag
    obtain ⟨oe3, vs3, he3, hz3, hd3⟩ := fl3.there
    have nfr : a ∉ frs (X.env :: X.outer) := fun hm => by
      obtain ⟨_, o', e', hnf⟩ := fl3.2.2.1.mem hm
      rw [he3] at e'; cases e'
      exact hnf _ hd3
    have nL : a ≠ X.env.locals := fun z => nfr (List.mem_filterMap.mpr ⟨X.env, List.mem_cons_self, by rw [hf, z]⟩)
    have nF : a ∉ X.fs := fun hm => by
      obtain ⟨e, he, q⟩ := List.mem_filterMap.mp hm
      exact nfr (List.mem_filterMap.mpr ⟨e, List.mem_cons_of_mem _ he, q⟩)
    exact hdsN_run (pins' := pins') hs hf tk ok J na os ag nb up up3 fl3 (J3.suite he3 hd3 na nL nF) J3.kIn he3 hz3 nL nF hh w
  · cases f <;> first
      | (obtain ⟨v, σ', H', J', r, q⟩ := hsp; exact ⟨v, σ', H', J'.ofTry ok, r, q⟩)
      | (obtain ⟨σ', H', J', q⟩ := hsp; exact wpAny_execs_nil ⟨σ', H', J'.ofTry ok, q⟩)
      | (obtain ⟨σ', H', J', q⟩ := hsp; exact ⟨σ', H', J'.ofTry ok, q⟩)
end
end DL

set_option Elab.async false
set_option linter.all false
set_option maxRecDepth 100000
set_option maxHeartbeats 4000000
/-! DL18: functions. -/
namespace DL
open PySem PySem.Spec PyProof.Rows L2

/-! ### plain parameters -/
def plainP (p : Arguments) : Bool := p.posonlyargs.isEmpty && p.vararg.isNone && p.kwonlyargs.isEmpty && p.kwarg.isNone
def parN (p : Arguments) : List Str := p.args.map (·.arg)
theorem zip_lookup {α β : Type} [BEq α] [LawfulBEq α] : ∀ {ps : List α} {us : List β} {x : α}, us.length = ps.length → x ∈ ps → ((ps.zip us).lookup x).isNone = false
  | [], _, _, _, h => by cases h
  | p :: ps, [], _, l, _ => by simp at l
  | p :: ps, u :: us, x, l, h => by
    rw [List.zip_cons_cons, List.lookup_cons]
    by_cases q : x = p
    · subst q; simp
    · rw [beq_eq_false_iff_ne.mpr q]
      exact zip_lookup (by simpa using l) ((List.mem_cons.mp h).resolve_left q)
theorem filter_nil {α : Type} {f : α → Bool} : ∀ {l : List α}, (∀ x ∈ l, f x = false) → l.filter f = []
  | [], _ => rfl
  | x :: l, h => by rw [List.filter_cons, h x List.mem_cons_self]; exact filter_nil fun y hy => h y (List.mem_cons_of_mem _ hy)
theorem filterMap_zip {α β : Type} [BEq α] [LawfulBEq α] : ∀ {ps : List α} {us : List β} (L : List (α × β)), us.length = ps.length → ps.Nodup → (∀ x ∈ ps, L.lookup x = (ps.zip us).lookup x) → ps.filterMap (fun n => (L.lookup n).map (n, ·)) = ps.zip us
  | [], us, L, l, _, _ => by simp
  | p :: ps, [], L, l, _, _ => by simp at l
  | p :: ps, u :: us, L, l, nd, h => by
    obtain ⟨n1, n2⟩ := List.nodup_cons.mp nd
    rw [List.filterMap_cons, h p List.mem_cons_self, List.zip_cons_cons, List.lookup_cons, beq_self_eq_true]
    simp only [Option.map_some]
    rw [filterMap_zip L (by simpa using l) n2 fun x hx => ?_]
    rw [h x (List.mem_cons_of_mem _ hx), List.zip_cons_cons, List.lookup_cons, beq_eq_false_iff_ne.mpr (fun e => by subst e; exact n1 hx)]
theorem bind_plain {x qual : Str} {p : Arguments} {body : List Stmt} {scope : Scope} (hp : plainP p = true) (nd : (parN p).Nodup) (kV doc pm : Value) (an : Option Addr) (cdv ct : Value) (us : List Value) (l : us.length = (parN p).length) :
    bindArgs (PySem.W.fnOf x qual p body scope .none kV doc pm an cdv ct) ⟨us, []⟩ = pure ((parN p).zip us) := by
  obtain ⟨po, ar, va, ko, kd, kw, df⟩ := p
  simp only [plainP, Bool.and_eq_true, List.isEmpty_iff, Option.isNone_iff_eq_none] at hp
  obtain ⟨⟨⟨rfl, rfl⟩, rfl⟩, rfl⟩ := hp
  unfold parN at *
  simp only at nd l ⊢
  have ht : List.take ar.length (ar.map (·.arg)) = ar.map (·.arg) := List.take_of_length_le (by simp)
  have h2 : ((ar.map (·.arg)).filter fun n => (((ar.map (·.arg)).zip us).lookup n).isNone) = [] := filter_nil fun y hy => zip_lookup l hy
  have h3 := filterMap_zip ((ar.map (·.arg)).zip us) l nd fun _ _ => rfl
  have h4 : ¬ us.length > ar.length := by simp at l; omega
  unfold bindArgs PySem.W.fnOf
  simp only [List.map_nil, List.nil_append, List.forIn_nil, pure_bind, List.append_nil]
  have e0 : seqItems? Value.none = pure none := rfl
  rw [e0]
  simp only [pure_bind, Option.getD_none, List.length_nil, Nat.zero_sub, List.drop_zero, Nat.sub_zero, List.take_length, List.zip_nil_right, List.forIn_nil, Option.isNone_none, Bool.and_true, List.isEmpty_nil, Bool.not_true, h2, h3, List.length_map, ht, h4, decide_false, Bool.false_eq_true, if_false, gt_iff_lt, List.drop_nil, and_true]

/-! ### a function's row -/
structure FR where
  name : Str
  id : Nat
  N : List Str
  F : Fn
  lam : Bool
def scB (N ps : List Str) (sc : Scope) : Bool := (match sc.kind with | .function => true | _ => false) && !sc.isCoroutine && !sc.isGenerator && decide (N.Nodup) && decide (N.take ps.length = ps) &&
  (ps.all fun x => match sc.names.lookup x with | some .local => true | some .cell => true | _ => false) && (sc.names.all fun y => match y.2 with | .free => false | _ => true)
theorem scB_ok {N ps : List Str} {sc : Scope} (h : scB N ps sc = true) : FnScope N ps sc := by
  unfold scB at h
  simp only [Bool.and_eq_true, Bool.not_eq_true', decide_eq_true_eq, List.all_eq_true] at h
  obtain ⟨⟨⟨⟨⟨⟨h1, h2⟩, h3⟩, h4⟩, h5⟩, h6⟩, h7⟩ := h
  refine ⟨?_, h2, h3, h4, h5, fun x hx => ?_, fun y hy e => ?_⟩
  · split at h1
    · assumption
    · cases h1
  · have q := h6 x hx
    split at q
    · exact .inl (by assumption)
    · exact .inr (by assumption)
    · cases q
  · have q := h7 y hy
    rw [e] at q; cases q
def frB (gl : List (Str × D)) (fn cl hn : List (Str × Nat)) (r : FR) (p : Arguments) (body : List Stmt) (sc : Scope) : Bool :=
  plainP p && scB r.N (parN p) sc && decide ((parN p).length = r.F.np) && decide (r.N.length = r.F.ns) && decide (r.F.np ≤ r.F.ns) && ckSs ⟨r.N, gl, fn, cl, hn, r.lam⟩ sc r.F.body body
section
variable {g : Gx} {W : WX} {F H F' H' : Hp} {E : XK}
theorem start_get {N : List Str} {vs : List V} {i : Nat} {v : V} (h : (L2.start N vs)[i]? = some (some v)) : (vs.map some)[i]? = some (some v) := by
  unfold L2.start at h
  by_cases hl : i < (vs.map some).length
  · rw [List.getElem?_append_left hl] at h; exact h
  · rw [List.getElem?_append_right (by omega)] at h
    have := List.mem_of_getElem? h
    rw [List.mem_replicate] at this
    cases this.2
theorem startE_get {n : Nat} {as : List Arg} {i : Nat} {s : Sl} (h : (startE n as)[i]? = some s) : s = .no ∨ (as.map slOf)[i]? = some s := by
  unfold startE at h
  by_cases hl : i < (as.map slOf).length
  · rw [List.getElem?_append_left hl] at h; exact .inr h
  · rw [List.getElem?_append_right (by omega)] at h
    have := List.mem_of_getElem? h
    rw [List.mem_replicate] at this
    exact .inl this.2
theorem start_old {N : List Str} {vs : List V} {i : Nat} {v : V} (h : (vs.map some)[i]? = some (some v)) : (L2.start N vs)[i]? = some (some v) := by
  unfold L2.start
  have hl := (List.getElem?_eq_some_iff.mp h).1
  rw [List.getElem?_append_left hl]; exact h
theorem startE_old {n : Nat} {as : List Arg} {i : Nat} {s : Sl} (h : (as.map slOf)[i]? = some s) : (startE n as)[i]? = some s := by
  unfold startE
  have hl := (List.getElem?_eq_some_iff.mp h).1
  rw [List.getElem?_append_left hl]; exact h
theorem ow_start {N : List Str} {n : Nat} {vs : List V} {as : List Arg} {i : Nat} {a : Addr} : Ow (L2.start N vs) (startE n as) i a ↔ Ow (vs.map some) (as.map slOf) i a := by
  constructor
  · rintro ⟨h, h2⟩
    refine ⟨?_, start_get h2⟩
    rcases h with ⟨d, h⟩ | ⟨d, h⟩
    · rcases startE_get h with z | z
      · cases z
      · exact .inl ⟨d, z⟩
    · rcases startE_get h with z | z
      · cases z
      · exact .inr ⟨d, z⟩
  · rintro ⟨h, h2⟩
    refine ⟨?_, start_old h2⟩
    rcases h with ⟨d, h⟩ | ⟨d, h⟩
    · exact .inl ⟨d, startE_old h⟩
    · exact .inr ⟨d, startE_old h⟩
theorem owns_start {N : List Str} {n : Nat} {vs : List V} {as : List Arg} {a : Addr} : Owns (L2.start N vs) (startE n as) a ↔ Owns (vs.map some) (as.map slOf) a :=
  ⟨fun ⟨i, h⟩ => ⟨i, ow_start.mp h⟩, fun ⟨i, h⟩ => ⟨i, ow_start.mpr h⟩⟩
theorem no_own {n : Nat} {σ : L2.St} {as : List Arg} {a : Addr} : ¬ OwnO σ (startE n as) a := fun ⟨i, d, h, _⟩ => by
  rcases startE_get h with z | z
  · cases z
  · rw [List.getElem?_map] at z
    obtain ⟨x, _, z⟩ := Option.map_eq_some_iff.mp z
    cases x <;> cases z
theorem stt_start {N : List Str} {n : Nat} {vs : List V} {as : List Arg} (l : as.length = vs.length) (hn : N.length = n) (hl : vs.length ≤ n) (S : Stt g.toGh F H (vs.map some) (as.map slOf)) : Stt g.toGh F H (L2.start N vs) (startE n as) := by
  refine ⟨S.sb, S.tb, S.ft, by simp [L2.start, startE, l, hn], fun i s h => ?_, fun i j a h1 h2 => S.ap i j a (ow_start.mp h1) (ow_start.mp h2)⟩
  rcases startE_get h with z | z
  · subst z; trivial
  · have hs := S.sl i s z
    cases s with
    | no => trivial
    | val d => obtain ⟨v, e, r⟩ := hs; exact ⟨v, start_old e, r⟩
    | own d => obtain ⟨a, e, f, c⟩ := hs; exact ⟨a, start_old e, f, c⟩
    | lnt d => obtain ⟨a, e, f, c⟩ := hs; exact ⟨a, start_old e, f, c⟩
theorem outs_of {σ σ' : L2.St} {ε ε' : En} (S : Stt g.toGh F' H' σ' ε') (lt : LtK σ ε σ' ε') : ∀ {as : List Arg} {vs : List V} {i : Nat} {outs : List D}, as.length = vs.length → (∀ (j : Nat) (v : V), vs[j]? = some v → σ[i + j]? = some (some v)) → outsE ε' i as = some outs → Outs g F' H' vs as outs
  | [], [], i, outs, _, _, e => by simp only [outsE] at e; cases e; exact .nil
  | .val d :: as, v :: vs, i, outs, l, h, e => by
    simp only [outsE] at e
    exact .val (outs_of S lt (i := i + 1) (by simpa using l) (fun j u hu => by have := h (j + 1) u (by simpa using hu); rw [show i + 1 + j = i + (j + 1) by omega]; exact this) e)
  | .lent d :: as, v :: vs, i, outs, l, h, e => by
    simp only [outsE] at e
    split at e
    · rename_i dd hd
      obtain ⟨os, e1, rfl⟩ := Option.map_eq_some_iff.mp e
      obtain ⟨a, ea, f, c⟩ := S.sl i _ hd
      have ev := h 0 v rfl
      rw [Nat.add_zero] at ev
      rw [(lt i dd hd).2, ev] at ea
      cases ea
      exact .lent f c (outs_of S lt (i := i + 1) (by simpa using l) (fun j u hu => by have := h (j + 1) u (by simpa using hu); rw [show i + 1 + j = i + (j + 1) by omega]; exact this) e1)
    · cases e
  | [], _ :: _, _, _, l, _, _ => by simp at l
  | _ :: _, [], _, _, l, _, _ => by simp at l
theorem told_run {P : Pg} {k f : Nat} {F : Fn} (h : P.fn f = some F) : Told F.np (runF P k f) := by
  intro xs hx
  cases k with
  | zero => rfl
  | succ k =>
    unfold runF
    rw [h]
    simp only
    rw [if_neg (fun z => hx z.1)]
/-- a def's body, run -/
theorem body_ok {r : FR} {as : List Arg} {vs : List V} {Q : VK} {run : En → Fl} (hN : r.N.length = r.F.ns) (hp : r.F.np ≤ r.F.ns) (hl : as.length = vs.length) (hn : vs.length = r.F.np)
    (S : Stt g.toGh F H (vs.map some) (as.map slOf)) {ev : Rs (Bool × D × List D)} (m : match ev with
      | .ok (w, z, outs) => ∀ v F' H', Stx g.toGh (vs.map some) (as.map slOf) F H F' H' → Outs g F' H' vs as outs → RR g.K g.fa H F' H' v w z → Q v H'
      | .exc x => XW g (fun cls d _ H' => E cls d H') (vs.map some) (as.map slOf) F H x
      | .bad => False) (er : (match run (startE r.F.ns as) with
        | .rt o d ε => (Rs.opt (outsE ε 0 as)).bind fun outs => .ok (o, d, outs)
        | .nx ε => (Rs.opt (outsE ε 0 as)).bind fun outs => .ok (false, .non, outs)
        | .exc x => .exc x
        | _ => .bad) = ev) : rdS g (fun cls d _ H => E cls d H) run { nx := fun _ H' => Q .non H', rt := Q } (L2.start r.N vs) H := by
  refine ⟨startE r.F.ns as, F, stt_start hl hN (by omega) S, ?_⟩
  have stx : ∀ {σ' : L2.St} {ε' : En} {F' H' : Hp}, Stt g.toGh F' H' σ' ε' → SSt (L2.start r.N vs) (startE r.F.ns as) F H σ' ε' F' H' → Stx g.toGh (vs.map some) (as.map slOf) F H F' H' := fun {σ' ε' F' H'} S' s => by
    refine ⟨S'.sb, S'.tb, S'.ft, s.f, fun a o h => ?_, fun a o h n hn => s.k a o h n fun z => hn (owns_start.mp z), s.z⟩
    rcases s.n a o h with y | y | y
    · exact .inl y
    · exact .inr (.inl y)
    · exact absurd y no_own
  have outs : ∀ {σ' : L2.St} {ε' : En} {F' H' : Hp} {os : List D}, Stt g.toGh F' H' σ' ε' → SSt (L2.start r.N vs) (startE r.F.ns as) F H σ' ε' F' H' → outsE ε' 0 as = some os → Outs g F' H' vs as os := fun {σ' ε' F' H' os} S' s e =>
    outs_of S' s.l (i := 0) hl (fun j v hv => by rw [Nat.zero_add]; exact start_old (by rw [List.getElem?_map, hv]; rfl)) e
  cases e : run (startE r.F.ns as) with
  | nx ε' =>
    rw [e] at er
    intro σ' F' H' S' s
    cases eo : outsE ε' 0 as with
    | none => simp only [eo, Rs.opt, Rs.bind] at er; subst er; exact m.elim
    | some os =>
      simp only [eo, Rs.opt, Rs.bind] at er
      subst er
      exact m _ F' H' (stx S' s) (outs S' s eo) .non
  | ct ε' => rw [e] at er; subst er; exact m.elim
  | rt o d ε' =>
    rw [e] at er
    intro v σ' F' H' S' s rt
    cases eo : outsE ε' 0 as with
    | none => simp only [eo, Rs.opt, Rs.bind] at er; subst er; exact m.elim
    | some os =>
      simp only [eo, Rs.opt, Rs.bind] at er
      subst er
      refine m v F' H' (stx S' s) (outs S' s eo) ?_
      cases o with
      | false => exact rt
      | true =>
        obtain ⟨a, e1, f, c, h⟩ := rt
        exact ⟨a, e1, h.resolve_right no_own, f, c⟩
  | exc x =>
    rw [e] at er
    subst er
    intro cls d σ' F' H' t ex
    refine m cls d F' H' ⟨t.sb, t.tb, t.ft, t.f, fun a o h => ?_, fun a o h n hn => t.k a o h n fun z => hn (owns_start.mp z), t.z⟩ ex
    rcases t.n a o h with y | y | y
    · exact .inl y
    · exact .inr (.inl y)
    · exact absurd y no_own
  | bad => rw [e] at er; subst er; exact m.elim
end
/-- what the head tells of a row's function -/
structure RowOk (g : Gx) (mg : Str → Option Value) (base : Heap) (gl : List (Str × D)) (fn cl hn : List (Str × Nat)) (r : FR) : Prop where
  ex : ∃ (p : Arguments) (body : List Stmt) (sc : Scope) (f : Addr) (fd : FuncData), FunD g.K r.name r.name p body sc [] [] f fd ∧ mg r.name = some (.ref f) ∧ frB gl fn cl hn r p body sc = true ∧
    (r.lam = true → ∃ c P, LamX.TabB base mg c P ∧ fd.code = .ref c ∧ (P, (r.name ++ ".<locals>.") ++ "<lambda>") ∈ g.T ∧ ∀ p ∈ g.T, p.1 = P → p.2 = (r.name ++ ".<locals>.") ++ "<lambda>")
/-- a lookup is a row -/
theorem lookup_mem {α β : Type} [BEq α] [LawfulBEq α] : ∀ {l : List (α × β)} {x : α} {y : β}, l.lookup x = some y → (x, y) ∈ l
  | [], _, _, h => by cases h
  | (a, b) :: l, x, y, h => by
    rw [List.lookup_cons] at h
    by_cases q : x = a
    · subst q; simp at h; subst h; exact List.mem_cons_self
    · rw [beq_eq_false_iff_ne.mpr q] at h
      exact List.mem_cons_of_mem _ (lookup_mem h)
structure MgOk (g : Gx) (w : World) (mg : Str → Option Value) (gl : List (Str × D)) (cl : List (Str × Nat)) (subs : Nat → Nat → Option Bool) : Prop where
  gl : ∀ y d, gl.lookup y = some d → GlOk g w mg y d
  blt : ∀ y ∈ bltS, mg y = none
  cls : ∀ y c, cl.lookup y = some c → ∃ B newId initId bmB, ExcBaseFacts B newId initId bmB ∧ PySem.W.excIn g.K (g.ca c) bmB newId = true ∧ mg y = some (.ref (g.ca c)) ∧ PySem.W.keepIn g.K (.ref (g.ca c)) = true ∧
    PySem.W.subIn g.K (.ref (g.ca c)) (.type "BaseException") = some true ∧ PySem.W.typeIn g.K (.ref (g.ca c)) = some (.type "type")
  exm : ∀ i j b, subs i j = some b → PySem.W.exmOne g.K (.ref (g.ca i)) (.ref (g.ca j)) = some b
/-! ### a def that calls what it got -/
structure HR where
  name : Str
  id : Nat
  a : Str
  Hd : Hn
def hdsB (cl : List (Str × Nat)) (sc : Scope) : List (Nat × Option D) → List ExceptHandler → Bool
  | [], [] => true
  | (c, some d) :: hs, .ExceptHandler (some (.Name x _)) none [.Return (some e) _] _ :: hds => glB sc x && decide (cl.lookup x = some c) && cOk d && ckC [] sc d e && hdsB cl sc hs hds
  | (c, none) :: hs, .ExceptHandler (some (.Name x _)) (some _) (_ :: _) _ :: hds => glB sc x && decide (cl.lookup x = some c) && hdsB cl sc hs hds
  | _, _ => false
def hrB (cl : List (Str × Nat)) (r : HR) (p : Arguments) (body : List Stmt) (sc : Scope) : Bool :=
  plainP p && decide (parN p = [r.a]) && scB [r.a] [r.a] sc && visB sc r.a && r.a != dbgS && r.a != cdcS && cOk r.Hd.after && (match body with
    | [.Try [.Expr (.Call (.Name b _) [] [] _) _] (h :: hds) [] [] _, .Return (some e) _] => b == r.a && ckC [] sc r.Hd.after e && hdsB cl sc r.Hd.hs (h :: hds)
    | _ => false)
theorem ckC0_pe {sc : Scope} {d : D} {a : Expr} (h : ckC [] sc d a = true) (X : Cx) : PE X a (tC (cvD d)) := by
  unfold ckC at h
  split at h
  · split at h
    · exact pe_non
    · cases h
  · split at h
    · rw [beq_iff_eq] at h; subst h; exact pe_bl
    · cases h
  · split at h
    · have h := of_decide_eq_true h; subst h; exact pe_int
    · cases h
  · split at h
    · simp only [Bool.and_eq_true, beq_iff_eq] at h
      obtain ⟨rfl, h⟩ := h
      exact pe_str
    · cases h
  · simp at h
  · cases h
def hdT : Option D → Addr → Value → Option Addr → TS
  | some d => fun _ _ _ => tRet (tC (cvD d))
  | none => fun _ _ _ _ _ _ => False
def hdL (g : Gx) (hs : List (Nat × Option D)) : List (Value × (Addr → Value → Option Addr → TS)) := hs.map fun h => (.ref (g.ca h.1), hdT h.2)
theorem hds_ok {g : Gx} {cl : List (Str × Nat)} {sc : Scope} {X : Cx} (hsc : X.env.scope = sc) (hc : ∀ y c, cl.lookup y = some c → X.mg y = some (.ref (g.ca c))) : ∀ {hs : List (Nat × Option D)} {hds : List ExceptHandler}, hdsB cl sc hs hds = true → HdsN X hds (hdL g hs)
  | [], [], _ => .nil
  | (c, d) :: hs, hd :: hds, h => by
    unfold hdsB at h
    split at h
    · rename_i e; cases e
    · rename_i c' d' hs' x np e rp hp hds' e1 e2
      cases e1; cases e2
      simp only [Bool.and_eq_true, decide_eq_true_eq] at h
      obtain ⟨⟨⟨⟨h1, h2⟩, h3⟩, h4⟩, h5⟩ := h
      refine .cons ⟨?_, ?_, .inl (hc _ _ h2)⟩ (fun a oe cls d pn _ _ => pss_one (ps_ret (ckC0_pe h4 _))) (hds_ok hsc hc h5)
      · unfold glB at h1
        split at h1
        · show X.env.scope.names.lookup _ = _
          rw [hsc]; assumption
        · cases h1
      · unfold glB at h1
        split at h1
        · exact beq_eq_false_iff_ne.mpr (bne_iff_ne.mp h1)
        · cases h1
    · rename_i c' hs' x np nm b0 suite hp hds' e1 e2
      cases e1; cases e2
      simp only [Bool.and_eq_true, decide_eq_true_eq] at h
      obtain ⟨⟨h1, h2⟩, h5⟩ := h
      refine .skip ⟨?_, ?_, .inl (hc _ _ h2)⟩ (hds_ok hsc hc h5)
      · unfold glB at h1
        split at h1
        · show X.env.scope.names.lookup _ = _
          rw [hsc]; assumption
        · cases h1
      · unfold glB at h1
        split at h1
        · exact beq_eq_false_iff_ne.mpr (bne_iff_ne.mp h1)
        · cases h1
    · cases h
  | [], _ :: _, h => by cases h
  | (c, d) :: hs, [], h => by cases d <;> cases h
theorem hdsB_c {cl : List (Str × Nat)} {sc : Scope} : ∀ {hs : List (Nat × Option D)} {hds : List ExceptHandler}, hdsB cl sc hs hds = true → ∀ h ∈ hs, ∀ d, h.2 = some d → cOk d = true
  | [], _, _, h, hm => by cases hm
  | (c, d) :: hs, [], hq, _, _ => by cases d <;> cases hq
  | (c, d) :: hs, hd :: hds, hq, h, hm => by
    unfold hdsB at hq
    split at hq
    · rename_i e; cases e
    · rename_i c' d' hs' x np e rp hp hds' e1 e2
      cases e1; cases e2
      simp only [Bool.and_eq_true, decide_eq_true_eq] at hq
      obtain ⟨⟨⟨⟨h1, h2⟩, h3⟩, h4⟩, h5⟩ := hq
      rcases List.mem_cons.mp hm with rfl | hm
      · intro d e; cases e; exact h3
      · exact hdsB_c h5 h hm
    · rename_i c' hs' x np nm b0 suite hp hds' e1 e2
      cases e1; cases e2
      simp only [Bool.and_eq_true, decide_eq_true_eq] at hq
      obtain ⟨⟨h1, h2⟩, h5⟩ := hq
      rcases List.mem_cons.mp hm with rfl | hm
      · intro d e; cases e
      · exact hdsB_c h5 h hm
    · cases hq
theorem wmany_ok {g : Gx} {subs : Nat → Nat → Option Bool} {K : PySem.W.Frag} {Wout : WX} {D : Ends} {i : Nat} {e : DL.D} {dd : Option Addr} {σ : L2.St} {H : Hp} (hx : ∀ i j b, subs i j = some b → PySem.W.exmOne K (.ref (g.ca i)) (.ref (g.ca j)) = some b) (q : D.rt (cvD e) H) : ∀ {hs : List (Nat × Option DL.D)}, findH subs i hs = some e → wMany K Wout D (hdL g hs) (.ref (g.ca i)) dd σ H
  | [], h => by cases h
  | (j, d) :: hs, h => by
    unfold findH at h
    split at h
    · rename_i e1
      have h : d = some e := h
      subst h
      exact ⟨true, hx _ _ _ e1, (fun _ a _ => q), (fun z => nomatch z)⟩
    · rename_i e1
      exact ⟨false, hx _ _ _ e1, (fun z => nomatch z), (fun _ => wmany_ok hx q h)⟩
    · cases h
/-- what the head tells of such a def -/
structure HrOk (g : Gx) (mg : Str → Option Value) (cl : List (Str × Nat)) (r : HR) : Prop where
  mgc : ∀ y c, cl.lookup y = some c → mg y = some (.ref (g.ca c))
  ex : ∃ (p : Arguments) (body : List Stmt) (sc : Scope) (f : Addr) (fd : FuncData), FunD g.K r.name r.name p body sc [] [] f fd ∧ mg r.name = some (.ref f) ∧ hrB cl r p body sc = true
theorem hn_ok {g : Gx} {P : Program} {w : World} {mg : Str → Option Value} {base : Heap} {gl : List (Str × D)} {cl : List (Str × Nat)} {subs : Nat → Nat → Option Bool} {cla : List (Str × Nat)} {r : HR} {hd : Rs D → Rs D} (M : MgOk g w mg gl cl subs) (h : HrOk g mg cla r) (eh : ∀ x, hd x = handD subs r.Hd x) : HnOk g P w mg base r.name hd := by
  obtain ⟨p, body, sc, f, fd, FD, hm, hb⟩ := h.ex
  unfold hrB at hb
  simp only [Bool.and_eq_true, decide_eq_true_eq, bne_iff_ne] at hb
  obtain ⟨⟨⟨⟨⟨⟨⟨b1, b2⟩, b3⟩, b4⟩, b5⟩, b6⟩, b7⟩, b8⟩ := hb
  have kp := FD.kp
  obtain ⟨oc, od, dV, kV, doc, pm, an, cdv, ct, osl, rfl, lk, hcd, hD, hK⟩ := FD.ex
  have eD : dV = .none := by
    rcases hD with ⟨_, e⟩ | ⟨e, _⟩
    · exact e
    · exact absurd rfl e
  subst eD
  have nd : (parN p).Nodup := by rw [b2]; simp
  have hbi : Binds g.K (PySem.W.fnOf r.name r.name p body sc .none kV doc pm an cdv ct) [r.a] [] := Binds.all fun us l => by
    rw [← b2] at l ⊢
    exact bind_plain b1 nd kV doc pm an cdv ct us l
  have hvis : Vis sc r.a := by
    unfold visB at b4
    split at b4
    · exact .inl (by assumption)
    · exact .inr (.inl (by assumption))
    · exact .inr (.inr (by assumption))
    · cases b4
  split at b8
  · rename_i b np cp ep hh hds tp e rp
    simp only [Bool.and_eq_true, beq_iff_eq] at b8
    obtain ⟨⟨c1, c2⟩, c3⟩ := b8
    subst c1
    have hcs := hdsB_c c3
    refine ⟨r.a, f, p, _, sc, .none, kV, doc, pm, cdv, ct, oc, an, od, osl, [r.a], subs, r.Hd, hm, kp, lk, hcd, hbi, scB_ok b3, rfl, hvis, beq_eq_false_iff_ne.mpr b5, beq_eq_false_iff_ne.mpr b6, eh, b7, hcs, ?_⟩
    intro X q eP ew eK emg eb
    intro fL c' s H Q tl act hc hq
    refine ⟨_, pss_cons (ps_try_n (X := (cxOf C8.CX0 X.prog X.w X.K X.mg X.base [r.a] r.name sc f cdv X.A X.stack s H C8.E0).nox)
      (tb := fun W D σ H => ∃ Ech : XK, (∀ cls d σ' H', Ech cls d H' → W cls d σ' H') ∧ σ[0]? = some (some (.ref fL)) ∧ H c' = some (LamX.CodeO c' q) ∧ tl Ech H (fun _ H' => D.nx σ H'))
      rfl rfl LamX.takes0 (fun W pn xe tk _ => ?_) (hds_ok (g := g) (sc := sc) rfl (fun y c hy => ?_) c3)) (pss_one (ps_ret (ckC0_pe c2 _))), ?_⟩
    · refine ⟨fun pins s' σ H' D I h' => ?_⟩
      obtain ⟨Ech, hW, h1, h2, h3⟩ := h'
      exact (pss_one (ps_expr (pos := ep) (act W pn xe Ech np cp tk hW))).run pins s' σ H' D I ⟨h1, h2, h3⟩
    · show X.mg y = _
      rw [emg]; exact h.mgc y c hy
    · refine ⟨fun cls _ H' => ∃ i d, cls = .ref (g.ca i) ∧ findH subs i r.Hd.hs = some d ∧ Q (cvD d) H', fun cls d σ' H' ⟨i, e, h1, h2, h3⟩ => ?_, rfl, hc, hq⟩
      subst h1
      refine wmany_ok (fun i j b z => ?_) h3 h2
      show PySem.W.exmOne X.K _ _ = _
      rw [eK]; exact M.exm i j b z
  · cases b8
theorem fn_step {g : Gx} {P : Program} {w : World} {mg : Str → Option Value} {base : Heap} {Pg : Pg} {gl : List (Str × D)} {cl : List (Str × Nat)} {cla : List (Str × Nat)} {rows : List FR} {hrs : List HR} (M : MgOk g w mg gl cl Pg.subs) (hP : ∀ r ∈ rows, Pg.fn r.id = some r.F) (hh : ∀ r ∈ hrs, HrOk g mg cla r) (hH : ∀ r ∈ hrs, Pg.hn r.id = some r.Hd) (hfa : ∀ f b, g.fa f = some b → ∃ r ∈ rows, r.id = f ∧ mg r.name = some (.ref b))
    {k : Nat} (ih : ∀ r ∈ rows, FnX g P w mg base (3 * k) r.name r.F.np (runF Pg k r.id)) {r : FR} (h : r ∈ rows) {p : Arguments} {body : List Stmt} {sc : Scope} {f : Addr} {oc : Value} {od : Option Addr} {dV kV doc pm : Value} {an : Option Addr} {cdv ct : Value} {osl : Array (Option Value)}
    (lk : g.K.lookup f = some ⟨oc, od, .func (PySem.W.fnOf r.name r.name p body sc dV kV doc pm an cdv ct), osl⟩) (hcd : PySem.W.codeIn g.K cdv r.name = true) (b2 : scB r.N (parN p) sc = true) (b3 : (parN p).length = r.F.np) (b4 : r.N.length = r.F.ns) (b5 : r.F.np ≤ r.F.ns)
    (b6 : ckSs ⟨r.N, gl, rows.map fun r => (r.name, r.id), cl, hrs.map fun r => (r.name, r.id), r.lam⟩ sc r.F.body body = true)
    (hlam : r.lam = true → ∃ c P, LamX.TabB base mg c P ∧ cdv = .ref c ∧ (P, (r.name ++ ".<locals>.") ++ "<lambda>") ∈ g.T ∧ ∀ p ∈ g.T, p.1 = P → p.2 = (r.name ++ ".<locals>.") ++ "<lambda>") :
    FnOk P w g.K mg base (L2.CX P w) (3 * (k + 1)) f (PySem.W.fnOf r.name r.name p body sc dV kV doc pm an cdv ct) (parN p) (spD g r.F.np (runF Pg (k + 1) r.id)) := by
  show FnOk P w g.K mg base (L2.CX P w) ((3 * k + 2) + 1) f _ (parN p) _
  have sco := scB_ok b2
  refine fn_of lk hcd sco (fun vs H Q E h => ?_) fun A outer s H vs Q E room h => ?_
  · obtain ⟨F, as, h1, h2, _⟩ := h
    rw [h2, b3]
  · obtain ⟨F, as, h1, h2, S, m⟩ := h
    refine ⟨_, Ss.ok (C := ⟨r.N, gl, rows.map fun r => (r.name, r.id), cl, hrs.map fun r => (r.name, r.id), r.lam⟩) (call := runF Pg k) (hand := handP Pg) (wf := Pg.wf) (k := 3 * k) (W := fun cls d _ H => E cls d H) sco.kind r.F.body body b6 ?_, body_ok b4 b5 h1 h2 S (ev := runF Pg (k + 1) r.id as) m ?_⟩
    · refine ⟨rfl, sco.nd, rfl, rfl, rfl, room.mono (by omega), takes_of rfl rfl rfl rfl, fun _ => passes_of rfl, fun _ _ => rfl, M.gl, M.blt, fun y id hy => ?_, fun f b hf => ?_, fun y c hy => ?_, fun y id hy => ?_, fun hl _ => ?_⟩
      · have hmem := lookup_mem hy
        obtain ⟨r', hr', e⟩ := List.mem_map.mp hmem
        cases e
        exact ⟨r'.F.np, told_run (hP r' hr'), ih r' hr'⟩
      · obtain ⟨r', hr', rfl, hm⟩ := hfa f b hf
        obtain ⟨f', fd, ps, mf, kf, bf, ok⟩ := (ih r' hr').ex
        rw [hm] at mf
        cases mf
        exact ⟨r'.F.np, fd, ps, told_run (hP r' hr'), kf, bf, ok⟩
      · obtain ⟨B, n1, n2, bm, a1, a2, a3, a4, a5, a6⟩ := M.cls y c hy
        exact ⟨B, n1, n2, bm, a1, a2, a3, a4, raises_own a5 a6⟩
      · have hmem := lookup_mem hy
        obtain ⟨r', hr', e⟩ := List.mem_map.mp hmem
        cases e
        exact hn_ok M (hh r' hr') fun x => by unfold handP; rw [hH r' hr']
      · obtain ⟨c, P, t1, t2, t3, t4⟩ := hlam hl
        exact ⟨room, c, P, t1, t2, t3, t4⟩
    · simp only [runF, hP r h]
      rw [if_pos ⟨by rw [h1, h2], b5⟩]
      all_goals rfl
theorem fns_ok {g : Gx} {P : Program} {w : World} {mg : Str → Option Value} {base : Heap} {Pg : Pg} {gl : List (Str × D)} {cl : List (Str × Nat)} {cla : List (Str × Nat)} {rows : List FR} {hrs : List HR} (M : MgOk g w mg gl cl Pg.subs)
    (hr : ∀ r ∈ rows, RowOk g mg base gl (rows.map fun r => (r.name, r.id)) cl (hrs.map fun r => (r.name, r.id)) r) (hP : ∀ r ∈ rows, Pg.fn r.id = some r.F) (hh : ∀ r ∈ hrs, HrOk g mg cla r) (hH : ∀ r ∈ hrs, Pg.hn r.id = some r.Hd) (hfa : ∀ f b, g.fa f = some b → ∃ r ∈ rows, r.id = f ∧ mg r.name = some (.ref b)) :
    ∀ k, ∀ r ∈ rows, FnX g P w mg base (3 * k) r.name r.F.np (runF Pg k r.id)
  | 0, r, h => by
    obtain ⟨p, body, sc, f, fd, FD, hm, hb, _⟩ := (hr r h).ex
    unfold frB at hb
    simp only [Bool.and_eq_true, decide_eq_true_eq] at hb
    obtain ⟨⟨⟨⟨⟨b1, b2⟩, b3⟩, b4⟩, b5⟩, b6⟩ := hb
    have sco := scB_ok b2
    have nd : (parN p).Nodup := by rw [← sco.pre]; exact (sco.nd.sublist (List.take_sublist _ _))
    refine ⟨f, fd, parN p, hm, FD.kp, Binds.all fun us l => ?_, ⟨fun vs H Q E h => ?_, fun A outer s H args us vs Q E _ _ _ _ h => ?_⟩⟩
    · obtain ⟨oc, od, dV, kV, doc, pm, an, cdv, ct, osl, rfl, lk, hcd, hD, hK⟩ := FD.ex
      rcases hD with ⟨_, rfl⟩ | ⟨e, _⟩
      · exact bind_plain b1 nd kV doc pm an cdv ct us l
      · exact absurd rfl e
    · obtain ⟨_, _, _, _, _, m⟩ := h
      exact m.elim
    · obtain ⟨_, _, _, _, _, m⟩ := h
      exact m.elim
  | k + 1, r, h => by
    obtain ⟨p, body, sc, f, fd, FD, hm, hb, hlam⟩ := (hr r h).ex
    unfold frB at hb
    simp only [Bool.and_eq_true, decide_eq_true_eq] at hb
    obtain ⟨⟨⟨⟨⟨b1, b2⟩, b3⟩, b4⟩, b5⟩, b6⟩ := hb
    have sco := scB_ok b2
    have nd : (parN p).Nodup := by rw [← sco.pre]; exact (sco.nd.sublist (List.take_sublist _ _))
    have kp := FD.kp
    obtain ⟨oc, od, dV, kV, doc, pm, an, cdv, ct, osl, rfl, lk, hcd, hD, hK⟩ := FD.ex
    refine ⟨f, PySem.W.fnOf r.name r.name p body sc dV kV doc pm an cdv ct, parN p, hm, kp, Binds.all fun us l => ?_, ?_⟩
    · rcases hD with ⟨_, rfl⟩ | ⟨e, _⟩
      · exact bind_plain b1 nd kV doc pm an cdv ct us l
      · exact absurd rfl e
    · exact fn_step M hP hh hH hfa (fun r' hr' => fns_ok M hr hP hh hH hfa k r' hr') h lk hcd b2 b3 b4 b5 b6 hlam
end DL

set_option Elab.async false
set_option linter.all false
set_option maxRecDepth 100000
set_option maxHeartbeats 4000000
/-! DL19: the end of a law. -/
namespace DL
open PySem PySem.Spec PyProof.Rows L2

mutual
/-- in the written part v bears d -/
def repK (K : PySem.W.Frag) : D → Value → Bool
  | .non, .none => true
  | .bl b, .bool c => b == c
  | .int i, .int j _ => decide (i = j)
  | .str x, .str y _ => y == Sx x && strB x
  | .tup ds, .ref a => match K.lookup a with
    | some o => (match o.cls with | .type t => decide (t = "tuple") | _ => false) && (match o.data with
      | .seq its _ => decide (its.size ≤ 16777216) && repKs K ds its.toList
      | _ => false)
    | none => false
  | _, _ => false
def repKs (K : PySem.W.Frag) : List D → List Value → Bool
  | [], [] => true
  | d :: ds, v :: vs => repK K d v && repKs K ds vs
  | _, _ => false
end
mutual
theorem repK_ok {K : PySem.W.Frag} : ∀ (d : D) {v : Value}, repK K d v = true → ∃ u, RelV u v ∧ ∀ (fa : Nat → Option Addr) F, Rp K fa F u d
  | .non, v, h => by cases v <;> first | exact ⟨.non, rfl, fun _ _ => .non⟩ | (simp [repK] at h; done)
  | .bl b, v, h => by
    cases v <;> first | (simp [repK] at h; done) | skip
    rename_i c
    have h : b = c := by simpa [repK] using h
    subst h
    exact ⟨.bl b, rfl, fun _ _ => .bl _⟩
  | .int i, v, h => by
    cases v <;> first | (simp [repK] at h; done) | skip
    rename_i j tk
    have h : i = j := by simpa [repK] using h
    subst h
    exact ⟨.int i, ⟨_, rfl⟩, fun _ _ => .int _⟩
  | .str x, v, h => by
    cases v <;> first | (simp [repK] at h; done) | skip
    simp only [repK, Bool.and_eq_true, beq_iff_eq] at h
    obtain ⟨rfl, h2⟩ := h
    exact ⟨.str (Sx x), ⟨_, rfl⟩, fun _ _ => .str _ h2⟩
  | .tup ds, v, h => by
    cases v <;> first | (simp [repK] at h; done) | skip
    rename_i a
    simp only [repK] at h
    split at h
    · rename_i o e
      simp only [Bool.and_eq_true] at h
      obtain ⟨h1, h2⟩ := h
      split at h1
      · rename_i t et
        have h1 := of_decide_eq_true h1
        subst h1
        split at h2
        · rename_i its n ed
          simp only [Bool.and_eq_true, decide_eq_true_eq] at h2
          obtain ⟨us, r, q⟩ := repKs_ok ds h2.2
          exact ⟨.ref a, rfl, fun fa F => .tup (.inr ⟨o, its, n, e, et, ed, by rw [sizeLine_eq]; exact h2.1, r⟩) (q fa F)⟩
        · cases h2
      · cases h1
    · cases h
  | .lst _, v, h => by cases v <;> simp [repK] at h
  | .dic _ _, v, h => by cases v <;> simp [repK] at h
  | .set _, v, h => by cases v <;> simp [repK] at h
  | .fn _, v, h => by cases v <;> simp [repK] at h
  | .frz _, v, h => by cases v <;> simp [repK] at h
theorem repKs_ok {K : PySem.W.Frag} : ∀ (ds : List D) {vs : List Value}, repKs K ds vs = true → ∃ us, Vals us vs ∧ ∀ (fa : Nat → Option Addr) F, Rps K fa F us ds
  | [], vs, h => by
    cases vs with
    | nil => exact ⟨[], .nil, fun _ _ => .nil⟩
    | cons _ _ => simp [repKs] at h
  | d :: ds, vs, h => by
    cases vs with
    | nil => simp [repKs] at h
    | cons v vs =>
      simp only [repKs, Bool.and_eq_true] at h
      obtain ⟨u, r, q⟩ := repK_ok d h.1
      obtain ⟨us, r2, q2⟩ := repKs_ok ds h.2
      exact ⟨u :: us, .cons r r2, fun fa F => .cons (q fa F) (q2 fa F)⟩
end
/-- the keys' texts -/
def keysS : List D → Option (List (List Nat)) := asStrs
def kdK (K : PySem.W.Frag) (a : Addr) : List D → List D → Bool
  | [], [] => true
  | .str x :: ks, d :: vs => strB x && (match PySem.W.nsIn K a (Sx x) with
    | some (some u) => repK K d u
    | _ => false) && kdK K a ks vs
  | _, _ => false
def tuK (K : PySem.W.Frag) (a : Addr) (ks : List D) : Bool := (match K.lookup a with
    | some o => o.dict.isNone
    | none => false) && (asStrs ks).isSome && repK K (.tup ks) (.ref a)
def conB (rn : Nat → Option Str) (K : PySem.W.Frag) (p : Str × D) : Bool := match PySem.W.nsIn K mainGlobals p.1 with
  | some (some v) => match p.2 with
    | .set [.dic ks vs] => (match v with | .ref a => kdK K a ks vs && He.ga K p.1 == a | _ => false)
    | .set _ => false
    | .tup ks => repK K (.tup ks) v && (!(asStrs ks).isSome || (match v with | .ref a => tuK K a ks | _ => false))
    | .fn f => (match v, rn f with | .ref a, some n => He.ga K n == a | _, _ => false)
    | d => repK K d v
  | _ => false
structure Lw where
  rows : List FR
  hrs : List HR
  nums : List (Str × Int)
  cons : List (Str × D)
  cls : List (Str × Nat)
  hc : List (Str × Nat)
  sub : List (Nat × Nat × Bool)
  tf : List Str
def Lw.gl (L : Lw) : List (Str × D) := (L.nums.map fun p => (p.1, D.int p.2)) ++ (L.rows.map fun r => (r.name, D.fn r.id)) ++ L.cons
def Lw.rowN (L : Lw) (f : Nat) : Option Str := (L.rows.find? fun r => r.id == f).map (·.name)
def Lw.ex (L : Lw) (K : PySem.W.Frag) : Bool := L.cons.all (conB L.rowN K)
/-- the written dicts -/
def tabOf (p : Str × D) : Option He.Tab := match p.2 with
  | .set [.dic ks _] => (asStrs ks).map fun ys => (fun K => He.ga K p.1, ys.map fun y => (Sx y : Str))
  | _ => none
def Lw.ts (L : Lw) : List He.Tab := L.cons.filterMap tabOf
def Lw.fnB (L : Lw) : Bool := L.rows.all fun r => L.rowN r.id == some r.name
def Lw.cl (L : Lw) : List (Str × Nat) := L.cls
/-- all classes: those that may be raised, and those that only clauses name -/
def Lw.cla (L : Lw) : List (Str × Nat) := L.cls ++ L.hc
def Lw.clN (L : Lw) (i : Nat) : Str := ((L.cla.find? fun p => p.2 == i).map (·.1)).getD ""
def Lw.clB (L : Lw) : Bool := L.cla.all fun p => L.clN p.2 == p.1
def Lw.subs (L : Lw) (i j : Nat) : Option Bool := (L.sub.find? fun t => t.1 == i && t.2.1 == j).map (·.2.2)
def Lw.fa (L : Lw) : List He.Fa := bltS.map .free ++ L.rows.map (fun r => .glo r.name) ++ L.hrs.map (fun r => .glo r.name) ++ L.nums.map (fun p => .int p.1 p.2) ++ L.cla.map (fun p => .glo p.1) ++ L.cls.map (fun p => .exc p.1) ++ L.sub.map fun t => .exm (L.clN t.1) (L.clN t.2.1) t.2.2
def Lw.fns (L : Lw) : List (Str × Nat) := L.rows.map fun r => (r.name, r.id)
def Lw.hns (L : Lw) : List (Str × Nat) := L.hrs.map fun r => (r.name, r.id)
def mkD : Stmt → Option He.DefD
  | .FunctionDef n a b _ _ _ sc _ _ _ => some ⟨(n, none), n, n, a, b, sc, [], []⟩
  | _ => none
def Lw.names (L : Lw) : List Str := L.rows.map (·.name) ++ L.hrs.map (·.name)
def Lw.fn (L : Lw) (main : List Stmt) : List He.DefD := (main.filterMap mkD).filter fun d => L.names.contains d.name
def plainD (d : He.DefD) (n : Str) : Bool := d.name == n && decide (d.at_ = (n, none)) && d.qual == n && d.dfl.isEmpty && d.kwd.isEmpty
def Lw.rowB (L : Lw) (fn : List He.DefD) (r : FR) : Bool := fn.any fun d => plainD d r.name && frB L.gl L.fns L.cl L.hns r d.params d.body d.scope
def Lw.hrB (L : Lw) (fn : List He.DefD) (r : HR) : Bool := fn.any fun d => plainD d r.name && DL.hrB L.cla r d.params d.body d.scope
def Lw.ok (L : Lw) (fn : List He.DefD) : Bool := L.clB && L.fnB && (L.rows.all fun r => L.rowB fn r && (!r.lam || decide (L.tf = [r.name]))) && L.hrs.all (L.hrB fn)
def Lw.defns (L : Lw) : List He.Defn := L.tf.map fun n => (n, none)
def Lw.g (L : Lw) (K : PySem.W.Frag) : Gx := { K := K, fa := fun f => (L.rowN f).map (He.ga K), T := L.tf.map fun n => ((He.cT K (n, none)).2, (n ++ ".<locals>.") ++ "<lambda>"), ca := fun i => He.ga K (L.clN i), an := fun _ => none }
theorem plainD_ok {d : He.DefD} {n : Str} (h : plainD d n = true) : d.name = n ∧ d.at_ = (n, none) ∧ d.qual = n ∧ d.dfl = [] ∧ d.kwd = [] := by
  simp only [plainD, Bool.and_eq_true, beq_iff_eq, decide_eq_true_eq, List.isEmpty_iff] at h
  obtain ⟨⟨⟨⟨h1, h2⟩, h3⟩, h4⟩, h5⟩ := h
  exact ⟨h1, h2, h3, h4, h5⟩
section
variable {L : Lw} {w : World} {K : PySem.W.Frag} {h : Heap} {mg : Str → Option Value} {fn : List He.DefD} {ex : PySem.W.Frag → Bool} {Pg : Pg} {base : Heap}
theorem map_lookup {α : Type} {β : Type} [BEq α] [LawfulBEq α] {γ : Type} {f : β → γ} : ∀ {l : List (α × β)} {y : α} {d : γ}, (l.map fun p => (p.1, f p.2)).lookup y = some d → ∃ b, (y, b) ∈ l ∧ f b = d
  | [], _, _, h => by cases h
  | (a, b) :: l, y, d, h => by
    rw [List.map_cons, List.lookup_cons] at h
    by_cases q : y = a
    · subst q; simp at h; exact ⟨b, List.mem_cons_self, h⟩
    · rw [beq_eq_false_iff_ne.mpr q] at h
      obtain ⟨b, h1, h2⟩ := map_lookup h
      exact ⟨b, List.mem_cons_of_mem _ h1, h2⟩
theorem asStrs_k {ks : List D} {ys : List (List Nat)} (h : asStrs ks = some ys) : ks = ys.map D.str := by
  induction ks generalizing ys with
  | nil => cases h; rfl
  | cons k ks ih =>
    cases k <;> first | (cases h; done) | skip
    unfold asStrs at h
    obtain ⟨zs, e1, rfl⟩ := Option.map_eq_some_iff.mp h
    rw [ih e1]; rfl
theorem kdK_val {a : Addr} {x : List Nat} : ∀ {ks vs : List D}, kdK K a ks vs = true → (match dGet ks vs (.str x) with
    | some d => ∃ u v, PySem.W.nsIn K a (Sx x) = some (some u) ∧ RelV v u ∧ ∀ fa F, Rp K fa F v d
    | none => D.str x ∉ ks) ∧ dHas ks (.str x) = (dGet ks vs (.str x)).isSome
  | [], [], _ => ⟨by simp [dGet], rfl⟩
  | [], _ :: _, h => by simp [kdK] at h
  | k :: ks, [], h => by cases k <;> simp [kdK] at h
  | k :: ks, d :: vs, h => by
    cases k <;> first | (simp [kdK] at h; done) | skip
    rename_i y
    simp only [kdK, Bool.and_eq_true] at h
    obtain ⟨⟨h1, h2⟩, h3⟩ := h
    obtain ⟨ih1, ih2⟩ := kdK_val (x := x) h3
    have e1 : D.same (.str y) (.str x) = decide (y = x) := by simp only [D.same]
    by_cases e : y = x
    · subst e
      have eg : dGet (.str y :: ks) (d :: vs) (.str y) = some d := by simp only [dGet, e1, decide_true, if_true]
      refine ⟨?_, ?_⟩
      · rw [eg]
        split at h2
        · rename_i u eu
          obtain ⟨v, r, q⟩ := repK_ok d h2
          exact ⟨u, v, eu, r, q⟩
        · cases h2
      · rw [eg]; unfold dHas; rw [List.any_cons, e1, decide_eq_true rfl]; rfl
    · have eg : dGet (.str y :: ks) (d :: vs) (.str x) = dGet ks vs (.str x) := by simp only [dGet, e1, decide_eq_false e, if_neg, Bool.false_eq_true]; rfl
      refine ⟨?_, ?_⟩
      · rw [eg]
        split at ih1
        · exact ih1
        · intro hm
          rcases List.mem_cons.mp hm with z | z
          · exact e (D.str.inj z).symm
          · exact ih1 z
      · rw [eg]; unfold dHas at ih2 ⊢; rw [List.any_cons, e1, decide_eq_false e, Bool.false_or]; exact ih2
/-- no such key in a written dict -/
theorem dicW_miss {a : Addr} {ks : List Str} {x : Str} (h : He.dicW K a = some (He.keysIn w.params ks)) (n : x ∉ ks) : PySem.W.nsIn K a x = some none := by
  have key : ∀ {l : List DictEntry} {ks : List Str}, l.map He.keyOf = He.keysIn w.params ks → x ∉ ks → l.find? (·.key.isStr x) = none ∧ l.any (·.refKey) = false := by
    intro l
    induction l with
    | nil => intro ks _ _; exact ⟨rfl, rfl⟩
    | cons e l ih =>
      intro ks h n
      cases ks with
      | nil => cases h
      | cons k ks =>
        have h1 : He.keyOf e :: l.map He.keyOf = some (k, PyData.keyHash w.params k) :: He.keysIn w.params ks := h
        injection h1 with h2 h3
        obtain ⟨i1, i2⟩ := ih h3 fun z => n (List.mem_cons_of_mem _ z)
        unfold He.keyOf at h2
        split at h2
        · rename_i y t q
          obtain ⟨h5, h6⟩ := Prod.mk.inj (Option.some.inj h2)
          have nk : y ≠ x := fun z => n (by rw [← z, h5]; exact List.mem_cons_self)
          refine ⟨?_, ?_⟩
          · rw [List.find?_cons]
            have : e.key.isStr x = false := by
              rw [q]
              show (y == x) = false
              exact beq_eq_false_iff_ne.mpr nk
            rw [this]; exact i1
          · rw [List.any_cons, i2]
            have : e.refKey = false := by unfold DictEntry.refKey; rw [q]
            rw [this]; rfl
        · cases h2
  unfold He.dicW at h
  split at h
  · rename_i c es nn sl hl
    split at h
    · obtain ⟨k1, k2⟩ := key (Option.some.inj h) n
      unfold PySem.W.nsIn
      rw [hl]
      dsimp only
      rw [k1, k2]
      rfl
    · cases h
  · cases h
theorem Lw.con_ok (L : Lw) {y : Str} {d : D} (KX : K.In base) (G : base.Ns mainGlobals mg) (S : He.SaysT L.fa fn L.ts w K) (hc : L.ex K = true) (hm : (y, d) ∈ L.cons) : GlOk (L.g K) w mg y d := by
  unfold Lw.ex at hc
  have hb := List.all_eq_true.mp hc _ hm
  unfold conB at hb
  split at hb
  · rename_i v e
    have em := PySem.W.mg_of KX G e
    split at hb
    · rename_i ks vs ed
      have ed : d = _ := ed
      subst ed
      split at hb
      · rename_i a
        simp only [Bool.and_eq_true, beq_iff_eq] at hb
        obtain ⟨hb, hg⟩ := hb
        have hs : ∃ ys, asStrs ks = some ys := by
          have key : ∀ {ks vs : List D}, kdK K a ks vs = true → ∃ ys, asStrs ks = some ys := by
            intro ks
            induction ks with
            | nil => intro _ _; exact ⟨[], rfl⟩
            | cons k ks ih =>
              intro vs h
              cases vs with
              | nil => cases k <;> simp [kdK] at h
              | cons d vs =>
                cases k <;> first | (simp [kdK] at h; done) | skip
                rename_i x
                simp only [kdK, Bool.and_eq_true] at h
                obtain ⟨ys, e⟩ := ih h.2
                exact ⟨x :: ys, by unfold asStrs; rw [e]; rfl⟩
          exact key hb
        obtain ⟨ys, hs⟩ := hs
        have ht : (fun K => He.ga K y, ys.map fun y => (Sx y : Str)) ∈ L.ts := by
          unfold Lw.ts
          rw [List.mem_filterMap]
          exact ⟨_, hm, by unfold tabOf; simp only [hs]; rfl⟩
        have ed : L.ts.map (fun t => He.dicW K (t.1 K)) = L.ts.map fun t => some (He.keysIn w.params t.2) := congrArg (fun z : He.AlT => z.2) S
        have edw := List.map_inj_left.mp ed _ ht
        simp only [hg] at edw
        obtain ⟨es, n, KD⟩ := He.dicW_ok edw
        refine ⟨a, em, es, n, KD, fun x sx => ?_⟩
        obtain ⟨k1, k2⟩ := kdK_val (x := x) hb
        refine ⟨?_, k2⟩
        split at k1
        · rename_i d0 e0
          obtain ⟨u, v, a1, a2, a3⟩ := k1
          try rw [e0]
          exact ⟨u, v, a1, a2, fun F => a3 _ F⟩
        · rename_i e0
          try rw [e0]
          refine dicW_miss edw fun hx => ?_
          obtain ⟨z, hz, ez⟩ := List.mem_map.mp hx
          have ez : z = x := congrArg (fun s : Str => s.cps.toList) ez
          subst ez
          exact k1 (by rw [asStrs_k hs]; exact List.mem_map.mpr ⟨_, hz, rfl⟩)
      · cases hb
    · cases hb
    · rename_i ks ed
      have ed : d = _ := ed
      subst ed
      simp only [Bool.and_eq_true] at hb
      obtain ⟨h0, hb⟩ := hb
      obtain ⟨u, r, q⟩ := repK_ok _ h0
      refine ⟨⟨v, u, em, r, fun F => q _ F⟩, fun hs0 => ?_⟩
      rw [hs0, Bool.not_true, Bool.false_or] at hb
      split at hb
      · rename_i a
        unfold tuK at hb
        simp only [Bool.and_eq_true] at hb
        obtain ⟨⟨h1, h2⟩, _⟩ := hb
        obtain ⟨ys, hs⟩ := Option.isSome_iff_exists.mp h2
        split at h1
        · rename_i o eo
          have q0 := q (fun _ => none) (fun _ => none)
          cases q0 with | tup t1 t2 =>
          cases r
          have ev := asStrs_eq hs t2
          rcases t1 with t1 | ⟨o2, its, n, l1, l2, l3, l4, l5⟩
          · rcases t1 with t1 | ⟨_, t1⟩ <;> cases t1
          · rw [eo] at l1
            cases l1
            refine ⟨a, em, o, ys, eo, l2, by simpa using h1, hs, fun H => .inr ⟨o, its, n, eo, l2, l3, l4, ?_⟩⟩
            rw [ev, List.map_map] at l5
            exact l5
        · cases h1
      · cases hb
    · rename_i f ed
      have ed : d = _ := ed
      subst ed
      split at hb
      · rename_i a n0 hr
        have hb := beq_iff_eq.mp hb
        refine ⟨.ref a, .ref a, em, rfl, fun F => .fn ?_⟩
        show (L.rowN f).map (He.ga K) = _
        rw [hr, ← hb]; rfl
      · cases hb
    · obtain ⟨u, r, q⟩ := repK_ok d hb
      have : ∃ u v, mg y = some u ∧ RelV v u ∧ ∀ F, Rp (L.g K).K (L.g K).fa F v d := ⟨v, u, em, r, fun F => q _ F⟩
      cases d <;> first | exact this | (simp [repK] at hb; done) | (exfalso; rename_i n1 n2; exact n1 _ rfl)
  · cases hb
theorem Lw.mgOk (L : Lw) (cb : L.clB = true) (fb : L.fnB = true) (KX : K.In base) (G : base.Ns mainGlobals mg) (ST : He.SaysT L.fa fn L.ts w K) (hc : L.ex K = true) : MgOk (L.g K) w mg L.gl L.cl L.subs := by
  have S := ST.d
  have fact : ∀ f ∈ L.fa, f.ok K = true := fun f hf => S.facts hf
  have m1 : ∀ {x : He.Fa}, x ∈ bltS.map He.Fa.free → x ∈ L.fa := fun hx => by simp only [Lw.fa, List.mem_append]; exact .inl (.inl (.inl (.inl (.inl (.inl hx)))))
  have m4 : ∀ {x : He.Fa}, x ∈ L.nums.map (fun p => He.Fa.int p.1 p.2) → x ∈ L.fa := fun hx => by simp only [Lw.fa, List.mem_append]; exact .inl (.inl (.inl (.inr hx)))
  have m5 : ∀ {x : He.Fa}, x ∈ L.cla.map (fun p => He.Fa.glo p.1) → x ∈ L.fa := fun hx => by simp only [Lw.fa, List.mem_append]; exact .inl (.inl (.inr hx))
  have m6 : ∀ {x : He.Fa}, x ∈ L.cls.map (fun p => He.Fa.exc p.1) → x ∈ L.fa := fun hx => by simp only [Lw.fa, List.mem_append]; exact .inl (.inr hx)
  have m7 : ∀ {x : He.Fa}, x ∈ (L.sub.map fun t => He.Fa.exm (L.clN t.1) (L.clN t.2.1) t.2.2) → x ∈ L.fa := fun hx => by simp only [Lw.fa, List.mem_append]; exact .inr hx
  refine ⟨fun y d hy => ?_, fun y hy => ?_, fun y c hy => ?_, fun i j b hb => ?_⟩
  · have hm := lookup_mem hy
    unfold Lw.gl at hm
    rcases List.mem_append.mp hm with hm | hm
    rcases List.mem_append.mp hm with hm | hm
    · obtain ⟨⟨y', i⟩, hi, e⟩ := List.mem_map.mp hm
      cases e
      obtain ⟨t, ht⟩ := He.int_ok KX G (fact (.int y' i) (m4 (List.mem_map.mpr ⟨_, hi, rfl⟩)))
      exact (⟨_, .int i, ht, ⟨t, rfl⟩, fun F => .int i⟩ : ∃ u v, mg y' = some u ∧ RelV v u ∧ ∀ F, Rp (L.g K).K (L.g K).fa F v (.int i))
    · obtain ⟨r, hr, e⟩ := List.mem_map.mp hm
      cases e
      unfold Lw.fnB at fb
      have hb := beq_iff_eq.mp (List.all_eq_true.mp fb r hr)
      refine ⟨.ref (He.ga K r.name), .ref (He.ga K r.name), ?_, rfl, fun F => .fn ?_⟩
      · refine He.glo_ok KX G (fact _ ?_)
        simp only [Lw.fa, List.mem_append]
        exact .inl (.inl (.inl (.inl (.inl (.inr (List.mem_map.mpr ⟨r, hr, rfl⟩))))))
      · show (L.rowN r.id).map (He.ga K) = _
        rw [hb]; rfl
    · exact L.con_ok KX G ST hc hm
  · exact He.free_ok KX G (fact _ (m1 (List.mem_map.mpr ⟨y, hy, rfl⟩)))
  · have hy : (y, c) ∈ L.cls := lookup_mem hy
    have en : L.clN c = y := by
      unfold Lw.clB at cb
      have := List.all_eq_true.mp cb _ (List.mem_append_left _ hy)
      exact beq_iff_eq.mp this
    obtain ⟨e1, e2, e3, e4⟩ := He.exc_ok (fact _ (m6 (List.mem_map.mpr ⟨(y, c), hy, rfl⟩)))
    have e5 := He.glo_ok KX G (fact _ (m5 (List.mem_map.mpr ⟨(y, c), List.mem_append_left _ hy, rfl⟩)))
    have eg : (L.g K).ca c = He.ga K y := by show He.ga K (L.clN c) = _; rw [en]
    rw [eg]
    exact ⟨_, _, _, _, PySem.F.excBase_ValueError, e1, e5, e2, e3, e4⟩
  · obtain ⟨t, ht, e⟩ := Option.map_eq_some_iff.mp hb
    have hp := List.find?_some ht
    simp only [Bool.and_eq_true, beq_iff_eq] at hp
    have := He.exm_ok (fact _ (m7 (List.mem_map.mpr ⟨t, List.mem_of_find?_eq_some ht, rfl⟩)))
    rw [← hp.1, ← hp.2, ← e]
    exact this
theorem Lw.glo (L : Lw) (KX : K.In base) (G : base.Ns mainGlobals mg) (S : He.SaysD L.fa fn K) {n : Str} (hn : n ∈ L.names) : mg n = some (.ref (He.ga K n)) := by
  refine He.glo_ok KX G (S.facts ?_)
  simp only [Lw.fa, List.mem_append]
  unfold Lw.names at hn
  rcases List.mem_append.mp hn with hn | hn
  · obtain ⟨r, hr, e⟩ := List.mem_map.mp hn
    exact .inl (.inl (.inl (.inl (.inl (.inr (List.mem_map.mpr ⟨r, hr, by rw [e]⟩))))))
  · obtain ⟨r, hr, e⟩ := List.mem_map.mp hn
    exact .inl (.inl (.inl (.inl (.inr (List.mem_map.mpr ⟨r, hr, by rw [e]⟩)))))
theorem Lw.funD (S : He.SaysD L.fa fn K) {n : Str} {d : He.DefD} (hd : d ∈ fn) (hp : plainD d n = true) : ∃ fd, FunD K n n d.params d.body d.scope [] [] (He.ga K n) fd := by
  obtain ⟨e1, e2, e3, e4, e5⟩ := plainD_ok hp
  obtain ⟨fd, F⟩ := S.defs hd
  refine ⟨fd, ?_⟩
  have f2 : d.dvs K = [] := by unfold He.DefD.dvs; rw [e4]; rfl
  have f3 : d.kws K = [] := by unfold He.DefD.kws; rw [e5]; rfl
  have f4 : He.fAd K d.at_ = He.ga K n := by rw [e2]; rfl
  rw [e1, e3, f2, f3, f4] at F
  exact F
theorem Lw.rowOk (L : Lw) (KX : K.In base) (G : base.Ns mainGlobals mg) (S : He.SaysD L.fa fn K) (ok : L.ok fn = true) (tb : ∀ p ∈ L.defns.map (He.cT K), LamX.TabB base mg p.1 p.2) {r : FR} (hr : r ∈ L.rows) : RowOk (L.g K) mg base L.gl L.fns L.cl L.hns r := by
  unfold Lw.ok at ok
  simp only [Bool.and_eq_true, List.all_eq_true] at ok
  obtain ⟨h1, h2⟩ := ok.1.2 r hr
  obtain ⟨d, hd, h3⟩ := List.any_eq_true.mp h1
  obtain ⟨h4, h5⟩ := Bool.and_eq_true_iff.mp h3
  obtain ⟨fd, F⟩ := Lw.funD S hd h4
  refine ⟨d.params, d.body, d.scope, _, fd, F, L.glo KX G S (List.mem_append_left _ (List.mem_map.mpr ⟨r, hr, rfl⟩)), h5, fun hl => ?_⟩
  rw [hl] at h2
  have htf : L.tf = [r.name] := by simpa using h2
  obtain ⟨oc, od, dV, kV, doc, pm, an, cdv, ct, osl, rfl, lk, hcd, _, _⟩ := F.ex
  obtain ⟨c, ec⟩ := He.codeIn_ref hcd
  have hc : He.codeOf K (r.name, none) = c := He.codeOf_eq (p := (r.name, none)) lk ec
  refine ⟨c, (He.cT K (r.name, none)).2, ?_, ec, ?_, fun p hp hq => ?_⟩
  · have := tb (He.cT K (r.name, none)) (List.mem_map.mpr ⟨_, by unfold Lw.defns; rw [htf]; exact List.mem_cons_self, rfl⟩)
    have e1 : (He.cT K (r.name, none)).1 = c := hc
    rw [e1] at this
    exact this
  · show _ ∈ L.tf.map _
    rw [htf]
    exact List.mem_cons_self
  · have hp : p ∈ L.tf.map fun n => ((He.cT K (n, none)).2, (n ++ ".<locals>.") ++ "<lambda>") := hp
    rw [htf] at hp
    simp only [List.map_cons, List.map_nil, List.mem_singleton] at hp
    rw [hp]
theorem Lw.hrOk (L : Lw) (KX : K.In base) (G : base.Ns mainGlobals mg) (S : He.SaysD L.fa fn K) (ok : L.ok fn = true) {r : HR} (hr : r ∈ L.hrs) : HrOk (L.g K) mg L.cla r := by
  unfold Lw.ok at ok
  simp only [Bool.and_eq_true, List.all_eq_true] at ok
  have h1 := ok.2 r hr
  obtain ⟨d, hd, h3⟩ := List.any_eq_true.mp h1
  obtain ⟨h4, h5⟩ := Bool.and_eq_true_iff.mp h3
  obtain ⟨fd, F⟩ := Lw.funD S hd h4
  refine ⟨fun y c hy => ?_, d.params, d.body, d.scope, _, fd, F, L.glo KX G S (List.mem_append_right _ (List.mem_map.mpr ⟨r, hr, rfl⟩)), h5⟩
  have hy : (y, c) ∈ L.cla := lookup_mem hy
  have en : L.clN c = y := by
    have cb := ok.1.1.1
    unfold Lw.clB at cb
    exact beq_iff_eq.mp (List.all_eq_true.mp cb _ hy)
  show mg y = some (.ref (He.ga K (L.clN c)))
  rw [en]
  refine He.glo_ok KX G (S.facts ?_)
  simp only [Lw.fa, List.mem_append]
  exact .inl (.inl (.inr (List.mem_map.mpr ⟨(y, c), hy, rfl⟩)))
def seeF (a : Addr) (H : Hp) : Hp := fun b => if b = a then (match H b with | some (.tbl _) => none | o => o) else none
theorem seeF_sub {a : Addr} {H : Hp} : Sub (seeF a H) H := fun b o h => by
  unfold seeF at h
  split at h
  · split at h
    · cases h
    · exact h
  · cases h
theorem seeF_tbl {a b : Addr} {H : Hp} {ps : Array Value} : seeF a H b ≠ some (.tbl ps) := fun h => by
  unfold seeF at h
  split at h
  · split at h
    · cases h
    · rename_i hn; exact hn ps h
  · cases h
theorem seeF_sq {a : Addr} {H : Hp} {vs : List V} (h : SqL K H a vs) : SqL K (seeF a H) a vs := by
  refine h.imp (fun h => ?_) id
  have key : ∀ o, (∀ ps, o ≠ HO.tbl ps) → H a = some o → seeF a H a = some o := fun o n e => by
    unfold seeF
    rw [if_pos rfl, e]
    cases o <;> first | rfl | exact absurd rfl (n _)
  rcases h with h | ⟨o, h⟩
  · exact .inl (key _ (fun ps z => by cases z) h)
  · exact .inr ⟨o, key _ (fun ps z => by cases z) h⟩
/-- the law's promise -/
theorem Lw.at (L : Lw) {l : PySem.W.OpenLaw} {fa : Addr} {k n : Nat} {r : FR} {x : Str} (KX : K.In h) (G : h.Ns mainGlobals mg) (S : He.SaysX L.fa fn L.ts L.defns L.ex w h K) (ok : L.ok fn = true)
    (hP : ∀ r ∈ L.rows, Pg.fn r.id = some r.F) (hH : ∀ r ∈ L.hrs, Pg.hn r.id = some r.Hd) (hs : Pg.subs = L.subs) (hr : r ∈ L.rows) (hmg : mg r.name = some (.ref fa)) (hn1 : r.F.np = 1) (hx : r.N.head? = some x)
    (law : ∀ ns : List Int, ns.length ≤ n → (∀ z ∈ ns, Builtin.Int.intBits z ≤ 1048576) → ∃ w outs, runF Pg (k + 1) r.id [.val (.frz (ns.map D.int))] = .ok (w, .bl true, outs)) :
    LamX.LawAtS l w K (L2.CX l.prog w) (3 * (k + 1)) n x mg fa h := by
  have SD := S.t.d
  have M : ∀ {base : Heap}, K.In base → base.Ns mainGlobals mg → MgOk (L.g K) w mg L.gl L.cl Pg.subs := fun kx gx => by rw [hs]; exact L.mgOk (by unfold Lw.ok at ok; simp only [Bool.and_eq_true] at ok; exact ok.1.1.1) (by unfold Lw.ok at ok; simp only [Bool.and_eq_true] at ok; exact ok.1.1.2) kx gx S.t S.more
  have ok0 := ok
  unfold Lw.ok at ok
  simp only [Bool.and_eq_true, List.all_eq_true] at ok
  obtain ⟨h1, h2⟩ := ok.1.2 r hr
  obtain ⟨d, hd, h3⟩ := List.any_eq_true.mp h1
  obtain ⟨h4, h5⟩ := Bool.and_eq_true_iff.mp h3
  obtain ⟨fd, FD⟩ := Lw.funD SD hd h4
  have efa : fa = He.ga K r.name := by
    have := L.glo KX G SD (n := r.name) (List.mem_append_left _ (List.mem_map.mpr ⟨r, hr, rfl⟩))
    rw [hmg] at this
    cases this; rfl
  subst efa
  obtain ⟨oc, od, dV, kV, doc, pm, an, cdv, ct, osl, rfl, lk, hcd, hD, hK⟩ := FD.ex
  have eD : dV = .none := by
    rcases hD with ⟨_, e⟩ | ⟨e, _⟩
    · exact e
    · exact absurd rfl e
  subst eD
  have hb5 := h5
  unfold frB at hb5
  simp only [Bool.and_eq_true, decide_eq_true_eq] at hb5
  obtain ⟨⟨⟨⟨⟨b1, b2⟩, b3⟩, b4⟩, b5⟩, b6⟩ := hb5
  have sco := scB_ok b2
  have nd : (parN d.params).Nodup := by rw [← sco.pre]; exact (sco.nd.sublist (List.take_sublist _ _))
  have ep : parN d.params = [x] := by
    have l1 : (parN d.params).length = 1 := by rw [b3]; exact hn1
    have h6 := sco.pre
    rw [l1] at h6
    cases hN : r.N with
    | nil => rw [hN] at hx; cases hx
    | cons y ys =>
      rw [hN] at hx h6
      cases hx
      simp at h6
      exact h6.symm
  refine ⟨PySem.W.fnOf r.name r.name d.params d.body d.scope .none kV doc pm an cdv ct, L.defns.map (He.cT K), spD (L.g K) 1 (runF Pg (k + 1) r.id), fun p hp => ?_, fun p hp => ?_, fun p hp => ?_, fun s u => ?_, fun H a ns hl hb hT hS => ?_, fun base kx gx tb => ?_⟩
  · obtain ⟨q, hq, e⟩ := List.mem_map.mp hp
    subst e; exact S.empty q hq
  · obtain ⟨q, hq, e⟩ := List.mem_map.mp hp
    subst e; exact S.out q hq
  · obtain ⟨q, hq, e⟩ := List.mem_map.mp hp
    subst e; exact PySem.W.codeHd_of_K KX (S.hd q hq)
  · have := bind_plain (x := r.name) (qual := r.name) (body := d.body) (scope := d.scope) b1 nd kV doc pm an cdv ct [u] (by rw [ep]; rfl)
    rw [ep] at this
    exact BindsTo.of_eq this
  · obtain ⟨w', outs, e⟩ := law ns hl hb
    refine ⟨seeF a H, [.val (.frz (ns.map D.int))], rfl, rfl, ⟨seeF_sub, fun p hp => ?_, fun a ps => seeF_tbl, rfl, fun i s hi => ?_, fun i j a h1 _ => ?_⟩, ?_⟩
    · have hp : p ∈ L.tf.map fun n => ((He.cT K (n, none)).2, (n ++ ".<locals>.") ++ "<lambda>") := hp
      obtain ⟨q, hq, e⟩ := List.mem_map.mp hp
      subst e
      exact LamX.TabS.nil (hT (He.cT K (q, none)) (List.mem_map.mpr ⟨(q, none), List.mem_map.mpr ⟨q, hq, rfl⟩, rfl⟩))
    · cases i with
      | zero =>
        simp [slOf] at hi
        subst hi
        exact ⟨_, rfl, .frz (seeF_sq hS) (Rps.ofInts ns)⟩
      | succ i => simp at hi
    · obtain ⟨h1, _⟩ := h1
      cases i with
      | zero => rcases h1 with ⟨_, h1⟩ | ⟨_, h1⟩ <;> simp [slOf] at h1
      | succ i => simp at h1
    · rw [e]
      intro v F' H' _ _ rr
      cases w' with
      | false => cases rr; rfl
      | true =>
        obtain ⟨_, _, _, _, c⟩ := rr
        exact c.elim
  · have hrow : ∀ r ∈ L.rows, RowOk (L.g K) mg base L.gl L.fns L.cl L.hns r := fun r hr => L.rowOk kx gx SD ok0 tb hr
    have hhr : ∀ r ∈ L.hrs, HrOk (L.g K) mg L.cla r := fun r hr => L.hrOk kx gx SD ok0 hr
    have hlam : r.lam = true → ∃ c P, LamX.TabB base mg c P ∧ cdv = .ref c ∧ (P, (r.name ++ ".<locals>.") ++ "<lambda>") ∈ (L.g K).T ∧ ∀ p ∈ (L.g K).T, p.1 = P → p.2 = (r.name ++ ".<locals>.") ++ "<lambda>" := fun hl => by
      obtain ⟨p2, body2, sc2, f2, fd2, FD2, e2, _, e4⟩ := (hrow r hr).ex
      rw [hmg] at e2
      cases e2
      obtain ⟨oc2, od2, dV2, kV2, doc2, pm2, an2, cdv2, ct2, osl2, rfl, lk2, _⟩ := FD2.ex
      have lk2' : K.lookup (He.ga K r.name) = _ := lk2
      rw [lk] at lk2'
      cases lk2'
      exact e4 hl
    have hfa : ∀ f b, (L.g K).fa f = some b → ∃ r ∈ L.rows, r.id = f ∧ mg r.name = some (.ref b) := fun f b hf => by
      have hf : (L.rowN f).map (He.ga K) = some b := hf
      obtain ⟨y, hy, rfl⟩ := Option.map_eq_some_iff.mp hf
      unfold Lw.rowN at hy
      obtain ⟨r, hr, rfl⟩ := Option.map_eq_some_iff.mp hy
      exact ⟨r, List.mem_of_find?_eq_some hr, (by have := List.find?_some hr; exact beq_iff_eq.mp this), L.glo kx gx SD (List.mem_append_left _ (List.mem_map.mpr ⟨r, List.mem_of_find?_eq_some hr, rfl⟩))⟩
    have := fn_step (P := l.prog) (w := w) (base := base) (M kx gx) hP hhr hH hfa (fun r' hr' => fns_ok (P := l.prog) (w := w) (base := base) (M kx gx) hrow hP hhr hH hfa k r' hr') hr lk hcd b2 b3 b4 b5 b6 hlam
    rw [ep, hn1] at this
    exact this
end
end DL

set_option Elab.async false
set_option linter.all false
set_option maxRecDepth 100000
set_option maxHeartbeats 4000000
/-! DLM: runs of the small language. -/
namespace DL
theorem runF_rt {P : Pg} {k f : Nat} {F : Fn} {as : List Arg} {o : Bool} {d : D} {ε : En} {outs : List D} (h : P.fn f = some F) (l : as.length = F.np ∧ F.np ≤ F.ns) (e : exSs (runF P k) (handP P) P.wf F.body (startE F.ns as) = .rt o d ε) (ho : outsE ε 0 as = some outs) :
    runF P (k + 1) f as = .ok (o, d, outs) := by
  unfold runF
  rw [h]
  simp only
  rw [if_pos l, e]
  simp only [ho, Rs.opt, Rs.bind]
theorem runF_nx {P : Pg} {k f : Nat} {F : Fn} {as : List Arg} {ε : En} {outs : List D} (h : P.fn f = some F) (l : as.length = F.np ∧ F.np ≤ F.ns) (e : exSs (runF P k) (handP P) P.wf F.body (startE F.ns as) = .nx ε) (ho : outsE ε 0 as = some outs) :
    runF P (k + 1) f as = .ok (false, .non, outs) := by
  unfold runF
  rw [h]
  simp only
  rw [if_pos l, e]
  simp only [ho, Rs.opt, Rs.bind]
def sl : Option D → Sl
  | none => .no
  | some d => .val d
/-- a cup -/
structure Cup (d : D) : Prop where
  ex : ∃ a b : Int, d = .lst [.int a, .int b] ∧ 0 ≤ a ∧ 0 ≤ b ∧ b < 2147483648
theorem fdiv_nn {a b : Int} (h : 0 ≤ b) : a.fdiv b = a / b := Int.fdiv_eq_ediv_of_nonneg a h
theorem fmod_nn {a b : Int} (h : 0 ≤ b) : a.fmod b = a % b := Int.fmod_eq_emod_of_nonneg a h
theorem mulOk_r {i j : Int} (h : -(2 ^ 64) < j) (h2 : j < 2 ^ 64) : mulOk i j = true := by
  unfold mulOk
  rw [decide_eq_true h, decide_eq_true h2]
  simp
theorem mulOk_l {i j : Int} (h : -(2 ^ 64) < i) (h2 : i < 2 ^ 64) : mulOk i j = true := by
  unfold mulOk
  rw [decide_eq_true h, decide_eq_true h2]
  simp
theorem fdivOk_s {j : Int} (h : 0 < j) (h2 : j < 1073741824) : fdivOk j = true := by
  unfold fdivOk
  rw [decide_eq_true (show j ≠ 0 by omega), decide_eq_true (show j.natAbs < 1073741824 by omega)]
  simp
theorem forL_run {body : D → En → Fl} (Inv : Nat → En → Prop) : ∀ (xs : List D) (i : Nat) (ε : En), (∀ j x ε, i ≤ j → xs[j - i]? = some x → Inv j ε → ∃ ε', body x ε = .nx ε' ∧ Inv (j + 1) ε') → Inv i ε → ∃ ε', forL body xs ε = .nx ε' ∧ Inv (i + xs.length) ε'
  | [], i, ε, _, h => ⟨ε, rfl, h⟩
  | x :: xs, i, ε, hs, h => by
    obtain ⟨ε1, e1, h1⟩ := hs i x ε (Nat.le_refl _) (by simp) h
    obtain ⟨ε2, e2, h2⟩ := forL_run Inv xs (i + 1) ε1 (fun j y ε hj hy hi => hs j y ε (by omega) (by rw [show j - i = (j - (i + 1)) + 1 by omega]; simpa using hy) hi) h1
    refine ⟨ε2, ?_, by rw [List.length_cons, show i + (xs.length + 1) = i + 1 + xs.length by omega]; exact h2⟩
    simp only [forL, e1]
    exact e2
section
variable {call : Nat → List Arg → Rs (Bool × D × List D)} {hand : Nat → Rs D → Rs D} {wf : Nat}
theorem seq_nx {s : S} {ss : Ss} {ε ε1 : En} (h : exS call hand wf s ε = .nx ε1) : exSs call hand wf (.cons s ss) ε = exSs call hand wf ss ε1 := by
  simp only [exSs, h, Fl.seq]
theorem seq_rt {s : S} {ss : Ss} {ε ε1 : En} {o : Bool} {d : D} (h : exS call hand wf s ε = .rt o d ε1) : exSs call hand wf (.cons s ss) ε = .rt o d ε1 := by
  simp only [exSs, h, Fl.seq]
theorem exS_for {t : Tg} {it : I} {b : Ss} {ε ε1 : En} {xs : List D} {r : Fl} (h : evI call hand it ε = .ok (xs, ε1)) (h2 : forL (fun x ε2 => Fl.of (bindT ε2 t x) fun ε3 => exSs call hand wf b ε3) xs ε1 = r) : exS call hand wf (.for_ t it b) ε = r := by
  simp only [exS, h, Fl.of]
  exact h2
theorem comp_run {e : E} {t : Tg} {it : I} {cs : Es} {vs : List Nat} {ε ε1 ε2 : En} {xs ds : List D} (h : evI call hand it ε = .ok (xs, ε1)) (h2 : compL (compTurn t (evCs call hand cs) (evE call hand e) vs) xs ε1 = .ok (ds, ε2)) (hl : ds.length ≤ sizeL) : evE call hand (.comp e t it cs vs) ε = .ok (true, .lst ds, backE ε1 ε2 vs) := by
  have ee : evE call hand (.comp e t it cs vs) ε = compEv (evI call hand it) t (evCs call hand cs) (evE call hand e) vs ε := by simp only [evE]; rfl
  rw [ee]
  unfold compEv
  rw [h, Rs.bind_ok]
  simp only [h2, if_pos hl]
/-- each turn yields one -/
theorem compL_run {turn : D → En → Rs (Option D × En)} (Inv : En → Prop) (P : D → Prop) : ∀ (xs : List D) (ε : En), (∀ x ε, x ∈ xs → Inv ε → ∃ d ε', turn x ε = .ok (some d, ε') ∧ P d ∧ Inv ε') → Inv ε → ∃ ds ε', compL turn xs ε = .ok (ds, ε') ∧ ds.length = xs.length ∧ (∀ d ∈ ds, P d) ∧ Inv ε'
  | [], ε, _, h => ⟨[], ε, rfl, rfl, (fun d hd => by cases hd), h⟩
  | x :: xs, ε, hs, h => by
    obtain ⟨d, ε1, e1, p1, h1⟩ := hs x ε List.mem_cons_self h
    obtain ⟨ds, ε2, e2, l2, p2, h2⟩ := compL_run Inv P xs ε1 (fun y ε hy => hs y ε (List.mem_cons_of_mem _ hy)) h1
    refine ⟨d :: ds, ε2, ?_, by simp [l2], fun y hy => (List.mem_cons.mp hy).elim (fun z => by rw [z]; exact p1) (p2 y), h2⟩
    simp only [compL, e1, e2, Rs.bind]
theorem put_sl {ε : En} {i : Nat} {o : Bool} {d : D} {x : Option D} (h : ε[i]? = some (sl x)) : putS ε i o d = .ok (ε.set i (if o then .own d else .val d)) := by
  unfold putS
  rw [h]
  cases x <;> rfl
theorem set_run {i : Nat} {e : E} {ε ε1 : En} {o : Bool} {d : D} {x : Option D} (h : evE call hand e ε = .ok (o, d, ε1)) (h2 : ε1[i]? = some (sl x)) : exS call hand wf (.set i e) ε = .nx (ε1.set i (if o then .own d else .val d)) := by
  simp only [exS, h, Fl.of, put_sl h2]
theorem asg2_run {i j : Nat} {es : Es} {ε ε1 : En} {o p : Bool} {d e : D} {x y : Option D} (h : evOs (evE call hand) es ε = .ok ([(o, d), (p, e)], ε1)) (h2 : ε1[i]? = some (sl x)) (h3 : (ε1.set i (if o then .own d else .val d))[j]? = some (sl y)) :
    exS call hand wf (.asgT [i, j] es) ε = .nx ((ε1.set i (if o then .own d else .val d)).set j (if p then .own e else .val e)) := by
  simp only [exS, h, Fl.of, putOs, put_sl h2, put_sl h3, Rs.bind]
theorem iff_f {c : E} {a b : Ss} {ε ε1 : En} {r : Fl} (h : evT (evE call hand c ε) = .ok (false, ε1)) (h2 : exSs call hand wf b ε1 = r) : exS call hand wf (.iff c a b) ε = r := by
  simp only [exS, h, Fl.of]
  exact h2
theorem bi1_run {b : Bi} {C : E} {ε ε1 : En} {o w : Bool} {d z : D} (h : evE call hand C ε = .ok (o, d, ε1)) (hp : ∀ ε r, pk C ε r = r) (hb : biD b [d] = some (w, z)) : evE call hand (.bi b (.cons C .nil)) ε = .ok (w, z, ε1) := by
  have e4 : evPs call hand (.cons C .nil) ε = .ok ([d], ε1) := by
    simp only [evPs, Es.quiet, hp, h, Rs.bind]
  simp only [evE, e4, Rs.bind, hb, Rs.opt]
theorem sl_s {d : D} : sl (some d) = .val d := rfl
theorem cut_last {α : Type} {xs : List α} {x : α} : cut (xs ++ [x]) none (some (-1)) = xs := by
  simp only [cut, cutIx, List.length_append, List.length_singleton, List.drop_zero]
  rw [if_pos (by decide), show ((-1 : Int) + ((xs.length + 1 : Nat) : Int)).toNat - 0 = xs.length by omega]
  simp
theorem idx_last {α : Type} {xs : List α} {x : α} : idx (xs ++ [x]) (-1) = some x := by
  simp only [idx, List.length_append, List.length_singleton]
  rw [if_neg (by decide), if_pos (by omega), show ((-1 : Int) + ((xs.length + 1 : Nat) : Int)).toNat = xs.length by omega]
  simp
end
end DL

set_option Elab.async false
set_option linter.all false
set_option maxRecDepth 100000
set_option maxHeartbeats 4000000
/-! DLW: what holds of runs of the small language. -/
namespace DL
def Rs.wp {α : Type} (r : Rs α) (Q : α → Prop) (X : Ex → Prop) : Prop := match r with | .ok a => Q a | .exc x => X x | .bad => False
def Fl.wp (f : Fl) (N C : En → Prop) (R : Bool → D → En → Prop) (X : Ex → Prop) : Prop := match f with | .nx ε => N ε | .ct ε => C ε | .rt o d ε => R o d ε | .exc x => X x | .bad => False
/-- what comes later is left as it is -/
theorem wp_congr {α : Type} {r r' : Rs α} {Q : α → Prop} {X : Ex → Prop} (h : r = r') : r.wp Q X = r'.wp Q X := by rw [h]
theorem fl_congr {r r' : Fl} {N C : En → Prop} {R : Bool → D → En → Prop} {X : Ex → Prop} (h : r = r') : r.wp N C R X = r'.wp N C R X := by rw [h]
section
variable {α β : Type} {Q : α → Prop} {X : Ex → Prop}
theorem wp_ok {a : α} : (Rs.ok a).wp Q X = Q a := rfl
theorem wp_exc {x : Ex} : (Rs.exc x : Rs α).wp Q X = X x := rfl
theorem wp_bad : (Rs.bad : Rs α).wp Q X = False := rfl
theorem wp_bind {r : Rs β} {f : β → Rs α} : (r.bind f).wp Q X = r.wp (fun a => (f a).wp Q X) X := by cases r <;> rfl
theorem wp_some {a : α} : (Rs.opt (some a)).wp Q X = Q a := rfl
theorem wp_none : (Rs.opt (none : Option α)).wp Q X = False := rfl
theorem wp_if {c : Prop} {inst : Decidable c} {a : α} : (Rs.opt (if c then some a else none)).wp Q X = (c ∧ Q a) := by
  by_cases h : c <;> simp [h, Rs.opt, Rs.wp]
theorem wp_ite_ok {c : Prop} {inst : Decidable c} {a : α} : (if c then Rs.ok a else Rs.bad).wp Q X = (c ∧ Q a) := by
  by_cases h : c <;> simp [h, Rs.wp]
theorem wp_imp {r : Rs α} {Q' : α → Prop} {X' : Ex → Prop} (h : r.wp Q' X') (q : ∀ a, Q' a → Q a) (x : ∀ a, X' a → X a) : r.wp Q X := by
  cases r with
  | ok a => exact q a h
  | exc e => exact x e h
  | bad => exact h
/-- what a run ends with -/
theorem wp_eq {r : Rs α} {a : α} (h : r.wp (fun b => b = a) (fun _ => False)) : r = .ok a := by
  cases r with
  | ok b => exact congrArg Rs.ok h
  | exc e => exact h.elim
  | bad => exact h.elim
theorem wp_exq {r : Rs α} {x : Ex} (h : r.wp (fun _ => False) (fun e => e = x)) : r = .exc x := by
  cases r with
  | ok b => exact h.elim
  | exc e => exact congrArg Rs.exc h
  | bad => exact h.elim
theorem wp_of {r : Rs α} {a : α} (h : r = .ok a) (q : Q a) : r.wp Q X := by rw [h]; exact q
end
section
variable {N C : En → Prop} {R : Bool → D → En → Prop} {X : Ex → Prop}
theorem fl_nx {ε : En} : (Fl.nx ε).wp N C R X = N ε := rfl
theorem fl_ct {ε : En} : (Fl.ct ε).wp N C R X = C ε := rfl
theorem fl_rt {o : Bool} {d : D} {ε : En} : (Fl.rt o d ε).wp N C R X = R o d ε := rfl
theorem fl_exc {x : Ex} : (Fl.exc x).wp N C R X = X x := rfl
theorem fl_bad : Fl.bad.wp N C R X = False := rfl
theorem fl_of {α : Type} {r : Rs α} {f : α → Fl} : (Fl.of r f).wp N C R X = r.wp (fun a => (f a).wp N C R X) X := by cases r <;> rfl
theorem fl_seq {f : Fl} {g : En → Fl} : (f.seq g).wp N C R X = f.wp (fun ε => (g ε).wp N C R X) C R X := by cases f <;> rfl
theorem fl_imp {f : Fl} {N' C' : En → Prop} {R' : Bool → D → En → Prop} {X' : Ex → Prop} (h : f.wp N' C' R' X') (n : ∀ ε, N' ε → N ε) (c : ∀ ε, C' ε → C ε) (r : ∀ o d ε, R' o d ε → R o d ε) (x : ∀ e, X' e → X e) : f.wp N C R X := by
  cases f with
  | nx ε => exact n _ h
  | ct ε => exact c _ h
  | rt o d ε => exact r _ _ _ h
  | exc e => exact x _ h
  | bad => exact h
variable {call : Nat → List Arg → Rs (Bool × D × List D)} {hand : Nat → Rs D → Rs D} {wf : Nat}
theorem ss_cons {s : S} {ss : Ss} {ε : En} : (exSs call hand wf (.cons s ss) ε).wp N C R X = (exS call hand wf s ε).wp (fun ε1 => (exSs call hand wf ss ε1).wp N C R X) C R X := by
  simp only [exSs, fl_seq]
theorem ss_nil {ε : En} : (exSs call hand wf .nil ε).wp N C R X = N ε := by simp only [exSs, fl_nx]
end
/-! ### calls -/
theorem runF_w {P : Pg} {k f : Nat} {F : Fn} {as : List Arg} {Q : Bool × D × List D → Prop} {X : Ex → Prop} (h : P.fn f = some F) (l : as.length = F.np ∧ F.np ≤ F.ns) :
    (runF P (k + 1) f as).wp Q X = (exSs (runF P k) (handP P) P.wf F.body (startE F.ns as)).wp (fun ε => (Rs.opt (outsE ε 0 as)).wp (fun outs => Q (false, .non, outs)) X) (fun _ => False)
      (fun o d ε => (Rs.opt (outsE ε 0 as)).wp (fun outs => Q (o, d, outs)) X) X := by
  unfold runF
  rw [h]
  simp only
  rw [if_pos l]
  cases exSs (runF P k) (handP P) P.wf F.body (startE F.ns as) with
  | nx ε => simp only [fl_nx, wp_bind, wp_ok]
  | ct ε => rfl
  | rt o d ε => simp only [fl_rt, wp_bind, wp_ok]
  | exc x => rfl
  | bad => rfl
/-! ### slots -/
def isPut : Option Sl → Bool
  | none => false
  | some (.lnt _) => false
  | some _ => true
theorem isPut_sl {o : Option D} : isPut (some (sl o)) = true := by cases o <;> rfl
theorem isPut_val {d : D} : isPut (some (.val d)) = true := rfl
theorem isPut_own {d : D} : isPut (some (.own d)) = true := rfl
theorem isPut_no : isPut (some .no) = true := rfl
theorem putS_w {ε : En} {i : Nat} {o : Bool} {d : D} {Q : En → Prop} {X : Ex → Prop} (h : isPut ε[i]? = true) : (putS ε i o d).wp Q X = Q (ε.set i (if o then .own d else .val d)) := by
  unfold putS
  cases e : ε[i]? with
  | none => rw [e] at h; cases h
  | some s => cases s <;> first | rfl | (rw [e] at h; cases h)
theorem putS_e {ε : En} {i : Nat} {o : Bool} {d : D} (h : isPut ε[i]? = true) : putS ε i o d = .ok (ε.set i (if o then .own d else .val d)) := by
  unfold putS
  cases e : ε[i]? with
  | none => rw [e] at h; cases h
  | some s => cases s <;> first | rfl | (rw [e] at h; cases h)
theorem wipe_len : ∀ (vs : List Nat) (ε : En), (wipeE ε vs).length = ε.length
  | [], _ => rfl
  | v :: vs, ε => by simp [wipeE, wipe_len vs]
theorem wipe_get : ∀ (vs : List Nat) (ε : En) (i : Nat), i ∉ vs → (wipeE ε vs)[i]? = ε[i]?
  | [], _, _, _ => rfl
  | v :: vs, ε, i, h => by
    have h1 : v ≠ i := fun e => h (by rw [e]; exact List.mem_cons_self)
    simp only [wipeE]
    rw [List.getElem?_set_ne h1]
    exact wipe_get vs ε i fun e => h (List.mem_cons_of_mem _ e)
theorem back_len : ∀ (vs : List Nat) (ε₀ ε : En), (backE ε₀ ε vs).length = ε.length
  | [], _, _ => rfl
  | v :: vs, ε₀, ε => by simp [backE, back_len vs]
theorem back_out : ∀ (vs : List Nat) (ε₀ ε : En) (i : Nat), i ∉ vs → (backE ε₀ ε vs)[i]? = ε[i]?
  | [], _, _, _, _ => rfl
  | v :: vs, ε₀, ε, i, h => by
    have h1 : v ≠ i := fun e => h (by rw [e]; exact List.mem_cons_self)
    simp only [backE]
    rw [List.getElem?_set_ne h1]
    exact back_out vs ε₀ ε i fun e => h (List.mem_cons_of_mem _ e)
theorem back_in : ∀ (vs : List Nat) (ε₀ ε : En) (i : Nat), i ∈ vs → i < ε.length → (backE ε₀ ε vs)[i]? = some (ε₀.getD i .no)
  | [], _, _, _, h, _ => by cases h
  | v :: vs, ε₀, ε, i, h, hl => by
    simp only [backE]
    by_cases e : v = i
    · subst e
      rw [List.getElem?_set_self (by rw [back_len]; exact hl)]
    · rw [List.getElem?_set_ne e]
      rcases List.mem_cons.mp h with z | z
      · exact absurd z.symm e
      · exact back_in vs ε₀ ε i z hl
theorem back_wipe {ε₀ ε ε' : En} {vs : List Nat} (h : wipeE ε vs = ε') : backE ε₀ ε vs = backE ε₀ ε' vs := by
  subst h
  apply List.ext_getElem?
  intro i
  by_cases hi : i ∈ vs
  · by_cases hl : i < ε.length
    · rw [back_in vs ε₀ ε i hi hl, back_in vs ε₀ _ i hi (by rw [wipe_len]; exact hl)]
    · rw [List.getElem?_eq_none (by rw [back_len]; omega), List.getElem?_eq_none (by rw [back_len, wipe_len]; omega)]
  · rw [back_out vs ε₀ ε i hi, back_out vs ε₀ _ i hi, wipe_get vs ε i hi]
theorem back_self {ε : En} {vs : List Nat} : backE ε (wipeE ε vs) vs = ε := by
  rw [← back_wipe (ε := ε) rfl]
  apply List.ext_getElem?
  intro i
  by_cases hi : i ∈ vs
  · by_cases hl : i < ε.length
    · rw [back_in vs ε ε i hi hl, List.getD_eq_getElem?_getD, List.getElem?_eq_getElem hl]; rfl
    · rw [List.getElem?_eq_none (by rw [back_len]; omega), List.getElem?_eq_none (by omega)]
  · rw [back_out vs ε ε i hi]
theorem wipe_wipe {ε : En} {vs : List Nat} : wipeE (wipeE ε vs) vs = wipeE ε vs := by
  have key : ∀ (vs : List Nat) (ε : En) (i : Nat), i ∈ vs → i < ε.length → (wipeE ε vs)[i]? = some .no := by
    intro vs
    induction vs with
    | nil => intro _ _ h; cases h
    | cons v vs ih =>
      intro ε i h hl
      simp only [wipeE]
      by_cases e : v = i
      · subst e; rw [List.getElem?_set_self (by rw [wipe_len]; exact hl)]
      · rw [List.getElem?_set_ne e]
        rcases List.mem_cons.mp h with z | z
        · exact absurd z.symm e
        · exact ih ε i z hl
  apply List.ext_getElem?
  intro i
  by_cases hi : i ∈ vs
  · by_cases hl : i < ε.length
    · rw [key vs ε i hi hl, key vs _ i hi (by rw [wipe_len]; exact hl)]
    · rw [List.getElem?_eq_none (by rw [wipe_len, wipe_len]; omega), List.getElem?_eq_none (by rw [wipe_len]; omega)]
  · rw [wipe_get vs _ i hi]
section
variable {call : Nat → List Arg → Rs (Bool × D × List D)} {hand : Nat → Rs D → Rs D} {wf : Nat}
/-! ### comprehensions -/
/-- one turn of a comprehension, from a state whose own slots are wiped -/
def turnW (call : Nat → List Arg → Rs (Bool × D × List D)) (hand : Nat → Rs D → Rs D) (e : E) (t : Tg) (cs : Es) (x : D) (ε : En) (K : Option D → En → Prop) (X : Ex → Prop) : Prop :=
  (bindT ε t x).wp (fun ε3 => (evCs call hand cs ε3).wp (fun r => (r.1 = true → (evE call hand e r.2).wp (fun q => K (some q.2.1) q.2.2) X) ∧ (r.1 = false → K none r.2)) X) X
theorem comp_any {e : E} {t : Tg} {it : I} {cs : Es} {vs : List Nat} {ε ε1 : En} {xs : List D} (h : evI call hand it ε = .ok (xs, ε1)) (hl : xs.length ≤ sizeL) (Inv : List D → List D → En → Prop) (h0 : Inv [] [] (wipeE ε1 vs))
    (ht : ∀ (ys ds : List D) (x : D) (ε2 : En), (∃ zs, xs = ys ++ x :: zs) → Inv ys ds ε2 → wipeE ε2 vs = ε2 → turnW call hand e t cs x ε2 (fun r ε3 => Inv (ys ++ [x]) (match r with | some d => ds ++ [d] | none => ds) (wipeE ε3 vs)) (fun _ => False)) :
    ∃ ds ε2, evE call hand (.comp e t it cs vs) ε = .ok (true, .lst ds, backE ε1 ε2 vs) ∧ Inv xs ds ε2 ∧ ds.length ≤ xs.length := by
  have key : ∀ (zs ys ds : List D) (ε2 : En), xs = ys ++ zs → Inv ys ds (wipeE ε2 vs) → ∃ es ε3, compL (compTurn t (evCs call hand cs) (evE call hand e) vs) zs ε2 = .ok (es, ε3) ∧ Inv xs (ds ++ es) (wipeE ε3 vs) ∧ es.length ≤ zs.length := by
    intro zs
    induction zs with
    | nil => intro ys ds ε2 e1 hi; rw [List.append_nil] at e1; subst e1; exact ⟨[], ε2, rfl, by rw [List.append_nil]; exact hi, Nat.le_refl _⟩
    | cons x zs ih =>
      intro ys ds ε2 e1 hi
      have h1 := ht ys ds x _ ⟨zs, e1⟩ hi wipe_wipe
      unfold turnW at h1
      have ex : ∃ r ε3, compTurn t (evCs call hand cs) (evE call hand e) vs x ε2 = .ok (r, ε3) ∧ Inv (ys ++ [x]) (match r with | some d => ds ++ [d] | none => ds) (wipeE ε3 vs) := by
        unfold compTurn
        cases e1 : bindT (wipeE ε2 vs) t x with
        | exc _ => rw [e1] at h1; exact h1.elim
        | bad => rw [e1] at h1; exact h1.elim
        | ok ε3 =>
          rw [e1, wp_ok] at h1
          simp only [Rs.bind]
          cases e2 : evCs call hand cs ε3 with
          | exc _ => rw [e2] at h1; exact h1.elim
          | bad => rw [e2] at h1; exact h1.elim
          | ok r =>
            obtain ⟨b, ε4⟩ := r
            rw [e2, wp_ok] at h1
            cases b with
            | false => exact ⟨none, ε4, rfl, h1.2 rfl⟩
            | true =>
              replace h1 := h1.1 rfl
              simp only at h1 ⊢
              cases e3 : evE call hand e ε4 with
              | exc _ => rw [e3] at h1; exact h1.elim
              | bad => rw [e3] at h1; exact h1.elim
              | ok r => rw [e3, wp_ok] at h1; exact ⟨_, _, rfl, h1⟩
      obtain ⟨r, ε3, e2, hi2⟩ := ex
      obtain ⟨es, ε4, e3, hi3, l3⟩ := ih (ys ++ [x]) _ ε3 (by rw [e1]; simp) hi2
      cases r with
      | none => exact ⟨es, ε4, by simp only [compL, e2, e3, Rs.bind], hi3, by simp only [List.length_cons]; omega⟩
      | some d => exact ⟨d :: es, ε4, by simp only [compL, e2, e3, Rs.bind], by simpa using hi3, by simp only [List.length_cons]; omega⟩
  obtain ⟨ds, ε2, e1, hi, l⟩ := key xs [] [] ε1 rfl h0
  refine ⟨ds, wipeE ε2 vs, ?_, by simpa using hi, l⟩
  rw [comp_run h e1 (by omega), back_wipe rfl]
/-- a comprehension whose turns leave all as it is -/
theorem comp_fm {e : E} {t : Tg} {it : I} {cs : Es} {vs : List Nat} {ε ε1 : En} {xs : List D} (f : D → Option D) (h : evI call hand it ε = .ok (xs, ε1)) (hl : xs.length ≤ sizeL)
    (ht : ∀ x ∈ xs, turnW call hand e t cs x (wipeE ε1 vs) (fun r ε3 => r = f x ∧ wipeE ε3 vs = wipeE ε1 vs) (fun _ => False)) :
    evE call hand (.comp e t it cs vs) ε = .ok (true, .lst (xs.filterMap f), ε1) := by
  obtain ⟨ds, ε2, e1, ⟨rfl, rfl⟩, _⟩ := comp_any (e := e) (t := t) (cs := cs) (vs := vs) h hl (fun ys ds ε => ds = ys.filterMap f ∧ ε = wipeE ε1 vs) ⟨rfl, rfl⟩ (by
    rintro ys ds x ε2 ⟨zs, hz⟩ ⟨rfl, rfl⟩ _
    have := ht x (by rw [hz]; simp)
    unfold turnW at this ⊢
    refine wp_imp this (fun ε3 h3 => wp_imp h3 (fun r h4 => ?_) fun _ q => q) fun _ q => q
    obtain ⟨b, ε4⟩ := r
    cases b with
    | false =>
      replace h4 := h4.2 rfl
      refine ⟨fun z => (nomatch z), fun _ => ?_⟩
      exact ⟨by rw [List.filterMap_append, List.filterMap_cons, ← h4.1]; simp, h4.2⟩
    | true =>
      replace h4 := h4.1 rfl
      refine ⟨fun _ => ?_, fun z => (nomatch z)⟩
      simp only at h4 ⊢
      refine wp_imp h4 (fun q h5 => ?_) fun _ q => q
      exact ⟨by rw [List.filterMap_append, List.filterMap_cons, ← h5.1]; simp, h5.2⟩)
  rw [e1, back_self]
theorem comp_map {e : E} {t : Tg} {it : I} {vs : List Nat} {ε ε1 : En} {xs : List D} (f : D → D) (h : evI call hand it ε = .ok (xs, ε1)) (hl : xs.length ≤ sizeL)
    (ht : ∀ x ∈ xs, turnW call hand e t .nil x (wipeE ε1 vs) (fun r ε3 => r = some (f x) ∧ wipeE ε3 vs = wipeE ε1 vs) (fun _ => False)) :
    evE call hand (.comp e t it .nil vs) ε = .ok (true, .lst (xs.map f), ε1) := by
  rw [comp_fm (fun x => some (f x)) h hl ht]
  simp [List.filterMap_eq_map']
/-! ### loops -/
theorem for_w {body : D → En → Fl} {N C : En → Prop} {R : Bool → D → En → Prop} {X : Ex → Prop} (Inv : List D → En → Prop) {xs : List D} {ε : En} (h0 : Inv [] ε)
    (ht : ∀ (ys : List D) (x : D) (ε2 : En), (∃ zs, xs = ys ++ x :: zs) → Inv ys ε2 → (body x ε2).wp (Inv (ys ++ [x])) (Inv (ys ++ [x])) R X)
    (q : ∀ ε2, Inv xs ε2 → N ε2) : (forL body xs ε).wp N C R X := by
  have key : ∀ (zs ys : List D) (ε2 : En), xs = ys ++ zs → Inv ys ε2 → (forL body zs ε2).wp N C R X := by
    intro zs
    induction zs with
    | nil => intro ys ε2 e1 hi; rw [List.append_nil] at e1; subst e1; exact q _ hi
    | cons x zs ih =>
      intro ys ε2 e1 hi
      have h1 := ht ys x ε2 ⟨zs, e1⟩ hi
      unfold forL
      cases e2 : body x ε2 with
      | nx ε3 => rw [e2] at h1; exact ih (ys ++ [x]) ε3 (by rw [e1]; simp) h1
      | ct ε3 => rw [e2] at h1; exact ih (ys ++ [x]) ε3 (by rw [e1]; simp) h1
      | rt o d ε3 => rw [e2] at h1; exact h1
      | exc x => rw [e2] at h1; exact h1
      | bad => rw [e2] at h1; exact h1
  exact key xs [] ε rfl h0
theorem while_w {c : En → Rs (Bool × En)} {body : En → Fl} {N C : En → Prop} {R : Bool → D → En → Prop} {X : Ex → Prop} (Inv : Nat → En → Prop)
    (hc : ∀ (m : Nat) (ε : En), Inv m ε → (c ε).wp (fun r => (r.1 = false → N r.2) ∧ (r.1 = true → (body r.2).wp (fun ε2 => ∃ m', m' < m ∧ Inv m' ε2) (fun ε2 => ∃ m', m' < m ∧ Inv m' ε2) R X)) X) : ∀ (m wf : Nat) (ε : En), m < wf → Inv m ε → (whileL c body wf ε).wp N C R X := by
  intro m
  induction m using Nat.strongRecOn with
  | _ m ih =>
    intro wf ε hw hi
    cases wf with
    | zero => omega
    | succ wf =>
      have h1 := hc m ε hi
      unfold whileL
      rw [fl_of]
      refine wp_imp h1 (fun r h2 => ?_) fun _ q => q
      obtain ⟨b, ε1⟩ := r
      cases b with
      | false => exact h2.1 rfl
      | true =>
        replace h2 := h2.2 rfl
        simp only at h2 ⊢
        cases e2 : body ε1 with
        | nx ε3 => rw [e2] at h2; obtain ⟨m', hm, hi'⟩ := h2; exact ih m' hm wf ε3 (by omega) hi'
        | ct ε3 => rw [e2] at h2; obtain ⟨m', hm, hi'⟩ := h2; exact ih m' hm wf ε3 (by omega) hi'
        | rt o d ε3 => rw [e2] at h2; exact h2
        | exc x => rw [e2] at h2; exact h2
        | bad => rw [e2] at h2; exact h2
theorem forL_nil_w {body : D → En → Fl} {ε : En} {N C : En → Prop} {R : Bool → D → En → Prop} {X : Ex → Prop} : (forL body [] ε).wp N C R X = N ε := rfl
theorem forL_cons_w {body : D → En → Fl} {x : D} {xs : List D} {ε : En} {N C : En → Prop} {R : Bool → D → En → Prop} {X : Ex → Prop} :
    (forL body (x :: xs) ε).wp N C R X = (body x ε).wp (fun ε1 => (forL body xs ε1).wp N C R X) (fun ε1 => (forL body xs ε1).wp N C R X) R X := by
  rw [forL]
  cases e : body x ε <;> rfl
/-- a comprehension, turn by turn -/
def compW (call : Nat → List Arg → Rs (Bool × D × List D)) (hand : Nat → Rs D → Rs D) (e : E) (t : Tg) (cs : Es) (vs : List Nat) (ε1 : En) (Q : Bool × D × En → Prop) : List D → List D → En → Prop
  | [], acc, ε => acc.length ≤ sizeL ∧ Q (true, .lst acc, backE ε1 ε vs)
  | x :: xs, acc, ε => turnW call hand e t cs x (wipeE ε vs) (fun r ε3 => compW call hand e t cs vs ε1 Q xs (match r with | some d => acc ++ [d] | none => acc) ε3) (fun _ => False)
theorem compW_cons {e : E} {t : Tg} {cs : Es} {vs : List Nat} {ε1 ε : En} {Q : Bool × D × En → Prop} {x : D} {xs acc : List D} : compW call hand e t cs vs ε1 Q (x :: xs) acc ε = turnW call hand e t cs x (wipeE ε vs) (fun r ε3 => compW call hand e t cs vs ε1 Q xs (match r with | some d => acc ++ [d] | none => acc) ε3) (fun _ => False) := rfl
theorem compW_nil {e : E} {t : Tg} {cs : Es} {vs : List Nat} {ε1 ε : En} {Q : Bool × D × En → Prop} {acc : List D} : compW call hand e t cs vs ε1 Q [] acc ε = (acc.length ≤ sizeL ∧ Q (true, .lst acc, backE ε1 ε vs)) := rfl
theorem compW_run {e : E} {t : Tg} {cs : Es} {vs : List Nat} {ε1 : En} {Q : Bool × D × En → Prop} {X : Ex → Prop} : ∀ (xs acc : List D) (ε : En), compW call hand e t cs vs ε1 Q xs acc ε → (match compL (compTurn t (evCs call hand cs) (evE call hand e) vs) xs ε with | .ok (ds, ε2) => if (acc ++ ds).length ≤ sizeL then Rs.ok (true, D.lst (acc ++ ds), backE ε1 ε2 vs) else .bad | _ => .bad).wp Q X
  | [], acc, ε, h => by
    simp only [compL, List.append_nil]
    rw [if_pos h.1]
    exact h.2
  | x :: xs, acc, ε, h => by
    unfold compW turnW at h
    simp only [compL]
    unfold compTurn
    cases e1 : bindT (wipeE ε vs) t x with
    | exc _ => rw [e1] at h; exact h.elim
    | bad => rw [e1] at h; exact h.elim
    | ok ε3 =>
      rw [e1, wp_ok] at h
      simp only [Rs.bind]
      cases e2 : evCs call hand cs ε3 with
      | exc _ => rw [e2] at h; exact h.elim
      | bad => rw [e2] at h; exact h.elim
      | ok r =>
        obtain ⟨b, ε4⟩ := r
        rw [e2, wp_ok] at h
        cases b with
        | false =>
          replace h := h.2 rfl
          have ih := compW_run (X := X) xs acc ε4 h
          simp only at ih ⊢
          cases e4 : compL (compTurn t (evCs call hand cs) (evE call hand e) vs) xs ε4 with
          | ok r2 =>
            rw [e4] at ih
            have e5 := e4
            unfold compTurn at e5
            simp only [Rs.bind] at e5
            rw [e5]
            exact ih
          | exc _ => rw [e4] at ih; exact ih.elim
          | bad => rw [e4] at ih; exact ih.elim
        | true =>
          replace h := h.1 rfl
          simp only at h ⊢
          cases e3 : evE call hand e ε4 with
          | exc _ => rw [e3] at h; exact h.elim
          | bad => rw [e3] at h; exact h.elim
          | ok r =>
            obtain ⟨w, d, ε5⟩ := r
            rw [e3, wp_ok] at h
            have ih := compW_run (X := X) xs (acc ++ [d]) ε5 h
            simp only at ih ⊢
            cases e4 : compL (compTurn t (evCs call hand cs) (evE call hand e) vs) xs ε5 with
            | ok r2 =>
              rw [e4] at ih
              have e5 := e4
              unfold compTurn at e5
              simp only [Rs.bind] at e5
              rw [e5]
              simpa using ih
            | exc _ => rw [e4] at ih; exact ih.elim
            | bad => rw [e4] at ih; exact ih.elim
theorem comp_w {e : E} {t : Tg} {it : I} {cs : Es} {vs : List Nat} {ε : En} {Q : Bool × D × En → Prop} {X : Ex → Prop} (h : (evI call hand it ε).wp (fun r => compW call hand e t cs vs r.2 Q r.1 [] r.2) X) : (evE call hand (.comp e t it cs vs) ε).wp Q X := by
  have ee : evE call hand (.comp e t it cs vs) ε = compEv (evI call hand it) t (evCs call hand cs) (evE call hand e) vs ε := by simp only [evE]; rfl
  rw [ee]
  unfold compEv
  cases e1 : evI call hand it ε with
  | exc x => rw [e1] at h; exact h
  | bad => rw [e1] at h; exact h.elim
  | ok r =>
    rw [e1, wp_ok] at h
    have := compW_run (X := X) r.1 [] r.2 h
    simp only [List.nil_append] at this
    exact this
/-! ### tests, open -/
def onB (d : D) (f : Bool → Prop) : Prop := match d with | .bl z => f z | _ => False
theorem onB_congr {d d' : D} {f : Bool → Prop} (h : d = d') : onB d f = onB d' f := by rw [h]
theorem onB_bl {z : Bool} {f : Bool → Prop} : onB (.bl z) f = f z := rfl
def onI (d : D) (f : Int → Prop) : Prop := match d with | .int z => f z | _ => False
theorem onI_congr {d d' : D} {f : Int → Prop} (h : d = d') : onI d f = onI d' f := by rw [h]
theorem onI_int {z : Int} {f : Int → Prop} : onI (.int z) f = f z := rfl
section
variable {Q : Bool × D × En → Prop} {X : Ex → Prop} {ε : En} {a b c : E} {o p : Cm}
theorem wp_and : (evE call hand (.and a b) ε).wp Q X = (evE call hand a ε).wp (fun r => onB r.2.1 fun z => (z = true → (evE call hand b r.2.2).wp (fun q => onB q.2.1 fun y => Q (false, .bl y, q.2.2)) X) ∧ (z = false → Q (false, .bl false, r.2.2))) X := by
  simp only [evE, wp_bind]
  congr 1; funext r
  obtain ⟨w, d, ε1⟩ := r
  cases d <;> first | rfl | skip
  rename_i z
  cases z
  · simp [onB, Rs.wp]
  · simp only [onB, wp_bind, true_implies, Bool.true_eq_false, false_implies, and_true]
    congr 1; funext q
    obtain ⟨w, d, ε1⟩ := q
    cases d <;> rfl
theorem wp_or : (evE call hand (.or a b) ε).wp Q X = (evE call hand a ε).wp (fun r => onB r.2.1 fun z => (z = true → Q (false, .bl true, r.2.2)) ∧ (z = false → (evE call hand b r.2.2).wp (fun q => onB q.2.1 fun y => Q (false, .bl y, q.2.2)) X)) X := by
  simp only [evE, wp_bind]
  congr 1; funext r
  obtain ⟨w, d, ε1⟩ := r
  cases d <;> first | rfl | skip
  rename_i z
  cases z
  · simp only [onB, wp_bind, true_implies, Bool.false_eq_true, false_implies, true_and]
    congr 1; funext q
    obtain ⟨w, d, ε1⟩ := q
    cases d <;> rfl
  · simp [onB, Rs.wp]
theorem wp_ite : (evE call hand (.ite c a b) ε).wp Q X = (evE call hand c ε).wp (fun r => onB r.2.1 fun z => (z = true → (evE call hand a r.2.2).wp Q X) ∧ (z = false → (evE call hand b r.2.2).wp Q X)) X := by
  simp only [evE, wp_bind]
  congr 1; funext r
  obtain ⟨w, d, ε1⟩ := r
  cases d <;> first | rfl | skip
  rename_i z
  cases z <;> simp [onB]
theorem wp_chain : (evE call hand (.chain o p a b c) ε).wp Q X = (evE call hand a ε).wp (fun r => (evE call hand b r.2.2).wp (fun q => (Rs.opt (cmD o r.2.1 q.2.1)).wp (fun z => (z = true → (evE call hand c q.2.2).wp (fun s => (Rs.opt (cmD p q.2.1 s.2.1)).wp (fun y => Q (false, .bl y, s.2.2)) X) X) ∧ (z = false → Q (false, .bl false, q.2.2))) X) X) X := by
  simp only [evE, wp_bind]
  congr 1; funext r
  congr 1; funext q
  congr 1; funext z
  cases z
  · simp [Rs.wp]
  · simp only [wp_bind, true_implies, Bool.true_eq_false, false_implies, and_true]
    congr 1
theorem wp_evT {r : Rs (Bool × D × En)} {Q : Bool × En → Prop} : (evT r).wp Q X = r.wp (fun q => onB q.2.1 fun z => Q (z, q.2.2)) X := by
  unfold evT
  rw [wp_bind]
  congr 1; funext q
  obtain ⟨w, d, ε1⟩ := q
  cases d <;> rfl
theorem fl_iff {N C : En → Prop} {R : Bool → D → En → Prop} {s t : Ss} : (exS call hand wf (.iff c s t) ε).wp N C R X = (evE call hand c ε).wp (fun r => onB r.2.1 fun z => (z = true → (exSs call hand wf s r.2.2).wp N C R X) ∧ (z = false → (exSs call hand wf t r.2.2).wp N C R X)) X := by
  simp only [exS, fl_of, wp_evT]
  congr 1; funext r
  congr 1; funext z
  cases z <;> simp
theorem fl_for {N C : En → Prop} {R : Bool → D → En → Prop} {t : Tg} {it : I} {s : Ss} : (exS call hand wf (.for_ t it s) ε).wp N C R X = (evI call hand it ε).wp (fun r => (forL (fun x ε2 => Fl.of (bindT ε2 t x) fun ε3 => exSs call hand wf s ε3) r.1 r.2).wp N C R X) X := by
  simp only [exS, fl_of]
theorem fl_while {N C : En → Prop} {R : Bool → D → En → Prop} {s : Ss} : (exS call hand wf (.while_ c s) ε).wp N C R X = (whileL (fun ε1 => evT (evE call hand c ε1)) (fun ε1 => exSs call hand wf s ε1) wf ε).wp N C R X := by
  simp only [exS]
end
end
end DL

set_option Elab.async false
set_option linter.all false
set_option maxRecDepth 100000
set_option maxHeartbeats 4000000
/-! DLX: the evaluator's equations, one by one. -/
namespace DL
section
variable {call : Nat → List Arg → Rs (Bool × D × List D)} {hand : Nat → Rs D → Rs D} {wf : Nat}
theorem evE_c {d : D} {ε : En} : evE call hand (.c d) ε = (.ok (false, d, ε)) := by
  simp only [evE] <;> rfl
theorem evE_v {i : Nat} {ε : En} : evE call hand (.v i) ε = (match ε[i]? with
    | some (.val d) => .ok (false, d, ε)
    | some (.own d) => .ok (false, d, ε.set i (.val d))
    | _ => .bad) := by
  simp only [evE] <;> rfl
theorem evE_tup {es : Es} {ε : En} : evE call hand (.tup es) ε = ((evEs call hand es ε).bind fun (ds, ε1) => .ok (false, .tup ds, ε1)) := by
  simp only [evE] <;> rfl
theorem evE_lst {es : Es} {ε : En} : evE call hand (.lst es) ε = ((evEs call hand es ε).bind fun (ds, ε1) => .ok (true, .lst ds, ε1)) := by
  simp only [evE] <;> rfl
theorem evE_bin {o : Op} {a : E} {b : E} {ε : En} : evE call hand (.bin o a b) ε = ((lk a b ε (evE call hand a ε)).bind fun (_, x, ε1) => (pk b ε1 (evE call hand b ε1)).bind fun (_, y, ε2) => (Rs.opt (opD o x y)).bind fun (w, z) => .ok (w, z, ε2)) := by
  simp only [evE] <;> rfl
theorem evE_neg {a : E} {ε : En} : evE call hand (.neg a) ε = ((evE call hand a ε).bind fun (_, x, ε1) => match x with
    | .int i => .ok (false, .int (-i), ε1)
    | _ => .bad) := by
  simp only [evE] <;> rfl
theorem evE_cmp {o : Cm} {a : E} {b : E} {ε : En} : evE call hand (.cmp o a b) ε = ((lk a b ε (evE call hand a ε)).bind fun (_, x, ε1) => (pk b ε1 (evE call hand b ε1)).bind fun (_, y, ε2) => (Rs.opt (cmF o x y)).bind fun (w, z) => .ok (w, z, ε2)) := by
  simp only [evE] <;> rfl
theorem evE_not {a : E} {ε : En} : evE call hand (.not a) ε = ((evE call hand a ε).bind fun (_, x, ε1) => match x with
    | .bl z => .ok (false, .bl (!z), ε1)
    | _ => .bad) := by
  simp only [evE] <;> rfl
theorem evE_sub {a : E} {b : E} {ε : En} : evE call hand (.sub a b) ε = ((lk a b ε (evE call hand a ε)).bind fun (_, x, ε1) => (pk b ε1 (evE call hand b ε1)).bind fun (_, y, ε2) => (Rs.opt (subF x y)).bind fun (w, z) => .ok (w, z, ε2)) := by
  simp only [evE] <;> rfl
theorem evE_slice {a : E} {lo : Es} {hi : Es} {ε : En} : evE call hand (.slice a lo hi) ε = ((match lo.quiet && hi.quiet with | true => pk a ε (evE call hand a ε) | false => evE call hand a ε).bind fun (_, x, ε1) => (evO call hand lo ε1).bind fun (l, ε2) => (evO call hand hi ε2).bind fun (h, ε3) =>
    (Rs.opt (sliceD l h x)).bind fun (w, z) => .ok (w, z, ε3)) := by
  simp only [evE] <;> rfl
theorem evE_rev {a : E} {ε : En} : evE call hand (.rev a) ε = ((pk a ε (evE call hand a ε)).bind fun (_, x, ε1) => (Rs.opt (revD x)).bind fun (w, z) => .ok (w, z, ε1)) := by
  simp only [evE] <;> rfl
theorem evE_call {f : Nat} {as : As} {ε : En} : evE call hand (.call f as) ε = ((evAs call hand as ε).bind fun (ds, ε1) => (Rs.opt (mkAs ε1 as ds)).bind fun xs => (call f xs).bind fun (w, z, outs) => (Rs.opt (backAs ε1 as outs)).bind fun ε2 => .ok (w, z, ε2)) := by
  simp only [evE] <;> rfl
theorem evE_callv {i : Nat} {as : As} {ε : En} : evE call hand (.callv i as) ε = (match ε[i]? with
    | some (.val (.fn f)) => (evAs call hand as ε).bind fun (ds, ε1) => (Rs.opt (mkAs ε1 as ds)).bind fun xs => (call f xs).bind fun (w, z, outs) => (Rs.opt (backAs ε1 as outs)).bind fun ε2 => .ok (w, z, ε2)
    | _ => .bad) := by
  simp only [evE] <;> rfl
theorem evE_bi {b : Bi} {as : Es} {ε : En} : evE call hand (.bi b as) ε = ((evPs call hand as ε).bind fun (xs, ε1) => (Rs.opt (biD b xs)).bind fun (w, z) => .ok (w, z, ε1)) := by
  simp only [evE] <;> rfl
theorem evE_meth {m : Me} {a : E} {as : Es} {ε : En} : evE call hand (.meth m a as) ε = ((match as.quiet with | true => pk a ε (evE call hand a ε) | false => evE call hand a ε).bind fun (_, x, ε1) => match meOk m x with
    | true => (evEs call hand as ε1).bind fun (xs, ε2) => (Rs.opt (meD m x xs)).bind fun (w, z) => .ok (w, z, ε2)
    | false => .bad) := by
  simp only [evE] <;> rfl
theorem evE_dic {ks : List D} {vs : Es} {ε : En} : evE call hand (.dic ks vs) ε = ((evEs call hand vs ε).bind fun (ds, ε1) => if ks.all keyB && ndB ks && decide (ks.length = ds.length) then .ok (true, .dic ks ds, ε1) else .bad) := by
  simp only [evE] <;> rfl
theorem evE_kd {o : Kop} {ks vs : List D} {a : E} {ε : En} : evE call hand (.kd o ks vs a) ε = ((pk a ε (evE call hand a ε)).bind fun (_, x, ε1) => (Rs.opt (kdD o ks vs x)).bind fun (w, z) => .ok (w, z, ε1)) := by
  simp only [evE] <;> rfl
theorem evE_kget {ks vs : List D} {as : Es} {ε : En} : evE call hand (.kget ks vs as) ε = ((evEs call hand as ε).bind fun (ds, ε1) => (Rs.opt (kgetD ks vs ds)).bind fun z => .ok (false, z, ε1)) := by
  simp only [evE] <;> rfl
theorem evE_so {o : So} {a : E} {ε : En} : evE call hand (.so o a) ε = ((pk a ε (evE call hand a ε)).bind fun (_, x, ε1) => (Rs.opt (soD o x)).bind fun (w, z) => .ok (w, z, ε1)) := by
  simp only [evE] <;> rfl
theorem evE_isi {a : E} {t : Ty} {ε : En} : evE call hand (.isi a t) ε = ((pk a ε (evE call hand a ε)).bind fun (_, x, ε1) => (Rs.opt (isiF t x)).bind fun (w, z) => .ok (w, z, ε1)) := by
  simp only [evE] <;> rfl
theorem evE_comp {e : E} {t : Tg} {it : I} {cs : Es} {vs : List Nat} {ε : En} : evE call hand (.comp e t it cs vs) ε = ((evI call hand it ε).bind fun (xs, ε1) => match compL (fun x ε2 => (bindT (wipeE ε2 vs) t x).bind fun ε3 => (evCs call hand cs ε3).bind fun (b, ε4) => match b with
      | true => (evE call hand e ε4).bind fun (_, d, ε5) => .ok (some d, ε5)
      | false => .ok (none, ε4)) xs ε1 with
    | .ok (ds, ε2) => if ds.length ≤ sizeL then .ok (true, .lst ds, backE ε1 ε2 vs) else .bad
    | _ => .bad) := by
  simp only [evE] <;> rfl
theorem evE_lamc {f : Nat} {b : E} {ε : En} : evE call hand (.lamc f b) ε = (match hand f ((evE call hand b (hideE ε)).bind fun (_, x, _) => .ok x) with
    | .ok d => .ok (false, d, ε)
    | _ => .bad) := by
  simp only [evE] <;> rfl
theorem exS_set {i : Nat} {e : E} {ε : En} : exS call hand wf (.set i e) ε = (Fl.of (evE call hand e ε) fun (o, d, ε1) => Fl.of (putS ε1 i o d) .nx) := by
  simp only [exS] <;> rfl
theorem exS_setT {is : List Nat} {e : E} {ε : En} : exS call hand wf (.setT is e) ε = (Fl.of (evE call hand e ε) fun (_, d, ε1) => match d with
    | .tup ds => Fl.of (bindNs ε1 is ds) .nx
    | _ => .bad) := by
  simp only [exS] <;> rfl
theorem exS_asgT {is : List Nat} {es : Es} {ε : En} : exS call hand wf (.asgT is es) ε = (Fl.of (evOs (evE call hand) es ε) fun (ds, ε1) => Fl.of (putOs ε1 is ds) .nx) := by
  simp only [exS] <;> rfl
theorem exS_app {i : Nat} {e : E} {ε : En} : exS call hand wf (.app i e) ε = (match isL ε i with
    | true => Fl.of (evE call hand e ε) fun (_, d, ε1) => Fl.of (appS ε1 i d) .nx
    | false => .bad) := by
  simp only [exS] <;> rfl
theorem exS_put {i : Nat} {k : E} {e : E} {ε : En} : exS call hand wf (.put i k e) ε = (Fl.of (evE call hand e ε) fun (_, v, ε1) => match isC ε1 i with
    | true => Fl.of (evE call hand k ε1) fun (_, k, ε2) => Fl.of (putI ε2 i k v) .nx
    | false => .bad) := by
  simp only [exS] <;> rfl
theorem exS_expr {e : E} {ε : En} : exS call hand wf (.expr e) ε = (Fl.of (evE call hand e ε) fun (_, _, ε1) => .nx ε1) := by
  simp only [exS] <;> rfl
theorem exS_ret {e : E} {ε : En} : exS call hand wf (.ret e) ε = (Fl.of (evR e ε (evE call hand e ε)) fun (o, d, ε1) => .rt o d ε1) := by
  simp only [exS] <;> rfl
theorem exS_retN  {ε : En} : exS call hand wf (.retN) ε = (.rt false .non ε) := by
  simp only [exS] <;> rfl
theorem exS_pass  {ε : En} : exS call hand wf (.pass) ε = (.nx ε) := by
  simp only [exS] <;> rfl
theorem exS_cont  {ε : En} : exS call hand wf (.cont) ε = (.ct ε) := by
  simp only [exS] <;> rfl
theorem exS_raise {cls : Nat} {e : E} {keep : Bool} {ε : En} : exS call hand wf (.raise cls e keep) ε = (Fl.of (evE call hand e ε) fun (_, d, _) => .exc ⟨cls, if keep then some d else none⟩) := by
  simp only [exS] <;> rfl
variable {Q : Bool × D × En → Prop} {X : Ex → Prop} {ε : En} {a : E}
theorem wp_not : (evE call hand (.not a) ε).wp Q X = (evE call hand a ε).wp (fun r => onB r.2.1 fun z => Q (false, .bl (!z), r.2.2)) X := by
  simp only [evE, wp_bind]
  congr 1; funext r
  obtain ⟨w, d, ε1⟩ := r
  cases d <;> rfl
theorem wp_neg : (evE call hand (.neg a) ε).wp Q X = (evE call hand a ε).wp (fun r => onI r.2.1 fun z => Q (false, .int (-z), r.2.2)) X := by
  simp only [evE, wp_bind]
  congr 1; funext r
  obtain ⟨w, d, ε1⟩ := r
  cases d <;> rfl
end
end DL

set_option Elab.async false
set_option linter.all false
set_option maxRecDepth 100000
set_option maxHeartbeats 4000000
/-! DLY: equality of data, small lemmas. -/
namespace DL
theorem eqv_int {i j : Int} : D.eqv (.int i) (.int j) = some (decide (i = j)) := by
  by_cases h : i = j <;> simp [D.eqv, D.flat, D.dep, D.beq, h]
theorem eqv_non_l {y : D} (h : y.flat = true) : D.eqv .non y = some (D.beq .non y) := by simp [D.eqv, D.flat, D.dep, h]
theorem eqv_bl {a b : Bool} : D.eqv (.bl a) (.bl b) = some (decide (a = b)) := by cases a <;> cases b <;> rfl
theorem eqv_str {a b : List Nat} : D.eqv (.str a) (.str b) = some (decide (a = b)) := by
  by_cases h : a = b <;> simp [D.eqv, D.flat, D.dep, D.beq, h]
theorem eqv_flat {x y : D} (h1 : x.flat = true) (h2 : y.flat = true) (h : min x.dep y.dep ≤ 64) : D.eqv x y = some (D.beq x y) := by simp [D.eqv, h1, h2, h]
theorem flats_ints : ∀ xs : List Int, D.flats (xs.map D.int) = true
  | [] => rfl
  | x :: xs => by simp [D.flats, D.flat, flats_ints xs]
theorem deps_ints : ∀ xs : List Int, D.deps (xs.map D.int) = 0
  | [] => rfl
  | x :: xs => by simp [D.deps, D.dep, deps_ints xs]
theorem beqs_ints : ∀ xs ys : List Int, D.beqs (xs.map D.int) (ys.map D.int) = decide (xs = ys)
  | [], [] => rfl
  | [], _ :: _ => rfl
  | _ :: _, [] => rfl
  | x :: xs, y :: ys => by
    simp only [List.map_cons, D.beqs, D.beq, beqs_ints xs ys]
    by_cases h : x = y <;> by_cases h2 : xs = ys <;> simp [h, h2]
mutual
theorem beq_refl : ∀ x : D, x.flat = true → D.beq x x = true
  | .non, _ => rfl
  | .bl a, _ => by simp [D.beq]
  | .int a, _ => by simp [D.beq]
  | .str a, _ => by simp [D.beq]
  | .tup xs, h => by simp only [D.beq]; exact beqs_refl xs (by simpa [D.flat] using h)
  | .lst xs, h => by simp only [D.beq]; exact beqs_refl xs (by simpa [D.flat] using h)
  | .dic _ _, h => by simp [D.flat] at h
  | .set _, h => by simp [D.flat] at h
  | .fn _, h => by simp [D.flat] at h
  | .frz _, h => by simp [D.flat] at h
theorem beqs_refl : ∀ xs : List D, D.flats xs = true → D.beqs xs xs = true
  | [], _ => rfl
  | x :: xs, h => by
    have h' : x.flat = true ∧ D.flats xs = true := by simpa [D.flats] using h
    simp [D.beqs, beq_refl x h'.1, beqs_refl xs h'.2]
end
theorem eqv_refl {x : D} (h : x.flat = true) (h2 : x.dep ≤ 64) : D.eqv x x = some true := by
  rw [eqv_flat h h (by omega), beq_refl x h]
theorem flat_int {i : Int} : (D.int i).flat = true := rfl
theorem flat_bl {i : Bool} : (D.bl i).flat = true := rfl
theorem flat_non : D.non.flat = true := rfl
theorem flat_str {i : List Nat} : (D.str i).flat = true := rfl
theorem flat_tup {xs : List D} : (D.tup xs).flat = D.flats xs := by simp [D.flat]
theorem flat_lst {xs : List D} : (D.lst xs).flat = D.flats xs := by simp [D.flat]
theorem flats_nil : D.flats [] = true := rfl
theorem flats_cons {x : D} {xs : List D} : D.flats (x :: xs) = (x.flat && D.flats xs) := by simp [D.flats]
theorem flats_app : ∀ {xs ys : List D}, D.flats (xs ++ ys) = (D.flats xs && D.flats ys)
  | [], _ => rfl
  | x :: xs, ys => by rw [List.cons_append, flats_cons, flats_cons, flats_app, Bool.and_assoc]
theorem flats_mem : ∀ {xs : List D}, D.flats xs = true ↔ ∀ x ∈ xs, x.flat = true
  | [] => ⟨fun _ x h => (List.not_mem_nil h).elim, fun _ => rfl⟩
  | x :: xs => by rw [flats_cons, Bool.and_eq_true, flats_mem]; simp
theorem deps_mem : ∀ {xs : List D} {n : Nat}, D.deps xs ≤ n ↔ ∀ x ∈ xs, x.dep ≤ n
  | [], n => ⟨fun _ x h => (List.not_mem_nil h).elim, fun _ => by simp [D.deps]⟩
  | x :: xs, n => by
    have : D.deps (x :: xs) = max x.dep (D.deps xs) := by simp [D.deps]
    rw [this, Nat.max_le, deps_mem]; simp
theorem dep_tup {xs : List D} : (D.tup xs).dep = D.deps xs + 1 := by simp [D.dep]
theorem dep_lst {xs : List D} : (D.lst xs).dep = D.deps xs + 1 := by simp [D.dep]
/-- a call's answer is used -/
theorem wp_call {α : Type} {r : Rs α} {a : α} {Q : α → Prop} {X : Ex → Prop} (h : r = .ok a) (q : Q a) : r.wp Q X := by rw [h]; exact q
theorem wp_callx {α : Type} {r : Rs α} {x : Ex} {Q : α → Prop} {X : Ex → Prop} (h : r = .exc x) (q : X x) : r.wp Q X := by rw [h]; exact q
theorem fdivOk_b {j : Int} (h : 0 < j) (h2 : j < 18446744073709551616) : fdivOk j = true := by
  unfold fdivOk
  have h3 : j.natAbs < 2 ^ 9000 := Nat.lt_of_lt_of_le (show j.natAbs < 2 ^ 64 by omega) (Nat.pow_le_pow_right (by decide) (by decide))
  rw [decide_eq_true h, decide_eq_true h3]
  simp
theorem mulOk_s {i j : Int} (h : -(2 ^ 64) < j ∧ j < 2 ^ 64 ∨ -(2 ^ 64) < i ∧ i < 2 ^ 64) : mulOk i j = true := by
  rcases h with h | h
  · exact mulOk_r h.1 h.2
  · exact mulOk_l h.1 h.2
/-! ### operations on known kinds -/
theorem op_add_i {i j : Int} : opD .add (.int i) (.int j) = some (false, .int (i + j)) := by simp only [opD]
theorem op_add_l {x y : List D} : opD .add (.lst x) (.lst y) = if x.length + y.length ≤ sizeL then some (true, .lst (x ++ y)) else none := by simp only [opD]
theorem op_add_t {x y : List D} : opD .add (.tup x) (.tup y) = if x.length + y.length ≤ sizeL then some (false, .tup (x ++ y)) else none := by simp only [opD]
theorem op_add_s {x y : List Nat} : opD .add (.str x) (.str y) = if x.length + y.length ≤ sizeL then some (false, .str (x ++ y)) else none := by simp only [opD]
theorem op_sub_i {i j : Int} : opD .sub (.int i) (.int j) = some (false, .int (i - j)) := by simp only [opD]
theorem op_mul_i {i j : Int} : opD .mul (.int i) (.int j) = if mulOk i j then some (false, .int (i * j)) else none := by simp only [opD]
theorem op_mul_l {x : List D} {k : Int} : opD .mul (.lst x) (.int k) = if x.length * k.toNat ≤ sizeL ∧ -(2 ^ 63) ≤ k ∧ k < 2 ^ 63 then some (true, .lst (List.replicate k.toNat x).flatten) else none := by simp only [opD]
theorem op_mul_t {x : List D} {k : Int} : opD .mul (.tup x) (.int k) = if x.isEmpty = false ∧ 2 ≤ k ∧ k ≤ 16777216 ∧ x.length * k.toNat ≤ sizeL then some (false, .tup (List.replicate k.toNat x).flatten) else none := by simp only [opD]
theorem op_fdiv_i {i j : Int} : opD .fdiv (.int i) (.int j) = if fdivOk j then some (false, .int (i.fdiv j)) else none := by simp only [opD]
theorem op_mod_i {i j : Int} : opD .mod (.int i) (.int j) = if j ≠ 0 then some (false, .int (i.fmod j)) else none := by simp only [opD]
theorem op_pow_i {i j : Int} : opD .pow (.int i) (.int j) = if 0 ≤ j ∧ j ≤ 1000000 ∧ i.natAbs < 2 ^ 64 then some (false, .int (i ^ j.toNat)) else none := by simp only [opD]
theorem op_shl_i {i j : Int} : opD .shl (.int i) (.int j) = if 0 ≤ j ∧ j ≤ 1000000 ∧ i.natAbs < 2 ^ 64 then some (false, .int (i * 2 ^ j.toNat)) else none := by simp only [opD]
theorem op_shr_i {i j : Int} : opD .shr (.int i) (.int j) = if 0 ≤ j then some (false, .int (i / 2 ^ j.toNat)) else none := by simp only [opD]
theorem op_band_i {i j : Int} : opD .band (.int i) (.int j) = some (false, .int (PySem.Builtin.bitAnd i j)) := by simp only [opD]
theorem op_bor_i {i j : Int} : opD .bor (.int i) (.int j) = some (false, .int (PySem.Builtin.bitOr i j)) := by simp only [opD]
theorem op_bxor_i {i j : Int} : opD .bxor (.int i) (.int j) = some (false, .int (PySem.Builtin.bitXor i j)) := by simp only [opD]
theorem sub_t {x : List D} {i : Int} : subD (.tup x) (.int i) = idx x i := by simp only [subD]
theorem sub_l {x : List D} {i : Int} : subD (.lst x) (.int i) = idx x i := by simp only [subD]
theorem idx_0 {x : List D} : idx x 0 = x[0]? := by simp [idx]
theorem idx_1 {x : List D} : idx x 1 = x[1]? := by simp [idx]
theorem idx_2 {x : List D} : idx x 2 = x[2]? := by simp [idx]
theorem idx_3 {x : List D} : idx x 3 = x[3]? := by simp [idx]
theorem idx_4 {x : List D} : idx x 4 = x[4]? := by simp [idx]
theorem idx_5 {x : List D} : idx x 5 = x[5]? := by simp [idx]
theorem idx_6 {x : List D} : idx x 6 = x[6]? := by simp [idx]
theorem idx_7 {x : List D} : idx x 7 = x[7]? := by simp [idx]
theorem idx_8 {x : List D} : idx x 8 = x[8]? := by simp [idx]
theorem idx_9 {x : List D} : idx x 9 = x[9]? := by simp [idx]
theorem idx_10 {x : List D} : idx x 10 = x[10]? := by simp [idx]
theorem idx_11 {x : List D} : idx x 11 = x[11]? := by simp [idx]
theorem idx_12 {x : List D} : idx x 12 = x[12]? := by simp [idx]
theorem idx_13 {x : List D} : idx x 13 = x[13]? := by simp [idx]
theorem idx_14 {x : List D} : idx x 14 = x[14]? := by simp [idx]
theorem idx_15 {x : List D} : idx x 15 = x[15]? := by simp [idx]
theorem idx_16 {x : List D} : idx x 16 = x[16]? := by simp [idx]
theorem idx_17 {x : List D} : idx x 17 = x[17]? := by simp [idx]
theorem idx_18 {x : List D} : idx x 18 = x[18]? := by simp [idx]
theorem idx_19 {x : List D} : idx x 19 = x[19]? := by simp [idx]
theorem idx_m1 {x : List D} : idx x (-1) = x.getLast? := by
  rcases List.eq_nil_or_concat x with h | ⟨y, o, h⟩
  · subst h; rfl
  · subst h; rw [List.concat_eq_append, idx_last]; simp
theorem idx_nat {x : List D} {n : Nat} : idx x (n : Int) = x[n]? := by
  simp [idx]
theorem cm_eq {x y : D} : cmD .eq x y = D.eqv x y := by simp only [cmD]
theorem cm_ne {x y : D} : cmD .ne x y = (D.eqv x y).map (!·) := by simp only [cmD]
theorem cm_lt {i j : Int} : cmD .lt (.int i) (.int j) = some (decide (i < j)) := by simp only [cmD]
theorem cm_le {i j : Int} : cmD .le (.int i) (.int j) = some (decide (i ≤ j)) := by simp only [cmD]
theorem cm_gt {i j : Int} : cmD .gt (.int i) (.int j) = some (decide (j < i)) := by simp only [cmD]
theorem cm_ge {i j : Int} : cmD .ge (.int i) (.int j) = some (decide (j ≤ i)) := by simp only [cmD]
theorem cm_in_t {x : D} {ys : List D} : cmD .isIn x (.tup ys) = D.inL x ys := by simp only [cmD]
theorem cm_in_l {x : D} {ys : List D} : cmD .isIn x (.lst ys) = D.inL x ys := by simp only [cmD]
theorem cm_ni_t {x : D} {ys : List D} : cmD .notIn x (.tup ys) = (D.inL x ys).map (!·) := by simp only [cmD]
theorem cm_ni_l {x : D} {ys : List D} : cmD .notIn x (.lst ys) = (D.inL x ys).map (!·) := by simp only [cmD]
theorem cm_is_bb {a b : Bool} : cmD .is (.bl a) (.bl b) = some (decide (a = b)) := by cases a <;> cases b <;> rfl
theorem cm_isn_bb {a b : Bool} : cmD .isNot (.bl a) (.bl b) = some (!decide (a = b)) := by cases a <;> cases b <;> rfl
theorem cm_is_nn : cmD .is .non .non = some true := by simp only [cmD]
theorem cm_isn_nn : cmD .isNot .non .non = some false := by simp only [cmD]
theorem cm_is_in {i : Int} : cmD .is (.int i) .non = some false := by simp only [cmD]
theorem cm_isn_in {i : Int} : cmD .isNot (.int i) .non = some true := by simp only [cmD]
theorem cm_is_tn {i : List D} : cmD .is (.tup i) .non = some false := by simp only [cmD]
theorem cm_isn_tn {i : List D} : cmD .isNot (.tup i) .non = some true := by simp only [cmD]
theorem cm_is_sn {i : List Nat} : cmD .is (.str i) .non = some false := by simp only [cmD]
theorem cm_isn_sn {i : List Nat} : cmD .isNot (.str i) .non = some true := by simp only [cmD]
theorem bi_len_t {x : List D} : biD .len [.tup x] = some (false, .int x.length) := by simp only [biD]
theorem bi_len_l {x : List D} : biD .len [.lst x] = some (false, .int x.length) := by simp only [biD]
theorem bi_abs {i : Int} : biD .abs [.int i] = some (false, .int (if i < 0 then -i else i)) := by simp only [biD]
theorem bi_int {i : Int} : biD .int [.int i] = some (false, .int i) := by simp only [biD]
theorem bi_intb {b : Bool} : biD .int [.bl b] = some (false, .int (if b then 1 else 0)) := by simp only [biD]
theorem bi_all {x : List D} : biD .all [.lst x] = (D.asBls x).map fun bs => (false, .bl (bs.all id)) := by simp only [biD]
theorem bi_any {x : List D} : biD .any [.lst x] = (D.asBls x).map fun bs => (false, .bl (bs.any id)) := by simp only [biD]
theorem bi_sum {x : List D} : biD .sum [.lst x] = (D.asInts x).map fun ns => (false, .int ns.sum) := by simp only [biD]
theorem bi_max {i j : Int} : biD .max [.int i, .int j] = some (false, .int (if j > i then j else i)) := by simp only [biD]
theorem bi_min {i j : Int} : biD .min [.int i, .int j] = some (false, .int (if j < i then j else i)) := by simp only [biD]
theorem bi_tup_t {x : List D} : biD .tuple [.tup x] = some (false, .tup x) := by simp only [biD]
theorem bi_tup_l {x : List D} : biD .tuple [.lst x] = some (false, .tup x) := by simp only [biD]
theorem bi_lst_t {x : List D} : biD .list [.tup x] = some (true, .lst x) := by simp only [biD]
theorem bi_lst_l {x : List D} : biD .list [.lst x] = some (true, .lst x) := by simp only [biD]
theorem bi_lst_f {x : List D} : biD .list [.frz x] = some (true, .lst x) := by simp only [biD]
theorem sl_t {lo hi : Option Int} {x : List D} : sliceD lo hi (.tup x) = some (false, .tup (cut x lo hi)) := by simp only [sliceD]
theorem sl_l {lo hi : Option Int} {x : List D} : sliceD lo hi (.lst x) = some (true, .lst (cut x lo hi)) := by simp only [sliceD]
theorem rev_l {x : List D} : revD (.lst x) = some (true, .lst x.reverse) := by simp only [revD]
theorem asBls_map {α : Type} {f : α → Bool} : ∀ {x : List α}, D.asBls (x.map fun y => .bl (f y)) = some (x.map f)
  | [] => rfl
  | y :: x => by simp [D.asBls, asBls_map (x := x)]
theorem asInts_map {α : Type} {f : α → Int} : ∀ {x : List α}, D.asInts (x.map fun y => .int (f y)) = some (x.map f)
  | [] => rfl
  | y :: x => by simp [D.asInts, asInts_map (x := x)]
theorem bi_all_map {α : Type} {f : α → Bool} {x : List α} : biD .all [.lst (x.map fun y => .bl (f y))] = some (false, .bl (x.all f)) := by
  rw [bi_all, asBls_map]
  simp [List.all_map]
/-! ### dicts, sorted -/
theorem bi_repr_n : biD .repr [.non] = some (false, .str [78, 111, 110, 101]) := by simp only [biD]
theorem bi_repr_i {i : Int} : biD .repr [.int i] = if i.natAbs.log2 < 1920 then some (false, .str (reprI i)) else none := by simp only [biD]
theorem bi_len_s {s : List Nat} : biD .len [.str s] = if s.length ≤ sizeL then some (false, .int s.length) else none := by simp only [biD]
theorem bi_len_d {ks vs : List D} : biD .len [.dic ks vs] = some (false, .int ks.length) := by simp only [biD]
theorem bi_lst_d {ks vs : List D} : biD .list [.dic ks vs] = some (true, .lst ks) := by simp only [biD]
theorem bi_dic {ps : List D} : biD .dict [.lst ps] = if ps.all prB then some (true, .dic (dOf ps).1 (dOf ps).2) else none := by simp only [biD]
theorem asInts_ints {ns : List Int} : D.asInts (ns.map D.int) = some ns := by rw [show ns.map D.int = ns.map fun y => D.int (id y) from rfl, asInts_map, List.map_id]
theorem bi_sort_i {ns : List Int} : biD .sorted [.lst (ns.map D.int)] = some (true, .lst ((sortI ns).map D.int)) := by simp only [biD, asInts_ints]
theorem bi_sort_d {ns : List Int} {vs : List D} : biD .sorted [.dic (ns.map D.int) vs] = if ns.length < 64 then some (true, .lst ((sortI ns).map D.int)) else none := by simp only [biD, asInts_ints]
theorem bi_sort_0 : biD .sorted [.lst []] = some (true, .lst []) := by simp only [biD, D.asInts, sortI, List.foldr_nil, List.map_nil]
theorem asInts_pr {xs : List D} (h : xs.all pairI = true) (n : xs ≠ []) : D.asInts xs = none := by
  cases xs with
  | nil => exact absurd rfl n
  | cons x xs =>
    rw [List.all_cons, Bool.and_eq_true] at h
    have h := h.1
    unfold pairI at h
    split at h
    · rfl
    · cases h
theorem bi_sort_p {xs : List D} (h : xs.all pairI = true) (n : (xs.map fstI).Nodup) : biD .sorted [.lst xs] = some (true, .lst (sortP xs)) := by
  by_cases z : xs = []
  · subst z; rfl
  · have hb : sortPB xs = true := by unfold sortPB; rw [h, decide_eq_true n]; rfl
    simp only [biD, asInts_pr h z, hb, if_true]
theorem so_sort {ns : List Int} (h : ns.length < 64) : soD .sorted (.lst (ns.map D.int)) = some (true, .lst ((sortU ns).map D.int)) := by simp only [soD, asInts_ints, if_pos h]
theorem so_len {ns : List Int} (h : ns.length < 64) : soD .len (.lst (ns.map D.int)) = some (false, .int (sortU ns).length) := by simp only [soD, asInts_ints, if_pos h]
theorem me_get2 {ks vs : List D} {x d : D} : meD .get (.dic ks vs) [x, d] = if keyB x then some (false, (dGet ks vs x).getD d) else none := by simp only [meD]
theorem meok_get {ks vs : List D} : meOk .get (.dic ks vs) = true := rfl
theorem meok_ix {xs : List D} : meOk .index (.lst xs) = true := rfl
theorem sub_d {ks vs : List D} {x : D} : subD (.dic ks vs) x = if keyB x then dGet ks vs x else none := by cases x <;> simp only [subD]
theorem key_int {i : Int} : keyB (.int i) = true := rfl
theorem cm_in_d {ks vs : List D} {x : D} : cmD .isIn x (.dic ks vs) = if keyB x then some (dHas ks x) else none := by simp only [cmD]
theorem cm_ni_d {ks vs : List D} {x : D} : cmD .notIn x (.dic ks vs) = if keyB x then some (!dHas ks x) else none := by simp only [cmD]
theorem put_d {ks vs : List D} {k v : D} : putD (.dic ks vs) k v = if keyB k && decide (ks.length < sizeL) then some (.dic (dPut (ks, vs) k v).1 (dPut (ks, vs) k v).2) else none := by simp only [putD]
/-- a row of numbers -/
def ots (os : List Int) : D := .tup (os.map D.int)
theorem op_ots {a b : List Int} : opD .add (ots a) (ots b) = if a.length + b.length ≤ sizeL then some (false, ots (a ++ b)) else none := by
  simp [opD, ots]
theorem flat_ots {a : List Int} : (ots a).flat = true := by rw [ots, flat_tup]; exact flats_ints a
theorem dep_ots {a : List Int} : (ots a).dep = 1 := by rw [ots, dep_tup, deps_ints]
theorem eqv_ots {a b : List Int} : D.eqv (ots a) (ots b) = some (decide (a = b)) := by
  rw [eqv_flat flat_ots flat_ots (by rw [dep_ots, dep_ots]; decide), ots, ots, D.beq, beqs_ints]
theorem eqv_l00 : D.eqv (.lst []) (.lst []) = some true := rfl
theorem eqv_t00 : D.eqv (.tup []) (.tup []) = some true := rfl
theorem eqv_l0 {x : D} {xs : List D} (h : D.flats (x :: xs) = true) : D.eqv (.lst (x :: xs)) (.lst []) = some false := by
  simp [D.eqv, D.flat, D.dep, D.deps, D.beq, h, D.beqs]; simp [D.flats]
theorem eqv_t0 {x : D} {xs : List D} (h : D.flats (x :: xs) = true) : D.eqv (.tup (x :: xs)) (.tup []) = some false := by
  simp [D.eqv, D.flat, D.dep, D.deps, D.beq, h, D.beqs]; simp [D.flats]
theorem items_t {x : List D} : (D.tup x).items = some x := rfl
theorem items_l {x : List D} : (D.lst x).items = some x := rfl
theorem sizeL_v : sizeL = 16777216 := rfl
theorem le_sizeL {n : Nat} (h : n ≤ 16777216) : (n ≤ sizeL) = True := eq_true h
theorem lt_sizeL {n : Nat} (h : n < 16777216) : (n < sizeL) = True := eq_true h
def hideO : Option Sl → Option Sl := Option.map fun s => match s with | .own _ => .no | .lnt _ => .no | s => s
theorem hide_g {ε : En} {i : Nat} : (hideE ε)[i]? = hideO ε[i]? := by unfold hideE hideO; exact List.getElem?_map
theorem hideO_val {d : D} : hideO (some (.val d)) = some (.val d) := rfl
theorem hideO_own {d : D} : hideO (some (.own d)) = some .no := rfl
theorem hideO_lnt {d : D} : hideO (some (.lnt d)) = some .no := rfl
theorem hideO_no : hideO (some .no) = some .no := rfl
theorem put_0 {a v : D} {l : List D} : putD (.lst (a :: l)) (.int 0) v = some (.lst (v :: l)) := by
  have : ixN (a :: l).length 0 = some 0 := by simp [ixN]
  simp only [putD, this, Option.map_some, List.set_cons_zero]
theorem put_1 {a b v : D} {l : List D} : putD (.lst (a :: b :: l)) (.int 1) v = some (.lst (a :: v :: l)) := by
  have : ixN (a :: b :: l).length 1 = some 1 := by simp [ixN]; omega
  simp only [putD, this, Option.map_some, List.set_cons_succ, List.set_cons_zero]
/-! ### looks -/
theorem pk_v {i : Nat} {ε : En} {r : Rs (Bool × D × En)} : pk (.v i) ε r = (match ε[i]? with | some (.val d) => .ok (false, d, ε) | some (.own d) => .ok (false, d, ε) | some (.lnt d) => .ok (false, d, ε) | _ => .bad) := rfl
theorem pk_c {d : D} {ε : En} {r : Rs (Bool × D × En)} : pk (.c d) ε r = r := rfl
theorem pk_tup {es : Es} {ε : En} {r : Rs (Bool × D × En)} : pk (.tup es) ε r = r := rfl
theorem pk_lst {es : Es} {ε : En} {r : Rs (Bool × D × En)} : pk (.lst es) ε r = r := rfl
theorem pk_bin {o : Op} {a b : E} {ε : En} {r : Rs (Bool × D × En)} : pk (.bin o a b) ε r = r := rfl
theorem pk_neg {a : E} {ε : En} {r : Rs (Bool × D × En)} : pk (.neg a) ε r = r := rfl
theorem pk_cmp {o : Cm} {a b : E} {ε : En} {r : Rs (Bool × D × En)} : pk (.cmp o a b) ε r = r := rfl
theorem pk_chain {o p : Cm} {a b c : E} {ε : En} {r : Rs (Bool × D × En)} : pk (.chain o p a b c) ε r = r := rfl
theorem pk_and {a b : E} {ε : En} {r : Rs (Bool × D × En)} : pk (.and a b) ε r = r := rfl
theorem pk_or {a b : E} {ε : En} {r : Rs (Bool × D × En)} : pk (.or a b) ε r = r := rfl
theorem pk_not {a : E} {ε : En} {r : Rs (Bool × D × En)} : pk (.not a) ε r = r := rfl
theorem pk_ite {c a b : E} {ε : En} {r : Rs (Bool × D × En)} : pk (.ite c a b) ε r = r := rfl
theorem pk_sub {a b : E} {ε : En} {r : Rs (Bool × D × En)} : pk (.sub a b) ε r = r := rfl
theorem pk_slice {a : E} {l h : Es} {ε : En} {r : Rs (Bool × D × En)} : pk (.slice a l h) ε r = r := rfl
theorem pk_rev {a : E} {ε : En} {r : Rs (Bool × D × En)} : pk (.rev a) ε r = r := rfl
theorem pk_call {f : Nat} {as : As} {ε : En} {r : Rs (Bool × D × En)} : pk (.call f as) ε r = r := rfl
theorem pk_callv {f : Nat} {as : As} {ε : En} {r : Rs (Bool × D × En)} : pk (.callv f as) ε r = r := rfl
theorem pk_bi {b : Bi} {as : Es} {ε : En} {r : Rs (Bool × D × En)} : pk (.bi b as) ε r = r := rfl
theorem pk_meth {m : Me} {a : E} {as : Es} {ε : En} {r : Rs (Bool × D × En)} : pk (.meth m a as) ε r = r := rfl
theorem pk_isi {a : E} {t : Ty} {ε : En} {r : Rs (Bool × D × En)} : pk (.isi a t) ε r = r := rfl
theorem pk_comp {e : E} {t : Tg} {it : I} {cs : Es} {vs : List Nat} {ε : En} {r : Rs (Bool × D × En)} : pk (.comp e t it cs vs) ε r = r := rfl
theorem pk_lamc {f : Nat} {b : E} {ε : En} {r : Rs (Bool × D × En)} : pk (.lamc f b) ε r = r := rfl
theorem pk_kd {o : Kop} {ks vs : List D} {a : E} {ε : En} {r : Rs (Bool × D × En)} : pk (.kd o ks vs a) ε r = r := rfl
theorem pk_kget {ks vs : List D} {as : Es} {ε : En} {r : Rs (Bool × D × En)} : pk (.kget ks vs as) ε r = r := rfl
theorem pk_so {o : So} {a : E} {ε : En} {r : Rs (Bool × D × En)} : pk (.so o a) ε r = r := rfl
theorem pk_dic {a : List D} {b : Es} {ε : En} {r : Rs (Bool × D × En)} : pk (.dic a b) ε r = r := rfl
/-! ### octets and sums -/
def digs : Int → Nat → List Int
  | _, 0 => []
  | n, j + 1 => n % 256 :: digs (n / 256) j
theorem digs_len : ∀ (j : Nat) (n : Int), (digs n j).length = j
  | 0, _ => rfl
  | j + 1, n => by simp [digs, digs_len j]
theorem digs_mod : ∀ (j t : Nat) (n : Int), j ≤ t → digs (n % 256 ^ t) j = digs n j
  | 0, _, _, _ => rfl
  | j + 1, t + 1, n, h => by
    have e1 : (n % 256 ^ (t + 1)) % 256 = n % 256 := Int.emod_emod_of_dvd n ⟨256 ^ t, by rw [Int.pow_succ, Int.mul_comm]⟩
    have e2 : (n % 256 ^ (t + 1)) / 256 = (n / 256) % 256 ^ t := by
      have h0 : (0 : Int) < 256 ^ t := Int.pow_pos (by decide)
      have h1 : n % 256 ^ (t + 1) = n - (256 ^ t * 256) * (n / (256 ^ t * 256)) := by rw [Int.pow_succ, Int.emod_def]
      have h2 : n / (256 ^ t * 256) = n / 256 / 256 ^ t := by rw [Int.mul_comm, Int.ediv_ediv_of_nonneg (by decide)]
      have h3 : (n / 256) % 256 ^ t = n / 256 - 256 ^ t * (n / 256 / 256 ^ t) := Int.emod_def _ _
      rw [h3, h1, h2]
      generalize n / 256 / 256 ^ t = q
      rw [show n - 256 ^ t * 256 * q = n + (-(256 ^ t * q)) * 256 by rw [Int.neg_mul, Int.mul_assoc, Int.mul_comm 256 q, ← Int.mul_assoc]; omega, Int.add_mul_ediv_right _ _ (by decide)]
      omega
    simp only [digs, e1, e2, digs_mod j t (n / 256) (by omega)]
theorem digs_o : ∀ (j : Nat) (n : Int), ∀ o ∈ digs n j, 0 ≤ o ∧ o ≤ 255
  | 0, _, _, h => by cases h
  | j + 1, n, o, h => by
    rcases List.mem_cons.mp h with rfl | h
    · omega
    · exact digs_o j _ o h
/-- a number's octets -/
def octs (n : Int) (m : Nat) : List Int := (digs n m).reverse
theorem octs_len (n : Int) (m : Nat) : (octs n m).length = m := by unfold octs; rw [List.length_reverse, digs_len]
/-! ### sums -/
def stepS (f o : Int) : Int := PySem.Builtin.bitXor ((PySem.Builtin.bitXor f o * 6364136223846793005 + 1442695040888963407) % 18446744073709551616) (((PySem.Builtin.bitXor f o * 6364136223846793005 + 1442695040888963407) % 18446744073709551616) / 536870912)
def wr (x : Int) : Int := (x + 9223372036854775808) % 18446744073709551616 - 9223372036854775808
theorem wr_lo (x : Int) : -9223372036854775808 ≤ wr x := by unfold wr; omega
theorem wr_hi (x : Int) : wr x < 9223372036854775808 := by unfold wr; omega
/-- the sum of octets -/
def sumO (s : Int) (os : List Int) : Int := wr (os.foldl stepS s)
theorem foldl_app {os : List Int} {o s : Int} : (os ++ [o]).foldl stepS s = stepS (os.foldl stepS s) o := by simp
end DL

set_option Elab.async false
set_option linter.all false
set_option maxRecDepth 100000
set_option maxHeartbeats 4000000
/-! DLZ: rows of pairs, accounts, states: plain. -/
namespace DL
/-! ### data without truth values -/
mutual
def D.nob : D → Bool
  | .non => true | .int _ => true | .str _ => true
  | .tup xs => D.nobs xs
  | .lst xs => D.nobs xs
  | _ => false
def D.nobs : List D → Bool
  | [] => true
  | x :: xs => D.nob x && D.nobs xs
end
mutual
theorem nob_flat : ∀ x : D, x.nob = true → x.flat = true
  | .non, _ => rfl
  | .int _, _ => rfl
  | .str _, _ => rfl
  | .tup xs, h => by rw [flat_tup]; exact nobs_flat xs (by simpa [D.nob] using h)
  | .lst xs, h => by rw [flat_lst]; exact nobs_flat xs (by simpa [D.nob] using h)
  | .bl _, h => by simp [D.nob] at h
  | .dic _ _, h => by simp [D.nob] at h
  | .set _, h => by simp [D.nob] at h
  | .fn _, h => by simp [D.nob] at h
  | .frz _, h => by simp [D.nob] at h
theorem nobs_flat : ∀ xs : List D, D.nobs xs = true → D.flats xs = true
  | [], _ => rfl
  | x :: xs, h => by
    have h' : x.nob = true ∧ D.nobs xs = true := by simpa [D.nobs] using h
    rw [flats_cons, nob_flat x h'.1, nobs_flat xs h'.2]; rfl
end
mutual
theorem beq_eq : ∀ x y : D, x.nob = true → y.nob = true → D.beq x y = true → x = y
  | .non, y, _, hy, h => by cases y <;> first | rfl | (simp [D.beq] at h; done) | (simp [D.nob] at hy)
  | .int i, y, _, hy, h => by
    cases y <;> first | (simp [D.beq] at h; done) | (simp [D.nob] at hy; done) | skip
    simp [D.beq] at h; rw [h]
  | .str i, y, _, hy, h => by
    cases y <;> first | (simp [D.beq] at h; done) | (simp [D.nob] at hy; done) | skip
    simp [D.beq] at h; rw [h]
  | .tup xs, y, hx, hy, h => by
    cases y <;> first | (simp [D.beq] at h; done) | (simp [D.nob] at hy; done) | skip
    rw [beqs_eq xs _ (by simpa [D.nob] using hx) (by simpa [D.nob] using hy) (by simpa [D.beq] using h)]
  | .lst xs, y, hx, hy, h => by
    cases y <;> first | (simp [D.beq] at h; done) | (simp [D.nob] at hy; done) | skip
    rw [beqs_eq xs _ (by simpa [D.nob] using hx) (by simpa [D.nob] using hy) (by simpa [D.beq] using h)]
  | .bl _, _, h, _, _ => by simp [D.nob] at h
  | .dic _ _, _, h, _, _ => by simp [D.nob] at h
  | .set _, _, h, _, _ => by simp [D.nob] at h
  | .fn _, _, h, _, _ => by simp [D.nob] at h
  | .frz _, _, h, _, _ => by simp [D.nob] at h
theorem beqs_eq : ∀ xs ys : List D, D.nobs xs = true → D.nobs ys = true → D.beqs xs ys = true → xs = ys
  | [], ys, _, _, h => by cases ys <;> first | rfl | (simp [D.beqs] at h)
  | x :: xs, ys, hx, hy, h => by
    cases ys with
    | nil => simp [D.beqs] at h
    | cons y ys =>
      have h1 : x.nob = true ∧ D.nobs xs = true := by simpa [D.nobs] using hx
      have h2 : y.nob = true ∧ D.nobs ys = true := by simpa [D.nobs] using hy
      have h3 : D.beq x y = true ∧ D.beqs xs ys = true := by simpa [D.beqs] using h
      rw [beq_eq x y h1.1 h2.1 h3.1, beqs_eq xs ys h1.2 h2.2 h3.2]
end
theorem beq_iff {x y : D} (hx : x.nob = true) (hy : y.nob = true) : D.beq x y = true ↔ x = y :=
  ⟨beq_eq x y hx hy, fun e => by rw [e]; exact beq_refl y (nob_flat y hy)⟩
theorem nob_tup {xs : List D} : (D.tup xs).nob = D.nobs xs := by simp [D.nob]
theorem nobs_cons {x : D} {xs : List D} : D.nobs (x :: xs) = (x.nob && D.nobs xs) := by simp [D.nobs]
theorem nobs_mem : ∀ {xs : List D}, D.nobs xs = true ↔ ∀ x ∈ xs, x.nob = true
  | [] => ⟨fun _ x h => (List.not_mem_nil h).elim, fun _ => rfl⟩
  | x :: xs => by rw [nobs_cons, Bool.and_eq_true, nobs_mem]; simp
/-- == of such data that are told by f -/
theorem eqv_inj {α : Type} [DecidableEq α] {f : α → D} (inj : ∀ a b, f a = f b → a = b) {a b : α} (ha : (f a).nob = true) (hb : (f b).nob = true) (hd : (f a).dep ≤ 64) : D.eqv (f a) (f b) = some (decide (a = b)) := by
  rw [eqv_flat (nob_flat _ ha) (nob_flat _ hb) (by omega)]
  congr 1
  rw [Bool.eq_iff_iff, beq_iff ha hb, decide_eq_true_eq]
  exact ⟨inj a b, fun e => by rw [e]⟩
/-! ### rows of pairs -/
section
variable {α : Type}
/-- pairs of an int and what f tells -/
def kvD (f : α → D) (s : List (Int × α)) : List D := s.map fun p => .tup [.int p.1, f p.2]
def Asc (s : List (Int × α)) : Prop := s.Pairwise fun p q => p.1 < q.1
def lkp (s : List (Int × α)) (a : Int) : Option α := (s.find? fun p => decide (p.1 = a)).map (·.2)
def sdel (s : List (Int × α)) (a : Int) : List (Int × α) := s.filter fun p => decide (p.1 ≠ a)
def sins (x : Int × α) : List (Int × α) → List (Int × α)
  | [] => [x]
  | y :: ys => if x.1 < y.1 then x :: y :: ys else y :: sins x ys
def sput (s : List (Int × α)) (a : Int) (o : Option α) : List (Int × α) := match o with
  | none => sdel s a
  | some v => sins (a, v) (sdel s a)
variable {f : α → D} {s : List (Int × α)} {a b : Int} {v : α}
theorem kvD_len : (kvD f s).length = s.length := by simp [kvD]
theorem kvD_pair : (kvD f s).all pairI = true := by simp [kvD, pairI]
theorem kvD_pr : (kvD f s).all prB = true := by simp [kvD, prB, keyB]
theorem kvD_fst : (kvD f s).map fstI = s.map (·.1) := by simp [kvD, fstI]
theorem kvD_inj (inj : ∀ a b, f a = f b → a = b) : ∀ {s t : List (Int × α)}, kvD f s = kvD f t → s = t
  | [], [], _ => rfl
  | [], _ :: _, h => by cases h
  | _ :: _, [], h => by cases h
  | p :: s, q :: t, h => by
    simp only [kvD, List.map_cons, List.cons.injEq, D.tup.injEq, D.int.injEq, and_true] at h
    obtain ⟨⟨h1, h2⟩, h3⟩ := h
    rw [kvD_inj inj (s := s) (t := t) h3, show p = q from Prod.ext h1 (inj _ _ h2)]
theorem kvD_nob (h : ∀ p ∈ s, (f p.2).nob = true) : D.nobs (kvD f s) = true := by
  rw [nobs_mem]
  intro x hx
  obtain ⟨p, hp, rfl⟩ := List.mem_map.mp hx
  simp [D.nob, D.nobs, h p hp]
theorem kvD_dep {n : Nat} (h : ∀ p ∈ s, (f p.2).dep ≤ n) : D.deps (kvD f s) ≤ n + 1 := by
  rw [deps_mem]
  intro x hx
  obtain ⟨p, hp, rfl⟩ := List.mem_map.mp hx
  have := h p hp
  simp [D.dep, D.deps]; exact this
theorem Asc.nodup (h : Asc s) : (s.map (·.1)).Nodup := by
  unfold List.Nodup
  rw [List.pairwise_map]
  exact List.Pairwise.imp (fun {p q} z => by have z : p.1 < q.1 := z; omega) h
theorem sdel_asc (h : Asc s) : Asc (sdel s a) := List.Pairwise.filter _ h
theorem sdel_no : ∀ p ∈ sdel s a, p.1 ≠ a := fun p hp => by simpa using (List.mem_filter.mp hp).2
theorem sins_perm (x : Int × α) : ∀ s : List (Int × α), (sins x s).Perm (x :: s)
  | [] => .refl _
  | y :: ys => by
    unfold sins
    split
    · exact .refl _
    · exact ((sins_perm x ys).cons y).trans (.swap x y ys)
theorem sins_mem {x p : Int × α} : p ∈ sins x s ↔ p = x ∨ p ∈ s := by rw [(sins_perm x s).mem_iff, List.mem_cons]
theorem sins_asc {x : Int × α} : ∀ {s : List (Int × α)}, Asc s → (∀ p ∈ s, p.1 ≠ x.1) → Asc (sins x s)
  | [], _, _ => List.pairwise_singleton _ _
  | y :: ys, h, n => by
    obtain ⟨h1, h2⟩ := List.pairwise_cons.mp h
    unfold sins
    split
    · rename_i hx
      exact List.pairwise_cons.mpr ⟨fun z hz => (List.mem_cons.mp hz).elim (fun e => by rw [e]; exact hx) fun m => by have := h1 z m; show x.1 < z.1; omega, h⟩
    · rename_i hx
      refine List.pairwise_cons.mpr ⟨fun z hz => ?_, sins_asc h2 fun p hp => n p (List.mem_cons_of_mem _ hp)⟩
      rcases sins_mem.mp hz with e | m
      · subst e; have := n y List.mem_cons_self; show y.1 < z.1; omega
      · exact h1 z m
theorem sput_asc {o : Option α} (h : Asc s) : Asc (sput s a o) := by
  cases o with
  | none => exact sdel_asc h
  | some v => exact sins_asc (sdel_asc h) fun p hp => sdel_no p hp
theorem sput_mem {o : Option α} {p : Int × α} : p ∈ sput s a o → (p ∈ s ∧ p.1 ≠ a) ∨ (p.1 = a ∧ o = some p.2) := by
  have key : p ∈ sdel s a → p ∈ s ∧ p.1 ≠ a := fun h => ⟨(List.mem_filter.mp h).1, sdel_no p h⟩
  cases o with
  | none => exact fun h => .inl (key h)
  | some v =>
    intro h
    rcases sins_mem.mp h with rfl | h
    · exact .inr ⟨rfl, rfl⟩
    · exact .inl (key h)
theorem sput_len {o : Option α} : (sput s a o).length ≤ s.length + 1 := by
  have h1 : (sdel s a).length ≤ s.length := List.length_filter_le _ _
  cases o with
  | none => exact Nat.le_succ_of_le h1
  | some v =>
    have h2 := (sins_perm (a, v) (sdel s a)).length_eq
    show (sins (a, v) (sdel s a)).length ≤ _
    rw [h2, List.length_cons]; omega
theorem lkp_nil : lkp ([] : List (Int × α)) a = none := rfl
theorem lkp_cons {p : Int × α} : lkp (p :: s) a = if p.1 = a then some p.2 else lkp s a := by
  unfold lkp
  rw [List.find?_cons]
  by_cases e : p.1 = a <;> simp [e]
theorem lkp_none : lkp s a = none ↔ ∀ p ∈ s, p.1 ≠ a := by
  induction s with
  | nil => simp [lkp]
  | cons p s ih =>
    rw [lkp_cons]
    by_cases e : p.1 = a
    · simp [e]
    · simp [e, ih]
theorem lkp_mem : lkp s a = some v → (a, v) ∈ s := by
  induction s with
  | nil => intro h; cases h
  | cons p s ih =>
    rw [lkp_cons]
    by_cases e : p.1 = a
    · rw [if_pos e]; intro h; cases h; rw [← e]; exact List.mem_cons_self
    · rw [if_neg e]; intro h; exact List.mem_cons_of_mem _ (ih h)
theorem lkp_of_mem (h : Asc s) (m : (a, v) ∈ s) : lkp s a = some v := by
  induction s with
  | nil => cases m
  | cons p s ih =>
    obtain ⟨h1, h2⟩ := List.pairwise_cons.mp h
    rw [lkp_cons]
    rcases List.mem_cons.mp m with rfl | m
    · rw [if_pos rfl]
    · have := h1 _ m
      rw [if_neg (by have : p.1 < a := this; omega)]
      exact ih h2 m
theorem lkp_sdel : lkp (sdel s a) b = if b = a then none else lkp s b := by
  by_cases e : b = a
  · subst e; rw [if_pos rfl, lkp_none]; exact sdel_no
  · rw [if_neg e]
    induction s with
    | nil => rfl
    | cons p s ih =>
      unfold sdel at ih ⊢
      rw [List.filter_cons]
      by_cases q : p.1 = a
      · rw [if_neg (by simp [q]), ih, lkp_cons, if_neg (by omega)]
      · rw [if_pos (by simp [q]), lkp_cons, lkp_cons, ih]
theorem lkp_sins {x : Int × α} (n : ∀ p ∈ s, p.1 ≠ x.1) : lkp (sins x s) b = if b = x.1 then some x.2 else lkp s b := by
  induction s with
  | nil =>
    unfold sins
    rw [lkp_cons]
    by_cases e : x.1 = b
    · rw [if_pos e, if_pos e.symm]
    · rw [if_neg e, if_neg (Ne.symm e)]
  | cons p s ih =>
    have hp := n p List.mem_cons_self
    unfold sins
    split
    · rw [lkp_cons]
      by_cases e : x.1 = b
      · rw [if_pos e, if_pos e.symm]
      · rw [if_neg e, if_neg (Ne.symm e)]
    · rw [lkp_cons, ih fun q hq => n q (List.mem_cons_of_mem _ hq), lkp_cons]
      by_cases e : p.1 = b
      · rw [if_pos e, if_pos e, if_neg (by omega)]
      · rw [if_neg e, if_neg e]
theorem lkp_sput {o : Option α} : lkp (sput s a o) b = if b = a then o else lkp s b := by
  cases o with
  | none => exact lkp_sdel
  | some v =>
    show lkp (sins (a, v) (sdel s a)) b = _
    rw [lkp_sins fun p hp => sdel_no p hp, lkp_sdel]
    by_cases e : b = a
    · rw [if_pos e, if_pos e]
    · rw [if_neg e, if_neg e, if_neg e]
/-- sorted(rest + [(a, v)]) -/
theorem sort_ins (h : Asc s) : biD .sorted [.lst (kvD f (sdel s a) ++ [.tup [.int a, f v]])] = some (true, .lst (kvD f (sins (a, v) (sdel s a)))) := by
  have e0 : kvD f (sdel s a) ++ [.tup [.int a, f v]] = kvD f (sdel s a ++ [(a, v)]) := by simp [kvD]
  have e1 : ((kvD f (sdel s a ++ [(a, v)])).map fstI).Nodup := by
    rw [kvD_fst, List.map_append, List.nodup_append]
    refine ⟨(sdel_asc h).nodup, by simp, fun x hx y hy => ?_⟩
    obtain ⟨p, hp, rfl⟩ := List.mem_map.mp hx
    simp at hy; subst hy
    exact sdel_no p hp
  rw [e0, bi_sort_p kvD_pair e1]
  congr 3
  refine (sortP_uniq e1 ?_ ?_).symm
  · unfold kvD
    rw [List.pairwise_map]
    exact List.Pairwise.imp (fun {p q} z => by have z : p.1 < q.1 := z; show p.1 ≤ q.1; omega) (sins_asc (sdel_asc h) fun p hp => sdel_no p hp)
  · exact List.Perm.map _ ((sins_perm (a, v) (sdel s a)).trans (List.perm_append_comm (l₁ := [(a, v)])))
theorem sort_del (h : Asc s) : biD .sorted [.lst (kvD f (sdel s a))] = some (true, .lst (kvD f (sdel s a))) := by
  have e1 : ((kvD f (sdel s a)).map fstI).Nodup := by rw [kvD_fst]; exact (sdel_asc h).nodup
  rw [bi_sort_p kvD_pair e1]
  congr 3
  refine (sortP_uniq e1 ?_ (.refl _)).symm
  unfold kvD
  rw [List.pairwise_map]
  exact List.Pairwise.imp (fun {p q} z => by have z : p.1 < q.1 := z; show p.1 ≤ q.1; omega) (sdel_asc h)
/-- dict(pairs) with keys all different -/
theorem dOf_go2 : ∀ {ps : List D} {ks vs : List D}, ps.all prB = true → ks.all keyB = true → (ks ++ ps.map prK).Nodup → ps.foldl (fun a p => dPut a (prK p) (prV p)) (ks, vs) = (ks ++ ps.map prK, vs ++ ps.map prV)
  | [], ks, vs, _, _, _ => by simp
  | p :: ps, ks, vs, h, hk, n => by
    rw [List.all_cons, Bool.and_eq_true] at h
    have kb : keyB (prK p) = true := by
      have := h.1
      unfold prB at this
      split at this
      · exact this
      · cases this
    have hn : dHas ks (prK p) = false := by
      rw [Bool.eq_false_iff]
      intro z
      unfold dHas at z
      obtain ⟨y, hy, e⟩ := List.any_eq_true.mp z
      have := D.same_eq _ _ e
      subst this
      rw [List.nodup_append] at n
      exact n.2.2 _ hy _ (List.mem_map.mpr ⟨p, List.mem_cons_self, rfl⟩) rfl
    rw [List.foldl_cons]
    have : dPut (ks, vs) (prK p) (prV p) = (ks ++ [prK p], vs ++ [prV p]) := by unfold dPut; rw [hn]; rfl
    rw [this, dOf_go2 h.2 (by rw [List.all_append, hk]; simp [kb]) (by rw [List.append_assoc]; simpa using n)]
    simp
theorem dGet_kv : ∀ {s : List (Int × α)}, dGet (s.map fun p => .int p.1) (s.map fun p => f p.2) (.int a) = (lkp s a).map f
  | [] => rfl
  | p :: s => by
    simp only [List.map_cons, dGet, lkp_cons, D.same, dGet_kv (s := s)]
    by_cases e : p.1 = a <;> simp [e]
theorem dOf_kv (h : (s.map (·.1)).Nodup) : dOf (kvD f s) = (s.map fun p => .int p.1, s.map fun p => f p.2) := by
  have e1 : (kvD f s).map prK = s.map fun p => .int p.1 := by simp [kvD, prK]
  have e2 : (kvD f s).map prV = s.map fun p => f p.2 := by simp [kvD, prV]
  have n : ([] ++ (kvD f s).map prK).Nodup := by
    rw [List.nil_append, e1]
    have : (s.map fun p => D.int p.1) = (s.map (·.1)).map D.int := by simp
    rw [this]
    exact List.Pairwise.map (f := D.int) (fun x y z e => z (D.int.inj e)) h
  unfold dOf
  rw [dOf_go2 kvD_pr rfl n, e1, e2]; rfl
end
/-! ### accounts, states -/
structure Ac where
  n : Int
  b : Int
  c : List Int
  s : List (Int × Int)
  deriving DecidableEq
def E0 : Ac := ⟨0, 0, [], []⟩
def stoD (s : List (Int × Int)) : D := .tup (kvD D.int s)
def acD (a : Ac) : D := .tup [.int a.n, .int a.b, ots a.c, stoD a.s]
abbrev Sta := List (Int × Ac)
def staD (s : Sta) : D := .tup (kvD acD s)
theorem ots_inj {a b : List Int} (h : ots a = ots b) : a = b := by
  have h := D.tup.inj h
  exact List.map_inj_right (fun x y e => D.int.inj e) |>.mp h
theorem int_inj : ∀ a b : Int, D.int a = D.int b → a = b := fun a b e => D.int.inj e
theorem stoD_inj {a b : List (Int × Int)} (h : stoD a = stoD b) : a = b := kvD_inj int_inj (D.tup.inj h)
theorem acD_inj : ∀ a b : Ac, acD a = acD b → a = b := fun a b h => by
  have h := D.tup.inj h
  simp only [List.cons.injEq, and_true] at h
  obtain ⟨h1, h2, h3, h4⟩ := h
  cases a; cases b
  simp only at h1 h2 h3 h4
  rw [D.int.inj h1, D.int.inj h2, ots_inj h3, stoD_inj h4]
theorem nobs_ints : ∀ {l : List Int}, D.nobs (l.map D.int) = true
  | [] => rfl
  | x :: l => by simp [D.nobs, D.nob, nobs_ints (l := l)]
theorem nob_ots {a : List Int} : (ots a).nob = true := by rw [ots, nob_tup]; exact nobs_ints
theorem nob_sto {a : List (Int × Int)} : (stoD a).nob = true := by rw [stoD, nob_tup]; exact kvD_nob fun _ _ => rfl
theorem nob_ac {a : Ac} : (acD a).nob = true := by rw [acD, nob_tup]; simp [D.nobs, D.nob, nob_ots, nob_sto]
theorem nob_sta {s : Sta} : (staD s).nob = true := by rw [staD, nob_tup]; exact kvD_nob fun _ _ => nob_ac
theorem dep_sto {a : List (Int × Int)} : (stoD a).dep ≤ 2 := by
  rw [stoD, dep_tup]
  have := kvD_dep (f := D.int) (s := a) (n := 0) fun _ _ => Nat.le_refl _
  omega
theorem dep_ac {a : Ac} : (acD a).dep ≤ 3 := by
  rw [acD, dep_tup]
  have h1 := dep_sto (a := a.s)
  have h2 := dep_ots (a := a.c)
  have : D.deps [.int a.n, .int a.b, ots a.c, stoD a.s] ≤ 2 := by
    rw [deps_mem]
    intro x hx
    simp only [List.mem_cons, List.not_mem_nil, or_false] at hx
    rcases hx with rfl | rfl | rfl | rfl
    · simp [D.dep]
    · simp [D.dep]
    · omega
    · omega
  omega
theorem dep_sta {s : Sta} : (staD s).dep ≤ 5 := by
  rw [staD, dep_tup]
  have := kvD_dep (f := acD) (s := s) (n := 3) fun _ _ => dep_ac
  omega
theorem flat_sto {a : List (Int × Int)} : (stoD a).flat = true := nob_flat _ nob_sto
theorem flat_ac {a : Ac} : (acD a).flat = true := nob_flat _ nob_ac
theorem flat_sta {s : Sta} : (staD s).flat = true := nob_flat _ nob_sta
theorem eqv_ac {a b : Ac} : D.eqv (acD a) (acD b) = some (decide (a = b)) := eqv_inj acD_inj nob_ac nob_ac (Nat.le_trans dep_ac (by decide))
theorem eqv_ac0 {a : Ac} : D.eqv (acD a) (.tup [.int 0, .int 0, .tup [], .tup []]) = some (decide (a = E0)) := eqv_ac (b := E0)
theorem eqv_sto {a b : List (Int × Int)} : D.eqv (stoD a) (stoD b) = some (decide (a = b)) := eqv_inj (fun _ _ => stoD_inj) nob_sto nob_sto (Nat.le_trans dep_sto (by decide))
theorem staD_inj : ∀ a b : Sta, staD a = staD b → a = b := fun a b h => kvD_inj acD_inj (D.tup.inj h)
theorem eqv_sta {a b : Sta} : D.eqv (staD a) (staD b) = some (decide (a = b)) := eqv_inj staD_inj nob_sta nob_sta (Nat.le_trans dep_sta (by decide))
/-- the account at an address -/
def acc (s : Sta) (a : Int) : Ac := (lkp s a).getD E0
/-- a state with another account -/
def accPut (s : Sta) (a : Int) (c : Ac) : Sta := sput s a (if c = E0 then none else some c)
theorem acc_put {s : Sta} {a b : Int} {c : Ac} : acc (accPut s a c) b = if b = a then c else acc s b := by
  unfold acc accPut
  rw [lkp_sput]
  by_cases e : b = a
  · rw [if_pos e, if_pos e]
    by_cases z : c = E0
    · rw [if_pos z, z]; rfl
    · rw [if_neg z]; rfl
  · rw [if_neg e, if_neg e]
/-- ascending -/
def ascB : List Int → Bool
  | [] => true
  | [_] => true
  | x :: y :: r => decide (x < y) && ascB (y :: r)
theorem ascB_zip : ∀ l : List Int, ascB l = (l.zip (l.drop 1)).all fun p => decide (p.1 < p.2)
  | [] => rfl
  | [_] => rfl
  | x :: y :: r => by
    have := ascB_zip (y :: r)
    simp only [ascB, this, List.drop_succ_cons, List.drop_zero, List.zip_cons_cons, List.all_cons]
theorem ascB_iff : ∀ {l : List Int}, ascB l = true ↔ l.Pairwise (· < ·)
  | [] => by simp [ascB]
  | [_] => by simp [ascB]
  | x :: y :: r => by
    simp only [ascB, Bool.and_eq_true, decide_eq_true_eq, ascB_iff (l := y :: r)]
    constructor
    · rintro ⟨h1, h2⟩
      refine List.pairwise_cons.mpr ⟨fun z hz => ?_, h2⟩
      rcases List.mem_cons.mp hz with rfl | hz
      · exact h1
      · have := (List.pairwise_cons.mp h2).1 z hz; omega
    · intro h
      obtain ⟨h1, h2⟩ := List.pairwise_cons.mp h
      exact ⟨h1 y List.mem_cons_self, h2⟩
theorem Asc.ascB {α : Type} {s : List (Int × α)} (h : Asc s) : DL.ascB (s.map (·.1)) = true := by
  rw [ascB_iff, List.pairwise_map]; exact h
/-! ### valid ones -/
structure StoOk (s : List (Int × Int)) : Prop where
  len : s.length ≤ 60
  asc : Asc s
  key : ∀ p ∈ s, 0 ≤ p.1 ∧ p.1 ≤ 65535
  val : ∀ p ∈ s, -9223372036854775808 ≤ p.2 ∧ p.2 ≤ 9223372036854775807 ∧ p.2 ≠ 0
structure AcOk (a : Ac) : Prop where
  n : 0 ≤ a.n ∧ a.n ≤ 1000000000
  b : 0 ≤ a.b ∧ a.b ≤ 1000000000000000
  cl : a.c.length ≤ 240
  c : ∀ o ∈ a.c, 0 ≤ o ∧ o ≤ 255
  s : StoOk a.s
structure StaOk (s : Sta) : Prop where
  len : s.length ≤ 60
  asc : Asc s
  key : ∀ p ∈ s, 1 ≤ p.1 ∧ p.1 ≤ 65535
  ac : ∀ p ∈ s, AcOk p.2
  ne : ∀ p ∈ s, p.2 ≠ E0
theorem E0_ok : AcOk E0 := ⟨⟨by decide, by decide⟩, ⟨by decide, by decide⟩, by decide, fun _ h => by simp [E0] at h, ⟨by decide, List.Pairwise.nil, fun _ h => by simp [E0] at h, fun _ h => by simp [E0] at h⟩⟩
theorem acc_ok {s : Sta} (h : ∀ p ∈ s, AcOk p.2) (a : Int) : AcOk (acc s a) := by
  unfold acc
  cases e : lkp s a with
  | none => exact E0_ok
  | some c => exact h _ (lkp_mem e)
/-! ### own dicts -/
section
variable {α : Type} {f : α → D} {l : List (Int × α)} {k : Int} {v : α}
def ksD (l : List (Int × α)) : List D := (l.map (·.1)).map D.int
def vsD (f : α → D) (l : List (Int × α)) : List D := l.map fun p => f p.2
def dput (l : List (Int × α)) (k : Int) (v : α) : List (Int × α) := if (l.any fun p => decide (p.1 = k)) then l.map (fun p => if p.1 = k then (p.1, v) else p) else l ++ [(k, v)]
theorem ksD_len : (ksD l).length = l.length := by simp [ksD]
theorem dHas_kv : ∀ {l : List (Int × α)}, dHas (ksD l) (.int k) = l.any fun p => decide (p.1 = k)
  | [] => rfl
  | p :: l => by
    have := dHas_kv (l := l)
    unfold dHas ksD at this ⊢
    simp only [List.map_cons, List.any_cons, D.same, this]
theorem dSet_kv : ∀ {l : List (Int × α)}, dSet (ksD l) (vsD f l) (.int k) (f v) = vsD f (l.map fun p => if p.1 = k then (p.1, v) else p)
  | [] => rfl
  | p :: l => by
    have := dSet_kv (l := l)
    unfold ksD vsD at this ⊢
    simp only [List.map_cons, dSet, D.same, this]
    by_cases e : p.1 = k <;> simp [e]
theorem dput_keys : (l.map fun p => if p.1 = k then (p.1, v) else p).map (·.1) = l.map (·.1) := by
  rw [List.map_map]
  refine List.map_congr_left fun p _ => ?_
  by_cases e : p.1 = k <;> simp [e]
theorem dPut_kv : dPut (ksD l, vsD f l) (.int k) (f v) = (ksD (dput l k v), vsD f (dput l k v)) := by
  unfold dPut dput
  rw [dHas_kv]
  by_cases e : (l.any fun p => decide (p.1 = k)) = true
  · rw [if_pos e, if_pos e, dSet_kv]
    congr 1
    unfold ksD
    rw [dput_keys]
  · rw [if_neg e, if_neg e]
    simp [ksD, vsD]
theorem dput_mem {p : Int × α} (h : p ∈ dput l k v) : p ∈ l ∨ p = (k, v) := by
  unfold dput at h
  split at h
  · obtain ⟨q, hq, e⟩ := List.mem_map.mp h
    by_cases z : q.1 = k
    · rw [if_pos z] at e; exact .inr (by rw [← e, z])
    · rw [if_neg z] at e; exact .inl (by rw [← e]; exact hq)
  · rcases List.mem_append.mp h with h | h
    · exact .inl h
    · exact .inr (List.mem_singleton.mp h)
theorem dput_len : (dput l k v).length ≤ l.length + 1 := by
  unfold dput
  split <;> simp
theorem dput_nodup (h : (l.map (·.1)).Nodup) : ((dput l k v).map (·.1)).Nodup := by
  unfold dput
  split
  · rw [dput_keys]; exact h
  · rename_i e
    rw [List.map_append, List.nodup_append]
    refine ⟨h, by simp, fun x hx y hy => ?_⟩
    obtain ⟨p, hp, rfl⟩ := List.mem_map.mp hx
    simp at hy; subst hy
    intro z
    exact e (List.any_eq_true.mpr ⟨p, hp, decide_eq_true z⟩)
theorem dGet_ks : dGet (ksD l) (vsD f l) (.int k) = (lkp l k).map f := by
  have := dGet_kv (f := f) (s := l) (a := k)
  unfold ksD vsD
  rw [List.map_map]
  exact this
/-- by rising keys -/
def srt (d : α) (l : List (Int × α)) : List (Int × α) := (sortI (l.map (·.1))).map fun k => (k, (lkp l k).getD d)
theorem lkp_some (h : k ∈ l.map (·.1)) : ∃ v, lkp l k = some v := by
  cases e : lkp l k with
  | some v => exact ⟨v, rfl⟩
  | none =>
    obtain ⟨p, hp, rfl⟩ := List.mem_map.mp h
    exact absurd rfl (lkp_none.mp e p hp)
theorem srt_mem {d : α} {p : Int × α} (h : p ∈ srt d l) : p ∈ l := by
  obtain ⟨k, hk, rfl⟩ := List.mem_map.mp h
  obtain ⟨v, e⟩ := lkp_some ((sortI_perm _).mem_iff.mp hk)
  rw [e]; exact lkp_mem e
theorem srt_len {d : α} : (srt d l).length = l.length := by
  unfold srt; rw [List.length_map, (sortI_perm _).length_eq, List.length_map]
theorem srt_asc {d : α} (h : (l.map (·.1)).Nodup) : Asc (srt d l) := by
  unfold Asc srt
  rw [List.pairwise_map]
  have h1 := sortI_pw (l.map (·.1))
  have h2 : (sortI (l.map (·.1))).Nodup := (sortI_perm _).nodup_iff.mpr h
  have : (sortI (l.map (·.1))).Pairwise fun x y => x ≤ y ∧ x ≠ y := List.Pairwise.and h1 h2
  exact this.imp fun {x y} z => by have := z.1; have := z.2; show x < y; omega
end
theorem filter_kv {α : Type} {f : α → D} {a : Int} : ∀ {s : List (Int × α)} {g : D → Option D}, (∀ p ∈ s, g (.tup [.int p.1, f p.2]) = if p.1 = a then some (f p.2) else none) → (kvD f s).filterMap g = (s.filter fun p => decide (p.1 = a)).map fun p => f p.2
  | [], _, _ => rfl
  | p :: s, g, h => by
    have ih := filter_kv (s := s) (g := g) fun q hq => h q (List.mem_cons_of_mem _ hq)
    unfold kvD at ih ⊢
    rw [List.map_cons, List.filterMap_cons, h p List.mem_cons_self, ih, List.filter_cons]
    by_cases e : p.1 = a <;> simp [e]
theorem filter_kv2 {α : Type} {f : α → D} {a : Int} : ∀ {s : List (Int × α)} {g : D → Option D}, (∀ p ∈ s, g (.tup [.int p.1, f p.2]) = if p.1 = a then none else some (.tup [.int p.1, f p.2])) → (kvD f s).filterMap g = kvD f (sdel s a)
  | [], _, _ => rfl
  | p :: s, g, h => by
    have ih := filter_kv2 (s := s) (g := g) fun q hq => h q (List.mem_cons_of_mem _ hq)
    unfold kvD sdel at ih ⊢
    rw [List.map_cons, List.filterMap_cons, h p List.mem_cons_self, ih, List.filter_cons]
    by_cases e : p.1 = a <;> simp [e]
theorem fm_if {β : Type} {h r : β → D} {p : β → Bool} {g : D → Option D} : ∀ {l : List β}, (∀ b ∈ l, g (h b) = if p b = true then some (r b) else none) → (l.map h).filterMap g = (l.filter p).map r
  | [], _ => rfl
  | b :: l, e => by
    have ih := fm_if (l := l) (g := g) (h := h) (r := r) (p := p) fun c hc => e c (List.mem_cons_of_mem _ hc)
    rw [List.map_cons, List.filterMap_cons, e b List.mem_cons_self, ih, List.filter_cons]
    cases q : p b <;> simp [q]
theorem lkp_filter {α : Type} {s : List (Int × α)} {a : Int} : lkp s a = ((s.filter fun p => decide (p.1 = a)).head?).map (·.2) := by
  unfold lkp; rw [List.head?_filter]
/-! ### sorted rows within rows -/
theorem filter_mem_eq {l m : List Int} (hl : l.Pairwise (· < ·)) (hm : m.Pairwise (· < ·)) (sub : ∀ x ∈ m, x ∈ l) : m = l.filter (fun x => decide (x ∈ m)) :=
  pw_lt_uniq hm (List.Pairwise.filter _ hl) fun z => by
    rw [List.mem_filter, decide_eq_true_eq]
    exact ⟨fun h => ⟨sub z h, h⟩, fun h => h.2⟩
theorem flatMap_filter {α β : Type} {f : α → List β} {p : α → Bool} : ∀ {l : List α}, (∀ x ∈ l, p x = false → f x = []) → (l.filter p).flatMap f = l.flatMap f
  | [], _ => rfl
  | x :: l, h => by
    have ih := flatMap_filter (l := l) fun y hy => h y (List.mem_cons_of_mem _ hy)
    rw [List.filter_cons]
    cases e : p x with
    | true => rw [if_pos rfl, List.flatMap_cons, List.flatMap_cons, ih]
    | false => rw [if_neg (by decide), ih, List.flatMap_cons, h x List.mem_cons_self e, List.nil_append]
/-- only where something is told -/
theorem flatMap_sub {β : Type} {f : Int → List β} {l m : List Int} (hl : l.Pairwise (· < ·)) (hm : m.Pairwise (· < ·)) (sub : ∀ x ∈ m, x ∈ l) (no : ∀ x ∈ l, x ∉ m → f x = []) : m.flatMap f = l.flatMap f := by
  have e : m.flatMap f = (l.filter fun x => decide (x ∈ m)).flatMap f := congrArg (fun z : List Int => z.flatMap f) (filter_mem_eq hl hm sub)
  rw [e]
  exact flatMap_filter fun x hx h => no x hx (by simpa using h)
end DL

set_option Elab.async false
set_option linter.all false
set_option maxRecDepth 100000
set_option maxHeartbeats 4000000
namespace KK
open PySem PySem.Spec PyProof.Rows L2 DL
abbrev RL := PySem.Challenge.rw_chainledger_k41_reasons_that_bar
abbrev R : PySem.W.OpenRow := PySem.W.OpenLaw.row RL
def F_is_whole : Fn := ⟨3, 3, (.cons (.ret (.and (.isi (.v 0) .int) (.and (.not (.isi (.v 0) .bool)) (.chain .le .le (.v 1) (.v 0) (.v 2))))) .nil)⟩
def R_is_whole : FR := ⟨"is_whole", 0, ["value", "low", "high"], F_is_whole, false⟩
def F_is_tuple_of : Fn := ⟨3, 3, (.cons (.ret (.and (.isi (.v 0) .tuple) (.chain .le .le (.v 1) (.bi .len (.cons (.v 0) .nil)) (.v 2)))) .nil)⟩
def R_is_tuple_of : FR := ⟨"is_tuple_of", 1, ["value", "low", "high"], F_is_tuple_of, false⟩
def C_is_ascending_1 : E := (.cmp .lt (.v 1) (.v 2))
def B_is_ascending_1 : Ss := .cons (.ret (.bi .all (.cons (.comp C_is_ascending_1 (.t [1, 2]) (.zip (.cons (.v 0) (.cons (.slice (.v 0) (.cons (.c (.int 1)) .nil) .nil) .nil))) .nil [1, 2]) .nil))) .nil
def F_is_ascending : Fn := ⟨1, 3, B_is_ascending_1⟩
def R_is_ascending : FR := ⟨"is_ascending", 51, ["values", "one", "other"], F_is_ascending, false⟩
def F_wrapped : Fn := ⟨1, 1, (.cons (.ret (.bin .sub (.bin .mod (.bin .add (.v 0) (.c (.int 9223372036854775808))) (.c (.int 18446744073709551616))) (.c (.int 9223372036854775808)))) .nil)⟩
def R_wrapped : FR := ⟨"wrapped", 2, ["number"], F_wrapped, false⟩
def F_raised : Fn := ⟨1, 1, (.cons (.ret (.bin .mod (.v 0) (.c (.int 18446744073709551616)))) .nil)⟩
def R_raised : FR := ⟨"raised", 19, ["word"], F_raised, false⟩
def C_fits_octets_1 : E := (.call 0 (.val (.v 2) (.val (.c (.int 0)) (.val (.c (.int 255)) .nil))))
def B_fits_octets_1 : Ss := .cons (.ret (.and (.call 1 (.val (.v 0) (.val (.c (.int 0)) (.val (.v 1) .nil)))) (.bi .all (.cons (.comp C_fits_octets_1 (.n 2) (.it (.v 0)) .nil [2]) .nil)))) .nil
def F_fits_octets : Fn := ⟨2, 3, B_fits_octets_1⟩
def R_fits_octets : FR := ⟨"fits_octets", 3, ["value", "most", "own"], F_fits_octets, false⟩
def F_is_word : Fn := ⟨1, 1, (.cons (.ret (.call 0 (.val (.v 0) (.val (.neg (.c (.int 9223372036854775808))) (.val (.bin .sub (.c (.int 9223372036854775808)) (.c (.int 1))) .nil))))) .nil)⟩
def R_is_word : FR := ⟨"is_word", 4, ["value"], F_is_word, false⟩
def B_octets_by_1 : Ss := .cons (.set 0 (.bin .fdiv (.v 0) (.c (.int 256)))) .nil
def B_octets_by_2 : Ss := .cons (.app 2 (.bin .mod (.v 0) (.c (.int 256)))) B_octets_by_1
def B_octets_by_3 : Ss := .cons (.ret (.bi .tuple (.cons (.rev (.v 2)) .nil))) .nil
def B_octets_by_4 : Ss := .cons (.for_ (.n 3) (.range1 (.v 1)) B_octets_by_2) B_octets_by_3
def B_octets_by_5 : Ss := .cons (.set 2 (.lst .nil)) B_octets_by_4
def F_octets_by : Fn := ⟨2, 4, B_octets_by_5⟩
def R_octets_by : FR := ⟨"octets_by", 5, ["number", "many", "found", "turn"], F_octets_by, false⟩
def B_sum_by_1 : Ss := .cons (.set 2 (.bin .bxor (.v 2) (.bin .fdiv (.v 2) (.c (.int 536870912))))) .nil
def B_sum_by_2 : Ss := .cons (.set 2 (.bin .mod (.bin .add (.bin .mul (.bin .bxor (.v 2) (.v 3)) (.c (.int 6364136223846793005))) (.c (.int 1442695040888963407))) (.c (.int 18446744073709551616)))) B_sum_by_1
def B_sum_by_3 : Ss := .cons (.ret (.call 2 (.val (.v 2) .nil))) .nil
def B_sum_by_4 : Ss := .cons (.for_ (.n 3) (.it (.v 1)) B_sum_by_2) B_sum_by_3
def B_sum_by_5 : Ss := .cons (.set 2 (.v 0)) B_sum_by_4
def F_sum_by : Fn := ⟨2, 4, B_sum_by_5⟩
def R_sum_by : FR := ⟨"sum_by", 6, ["start", "octets", "found", "octet"], F_sum_by, false⟩
def B_need_whole_1 : Ss := .cons (.iff (.not (.call 0 (.val (.v 0) (.val (.v 1) (.val (.v 2) .nil)))))
  (.cons (.raise 0 (.c (.str [110, 111, 116, 32, 115, 117, 99, 104, 32, 97, 32, 110, 117, 109, 98, 101, 114])) false) .nil)
  .nil) .nil
def F_need_whole : Fn := ⟨3, 3, B_need_whole_1⟩
def R_need_whole : FR := ⟨"need_whole", 7, ["value", "low", "high"], F_need_whole, false⟩
def B_power_1 : Ss := .cons (.asgT [0, 1] (.cons (.bin .mod (.bin .mul (.v 0) (.v 0)) (.c (.int 2147483647))) (.cons (.bin .fdiv (.v 1) (.c (.int 2))) .nil))) .nil
def B_power_2 : Ss := .cons (.set 2 (.ite (.cmp .eq (.bin .mod (.v 1) (.c (.int 2))) (.c (.int 1))) (.bin .mod (.bin .mul (.v 2) (.v 0)) (.c (.int 2147483647))) (.v 2))) B_power_1
def B_power_3 : Ss := .cons (.ret (.v 2)) .nil
def B_power_4 : Ss := .cons (.while_ (.cmp .gt (.v 1) (.c (.int 0))) B_power_2) B_power_3
def B_power_5 : Ss := .cons (.set 2 (.c (.int 1))) B_power_4
def F_power : Fn := ⟨2, 3, B_power_5⟩
def R_power : FR := ⟨"power", 20, ["base", "many", "found"], F_power, false⟩
def F_secret_by : Fn := ⟨1, 1, (.cons (.ret (.bin .add (.c (.int 1001)) (.bin .mul (.c (.int 7919)) (.v 0)))) .nil)⟩
def R_secret_by : FR := ⟨"secret_by", 21, ["user"], F_secret_by, false⟩
def F_public_by : Fn := ⟨1, 1, (.cons (.ret (.call 20 (.val (.c (.int 7)) (.val (.call 21 (.val (.v 0) .nil)) .nil)))) .nil)⟩
def R_public_by : FR := ⟨"public_by", 22, ["user"], F_public_by, false⟩
def F_share : Fn := ⟨2, 2, (.cons (.ret (.bin .fdiv (.call 19 (.val (.call 6 (.val (.c (.int 13)) (.val (.bin .add (.call 5 (.val (.v 0) (.val (.c (.int 4)) .nil))) (.call 5 (.val (.v 1) (.val (.c (.int 8)) .nil)))) .nil))) .nil)) (.c (.int 8589934592)))) .nil)⟩
def R_share : FR := ⟨"share", 23, ["first", "word"], F_share, false⟩
def B_seal_by_1 : Ss := .cons (.ret (.tup (.cons (.v 4) (.cons (.bin .mod (.bin .add (.v 3) (.bin .mul (.call 23 (.val (.v 4) (.val (.v 1) .nil))) (.v 2))) (.bin .sub (.c (.int 2147483647)) (.c (.int 1)))) .nil)))) .nil
def B_seal_by_2 : Ss := .cons (.set 4 (.call 20 (.val (.c (.int 7)) (.val (.v 3) .nil)))) B_seal_by_1
def B_seal_by_3 : Ss := .cons (.set 3 (.bin .add (.c (.int 1)) (.bin .mod (.bin .fdiv (.call 19 (.val (.call 6 (.val (.c (.int 11)) (.val (.bin .add (.call 5 (.val (.v 2) (.val (.c (.int 4)) .nil))) (.call 5 (.val (.v 1) (.val (.c (.int 8)) .nil)))) .nil))) .nil)) (.c (.int 4))) (.bin .sub (.c (.int 2147483647)) (.c (.int 2)))))) B_seal_by_2
def B_seal_by_4 : Ss := .cons (.set 2 (.call 21 (.val (.v 0) .nil))) B_seal_by_3
def F_seal_by : Fn := ⟨2, 5, B_seal_by_4⟩
def R_seal_by : FR := ⟨"seal_by", 24, ["user", "word", "secret", "drawn", "first"], F_seal_by, false⟩
def B_is_right_1 : Ss := .cons (.ret (.cmp .eq (.call 20 (.val (.c (.int 7)) (.val (.v 4) .nil))) (.bin .mod (.bin .mul (.v 3) (.call 20 (.val (.call 22 (.val (.v 0) .nil)) (.val (.call 23 (.val (.v 3) (.val (.v 1) .nil))) .nil)))) (.c (.int 2147483647))))) .nil
def B_is_right_2 : Ss := .cons (.iff (.or (.not (.chain .le .lt (.c (.int 1)) (.v 3) (.c (.int 2147483647)))) (.not (.chain .le .lt (.c (.int 0)) (.v 4) (.bin .sub (.c (.int 2147483647)) (.c (.int 1))))))
  (.cons (.ret (.c (.bl false))) .nil)
  .nil) B_is_right_1
def B_is_right_3 : Ss := .cons (.setT [3, 4] (.v 2)) B_is_right_2
def F_is_right : Fn := ⟨3, 5, B_is_right_3⟩
def R_is_right : FR := ⟨"is_right", 25, ["user", "word", "seal", "first", "second"], F_is_right, false⟩
def C_fits_store_1 : E := (.call 1 (.val (.v 1) (.val (.c (.int 2)) (.val (.c (.int 2)) .nil))))
def C_fits_store_2 : E := (.and (.call 0 (.val (.sub (.v 1) (.c (.int 0))) (.val (.c (.int 0)) (.val (.c (.int 65535)) .nil)))) (.and (.call 4 (.val (.sub (.v 1) (.c (.int 1))) .nil)) (.cmp .ne (.sub (.v 1) (.c (.int 1))) (.c (.int 0)))))
def C_fits_store_3 : E := (.sub (.v 1) (.c (.int 0)))
def B_fits_store_1 : Ss := .cons (.ret (.call 51 (.val (.bi .tuple (.cons (.comp C_fits_store_3 (.n 1) (.it (.v 0)) .nil [1]) .nil)) .nil))) .nil
def B_fits_store_2 : Ss := .cons (.iff (.not (.bi .all (.cons (.comp C_fits_store_2 (.n 1) (.it (.v 0)) .nil [1]) .nil)))
  (.cons (.ret (.c (.bl false))) .nil)
  .nil) B_fits_store_1
def B_fits_store_3 : Ss := .cons (.iff (.or (.not (.call 1 (.val (.v 0) (.val (.c (.int 0)) (.val (.c (.int 60)) .nil))))) (.not (.bi .all (.cons (.comp C_fits_store_1 (.n 1) (.it (.v 0)) .nil [1]) .nil))))
  (.cons (.ret (.c (.bl false))) .nil)
  .nil) B_fits_store_2
def F_fits_store : Fn := ⟨1, 2, B_fits_store_3⟩
def R_fits_store : FR := ⟨"fits_store", 52, ["value", "pair"], F_fits_store, false⟩
def B_fits_account_1 : Ss := .cons (.ret (.and (.call 3 (.val (.sub (.v 0) (.c (.int 2))) (.val (.c (.int 240)) .nil))) (.call 52 (.val (.sub (.v 0) (.c (.int 3))) .nil)))) .nil
def B_fits_account_2 : Ss := .cons (.iff (.or (.not (.call 1 (.val (.v 0) (.val (.c (.int 4)) (.val (.c (.int 4)) .nil))))) (.or (.not (.call 0 (.val (.sub (.v 0) (.c (.int 0))) (.val (.c (.int 0)) (.val (.c (.int 1000000000)) .nil))))) (.not (.call 0 (.val (.sub (.v 0) (.c (.int 1))) (.val (.c (.int 0)) (.val (.c (.int 1000000000000000)) .nil)))))))
  (.cons (.ret (.c (.bl false))) .nil)
  .nil) B_fits_account_1
def F_fits_account : Fn := ⟨1, 1, B_fits_account_2⟩
def R_fits_account : FR := ⟨"fits_account", 53, ["value"], F_fits_account, false⟩
def C_fits_state_1 : E := (.call 1 (.val (.v 1) (.val (.c (.int 2)) (.val (.c (.int 2)) .nil))))
def C_fits_state_2 : E := (.and (.call 0 (.val (.sub (.v 1) (.c (.int 0))) (.val (.c (.int 1)) (.val (.c (.int 65535)) .nil)))) (.and (.call 53 (.val (.sub (.v 1) (.c (.int 1))) .nil)) (.cmp .ne (.sub (.v 1) (.c (.int 1))) (.c (.tup [(.int 0), (.int 0), (.tup []), (.tup [])])))))
def C_fits_state_3 : E := (.sub (.v 1) (.c (.int 0)))
def B_fits_state_1 : Ss := .cons (.ret (.call 51 (.val (.bi .tuple (.cons (.comp C_fits_state_3 (.n 1) (.it (.v 0)) .nil [1]) .nil)) .nil))) .nil
def B_fits_state_2 : Ss := .cons (.iff (.not (.bi .all (.cons (.comp C_fits_state_2 (.n 1) (.it (.v 0)) .nil [1]) .nil)))
  (.cons (.ret (.c (.bl false))) .nil)
  .nil) B_fits_state_1
def B_fits_state_3 : Ss := .cons (.iff (.or (.not (.call 1 (.val (.v 0) (.val (.c (.int 0)) (.val (.c (.int 60)) .nil))))) (.not (.bi .all (.cons (.comp C_fits_state_1 (.n 1) (.it (.v 0)) .nil [1]) .nil))))
  (.cons (.ret (.c (.bl false))) .nil)
  .nil) B_fits_state_2
def F_fits_state : Fn := ⟨1, 2, B_fits_state_3⟩
def R_fits_state : FR := ⟨"fits_state", 54, ["value", "pair"], F_fits_state, false⟩
def F_account_in : Fn := ⟨2, 2, (.cons (.ret (.meth .get (.bi .dict (.cons (.bi .list (.cons (.v 0) .nil)) .nil)) (.cons (.v 1) (.cons (.c (.tup [(.int 0), (.int 0), (.tup []), (.tup [])])) .nil)))) .nil)⟩
def R_account_in : FR := ⟨"account_in", 55, ["state", "address"], F_account_in, false⟩
def F_address_of_user : Fn := ⟨1, 1, (.cons (.ret (.bin .add (.v 0) (.c (.int 1)))) .nil)⟩
def R_address_of_user : FR := ⟨"address_of_user", 86, ["user"], F_address_of_user, false⟩
def B_need_state_1 : Ss := .cons (.iff (.not (.call 54 (.val (.v 0) .nil)))
  (.cons (.raise 4 (.c (.str [110, 111, 116, 32, 97, 32, 115, 116, 97, 116, 101])) false) .nil)
  .nil) .nil
def F_need_state : Fn := ⟨1, 1, B_need_state_1⟩
def R_need_state : FR := ⟨"need_state", 56, ["value"], F_need_state, false⟩
def C_fits_plain_1 : E := (.call 4 (.val (.v 1) .nil))
def B_fits_plain_1 : Ss := .cons (.ret (.or (.cmp .eq (.sub (.v 0) (.c (.int 2))) (.c (.int 0))) (.cmp .eq (.sub (.v 0) (.c (.int 7))) (.tup .nil)))) .nil
def B_fits_plain_2 : Ss := .cons (.iff (.or (.not (.bi .all (.cons (.comp C_fits_plain_1 (.n 1) (.it (.sub (.v 0) (.c (.int 6)))) .nil [1]) .nil))) (.not (.call 3 (.val (.sub (.v 0) (.c (.int 7))) (.val (.c (.int 240)) .nil)))))
  (.cons (.ret (.c (.bl false))) .nil)
  .nil) B_fits_plain_1
def B_fits_plain_3 : Ss := .cons (.iff (.or (.not (.call 0 (.val (.sub (.v 0) (.c (.int 4))) (.val (.c (.int 0)) (.val (.c (.int 100000)) .nil))))) (.or (.not (.call 0 (.val (.sub (.v 0) (.c (.int 5))) (.val (.c (.int 0)) (.val (.c (.int 100000)) .nil))))) (.not (.call 1 (.val (.sub (.v 0) (.c (.int 6))) (.val (.c (.int 0)) (.val (.c (.int 6)) .nil)))))))
  (.cons (.ret (.c (.bl false))) .nil)
  .nil) B_fits_plain_2
def B_fits_plain_4 : Ss := .cons (.iff (.or (.not (.call 0 (.val (.sub (.v 0) (.c (.int 2))) (.val (.c (.int 0)) (.val (.c (.int 65535)) .nil))))) (.not (.call 0 (.val (.sub (.v 0) (.c (.int 3))) (.val (.c (.int 0)) (.val (.c (.int 1000000000)) .nil))))))
  (.cons (.ret (.c (.bl false))) .nil)
  .nil) B_fits_plain_3
def B_fits_plain_5 : Ss := .cons (.iff (.or (.not (.call 1 (.val (.v 0) (.val (.c (.int 8)) (.val (.c (.int 8)) .nil))))) (.or (.not (.call 0 (.val (.sub (.v 0) (.c (.int 0))) (.val (.c (.int 0)) (.val (.bin .sub (.c (.int 6)) (.c (.int 1))) .nil))))) (.not (.call 0 (.val (.sub (.v 0) (.c (.int 1))) (.val (.c (.int 0)) (.val (.c (.int 999999)) .nil)))))))
  (.cons (.ret (.c (.bl false))) .nil)
  .nil) B_fits_plain_4
def F_fits_plain : Fn := ⟨1, 2, B_fits_plain_5⟩
def R_fits_plain : FR := ⟨"fits_plain", 35, ["value", "own"], F_fits_plain, false⟩
def C_fits_transaction_1 : E := (.call 0 (.val (.v 1) (.val (.c (.int 0)) (.val (.c (.int 4294967295)) .nil))))
def B_fits_transaction_1 : Ss := .cons (.ret (.bi .all (.cons (.comp C_fits_transaction_1 (.n 1) (.it (.sub (.v 0) (.c (.int 8)))) .nil [1]) .nil))) .nil
def B_fits_transaction_2 : Ss := .cons (.iff (.or (.not (.call 1 (.val (.v 0) (.val (.c (.int 9)) (.val (.c (.int 9)) .nil))))) (.or (.not (.call 35 (.val (.slice (.v 0) .nil (.cons (.c (.int 8)) .nil)) .nil))) (.not (.call 1 (.val (.sub (.v 0) (.c (.int 8))) (.val (.c (.int 2)) (.val (.c (.int 2)) .nil)))))))
  (.cons (.ret (.c (.bl false))) .nil)
  .nil) B_fits_transaction_1
def F_fits_transaction : Fn := ⟨1, 2, B_fits_transaction_2⟩
def R_fits_transaction : FR := ⟨"fits_transaction", 36, ["value", "own"], F_fits_transaction, false⟩
def B_plain_octets_1 : Ss := .cons (.set 1 (.bin .add (.v 1) (.call 5 (.val (.v 2) (.val (.c (.int 8)) .nil))))) .nil
def B_plain_octets_2 : Ss := .cons (.ret (.bin .add (.bin .add (.v 1) (.call 5 (.val (.bi .len (.cons (.sub (.v 0) (.c (.int 7))) .nil)) (.val (.c (.int 2)) .nil)))) (.sub (.v 0) (.c (.int 7))))) .nil
def B_plain_octets_3 : Ss := .cons (.for_ (.n 2) (.it (.sub (.v 0) (.c (.int 6)))) B_plain_octets_1) B_plain_octets_2
def B_plain_octets_4 : Ss := .cons (.set 1 (.bin .add (.bin .add (.bin .add (.v 1) (.call 5 (.val (.sub (.v 0) (.c (.int 4))) (.val (.c (.int 4)) .nil)))) (.call 5 (.val (.sub (.v 0) (.c (.int 5))) (.val (.c (.int 4)) .nil)))) (.call 5 (.val (.bi .len (.cons (.sub (.v 0) (.c (.int 6))) .nil)) (.val (.c (.int 1)) .nil))))) B_plain_octets_3
def B_plain_octets_5 : Ss := .cons (.set 1 (.bin .add (.bin .add (.bin .add (.call 5 (.val (.sub (.v 0) (.c (.int 0))) (.val (.c (.int 1)) .nil))) (.call 5 (.val (.sub (.v 0) (.c (.int 1))) (.val (.c (.int 8)) .nil)))) (.call 5 (.val (.sub (.v 0) (.c (.int 2))) (.val (.c (.int 2)) .nil)))) (.call 5 (.val (.sub (.v 0) (.c (.int 3))) (.val (.c (.int 8)) .nil))))) B_plain_octets_4
def F_plain_octets : Fn := ⟨1, 3, B_plain_octets_5⟩
def R_plain_octets : FR := ⟨"plain_octets", 87, ["own", "found", "word"], F_plain_octets, false⟩
def F_plain_sum : Fn := ⟨1, 1, (.cons (.ret (.call 6 (.val (.c (.int 41)) (.val (.call 87 (.val (.v 0) .nil)) .nil)))) .nil)⟩
def R_plain_sum : FR := ⟨"plain_sum", 88, ["own"], F_plain_sum, false⟩
def F_is_sealed_by : Fn := ⟨1, 1, (.cons (.ret (.call 25 (.val (.sub (.v 0) (.c (.int 0))) (.val (.call 88 (.val (.v 0) .nil)) (.val (.sub (.v 0) (.c (.int 8))) .nil))))) .nil)⟩
def R_is_sealed_by : FR := ⟨"is_sealed_by", 89, ["own"], F_is_sealed_by, false⟩
def F_least_gas_by : Fn := ⟨1, 1, (.cons (.ret (.bin .add (.bin .add (.c (.int 100)) (.bin .mul (.c (.int 5)) (.bi .len (.cons (.sub (.v 0) (.c (.int 6))) .nil)))) (.ite (.cmp .eq (.sub (.v 0) (.c (.int 2))) (.c (.int 0))) (.bin .add (.c (.int 200)) (.bin .mul (.c (.int 2)) (.bi .len (.cons (.sub (.v 0) (.c (.int 7))) .nil)))) (.c (.int 0))))) .nil)⟩
def R_least_gas_by : FR := ⟨"least_gas_by", 90, ["own"], F_least_gas_by, false⟩
def B_need_transaction_1 : Ss := .cons (.iff (.not (.call 36 (.val (.v 0) .nil)))
  (.cons (.raise 12 (.c (.str [110, 111, 116, 32, 97, 32, 116, 114, 97, 110, 115, 97, 99, 116, 105, 111, 110])) false) .nil)
  .nil) .nil
def F_need_transaction : Fn := ⟨1, 1, B_need_transaction_1⟩
def R_need_transaction : FR := ⟨"need_transaction", 91, ["value"], F_need_transaction, false⟩
def B_sealed_1 : Ss := .cons (.ret (.bin .add (.v 0) (.tup (.cons (.call 24 (.val (.sub (.v 0) (.c (.int 0))) (.val (.call 88 (.val (.v 0) .nil)) .nil))) .nil)))) .nil
def B_sealed_2 : Ss := .cons (.iff (.not (.call 35 (.val (.v 0) .nil)))
  (.cons (.raise 12 (.c (.str [110, 111, 116, 32, 97, 32, 116, 114, 97, 110, 115, 97, 99, 116, 105, 111, 110, 32, 119, 105, 116, 104, 111, 117, 116, 32, 105, 116, 115, 32, 115, 101, 97, 108])) false) .nil)
  .nil) B_sealed_1
def F_sealed : Fn := ⟨1, 1, B_sealed_2⟩
def R_sealed : FR := ⟨"sealed", 92, ["value"], F_sealed, false⟩
def B_is_sealed_1 : Ss := .cons (.ret (.call 89 (.val (.v 0) .nil))) .nil
def B_is_sealed_2 : Ss := .cons (.expr (.call 91 (.val (.v 0) .nil))) B_is_sealed_1
def F_is_sealed : Fn := ⟨1, 1, B_is_sealed_2⟩
def R_is_sealed : FR := ⟨"is_sealed", 93, ["transaction"], F_is_sealed, false⟩
def B_fits_data_1 : Ss := .cons (.ret (.and (.call 0 (.val (.sub (.v 0) (.c (.int 1))) (.val (.c (.int 0)) (.val (.c (.int 65535)) .nil)))) (.call 0 (.val (.sub (.v 0) (.c (.int 2))) (.val (.c (.int 0)) (.val (.c (.int 1000000)) .nil)))))) .nil
def B_fits_data_2 : Ss := .cons (.iff (.or (.not (.call 1 (.val (.v 0) (.val (.c (.int 3)) (.val (.c (.int 3)) .nil))))) (.not (.call 0 (.val (.sub (.v 0) (.c (.int 0))) (.val (.c (.int 0)) (.val (.c (.int 1000000)) .nil))))))
  (.cons (.ret (.c (.bl false))) .nil)
  .nil) B_fits_data_1
def F_fits_data : Fn := ⟨1, 1, B_fits_data_2⟩
def R_fits_data : FR := ⟨"fits_data", 94, ["value"], F_fits_data, false⟩
def C_bars_in_1 : E := (.v 15)
def B_bars_in_1 : Ss := .cons (.ret (.bi .tuple (.cons (.comp C_bars_in_1 (.t [15, 16]) (.it (.v 14)) (.cons (.not (.v 16)) .nil) [15, 16]) .nil))) .nil
def B_bars_in_2 : Ss := .cons (.set 14 (.tup (.cons (.tup (.cons (.c (.str [115, 101, 97, 108])) (.cons (.call 89 (.val (.v 2) .nil)) .nil))) (.cons (.tup (.cons (.c (.str [99, 111, 117, 110, 116])) (.cons (.cmp .eq (.v 5) (.sub (.v 13) (.c (.int 0)))) .nil))) (.cons (.tup (.cons (.c (.str [112, 114, 105, 99, 101])) (.cons (.cmp .ge (.v 9) (.sub (.v 1) (.c (.int 2)))) .nil))) (.cons (.tup (.cons (.c (.str [109, 111, 110, 101, 121])) (.cons (.cmp .ge (.sub (.v 13) (.c (.int 1))) (.bin .add (.v 7) (.bin .mul (.v 8) (.v 9)))) .nil))) (.cons (.tup (.cons (.c (.str [103, 97, 115])) (.cons (.chain .le .le (.call 90 (.val (.v 2) .nil)) (.v 8) (.v 3)) .nil))) .nil))))))) B_bars_in_1
def B_bars_in_3 : Ss := .cons (.set 13 (.call 55 (.val (.v 0) (.val (.call 86 (.val (.v 4) .nil)) .nil)))) B_bars_in_2
def B_bars_in_4 : Ss := .cons (.setT [4, 5, 6, 7, 8, 9, 10, 11, 12] (.v 2)) B_bars_in_3
def F_bars_in : Fn := ⟨4, 17, B_bars_in_4⟩
def R_bars_in : FR := ⟨"bars_in", 95, ["state", "data", "transaction", "left", "user", "count", "to", "value", "gas", "price", "words", "code", "seal", "own", "looks", "reason", "holds"], F_bars_in, false⟩
def F_bar_in : Fn := ⟨4, 4, (.cons (.ret (.sub (.bin .add (.call 95 (.val (.v 0) (.val (.v 1) (.val (.v 2) (.val (.v 3) .nil))))) (.tup (.cons (.c (.str [])) .nil))) (.c (.int 0)))) .nil)⟩
def R_bar_in : FR := ⟨"bar_in", 96, ["state", "data", "transaction", "left"], F_bar_in, false⟩
def B_need_data_1 : Ss := .cons (.iff (.or (.not (.call 94 (.val (.v 0) .nil))) (.cmp .eq (.sub (.v 0) (.c (.int 1))) (.c (.int 0))))
  (.cons (.raise 5 (.c (.str [110, 111, 116, 32, 98, 108, 111, 99, 107, 32, 100, 97, 116, 97])) false) .nil)
  .nil) .nil
def F_need_data : Fn := ⟨1, 1, B_need_data_1⟩
def R_need_data : FR := ⟨"need_data", 97, ["value"], F_need_data, false⟩
def B_need_all_1 : Ss := .cons (.expr (.call 7 (.val (.v 3) (.val (.c (.int 0)) (.val (.c (.int 6000)) .nil))))) .nil
def B_need_all_2 : Ss := .cons (.expr (.call 91 (.val (.v 2) .nil))) B_need_all_1
def B_need_all_3 : Ss := .cons (.expr (.call 97 (.val (.v 1) .nil))) B_need_all_2
def B_need_all_4 : Ss := .cons (.expr (.call 56 (.val (.v 0) .nil))) B_need_all_3
def F_need_all : Fn := ⟨4, 4, B_need_all_4⟩
def R_need_all : FR := ⟨"need_all", 98, ["state", "data", "transaction", "left"], F_need_all, false⟩
def B_bars_of_1 : Ss := .cons (.ret (.call 95 (.val (.v 0) (.val (.v 1) (.val (.v 2) (.val (.v 3) .nil)))))) .nil
def B_bars_of_2 : Ss := .cons (.expr (.call 98 (.val (.v 0) (.val (.v 1) (.val (.v 2) (.val (.v 3) .nil)))))) B_bars_of_1
def F_bars_of : Fn := ⟨4, 4, B_bars_of_2⟩
def R_bars_of : FR := ⟨"bars_of", 99, ["state", "data", "transaction", "left"], F_bars_of, false⟩
def B_bar_of_1 : Ss := .cons (.ret (.call 96 (.val (.v 0) (.val (.v 1) (.val (.v 2) (.val (.v 3) .nil)))))) .nil
def B_bar_of_2 : Ss := .cons (.expr (.call 98 (.val (.v 0) (.val (.v 1) (.val (.v 2) (.val (.v 3) .nil)))))) B_bar_of_1
def F_bar_of : Fn := ⟨4, 4, B_bar_of_2⟩
def R_bar_of : FR := ⟨"bar_of", 100, ["state", "data", "transaction", "left"], F_bar_of, false⟩
def B_law_cup_1 : Ss := .cons (.ret (.lst (.cons (.ite (.cmp .ge (.v 1) (.bin .pow (.c (.int 10)) (.c (.int 18)))) (.bin .fdiv (.v 1) (.c (.int 97))) (.c (.int 0))) (.cons (.bin .add (.bin .mod (.bi .int (.cons (.bin .add (.bin .mul (.v 1) (.c (.int 313))) (.c (.int 2713))) .nil)) (.c (.int 2077503097))) (.c (.int 193))) .nil)))) .nil
def B_law_cup_2 : Ss := .cons (.set 1 (.bi .abs (.cons (.sub (.bin .add (.bi .list (.cons (.v 0) .nil)) (.lst (.cons (.c (.int 0)) .nil))) (.c (.int 0))) .nil))) B_law_cup_1
def F_law_cup : Fn := ⟨1, 2, B_law_cup_2⟩
def R_law_cup : FR := ⟨"_law_cup", 11, ["script", "cell"], F_law_cup, false⟩
def B_law_roll_1 : Ss := .cons (.ret (.v 2)) .nil
def B_law_roll_2 : Ss := .cons (.put 0 (.c (.int 0)) (.bin .fdiv (.sub (.v 0) (.c (.int 0))) (.v 1))) B_law_roll_1
def B_law_roll_3 : Ss := .cons (.set 2 (.bin .mod (.bi .int (.cons (.sub (.v 0) (.c (.int 0))) .nil)) (.v 1))) B_law_roll_2
def B_law_roll_4 : Ss := .cons (.ret (.bin .mod (.bi .int (.cons (.bin .fdiv (.v 3) (.c (.int 857))) .nil)) (.v 1))) .nil
def B_law_roll_5 : Ss := .cons (.set 3 (.bin .mod (.bi .int (.cons (.bin .mul (.sub (.v 0) (.c (.int 1))) (.bin .add (.sub (.v 0) (.c (.int 1))) (.c (.int 263)))) .nil)) (.c (.int 2147483587)))) B_law_roll_4
def B_law_roll_6 : Ss := .cons (.put 0 (.c (.int 1)) (.bin .mod (.bi .int (.cons (.bin .add (.bin .mul (.sub (.v 0) (.c (.int 1))) (.c (.int 31121))) (.c (.int 8059))) .nil)) (.c (.int 2147483543)))) B_law_roll_5
def B_law_roll_7 : Ss := .cons (.iff (.cmp .gt (.sub (.v 0) (.c (.int 0))) (.c (.int 0)))
  B_law_roll_3
  .nil) B_law_roll_6
def F_law_roll : Fn := ⟨2, 4, B_law_roll_7⟩
def R_law_roll : FR := ⟨"_law_roll", 12, ["cup", "many", "found", "deep"], F_law_roll, false⟩
def F_law_some : Fn := ⟨2, 2, (.cons (.ret (.sub (.v 1) (.call 12 (.lend 0 (.val (.bi .len (.cons (.v 1) .nil)) .nil))))) .nil)⟩
def R_law_some : FR := ⟨"_law_some", 13, ["cup", "things"], F_law_some, false⟩
def C_law_account_1 : E := (.v 4)
def B_law_account_1 : Ss := .cons (.ret (.ite (.cmp .ne (.v 2) (.lst .nil)) (.sub (.v 2) (.c (.int 0))) (.tup (.cons (.c (.int 0)) (.cons (.c (.int 0)) (.cons (.tup .nil) (.cons (.tup .nil) .nil))))))) .nil
def B_law_account_2 : Ss := .cons (.set 2 (.comp C_law_account_1 (.t [3, 4]) (.it (.v 0)) (.cons (.cmp .eq (.v 3) (.v 1)) .nil) [3, 4])) B_law_account_1
def F_law_account : Fn := ⟨2, 5, B_law_account_2⟩
def R_law_account : FR := ⟨"_law_account", 61, ["state", "address", "found", "place", "own"], F_law_account, false⟩
def B_law_code_1 : Ss := .cons (.set 2 (.bin .add (.v 2) (.v 5))) .nil
def B_law_code_2 : Ss := .cons (.set 2 (.bin .add (.v 2) (.tup (.cons (.c (.int 1)) (.cons (.call 12 (.lend 0 (.val (.c (.int 4)) .nil))) (.cons (.c (.int 26)) .nil)))))) .nil
def B_law_code_3 : Ss := .cons (.set 2 (.bin .add (.bin .add (.v 2) (.v 5)) (.tup (.cons (.c (.int 1)) (.cons (.call 12 (.lend 0 (.val (.c (.int 4)) .nil))) (.cons (.c (.int 27)) .nil)))))) .nil
def B_law_code_4 : Ss := .cons (.set 2 (.bin .add (.bin .add (.v 2) (.v 5)) (.tup (.cons (.c (.int 1)) (.cons (.c (.int 9)) (.cons (.c (.int 43)) .nil)))))) .nil
def B_law_code_5 : Ss := .cons (.set 2 (.bin .add (.v 2) (.tup (.cons (.call 13 (.lend 0 (.val (.lst (.cons (.c (.int 10)) (.cons (.c (.int 13)) (.cons (.c (.int 31)) (.cons (.c (.int 10)) .nil))))) .nil))) .nil)))) .nil
def B_law_code_6 : Ss := .cons (.iff (.cmp .eq (.v 4) (.c (.int 8)))
  B_law_code_4
  B_law_code_5) .nil
def B_law_code_7 : Ss := .cons (.iff (.cmp .lt (.v 4) (.c (.int 8)))
  B_law_code_3
  B_law_code_6) .nil
def B_law_code_8 : Ss := .cons (.iff (.cmp .eq (.v 4) (.c (.int 5)))
  B_law_code_2
  B_law_code_7) .nil
def B_law_code_9 : Ss := .cons (.iff (.cmp .lt (.v 4) (.c (.int 5)))
  B_law_code_1
  B_law_code_8) .nil
def B_law_code_10 : Ss := .cons (.set 5 (.tup (.cons (.c (.int 1)) (.cons (.call 13 (.lend 0 (.val (.lst (.cons (.c (.int 0)) (.cons (.c (.int 1)) (.cons (.c (.int 2)) (.cons (.c (.int 3)) (.cons (.c (.int 5)) (.cons (.c (.int 200)) .nil))))))) .nil))) .nil)))) B_law_code_9
def B_law_code_11 : Ss := .cons (.set 4 (.call 12 (.lend 0 (.val (.c (.int 12)) .nil)))) B_law_code_10
def B_law_code_12 : Ss := .cons (.ret (.bin .add (.v 2) (.call 13 (.lend 0 (.val (.lst (.cons (.tup .nil) (.cons (.tup (.cons (.c (.int 0)) .nil)) (.cons (.tup (.cons (.c (.int 1)) (.cons (.c (.int 0)) (.cons (.c (.int 48)) .nil)))) (.cons (.tup (.cons (.c (.int 1)) (.cons (.c (.int 1)) (.cons (.c (.int 48)) .nil)))) (.cons (.tup (.cons (.c (.int 1)) (.cons (.c (.int 0)) (.cons (.c (.int 49)) .nil)))) (.cons (.tup (.cons (.c (.int 1)) (.cons (.c (.int 0)) (.cons (.c (.int 49)) .nil)))) (.cons (.tup (.cons (.c (.int 1)) (.cons (.c (.int 7)) (.cons (.c (.int 48)) .nil)))) .nil)))))))) .nil))))) .nil
def B_law_code_13 : Ss := .cons (.for_ (.n 3) (.range1 (.v 1)) B_law_code_11) B_law_code_12
def B_law_code_14 : Ss := .cons (.set 2 (.tup .nil)) B_law_code_13
def F_law_code : Fn := ⟨2, 6, B_law_code_14⟩
def R_law_code : FR := ⟨"_law_code", 101, ["cup", "many", "found", "turn", "way", "number"], F_law_code, false⟩
def F_law_least : Fn := ⟨1, 1, (.cons (.ret (.bin .add (.bin .add (.c (.int 100)) (.bin .mul (.c (.int 5)) (.bi .len (.cons (.sub (.v 0) (.c (.int 6))) .nil)))) (.ite (.cmp .eq (.sub (.v 0) (.c (.int 2))) (.c (.int 0))) (.bin .add (.c (.int 200)) (.bin .mul (.c (.int 2)) (.bi .len (.cons (.sub (.v 0) (.c (.int 7))) .nil)))) (.c (.int 0))))) .nil)⟩
def R_law_least : FR := ⟨"_law_least", 102, ["own"], F_law_least, false⟩
def C_law_scene_1 : E := (.tup (.cons (.bin .add (.v 3) (.c (.int 1))) (.cons (.tup (.cons (.call 12 (.lend 0 (.val (.c (.int 3)) .nil))) (.cons (.call 13 (.lend 0 (.val (.lst (.cons (.c (.int 9000)) (.cons (.c (.int 60000)) (.cons (.c (.int 1000000)) .nil)))) .nil))) (.cons (.tup .nil) (.cons (.tup .nil) .nil))))) .nil)))
def B_law_scene_1 : Ss := .cons (.ret (.tup (.cons (.bi .tuple (.cons (.v 1) .nil)) (.cons (.tup (.cons (.bin .add (.c (.int 1)) (.call 12 (.lend 0 (.val (.c (.int 5)) .nil)))) (.cons (.bin .add (.c (.int 1)) (.call 12 (.lend 0 (.val (.c (.int 4)) .nil)))) (.cons (.call 13 (.lend 0 (.val (.lst (.cons (.c (.int 1)) (.cons (.c (.int 4)) (.cons (.c (.int 10)) .nil)))) .nil))) .nil)))) .nil)))) .nil
def B_law_scene_2 : Ss := .cons (.app 1 (.tup (.cons (.c (.int 701)) (.cons (.tup (.cons (.c (.int 0)) (.cons (.bin .add (.c (.int 1)) (.call 12 (.lend 0 (.val (.c (.int 90)) .nil)))) (.cons (.tup .nil) (.cons (.tup .nil) .nil))))) .nil)))) B_law_scene_1
def B_law_scene_3 : Ss := .cons (.app 1 (.tup (.cons (.c (.int 700)) (.cons (.tup (.cons (.c (.int 1)) (.cons (.call 12 (.lend 0 (.val (.c (.int 90)) .nil))) (.cons (.call 101 (.lend 0 (.val (.call 12 (.lend 0 (.val (.c (.int 7)) .nil))) .nil))) (.cons (.v 2) .nil))))) .nil)))) B_law_scene_2
def B_law_scene_4 : Ss := .cons (.set 2 (.call 13 (.lend 0 (.val (.lst (.cons (.tup .nil) (.cons (.tup (.cons (.tup (.cons (.c (.int 1)) (.cons (.c (.int 5)) .nil))) .nil)) (.cons (.tup (.cons (.tup (.cons (.c (.int 0)) (.cons (.neg (.c (.int 1))) .nil))) (.cons (.tup (.cons (.c (.int 2)) (.cons (.c (.int 7)) .nil))) .nil))) .nil)))) .nil)))) B_law_scene_3
def B_law_scene_5 : Ss := .cons (.set 1 (.comp C_law_scene_1 (.n 3) (.range1 (.c (.int 3))) .nil [3])) B_law_scene_4
def F_law_scene : Fn := ⟨1, 4, B_law_scene_5⟩
def R_law_scene : FR := ⟨"_law_scene", 103, ["cup", "found", "store", "user"], F_law_scene, false⟩
def C_law_order_1 : E := (.call 12 (.lend 0 (.val (.c (.int 9)) .nil)))
def B_law_order_1 : Ss := .cons (.ret (.tup (.cons (.v 4) (.cons (.sub (.call 61 (.val (.v 1) (.val (.bin .add (.v 4) (.c (.int 1))) .nil))) (.c (.int 0))) (.cons (.v 5) (.cons (.call 13 (.lend 0 (.val (.lst (.cons (.c (.int 0)) (.cons (.c (.int 1)) (.cons (.c (.int 50)) (.cons (.c (.int 400)) .nil))))) .nil))) (.cons (.v 9) (.cons (.v 10) (.cons (.v 7) (.cons (.v 6) .nil)))))))))) .nil
def B_law_order_2 : Ss := .cons (.set 10 (.bin .add (.sub (.v 2) (.c (.int 2))) (.call 13 (.lend 0 (.val (.lst (.cons (.c (.int 0)) (.cons (.c (.int 1)) (.cons (.c (.int 3)) .nil)))) .nil))))) B_law_order_1
def B_law_order_3 : Ss := .cons (.set 9 (.bin .add (.v 8) (.call 13 (.lend 0 (.val (.lst (.cons (.c (.int 0)) (.cons (.c (.int 5)) (.cons (.c (.int 30)) (.cons (.c (.int 200)) (.cons (.c (.int 400)) (.cons (.c (.int 800)) .nil))))))) .nil))))) B_law_order_2
def B_law_order_4 : Ss := .cons (.set 8 (.bin .add (.bin .add (.c (.int 100)) (.bin .mul (.c (.int 5)) (.bi .len (.cons (.v 7) .nil)))) (.ite (.cmp .eq (.v 5) (.c (.int 0))) (.bin .add (.c (.int 200)) (.bin .mul (.c (.int 2)) (.bi .len (.cons (.v 6) .nil)))) (.c (.int 0))))) B_law_order_3
def B_law_order_5 : Ss := .cons (.set 7 (.bi .tuple (.cons (.comp C_law_order_1 (.n 11) (.range1 (.call 13 (.lend 0 (.val (.lst (.cons (.c (.int 0)) (.cons (.c (.int 0)) (.cons (.c (.int 1)) (.cons (.c (.int 2)) .nil))))) .nil)))) .nil [11]) .nil))) B_law_order_4
def B_law_order_6 : Ss := .cons (.set 6 (.ite (.cmp .eq (.v 5) (.c (.int 0))) (.call 101 (.lend 0 (.val (.call 12 (.lend 0 (.val (.c (.int 3)) .nil))) .nil))) (.tup .nil))) B_law_order_5
def B_law_order_7 : Ss := .cons (.asgT [4, 5] (.cons (.call 12 (.lend 0 (.val (.c (.int 3)) .nil))) (.cons (.call 13 (.lend 0 (.val (.v 3) .nil))) .nil))) B_law_order_6
def F_law_order : Fn := ⟨4, 12, B_law_order_7⟩
def R_law_order : FR := ⟨"_law_order", 104, ["cup", "state", "data", "goals", "user", "to", "code", "words", "least", "gas", "price", "turn"], F_law_order, false⟩
def B_law_bars_1 : Ss := .cons (.ret (.bi .tuple (.cons (.bin .add (.v 9) (.ite (.or (.cmp .lt (.sub (.v 2) (.c (.int 4))) (.call 102 (.val (.v 2) .nil))) (.cmp .gt (.sub (.v 2) (.c (.int 4))) (.v 3))) (.lst (.cons (.c (.str [103, 97, 115])) .nil)) (.lst .nil))) .nil))) .nil
def B_law_bars_2 : Ss := .cons (.set 9 (.bin .add (.v 9) (.ite (.cmp .lt (.v 6) (.bin .add (.sub (.v 2) (.c (.int 3))) (.bin .mul (.sub (.v 2) (.c (.int 4))) (.sub (.v 2) (.c (.int 5)))))) (.lst (.cons (.c (.str [109, 111, 110, 101, 121])) .nil)) (.lst .nil)))) B_law_bars_1
def B_law_bars_3 : Ss := .cons (.set 9 (.bin .add (.bin .add (.v 9) (.ite (.cmp .ne (.sub (.v 2) (.c (.int 1))) (.v 5)) (.lst (.cons (.c (.str [99, 111, 117, 110, 116])) .nil)) (.lst .nil))) (.ite (.cmp .lt (.sub (.v 2) (.c (.int 5))) (.sub (.v 1) (.c (.int 2)))) (.lst (.cons (.c (.str [112, 114, 105, 99, 101])) .nil)) (.lst .nil)))) B_law_bars_2
def B_law_bars_4 : Ss := .cons (.set 9 (.ite (.v 4) (.lst .nil) (.lst (.cons (.c (.str [115, 101, 97, 108])) .nil)))) B_law_bars_3
def B_law_bars_5 : Ss := .cons (.setT [5, 6, 7, 8] (.call 61 (.val (.v 0) (.val (.bin .add (.sub (.v 2) (.c (.int 0))) (.c (.int 1))) .nil)))) B_law_bars_4
def F_law_bars : Fn := ⟨5, 10, B_law_bars_5⟩
def R_law_bars : FR := ⟨"_law_bars", 105, ["state", "data", "own", "left", "is_right_v", "count", "balance", "code", "store", "found"], F_law_bars, false⟩
def B_law_k41_1 : Ss := .cons (.put 4 (.v 6) (.bi .max (.cons (.c (.int 0)) (.cons (.call 13 (.lend 1 (.val (.lst (.cons (.bin .add (.sub (.v 4) (.v 6)) (.c (.int 1))) (.cons (.bin .sub (.sub (.v 4) (.v 6)) (.c (.int 1))) (.cons (.c (.int 0)) (.cons (.c (.int 30000)) .nil))))) .nil))) .nil)))) .nil
def B_law_k41_2 : Ss := .cons (.set 6 (.call 13 (.lend 1 (.val (.lst (.cons (.c (.int 1)) (.cons (.c (.int 3)) (.cons (.c (.int 4)) (.cons (.c (.int 5)) .nil))))) .nil)))) B_law_k41_1
def B_law_k41_3 : Ss := .cons (.set 7 (.bin .add (.slice (.v 7) .nil (.cons (.c (.int 8)) .nil)) (.tup (.cons (.call 13 (.lend 1 (.val (.lst (.cons (.tup (.cons (.v 12) (.cons (.bin .bxor (.v 13) (.c (.int 1))) .nil))) (.cons (.tup (.cons (.v 12) (.cons (.bin .bxor (.v 13) (.c (.int 1))) .nil))) (.cons (.tup (.cons (.v 12) (.cons (.bin .add (.v 13) (.c (.int 2147483646))) .nil))) (.cons (.tup (.cons (.bin .add (.v 12) (.c (.int 2147483647))) (.cons (.v 13) .nil))) .nil))))) .nil))) .nil)))) .nil
def B_law_k41_4 : Ss := .cons (.setT [12, 13] (.sub (.v 7) (.c (.int 8)))) B_law_k41_3
def B_law_k41_5 : Ss := .cons (.iff (.or (.cmp .ne (.v 11) (.v 10)) (.or (.cmp .ne (.call 100 (.val (.v 2) (.val (.v 3) (.val (.v 7) (.val (.v 8) .nil))))) (.sub (.bin .add (.v 10) (.tup (.cons (.c (.str [])) .nil))) (.c (.int 0)))) (.cmp .ne (.call 93 (.val (.v 7) .nil)) (.v 9))))
  (.cons (.ret (.c (.bl false))) .nil)
  .nil) B_law_k41_4
def B_law_k41_6 : Ss := .cons (.set 11 (.call 99 (.val (.v 2) (.val (.v 3) (.val (.v 7) (.val (.v 8) .nil)))))) B_law_k41_5
def B_law_k41_7 : Ss := .cons (.set 10 (.call 105 (.val (.v 2) (.val (.v 3) (.val (.v 7) (.val (.v 8) (.val (.v 9) .nil))))))) B_law_k41_6
def B_law_k41_8 : Ss := .cons (.set 9 (.cmp .eq (.v 5) (.c (.int 0)))) B_law_k41_7
def C_law_k41_1 : E := (.tup (.cons (.bin .add (.v 17) (.c (.int 1))) (.cons (.tup (.cons (.c (.int 0)) (.cons (.c (.int 1000000)) (.cons (.tup .nil) (.cons (.tup .nil) .nil))))) .nil)))
def C_law_k41_2 : E := (.v 18)
def C_law_k41_3 : E := (.lamc 5 (.call 100 (.val (.v 19) (.val (.c .non) (.val (.c .non) (.val (.c .non) .nil))))))
def C_law_k41_4 : E := (.lamc 5 (.call 100 (.val (.v 14) (.val (.v 19) (.val (.c .non) (.val (.c .non) .nil))))))
def C_law_k41_5 : E := (.lamc 5 (.call 99 (.val (.v 14) (.val (.v 3) (.val (.v 19) (.val (.c .non) .nil))))))
def C_law_k41_6 : E := (.lamc 5 (.call 99 (.val (.v 14) (.val (.v 3) (.val (.v 7) (.val (.v 19) .nil))))))
def B_law_k41_9 : Ss := .cons (.ret (.cmp .eq (.v 16) (.bin .add (.bin .add (.bin .add (.bin .mul (.lst (.cons (.c (.str [115, 116, 97, 116, 101])) .nil)) (.c (.int 2))) (.bin .mul (.lst (.cons (.c (.str [100, 97, 116, 97])) .nil)) (.c (.int 3)))) (.bin .mul (.lst (.cons (.c (.str [116, 114, 97, 110, 115, 97, 99, 116, 105, 111, 110])) .nil)) (.c (.int 2)))) (.bin .mul (.lst (.cons (.c (.str [110, 117, 109, 98, 101, 114])) .nil)) (.c (.int 4)))))) .nil
def B_law_k41_10 : Ss := .cons (.set 16 (.bin .add (.v 16) (.comp C_law_k41_6 (.n 19) (.it (.tup (.cons (.c .non) (.cons (.neg (.c (.int 1))) (.cons (.c (.int 6001)) (.cons (.c (.bl true)) .nil)))))) .nil [19]))) B_law_k41_9
def B_law_k41_11 : Ss := .cons (.set 16 (.bin .add (.v 16) (.comp C_law_k41_5 (.n 19) (.it (.tup (.cons (.c .non) (.cons (.slice (.v 7) .nil (.cons (.c (.int 8)) .nil)) .nil)))) .nil [19]))) B_law_k41_10
def B_law_k41_12 : Ss := .cons (.set 16 (.bin .add (.v 16) (.comp C_law_k41_4 (.n 19) (.it (.tup (.cons (.c .non) (.cons (.tup (.cons (.c (.int 1)) (.cons (.c (.int 2)) .nil))) (.cons (.tup (.cons (.c (.int 1)) (.cons (.c (.int 0)) (.cons (.c (.int 3)) .nil)))) .nil))))) .nil [19]))) B_law_k41_11
def B_law_k41_13 : Ss := .cons (.set 16 (.comp C_law_k41_3 (.n 19) (.it (.tup (.cons (.c .non) (.cons (.tup (.cons (.tup (.cons (.c (.int 0)) (.cons (.tup (.cons (.c (.int 0)) (.cons (.c (.int 1)) (.cons (.tup .nil) (.cons (.tup .nil) .nil))))) .nil))) .nil)) .nil)))) .nil [19])) B_law_k41_12
def B_law_k41_14 : Ss := .cons (.iff (.or (.cmp .ne (.call 99 (.val (.tup .nil) (.val (.v 3) (.val (.v 7) (.val (.c (.int 6000)) .nil))))) (.tup (.cons (.c (.str [109, 111, 110, 101, 121])) .nil))) (.cmp .ne (.call 99 (.val (.tup (.cons (.tup (.cons (.c (.int 3)) (.cons (.tup (.cons (.c (.int 0)) (.cons (.c (.int 5000)) (.cons (.tup .nil) (.cons (.tup .nil) .nil))))) .nil))) .nil)) (.val (.v 3) (.val (.v 7) (.val (.c (.int 6000)) .nil))))) (.tup (.cons (.c (.str [109, 111, 110, 101, 121])) .nil))))
  (.cons (.ret (.c (.bl false))) .nil)
  .nil) B_law_k41_13
def B_law_k41_15 : Ss := .cons (.iff (.cmp .ne (.comp C_law_k41_2 (.n 18) (.it (.v 15)) (.cons (.cmp .ne (.call 99 (.val (.tup (.cons (.tup (.cons (.c (.int 2)) (.cons (.tup (.cons (.c (.int 0)) (.cons (.sub (.v 18) (.c (.int 0))) (.cons (.tup .nil) (.cons (.tup .nil) .nil))))) .nil))) .nil)) (.val (.v 3) (.val (.v 7) (.val (.sub (.v 18) (.c (.int 1))) .nil))))) (.sub (.v 18) (.c (.int 2)))) .nil) [18]) (.lst .nil))
  (.cons (.ret (.c (.bl false))) .nil)
  .nil) B_law_k41_14
def B_law_k41_16 : Ss := .cons (.set 15 (.lst (.cons (.tup (.cons (.c (.int 2100)) (.cons (.c (.int 150)) (.cons (.tup .nil) .nil)))) (.cons (.tup (.cons (.c (.int 2099)) (.cons (.c (.int 150)) (.cons (.tup (.cons (.c (.str [109, 111, 110, 101, 121])) .nil)) .nil)))) (.cons (.tup (.cons (.c (.int 2100)) (.cons (.c (.int 149)) (.cons (.tup (.cons (.c (.str [103, 97, 115])) .nil)) .nil)))) (.cons (.tup (.cons (.c (.int 2099)) (.cons (.c (.int 149)) (.cons (.tup (.cons (.c (.str [109, 111, 110, 101, 121])) (.cons (.c (.str [103, 97, 115])) .nil))) .nil)))) .nil)))))) B_law_k41_15
def B_law_k41_17 : Ss := .cons (.iff (.cmp .ne (.call 99 (.val (.v 14) (.val (.tup (.cons (.c (.int 1)) (.cons (.c (.int 4)) (.cons (.c (.int 13)) .nil)))) (.val (.bin .add (.bin .add (.slice (.v 7) .nil (.cons (.c (.int 4)) .nil)) (.tup (.cons (.c (.int 99)) .nil))) (.slice (.v 7) (.cons (.c (.int 5)) .nil) .nil)) (.val (.c (.int 90)) .nil))))) (.tup (.cons (.c (.str [115, 101, 97, 108])) (.cons (.c (.str [112, 114, 105, 99, 101])) (.cons (.c (.str [103, 97, 115])) .nil)))))
  (.cons (.ret (.c (.bl false))) .nil)
  .nil) B_law_k41_16
def B_law_k41_18 : Ss := .cons (.iff (.cmp .ne (.call 99 (.val (.v 14) (.val (.v 3) (.val (.v 7) (.val (.c (.int 6000)) .nil))))) (.tup .nil))
  (.cons (.ret (.c (.bl false))) .nil)
  .nil) B_law_k41_17
def B_law_k41_19 : Ss := .cons (.asgT [7, 3] (.cons (.call 92 (.val (.tup (.cons (.c (.int 1)) (.cons (.c (.int 0)) (.cons (.c (.int 5)) (.cons (.c (.int 300)) (.cons (.c (.int 150)) (.cons (.c (.int 12)) (.cons (.tup .nil) (.cons (.tup .nil) .nil))))))))) .nil)) (.cons (.tup (.cons (.c (.int 1)) (.cons (.c (.int 4)) (.cons (.c (.int 10)) .nil)))) .nil))) B_law_k41_18
def B_law_k41_20 : Ss := .cons (.set 14 (.bi .tuple (.cons (.comp C_law_k41_1 (.n 17) (.range1 (.c (.int 6))) .nil [17]) .nil))) B_law_k41_19
def B_law_k41_21 : Ss := .cons (.for_ (.n 5) (.range1 (.c (.int 2))) B_law_k41_8) B_law_k41_20
def B_law_k41_22 : Ss := .cons (.asgT [7, 8] (.cons (.call 92 (.val (.bi .tuple (.cons (.v 4) .nil)) .nil)) (.cons (.call 13 (.lend 1 (.val (.lst (.cons (.c (.int 6000)) (.cons (.c (.int 6000)) (.cons (.bin .mod (.bi .int (.cons (.sub (.v 4) (.c (.int 4))) .nil)) (.c (.int 6000))) (.cons (.c (.int 100)) .nil))))) .nil))) .nil))) B_law_k41_21
def B_law_k41_23 : Ss := .cons (.for_ (.n 5) (.range1 (.call 13 (.lend 1 (.val (.lst (.cons (.c (.int 0)) (.cons (.c (.int 1)) (.cons (.c (.int 1)) (.cons (.c (.int 2)) .nil))))) .nil)))) B_law_k41_2) B_law_k41_22
def B_law_k41_24 : Ss := .cons (.set 4 (.bi .list (.cons (.call 104 (.lend 1 (.val (.v 2) (.val (.v 3) (.val (.lst (.cons (.c (.int 700)) (.cons (.c (.int 701)) (.cons (.c (.int 1)) (.cons (.c (.int 0)) (.cons (.c (.int 9000)) .nil)))))) .nil))))) .nil))) B_law_k41_23
def B_law_k41_25 : Ss := .cons (.setT [2, 3] (.call 103 (.lend 1 .nil))) B_law_k41_24
def B_law_k41_26 : Ss := .cons (.set 1 (.call 11 (.val (.v 0) .nil))) B_law_k41_25
def F_law_k41 : Fn := ⟨1, 20, B_law_k41_26⟩
def R_law_k41 : FR := ⟨"law", 106, ["script", "cup", "state", "data", "plain", "turn", "at", "own", "left", "is_right_v", "due", "told", "r", "s", "first", "rows", "words", "user", "row", "odd"], F_law_k41, true⟩
def H_law_error_6 : HR := ⟨"_law_error", 5, "call", ⟨[(11, none), (4, some (.str [115, 116, 97, 116, 101])), (5, some (.str [100, 97, 116, 97])), (12, some (.str [116, 114, 97, 110, 115, 97, 99, 116, 105, 111, 110])), (10, some (.str [114, 101, 99, 101, 105, 112, 116])), (0, some (.str [110, 117, 109, 98, 101, 114])), (2, some (.str [111, 116, 104, 101, 114]))], (.str [])⟩⟩
def LW : Lw where
  rows := [R_is_whole, R_is_tuple_of, R_is_ascending, R_wrapped, R_raised, R_fits_octets, R_is_word, R_octets_by, R_sum_by, R_need_whole, R_power, R_secret_by, R_public_by, R_share, R_seal_by, R_is_right, R_fits_store, R_fits_account, R_fits_state, R_account_in, R_address_of_user, R_need_state, R_fits_plain, R_fits_transaction, R_plain_octets, R_plain_sum, R_is_sealed_by, R_least_gas_by, R_need_transaction, R_sealed, R_is_sealed, R_fits_data, R_bars_in, R_bar_in, R_need_data, R_need_all, R_bars_of, R_bar_of, R_law_cup, R_law_roll, R_law_some, R_law_account, R_law_code, R_law_least, R_law_scene, R_law_order, R_law_bars, R_law_k41]
  hrs := [H_law_error_6]
  nums := [("HALF", 9223372036854775808), ("WHOLE", 18446744073709551616), ("TIMES", 6364136223846793005), ("MORE", 1442695040888963407), ("SHIFT", 536870912), ("PRIME", 2147483647), ("BASE", 7), ("USERS", 6), ("FIRST", 1001), ("STEP", 7919), ("KEY_BITS", 4), ("HALVES", 8589934592), ("ADDRESSES", 65535), ("KEYS", 65535), ("CODE", 240), ("PAIRS", 60), ("ACCOUNTS", 60), ("COUNT", 1000000000), ("BALANCE", 1000000000000000), ("COUNTS", 999999), ("VALUES", 1000000000), ("GAS_transactions", 100000), ("WORDS", 6), ("SEALS", 4294967295), ("NUMBERS", 1000000), ("GAS_bars", 6000)]
  cons := [("EMPTY", (.tup [(.int 0), (.int 0), (.tup []), (.tup [])]))]
  cls := [("InvalidNumber", 0), ("InvalidState", 4), ("InvalidTransaction", 12), ("InvalidData", 5), ("InvalidReceipt", 10), ("LedgerError", 2)]
  hc := [("Barred", 11)]
  sub := [(0, 11, false), (0, 4, false), (0, 5, false), (0, 12, false), (0, 10, false), (0, 0, true), (0, 2, true), (4, 11, false), (4, 4, true), (4, 5, false), (4, 12, false), (4, 10, false), (4, 0, false), (4, 2, true), (12, 11, false), (12, 4, false), (12, 5, false), (12, 12, true), (12, 10, false), (12, 0, false), (12, 2, true), (5, 11, false), (5, 4, false), (5, 5, true), (5, 12, false), (5, 10, false), (5, 0, false), (5, 2, true), (10, 11, false), (10, 4, false), (10, 5, false), (10, 12, false), (10, 10, true), (10, 0, false), (10, 2, true), (2, 11, false), (2, 4, false), (2, 5, false), (2, 12, false), (2, 10, false), (2, 0, false), (2, 2, true)]
  tf := ["law"]
def fnT : Nat → Option Fn
  | 0 => some F_is_whole
  | 1 => some F_is_tuple_of
  | 2 => some F_wrapped
  | 3 => some F_fits_octets
  | 4 => some F_is_word
  | 5 => some F_octets_by
  | 6 => some F_sum_by
  | 7 => some F_need_whole
  | 11 => some F_law_cup
  | 12 => some F_law_roll
  | 13 => some F_law_some
  | 19 => some F_raised
  | 20 => some F_power
  | 21 => some F_secret_by
  | 22 => some F_public_by
  | 23 => some F_share
  | 24 => some F_seal_by
  | 25 => some F_is_right
  | 35 => some F_fits_plain
  | 36 => some F_fits_transaction
  | 51 => some F_is_ascending
  | 52 => some F_fits_store
  | 53 => some F_fits_account
  | 54 => some F_fits_state
  | 55 => some F_account_in
  | 56 => some F_need_state
  | 61 => some F_law_account
  | 86 => some F_address_of_user
  | 87 => some F_plain_octets
  | 88 => some F_plain_sum
  | 89 => some F_is_sealed_by
  | 90 => some F_least_gas_by
  | 91 => some F_need_transaction
  | 92 => some F_sealed
  | 93 => some F_is_sealed
  | 94 => some F_fits_data
  | 95 => some F_bars_in
  | 96 => some F_bar_in
  | 97 => some F_need_data
  | 98 => some F_need_all
  | 99 => some F_bars_of
  | 100 => some F_bar_of
  | 101 => some F_law_code
  | 102 => some F_law_least
  | 103 => some F_law_scene
  | 104 => some F_law_order
  | 105 => some F_law_bars
  | 106 => some F_law_k41
  | _ => none
def hnT : Nat → Option Hn
  | 5 => some H_law_error_6.Hd
  | _ => none
def PG : Pg where
  fn := fnT
  hn := hnT
  subs := LW.subs
  wf := 1000000
section
variable {k : Nat} {Q : Bool × D × List D → Prop} {X : Ex → Prop}
theorem run_is_whole {a0 a1 a2 : DL.Arg} : (runF PG (k + 1) 0 [a0, a1, a2]).wp Q X = (exSs (runF PG k) (handP PG) PG.wf (.cons (.ret (.and (.isi (.v 0) .int) (.and (.not (.isi (.v 0) .bool)) (.chain .le .le (.v 1) (.v 0) (.v 2))))) .nil) [slOf a0, slOf a1, slOf a2]).wp (fun ε => (Rs.opt (outsE ε 0 [a0, a1, a2])).wp (fun outs => Q (false, .non, outs)) X) (fun _ => False) (fun o d ε => (Rs.opt (outsE ε 0 [a0, a1, a2])).wp (fun outs => Q (o, d, outs)) X) X := runF_w (F := F_is_whole) rfl ⟨rfl, by decide⟩
theorem run_is_tuple_of {a0 a1 a2 : DL.Arg} : (runF PG (k + 1) 1 [a0, a1, a2]).wp Q X = (exSs (runF PG k) (handP PG) PG.wf (.cons (.ret (.and (.isi (.v 0) .tuple) (.chain .le .le (.v 1) (.bi .len (.cons (.v 0) .nil)) (.v 2)))) .nil) [slOf a0, slOf a1, slOf a2]).wp (fun ε => (Rs.opt (outsE ε 0 [a0, a1, a2])).wp (fun outs => Q (false, .non, outs)) X) (fun _ => False) (fun o d ε => (Rs.opt (outsE ε 0 [a0, a1, a2])).wp (fun outs => Q (o, d, outs)) X) X := runF_w (F := F_is_tuple_of) rfl ⟨rfl, by decide⟩
theorem run_is_ascending {a0 : DL.Arg} : (runF PG (k + 1) 51 [a0]).wp Q X = (exSs (runF PG k) (handP PG) PG.wf B_is_ascending_1 [slOf a0, .no, .no]).wp (fun ε => (Rs.opt (outsE ε 0 [a0])).wp (fun outs => Q (false, .non, outs)) X) (fun _ => False) (fun o d ε => (Rs.opt (outsE ε 0 [a0])).wp (fun outs => Q (o, d, outs)) X) X := runF_w (F := F_is_ascending) rfl ⟨rfl, by decide⟩
theorem run_wrapped {a0 : DL.Arg} : (runF PG (k + 1) 2 [a0]).wp Q X = (exSs (runF PG k) (handP PG) PG.wf (.cons (.ret (.bin .sub (.bin .mod (.bin .add (.v 0) (.c (.int 9223372036854775808))) (.c (.int 18446744073709551616))) (.c (.int 9223372036854775808)))) .nil) [slOf a0]).wp (fun ε => (Rs.opt (outsE ε 0 [a0])).wp (fun outs => Q (false, .non, outs)) X) (fun _ => False) (fun o d ε => (Rs.opt (outsE ε 0 [a0])).wp (fun outs => Q (o, d, outs)) X) X := runF_w (F := F_wrapped) rfl ⟨rfl, by decide⟩
theorem run_raised {a0 : DL.Arg} : (runF PG (k + 1) 19 [a0]).wp Q X = (exSs (runF PG k) (handP PG) PG.wf (.cons (.ret (.bin .mod (.v 0) (.c (.int 18446744073709551616)))) .nil) [slOf a0]).wp (fun ε => (Rs.opt (outsE ε 0 [a0])).wp (fun outs => Q (false, .non, outs)) X) (fun _ => False) (fun o d ε => (Rs.opt (outsE ε 0 [a0])).wp (fun outs => Q (o, d, outs)) X) X := runF_w (F := F_raised) rfl ⟨rfl, by decide⟩
theorem run_fits_octets {a0 a1 : DL.Arg} : (runF PG (k + 1) 3 [a0, a1]).wp Q X = (exSs (runF PG k) (handP PG) PG.wf B_fits_octets_1 [slOf a0, slOf a1, .no]).wp (fun ε => (Rs.opt (outsE ε 0 [a0, a1])).wp (fun outs => Q (false, .non, outs)) X) (fun _ => False) (fun o d ε => (Rs.opt (outsE ε 0 [a0, a1])).wp (fun outs => Q (o, d, outs)) X) X := runF_w (F := F_fits_octets) rfl ⟨rfl, by decide⟩
theorem run_is_word {a0 : DL.Arg} : (runF PG (k + 1) 4 [a0]).wp Q X = (exSs (runF PG k) (handP PG) PG.wf (.cons (.ret (.call 0 (.val (.v 0) (.val (.neg (.c (.int 9223372036854775808))) (.val (.bin .sub (.c (.int 9223372036854775808)) (.c (.int 1))) .nil))))) .nil) [slOf a0]).wp (fun ε => (Rs.opt (outsE ε 0 [a0])).wp (fun outs => Q (false, .non, outs)) X) (fun _ => False) (fun o d ε => (Rs.opt (outsE ε 0 [a0])).wp (fun outs => Q (o, d, outs)) X) X := runF_w (F := F_is_word) rfl ⟨rfl, by decide⟩
theorem run_octets_by {a0 a1 : DL.Arg} : (runF PG (k + 1) 5 [a0, a1]).wp Q X = (exSs (runF PG k) (handP PG) PG.wf B_octets_by_5 [slOf a0, slOf a1, .no, .no]).wp (fun ε => (Rs.opt (outsE ε 0 [a0, a1])).wp (fun outs => Q (false, .non, outs)) X) (fun _ => False) (fun o d ε => (Rs.opt (outsE ε 0 [a0, a1])).wp (fun outs => Q (o, d, outs)) X) X := runF_w (F := F_octets_by) rfl ⟨rfl, by decide⟩
theorem run_sum_by {a0 a1 : DL.Arg} : (runF PG (k + 1) 6 [a0, a1]).wp Q X = (exSs (runF PG k) (handP PG) PG.wf B_sum_by_5 [slOf a0, slOf a1, .no, .no]).wp (fun ε => (Rs.opt (outsE ε 0 [a0, a1])).wp (fun outs => Q (false, .non, outs)) X) (fun _ => False) (fun o d ε => (Rs.opt (outsE ε 0 [a0, a1])).wp (fun outs => Q (o, d, outs)) X) X := runF_w (F := F_sum_by) rfl ⟨rfl, by decide⟩
theorem run_need_whole {a0 a1 a2 : DL.Arg} : (runF PG (k + 1) 7 [a0, a1, a2]).wp Q X = (exSs (runF PG k) (handP PG) PG.wf B_need_whole_1 [slOf a0, slOf a1, slOf a2]).wp (fun ε => (Rs.opt (outsE ε 0 [a0, a1, a2])).wp (fun outs => Q (false, .non, outs)) X) (fun _ => False) (fun o d ε => (Rs.opt (outsE ε 0 [a0, a1, a2])).wp (fun outs => Q (o, d, outs)) X) X := runF_w (F := F_need_whole) rfl ⟨rfl, by decide⟩
theorem run_power {a0 a1 : DL.Arg} : (runF PG (k + 1) 20 [a0, a1]).wp Q X = (exSs (runF PG k) (handP PG) PG.wf B_power_5 [slOf a0, slOf a1, .no]).wp (fun ε => (Rs.opt (outsE ε 0 [a0, a1])).wp (fun outs => Q (false, .non, outs)) X) (fun _ => False) (fun o d ε => (Rs.opt (outsE ε 0 [a0, a1])).wp (fun outs => Q (o, d, outs)) X) X := runF_w (F := F_power) rfl ⟨rfl, by decide⟩
theorem run_secret_by {a0 : DL.Arg} : (runF PG (k + 1) 21 [a0]).wp Q X = (exSs (runF PG k) (handP PG) PG.wf (.cons (.ret (.bin .add (.c (.int 1001)) (.bin .mul (.c (.int 7919)) (.v 0)))) .nil) [slOf a0]).wp (fun ε => (Rs.opt (outsE ε 0 [a0])).wp (fun outs => Q (false, .non, outs)) X) (fun _ => False) (fun o d ε => (Rs.opt (outsE ε 0 [a0])).wp (fun outs => Q (o, d, outs)) X) X := runF_w (F := F_secret_by) rfl ⟨rfl, by decide⟩
theorem run_public_by {a0 : DL.Arg} : (runF PG (k + 1) 22 [a0]).wp Q X = (exSs (runF PG k) (handP PG) PG.wf (.cons (.ret (.call 20 (.val (.c (.int 7)) (.val (.call 21 (.val (.v 0) .nil)) .nil)))) .nil) [slOf a0]).wp (fun ε => (Rs.opt (outsE ε 0 [a0])).wp (fun outs => Q (false, .non, outs)) X) (fun _ => False) (fun o d ε => (Rs.opt (outsE ε 0 [a0])).wp (fun outs => Q (o, d, outs)) X) X := runF_w (F := F_public_by) rfl ⟨rfl, by decide⟩
theorem run_share {a0 a1 : DL.Arg} : (runF PG (k + 1) 23 [a0, a1]).wp Q X = (exSs (runF PG k) (handP PG) PG.wf (.cons (.ret (.bin .fdiv (.call 19 (.val (.call 6 (.val (.c (.int 13)) (.val (.bin .add (.call 5 (.val (.v 0) (.val (.c (.int 4)) .nil))) (.call 5 (.val (.v 1) (.val (.c (.int 8)) .nil)))) .nil))) .nil)) (.c (.int 8589934592)))) .nil) [slOf a0, slOf a1]).wp (fun ε => (Rs.opt (outsE ε 0 [a0, a1])).wp (fun outs => Q (false, .non, outs)) X) (fun _ => False) (fun o d ε => (Rs.opt (outsE ε 0 [a0, a1])).wp (fun outs => Q (o, d, outs)) X) X := runF_w (F := F_share) rfl ⟨rfl, by decide⟩
theorem run_seal_by {a0 a1 : DL.Arg} : (runF PG (k + 1) 24 [a0, a1]).wp Q X = (exSs (runF PG k) (handP PG) PG.wf B_seal_by_4 [slOf a0, slOf a1, .no, .no, .no]).wp (fun ε => (Rs.opt (outsE ε 0 [a0, a1])).wp (fun outs => Q (false, .non, outs)) X) (fun _ => False) (fun o d ε => (Rs.opt (outsE ε 0 [a0, a1])).wp (fun outs => Q (o, d, outs)) X) X := runF_w (F := F_seal_by) rfl ⟨rfl, by decide⟩
theorem run_is_right {a0 a1 a2 : DL.Arg} : (runF PG (k + 1) 25 [a0, a1, a2]).wp Q X = (exSs (runF PG k) (handP PG) PG.wf B_is_right_3 [slOf a0, slOf a1, slOf a2, .no, .no]).wp (fun ε => (Rs.opt (outsE ε 0 [a0, a1, a2])).wp (fun outs => Q (false, .non, outs)) X) (fun _ => False) (fun o d ε => (Rs.opt (outsE ε 0 [a0, a1, a2])).wp (fun outs => Q (o, d, outs)) X) X := runF_w (F := F_is_right) rfl ⟨rfl, by decide⟩
theorem run_fits_store {a0 : DL.Arg} : (runF PG (k + 1) 52 [a0]).wp Q X = (exSs (runF PG k) (handP PG) PG.wf B_fits_store_3 [slOf a0, .no]).wp (fun ε => (Rs.opt (outsE ε 0 [a0])).wp (fun outs => Q (false, .non, outs)) X) (fun _ => False) (fun o d ε => (Rs.opt (outsE ε 0 [a0])).wp (fun outs => Q (o, d, outs)) X) X := runF_w (F := F_fits_store) rfl ⟨rfl, by decide⟩
theorem run_fits_account {a0 : DL.Arg} : (runF PG (k + 1) 53 [a0]).wp Q X = (exSs (runF PG k) (handP PG) PG.wf B_fits_account_2 [slOf a0]).wp (fun ε => (Rs.opt (outsE ε 0 [a0])).wp (fun outs => Q (false, .non, outs)) X) (fun _ => False) (fun o d ε => (Rs.opt (outsE ε 0 [a0])).wp (fun outs => Q (o, d, outs)) X) X := runF_w (F := F_fits_account) rfl ⟨rfl, by decide⟩
theorem run_fits_state {a0 : DL.Arg} : (runF PG (k + 1) 54 [a0]).wp Q X = (exSs (runF PG k) (handP PG) PG.wf B_fits_state_3 [slOf a0, .no]).wp (fun ε => (Rs.opt (outsE ε 0 [a0])).wp (fun outs => Q (false, .non, outs)) X) (fun _ => False) (fun o d ε => (Rs.opt (outsE ε 0 [a0])).wp (fun outs => Q (o, d, outs)) X) X := runF_w (F := F_fits_state) rfl ⟨rfl, by decide⟩
theorem run_account_in {a0 a1 : DL.Arg} : (runF PG (k + 1) 55 [a0, a1]).wp Q X = (exSs (runF PG k) (handP PG) PG.wf (.cons (.ret (.meth .get (.bi .dict (.cons (.bi .list (.cons (.v 0) .nil)) .nil)) (.cons (.v 1) (.cons (.c (.tup [(.int 0), (.int 0), (.tup []), (.tup [])])) .nil)))) .nil) [slOf a0, slOf a1]).wp (fun ε => (Rs.opt (outsE ε 0 [a0, a1])).wp (fun outs => Q (false, .non, outs)) X) (fun _ => False) (fun o d ε => (Rs.opt (outsE ε 0 [a0, a1])).wp (fun outs => Q (o, d, outs)) X) X := runF_w (F := F_account_in) rfl ⟨rfl, by decide⟩
theorem run_address_of_user {a0 : DL.Arg} : (runF PG (k + 1) 86 [a0]).wp Q X = (exSs (runF PG k) (handP PG) PG.wf (.cons (.ret (.bin .add (.v 0) (.c (.int 1)))) .nil) [slOf a0]).wp (fun ε => (Rs.opt (outsE ε 0 [a0])).wp (fun outs => Q (false, .non, outs)) X) (fun _ => False) (fun o d ε => (Rs.opt (outsE ε 0 [a0])).wp (fun outs => Q (o, d, outs)) X) X := runF_w (F := F_address_of_user) rfl ⟨rfl, by decide⟩
theorem run_need_state {a0 : DL.Arg} : (runF PG (k + 1) 56 [a0]).wp Q X = (exSs (runF PG k) (handP PG) PG.wf B_need_state_1 [slOf a0]).wp (fun ε => (Rs.opt (outsE ε 0 [a0])).wp (fun outs => Q (false, .non, outs)) X) (fun _ => False) (fun o d ε => (Rs.opt (outsE ε 0 [a0])).wp (fun outs => Q (o, d, outs)) X) X := runF_w (F := F_need_state) rfl ⟨rfl, by decide⟩
theorem run_fits_plain {a0 : DL.Arg} : (runF PG (k + 1) 35 [a0]).wp Q X = (exSs (runF PG k) (handP PG) PG.wf B_fits_plain_5 [slOf a0, .no]).wp (fun ε => (Rs.opt (outsE ε 0 [a0])).wp (fun outs => Q (false, .non, outs)) X) (fun _ => False) (fun o d ε => (Rs.opt (outsE ε 0 [a0])).wp (fun outs => Q (o, d, outs)) X) X := runF_w (F := F_fits_plain) rfl ⟨rfl, by decide⟩
theorem run_fits_transaction {a0 : DL.Arg} : (runF PG (k + 1) 36 [a0]).wp Q X = (exSs (runF PG k) (handP PG) PG.wf B_fits_transaction_2 [slOf a0, .no]).wp (fun ε => (Rs.opt (outsE ε 0 [a0])).wp (fun outs => Q (false, .non, outs)) X) (fun _ => False) (fun o d ε => (Rs.opt (outsE ε 0 [a0])).wp (fun outs => Q (o, d, outs)) X) X := runF_w (F := F_fits_transaction) rfl ⟨rfl, by decide⟩
theorem run_plain_octets {a0 : DL.Arg} : (runF PG (k + 1) 87 [a0]).wp Q X = (exSs (runF PG k) (handP PG) PG.wf B_plain_octets_5 [slOf a0, .no, .no]).wp (fun ε => (Rs.opt (outsE ε 0 [a0])).wp (fun outs => Q (false, .non, outs)) X) (fun _ => False) (fun o d ε => (Rs.opt (outsE ε 0 [a0])).wp (fun outs => Q (o, d, outs)) X) X := runF_w (F := F_plain_octets) rfl ⟨rfl, by decide⟩
theorem run_plain_sum {a0 : DL.Arg} : (runF PG (k + 1) 88 [a0]).wp Q X = (exSs (runF PG k) (handP PG) PG.wf (.cons (.ret (.call 6 (.val (.c (.int 41)) (.val (.call 87 (.val (.v 0) .nil)) .nil)))) .nil) [slOf a0]).wp (fun ε => (Rs.opt (outsE ε 0 [a0])).wp (fun outs => Q (false, .non, outs)) X) (fun _ => False) (fun o d ε => (Rs.opt (outsE ε 0 [a0])).wp (fun outs => Q (o, d, outs)) X) X := runF_w (F := F_plain_sum) rfl ⟨rfl, by decide⟩
theorem run_is_sealed_by {a0 : DL.Arg} : (runF PG (k + 1) 89 [a0]).wp Q X = (exSs (runF PG k) (handP PG) PG.wf (.cons (.ret (.call 25 (.val (.sub (.v 0) (.c (.int 0))) (.val (.call 88 (.val (.v 0) .nil)) (.val (.sub (.v 0) (.c (.int 8))) .nil))))) .nil) [slOf a0]).wp (fun ε => (Rs.opt (outsE ε 0 [a0])).wp (fun outs => Q (false, .non, outs)) X) (fun _ => False) (fun o d ε => (Rs.opt (outsE ε 0 [a0])).wp (fun outs => Q (o, d, outs)) X) X := runF_w (F := F_is_sealed_by) rfl ⟨rfl, by decide⟩
theorem run_least_gas_by {a0 : DL.Arg} : (runF PG (k + 1) 90 [a0]).wp Q X = (exSs (runF PG k) (handP PG) PG.wf (.cons (.ret (.bin .add (.bin .add (.c (.int 100)) (.bin .mul (.c (.int 5)) (.bi .len (.cons (.sub (.v 0) (.c (.int 6))) .nil)))) (.ite (.cmp .eq (.sub (.v 0) (.c (.int 2))) (.c (.int 0))) (.bin .add (.c (.int 200)) (.bin .mul (.c (.int 2)) (.bi .len (.cons (.sub (.v 0) (.c (.int 7))) .nil)))) (.c (.int 0))))) .nil) [slOf a0]).wp (fun ε => (Rs.opt (outsE ε 0 [a0])).wp (fun outs => Q (false, .non, outs)) X) (fun _ => False) (fun o d ε => (Rs.opt (outsE ε 0 [a0])).wp (fun outs => Q (o, d, outs)) X) X := runF_w (F := F_least_gas_by) rfl ⟨rfl, by decide⟩
theorem run_need_transaction {a0 : DL.Arg} : (runF PG (k + 1) 91 [a0]).wp Q X = (exSs (runF PG k) (handP PG) PG.wf B_need_transaction_1 [slOf a0]).wp (fun ε => (Rs.opt (outsE ε 0 [a0])).wp (fun outs => Q (false, .non, outs)) X) (fun _ => False) (fun o d ε => (Rs.opt (outsE ε 0 [a0])).wp (fun outs => Q (o, d, outs)) X) X := runF_w (F := F_need_transaction) rfl ⟨rfl, by decide⟩
theorem run_sealed {a0 : DL.Arg} : (runF PG (k + 1) 92 [a0]).wp Q X = (exSs (runF PG k) (handP PG) PG.wf B_sealed_2 [slOf a0]).wp (fun ε => (Rs.opt (outsE ε 0 [a0])).wp (fun outs => Q (false, .non, outs)) X) (fun _ => False) (fun o d ε => (Rs.opt (outsE ε 0 [a0])).wp (fun outs => Q (o, d, outs)) X) X := runF_w (F := F_sealed) rfl ⟨rfl, by decide⟩
theorem run_is_sealed {a0 : DL.Arg} : (runF PG (k + 1) 93 [a0]).wp Q X = (exSs (runF PG k) (handP PG) PG.wf B_is_sealed_2 [slOf a0]).wp (fun ε => (Rs.opt (outsE ε 0 [a0])).wp (fun outs => Q (false, .non, outs)) X) (fun _ => False) (fun o d ε => (Rs.opt (outsE ε 0 [a0])).wp (fun outs => Q (o, d, outs)) X) X := runF_w (F := F_is_sealed) rfl ⟨rfl, by decide⟩
theorem run_fits_data {a0 : DL.Arg} : (runF PG (k + 1) 94 [a0]).wp Q X = (exSs (runF PG k) (handP PG) PG.wf B_fits_data_2 [slOf a0]).wp (fun ε => (Rs.opt (outsE ε 0 [a0])).wp (fun outs => Q (false, .non, outs)) X) (fun _ => False) (fun o d ε => (Rs.opt (outsE ε 0 [a0])).wp (fun outs => Q (o, d, outs)) X) X := runF_w (F := F_fits_data) rfl ⟨rfl, by decide⟩
theorem run_bars_in {a0 a1 a2 a3 : DL.Arg} : (runF PG (k + 1) 95 [a0, a1, a2, a3]).wp Q X = (exSs (runF PG k) (handP PG) PG.wf B_bars_in_4 [slOf a0, slOf a1, slOf a2, slOf a3, .no, .no, .no, .no, .no, .no, .no, .no, .no, .no, .no, .no, .no]).wp (fun ε => (Rs.opt (outsE ε 0 [a0, a1, a2, a3])).wp (fun outs => Q (false, .non, outs)) X) (fun _ => False) (fun o d ε => (Rs.opt (outsE ε 0 [a0, a1, a2, a3])).wp (fun outs => Q (o, d, outs)) X) X := runF_w (F := F_bars_in) rfl ⟨rfl, by decide⟩
theorem run_bar_in {a0 a1 a2 a3 : DL.Arg} : (runF PG (k + 1) 96 [a0, a1, a2, a3]).wp Q X = (exSs (runF PG k) (handP PG) PG.wf (.cons (.ret (.sub (.bin .add (.call 95 (.val (.v 0) (.val (.v 1) (.val (.v 2) (.val (.v 3) .nil))))) (.tup (.cons (.c (.str [])) .nil))) (.c (.int 0)))) .nil) [slOf a0, slOf a1, slOf a2, slOf a3]).wp (fun ε => (Rs.opt (outsE ε 0 [a0, a1, a2, a3])).wp (fun outs => Q (false, .non, outs)) X) (fun _ => False) (fun o d ε => (Rs.opt (outsE ε 0 [a0, a1, a2, a3])).wp (fun outs => Q (o, d, outs)) X) X := runF_w (F := F_bar_in) rfl ⟨rfl, by decide⟩
theorem run_need_data {a0 : DL.Arg} : (runF PG (k + 1) 97 [a0]).wp Q X = (exSs (runF PG k) (handP PG) PG.wf B_need_data_1 [slOf a0]).wp (fun ε => (Rs.opt (outsE ε 0 [a0])).wp (fun outs => Q (false, .non, outs)) X) (fun _ => False) (fun o d ε => (Rs.opt (outsE ε 0 [a0])).wp (fun outs => Q (o, d, outs)) X) X := runF_w (F := F_need_data) rfl ⟨rfl, by decide⟩
theorem run_need_all {a0 a1 a2 a3 : DL.Arg} : (runF PG (k + 1) 98 [a0, a1, a2, a3]).wp Q X = (exSs (runF PG k) (handP PG) PG.wf B_need_all_4 [slOf a0, slOf a1, slOf a2, slOf a3]).wp (fun ε => (Rs.opt (outsE ε 0 [a0, a1, a2, a3])).wp (fun outs => Q (false, .non, outs)) X) (fun _ => False) (fun o d ε => (Rs.opt (outsE ε 0 [a0, a1, a2, a3])).wp (fun outs => Q (o, d, outs)) X) X := runF_w (F := F_need_all) rfl ⟨rfl, by decide⟩
theorem run_bars_of {a0 a1 a2 a3 : DL.Arg} : (runF PG (k + 1) 99 [a0, a1, a2, a3]).wp Q X = (exSs (runF PG k) (handP PG) PG.wf B_bars_of_2 [slOf a0, slOf a1, slOf a2, slOf a3]).wp (fun ε => (Rs.opt (outsE ε 0 [a0, a1, a2, a3])).wp (fun outs => Q (false, .non, outs)) X) (fun _ => False) (fun o d ε => (Rs.opt (outsE ε 0 [a0, a1, a2, a3])).wp (fun outs => Q (o, d, outs)) X) X := runF_w (F := F_bars_of) rfl ⟨rfl, by decide⟩
theorem run_bar_of {a0 a1 a2 a3 : DL.Arg} : (runF PG (k + 1) 100 [a0, a1, a2, a3]).wp Q X = (exSs (runF PG k) (handP PG) PG.wf B_bar_of_2 [slOf a0, slOf a1, slOf a2, slOf a3]).wp (fun ε => (Rs.opt (outsE ε 0 [a0, a1, a2, a3])).wp (fun outs => Q (false, .non, outs)) X) (fun _ => False) (fun o d ε => (Rs.opt (outsE ε 0 [a0, a1, a2, a3])).wp (fun outs => Q (o, d, outs)) X) X := runF_w (F := F_bar_of) rfl ⟨rfl, by decide⟩
theorem run_law_cup {a0 : DL.Arg} : (runF PG (k + 1) 11 [a0]).wp Q X = (exSs (runF PG k) (handP PG) PG.wf B_law_cup_2 [slOf a0, .no]).wp (fun ε => (Rs.opt (outsE ε 0 [a0])).wp (fun outs => Q (false, .non, outs)) X) (fun _ => False) (fun o d ε => (Rs.opt (outsE ε 0 [a0])).wp (fun outs => Q (o, d, outs)) X) X := runF_w (F := F_law_cup) rfl ⟨rfl, by decide⟩
theorem run_law_roll {a0 a1 : DL.Arg} : (runF PG (k + 1) 12 [a0, a1]).wp Q X = (exSs (runF PG k) (handP PG) PG.wf B_law_roll_7 [slOf a0, slOf a1, .no, .no]).wp (fun ε => (Rs.opt (outsE ε 0 [a0, a1])).wp (fun outs => Q (false, .non, outs)) X) (fun _ => False) (fun o d ε => (Rs.opt (outsE ε 0 [a0, a1])).wp (fun outs => Q (o, d, outs)) X) X := runF_w (F := F_law_roll) rfl ⟨rfl, by decide⟩
theorem run_law_some {a0 a1 : DL.Arg} : (runF PG (k + 1) 13 [a0, a1]).wp Q X = (exSs (runF PG k) (handP PG) PG.wf (.cons (.ret (.sub (.v 1) (.call 12 (.lend 0 (.val (.bi .len (.cons (.v 1) .nil)) .nil))))) .nil) [slOf a0, slOf a1]).wp (fun ε => (Rs.opt (outsE ε 0 [a0, a1])).wp (fun outs => Q (false, .non, outs)) X) (fun _ => False) (fun o d ε => (Rs.opt (outsE ε 0 [a0, a1])).wp (fun outs => Q (o, d, outs)) X) X := runF_w (F := F_law_some) rfl ⟨rfl, by decide⟩
theorem run_law_account {a0 a1 : DL.Arg} : (runF PG (k + 1) 61 [a0, a1]).wp Q X = (exSs (runF PG k) (handP PG) PG.wf B_law_account_2 [slOf a0, slOf a1, .no, .no, .no]).wp (fun ε => (Rs.opt (outsE ε 0 [a0, a1])).wp (fun outs => Q (false, .non, outs)) X) (fun _ => False) (fun o d ε => (Rs.opt (outsE ε 0 [a0, a1])).wp (fun outs => Q (o, d, outs)) X) X := runF_w (F := F_law_account) rfl ⟨rfl, by decide⟩
theorem run_law_code {a0 a1 : DL.Arg} : (runF PG (k + 1) 101 [a0, a1]).wp Q X = (exSs (runF PG k) (handP PG) PG.wf B_law_code_14 [slOf a0, slOf a1, .no, .no, .no, .no]).wp (fun ε => (Rs.opt (outsE ε 0 [a0, a1])).wp (fun outs => Q (false, .non, outs)) X) (fun _ => False) (fun o d ε => (Rs.opt (outsE ε 0 [a0, a1])).wp (fun outs => Q (o, d, outs)) X) X := runF_w (F := F_law_code) rfl ⟨rfl, by decide⟩
theorem run_law_least {a0 : DL.Arg} : (runF PG (k + 1) 102 [a0]).wp Q X = (exSs (runF PG k) (handP PG) PG.wf (.cons (.ret (.bin .add (.bin .add (.c (.int 100)) (.bin .mul (.c (.int 5)) (.bi .len (.cons (.sub (.v 0) (.c (.int 6))) .nil)))) (.ite (.cmp .eq (.sub (.v 0) (.c (.int 2))) (.c (.int 0))) (.bin .add (.c (.int 200)) (.bin .mul (.c (.int 2)) (.bi .len (.cons (.sub (.v 0) (.c (.int 7))) .nil)))) (.c (.int 0))))) .nil) [slOf a0]).wp (fun ε => (Rs.opt (outsE ε 0 [a0])).wp (fun outs => Q (false, .non, outs)) X) (fun _ => False) (fun o d ε => (Rs.opt (outsE ε 0 [a0])).wp (fun outs => Q (o, d, outs)) X) X := runF_w (F := F_law_least) rfl ⟨rfl, by decide⟩
theorem run_law_scene {a0 : DL.Arg} : (runF PG (k + 1) 103 [a0]).wp Q X = (exSs (runF PG k) (handP PG) PG.wf B_law_scene_5 [slOf a0, .no, .no, .no]).wp (fun ε => (Rs.opt (outsE ε 0 [a0])).wp (fun outs => Q (false, .non, outs)) X) (fun _ => False) (fun o d ε => (Rs.opt (outsE ε 0 [a0])).wp (fun outs => Q (o, d, outs)) X) X := runF_w (F := F_law_scene) rfl ⟨rfl, by decide⟩
theorem run_law_order {a0 a1 a2 a3 : DL.Arg} : (runF PG (k + 1) 104 [a0, a1, a2, a3]).wp Q X = (exSs (runF PG k) (handP PG) PG.wf B_law_order_7 [slOf a0, slOf a1, slOf a2, slOf a3, .no, .no, .no, .no, .no, .no, .no, .no]).wp (fun ε => (Rs.opt (outsE ε 0 [a0, a1, a2, a3])).wp (fun outs => Q (false, .non, outs)) X) (fun _ => False) (fun o d ε => (Rs.opt (outsE ε 0 [a0, a1, a2, a3])).wp (fun outs => Q (o, d, outs)) X) X := runF_w (F := F_law_order) rfl ⟨rfl, by decide⟩
theorem run_law_bars {a0 a1 a2 a3 a4 : DL.Arg} : (runF PG (k + 1) 105 [a0, a1, a2, a3, a4]).wp Q X = (exSs (runF PG k) (handP PG) PG.wf B_law_bars_5 [slOf a0, slOf a1, slOf a2, slOf a3, slOf a4, .no, .no, .no, .no, .no]).wp (fun ε => (Rs.opt (outsE ε 0 [a0, a1, a2, a3, a4])).wp (fun outs => Q (false, .non, outs)) X) (fun _ => False) (fun o d ε => (Rs.opt (outsE ε 0 [a0, a1, a2, a3, a4])).wp (fun outs => Q (o, d, outs)) X) X := runF_w (F := F_law_bars) rfl ⟨rfl, by decide⟩
theorem run_law_k41 {a0 : DL.Arg} : (runF PG (k + 1) 106 [a0]).wp Q X = (exSs (runF PG k) (handP PG) PG.wf B_law_k41_26 [slOf a0, .no, .no, .no, .no, .no, .no, .no, .no, .no, .no, .no, .no, .no, .no, .no, .no, .no, .no, .no]).wp (fun ε => (Rs.opt (outsE ε 0 [a0])).wp (fun outs => Q (false, .non, outs)) X) (fun _ => False) (fun o d ε => (Rs.opt (outsE ε 0 [a0])).wp (fun outs => Q (o, d, outs)) X) X := runF_w (F := F_law_k41) rfl ⟨rfl, by decide⟩
end
def fnL : List He.DefD := LW.fn R.prog.main.body
theorem okL : LW.ok fnL = true := by decide +kernel
end KK

set_option Elab.async false
set_option linter.all false
set_option maxRecDepth 100000
set_option maxHeartbeats 4000000
set_option exponentiation.threshold 10000
namespace KK
open DL
local macro_rules | `(tactic| walk_at "w") => `(tactic| try simp -implicitDefEqProofs only [↓wp_and, ↓wp_or, ↓wp_ite, ↓wp_chain, ↓wp_not, ↓wp_neg, ↓fl_iff, ↓fl_for, ↓fl_while, wp_evT, onB_bl, onI_int, Bool.not_eq_true', Bool.not_eq_false', Bool.not_not,  fdivOk_s, fdivOk_b, fmod_nn, fdiv_nn, mulOk_r, mulOk_l, Int.reduceNeg, Int.reduceAdd, Int.reduceSub, Int.reduceMul, Int.reducePow, Int.reduceToNat, Int.reduceLE, Int.reduceLT, Int.reduceEq, Int.reduceNe, Int.reduceAbs, Nat.reducePow, Nat.reduceLT, Nat.reduceLeDiff, Nat.reduceAdd, Nat.reduceMul, decide_true, decide_false, and_self, ne_eq, not_true_eq_false, not_false_eq_true, eqv_int, eqv_bl, eqv_str, flat_int, flat_bl, flat_non, flat_str, Option.map_some, ss_cons, ss_nil,  fl_of, fl_nx, fl_rt, fl_ct, fl_exc, fl_bad, wp_bind, wp_ok, wp_exc, wp_bad, wp_some, wp_none, wp_if, wp_ite_ok, evE_c, evE_v, evE_tup, evE_lst, evE_bin, evE_cmp, evE_sub, evE_slice, evE_rev, evE_call, evE_callv, evE_bi, evE_meth, evE_isi, evE_lamc, evE_dic, evE_kd, evE_kget, evE_so, pk_kd, pk_kget, bi_repr_n, bi_repr_i, bi_len_s, pk_so, bi_len_d, bi_lst_d, bi_dic, bi_sort_i, bi_sort_d, bi_sort_0, me_get2, meok_get, meok_ix, sub_d, key_int, cm_in_d, cm_ni_d, put_d, eqv_ac, eqv_ac0, eqv_sto, eqv_sta, exS_set, exS_setT, exS_asgT, exS_app, exS_put, exS_expr, exS_ret, exS_retN, exS_pass, forL_nil_w, compW_nil, turnW, exS_cont, exS_raise, evEs, evPs, evAs, evO, evCs, evI, evT, evR, evOs, lk, pk_v, pk_c, pk_tup, pk_lst, pk_bin, pk_neg, pk_cmp, pk_chain, pk_and, pk_or, pk_not, pk_ite, pk_sub, pk_slice, pk_rev, pk_call, pk_callv, pk_bi, pk_meth, pk_isi, pk_comp, pk_lamc, pk_dic, E.quiet, Es.quiet, mkAs, backAs, As.lends, slOf, outsE, Rs.opt_some, Rs.bind_ok, Rs.bind_bad, Rs.bind_exc, Fl.of_ok, Fl.of_exc, Fl.of_bad,
  putS_e, isPut_sl, isPut_val, isPut_own, isPut_no, eq_self, List.getElem?_cons_zero, List.getElem?_cons_succ, List.set_cons_zero, List.set_cons_succ, List.getElem?_nil, List.set_nil, Bool.and_true, Bool.true_and, Bool.and_false, Bool.false_and, Bool.or_true, Bool.or_false, if_true, if_false, ite_true, ite_false, Bool.false_eq_true, reduceIte, 
  cmF, subF, isiF, isiD, optI, op_add_i, op_add_l, op_add_t, op_add_s, op_sub_i, op_mul_i, op_mul_l, op_mul_t, op_fdiv_i, op_mod_i, op_pow_i, op_shl_i, op_shr_i, op_band_i, op_bor_i, op_bxor_i, sub_t, sub_l, idx_0, idx_1, idx_nat, cm_eq, cm_ne, cm_lt, cm_le, cm_gt, cm_ge, cm_in_t, cm_in_l, cm_ni_t, cm_ni_l, cm_is_bb, cm_isn_bb, cm_is_nn, cm_isn_nn, cm_is_in, cm_isn_in, cm_is_tn, cm_isn_tn, cm_is_sn, cm_isn_sn, bi_len_t, bi_len_l, bi_abs, bi_int, bi_intb, bi_all_map, bi_any, bi_sum, bi_max, bi_min, bi_tup_t, bi_tup_l, bi_lst_t, bi_lst_l, bi_lst_f, sl_t, sl_l, rev_l, op_ots, flat_ots, eqv_ots, idx_m1, idx_2, idx_3, idx_4, idx_5, idx_6, idx_7, idx_8, idx_9, idx_10, idx_11, idx_12, idx_13, idx_14, idx_15, idx_16, idx_17, idx_18, idx_19, Option.map_some, Option.map_none, Option.some.injEq, Bool.not_true, Bool.not_false, List.contains_nil, List.contains_cons, List.map_cons, List.map_nil, List.length_cons, List.length_nil, true_implies, false_implies, and_true, true_and, Bool.true_eq_false, Bool.false_eq_true, decide_eq_true_eq, decide_eq_false_iff_not, isL, isC, appS, putI, put_0, put_1, hide_g, hideO_val, hideO_own, hideO_lnt, hideO_no, octs_len, List.length_append, eqv_l00, eqv_t00, backE, List.getD_cons_zero, List.getD_cons_succ, le_sizeL, lt_sizeL, Nat.zero_le, D.bl.injEq,  items_t, items_l, List.filterMap_nil, List.isEmpty_nil, bindT, bindNs, putNs, putOs, wipeE])
local macro_rules | `(tactic| walk_at "c") => `(tactic| try simp -implicitDefEqProofs only [cut, cutIx, D.items, List.cons_append, List.nil_append, List.append_nil, List.length_cons, List.length_nil, List.take_succ_cons, List.drop_succ_cons, List.take_zero, List.drop_zero, List.take_nil, List.drop_nil, List.length_append, Nat.reduceAdd, Nat.reduceSub, Nat.reduceMul, Nat.reduceLT, Nat.reduceLeDiff, Int.reduceLT, Int.reduceLE, Int.reduceToNat, Int.reduceNeg, Int.reduceAdd, Nat.min_self, Nat.sub_zero, Nat.zero_add, ite_false, ite_true, if_true, if_false, reduceIte, Int.cast_ofNat_Int, Nat.min_def])
/-! ### values, words -/
def isWhole (v : D) (lo hi : Int) : Bool := match v with | .int i => decide (lo ≤ i) && decide (i ≤ hi) | _ => false
theorem is_whole_e {k : Nat} {v : D} {lo hi : Int} (hv : v.flat = true) : runF PG (k + 1) 0 [.val v, .val (.int lo), .val (.int hi)] = .ok (false, .bl (isWhole v lo hi), []) := by
  apply wp_eq
  rw [run_is_whole]
  cases v <;> first | (simp [D.flat] at hv; done) | (walk_at "w"; first | rfl | grind [isWhole])
def isTup (v : D) (lo hi : Int) : Bool := match v with | .tup xs => decide (lo ≤ xs.length) && decide ((xs.length : Int) ≤ hi) | _ => false
theorem is_tuple_of_e {k : Nat} {v : D} {lo hi : Int} (hv : v.flat = true) : runF PG (k + 1) 1 [.val v, .val (.int lo), .val (.int hi)] = .ok (false, .bl (isTup v lo hi), []) := by
  apply wp_eq
  rw [run_is_tuple_of]
  cases v <;> first | (simp [D.flat] at hv; done) | (walk_at "w"; first | rfl | grind [isTup])
def isWord (v : D) : Bool := isWhole v (-9223372036854775808) 9223372036854775807
theorem is_word_e {k : Nat} {v : D} (hv : v.flat = true) : runF PG (k + 2) 4 [.val v] = .ok (false, .bl (isWord v), []) := by
  apply wp_eq
  rw [run_is_word]
  walk_at "w"
  rw [is_whole_e hv]
  walk_at "w"
  rfl
/-! ### octets, sums -/
theorem octets_by_e {k : Nat} {n m : Int} (h0 : 0 ≤ m) (h1 : m ≤ 16) : runF PG (k + 1) 5 [.val (.int n), .val (.int m)] = .ok (false, ots (octs n m.toNat), []) := by
  apply wp_eq
  rw [run_octets_by]; unfold B_octets_by_5 B_octets_by_4; walk_at "w"
  refine ⟨by omega, for_w (fun ys ε => ∃ (n' : Int) (acc : List Int) (s3 : Option D), ε = [.val (.int n'), .val (.int m), .own (.lst (acc.map D.int)), sl s3] ∧ acc ++ digs n' (m.toNat - ys.length) = digs n m.toNat ∧ acc.length = ys.length) ?_ ?_ ?_⟩
  · exact ⟨n, [], none, rfl, by simp, rfl⟩
  · rintro ys x ε2 ⟨zs, hz⟩ ⟨n', acc, s3, rfl, i1, i2⟩
    have hl : ys.length < m.toNat := by have := congrArg List.length hz; simp [rangeD] at this; omega
    unfold B_octets_by_2 B_octets_by_1
    walk_at "w"
    refine ⟨by rw [List.length_map, sizeL_v]; omega, n' / 256, acc ++ [n' % 256], some x, ?_, ?_, by simp [i2]⟩
    · simp [sl]
    · rw [← i1, show m.toNat - ys.length = (m.toNat - (ys.length + 1)) + 1 by omega]
      simp [digs]
  · rintro ε2 ⟨n', acc, s3, rfl, i1, i2⟩
    unfold B_octets_by_3
    walk_at "w"
    have hl : (rangeD 0 m).length = m.toNat := by simp [rangeD]
    rw [hl] at i1
    have i3 : acc = digs n m.toNat := by rw [← i1]; simp [digs]
    rw [i3, ots, octs, List.map_reverse]
theorem wrapped_e {k : Nat} {x : Int} : runF PG (k + 1) 2 [.val (.int x)] = .ok (false, .int (wr x), []) := by
  apply wp_eq
  rw [run_wrapped]
  walk_at "w"
  rfl
theorem sum_by_e {k : Nat} {s : Int} {os : List Int} : runF PG (k + 2) 6 [.val (.int s), .val (ots os)] = .ok (false, .int (sumO s os), []) := by
  apply wp_eq
  rw [run_sum_by]; unfold B_sum_by_5 B_sum_by_4 ots; walk_at "w"
  refine for_w (fun ys ε => ∃ (s3 : Option D), ε = [.val (.int s), .val (.tup (os.map D.int)), .val (.int ((os.take ys.length).foldl stepS s)), sl s3]) ⟨none, rfl⟩ ?_ ?_
  · rintro ys x ε2 ⟨zs, hz⟩ ⟨s3, rfl⟩
    have hx : (os.map D.int)[ys.length]? = some x := by rw [hz]; simp
    rw [List.getElem?_map] at hx
    obtain ⟨o, ho, rfl⟩ := Option.map_eq_some_iff.mp hx
    unfold B_sum_by_2 B_sum_by_1
    walk_at "w"
    refine ⟨some (.int o), ?_⟩
    try rw [List.length_append, List.length_singleton]
    rw [List.take_add_one, ho, Option.toList_some, foldl_app]
    generalize (os.take ys.length).foldl stepS s = f
    simp [sl, stepS]
  · rintro ε2 ⟨s3, rfl⟩
    unfold B_sum_by_3
    walk_at "w"
    rw [List.length_map, List.take_length, wrapped_e]
    walk_at "w"
    rfl
/-! ### powers -/
theorem emod_mul_l (a b p : Int) : (a % p * b) % p = (a * b) % p := by rw [Int.mul_emod, Int.emod_emod_of_dvd _ (Int.dvd_refl p), ← Int.mul_emod]
theorem emod_mul_r (a b p : Int) : (a * (b % p)) % p = (a * b) % p := by rw [Int.mul_comm, emod_mul_l, Int.mul_comm]
theorem emod_pow_l (a p : Int) : ∀ n : Nat, (a % p) ^ n % p = a ^ n % p
  | 0 => by simp
  | n + 1 => by rw [Int.pow_succ, Int.pow_succ, emod_mul_r, Int.mul_comm, ← emod_mul_r, emod_pow_l a p n, emod_mul_r, Int.mul_comm]
/-- the prime of the seals -/
def PR : Int := 2147483647
def pwm (b : Int) (n : Nat) : Int := b ^ n % PR
theorem pwm_lo (b : Int) (n : Nat) : 0 ≤ pwm b n := Int.emod_nonneg _ (by decide)
theorem pwm_hi (b : Int) (n : Nat) : pwm b n < 2147483647 := Int.emod_lt_of_pos _ (by decide)
theorem pw_step {f b : Int} {e : Nat} (h : 0 < e) : ((if e % 2 = 1 then f * b % PR else f) * (b * b % PR) ^ (e / 2)) % PR = (f * b ^ e) % PR := by
  rw [← emod_mul_r, emod_pow_l, emod_mul_r]
  have h2 : (b * b) ^ (e / 2) = b ^ (2 * (e / 2)) := by rw [Int.pow_mul, Int.pow_succ, Int.pow_succ, Int.pow_zero, Int.one_mul]
  rw [h2]
  by_cases h1 : e % 2 = 1
  · rw [if_pos h1, emod_mul_l, Int.mul_assoc]
    congr 2
    rw [Int.mul_comm, ← Int.pow_succ]
    congr 1; omega
  · rw [if_neg h1]
    congr 3; omega
theorem power_e {k : Nat} {b n : Int} (hb : 0 ≤ b) (hb2 : b < 18446744073709551616) (h0 : 0 ≤ n) (h1 : n < 18446744073709551616) : runF PG (k + 1) 20 [.val (.int b), .val (.int n)] = .ok (false, .int (pwm b n.toNat), []) := by
  apply wp_eq
  rw [run_power]; unfold B_power_5 B_power_4; walk_at "w"
  refine while_w (fun m ε => ∃ (b' f : Int) (e : Nat), ε = [.val (.int b'), .val (.int e), .val (.int f)] ∧ e < 2 ^ m ∧ 0 ≤ b' ∧ b' < 18446744073709551616 ∧ 0 ≤ f ∧ f < 2147483647 ∧ (f * b' ^ e) % PR = pwm b n.toNat) ?_ 64 PG.wf _ (by decide) ?_
  · rintro m ε ⟨b', f, e, rfl, he, b0, b1, f0, f1, hi⟩
    walk_at "w"
    refine ⟨fun h => ?_, fun h => ?_⟩
    · unfold B_power_3
      walk_at "w"
      have : e = 0 := by omega
      subst this
      rw [← hi, Int.pow_zero, Int.mul_one, Int.emod_eq_of_lt f0 (show f < PR from f1)]
    · have he0 : 0 < e := by omega
      have hm : m ≠ 0 := by rintro rfl; simp at he; omega
      have hps := pw_step (f := f) (b := b') he0
      unfold B_power_2 B_power_1
      walk_at "w"
      have hlt : e / 2 < 2 ^ (m - 1) := by
        have : 2 ^ m = 2 ^ (m - 1) * 2 := by rw [← Nat.pow_succ]; congr 1; omega
        omega
      have b2 := pwm_lo (b' * b') 1
      have b3 := pwm_hi (b' * b') 1
      have eb : pwm (b' * b') 1 = b' * b' % PR := by unfold pwm; rw [Int.pow_succ, Int.pow_zero, Int.one_mul]
      rw [eb] at b2 b3
      have hc : ((e : Int) % 2 = 1) ↔ e % 2 = 1 := by omega
      have hd : (e : Int) / 2 = ((e / 2 : Nat) : Int) := by omega
      refine ⟨?_, ?_⟩
      · intro h2
        rw [hc] at h2
        rw [if_pos h2] at hps
        refine ⟨mulOk_s (by omega), mulOk_s (by omega), m - 1, by omega, b' * b' % PR, f * b' % PR, e / 2, ?_, hlt, b2, by omega, Int.emod_nonneg _ (by decide), Int.emod_lt_of_pos _ (by decide), by rw [hps]; exact hi⟩
        rw [hd]; rfl
      · intro h2
        rw [hc] at h2
        rw [if_neg h2] at hps
        refine ⟨mulOk_s (by omega), m - 1, by omega, b' * b' % PR, f, e / 2, ?_, hlt, b2, by omega, f0, f1, by rw [hps]; exact hi⟩
        rw [hd]; rfl
  · refine ⟨b, 1, n.toNat, ?_, by omega, hb, hb2, by decide, by decide, by rw [Int.one_mul]; rfl⟩
    simp; omega
/-! ### seals -/
theorem raised_e {k : Nat} {x : Int} : runF PG (k + 1) 19 [.val (.int x)] = .ok (false, .int (x % 18446744073709551616), []) := by
  apply wp_eq
  rw [run_raised]
  walk_at "w"
def secI (u : Int) : Int := 1001 + 7919 * u
theorem secret_by_e {k : Nat} {u : Int} : runF PG (k + 1) 21 [.val (.int u)] = .ok (false, .int (secI u), []) := by
  apply wp_eq
  rw [run_secret_by]
  walk_at "w"
  rfl
def pubI (u : Int) : Int := pwm 7 (secI u).toNat
theorem public_by_e {k : Nat} {u : Int} (h0 : 0 ≤ u) (h1 : u < 100000) : runF PG (k + 2) 22 [.val (.int u)] = .ok (false, .int (pubI u), []) := by
  apply wp_eq
  rw [run_public_by]
  walk_at "w"
  rw [secret_by_e]; walk_at "w"
  rw [power_e (by decide) (by decide) (by unfold secI; omega) (by unfold secI; omega)]; walk_at "w"
  rfl
def shareI (f w : Int) : Int := sumO 13 (octs f 4 ++ octs w 8) % 18446744073709551616 / 8589934592
theorem share_lo (f w : Int) : 0 ≤ shareI f w := by unfold shareI; omega
theorem share_hi (f w : Int) : shareI f w < 2147483648 := by unfold shareI; omega
theorem share_e {k : Nat} {f w : Int} : runF PG (k + 3) 23 [.val (.int f), .val (.int w)] = .ok (false, .int (shareI f w), []) := by
  apply wp_eq
  rw [run_share]
  walk_at "w"
  rw [octets_by_e (by decide) (by decide)]; walk_at "w"
  rw [octets_by_e (by decide) (by decide)]; walk_at "w"
  rw [sum_by_e]; walk_at "w"
  rw [raised_e]; walk_at "w"
  rfl
def drawI (u w : Int) : Int := 1 + sumO 11 (octs (secI u) 4 ++ octs w 8) % 18446744073709551616 / 4 % 2147483645
theorem draw_lo (u w : Int) : 1 ≤ drawI u w := by unfold drawI; omega
theorem draw_hi (u w : Int) : drawI u w < 2147483646 := by unfold drawI; omega
def sealA (u w : Int) : Int := pwm 7 (drawI u w).toNat
def sealB (u w : Int) : Int := (drawI u w + shareI (sealA u w) w * secI u) % 2147483646
def sealD (u w : Int) : D := .tup [.int (sealA u w), .int (sealB u w)]
theorem seal_by_e {k : Nat} {u w : Int} (h0 : 0 ≤ u) (h1 : u < 100000) : runF PG (k + 4) 24 [.val (.int u), .val (.int w)] = .ok (false, sealD u w, []) := by
  apply wp_eq
  rw [run_seal_by]; unfold B_seal_by_4 B_seal_by_3 B_seal_by_2; walk_at "w"
  rw [secret_by_e]; walk_at "w"
  rw [octets_by_e (by decide) (by decide)]; walk_at "w"
  rw [octets_by_e (by decide) (by decide)]; walk_at "w"
  rw [sum_by_e]; walk_at "w"
  rw [raised_e]; walk_at "w"
  have e1 : 1 + sumO 11 (octs (secI u) 4 ++ octs w 8) % 18446744073709551616 / 4 % 2147483645 = drawI u w := rfl
  have d1 := draw_lo u w
  have d2 := draw_hi u w
  rw [e1, power_e (by decide) (by decide) (by omega) (by omega)]; walk_at "w"
  unfold B_seal_by_1; walk_at "w"
  rw [share_e]; walk_at "w"
  refine ⟨mulOk_r (by unfold secI; omega) (by unfold secI; omega), ?_⟩
  rfl
def isRight (u w a b : Int) : Bool := decide (1 ≤ a) && decide (a < 2147483647) && decide (0 ≤ b) && decide (b < 2147483646) && decide (pwm 7 b.toNat = a * pwm (pubI u) (shareI a w).toNat % 2147483647)
theorem is_right_e {k : Nat} {u w a b : Int} (h0 : 0 ≤ u) (h1 : u < 100000) : runF PG (k + 4) 25 [.val (.int u), .val (.int w), .val (.tup [.int a, .int b])] = .ok (false, .bl (isRight u w a b), []) := by
  apply wp_eq
  rw [run_is_right]; unfold B_is_right_3 B_is_right_2; walk_at "w"
  have key : (if 1 ≤ a ∧ a < 2147483647 ∧ 0 ≤ b ∧ b < 2147483646 then decide (pwm 7 b.toNat = a * pwm (pubI u) (shareI a w).toNat % 2147483647) else false) = isRight u w a b := by
    unfold isRight
    by_cases h1 : 1 ≤ a <;> by_cases h2 : a < 2147483647 <;> by_cases h3 : 0 ≤ b <;> by_cases h4 : b < 2147483646 <;> simp [h1, h2, h3, h4]
  rw [← key]
  have fin : 1 ≤ a → a < 2147483647 → 0 ≤ b → b < 2147483646 → (exSs (runF PG (k + 3)) (handP PG) PG.wf B_is_right_1 [.val (.int u), .val (.int w), .val (.tup [.int a, .int b]), .val (.int a), .val (.int b)]).wp (fun ε => (false, D.non, []) = (false, D.bl (if 1 ≤ a ∧ a < 2147483647 ∧ 0 ≤ b ∧ b < 2147483646 then decide (pwm 7 b.toNat = a * pwm (pubI u) (shareI a w).toNat % 2147483647) else false), ([] : List D))) (fun _ => False) (fun o d ε => (o, d, []) = (false, D.bl (if 1 ≤ a ∧ a < 2147483647 ∧ 0 ≤ b ∧ b < 2147483646 then decide (pwm 7 b.toNat = a * pwm (pubI u) (shareI a w).toNat % 2147483647) else false), ([] : List D))) (fun _ => False) := by
    intro g1 g2 g3 g4
    rw [if_pos ⟨g1, g2, g3, g4⟩]
    unfold B_is_right_1
    walk_at "w"
    rw [power_e (by decide) (by decide) (by omega) (by omega)]; walk_at "w"
    rw [public_by_e h0 h1]; walk_at "w"
    rw [share_e]; walk_at "w"
    have s1 := share_lo a w
    have s2 := share_hi a w
    have p1 := pwm_lo 7 (secI u).toNat
    have p2 := pwm_hi 7 (secI u).toNat
    rw [power_e (by unfold pubI; omega) (by unfold pubI; omega) (by omega) (by omega)]; walk_at "w"
    exact mulOk_s (by omega)

  grind
theorem pwm_add (b : Int) (m n : Nat) : pwm b (m + n) = pwm b m * pwm b n % PR := by
  unfold pwm; rw [Int.pow_add, ← Int.mul_emod]
theorem pwm_mul (b : Int) (m n : Nat) : pwm b (m * n) = pwm (pwm b m) n := by
  unfold pwm; rw [Int.pow_mul, emod_pow_l]
/-- by squares -/
def powF (b : Nat) : Nat → Nat → Nat
  | 0, _ => 1
  | f + 1, n => if n = 0 then 1 else let r := powF b f (n / 2); if n % 2 = 1 then r * r % 2147483647 * b % 2147483647 else r * r % 2147483647
theorem powF_e (b : Nat) : ∀ (f n : Nat), n < 2 ^ f → powF b f n % 2147483647 = b ^ n % 2147483647
  | 0, n, h => by
    have : n = 0 := by simpa using h
    subst this; rfl
  | f + 1, n, h => by
    unfold powF
    by_cases h0 : n = 0
    · subst h0; rfl
    · rw [if_neg h0]
      have ih := powF_e b f (n / 2) (by rw [Nat.pow_succ] at h; omega)
      have h2 : (powF b f (n / 2) * powF b f (n / 2)) % 2147483647 = b ^ (2 * (n / 2)) % 2147483647 := by
        rw [Nat.mul_mod, ih, ← Nat.mul_mod, ← Nat.pow_add]; congr 2; omega
      simp only
      split
      · rename_i h1
        rw [Nat.mod_mod, Nat.mul_mod, Nat.mod_mod, h2, ← Nat.mul_mod, ← Nat.pow_succ]; congr 2; omega
      · rename_i h1
        rw [Nat.mod_mod, h2]; congr 2; omega
theorem fermat : pwm 7 2147483646 = 1 := by
  have h : powF 7 31 2147483646 % 2147483647 = 7 ^ 2147483646 % 2147483647 := powF_e 7 31 2147483646 (by decide)
  have e : powF 7 31 2147483646 % 2147483647 = 1 := by decide +kernel
  rw [e] at h
  unfold pwm PR
  have : ((7 : Nat) ^ 2147483646 % 2147483647 : Nat) = ((1 : Nat)) := h.symm
  have h3 : (((7 : Nat) ^ 2147483646 % 2147483647 : Nat) : Int) = 1 := by rw [this]; rfl
  rw [Int.natCast_emod, Int.natCast_pow] at h3
  exact h3
theorem pwm_one (n : Nat) : pwm 1 n = 1 := by unfold pwm; rw [Int.one_pow]; rfl
theorem pwm_red (x : Int) (h : 0 ≤ x) : pwm 7 (x % 2147483646).toNat = pwm 7 x.toNat := by
  have e : x.toNat = 2147483646 * (x.toNat / 2147483646) + (x % 2147483646).toNat := by omega
  have e2 : pwm 7 x.toNat = pwm 7 (2147483646 * (x.toNat / 2147483646) + (x % 2147483646).toNat) := congrArg (pwm 7) e
  rw [e2, pwm_add, pwm_mul, fermat, pwm_one, Int.one_mul]
  exact (Int.emod_eq_of_lt (pwm_lo _ _) (pwm_hi _ _)).symm
/-- a right seal -/
theorem right_of {u w d : Int} (hu : 0 ≤ u) (hd : 0 ≤ d) : isRight u w (pwm 7 d.toNat) ((d + shareI (pwm 7 d.toNat) w * secI u) % 2147483646) = true := by
  have hs : 0 ≤ shareI (pwm 7 d.toNat) w * secI u := Int.mul_nonneg (share_lo _ _) (by unfold secI; omega)
  have h1 : 1 ≤ pwm 7 d.toNat := by
    have h0 := pwm_lo 7 d.toNat
    rcases Int.lt_or_eq_of_le h0 with h | h
    · omega
    · exfalso
      -- 7 ^ d would be 0: but 7 ^ d * 7 ^ (..) = 1
      have h4 : pwm 7 (d.toNat + (2147483646 * (d.toNat / 2147483646 + 1) - d.toNat)) = 1 := by
        rw [show d.toNat + (2147483646 * (d.toNat / 2147483646 + 1) - d.toNat) = 2147483646 * (d.toNat / 2147483646 + 1) by omega, pwm_mul, fermat, pwm_one]
      rw [pwm_add, ← h, Int.zero_mul] at h4
      exact absurd h4 (by decide)
  have h2 := pwm_hi 7 d.toNat
  unfold isRight
  have h3 : 0 ≤ (d + shareI (pwm 7 d.toNat) w * secI u) % 2147483646 := Int.emod_nonneg _ (by decide)
  have h4 : (d + shareI (pwm 7 d.toNat) w * secI u) % 2147483646 < 2147483646 := Int.emod_lt_of_pos _ (by decide)
  rw [pwm_red _ (by omega), Int.toNat_add hd hs, pwm_add]
  have h5 : pwm 7 (shareI (pwm 7 d.toNat) w * secI u).toNat = pwm (pubI u) (shareI (pwm 7 d.toNat) w).toNat := by
    rw [Int.toNat_mul (share_lo _ _) (by unfold secI; omega), Nat.mul_comm, pwm_mul]
    rfl
  rw [h5]
  simp [h1, h2, h3, h4, PR]
theorem isRight_a {u w a b : Int} (h : 2147483647 ≤ a ∨ a < 1) : isRight u w a b = false := by
  unfold isRight
  rcases h with h | h
  · rw [decide_eq_false (show ¬ a < 2147483647 by omega)]; simp
  · rw [decide_eq_false (show ¬ 1 ≤ a by omega)]; simp
theorem isRight_b {u w a b : Int} (h : 2147483646 ≤ b ∨ b < 0) : isRight u w a b = false := by
  unfold isRight
  rcases h with h | h
  · rw [decide_eq_false (show ¬ b < 2147483646 by omega)]; simp
  · rw [decide_eq_false (show ¬ 0 ≤ b by omega)]; simp
end KK

set_option Elab.async false
set_option linter.all false
set_option maxRecDepth 100000
set_option maxHeartbeats 4000000
set_option exponentiation.threshold 10000
namespace KK
open DL
local macro_rules | `(tactic| walk_at "w") => `(tactic| try simp -implicitDefEqProofs only [↓wp_and, ↓wp_or, ↓wp_ite, ↓wp_chain, ↓wp_not, ↓wp_neg, ↓fl_iff, ↓fl_for, ↓fl_while, wp_evT, onB_bl, onI_int, Bool.not_eq_true', Bool.not_eq_false', Bool.not_not,  fdivOk_s, fdivOk_b, fmod_nn, fdiv_nn, mulOk_r, mulOk_l, Int.reduceNeg, Int.reduceAdd, Int.reduceSub, Int.reduceMul, Int.reducePow, Int.reduceToNat, Int.reduceLE, Int.reduceLT, Int.reduceEq, Int.reduceNe, Int.reduceAbs, Nat.reducePow, Nat.reduceLT, Nat.reduceLeDiff, Nat.reduceAdd, Nat.reduceMul, decide_true, decide_false, and_self, ne_eq, not_true_eq_false, not_false_eq_true, eqv_int, eqv_bl, eqv_str, flat_int, flat_bl, flat_non, flat_str, Option.map_some, ss_cons, ss_nil,  fl_of, fl_nx, fl_rt, fl_ct, fl_exc, fl_bad, wp_bind, wp_ok, wp_exc, wp_bad, wp_some, wp_none, wp_if, wp_ite_ok, evE_c, evE_v, evE_tup, evE_lst, evE_bin, evE_cmp, evE_sub, evE_slice, evE_rev, evE_call, evE_callv, evE_bi, evE_meth, evE_isi, evE_lamc, evE_dic, evE_kd, evE_kget, evE_so, pk_kd, pk_kget, bi_repr_n, bi_repr_i, bi_len_s, pk_so, bi_len_d, bi_lst_d, bi_dic, bi_sort_i, bi_sort_d, bi_sort_0, me_get2, meok_get, meok_ix, sub_d, key_int, cm_in_d, cm_ni_d, put_d, eqv_ac, eqv_ac0, eqv_sto, eqv_sta, exS_set, exS_setT, exS_asgT, exS_app, exS_put, exS_expr, exS_ret, exS_retN, exS_pass, forL_nil_w, compW_nil, turnW, exS_cont, exS_raise, evEs, evPs, evAs, evO, evCs, evI, evT, evR, evOs, lk, pk_v, pk_c, pk_tup, pk_lst, pk_bin, pk_neg, pk_cmp, pk_chain, pk_and, pk_or, pk_not, pk_ite, pk_sub, pk_slice, pk_rev, pk_call, pk_callv, pk_bi, pk_meth, pk_isi, pk_comp, pk_lamc, pk_dic, E.quiet, Es.quiet, mkAs, backAs, As.lends, slOf, outsE, Rs.opt_some, Rs.bind_ok, Rs.bind_bad, Rs.bind_exc, Fl.of_ok, Fl.of_exc, Fl.of_bad,
  putS_e, isPut_sl, isPut_val, isPut_own, isPut_no, eq_self, List.getElem?_cons_zero, List.getElem?_cons_succ, List.set_cons_zero, List.set_cons_succ, List.getElem?_nil, List.set_nil, Bool.and_true, Bool.true_and, Bool.and_false, Bool.false_and, Bool.or_true, Bool.or_false, if_true, if_false, ite_true, ite_false, Bool.false_eq_true, reduceIte, 
  cmF, subF, isiF, isiD, optI, op_add_i, op_add_l, op_add_t, op_add_s, op_sub_i, op_mul_i, op_mul_l, op_mul_t, op_fdiv_i, op_mod_i, op_pow_i, op_shl_i, op_shr_i, op_band_i, op_bor_i, op_bxor_i, sub_t, sub_l, idx_0, idx_1, idx_nat, cm_eq, cm_ne, cm_lt, cm_le, cm_gt, cm_ge, cm_in_t, cm_in_l, cm_ni_t, cm_ni_l, cm_is_bb, cm_isn_bb, cm_is_nn, cm_isn_nn, cm_is_in, cm_isn_in, cm_is_tn, cm_isn_tn, cm_is_sn, cm_isn_sn, bi_len_t, bi_len_l, bi_abs, bi_int, bi_intb, bi_all_map, bi_any, bi_sum, bi_max, bi_min, bi_tup_t, bi_tup_l, bi_lst_t, bi_lst_l, bi_lst_f, sl_t, sl_l, rev_l, op_ots, flat_ots, eqv_ots, idx_m1, idx_2, idx_3, idx_4, idx_5, idx_6, idx_7, idx_8, idx_9, idx_10, idx_11, idx_12, idx_13, idx_14, idx_15, idx_16, idx_17, idx_18, idx_19, Option.map_some, Option.map_none, Option.some.injEq, Bool.not_true, Bool.not_false, List.contains_nil, List.contains_cons, List.map_cons, List.map_nil, List.length_cons, List.length_nil, true_implies, false_implies, and_true, true_and, Bool.true_eq_false, Bool.false_eq_true, decide_eq_true_eq, decide_eq_false_iff_not, isL, isC, appS, putI, put_0, put_1, hide_g, hideO_val, hideO_own, hideO_lnt, hideO_no, octs_len, List.length_append, eqv_l00, eqv_t00, backE, List.getD_cons_zero, List.getD_cons_succ, le_sizeL, lt_sizeL, Nat.zero_le, D.bl.injEq,  items_t, items_l, List.filterMap_nil, List.isEmpty_nil, bindT, bindNs, putNs, putOs, wipeE])
local macro_rules | `(tactic| walk_at "c") => `(tactic| try simp -implicitDefEqProofs only [cut, cutIx, D.items, List.cons_append, List.nil_append, List.append_nil, List.length_cons, List.length_nil, List.take_succ_cons, List.drop_succ_cons, List.take_zero, List.drop_zero, List.take_nil, List.drop_nil, List.length_append, Nat.reduceAdd, Nat.reduceSub, Nat.reduceMul, Nat.reduceLT, Nat.reduceLeDiff, Int.reduceLT, Int.reduceLE, Int.reduceToNat, Int.reduceNeg, Int.reduceAdd, Nat.min_self, Nat.sub_zero, Nat.zero_add, ite_false, ite_true, if_true, if_false, reduceIte, Int.cast_ofNat_Int, Nat.min_def])
/-! ### rows of octets -/
def isOcts (v : D) (most : Int) : Bool := match v with | .tup xs => decide ((xs.length : Int) ≤ most) && xs.all (fun x => isWhole x 0 255) | _ => false
theorem C_fits_octets_1_e {k : Nat} {v : List D} {b s : Sl} (hv : D.flats v = true) (hl : v.length ≤ sizeL) : evE (runF PG (k + 1)) (handP PG) (.comp C_fits_octets_1 (.n 2) (.it (.v 0)) .nil [2]) [.val (.tup v), b, s] = .ok (true, .lst (v.map fun x => .bl (isWhole x 0 255)), [.val (.tup v), b, s]) := by
  refine comp_map (fun x => .bl (isWhole x 0 255)) (xs := v) rfl hl fun x hx => ?_
  unfold C_fits_octets_1
  walk_at "w"
  rw [is_whole_e (flats_mem.mp hv x hx)]; walk_at "w"
theorem fits_octets_e {k : Nat} {v : D} {m : Int} (hm : m ≤ 16777216) (hv : v.flat = true) : runF PG (k + 2) 3 [.val v, .val (.int m)] = .ok (false, .bl (isOcts v m), []) := by
  apply wp_eq
  rw [run_fits_octets]; unfold B_fits_octets_1; walk_at "w"
  rw [is_tuple_of_e hv]; walk_at "w"
  cases v <;> first | (simp only [isTup]; walk_at "w"; rfl) | skip
  rename_i v
  rw [flat_tup] at hv
  by_cases hl : (v.length : Int) ≤ m
  · rw [C_fits_octets_1_e hv (by rw [sizeL_v]; omega)]; walk_at "w"
    simp [isTup, isOcts, hl]
  · simp [isTup, isOcts, hl]
theorem isWhole_i {i lo hi : Int} (h : lo ≤ i) (h2 : i ≤ hi) : isWhole (.int i) lo hi = true := by simp [isWhole, h, h2]
/-! ### transactions -/
def plainB (v : List D) : Bool := match v with
  | [a, b, c, d, e, f, ws, co] => isWhole a 0 5 && isWhole b 0 999999 && isWhole c 0 65535 && isWhole d 0 1000000000 && isWhole e 0 100000 && isWhole f 0 100000
      && (match ws with | .tup xs => decide (xs.length ≤ 6) && xs.all isWord | _ => false) && isOcts co 240 && (D.beq c (.int 0) || D.beq co (.tup []))
  | _ => false
def isPlain (v : D) : Bool := match v with | .tup xs => plainB xs | _ => false
theorem C_fits_plain_1_e {k : Nat} {v : List D} {t : Sl} {xs : List D} (hx : v[6]? = some (.tup xs)) (hv : D.flats xs = true) (hl : xs.length ≤ sizeL) : evE (runF PG (k + 2)) (handP PG) (.comp C_fits_plain_1 (.n 1) (.it (.sub (.v 0) (.c (.int 6)))) .nil [1]) [.val (.tup v), t] = .ok (true, .lst (xs.map fun x => .bl (isWord x)), [.val (.tup v), t]) := by
  refine comp_map (fun x => .bl (isWord x)) (xs := xs) ?_ hl fun x hx => ?_
  · walk_at "w"
    rw [hx]
    rfl
  · unfold C_fits_plain_1
    walk_at "w"
    rw [is_word_e (flats_mem.mp hv x hx)]; walk_at "w"
theorem flats_len {xs : List D} (h : D.flats xs = true) {n : Nat} (hn : xs.length = n) : D.flats xs = true ∧ xs.length = n := ⟨h, hn⟩
theorem len8 {xs : List D} (h : xs.length = 8) : ∃ a b c d e f g i, xs = [a, b, c, d, e, f, g, i] := by
  match xs, h with
  | [a, b, c, d, e, f, g, i], _ => exact ⟨a, b, c, d, e, f, g, i, rfl⟩
theorem isTup_ne {xs : List D} {n : Nat} (h : isTup (.tup xs) n n = false) : xs.length ≠ n := by
  intro e; subst e; simp [isTup] at h
theorem isTup_eq {xs : List D} {n : Nat} (h : isTup (.tup xs) n n = true) : xs.length = n := by
  simp [isTup] at h; omega
theorem plainB_len {v : List D} (h : v.length ≠ 8) : plainB v = false := by
  unfold plainB
  split
  · exact absurd rfl h
  · rfl
theorem eqv_i0 {c : D} {i : Int} (h : c.flat = true) : D.eqv c (.int i) = some (D.beq c (.int i)) := eqv_flat h rfl (by simp [D.dep])
theorem eqv_tn {c : D} (h : c.flat = true) : D.eqv c (.tup []) = some (D.beq c (.tup [])) := eqv_flat h rfl (by simp [D.dep, D.deps]; omega)
theorem fits_plain_e {k : Nat} {v : D} (hv : v.flat = true) : runF PG (k + 3) 35 [.val v] = .ok (false, .bl (isPlain v), []) := by
  apply wp_eq
  rw [run_fits_plain]; unfold B_fits_plain_5; walk_at "w"
  rw [is_tuple_of_e hv]; walk_at "w"
  cases v <;> first | (simp only [isTup]; walk_at "w"; rfl) | skip
  rename_i v
  rw [flat_tup] at hv
  refine ⟨fun h => ?_, fun h => ?_⟩
  · have hn := isTup_ne (n := 8) h
    rw [show isPlain (.tup v) = false from plainB_len hn]
  · obtain ⟨a, b, c, d, e, f, ws, co, rfl⟩ := len8 (isTup_eq (n := 8) h)
    simp only [flats_cons, flats_nil, Bool.and_true, Bool.and_eq_true] at hv
    obtain ⟨f1, f2, f3, f4, f5, f6, f7, f8⟩ := hv
    walk_at "w"; rw [is_whole_e f1]; walk_at "w"
    refine ⟨fun h => by simp [isPlain, plainB, h], fun h1 => ?_⟩
    walk_at "w"; rw [is_whole_e f2]; walk_at "w"
    refine ⟨fun h => by simp [isPlain, plainB, h], fun h2 => ?_⟩
    unfold B_fits_plain_4
    walk_at "w"; rw [is_whole_e f3]; walk_at "w"
    refine ⟨fun h => by simp [isPlain, plainB, h], fun h3 => ?_⟩
    walk_at "w"; rw [is_whole_e f4]; walk_at "w"
    refine ⟨fun h => by simp [isPlain, plainB, h], fun h4 => ?_⟩
    unfold B_fits_plain_3
    walk_at "w"; rw [is_whole_e f5]; walk_at "w"
    refine ⟨fun h => by simp [isPlain, plainB, h], fun h5 => ?_⟩
    walk_at "w"; rw [is_whole_e f6]; walk_at "w"
    refine ⟨fun h => by simp [isPlain, plainB, h], fun h6 => ?_⟩
    walk_at "w"; rw [is_tuple_of_e f7]; walk_at "w"
    cases ws <;> first | (simp only [isTup]; walk_at "w"; simp [isPlain, plainB]; done) | skip
    rename_i ws
    rw [flat_tup] at f7
    refine ⟨fun h => ?_, fun h7 => ?_⟩
    · have : ¬ ws.length ≤ 6 := by intro e; simp [isTup] at h; omega
      simp [isPlain, plainB, this]
    have l7 : ws.length ≤ 6 := by simp [isTup] at h7; omega
    unfold B_fits_plain_2; walk_at "w"
    rw [C_fits_plain_1_e rfl f7 (by rw [sizeL_v]; omega)]; walk_at "w"
    refine ⟨fun h => by simp only [isPlain, plainB, h]; simp, fun h8 => ?_⟩
    rw [fits_octets_e (by decide) f8]; walk_at "w"
    refine ⟨fun h => by simp only [isPlain, plainB, h]; simp, fun h9 => ?_⟩
    unfold B_fits_plain_1; walk_at "w"
    rw [eqv_i0 f3]; walk_at "w"
    refine ⟨fun h => by simp [isPlain, plainB, *], fun h => ?_⟩
    rw [eqv_tn f8]; walk_at "w"
    simp [isPlain, plainB, *]
theorem len9 {xs : List D} (h : xs.length = 9) : ∃ a b c d e f g i j, xs = [a, b, c, d, e, f, g, i, j] := by
  match xs, h with
  | [a, b, c, d, e, f, g, i, j], _ => exact ⟨a, b, c, d, e, f, g, i, j, rfl⟩
def transB (v : List D) : Bool := match v with
  | [a, b, c, d, e, f, ws, co, s] => plainB [a, b, c, d, e, f, ws, co] && (match s with | .tup xs => decide (xs.length = 2) && xs.all (fun x => isWhole x 0 4294967295) | _ => false)
  | _ => false
def isTrans (v : D) : Bool := match v with | .tup xs => transB xs | _ => false
theorem transB_len {v : List D} (h : v.length ≠ 9) : transB v = false := by
  unfold transB
  split
  · exact absurd rfl h
  · rfl
theorem C_fits_transaction_1_e {k : Nat} {v : List D} {t : Sl} {xs : List D} (hx : v[8]? = some (.tup xs)) (hv : D.flats xs = true) (hl : xs.length ≤ sizeL) : evE (runF PG (k + 1)) (handP PG) (.comp C_fits_transaction_1 (.n 1) (.it (.sub (.v 0) (.c (.int 8)))) .nil [1]) [.val (.tup v), t] = .ok (true, .lst (xs.map fun x => .bl (isWhole x 0 4294967295)), [.val (.tup v), t]) := by
  refine comp_map (fun x => .bl (isWhole x 0 4294967295)) (xs := xs) ?_ hl fun x hx => ?_
  · walk_at "w"
    rw [hx]
    rfl
  · unfold C_fits_transaction_1
    walk_at "w"
    rw [is_whole_e (flats_mem.mp hv x hx)]; walk_at "w"
theorem fits_transaction_e {k : Nat} {v : D} (hv : v.flat = true) : runF PG (k + 4) 36 [.val v] = .ok (false, .bl (isTrans v), []) := by
  apply wp_eq
  rw [run_fits_transaction]; unfold B_fits_transaction_2; walk_at "w"
  rw [is_tuple_of_e hv]; walk_at "w"
  cases v <;> first | (simp only [isTup]; walk_at "w"; rfl) | skip
  rename_i v
  rw [flat_tup] at hv
  refine ⟨fun h => ?_, fun h => ?_⟩
  · have hn := isTup_ne (n := 9) h
    rw [show isTrans (.tup v) = false from transB_len hn]
  · obtain ⟨a, b, c, d, e, f, ws, co, s, rfl⟩ := len9 (isTup_eq (n := 9) h)
    simp only [flats_cons, flats_nil, Bool.and_true, Bool.and_eq_true] at hv
    obtain ⟨f1, f2, f3, f4, f5, f6, f7, f8, f9⟩ := hv
    have ff : (D.tup [a, b, c, d, e, f, ws, co]).flat = true := by simp [flat_tup, flats_cons, flats_nil, *]
    walk_at "w"; walk_at "c"
    rw [fits_plain_e ff]; walk_at "w"
    refine ⟨fun h => by simp only [isPlain] at h; simp [isTrans, transB, h], fun h1 => ?_⟩
    walk_at "w"; rw [is_tuple_of_e f9]; walk_at "w"
    cases s <;> first | (simp only [isTup]; walk_at "w"; simp [isTrans, transB]; done) | skip
    rename_i s
    rw [flat_tup] at f9
    refine ⟨fun h => ?_, fun h => ?_⟩
    · have := isTup_ne (n := 2) h
      simp [isTrans, transB, this]
    have l2 := isTup_eq (n := 2) h
    unfold B_fits_transaction_1; walk_at "w"
    rw [C_fits_transaction_1_e rfl f9 (by rw [sizeL_v]; omega)]; walk_at "w"
    simp only [isPlain] at h1
    simp [isTrans, transB, h1, l2]
/-! ### transactions -/
theorem isWord_w {i : Int} (h : -9223372036854775808 ≤ i ∧ i ≤ 9223372036854775807) : isWord (.int i) = true := isWhole_i h.1 h.2
structure Tx where
  u : Int
  n : Int
  t : Int
  v : Int
  g : Int
  p : Int
  ws : List Int
  cs : List Int
structure TxOk (x : Tx) : Prop where
  u : 0 ≤ x.u ∧ x.u ≤ 5
  n : 0 ≤ x.n ∧ x.n ≤ 999999
  t : 0 ≤ x.t ∧ x.t ≤ 65535
  v : 0 ≤ x.v ∧ x.v ≤ 1000000000
  g : 0 ≤ x.g ∧ x.g ≤ 100000
  p : 0 ≤ x.p ∧ x.p ≤ 100000
  wl : x.ws.length ≤ 6
  w : ∀ w ∈ x.ws, -9223372036854775808 ≤ w ∧ w ≤ 9223372036854775807
  cl : x.cs.length ≤ 240
  c : ∀ o ∈ x.cs, 0 ≤ o ∧ o ≤ 255
  z : x.t = 0 ∨ x.cs = []
abbrev Tx.ds (x : Tx) : List D := [.int x.u, .int x.n, .int x.t, .int x.v, .int x.g, .int x.p, .tup (x.ws.map D.int), .tup (x.cs.map D.int)]
abbrev Tx.pd (x : Tx) : D := .tup [.int x.u, .int x.n, .int x.t, .int x.v, .int x.g, .int x.p, .tup (x.ws.map D.int), .tup (x.cs.map D.int)]
abbrev Tx.sd (x : Tx) (s : D) : D := .tup [.int x.u, .int x.n, .int x.t, .int x.v, .int x.g, .int x.p, .tup (x.ws.map D.int), .tup (x.cs.map D.int), s]
abbrev sl2 (a b : Int) : D := .tup [.int a, .int b]
theorem flat_is {l : List Int} : D.flats (l.map D.int) = true := flats_ints l
theorem Tx.flat {x : Tx} : x.pd.flat = true := by simp [flat_tup, flats_cons, flats_nil, flat_int, flat_is]
theorem Tx.flat9 {x : Tx} {a b : Int} : (x.sd (sl2 a b)).flat = true := by simp [flat_tup, flats_cons, flats_nil, flat_int, flat_is]
theorem TxOk.plain {x : Tx} (h : TxOk x) : isPlain x.pd = true := by
  have w1 : (x.ws.map D.int).all isWord = true := by
    rw [List.all_map, List.all_eq_true]
    intro w hw
    exact isWord_w (h.w w hw)
  have c1 : (x.cs.map D.int).all (fun x => isWhole x 0 255) = true := by
    rw [List.all_map, List.all_eq_true]
    intro w hw
    exact isWhole_i (h.c w hw).1 (h.c w hw).2
  have c2 : isOcts (.tup (x.cs.map D.int)) 240 = true := by
    have := h.cl
    simp only [isOcts, c1, List.length_map]
    simp; omega
  have z1 : (D.beq (.int x.t) (.int 0) || D.beq (.tup (x.cs.map D.int)) (.tup [])) = true := by
    rcases h.z with e | e <;> rw [e]
    · rfl
    · simp [D.beq, D.beqs]
  have := h.wl
  simp only [Tx.pd, isPlain, plainB, isWhole_i h.u.1 h.u.2, isWhole_i h.n.1 h.n.2, isWhole_i h.t.1 h.t.2, isWhole_i h.v.1 h.v.2, isWhole_i h.g.1 h.g.2, isWhole_i h.p.1 h.p.2, w1, c2, List.length_map]
  rw [z1, decide_eq_true this]; rfl
abbrev Tx.rd (x : Tx) (r : List D) : D := .tup (.int x.u :: .int x.n :: .int x.t :: .int x.v :: .int x.g :: .int x.p :: .tup (x.ws.map D.int) :: .tup (x.cs.map D.int) :: r)
def Tx.hd (x : Tx) : List Int := octs x.u 1 ++ octs x.n 8 ++ octs x.t 2 ++ octs x.v 8 ++ octs x.g 4 ++ octs x.p 4 ++ octs (x.ws.length : Nat) 1
def wsO (ws : List Int) : List Int := ws.flatMap fun w => octs w 8
theorem wsO_len : ∀ ws : List Int, (wsO ws).length = 8 * ws.length
  | [] => rfl
  | w :: ws => by rw [wsO, List.flatMap_cons, List.length_append, octs_len, ← wsO, wsO_len ws, List.length_cons]; omega
theorem Tx.hd_len (x : Tx) : x.hd.length = 28 := by simp [Tx.hd, octs_len]
def Tx.oct (x : Tx) : List Int := x.hd ++ wsO x.ws ++ octs (x.cs.length : Nat) 2 ++ x.cs
theorem plain_octets_e {k : Nat} {x : Tx} {r : List D} (h : TxOk x) : runF PG (k + 2) 87 [.val (x.rd r)] = .ok (false, ots x.oct, []) := by
  apply wp_eq
  have hwl := h.wl
  have hcl := h.cl
  rw [run_plain_octets]; unfold B_plain_octets_5; walk_at "w"
  rw [octets_by_e (by decide) (by decide)]; walk_at "w"
  rw [octets_by_e (by decide) (by decide)]; walk_at "w"
  rw [octets_by_e (by decide) (by decide)]; walk_at "w"
  rw [octets_by_e (by decide) (by decide)]; walk_at "w"
  unfold B_plain_octets_4; walk_at "w"
  rw [octets_by_e (by decide) (by decide)]; walk_at "w"
  rw [octets_by_e (by decide) (by decide)]; walk_at "w"
  rw [octets_by_e (by decide) (by decide)]; walk_at "w"
  unfold B_plain_octets_3; walk_at "w"
  rw [List.length_map]
  refine for_w (fun ys ε => ∃ (m : List Int) (o2 : Option D), ε = [.val (x.rd r), .val (ots (x.hd ++ wsO m)), sl o2] ∧ ys = m.map D.int) ⟨[], none, by simp [sl, Tx.hd, wsO], rfl⟩ ?_ ?_
  · rintro ys y ε2 ⟨zs, hz⟩ ⟨m, o2, rfl, rfl⟩
    obtain ⟨w, hw, rfl⟩ : ∃ w, w ∈ x.ws ∧ D.int w = y := List.mem_map.mp (by rw [hz]; simp)
    have hm : m.length < x.ws.length := by have := congrArg List.length hz; simp at this; omega
    walk_at "w"
    unfold B_plain_octets_1; walk_at "w"
    rw [octets_by_e (by decide) (by decide)]; walk_at "w"
    refine ⟨by rw [sizeL_v, wsO_len, Tx.hd_len]; omega, m ++ [w], some (.int w), ?_, by simp⟩
    simp [sl, wsO]
  · rintro ε2 ⟨m, o2, rfl, e⟩
    have : m = x.ws := (List.map_inj_right (fun x y e => D.int.inj e)).mp e.symm
    subst this
    unfold B_plain_octets_2; walk_at "w"
    rw [octets_by_e (by decide) (by decide)]; walk_at "w"
    rw [List.length_map]
    refine ⟨by rw [sizeL_v, wsO_len, Tx.hd_len]; omega, ?_⟩
    rw [show D.tup (x.cs.map D.int) = ots x.cs from rfl]; walk_at "w"
    refine ⟨by rw [sizeL_v]; simp [wsO_len, Tx.hd_len, octs_len]; omega, ?_⟩
    rfl
def Tx.sum (x : Tx) : Int := sumO 41 x.oct
theorem plain_sum_e {k : Nat} {x : Tx} {r : List D} (h : TxOk x) : runF PG (k + 3) 88 [.val (x.rd r)] = .ok (false, .int x.sum, []) := by
  apply wp_eq
  rw [run_plain_sum]; walk_at "w"
  rw [plain_octets_e h]; walk_at "w"
  rw [sum_by_e]; walk_at "w"
  rfl
theorem sum_wd (x : Tx) : -9223372036854775808 ≤ x.sum ∧ x.sum ≤ 9223372036854775807 := by
  unfold Tx.sum sumO
  have h1 := wr_lo (x.oct.foldl stepS 41)
  have h2 := wr_hi (x.oct.foldl stepS 41)
  omega
theorem is_sealed_by_e {k : Nat} {x : Tx} {a b : Int} (h : TxOk x) : runF PG (k + 5) 89 [.val (x.sd (sl2 a b))] = .ok (false, .bl (isRight x.u x.sum a b), []) := by
  apply wp_eq
  have hu := h.u
  rw [run_is_sealed_by]; walk_at "w"
  rw [plain_sum_e h]; walk_at "w"
  rw [is_right_e hu.1 (by omega)]; walk_at "w"
def Tx.least (x : Tx) : Int := 100 + 5 * (x.ws.length : Nat) + (if x.t = 0 then 200 + 2 * (x.cs.length : Nat) else 0)
theorem least_gas_by_e {k : Nat} {x : Tx} {r : List D} : runF PG (k + 1) 90 [.val (x.rd r)] = .ok (false, .int x.least, []) := by
  apply wp_eq
  rw [run_least_gas_by]; walk_at "w"
  refine ⟨fun h => by simp [Tx.least, h], fun h => by simp [Tx.least, h]⟩
theorem fits_tx {k : Nat} {x : Tx} {a b : Int} (h : TxOk x) (ha : 0 ≤ a ∧ a ≤ 4294967295) (hb : 0 ≤ b ∧ b ≤ 4294967295) : isTrans (x.sd (sl2 a b)) = true := by
  have := h.plain
  simp only [isPlain, Tx.pd] at this
  simp only [Tx.sd, isTrans, transB, this]
  simp [isWhole_i ha.1 ha.2, isWhole_i hb.1 hb.2]
theorem need_transaction_e {k : Nat} {v : D} (hv : v.flat = true) : runF PG (k + 5) 91 [.val v] = if isTrans v then .ok (false, .non, []) else .exc ⟨12, none⟩ := by
  cases h : isTrans v
  · apply wp_exq
    rw [run_need_transaction]; unfold B_need_transaction_1; walk_at "w"
    rw [fits_transaction_e hv, h]; walk_at "w"
  · apply wp_eq
    rw [run_need_transaction]; unfold B_need_transaction_1; walk_at "w"
    rw [fits_transaction_e hv, h]; walk_at "w"
theorem sealed_e {k : Nat} {x : Tx} (h : TxOk x) : runF PG (k + 5) 92 [.val x.pd] = .ok (false, x.sd (sealD x.u x.sum), []) := by
  apply wp_eq
  have hu := h.u
  rw [run_sealed]; unfold B_sealed_2; walk_at "w"
  rw [fits_plain_e Tx.flat, h.plain]; walk_at "w"
  unfold B_sealed_1; walk_at "w"
  rw [plain_sum_e (r := []) h]; walk_at "w"
  rw [seal_by_e hu.1 (by omega)]; walk_at "w"
  rfl
theorem is_sealed_e {k : Nat} {x : Tx} {a b : Int} (h : TxOk x) (ha : 0 ≤ a ∧ a ≤ 4294967295) (hb : 0 ≤ b ∧ b ≤ 4294967295) : runF PG (k + 6) 93 [.val (x.sd (sl2 a b))] = .ok (false, .bl (isRight x.u x.sum a b), []) := by
  apply wp_eq
  rw [run_is_sealed]; unfold B_is_sealed_2; walk_at "w"
  rw [need_transaction_e Tx.flat9, fits_tx (k := 0) h ha hb]; walk_at "w"
  unfold B_is_sealed_1; walk_at "w"
  rw [is_sealed_by_e h]; walk_at "w"
end KK

set_option Elab.async false
set_option linter.all false
set_option maxRecDepth 100000
set_option maxHeartbeats 4000000
set_option exponentiation.threshold 10000
namespace KK
open DL
local macro_rules | `(tactic| walk_at "w") => `(tactic| try simp -implicitDefEqProofs only [↓wp_and, ↓wp_or, ↓wp_ite, ↓wp_chain, ↓wp_not, ↓wp_neg, ↓fl_iff, ↓fl_for, ↓fl_while, wp_evT, onB_bl, onI_int, Bool.not_eq_true', Bool.not_eq_false', Bool.not_not,  fdivOk_s, fdivOk_b, fmod_nn, fdiv_nn, mulOk_r, mulOk_l, Int.reduceNeg, Int.reduceAdd, Int.reduceSub, Int.reduceMul, Int.reducePow, Int.reduceToNat, Int.reduceLE, Int.reduceLT, Int.reduceEq, Int.reduceNe, Int.reduceAbs, Nat.reducePow, Nat.reduceLT, Nat.reduceLeDiff, Nat.reduceAdd, Nat.reduceMul, decide_true, decide_false, and_self, ne_eq, not_true_eq_false, not_false_eq_true, eqv_int, eqv_bl, eqv_str, flat_int, flat_bl, flat_non, flat_str, Option.map_some, ss_cons, ss_nil,  fl_of, fl_nx, fl_rt, fl_ct, fl_exc, fl_bad, wp_bind, wp_ok, wp_exc, wp_bad, wp_some, wp_none, wp_if, wp_ite_ok, evE_c, evE_v, evE_tup, evE_lst, evE_bin, evE_cmp, evE_sub, evE_slice, evE_rev, evE_call, evE_callv, evE_bi, evE_meth, evE_isi, evE_lamc, evE_dic, evE_kd, evE_kget, evE_so, pk_kd, pk_kget, bi_repr_n, bi_repr_i, bi_len_s, pk_so, bi_len_d, bi_lst_d, bi_dic, bi_sort_i, bi_sort_d, bi_sort_0, me_get2, meok_get, meok_ix, sub_d, key_int, cm_in_d, cm_ni_d, put_d, eqv_ac, eqv_ac0, eqv_sto, eqv_sta, exS_set, exS_setT, exS_asgT, exS_app, exS_put, exS_expr, exS_ret, exS_retN, exS_pass, forL_nil_w, compW_nil, turnW, exS_cont, exS_raise, evEs, evPs, evAs, evO, evCs, evI, evT, evR, evOs, lk, pk_v, pk_c, pk_tup, pk_lst, pk_bin, pk_neg, pk_cmp, pk_chain, pk_and, pk_or, pk_not, pk_ite, pk_sub, pk_slice, pk_rev, pk_call, pk_callv, pk_bi, pk_meth, pk_isi, pk_comp, pk_lamc, pk_dic, E.quiet, Es.quiet, mkAs, backAs, As.lends, slOf, outsE, Rs.opt_some, Rs.bind_ok, Rs.bind_bad, Rs.bind_exc, Fl.of_ok, Fl.of_exc, Fl.of_bad,
  putS_e, isPut_sl, isPut_val, isPut_own, isPut_no, eq_self, List.getElem?_cons_zero, List.getElem?_cons_succ, List.set_cons_zero, List.set_cons_succ, List.getElem?_nil, List.set_nil, Bool.and_true, Bool.true_and, Bool.and_false, Bool.false_and, Bool.or_true, Bool.or_false, if_true, if_false, ite_true, ite_false, Bool.false_eq_true, reduceIte, 
  cmF, subF, isiF, isiD, optI, op_add_i, op_add_l, op_add_t, op_add_s, op_sub_i, op_mul_i, op_mul_l, op_mul_t, op_fdiv_i, op_mod_i, op_pow_i, op_shl_i, op_shr_i, op_band_i, op_bor_i, op_bxor_i, sub_t, sub_l, idx_0, idx_1, idx_nat, cm_eq, cm_ne, cm_lt, cm_le, cm_gt, cm_ge, cm_in_t, cm_in_l, cm_ni_t, cm_ni_l, cm_is_bb, cm_isn_bb, cm_is_nn, cm_isn_nn, cm_is_in, cm_isn_in, cm_is_tn, cm_isn_tn, cm_is_sn, cm_isn_sn, bi_len_t, bi_len_l, bi_abs, bi_int, bi_intb, bi_all_map, bi_any, bi_sum, bi_max, bi_min, bi_tup_t, bi_tup_l, bi_lst_t, bi_lst_l, bi_lst_f, sl_t, sl_l, rev_l, op_ots, flat_ots, eqv_ots, idx_m1, idx_2, idx_3, idx_4, idx_5, idx_6, idx_7, idx_8, idx_9, idx_10, idx_11, idx_12, idx_13, idx_14, idx_15, idx_16, idx_17, idx_18, idx_19, Option.map_some, Option.map_none, Option.some.injEq, Bool.not_true, Bool.not_false, List.contains_nil, List.contains_cons, List.map_cons, List.map_nil, List.length_cons, List.length_nil, true_implies, false_implies, and_true, true_and, Bool.true_eq_false, Bool.false_eq_true, decide_eq_true_eq, decide_eq_false_iff_not, isL, isC, appS, putI, put_0, put_1, hide_g, hideO_val, hideO_own, hideO_lnt, hideO_no, octs_len, List.length_append, eqv_l00, eqv_t00, backE, List.getD_cons_zero, List.getD_cons_succ, le_sizeL, lt_sizeL, Nat.zero_le, D.bl.injEq,  items_t, items_l, List.filterMap_nil, List.isEmpty_nil, bindT, bindNs, putNs, putOs, wipeE])
local macro_rules | `(tactic| walk_at "c") => `(tactic| try simp -implicitDefEqProofs only [cut, cutIx, D.items, List.cons_append, List.nil_append, List.append_nil, List.length_cons, List.length_nil, List.take_succ_cons, List.drop_succ_cons, List.take_zero, List.drop_zero, List.take_nil, List.drop_nil, List.length_append, Nat.reduceAdd, Nat.reduceSub, Nat.reduceMul, Nat.reduceLT, Nat.reduceLeDiff, Int.reduceLT, Int.reduceLE, Int.reduceToNat, Int.reduceNeg, Int.reduceAdd, Nat.min_self, Nat.sub_zero, Nat.zero_add, ite_false, ite_true, if_true, if_false, reduceIte, Int.cast_ofNat_Int, Nat.min_def])
/-! ### ascending -/
theorem zipD_ints (xs ys : List Int) : zipD (xs.map D.int) (ys.map D.int) = (xs.zip ys).map fun p => .tup [.int p.1, .int p.2] := by
  unfold zipD
  induction xs generalizing ys with
  | nil => rfl
  | cons x xs ih => cases ys with
    | nil => rfl
    | cons y ys => simp only [List.map_cons, List.zipWith_cons_cons, List.zip_cons_cons, ih]
theorem C_is_ascending_1_e {k : Nat} {ns : List Int} {s t : Sl} (hl : ns.length ≤ sizeL) : evE (runF PG k) (handP PG) (.comp C_is_ascending_1 (.t [1, 2]) (.zip (.cons (.v 0) (.cons (.slice (.v 0) (.cons (.c (.int 1)) .nil) .nil) .nil))) .nil [1, 2]) [.val (ots ns), s, t] = .ok (true, .lst ((ns.zip (ns.drop 1)).map fun p => .bl (decide (p.1 < p.2))), [.val (ots ns), s, t]) := by
  have e := comp_map (call := runF PG k) (hand := handP PG) (e := C_is_ascending_1) (t := .t [1, 2]) (it := .zip (.cons (.v 0) (.cons (.slice (.v 0) (.cons (.c (.int 1)) .nil) .nil) .nil))) (vs := [1, 2]) (ε := [.val (ots ns), s, t]) (ε1 := [.val (ots ns), s, t]) (xs := (ns.zip (ns.drop 1)).map fun p => .tup [.int p.1, .int p.2])
    (fun d => match d with | .tup [.int x, .int y] => .bl (decide (x < y)) | d => d) ?_ ?_ ?_
  · rw [e, List.map_map]; rfl
  · walk_at "w"
    unfold ots
    walk_at "w"
    have : cut (ns.map D.int) (some 1) none = (ns.drop 1).map D.int := by
      cases ns with
      | nil => rfl
      | cons n ns => simp [cut, cutIx]; rw [List.take_of_length_le (by simp)]
    rw [this, zipD_ints]
  · rw [List.length_map, List.length_zip]; omega
  · intro x hx
    obtain ⟨p, hp, rfl⟩ := List.mem_map.mp hx
    unfold C_is_ascending_1 turnW
    walk_at "w"
theorem is_ascending_e {k : Nat} {ns : List Int} (hl : ns.length ≤ sizeL) : runF PG (k + 1) 51 [.val (ots ns)] = .ok (false, .bl (ascB ns), []) := by
  apply wp_eq
  rw [run_is_ascending]; unfold B_is_ascending_1; walk_at "w"
  rw [C_is_ascending_1_e hl]; walk_at "w"
  rw [ascB_zip]
/-! ### stores, accounts, states -/
theorem eqv_any {x y : D} (hx : x.flat = true) (hy : y.flat = true) (hd : y.dep ≤ 64) : D.eqv x y = some (D.beq x y) := eqv_flat hx hy (by omega)
def stoP (x : D) : Bool := match x with | .tup [a, b] => isWhole a 0 65535 && isWord b && !D.beq b (.int 0) | _ => false
def rowOk (p : D → Bool) (v : D) : Bool := match v with | .tup xs => decide (xs.length ≤ 60) && xs.all (fun x => isTup x 2 2) && xs.all p && ascB (xs.map fstI) | _ => false
def isStore (v : D) : Bool := rowOk stoP v
theorem two_of {x : D} (h : isTup x 2 2 = true) : ∃ a b, x = .tup [a, b] := by
  unfold isTup at h
  split at h
  · rename_i xs
    simp only [Bool.and_eq_true, decide_eq_true_eq] at h
    match xs, h with
    | [a, b], _ => exact ⟨a, b, rfl⟩
    | [], h => simp at h
    | [_], h => simp at h
    | _ :: _ :: _ :: _, h => simp at h; omega
  · cases h
theorem isWhole_ex {a : D} {lo hi : Int} (h : isWhole a lo hi = true) : ∃ i, a = .int i ∧ lo ≤ i ∧ i ≤ hi := by
  unfold isWhole at h
  split at h
  · rename_i i; simp only [Bool.and_eq_true, decide_eq_true_eq] at h; exact ⟨i, rfl, h.1, h.2⟩
  · cases h
theorem C_fits_store_1_e {k : Nat} {xs : List D} {t : Sl} (hf : D.flats xs = true) (hl : xs.length ≤ sizeL) : evE (runF PG (k + 1)) (handP PG) (.comp C_fits_store_1 (.n 1) (.it (.v 0)) .nil [1]) [.val (.tup xs), t] = .ok (true, .lst (xs.map fun x => .bl (isTup x 2 2)), [.val (.tup xs), t]) := by
  refine comp_map (fun x => .bl (isTup x 2 2)) (xs := xs) (by walk_at "w") hl fun x hx => ?_
  unfold C_fits_store_1 turnW
  walk_at "w"
  rw [is_tuple_of_e (flats_mem.mp hf x hx)]; walk_at "w"
theorem C_fits_store_2_e {k : Nat} {xs : List D} {t : Sl} (hf : D.flats xs = true) (hp : xs.all (fun x => isTup x 2 2) = true) (hl : xs.length ≤ sizeL) : evE (runF PG (k + 2)) (handP PG) (.comp C_fits_store_2 (.n 1) (.it (.v 0)) .nil [1]) [.val (.tup xs), t] = .ok (true, .lst (xs.map fun x => .bl (stoP x)), [.val (.tup xs), t]) := by
  refine comp_map (fun x => .bl (stoP x)) (xs := xs) (by walk_at "w") hl fun x hx => ?_
  obtain ⟨a, b, rfl⟩ := two_of (List.all_eq_true.mp hp x hx)
  have fx := flats_mem.mp hf _ hx
  simp only [flat_tup, flats_cons, flats_nil, Bool.and_true, Bool.and_eq_true] at fx
  unfold C_fits_store_2 turnW
  walk_at "w"
  rw [is_whole_e fx.1]; walk_at "w"
  refine ⟨fun h1 => ?_, fun h1 => by simp [stoP, h1]⟩
  walk_at "w"
  rw [is_word_e fx.2]; walk_at "w"
  refine ⟨fun h2 => ?_, fun h2 => by simp [stoP, h1, h2]⟩
  walk_at "w"
  rw [eqv_any fx.2 rfl (by decide)]; walk_at "w"
  simp [stoP, h1, h2]
theorem C_fits_store_3_e {k : Nat} {xs : List D} {t : Sl} (hp : xs.all stoP = true) (hl : xs.length ≤ sizeL) : evE (runF PG k) (handP PG) (.comp C_fits_store_3 (.n 1) (.it (.v 0)) .nil [1]) [.val (.tup xs), t] = .ok (true, .lst (xs.map fun x => .int (fstI x)), [.val (.tup xs), t]) := by
  refine comp_map (fun x => .int (fstI x)) (xs := xs) (by walk_at "w") hl fun x hx => ?_
  have hx := List.all_eq_true.mp hp x hx
  unfold stoP at hx
  split at hx
  · simp only [Bool.and_eq_true] at hx
    obtain ⟨i, rfl, _⟩ := isWhole_ex hx.1.1
    unfold C_fits_store_3 turnW
    walk_at "w"
    simp [fstI]
  · cases hx
theorem map_ots {xs : List D} {f : D → Int} : D.tup (xs.map fun x => .int (f x)) = ots (xs.map f) := by unfold ots; rw [List.map_map]; rfl
theorem fits_store_e {k : Nat} {v : D} (hv : v.flat = true) : runF PG (k + 3) 52 [.val v] = .ok (false, .bl (isStore v), []) := by
  apply wp_eq
  rw [run_fits_store]; unfold B_fits_store_3; walk_at "w"
  rw [is_tuple_of_e hv]; walk_at "w"
  cases v <;> first | (simp only [isTup]; walk_at "w"; simp [isStore, rowOk]; done) | skip
  rename_i xs
  rw [flat_tup] at hv
  by_cases hl : xs.length ≤ 60
  · have h1 : isTup (.tup xs) 0 60 = true := by simp [isTup]; omega
    rw [h1]; walk_at "w"
    rw [C_fits_store_1_e hv (by rw [sizeL_v]; omega)]; walk_at "w"
    refine ⟨fun h => ?_, fun h => ?_⟩
    · simp only [isStore, rowOk, h, Bool.and_false, Bool.false_and]
    · unfold B_fits_store_2; walk_at "w"
      rw [C_fits_store_2_e hv h (by rw [sizeL_v]; omega)]; walk_at "w"
      refine ⟨fun h2 => ?_, fun h2 => ?_⟩
      · simp only [isStore, rowOk, h2, Bool.and_false, Bool.false_and]
      · unfold B_fits_store_1; walk_at "w"
        rw [C_fits_store_3_e h2 (by rw [sizeL_v]; omega)]; walk_at "w"
        rw [map_ots, is_ascending_e (by rw [List.length_map, sizeL_v]; omega)]; walk_at "w"
        simp only [isStore, rowOk, h, h2, decide_eq_true hl, Bool.true_and]
  · have h1 : isTup (.tup xs) 0 60 = false := by simp [isTup]; omega
    rw [h1]; walk_at "w"
    simp only [isStore, rowOk, decide_eq_false hl, Bool.false_and]
def isAcct (v : D) : Bool := match v with | .tup [n, b, c, s] => isWhole n 0 1000000000 && isWhole b 0 1000000000000000 && isOcts c 240 && isStore s | _ => false
theorem four_of {xs : List D} (h : isTup (.tup xs) 4 4 = true) : ∃ a b c d, xs = [a, b, c, d] := by
  simp only [isTup, Bool.and_eq_true, decide_eq_true_eq] at h
  match xs, h with
  | [a, b, c, d], _ => exact ⟨a, b, c, d, rfl⟩
  | [], h => simp at h
  | [_], h => simp at h
  | [_, _], h => simp at h
  | [_, _, _], h => simp at h
  | _ :: _ :: _ :: _ :: _ :: _, h => simp at h; omega
theorem four_no {xs : List D} (h : isTup (.tup xs) 4 4 = false) : isAcct (.tup xs) = false := by
  unfold isAcct
  split
  · rename_i e; cases e; simp [isTup] at h
  · rfl
theorem fits_account_e {k : Nat} {v : D} (hv : v.flat = true) : runF PG (k + 4) 53 [.val v] = .ok (false, .bl (isAcct v), []) := by
  apply wp_eq
  rw [run_fits_account]; unfold B_fits_account_2; walk_at "w"
  rw [is_tuple_of_e hv]; walk_at "w"
  cases v <;> first | (simp only [isTup]; walk_at "w"; simp [isAcct]; done) | skip
  rename_i xs
  rw [flat_tup] at hv
  refine ⟨fun h => ?_, fun h => ?_⟩
  · rw [four_no h]
  · obtain ⟨n, b, c, s, rfl⟩ := four_of h
    simp only [flats_cons, flats_nil, Bool.and_true, Bool.and_eq_true] at hv
    obtain ⟨f1, f2, f3, f4⟩ := hv
    walk_at "w"
    rw [is_whole_e f1]; walk_at "w"
    refine ⟨fun h1 => by simp [isAcct, h1], fun h1 => ?_⟩
    walk_at "w"
    rw [is_whole_e f2]; walk_at "w"
    refine ⟨fun h2 => by simp [isAcct, h1, h2], fun h2 => ?_⟩
    unfold B_fits_account_1; walk_at "w"
    rw [fits_octets_e (by decide) f3]; walk_at "w"
    refine ⟨fun h3 => ?_, fun h3 => by simp [isAcct, h1, h2, h3]⟩
    walk_at "w"
    rw [fits_store_e f4]; walk_at "w"
    simp [isAcct, h1, h2, h3]
def staP (x : D) : Bool := match x with | .tup [a, c] => isWhole a 1 65535 && isAcct c && !D.beq c (.tup [.int 0, .int 0, .tup [], .tup []]) | _ => false
def isState (v : D) : Bool := rowOk staP v
theorem C_fits_state_1_e {k : Nat} {xs : List D} {t : Sl} (hf : D.flats xs = true) (hl : xs.length ≤ sizeL) : evE (runF PG (k + 1)) (handP PG) (.comp C_fits_state_1 (.n 1) (.it (.v 0)) .nil [1]) [.val (.tup xs), t] = .ok (true, .lst (xs.map fun x => .bl (isTup x 2 2)), [.val (.tup xs), t]) := by
  refine comp_map (fun x => .bl (isTup x 2 2)) (xs := xs) (by walk_at "w") hl fun x hx => ?_
  unfold C_fits_state_1 turnW
  walk_at "w"
  rw [is_tuple_of_e (flats_mem.mp hf x hx)]; walk_at "w"
theorem C_fits_state_2_e {k : Nat} {xs : List D} {t : Sl} (hf : D.flats xs = true) (hp : xs.all (fun x => isTup x 2 2) = true) (hl : xs.length ≤ sizeL) : evE (runF PG (k + 4)) (handP PG) (.comp C_fits_state_2 (.n 1) (.it (.v 0)) .nil [1]) [.val (.tup xs), t] = .ok (true, .lst (xs.map fun x => .bl (staP x)), [.val (.tup xs), t]) := by
  refine comp_map (fun x => .bl (staP x)) (xs := xs) (by walk_at "w") hl fun x hx => ?_
  obtain ⟨a, b, rfl⟩ := two_of (List.all_eq_true.mp hp x hx)
  have fx := flats_mem.mp hf _ hx
  simp only [flat_tup, flats_cons, flats_nil, Bool.and_true, Bool.and_eq_true] at fx
  unfold C_fits_state_2 turnW
  walk_at "w"
  rw [is_whole_e fx.1]; walk_at "w"
  refine ⟨fun h1 => ?_, fun h1 => by simp [staP, h1]⟩
  walk_at "w"
  rw [fits_account_e fx.2]; walk_at "w"
  refine ⟨fun h2 => ?_, fun h2 => by simp [staP, h1, h2]⟩
  walk_at "w"
  rw [eqv_any fx.2 rfl (by decide)]; walk_at "w"
  simp [staP, h1, h2]
theorem C_fits_state_3_e {k : Nat} {xs : List D} {t : Sl} (hp : xs.all staP = true) (hl : xs.length ≤ sizeL) : evE (runF PG k) (handP PG) (.comp C_fits_state_3 (.n 1) (.it (.v 0)) .nil [1]) [.val (.tup xs), t] = .ok (true, .lst (xs.map fun x => .int (fstI x)), [.val (.tup xs), t]) := by
  refine comp_map (fun x => .int (fstI x)) (xs := xs) (by walk_at "w") hl fun x hx => ?_
  have hx := List.all_eq_true.mp hp x hx
  unfold staP at hx
  split at hx
  · simp only [Bool.and_eq_true] at hx
    obtain ⟨i, rfl, _⟩ := isWhole_ex hx.1.1
    unfold C_fits_state_3 turnW
    walk_at "w"
    simp [fstI]
  · cases hx
theorem fits_state_e {k : Nat} {v : D} (hv : v.flat = true) : runF PG (k + 5) 54 [.val v] = .ok (false, .bl (isState v), []) := by
  apply wp_eq
  rw [run_fits_state]; unfold B_fits_state_3; walk_at "w"
  rw [is_tuple_of_e hv]; walk_at "w"
  cases v <;> first | (simp only [isTup]; walk_at "w"; simp [isState, rowOk]; done) | skip
  rename_i xs
  rw [flat_tup] at hv
  by_cases hl : xs.length ≤ 60
  · have h1 : isTup (.tup xs) 0 60 = true := by simp [isTup]; omega
    rw [h1]; walk_at "w"
    rw [C_fits_state_1_e hv (by rw [sizeL_v]; omega)]; walk_at "w"
    refine ⟨fun h => ?_, fun h => ?_⟩
    · simp only [isState, rowOk, h, Bool.and_false, Bool.false_and]
    · unfold B_fits_state_2; walk_at "w"
      rw [C_fits_state_2_e hv h (by rw [sizeL_v]; omega)]; walk_at "w"
      refine ⟨fun h2 => ?_, fun h2 => ?_⟩
      · simp only [isState, rowOk, h2, Bool.and_false, Bool.false_and]
      · unfold B_fits_state_1; walk_at "w"
        rw [C_fits_state_3_e h2 (by rw [sizeL_v]; omega)]; walk_at "w"
        rw [map_ots, is_ascending_e (by rw [List.length_map, sizeL_v]; omega)]; walk_at "w"
        simp only [isState, rowOk, h, h2, decide_eq_true hl, Bool.true_and]
  · have h1 : isTup (.tup xs) 0 60 = false := by simp [isTup]; omega
    rw [h1]; walk_at "w"
    simp only [isState, rowOk, decide_eq_false hl, Bool.false_and]
/-! ### .. that are valid -/
theorem row_kv {α : Type} {f : α → D} {s : List (Int × α)} {p : D → Bool} (hl : s.length ≤ 60) (ha : Asc s) (hp : ∀ q ∈ s, p (.tup [.int q.1, f q.2]) = true) : rowOk p (.tup (kvD f s)) = true := by
  have h1 : (kvD f s).all (fun x => isTup x 2 2) = true := by simp [kvD, isTup]
  have h2 : (kvD f s).all p = true := by
    rw [List.all_eq_true]; intro x hx
    obtain ⟨q, hq, rfl⟩ := List.mem_map.mp hx
    exact hp q hq
  simp only [rowOk, h1, h2, kvD_len, decide_eq_true hl, kvD_fst, ha.ascB, Bool.and_self]
theorem isStore_ok {s : List (Int × Int)} (h : StoOk s) : isStore (stoD s) = true := by
  refine row_kv h.len h.asc fun q hq => ?_
  obtain ⟨k1, k2⟩ := h.key q hq
  obtain ⟨v1, v2, v3⟩ := h.val q hq
  simp [stoP, isWord, isWhole, D.beq, k1, k2, v1, v2, v3]
theorem isOcts_ok {c : List Int} {m : Int} (hl : (c.length : Int) ≤ m) (h : ∀ o ∈ c, 0 ≤ o ∧ o ≤ 255) : isOcts (ots c) m = true := by
  have : (c.map D.int).all (fun x => isWhole x 0 255) = true := by
    rw [List.all_eq_true]; intro x hx
    obtain ⟨o, ho, rfl⟩ := List.mem_map.mp hx
    obtain ⟨h1, h2⟩ := h o ho
    simp [isWhole, h1, h2]
  simp only [isOcts, ots, this, List.length_map, decide_eq_true hl, Bool.and_self]
theorem isAcct_ok {a : Ac} (h : AcOk a) : isAcct (acD a) = true := by
  obtain ⟨⟨n1, n2⟩, ⟨b1, b2⟩, cl, c, s⟩ := h
  simp only [isAcct, acD, isStore_ok s, isOcts_ok (m := 240) (by omega) c, isWhole, decide_eq_true n1, decide_eq_true n2, decide_eq_true b1, decide_eq_true b2, Bool.and_self]
theorem isState_ok {s : Sta} (h : StaOk s) : isState (staD s) = true := by
  refine row_kv h.len h.asc fun q hq => ?_
  obtain ⟨k1, k2⟩ := h.key q hq
  have hb : D.beq (acD q.2) (.tup [.int 0, .int 0, .tup [], .tup []]) = false := by
    rw [Bool.eq_false_iff]
    intro z
    exact h.ne q hq (acD_inj _ E0 (beq_eq _ _ nob_ac (nob_ac (a := E0)) z))
  simp only [staP, isAcct_ok (h.ac q hq), hb, isWhole, decide_eq_true k1, decide_eq_true k2, Bool.and_self, Bool.not_false]
theorem account_in_e {k : Nat} {s : Sta} {a : Int} (h : (s.map (·.1)).Nodup) : runF PG (k + 1) 55 [.val (staD s), .val (.int a)] = .ok (false, acD (acc s a), []) := by
  apply wp_eq
  rw [run_account_in]; unfold staD; walk_at "w"
  rw [kvD_pr]; walk_at "w"
  rw [dOf_kv h]; walk_at "w"
  rw [dGet_kv]
  unfold acc
  cases lkp s a <;> rfl
theorem need_state_e {k : Nat} {v : D} (hv : v.flat = true) : runF PG (k + 6) 56 [.val v] = if isState v then .ok (false, .non, []) else .exc ⟨4, none⟩ := by
  cases h : isState v
  · apply wp_exq
    rw [run_need_state]; unfold B_need_state_1; walk_at "w"
    rw [fits_state_e hv, h]; walk_at "w"
  · apply wp_eq
    rw [run_need_state]; unfold B_need_state_1; walk_at "w"
    rw [fits_state_e hv, h]; walk_at "w"
theorem law_account_e {k : Nat} {s : Sta} {a : Int} (hl : s.length ≤ 1000) : runF PG (k + 1) 61 [.val (staD s), .val (.int a)] = .ok (false, acD (acc s a), []) := by
  apply wp_eq
  rw [run_law_account]; unfold B_law_account_2; walk_at "w"
  have e := comp_fm (call := runF PG k) (hand := handP PG) (e := C_law_account_1) (t := .t [3, 4]) (it := .it (.v 0)) (cs := .cons (.cmp .eq (.v 3) (.v 1)) .nil) (vs := [3, 4]) (ε := [.val (staD s), .val (.int a), .no, .no, .no]) (ε1 := [.val (staD s), .val (.int a), .no, .no, .no]) (xs := kvD acD s)
    (fun d => match d with | .tup [.int p, c] => if p = a then some c else none | _ => none) (by unfold staD; walk_at "w") (by rw [kvD_len, sizeL_v]; omega) (fun x hx => by
      obtain ⟨p, hp, rfl⟩ := List.mem_map.mp hx
      unfold C_law_account_1 turnW
      walk_at "w"
      refine ⟨fun h => ?_, fun h => ?_⟩
      · rw [if_pos h]
      · rw [if_neg h])
  rw [e]; walk_at "w"
  rw [filter_kv (f := acD) (a := a) fun p _ => rfl]
  unfold B_law_account_1
  unfold acc
  rw [lkp_filter]
  cases s.filter fun p => decide (p.1 = a) with
  | nil =>
    walk_at "w"
    rfl
  | cons p r =>
    walk_at "w"
    rw [eqv_l0 (by rw [flats_mem]; intro x hx; rw [← List.map_cons (f := fun p : Int × Ac => acD p.2)] at hx; obtain ⟨q, _, rfl⟩ := List.mem_map.mp hx; exact flat_ac)]
    walk_at "w"
    rfl
theorem need_whole_e {k : Nat} {v : D} {lo hi : Int} (hv : v.flat = true) : runF PG (k + 2) 7 [.val v, .val (.int lo), .val (.int hi)] = if isWhole v lo hi then .ok (false, .non, []) else .exc ⟨0, none⟩ := by
  cases h : isWhole v lo hi
  · apply wp_exq
    rw [run_need_whole]
    unfold B_need_whole_1
    walk_at "w"
    rw [is_whole_e hv, h]
    walk_at "w"
  · apply wp_eq
    rw [run_need_whole]
    unfold B_need_whole_1
    walk_at "w"
    rw [is_whole_e hv, h]
    walk_at "w"
/-! ### reasons that bar -/
abbrev dtD (h r f : Int) : D := .tup [.int h, .int r, .int f]
structure DtOk (h r f : Int) : Prop where
  h : 0 ≤ h ∧ h ≤ 1000000
  r : 1 ≤ r ∧ r ≤ 65535
  f : 0 ≤ f ∧ f ≤ 1000000
theorem fits_data_e {k : Nat} {h r f : Int} (H : DtOk h r f) : runF PG (k + 2) 94 [.val (dtD h r f)] = .ok (false, .bl true, []) := by
  apply wp_eq
  have hr := H.r
  rw [run_fits_data]; unfold B_fits_data_2; walk_at "w"
  rw [is_tuple_of_e rfl, show isTup (dtD h r f) 3 3 = true from rfl]; walk_at "w"
  rw [is_whole_e rfl, isWhole_i H.h.1 H.h.2]; walk_at "w"
  unfold B_fits_data_1; walk_at "w"
  rw [is_whole_e rfl, isWhole_i (by omega) H.r.2]; walk_at "w"
  rw [is_whole_e rfl, isWhole_i H.f.1 H.f.2]; walk_at "w"
theorem need_data_e {k : Nat} {h r f : Int} (H : DtOk h r f) : runF PG (k + 3) 97 [.val (dtD h r f)] = .ok (false, .non, []) := by
  apply wp_eq
  have hr := H.r
  rw [run_need_data]; unfold B_need_data_1; walk_at "w"
  rw [fits_data_e H]; walk_at "w"
  exact ⟨fun h => by omega, fun _ => trivial⟩
theorem address_of_user_e {k : Nat} {u : Int} : runF PG (k + 1) 86 [.val (.int u)] = .ok (false, .int (u + 1), []) := by
  apply wp_eq
  rw [run_address_of_user]; walk_at "w"
theorem need_all_e {k : Nat} {s : Sta} {h r f : Int} {x : Tx} {a b l : Int} (hs : StaOk s) (H : DtOk h r f) (hx : TxOk x) (ha : 0 ≤ a ∧ a ≤ 4294967295) (hb : 0 ≤ b ∧ b ≤ 4294967295) (hl : 0 ≤ l ∧ l ≤ 6000) :
    runF PG (k + 7) 98 [.val (staD s), .val (dtD h r f), .val (x.sd (sl2 a b)), .val (.int l)] = .ok (false, .non, []) := by
  apply wp_eq
  rw [run_need_all]; unfold B_need_all_4; walk_at "w"
  rw [need_state_e flat_sta, isState_ok hs]; walk_at "w"
  unfold B_need_all_3; walk_at "w"
  rw [need_data_e H]; walk_at "w"
  unfold B_need_all_2; walk_at "w"
  rw [need_transaction_e Tx.flat9, fits_tx (k := 0) hx ha hb]; walk_at "w"
  unfold B_need_all_1; walk_at "w"
  rw [need_whole_e rfl, isWhole_i hl.1 hl.2]; walk_at "w"
def b5 (b1 b2 b3 b4 b5 : Bool) : List D := (if b1 then [] else [D.str [115, 101, 97, 108]]) ++ (if b2 then [] else [D.str [99, 111, 117, 110, 116]]) ++ (if b3 then [] else [D.str [112, 114, 105, 99, 101]]) ++ (if b4 then [] else [D.str [109, 111, 110, 101, 121]]) ++ (if b5 then [] else [D.str [103, 97, 115]])
def barL (s : Sta) (f : Int) (x : Tx) (b1 : Bool) (l : Int) : List D := b5 b1 (decide (x.n = (acc s (x.u + 1)).n)) (decide (f ≤ x.p)) (decide (x.v + x.g * x.p ≤ (acc s (x.u + 1)).b)) (decide (x.least ≤ x.g) && decide (x.g ≤ l))
def holdF (y : D) : Option D := match y with | .tup [n, .bl b] => if b then none else some n | _ => none
theorem C_bars_in_1_e {k : Nat} {b1 b2 b3 b4 c5 : Bool} {s0 s1 s2 s3 s4 s5 s6 s7 s8 s9 s10 s11 s12 s13 : Sl} {L : List D} (hL : L = [.tup [.str [115, 101, 97, 108], .bl b1], .tup [.str [99, 111, 117, 110, 116], .bl b2], .tup [.str [112, 114, 105, 99, 101], .bl b3], .tup [.str [109, 111, 110, 101, 121], .bl b4], .tup [.str [103, 97, 115], .bl c5]]) :
    evE (runF PG k) (handP PG) (.comp C_bars_in_1 (.t [15, 16]) (.it (.v 14)) (.cons (.not (.v 16)) .nil) [15, 16]) [s0, s1, s2, s3, s4, s5, s6, s7, s8, s9, s10, s11, s12, s13, .val (.tup L), .no, .no] = .ok (true, .lst (b5 b1 b2 b3 b4 c5), [s0, s1, s2, s3, s4, s5, s6, s7, s8, s9, s10, s11, s12, s13, .val (.tup L), .no, .no]) := by
  have e := comp_fm (call := runF PG k) (hand := handP PG) (e := C_bars_in_1) (t := .t [15, 16]) (it := .it (.v 14)) (cs := .cons (.not (.v 16)) .nil) (vs := [15, 16]) (ε := [s0, s1, s2, s3, s4, s5, s6, s7, s8, s9, s10, s11, s12, s13, .val (.tup L), .no, .no]) (ε1 := [s0, s1, s2, s3, s4, s5, s6, s7, s8, s9, s10, s11, s12, s13, .val (.tup L), .no, .no]) (xs := L) holdF ?_ ?_ ?_
  · rw [e, hL]
    congr 2
    cases b1 <;> cases b2 <;> cases b3 <;> cases b4 <;> cases c5 <;> rfl
  · walk_at "w"
  · rw [hL, sizeL_v]; simp
  · intro y hy
    obtain ⟨n, b, rfl⟩ : ∃ n b, y = .tup [n, .bl b] := by
      rw [hL] at hy
      simp only [List.mem_cons, List.not_mem_nil, or_false] at hy
      rcases hy with rfl | rfl | rfl | rfl | rfl <;> exact ⟨_, _, rfl⟩
    unfold C_bars_in_1 turnW
    walk_at "w"
    cases b <;> simp [holdF]
theorem bars_in_e {k : Nat} {s : Sta} {h r f : Int} {x : Tx} {a b l : Int} (hs : StaOk s) (hx : TxOk x) :
    runF PG (k + 6) 95 [.val (staD s), .val (dtD h r f), .val (x.sd (sl2 a b)), .val (.int l)] = .ok (false, .tup (barL s f x (isRight x.u x.sum a b) l), []) := by
  apply wp_eq
  rw [run_bars_in]; unfold B_bars_in_4; walk_at "w"
  unfold B_bars_in_3; walk_at "w"
  rw [address_of_user_e]; walk_at "w"
  rw [account_in_e hs.asc.nodup]; walk_at "w"
  unfold B_bars_in_2; walk_at "w"
  rw [is_sealed_by_e hx]; walk_at "w"
  have hg := hx.g
  have hp := hx.p
  unfold barL
  generalize acc s (x.u + 1) = A
  rw [show acD A = .tup [.int A.n, .int A.b, ots A.c, stoD A.s] from rfl]
  walk_at "w"
  refine ⟨mulOk_s (.inl (by omega)), ?_⟩
  rw [least_gas_by_e (r := [sl2 a b])]; walk_at "w"
  refine ⟨fun h1 => ?_, fun h1 => ?_⟩
  · unfold B_bars_in_1; walk_at "w"
    rw [C_bars_in_1_e rfl]; walk_at "w"
    simp [h1]
  · unfold B_bars_in_1; walk_at "w"
    rw [C_bars_in_1_e rfl]; walk_at "w"
    simp [h1]
theorem bars_of_e {k : Nat} {s : Sta} {h r f : Int} {x : Tx} {a b l : Int} (hs : StaOk s) (H : DtOk h r f) (hx : TxOk x) (ha : 0 ≤ a ∧ a ≤ 4294967295) (hb : 0 ≤ b ∧ b ≤ 4294967295) (hl : 0 ≤ l ∧ l ≤ 6000) :
    runF PG (k + 8) 99 [.val (staD s), .val (dtD h r f), .val (x.sd (sl2 a b)), .val (.int l)] = .ok (false, .tup (barL s f x (isRight x.u x.sum a b) l), []) := by
  apply wp_eq
  rw [run_bars_of]; unfold B_bars_of_2; walk_at "w"
  rw [need_all_e hs H hx ha hb hl]; walk_at "w"
  unfold B_bars_of_1; walk_at "w"
  rw [bars_in_e hs hx]; walk_at "w"
theorem b5_len {b1 b2 b3 b4 c5 : Bool} : (b5 b1 b2 b3 b4 c5).length ≤ 5 := by cases b1 <;> cases b2 <;> cases b3 <;> cases b4 <;> cases c5 <;> decide
theorem b5_hd {b1 b2 b3 b4 c5 : Bool} : ∃ x, (b5 b1 b2 b3 b4 c5 ++ [D.str []])[0]? = some (.str x) := by cases b1 <;> cases b2 <;> cases b3 <;> cases b4 <;> cases c5 <;> exact ⟨_, rfl⟩
def hdD (l : List D) : D := (l ++ [D.str []])[0]?.getD .non
theorem bar_of_e {k : Nat} {s : Sta} {h r f : Int} {x : Tx} {a b l : Int} (hs : StaOk s) (H : DtOk h r f) (hx : TxOk x) (ha : 0 ≤ a ∧ a ≤ 4294967295) (hb : 0 ≤ b ∧ b ≤ 4294967295) (hl : 0 ≤ l ∧ l ≤ 6000) :
    runF PG (k + 8) 100 [.val (staD s), .val (dtD h r f), .val (x.sd (sl2 a b)), .val (.int l)] = .ok (false, hdD (barL s f x (isRight x.u x.sum a b) l), []) := by
  apply wp_eq
  have l5 : (barL s f x (isRight x.u x.sum a b) l).length ≤ 5 := b5_len
  have hh : ∃ z, (barL s f x (isRight x.u x.sum a b) l ++ [D.str []])[0]? = some (.str z) := b5_hd
  unfold hdD
  rw [run_bar_of]; unfold B_bar_of_2; walk_at "w"
  rw [need_all_e hs H hx ha hb hl]; walk_at "w"
  unfold B_bar_of_1; walk_at "w"
  have e : runF PG (k + 7) 96 [.val (staD s), .val (dtD h r f), .val (x.sd (sl2 a b)), .val (.int l)] = .ok (false, ((barL s f x (isRight x.u x.sum a b) l) ++ [D.str []])[0]?.getD .non, []) := by
    apply wp_eq
    rw [run_bar_in]; walk_at "w"
    rw [bars_in_e hs hx]; walk_at "w"
    obtain ⟨z, hz⟩ := hh
    refine ⟨by rw [sizeL_v]; omega, ?_⟩
    rw [hz]; walk_at "w"
    rfl
  rw [e]; walk_at "w"
end KK

set_option Elab.async false
set_option linter.all false
set_option maxRecDepth 100000
set_option maxHeartbeats 4000000
set_option exponentiation.threshold 10000
namespace KK
open DL
local macro_rules | `(tactic| walk_at "w") => `(tactic| try simp -implicitDefEqProofs only [↓wp_and, ↓wp_or, ↓wp_ite, ↓wp_chain, ↓wp_not, ↓wp_neg, ↓fl_iff, ↓fl_for, ↓fl_while, wp_evT, onB_bl, onI_int, Bool.not_eq_true', Bool.not_eq_false', Bool.not_not,  fdivOk_s, fdivOk_b, fmod_nn, fdiv_nn, mulOk_r, mulOk_l, Int.reduceNeg, Int.reduceAdd, Int.reduceSub, Int.reduceMul, Int.reducePow, Int.reduceToNat, Int.reduceLE, Int.reduceLT, Int.reduceEq, Int.reduceNe, Int.reduceAbs, Nat.reducePow, Nat.reduceLT, Nat.reduceLeDiff, Nat.reduceAdd, Nat.reduceMul, decide_true, decide_false, and_self, ne_eq, not_true_eq_false, not_false_eq_true, eqv_int, eqv_bl, eqv_str, flat_int, flat_bl, flat_non, flat_str, Option.map_some, ss_cons, ss_nil,  fl_of, fl_nx, fl_rt, fl_ct, fl_exc, fl_bad, wp_bind, wp_ok, wp_exc, wp_bad, wp_some, wp_none, wp_if, wp_ite_ok, evE_c, evE_v, evE_tup, evE_lst, evE_bin, evE_cmp, evE_sub, evE_slice, evE_rev, evE_call, evE_callv, evE_bi, evE_meth, evE_isi, evE_lamc, evE_dic, evE_kd, evE_kget, evE_so, pk_kd, pk_kget, bi_repr_n, bi_repr_i, bi_len_s, pk_so, bi_len_d, bi_lst_d, bi_dic, bi_sort_i, bi_sort_d, bi_sort_0, me_get2, meok_get, meok_ix, sub_d, key_int, cm_in_d, cm_ni_d, put_d, eqv_ac, eqv_ac0, eqv_sto, eqv_sta, exS_set, exS_setT, exS_asgT, exS_app, exS_put, exS_expr, exS_ret, exS_retN, exS_pass, forL_nil_w, compW_nil, turnW, exS_cont, exS_raise, evEs, evPs, evAs, evO, evCs, evI, evT, evR, evOs, lk, pk_v, pk_c, pk_tup, pk_lst, pk_bin, pk_neg, pk_cmp, pk_chain, pk_and, pk_or, pk_not, pk_ite, pk_sub, pk_slice, pk_rev, pk_call, pk_callv, pk_bi, pk_meth, pk_isi, pk_comp, pk_lamc, pk_dic, E.quiet, Es.quiet, mkAs, backAs, As.lends, slOf, outsE, Rs.opt_some, Rs.bind_ok, Rs.bind_bad, Rs.bind_exc, Fl.of_ok, Fl.of_exc, Fl.of_bad,
  putS_e, isPut_sl, isPut_val, isPut_own, isPut_no, eq_self, List.getElem?_cons_zero, List.getElem?_cons_succ, List.set_cons_zero, List.set_cons_succ, List.getElem?_nil, List.set_nil, Bool.and_true, Bool.true_and, Bool.and_false, Bool.false_and, Bool.or_true, Bool.or_false, if_true, if_false, ite_true, ite_false, Bool.false_eq_true, reduceIte, 
  cmF, subF, isiF, isiD, optI, op_add_i, op_add_l, op_add_t, op_add_s, op_sub_i, op_mul_i, op_mul_l, op_mul_t, op_fdiv_i, op_mod_i, op_pow_i, op_shl_i, op_shr_i, op_band_i, op_bor_i, op_bxor_i, sub_t, sub_l, idx_0, idx_1, idx_nat, cm_eq, cm_ne, cm_lt, cm_le, cm_gt, cm_ge, cm_in_t, cm_in_l, cm_ni_t, cm_ni_l, cm_is_bb, cm_isn_bb, cm_is_nn, cm_isn_nn, cm_is_in, cm_isn_in, cm_is_tn, cm_isn_tn, cm_is_sn, cm_isn_sn, bi_len_t, bi_len_l, bi_abs, bi_int, bi_intb, bi_all_map, bi_any, bi_sum, bi_max, bi_min, bi_tup_t, bi_tup_l, bi_lst_t, bi_lst_l, bi_lst_f, sl_t, sl_l, rev_l, op_ots, flat_ots, eqv_ots, idx_m1, idx_2, idx_3, idx_4, idx_5, idx_6, idx_7, idx_8, idx_9, idx_10, idx_11, idx_12, idx_13, idx_14, idx_15, idx_16, idx_17, idx_18, idx_19, Option.map_some, Option.map_none, Option.some.injEq, Bool.not_true, Bool.not_false, List.contains_nil, List.contains_cons, List.map_cons, List.map_nil, List.length_cons, List.length_nil, true_implies, false_implies, and_true, true_and, Bool.true_eq_false, Bool.false_eq_true, decide_eq_true_eq, decide_eq_false_iff_not, isL, isC, appS, putI, put_0, put_1, hide_g, hideO_val, hideO_own, hideO_lnt, hideO_no, octs_len, List.length_append, eqv_l00, eqv_t00, backE, List.getD_cons_zero, List.getD_cons_succ, le_sizeL, lt_sizeL, Nat.zero_le, D.bl.injEq,  items_t, items_l, List.filterMap_nil, List.isEmpty_nil, bindT, bindNs, putNs, putOs, wipeE])
local macro_rules | `(tactic| walk_at "c") => `(tactic| try simp -implicitDefEqProofs only [cut, cutIx, D.items, List.cons_append, List.nil_append, List.append_nil, List.length_cons, List.length_nil, List.take_succ_cons, List.drop_succ_cons, List.take_zero, List.drop_zero, List.take_nil, List.drop_nil, List.length_append, Nat.reduceAdd, Nat.reduceSub, Nat.reduceMul, Nat.reduceLT, Nat.reduceLeDiff, Int.reduceLT, Int.reduceLE, Int.reduceToNat, Int.reduceNeg, Int.reduceAdd, Nat.min_self, Nat.sub_zero, Nat.zero_add, ite_false, ite_true, if_true, if_false, reduceIte, Int.cast_ofNat_Int, Nat.min_def])
/-! ### the law's own -/
theorem roll_w {k : Nat} {c : D} {m : Int} {Q : Bool × D × List D → Prop} {X : Ex → Prop} (hc : Cup c) (h0 : 0 < m) (h1 : m < 1073741824) (q : ∀ r c', Cup c' → 0 ≤ r → r < m → Q (false, .int r, [c'])) : (runF PG (k + 1) 12 [.lent c, .val (.int m)]).wp Q X := by
  obtain ⟨a, b, rfl, ha, hb, hb2⟩ := hc.ex
  rw [run_law_roll]; unfold B_law_roll_7; walk_at "w"
  have hd := fdivOk_s h0 h1
  have hm : m ≠ 0 := by omega
  have hm0 : 0 ≤ m := by omega
  refine ⟨fun hp => ?_, fun hp => ?_⟩
  · unfold B_law_roll_3 B_law_roll_2 B_law_roll_1; walk_at "w"
    refine ⟨hm, hd, ?_⟩
    rw [fmod_nn hm0, fdiv_nn hm0]
    exact q _ _ ⟨_, _, rfl, Int.ediv_nonneg ha hm0, hb, hb2⟩ (Int.emod_nonneg _ hm) (Int.emod_lt_of_pos _ h0)
  · unfold B_law_roll_6 B_law_roll_5 B_law_roll_4; walk_at "w"
    have b1 : 0 ≤ (b * 31121 + 8059) % 2147483543 := Int.emod_nonneg _ (by decide)
    have b2 : (b * 31121 + 8059) % 2147483543 < 2147483543 := Int.emod_lt_of_pos _ (by decide)
    generalize (b * 31121 + 8059) % 2147483543 = b' at b1 b2
    refine ⟨mulOk_s (by omega), hm, ?_⟩
    rw [fmod_nn hm0]
    exact q _ _ ⟨_, _, rfl, ha, b1, by omega⟩ (Int.emod_nonneg _ hm) (Int.emod_lt_of_pos _ h0)
theorem idx_roll {xs : List D} {r : Int} (h0 : 0 ≤ r) (h1 : r < xs.length) : ∃ x, idx xs r = some x ∧ x ∈ xs := by
  have hi : r.toNat < xs.length := by omega
  exact ⟨xs[r.toNat], by simp [idx, h0, hi], List.getElem_mem hi⟩
theorem some_w {k : Nat} {c : D} {xs : List D} {Q : Bool × D × List D → Prop} {X : Ex → Prop} (hc : Cup c) (h0 : xs ≠ []) (h1 : xs.length < 1073741824) (q : ∀ x c', Cup c' → x ∈ xs → Q (false, x, [c'])) : (runF PG (k + 2) 13 [.lent c, .val (.lst xs)]).wp Q X := by
  rw [run_law_some]; walk_at "w"
  have hl : 0 < xs.length := List.length_pos_iff.mpr h0
  refine roll_w hc (by omega) (by omega) fun r c' hc' r0 r1 => ?_
  walk_at "w"
  obtain ⟨x, hx, hm⟩ := idx_roll r0 r1
  rw [hx]; walk_at "w"
  exact q _ _ hc' hm
theorem cup_w {k : Nat} {ns : List Int} {Q : Bool × D × List D → Prop} {X : Ex → Prop} (hl : ns.length ≤ 63) (q : ∀ c, Cup c → Q (true, c, [])) : (runF PG (k + 1) 11 [.val (.frz (ns.map D.int))]).wp Q X := by
  rw [run_law_cup]; unfold B_law_cup_2; walk_at "w"
  refine ⟨by rw [List.length_map, sizeL_v]; omega, ?_⟩
  obtain ⟨x, hx⟩ : ∃ x : Int, (ns.map D.int ++ [.int 0])[0]? = some (.int x) := by
    cases ns with
    | nil => exact ⟨0, by simp⟩
    | cons n ns => exact ⟨n, by simp⟩
  rw [hx]; unfold B_law_cup_1; walk_at "w"
  have habs : ∃ y : Int, (if x < 0 then -x else x) = y ∧ 0 ≤ y := ⟨_, rfl, by split <;> omega⟩
  obtain ⟨y, hy, y0⟩ := habs
  rw [hy]
  refine ⟨fun _ => q _ ⟨_, _, rfl, by omega, by omega, by omega⟩, fun _ => q _ ⟨_, _, rfl, by omega, by omega, by omega⟩⟩
theorem turnW_imp {call : Nat → List Arg → Rs (Bool × D × List D)} {hand : Nat → Rs D → Rs D} {e : E} {t : Tg} {cs : Es} {x : D} {ε : En} {K K' : Option D → En → Prop} {X : Ex → Prop} (h : turnW call hand e t cs x ε K X) (q : ∀ r ε3, K r ε3 → K' r ε3) : turnW call hand e t cs x ε K' X := by
  unfold turnW at *
  exact wp_imp h (fun ε3 h => wp_imp h (fun r h => ⟨fun e => wp_imp (h.1 e) (fun _ h => q _ _ h) (fun _ h => h), fun e => q _ _ (h.2 e)⟩) fun _ h => h) fun _ h => h
/-- an invariant of a comprehension's turns -/
theorem compW_inv {call : Nat → List Arg → Rs (Bool × D × List D)} {hand : Nat → Rs D → Rs D} {e : E} {t : Tg} {cs : Es} {vs : List Nat} {ε1 : En} {Q : Bool × D × En → Prop} (Inv : List D → List D → En → Prop) {all : List D}
    (ht : ∀ ys ds x ε2, (∃ zs, all = ys ++ x :: zs) → Inv ys ds ε2 → turnW call hand e t cs x (wipeE ε2 vs) (fun r ε3 => Inv (ys ++ [x]) (match r with | some d => ds ++ [d] | none => ds) ε3) (fun _ => False))
    (hq : ∀ ds ε2, Inv all ds ε2 → ds.length ≤ sizeL ∧ Q (true, .lst ds, backE ε1 ε2 vs)) : ∀ (zs ys ds : List D) (ε2 : En), all = ys ++ zs → Inv ys ds ε2 → compW call hand e t cs vs ε1 Q zs ds ε2
  | [], ys, ds, ε2, e, h => by
    rw [List.append_nil] at e; subst e
    rw [compW_nil]; exact hq _ _ h
  | x :: zs, ys, ds, ε2, e, h => by
    rw [compW_cons]
    exact turnW_imp (ht ys ds x ε2 ⟨zs, e⟩ h) fun r ε3 h3 => compW_inv Inv ht hq zs (ys ++ [x]) _ ε3 (by rw [e]; simp) h3
/-! ### the law's scenes -/
theorem some_ints {k : Nat} {c : D} {l : List Int} {Q : Bool × D × List D → Prop} {X : Ex → Prop} (hc : Cup c) (h0 : l ≠ []) (h1 : l.length < 1073741824) (q : ∀ x c', Cup c' → x ∈ l → Q (false, .int x, [c'])) : (runF PG (k + 2) 13 [.lent c, .val (.lst (l.map D.int))]).wp Q X := by
  refine some_w hc (by simpa using h0) (by rw [List.length_map]; exact h1) fun x c' hc' hm => ?_
  obtain ⟨z, hz, rfl⟩ := List.mem_map.mp hm
  exact q z c' hc' hz
structure Ocs (n : Nat) (cs : List Int) : Prop where
  l : cs.length ≤ n
  o : ∀ o ∈ cs, 0 ≤ o ∧ o ≤ 255
theorem Ocs.app {m n : Nat} {a b : List Int} (h : Ocs m a) (g : Ocs n b) : Ocs (m + n) (a ++ b) := ⟨by rw [List.length_append]; have := h.l; have := g.l; omega, fun o ho => by
  rcases List.mem_append.mp ho with z | z
  · exact h.o o z
  · exact g.o o z⟩
theorem Ocs.mono {m n : Nat} {a : List Int} (h : Ocs m a) (l : m ≤ n) : Ocs n a := ⟨Nat.le_trans h.l l, h.o⟩
theorem Ocs.nil {n : Nat} : Ocs n [] := ⟨Nat.zero_le _, fun _ h => absurd h List.not_mem_nil⟩
theorem law_code_w {k : Nat} {c : D} {m : Int} {Q : Bool × D × List D → Prop} {X : Ex → Prop} (hc : Cup c) (h0 : 0 ≤ m) (h1 : m ≤ 8) (q : ∀ cs c', Cup c' → Ocs 60 cs → Q (false, ots cs, [c'])) : (runF PG (k + 3) 101 [.lent c, .val (.int m)]).wp Q X := by
  rw [run_law_code]; unfold B_law_code_14; walk_at "w"
  unfold B_law_code_13; walk_at "w"
  have hl : (rangeD 0 m).length ≤ 8 := by simp [rangeD]; omega
  refine ⟨by omega, for_w (fun ys ε => ∃ (c' : D) (cs : List Int) (o3 o4 o5 : Option D), ε = [.lnt c', .val (.int m), .val (ots cs), sl o3, sl o4, sl o5] ∧ Cup c' ∧ Ocs (5 * ys.length) cs) ⟨c, [], none, none, none, rfl, hc, Ocs.nil⟩ ?_ ?_⟩
  · rintro ys x ε2 ⟨zs, hz⟩ ⟨c', cs, o3, o4, o5, rfl, hc', hcs⟩
    have hy : ys.length < 8 := by have := congrArg List.length hz; simp at this; omega
    have hln := hcs.l
    walk_at "w"
    unfold B_law_code_11; walk_at "w"
    with_reducible refine roll_w hc' (by decide) (by decide) fun w c1 hc1 w0 w1 => ?_
    walk_at "w"
    unfold B_law_code_10; walk_at "w"
    rw [show [D.int 0, D.int 1, D.int 2, D.int 3, D.int 5, D.int 200] = ([0, 1, 2, 3, 5, 200] : List Int).map D.int from rfl]
    with_reducible refine some_ints hc1 (by decide) (by decide) fun z c2 hc2 hz2 => ?_
    walk_at "w"
    have hz3 : 0 ≤ z ∧ z ≤ 255 := by
      simp only [List.mem_cons, List.not_mem_nil, or_false] at hz2
      omega
    have o2 : Ocs 2 [1, z] := ⟨by simp, fun o ho => by simp only [List.mem_cons, List.not_mem_nil, or_false] at ho; omega⟩
    have fin : ∀ (c' : D) (add : List Int), Cup c' → Ocs 5 add → ∃ (c'' : D) (ds : List Int) (o3 o4 o5 : Option D), ([.lnt c', .val (.int m), .val (ots (cs ++ add)), .val x, .val (.int w), .val (ots [1, z])] : En) = [.lnt c'', .val (.int m), .val (ots ds), sl o3, sl o4, sl o5] ∧ Cup c'' ∧ Ocs (5 * (ys.length + 1)) ds := fun c' add hc ha => by
      refine ⟨c', cs ++ add, some x, some (.int w), some (ots [1, z]), rfl, hc, ?_⟩
      rw [Nat.mul_add]
      exact hcs.app ha
    rw [show D.tup [.int 1, .int z] = ots [1, z] from rfl]; walk_at "w"
    unfold B_law_code_9; walk_at "w"
    refine ⟨fun h1 => ?_, fun h1 => ?_⟩
    · unfold B_law_code_1; walk_at "w"
      exact ⟨by rw [sizeL_v]; omega, fin c2 _ hc2 (o2.mono (by omega))⟩
    unfold B_law_code_8; walk_at "w"
    refine ⟨fun h2 => ?_, fun h2 => ?_⟩
    · unfold B_law_code_2; walk_at "w"
      with_reducible refine roll_w hc2 (by decide) (by decide) fun a c3 hc3 a0 a1 => ?_
      walk_at "w"
      rw [show D.tup [.int 1, .int a, .int 26] = ots [1, a, 26] from rfl]; walk_at "w"
      exact ⟨by rw [sizeL_v]; omega, fin c3 [1, a, 26] hc3 ⟨by simp, fun o ho => by simp only [List.mem_cons, List.not_mem_nil, or_false] at ho; omega⟩⟩
    unfold B_law_code_7; walk_at "w"
    refine ⟨fun h2 => ?_, fun h2 => ?_⟩
    · unfold B_law_code_3; walk_at "w"
      refine ⟨by rw [sizeL_v]; omega, ?_⟩
      with_reducible refine roll_w hc2 (by decide) (by decide) fun a c3 hc3 a0 a1 => ?_
      walk_at "w"
      rw [show D.tup [.int 1, .int a, .int 27] = ots [1, a, 27] from rfl]; walk_at "w"
      refine ⟨by rw [sizeL_v]; omega, ?_⟩
      rw [List.append_assoc]
      exact fin c3 ([1, z] ++ [1, a, 27]) hc3 ⟨by simp, fun o ho => by simp only [List.mem_append, List.mem_cons, List.not_mem_nil, or_false] at ho; omega⟩
    unfold B_law_code_6; walk_at "w"
    refine ⟨fun h2 => ?_, fun h2 => ?_⟩
    · unfold B_law_code_4; walk_at "w"
      refine ⟨by rw [sizeL_v]; omega, ?_⟩
      rw [show D.tup [.int 1, .int 9, .int 43] = ots [1, 9, 43] from rfl]; walk_at "w"
      refine ⟨by rw [sizeL_v]; omega, ?_⟩
      rw [List.append_assoc]
      exact fin c2 ([1, z] ++ [1, 9, 43]) hc2 ⟨by simp, fun o ho => by simp only [List.mem_append, List.mem_cons, List.not_mem_nil, or_false] at ho; omega⟩
    · unfold B_law_code_5; walk_at "w"
      rw [show [D.int 10, D.int 13, D.int 31, D.int 10] = ([10, 13, 31, 10] : List Int).map D.int from rfl]
      with_reducible refine some_ints hc2 (by decide) (by decide) fun a c3 hc3 ha => ?_
      walk_at "w"
      rw [show D.tup [.int a] = ots [a] from rfl]; walk_at "w"
      exact ⟨by rw [sizeL_v]; omega, fin c3 [a] hc3 ⟨by simp, fun o ho => by simp only [List.mem_cons, List.not_mem_nil, or_false] at ho ha; omega⟩⟩
  · rintro ε2 ⟨c', cs, o3, o4, o5, rfl, hc', hcs⟩
    have hln := hcs.l
    unfold B_law_code_12; walk_at "w"
    with_reducible refine some_w hc' (by simp) (by simp) fun x c2 hc2 hm => ?_
    obtain ⟨l, rfl, hl2⟩ : ∃ l, x = ots l ∧ Ocs 3 l := by
      have hm : x ∈ ([[], [0], [1, 0, 48], [1, 1, 48], [1, 0, 49], [1, 0, 49], [1, 7, 48]] : List (List Int)).map ots := hm
      obtain ⟨l, hl, rfl⟩ := List.mem_map.mp hm
      refine ⟨l, rfl, ?_⟩
      simp only [List.mem_cons, List.not_mem_nil, or_false] at hl
      rcases hl with rfl | rfl | rfl | rfl | rfl | rfl | rfl <;> exact ⟨by decide, by decide⟩
    walk_at "w"
    have := hl2.l
    refine ⟨by rw [sizeL_v]; omega, q _ _ hc2 ((hcs.app hl2).mono (by omega))⟩
theorem law_least_e {k : Nat} {x : Tx} {r : List D} : runF PG (k + 1) 102 [.val (x.rd r)] = .ok (false, .int x.least, []) := by
  apply wp_eq
  rw [run_law_least]; walk_at "w"
  refine ⟨fun h => by simp [Tx.least, h], fun h => by simp [Tx.least, h]⟩
end KK

set_option Elab.async false
set_option linter.all false
set_option maxRecDepth 100000
set_option maxHeartbeats 4000000
set_option exponentiation.threshold 10000
namespace KK
open DL
local macro_rules | `(tactic| walk_at "w") => `(tactic| try simp -implicitDefEqProofs only [↓wp_and, ↓wp_or, ↓wp_ite, ↓wp_chain, ↓wp_not, ↓wp_neg, ↓fl_iff, ↓fl_for, ↓fl_while, wp_evT, onB_bl, onI_int, Bool.not_eq_true', Bool.not_eq_false', Bool.not_not,  fdivOk_s, fdivOk_b, fmod_nn, fdiv_nn, mulOk_r, mulOk_l, Int.reduceNeg, Int.reduceAdd, Int.reduceSub, Int.reduceMul, Int.reducePow, Int.reduceToNat, Int.reduceLE, Int.reduceLT, Int.reduceEq, Int.reduceNe, Int.reduceAbs, Nat.reducePow, Nat.reduceLT, Nat.reduceLeDiff, Nat.reduceAdd, Nat.reduceMul, decide_true, decide_false, and_self, ne_eq, not_true_eq_false, not_false_eq_true, eqv_int, eqv_bl, eqv_str, flat_int, flat_bl, flat_non, flat_str, Option.map_some, ss_cons, ss_nil,  fl_of, fl_nx, fl_rt, fl_ct, fl_exc, fl_bad, wp_bind, wp_ok, wp_exc, wp_bad, wp_some, wp_none, wp_if, wp_ite_ok, evE_c, evE_v, evE_tup, evE_lst, evE_bin, evE_cmp, evE_sub, evE_slice, evE_rev, evE_call, evE_callv, evE_bi, evE_meth, evE_isi, evE_lamc, evE_dic, evE_kd, evE_kget, evE_so, pk_kd, pk_kget, bi_repr_n, bi_repr_i, bi_len_s, pk_so, bi_len_d, bi_lst_d, bi_dic, bi_sort_i, bi_sort_d, bi_sort_0, me_get2, meok_get, meok_ix, sub_d, key_int, cm_in_d, cm_ni_d, put_d, eqv_ac, eqv_ac0, eqv_sto, eqv_sta, exS_set, exS_setT, exS_asgT, exS_app, exS_put, exS_expr, exS_ret, exS_retN, exS_pass, forL_nil_w, compW_nil, turnW, exS_cont, exS_raise, evEs, evPs, evAs, evO, evCs, evI, evT, evR, evOs, lk, pk_v, pk_c, pk_tup, pk_lst, pk_bin, pk_neg, pk_cmp, pk_chain, pk_and, pk_or, pk_not, pk_ite, pk_sub, pk_slice, pk_rev, pk_call, pk_callv, pk_bi, pk_meth, pk_isi, pk_comp, pk_lamc, pk_dic, E.quiet, Es.quiet, mkAs, backAs, As.lends, slOf, outsE, Rs.opt_some, Rs.bind_ok, Rs.bind_bad, Rs.bind_exc, Fl.of_ok, Fl.of_exc, Fl.of_bad,
  putS_e, isPut_sl, isPut_val, isPut_own, isPut_no, eq_self, List.getElem?_cons_zero, List.getElem?_cons_succ, List.set_cons_zero, List.set_cons_succ, List.getElem?_nil, List.set_nil, Bool.and_true, Bool.true_and, Bool.and_false, Bool.false_and, Bool.or_true, Bool.or_false, if_true, if_false, ite_true, ite_false, Bool.false_eq_true, reduceIte, 
  cmF, subF, isiF, isiD, optI, op_add_i, op_add_l, op_add_t, op_add_s, op_sub_i, op_mul_i, op_mul_l, op_mul_t, op_fdiv_i, op_mod_i, op_pow_i, op_shl_i, op_shr_i, op_band_i, op_bor_i, op_bxor_i, sub_t, sub_l, idx_0, idx_1, idx_nat, cm_eq, cm_ne, cm_lt, cm_le, cm_gt, cm_ge, cm_in_t, cm_in_l, cm_ni_t, cm_ni_l, cm_is_bb, cm_isn_bb, cm_is_nn, cm_isn_nn, cm_is_in, cm_isn_in, cm_is_tn, cm_isn_tn, cm_is_sn, cm_isn_sn, bi_len_t, bi_len_l, bi_abs, bi_int, bi_intb, bi_all_map, bi_any, bi_sum, bi_max, bi_min, bi_tup_t, bi_tup_l, bi_lst_t, bi_lst_l, bi_lst_f, sl_t, sl_l, rev_l, op_ots, flat_ots, eqv_ots, idx_m1, idx_2, idx_3, idx_4, idx_5, idx_6, idx_7, idx_8, idx_9, idx_10, idx_11, idx_12, idx_13, idx_14, idx_15, idx_16, idx_17, idx_18, idx_19, Option.map_some, Option.map_none, Option.some.injEq, Bool.not_true, Bool.not_false, List.contains_nil, List.contains_cons, List.map_cons, List.map_nil, List.length_cons, List.length_nil, true_implies, false_implies, and_true, true_and, Bool.true_eq_false, Bool.false_eq_true, decide_eq_true_eq, decide_eq_false_iff_not, isL, isC, appS, putI, put_0, put_1, hide_g, hideO_val, hideO_own, hideO_lnt, hideO_no, octs_len, List.length_append, eqv_l00, eqv_t00, backE, List.getD_cons_zero, List.getD_cons_succ, le_sizeL, lt_sizeL, Nat.zero_le, D.bl.injEq,  items_t, items_l, List.filterMap_nil, List.isEmpty_nil, bindT, bindNs, putNs, putOs, wipeE])
local macro_rules | `(tactic| walk_at "c") => `(tactic| try simp -implicitDefEqProofs only [cut, cutIx, D.items, List.cons_append, List.nil_append, List.append_nil, List.length_cons, List.length_nil, List.take_succ_cons, List.drop_succ_cons, List.take_zero, List.drop_zero, List.take_nil, List.drop_nil, List.length_append, Nat.reduceAdd, Nat.reduceSub, Nat.reduceMul, Nat.reduceLT, Nat.reduceLeDiff, Int.reduceLT, Int.reduceLE, Int.reduceToNat, Int.reduceNeg, Int.reduceAdd, Nat.min_self, Nat.sub_zero, Nat.zero_add, ite_false, ite_true, if_true, if_false, reduceIte, Int.cast_ofNat_Int, Nat.min_def])
structure ScOk (s : Sta) : Prop where
  ok : StaOk s
  len : s.length ≤ 5
  n : ∀ p ∈ s, p.2.n ≤ 2
theorem ScOk.acc {s : Sta} (h : ScOk s) (a : Int) : 0 ≤ (acc s a).n ∧ (acc s a).n ≤ 2 := by
  unfold DL.acc
  cases e : lkp s a with
  | none => exact ⟨by decide, by decide⟩
  | some c => exact ⟨(h.ok.ac _ (lkp_mem e)).n.1, h.n _ (lkp_mem e)⟩
def uAc (n b : Int) : Ac := ⟨n, b, [], []⟩
theorem uAc_ok {n b : Int} (hn : 0 ≤ n ∧ n ≤ 2) (hb : 0 ≤ b ∧ b ≤ 1000000) : AcOk (uAc n b) := ⟨⟨hn.1, by show n ≤ _; omega⟩, ⟨hb.1, by show b ≤ _; omega⟩, by simp [uAc], fun _ h => by simp [uAc] at h, E0_ok.s⟩
theorem uAc_ne {n b : Int} (hb : 0 < b) : uAc n b ≠ E0 := fun e => by
  have : b = 0 := congrArg Ac.b e
  omega
theorem law_scene_w {k : Nat} {c : D} {Q : Bool × D × List D → Prop} {X : Ex → Prop} (hc : Cup c) (q : ∀ s h r f c', Cup c' → ScOk s → DtOk h r f → f ≤ 10 → Q (false, .tup [staD s, dtD h r f], [c'])) : (runF PG (k + 4) 103 [.lent c]).wp Q X := by
  rw [run_law_scene]; unfold B_law_scene_5; walk_at "w"
  with_reducible refine comp_w ?_
  walk_at "w"
  rw [show rangeD 0 3 = [.int 0, .int 1, .int 2] from rfl]
  unfold C_law_scene_1
  have bal : ∀ x : Int, x ∈ ([9000, 60000, 1000000] : List Int) → 0 < x ∧ x ≤ 1000000 := by decide
  rw [compW_cons]; walk_at "w"
  with_reducible refine roll_w hc (by decide) (by decide) fun n1 c1 hc1 n10 n11 => ?_
  walk_at "w"
  rw [show [D.int 9000, D.int 60000, D.int 1000000] = ([9000, 60000, 1000000] : List Int).map D.int from rfl]
  with_reducible refine some_ints hc1 (by decide) (by decide) fun b1 c2 hc2 hb1 => ?_
  walk_at "w"
  rw [compW_cons]; walk_at "w"
  with_reducible refine roll_w hc2 (by decide) (by decide) fun n2 c3 hc3 n20 n21 => ?_
  walk_at "w"
  rw [show [D.int 9000, D.int 60000, D.int 1000000] = ([9000, 60000, 1000000] : List Int).map D.int from rfl]
  with_reducible refine some_ints hc3 (by decide) (by decide) fun b2 c4 hc4 hb2 => ?_
  walk_at "w"
  rw [compW_cons]; walk_at "w"
  with_reducible refine roll_w hc4 (by decide) (by decide) fun n3 c5 hc5 n30 n31 => ?_
  walk_at "w"
  rw [show [D.int 9000, D.int 60000, D.int 1000000] = ([9000, 60000, 1000000] : List Int).map D.int from rfl]
  with_reducible refine some_ints hc5 (by decide) (by decide) fun b3 c6 hc6 hb3 => ?_
  walk_at "w"
  have hb1 := bal _ hb1
  have hb2 := bal _ hb2
  have hb3 := bal _ hb3
  unfold B_law_scene_4; walk_at "w"
  with_reducible refine some_w hc6 (by simp) (by simp) fun st c7 hc7 hst => ?_
  obtain ⟨so, rfl, hso⟩ : ∃ so, st = stoD so ∧ StoOk so := by
    have hst : st ∈ ([[], [(1, 5)], [(0, -1), (2, 7)]] : List (List (Int × Int))).map stoD := hst
    obtain ⟨l, hl, rfl⟩ := List.mem_map.mp hst
    refine ⟨l, rfl, ?_⟩
    simp only [List.mem_cons, List.not_mem_nil, or_false] at hl
    rcases hl with rfl | rfl | rfl
    · exact E0_ok.s
    · exact ⟨by decide, by simp [Asc], by decide, by decide⟩
    · exact ⟨by decide, by simp [Asc], by decide, by decide⟩
  walk_at "w"
  unfold B_law_scene_3; walk_at "w"
  with_reducible refine roll_w hc7 (by decide) (by decide) fun b4 c8 hc8 b40 b41 => ?_
  walk_at "w"
  with_reducible refine roll_w hc8 (by decide) (by decide) fun m c9 hc9 m0 m1 => ?_
  walk_at "w"
  with_reducible refine law_code_w hc9 m0 (by omega) fun cs c10 hc10 hcs => ?_
  walk_at "w"
  unfold B_law_scene_2; walk_at "w"
  with_reducible refine roll_w hc10 (by decide) (by decide) fun b5 c11 hc11 b50 b51 => ?_
  walk_at "w"
  unfold B_law_scene_1; walk_at "w"
  with_reducible refine roll_w hc11 (by decide) (by decide) fun h c12 hc12 h0 h1 => ?_
  walk_at "w"
  with_reducible refine roll_w hc12 (by decide) (by decide) fun r c13 hc13 r0 r1 => ?_
  walk_at "w"
  rw [show [D.int 1, D.int 4, D.int 10] = ([1, 4, 10] : List Int).map D.int from rfl]
  with_reducible refine some_ints hc13 (by decide) (by decide) fun f c14 hc14 hf => ?_
  walk_at "w"
  have hf2 : 0 ≤ f ∧ f ≤ 10 := by
    simp only [List.mem_cons, List.not_mem_nil, or_false] at hf
    omega
  refine q [(1, uAc n1 b1), (2, uAc n2 b2), (3, uAc n3 b3), (700, ⟨1, b4, cs, so⟩), (701, uAc 0 (1 + b5))] (1 + h) (1 + r) f c14 hc14 ⟨⟨by simp, by simp [Asc], by simp, ?_, ?_⟩, by simp, ?_⟩ ⟨by omega, by omega, by omega⟩ hf2.2
  · simp only [List.mem_cons, List.not_mem_nil, or_false]
    rintro p (rfl | rfl | rfl | rfl | rfl)
    · exact uAc_ok (by omega) (by omega)
    · exact uAc_ok (by omega) (by omega)
    · exact uAc_ok (by omega) (by omega)
    · exact ⟨⟨by show (0 : Int) ≤ 1; decide, by show (1 : Int) ≤ _; decide⟩, ⟨b40, by show b4 ≤ _; omega⟩, by have := hcs.l; show cs.length ≤ 240; omega, hcs.o, hso⟩
    · exact uAc_ok (by omega) (by omega)
  · simp only [List.mem_cons, List.not_mem_nil, or_false]
    rintro p (rfl | rfl | rfl | rfl | rfl)
    · exact uAc_ne (by omega)
    · exact uAc_ne (by omega)
    · exact uAc_ne (by omega)
    · exact fun e => by cases (congrArg Ac.n e : (1 : Int) = 0)
    · exact uAc_ne (by omega)
  · simp only [List.mem_cons, List.not_mem_nil, or_false]
    rintro p (rfl | rfl | rfl | rfl | rfl)
    · show n1 ≤ 2; omega
    · show n2 ≤ 2; omega
    · show n3 ≤ 2; omega
    · show (1 : Int) ≤ 2; decide
    · show (0 : Int) ≤ 2; decide
structure TxL (m : Int) (x : Tx) : Prop where
  u : 0 ≤ x.u ∧ x.u ≤ 5
  n : 0 ≤ x.n ∧ x.n ≤ m
  t : 0 ≤ x.t ∧ x.t ≤ 65535
  v : 0 ≤ x.v ∧ x.v ≤ m
  g : 0 ≤ x.g ∧ x.g ≤ m
  p : 0 ≤ x.p ∧ x.p ≤ m
  wl : x.ws.length ≤ 6
  w : ∀ w ∈ x.ws, -9223372036854775808 ≤ w ∧ w ≤ 9223372036854775807
  cl : x.cs.length ≤ 240
  c : ∀ o ∈ x.cs, 0 ≤ o ∧ o ≤ 255
  z : x.t = 0 ∨ x.cs = []
theorem TxL.ok {m : Int} {x : Tx} (h : TxL m x) (hm : m ≤ 100000) : TxOk x := ⟨h.u, ⟨h.n.1, by have := h.n.2; omega⟩, h.t, ⟨h.v.1, by have := h.v.2; omega⟩, ⟨h.g.1, by have := h.g.2; omega⟩, ⟨h.p.1, by have := h.p.2; omega⟩, h.wl, h.w, h.cl, h.c, h.z⟩
theorem order5 {k : Nat} {c' : D} {s : Sta} {h r f u t : Int} {gs cs : List Int} {N C : En → Prop} {R : Bool → D → En → Prop} {X : Ex → Prop} (hc' : Cup c') (hs : ScOk s) (hf0 : 0 ≤ f) (hf : f ≤ 10) (u0 : 0 ≤ u) (u1 : u < 3) (ht2 : 0 ≤ t ∧ t ≤ 65535) (hcs : Ocs 60 cs) (hz : t = 0 ∨ cs = [])
    (q : ∀ x c' ε', Cup c' → TxL 30000 x → x.u ≤ 2 → R false x.pd (.lnt c' :: ε')) :
    (exSs (runF PG (k + 3)) (handP PG) PG.wf B_law_order_5 [.lnt c', .val (staD s), .val (dtD h r f), .val (.lst (gs.map D.int)), .val (.int u), .val (.int t), .val (ots cs), .no, .no, .no, .no, .no]).wp N C R X := by
  have hcl := hcs.l
  unfold B_law_order_5; walk_at "w"
  with_reducible refine comp_w ?_
  walk_at "w"
  rw [show [D.int 0, D.int 0, D.int 1, D.int 2] = ([0, 0, 1, 2] : List Int).map D.int from rfl]
  with_reducible refine some_ints hc' (by decide) (by decide) fun m c3 hc3 hm => ?_
  have hm2 : 0 ≤ m ∧ m ≤ 2 := by
    simp only [List.mem_cons, List.not_mem_nil, or_false] at hm
    omega
  walk_at "w"
  have hl : (rangeD 0 m).length ≤ 2 := by simp [rangeD]; omega
  refine ⟨by omega, ?_⟩
  refine compW_inv (fun ys ds ε => ∃ (c' : D) (ws : List Int) (s11 : Sl), ε = [.lnt c', .val (staD s), .val (dtD h r f), .val (.lst (gs.map D.int)), .val (.int u), .val (.int t), .val (ots cs), .no, .no, .no, .no, s11] ∧ Cup c' ∧ ds = ws.map D.int ∧ ws.length = ys.length ∧ ∀ w ∈ ws, 0 ≤ w ∧ w ≤ 9) (all := rangeD 0 m) ?_ ?_ _ [] [] _ rfl ⟨c3, [], _, rfl, hc3, rfl, rfl, fun _ h => absurd h List.not_mem_nil⟩
  · rintro ys ds x ε2 ⟨zs, hz⟩ ⟨c', ws, s11, rfl, hc', rfl, hn, hx⟩
    unfold C_law_order_1 turnW
    walk_at "w"
    with_reducible refine roll_w hc' (by decide) (by decide) fun w c4 hc4 w0 w1 => ?_
    walk_at "w"
    refine ⟨c4, ws ++ [w], _, rfl, hc4, by simp, by simp [hn], fun y hy => ?_⟩
    rcases List.mem_append.mp hy with z | z
    · exact hx y z
    · rw [List.mem_singleton] at z; omega
  · rintro ds ε2 ⟨c', ws, s11, rfl, hc', rfl, hn, hx⟩
    refine ⟨by rw [List.length_map, sizeL_v]; omega, ?_⟩
    walk_at "w"
    have hwl : ws.length ≤ 2 := by omega
    have fin : ∀ a : Int, 100 ≤ a → a ≤ 1000 → (exSs (runF PG (k + 3)) (handP PG) PG.wf B_law_order_3 [.lnt c', .val (staD s), .val (dtD h r f), .val (.lst (gs.map D.int)), .val (.int u), .val (.int t), .val (ots cs), .val (.tup (ws.map D.int)), .val (.int a), .no, .no, .no]).wp N C R X := by
      intro a a0 a1
      unfold B_law_order_3; walk_at "w"
      rw [show [D.int 0, D.int 5, D.int 30, D.int 200, D.int 400, D.int 800] = ([0, 5, 30, 200, 400, 800] : List Int).map D.int from rfl]
      with_reducible refine some_ints hc' (by decide) (by decide) fun g1 c4 hc4 hg1 => ?_
      have hg2 : 0 ≤ g1 ∧ g1 ≤ 800 := by
        simp only [List.mem_cons, List.not_mem_nil, or_false] at hg1
        omega
      walk_at "w"
      unfold B_law_order_2; walk_at "w"
      rw [show [D.int 0, D.int 1, D.int 3] = ([0, 1, 3] : List Int).map D.int from rfl]
      with_reducible refine some_ints hc4 (by decide) (by decide) fun p1 c5 hc5 hp1 => ?_
      have hp2 : 0 ≤ p1 ∧ p1 ≤ 3 := by
        simp only [List.mem_cons, List.not_mem_nil, or_false] at hp1
        omega
      walk_at "w"
      unfold B_law_order_1; walk_at "w"
      rw [law_account_e (by have := hs.len; omega)]; walk_at "w"
      have ha := hs.acc (u + 1)
      generalize acc s (u + 1) = A at ha
      rw [show acD A = .tup [.int A.n, .int A.b, ots A.c, stoD A.s] from rfl]
      walk_at "w"
      rw [show [D.int 0, D.int 1, D.int 50, D.int 400] = ([0, 1, 50, 400] : List Int).map D.int from rfl]
      with_reducible refine some_ints hc5 (by decide) (by decide) fun v1 c6 hc6 hv1 => ?_
      have hv2 : 0 ≤ v1 ∧ v1 ≤ 400 := by
        simp only [List.mem_cons, List.not_mem_nil, or_false] at hv1
        omega
      walk_at "w"
      exact q ⟨u, A.n, t, v1, a + g1, f + p1, ws, cs⟩ c6 _ hc6 ⟨⟨u0, by show u ≤ 5; omega⟩, ⟨ha.1, by show A.n ≤ _; omega⟩, ht2, ⟨hv2.1, by show v1 ≤ _; omega⟩, ⟨by show 0 ≤ a + g1; omega, by show a + g1 ≤ _; omega⟩, ⟨by show 0 ≤ f + p1; omega, by show f + p1 ≤ _; omega⟩, by show ws.length ≤ 6; omega, fun w hw => by have := hx w hw; omega, by show cs.length ≤ 240; omega, hcs.o, hz⟩ (by show u ≤ 2; omega)
    unfold B_law_order_4; walk_at "w"
    have hln := hcs.l
    refine ⟨fun h0 => ?_, fun h0 => ?_⟩
    · rw [show biD .len [ots cs] = some (false, .int cs.length) by unfold ots; rw [bi_len_t, List.length_map]]
      walk_at "w"
      with_reducible exact fin _ (by rw [List.length_map]; omega) (by rw [List.length_map]; omega)
    · with_reducible exact fin _ (by rw [List.length_map]; omega) (by rw [List.length_map]; omega)
theorem law_order_w {k : Nat} {c : D} {s : Sta} {h r f : Int} {gs : List Int} {Q : Bool × D × List D → Prop} {X : Ex → Prop} (hc : Cup c) (hs : ScOk s) (H : DtOk h r f) (hf : f ≤ 10) (hg0 : gs ≠ []) (hg1 : gs.length < 1000) (hg : ∀ g ∈ gs, 0 ≤ g ∧ g ≤ 65535)
    (q : ∀ x c', Cup c' → TxL 30000 x → x.u ≤ 2 → Q (false, x.pd, [c'])) : (runF PG (k + 4) 104 [.lent c, .val (staD s), .val (dtD h r f), .val (.lst (gs.map D.int))]).wp Q X := by
  have hf0 := H.f
  rw [run_law_order]; unfold B_law_order_7; walk_at "w"
  with_reducible refine roll_w hc (by decide) (by decide) fun u c1 hc1 u0 u1 => ?_
  walk_at "w"
  with_reducible refine some_ints hc1 hg0 (by omega) fun t c2 hc2 ht => ?_
  have ht2 := hg t ht
  walk_at "w"
  unfold B_law_order_6; walk_at "w"
  refine ⟨fun h0 => ?_, fun h0 => ?_⟩
  · with_reducible refine roll_w hc2 (by decide) (by decide) fun m c3 hc3 m0 m1 => ?_
    walk_at "w"
    with_reducible refine law_code_w hc3 m0 (by omega) fun cs c4 hc4 hcs => ?_
    walk_at "w"
    with_reducible refine order5 hc4 hs hf0.1 hf u0 u1 ht2 hcs (.inl h0) fun x c' ε' hc' hx hu => ?_
    walk_at "w"
    exact q x c' hc' hx hu
  · rw [show D.tup [] = ots [] from rfl]
    with_reducible refine order5 hc2 hs hf0.1 hf u0 u1 ht2 Ocs.nil (.inr rfl) fun x c' ε' hc' hx hu => ?_
    walk_at "w"
    exact q x c' hc' hx hu
end KK

set_option Elab.async false
set_option linter.all false
set_option maxRecDepth 100000
set_option maxHeartbeats 4000000
set_option exponentiation.threshold 10000
namespace KK
open DL
local macro_rules | `(tactic| walk_at "w") => `(tactic| try simp -implicitDefEqProofs only [↓wp_and, ↓wp_or, ↓wp_ite, ↓wp_chain, ↓wp_not, ↓wp_neg, ↓fl_iff, ↓fl_for, ↓fl_while, wp_evT, onB_bl, onI_int, Bool.not_eq_true', Bool.not_eq_false', Bool.not_not,  fdivOk_s, fdivOk_b, fmod_nn, fdiv_nn, mulOk_r, mulOk_l, Int.reduceNeg, Int.reduceAdd, Int.reduceSub, Int.reduceMul, Int.reducePow, Int.reduceToNat, Int.reduceLE, Int.reduceLT, Int.reduceEq, Int.reduceNe, Int.reduceAbs, Nat.reducePow, Nat.reduceLT, Nat.reduceLeDiff, Nat.reduceAdd, Nat.reduceMul, decide_true, decide_false, and_self, ne_eq, not_true_eq_false, not_false_eq_true, eqv_int, eqv_bl, eqv_str, flat_int, flat_bl, flat_non, flat_str, Option.map_some, ss_cons, ss_nil,  fl_of, fl_nx, fl_rt, fl_ct, fl_exc, fl_bad, wp_bind, wp_ok, wp_exc, wp_bad, wp_some, wp_none, wp_if, wp_ite_ok, evE_c, evE_v, evE_tup, evE_lst, evE_bin, evE_cmp, evE_sub, evE_slice, evE_rev, evE_call, evE_callv, evE_bi, evE_meth, evE_isi, evE_lamc, evE_dic, evE_kd, evE_kget, evE_so, pk_kd, pk_kget, bi_repr_n, bi_repr_i, bi_len_s, pk_so, bi_len_d, bi_lst_d, bi_dic, bi_sort_i, bi_sort_d, bi_sort_0, me_get2, meok_get, meok_ix, sub_d, key_int, cm_in_d, cm_ni_d, put_d, eqv_ac, eqv_ac0, eqv_sto, eqv_sta, exS_set, exS_setT, exS_asgT, exS_app, exS_put, exS_expr, exS_ret, exS_retN, exS_pass, forL_nil_w, compW_nil, turnW, exS_cont, exS_raise, evEs, evPs, evAs, evO, evCs, evI, evT, evR, evOs, lk, pk_v, pk_c, pk_tup, pk_lst, pk_bin, pk_neg, pk_cmp, pk_chain, pk_and, pk_or, pk_not, pk_ite, pk_sub, pk_slice, pk_rev, pk_call, pk_callv, pk_bi, pk_meth, pk_isi, pk_comp, pk_lamc, pk_dic, E.quiet, Es.quiet, mkAs, backAs, As.lends, slOf, outsE, Rs.opt_some, Rs.bind_ok, Rs.bind_bad, Rs.bind_exc, Fl.of_ok, Fl.of_exc, Fl.of_bad,
  putS_e, isPut_sl, isPut_val, isPut_own, isPut_no, eq_self, List.getElem?_cons_zero, List.getElem?_cons_succ, List.set_cons_zero, List.set_cons_succ, List.getElem?_nil, List.set_nil, Bool.and_true, Bool.true_and, Bool.and_false, Bool.false_and, Bool.or_true, Bool.or_false, if_true, if_false, ite_true, ite_false, Bool.false_eq_true, reduceIte, 
  cmF, subF, isiF, isiD, optI, op_add_i, op_add_l, op_add_t, op_add_s, op_sub_i, op_mul_i, op_mul_l, op_mul_t, op_fdiv_i, op_mod_i, op_pow_i, op_shl_i, op_shr_i, op_band_i, op_bor_i, op_bxor_i, sub_t, sub_l, idx_0, idx_1, idx_nat, cm_eq, cm_ne, cm_lt, cm_le, cm_gt, cm_ge, cm_in_t, cm_in_l, cm_ni_t, cm_ni_l, cm_is_bb, cm_isn_bb, cm_is_nn, cm_isn_nn, cm_is_in, cm_isn_in, cm_is_tn, cm_isn_tn, cm_is_sn, cm_isn_sn, bi_len_t, bi_len_l, bi_abs, bi_int, bi_intb, bi_all_map, bi_any, bi_sum, bi_max, bi_min, bi_tup_t, bi_tup_l, bi_lst_t, bi_lst_l, bi_lst_f, sl_t, sl_l, rev_l, op_ots, flat_ots, eqv_ots, idx_m1, idx_2, idx_3, idx_4, idx_5, idx_6, idx_7, idx_8, idx_9, idx_10, idx_11, idx_12, idx_13, idx_14, idx_15, idx_16, idx_17, idx_18, idx_19, Option.map_some, Option.map_none, Option.some.injEq, Bool.not_true, Bool.not_false, List.contains_nil, List.contains_cons, List.map_cons, List.map_nil, List.length_cons, List.length_nil, true_implies, false_implies, and_true, true_and, Bool.true_eq_false, Bool.false_eq_true, decide_eq_true_eq, decide_eq_false_iff_not, isL, isC, appS, putI, put_0, put_1, hide_g, hideO_val, hideO_own, hideO_lnt, hideO_no, octs_len, List.length_append, eqv_l00, eqv_t00, backE, List.getD_cons_zero, List.getD_cons_succ, le_sizeL, lt_sizeL, Nat.zero_le, D.bl.injEq,  items_t, items_l, List.filterMap_nil, List.isEmpty_nil, bindT, bindNs, putNs, putOs, wipeE])
local macro_rules | `(tactic| walk_at "c") => `(tactic| try simp -implicitDefEqProofs only [cut, cutIx, D.items, List.cons_append, List.nil_append, List.append_nil, List.length_cons, List.length_nil, List.take_succ_cons, List.drop_succ_cons, List.take_zero, List.drop_zero, List.take_nil, List.drop_nil, List.length_append, Nat.reduceAdd, Nat.reduceSub, Nat.reduceMul, Nat.reduceLT, Nat.reduceLeDiff, Int.reduceLT, Int.reduceLE, Int.reduceToNat, Int.reduceNeg, Int.reduceAdd, Nat.min_self, Nat.sub_zero, Nat.zero_add, ite_false, ite_true, if_true, if_false, reduceIte, Int.cast_ofNat_Int, Nat.min_def])
theorem wp_law {r : Rs (Bool × D × List D)} (h : r.wp (fun r => r.2.1 = .bl true) (fun _ => False)) : ∃ w outs, r = .ok (w, .bl true, outs) := by
  cases r with
  | ok a => obtain ⟨w, d, outs⟩ := a; exact ⟨w, outs, by rw [show d = .bl true from h]⟩
  | exc x => exact h.elim
  | bad => exact h.elim
def isT : Fl → Bool
  | .rt _ (.bl true) _ => true
  | _ => false
theorem wp_isT {f : Fl} {N C : En → Prop} {R : Bool → D → En → Prop} {X : Ex → Prop} (h : isT f = true) (q : ∀ o ε, R o (.bl true) ε) : f.wp N C R X := by
  unfold isT at h
  split at h
  · exact q _ _
  · cases h
/-! ### bits of words -/
theorem and_not_nat {m n : Nat} (hm : m < 2 ^ 64) (hn : n < 2 ^ 64) : (m &&& (2 ^ 64 - 1 - n)) + (m &&& n) = m := by
  have e : (BitVec.ofNat 64 m &&& ~~~ BitVec.ofNat 64 n) + (BitVec.ofNat 64 m &&& BitVec.ofNat 64 n) = BitVec.ofNat 64 m := by
    rw [BitVec.add_eq_or_of_and_eq_zero]
    · apply BitVec.eq_of_getLsbD_eq
      intro i hi
      simp only [BitVec.getLsbD_or, BitVec.getLsbD_and, BitVec.getLsbD_not]
      cases (BitVec.ofNat 64 m).getLsbD i <;> cases (BitVec.ofNat 64 n).getLsbD i <;> simp [hi]
    · apply BitVec.eq_of_getLsbD_eq
      intro i hi
      simp only [BitVec.getLsbD_and, BitVec.getLsbD_not, BitVec.getLsbD_zero]
      cases (BitVec.ofNat 64 m).getLsbD i <;> cases (BitVec.ofNat 64 n).getLsbD i <;> simp [hi]
  have f := congrArg BitVec.toNat e
  rw [BitVec.toNat_add, BitVec.toNat_and, BitVec.toNat_and, BitVec.toNat_not, BitVec.toNat_ofNat, BitVec.toNat_ofNat, Nat.mod_eq_of_lt hm, Nat.mod_eq_of_lt hn] at f
  have h1 : m &&& (2 ^ 64 - 1 - n) ≤ m := Nat.and_le_left
  have h2 : m &&& n ≤ m := Nat.and_le_left
  have h3 : (m &&& (2 ^ 64 - 1 - n)) + (m &&& n) < 2 ^ 65 := by omega
  generalize (m &&& (2 ^ 64 - 1 - n)) = x at *
  generalize (m &&& n) = y at *
  omega
theorem not_and_nat {m n : Nat} (hm : m < 2 ^ 64) (hn : n < 2 ^ 64) : ((2 ^ 64 - 1 - m) &&& (2 ^ 64 - 1 - n)) = 2 ^ 64 - 1 - (m ||| n) := by
  have e : (~~~ BitVec.ofNat 64 m &&& ~~~ BitVec.ofNat 64 n) = ~~~ (BitVec.ofNat 64 m ||| BitVec.ofNat 64 n) := by
    apply BitVec.eq_of_getLsbD_eq
    intro i hi
    simp only [BitVec.getLsbD_or, BitVec.getLsbD_and, BitVec.getLsbD_not]
    cases (BitVec.ofNat 64 m).getLsbD i <;> cases (BitVec.ofNat 64 n).getLsbD i <;> simp [hi]
  have f := congrArg BitVec.toNat e
  rw [BitVec.toNat_and, BitVec.toNat_not, BitVec.toNat_not, BitVec.toNat_not, BitVec.toNat_or, BitVec.toNat_ofNat, BitVec.toNat_ofNat, Nat.mod_eq_of_lt hm, Nat.mod_eq_of_lt hn] at f
  exact f
theorem or_and_nat {m n : Nat} (hm : m < 2 ^ 64) (hn : n < 2 ^ 64) : (m ||| n) + (m &&& n) = m + n := by
  have a := and_not_nat hm hn
  have b := @and_not_nat (2 ^ 64 - 1 - n) m (by omega) hm
  rw [Nat.and_comm (2 ^ 64 - 1 - n) m] at b
  have c := @not_and_nat n m hn hm
  have d : m ||| n < 2 ^ 64 := Nat.or_lt_two_pow hm hn
  rw [Nat.or_comm n m] at c
  rw [c] at b
  generalize (m ||| n) = x at *
  generalize (m &&& n) = y at *
  generalize (m &&& (2 ^ 64 - 1 - n)) = z at *
  omega
def Wd (a : Int) : Prop := -9223372036854775808 ≤ a ∧ a ≤ 9223372036854775807
theorem wr_id {a : Int} (h : Wd a) : wr a = a := by obtain ⟨h1, h2⟩ := h; unfold wr; omega
theorem wr_wd (a : Int) : Wd (wr a) := ⟨wr_lo a, by have := wr_hi a; omega⟩
open PySem.Builtin in
theorem band_pp {m n : Nat} : bitAnd m n = (m &&& n : Nat) := by
  unfold bitAnd
  have h1 : decide ((0 : Int) ≤ m) = true := by simp
  have h2 : decide ((0 : Int) ≤ n) = true := by simp
  rw [h1, h2]; rfl
open PySem.Builtin in
theorem band_pn {m n : Nat} : bitAnd m (-1 - n) = m - (m &&& n : Nat) := by
  unfold bitAnd
  have h1 : decide ((0 : Int) ≤ m) = true := by simp
  have h2 : decide ((0 : Int) ≤ -1 - n) = false := by simp; omega
  rw [h1, h2]; unfold bitNot
  show (m : Int) - ((m : Int).toNat &&& (-(-1 - (n : Int)) - 1).toNat : Nat) = _
  rw [show (-(-1 - (n : Int)) - 1).toNat = n by omega]; rfl
open PySem.Builtin in
theorem band_np {m n : Nat} : bitAnd (-1 - m) n = n - (n &&& m : Nat) := by
  unfold bitAnd
  have h1 : decide ((0 : Int) ≤ n) = true := by simp
  have h2 : decide ((0 : Int) ≤ -1 - m) = false := by simp; omega
  rw [h1, h2]; unfold bitNot
  show (n : Int) - ((n : Int).toNat &&& (-(-1 - (m : Int)) - 1).toNat : Nat) = _
  rw [show (-(-1 - (m : Int)) - 1).toNat = m by omega]; rfl
open PySem.Builtin in
theorem band_nn {m n : Nat} : bitAnd (-1 - m) (-1 - n) = -1 - (m ||| n : Nat) := by
  unfold bitAnd
  have h1 : decide ((0 : Int) ≤ -1 - n) = false := by simp; omega
  have h2 : decide ((0 : Int) ≤ -1 - m) = false := by simp; omega
  rw [h1, h2]; unfold bitNot
  show -(((-(-1 - (m : Int)) - 1).toNat ||| (-(-1 - (n : Int)) - 1).toNat : Nat) : Int) - 1 = _
  rw [show (-(-1 - (m : Int)) - 1).toNat = m by omega, show (-(-1 - (n : Int)) - 1).toNat = n by omega]; omega
open PySem.Builtin in
theorem bor_e {a b : Int} : bitOr a b = -1 - bitAnd (-1 - a) (-1 - b) := by
  unfold bitOr bitNot
  rw [show -a - 1 = -1 - a by omega, show -b - 1 = -1 - b by omega]; omega
theorem int_sgn (a : Int) : (∃ m : Nat, a = m) ∨ (∃ m : Nat, a = -1 - m) := by
  by_cases h : 0 ≤ a
  · exact .inl ⟨a.toNat, by omega⟩
  · exact .inr ⟨(-1 - a).toNat, by omega⟩
open PySem.Builtin in
theorem wr_bits {a b : Int} (ha : Wd a) (hb : Wd b) : wr (bitAnd (a % 18446744073709551616) (b % 18446744073709551616)) = bitAnd a b ∧ wr (bitOr (a % 18446744073709551616) (b % 18446744073709551616)) = bitOr a b ∧ wr (bitXor (a % 18446744073709551616) (b % 18446744073709551616)) = bitXor a b := by
  obtain ⟨a1, a2⟩ := ha
  obtain ⟨b1, b2⟩ := hb
  rcases int_sgn a with ⟨m, rfl⟩ | ⟨m, rfl⟩ <;> rcases int_sgn b with ⟨n, rfl⟩ | ⟨n, rfl⟩
  · have hm : m < 2 ^ 63 := by omega
    have hn : n < 2 ^ 63 := by omega
    have e1 : ((m : Int) % 18446744073709551616) = m := by omega
    have e2 : ((n : Int) % 18446744073709551616) = n := by omega
    rw [e1, e2]
    have o1 := @or_and_nat m n (by omega) (by omega)
    have o2 : m ||| n < 2 ^ 63 := Nat.or_lt_two_pow hm hn
    have o3 : m &&& n ≤ m := Nat.and_le_left
    unfold bitXor
    rw [bor_e, band_nn, band_pp]
    unfold wr
    generalize (m ||| n) = x at *
    generalize (m &&& n) = y at *
    omega
  · have hm : m < 2 ^ 63 := by omega
    have hn : n < 2 ^ 63 := by omega
    have e1 : ((m : Int) % 18446744073709551616) = m := by omega
    have e2 : ((-1 - (n : Int)) % 18446744073709551616) = ((2 ^ 64 - 1 - n : Nat) : Int) := by omega
    rw [e1, e2]
    have o1 := @or_and_nat m n (by omega) (by omega)
    have o2 : m ||| n < 2 ^ 63 := Nat.or_lt_two_pow hm hn
    have o3 : m &&& n ≤ m := Nat.and_le_left
    have o4 : m &&& n ≤ n := Nat.and_le_right
    have o5 := @and_not_nat m n (by omega) (by omega)
    have o6 := @or_and_nat m (2 ^ 64 - 1 - n) (by omega) (by omega)
    unfold bitXor
    rw [bor_e, bor_e, band_nn, band_pp, show -1 - (-1 - (n : Int)) = n by omega, band_np, band_pn]
    unfold wr
    rw [Nat.and_comm n m]
    generalize (m ||| n) = x at *
    generalize (m &&& n) = y at *
    generalize (m &&& (2 ^ 64 - 1 - n)) = z at *
    generalize (m ||| (2 ^ 64 - 1 - n)) = w at *
    omega
  · have hm : m < 2 ^ 63 := by omega
    have hn : n < 2 ^ 63 := by omega
    have e1 : ((n : Int) % 18446744073709551616) = n := by omega
    have e2 : ((-1 - (m : Int)) % 18446744073709551616) = ((2 ^ 64 - 1 - m : Nat) : Int) := by omega
    rw [e1, e2]
    have o1 := @or_and_nat n m (by omega) (by omega)
    have o2 : n ||| m < 2 ^ 63 := Nat.or_lt_two_pow hn hm
    have o3 : n &&& m ≤ n := Nat.and_le_left
    have o4 : n &&& m ≤ m := Nat.and_le_right
    have o5 := @and_not_nat n m (by omega) (by omega)
    have o6 := @or_and_nat n (2 ^ 64 - 1 - m) (by omega) (by omega)
    unfold bitXor
    rw [bor_e, bor_e, band_nn, band_pp, show -1 - (-1 - (m : Int)) = m by omega, band_np, band_pn]
    unfold wr
    rw [Nat.and_comm (2 ^ 64 - 1 - m) n, Nat.or_comm (2 ^ 64 - 1 - m) n, Nat.and_comm m n]
    generalize (n ||| m) = x at *
    generalize (n &&& m) = y at *
    generalize (n &&& (2 ^ 64 - 1 - m)) = z at *
    generalize (n ||| (2 ^ 64 - 1 - m)) = w at *
    omega
  · have hm : m < 2 ^ 63 := by omega
    have hn : n < 2 ^ 63 := by omega
    have e1 : ((-1 - (n : Int)) % 18446744073709551616) = ((2 ^ 64 - 1 - n : Nat) : Int) := by omega
    have e2 : ((-1 - (m : Int)) % 18446744073709551616) = ((2 ^ 64 - 1 - m : Nat) : Int) := by omega
    rw [e1, e2]
    have o1 := @or_and_nat m n (by omega) (by omega)
    have o2 : m ||| n < 2 ^ 63 := Nat.or_lt_two_pow hm hn
    have o3 : m &&& n ≤ n := Nat.and_le_right
    have o4 : m &&& n ≤ m := Nat.and_le_left
    have o5 := @not_and_nat m n (by omega) (by omega)
    have o6 := @or_and_nat (2 ^ 64 - 1 - m) (2 ^ 64 - 1 - n) (by omega) (by omega)
    unfold bitXor
    rw [bor_e, bor_e, band_nn, band_pp, show -1 - (-1 - (m : Int)) = m by omega, show -1 - (-1 - (n : Int)) = n by omega, band_pp, band_nn]
    unfold wr
    rw [o5] at o6 ⊢
    generalize (m ||| n) = x at *
    generalize (m &&& n) = y at *
    generalize ((2 ^ 64 - 1 - m) ||| (2 ^ 64 - 1 - n)) = w at *
    omega
theorem wr_shl {a : Int} {p : Int} : wr (a % 18446744073709551616 * p) = wr (a * p) := by
  unfold wr
  have e : a * p = a % 18446744073709551616 * p + 18446744073709551616 * (a / 18446744073709551616 * p) := by
    conv => lhs; rw [← Int.emod_add_mul_ediv a 18446744073709551616]
    rw [Int.add_mul, Int.mul_assoc]
  rw [e]
  generalize a % 18446744073709551616 * p = x
  generalize a / 18446744073709551616 * p = y
  omega
theorem b5_5 {b1 b2 b3 b4 : Bool} : b5 b1 b2 b3 b4 true ++ [D.str [103, 97, 115]] = b5 b1 b2 b3 b4 false := by cases b1 <;> cases b2 <;> cases b3 <;> cases b4 <;> rfl
theorem b5_4 {b1 b2 b3 : Bool} : b5 b1 b2 b3 true true ++ [D.str [109, 111, 110, 101, 121]] = b5 b1 b2 b3 false true := by cases b1 <;> cases b2 <;> cases b3 <;> rfl
theorem law_bars_e {k : Nat} {s : Sta} {h r f : Int} {x : Tx} {sd : D} {l : Int} {b : Bool} (hs : s.length ≤ 1000) (hx : TxOk x) : runF PG (k + 2) 105 [.val (staD s), .val (dtD h r f), .val (x.sd sd), .val (.int l), .val (.bl b)] = .ok (false, .tup (barL s f x b l), []) := by
  apply wp_eq
  have hg := hx.g
  have hp := hx.p
  rw [run_law_bars]; unfold B_law_bars_5; walk_at "w"
  rw [law_account_e hs]; walk_at "w"
  unfold barL
  generalize acc s (x.u + 1) = A
  rw [show acD A = .tup [.int A.n, .int A.b, ots A.c, stoD A.s] from rfl]
  walk_at "w"
  have fin4 : ∀ (L : List D) (b1 b2 b3 b4 : Bool), L = b5 b1 b2 b3 b4 true → (exSs (runF PG (k + 1)) (handP PG) PG.wf B_law_bars_1 [.val (staD s), .val (dtD h r f), .val (x.sd sd), .val (.int l), .val (.bl b), .val (.int A.n), .val (.int A.b), .val (ots A.c), .val (stoD A.s), .own (.lst L)]).wp (fun ε => (false, D.non, ([] : List D)) = (false, D.tup (b5 b1 b2 b3 b4 (decide (x.least ≤ x.g) && decide (x.g ≤ l))), [])) (fun _ => False) (fun o d ε => (o, d, ([] : List D)) = (false, D.tup (b5 b1 b2 b3 b4 (decide (x.least ≤ x.g) && decide (x.g ≤ l))), [])) (fun _ => False) := by
    intro L b1 b2 b3 b4 hL
    have ln : L.length ≤ 4 := by rw [hL]; cases b1 <;> cases b2 <;> cases b3 <;> cases b4 <;> decide
    unfold B_law_bars_1; walk_at "w"
    rw [law_least_e (r := [sd])]; walk_at "w"
    refine ⟨fun h1 => ⟨by rw [sizeL_v]; omega, ?_⟩, fun h1 => ⟨fun h2 => ⟨by rw [sizeL_v]; omega, ?_⟩, fun h2 => ⟨by rw [sizeL_v]; omega, ?_⟩⟩⟩
    · rw [show (decide (x.least ≤ x.g) && decide (x.g ≤ l)) = false by simp; omega, hL, b5_5]
    · rw [show (decide (x.least ≤ x.g) && decide (x.g ≤ l)) = false by simp; omega, hL, b5_5]
    · rw [show (decide (x.least ≤ x.g) && decide (x.g ≤ l)) = true by simp; omega, hL, List.append_nil]
  have fin3 : ∀ (L : List D) (b1 b2 b3 : Bool), L = b5 b1 b2 b3 true true → (exSs (runF PG (k + 1)) (handP PG) PG.wf B_law_bars_2 [.val (staD s), .val (dtD h r f), .val (x.sd sd), .val (.int l), .val (.bl b), .val (.int A.n), .val (.int A.b), .val (ots A.c), .val (stoD A.s), .own (.lst L)]).wp (fun ε => (false, D.non, ([] : List D)) = (false, D.tup (b5 b1 b2 b3 (decide (x.v + x.g * x.p ≤ A.b)) (decide (x.least ≤ x.g) && decide (x.g ≤ l))), [])) (fun _ => False) (fun o d ε => (o, d, ([] : List D)) = (false, D.tup (b5 b1 b2 b3 (decide (x.v + x.g * x.p ≤ A.b)) (decide (x.least ≤ x.g) && decide (x.g ≤ l))), [])) (fun _ => False) := by
    intro L b1 b2 b3 hL
    have ln : L.length ≤ 3 := by rw [hL]; cases b1 <;> cases b2 <;> cases b3 <;> decide
    unfold B_law_bars_2; walk_at "w"
    refine ⟨mulOk_s (.inl (by omega)), fun h1 => ⟨by rw [sizeL_v]; omega, ?_⟩, fun h1 => ⟨by rw [sizeL_v]; omega, ?_⟩⟩
    · rw [show decide (x.v + x.g * x.p ≤ A.b) = false by simp; omega]
      with_reducible exact fin4 _ b1 b2 b3 false (by rw [hL, b5_4])
    · rw [show decide (x.v + x.g * x.p ≤ A.b) = true by simp; omega]
      with_reducible exact fin4 _ b1 b2 b3 true (by rw [hL, List.append_nil])
  unfold B_law_bars_4; walk_at "w"
  refine ⟨fun hb => ?_, fun hb => ?_⟩ <;> subst hb
  · unfold B_law_bars_3; walk_at "w"
    refine ⟨fun h1 => ⟨fun h2 => ?_, fun h2 => ?_⟩, fun h1 => ⟨fun h2 => ?_, fun h2 => ?_⟩⟩
    · rw [show decide (x.n = A.n) = false by simp [h1], show decide (f ≤ x.p) = false by simp; omega]
      with_reducible exact fin3 _ true false false rfl
    · rw [show decide (x.n = A.n) = false by simp [h1], show decide (f ≤ x.p) = true by simp; omega]
      with_reducible exact fin3 _ true false true rfl
    · rw [show decide (x.n = A.n) = true by simp [h1], show decide (f ≤ x.p) = false by simp; omega]
      with_reducible exact fin3 _ true true false rfl
    · rw [show decide (x.n = A.n) = true by simp [h1], show decide (f ≤ x.p) = true by simp; omega]
      with_reducible exact fin3 _ true true true rfl
  · unfold B_law_bars_3; walk_at "w"
    refine ⟨fun h1 => ⟨fun h2 => ?_, fun h2 => ?_⟩, fun h1 => ⟨fun h2 => ?_, fun h2 => ?_⟩⟩
    · rw [show decide (x.n = A.n) = false by simp [h1], show decide (f ≤ x.p) = false by simp; omega]
      with_reducible exact fin3 _ false false false rfl
    · rw [show decide (x.n = A.n) = false by simp [h1], show decide (f ≤ x.p) = true by simp; omega]
      with_reducible exact fin3 _ false false true rfl
    · rw [show decide (x.n = A.n) = true by simp [h1], show decide (f ≤ x.p) = false by simp; omega]
      with_reducible exact fin3 _ false true false rfl
    · rw [show decide (x.n = A.n) = true by simp [h1], show decide (f ≤ x.p) = true by simp; omega]
      with_reducible exact fin3 _ false true true rfl
/-! ### seals that are not right -/
open PySem.Builtin in
theorem bxor_1 {b : Int} (h : 0 ≤ b) (h2 : b < 4294967296) : bitXor b 1 = b + 1 - 2 * (b % 2) := by
  obtain ⟨m, rfl⟩ : ∃ m : Nat, b = m := ⟨b.toNat, by omega⟩
  have o := @or_and_nat m 1 (by omega) (by decide)
  have e : m &&& 1 = m % 2 := Nat.and_one_is_mod m
  unfold bitXor
  rw [bor_e, show (-1 - 1 : Int) = -1 - (1 : Nat) by rfl, band_nn, show (1 : Int) = ((1 : Nat) : Int) from rfl, band_pp, e]
  rw [e] at o
  generalize (m ||| 1) = x at *
  omega
theorem pwm_ne (n : Nat) : pwm 7 (n + 1) ≠ pwm 7 n := by
  intro e
  rw [pwm_add] at e
  have e1 : pwm 7 1 = 7 := by unfold pwm PR; decide
  have y0 := pwm_lo 7 n
  have y1 := pwm_hi 7 n
  have inv : pwm 7 n * pwm 7 (2147483646 * (n + 1) - n) % PR = 1 := by
    rw [← pwm_add, show n + (2147483646 * (n + 1) - n) = 2147483646 * (n + 1) by omega, pwm_mul, fermat, pwm_one]
  rw [e1] at e
  generalize pwm 7 n = y at *
  generalize pwm 7 (2147483646 * (n + 1) - n) = z at *
  unfold PR at e inv
  have q1 : ∃ q, 6 * y = 2147483647 * q := ⟨y * 7 / 2147483647, by omega⟩
  have q2 : ∃ r, y * z = 2147483647 * r + 1 := ⟨y * z / 2147483647, by have := Int.emod_add_mul_ediv (y * z) 2147483647; omega⟩
  obtain ⟨q, hq⟩ := q1
  obtain ⟨r, hr⟩ := q2
  have h : 6 * (y * z) = 2147483647 * (q * z) := by rw [← Int.mul_assoc, hq, Int.mul_assoc]
  generalize y * z = yz at *
  generalize q * z = qz at *
  omega
theorem isRight_x {u w a b : Int} (h : isRight u w a b = true) : isRight u w a (PySem.Builtin.bitXor b 1) = false := by
  cases h2 : isRight u w a (PySem.Builtin.bitXor b 1) with
  | false => rfl
  | true =>
    exfalso
    unfold isRight at h h2
    simp only [Bool.and_eq_true, decide_eq_true_eq] at h h2
    obtain ⟨⟨⟨⟨_, _⟩, b0⟩, b1⟩, e1⟩ := h
    obtain ⟨⟨⟨⟨_, _⟩, c0⟩, c1⟩, e2⟩ := h2
    rw [bxor_1 b0 (by omega)] at e2 c0 c1
    rw [← e1] at e2
    by_cases hp : b % 2 = 0
    · rw [hp, show (b + 1 - 2 * 0).toNat = b.toNat + 1 by omega] at e2
      exact pwm_ne _ e2
    · have : b % 2 = 1 := by omega
      rw [this, show b.toNat = (b + 1 - 2 * 1).toNat + 1 by omega] at e2
      exact pwm_ne _ e2.symm
end KK

set_option Elab.async false
set_option linter.all false
set_option maxRecDepth 100000
set_option maxHeartbeats 4000000
set_option exponentiation.threshold 10000
namespace KK
open DL
local macro_rules | `(tactic| walk_at "w") => `(tactic| try simp -implicitDefEqProofs only [↓wp_and, ↓wp_or, ↓wp_ite, ↓wp_chain, ↓wp_not, ↓wp_neg, ↓fl_iff, ↓fl_for, ↓fl_while, wp_evT, onB_bl, onI_int, Bool.not_eq_true', Bool.not_eq_false', Bool.not_not,  fdivOk_s, fdivOk_b, fmod_nn, fdiv_nn, mulOk_r, mulOk_l, Int.reduceNeg, Int.reduceAdd, Int.reduceSub, Int.reduceMul, Int.reducePow, Int.reduceToNat, Int.reduceLE, Int.reduceLT, Int.reduceEq, Int.reduceNe, Int.reduceAbs, Nat.reducePow, Nat.reduceLT, Nat.reduceLeDiff, Nat.reduceAdd, Nat.reduceMul, decide_true, decide_false, and_self, ne_eq, not_true_eq_false, not_false_eq_true, eqv_int, eqv_bl, eqv_str, flat_int, flat_bl, flat_non, flat_str, Option.map_some, ss_cons, ss_nil,  fl_of, fl_nx, fl_rt, fl_ct, fl_exc, fl_bad, wp_bind, wp_ok, wp_exc, wp_bad, wp_some, wp_none, wp_if, wp_ite_ok, evE_c, evE_v, evE_tup, evE_lst, evE_bin, evE_cmp, evE_sub, evE_slice, evE_rev, evE_call, evE_callv, evE_bi, evE_meth, evE_isi, evE_lamc, evE_dic, evE_kd, evE_kget, evE_so, pk_kd, pk_kget, bi_repr_n, bi_repr_i, bi_len_s, pk_so, bi_len_d, bi_lst_d, bi_dic, bi_sort_i, bi_sort_d, bi_sort_0, me_get2, meok_get, meok_ix, sub_d, key_int, cm_in_d, cm_ni_d, put_d, eqv_ac, eqv_ac0, eqv_sto, eqv_sta, exS_set, exS_setT, exS_asgT, exS_app, exS_put, exS_expr, exS_ret, exS_retN, exS_pass, forL_nil_w, compW_nil, turnW, exS_cont, exS_raise, evEs, evPs, evAs, evO, evCs, evI, evT, evR, evOs, lk, pk_v, pk_c, pk_tup, pk_lst, pk_bin, pk_neg, pk_cmp, pk_chain, pk_and, pk_or, pk_not, pk_ite, pk_sub, pk_slice, pk_rev, pk_call, pk_callv, pk_bi, pk_meth, pk_isi, pk_comp, pk_lamc, pk_dic, E.quiet, Es.quiet, mkAs, backAs, As.lends, slOf, outsE, Rs.opt_some, Rs.bind_ok, Rs.bind_bad, Rs.bind_exc, Fl.of_ok, Fl.of_exc, Fl.of_bad,
  putS_e, isPut_sl, isPut_val, isPut_own, isPut_no, eq_self, List.getElem?_cons_zero, List.getElem?_cons_succ, List.set_cons_zero, List.set_cons_succ, List.getElem?_nil, List.set_nil, Bool.and_true, Bool.true_and, Bool.and_false, Bool.false_and, Bool.or_true, Bool.or_false, if_true, if_false, ite_true, ite_false, Bool.false_eq_true, reduceIte, 
  cmF, subF, isiF, isiD, optI, op_add_i, op_add_l, op_add_t, op_add_s, op_sub_i, op_mul_i, op_mul_l, op_mul_t, op_fdiv_i, op_mod_i, op_pow_i, op_shl_i, op_shr_i, op_band_i, op_bor_i, op_bxor_i, sub_t, sub_l, idx_0, idx_1, idx_nat, cm_eq, cm_ne, cm_lt, cm_le, cm_gt, cm_ge, cm_in_t, cm_in_l, cm_ni_t, cm_ni_l, cm_is_bb, cm_isn_bb, cm_is_nn, cm_isn_nn, cm_is_in, cm_isn_in, cm_is_tn, cm_isn_tn, cm_is_sn, cm_isn_sn, bi_len_t, bi_len_l, bi_abs, bi_int, bi_intb, bi_all_map, bi_any, bi_sum, bi_max, bi_min, bi_tup_t, bi_tup_l, bi_lst_t, bi_lst_l, bi_lst_f, sl_t, sl_l, rev_l, op_ots, flat_ots, eqv_ots, idx_m1, idx_2, idx_3, idx_4, idx_5, idx_6, idx_7, idx_8, idx_9, idx_10, idx_11, idx_12, idx_13, idx_14, idx_15, idx_16, idx_17, idx_18, idx_19, Option.map_some, Option.map_none, Option.some.injEq, Bool.not_true, Bool.not_false, List.contains_nil, List.contains_cons, List.map_cons, List.map_nil, List.length_cons, List.length_nil, true_implies, false_implies, and_true, true_and, Bool.true_eq_false, Bool.false_eq_true, decide_eq_true_eq, decide_eq_false_iff_not, isL, isC, appS, putI, put_0, put_1, hide_g, hideO_val, hideO_own, hideO_lnt, hideO_no, octs_len, List.length_append, eqv_l00, eqv_t00, backE, List.getD_cons_zero, List.getD_cons_succ, le_sizeL, lt_sizeL, Nat.zero_le, D.bl.injEq,  items_t, items_l, List.filterMap_nil, List.isEmpty_nil, bindT, bindNs, putNs, putOs, wipeE])
local macro_rules | `(tactic| walk_at "c") => `(tactic| try simp -implicitDefEqProofs only [cut, cutIx, D.items, List.cons_append, List.nil_append, List.append_nil, List.length_cons, List.length_nil, List.take_succ_cons, List.drop_succ_cons, List.take_zero, List.drop_zero, List.take_nil, List.drop_nil, List.length_append, Nat.reduceAdd, Nat.reduceSub, Nat.reduceMul, Nat.reduceLT, Nat.reduceLeDiff, Int.reduceLT, Int.reduceLE, Int.reduceToNat, Int.reduceNeg, Int.reduceAdd, Nat.min_self, Nat.sub_zero, Nat.zero_add, ite_false, ite_true, if_true, if_false, reduceIte, Int.cast_ofNat_Int, Nat.min_def])
theorem barL_eqv {s : Sta} {f : Int} {x : Tx} {b : Bool} {l : Int} : D.eqv (.tup (barL s f x b l)) (.tup (barL s f x b l)) = some true := by
  unfold barL
  generalize decide (x.n = (acc s (x.u + 1)).n) = b2
  generalize decide (f ≤ x.p) = b3
  generalize decide (x.v + x.g * x.p ≤ (acc s (x.u + 1)).b) = b4
  generalize (decide (x.least ≤ x.g) && decide (x.g ≤ l)) = c5
  cases b <;> cases b2 <;> cases b3 <;> cases b4 <;> cases c5 <;> rfl
theorem barL_hd {s : Sta} {f : Int} {x : Tx} {b : Bool} {l : Int} : ∃ z, hdD (barL s f x b l) = .str z ∧ (barL s f x b l ++ [D.str []])[0]? = some (.str z) := by
  obtain ⟨z, hz⟩ : ∃ z, (barL s f x b l ++ [D.str []])[0]? = some (.str z) := b5_hd
  exact ⟨z, by unfold hdD; rw [hz]; rfl, hz⟩
theorem turn41 {s0 s4 : Sl} {s : Sta} {h r f : Int} {x : Tx} {a b l i : Int} {cd : D} {o6 o9 o10 o11 o12 o13 : Option D} {N C : En → Prop} {R : Bool → D → En → Prop} {X : Ex → Prop} (hc : Cup cd) (hs : ScOk s) (H : DtOk h r f) (hx : TxOk x) (hi : isRight x.u x.sum a b = decide (i = 0)) (ha : 0 ≤ a ∧ a ≤ 4294967295) (hb : 0 ≤ b ∧ b ≤ 4294967295) (hl : 0 ≤ l ∧ l ≤ 6000)
    (q : ∀ (a' b' : Int) (c' : D) (o9 o10 o11 o12 o13 : Option D), Cup c' → (a' = a ∧ b' = PySem.Builtin.bitXor b 1 ∨ a' = a ∧ b' = b + 2147483646 ∨ a' = a + 2147483647 ∧ b' = b) → N [s0, .own c', .val (staD s), .val (dtD h r f), s4, .val (.int i), sl o6, .val (x.sd (sl2 a' b')), .val (.int l), sl o9, sl o10, sl o11, sl o12, sl o13, .no, .no, .no, .no, .no, .no]) :
    (exSs (runF PG 12) (handP PG) PG.wf B_law_k41_8 [s0, .own cd, .val (staD s), .val (dtD h r f), s4, .val (.int i), sl o6, .val (x.sd (sl2 a b)), .val (.int l), sl o9, sl o10, sl o11, sl o12, sl o13, .no, .no, .no, .no, .no, .no]).wp N C R X := by
  unfold B_law_k41_8; walk_at "w"
  unfold B_law_k41_7; walk_at "w"
  rw [law_bars_e (k := 10) (by have := hs.len; omega) hx]; walk_at "w"
  unfold B_law_k41_6; walk_at "w"
  rw [bars_of_e (k := 4) hs.ok H hx ha hb hl, hi]; walk_at "w"
  unfold B_law_k41_5; walk_at "w"
  rw [barL_eqv]; walk_at "w"
  rw [bar_of_e (k := 4) hs.ok H hx ha hb hl, hi]; walk_at "w"
  obtain ⟨z, hz1, hz2⟩ := @barL_hd s f x (decide (i = 0)) l
  have l5 : (barL s f x (decide (i = 0)) l).length ≤ 5 := b5_len
  rw [hz1]; walk_at "w"
  refine ⟨by rw [sizeL_v]; omega, ?_⟩
  rw [hz2]; walk_at "w"
  rw [is_sealed_e (k := 6) hx ha hb, hi]; walk_at "w"
  unfold B_law_k41_4; walk_at "w"
  unfold B_law_k41_3; walk_at "w"
  have ecut : cut [D.int x.u, .int x.n, .int x.t, .int x.v, .int x.g, .int x.p, .tup (x.ws.map D.int), .tup (x.cs.map D.int), sl2 a b] none (some 8) = x.ds := rfl
  rw [ecut]
  with_reducible refine some_w hc (by simp) (by simp) fun y c1 hc1 hm => ?_
  obtain ⟨a', b', rfl, hab⟩ : ∃ a' b', y = sl2 a' b' ∧ (a' = a ∧ b' = PySem.Builtin.bitXor b 1 ∨ a' = a ∧ b' = b + 2147483646 ∨ a' = a + 2147483647 ∧ b' = b) := by
    simp only [List.mem_cons, List.not_mem_nil, or_false] at hm
    rcases hm with rfl | rfl | rfl | rfl
    · exact ⟨_, _, rfl, .inl ⟨rfl, rfl⟩⟩
    · exact ⟨_, _, rfl, .inl ⟨rfl, rfl⟩⟩
    · exact ⟨_, _, rfl, .inr (.inl ⟨rfl, rfl⟩)⟩
    · exact ⟨_, _, rfl, .inr (.inr ⟨rfl, rfl⟩)⟩
  walk_at "w"
  exact q a' b' c1 (some (.bl _)) (some (.tup _)) (some (.tup _)) (some (.int a)) (some (.int b)) hc1 hab
theorem turn41n {s0 s4 : Sl} {s : Sta} {h r f : Int} {x : Tx} {a b l i : Int} {cd : D} {o6 : Option D} {N C : En → Prop} {R : Bool → D → En → Prop} {X : Ex → Prop} (hc : Cup cd) (hs : ScOk s) (H : DtOk h r f) (hx : TxOk x) (hi : isRight x.u x.sum a b = decide (i = 0)) (ha : 0 ≤ a ∧ a ≤ 4294967295) (hb : 0 ≤ b ∧ b ≤ 4294967295) (hl : 0 ≤ l ∧ l ≤ 6000)
    (q : ∀ (a' b' : Int) (c' : D) (o9 o10 o11 o12 o13 : Option D), Cup c' → (a' = a ∧ b' = PySem.Builtin.bitXor b 1 ∨ a' = a ∧ b' = b + 2147483646 ∨ a' = a + 2147483647 ∧ b' = b) → N [s0, .own c', .val (staD s), .val (dtD h r f), s4, .val (.int i), sl o6, .val (x.sd (sl2 a' b')), .val (.int l), sl o9, sl o10, sl o11, sl o12, sl o13, .no, .no, .no, .no, .no, .no]) :
    (exSs (runF PG 12) (handP PG) PG.wf B_law_k41_8 [s0, .own cd, .val (staD s), .val (dtD h r f), s4, .val (.int i), sl o6, .val (x.sd (sl2 a b)), .val (.int l), .no, .no, .no, .no, .no, .no, .no, .no, .no, .no, .no]).wp N C R X :=
  turn41 (o9 := none) (o10 := none) (o11 := none) (o12 := none) (o13 := none) hc hs H hx hi ha hb hl q
theorem put_3 {a b c d v : D} {l : List D} : putD (.lst (a :: b :: c :: d :: l)) (.int 3) v = some (.lst (a :: b :: c :: v :: l)) := by
  have : ixN (a :: b :: c :: d :: l).length 3 = some 3 := by simp [ixN]; omega
  simp only [putD, this, Option.map_some]; rfl
theorem put_4 {a b c d e v : D} {l : List D} : putD (.lst (a :: b :: c :: d :: e :: l)) (.int 4) v = some (.lst (a :: b :: c :: d :: v :: l)) := by
  have : ixN (a :: b :: c :: d :: e :: l).length 4 = some 4 := by simp [ixN]; omega
  simp only [putD, this, Option.map_some]; rfl
theorem put_5 {a b c d e f v : D} {l : List D} : putD (.lst (a :: b :: c :: d :: e :: f :: l)) (.int 5) v = some (.lst (a :: b :: c :: d :: e :: v :: l)) := by
  have : ixN (a :: b :: c :: d :: e :: f :: l).length 5 = some 5 := by simp [ixN]; omega
  simp only [putD, this, Option.map_some]; rfl
theorem near41 {s0 s2 s3 s5 : Sl} {cd : D} {x : Tx} {m : Int} {o6 : Option D} {N C : En → Prop} {R : Bool → D → En → Prop} {X : Ex → Prop} (hc : Cup cd) (hx : TxL m x) (hm : 30000 ≤ m)
    (q : ∀ (x' : Tx) (c' : D) (o6 : Option D), Cup c' → TxL (m + 1) x' → N [s0, .own c', s2, s3, .own (.lst x'.ds), s5, sl o6, .no, .no, .no, .no, .no, .no, .no, .no, .no, .no, .no, .no, .no]) :
    (exSs (runF PG 12) (handP PG) PG.wf B_law_k41_2 [s0, .own cd, s2, s3, .own (.lst x.ds), s5, sl o6, .no, .no, .no, .no, .no, .no, .no, .no, .no, .no, .no, .no, .no]).wp N C R X := by
  unfold B_law_k41_2; walk_at "w"
  rw [show [D.int 1, D.int 3, D.int 4, D.int 5] = ([1, 3, 4, 5] : List Int).map D.int from rfl]
  with_reducible refine some_ints hc (by decide) (by decide) fun at_ c1 hc1 hat => ?_
  walk_at "w"
  unfold B_law_k41_1
  have hn := hx.n
  have hv := hx.v
  have hg := hx.g
  have hp := hx.p
  simp only [List.mem_cons, List.not_mem_nil, or_false] at hat
  have bound : ∀ z y : Int, 0 ≤ z ∧ z ≤ m → y ∈ [z + 1, z - 1, 0, 30000] → ∃ w, (if y > 0 then y else 0) = w ∧ 0 ≤ w ∧ w ≤ m + 1 := by
    intro z y hz hy
    simp only [List.mem_cons, List.not_mem_nil, or_false] at hy
    exact ⟨_, rfl, by split <;> omega, by split <;> omega⟩
  rcases hat with rfl | rfl | rfl | rfl
  · walk_at "w"
    rw [show [D.int (x.n + 1), D.int (x.n - 1), D.int 0, D.int 30000] = ([x.n + 1, x.n - 1, 0, 30000] : List Int).map D.int from rfl]
    with_reducible refine some_ints hc1 (by simp) (by simp) fun y c2 hc2 hy => ?_
    obtain ⟨w, hw, w0, w1⟩ := bound x.n y hn hy
    walk_at "w"
    rw [hw]
    
    exact q ⟨x.u, w, x.t, x.v, x.g, x.p, x.ws, x.cs⟩ c2 (some (.int 1)) hc2 ⟨hx.u, ⟨w0, w1⟩, hx.t, ⟨hv.1, by show x.v ≤ m + 1; omega⟩, ⟨hg.1, by show x.g ≤ m + 1; omega⟩, ⟨hp.1, by show x.p ≤ m + 1; omega⟩, hx.wl, hx.w, hx.cl, hx.c, hx.z⟩
  · walk_at "w"
    rw [show [D.int (x.v + 1), D.int (x.v - 1), D.int 0, D.int 30000] = ([x.v + 1, x.v - 1, 0, 30000] : List Int).map D.int from rfl]
    with_reducible refine some_ints hc1 (by simp) (by simp) fun y c2 hc2 hy => ?_
    obtain ⟨w, hw, w0, w1⟩ := bound x.v y hv hy
    walk_at "w"
    rw [hw]
    rw [put_3]; walk_at "w"
    exact q ⟨x.u, x.n, x.t, w, x.g, x.p, x.ws, x.cs⟩ c2 (some (.int 3)) hc2 ⟨hx.u, ⟨hn.1, by show x.n ≤ m + 1; omega⟩, hx.t, ⟨w0, w1⟩, ⟨hg.1, by show x.g ≤ m + 1; omega⟩, ⟨hp.1, by show x.p ≤ m + 1; omega⟩, hx.wl, hx.w, hx.cl, hx.c, hx.z⟩
  · walk_at "w"
    rw [show [D.int (x.g + 1), D.int (x.g - 1), D.int 0, D.int 30000] = ([x.g + 1, x.g - 1, 0, 30000] : List Int).map D.int from rfl]
    with_reducible refine some_ints hc1 (by simp) (by simp) fun y c2 hc2 hy => ?_
    obtain ⟨w, hw, w0, w1⟩ := bound x.g y hg hy
    walk_at "w"
    rw [hw]
    rw [put_4]; walk_at "w"
    exact q ⟨x.u, x.n, x.t, x.v, w, x.p, x.ws, x.cs⟩ c2 (some (.int 4)) hc2 ⟨hx.u, ⟨hn.1, by show x.n ≤ m + 1; omega⟩, hx.t, ⟨hv.1, by show x.v ≤ m + 1; omega⟩, ⟨w0, w1⟩, ⟨hp.1, by show x.p ≤ m + 1; omega⟩, hx.wl, hx.w, hx.cl, hx.c, hx.z⟩
  · walk_at "w"
    rw [show [D.int (x.p + 1), D.int (x.p - 1), D.int 0, D.int 30000] = ([x.p + 1, x.p - 1, 0, 30000] : List Int).map D.int from rfl]
    with_reducible refine some_ints hc1 (by simp) (by simp) fun y c2 hc2 hy => ?_
    obtain ⟨w, hw, w0, w1⟩ := bound x.p y hp hy
    walk_at "w"
    rw [hw]
    rw [put_5]; walk_at "w"
    exact q ⟨x.u, x.n, x.t, x.v, x.g, w, x.ws, x.cs⟩ c2 (some (.int 5)) hc2 ⟨hx.u, ⟨hn.1, by show x.n ≤ m + 1; omega⟩, hx.t, ⟨hv.1, by show x.v ≤ m + 1; omega⟩, ⟨hg.1, by show x.g ≤ m + 1; omega⟩, ⟨w0, w1⟩, hx.wl, hx.w, hx.cl, hx.c, hx.z⟩
theorem tail41 {s0 s1 s2 s4 s5 s6 s8 s9 s10 s11 s12 s13 : Sl} {d3 d7 : D} : isT (exSs (runF PG 12) (handP PG) PG.wf B_law_k41_20 [s0, s1, s2, .val d3, s4, s5, s6, .val d7, s8, s9, s10, s11, s12, s13, .no, .no, .no, .no, .no, .no]) = true := by
  kernel_rfl
def lawK : Nat := 12
theorem law_true : ∀ ns : List Int, ns.length ≤ 63 → (∀ z ∈ ns, PySem.Builtin.Int.intBits z ≤ 1048576) → ∃ w outs, runF PG (lawK + 1) R_law_k41.id [.val (.frz (ns.map D.int))] = .ok (w, .bl true, outs) := by
  intro ns hl _
  apply wp_law
  show (runF PG (12 + 1) 106 _).wp _ _
  rw [run_law_k41]; unfold B_law_k41_26; walk_at "w"
  with_reducible refine cup_w hl fun c hc => ?_
  walk_at "w"
  unfold B_law_k41_25; walk_at "w"
  with_reducible refine law_scene_w hc fun s h r f c1 hc1 hs H hf => ?_
  walk_at "w"
  unfold B_law_k41_24; walk_at "w"
  rw [show [D.int 700, D.int 701, D.int 1, D.int 0, D.int 9000] = ([700, 701, 1, 0, 9000] : List Int).map D.int from rfl]
  with_reducible refine law_order_w hc1 hs H hf (by decide) (by decide) (by decide) fun x c2 hc2 hx hu => ?_
  walk_at "w"
  unfold B_law_k41_23; walk_at "w"
  rw [show [D.int 0, D.int 1, D.int 1, D.int 2] = ([0, 1, 1, 2] : List Int).map D.int from rfl]
  with_reducible refine some_ints hc2 (by decide) (by decide) fun m c3 hc3 hm => ?_
  have hm2 : 0 ≤ m ∧ m ≤ 2 := by
    simp only [List.mem_cons, List.not_mem_nil, or_false] at hm
    omega
  walk_at "w"
  have hln : (rangeD 0 m).length ≤ 2 := by simp [rangeD]; omega
  refine ⟨by omega, ?_⟩
  with_reducible refine for_w (fun ys ε => ∃ (x' : Tx) (c' : D) (o5 o6 : Option D), ε = [.val (.frz (ns.map D.int)), .own c', .val (staD s), .val (dtD h r f), .own (.lst x'.ds), sl o5, sl o6, .no, .no, .no, .no, .no, .no, .no, .no, .no, .no, .no, .no, .no] ∧ Cup c' ∧ TxL (30000 + ys.length) x') ?_ ?_ ?_
  · exact ⟨x, c3, none, none, rfl, hc3, hx⟩
  · rintro ys y ε2 ⟨zs, hz⟩ ⟨x', c', o5, o6, rfl, hc', hx'⟩
    walk_at "w"
    rw [← sl_s (d := y)]
    with_reducible refine near41 hc' hx' (by omega) fun x'' c'' o6 hc'' hx'' => ?_
    refine ⟨x'', c'', some y, o6, rfl, hc'', ?_⟩
    have e : (30000 + ((ys.length + 1 : Nat) : Int)) = 30000 + (ys.length : Int) + 1 := by omega
    rw [e]; exact hx''
  · intro ε2 hI
    with_reducible obtain ⟨x', c', o5, o6, rfl, hc', hx'⟩ := hI
    have ok := hx'.ok (by omega)
    unfold B_law_k41_22; walk_at "w"
    rw [show D.tup x'.ds = x'.pd from rfl, sealed_e (k := 7) ok]; walk_at "w"
    have hg := ok.g
    with_reducible refine some_w hc' (by simp) (by simp) fun y c4 hc4 hy => ?_
    obtain ⟨l, rfl, hl2⟩ : ∃ l : Int, y = .int l ∧ 0 ≤ l ∧ l ≤ 6000 := by
      simp only [List.mem_cons, List.not_mem_nil, or_false] at hy
      rcases hy with rfl | rfl | rfl | rfl <;> exact ⟨_, rfl, by omega, by omega⟩
    walk_at "w"
    unfold B_law_k41_21; walk_at "w"
    rw [show rangeD 0 2 = [.int 0, .int 1] from rfl]
    have hu2 := ok.u
    have i0 : isRight x'.u x'.sum (sealA x'.u x'.sum) (sealB x'.u x'.sum) = decide ((0 : Int) = 0) := right_of hu2.1 (by have := draw_lo x'.u x'.sum; omega)
    have a0 : 0 ≤ sealA x'.u x'.sum ∧ sealA x'.u x'.sum < 2147483647 := ⟨pwm_lo _ _, pwm_hi _ _⟩
    have b0 : 0 ≤ sealB x'.u x'.sum ∧ sealB x'.u x'.sum < 2147483646 := ⟨Int.emod_nonneg _ (by decide), Int.emod_lt_of_pos _ (by decide)⟩
    rw [show sealD x'.u x'.sum = sl2 (sealA x'.u x'.sum) (sealB x'.u x'.sum) from rfl]
    generalize sealA x'.u x'.sum = a at *
    generalize sealB x'.u x'.sum = b at *
    rw [forL_cons_w]; walk_at "w"
    with_reducible refine turn41n hc4 hs H ok i0 ⟨a0.1, by omega⟩ ⟨b0.1, by omega⟩ hl2 fun a' b' c5 o9 o10 o11 o12 o13 hc5 hab => ?_
    have hb1 := bxor_1 b0.1 (by omega)
    have i1 : isRight x'.u x'.sum a' b' = decide ((1 : Int) = 0) := by
      rcases hab with ⟨rfl, rfl⟩ | ⟨rfl, rfl⟩ | ⟨rfl, rfl⟩
      · rw [isRight_x (by rw [i0]; rfl)]; rfl
      · rw [isRight_b (by omega)]; rfl
      · rw [isRight_a (by omega)]; rfl
    have r1 : (0 ≤ a' ∧ a' ≤ 4294967295) ∧ 0 ≤ b' ∧ b' ≤ 4294967295 := by
      rcases hab with ⟨rfl, rfl⟩ | ⟨rfl, rfl⟩ | ⟨rfl, rfl⟩
      · rw [hb1]; omega
      · omega
      · omega
    rw [forL_cons_w]; walk_at "w"
    with_reducible refine turn41 hc5 hs H ok i1 r1.1 r1.2 hl2 fun a'' b'' c6 o9 o10 o11 o12 o13 hc6 hab2 => ?_
    walk_at "w"
    with_reducible refine wp_isT tail41 fun o ε => ?_
    walk_at "w"
end KK

set_option Elab.async false
set_option linter.all false
set_option maxRecDepth 100000
set_option maxHeartbeats 4000000
namespace KK
open PySem PySem.Spec PyProof.Rows L2 DL
def names : List PySem.Str := (R.prog.main.scope.names.map (·.1)).filter fun x => !(x == ("law" : PySem.Str)) && !(x == ("__name__" : PySem.Str))
def hk : PySem.W.Hook := He.hookX 4 LW.fa fnL LW.ts LW.defns LW.ex
def ob (s : PySem.W.SharedT) : He.AlX := He.obsX 4 LW.fa fnL LW.ts LW.defns LW.ex (HandSHeadRun.getT s)
theorem ob_eq (s : PySem.W.SharedT) : ob s = hk.obs s.abs := He.obsX_eq (HandSHeadRun.getT_eq s)
theorem run (w : World) : HandSHeadRun.RunEq R (PySem.W.view R.prog [101]) hk ob 40000 names w := by
  intro os
  kernel_rfl
theorem at_law (w : World) (mg : PySem.Str → Option Value) (fa : Addr) (h : Heap) (Y : hk.says w h) (G : h.Ns mainGlobals mg) (hmg : mg ("law" : PySem.Str) = some (.ref fa)) : ∃ K : PySem.W.Frag, K.In h ∧ LamX.LawAtS RL w K (L2.CX RL.prog w) (3 * (lawK + 1)) 63 "script" mg fa h := by
  obtain ⟨K, KX, c⟩ := Y
  refine ⟨K, KX, LW.at (r := R_law_k41) KX G c okL ?_ ?_ rfl ?_ hmg rfl rfl law_true⟩
  · intro r hr
    simp only [LW, List.mem_cons, List.not_mem_nil, or_false] at hr
    rcases hr with rfl | rfl | rfl | rfl | rfl | rfl | rfl | rfl | rfl | rfl | rfl | rfl | rfl | rfl | rfl | rfl | rfl | rfl | rfl | rfl | rfl | rfl | rfl | rfl | rfl | rfl | rfl | rfl | rfl | rfl | rfl | rfl | rfl | rfl | rfl | rfl | rfl | rfl | rfl | rfl | rfl | rfl | rfl | rfl | rfl | rfl | rfl | rfl <;> rfl
  · intro r hr
    simp only [LW, List.mem_cons, List.not_mem_nil, or_false] at hr
    rcases hr with rfl <;> rfl
  · simp [LW]
end KK
open PySem PySem.W PySem.Calls PyProof.Rows
theorem PySem.Challenge.cw_chainledger_k41_reasons_that_bar_holds : PySem.Challenge.rw_chainledger_k41_reasons_that_bar.Holds := by
  w_on; o_law
  refine HandSHeadRun.head_any (r := KK.R) (q := PySem.W.view KK.R.prog [101]) (H := KK.hk) (ob := KK.ob) (M := 40000) (loose := KK.names) (d := HandSHeadRun.topDef KK.R.prog 101) (kwd := []) KK.ob_eq
    (by kernel_rfl) (fun s => by kernel_rfl) KK.run (by kernel_rfl) (by kernel_rfl) (by kernel_rfl) (by rfl) (by first | assumption | decide +kernel) (by decide +kernel) ⟨rfl, rfl, rfl, rfl, rfl, by decide +kernel⟩ ?hw ?hc
  case hw => w_witness2
  case hc =>
    refine LamX.walk_ofTsE (l := KK.RL) (n := 63) (k := 3 * (KK.lawK + 1)) (x := "script") (CX := fun w => L2.CX KK.RL.prog w) rfl (by decide) (by kernel_rfl) ⟨rfl, by decide, by decide⟩ ?F ?X
    case F =>
      intro w mg fa h Y G hmg0
      have e : (HandSHeadRun.topDef KK.R.prog 101).name = ("law" : PySem.Str) := by kernel_rfl
      exact KK.at_law w mg fa h Y G (by rw [← e]; exact hmg0)
    case X =>
      intro w H s e s' z
      obtain ⟨_, _, _, _, _, _, _, _, _, _, _, _, z⟩ := z
      exact z

