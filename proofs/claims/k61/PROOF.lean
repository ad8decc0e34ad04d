import PyProof.Rows.All
import Wide.All
import OpenK.AllK
import Wide.FinOn
import HandS.ForMost
import HandS.ForExc
import KE.DataMinMax
import HandS.TupAny
import HandS.TupMul
import HandS.IsInst
import HandS.Style
import HandS.Deep
import HandS.SortInts
import HandS.Conv
import HandS.Zip
import HandS.CallSlots
import HandS.NamedTupSort
import HandS.SortOrd
import HandS.TupSets
import KE.KSortTup
import HandS.SetFor
import HandS.TryOnly
import HandS.ExcField
import HandS.ExcInit
import HandS.Small
import HandS.Nested
import KE.KExcSuper
import KE.RegKSuper
import KE.RegKTryMore
import KE.KExcLine
import KE.DatumOrd
import PySem.Challenge.RW_manyheard_k61_codes_and_alike_elections
set_option Elab.async false
set_option linter.all false
set_option maxRecDepth 100000
/-! MnA: a small evaluator of the part of Python that the laws use, over the data of the library. -/
namespace Mn
open PySem

/-! ### values -/
/-- a value: data, or the k-th list that may change, or the script -/
inductive Vl where
  | d (x : PyData)
  | r (k : Nat)
  | s (ns : List Int)
/-- an object that may change -/
inductive Mo where
  | l (xs : List PyData)
abbrev MH := List Mo
abbrev Ev := List (Option Vl)

/-- what an expression comes to -/
inductive Rs (α : Type) where
  | ok (a : α) (h : MH)
  | ex (c : Nat) (d : PyData) (h : MH)
  | no
def Rs.bind {α β : Type} (x : Rs α) (f : α → MH → Rs β) : Rs β :=
  match x with
  | .ok a h => f a h
  | .ex c d h => .ex c d h
  | .no => .no
/-- an exception here is not followed -/
def Rs.calm {α : Type} (x : Rs α) : Rs α :=
  match x with
  | .ok a h => .ok a h
  | _ => .no
/-- what a statement comes to -/
inductive Ss where
  | nx (e : Ev) (h : MH)
  | rt (v : Vl) (h : MH)
  | bk (e : Ev) (h : MH)
  | ct (e : Ev) (h : MH)
  | ex (c : Nat) (d : PyData) (e : Ev) (h : MH)
  | no

/-! ### data -/
mutual
def beqD : PyData → PyData → Bool
  | .none, .none => true
  | .bool a, .bool b => a == b
  | .int a, .int b => a == b
  | .str a, .str b => decide (a = b)
  | .list a, .list b => beqDs a b
  | .tuple a, .tuple b => beqDs a b
  | .dict a, .dict b => beqKv a b
  | _, _ => false
def beqDs : List PyData → List PyData → Bool
  | [], [] => true
  | a :: r, b :: s => beqD a b && beqDs r s
  | _, _ => false
def beqKv : List (PyData × PyData) → List (PyData × PyData) → Bool
  | [], [] => true
  | (a, c) :: r, (b, d) :: s => beqD a b && beqD c d && beqKv r s
  | _, _ => false
end
mutual
theorem beqD_eq : ∀ a b : PyData, beqD a b = true → a = b
  | .none, b, h => by cases b <;> simp_all [beqD]
  | .bool a, b, h => by cases b <;> simp_all [beqD]
  | .int a, b, h => by cases b <;> simp_all [beqD]
  | .str a, b, h => by cases b <;> simp_all [beqD]
  | .list a, b, h => by
    cases b with
    | list b => simp only [beqD] at h; rw [beqDs_eq a b h]
    | _ => simp [beqD] at h
  | .tuple a, b, h => by
    cases b with
    | tuple b => simp only [beqD] at h; rw [beqDs_eq a b h]
    | _ => simp [beqD] at h
  | .dict a, b, h => by
    cases b with
    | dict b => simp only [beqD] at h; rw [beqKv_eq a b h]
    | _ => simp [beqD] at h
theorem beqDs_eq : ∀ a b : List PyData, beqDs a b = true → a = b
  | [], b, h => by cases b <;> simp_all [beqDs]
  | a :: r, b, h => by
    cases b with
    | nil => simp [beqDs] at h
    | cons b s =>
      simp only [beqDs, Bool.and_eq_true] at h
      rw [beqD_eq a b h.1, beqDs_eq r s h.2]
theorem beqKv_eq : ∀ a b : List (PyData × PyData), beqKv a b = true → a = b
  | [], b, h => by cases b <;> simp_all [beqKv]
  | (a, c) :: r, b, h => by
    cases b with
    | nil => simp [beqKv] at h
    | cons b s =>
      obtain ⟨b, d⟩ := b
      simp only [beqKv, Bool.and_eq_true] at h
      rw [beqD_eq a b h.1.1, beqD_eq c d h.1.2, beqKv_eq r s h.2]
end
mutual
theorem beqD_rfl : ∀ a : PyData, beqD a a = true
  | .none => by simp [beqD]
  | .bool a => by simp [beqD]
  | .int a => by simp [beqD]
  | .str a => by simp [beqD]
  | .list a => by simp only [beqD]; exact beqDs_rfl a
  | .tuple a => by simp only [beqD]; exact beqDs_rfl a
  | .dict a => by simp only [beqD]; exact beqKv_rfl a
theorem beqDs_rfl : ∀ a : List PyData, beqDs a a = true
  | [] => by simp [beqDs]
  | a :: r => by simp only [beqDs, beqD_rfl a, beqDs_rfl r, Bool.and_self]
theorem beqKv_rfl : ∀ a : List (PyData × PyData), beqKv a a = true
  | [] => by simp [beqKv]
  | (a, c) :: r => by simp only [beqKv, beqD_rfl a, beqD_rfl c, beqKv_rfl r, Bool.and_self]
end

/-- the data that a value shows now -/
def snap (h : MH) : Vl → Option PyData
  | .d x => some x
  | .s _ => none
  | .r k => match h[k]? with
    | some (.l xs) => some (.list xs)
    | none => none
def snaps (h : MH) : List Vl → Option (List PyData)
  | [] => some []
  | v :: r => match snap h v, snaps h r with
    | some x, some xs => some (x :: xs)
    | _, _ => none

/-! ### what needs no names: operators, built-ins, methods that change nothing -/
inductive Pf where
  | add | sub | mul | fdiv | mod | neg
  | eq | ne | lt | le | gt | ge | isin | notin | isN | notN | isB | notB
  | ix | slA | slT | slF | slM | rev
  | len | abs | int | str | tup | lst | rng | rng2 | srt | sum | min2 | max2 | all | any | isi (t : String) | repr
  | minL | maxL
deriving DecidableEq

def asInts : List PyData → Option (List Int)
  | [] => some []
  | .int i :: r => (asInts r).map (i :: ·)
  | _ => none
def asBools : List PyData → Option (List Bool)
  | [] => some []
  | .bool b :: r => (asBools r).map (b :: ·)
  | _ => none
/-- tuples of ints -/
def asRows : List PyData → Option (List (List Int))
  | [] => some []
  | .tuple t :: r => match asInts t, asRows r with
    | some z, some zs => some (z :: zs)
    | _, _ => none
  | _ => none
def ofInts (ns : List Int) : List PyData := ns.map .int
def ofRow (ns : List Int) : PyData := .tuple (ofInts ns)
def ofRows (zs : List (List Int)) : List PyData := zs.map ofRow
/-- no greater one is ahead: insertion -/
def ins (n : Int) : List Int → List Int
  | [] => [n]
  | m :: r => if n ≤ m then n :: m :: r else m :: ins n r
def isort : List Int → List Int
  | [] => []
  | n :: r => ins n (isort r)
def insR (n : List Int) : List (List Int) → List (List Int)
  | [] => [n]
  | m :: r => if HT.lexLt m n then m :: insR n r else n :: m :: r
def isortR : List (List Int) → List (List Int)
  | [] => []
  | n :: r => insR n (isortR r)
def isTy (t : String) : PyData → Bool
  | .none => t == "NoneType"
  | .bool _ => t == "bool" || t == "int"
  | .int _ => t == "int"
  | .str _ => t == "str"
  | .list _ => t == "list"
  | .tuple _ => t == "tuple"
  | .dict _ => t == "dict"
def flatD : PyData → Bool
  | .none | .bool _ | .int _ | .str _ => true
  | _ => false
def isNone : PyData → Bool
  | .none => true
  | _ => false
/-- `==` may be asked -/
def eqOk (a : PyData) : Bool := a.canLay0 && decide (a.depth ≤ 60)
def small (i : Int) : Bool := decide (-(2 ^ 60) < i ∧ i < 2 ^ 60)
def rngD (a b : Int) : List PyData := (List.range (b - a).toNat).map fun i => .int (a + (i : Nat))
def cut (xs : List PyData) (lo hi : Option Int) : List PyData := (xs.drop (HT.sIx xs.length 0 lo)).take (HT.sIx xs.length xs.length hi - HT.sIx xs.length 0 lo)
def cutS (x : Str) (lo hi : Option Int) : Str := ⟨((x.cps.toList.drop (HT.sIx x.length 0 lo)).take (HT.sIx x.length x.length hi - HT.sIx x.length 0 lo)).toArray⟩
def sl (x : PyData) (lo hi : Option Int) : Option PyData :=
  match x with
  | .tuple xs => some (.tuple (cut xs lo hi))
  | .list xs => some (.list (cut xs lo hi))
  | _ => none
def isInD (x : PyData) : PyData → Option Bool
  | .list ys => if flatD x && ys.all flatD then some (ys.any fun y => PyData.eqv y x) else if eqOk x && eqOk (.list ys) then some (ys.any fun y => PyData.eqv y x) else none
  | .tuple ys => if flatD x && ys.all flatD then some (ys.any fun y => PyData.eqv y x) else none
  | .str y => match x with
    | .str z => some (!(Builtin.Str.occurrences y z 0 y.length 1).isEmpty)
    | _ => none
  | _ => none
/-- two data that may be asked for their order -/
def ordP (a b : PyData) (r : Bool) : Option PyData := if PySem.W.alike a b && !isNone a && decide (a.depth ≤ 60) then some (.bool r) else none
/-- data of one kind -/
def alikeL (xs : List PyData) : Bool := xs.all (fun a => xs.all fun b => PySem.W.alike a b) && xs.all (fun a => !isNone a) && decide (PyData.depthAll xs ≤ 60)
def pf : Pf → List PyData → Option PyData
  | .add, [.int a, .int b] => some (.int (a + b))
  | .add, [.str a, .str b] => if a.length + b.length ≤ 2 ^ 20 then some (.str (a ++ b)) else none
  | .add, [.tuple a, .tuple b] => if a.length + b.length ≤ 2 ^ 20 then some (.tuple (a ++ b)) else none
  | .add, [.list a, .list b] => if a.length + b.length ≤ 2 ^ 20 then some (.list (a ++ b)) else none
  | .sub, [.int a, .int b] => some (.int (a - b))
  | .mul, [.int a, .int b] => if decide (a.natAbs < 2 ^ 64) || decide (b.natAbs < 2 ^ 64) then some (.int (a * b)) else none
  | .mul, [.tuple a, .int b] => if decide (a.length ≤ 1000) && decide (0 ≤ b ∧ b ≤ 1000) then some (.tuple (List.replicate b.toNat a).flatten) else none
  | .mul, [.list a, .int b] => if decide (a.length ≤ 1000) && decide (0 ≤ b ∧ b ≤ 1000) then some (.list (List.replicate b.toNat a).flatten) else none
  | .fdiv, [.int a, .int b] => if decide (0 < b ∧ b < 1073741824) then some (.int (a / b)) else none
  | .mod, [.int a, .int b] => if decide (0 < b) then some (.int (a % b)) else none
  | .neg, [.int a] => some (.int (-a))
  | .eq, [.str a, .str b] => some (.bool (decide (a = b)))
  | .ne, [.str a, .str b] => some (.bool (!decide (a = b)))
  | .eq, [a, b] => if eqOk a && eqOk b then some (.bool (PyData.eqv a b)) else none
  | .ne, [a, b] => if eqOk a && eqOk b then some (.bool (!PyData.eqv a b)) else none
  | .lt, [.int a, .int b] => some (.bool (decide (a < b)))
  | .lt, [.tuple a, .tuple b] => match asInts a, asInts b with
    | some x, some y => some (.bool (HT.lexLt x y))
    | _, _ => ordP (.tuple a) (.tuple b) (PySem.W.dataLt (.tuple a) (.tuple b))
  | .lt, [a, b] => ordP a b (PySem.W.dataLt a b)
  | .le, [.int a, .int b] => some (.bool (decide (a ≤ b)))
  | .le, [a, b] => ordP a b (!PySem.W.dataLt b a)
  | .gt, [.int a, .int b] => some (.bool (decide (b < a)))
  | .gt, [a, b] => ordP a b (PySem.W.dataLt b a)
  | .ge, [.int a, .int b] => some (.bool (decide (b ≤ a)))
  | .ge, [a, b] => ordP a b (!PySem.W.dataLt a b)
  | .isin, [a, b] => (isInD a b).map .bool
  | .notin, [a, b] => (isInD a b).map fun c => .bool (!c)
  | .isN, [a] => some (.bool (isNone a))
  | .notN, [a] => some (.bool (!isNone a))
  | .isB, [.bool a, .bool b] => some (.bool (a == b))
  | .notB, [.bool a, .bool b] => some (.bool (!(a == b)))
  | .ix, [.list xs, .int i] => L2.atI xs i
  | .ix, [.tuple xs, .int i] => L2.atI xs i
  | .ix, [.str x, .int i] => if decide (x.length ≤ 2 ^ 20) then (L2.atI x.cps.toList i).map fun c => .str ⟨#[c]⟩ else none
  | .slA, [x] => sl x none none
  | .slT, [x, .int hi] => sl x none (some hi)
  | .slF, [x, .int lo] => sl x (some lo) none
  | .slM, [x, .int lo, .int hi] => sl x (some lo) (some hi)
  | .rev, [.tuple xs] => some (.tuple xs.reverse)
  | .rev, [.list xs] => some (.list xs.reverse)
  | .len, [.list xs] => some (.int xs.length)
  | .len, [.tuple xs] => some (.int xs.length)
  | .len, [.str x] => if decide (x.length ≤ 2 ^ 20) then some (.int x.length) else none
  | .abs, [.int i] => some (.int (if i < 0 then -i else i))
  | .int, [.int i] => some (.int i)
  | .str, [.int i] => if decide (i.natAbs.log2 < 1920) then some (.str (toString i)) else none
  | .tup, [.list xs] => some (.tuple xs)
  | .tup, [.tuple xs] => some (.tuple xs)
  | .lst, [.list xs] => some (.list xs)
  | .lst, [.tuple xs] => some (.list xs)
  | .rng, [.int n] => if decide (0 ≤ n ∧ n ≤ 1000000) then some (.list (rngD 0 n)) else none
  | .rng2, [.int a, .int b] => if decide (0 ≤ a ∧ a ≤ 1000000 ∧ 0 ≤ b ∧ b ≤ 1000000) then some (.list (rngD a b)) else none
  | .srt, [.list xs] => if decide (xs.length ≤ 2 ^ 20) then (match asInts xs with
      | some ns => some (.list (ofInts (isort ns)))
      | none => match asRows xs with
        | some zs => some (.list (ofRows (isortR zs)))
        | none => none) else none
  | .srt, [.tuple xs] => if decide (xs.length ≤ 2 ^ 20) then (match asInts xs with
      | some ns => some (.list (ofInts (isort ns)))
      | none => match asRows xs with
        | some zs => some (.list (ofRows (isortR zs)))
        | none => none) else none
  | .sum, [.list xs] => (asInts xs).map fun ns => .int ns.sum
  | .min2, [.int a, .int b] => some (.int (if b < a then b else a))
  | .max2, [.int a, .int b] => some (.int (if a < b then b else a))
  | .minL, [.list (x :: xs)] => if alikeL (x :: xs) then some (PySem.W.minD x xs) else none
  | .maxL, [.list (x :: xs)] => if alikeL (x :: xs) then some (PySem.W.maxD x xs) else none
  | .all, [.list xs] => (asBools xs).map fun bs => .bool (bs.all id)
  | .any, [.list xs] => (asBools xs).map fun bs => .bool (bs.any id)
  | .isi t, [x] => some (.bool (isTy t x))
  | .repr, [x] => if x.showable && !x.hasDict && decide (x.depth ≤ 60) && decide (x.shown.length ≤ 2 ^ 23) then some (.str x.shown) else none
  | _, _ => none

/-! ### the text, by slots -/
/-- a target -/
inductive Tg where
  | n (i : Nat)
  | t2 (i j : Nat)
  | t3 (i j k : Nat)
/-- what is walked -/
inductive Ik where
  | sq | r1 | r2 | zp | en
deriving DecidableEq
/-- a method that changes its list -/
inductive Mt where
  | app | pop | rem
deriving DecidableEq
mutual
inductive Cd where
  | v (i : Nat)
  | k (x : PyData)
  | g (x : Str) (d : PyData)
  | p (m : Bool) (f : Pf) (es : Cds)
  | s3 (m : Bool) (a b c : Cd)
  | ch (f g : Pf) (a b c : Cd)
  | nt (a : Cd)
  | bo (w : Bool) (es : Cds)
  | fi (c a b : Cd)
  | tu (es : Cds)
  | li (m : Bool) (es : Cds)
  | ca (f : Nat) (es : Cds)
  | me (m : Mt) (o : Cd) (es : Cds)
  | lc (m : Bool) (e : Cd) (t : Tg) (k : Ik) (es : Cds) (fs : Cds)
  | l2 (m : Bool) (e : Cd) (t : Tg) (k : Ik) (es : Cds) (t1 : Tg) (k1 : Ik) (es1 : Cds) (fs : Cds)
inductive Cds where
  | n
  | c (a : Cd) (r : Cds)
end
/-- what an except clause does -/
inductive Sx where
  | k (x : PyData)
  | at
mutual
inductive Sd where
  | e (a : Cd)
  | s (t : Tg) (a : Cd)
  | pr (is : List Nat) (es : Cds)
  | st (o i a : Cd)
  | fi (c : Cd) (a b : Bk)
  | fo (t : Tg) (k : Ik) (es : Cds) (b : Bk)
  | wh (c : Cd) (b : Bk)
  | re (a : Cd)
  | rn
  | ra (c : Nat) (i : Bool) (es : Cds)
  | tr (b : Bk) (hs : List (Nat × Option Nat × Sx))
  | pa
  | br
  | co
inductive Bk where
  | n
  | c (a : Sd) (r : Bk)
end
def Bk.of : List Sd → Bk
  | [] => .n
  | a :: r => .c a (Bk.of r)
def Cds.of : List Cd → Cds
  | [] => .n
  | a :: r => .c a (Cds.of r)

/-! ### its meaning -/
def setT : Tg → Vl → Ev → Option Ev
  | .n i, v, e => some (e.set i (some v))
  | .t2 i j, .d (.tuple [x, y]), e => some ((e.set i (some (.d x))).set j (some (.d y)))
  | .t3 i j k, .d (.tuple [x, y, z]), e => some (((e.set i (some (.d x))).set j (some (.d y))).set k (some (.d z)))
  | _, _, _ => none
def Tg.slots : Tg → List Nat
  | .n i => [i]
  | .t2 i j => [i, j]
  | .t3 i j k => [i, j, k]
/-- slots forgotten -/
def wpE (e : Ev) : List Nat → Ev
  | [] => e
  | v :: vs => (wpE e vs).set v none
def zipD : List PyData → List PyData → List PyData
  | x :: xs, y :: ys => .tuple [x, y] :: zipD xs ys
  | _, _ => []
def enD : Nat → List PyData → List PyData
  | _, [] => []
  | i, x :: xs => .tuple [.int i, x] :: enD (i + 1) xs
def seqOf : PyData → Option (List PyData)
  | .list xs => some xs
  | .tuple xs => some xs
  | _ => none
def small62 (i : Int) : Bool := decide (-(2 ^ 62) ≤ i ∧ i < 2 ^ 62)
/-- the items that are walked -/
def itD : Ik → List PyData → Option (List PyData)
  | .sq, [x] => seqOf x
  | .r1, [.int n] => if small62 n then some (rngD 0 n) else none
  | .r2, [.int a, .int b] => if small62 a && small62 b then some (rngD a b) else none
  | .zp, [.tuple xs, .tuple ys] => some (zipD xs ys)
  | .zp, [.list xs, .list ys] => some (zipD xs ys)
  | .en, [.list xs] => some (enD 0 xs)
  | _, _ => none
/-- the lists that are walked stand as they stood -/
def same (h h' : MH) : List Vl → Bool
  | [] => true
  | .d _ :: r => same h h' r
  | .s _ :: r => same h h' r
  | .r k :: r => (match h[k]?, h'[k]? with
    | some (.l a), some (.l b) => beqDs a b
    | _, _ => false) && same h h' r
/-- .. of values: the script too may be walked -/
def itV (h : MH) (k : Ik) (vs : List Vl) : Option (List PyData) :=
  match k, vs with
  | .sq, [.s ns] => some (ofInts ns)
  | k, vs => match snaps h vs with
    | some ds => itD k ds
    | none => none
def mapR (ok : MH → Bool) (f : PyData → MH → Rs (Option PyData)) : List PyData → MH → Rs (List PyData)
  | [], h => if ok h then .ok [] h else .no
  | x :: xs, h => if ok h then (f x h).bind fun o h1 => (mapR ok f xs h1).bind fun r h2 => .ok (match o with | some y => y :: r | none => r) h2 else .no
def flatR (ok : MH → Bool) (f : PyData → MH → Rs (List PyData)) : Nat → List PyData → MH → Rs (List PyData)
  | _, [], h => if ok h then .ok [] h else .no
  | n, x :: xs, h => if ok h then (f x h).bind fun o h1 => if n + o.length ≤ 2 ^ 20 then (flatR ok f (n + o.length) xs h1).bind fun r h2 => .ok (o ++ r) h2 else .no else .no
def lim (xs : List PyData) : Bool := decide (xs.length ≤ 2 ^ 20)
def fresh : Pf → Bool
  | .add | .mul | .lst | .rng | .rng2 | .srt | .slA | .slT | .slF | .slM => true
  | _ => false
def Vl.tt {α : Type} (f : Bool → MH → Rs α) : Vl → MH → Rs α
  | .d (.bool b), h => f b h
  | _, _ => .no
def meD : Mt → Nat → List Vl → MH → Rs Vl
  | .app, k, [.d x], h => match h[k]? with
    | some (.l xs) => if lim xs then .ok (.d .none) (h.set k (.l (xs ++ [x]))) else .no
    | none => .no
  | .pop, k, [.d (.int i)], h => match h[k]? with
    | some (.l xs) => match L2.ixN xs.length i with
      | some j => match xs[j]? with
        | some x => if lim xs then .ok (.d x) (h.set k (.l (xs.eraseIdx j))) else .no
        | none => .no
      | none => .no
    | none => .no
  | .rem, k, [.d (.int i)], h => match h[k]? with
    | some (.l xs) => match asInts xs with
      | some ns => if ns.contains i && lim xs then .ok (.d .none) (h.set k (.l (ofInts (ns.eraseIdx (ns.idxOf i))))) else .no
      | none => .no
    | none => .no
  | _, _, _, _ => .no
/-- a value as it comes, or (m) a new list that may change -/
def mkR (m fr : Bool) (r : PyData) (h : MH) : Rs Vl :=
  if m then (match fr, r with
    | true, .list xs => .ok (.r h.length) (h ++ [.l xs])
    | _, _ => .no) else .ok (.d r) h
/-- the data of arguments -/
def datas : List Vl → Option (List PyData)
  | [] => some []
  | .d x :: r => (datas r).map (x :: ·)
  | _ :: _ => none
/-- one turn of a comprehension: the item a, if the tests g hold -/
def evl (a g : Ev → MH → Rs Vl) (t : Tg) (e : Ev) (x : PyData) (h : MH) : Rs (Option PyData) :=
  match setT t (.d x) e with
  | some e' => (g e' h).bind (Vl.tt fun b h2 => if b then (a e' h2).bind fun y h3 => match y with
      | .d y => .ok (some y) h3
      | _ => .no else .ok none h2)
  | none => .no
mutual
def ev (F : Nat → List Vl → MH → Rs Vl) : Cd → Ev → MH → Rs Vl
  | .v i, e, h => match e[i]? with
    | some (some x) => .ok x h
    | _ => .no
  | .k x, _, h => .ok (.d x) h
  | .g _ d, _, h => .ok (.d d) h
  | .p m f es, e, h => (evs F es e h).bind fun vs h1 => match snaps h1 vs with
    | some ds => match pf f ds with
      | some r => mkR m (fresh f) r h1
      | none => .no
    | none => .no
  | .s3 m a b c, e, h => (ev F a e h).bind fun x h1 => (ev F b e h1).bind fun y h2 => match y with
    | .d (.int i) => (ev F c e h2).bind fun z h3 => match snap h3 x, snap h3 z with
      | some dx, some dz => match pf .slM [dx, .int i, dz] with
        | some r => mkR m true r h3
        | none => .no
      | _, _ => .no
    | _ => .no
  | .ch f g a b c, e, h => (ev F a e h).bind fun x h1 => (ev F b e h1).bind fun y h2 => match snap h2 x, snap h2 y with
    | some dx, some dy => match pf f [dx, dy] with
      | some (.bool true) => (ev F c e h2).bind fun z h3 => match snap h3 y, snap h3 z with
        | some dy, some dz => match pf g [dy, dz] with
          | some r => .ok (.d r) h3
          | none => .no
        | _, _ => .no
      | some (.bool false) => .ok (.d (.bool false)) h2
      | _ => .no
    | _, _ => .no
  | .nt a, e, h => (ev F a e h).bind (Vl.tt fun b h1 => .ok (.d (.bool (!b))) h1)
  | .bo w es, e, h => evb F w es e h
  | .fi c a b, e, h => (ev F c e h).bind (Vl.tt fun t h1 => if t then ev F a e h1 else ev F b e h1)
  | .tu es, e, h => (evs F es e h).bind fun vs h1 => match datas vs with
    | some ds => if lim ds then .ok (.d (.tuple ds)) h1 else .no
    | none => .no
  | .li m es, e, h => (evs F es e h).bind fun vs h1 => match datas vs with
    | some ds => if lim ds then mkR m true (.list ds) h1 else .no
    | none => .no
  | .ca f es, e, h => (evs F es e h).bind fun vs h1 => F f vs h1
  | .me m o es, e, h => (ev F o e h).bind fun x h1 => match x with
    | .r k => match h1[k]? with
      | some (.l _) => (evs F es e h1).bind fun vs h2 => meD m k vs h2
      | none => .no
    | _ => .no
  | .lc m a t k es fs, e, h => (evs F es e h).bind fun vs h1 => match itV h1 k vs with
    | some xs => if lim xs then (mapR (fun h' => same h1 h' vs) (evl (ev F a) (evb F true fs) t e) xs h1).calm.bind fun r h2 => mkR m true (.list r) h2 else .no
    | none => .no
  | .l2 m a t k es t1 k1 es1 fs, e, h => (evs F es e h).bind fun vs h1 => match itV h1 k vs with
    | some xs => if lim xs then (flatR (fun h' => same h1 h' vs) (fun x h' => match setT t (.d x) (wpE e t1.slots) with
        | some e' => (evs F es1 e' h').bind fun vs1 h2 => match itV h2 k1 vs1 with
          | some ys => if lim ys then mapR (fun h' => same h2 h' vs1) (evl (ev F a) (evb F true fs) t1 e') ys h2 else .no
          | none => .no
        | none => .no) 0 xs h1).calm.bind fun r h2 => mkR m true (.list r) h2 else .no
    | none => .no
def evs (F : Nat → List Vl → MH → Rs Vl) : Cds → Ev → MH → Rs (List Vl)
  | .n, _, h => .ok [] h
  | .c a r, e, h => (ev F a e h).bind fun x h1 => (evs F r e h1).bind fun xs h2 => .ok (x :: xs) h2
/-- and, or: all are truth values -/
def evb (F : Nat → List Vl → MH → Rs Vl) : Bool → Cds → Ev → MH → Rs Vl
  | w, .n, _, h => .ok (.d (.bool w)) h
  | w, .c a r, e, h => (ev F a e h).bind (Vl.tt fun b h1 => if b == w then evb F w r e h1 else .ok (.d (.bool b)) h1)
end
/-! ### statements -/
def Rs.toS (x : Rs Vl) (e : Ev) (f : Vl → MH → Ss) : Ss :=
  match x with
  | .ok a h => f a h
  | .ex c d h => .ex c d e h
  | .no => .no
def Ss.then (x : Ss) (f : Ev → MH → Ss) : Ss :=
  match x with
  | .nx e h => f e h
  | s => s
/-- the turns of a for -/
def forR (ok : MH → Bool) (t : Tg) (f : Ev → MH → Ss) : List PyData → Ev → MH → Ss
  | [], e, h => if ok h then .nx e h else .no
  | x :: xs, e, h => if ok h then (match setT t (.d x) e with
    | some e' => match f e' h with
      | .nx e1 h1 => forR ok t f xs e1 h1
      | .ct e1 h1 => forR ok t f xs e1 h1
      | .bk e1 h1 => .nx e1 h1
      | s => s
    | none => .no) else .no
/-- the turns of a while, at most so many -/
def whR (c : Ev → MH → Rs Vl) (f : Ev → MH → Ss) : Nat → Ev → MH → Ss
  | 0, _, _ => .no
  | n + 1, e, h => (c e h).toS e fun v h1 => match v with
    | .d (.bool true) => match f e h1 with
      | .nx e1 h2 => whR c f n e1 h2
      | .ct e1 h2 => whR c f n e1 h2
      | .bk e1 h2 => .nx e1 h2
      | s => s
    | .d (.bool false) => .nx e h1
    | _ => .no
def pars : List Nat → List Vl → Ev → Option Ev
  | [i, j], [x, y], e => some ((e.set i (some x)).set j (some y))
  | [i, j, k], [x, y, z], e => some (((e.set i (some x)).set j (some y)).set k (some z))
  | [i, j, k, l], [x, y, z, w], e => some ((((e.set i (some x)).set j (some y)).set k (some z)).set l (some w))
  | _, _, _ => none
/-- an item is stored -/
def stD (o i a : Vl) (h : MH) : Option MH :=
  match o, i, a with
  | .r k, .d (.int i), .d x => match h[k]? with
    | some (.l xs) => (L2.ixN xs.length i).map fun j => h.set k (.l (xs.set j x))
    | none => none
  | _, _, _ => none
/-- what an exception may be made with: anything, or (true) an int that is short as a text -/
def raOk : Bool → PyData → Bool
  | false, _ => true
  | true, .int i => decide (i.natAbs.log2 < 1920)
  | true, _ => false
/-- the slot of a clause's name is one of the slots -/
def slot (n : Nat) : Option Nat → Bool
  | none => true
  | some i => decide (i < n)
/-- the clauses, one after the other -/
def hdR (up : Nat → Nat → Bool) : List (Nat × Option Nat × Sx) → Nat → PyData → Ev → MH → Ss
  | [], c, d, e, h => .ex c d e h
  | (c', i, sx) :: r, c, d, e, h => if up c c' then (if slot e.length i then .rt (.d (match sx with | .k x => x | .at => d)) h else .no) else hdR up r c d e h
mutual
/-- W: at most so many turns of a while; up: which class is below which -/
def sv (W : Nat) (up : Nat → Nat → Bool) (F : Nat → List Vl → MH → Rs Vl) : Sd → Ev → MH → Ss
  | .e a, e, h => (ev F a e h).toS e fun _ h1 => .nx e h1
  | .s t a, e, h => (ev F a e h).toS e fun v h1 => match setT t v e with
    | some e' => .nx e' h1
    | none => .no
  | .pr is es, e, h => match evs F es e h with
    | .ok vs h1 => match pars is vs e with
      | some e' => .nx e' h1
      | none => .no
    | .ex c d h1 => .ex c d e h1
    | .no => .no
  | .st o i a, e, h => (ev F a e h).toS e fun x h1 => (ev F o e h1).toS e fun y h2 => (ev F i e h2).toS e fun z h3 => match stD y z x h3 with
    | some h4 => .nx e h4
    | none => .no
  | .fi c a b, e, h => (ev F c e h).toS e fun v h1 => match v with
    | .d (.bool true) => bv W up F a e h1
    | .d (.bool false) => bv W up F b e h1
    | _ => .no
  | .fo t k es b, e, h => match evs F es e h with
    | .ok vs h1 => match itV h1 k vs with
      | some xs => forR (fun h' => same h1 h' vs) t (bv W up F b) xs e h1
      | none => .no
    | .ex c d h1 => .ex c d e h1
    | .no => .no
  | .wh c b, e, h => whR (ev F c) (bv W up F b) W e h
  | .re a, e, h => (ev F a e h).toS e fun v h1 => .rt v h1
  | .rn, _, h => .rt (.d .none) h
  | .ra c i es, e, h => match evs F es e h with
    | .ok vs h1 => match datas vs with
      | some [d] => if raOk i d then .ex c d e h1 else .no
      | _ => .no
    | .ex c d h1 => .ex c d e h1
    | .no => .no
  | .tr b hs, e, h => match bv W up F b e h with
    | .ex c d e1 h1 => hdR up hs c d e1 h1
    | s => s
  | .pa, e, h => .nx e h
  | .br, e, h => .bk e h
  | .co, e, h => .ct e h
def bv (W : Nat) (up : Nat → Nat → Bool) (F : Nat → List Vl → MH → Rs Vl) : Bk → Ev → MH → Ss
  | .n, e, h => .nx e h
  | .c a r, e, h => (sv W up F a e h).then fun e1 h1 => bv W up F r e1 h1
end

/-! ### defs -/
/-- how a def ends: the lists that it made go, unless it hands one back -/
def fin (n : Nat) : Ss → Rs Vl
  | .nx _ h => .ok (.d .none) (h.take n)
  | .rt (.d x) h => .ok (.d x) (h.take n)
  | .rt (.r k) h => .ok (.r k) h
  | .ex c d _ h => .ex c d (h.take n)
  | _ => .no
/-- a def: how many parameters, how many names, its body -/
structure Df where
  np : Nat
  nl : Nat
  bd : Bk
def run (W : Nat) (up : Nat → Nat → Bool) (T : List Df) : Nat → Nat → List Vl → MH → Rs Vl
  | 0, _, _, _ => .no
  | n + 1, f, as, h => match T[f]? with
    | some D => if as.length = D.np then fin h.length (bv W up (run W up T n) D.bd (as.map some ++ List.replicate (D.nl - D.np) none) h) else .no
    | none => .no
end Mn

/-! MnB: how the evaluator's states lie in the model's. -/
namespace Mn
open PySem L2 PySem.Spec PyProof.Rows

abbrev Le (A B : Hp) : Prop := ∀ a o, A a = some o → B a = some o
theorem Le.trans {A B C : Hp} (x : Le A B) (y : Le B C) : Le A C := fun a o e => y a o (x a o e)
theorem Le.refl {A : Hp} : Le A A := fun _ _ e => e

mutual
/-- data, as it lies among what never changes -/
inductive Dq (K : PySem.W.Frag) (H : Hp) : V → PyData → Prop
  | non : Dq K H .non .none
  | bl (b : Bool) : Dq K H (.bl b) (.bool b)
  | int (i : Int) : Dq K H (.int i) (.int i)
  | str (x : Str) : Dq K H (.str x) (.str x)
  | lst {a : Addr} {xs : List V} {ds : List PyData} : H a = some (.lst xs) → DqAll K H xs ds → Dq K H (.ref a) (.list ds)
  | tup {a : Addr} {xs : List V} {ds : List PyData} : SqT K H a xs → DqAll K H xs ds → Dq K H (.ref a) (.tuple ds)
inductive DqAll (K : PySem.W.Frag) (H : Hp) : List V → List PyData → Prop
  | nil : DqAll K H [] []
  | cons {v : V} {vs : List V} {d : PyData} {ds : List PyData} : Dq K H v d → DqAll K H vs ds → DqAll K H (v :: vs) (d :: ds)
end
section
variable {K : PySem.W.Frag}
theorem rd_mono {A B : Hp} (le : Le A B) {a : Addr} {u : HO} (h : Rd A a u) : Rd B a u := by
  rcases h with h | ⟨o, h⟩
  · exact .inl (le _ _ h)
  · exact .inr ⟨o, le _ _ h⟩
theorem sql_mono {A B : Hp} (le : Le A B) {a : Addr} {xs : List V} (h : SqL K A a xs) : SqL K B a xs := h.elim (fun q => .inl (rd_mono le q)) .inr
theorem sqt_mono {A B : Hp} (le : Le A B) {a : Addr} {xs : List V} (h : SqT K A a xs) : SqT K B a xs := h.elim (fun q => .inl (rd_mono le q)) .inr
mutual
theorem dq_mono {A B : Hp} (le : Le A B) : ∀ (d : PyData) (v : V), Dq K A v d → Dq K B v d
  | .none, _, h => by cases h; exact .non
  | .bool b, _, h => by cases h; exact .bl b
  | .int i, _, h => by cases h; exact .int i
  | .str x, _, h => by cases h; exact .str x
  | .list ds, _, h => by
    cases h with
    | lst hs ha => exact .lst (le _ _ hs) (dpa_mono le ds _ ha)
  | .tuple ds, _, h => by
    cases h with
    | tup hs ha => exact .tup (sqt_mono le hs) (dpa_mono le ds _ ha)
  | .dict _, _, h => by cases h
theorem dpa_mono {A B : Hp} (le : Le A B) : ∀ (ds : List PyData) (vs : List V), DqAll K A vs ds → DqAll K B vs ds
  | [], _, h => by cases h; exact .nil
  | d :: ds, _, h => by
    cases h with
    | cons h1 h2 => exact .cons (dq_mono le d _ h1) (dpa_mono le ds _ h2)
end
mutual
theorem dq_dp {A : Hp} : ∀ (d : PyData) (v : V), Dq K A v d → Dp K A v d
  | .none, _, h => by cases h; exact .non
  | .bool b, _, h => by cases h; exact .bl b
  | .int i, _, h => by cases h; exact .int i
  | .str x, _, h => by cases h; exact .str x
  | .list ds, _, h => by
    cases h with
    | lst hs ha => exact .lst (SqL.of hs) (dqa_dp ds _ ha)
  | .tuple ds, _, h => by
    cases h with
    | tup hs ha => exact .tup hs (dqa_dp ds _ ha)
  | .dict _, _, h => by cases h
theorem dqa_dp {A : Hp} : ∀ (ds : List PyData) (vs : List V), DqAll K A vs ds → DpAll K A vs ds
  | [], _, h => by cases h; exact .nil
  | d :: ds, _, h => by
    cases h with
    | cons h1 h2 => exact .cons (dq_dp d _ h1) (dqa_dp ds _ h2)
end
theorem dpa_len {A : Hp} : ∀ {ds : List PyData} {vs : List V}, DqAll K A vs ds → vs.length = ds.length
  | [], _, h => by cases h; rfl
  | d :: ds, _, h => by
    cases h with
    | cons h1 h2 => simp [dpa_len h2]
theorem dpa_app {A : Hp} : ∀ {ds es : List PyData} {vs us : List V}, DqAll K A vs ds → DqAll K A us es → DqAll K A (vs ++ us) (ds ++ es)
  | [], _, _, _, h, g => by cases h; exact g
  | d :: ds, _, _, _, h, g => by
    cases h with
    | cons h1 h2 => exact .cons h1 (dpa_app h2 g)
theorem dpa_get {A : Hp} : ∀ {ds : List PyData} {vs : List V} {i : Nat} {d : PyData}, DqAll K A vs ds → ds[i]? = some d → ∃ v, vs[i]? = some v ∧ Dq K A v d
  | [], _, _, _, _, e => by simp at e
  | d :: ds, _, 0, _, h, e => by
    cases h with
    | cons h1 h2 => simp at e; subst e; exact ⟨_, rfl, h1⟩
  | d :: ds, _, i + 1, _, h, e => by
    cases h with
    | cons h1 h2 =>
      obtain ⟨v, q, r⟩ := dpa_get (i := i) h2 (by simpa using e)
      exact ⟨v, by simpa using q, r⟩
theorem dpa_getV {A : Hp} : ∀ {ds : List PyData} {vs : List V} {i : Nat} {v : V}, DqAll K A vs ds → vs[i]? = some v → ∃ d, ds[i]? = some d ∧ Dq K A v d
  | [], _, _, _, h, e => by cases h; simp at e
  | d :: ds, _, 0, _, h, e => by
    cases h with
    | cons h1 h2 => simp at e; subst e; exact ⟨_, rfl, h1⟩
  | d :: ds, _, i + 1, _, h, e => by
    cases h with
    | cons h1 h2 =>
      obtain ⟨v, q, r⟩ := dpa_getV (i := i) h2 (by simpa using e)
      exact ⟨v, by simpa using q, r⟩
theorem dpa_take {A : Hp} : ∀ {ds : List PyData} {vs : List V} (n : Nat), DqAll K A vs ds → DqAll K A (vs.take n) (ds.take n)
  | _, _, 0, h => by simp; exact .nil
  | [], _, n + 1, h => by cases h; exact .nil
  | d :: ds, _, n + 1, h => by
    cases h with
    | cons h1 h2 => exact .cons h1 (dpa_take n h2)
theorem dpa_drop {A : Hp} : ∀ {ds : List PyData} {vs : List V} (n : Nat), DqAll K A vs ds → DqAll K A (vs.drop n) (ds.drop n)
  | _, _, 0, h => h
  | [], _, n + 1, h => by cases h; exact .nil
  | d :: ds, _, n + 1, h => by
    cases h with
    | cons h1 h2 => exact dpa_drop n h2
theorem dpa_erase {A : Hp} : ∀ {ds : List PyData} {vs : List V} (n : Nat), DqAll K A vs ds → DqAll K A (vs.eraseIdx n) (ds.eraseIdx n)
  | [], _, n, h => by cases h; exact .nil
  | d :: ds, _, 0, h => by
    cases h with
    | cons h1 h2 => exact h2
  | d :: ds, _, n + 1, h => by
    cases h with
    | cons h1 h2 => exact .cons h1 (dpa_erase n h2)
theorem asInts_is : ∀ {ds : List PyData} {ns : List Int}, asInts ds = some ns → ds = ofInts ns
  | [], ns, h => by simp [asInts] at h; subst h; rfl
  | d :: ds, ns, h => by
    cases d <;> simp [asInts] at h
    obtain ⟨m, h1, rfl⟩ := h
    rw [asInts_is h1]; rfl
theorem dpa_set {A : Hp} {v : V} {d : PyData} (q : Dq K A v d) : ∀ {ds : List PyData} {vs : List V} (n : Nat), DqAll K A vs ds → DqAll K A (vs.set n v) (ds.set n d)
  | [], _, n, h => by cases h; exact .nil
  | e :: ds, _, 0, h => by
    cases h with
    | cons h1 h2 => exact .cons q h2
  | e :: ds, _, n + 1, h => by
    cases h with
    | cons h1 h2 => exact .cons h1 (dpa_set q n h2)
theorem dpa_rev {A : Hp} : ∀ {ds : List PyData} {vs : List V}, DqAll K A vs ds → DqAll K A vs.reverse ds.reverse
  | [], _, h => by cases h; exact .nil
  | d :: ds, _, h => by
    cases h with
    | cons h1 h2 => rw [List.reverse_cons, List.reverse_cons]; exact dpa_app (dpa_rev h2) (.cons h1 .nil)
theorem dpa_rep {A : Hp} {ds : List PyData} {vs : List V} (h : DqAll K A vs ds) : ∀ n : Nat, DqAll K A (List.replicate n vs).flatten (List.replicate n ds).flatten
  | 0 => .nil
  | n + 1 => by rw [List.replicate_succ, List.replicate_succ, List.flatten_cons, List.flatten_cons]; exact dpa_app h (dpa_rep h n)
theorem dpa_ints {A : Hp} : ∀ {ds : List PyData} {vs : List V} {ns : List Int}, DqAll K A vs ds → asInts ds = some ns → vs = ns.map V.int
  | [], _, ns, h, e => by cases h; simp [asInts] at e; subst e; rfl
  | d :: ds, _, ns, h, e => by
    cases h with
    | cons h1 h2 =>
      cases d <;> simp [asInts] at e
      obtain ⟨ms, e1, e2⟩ := e
      subst e2
      cases h1
      rw [dpa_ints h2 e1]; rfl
theorem dpa_bools {A : Hp} : ∀ {ds : List PyData} {vs : List V} {ns : List Bool}, DqAll K A vs ds → asBools ds = some ns → vs = ns.map V.bl
  | [], _, ns, h, e => by cases h; simp [asBools] at e; subst e; rfl
  | d :: ds, _, ns, h, e => by
    cases h with
    | cons h1 h2 =>
      cases d <;> simp [asBools] at e
      obtain ⟨ms, e1, e2⟩ := e
      subst e2
      cases h1
      rw [dpa_bools h2 e1]; rfl
theorem dpa_ofInts {A : Hp} : ∀ ns : List Int, DqAll K A (ns.map V.int) (ofInts ns)
  | [] => .nil
  | n :: ns => .cons (.int n) (dpa_ofInts ns)
end

/-! ### the states -/
def MoR (K : PySem.W.Frag) (Φ H : Hp) (a : Addr) : Mo → Prop
  | .l ds => ∃ xs, H a = some (.lst xs) ∧ DqAll K Φ xs ds
/-- Z: what others hold; F: what never changes; u: where the changing lists stand -/
structure HR (K : PySem.W.Frag) (Z Φ : Hp) (u : List Addr) (H : Hp) (h : MH) : Prop where
  rs : Le Z H
  ds : ∀ a o, Z a = some o → Φ a = none ∧ a ∉ u
  sub : Le Φ H
  len : u.length = h.length
  nd : u.Nodup
  obj : ∀ (k : Nat) (m : Mo), h[k]? = some m → ∃ a, u[k]? = some a ∧ Φ a = none ∧ MoR K Φ H a m
def VR (K : PySem.W.Frag) (Φ : Hp) (u : List Addr) (v : V) : Vl → Prop
  | .d x => Dq K Φ v x
  | .r k => ∃ a, u[k]? = some a ∧ v = .ref a
  | .s ns => ∃ a, v = .ref a ∧ SqL K Φ a (ns.map V.int)
def VRs (K : PySem.W.Frag) (Φ : Hp) (u : List Addr) : List V → List Vl → Prop
  | [], [] => True
  | v :: vs, x :: xs => VR K Φ u v x ∧ VRs K Φ u vs xs
  | _, _ => False
structure ER (K : PySem.W.Frag) (Φ : Hp) (u : List Addr) (σ : L2.St) (e : Ev) : Prop where
  len : σ.length = e.length
  at_ : ∀ (i : Nat) (x : Vl), e[i]? = some (some x) → ∃ v, σ[i]? = some (some v) ∧ VR K Φ u v x
structure Ext (Φ : Hp) (u : List Addr) (Φ' : Hp) (u' : List Addr) : Prop where
  le : Le Φ Φ'
  pre : u <+: u'
structure NewOf (Φ H Φ' H' : Hp) : Prop where
  le : Le Φ Φ'
  leH : Le H H'
  sub : Le Φ' H'
  new : ∀ a o, Φ' a = some o → Φ a = some o ∨ H a = none
section
variable {K : PySem.W.Frag} {Z Φ Φ' Φ'' H H' : Hp} {u u' u'' : List Addr} {h h' : MH} {σ : L2.St} {e : Ev}
theorem Ext.refl : Ext Φ u Φ u := ⟨Le.refl, List.prefix_refl _⟩
theorem Ext.trans (a : Ext Φ u Φ' u') (b : Ext Φ' u' Φ'' u'') : Ext Φ u Φ'' u'' := ⟨a.le.trans b.le, a.pre.trans b.pre⟩
theorem pre_get {α : Type} {u u' : List α} (p : u <+: u') {k : Nat} {a : α} (q : u[k]? = some a) : u'[k]? = some a := by
  obtain ⟨t, rfl⟩ := p
  rw [List.getElem?_append_left (List.getElem?_eq_some_iff.mp q).1]; exact q
theorem VR.mono (x : Ext Φ u Φ' u') {v : V} : ∀ {y : Vl}, VR K Φ u v y → VR K Φ' u' v y
  | .d y, h => dq_mono x.le y v h
  | .r k, ⟨a, q, r⟩ => ⟨a, pre_get x.pre q, r⟩
  | .s ns, ⟨a, q, r⟩ => ⟨a, q, sql_mono x.le r⟩
theorem VRs.mono (x : Ext Φ u Φ' u') : ∀ {vs : List V} {ys : List Vl}, VRs K Φ u vs ys → VRs K Φ' u' vs ys
  | [], [], _ => trivial
  | _ :: _, _ :: _, ⟨a, b⟩ => ⟨a.mono x, VRs.mono x b⟩
theorem VRs.len : ∀ {vs : List V} {ys : List Vl}, VRs K Φ u vs ys → vs.length = ys.length
  | [], [], _ => rfl
  | _ :: _, _ :: _, ⟨a, b⟩ => by simp [VRs.len b]
theorem ER.mono (x : Ext Φ u Φ' u') (r : ER K Φ u σ e) : ER K Φ' u' σ e := ⟨r.len, fun i y q => let ⟨v, a, b⟩ := r.at_ i y q; ⟨v, a, b.mono x⟩⟩
theorem ER.set {i : Nat} {v : V} {x : Vl} (r : ER K Φ u σ e) (q : VR K Φ u v x) : ER K Φ u (σ.set i (some v)) (e.set i (some x)) := by
  refine ⟨by simp [r.len], fun j y z => ?_⟩
  by_cases hj : i = j
  · subst hj
    by_cases hi : i < e.length
    · rw [List.getElem?_set_self hi] at z
      cases z
      exact ⟨v, List.getElem?_set_self (by rw [r.len]; exact hi), q⟩
    · rw [List.getElem?_eq_none (by simpa using hi)] at z; cases z
  · rw [List.getElem?_set_ne hj] at z ⊢
    exact r.at_ j y z
theorem ER.wipe {i : List Nat} (r : ER K Φ u σ e) {e' : Ev} (h : ER K Φ u (wipe σ i) e') : e'.length = e.length := by
  rw [← h.len, wipe_length, r.len]
theorem HR.at_ (r : HR K Z Φ u H h) {k : Nat} {xs : List PyData} (q : h[k]? = some (.l xs)) : ∃ a vs, u[k]? = some a ∧ Φ a = none ∧ H a = some (.lst vs) ∧ DqAll K Φ vs xs := by
  obtain ⟨a, h1, h2, vs, h3, h4⟩ := r.obj k _ q
  exact ⟨a, vs, h1, h2, h3, h4⟩
theorem HR.new (r : HR K Z Φ u H h) (n : NewOf Φ H Φ' H') : HR K Z Φ' u H' h := by
  refine ⟨r.rs.trans n.leH, fun a o q => ⟨?_, (r.ds a o q).2⟩, n.sub, r.len, r.nd, fun k m q => ?_⟩
  · cases z : Φ' a with
    | none => rfl
    | some v =>
      rcases n.new a v z with y | y
      · rw [(r.ds a o q).1] at y; cases y
      · rw [r.rs a o q] at y; cases y
  obtain ⟨a, h1, h2, h3⟩ := r.obj k m q
  cases m with
  | l ds =>
    obtain ⟨xs, h3, h4⟩ := h3
    refine ⟨a, h1, ?_, xs, n.leH _ _ h3, dpa_mono n.le _ _ h4⟩
    cases z : Φ' a with
    | none => rfl
    | some o =>
      rcases n.new a o z with y | y
      · rw [h2] at y; cases y
      · rw [h3] at y; cases y
theorem NewOf.refl (s : Le Φ H) : NewOf Φ H Φ H := ⟨Le.refl, Le.refl, s, fun _ _ q => .inl q⟩
theorem upd_le {p : Addr} {o : HO} (n : H p = none) : Le H (upd H p o) := fun a v q => by
  rw [upd_ne (ne_of_none q n)]; exact q
theorem none_sub (s : Le Φ H) {p : Addr} (n : H p = none) : Φ p = none := by
  cases z : Φ p with
  | none => rfl
  | some o => rw [s _ _ z] at n; cases n
theorem NewOf.upd (s : Le Φ H) {p : Addr} {o : HO} (n : H p = none) : NewOf Φ H (upd Φ p o) (upd H p o) := by
  refine ⟨upd_le (none_sub s n), upd_le n, fun a v q => ?_, fun a v q => ?_⟩
  · by_cases hp : a = p
    · subst hp; rw [upd_same] at q ⊢; exact q
    · rw [upd_ne hp] at q ⊢; exact s _ _ q
  · by_cases hp : a = p
    · subst hp; exact .inr n
    · rw [upd_ne hp] at q; exact .inl q
/-- a new list that may change -/
theorem HR.lay (r : HR K Z Φ u H h) {p : Addr} {xs : List V} {ds : List PyData} (n : H p = none) (d : DqAll K Φ xs ds) : HR K Z Φ (u ++ [p]) (L2.upd H p (.lst xs)) (h ++ [.l ds]) := by
  have np : ∀ k a, u[k]? = some a → a ≠ p := fun k a q z => by
    subst z
    have hk : k < h.length := by rw [← r.len]; exact (List.getElem?_eq_some_iff.mp q).1
    obtain ⟨a, h1, _, h3⟩ := r.obj k _ (List.getElem?_eq_getElem hk)
    rw [q] at h1; cases h1
    cases hm : h[k] with
    | l ds =>
      rw [hm] at h3
      obtain ⟨xs, h3, _⟩ := h3
      rw [n] at h3; cases h3
  refine ⟨r.rs.trans (upd_le n), fun a o q => ⟨(r.ds a o q).1, fun z => ?_⟩, r.sub.trans (upd_le n), by simp [r.len], ?_, fun k m q => ?_⟩
  · rcases List.mem_append.mp z with z | z
    · exact (r.ds a o q).2 z
    · have : a = p := by simpa using z
      subst this
      rw [r.rs a o q] at n; cases n
  · rw [List.nodup_append]
    refine ⟨r.nd, by simp, fun a ha b hb => ?_⟩
    obtain ⟨k, hk⟩ := List.getElem?_of_mem ha
    have : b = p := by simpa using hb
    rw [this]
    exact np k a hk
  · by_cases hk : k < h.length
    · rw [List.getElem?_append_left hk] at q
      obtain ⟨a, h1, h2, h3⟩ := r.obj k m q
      refine ⟨a, by rw [List.getElem?_append_left (List.getElem?_eq_some_iff.mp h1).1]; exact h1, h2, ?_⟩
      cases m with
      | l es =>
        obtain ⟨ys, h3, h4⟩ := h3
        exact ⟨ys, by rw [upd_ne (np k a h1)]; exact h3, h4⟩
    · have hk2 : k = h.length := by
        have := (List.getElem?_eq_some_iff.mp q).1
        simp at this; omega
      subst hk2
      rw [List.getElem?_append_right (Nat.le_refl _)] at q
      simp at q
      subst q
      refine ⟨p, ?_, none_sub r.sub n, xs, upd_same, d⟩
      rw [← r.len, List.getElem?_append_right (Nat.le_refl _)]; simp
/-- a list changes -/
theorem HR.put (r : HR K Z Φ u H h) {k : Nat} {a : Addr} {xs ys : List V} {ds es : List PyData} (hk : u[k]? = some a) (ha : Φ a = none) (d : DqAll K Φ ys es) : HR K Z Φ u (L2.upd H a (.lst ys)) (h.set k (.l es)) := by
  refine ⟨fun b o q => ?_, r.ds, fun b o q => ?_, by simp [r.len], r.nd, fun j m q => ?_⟩
  · have hb : b ≠ a := fun z => (r.ds b o q).2 (z ▸ List.mem_of_getElem? hk)
    rw [upd_ne hb]; exact r.rs _ _ q
  · by_cases hb : b = a
    · subst hb; rw [ha] at q; cases q
    · rw [upd_ne hb]; exact r.sub _ _ q
  · have hkl : k < h.length := by rw [← r.len]; exact (List.getElem?_eq_some_iff.mp hk).1
    by_cases hj : k = j
    · subst hj
      rw [List.getElem?_set_self hkl] at q
      cases q
      exact ⟨a, hk, ha, ys, upd_same, d⟩
    · rw [List.getElem?_set_ne hj] at q
      obtain ⟨b, h1, h2, h3⟩ := r.obj j m q
      refine ⟨b, h1, h2, ?_⟩
      have hb : b ≠ a := fun z => by
        subst z
        obtain ⟨l1, e1⟩ := List.getElem?_eq_some_iff.mp h1
        obtain ⟨l2, e2⟩ := List.getElem?_eq_some_iff.mp hk
        exact hj ((List.getElem_inj r.nd).mp (e2.trans e1.symm))
      cases m with
      | l es =>
        obtain ⟨zs, h3, h4⟩ := h3
        exact ⟨zs, by rw [upd_ne hb]; exact h3, h4⟩
theorem HR.take (r : HR K Z Φ u H h) (n : Nat) : HR K Z Φ (u.take n) H (h.take n) := by
  refine ⟨r.rs, fun a o q => ⟨(r.ds a o q).1, fun z => (r.ds a o q).2 (List.mem_of_mem_take z)⟩, r.sub, by simp [r.len], r.nd.sublist (List.take_sublist _ _), fun k m q => ?_⟩
  have hk : k < n := by
    have := (List.getElem?_eq_some_iff.mp q).1
    rw [List.length_take] at this; omega
  rw [List.getElem?_take_of_lt hk] at q
  obtain ⟨a, h1, h2, h3⟩ := r.obj k m q
  exact ⟨a, by rw [List.getElem?_take_of_lt hk]; exact h1, h2, h3⟩

/-! ### what a value shows -/
def Sn (K : PySem.W.Frag) (Φ H : Hp) (v : V) (d : PyData) : Prop :=
  Dq K Φ v d ∨ ∃ a xs ds, v = .ref a ∧ d = .list ds ∧ H a = some (.lst xs) ∧ DqAll K Φ xs ds
theorem Sn.dq {v : V} {d : PyData} (s : Le Φ H) (x : Sn K Φ H v d) : Dq K H v d := by
  rcases x with x | ⟨a, xs, ds, rfl, rfl, h1, h2⟩
  · exact dq_mono s _ _ x
  · exact .lst h1 (dpa_mono s _ _ h2)
theorem snap_sn (r : HR K Z Φ u H h) {v : V} {x : Vl} {d : PyData} (q : VR K Φ u v x) (e : snap h x = some d) : Sn K Φ H v d := by
  cases x with
  | d x => simp [snap] at e; subst e; exact .inl q
  | r k =>
    obtain ⟨a, h1, rfl⟩ := q
    simp only [snap] at e
    split at e
    · rename_i xs hx
      cases e
      obtain ⟨b, vs, g1, _, g3, g4⟩ := r.at_ hx
      rw [h1] at g1; cases g1
      exact .inr ⟨a, vs, xs, rfl, rfl, g3, g4⟩
    · cases e
  | s ns => simp [snap] at e
def Sns (K : PySem.W.Frag) (Φ H : Hp) : List V → List PyData → Prop
  | [], [] => True
  | v :: vs, x :: xs => Sn K Φ H v x ∧ Sns K Φ H vs xs
  | _, _ => False
theorem snaps_sns (r : HR K Z Φ u H h) : ∀ {vs : List V} {xs : List Vl} {ds : List PyData}, VRs K Φ u vs xs → snaps h xs = some ds → Sns K Φ H vs ds
  | [], [], ds, _, e => by simp [snaps] at e; subst e; trivial
  | v :: vs, x :: xs, ds, ⟨q1, q2⟩, e => by
    simp only [snaps] at e
    split at e
    · rename_i d es h1 h2
      cases e
      exact ⟨snap_sn r q1 h1, snaps_sns r q2 h2⟩
    · cases e
theorem datas_dpa : ∀ {vs : List V} {xs : List Vl} {ds : List PyData}, VRs K Φ u vs xs → datas xs = some ds → DqAll K Φ vs ds
  | [], [], ds, _, e => by simp [datas] at e; subst e; exact .nil
  | v :: vs, .d x :: xs, ds, ⟨q1, q2⟩, e => by
    simp [datas] at e
    obtain ⟨es, e1, rfl⟩ := e
    exact .cons q1 (datas_dpa q2 e1)
  | v :: vs, .r k :: xs, ds, _, e => by simp [datas] at e
  | v :: vs, .s k :: xs, ds, _, e => by simp [datas] at e
theorem Sn.lst {v : V} {ds : List PyData} (s : Le Φ H) (x : Sn K Φ H v (.list ds)) : ∃ a xs, v = .ref a ∧ H a = some (.lst xs) ∧ DqAll K Φ xs ds := by
  rcases x with x | ⟨a, xs, es, rfl, e, h1, h2⟩
  · cases x with
    | lst h1 h2 => exact ⟨_, _, rfl, s _ _ h1, h2⟩
  · cases e; exact ⟨a, xs, rfl, h1, h2⟩
theorem Sn.tup {v : V} {ds : List PyData} (x : Sn K Φ H v (.tuple ds)) : ∃ a xs, v = .ref a ∧ SqT K Φ a xs ∧ DqAll K Φ xs ds := by
  rcases x with x | ⟨a, xs, es, rfl, e, h1, h2⟩
  · cases x with
    | tup h1 h2 => exact ⟨_, _, rfl, h1, h2⟩
  · cases e
theorem Sn.int {v : V} {i : Int} (x : Sn K Φ H v (.int i)) : v = .int i := by
  rcases x with x | ⟨a, xs, es, rfl, e, h1, h2⟩
  · cases x; rfl
  · cases e
theorem Sn.bl {v : V} {i : Bool} (x : Sn K Φ H v (.bool i)) : v = .bl i := by
  rcases x with x | ⟨a, xs, es, rfl, e, h1, h2⟩
  · cases x; rfl
  · cases e
theorem Sn.str {v : V} {i : Str} (x : Sn K Φ H v (.str i)) : v = .str i := by
  rcases x with x | ⟨a, xs, es, rfl, e, h1, h2⟩
  · cases x; rfl
  · cases e
theorem Sn.non {v : V} (x : Sn K Φ H v .none) : v = .non := by
  rcases x with x | ⟨a, xs, es, rfl, e, h1, h2⟩
  · cases x; rfl
  · cases e
theorem sn_dict {v : V} {kv : List (PyData × PyData)} (x : Sn K Φ H v (.dict kv)) : False := by
  rcases x with x | ⟨a, xs, es, rfl, e, h1, h2⟩
  · cases x
  · cases e
end

/-! ### exceptions, ends -/
/-- where the exception classes stand; which attribute they bear -/
structure Xa where
  nx : Nat
  cA : Nat → Addr
  cN : Nat → Option Str
def XR (K : PySem.W.Frag) (xa : Xa) (Φ H : Hp) (cl : Value) (dd : Option Addr) (c : Nat) (d : PyData) : Prop :=
  (cl = .ref (xa.cA c) ∧ c < xa.nx) ∧ match xa.cN c with
    | none => dd = none
    | some nm => ∃ da v, dd = some da ∧ H da = some (.xd [(nm, v)]) ∧ Dq K Φ v d
section
variable (K : PySem.W.Frag) (xa : Xa)
/-- what is wanted of a result -/
def Po {α : Type} (Wx : Value → Option Addr → Hp → Prop) (Z Φ : Hp) (u : List Addr) (r : Rs α) (Q : α → MH → Hp → List Addr → Hp → Prop) : Prop :=
  match r with
  | .ok a h' => ∀ Φ' u' H', Ext Φ u Φ' u' → HR K Z Φ' u' H' h' → Q a h' Φ' u' H'
  | .ex c d h' => ∀ Φ' u' H' cl dd, Ext Φ u Φ' u' → HR K Z Φ' u' H' h' → XR K xa Φ' H' cl dd c d → Wx cl dd H'
  | .no => False
def teOf (W : WX) (f : Ev → MH → Rs Vl) : TE := fun σ H Q =>
  ∃ Z Φ u e h, HR K Z Φ u H h ∧ ER K Φ u σ e ∧ Po K xa (fun cl dd H => W cl dd σ H) Z Φ u (f e h) fun x _ Φ' u' H' => ∀ v, VR K Φ' u' v x → Q v H'
def taOf (W : WX) (f : Ev → MH → Rs (List Vl)) : TA := fun σ H Q =>
  ∃ Z Φ u e h, HR K Z Φ u H h ∧ ER K Φ u σ e ∧ Po K xa (fun cl dd H => W cl dd σ H) Z Φ u (f e h) fun x _ Φ' u' H' => ∀ v, VRs K Φ' u' v x → Q v H'
def ttOf (W : WX) (f : Ev → MH → Rs Vl) : TT := fun σ H Q =>
  ∃ Z Φ u e h, HR K Z Φ u H h ∧ ER K Φ u σ e ∧ Po K xa (fun cl dd H => W cl dd σ H) Z Φ u (f e h) fun x _ Φ' u' H' => ∃ b, x = .d (.bool b) ∧ Q b H'
end
section
variable {K : PySem.W.Frag} {xa : Xa} {Wx : Value → Option Addr → Hp → Prop} {Z Φ Φ' : Hp} {u u' : List Addr}
theorem Po.mono {α : Type} {r : Rs α} {Q Q' : α → MH → Hp → List Addr → Hp → Prop} (p : Po K xa Wx Z Φ u r Q)
    (hq : ∀ a h' Φ' u' H', Ext Φ u Φ' u' → HR K Z Φ' u' H' h' → Q a h' Φ' u' H' → Q' a h' Φ' u' H') : Po K xa Wx Z Φ u r Q' := by
  cases r with
  | ok a h' => exact fun Φ' u' H' x y => hq a h' Φ' u' H' x y (p Φ' u' H' x y)
  | ex c d h' => exact p
  | no => exact p
theorem Po.ext {α : Type} {r : Rs α} {Q : α → MH → Hp → List Addr → Hp → Prop} (p : Po K xa Wx Z Φ u r Q) (x : Ext Φ u Φ' u') : Po K xa Wx Z Φ' u' r Q := by
  cases r with
  | ok a h' => exact fun Φ'' u'' H' y z => p Φ'' u'' H' (x.trans y) z
  | ex c d h' => exact fun Φ'' u'' H' cl dd y z w => p Φ'' u'' H' cl dd (x.trans y) z w
  | no => exact p
theorem Po.bind {α β : Type} {r : Rs α} {f : α → MH → Rs β} {Q : β → MH → Hp → List Addr → Hp → Prop} (p : Po K xa Wx Z Φ u (r.bind f) Q) :
    Po K xa Wx Z Φ u r fun a h' Φ' u' H' => Ext Φ u Φ' u' ∧ HR K Z Φ' u' H' h' ∧ Po K xa Wx Z Φ' u' (f a h') Q := by
  cases r with
  | ok a h' => exact fun Φ' u' H' x y => ⟨x, y, p.ext x⟩
  | ex c d h' => exact p
  | no => exact p
end
end Mn

/-! MnC: the operators and built-ins that change nothing, by values. -/
namespace Mn
open PySem L2 PySem.Spec PyProof.Rows
section
variable {K : PySem.W.Frag} {Φ Φ' H : Hp} {Q : VK}
/-- what must hold of a result -/
def Out (K : PySem.W.Frag) (Φ H : Hp) (e : PyData) (Q : VK) : Prop := ∀ Φ' H' v, NewOf Φ H Φ' H' → Dq K Φ' v e → Q v H'
def OutL (K : PySem.W.Frag) (Φ H : Hp) (es : List PyData) (Q : VK) : Prop := ∀ p xs, DqAll K Φ xs es → H p = none → Q (.ref p) (upd H p (.lst xs))
def OutP (fr : Bool) (K : PySem.W.Frag) (Φ H : Hp) (e : PyData) (Q : VK) : Prop :=
  match fr, e with
  | true, .list es => OutL K Φ H es Q
  | _, _ => Out K Φ H e Q
theorem Out.val (o : Out K Φ H e Q) (s : Le Φ H) {v : V} (q : Dq K Φ v e) : Q v H := o Φ H v (NewOf.refl s) q
theorem Out.tup {es : List PyData} (o : Out K Φ H (.tuple es) Q) (s : Le Φ H) {xs : List V} (q : DqAll K Φ xs es) {p : Addr} (n : H p = none) : Q (.ref p) (upd H p (.tup xs)) :=
  o _ _ _ (NewOf.upd s n) (.tup (SqT.of upd_same) (dpa_mono (NewOf.upd (o := .tup xs) s n).le _ _ q))
theorem Out.lst {es : List PyData} (o : Out K Φ H (.list es) Q) (s : Le Φ H) {xs : List V} (q : DqAll K Φ xs es) {p : Addr} (n : H p = none) : Q (.ref p) (upd H p (.lst xs)) :=
  o _ _ _ (NewOf.upd s n) (.lst upd_same (dpa_mono (NewOf.upd (o := .lst xs) s n).le _ _ q))
theorem mkR_out {xa : Xa} {Wx : Value → Option Addr → Hp → Prop} {Z : Hp} {u : List Addr} {h : MH} {m fr : Bool} {r : PyData} (R : HR K Z Φ u H h)
    (p : Po K xa Wx Z Φ u (mkR m fr r h) fun x _ Φ' u' H' => ∀ v, VR K Φ' u' v x → Q v H') : OutP fr K Φ H r Q := by
  cases m with
  | false =>
    have p : Po K xa Wx Z Φ u (.ok (.d r) h) fun x _ Φ' u' H' => ∀ v, VR K Φ' u' v x → Q v H' := p
    have g : Out K Φ H r Q := fun Φ' H' v n q => p Φ' u H' ⟨n.le, List.prefix_refl _⟩ (R.new n) v q
    unfold OutP
    split
    · exact fun p xs q n => g.lst R.sub q n
    · exact g
  | true =>
    cases fr with
    | false => exact False.elim p
    | true =>
      cases r with
      | list es =>
        have p : Po K xa Wx Z Φ u (.ok (.r h.length) (h ++ [.l es])) fun x _ Φ' u' H' => ∀ v, VR K Φ' u' v x → Q v H' := p
        intro a xs q n
        refine p Φ (u ++ [a]) _ ⟨Le.refl, List.prefix_append _ _⟩ (R.lay n q) (.ref a) ⟨a, ?_, rfl⟩
        rw [← R.len, List.getElem?_append_right (Nat.le_refl _)]; simp
      | _ => exact False.elim p
end

/-! ### data by kinds -/
section
variable {K : PySem.W.Frag} {Φ H : Hp}
theorem dq_flat {v : V} {d : PyData} (h : Dq K Φ v d) (f : flatD d = true) : flatV v = true := by
  cases h <;> simp_all [flatD, flatV]
theorem sn_flat {v : V} {d : PyData} (h : Sn K Φ H v d) (f : flatD d = true) : flatV v = true := by
  rcases h with h | ⟨a, xs, ds, rfl, rfl, _, _⟩
  · exact dq_flat h f
  · simp [flatD] at f
theorem eqV_eqv {v w : V} {d e : PyData} (h : Dq K Φ v d) (g : Dq K Φ w e) (f : flatD d = true) (f' : flatD e = true) : eqV v w = PyData.eqv d e := by
  cases h <;> simp [flatD] at f <;> cases g <;> simp [flatD] at f' <;> simp [eqV, PyData.eqv]
theorem dqa_flat : ∀ {ds : List PyData} {vs : List V}, DqAll K Φ vs ds → ds.all flatD = true → vs.all flatV = true
  | [], _, h, _ => by cases h; rfl
  | d :: ds, _, h, f => by
    cases h with
    | cons h1 h2 =>
      simp only [List.all_cons, Bool.and_eq_true] at f ⊢
      exact ⟨dq_flat h1 f.1, dqa_flat h2 f.2⟩
theorem any_eqv {w : V} {e : PyData} (g : Dq K Φ w e) (f' : flatD e = true) : ∀ {ds : List PyData} {vs : List V}, DqAll K Φ vs ds → ds.all flatD = true → inV w vs = ds.any fun y => PyData.eqv y e
  | [], _, h, _ => by cases h; rfl
  | d :: ds, _, h, f => by
    cases h with
    | cons h1 h2 =>
      simp only [List.all_cons, Bool.and_eq_true] at f
      have ih := any_eqv g f' h2 f.2
      simp only [inV, List.any_cons] at ih ⊢
      rw [ih, eqV_eqv h1 g f.1 f']
theorem sn_flatDq {v : V} {d : PyData} (h : Sn K Φ H v d) (f : flatD d = true) : Dq K Φ v d := by
  rcases h with h | ⟨a, xs, ds, rfl, rfl, _, _⟩
  · exact h
  · simp [flatD] at f
theorem shaped_of {d : PyData} (h : eqOk d = true) : SeqAt.shaped d = true := by
  simp only [eqOk, Bool.and_eq_true, decide_eq_true_eq] at h
  show (d.canLay0 && decide (d.depth ≤ 64)) = true
  rw [h.1, Bool.true_and]
  exact decide_eq_true (by omega)
theorem atI_rel {xs : List V} {ds : List PyData} {i : Int} {d : PyData} (h : DqAll K Φ xs ds) (e : atI ds i = some d) : ∃ v, atI xs i = some v ∧ Dq K Φ v d := by
  unfold atI at e ⊢
  rw [dpa_len h]
  cases q : ixN ds.length i with
  | none => rw [q] at e; cases e
  | some j =>
    rw [q] at e
    exact dpa_get h e
theorem cut_rel {xs : List V} {ds : List PyData} (h : DqAll K Φ xs ds) (lo hi : Option Int) : DqAll K Φ (cutV xs lo hi) (cut ds lo hi) := by
  unfold cutV cut
  rw [dpa_len h]
  exact dpa_take _ (dpa_drop _ h)
theorem rep_line {n : Nat} (h : n ≤ 2 ^ 20) : n ≤ sizeLine := by rw [sizeLine_eq]; omega
end

/-! ### two arguments -/
def S2 (X : Cx) (f : Pf) (r : R2) : Prop := ∀ Φ H x y d d' e Q, Le Φ H → Sn X.K Φ H x d → Sn X.K Φ H y d' → pf f [d, d'] = some e → OutP (fresh f) X.K Φ H e Q → r x y H Q
section
variable {X : Cx}
theorem s2_add : ∃ r, OpR X (binaryOp .Add) r ∧ S2 X .add r := by
  refine ⟨_, (op_add.or op_add_str).or (op_catA.or op_cat), fun Φ H x y d d' e Q s hx hy h o => ?_⟩
  cases d <;> cases d' <;> simp only [pf] at h <;> try (cases h; done)
  · cases h
    exact .inl (.inl ⟨_, _, hx.int, hy.int, Out.val o s (.int _)⟩)
  · split at h
    · rename_i hl
      cases h
      exact .inl (.inr ⟨_, _, hx.str, hy.str, rep_line hl, Out.val o s (.str _)⟩)
    · cases h
  · split at h
    · rename_i hl
      cases h
      obtain ⟨a, xs, rfl, h1, h2⟩ := hx.lst s
      obtain ⟨b, ys, rfl, h3, h4⟩ := hy.lst s
      exact .inr (.inr ⟨a, b, xs, ys, rfl, rfl, h1, h3, by rw [dpa_len h2, dpa_len h4]; exact rep_line hl, fun p n => o p _ (dpa_app h2 h4) n⟩)
    · cases h
  · split at h
    · rename_i hl
      cases h
      have o : Out X.K Φ H _ Q := o
      obtain ⟨a, xs, rfl, h1, h2⟩ := hx.tup
      obtain ⟨b, ys, rfl, h3, h4⟩ := hy.tup
      refine .inr (.inl ⟨a, b, xs, ys, rfl, rfl, sqt_mono s h1, sqt_mono s h3, by rw [dpa_len h2, dpa_len h4]; exact rep_line hl, fun z => ?_, fun _ z => ?_, fun _ _ p n => o.tup s (dpa_app h2 h4) n⟩)
      · subst z
        cases h2
        exact o.val s (.tup h3 h4)
      · subst z
        cases h4
        rw [List.append_nil] at o
        exact o.val s (.tup h1 h2)
    · cases h
theorem s2_sub : ∃ r, OpR X (binaryOp .Sub) r ∧ S2 X .sub r := by
  refine ⟨_, op_sub, fun Φ H x y d d' e Q s hx hy h o => ?_⟩
  cases d <;> cases d' <;> simp only [pf] at h <;> try (cases h; done)
  cases h
  exact ⟨_, _, hx.int, hy.int, Out.val o s (.int _)⟩
theorem s2_fdiv : ∃ r, OpR X (binaryOp .FloorDiv) r ∧ S2 X .fdiv r := by
  refine ⟨_, op_fdiv, fun Φ H x y d d' e Q s hx hy h o => ?_⟩
  cases d <;> cases d' <;> simp only [pf] at h <;> try (cases h; done)
  rename_i i j
  split at h
  · rename_i hl
    cases h
    exact ⟨i, j, hx.int, hy.int, show 0 < j ∧ j < 1073741824 from of_decide_eq_true hl, Out.val o s (.int _)⟩
  · cases h
theorem s2_mod : ∃ r, OpR X (binaryOp .Mod) r ∧ S2 X .mod r := by
  refine ⟨_, op_mod, fun Φ H x y d d' e Q s hx hy h o => ?_⟩
  cases d <;> cases d' <;> simp only [pf] at h <;> try (cases h; done)
  split at h
  · rename_i hl
    cases h
    exact ⟨_, _, hx.int, hy.int, of_decide_eq_true hl, Out.val o s (.int _)⟩
  · cases h
theorem s2_eq (hu : X.A.units + 64 < cLine) : ∃ r, OpR X (compareOp .Eq) r ∧ S2 X .eq r := by
  refine ⟨_, op_eq.or (op_eqD hu), fun Φ H x y d d' e Q s hx hy h o => ?_⟩
  by_cases z : ∃ a b, d = .str a ∧ d' = .str b
  · obtain ⟨a, b, rfl, rfl⟩ := z
    simp only [pf] at h
    cases h
    have e1 := hx.str
    have e2 := hy.str
    subst e1; subst e2
    refine .inl ⟨rfl, ?_⟩
    have := Out.val o s (.bl (decide (a = b)))
    have e : decide (V.str a = V.str b) = decide (a = b) := by simp
    rw [e]
    exact this
  · have h : (if (eqOk d && eqOk d') = true then some (PyData.bool (PyData.eqv d d')) else none) = some e := by
      rw [← h]
      cases d <;> cases d' <;> first | rfl | exact absurd ⟨_, _, rfl, rfl⟩ z
    split at h
    · rename_i hl
      cases h
      rw [Bool.and_eq_true] at hl
      exact .inr ⟨d, d', dq_dp _ _ (hx.dq s), dq_dp _ _ (hy.dq s), shaped_of hl.1, shaped_of hl.2, Out.val o s (.bl _)⟩
    · cases h
theorem s2_ne (hu : X.A.units + 64 < cLine) : ∃ r, OpR X (compareOp .NotEq) r ∧ S2 X .ne r := by
  refine ⟨_, op_ne.or (op_neD hu), fun Φ H x y d d' e Q s hx hy h o => ?_⟩
  by_cases z : ∃ a b, d = .str a ∧ d' = .str b
  · obtain ⟨a, b, rfl, rfl⟩ := z
    simp only [pf] at h
    cases h
    have e1 := hx.str
    have e2 := hy.str
    subst e1; subst e2
    refine .inl ⟨rfl, ?_⟩
    have := Out.val o s (.bl (!decide (a = b)))
    have e : decide (V.str a = V.str b) = decide (a = b) := by simp
    rw [e]
    exact this
  · have h : (if (eqOk d && eqOk d') = true then some (PyData.bool (!PyData.eqv d d')) else none) = some e := by
      rw [← h]
      cases d <;> cases d' <;> first | rfl | exact absurd ⟨_, _, rfl, rfl⟩ z
    split at h
    · rename_i hl
      cases h
      rw [Bool.and_eq_true] at hl
      exact .inr ⟨d, d', dq_dp _ _ (hx.dq s), dq_dp _ _ (hy.dq s), shaped_of hl.1, shaped_of hl.2, Out.val o s (.bl _)⟩
    · cases h
/-- the order of data of one kind -/
def rOrd (K : PySem.W.Frag) (g : PyData → PyData → Bool) : R2 := fun x y H Q => ∃ d e, Dp K H x d ∧ Dp K H y e ∧ PySem.W.alike d e = true ∧ d ≠ .none ∧ d.depth ≤ 60 ∧ Q (.bl (g d e)) H
theorem ord_min {u : Nat} (hu : u + 64 < cLine) {d e : PyData} (h : d.depth ≤ 60) : u + min d.depth e.depth < cLine := by
  have := Nat.min_le_left d.depth e.depth
  omega
theorem op_ltD (hu : X.A.units + 64 < cLine) : OpR X (compareOp .Lt) (rOrd X.K PySem.W.dataLt) := by
  intro pins s σ H x y v u Q I rx ry ⟨d, e, hd, he, h1, h2, h3, q⟩
  obtain ⟨as, r1⟩ := Dp.reads I d x v hd rx
  obtain ⟨bs, r2⟩ := Dp.reads I e y u he ry
  exact PySem.W.lt_data r1 r2 h1 h2 (ord_min hu h3) ⟨.bl _, H, I, rfl, q⟩
theorem op_gtD (hu : X.A.units + 64 < cLine) : OpR X (compareOp .Gt) (rOrd X.K fun d e => PySem.W.dataLt e d) := by
  intro pins s σ H x y v u Q I rx ry ⟨d, e, hd, he, h1, h2, h3, q⟩
  obtain ⟨as, r1⟩ := Dp.reads I d x v hd rx
  obtain ⟨bs, r2⟩ := Dp.reads I e y u he ry
  exact PySem.W.gt_data r1 r2 h1 h2 (ord_min hu h3) ⟨.bl _, H, I, rfl, q⟩
theorem op_leD (hu : X.A.units + 64 < cLine) : OpR X (compareOp .LtE) (rOrd X.K fun d e => !PySem.W.dataLt e d) := by
  intro pins s σ H x y v u Q I rx ry ⟨d, e, hd, he, h1, h2, h3, q⟩
  obtain ⟨as, r1⟩ := Dp.reads I d x v hd rx
  obtain ⟨bs, r2⟩ := Dp.reads I e y u he ry
  exact PySem.W.le_data r1 r2 h1 h2 (ord_min hu h3) ⟨.bl _, H, I, rfl, q⟩
theorem op_geD (hu : X.A.units + 64 < cLine) : OpR X (compareOp .GtE) (rOrd X.K fun d e => !PySem.W.dataLt d e) := by
  intro pins s σ H x y v u Q I rx ry ⟨d, e, hd, he, h1, h2, h3, q⟩
  obtain ⟨as, r1⟩ := Dp.reads I d x v hd rx
  obtain ⟨bs, r2⟩ := Dp.reads I e y u he ry
  exact PySem.W.ge_data r1 r2 h1 h2 (ord_min hu h3) ⟨.bl _, H, I, rfl, q⟩
theorem ordP_is {a b e : PyData} {r : Bool} (h : ordP a b r = some e) : e = .bool r ∧ PySem.W.alike a b = true ∧ a ≠ .none ∧ a.depth ≤ 60 := by
  unfold ordP at h
  split at h
  · rename_i q
    simp only [Bool.and_eq_true, decide_eq_true_eq, Bool.not_eq_true'] at q
    cases h
    exact ⟨rfl, q.1.1, fun z => by rw [z] at q; simp [isNone] at q, q.2⟩
  · cases h
theorem ord_go {Φ H : Hp} {x y : V} {d d' e : PyData} {Q : VK} {g : PyData → PyData → Bool} (s : Le Φ H) (hx : Sn X.K Φ H x d) (hy : Sn X.K Φ H y d') (h : ordP d d' (g d d') = some e) (o : Out X.K Φ H e Q) : rOrd X.K g x y H Q := by
  obtain ⟨rfl, h1, h2, h3⟩ := ordP_is h
  exact ⟨d, d', dq_dp _ _ (hx.dq s), dq_dp _ _ (hy.dq s), h1, h2, h3, o.val s (.bl _)⟩
/-- ints, or data of one kind -/
theorem ord_split {d d' : PyData} : (∃ a b, d = .int a ∧ d' = .int b) ∨ ¬ ∃ a b, d = .int a ∧ d' = .int b := Classical.em _
theorem s2_lt (hu : X.A.units + 64 < cLine) : ∃ r, OpR X (compareOp .Lt) r ∧ S2 X .lt r := by
  refine ⟨_, (op_lt.or (op_ltT (by omega))).or (op_ltD hu), fun Φ H x y d d' e Q s hx hy h o => ?_⟩
  rcases ord_split (d := d) (d' := d') with ⟨a, b, rfl, rfl⟩ | z
  · simp only [pf] at h
    cases h
    exact .inl (.inl ⟨_, _, hx.int, hy.int, Out.val o s (.bl _)⟩)
  · by_cases zt : ∃ a b ns ms, d = .tuple a ∧ d' = .tuple b ∧ asInts a = some ns ∧ asInts b = some ms
    · obtain ⟨a, b, ns, ms, rfl, rfl, e1, e2⟩ := zt
      simp only [pf, e1, e2] at h
      cases h
      obtain ⟨a', xs, rfl, h1, h2⟩ := hx.tup
      obtain ⟨b', ys, rfl, h3, h4⟩ := hy.tup
      have z1 := dpa_ints h2 e1
      have z2 := dpa_ints h4 e2
      subst z1 z2
      exact .inl (.inr ⟨a', b', ns, ms, rfl, rfl, sqt_mono s h1, sqt_mono s h3, Out.val o s (.bl _)⟩)
    · have h : ordP d d' (PySem.W.dataLt d d') = some e := by
        rw [← h]
        cases d <;> cases d' <;> first | rfl | (exact absurd ⟨_, _, rfl, rfl⟩ z) | skip
        rename_i a b
        simp only [pf]
        split
        · rename_i x y e1 e2
          exact absurd ⟨_, _, _, _, rfl, rfl, e1, e2⟩ zt
        · rfl
      exact .inr (ord_go s hx hy h o)
theorem s2_le (hu : X.A.units + 64 < cLine) : ∃ r, OpR X (compareOp .LtE) r ∧ S2 X .le r := by
  refine ⟨_, op_le.or (op_leD hu), fun Φ H x y d d' e Q s hx hy h o => ?_⟩
  rcases ord_split (d := d) (d' := d') with ⟨a, b, rfl, rfl⟩ | z
  · simp only [pf] at h
    cases h
    exact .inl ⟨_, _, hx.int, hy.int, Out.val o s (.bl _)⟩
  · have h : ordP d d' (!PySem.W.dataLt d' d) = some e := by
      rw [← h]
      cases d <;> cases d' <;> first | rfl | (exact absurd ⟨_, _, rfl, rfl⟩ z)
    exact .inr (ord_go s hx hy h o)
theorem s2_gt (hu : X.A.units + 64 < cLine) : ∃ r, OpR X (compareOp .Gt) r ∧ S2 X .gt r := by
  refine ⟨_, op_gt.or (op_gtD hu), fun Φ H x y d d' e Q s hx hy h o => ?_⟩
  rcases ord_split (d := d) (d' := d') with ⟨a, b, rfl, rfl⟩ | z
  · simp only [pf] at h
    cases h
    exact .inl ⟨_, _, hx.int, hy.int, Out.val o s (.bl _)⟩
  · have h : ordP d d' (PySem.W.dataLt d' d) = some e := by
      rw [← h]
      cases d <;> cases d' <;> first | rfl | (exact absurd ⟨_, _, rfl, rfl⟩ z)
    exact .inr (ord_go s hx hy h o)
theorem s2_ge (hu : X.A.units + 64 < cLine) : ∃ r, OpR X (compareOp .GtE) r ∧ S2 X .ge r := by
  refine ⟨_, op_ge.or (op_geD hu), fun Φ H x y d d' e Q s hx hy h o => ?_⟩
  rcases ord_split (d := d) (d' := d') with ⟨a, b, rfl, rfl⟩ | z
  · simp only [pf] at h
    cases h
    exact .inl ⟨_, _, hx.int, hy.int, Out.val o s (.bl _)⟩
  · have h : ordP d d' (!PySem.W.dataLt d d') = some e := by
      rw [← h]
      cases d <;> cases d' <;> first | rfl | (exact absurd ⟨_, _, rfl, rfl⟩ z)
    exact .inr (ord_go s hx hy h o)
/-! ### min, max of a list -/
theorem vals_getV {xs : List V} {us : List Value} {i : Nat} {u : Value} (r : Vals xs us) (h : us[i]? = some u) : ∃ x, xs[i]? = some x ∧ RelV x u := by
  have hi : i < us.length := (List.getElem?_eq_some_iff.mp h).1
  have hx : i < xs.length := by rw [r.length]; exact hi
  obtain ⟨u', h1, h2⟩ := r.get (List.getElem?_eq_getElem hx)
  rw [h] at h1
  cases h1
  exact ⟨_, List.getElem?_eq_getElem hx, h2⟩
def rMinD (K : PySem.W.Frag) (g : PyData → List PyData → PyData) : List V → Hp → VK → Prop := fun vs H Q => ∃ (a : Addr) (ys : List V) (x : PyData) (xs : List PyData), vs = [.ref a] ∧ SqL K H a ys ∧ DpAll K H ys (x :: xs) ∧ PySem.W.AlikeAll (x :: xs) ∧ PyData.depthAll (x :: xs) ≤ 60 ∧
  ∀ (i : Nat) (y : V), ys[i]? = some y → (x :: xs).getD i .none = g x xs → i < (x :: xs).length → Q y H
theorem cr_minD (hc : X.calm = true) (hu : X.A.units + 64 < cLine) : CallR X (.builtin "min") (rMinD X.K PySem.W.minD) := by
  intro pins s σ H vs us Q I r ⟨a, ys, x, xs, e, hs, hd, ha, hz, q⟩
  subst e
  obtain ⟨its, rv, hl, _⟩ := I.list hs
  rw [Vals.ref1 r]
  obtain ⟨as, hr⟩ := Dp.readsAll I (x :: xs) ys its hd rv
  have hr' : ReadsAll s.heap its.toArray.toList (x :: xs) as := by simpa using hr
  have hh := I.ok.hd hc
  have hn : its.toArray.size = xs.length + 1 := PySem.W.readsAll_len hr'
  refine PySem.call_min_walkH (PySem.W.iter_listW (A := X.A.in1) hh hl.isList fun s₂ e W st hfp hw hk => ?_)
  refine ⟨_, _, _, _, _, _, _, s.heap, _, rfl, W, st, hfp, by omega, hw, hk, PySem.W.cmpIn_lt (A := X.A.in1) hr' ha (by show X.A.units + 1 + _ < _; omega), fun v s' hP m => ?_⟩
  obtain ⟨h', tk, rfl, hk'⟩ := PySem.W.moved_old e rfl m
  have e1 : its.toArray.size - 1 = xs.length := by omega
  have e2 := PySem.W.argBest_fold PySem.W.dataLt PyData.none x xs xs.length (Nat.le_refl _)
  rw [List.take_length] at e2
  rw [e1] at hP
  have hP' : its[argBest (fun i j => PySem.W.dataLt ((x :: xs).getD i .none) ((x :: xs).getD j .none)) xs.length]? = some v := by simpa using hP
  obtain ⟨y, hy, ry⟩ := vals_getV rv hP'
  exact ⟨y, H, I.kept hk', ry, q _ y hy e2.2 (by have := e2.1; simp only [List.length_cons]; omega)⟩
theorem cr_maxD (hc : X.calm = true) (hu : X.A.units + 64 < cLine) : CallR X (.builtin "max") (rMinD X.K PySem.W.maxD) := by
  intro pins s σ H vs us Q I r ⟨a, ys, x, xs, e, hs, hd, ha, hz, q⟩
  subst e
  obtain ⟨its, rv, hl, _⟩ := I.list hs
  rw [Vals.ref1 r]
  obtain ⟨as, hr⟩ := Dp.readsAll I (x :: xs) ys its hd rv
  have hr' : ReadsAll s.heap its.toArray.toList (x :: xs) as := by simpa using hr
  have hh := I.ok.hd hc
  have hn : its.toArray.size = xs.length + 1 := PySem.W.readsAll_len hr'
  refine PySem.call_max_walkH (PySem.W.iter_listW (A := X.A.in1) hh hl.isList fun s₂ e W st hfp hw hk => ?_)
  refine ⟨_, _, _, _, _, _, _, s.heap, _, rfl, W, st, hfp, by omega, hw, hk, PySem.W.cmpIn_gt (A := X.A.in1) hr' ha (by show X.A.units + 1 + _ < _; omega), fun v s' hP m => ?_⟩
  obtain ⟨h', tk, rfl, hk'⟩ := PySem.W.moved_old e rfl m
  have e1 : its.toArray.size - 1 = xs.length := by omega
  have e2 := PySem.W.argBest_fold (fun a b => PySem.W.dataLt b a) PyData.none x xs xs.length (Nat.le_refl _)
  rw [List.take_length] at e2
  rw [e1] at hP
  have hP' : its[argBest (fun i j => PySem.W.dataLt ((x :: xs).getD j .none) ((x :: xs).getD i .none)) xs.length]? = some v := by simpa using hP
  obtain ⟨y, hy, ry⟩ := vals_getV rv hP'
  exact ⟨y, H, I.kept hk', ry, q _ y hy e2.2 (by have := e2.1; simp only [List.length_cons]; omega)⟩
theorem s2_isB : ∃ r, OpR X (compareOp .Is) r ∧ S2 X .isB r := by
  refine ⟨_, op_isBl, fun Φ H x y d d' e Q s hx hy h o => ?_⟩
  cases d <;> cases d' <;> simp only [pf] at h <;> try (cases h; done)
  rename_i a b
  cases h
  refine ⟨_, _, hx.bl, hy.bl, ?_⟩
  have o : Out X.K Φ H _ Q := o
  rw [Bool.beq_eq_decide_eq] at o
  exact o.val s (.bl _)
theorem s2_notB : ∃ r, OpR X (compareOp .IsNot) r ∧ S2 X .notB r := by
  refine ⟨_, op_notBl, fun Φ H x y d d' e Q s hx hy h o => ?_⟩
  cases d <;> cases d' <;> simp only [pf] at h <;> try (cases h; done)
  rename_i a b
  cases h
  refine ⟨_, _, hx.bl, hy.bl, ?_⟩
  have o : Out X.K Φ H _ Q := o
  rw [Bool.beq_eq_decide_eq] at o
  exact o.val s (.bl _)
theorem inD_cases {Φ H : Hp} {x y : V} {d d' : PyData} {c : Bool} (s : Le Φ H) (hx : Sn X.K Φ H x d) (hy : Sn X.K Φ H y d') (h : isInD d d' = some c) :
    (∃ p xs, y = .ref p ∧ (SqL X.K H p xs ∨ SqT X.K H p xs) ∧ flatV x = true ∧ xs.all flatV = true ∧ inV x xs = c) ∨
    (∃ i j, x = .str i ∧ y = .str j ∧ (!(Builtin.Str.occurrences j i 0 j.length 1).isEmpty) = c) ∨
    (∃ e es, Dp X.K H x e ∧ Dp X.K H y (.list es) ∧ SeqAt.shaped e = true ∧ SeqAt.shaped (.list es) = true ∧ (es.any fun z => PyData.eqv z e) = c) := by
  cases d' <;> simp only [isInD] at h <;> try (cases h; done)
  · split at h
    · cases h
      exact .inr (.inl ⟨_, _, hx.str, hy.str, rfl⟩)
    · cases h
  · split at h
    · rename_i hl
      rw [Bool.and_eq_true] at hl
      cases h
      obtain ⟨b, ys, rfl, h3, h4⟩ := hy.lst s
      exact .inl ⟨b, ys, rfl, .inl (SqL.of h3), sn_flat hx hl.1, dqa_flat h4 hl.2, any_eqv (sn_flatDq hx hl.1) hl.1 h4 hl.2⟩
    · split at h
      · rename_i hl
        rw [Bool.and_eq_true] at hl
        cases h
        exact .inr (.inr ⟨_, _, dq_dp _ _ (hx.dq s), dq_dp _ _ (hy.dq s), shaped_of hl.1, shaped_of hl.2, rfl⟩)
      · cases h
  · split at h
    · rename_i hl
      rw [Bool.and_eq_true] at hl
      cases h
      obtain ⟨b, ys, rfl, h3, h4⟩ := hy.tup
      exact .inl ⟨b, ys, rfl, .inr (sqt_mono s h3), sn_flat hx hl.1, dqa_flat h4 hl.2, any_eqv (sn_flatDq hx hl.1) hl.1 h4 hl.2⟩
    · cases h
theorem s2_in (hu : X.A.units + 65 < cLine) : ∃ r, OpR X (compareOp .In) r ∧ S2 X .isin r := by
  refine ⟨_, op_in_seq.or (op_in_str.or (op_inD hu)), fun Φ H x y d d' e Q s hx hy h o => ?_⟩
  simp only [pf, Option.map_eq_some_iff] at h
  obtain ⟨c, hc, rfl⟩ := h
  have o : Out X.K Φ H _ Q := o
  rcases inD_cases s hx hy hc with ⟨p, xs, rfl, h1, h2, h3, rfl⟩ | ⟨i, j, rfl, rfl, rfl⟩ | ⟨e, es, h1, h2, h3, h4, rfl⟩
  · exact .inl ⟨p, xs, rfl, h1, h2, h3, o.val s (.bl _)⟩
  · exact .inr (.inl ⟨i, j, rfl, rfl, o.val s (.bl _)⟩)
  · exact .inr (.inr ⟨e, es, h1, h2, h3, h4, o.val s (.bl _)⟩)
theorem s2_notin (hu : X.A.units + 65 < cLine) : ∃ r, OpR X (compareOp .NotIn) r ∧ S2 X .notin r := by
  refine ⟨_, op_notIn_seq.or (op_notIn_str.or (op_notInD hu)), fun Φ H x y d d' e Q s hx hy h o => ?_⟩
  simp only [pf, Option.map_eq_some_iff] at h
  obtain ⟨c, hc, rfl⟩ := h
  have o : Out X.K Φ H _ Q := o
  rcases inD_cases s hx hy hc with ⟨p, xs, rfl, h1, h2, h3, rfl⟩ | ⟨i, j, rfl, rfl, rfl⟩ | ⟨e, es, h1, h2, h3, h4, rfl⟩
  · exact .inl ⟨p, xs, rfl, h1, h2, h3, o.val s (.bl _)⟩
  · exact .inr (.inl ⟨i, j, rfl, rfl, o.val s (.bl _)⟩)
  · exact .inr (.inr ⟨e, es, h1, h2, h3, h4, o.val s (.bl _)⟩)
def S2i (X : Cx) (f : Pf) (r : R2) : Prop := S2 X f r
theorem s2_ix : ∃ r, IxR X r ∧ S2 X .ix r := by
  refine ⟨_, ix_seq, fun Φ H x y d d' e Q s hx hy h o => ?_⟩
  have o : Out X.K Φ H e Q := by
    cases e <;> exact o
  cases d <;> cases d' <;> simp only [pf] at h <;> try (cases h; done)
  · split at h
    · rename_i hl
      simp only [Option.map_eq_some_iff] at h
      obtain ⟨c, hc, rfl⟩ := h
      exact .inr (.inr ⟨_, _, c, hx.str, hy.int, rep_line (of_decide_eq_true hl), hc, o.val s (.str _)⟩)
    · cases h
  · obtain ⟨b, ys, rfl, h3, h4⟩ := hx.lst s
    obtain ⟨v, h5, h6⟩ := atI_rel h4 h
    exact .inl ⟨b, ys, _, v, rfl, hy.int, SqL.of h3, h5, o.val s h6⟩
  · obtain ⟨b, ys, rfl, h3, h4⟩ := hx.tup
    obtain ⟨v, h5, h6⟩ := atI_rel h4 h
    exact .inr (.inl ⟨b, ys, _, v, rfl, hy.int, sqt_mono s h3, h5, o.val s h6⟩)
end

/-! ### built-ins of one or two arguments -/
def Sc (X : Cx) (f : Pf) (r : List V → Hp → VK → Prop) : Prop := ∀ Φ H xs ds e Q, Le Φ H → Sns X.K Φ H xs ds → pf f ds = some e → OutP (fresh f) X.K Φ H e Q → r xs H Q
theorem sns1 {K : PySem.W.Frag} {Φ H : Hp} : ∀ {xs : List V} {d : PyData}, Sns K Φ H xs [d] → ∃ x, xs = [x] ∧ Sn K Φ H x d
  | [x], _, ⟨h, _⟩ => ⟨x, rfl, h⟩
theorem sns2 {K : PySem.W.Frag} {Φ H : Hp} : ∀ {xs : List V} {d e : PyData}, Sns K Φ H xs [d, e] → ∃ x y, xs = [x, y] ∧ Sn K Φ H x d ∧ Sn K Φ H y e
  | [x, y], _, _, ⟨h, g, _⟩ => ⟨x, y, rfl, h, g⟩
section
variable {X : Cx}
theorem one_of {f : Pf} {r : List V → Hp → VK → Prop} (no : ∀ ds e, pf f ds = some e → ∃ d, ds = [d])
    (h : ∀ Φ H x d e Q, Le Φ H → Sn X.K Φ H x d → pf f [d] = some e → OutP (fresh f) X.K Φ H e Q → r [x] H Q) : Sc X f r := fun Φ H xs ds e Q s hs hp o => by
  obtain ⟨d, rfl⟩ := no ds e hp
  obtain ⟨x, rfl, hx⟩ := sns1 hs
  exact h Φ H x d e Q s hx hp o
theorem sc_len : ∃ r, CallR X (.builtin "len") r ∧ Sc X .len r := by
  refine ⟨_, call_len_seq.or call_len_str, one_of (fun ds e h => ?_) fun Φ H x d e Q s hx h o => ?_⟩
  · match ds, h with
    | [d], _ => exact ⟨d, rfl⟩
    | [], h => simp [pf] at h
    | _ :: _ :: _, h => simp [pf] at h
  · cases d <;> simp only [pf] at h <;> try (cases h; done)
    · split at h
      · rename_i hl
        cases h
        exact .inr ⟨_, by rw [hx.str], rep_line (of_decide_eq_true hl), Out.val o s (.int _)⟩
      · cases h
    · cases h
      obtain ⟨b, ys, rfl, h3, h4⟩ := hx.lst s
      exact .inl ⟨b, ys, rfl, .inl (SqL.of h3), Out.val o s (by rw [dpa_len h4]; exact .int _)⟩
    · cases h
      obtain ⟨b, ys, rfl, h3, h4⟩ := hx.tup
      exact .inl ⟨b, ys, rfl, .inr (sqt_mono s h3), Out.val o s (by rw [dpa_len h4]; exact .int _)⟩
theorem pf1 {f : Pf} (z : ∀ ds e, ds.length ≠ 1 → pf f ds ≠ some e) : ∀ ds e, pf f ds = some e → ∃ d, ds = [d] := fun ds e h => by
  match ds, h with
  | [d], _ => exact ⟨d, rfl⟩
  | [], h => exact absurd h (z _ _ (by simp))
  | _ :: _ :: _, h => exact absurd h (z _ _ (by simp))
theorem sc_abs : ∃ r, CallR X (.builtin "abs") r ∧ Sc X .abs r := by
  refine ⟨_, call_abs, one_of (pf1 fun ds e hl h => ?_) fun Φ H x d e Q s hx h o => ?_⟩
  · match ds, hl, h with
    | [], _, h => simp [pf] at h
    | _ :: _ :: _, _, h => simp [pf] at h
    | [_], hl, _ => exact hl rfl
  · cases d <;> simp only [pf] at h <;> try (cases h; done)
    cases h
    exact ⟨_, by rw [hx.int], Out.val o s (.int _)⟩
theorem sc_int : ∃ r, CallR X (.type "int") r ∧ Sc X .int r := by
  refine ⟨_, call_int1, one_of (pf1 fun ds e hl h => ?_) fun Φ H x d e Q s hx h o => ?_⟩
  · match ds, hl, h with
    | [], _, h => simp [pf] at h
    | _ :: _ :: _, _, h => simp [pf] at h
    | [_], hl, _ => exact hl rfl
  · cases d <;> simp only [pf] at h <;> try (cases h; done)
    cases h
    exact .inl ⟨_, by rw [hx.int], Out.val o s (.int _)⟩
theorem sc_str : ∃ r, CallR X (.type "str") r ∧ Sc X .str r := by
  refine ⟨_, call_str_int, one_of (pf1 fun ds e hl h => ?_) fun Φ H x d e Q s hx h o => ?_⟩
  · match ds, hl, h with
    | [], _, h => simp [pf] at h
    | _ :: _ :: _, _, h => simp [pf] at h
    | [_], hl, _ => exact hl rfl
  · cases d <;> simp only [pf] at h <;> try (cases h; done)
    split at h
    · rename_i hl
      cases h
      exact ⟨_, by rw [hx.int], of_decide_eq_true hl, Out.val o s (.str _)⟩
    · cases h
theorem sc_tup : ∃ r, CallR X (.type "tuple") r ∧ Sc X .tup r := by
  refine ⟨_, call_tuple_of, one_of (pf1 fun ds e hl h => ?_) fun Φ H x d e Q s hx h o => ?_⟩
  · match ds, hl, h with
    | [], _, h => simp [pf] at h
    | _ :: _ :: _, _, h => simp [pf] at h
    | [_], hl, _ => exact hl rfl
  · cases d <;> simp only [pf] at h <;> try (cases h; done)
    · cases h
      obtain ⟨b, ys, rfl, h3, h4⟩ := hx.lst s
      exact ⟨b, ys, rfl, .inl ⟨SqL.of h3, fun l n => Out.tup o s h4 n⟩⟩
    · cases h
      obtain ⟨b, ys, rfl, h3, h4⟩ := hx.tup
      exact ⟨b, ys, rfl, .inr ⟨sqt_mono s h3, Out.val o s (.tup h3 h4)⟩⟩
theorem sc_lst : ∃ r, CallR X (.type "list") r ∧ Sc X .lst r := by
  refine ⟨_, call_list_of, one_of (pf1 fun ds e hl h => ?_) fun Φ H x d e Q s hx h o => ?_⟩
  · match ds, hl, h with
    | [], _, h => simp [pf] at h
    | _ :: _ :: _, _, h => simp [pf] at h
    | [_], hl, _ => exact hl rfl
  · cases d <;> simp only [pf] at h <;> try (cases h; done)
    · cases h
      obtain ⟨b, ys, rfl, h3, h4⟩ := hx.lst s
      exact ⟨b, ys, rfl, .inl (SqL.of h3), fun l n => o l _ h4 n⟩
    · cases h
      obtain ⟨b, ys, rfl, h3, h4⟩ := hx.tup
      exact ⟨b, ys, rfl, .inr (sqt_mono s h3), fun l n => o l _ h4 n⟩
theorem sc_sum (hc : X.calm = true) : ∃ r, CallR X (.builtin "sum") r ∧ Sc X .sum r := by
  refine ⟨_, cr_sum hc, one_of (pf1 fun ds e hl h => ?_) fun Φ H x d e Q s hx h o => ?_⟩
  · match ds, hl, h with
    | [], _, h => simp [pf] at h
    | _ :: _ :: _, _, h => simp [pf] at h
    | [_], hl, _ => exact hl rfl
  · cases d <;> simp only [pf] at h <;> try (cases h; done)
    simp only [Option.map_eq_some_iff] at h
    obtain ⟨ns, e1, rfl⟩ := h
    obtain ⟨b, ys, rfl, h3, h4⟩ := hx.lst s
    have z := dpa_ints h4 e1
    subst z
    exact ⟨b, ns, rfl, SqL.of h3, Out.val o s (.int _)⟩
theorem sc_all (hc : X.calm = true) : ∃ r, CallR X (.builtin "all") r ∧ Sc X .all r := by
  refine ⟨_, cr_all hc, one_of (pf1 fun ds e hl h => ?_) fun Φ H x d e Q s hx h o => ?_⟩
  · match ds, hl, h with
    | [], _, h => simp [pf] at h
    | _ :: _ :: _, _, h => simp [pf] at h
    | [_], hl, _ => exact hl rfl
  · cases d <;> simp only [pf] at h <;> try (cases h; done)
    simp only [Option.map_eq_some_iff] at h
    obtain ⟨ns, e1, rfl⟩ := h
    obtain ⟨b, ys, rfl, h3, h4⟩ := hx.lst s
    have z := dpa_bools h4 e1
    subst z
    exact ⟨b, ns, rfl, SqL.of h3, Out.val o s (.bl _)⟩
theorem sc_any (hc : X.calm = true) : ∃ r, CallR X (.builtin "any") r ∧ Sc X .any r := by
  refine ⟨_, cr_any hc, one_of (pf1 fun ds e hl h => ?_) fun Φ H x d e Q s hx h o => ?_⟩
  · match ds, hl, h with
    | [], _, h => simp [pf] at h
    | _ :: _ :: _, _, h => simp [pf] at h
    | [_], hl, _ => exact hl rfl
  · cases d <;> simp only [pf] at h <;> try (cases h; done)
    simp only [Option.map_eq_some_iff] at h
    obtain ⟨ns, e1, rfl⟩ := h
    obtain ⟨b, ys, rfl, h3, h4⟩ := hx.lst s
    have z := dpa_bools h4 e1
    subst z
    exact ⟨b, ns, rfl, SqL.of h3, Out.val o s (.bl _)⟩
theorem pf2 {f : Pf} (z : ∀ ds e, ds.length ≠ 2 → pf f ds ≠ some e) : ∀ ds e, pf f ds = some e → ∃ c d, ds = [c, d] := fun ds e h => by
  match ds, h with
  | [c, d], _ => exact ⟨c, d, rfl⟩
  | [], h => exact absurd h (z _ _ (by simp))
  | [_], h => exact absurd h (z _ _ (by simp))
  | _ :: _ :: _ :: _, h => exact absurd h (z _ _ (by simp))
theorem two_of {f : Pf} {r : List V → Hp → VK → Prop} (no : ∀ ds e, pf f ds = some e → ∃ c d, ds = [c, d])
    (h : ∀ Φ H x y c d e Q, Le Φ H → Sn X.K Φ H x c → Sn X.K Φ H y d → pf f [c, d] = some e → OutP (fresh f) X.K Φ H e Q → r [x, y] H Q) : Sc X f r := fun Φ H xs ds e Q s hs hp o => by
  obtain ⟨c, d, rfl⟩ := no ds e hp
  obtain ⟨x, y, rfl, hx, hy⟩ := sns2 hs
  exact h Φ H x y c d e Q s hx hy hp o
theorem alikeL_is {xs : List PyData} (h : alikeL xs = true) : PySem.W.AlikeAll xs ∧ PyData.depthAll xs ≤ 60 := by
  simp only [alikeL, Bool.and_eq_true, List.all_eq_true, decide_eq_true_eq, Bool.not_eq_true'] at h
  exact ⟨⟨h.1.1, fun x m z => by have := h.1.2 x m; rw [z] at this; simp [isNone] at this⟩, h.2⟩
theorem sc_minL (hc : X.calm = true) (hu : X.A.units + 64 < cLine) : ∃ r, CallR X (.builtin "min") r ∧ Sc X .minL r := by
  refine ⟨_, cr_minD hc hu, one_of (fun ds e h => ?_) fun Φ H x d e Q s hx h o => ?_⟩
  · match ds, h with
    | [], h => simp [pf] at h
    | [d], _ => exact ⟨d, rfl⟩
    | _ :: _ :: _, h => simp [pf] at h
  · match d, hx, h with
    | .list (y :: ys), hx, h =>
      simp only [pf] at h
      split at h
      · rename_i hl
        cases h
        obtain ⟨g1, g2⟩ := alikeL_is hl
        obtain ⟨b, us, rfl, h3, h4⟩ := hx.lst s
        refine ⟨b, us, y, ys, rfl, SqL.of h3, dqa_dp _ _ (dpa_mono s _ _ h4), g1, g2, fun i v hv e hi => ?_⟩
        obtain ⟨d', e1, e2⟩ := dpa_getV h4 hv
        rw [List.getD_eq_getElem?_getD, e1] at e
        have e : d' = PySem.W.minD y ys := e
        rw [e] at e2
        have o : Out X.K Φ H _ Q := o
        exact o.val s e2
      · cases h
    | .list [], _, h => simp [pf] at h
    | .none, _, h => simp [pf] at h
    | .bool _, _, h => simp [pf] at h
    | .int _, _, h => simp [pf] at h
    | .str _, _, h => simp [pf] at h
    | .tuple _, _, h => simp [pf] at h
    | .dict _, _, h => simp [pf] at h
theorem sc_maxL (hc : X.calm = true) (hu : X.A.units + 64 < cLine) : ∃ r, CallR X (.builtin "max") r ∧ Sc X .maxL r := by
  refine ⟨_, cr_maxD hc hu, one_of (fun ds e h => ?_) fun Φ H x d e Q s hx h o => ?_⟩
  · match ds, h with
    | [], h => simp [pf] at h
    | [d], _ => exact ⟨d, rfl⟩
    | _ :: _ :: _, h => simp [pf] at h
  · match d, hx, h with
    | .list (y :: ys), hx, h =>
      simp only [pf] at h
      split at h
      · rename_i hl
        cases h
        obtain ⟨g1, g2⟩ := alikeL_is hl
        obtain ⟨b, us, rfl, h3, h4⟩ := hx.lst s
        refine ⟨b, us, y, ys, rfl, SqL.of h3, dqa_dp _ _ (dpa_mono s _ _ h4), g1, g2, fun i v hv e hi => ?_⟩
        obtain ⟨d', e1, e2⟩ := dpa_getV h4 hv
        rw [List.getD_eq_getElem?_getD, e1] at e
        have e : d' = PySem.W.maxD y ys := e
        rw [e] at e2
        have o : Out X.K Φ H _ Q := o
        exact o.val s e2
      · cases h
    | .list [], _, h => simp [pf] at h
    | .none, _, h => simp [pf] at h
    | .bool _, _, h => simp [pf] at h
    | .int _, _, h => simp [pf] at h
    | .str _, _, h => simp [pf] at h
    | .tuple _, _, h => simp [pf] at h
    | .dict _, _, h => simp [pf] at h
theorem sc_min2 (hc : X.calm = true) : ∃ r, CallR X (.builtin "min") r ∧ Sc X .min2 r := by
  refine ⟨_, call_min2 hc, two_of (pf2 fun ds e hl h => ?_) fun Φ H x y c d e Q s hx hy h o => ?_⟩
  · match ds, hl, h with
    | [], _, h => simp [pf] at h
    | [_], _, h => simp [pf] at h
    | _ :: _ :: _ :: _, _, h => simp [pf] at h
    | [_, _], hl, _ => exact hl rfl
  · cases c <;> cases d <;> simp only [pf] at h <;> try (cases h; done)
    cases h
    exact ⟨_, _, by rw [hx.int, hy.int], Out.val o s (.int _)⟩
theorem sc_max2 (hc : X.calm = true) : ∃ r, CallR X (.builtin "max") r ∧ Sc X .max2 r := by
  refine ⟨_, call_max2 hc, two_of (pf2 fun ds e hl h => ?_) fun Φ H x y c d e Q s hx hy h o => ?_⟩
  · match ds, hl, h with
    | [], _, h => simp [pf] at h
    | [_], _, h => simp [pf] at h
    | _ :: _ :: _ :: _, _, h => simp [pf] at h
    | [_, _], hl, _ => exact hl rfl
  · cases c <;> cases d <;> simp only [pf] at h <;> try (cases h; done)
    cases h
    exact ⟨_, _, by rw [hx.int, hy.int], Out.val o s (.int _)⟩
/-! ### isinstance -/
def tys : List String := ["int", "bool", "str", "tuple", "list"]
theorem ty_of {Φ H : Hp} {x : V} {d : PyData} (s : Le Φ H) (hx : Sn X.K Φ H x d) : ∃ a : String, TyX X.K H x (.type a) ∧ (∀ t ∈ tys, kitB a t = some (isTy t d)) := by
  cases d with
  | none => rw [hx.non]; exact ⟨"NoneType", .base .non, by decide +kernel⟩
  | bool b =>
    rw [hx.bl]
    have k : ∀ t ∈ tys, kitB "bool" t = some (isTy t (.bool true)) := by decide +kernel
    exact ⟨"bool", .base (.bl b), fun t ht => k t ht⟩
  | int i =>
    rw [hx.int]
    have k : ∀ t ∈ tys, kitB "int" t = some (isTy t (.int 0)) := by decide +kernel
    exact ⟨"int", .base (.int i), fun t ht => k t ht⟩
  | str z =>
    rw [hx.str]
    have k : ∀ t ∈ tys, kitB "str" t = some (isTy t (.str "")) := by decide +kernel
    exact ⟨"str", .base (.str z), fun t ht => k t ht⟩
  | list xs =>
    obtain ⟨b, ys, rfl, h3, h4⟩ := hx.lst s
    have k : ∀ t ∈ tys, kitB "list" t = some (isTy t (.list [])) := by decide +kernel
    exact ⟨"list", .base (.lst h3), fun t ht => k t ht⟩
  | tuple xs =>
    obtain ⟨b, ys, rfl, h3, h4⟩ := hx.tup
    have k : ∀ t ∈ tys, kitB "tuple" t = some (isTy t (.tuple [])) := by decide +kernel
    refine ⟨"tuple", ?_, fun t ht => k t ht⟩
    rcases h3 with (h3 | ⟨o, h3⟩) | ⟨o, _, _, h3, h5, _⟩
    · exact .base (.tup (s _ _ h3))
    · exact .fTuple (s _ _ h3)
    · exact .kTuple h3 h5
  | dict kv => exact (sn_dict hx).elim
/-- isinstance(x, T) -/
theorem isi_ok {t : String} (ht : t ∈ tys) {Φ H : Hp} {x : V} {d : PyData} {e : PyData} {Q : VK} (s : Le Φ H) (hx : Sn X.K Φ H x d) (h : pf (.isi t) [d] = some e) (o : OutP (fresh (.isi t)) X.K Φ H e Q) : rIsi X.K [x, .ty t] H Q := by
  obtain ⟨a, h1, h2⟩ := ty_of s hx
  simp only [pf] at h
  cases h
  exact ⟨x, .ty t, .type a, .type t, _, rfl, .ty t, h1, kit_ty (h2 t ht), Out.val o s (.bl _)⟩
end
end Mn

/-! MnP: further operators, by values: products, slices, sorted, repr. -/
namespace Mn
open PySem L2 PySem.Spec PyProof.Rows
theorem tuple_mul0 (l : Addr) (items : Array Value) (n : Nat) (dd : Option Addr) (sl : Array (Option Value)) (x : Int) (u : Tok) (c0 : (decide (x < -(2 ^ 63)) || decide (x ≥ 2 ^ 63)) = false) (c1 : (items.isEmpty || x == 1) = true) :
    Meets (Builtin.«tuple.__mul__» ⟨[.ref l, .int x u], []⟩) (fun _ R s => s.heap.get? l = some { cls := .type "tuple", dict := dd, data := .seq items n, slots := sl } ∧
      R (.ok (.ret (Value.ref l))) s) :=
  .of_wp fun prog w A R s h => by
    obtain ⟨hp, g, d, tk, os⟩ := s
    obtain ⟨hl, h⟩ := h
    have f1 := AutoSeq1.idx_int
    wp_walk using wpAny_loadPart' hl
    repeat (first
      | (refine wpAny_ite_false (decide_eq_false (by rw [c0]; exact Bool.false_ne_true)) ?_; wp_walk using wpAny_loadPart' hl)
      | (refine wpAny_ite_true (decide_eq_true c1) ?_; wp_walk using wpAny_loadPart' hl))
    exact ⟨_, rfl, h⟩
theorem tuple_mulN (l : Addr) (items : Array Value) (n : Nat) (dd : Option Addr) (sl : Array (Option Value)) (x : Int) (u : Tok) (c0 : (decide (x < -(2 ^ 63)) || decide (x ≥ 2 ^ 63)) = false) (c1 : (items.isEmpty || x == 1) = false) (c2 : (decide (x ≤ 0) || items.isEmpty) = true) :
    Meets (Builtin.«tuple.__mul__» ⟨[.ref l, .int x u], []⟩) (fun _ R s => s.heap.get? l = some { cls := .type "tuple", dict := dd, data := .seq items n, slots := sl } ∧
      R (.ok (.ret (Value.ref s.heap.objs.size))) { s with heap := s.heap.push { cls := Value.type "tuple", data := Data.seq #[] }, toks := s.toks }) :=
  .of_wp fun prog w A R s h => by
    obtain ⟨hp, g, d, tk, os⟩ := s
    obtain ⟨hl, h⟩ := h
    have f1 := AutoSeq1.idx_int
    wp_walk using wpAny_loadPart' hl
    repeat (first
      | (refine wpAny_ite_false (decide_eq_false (by rw [c0]; exact Bool.false_ne_true)) ?_; wp_walk using wpAny_loadPart' hl)
      | (refine wpAny_ite_false (decide_eq_false (by rw [c1]; exact Bool.false_ne_true)) ?_; wp_walk using wpAny_loadPart' hl)
      | (refine wpAny_ite_true (decide_eq_true c2) ?_; wp_walk using wpAny_loadPart' hl))
    exact ⟨_, rfl, h⟩
def rRepA (K : PySem.W.Frag) : R2 := fun x y H Q => ∃ l k xs, x = .ref l ∧ y = .int k ∧ SqT K H l xs ∧ 0 ≤ k ∧ k ≤ 1000 ∧ xs.length ≤ 1000 ∧
  (xs = [] ∨ k = 1 → Q (.ref l) H) ∧ (xs ≠ [] → k ≠ 1 → ∀ p, H p = none → Q (.ref p) (upd H p (.tup (List.replicate k.toNat xs).flatten)))
section
variable {X : Cx}
theorem op_repA : OpR X (binaryOp .Mult) (rRepA X.K) := by
  intro pins s σ H x y v u Q I rx ry h
  obtain ⟨l, k, xs, rfl, rfl, hT, h1, h2, hz, q1, q2⟩ := h
  by_cases hbig : xs ≠ [] ∧ 2 ≤ k
  · exact op_repT pins s σ H _ _ v u Q I rx ry ⟨l, k, xs, rfl, rfl, hT, hbig.1, hbig.2, h2, hz, q2 hbig.1 (by omega)⟩
  cases rx
  obtain ⟨t, rfl⟩ := ry
  obtain ⟨its, r, ⟨⟨cls, dd, data, sl⟩, ho, hc, n, hd⟩, hs⟩ := I.tuple hT
  simp only at hc hd
  subst hc hd
  have c0 : (decide (k < -(2 ^ 63)) || decide (k ≥ 2 ^ 63)) = false := by
    rw [decide_eq_false (by omega), decide_eq_false (by omega)] <;> rfl
  by_cases hone : xs = [] ∨ k = 1
  · have c1 : (its.toArray.isEmpty || k == 1) = true := by
      rcases hone with e | e
      · subst e; cases r; rfl
      · subst e; simp
    refine wpAny_binaryOp_repeat_ref (T := "tuple") (U := "int") (by decide) ⟨_, ho, rfl⟩ (fun s' => typeIs_int s' k t) noFill_tuple_mul F.fills_int_mul F.slot_int_rmul repeat_tuple F.slot_int_index.lookup
      (call_meets F.slot_int_rmul (typeIs_int s k t) F.entry_int_rmul (F.args_int_rmul_2 _ _) (int_rmul_tuple k t l its.toArray n dd sl)
        ⟨ho, rfl, ⟨_, ho, rfl⟩, call_meets F.slot_tuple_mul ⟨_, ho, rfl⟩ F.entry_tuple_mul (F.args_tuple_mul_2 _ _) (tuple_mul0 l its.toArray n dd sl k t c0 c1) ⟨ho, ?_⟩⟩)
    exact ⟨.ref l, H, I, rfl, q1 hone⟩
  · have hne : xs ≠ [] := fun e => hone (.inl e)
    have hk1 : k ≠ 1 := fun e => hone (.inr e)
    have hk0 : k = 0 := by
      have : ¬ 2 ≤ k := fun z => hbig ⟨hne, z⟩
      omega
    subst hk0
    have hi : its.toArray.isEmpty = false := by
      cases its with
      | nil => cases r; exact absurd rfl hne
      | cons a b => rfl
    refine wpAny_binaryOp_repeat_ref (T := "tuple") (U := "int") (by decide) ⟨_, ho, rfl⟩ (fun s' => typeIs_int s' 0 t) noFill_tuple_mul F.fills_int_mul F.slot_int_rmul repeat_tuple F.slot_int_index.lookup
      (call_meets F.slot_int_rmul (typeIs_int s 0 t) F.entry_int_rmul (F.args_int_rmul_2 _ _) (int_rmul_tuple 0 t l its.toArray n dd sl)
        ⟨ho, rfl, ⟨_, ho, rfl⟩, call_meets F.slot_tuple_mul ⟨_, ho, rfl⟩ F.entry_tuple_mul (F.args_tuple_mul_2 _ _) (tuple_mulN l its.toArray n dd sl 0 t c0 (by rw [hi]; rfl) rfl) ⟨ho, ?_⟩⟩)
    refine ⟨.ref s.heap.objs.size, _, I.laid (t' := s.toks) (o := .tup []) (fun b ob q => Heap.get?_push_of_some _ q) (Nat.le_refl _) ?_, rfl, q2 hne hk1 _ (I.hok.fresh (Nat.le_refl _))⟩
    exact ⟨Nat.zero_le _, [], .nil, IsTup.new _ _⟩
theorem s2_mul : ∃ r, OpR X (binaryOp .Mult) r ∧ S2 X .mul r := by
  refine ⟨_, (op_mul.or op_repA).or op_rep, fun Φ H x y d d' e Q s hx hy h o => ?_⟩
  cases d <;> cases d' <;> simp only [pf] at h <;> try (cases h; done)
  · split at h
    · rename_i hl
      cases h
      rw [Bool.or_eq_true, decide_eq_true_eq, decide_eq_true_eq] at hl
      refine .inl (.inl ⟨_, _, hx.int, hy.int, ?_, Out.val o s (.int _)⟩)
      rcases hl with hl | hl
      · exact .inl (by omega)
      · exact .inr (by omega)
    · cases h
  · rename_i xs k
    split at h
    · rename_i hl
      cases h
      simp only [Bool.and_eq_true, decide_eq_true_eq] at hl
      obtain ⟨a, vs, rfl, h1, h2⟩ := hx.lst s
      have hlen := dpa_len h2
      have hm : vs.length * k.toNat ≤ 1000 * 1000 := Nat.mul_le_mul (by omega) (by omega)
      exact .inr ⟨a, _, vs, rfl, hy.int, h1, by omega, by omega, by rw [sizeLine_eq]; omega, fun p n => o p _ (dpa_rep h2 _) n⟩
    · cases h
  · rename_i xs k
    split at h
    · rename_i hl
      cases h
      simp only [Bool.and_eq_true, decide_eq_true_eq] at hl
      have o : Out X.K Φ H _ Q := o
      obtain ⟨a, vs, rfl, h1, h2⟩ := hx.tup
      have hlen := dpa_len h2
      refine .inl (.inr ⟨a, _, vs, rfl, hy.int, sqt_mono s h1, by omega, by omega, by omega, fun z => ?_, fun _ _ p n => o.tup s (dpa_rep h2 _) n⟩)
      refine o.val s (.tup h1 ?_)
      rcases z with z | z
      · subst z
        cases h2
        simpa using (DqAll.nil : DqAll X.K Φ [] [])
      · subst z
        simpa using h2
    · cases h
end
section
variable {X : Cx}
def Slc (X : Cx) (r : V → Option Int → Option Int → Hp → VK → Prop) : Prop := ∀ Φ H x d lo hi e Q, Le Φ H → Sn X.K Φ H x d → sl d lo hi = some e → OutP true X.K Φ H e Q → r x lo hi H Q
theorem cut_whole {α : Type} {ds : List α} {lo hi : Option Int} (h : HT.sIx ds.length 0 lo = 0 ∧ HT.sIx ds.length ds.length hi = ds.length) : (ds.drop (HT.sIx ds.length 0 lo)).take (HT.sIx ds.length ds.length hi - HT.sIx ds.length 0 lo) = ds := by
  rw [h.1, h.2, List.drop_zero, Nat.sub_zero, List.take_length]
theorem ss_any : ∃ r, L2.SlR X r ∧ Slc X r := by
  refine ⟨_, sl_tupA.or sl_list, fun Φ H x d lo hi e Q s hx h o => ?_⟩
  cases d <;> simp only [sl] at h <;> try (cases h; done)
  · cases h
    obtain ⟨a, xs, rfl, h1, h2⟩ := hx.lst s
    exact .inr ⟨a, xs, rfl, SqL.of h1, fun p n => o p _ (cut_rel h2 lo hi) n⟩
  · cases h
    have o : Out X.K Φ H _ Q := o
    obtain ⟨a, xs, rfl, h1, h2⟩ := hx.tup
    refine .inl ⟨a, xs, rfl, sqt_mono s h1, fun z => ?_, fun _ p n => o.tup s (cut_rel h2 lo hi) n⟩
    rw [dpa_len h2] at z
    refine o.val s (.tup h1 ?_)
    show DqAll X.K Φ xs (cut _ lo hi)
    unfold cut
    rw [cut_whole z]
    exact h2
end
section
variable {prog : Program} {w : World} {A : Around} {E : Value → Shared → Prop} {s : Shared}
theorem adjust_rev (n : Nat) : Builtin.Slice.sliceAdjust none none (-1) (n : Int) = ((n : Int) - 1, -1) := by
  unfold Builtin.Slice.sliceAdjust
  rfl
theorem places_rev (n : Nat) : Builtin.Slice.slicePlaces ((n : Int) - 1) (-1) (-1) = n := by
  unfold Builtin.Slice.slicePlaces
  have h1 : ¬ ((-1 : Int) > 0) := by omega
  simp only [h1, if_false, Int.neg_neg, Int.ediv_one]
  split <;> omega
theorem applied_rev {sl : Addr} {vk : Value} {n : Nat} {Q : Int × Int × Nat → Shared → Prop} (hs : s.heap.IsSliceOf sl .none .none vk) (pk : IsPart vk (some (-1)))
    (h : Q ((n : Int) - 1, -1, n) s) : wpAny (model prog w) A (Builtin.Slice.sliceApplied (.ref sl) (pure (n : Int))) Q E s := by
  obtain ⟨os, hos, hcs, hds⟩ := id hs
  unfold Builtin.Slice.sliceApplied Builtin.Slice.sliceFields
  refine wpAny_bind (wpAny_bind (wpAny_field hos hds (x := .none) rfl (wpAny_bind (wpAny_field hos hds (x := .none) rfl (wpAny_bind (wpAny_field hos hds (x := vk) rfl (wpAny_pure ?_)))))))
  refine wpAny_bind (HT.slicePart_ pk ?_)
  show wpAny _ _ (if ((-1 : Int) == 0) = true then _ else _) _ _ s
  rw [if_neg (by decide)]
  refine wpAny_bind (slicePart_none (wpAny_bind (slicePart_none (wpAny_bind (wpAny_pure ?_)))))
  show wpAny _ _ (match Builtin.Slice.sliceAdjust none none (-1) (n : Int) with | (lo, hi) => pure (lo, (-1 : Int), Builtin.Slice.slicePlaces lo hi (-1))) _ _ s
  rw [adjust_rev n]
  show wpAny _ _ (pure ((n : Int) - 1, (-1 : Int), Builtin.Slice.slicePlaces ((n : Int) - 1) (-1) (-1))) _ _ s
  rw [places_rev]
  exact wpAny_pure h
theorem pick_rev (xs : Array Value) : ((List.range xs.size).filterMap fun (m : Nat) => xs[(((xs.size : Int) - 1) + (m : Int) * -1).toNat]?).toArray = xs.toList.reverse.toArray := by
  congr 1
  have e : ∀ l : List Value, (List.range l.length).filterMap (fun (m : Nat) => l[(((l.length : Int) - 1) + (m : Int) * -1).toNat]?) = l.reverse := by
    intro l
    apply List.ext_getElem?
    intro i
    have key : (List.range l.length).filterMap (fun (m : Nat) => l[(((l.length : Int) - 1) + (m : Int) * -1).toNat]?) = (List.range l.length).map fun (m : Nat) => (l[(((l.length : Int) - 1) + (m : Int) * -1).toNat]?).getD .none := by
      have gen : ∀ r : List Nat, (∀ m ∈ r, m < l.length) → r.filterMap (fun (m : Nat) => l[(((l.length : Int) - 1) + (m : Int) * -1).toNat]?) = r.map fun (m : Nat) => (l[(((l.length : Int) - 1) + (m : Int) * -1).toNat]?).getD .none := by
        intro r
        induction r with
        | nil => intro _; rfl
        | cons m r ih =>
          intro hm
          have hlt : (((l.length : Int) - 1) + (m : Int) * -1).toNat < l.length := by
            have := hm m List.mem_cons_self
            omega
          rw [List.filterMap_cons, List.getElem?_eq_getElem hlt, List.map_cons, List.getElem?_eq_getElem hlt, ih fun k hk => hm k (List.mem_cons_of_mem _ hk)]
          rfl
      exact gen _ fun m hm => List.mem_range.mp hm
    rw [key, List.getElem?_map]
    by_cases hi : i < l.length
    · rw [List.getElem?_range hi, List.getElem?_reverse hi, Option.map_some]
      have e1 : (((l.length : Int) - 1) + (i : Int) * -1).toNat = l.length - 1 - i := by omega
      rw [e1, List.getElem?_eq_getElem (show l.length - 1 - i < l.length by omega)]
      rfl
    · rw [List.getElem?_eq_none (by simpa using hi), List.getElem?_eq_none (by simpa using hi)]
      rfl
  have := e xs.toList
  rw [Array.length_toList] at this
  rw [← this]
  congr 1
  funext m
  rw [Array.getElem?_toList]
theorem getItem_tuple_rev {t sl : Addr} {items : Array Value} {vk : Value} {Q : Value → Shared → Prop} (ht : IsTup s.heap t items) (hs : s.heap.IsSliceOf sl .none .none vk) (pk : IsPart vk (some (-1)))
    (h : Q (.ref s.heap.objs.size) { s with heap := s.heap.push { cls := .type "tuple", data := .seq items.toList.reverse.toArray } })
    (hsz : items.size ≤ sizeLine) : wpAny (model prog w) A (getItem (.ref t) (.ref sl)) Q E s := by
  have htake : sizeOk (.seq items.toList.reverse.toArray) := by
    show items.toList.reverse.toArray.size ≤ sizeLine
    rw [List.size_toArray, List.length_reverse, Array.length_toList]
    exact hsz
  obtain ⟨os, hos, hcs, hds⟩ := id hs
  have hTs : s.TypeIs (.ref sl) "slice" := ⟨os, hos, hcs⟩
  unfold getItem
  try with_reducible refine wpAny_holding ?_
  first | refine wpAny_bind (wpAny_pure ?_) | skip
  refine wpAny_bind (wpAny_sequenceKey ht.typeIs (by decide) ?_)
  refine wpAny_bind (wpAny_callSpecial?_slot (name := Str.ofString "__getitem__") ht.typeIs PyProof.Rows.slot_tuple_getitem
    (wpAny_call_entry PyProof.Rows.slot_tuple_getitem ht.typeIs entry_tuple_getitem ?_ (args_tuple_getitem _ _)))
  show wpAny _ _ (Builtin.Tuple.tupleItemsOf (.ref t) >>= _) _ _ s
  refine wpAny_bind (tupleItemsOf_ ht ?_)
  refine wpAny_bind (wpAny_typeOf hTs ?_)
  rw [if_pos (by decide)]
  refine wpAny_bind (applied_rev hs pk ?_)
  have hno : ¬ (((((items.size : Int) - 1) == 0) && ((-1 : Int) == 1) && (items.size == items.size)) = true) := by
    intro q
    rw [Bool.and_eq_true, Bool.and_eq_true] at q
    exact absurd (eq_of_beq q.1.2) (by omega)
  show wpAny _ _ (if ((((items.size : Int) - 1) == 0) && ((-1 : Int) == 1) && (items.size == items.size)) = true then _ else _) _ _ s
  rw [if_neg hno, pick_rev]
  first
    | exact wpAny_bind (m := Builtin.Tuple.tupleExact _) (wpAny_newObj_type (wpAny_pure ⟨_, rfl, wpAny_pure h⟩) htake)
    | exact wpAny_bind (m := Builtin.Tuple.tupleExact _) (wpAny_newObj_type (wpAny_bind (wpAny_pure (wpAny_pure ⟨_, rfl, wpAny_pure h⟩))) htake)
    | exact wpAny_bind (wpAny_bind (m := Builtin.Tuple.tupleExact _) (wpAny_newObj_type (wpAny_pure (wpAny_pure ⟨_, rfl, wpAny_pure h⟩)) htake))
    | exact wpAny_bind (wpAny_bind (m := Builtin.Tuple.tupleExact _) (wpAny_newObj_type (wpAny_pure ⟨_, rfl, wpAny_pure h⟩) htake))
end
section
variable {X : Cx}
def Sr (X : Cx) (r : V → Hp → VK → Prop) : Prop := ∀ Φ H x d e Q, Le Φ H → Sn X.K Φ H x d → pf .rev [d] = some e → OutP false X.K Φ H e Q → r x H Q
def rRevT (K : PySem.W.Frag) : V → Hp → VK → Prop := fun x H Q => ∃ a xs, x = .ref a ∧ SqT K H a xs ∧ ∀ p, H p = none → Q (.ref p) (upd H p (.tup xs.reverse))
def rRevL (K : PySem.W.Frag) : V → Hp → VK → Prop := fun x H Q => ∃ a xs, x = .ref a ∧ SqL K H a xs ∧ ∀ p, H p = none → Q (.ref p) (upd H p (.lst xs.reverse))
theorem pe_revT {e : Expr} {te : TE} {k : Nat} {p1 p2 p3 pos : Pos} (he : PE X e te) : PE X (.Subscript e (.Slice none none (some (.UnaryOp .USub (.Constant (.int 1) k p1) p2)) p3) pos) (tUn (fun x H Q => rRevT X.K x H Q ∨ rRevL X.K x H Q) te) := by
  refine ⟨fun pins s σ H Q I h => ?_⟩
  refine Subscript_ (thn (he.run pins s σ H _ I h) fun v s1 ⟨x, H1, I1, r1, q1⟩ => ?_)
  have hst : PO X (some (.UnaryOp .USub (.Constant (.int 1) k p1) p2)) (tPart (tUn (rU fun i => .int (-i)) (tC (.int 1)))) := po_some (pe_un un_neg pe_int)
  refine wpAny_Slice (thn (po_none.run pins s1 σ H1 (fun o H2 => o = none ∧ H2 = H1) I1 ⟨rfl, rfl⟩) fun vl s2 ⟨l, H2, I2, pl, el, e2⟩ => ?_)
  subst el e2
  refine thn (po_none.run pins s2 σ H2 (fun o H3 => o = none ∧ H3 = H2) I2 ⟨rfl, rfl⟩) fun vu s3 ⟨u, H3, I3, pu, eu, e3⟩ => ?_
  subst eu e3
  refine thn (hst.run pins s3 σ H3 (fun o H4 => o = some (-1) ∧ H4 = H3) I3 ⟨1, rfl, -1, rfl, rfl, rfl⟩) fun vs s4 ⟨o, H4, I4, ps, eo, e4⟩ => ?_
  subst eo e4
  have I5 : Inv X pins σ H4 { s4 with heap := s4.heap.push { cls := .type "slice", data := .fields #[vl, vu, vs] } } := I4.kept (t' := s4.toks) fun b ob q => Heap.get?_push_of_some _ q
  rcases q1 with ⟨a, xs, ex, hx, q⟩ | ⟨a, xs, ex, hx, q⟩
  · subst ex
    cases r1
    obtain ⟨its, r, ht, hz⟩ := I5.tuple hx
    have hlen := r.length
    cases pl
    cases pu
    show wpAny (model X.prog X.w) X.A (subscriptTail e (.Slice none none (some (.UnaryOp .USub (.Constant (.int 1) k p1) p2)) p3) (.ref a) (.ref s4.heap.objs.size)) (EP X pins σ Q) X.xe { s4 with heap := s4.heap.push { cls := .type "slice", data := .fields #[.none, .none, vs] } }
    refine tail_any (ops := [.ref a, .ref s4.heap.objs.size]) ht.typeIs (PyProof.Rows.slot_tuple_getitem.lookup) ?_ (by with_unfolding_all rfl)
    refine getItem_tuple_rev ht (Heap.IsSliceOf.new _ _ _ _) ps ?_ (by rw [List.size_toArray]; omega)
    refine ⟨.ref _, _, I5.laid (t' := s4.toks) (o := .tup xs.reverse) (fun b ob q => Heap.get?_push_of_some _ q) (Nat.le_refl _) ?_, rfl, q _ (I5.hok.fresh (Nat.le_refl _))⟩
    exact ⟨by rw [List.length_reverse]; exact hz, _, r.reverse, IsTup.new _ _⟩
  · subst ex
    cases r1
    obtain ⟨its, r, ht, hz⟩ := I5.list hx
    have hlen := r.length
    show wpAny (model X.prog X.w) X.A (subscriptTail e (.Slice none none (some (.UnaryOp .USub (.Constant (.int 1) k p1) p2)) p3) (.ref a) (.ref s4.heap.objs.size)) (EP X pins σ Q) X.xe { s4 with heap := s4.heap.push { cls := .type "slice", data := .fields #[vl, vu, vs] } }
    refine tail_any (ops := [.ref a, .ref s4.heap.objs.size]) ht.isList.typeIs (PySem.slot_list_getitem.lookup) ?_ (by with_unfolding_all rfl)
    refine wpAny_getItem_list_slice ht.isList (Heap.IsSliceOf.new _ vl vu vs) pl pu ps (by decide) ?_ (by rw [List.size_toArray]; omega)
    rw [PySem.W.krv_pick]
    refine ⟨.ref _, _, I5.laid (t' := s4.toks) (o := .lst xs.reverse) (fun b ob q => Heap.get?_push_of_some _ q) (Nat.le_refl _) ?_, rfl, q _ (I5.hok.fresh (Nat.le_refl _))⟩
    exact ⟨by rw [List.length_reverse]; exact hz, _, 0, r.reverse, Heap.get?_push_size _ rfl⟩
theorem pe_revA : ∃ r, Sr X r ∧ ∀ {e : Expr} {te : TE} {k : Nat} {p1 p2 p3 pos : Pos} (he : PE X e te), PE X (.Subscript e (.Slice none none (some (.UnaryOp .USub (.Constant (.int 1) k p1) p2)) p3) pos) (tUn r te) := by
  refine ⟨_, fun Φ H x d e Q s hx h o => ?_, fun he => pe_revT he⟩
  cases d <;> simp only [pf] at h <;> try (cases h; done)
  · cases h
    obtain ⟨a, xs, rfl, h1, h2⟩ := hx.lst s
    exact .inr ⟨a, xs, rfl, SqL.of h1, fun p n => Out.lst o s (dpa_rev h2) n⟩
  · cases h
    obtain ⟨a, xs, rfl, h1, h2⟩ := hx.tup
    exact .inl ⟨a, xs, rfl, sqt_mono s h1, fun p n => Out.tup o s (dpa_rev h2) n⟩
end
section
variable {X : Cx}
def rReprQ (K : PySem.W.Frag) : List V → Hp → VK → Prop := fun xs H Q => ∃ v d, xs = [v] ∧ Dq K H v d ∧ d.showable = true ∧ d.hasDict = false ∧ d.depth ≤ 60 ∧ d.shown.length ≤ 2 ^ 23 ∧ Q (.str d.shown) H
theorem call_reprQ (hg : X.A.guards = some []) (hu : X.A.units + 64 < cLine) : CallR X (.builtin "repr") (rReprQ X.K) := by
  intro pins s σ H xs us Q I r h
  obtain ⟨v, d, rfl, hd, hs, hn, hp, hz, q⟩ := h
  obtain ⟨u, rfl, ru⟩ := vals1 r
  have hz' : d.shown.length ≤ sizeLine := by rw [sizeLine_eq]; omega
  have hd' := dq_dp d v hd
  cases d with
  | none =>
    cases hd
    cases ru
    exact PySem.P.repr_of_none ⟨.str _, H, I.tok _, ⟨_, rfl⟩, q⟩
  | bool b =>
    cases hd
    cases ru
    exact PySem.P.repr_of_bool ⟨.str _, H, I.tok _, ⟨_, rfl⟩, q⟩
  | int i =>
    cases hd
    obtain ⟨t, rfl⟩ := ru
    exact PySem.P.repr_of_int (by simpa [PyData.showable] using hs) ⟨.str _, H, I.tok _, ⟨_, rfl⟩, q⟩
  | str x =>
    cases hd
    obtain ⟨t, rfl⟩ := ru
    exact PySem.P.repr_of_str ⟨.str _, H, I.tok _, ⟨_, rfl⟩, q⟩ hz'
  | list xs =>
    obtain ⟨as, rd⟩ := Dp.reads I _ _ _ hd' ru
    cases hd
    cases ru
    exact repr_of_reads' rd hs (fun z => by rw [hn] at z; cases z) hg (by omega) (fun _ _ e => e) (fun h' u tk kk => ⟨.str _, H, I.kept (t' := tk) kk, ⟨_, rfl⟩, q⟩) hz'
  | tuple xs =>
    obtain ⟨as, rd⟩ := Dp.reads I _ _ _ hd' ru
    cases hd
    cases ru
    exact repr_of_reads' rd hs (fun z => by rw [hn] at z; cases z) hg (by omega) (fun _ _ e => e) (fun h' u tk kk => ⟨.str _, H, I.kept (t' := tk) kk, ⟨_, rfl⟩, q⟩) hz'
  | dict kv => cases hd
theorem sc_repr (hg : X.A.guards = some []) (hu : X.A.units + 64 < cLine) : ∃ r, CallR X (.builtin "repr") r ∧ Sc X .repr r := by
  refine ⟨_, call_reprQ hg hu, one_of (fun ds e h => ?_) fun Φ H x d e Q s hx h o => ?_⟩
  · match ds, h with
    | [d], _ => exact ⟨d, rfl⟩
    | [], h => simp [pf] at h
    | _ :: _ :: _, h => simp [pf] at h
  · simp only [pf] at h
    split at h
    · rename_i hc
      cases h
      simp only [Bool.and_eq_true, Bool.not_eq_true', decide_eq_true_eq] at hc
      exact ⟨x, d, rfl, hx.dq s, hc.1.1.1, hc.1.1.2, hc.1.2, hc.2, Out.val o s (.str _)⟩
    · cases h
end

/-! ### sorted of rows of ints -/
/-- v is a tuple that holds these numbers -/
def IsRow (h : Heap) (v : Value) (ns : List Int) : Prop := ∃ (a : Addr) (items : Array Value), v = .ref a ∧ IsTup h a items ∧ IntsAre items.toList ns
section
variable {prog : Program} {w : World} {A : Around} {s : Shared} {E : Value → Shared → Prop}
theorem IsRow.keeps {h h' : Heap} {v : Value} {ns : List Int} (x : IsRow h v ns) (k : ∀ b o, v = .ref b → h.get? b = some o → h'.get? b = some o) : IsRow h' v ns := by
  obtain ⟨a, items, e, ⟨o, ho, hc, n, hd⟩, i⟩ := x
  exact ⟨a, items, e, ⟨o, k _ _ e ho, hc, n, hd⟩, i⟩
theorem Looks_to {M : Model} {h : Heap} {α : Type} {t : Sem α} {x y : α} (l : PySem.W.Looks M h t x) (e : x = y) : PySem.W.Looks M h t y := e ▸ l
theorem IsRow.type {M : Model} {h : Heap} {v : Value} {ns : List Int} (x : IsRow h v ns) : PySem.W.Looks M h (typeOf v) (.type "tuple") := by
  obtain ⟨a, items, rfl, ⟨o, ho, hc, n, hd⟩, i⟩ := x
  exact Looks_to (show PySem.W.Looks M h (typeOf (.ref a)) o.cls from (PySem.W.Looks.ld ho).andThen .now) hc
theorem kat_ints {Q : Bool → Shared → Prop} {n m : Nat} : ∀ {xs ys : List Value} {ns ms : List Int} (i : Nat), IntsAre xs ns → IntsAre ys ms → (decide (n < m) = decide (ns.length < ms.length)) → Q (HT.lexLt ns ms) s →
    PySem.W.KatLex prog w A true (decide (n < m)) Q (xs.zip ys) i s
  | _, _, _, _, i, .nil, .nil, hl, q => by
    rw [hl]
    exact q
  | _, _, _, _, i, .nil, .cons c u hw, hl, q => by
    rw [hl]
    exact PySem.W.kat_nil (by rw [decide_eq_true (by simp)]; exact q)
  | _, _, _, _, i, .cons a t hv, .nil, hl, q => by
    rw [hl]
    exact PySem.W.kat_nil (by rw [decide_eq_false (by simp)]; exact q)
  | _, _, _, _, i, .cons a t hv, .cons c u hw, hl, q => by
    rw [List.zip_cons_cons]
    refine PySem.W.kat_cons (SeqAt.EqAt.int_int a t c u prog w _ _ ?_)
    rw [HT.lexLt_cons] at q
    refine PySem.W.kat_go (fun e => ?_) (fun e => ?_)
    · have ex : a = c := by simpa using e
      rw [if_pos ex] at q
      exact PySem.W.kat_yes (kat_ints (i + 1) hv hw (by rw [hl]; simp) q)
    · have ex : ¬ a = c := by simpa using e
      rw [if_neg ex] at q
      refine PySem.W.kat_no ?_
      cases i with
      | zero => exact oneLt_int q
      | succ i => exact PySem.W.kat_one _ _ (PyProof.Rows.lt_int q)
theorem row_lt {v u : Value} {ns ms : List Int} (hu : A.units < cLine) (hv : IsRow s.heap v ns) (hw : IsRow s.heap u ms) {Q : Value → Shared → Prop} (q : Q (.bool (HT.lexLt ns ms)) s) : wpAny (model prog w) A (compareOp .Lt v u) Q E s := by
  obtain ⟨a, xs, rfl, ta, ia⟩ := hv
  obtain ⟨b, ys, rfl, tb, ib⟩ := hw
  exact HT.lt_tupInts ta tb ia ib hu q
theorem row_one {v u : Value} {ns ms : List Int} (hu : A.units < cLine) (hv : IsRow s.heap v ns) (hw : IsRow s.heap u ms) {Q : Bool → Shared → Prop} (q : Q (HT.lexLt ns ms) s) : wpAny (model prog w) A (keyLt' oneType' v u) Q E s := by
  have sp : PySem.W.Looks (model prog w) s.heap (specialOf v "__lt__") (some (.builtin "tuple.__lt__")) := hv.type.andThen (by
    have e : typeLookup (.type "tuple") "__lt__" = pure (some (.builtin "tuple.__lt__")) := PySem.F.slot_tuple_lt.lookup
    show PySem.W.Looks _ _ (typeLookup (.type "tuple") "__lt__") _
    rw [e]
    exact .now)
  obtain ⟨a, xs, rfl, ta, ia⟩ := hv
  obtain ⟨b, ys, rfl, tb, ib⟩ := hw
  obtain ⟨⟨cls, dd, data, sl⟩, ho, hc, n, hd⟩ := id ta
  obtain ⟨⟨cls2, dd2, data2, sl2⟩, ho2, hc2, n2, hd2⟩ := id tb
  simp only at hc hd hc2 hd2
  subst hc hd hc2 hd2
  rw [keyLt'_oneType, oneLt'_eq]
  simp only [if_true]
  refine wpAny_bind (wpAny_cRoomFor hu ?_)
  refine wpAny_bind (NtL.csib (E := E) sp (PySem.F.slot_tuple_lt.bind _) (call_meets PySem.F.slot_tuple_lt ⟨_, ho, rfl⟩ PySem.F.entry_tuple_lt (PySem.F.args_tuple_lt_2 _ _) (HT.tuple_lt_ints a b xs ys n n2 dd dd2 sl sl2 ns ms ia ib) ⟨ho, ho2, ?_⟩))
  exact wpAny_truthy_bool q
theorem first_row {v : Value} {ns : List Int} (hv : IsRow s.heap v ns) {Q : Option Value → Shared → Prop} (q : ∀ f : Option Value, (f = none ∧ ns = [] ∨ ∃ i t, f = some (.int i t) ∧ ns ≠ []) → Q f s) : wpAny (model prog w) A (firstOfTuple' v) Q E s := by
  obtain ⟨a, items, rfl, ⟨o, ho, hc, n, hd⟩, i⟩ := hv
  rw [PySem.W.kas_first_eq]
  refine wpAny_bind (PySem.W.Looks.here (show PySem.W.Looks (model prog w) s.heap (typeOf (.ref a)) o.cls from (PySem.W.Looks.ld ho).andThen .now) ?_)
  rw [hc, if_neg (by first | decide | simp)]
  refine wpAny_bind (listItems_at ho hd (wpAny_pure (q _ ?_)))
  obtain ⟨l⟩ := items
  cases i with
  | nil => exact .inl ⟨rfl, rfl⟩
  | cons x t h => exact .inr ⟨x, t, rfl, by simp⟩
/-- the first items, if any -/
inductive Firsts : List (Option Value) → List (List Int) → Prop
  | nil : Firsts [] []
  | no {fs : List (Option Value)} {zs : List (List Int)} : Firsts fs zs → Firsts (none :: fs) ([] :: zs)
  | so {fs : List (Option Value)} {zs : List (List Int)} {i : Int} {t : Tok} {z : List Int} : z ≠ [] → Firsts fs zs → Firsts (some (.int i t) :: fs) (z :: zs)
theorem firsts_rows : ∀ {vs : List Value} {k : Value → List Int} {Q : List (Option Value) → Shared → Prop}, (∀ v ∈ vs, IsRow s.heap v (k v)) → (∀ fs, Firsts fs (vs.map k) → Q fs s) → wpAny (model prog w) A (vs.mapM firstOfTuple') Q E s
  | [], k, Q, _, q => by rw [List.mapM_nil]; exact wpAny_pure (q [] .nil)
  | v :: vs, k, Q, h, q => by
    rw [List.mapM_cons]
    refine wpAny_bind (first_row (h v List.mem_cons_self) fun f hf => ?_)
    refine wpAny_bind (firsts_rows (fun u m => h u (List.mem_cons_of_mem _ m)) fun fs hfs => wpAny_pure (q _ ?_))
    rw [List.map_cons]
    rcases hf with ⟨rfl, e⟩ | ⟨i, t, rfl, e⟩
    · rw [e]; exact .no hfs
    · exact .so e hfs
theorem firsts_int {fs : List (Option Value)} {zs : List (List Int)} (h : Firsts fs zs) : ∀ f ∈ fs.filterMap id, ∃ i t, f = Value.int i t := by
  induction h with
  | nil => simp
  | no _ ih => simpa using ih
  | so _ _ ih =>
    intro f hf
    rw [List.filterMap_cons] at hf
    rcases List.mem_cons.mp hf with e | hf
    · exact ⟨_, _, e⟩
    · exact ih f hf
theorem firsts_len {fs : List (Option Value)} {zs : List (List Int)} (h : Firsts fs zs) : fs.length = zs.length := by
  induction h <;> simp_all
theorem rows_sortable {a : Addr} {vs : List Value} {k : Value → List Int} (h2 : 2 ≤ vs.length) (hu : A.units < cLine) (hv : ∀ v ∈ vs, IsRow s.heap v (k v)) (ha : ∀ v ∈ vs, v ≠ .ref a) : SrtO.SortableO prog w A s a vs fun v u => HT.lexLt (k v) (k u) := by
  intro h' keep
  have hv' : ∀ v ∈ vs, IsRow h' v (k v) := fun v hm => (hv v hm).keeps fun b o e g => keep b o (fun z => ha v hm (by rw [e, z])) g
  -- which kind it is
  have one : SrtO.Cmp prog w A { s with heap := h' } oneType' (fun p => p.1 ∈ vs) (SrtO.lt2 fun v u => HT.lexLt (k v) (k u)) := fun p q hp hq =>
    row_one (s := { s with heap := h' }) (Q := fun r s' => s' = { s with heap := h' } ∧ r = HT.lexLt (k p.1) (k q.1)) (E := fun _ _ => False) hu (hv' p.1 hp) (hv' q.1 hq) ⟨rfl, rfl⟩
  have gen : SrtO.Cmp prog w A { s with heap := h' } general' (fun p => p.1 ∈ vs) (SrtO.lt2 fun v u => HT.lexLt (k v) (k u)) := fun p q hp hq =>
    PySem.W.kat_one (s := { s with heap := h' }) (Q := fun r s' => s' = { s with heap := h' } ∧ r = HT.lexLt (k p.1) (k q.1)) (E := fun _ _ => False) _ _ (row_lt (s := { s with heap := h' }) hu (hv' p.1 hp) (hv' q.1 hq) ⟨rfl, rfl⟩)
  have tup : SrtO.Cmp prog w A { s with heap := h' } (tuples' true) (fun p => p.1 ∈ vs) (SrtO.lt2 fun v u => HT.lexLt (k v) (k u)) := fun p q hp hq => by
    obtain ⟨x, xs, e1, ⟨o1, g1, c1, n1, d1⟩, i1⟩ := hv' p.1 hp
    obtain ⟨y, ys, e2, ⟨o2, g2, c2, n2, d2⟩, i2⟩ := hv' q.1 hq
    show wpAny (model prog w) A (keyLt' (tuples' true) p.1 q.1) (fun r s' => s' = { s with heap := h' } ∧ r = HT.lexLt (k p.1) (k q.1)) (fun _ _ => False) { s with heap := h' }
    rw [e1, e2]
    refine PySem.W.kat_lt (s := { s with heap := h' }) g1 d1 g2 d2 (kat_ints (s := { s with heap := h' }) 0 i1 i2 ?_ ⟨rfl, by rw [e1, e2]⟩)
    have z1 := i1.length
    have z2 := i2.length
    rw [Array.length_toList] at z1 z2
    rw [z1, z2]
  -- all the kinds at once: the firsts tell
  by_cases hall : ∀ v ∈ vs, k v ≠ []
  · refine ⟨tuples' true, fun Q E hq => ?_, tup⟩
    rw [PyProof.Rows.kat_kind_eq, List.mapM_toArray, map_eq_pure_bind]
    refine wpAny_bind (wpAny_bind (firsts_rows (s := { s with heap := h' }) hv' fun fs hfs => wpAny_pure ?_))
    have hs : (fs.toArray.all fun x => x.isSome) = true := by
      have : ∀ {fs : List (Option Value)} {zs : List (List Int)}, Firsts fs zs → (∀ z ∈ zs, z ≠ []) → fs.all (fun x => x.isSome) = true := by
        intro fs zs h
        induction h with
        | nil => intro _; rfl
        | no _ _ => intro hz; exact absurd rfl (hz [] List.mem_cons_self)
        | so _ _ ih => intro hz; rw [List.all_cons, ih fun z m => hz z (List.mem_cons_of_mem _ m)]; rfl
      rw [List.all_toArray]
      exact this hfs fun z m => by
        obtain ⟨v, hm, rfl⟩ := List.mem_map.mp m
        exact hall v hm
    rw [if_pos hs]
    refine wpAny_bind (wpAny_rule ?_)
    have hne : 0 < (fs.filterMap id).length := by
      have hl := firsts_len hfs
      rw [List.length_map] at hl
      match fs, hfs, hs with
      | [], _, _ => simp at hl; omega
      | none :: _, _, hs => simp at hs
      | some f :: r, _, _ => simp
    have hfm : fs.toArray.filterMap id = (fs.filterMap id).toArray := by simp
    rw [hfm, oneTypeOnly'_eq, List.mapM_toArray, map_eq_pure_bind]
    refine wpAny_bind (wpAny_bind (wpAny_bind (PySem.W.kas_mapM (r := Value.type "int") _ (fun f hf Q' hq' => ?_) (wpAny_pure ?_))))
    · obtain ⟨i, t, rfl⟩ := firsts_int hfs f hf
      exact wpAny_pure hq'
    · have hall2 : ((List.map (fun _ => Value.type "int") (fs.filterMap id)).toArray.all fun x => x == Value.type "int") = true := by
        simp only [List.all_toArray, List.all_map, List.all_eq_true]
        intro _ _
        rfl
      have h0 : (List.map (fun _ => Value.type "int") (fs.filterMap id)).toArray[0]? = some (Value.type "int") := by
        match fs.filterMap id, hne with
        | f :: r, _ => simp
      rw [h0]
      simp only [hall2, if_true]
      exact wpAny_pure (wpAny_pure hq)
  · -- some row is empty
    obtain ⟨e0, he0, hk0⟩ : ∃ v ∈ vs, k v = [] := by
      apply Classical.byContradiction
      intro n
      exact hall fun v m z => n ⟨v, m, z⟩
    have hno : ∀ fs, Firsts fs (vs.map k) → ¬ ((fs.toArray.all fun x => x.isSome) = true) := fun fs hfs z => by
      rw [List.all_toArray] at z
      have : ∀ {fs : List (Option Value)} {zs : List (List Int)}, Firsts fs zs → [] ∈ zs → fs.all (fun x => x.isSome) = true → False := by
        intro fs zs h
        induction h with
        | nil => intro m; simp at m
        | no _ _ => intro _ y; simp at y
        | so hz _ ih =>
          intro m y
          rcases List.mem_cons.mp m with m | m
          · exact hz m.symm
          · rw [List.all_cons, Bool.and_eq_true] at y
            exact ih m y.2
      exact this hfs (List.mem_map.mpr ⟨e0, he0, hk0⟩) z
    match vs, h2 with
    | v :: u :: r, _ =>
      by_cases hv0 : k v = []
      · refine ⟨oneType', fun Q E hq => ?_, one⟩
        rw [PyProof.Rows.kat_kind_eq, List.mapM_toArray, map_eq_pure_bind]
        refine wpAny_bind (wpAny_bind (firsts_rows (s := { s with heap := h' }) hv' fun fs hfs => wpAny_pure ?_))
        rw [if_neg (hno fs hfs)]
        have hf0 : ¬ ((fs.toArray[0]?.bind id).isSome = true) := by
          rw [List.map_cons, hv0] at hfs
          cases hfs with
          | no _ => simp
          | so hz _ => exact absurd rfl hz
        rw [if_neg hf0]
        rw [oneTypeOnly'_eq, List.mapM_toArray, map_eq_pure_bind]
        refine wpAny_bind (wpAny_bind (wpAny_bind (PySem.W.kas_mapM (r := Value.type "tuple") _ (fun f hf Q' hq' => ((hv' f hf).type).here hq') (wpAny_pure ?_))))
        have hall2 : ((List.map (fun _ => Value.type "tuple") (v :: u :: r)).toArray.all fun x => x == Value.type "tuple") = true := by
          simp only [List.all_toArray, List.all_map, List.all_eq_true]
          intro _ _
          rfl
        have h0 : (List.map (fun _ => Value.type "tuple") (v :: u :: r)).toArray[0]? = some (Value.type "tuple") := by simp
        rw [h0]
        simp only [hall2, if_true]
        exact wpAny_pure (wpAny_pure hq)
      · refine ⟨general', fun Q E hq => ?_, gen⟩
        rw [PyProof.Rows.kat_kind_eq, List.mapM_toArray, map_eq_pure_bind]
        refine wpAny_bind (wpAny_bind (firsts_rows (s := { s with heap := h' }) hv' fun fs hfs => wpAny_pure ?_))
        rw [if_neg (hno fs hfs)]
        have hf0 : (fs.toArray[0]?.bind id).isSome = true := by
          rw [List.map_cons] at hfs
          generalize k v = kv at hfs hv0
          cases hfs with
          | no _ => exact absurd rfl hv0
          | so hz _ => simp
        rw [if_pos hf0]
        exact wpAny_pure hq
end
section
variable {prog : Program} {w : World} {A : Around} {s : Shared} {E : Value → Shared → Prop}
theorem collect_tuple {l : Addr} {vs : List Value} {Q : List Value → Shared → Prop} (hl : IsTup s.heap l vs.toArray)
    (h : Q vs { s with heap := (s.heap.push (seqObj "list" #[] 0)).update s.heap.objs.size (Obj.mapSeq (· ++ vs.toArray)) }) (hsz : vs.length ≤ sizeLine) :
    wpAny (model prog w) A (collect (.ref l)) Q E s := by
  obtain ⟨o, ho, hc, n, hd⟩ := id hl
  unfold collect
  refine wpAny_bind (wpAny_runValue (codeAny_builtin entry_proto_collect' ?_))
  show wpAny _ _ (do again (.builtin "list.__iadd__" ⟨[← newList [], .ref l], []⟩)) _ _ s
  refine wpAny_bind (wpAny_newList (wpAny_pure ⟨Code.quiet_builtin _ (by decide +kernel), codeAny_builtin entry_list_iadd' ?_⟩))
  show wpAny _ _ (Builtin.List.listExtendWith (.ref s.heap.objs.size) (.ref l) (.ref s.heap.objs.size)) _ _ { s with heap := s.heap.push (seqObj "list" #[] 0) }
  unfold Builtin.List.listExtendWith
  have ho' : (s.heap.push (seqObj "list" #[] 0)).get? l = some o := Heap.get?_push_of_some _ ho
  refine wpAny_bind (wpAny_typeOf (T := "tuple") ⟨o, ho', hc⟩ ?_)
  have ht : (Value.type "tuple" == Value.type "tuple") = true := by decide
  rw [if_pos (by rw [ht]; simp)]
  refine wpAny_bind (listItems_at ho' hd ?_)
  refine wpAny_bind (listItems_at (xs := #[]) (n := 0) (Heap.get?_push_size _ rfl) rfl ?_)
  rw [if_neg (by simp)]
  refine wpAny_bind (listUpdate_at (xs := #[]) (n := 0) (Heap.get?_push_size _ rfl) rfl ?_ (Nat.zero_le _) (by show (#[] ++ vs.toArray).size ≤ sizeLine + 1; simp only [Array.size_append, List.size_toArray, List.length_nil]; omega))
  refine wpAny_pure ?_
  show wpAny (model prog w) A (do
      let o ← load s.heap.objs.size
      match o.data with
      | .seq xs _ => pure xs.toList
      | _ => unsupported "internal:collect") Q E { s with heap := (s.heap.push (seqObj "list" #[] 0)).update s.heap.objs.size (Obj.mapSeq (· ++ vs.toArray)) }
  refine wpAny_bind (wpAny_load (get?_update_seq (Heap.get?_push_size _ rfl) _) ?_)
  show wpAny _ _ (pure ((#[] : Array Value) ++ vs.toArray).toList) Q E _
  rw [show ((#[] : Array Value) ++ vs.toArray).toList = vs by simp]
  exact wpAny_pure h
open SrtO in
theorem sorted_tup {l : Addr} {vs : List Value} {ltv : Value → Value → Bool} {Q : Value → Shared → Prop} (O : Swo ltv) (hl : IsTup s.heap l vs.toArray) (hz : vs.length ≤ sizeLine)
    (hS : 2 ≤ vs.length → ∀ (h₁ : Heap) (a : Addr), h₁.get? a = some (seqObj "list" vs.toArray 0) → (∀ b o, s.heap.get? b = some o → b ≠ a ∧ h₁.get? b = some o) → SortableO prog w A.in1.in1 { s with heap := h₁ } a vs ltv)
    (h : ∀ out : List Value, Srtd ltv out → Stb ltv out vs → Q (.ref (s.heap.objs.size + 1)) { s with heap := sortedAll s.heap vs out.toArray }) :
    wpAny (model prog w) A (call (.builtin "sorted") [.ref l]) Q E s := by
  refine Calls.call_function_entry kind_sorted plain_sorted entry_sorted (args_sorted1 _) ?_
  unfold Builtin.«sorted»
  refine wpAny_bind (m := checkCount "sorted" 1 1 _) (wpAny_pure ?_)
  refine wpAny_bind (collect_tuple hl ?_ hz)
  refine wpAny_bind (wpAny_newList ?_ hz)
  have hsz : ((s.heap.push (seqObj "list" #[] 0)).update s.heap.objs.size (Obj.mapSeq (· ++ vs.toArray))).objs.size = s.heap.objs.size + 1 := by
    rw [Heap.size_update, size_push']
  have hoL : (((s.heap.push (seqObj "list" #[] 0)).update s.heap.objs.size (Obj.mapSeq (· ++ vs.toArray))).push (seqObj "list" vs.toArray 0)).get? (s.heap.objs.size + 1) = some (seqObj "list" vs.toArray 0) := by
    rw [← hsz]; exact Heap.get?_push_size _ rfl
  have keep : ∀ b o, s.heap.get? b = some o → b ≠ s.heap.objs.size + 1 ∧ (((s.heap.push (seqObj "list" #[] 0)).update s.heap.objs.size (Obj.mapSeq (· ++ vs.toArray))).push (seqObj "list" vs.toArray 0)).get? b = some o := fun b o q => by
    have hlt : b < s.heap.objs.size := Heap.lt_size q
    refine ⟨Nat.ne_of_lt (Nat.lt_succ_of_lt hlt), Heap.get?_push_of_some _ ?_⟩
    rw [Heap.get?_update_ne _ _ _ _ (Nat.ne_of_lt hlt)]
    exact Heap.get?_push_of_some _ q
  show wpAny _ _ _ _ _ { s with heap := ((s.heap.push (seqObj "list" #[] 0)).update s.heap.objs.size (Obj.mapSeq (· ++ vs.toArray))).push (seqObj "list" vs.toArray 0) }
  rw [hsz]
  refine wpAny_bind (wpAny_holding (wpAny_call_entry slot_list_sort ⟨_, hoL, rfl⟩ entry_list_sort (list_sort_ord O hoL hz (fun h2 => hS h2 _ _ hoL keep) fun out hs hb => ⟨_, rfl, ?_⟩) (args_list_sort _)))
  exact wpAny_pure ⟨_, rfl, h out hs hb⟩
end

/-! ### what is sorted is one list -/
theorem sorted_uniq {α : Type} {R : α → α → Prop} (anti : ∀ a b, R a b → R b a → a = b) (rfl' : ∀ a, R a a) : ∀ {xs ys : List α}, xs.Perm ys → xs.Pairwise R → ys.Pairwise R → xs = ys
  | [], ys, p, _, _ => (List.Perm.nil_eq p)
  | x :: xs, [], p, _, _ => absurd p.length_eq (by simp)
  | x :: xs, y :: ys, p, h1, h2 => by
    have e : x = y := by
      have m1 : x ∈ y :: ys := p.subset List.mem_cons_self
      have m2 : y ∈ x :: xs := p.symm.subset List.mem_cons_self
      rcases List.mem_cons.mp m1 with e | m1
      · exact e
      rcases List.mem_cons.mp m2 with e | m2
      · exact e.symm
      exact anti _ _ ((List.pairwise_cons.mp h1).1 y m2) ((List.pairwise_cons.mp h2).1 x m1)
    subst e
    rw [sorted_uniq anti rfl' (List.perm_cons x |>.mp p) (List.pairwise_cons.mp h1).2 (List.pairwise_cons.mp h2).2]
theorem ins_perm (n : Int) : ∀ l : List Int, (ins n l).Perm (n :: l)
  | [] => .refl _
  | m :: r => by
    unfold ins
    split
    · exact .refl _
    · exact ((ins_perm n r).cons m).trans (.swap n m r)
theorem isort_perm : ∀ l : List Int, (isort l).Perm l
  | [] => .refl _
  | n :: r => (ins_perm n (isort r)).trans ((isort_perm r).cons n)
theorem ins_sorted (n : Int) : ∀ {l : List Int}, l.Pairwise (· ≤ ·) → (ins n l).Pairwise (· ≤ ·)
  | [], _ => by simp [ins]
  | m :: r, h => by
    have h' := List.pairwise_cons.mp h
    unfold ins
    split
    · rename_i hnm
      refine List.pairwise_cons.mpr ⟨fun a ha => ?_, h⟩
      rcases List.mem_cons.mp ha with e | ha
      · rw [e]; exact hnm
      · exact Int.le_trans hnm (h'.1 a ha)
    · rename_i hnm
      refine List.pairwise_cons.mpr ⟨fun a ha => ?_, ins_sorted n h'.2⟩
      rcases List.mem_cons.mp ((ins_perm n r).mem_iff.mp ha) with e | ha
      · rw [e]; omega
      · exact h'.1 a ha
theorem isort_sorted : ∀ l : List Int, (isort l).Pairwise (· ≤ ·)
  | [] => .nil
  | n :: r => ins_sorted n (isort_sorted r)
theorem isort_uniq {l m : List Int} (p : m.Perm l) (s : m.Pairwise (· ≤ ·)) : m = isort l :=
  sorted_uniq (R := (· ≤ ·)) (fun a b => Int.le_antisymm) (fun a => Int.le_refl a) (p.trans (isort_perm l).symm) s (isort_sorted l)
/-- not behind -/
def leR (a b : List Int) : Prop := HT.lexLt b a = false
theorem leR_anti : ∀ a b : List Int, leR a b → leR b a → a = b
  | [], [], _, _ => rfl
  | [], y :: ys, _, h => by unfold leR at h; rw [HT.lexLt_nil_cons] at h; cases h
  | x :: xs, [], h, _ => by unfold leR at h; rw [HT.lexLt_nil_cons] at h; cases h
  | x :: xs, y :: ys, h, g => by
    unfold leR at h g
    rw [HT.lexLt_cons] at h g
    by_cases e : x = y
    · subst e
      rw [if_pos rfl] at h g
      rw [leR_anti xs ys h g]
    · rw [if_neg (Ne.symm e)] at h
      rw [if_neg e] at g
      have := of_decide_eq_false h
      have := of_decide_eq_false g
      omega
theorem leR_rfl (a : List Int) : leR a a := (NtL.swo_lexL (fun a : List Int => a)).refl a
theorem insR_perm (n : List Int) : ∀ l : List (List Int), (insR n l).Perm (n :: l)
  | [] => .refl _
  | m :: r => by
    unfold insR
    split
    · exact ((insR_perm n r).cons m).trans (.swap n m r)
    · exact .refl _
theorem isortR_perm : ∀ l : List (List Int), (isortR l).Perm l
  | [] => .refl _
  | n :: r => (insR_perm n (isortR r)).trans ((isortR_perm r).cons n)
theorem insR_sorted (n : List Int) : ∀ {l : List (List Int)}, l.Pairwise leR → (insR n l).Pairwise leR
  | [], _ => by simp [insR]
  | m :: r, h => by
    have O := NtL.swo_lexL (fun a : List Int => a)
    have h' := List.pairwise_cons.mp h
    unfold insR
    split
    · rename_i hnm
      refine List.pairwise_cons.mpr ⟨fun a ha => ?_, insR_sorted n h'.2⟩
      rcases List.mem_cons.mp ((insR_perm n r).mem_iff.mp ha) with e | ha
      · rw [e]; exact O.asym _ _ hnm
      · exact h'.1 a ha
    · rename_i hnm
      have hnm : HT.lexLt m n = false := by simpa using hnm
      refine List.pairwise_cons.mpr ⟨fun a ha => ?_, h⟩
      rcases List.mem_cons.mp ha with e | ha
      · rw [e]; exact hnm
      · exact O.tr n m a hnm (h'.1 a ha)
theorem isortR_sorted : ∀ l : List (List Int), (isortR l).Pairwise leR
  | [] => .nil
  | n :: r => insR_sorted n (isortR_sorted r)
theorem isortR_uniq {l m : List (List Int)} (p : m.Perm l) (s : m.Pairwise leR) : m = isortR l :=
  sorted_uniq leR_anti leR_rfl (p.trans (isortR_perm l).symm) s (isortR_sorted l)

/-! ### rows -/
theorem asRows_of {xs : List PyData} {zs : List (List Int)} (h : asRows xs = some zs) : xs = ofRows zs := by
  induction xs generalizing zs with
  | nil => simp [asRows] at h; subst h; rfl
  | cons x xs ih =>
    cases x with
    | tuple t =>
      simp only [asRows] at h
      split at h
      · rename_i z zr h1 h2
        cases h
        have ht : ∀ {t : List PyData} {z : List Int}, asInts t = some z → t = ofInts z := by
          intro t
          induction t with
          | nil => intro z h; simp [asInts] at h; subst h; rfl
          | cons a t ih =>
            intro z h
            cases a with
            | int i =>
              simp only [asInts, Option.map_eq_some_iff] at h
              obtain ⟨y, h1, rfl⟩ := h
              rw [ih h1]; rfl
            | _ => simp [asInts] at h
        rw [ih h2, ht h1]; rfl
      · cases h
    | _ => simp [asRows] at h
section
variable {X : Cx} {pins : List (Addr × Obj)} {σ : L2.St} {H : Hp} {s : Shared}
theorem row_at (I : Inv X pins σ H s) {Φ : Hp} (le : Le Φ H) {v : V} {u : Value} {z : List Int} (h : Dq X.K Φ v (ofRow z)) (r : RelV v u) : IsRow s.heap u z ∧ ∃ t, v = .ref t ∧ u = .ref t := by
  have h : Dq X.K Φ v (.tuple (ofInts z)) := h
  cases h with
  | @tup a xs _ h1 h2 =>
    have r : u = .ref a := r
    subst r
    have e : xs = z.map V.int := dpa_ints h2 (by
      have : ∀ z : List Int, asInts (ofInts z) = some z := by
        intro z
        induction z with
        | nil => rfl
        | cons a z ih => show (asInts (ofInts z)).map _ = _; rw [ih]; rfl
      exact this z)
    subst e
    obtain ⟨its, rv, hT, _⟩ := I.tuple (sqt_mono le h1)
    exact ⟨⟨a, its.toArray, rfl, hT, by simpa using rv.ints⟩, a, rfl, rfl⟩
/-- the rows of values -/
theorem rows_at (I : Inv X pins σ H s) {Φ : Hp} (le : Le Φ H) : ∀ {xs : List V} {us : List Value} {zs : List (List Int)}, DqAll X.K Φ xs (ofRows zs) → Vals xs us → xs = us.map bkV ∧ (∀ u ∈ us, ∃ z, IsRow s.heap u z ∧ Dq X.K Φ (bkV u) (ofRow z)) ∧ ∀ k : Value → List Int, (∀ u ∈ us, IsRow s.heap u (k u)) → us.map k = zs
  | [], us, [], h, r => by cases r; exact ⟨rfl, fun u m => by simp at m, fun k _ => rfl⟩
  | [], us, z :: zs, h, r => by cases h
  | x :: xs, us, [], h, r => by cases h
  | x :: xs, us, z :: zs, h, r => by
    cases r with
    | @cons _ u _ us ru rr =>
      have h : DqAll X.K Φ (x :: xs) (ofRow z :: ofRows zs) := h
      cases h with
      | cons h1 h2 =>
        obtain ⟨i1, t, e1, e2⟩ := row_at I le h1 ru
        obtain ⟨j1, j2, j3⟩ := rows_at I le h2 rr
        subst e1 e2
        refine ⟨by rw [List.map_cons, ← j1]; rfl, fun u m => ?_, fun k hk => ?_⟩
        · rcases List.mem_cons.mp m with e | m
          · rw [e]; exact ⟨z, i1, h1⟩
          · exact j2 u m
        · rw [List.map_cons, j3 k fun u m => hk u (List.mem_cons_of_mem _ m)]
          obtain ⟨a, items, e, T1, i⟩ := hk (.ref t) List.mem_cons_self
          obtain ⟨a', items', e', T2, i'⟩ := i1
          cases e
          cases e'
          obtain ⟨o, ho, hc, n, hd⟩ := T1
          obtain ⟨o', ho', hc', n', hd'⟩ := T2
          rw [ho] at ho'; cases ho'
          rw [hd] at hd'; cases hd'
          have : ∀ {l : List Value} {a b : List Int}, IntsAre l a → IntsAre l b → a = b := by
            intro l a b h
            induction h generalizing b with
            | nil => intro g; cases g; rfl
            | cons n t _ ih => intro g; cases g with | cons _ _ g => rw [ih g]
          rw [this i i']
def rSortRows (K : PySem.W.Frag) : List V → Hp → VK → Prop := fun vs H Q => ∃ (a : Addr) (xs : List V) (zs : List (List Int)) (Φ : Hp), vs = [V.ref a] ∧ SqL K H a xs ∧ Le Φ H ∧ DqAll K Φ xs (ofRows zs) ∧
  ∀ (ys : List V) (p : Addr), DqAll K Φ ys (ofRows (isortR zs)) → H p = none → Q (.ref p) (upd H p (.lst ys))
theorem cr_sortRows (hu : X.A.units + 64 < cLine) : CallR X (.builtin "sorted") (rSortRows X.K) := by
  intro pins s σ H vs us Q I r h
  obtain ⟨a, xs, zs, Φ, rfl, hs, le, hd, q⟩ := h
  obtain ⟨its, rv, hl, hz⟩ := I.list hs
  rw [Vals.ref1 r]
  obtain ⟨ex, hrows, huniq⟩ := rows_at I le hd rv
  obtain ⟨k, hk⟩ : ∃ k : Value → List Int, ∀ u ∈ its, IsRow s.heap u (k u) := by
    refine ⟨fun u => Classical.epsilon fun z => IsRow s.heap u z, fun u m => ?_⟩
    obtain ⟨z, hz, _⟩ := hrows u m
    exact Classical.epsilon_spec (p := fun z => IsRow s.heap u z) ⟨z, hz⟩
  refine SrtO.sorted_ord (NtL.swo_lexL k) hl.isList (by rw [← rv.length]; exact hz) (fun h2 h₁ a' e1 kk => rows_sortable (s := { s with heap := h₁ }) h2 (by show X.A.in1.in1.units < cLine; show X.A.units + 1 + 1 < cLine; omega) (fun v m => (hk v m).keeps fun b o _ e => (kk b o e).2) fun v m z => ?_) fun out h1 h2 => ?_
  · obtain ⟨b, items, e, ⟨o, ho, hc, _⟩, _⟩ := hk v m
    rw [z] at e
    cases e
    exact (kk _ _ ho).1 rfl
  · obtain ⟨ep, he'⟩ := PyProof.Rows.sortedAll_at s.heap its out.toArray
    have hp : out.Perm its := h2.perm
    have hkz : its.map k = zs := huniq k hk
    have hsort : out.map k = isortR zs := isortR_uniq (by rw [← hkz]; exact hp.map k) (List.pairwise_map.mpr (h1.imp fun {x y} h => h))
    have hout : ∀ u ∈ out, ∃ a, u = Value.ref a := fun u m => by
      obtain ⟨b, items, e, _⟩ := hk u (hp.mem_iff.mp m)
      exact ⟨b, e⟩
    have hdq : ∀ l : List Value, (∀ u ∈ l, u ∈ its) → DqAll X.K Φ (l.map bkV) (ofRows (l.map k)) := by
      intro l
      induction l with
      | nil => intro _; exact .nil
      | cons u l ih =>
        intro hm
        refine .cons ?_ (ih fun v m => hm v (List.mem_cons_of_mem _ m))
        obtain ⟨z, i1, i2⟩ := hrows u (hm u List.mem_cons_self)
        have := huniq
        have ez : k u = z := by
          obtain ⟨a, items, e, T1, i⟩ := hk u (hm u List.mem_cons_self)
          obtain ⟨a', items', e', T2, i'⟩ := i1
          rw [e] at e'
          cases e'
          obtain ⟨o, ho, hc, n, hd⟩ := T1
          obtain ⟨o', ho', hc', n', hd'⟩ := T2
          rw [ho] at ho'; cases ho'
          rw [hd] at hd'; cases hd'
          have : ∀ {l : List Value} {a b : List Int}, IntsAre l a → IntsAre l b → a = b := by
            intro l a b h
            induction h generalizing b with
            | nil => intro g; cases g; rfl
            | cons n t _ ih => intro g; cases g with | cons _ _ g => rw [ih g]
          exact this i i'
        rw [ez]
        exact i2
    have hd2 := hdq out fun u m => hp.mem_iff.mp m
    rw [hsort] at hd2
    have hlen : (out.map bkV).length ≤ sizeLine := by
      rw [List.length_map, hp.length_eq, ← rv.length]; exact hz
    exact ⟨.ref _, upd H (s.heap.objs.size + 1) (.lst (out.map bkV)), I.laid (t' := s.toks) (fun _ _ => PyProof.Rows.sortedAll_old) (Nat.le_succ _) ⟨hlen, out, ep, bkV_vals hout, he'⟩, rfl, q _ _ hd2 (I.hok.fresh (Nat.le_succ _))⟩
/-- sorted(t), a tuple of rows -/
def rSortRowsT (K : PySem.W.Frag) : List V → Hp → VK → Prop := fun vs H Q => ∃ (a : Addr) (xs : List V) (zs : List (List Int)) (Φ : Hp), vs = [V.ref a] ∧ SqT K H a xs ∧ Le Φ H ∧ DqAll K Φ xs (ofRows zs) ∧
  ∀ (ys : List V) (p : Addr), DqAll K Φ ys (ofRows (isortR zs)) → H p = none → Q (.ref p) (upd H p (.lst ys))
theorem cr_sortRowsT (hu : X.A.units + 64 < cLine) : CallR X (.builtin "sorted") (rSortRowsT X.K) := by
  intro pins s σ H vs us Q I r h
  obtain ⟨a, xs, zs, Φ, rfl, hs, le, hd, q⟩ := h
  obtain ⟨its, rv, hl, hz⟩ := I.tuple hs
  rw [Vals.ref1 r]
  obtain ⟨ex, hrows, huniq⟩ := rows_at I le hd rv
  obtain ⟨k, hk⟩ : ∃ k : Value → List Int, ∀ u ∈ its, IsRow s.heap u (k u) := by
    refine ⟨fun u => Classical.epsilon fun z => IsRow s.heap u z, fun u m => ?_⟩
    obtain ⟨z, hz, _⟩ := hrows u m
    exact Classical.epsilon_spec (p := fun z => IsRow s.heap u z) ⟨z, hz⟩
  refine sorted_tup (NtL.swo_lexL k) hl (by rw [← rv.length]; exact hz) (fun h2 h₁ a' e1 kk => rows_sortable (s := { s with heap := h₁ }) h2 (by show X.A.in1.in1.units < cLine; show X.A.units + 1 + 1 < cLine; omega) (fun v m => (hk v m).keeps fun b o _ e => (kk b o e).2) fun v m z => ?_) fun out h1 h2 => ?_
  · obtain ⟨b, items, e, ⟨o, ho, hc, _⟩, _⟩ := hk v m
    rw [z] at e
    cases e
    exact (kk _ _ ho).1 rfl
  · obtain ⟨ep, he'⟩ := PyProof.Rows.sortedAll_at s.heap its out.toArray
    have hp : out.Perm its := h2.perm
    have hkz : its.map k = zs := huniq k hk
    have hsort : out.map k = isortR zs := isortR_uniq (by rw [← hkz]; exact hp.map k) (List.pairwise_map.mpr (h1.imp fun {x y} h => h))
    have hout : ∀ u ∈ out, ∃ a, u = Value.ref a := fun u m => by
      obtain ⟨b, items, e, _⟩ := hk u (hp.mem_iff.mp m)
      exact ⟨b, e⟩
    have hdq : ∀ l : List Value, (∀ u ∈ l, u ∈ its) → DqAll X.K Φ (l.map bkV) (ofRows (l.map k)) := by
      intro l
      induction l with
      | nil => intro _; exact .nil
      | cons u l ih =>
        intro hm
        refine .cons ?_ (ih fun v m => hm v (List.mem_cons_of_mem _ m))
        obtain ⟨z, i1, i2⟩ := hrows u (hm u List.mem_cons_self)
        have := huniq
        have ez : k u = z := by
          obtain ⟨a, items, e, T1, i⟩ := hk u (hm u List.mem_cons_self)
          obtain ⟨a', items', e', T2, i'⟩ := i1
          rw [e] at e'
          cases e'
          obtain ⟨o, ho, hc, n, hd⟩ := T1
          obtain ⟨o', ho', hc', n', hd'⟩ := T2
          rw [ho] at ho'; cases ho'
          rw [hd] at hd'; cases hd'
          have : ∀ {l : List Value} {a b : List Int}, IntsAre l a → IntsAre l b → a = b := by
            intro l a b h
            induction h generalizing b with
            | nil => intro g; cases g; rfl
            | cons n t _ ih => intro g; cases g with | cons _ _ g => rw [ih g]
          exact this i i'
        rw [ez]
        exact i2
    have hd2 := hdq out fun u m => hp.mem_iff.mp m
    rw [hsort] at hd2
    have hlen : (out.map bkV).length ≤ sizeLine := by
      rw [List.length_map, hp.length_eq, ← rv.length]; exact hz
    exact ⟨.ref _, upd H (s.heap.objs.size + 1) (.lst (out.map bkV)), I.laid (t' := s.toks) (fun _ _ => PyProof.Rows.sortedAll_old) (Nat.le_succ _) ⟨hlen, out, ep, bkV_vals hout, he'⟩, rfl, q _ _ hd2 (I.hok.fresh (Nat.le_succ _))⟩
/-- sorted(t), a tuple of ints -/
def rSortTI (K : PySem.W.Frag) : List V → Hp → VK → Prop := fun vs H Q => ∃ (a : Addr) (ns : List Int), vs = [V.ref a] ∧ SqT K H a (ns.map V.int) ∧
  ∀ p : Addr, H p = none → Q (.ref p) (upd H p (.lst ((isort ns).map V.int)))
theorem cr_sortTI : CallR X (.builtin "sorted") (rSortTI X.K) := by
  intro pins s σ H vs us Q I r h
  obtain ⟨a, ns, rfl, hs, q⟩ := h
  obtain ⟨its, rv, hl, hz⟩ := I.tuple hs
  rw [Vals.ref1 r]
  have hi := rv.ints
  refine sorted_tup SrtO.swo_int hl (by rw [← rv.length]; exact hz) (fun h2 h₁ a' _ _ => SrtO.ints_sortable hi h2) fun out h1 h2 => ?_
  obtain ⟨k1, k2, k3⟩ := SrtO.ints_out hi h1 h2
  obtain ⟨ep, he'⟩ := PyProof.Rows.sortedAll_at s.heap its out.toArray
  have e := isort_uniq k2 k3
  have hlen : ((out.map SrtO.iv).map V.int).length ≤ sizeLine := by
    rw [List.length_map, k2.length_eq]
    rw [List.length_map] at hz
    exact hz
  have q' := q (s.heap.objs.size + 1) (I.hok.fresh (Nat.le_succ _))
  rw [← e] at q'
  exact ⟨.ref _, upd H (s.heap.objs.size + 1) (.lst ((out.map SrtO.iv).map V.int)), I.laid (t' := s.toks) (fun _ _ => PyProof.Rows.sortedAll_old) (Nat.le_succ _) ⟨hlen, out, ep, vals_of_ints k1, he'⟩, rfl, q'⟩
theorem asInts_of {t : List PyData} {z : List Int} (h : asInts t = some z) : t = ofInts z := by
  induction t generalizing z with
  | nil => simp [asInts] at h; subst h; rfl
  | cons a t ih =>
    cases a with
    | int i =>
      simp only [asInts, Option.map_eq_some_iff] at h
      obtain ⟨y, h1, rfl⟩ := h
      rw [ih h1]; rfl
    | _ => simp [asInts] at h
theorem sc_srt (hu : X.A.units + 64 < cLine) : ∃ r, CallR X (.builtin "sorted") r ∧ Sc X .srt r := by
  refine ⟨_, ((cr_sortedI.or (cr_sortRows hu)).or cr_sortTI).or (cr_sortRowsT hu), one_of (fun ds e h => ?_) fun Φ H x d e Q s hx h o => ?_⟩
  · match ds, h with
    | [d], _ => exact ⟨d, rfl⟩
    | [], h => simp [pf] at h
    | _ :: _ :: _, h => simp [pf] at h
  · cases d <;> simp only [pf] at h <;> try (cases h; done)
    · split at h
      · obtain ⟨a, xs, rfl, h1, h2⟩ := hx.lst s
        split at h
        · rename_i ns hns
          cases h
          have e1 := dpa_ints h2 hns
          subst e1
          refine .inl (.inl (.inl ⟨a, ns, rfl, SqL.of h1, fun ns' p k1 k2 n => ?_⟩))
          rw [isort_uniq k1 k2]
          exact o p _ (dpa_ofInts _) n
        · split at h
          · rename_i zs hzs
            cases h
            have e1 := asRows_of hzs
            subst e1
            exact .inl (.inl (.inr ⟨a, xs, zs, Φ, rfl, SqL.of h1, s, h2, fun ys p k n => o p _ k n⟩))
          · cases h
      · cases h
    · split at h
      · obtain ⟨a, xs, rfl, h1, h2⟩ := hx.tup
        split at h
        · rename_i ns hns
          cases h
          have e1 := dpa_ints h2 hns
          subst e1
          exact .inl (.inr ⟨a, ns, rfl, sqt_mono s h1, fun p n => o p _ (dpa_ofInts _) n⟩)
        · split at h
          · rename_i zs hzs
            cases h
            have e1 := asRows_of hzs
            subst e1
            exact .inr ⟨a, xs, zs, Φ, rfl, sqt_mono s h1, s, h2, fun ys p k n => o p _ k n⟩
          · cases h
      · cases h
end
end Mn

/-! MnD: the text is looked at; what the evaluator says of an expression holds of the model. -/
namespace Mn
open PySem L2 PySem.Spec PyProof.Rows

/-! ### a def's promise, where no repr is under way -/
structure FnG (P : Program) (w : World) (K : PySem.W.Frag) (mg : Str → Option Value) (base : Heap) (C : CXT) (k : Nat) (f : Addr) (fd : FuncData) (ps : List Str) (sp : Sp) : Prop where
  len : ∀ vs H Q E, sp vs H Q E → vs.length = ps.length
  run : ∀ (A : Around) (outer : List Env) (s : Shared) (H : Hp) (args : Args) (us : List Value) (vs : List V) (Q : VK) (E : XK),
    A.guards = some [] → Room k A → Env0 P w K mg base A outer s H → BindsTo s fd args (ps.zip us) → Vals vs us → sp vs H Q E →
    codeAny (model P w) A (.call (.ref f) args) (CR C outer P w H s Q E) s
section
variable {X : Cx} {k : Nat} {f : Addr} {fd : FuncData} {ps : List Str} {sp : Sp} {W : WX} {x : Str} {p pos : Pos} {e : Expr} {es : List Expr} {t : TA}
theorem fng_run (F : FnG X.prog X.w X.K X.mg X.base (L2.CX X.prog X.w) k f fd ps sp) (hg : X.A.guards = some []) (hr : Room k X.A) (hb : Binds X.K fd ps []) (tk : Takes X W)
    {pins : List (Addr × Obj)} {σ : L2.St} {H : Hp} {s : Shared} {Q : VK} {us : List Value} {vs : List V} (I : Inv X pins σ H s) (r : Vals vs us)
    (h : sp vs H Q (fun c d H => W c d σ H)) : wpAny (model X.prog X.w) X.A (call (.ref f) us) (EP X pins σ Q) X.xe s := by
  have n := F.len _ _ _ _ h
  have m := r.length
  have b := hb s us I.kIn (by simp; omega)
  simp only [List.append_nil] at b
  apply wpAny_call
  refine codeAny_mono (F.run X.A X.stack s H ⟨us, []⟩ us vs Q _ hg hr I.env0 b r h) ?_
  intro z s' q
  match z, q with
  | .error e, q => exact tk e s' (XE.of_call I (fun _ _ _ h => h) q)
  | .ok (.ret u), q => exact I.after q
  | .ok .next, q => exact q.elim
  | .ok .brk, q => exact q.elim
  | .ok .cont, q => exact q.elim
def tCa (sp : Sp) (W : WX) (t : TA) : TE := fun σ H Q => t σ H fun vs H1 => sp vs H1 Q fun c d H => W c d σ H
theorem pe_ca (F : FnG X.prog X.w X.K X.mg X.base (L2.CX X.prog X.w) k f fd ps sp) (hg : X.A.guards = some []) (hr : Room k X.A) (hx : Gl X x) (hm : X.mg x = some (.ref f)) (hk : PySem.W.keepIn X.K (.ref f) = true)
    (hb : Binds X.K fd ps []) (tk : Takes X W) (ha : PA X (e :: es) t) (hd : (x == ("__debug__" : Str)) = false) (h1 : starEach (e :: es) X.env = (false, eval e X.env) :: starEach es X.env)
    (h2 : (backTo pos (starEach es X.env)).any (·.1) = false) : PE X (.Call (.Name x p) (e :: es) [] pos) (tCa sp W t) := by
  constructor
  intro pins s σ H Q I h
  apply wpAny_Call_Name_kw
  refine ld_glob I hx hm ?_ hd
  refine PySem.W.callWith_K (h₀ := X.base) I.ok.mod.kin hk ?_ h1 h2
  exact thn (ha.run pos pins s σ H _ I h) fun us s1 ⟨vs, H1, I1, r, q⟩ => ⟨I1.kIn, fng_run F hg hr hb tk I1 r q⟩
theorem pe_ca0 (F : FnG X.prog X.w X.K X.mg X.base (L2.CX X.prog X.w) k f fd ps sp) (hg : X.A.guards = some []) (hr : Room k X.A) (hx : Gl X x) (hm : X.mg x = some (.ref f)) (hk : PySem.W.keepIn X.K (.ref f) = true)
    (hb : Binds X.K fd ps []) (tk : Takes X W) (hd : (x == ("__debug__" : Str)) = false) : PE X (.Call (.Name x p) [] [] pos) (tCa sp W tNil) := by
  constructor
  intro pins s σ H Q I h
  apply wpAny_Call_Name_kw
  refine ld_glob I hx hm ?_ hd
  exact PySem.W.callWith_K0 I.kIn hk (fng_run (us := []) F hg hr hb tk I .nil h)
end

/-! ### the look at the text -/
/-- the text's own names: defs with the number of their parameters; built-in names that it leaves as they are; constants; exception classes with their attribute -/
structure Tt where
  fs : List (Str × Nat)
  bn : List Str
  cs : List (Str × PyData)
  xs : List (Str × Option Str × Bool)
def vis (sc : Scope) (x : Str) : Bool := match sc.names.lookup x with
  | some .local => true
  | some .cell => true
  | some .free => true
  | _ => false
def loc (sc : Scope) (x : Str) : Bool := match sc.names.lookup x with
  | some .local => true
  | some .cell => true
  | _ => false
def lcl (sc : Scope) (x : Str) : Bool := match sc.names.lookup x with
  | some .local => true
  | _ => false
def gl (sc : Scope) (x : Str) : Bool := match sc.names.lookup x with
  | some .globalImplicit => true
  | _ => false
def okN (x : Str) : Bool := !(x == ("__debug__" : Str)) && !(x == ("__classdict__" : Str)) && !decide (x = "__name__")
def blt (T : Tt) (sc : Scope) (x : Str) : Bool := gl sc x && okN x && T.bn.any fun y => decide (y = x)
def noStar : Expr → Bool
  | .Starred _ _ => false
  | _ => true
def noSlice : Expr → Bool
  | .Slice _ _ _ _ => false
  | _ => true
def cst : Const → PyData → Bool
  | .none, .none => true
  | .bool a, .bool b => a == b
  | .int a, .int b => decide (a = b)
  | .str a, .str b => decide (a = b)
  | _, _ => false
def oneCall (T : Tt) (sc : Scope) (n : Str) : Expr → Option (List Expr)
  | .Call (.Name x _) [a] [] _ => if decide (x = n) && blt T sc n then some [a] else none
  | _ => none
def twoCall (T : Tt) (sc : Scope) (n : Str) : Expr → Option (List Expr)
  | .Call (.Name x _) [a, b] [] _ => if decide (x = n) && blt T sc n then some [a, b] else none
  | _ => none
/-- the parts of an operation -/
def parts (T : Tt) (sc : Scope) : Pf → Expr → Option (List Expr)
  | .add, .BinOp a .Add b _ => some [a, b]
  | .sub, .BinOp a .Sub b _ => some [a, b]
  | .mul, .BinOp a .Mult b _ => some [a, b]
  | .fdiv, .BinOp a .FloorDiv b _ => some [a, b]
  | .mod, .BinOp a .Mod b _ => some [a, b]
  | .neg, .UnaryOp .USub a _ => some [a]
  | .eq, .Compare a [.Eq] [b] _ => some [a, b]
  | .ne, .Compare a [.NotEq] [b] _ => some [a, b]
  | .lt, .Compare a [.Lt] [b] _ => some [a, b]
  | .le, .Compare a [.LtE] [b] _ => some [a, b]
  | .gt, .Compare a [.Gt] [b] _ => some [a, b]
  | .ge, .Compare a [.GtE] [b] _ => some [a, b]
  | .isin, .Compare a [.In] [b] _ => if behindInMarks .In b then none else some [a, b]
  | .notin, .Compare a [.NotIn] [b] _ => if behindInMarks .NotIn b then none else some [a, b]
  | .isN, .Compare a [.Is] [.Constant .none _ _] _ => some [a]
  | .notN, .Compare a [.IsNot] [.Constant .none _ _] _ => some [a]
  | .isB, .Compare a [.Is] [b] _ => some [a, b]
  | .notB, .Compare a [.IsNot] [b] _ => some [a, b]
  | .ix, .Subscript a b _ => if noSlice b then some [a, b] else none
  | .slA, .Subscript a (.Slice none none none _) _ => some [a]
  | .slT, .Subscript a (.Slice none (some b) none _) _ => some [a, b]
  | .slF, .Subscript a (.Slice (some b) none none _) _ => some [a, b]
  | .rev, .Subscript a (.Slice none none (some (.UnaryOp .USub (.Constant (.int 1) _ _) _)) _) _ => some [a]
  | .len, e => oneCall T sc "len" e
  | .abs, e => oneCall T sc "abs" e
  | .int, e => oneCall T sc "int" e
  | .str, e => oneCall T sc "str" e
  | .tup, e => oneCall T sc "tuple" e
  | .lst, e => oneCall T sc "list" e
  | .srt, e => oneCall T sc "sorted" e
  | .sum, e => oneCall T sc "sum" e
  | .all, e => oneCall T sc "all" e
  | .any, e => oneCall T sc "any" e
  | .repr, e => oneCall T sc "repr" e
  | .min2, e => twoCall T sc "min" e
  | .max2, e => twoCall T sc "max" e
  | .minL, e => oneCall T sc "min" e
  | .maxL, e => oneCall T sc "max" e
  | .rng, .Call (.Name x _) [.Call (.Name y _) [a] [] _] [] _ => if decide (x = "list") && decide (y = "range") && blt T sc "list" && blt T sc "range" then some [a] else none
  | .rng2, .Call (.Name x _) [.Call (.Name y _) [a, b] [] _] [] _ => if decide (x = "list") && decide (y = "range") && blt T sc "list" && blt T sc "range" then some [a, b] else none
  | .isi t, .Call (.Name x _) [a, .Name y _] [] _ => if decide (x = "isinstance") && decide (y = (t : Str)) && blt T sc "isinstance" && blt T sc (t : Str) && tys.contains t then some [a] else none
  | _, _ => none
def cmpIs : Pf → CmpOp → Bool
  | .lt, .Lt => true
  | .le, .LtE => true
  | .gt, .Gt => true
  | .ge, .GtE => true
  | _, _ => false
/-- a name that may be stored: fn tells the names whose cells are this text's own -/
def sto (N : List Str) (sc : Scope) (fn : Str → Bool) (i : Nat) (x : Str) : Bool := decide (N[i]? = some x) && loc sc x && (fn x || lcl sc x)
def chkT (N : List Str) (sc : Scope) (fn : Str → Bool) : Tg → Expr → Bool
  | .n i, .Name x _ => sto N sc fn i x
  | .t2 i j, .Tuple [.Name x _, .Name y _] _ _ => sto N sc fn i x && sto N sc fn j y
  | .t3 i j k, .Tuple [.Name x _, .Name y _, .Name z _] _ _ => sto N sc fn i x && sto N sc fn j y && sto N sc fn k z
  | _, _ => false
/-- in a comprehension's block -/
def blkF (s2 : Scope) (x : Str) : Bool := s2.names.lookup x == some .cell
def isTup : Expr → Bool
  | .Tuple _ _ _ => true
  | _ => false
def noSet : Expr → Bool
  | .Set _ _ _ => false
  | _ => true
/-- what is walked, with the target -/
def walks (T : Tt) (sc : Scope) : Ik → Expr → Expr → Option (List Expr)
  | .sq, _, e => if noSet e then some [e] else none
  | .r1, _, e => oneCall T sc "range" e
  | .r2, _, e => twoCall T sc "range" e
  | .zp, t, e => if isTup t then twoCall T sc "zip" e else none
  | .en, t, e => if isTup t then oneCall T sc "enumerate" e else none
def Tg.own (N : List Str) (t : Tg) : List (Str × Nat) := t.slots.map fun i => (N.getD i "", i)
def noBase : Expr → Bool
  | .Call _ _ _ _ => false
  | _ => true
mutual
def chkE (T : Tt) (N : List Str) : Cd → Scope → Expr → Bool
  | .v i, sc, e => match e with
    | .Name x _ => decide (N[i]? = some x) && vis sc x && okN x
    | _ => false
  | .k d, sc, e => match e with
    | .Constant c _ _ => cst c d
    | _ => false
  | .g x d, sc, e => match e with
    | .Name y _ => decide (y = x) && gl sc x && okN x && T.cs.any fun p => decide (p.1 = x) && beqD p.2 d
    | _ => false
  | .p m f es, sc, e => match parts T sc f e with
    | some as => chkEs T N es sc as
    | none => false
  | .s3 _ a b c, sc, e => match e with
    | .Subscript x (.Slice (some y) (some z) none _) _ => chkE T N a sc x && chkE T N b sc y && chkE T N c sc z
    | _ => false
  | .ch f g a b c, sc, e => match e with
    | .Compare l [o, p] [m, r] _ => cmpIs f o && cmpIs g p && chkE T N a sc l && chkE T N b sc m && chkE T N c sc r
    | _ => false
  | .nt a, sc, e => match e with
    | .UnaryOp .Not x _ => chkE T N a sc x
    | _ => false
  | .bo w es, sc, e => match e with
    | .BoolOp .And as _ => w && !as.isEmpty && chkEs T N es sc as
    | .BoolOp .Or as _ => !w && !as.isEmpty && chkEs T N es sc as
    | _ => false
  | .fi c a b, sc, e => match e with
    | .IfExp t x y _ => chkE T N c sc t && chkE T N a sc x && chkE T N b sc y
    | _ => false
  | .tu es, sc, e => match e with
    | .Tuple as _ _ => chkEs T N es sc as
    | _ => false
  | .li _ es, sc, e => match e with
    | .List as _ => chkEs T N es sc as
    | _ => false
  | .ca f es, sc, e => match e with
    | .Call (.Name x _) as [] _ => decide (T.fs[f]? = some (x, as.length)) && gl sc x && okN x && chkEs T N es sc as
    | _ => false
  | .me m o es, sc, e => match e with
    | .Call (.Attribute a n ap) as [] cp => (match m with | .app => decide (n = "append") && decide (as.length = 1) | .pop => decide (n = "pop") && decide (as.length = 1) | .rem => decide (n = "remove") && decide (as.length = 1)) && noBase a && (ap.endLine == cp.line) && chkE T N o sc a && chkEs T N es sc as
    | _ => false
  | .lc _ a t k es fs, sc, e => match e with
    | .ListComp x [⟨tg, it, ifs, 0⟩] s2 _ => (match walks T sc k tg it with
      | some as => chkEs T N es sc as && blkC N sc s2 (t.own N) && chkT N (relS s2 sc) (blkF s2) t tg && decide (ifs.length ≤ 1) && chkEs T N fs (relS s2 sc) ifs && chkE T N a (relS s2 sc) x
      | none => false)
    | _ => false
  | .l2 _ a t k es t1 k1 es1 fs, sc, e => match e with
    | .ListComp x [⟨tg, it, [], 0⟩, ⟨tg1, it1, ifs, 0⟩] s2 _ => (match walks T sc k tg it, walks T (relS s2 sc) k1 tg1 it1 with
      | some as, some as1 => chkEs T N es sc as && blkC N sc s2 (t.own N ++ t1.own N) && t.slots.all (fun i => !t1.slots.contains i) && chkT N (relS s2 sc) (blkF s2) t tg && chkT N (relS s2 sc) (blkF s2) t1 tg1 && chkEs T N es1 (relS s2 sc) as1 && decide (ifs.length ≤ 1) && chkEs T N fs (relS s2 sc) ifs && chkE T N a (relS s2 sc) x
      | _, _ => false)
    | _ => false
def chkEs (T : Tt) (N : List Str) : Cds → Scope → List Expr → Bool
  | .n, _, as => as.isEmpty
  | .c a r, sc, as => match as with
    | e :: es => noStar e && chkE T N a sc e && chkEs T N r sc es
    | [] => false
end
end Mn

/-! MnE: what the evaluator says of an expression holds of the model. -/
namespace Mn
open PySem L2 PySem.Spec PyProof.Rows

theorem Rs.bind_assoc {α β γ : Type} (x : Rs α) (f : α → MH → Rs β) (g : β → MH → Rs γ) : (x.bind f).bind g = x.bind fun a h => (f a h).bind g := by cases x <;> rfl
theorem Rs.bind_ok {α β : Type} (a : α) (h : MH) (f : α → MH → Rs β) : (Rs.ok a h).bind f = f a h := rfl
theorem bind_okE {α β : Type} {x : Rs α} {f : α → MH → Rs β} {b : β} {h : MH} (e : x.bind f = .ok b h) : ∃ a h1, x = .ok a h1 ∧ f a h1 = .ok b h := by
  cases x with
  | ok a h1 => exact ⟨a, h1, rfl, e⟩
  | ex c d h1 => cases e
  | no => cases e

/-! ### promises of defs; what a body's text stands in -/
def spOf (K : PySem.W.Frag) (xa : Xa) (g : List Vl → MH → Rs Vl) (k : Nat) : Sp := fun vs H Q E => vs.length = k ∧
  ∃ Z Φ u as h, HR K Z Φ u H h ∧ VRs K Φ u vs as ∧ Po K xa (fun c d H => E c d H) Z Φ u (g as h) fun x _ Φ' u' H' => ∀ v, VR K Φ' u' v x → Q v H'
structure Gd (T : Tt) (xa : Xa) (F : Nat → List Vl → MH → Rs Vl) (N : List Str) (n : Nat) (sc : Scope) (X : Cx) : Prop where
  nN : X.N = N
  nd : N.Nodup
  sc : X.env.scope = sc
  calm : X.calm = true
  room : Room n X.A
  gu : X.A.guards = some []
  hb : ∀ x ∈ T.bn, X.mg x = none
  hc : ∀ p ∈ T.cs, ∃ u v, X.mg p.1 = some u ∧ RelV v u ∧ Dq X.K (fun _ => none) v p.2
  hf : ∀ (i : Nat) (f : Str × Nat), T.fs[i]? = some f → ∃ a fd ps, X.mg f.1 = some (.ref a) ∧ PySem.W.keepIn X.K (.ref a) = true ∧ Binds X.K fd ps [] ∧ ps.length = f.2 ∧
    FnG X.prog X.w X.K X.mg X.base (L2.CX X.prog X.w) n a fd ps (spOf X.K xa (F i) f.2)

section
variable {K : PySem.W.Frag} {xa : Xa} {W : WX} {X : Cx}
theorem pe_imp {e : Expr} {t t' : TE} (h : PE X e t) (i : ∀ σ H Q, t' σ H Q → t σ H Q) : PE X e t' := ⟨fun pins s σ H Q I q => h.run pins s σ H Q I (i σ H Q q)⟩
theorem pt_imp {e : Expr} {t t' : TT} (h : PT X e t) (i : ∀ σ H Q, t' σ H Q → t σ H Q) : PT X e t' := ⟨fun pins s σ H Q I q => h.run pins s σ H Q I (i σ H Q q)⟩
theorem pa_imp {e : List Expr} {t t' : TA} (h : PA X e t) (i : ∀ σ H Q, t' σ H Q → t σ H Q) : PA X e t' := ⟨fun pos pins s σ H Q I q => h.run pos pins s σ H Q I (i σ H Q q)⟩
theorem vr_bool {Φ : Hp} {u : List Addr} {v : V} {b : Bool} (h : VR K Φ u v (.d (.bool b))) : v = .bl b := by
  have h : Dq K Φ v (.bool b) := h
  cases h; rfl
/-- a value as a test -/
def plainT : Expr → Bool
  | .Name _ _ => true
  | .Constant _ _ _ => true
  | .Call _ _ _ _ => true
  | .Subscript _ _ _ => true
  | .BinOp _ _ _ _ => true
  | .Tuple _ _ _ => true
  | .List _ _ => true
  | .ListComp _ _ _ _ => true
  | .UnaryOp .USub _ _ => true
  | _ => false
theorem plainT_is {e : Expr} (h : plainT e = true) {env : Env} (whole : Sem Value) : isTrue e env whole = (do let v ← whole; standAt e.pos; holding [v] (truthy v)) := by
  cases e with
  | UnaryOp op a p => cases op <;> first | rfl | (exact absurd h (by simp [plainT]))
  | _ => first | rfl | (exact absurd h (by simp [plainT]))
theorem tt_te {f : Ev → MH → Rs Vl} {σ : L2.St} {H : Hp} {Q : Bool → Hp → Prop} (h : ttOf K xa W f σ H Q) : teOf K xa W f σ H fun x H1 => ∃ c, x = .bl c ∧ Q c H1 := by
  obtain ⟨Z, Φ, u, e, m, r, er, p⟩ := h
  refine ⟨Z, Φ, u, e, m, r, er, p.mono fun x h' Φ' u' H' _ _ ⟨b, e1, q⟩ v hv => ?_⟩
  subst e1
  exact ⟨b, vr_bool hv, q⟩
theorem pt_plain {e : Expr} {f : Ev → MH → Rs Vl} (h : PE X e (teOf K xa W f)) (p : plainT e = true) : PT X e (ttOf K xa W f) :=
  pt_imp (pt_val h fun whole => plainT_is p whole) fun σ H Q q => tt_te q
theorem both {e : Expr} {f : Ev → MH → Rs Vl} (h : PE X e (teOf K xa W f)) (p : plainT e = true) : PE X e (teOf K xa W f) ∧ PT X e (ttOf K xa W f) := ⟨h, pt_plain h p⟩

/-- an operation upon the values of its parts -/
def pk (m : Bool) (f : Pf) (vs : List Vl) (h : MH) : Rs Vl := match snaps h vs with
  | some ds => match pf f ds with
    | some r => mkR m (fresh f) r h
    | none => .no
  | none => .no
theorem pk_out {Wx : Value → Option Addr → Hp → Prop} {Z Φ H : Hp} {u : List Addr} {h : MH} {m : Bool} {f : Pf} {vs : List V} {xs : List Vl} {Q : VK} (R : HR K Z Φ u H h) (r : VRs K Φ u vs xs)
    (p : Po K xa Wx Z Φ u (pk m f xs h) fun x _ Φ' u' H' => ∀ v, VR K Φ' u' v x → Q v H') : ∃ ds e, Sns K Φ H vs ds ∧ pf f ds = some e ∧ OutP (fresh f) K Φ H e Q := by
  unfold pk at p
  split at p
  · rename_i ds e1
    split at p
    · rename_i e e2
      exact ⟨ds, e, snaps_sns R r e1, e2, mkR_out R p⟩
    · exact p.elim
  · exact p.elim
end

section
variable {T : Tt} {xa : Xa} {F : Nat → List Vl → MH → Rs Vl} {N : List Str} {n : Nat} {sc : Scope} {X : Cx} {W : WX}
theorem ev_p (m : Bool) (f : Pf) (es : Cds) (e : Ev) (h : MH) : ev F (.p m f es) e h = (evs F es e h).bind fun vs h1 => pk m f vs h1 := by rw [ev]; rfl
theorem ev_p1 (m : Bool) (f : Pf) (a : Cd) (e : Ev) (h : MH) : ev F (.p m f (.c a .n)) e h = (ev F a e h).bind fun x h1 => pk m f [x] h1 := by
  simp only [ev_p, evs, Rs.bind_assoc, Rs.bind_ok]
theorem ev_p2 (m : Bool) (f : Pf) (a b : Cd) (e : Ev) (h : MH) : ev F (.p m f (.c a (.c b .n))) e h = (ev F a e h).bind fun x h1 => (ev F b e h1).bind fun y h2 => pk m f [x, y] h2 := by
  simp only [ev_p, evs, Rs.bind_assoc, Rs.bind_ok]
theorem ev_p3 (m : Bool) (f : Pf) (a b c : Cd) (e : Ev) (h : MH) : ev F (.p m f (.c a (.c b (.c c .n)))) e h = (ev F a e h).bind fun x h1 => (ev F b e h1).bind fun y h2 => (ev F c e h2).bind fun z h3 => pk m f [x, y, z] h3 := by
  simp only [ev_p, evs, Rs.bind_assoc, Rs.bind_ok]

def Al (xa : Xa) (F : Nat → List Vl → MH → Rs Vl) (X : Cx) (W : WX) : Cds → List Expr → Prop
  | .n, as => as = []
  | .c c r, as => ∃ e es, as = e :: es ∧ noStar e = true ∧ PE X e (teOf X.K xa W (ev F c)) ∧ PT X e (ttOf X.K xa W (ev F c)) ∧ Al xa F X W r es
theorem al1 {a : Expr} : ∀ {es : Cds}, Al xa F X W es [a] → ∃ c, es = .c c .n ∧ noStar a = true ∧ PE X a (teOf X.K xa W (ev F c)) ∧ PT X a (ttOf X.K xa W (ev F c))
  | .n, h => by simp [Al] at h
  | .c c .n, ⟨e, es, h1, h2, h3, h4, h5⟩ => by cases h1; exact ⟨c, rfl, h2, h3, h4⟩
  | .c c (.c d r), ⟨e, es, h1, h2, h3, h4, e', es', h5, _⟩ => by cases h1; cases h5
theorem al2 {a b : Expr} : ∀ {es : Cds}, Al xa F X W es [a, b] → ∃ c d, es = .c c (.c d .n) ∧ PE X a (teOf X.K xa W (ev F c)) ∧ PE X b (teOf X.K xa W (ev F d)) ∧ noStar a = true ∧ noStar b = true
  | .n, h => by simp [Al] at h
  | .c c r, ⟨e, es, h1, h2, h3, h4, h5⟩ => by
    cases h1
    obtain ⟨d, rfl, g1, g2, g3⟩ := al1 h5
    exact ⟨c, d, rfl, h3, g2, h2, g1⟩
theorem al3 {a b c : Expr} : ∀ {es : Cds}, Al xa F X W es [a, b, c] → ∃ x y z, es = .c x (.c y (.c z .n)) ∧ PE X a (teOf X.K xa W (ev F x)) ∧ PE X b (teOf X.K xa W (ev F y)) ∧ PE X c (teOf X.K xa W (ev F z))
  | .n, h => by simp [Al] at h
  | .c c r, ⟨e, es, h1, h2, h3, h4, h5⟩ => by
    cases h1
    obtain ⟨d, z, rfl, g1, g2, g3⟩ := al2 h5
    exact ⟨c, d, z, rfl, h3, g1, g2⟩
theorem star_cons {e : Expr} (h : noStar e = true) (es : List Expr) (env : Env) : starEach (e :: es) env = (false, eval e env) :: starEach es env := by
  cases e <;> first | rfl | (simp [noStar] at h)
theorem al_star : ∀ {cs : Cds} {es : List Expr} (pos : Pos) (env : Env), Al xa F X W cs es → (backTo pos (starEach es env)).any (·.1) = false
  | .n, _, pos, env, h => by cases h; rfl
  | .c c r, _, pos, env, ⟨e, es, h1, h2, h3, h4, h5⟩ => by
    subst h1
    rw [star_cons h2]
    show (false || (backTo pos (starEach es env)).any (·.1)) = false
    rw [al_star pos env h5]; rfl
/-- the arguments -/
theorem al_pa : ∀ {cs : Cds} {es : List Expr}, Al xa F X W cs es → PA X es (taOf X.K xa W (evs F cs))
  | .n, _, h => by
    cases h
    refine pa_imp pa_nil fun σ H Q ⟨Z, Φ, u, e, h, R, er, p⟩ => ?_
    simp only [evs] at p
    exact p Φ u H Ext.refl R [] trivial
  | .c c r, _, ⟨e, es, h1, h2, h3, h4, h5⟩ => by
    subst h1
    refine pa_imp (pa_cons h3 (al_pa h5) (star_cons h2 es X.env)) fun σ H Q ⟨Z, Φ, u, e, h, R, er, p⟩ => ?_
    simp only [evs] at p
    refine ⟨Z, Φ, u, e, h, R, er, p.bind.mono fun x h1 Φ1 u1 H1 _ _ ⟨x1, R1, p1⟩ v hv => ?_⟩
    refine ⟨Z, Φ1, u1, e, h1, R1, er.mono x1, p1.bind.mono fun xs h2 Φ2 u2 H2 _ _ ⟨x2, R2, p2⟩ vs hvs => ?_⟩
    exact p2 Φ2 u2 H2 Ext.refl R2 (v :: vs) ⟨hv.mono x2, hvs⟩

/-! ### operations by their parts -/
section
variable {K : PySem.W.Frag} {σ : L2.St} {H : Hp} {Q : VK}
theorem te1 {fa : Ev → MH → Rs Vl} {g : Vl → MH → Rs Vl} (h : teOf K xa W (fun e h => (fa e h).bind fun x h1 => g x h1) σ H Q) :
    teOf K xa W fa σ H fun v H1 => ∃ Z Φ u x h, HR K Z Φ u H1 h ∧ VR K Φ u v x ∧ Po K xa (fun c d H => W c d σ H) Z Φ u (g x h) fun z _ Φ' u' H' => ∀ v, VR K Φ' u' v z → Q v H' := by
  obtain ⟨Z, Φ, u, e, h, R, er, p⟩ := h
  exact ⟨Z, Φ, u, e, h, R, er, p.bind.mono fun x h1 Φ1 u1 H1 _ _ ⟨x1, R1, p1⟩ v hv => ⟨Z, Φ1, u1, x, h1, R1, hv, p1⟩⟩
theorem te2 {fa fb : Ev → MH → Rs Vl} {g : Vl → Vl → MH → Rs Vl} (h : teOf K xa W (fun e h => (fa e h).bind fun x h1 => (fb e h1).bind fun y h2 => g x y h2) σ H Q) :
    teOf K xa W fa σ H fun v H1 => teOf K xa W fb σ H1 fun w H2 => ∃ Z Φ u x y h, HR K Z Φ u H2 h ∧ VR K Φ u v x ∧ VR K Φ u w y ∧
      Po K xa (fun c d H => W c d σ H) Z Φ u (g x y h) fun z _ Φ' u' H' => ∀ v, VR K Φ' u' v z → Q v H' := by
  obtain ⟨Z, Φ, u, e, h, R, er, p⟩ := h
  refine ⟨Z, Φ, u, e, h, R, er, p.bind.mono fun x h1 Φ1 u1 H1 _ _ ⟨x1, R1, p1⟩ v hv => ⟨Z, Φ1, u1, e, h1, R1, er.mono x1, ?_⟩⟩
  exact p1.bind.mono fun y h2 Φ2 u2 H2 _ _ ⟨x2, R2, p2⟩ w hw => ⟨Z, Φ2, u2, x, y, h2, R2, hv.mono x2, hw, p2⟩
theorem te3 {fa fb fc : Ev → MH → Rs Vl} {g : Vl → Vl → Vl → MH → Rs Vl} (h : teOf K xa W (fun e h => (fa e h).bind fun x h1 => (fb e h1).bind fun y h2 => (fc e h2).bind fun z h3 => g x y z h3) σ H Q) :
    teOf K xa W fa σ H fun v H1 => teOf K xa W fb σ H1 fun w H2 => teOf K xa W fc σ H2 fun t H3 => ∃ Z Φ u x y z h, HR K Z Φ u H3 h ∧ VR K Φ u v x ∧ VR K Φ u w y ∧ VR K Φ u t z ∧
      Po K xa (fun c d H => W c d σ H) Z Φ u (g x y z h) fun z _ Φ' u' H' => ∀ v, VR K Φ' u' v z → Q v H' := by
  obtain ⟨Z, Φ, u, e, h, R, er, p⟩ := h
  refine ⟨Z, Φ, u, e, h, R, er, p.bind.mono fun x h1 Φ1 u1 H1 _ _ ⟨x1, R1, p1⟩ v hv => ⟨Z, Φ1, u1, e, h1, R1, er.mono x1, ?_⟩⟩
  refine p1.bind.mono fun y h2 Φ2 u2 H2 _ _ ⟨x2, R2, p2⟩ w hw => ⟨Z, Φ2, u2, e, h2, R2, (er.mono x1).mono x2, ?_⟩
  exact p2.bind.mono fun z h3 Φ3 u3 H3 _ _ ⟨x3, R3, p3⟩ t ht => ⟨Z, Φ3, u3, x, y, z, h3, R3, (hv.mono x2).mono x3, hw.mono x3, ht, p3⟩
end
theorem te_mono {K : PySem.W.Frag} {f : Ev → MH → Rs Vl} {σ : L2.St} {H : Hp} {Q Q' : VK} (h : teOf K xa W f σ H Q) (i : ∀ v H', Q v H' → Q' v H') : teOf K xa W f σ H Q' := by
  obtain ⟨Z, Φ, u, e, h, R, er, p⟩ := h
  exact ⟨Z, Φ, u, e, h, R, er, p.mono fun x h1 Φ1 u1 H1 _ _ q v hv => i _ _ (q v hv)⟩
theorem p1_te {a : Cd} {m : Bool} {f : Pf} {r : V → Hp → VK → Prop} (S : ∀ Φ H x d e Q, Le Φ H → Sn X.K Φ H x d → pf f [d] = some e → OutP (fresh f) X.K Φ H e Q → r x H Q)
    (σ : L2.St) (H : Hp) (Q : VK) (h : teOf X.K xa W (ev F (.p m f (.c a .n))) σ H Q) : tUn r (teOf X.K xa W (ev F a)) σ H Q := by
  have q : ev F (.p m f (.c a .n)) = fun e h => (ev F a e h).bind fun x h1 => pk m f [x] h1 := by funext e h; exact ev_p1 m f a e h
  rw [q] at h
  refine te_mono (te1 h) fun v H1 ⟨Z, Φ, u, x, h1, R, hv, p⟩ => ?_
  obtain ⟨ds, e, hs, hp, o⟩ := pk_out (xs := [x]) (vs := [v]) R ⟨hv, trivial⟩ p
  match ds, hs with
  | [d], ⟨hd, _⟩ => exact S Φ H1 v d e Q R.sub hd hp o
theorem p2_te {a b : Cd} {m : Bool} {f : Pf} {r : R2} (S : S2 X f r)
    (σ : L2.St) (H : Hp) (Q : VK) (h : teOf X.K xa W (ev F (.p m f (.c a (.c b .n)))) σ H Q) : tOp r (teOf X.K xa W (ev F a)) (teOf X.K xa W (ev F b)) σ H Q := by
  have q : ev F (.p m f (.c a (.c b .n))) = fun e h => (ev F a e h).bind fun x h1 => (ev F b e h1).bind fun y h2 => pk m f [x, y] h2 := by funext e h; exact ev_p2 m f a b e h
  rw [q] at h
  refine te_mono (te2 h) fun v H1 q => te_mono q fun w H2 ⟨Z, Φ, u, x, y, h1, R, hv, hw, p⟩ => ?_
  obtain ⟨ds, e, hs, hp, o⟩ := pk_out (xs := [x, y]) (vs := [v, w]) R ⟨hv, hw, trivial⟩ p
  match ds, hs with
  | [d, d'], ⟨hd, hd', _⟩ => exact S Φ H2 v w d d' e Q R.sub hd hd' hp o
theorem pc_te {es : Cds} {m : Bool} {f : Pf} {r : List V → Hp → VK → Prop} (S : Sc X f r)
    (σ : L2.St) (H : Hp) (Q : VK) (h : teOf X.K xa W (ev F (.p m f es)) σ H Q) : tCB r (taOf X.K xa W (evs F es)) σ H Q := by
  obtain ⟨Z, Φ, u, e, h, R, er, p⟩ := h
  rw [ev_p] at p
  refine ⟨Z, Φ, u, e, h, R, er, p.bind.mono fun xs h1 Φ1 u1 H1 _ _ ⟨x1, R1, p1⟩ vs hv => ?_⟩
  obtain ⟨ds, e, hs, hp, o⟩ := pk_out R1 hv p1
  exact S Φ1 H1 vs ds e Q R1.sub hs hp o
variable {a b : Expr} {ca cb : Cd} {pos : Pos} {m : Bool} {f : Pf}
theorem binE {op : Operator} (h : ∃ r, OpR X (binaryOp op) r ∧ S2 X f r) (ha : PE X a (teOf X.K xa W (ev F ca))) (hb : PE X b (teOf X.K xa W (ev F cb))) :
    PE X (.BinOp a op b pos) (teOf X.K xa W (ev F (.p m f (.c ca (.c cb .n))))) ∧ PT X (.BinOp a op b pos) (ttOf X.K xa W (ev F (.p m f (.c ca (.c cb .n))))) := by
  obtain ⟨r, h1, h2⟩ := h
  exact both (pe_imp (pe_op h1 ha hb) fun σ H Q q => p2_te h2 σ H Q q) rfl
theorem cmpE {op : CmpOp} (h : ∃ r, OpR X (compareOp op) r ∧ S2 X f r) (ha : PE X a (teOf X.K xa W (ev F ca))) (hb : PE X b (teOf X.K xa W (ev F cb))) (hm : behindInMarks op b = false) :
    PE X (.Compare a [op] [b] pos) (teOf X.K xa W (ev F (.p m f (.c ca (.c cb .n))))) ∧ PT X (.Compare a [op] [b] pos) (ttOf X.K xa W (ev F (.p m f (.c ca (.c cb .n))))) := by
  obtain ⟨r, h1, h2⟩ := h
  exact ⟨pe_imp (pe_cmpR h1 ha hb hm) fun σ H Q q => p2_te h2 σ H Q q, pt_imp (pt_cmpR h1 ha hb hm) fun σ H Q q => p2_te h2 σ H _ (tt_te q)⟩
theorem gl_of (G : Gd T xa F N n sc X) {x : Str} (h : gl sc x = true) : Gl X x := by
  unfold gl at h
  split at h
  · rename_i e
    show X.env.scope.names.lookup x = _
    rw [G.sc]; exact e
  · cases h
theorem blt_of (G : Gd T xa F N n sc X) {x : Str} (h : blt T sc x = true) : Gl X x ∧ X.mg x = none ∧ x ≠ "__name__" ∧ (x == ("__debug__" : Str)) = false := by
  simp only [blt, okN, Bool.and_eq_true, Bool.not_eq_true', decide_eq_false_iff_not, List.any_eq_true, decide_eq_true_eq] at h
  obtain ⟨⟨h1, ⟨h2, _⟩, h3⟩, y, h4, h5⟩ := h
  subst h5
  exact ⟨gl_of G h1, G.hb _ h4, h3, h2⟩
theorem oneCall_is {nm : Str} {e : Expr} {as : List Expr} (h : oneCall T sc nm e = some as) : ∃ p a pos, e = .Call (.Name nm p) [a] [] pos ∧ as = [a] ∧ blt T sc nm = true := by
  unfold oneCall at h
  split at h
  · split at h
    · rename_i x p a pos q
      simp only [Bool.and_eq_true, decide_eq_true_eq] at q
      cases h
      exact ⟨p, a, pos, by rw [q.1], rfl, q.2⟩
    · cases h
  · cases h
theorem twoCall_is {nm : Str} {e : Expr} {as : List Expr} (h : twoCall T sc nm e = some as) : ∃ p a b pos, e = .Call (.Name nm p) [a, b] [] pos ∧ as = [a, b] ∧ blt T sc nm = true := by
  unfold twoCall at h
  split at h
  · split at h
    · rename_i x p a b pos q
      simp only [Bool.and_eq_true, decide_eq_true_eq] at q
      cases h
      exact ⟨p, a, b, pos, by rw [q.1], rfl, q.2⟩
    · cases h
  · cases h
theorem callE {nm : Str} {id : String} (G : Gd T xa F N n sc X) (hv : bootBuiltins nm = some (.builtin id)) (h : ∃ r, CallR X (.builtin id) r ∧ Sc X f r) {p : Pos} {a : Expr} {as : List Expr} {es : Cds} (q : blt T sc nm = true) (al : Al xa F X W es (a :: as)) :
    PE X (.Call (.Name nm p) (a :: as) [] pos) (teOf X.K xa W (ev F (.p m f es))) ∧ PT X (.Call (.Name nm p) (a :: as) [] pos) (ttOf X.K xa W (ev F (.p m f es))) := by
  obtain ⟨r, h1, h2⟩ := h
  obtain ⟨g1, g2, g3, g4⟩ := blt_of G q
  refine both (pe_imp (pe_callB h1 g1 g2 hv (al_pa al) g3 g4 ?_ ?_) fun σ H Q q => pc_te h2 σ H Q q) rfl
  · cases es with
    | n => cases al
    | c c r => obtain ⟨e, es, z, z2, _⟩ := al; cases z; exact star_cons z2 _ _
  · cases es with
    | n => cases al
    | c c r => obtain ⟨e, es, z, z2, _, _, z5⟩ := al; cases z; exact al_star _ _ z5
theorem callTyE {nm : Str} {id : String} (G : Gd T xa F N n sc X) (hv : bootBuiltins nm = some (.type id)) (h : ∃ r, CallR X (.type id) r ∧ Sc X f r) {p : Pos} {a : Expr} {as : List Expr} {es : Cds} (q : blt T sc nm = true) (al : Al xa F X W es (a :: as)) :
    PE X (.Call (.Name nm p) (a :: as) [] pos) (teOf X.K xa W (ev F (.p m f es))) ∧ PT X (.Call (.Name nm p) (a :: as) [] pos) (ttOf X.K xa W (ev F (.p m f es))) := by
  obtain ⟨r, h1, h2⟩ := h
  obtain ⟨g1, g2, g3, g4⟩ := blt_of G q
  refine both (pe_imp (pe_callTy h1 g1 g2 hv (al_pa al) g3 g4 ?_ ?_) fun σ H Q q => pc_te h2 σ H Q q) rfl
  · cases es with
    | n => cases al
    | c c r => obtain ⟨e, es, z, z2, _⟩ := al; cases z; exact star_cons z2 _ _
  · cases es with
    | n => cases al
    | c c r => obtain ⟨e, es, z, z2, _, _, z5⟩ := al; cases z; exact al_star _ _ z5
theorem p3_te {a b c : Cd} {m : Bool} {f : Pf} {r : V → V → V → Hp → VK → Prop} (S : ∀ Φ H x y z d d' d'' e Q, Le Φ H → Sn X.K Φ H x d → Sn X.K Φ H y d' → Sn X.K Φ H z d'' → pf f [d, d', d''] = some e → OutP (fresh f) X.K Φ H e Q → r x y z H Q)
    (σ : L2.St) (H : Hp) (Q : VK) (h : teOf X.K xa W (ev F (.p m f (.c a (.c b (.c c .n))))) σ H Q) :
    teOf X.K xa W (ev F a) σ H fun x H1 => teOf X.K xa W (ev F b) σ H1 fun y H2 => teOf X.K xa W (ev F c) σ H2 fun z H3 => r x y z H3 Q := by
  have q : ev F (.p m f (.c a (.c b (.c c .n)))) = fun e h => (ev F a e h).bind fun x h1 => (ev F b e h1).bind fun y h2 => (ev F c e h2).bind fun z h3 => pk m f [x, y, z] h3 := by funext e h; exact ev_p3 m f a b c e h
  rw [q] at h
  refine te_mono (te3 h) fun v H1 q => te_mono q fun w H2 q => te_mono q fun t H3 ⟨Z, Φ, u, x, y, z, h1, R, hv, hw, ht, p⟩ => ?_
  obtain ⟨ds, e, hs, hp, o⟩ := pk_out (xs := [x, y, z]) (vs := [v, w, t]) R ⟨hv, hw, ht, trivial⟩ p
  match ds, hs with
  | [d, d', d''], ⟨hd, hd', hd'', _⟩ => exact S Φ H3 v w t d d' d'' e Q R.sub hd hd' hd'' hp o
theorem plainIx_of (h : noSlice b = true) : PlainIx b := by
  intro o i
  cases b <;> first | rfl | (simp [noSlice] at h)

theorem rg_dq {K : PySem.W.Frag} {Φ : Hp} (a b : Int) : DqAll K Φ (rgV a b) (rngD a b) := by
  unfold rgV rngD
  generalize List.range (b - a).toNat = l
  induction l with
  | nil => exact .nil
  | cons i l ih => exact .cons (.int _) ih
/-- EVERY operation -/
theorem sndP (G : Gd T xa F N n sc X) (tk : Takes X W) {e : Expr} {as : List Expr} {es : Cds} (h : parts T sc f e = some as) (al : Al xa F X W es as) :
    PE X e (teOf X.K xa W (ev F (.p m f es))) ∧ PT X e (ttOf X.K xa W (ev F (.p m f es))) := by
  have hun := G.room.un
  have nom : ∀ {op : CmpOp} (b : Expr), op ≠ .In → op ≠ .NotIn → behindInMarks op b = false := fun b h1 h2 => nomark b h1 h2
  unfold parts at h
  split at h
  -- arithmetic
  · cases h; obtain ⟨c, d, rfl, h1, h2, _⟩ := al2 al; exact binE s2_add h1 h2
  · cases h; obtain ⟨c, d, rfl, h1, h2, _⟩ := al2 al; exact binE s2_sub h1 h2
  · cases h; obtain ⟨c, d, rfl, h1, h2, _⟩ := al2 al; exact binE s2_mul h1 h2
  · cases h; obtain ⟨c, d, rfl, h1, h2, _⟩ := al2 al; exact binE s2_fdiv h1 h2
  · cases h; obtain ⟨c, d, rfl, h1, h2, _⟩ := al2 al; exact binE s2_mod h1 h2
  · cases h
    obtain ⟨c, rfl, h0, h1, h2⟩ := al1 al
    refine both (pe_imp (pe_un un_neg h1) fun σ H Q q => p1_te (fun Φ H x d e Q s hx hp o => ?_) σ H Q q) rfl
    cases d <;> simp only [pf] at hp <;> try (cases hp; done)
    cases hp
    exact ⟨_, hx.int, Out.val o s (.int _)⟩
  -- comparisons
  · cases h; obtain ⟨c, d, rfl, h1, h2, _⟩ := al2 al; exact cmpE (s2_eq (by omega)) h1 h2 (nom _ (by decide) (by decide))
  · cases h; obtain ⟨c, d, rfl, h1, h2, _⟩ := al2 al; exact cmpE (s2_ne (by omega)) h1 h2 (nom _ (by decide) (by decide))
  · cases h; obtain ⟨c, d, rfl, h1, h2, _⟩ := al2 al; exact cmpE (s2_lt (by omega)) h1 h2 (nom _ (by decide) (by decide))
  · cases h; obtain ⟨c, d, rfl, h1, h2, _⟩ := al2 al; exact cmpE (s2_le (by omega)) h1 h2 (nom _ (by decide) (by decide))
  · cases h; obtain ⟨c, d, rfl, h1, h2, _⟩ := al2 al; exact cmpE (s2_gt (by omega)) h1 h2 (nom _ (by decide) (by decide))
  · cases h; obtain ⟨c, d, rfl, h1, h2, _⟩ := al2 al; exact cmpE (s2_ge (by omega)) h1 h2 (nom _ (by decide) (by decide))
  · split at h
    · cases h
    · rename_i q; cases h; obtain ⟨c, d, rfl, h1, h2, _⟩ := al2 al; exact cmpE (s2_in (by omega)) h1 h2 (by simpa using q)
  · split at h
    · cases h
    · rename_i q; cases h; obtain ⟨c, d, rfl, h1, h2, _⟩ := al2 al; exact cmpE (s2_notin (by omega)) h1 h2 (by simpa using q)
  · cases h
    obtain ⟨c, rfl, h0, h1, h2⟩ := al1 al
    have key : ∀ (σ : L2.St) (H : Hp) (Q : VK), teOf X.K xa W (ev F (.p m .isN (.c c .n))) σ H Q → tIsN (teOf X.K xa W (ev F c)) σ H Q := fun σ H Q q =>
      p1_te (r := fun x H Q => Q (.bl (decide (x = .non))) H) (fun Φ H x d e Q s hx hp o => by
        have e1 : decide (x = V.non) = isNone d := by
          cases d with
          | none => rw [hx.non]; rfl
          | bool b => rw [hx.bl]; rfl
          | int b => rw [hx.int]; rfl
          | str b => rw [hx.str]; rfl
          | list b => obtain ⟨_, _, rfl, _⟩ := hx.lst s; rfl
          | tuple b => obtain ⟨_, _, rfl, _⟩ := hx.tup; rfl
          | dict b => exact (sn_dict hx).elim
        simp only [pf] at hp
        cases hp
        rw [e1]
        exact Out.val o s (.bl _)) σ H Q q
    exact ⟨pe_imp (pe_cmp (pc_isN h1)) key, pt_imp (pt_cmp (pc_isN h1)) fun σ H Q q => key σ H _ (tt_te q)⟩
  · cases h
    obtain ⟨c, rfl, h0, h1, h2⟩ := al1 al
    have key : ∀ (σ : L2.St) (H : Hp) (Q : VK), teOf X.K xa W (ev F (.p m .notN (.c c .n))) σ H Q → tNotN (teOf X.K xa W (ev F c)) σ H Q := fun σ H Q q =>
      p1_te (r := fun x H Q => Q (.bl (!decide (x = .non))) H) (fun Φ H x d e Q s hx hp o => by
        have e1 : (!decide (x = V.non)) = !isNone d := by
          cases d with
          | none => rw [hx.non]; rfl
          | bool b => rw [hx.bl]; rfl
          | int b => rw [hx.int]; rfl
          | str b => rw [hx.str]; rfl
          | list b => obtain ⟨_, _, rfl, _⟩ := hx.lst s; rfl
          | tuple b => obtain ⟨_, _, rfl, _⟩ := hx.tup; rfl
          | dict b => exact (sn_dict hx).elim
        simp only [pf] at hp
        cases hp
        rw [e1]
        exact Out.val o s (.bl _)) σ H Q q
    exact ⟨pe_imp (pe_cmp (pc_notN h1)) key, pt_imp (pt_cmp (pc_notN h1)) fun σ H Q q => key σ H _ (tt_te q)⟩
  · cases h; obtain ⟨c, d, rfl, h1, h2, _⟩ := al2 al; exact cmpE s2_isB h1 h2 (nom _ (by decide) (by decide))
  · cases h; obtain ⟨c, d, rfl, h1, h2, _⟩ := al2 al; exact cmpE s2_notB h1 h2 (nom _ (by decide) (by decide))
  -- places, slices
  · split at h
    · rename_i q
      cases h
      obtain ⟨c, d, rfl, h1, h2, _⟩ := al2 al
      obtain ⟨r, g1, g2⟩ := s2_ix (X := X)
      exact both (pe_imp (pe_ix g1 h1 h2 (plainIx_of q)) fun σ H Q q => p2_te g2 σ H Q q) rfl
    · cases h
  · cases h
    obtain ⟨c, rfl, h0, h1, h2⟩ := al1 al
    obtain ⟨r, g1, g2⟩ := ss_any (X := X)
    exact both (pe_imp (pe_slice g1 h1 po_none po_none) fun σ H Q q => p1_te (f := .slA) (r := fun x H Q => r x none none H Q) (fun Φ H x d e Q s hx hp o => g2 Φ H x d none none e Q s hx hp o) σ H Q q) rfl
  · cases h
    obtain ⟨c, d, rfl, h1, h2, _⟩ := al2 al
    obtain ⟨r, g1, g2⟩ := ss_any (X := X)
    refine both (pe_imp (pe_slice g1 h1 po_none (po_some h2)) fun σ H Q q => p2_te (r := fun x y H Q => ∃ i, y = .int i ∧ r x none (some i) H Q) (fun Φ H x y d d' e Q s hx hy hp o => ?_) σ H Q q) rfl
    cases d' <;> simp only [pf] at hp <;> try (cases hp; done)
    exact ⟨_, hy.int, g2 Φ H x d none _ e Q s hx hp o⟩
  · cases h
    obtain ⟨c, d, rfl, h1, h2, _⟩ := al2 al
    obtain ⟨r, g1, g2⟩ := ss_any (X := X)
    refine both (pe_imp (pe_slice g1 h1 (po_some h2) po_none) fun σ H Q q => p2_te (r := fun x y H Q => ∃ i, y = .int i ∧ r x (some i) none H Q) (fun Φ H x y d d' e Q s hx hy hp o => ?_) σ H Q q) rfl
    cases d' <;> simp only [pf] at hp <;> try (cases hp; done)
    exact ⟨_, hy.int, g2 Φ H x d _ none e Q s hx hp o⟩
  · cases h
    obtain ⟨c, rfl, h0, h1, h2⟩ := al1 al
    obtain ⟨r, g1, g2⟩ := pe_revA (X := X)
    exact both (pe_imp (g2 h1) fun σ H Q q => p1_te (fun Φ H x d e Q s hx hp o => g1 Φ H x d e Q s hx hp o) σ H Q q) rfl
  -- built-ins
  · obtain ⟨p, a, pos, rfl, rfl, q⟩ := oneCall_is h; exact callE G PySem.boot_len sc_len q al
  · obtain ⟨p, a, pos, rfl, rfl, q⟩ := oneCall_is h; exact callE G (by decide +kernel) sc_abs q al
  · obtain ⟨p, a, pos, rfl, rfl, q⟩ := oneCall_is h; exact callTyE G (by decide +kernel) sc_int q al
  · obtain ⟨p, a, pos, rfl, rfl, q⟩ := oneCall_is h; exact callTyE G (by decide +kernel) sc_str q al
  · obtain ⟨p, a, pos, rfl, rfl, q⟩ := oneCall_is h; exact callTyE G (by decide +kernel) sc_tup q al
  · obtain ⟨p, a, pos, rfl, rfl, q⟩ := oneCall_is h; exact callTyE G (by decide +kernel) sc_lst q al
  · obtain ⟨p, a, pos, rfl, rfl, q⟩ := oneCall_is h; exact callE G (by decide +kernel) (sc_srt (by omega)) q al
  · obtain ⟨p, a, pos, rfl, rfl, q⟩ := oneCall_is h; exact callE G (by decide +kernel) (sc_sum G.calm) q al
  · obtain ⟨p, a, pos, rfl, rfl, q⟩ := oneCall_is h; exact callE G (by decide +kernel) (sc_all G.calm) q al
  · obtain ⟨p, a, pos, rfl, rfl, q⟩ := oneCall_is h; exact callE G (by decide +kernel) (sc_any G.calm) q al
  · obtain ⟨p, a, pos, rfl, rfl, q⟩ := oneCall_is h; exact callE G (by decide +kernel) (sc_repr G.gu (by omega)) q al
  · obtain ⟨p, a, b, pos, rfl, rfl, q⟩ := twoCall_is h; exact callE G (by decide +kernel) (sc_min2 G.calm) q al
  · obtain ⟨p, a, b, pos, rfl, rfl, q⟩ := twoCall_is h; exact callE G (by decide +kernel) (sc_max2 G.calm) q al
  · obtain ⟨p, a, pos, rfl, rfl, q⟩ := oneCall_is h; exact callE G (by decide +kernel) (sc_minL G.calm (by omega)) q al
  · obtain ⟨p, a, pos, rfl, rfl, q⟩ := oneCall_is h; exact callE G (by decide +kernel) (sc_maxL G.calm (by omega)) q al
  · split at h
    · rename_i q
      simp only [Bool.and_eq_true, decide_eq_true_eq] at q
      obtain ⟨⟨⟨q1, q2⟩, q3⟩, q4⟩ := q
      subst q1 q2
      cases h
      obtain ⟨c, rfl, h0, h1, h2⟩ := al1 al
      obtain ⟨g1, g2, g3, g4⟩ := blt_of G q3
      obtain ⟨k1, k2, k3, k4⟩ := blt_of G q4
      refine both (pe_imp (pe_listRg G.calm g1 g2 (prg_1 k1 k2 h1 (star_cons h0 _ _))) fun σ H Q q => p1_te (r := fun x H Q => ∃ n, x = .int n ∧ RgOk 0 n ∧ ∀ q, H q = none → Q (.ref q) (upd H q (.lst (rgV 0 n)))) (fun Φ H x d e Q s hx hp o => ?_) σ H Q q) rfl
      cases d <;> simp only [pf] at hp <;> try (cases hp; done)
      split at hp
      · rename_i n q
        have q := of_decide_eq_true q
        cases hp
        refine ⟨n, hx.int, RgOk.of_le (by omega) (by omega) (by omega) (by omega), fun q hq => ?_⟩
        exact o q (rgV 0 n) (rg_dq 0 n) hq
      · cases hp
    · cases h
  · split at h
    · rename_i q
      simp only [Bool.and_eq_true, decide_eq_true_eq] at q
      obtain ⟨⟨⟨q1, q2⟩, q3⟩, q4⟩ := q
      subst q1 q2
      cases h
      obtain ⟨c, d, rfl, h1, h2, h0, h3⟩ := al2 al
      obtain ⟨g1, g2, g3, g4⟩ := blt_of G q3
      obtain ⟨k1, k2, k3, k4⟩ := blt_of G q4
      refine both (pe_imp (pe_listRg G.calm g1 g2 (prg_2 k1 k2 h1 h2 (star_cons h0 _ _) (star_cons h3 _ _) (by rw [star_cons h3]; rfl))) fun σ H Q q => p2_te (r := fun x y H Q => ∃ i n, x = .int i ∧ y = .int n ∧ RgOk i n ∧ ∀ q, H q = none → Q (.ref q) (upd H q (.lst (rgV i n)))) (fun Φ H x y d d' e Q s hx hy hp o => ?_) σ H Q q) rfl
      cases d <;> cases d' <;> simp only [pf] at hp <;> try (cases hp; done)
      split at hp
      · rename_i i n q
        have q := of_decide_eq_true q
        cases hp
        refine ⟨i, n, hx.int, hy.int, RgOk.of_le (by omega) (by omega) (by omega) (by omega), fun q hq => ?_⟩
        exact o q (rgV i n) (rg_dq i n) hq
      · cases hp
    · cases h
  · split at h
    · rename_i t x p a y p2 pos q
      simp only [Bool.and_eq_true, decide_eq_true_eq] at q
      obtain ⟨⟨⟨⟨q1, q2⟩, q3⟩, q4⟩, q5⟩ := q
      subst q1 q2
      cases h
      obtain ⟨c, rfl, h0, h1, h2⟩ := al1 al
      have ht : t ∈ tys := by simpa using q5
      obtain ⟨g1, g2, g3, g4⟩ := blt_of G q3
      obtain ⟨k1, k2, k3, k4⟩ := blt_of G q4
      have hv : bootBuiltins (t : Str) = some (.type t) := by
        have : ∀ t ∈ tys, bootBuiltins (t : Str) = some (.type t) := by decide +kernel
        exact this t ht
      refine both (pe_imp (pe_callB call_isi g1 g2 (by decide +kernel) (pa_cons h1 (pa_cons (pe_bltn (v := .ty t) k1 k2 hv rfl k3 k4) pa_nil rfl) (star_cons h0 _ _)) g3 g4 (star_cons h0 _ _) rfl) fun σ H Q q =>
        p1_te (r := fun x H Q => rIsi X.K [x, .ty t] H Q) (fun Φ H x d e Q s hx hp o => isi_ok ht s hx hp o) σ H Q q) rfl
    · cases h
  · cases h
end
end Mn

/-! MnI: what is walked; targets. -/
namespace Mn
open PySem L2 PySem.Spec PyProof.Rows

/-! ### the lists that are walked stand -/
theorem same_at {h h' : MH} : ∀ {vs : List Vl} {k : Nat} {xs : List PyData}, same h h' vs = true → .r k ∈ vs → h[k]? = some (.l xs) → h'[k]? = some (.l xs)
  | [], _, _, _, m, _ => by simp at m
  | .d _ :: r, k, xs, s, m, q => same_at (vs := r) s (by simpa using m) q
  | .s _ :: r, k, xs, s, m, q => same_at (vs := r) s (by simpa using m) q
  | .r j :: r, k, xs, s, m, q => by
    simp only [same, Bool.and_eq_true] at s
    rcases List.mem_cons.mp m with e | m
    · cases e
      obtain ⟨s, _⟩ := s
      split at s
      · rename_i a b ha hb
        rw [q] at ha; cases ha
        rw [beqDs_eq _ _ s]; exact hb
      · cases s
    · exact same_at s.2 m q

/-- J walks the items xs of the values vs, as they stand at h -/
def Wk (K : PySem.W.Frag) (J : It) (Z Φ : Hp) (u : List Addr) (h : MH) (vs : List Vl) (xs : List PyData) : Prop :=
  ∀ Z' Φ' u' H' h', Ext Φ u Φ' u' → HR K Z' Φ' u' H' h' → same h h' vs = true →
    (∀ (i : Nat) (x : PyData), xs[i]? = some x → J.go i H' ∧ ∀ v H'', J.yld i H' v H'' → ∃ Φ'', NewOf Φ' H' Φ'' H'' ∧ Dq K Φ'' v x) ∧ J.stop xs.length H'
section
variable {K : PySem.W.Frag} {Z Φ H : Hp} {u : List Addr} {h : MH}
theorem lstAt {v : V} {x : Vl} {ds : List PyData} {vs : List Vl} (R : HR K Z Φ u H h) (hv : VR K Φ u v x) (e : snap h x = some (.list ds)) (hm : x ∈ vs) : ∃ a, v = .ref a ∧
    ∀ Z' Φ' u' H' h', Ext Φ u Φ' u' → HR K Z' Φ' u' H' h' → same h h' vs = true → ∃ xs, H' a = some (.lst xs) ∧ DqAll K Φ' xs ds := by
  cases x with
  | d x =>
    simp only [snap, Option.some.injEq] at e
    subst e
    cases hv with
    | lst h1 h2 => exact ⟨_, rfl, fun Z' Φ' u' H' h' X R' _ => ⟨_, R'.sub _ _ (X.le _ _ h1), dpa_mono X.le _ _ h2⟩⟩
  | r k =>
    obtain ⟨a, h1, rfl⟩ := hv
    simp only [snap] at e
    split at e
    · rename_i xs hx
      cases e
      refine ⟨a, rfl, fun Z' Φ' u' H' h' X R' s => ?_⟩
      obtain ⟨b, ys, g1, _, g3, g4⟩ := R'.at_ (same_at s hm hx)
      rw [pre_get X.pre h1] at g1; cases g1
      exact ⟨ys, g3, g4⟩
    · cases e
  | s ns => simp [snap] at e
theorem tupAt {v : V} {x : Vl} {ds : List PyData} (hv : VR K Φ u v x) (e : snap h x = some (.tuple ds)) : ∃ a xs, v = .ref a ∧ SqT K Φ a xs ∧ DqAll K Φ xs ds := by
  cases x with
  | d x =>
    simp only [snap, Option.some.injEq] at e
    subst e
    cases hv with
    | tup h1 h2 => exact ⟨_, _, rfl, h1, h2⟩
  | r k => simp only [snap] at e; split at e <;> cases e
  | s ns => simp [snap] at e
theorem sql_inj {H : Hp} {a : Addr} {xs : List V} (h : H a = some (.lst xs)) {X : Cx} {pins : List (Addr × Obj)} {σ : L2.St} {s : Shared} : True := trivial
/-- a list read by its place -/
theorem wk_list {a : Addr} {ds : List PyData} {vs : List Vl} (q : ∀ Z' Φ' u' H' h', Ext Φ u Φ' u' → HR K Z' Φ' u' H' h' → same h h' vs = true → ∃ xs, SqL K H' a xs ∧ DqAll K Φ' xs ds) : Wk K (Itl K a) Z Φ u h vs ds := by
  intro Z' Φ' u' H' h' X R s
  obtain ⟨xs, h1, h2⟩ := q Z' Φ' u' H' h' X R s
  refine ⟨fun i x e => ?_, xs, h1, by rw [dpa_len h2]; exact Nat.le_refl _⟩
  obtain ⟨v, g1, g2⟩ := dpa_get h2 e
  refine ⟨⟨xs, v, h1, g1⟩, fun w H'' ⟨e1, e2⟩ => ?_⟩
  subst e1
  have := e2 xs h1
  rw [g1] at this; cases this
  exact ⟨Φ', NewOf.refl R.sub, g2⟩
theorem wk_tup {a : Addr} {ds : List PyData} {vs : List Vl} {xs : List V} (h1 : SqT K Φ a xs) (h2 : DqAll K Φ xs ds) : Wk K (Itt K a) Z Φ u h vs ds := by
  intro Z' Φ' u' H' h' X R s
  have h1 := sqt_mono R.sub (sqt_mono X.le h1)
  have h2 := dpa_mono X.le _ _ h2
  refine ⟨fun i x e => ?_, xs, h1, by rw [dpa_len h2]; exact Nat.le_refl _⟩
  obtain ⟨v, g1, g2⟩ := dpa_get h2 e
  refine ⟨⟨xs, v, h1, g1⟩, fun w H'' ⟨e1, e2⟩ => ?_⟩
  subst e1
  have := e2 xs h1
  rw [g1] at this; cases this
  exact ⟨Φ', NewOf.refl R.sub, g2⟩
theorem wk_rng {vs : List Vl} (a b : Int) : Wk K (Itr a (b - a).toNat) Z Φ u h vs (rngD a b) := by
  intro Z' Φ' u' H' h' X R s
  have hl : (rngD a b).length = (b - a).toNat := by simp [rngD]
  refine ⟨fun i x e => ?_, by show (b - a).toNat ≤ (rngD a b).length; rw [hl]; exact Nat.le_refl _⟩
  have hi : i < (b - a).toNat := by rw [← hl]; exact (List.getElem?_eq_some_iff.mp e).1
  have hx : x = .int (a + (i : Nat)) := by
    unfold rngD at e
    rw [List.getElem?_map, List.getElem?_range hi] at e
    exact (Option.some.inj e).symm
  refine ⟨hi, fun w H'' ⟨e1, e2⟩ => ?_⟩
  subst e1 e2 hx
  exact ⟨Φ', NewOf.refl R.sub, .int _⟩
theorem pair_new {Φ' H' : Hp} (s : Le Φ' H') {T : Addr} {x y : V} {d e : PyData} (n : H' T = none) (h1 : Dq K Φ' x d) (h2 : Dq K Φ' y e) :
    ∃ Φ'', NewOf Φ' H' Φ'' (upd H' T (.tup [x, y])) ∧ Dq K Φ'' (.ref T) (.tuple [d, e]) := by
  have N := NewOf.upd (o := .tup [x, y]) s n
  exact ⟨_, N, .tup (SqT.of upd_same) (.cons (dq_mono N.le _ _ h1) (.cons (dq_mono N.le _ _ h2) .nil))⟩
theorem enD_get : ∀ (ds : List PyData) (k i : Nat) (x : PyData), (enD k ds)[i]? = some x → ∃ d, ds[i]? = some d ∧ x = .tuple [.int ((k + i : Nat) : Int), d]
  | [], _, _, _, e => by simp [enD] at e
  | d :: ds, k, 0, x, e => by simp [enD] at e; exact ⟨d, rfl, by rw [← e]; rfl⟩
  | d :: ds, k, i + 1, x, e => by
    simp only [enD, List.getElem?_cons_succ] at e
    obtain ⟨d', h1, h2⟩ := enD_get ds (k + 1) i x e
    refine ⟨d', by simpa using h1, ?_⟩
    rw [h2, show k + 1 + i = k + (i + 1) by omega]
theorem enD_len : ∀ (ds : List PyData) (k : Nat), (enD k ds).length = ds.length
  | [], _ => rfl
  | d :: ds, k => by simp [enD, enD_len ds (k + 1)]
theorem zipD_get : ∀ (ds es : List PyData) (i : Nat) (x : PyData), (zipD ds es)[i]? = some x → ∃ d e, ds[i]? = some d ∧ es[i]? = some e ∧ x = .tuple [d, e]
  | [], _, _, _, h => by simp [zipD] at h
  | _ :: _, [], _, _, h => by simp [zipD] at h
  | d :: ds, e :: es, 0, x, h => by simp [zipD] at h; exact ⟨d, e, rfl, rfl, h.symm⟩
  | d :: ds, e :: es, i + 1, x, h => by
    simp only [zipD, List.getElem?_cons_succ] at h
    obtain ⟨d', e', h1, h2, h3⟩ := zipD_get ds es i x h
    exact ⟨d', e', by simpa using h1, by simpa using h2, h3⟩
theorem zipD_len : ∀ (ds es : List PyData), (zipD ds es).length = min ds.length es.length
  | [], _ => by simp [zipD]
  | _ :: _, [] => by simp [zipD]
  | d :: ds, e :: es => by simp [zipD, zipD_len ds es]
theorem wk_en {a : Addr} {ds : List PyData} {vs : List Vl} (q : ∀ Z' Φ' u' H' h', Ext Φ u Φ' u' → HR K Z' Φ' u' H' h' → same h h' vs = true → ∃ xs, SqL K H' a xs ∧ DqAll K Φ' xs ds) : Wk K (Ite K a) Z Φ u h vs (enD 0 ds) := by
  intro Z' Φ' u' H' h' X R s
  obtain ⟨xs, h1, h2⟩ := q Z' Φ' u' H' h' X R s
  refine ⟨fun i x e => ?_, xs, h1, by rw [dpa_len h2, enD_len]; exact Nat.le_refl _⟩
  obtain ⟨d, e1, e2⟩ := enD_get ds 0 i x e
  obtain ⟨v, g1, g2⟩ := dpa_get h2 e1
  refine ⟨⟨xs, v, h1, g1⟩, fun w H'' ⟨T, y, q1, q2, q3, q4⟩ => ?_⟩
  have := q4 xs h1
  rw [g1] at this; cases this
  subst q1 q3 e2
  rw [Nat.zero_add]
  exact pair_new R.sub q2 (.int _) g2
theorem wk_zpL {a b : Addr} {ds es : List PyData} {vs : List Vl} (q : ∀ Z' Φ' u' H' h', Ext Φ u Φ' u' → HR K Z' Φ' u' H' h' → same h h' vs = true → ∃ xs, SqL K H' a xs ∧ DqAll K Φ' xs ds)
    (q' : ∀ Z' Φ' u' H' h', Ext Φ u Φ' u' → HR K Z' Φ' u' H' h' → same h h' vs = true → ∃ xs, SqL K H' b xs ∧ DqAll K Φ' xs es) : Wk K (Itz K a b) Z Φ u h vs (zipD ds es) := by
  intro Z' Φ' u' H' h' X R s
  obtain ⟨xs, h1, h2⟩ := q Z' Φ' u' H' h' X R s
  obtain ⟨ys, h3, h4⟩ := q' Z' Φ' u' H' h' X R s
  refine ⟨fun i x e => ?_, xs, ys, h1, h3, by rw [dpa_len h2, dpa_len h4, zipD_len]; omega⟩
  obtain ⟨d, d', e1, e2, e3⟩ := zipD_get ds es i x e
  obtain ⟨v, g1, g2⟩ := dpa_get h2 e1
  obtain ⟨v', g3, g4⟩ := dpa_get h4 e2
  refine ⟨⟨xs, ys, v, v', h1, h3, g1, g3⟩, fun w H'' ⟨T, y, y', q1, q2, q3, q4, q5⟩ => ?_⟩
  have z1 := q4 xs h1
  have z2 := q5 ys h3
  rw [g1] at z1; cases z1
  rw [g3] at z2; cases z2
  subst q1 q3 e3
  exact pair_new R.sub q2 g2 g4
theorem wk_zpT {a b : Addr} {ds es : List PyData} {vs : List Vl} {xs ys : List V} (h1 : SqT K Φ a xs) (h2 : DqAll K Φ xs ds) (h3 : SqT K Φ b ys) (h4 : DqAll K Φ ys es) : Wk K (RZ.ItzT K a b) Z Φ u h vs (zipD ds es) := by
  intro Z' Φ' u' H' h' X R s
  have h1 := sqt_mono R.sub (sqt_mono X.le h1)
  have h2 := dpa_mono X.le _ _ h2
  have h3 := sqt_mono R.sub (sqt_mono X.le h3)
  have h4 := dpa_mono X.le _ _ h4
  refine ⟨fun i x e => ?_, xs, ys, h1, h3, by rw [dpa_len h2, dpa_len h4, zipD_len]; omega⟩
  obtain ⟨d, d', e1, e2, e3⟩ := zipD_get ds es i x e
  obtain ⟨v, g1, g2⟩ := dpa_get h2 e1
  obtain ⟨v', g3, g4⟩ := dpa_get h4 e2
  refine ⟨⟨xs, ys, v, v', h1, h3, g1, g3⟩, fun w H'' ⟨T, y, y', q1, q2, q3, q4, q5⟩ => ?_⟩
  have z1 := q4 xs h1
  have z2 := q5 ys h3
  rw [g1] at z1; cases z1
  rw [g3] at z2; cases z2
  subst q1 q3 e3
  exact pair_new R.sub q2 g2 g4
end

/-- walking, by the evaluator -/
def tiOf (K : PySem.W.Frag) (xa : Xa) (W : WX) (k : Ik) (f : Ev → MH → Rs (List Vl)) : TI := fun σ H Rf =>
  ∃ Z Φ u e h, HR K Z Φ u H h ∧ ER K Φ u σ e ∧ Po K xa (fun cl dd H => W cl dd σ H) Z Φ u (f e h) fun vs h1 Φ1 u1 H1 => ∃ xs, itV h1 k vs = some xs ∧ ∀ J, Wk K J Z Φ1 u1 h1 vs xs → Rf J H1
section
variable {T : Tt} {xa : Xa} {F : Nat → List Vl → MH → Rs Vl} {N : List Str} {n : Nat} {sc : Scope} {X : Cx} {W : WX} {tg it : Expr}
theorem pi_imp {t t' : TI} (h : PI X tg it t) (i : ∀ σ H Q, t' σ H Q → t σ H Q) : PI X tg it t' := ⟨fun pins s σ H R I q => h.run pins s σ H R I (i σ H R q)⟩
theorem pi_or {t t' : TI} (h : PI X tg it t) (h' : PI X tg it t') : PI X tg it fun σ H R => t σ H R ∨ t' σ H R :=
  ⟨fun pins s σ H R I q => q.elim (fun q => h.run pins s σ H R I q) fun q => h'.run pins s σ H R I q⟩
theorem vrs1 {K : PySem.W.Frag} {Φ : Hp} {u : List Addr} {vs : List V} {x : Vl} (h : VRs K Φ u vs [x]) : ∃ v, vs = [v] ∧ VR K Φ u v x := by
  cases vs with
  | nil => exact h.elim
  | cons v r =>
    cases r with
    | nil => exact ⟨v, rfl, h.1⟩
    | cons _ _ => exact h.2.elim
theorem vrs2 {K : PySem.W.Frag} {Φ : Hp} {u : List Addr} {vs : List V} {x y : Vl} (h : VRs K Φ u vs [x, y]) : ∃ v w, vs = [v, w] ∧ VR K Φ u v x ∧ VR K Φ u w y := by
  cases vs with
  | nil => exact h.elim
  | cons v r =>
    obtain ⟨w, rfl, h2⟩ := vrs1 h.2
    exact ⟨v, w, rfl, h.1, h2⟩
/-- the set's fold is none of ours -/
theorem noSet_fold {it : Expr} (h : noSet it = true) (env : Env) (x : Value) : foldedSetIterable it env x = pure x := by
  cases it with
  | Set a b c => cases h
  | _ => rfl
theorem folded_of {k : Ik} {as : List Expr} (h : walks T sc k tg it = some as) (env : Env) (x : Value) : foldedSetIterable it env x = pure x := by
  refine noSet_fold ?_ env x
  cases k with
  | sq =>
    simp only [walks] at h
    split at h
    · assumption
    · cases h
  | r1 => obtain ⟨_, _, _, rfl, _⟩ := oneCall_is (show oneCall T sc "range" it = some as from h); rfl
  | r2 => obtain ⟨_, _, _, _, rfl, _⟩ := twoCall_is (show twoCall T sc "range" it = some as from h); rfl
  | zp =>
    simp only [walks] at h
    split at h
    · obtain ⟨_, _, _, _, rfl, _⟩ := twoCall_is h; rfl
    · cases h
  | en =>
    simp only [walks] at h
    split at h
    · obtain ⟨_, _, _, rfl, _⟩ := oneCall_is h; rfl
    · cases h
theorem snaps1 {h : MH} {x : Vl} {d : PyData} (e : snaps h [x] = some [d]) : snap h x = some d := by
  simp only [snaps] at e
  split at e
  · rename_i a b h1 h2
    cases h2; cases e; exact h1
  · cases e
theorem snaps2 {h : MH} {x y : Vl} {d d' : PyData} (e : snaps h [x, y] = some [d, d']) : snap h x = some d ∧ snap h y = some d' := by
  simp only [snaps] at e
  split at e
  · rename_i a b h1 h2
    cases e
    exact ⟨h1, snaps1 (by simpa [snaps] using h2)⟩
  · cases e
theorem snaps_len {h : MH} : ∀ {xs : List Vl} {ds : List PyData}, snaps h xs = some ds → xs.length = ds.length
  | [], ds, e => by simp [snaps] at e; subst e; rfl
  | x :: xs, ds, e => by
    simp only [snaps] at e
    split at e
    · rename_i a b h1 h2
      cases e
      simp [snaps_len h2]
    · cases e
theorem itV_snaps {h : MH} {k : Ik} {vs : List Vl} {xs : List PyData} (e : itV h k vs = some xs) : (k = .sq ∧ ∃ ns, vs = [.s ns] ∧ xs = ofInts ns) ∨ ∃ ds, snaps h vs = some ds ∧ itD k ds = some xs := by
  unfold itV at e
  split at e
  · cases e; exact .inl ⟨rfl, _, rfl, rfl⟩
  · split at e
    · rename_i ds h1
      exact .inr ⟨ds, h1, e⟩
    · cases e
theorem ints_dq {K : PySem.W.Frag} {Φ : Hp} (ns : List Int) : DqAll K Φ (ns.map V.int) (ofInts ns) := dpa_ofInts ns
theorem lst_of {K : PySem.W.Frag} {Z Φ H : Hp} {u : List Addr} {h : MH} {v : V} {x : Vl} {ds : List PyData} {vs : List Vl} (R : HR K Z Φ u H h) (hv : VR K Φ u v x) (e : snap h x = some (.list ds)) (hm : x ∈ vs) (hs : same h h vs = true) :
    ∃ a, v = .ref a ∧ (∃ xs, SqL K H a xs) ∧ ∀ Z' Φ' u' H' h', Ext Φ u Φ' u' → HR K Z' Φ' u' H' h' → same h h' vs = true → ∃ xs, SqL K H' a xs ∧ DqAll K Φ' xs ds := by
  obtain ⟨a, rfl, q⟩ := lstAt R hv e hm
  obtain ⟨xs, g1, g2⟩ := q Z Φ u H h Ext.refl R hs
  refine ⟨a, rfl, ⟨xs, SqL.of g1⟩, fun Z' Φ' u' H' h' X R' s => ?_⟩
  obtain ⟨xs, g1, g2⟩ := q Z' Φ' u' H' h' X R' s
  exact ⟨xs, SqL.of g1, g2⟩
theorem same_rfl {h : MH} : ∀ {vs : List Vl} {ds : List PyData}, snaps h vs = some ds → same h h vs = true
  | [], _, _ => rfl
  | x :: vs, ds, e => by
    simp only [snaps] at e
    split at e
    · rename_i a b h1 h2
      cases x with
      | d x => exact same_rfl (vs := vs) h2
      | s x => exact same_rfl (vs := vs) h2
      | r k =>
        simp only [snap] at h1
        simp only [same, same_rfl h2, Bool.and_true]
        split at h1
        · rename_i xs hx
          rw [hx]; exact beqDs_rfl _
        · cases h1
    · cases e
/-- WALKS: over whatever the text walks -/
theorem sndI (G : Gd T xa F N n sc X) {k : Ik} {as : List Expr} {es : Cds} (h : walks T sc k tg it = some as) (al : Al xa F X W es as) : PI X tg it (tiOf X.K xa W k (evs F es)) := by
  cases k with
  | sq =>
    have e1 : as = [it] := by
      simp only [walks] at h
      split at h
      · exact (Option.some.inj h).symm
      · cases h
    subst e1
    obtain ⟨c, rfl, h0, h1, h2⟩ := al1 al
    refine pi_imp (pi_or (pi_list h1) (pi_tup h1)) fun σ H Rf ⟨Z, Φ, u, e, m, R, er, p⟩ => ?_
    have ev1 : evs F (.c c .n) e m = (ev F c e m).bind fun x h1 => .ok [x] h1 := by simp only [evs, Rs.bind_assoc, Rs.bind_ok]
    rw [ev1] at p
    by_cases hk : ∃ x h1 ds, ev F c e m = .ok x h1 ∧ snap h1 x = some (.tuple ds)
    · obtain ⟨x, h1, ds, q1, q2⟩ := hk
      refine .inr ⟨Z, Φ, u, e, m, R, er, ?_⟩
      rw [q1] at p ⊢
      intro Φ1 u1 H1 x1 R1 v hv
      obtain ⟨xs, q3, q4⟩ := p Φ1 u1 H1 x1 R1
      obtain ⟨a, vs, rfl, g1, g2⟩ := tupAt hv q2
      refine ⟨a, rfl, ⟨vs, sqt_mono R1.sub g1⟩, q4 _ ?_⟩
      rcases itV_snaps q3 with ⟨_, ns, e1, _⟩ | ⟨ds', e1, e2⟩
      · cases e1; simp [snap] at q2
      · have : ds' = [.tuple ds] := by simp only [snaps, q2] at e1; exact (Option.some.inj e1).symm
        subst this
        simp only [itD, seqOf, Option.some.injEq] at e2
        subst e2
        exact wk_tup g1 g2
    · refine .inl ⟨Z, Φ, u, e, m, R, er, ?_⟩
      cases q1 : ev F c e m with
      | no => rw [q1] at p; exact p
      | ex c d h' => rw [q1] at p; exact p
      | ok x h1 =>
        rw [q1] at p
        intro Φ1 u1 H1 x1 R1 v hv
        obtain ⟨xs, q3, q4⟩ := p Φ1 u1 H1 x1 R1
        rcases itV_snaps q3 with ⟨_, ns, e1, e3⟩ | ⟨ds', e1, e2⟩
        · cases e1
          subst e3
          obtain ⟨a, rfl, g1⟩ := hv
          exact ⟨a, rfl, ⟨_, sql_mono R1.sub g1⟩, q4 _ (wk_list fun Z' Φ' u' H' h' X R' _ => ⟨_, sql_mono R'.sub (sql_mono X.le g1), ints_dq ns⟩)⟩
        · match ds', snaps_len e1 with
          | [d], _ =>
            have e1' := snaps1 e1
            cases d with
            | list ds =>
              simp only [itD, seqOf, Option.some.injEq] at e2
              subst e2
              obtain ⟨a, rfl, g1, g2⟩ := lst_of R1 hv e1' (vs := [x]) (by simp) (same_rfl e1)
              exact ⟨a, rfl, g1, q4 _ (wk_list g2)⟩
            | tuple ds => exact (hk ⟨x, h1, ds, q1, e1'⟩).elim
            | _ => simp [itD, seqOf] at e2
  | r1 =>
    obtain ⟨p, a, pos, rfl, rfl, q⟩ := oneCall_is (show oneCall T sc "range" it = some as from h)
    obtain ⟨g1, g2, _, _⟩ := blt_of G q
    obtain ⟨c, rfl, h0, h1, h2⟩ := al1 al
    refine pi_imp (pi_range1 g1 g2 (al_pa al) (by rw [star_cons h0]; rfl)) fun σ H Rf ⟨Z, Φ, u, e, m, R, er, p⟩ => ⟨Z, Φ, u, e, m, R, er, p.mono fun xs h1 Φ1 u1 H1 x1 R1 ⟨ys, q3, q4⟩ vs hv => ?_⟩
    rcases itV_snaps q3 with ⟨e0, _⟩ | ⟨ds', e1, e2⟩
    · cases e0
    · have hs := snaps_sns R1 hv e1
      unfold itD at e2
      split at e2 <;> try (cases e2; done)
      · rename_i e0; cases e0
      · split at e2
        · rename_i hk
          cases e2
          simp only [small62, decide_eq_true_eq] at hk
          obtain ⟨x, rfl, hx⟩ := sns1 hs
          refine ⟨_, by rw [hx.int], hk.1, hk.2, ?_⟩
          have := q4 _ (wk_rng 0 _)
          rw [Int.sub_zero] at this
          exact this
        · cases e2
      all_goals (rename_i e0; cases e0)
  | r2 =>
    obtain ⟨p, a, b, pos, rfl, rfl, q⟩ := twoCall_is (show twoCall T sc "range" it = some as from h)
    obtain ⟨g1, g2, _, _⟩ := blt_of G q
    obtain ⟨c, d, rfl, h1, h2, h0, h3⟩ := al2 al
    refine pi_imp (pi_range2 g1 g2 (al_pa al) (by rw [star_cons h0, star_cons h3]; rfl) (by rw [star_cons h3]; rfl)) fun σ H Rf ⟨Z, Φ, u, e, m, R, er, p⟩ => ⟨Z, Φ, u, e, m, R, er, p.mono fun xs h1 Φ1 u1 H1 x1 R1 ⟨ys, q3, q4⟩ vs hv => ?_⟩
    rcases itV_snaps q3 with ⟨e0, _⟩ | ⟨ds', e1, e2⟩
    · cases e0
    · have hs := snaps_sns R1 hv e1
      unfold itD at e2
      split at e2 <;> try (cases e2; done)
      · rename_i e0; cases e0
      · rename_i e0; cases e0
      · split at e2
        · rename_i hk
          cases e2
          simp only [small62, Bool.and_eq_true, decide_eq_true_eq] at hk
          obtain ⟨x, y, rfl, hx, hy⟩ := sns2 hs
          exact ⟨_, _, by rw [hx.int, hy.int], ⟨hk.1.1, hk.1.2, hk.2.1, hk.2.2⟩, q4 _ (wk_rng _ _)⟩
        · cases e2
      all_goals (rename_i e0; cases e0)
  | zp =>
    simp only [walks] at h
    split at h
    · rename_i ht
      obtain ⟨p, a, b, pos, rfl, rfl, q⟩ := twoCall_is h
      obtain ⟨g1, g2, _, _⟩ := blt_of G q
      obtain ⟨c, d, rfl, h1, h2, h0, h3⟩ := al2 al
      cases tg with
      | Tuple elts kk tpos =>
        refine pi_imp (RZ.pi_zipA g1 g2 (al_pa al) (star_cons h0 _ _) (by rw [star_cons h3]; rfl)) fun σ H Rf ⟨Z, Φ, u, e, m, R, er, p⟩ => ⟨Z, Φ, u, e, m, R, er, p.mono fun xs h1 Φ1 u1 H1 x1 R1 ⟨ys, q3, q4⟩ vs hv => ?_⟩
        rcases itV_snaps q3 with ⟨e0, _⟩ | ⟨ds', e1, e2⟩
        · cases e0
        · have l2 := snaps_len e1
          unfold itD at e2
          split at e2 <;> try (cases e2; done)
          · rename_i e0; cases e0
          · rename_i e0; cases e0
          · rename_i e0; cases e0
          · rename_i xs' ys' _
            cases e2
            match xs, l2 with
            | [x, y], _ =>
              obtain ⟨v, w, rfl, hx, hy⟩ := vrs2 hv
              obtain ⟨z1, z2⟩ := snaps2 e1
              obtain ⟨a, vs1, rfl, k1, k2⟩ := tupAt hx z1
              obtain ⟨b, vs2, rfl, k3, k4⟩ := tupAt hy z2
              exact ⟨a, b, vs1, vs2, rfl, .inr ⟨sqt_mono R1.sub k1, sqt_mono R1.sub k3, q4 _ (wk_zpT k1 k2 k3 k4)⟩⟩
          · rename_i xs' ys' _
            cases e2
            match xs, l2 with
            | [x, y], _ =>
              obtain ⟨v, w, rfl, hx, hy⟩ := vrs2 hv
              obtain ⟨z1, z2⟩ := snaps2 e1
              obtain ⟨a, rfl, ⟨vs1, k1⟩, k2⟩ := lst_of R1 hx z1 (vs := [x, y]) (by simp) (same_rfl e1)
              obtain ⟨b, rfl, ⟨vs2, k3⟩, k4⟩ := lst_of R1 hy z2 (vs := [x, y]) (by simp) (same_rfl e1)
              exact ⟨a, b, vs1, vs2, rfl, .inl ⟨k1, k3, q4 _ (wk_zpL k2 k4)⟩⟩
          · rename_i e0; cases e0
      | _ => simp [isTup] at ht
    · cases h
  | en =>
    simp only [walks] at h
    split at h
    · rename_i ht
      obtain ⟨p, a, pos, rfl, rfl, q⟩ := oneCall_is h
      obtain ⟨g1, g2, _, _⟩ := blt_of G q
      obtain ⟨c, rfl, h0, h1, h2⟩ := al1 al
      cases tg with
      | Tuple elts kk tpos =>
        refine pi_imp (pi_enum g1 g2 (al_pa al) (by rw [star_cons h0]; rfl)) fun σ H Rf ⟨Z, Φ, u, e, m, R, er, p⟩ => ⟨Z, Φ, u, e, m, R, er, p.mono fun xs h1 Φ1 u1 H1 x1 R1 ⟨ys, q3, q4⟩ vs hv => ?_⟩
        rcases itV_snaps q3 with ⟨e0, _⟩ | ⟨ds', e1, e2⟩
        · cases e0
        · have l2 := snaps_len e1
          unfold itD at e2
          split at e2 <;> try (cases e2; done)
          · rename_i e0; cases e0
          · rename_i e0; cases e0
          · rename_i e0; cases e0
          · rename_i e0; cases e0
          · rename_i e0; cases e0
          · rename_i xs' _
            cases e2
            match xs, l2 with
            | [x], _ =>
              obtain ⟨v, rfl, hx⟩ := vrs1 hv
              have z1 := snaps1 e1
              obtain ⟨a, rfl, ⟨vs1, k1⟩, k2⟩ := lst_of R1 hx z1 (vs := [x]) (by simp) (same_rfl e1)
              exact ⟨a, vs1, rfl, k1, q4 _ (wk_en k2)⟩
      | _ => simp [isTup] at ht
    · cases h
end
end Mn

/-! MnJ: comprehensions; every expression. -/
namespace Mn
open PySem L2 PySem.Spec PyProof.Rows

section
variable {T : Tt} {xa : Xa} {F : Nat → List Vl → MH → Rs Vl} {N : List Str} {n : Nat} {sc : Scope} {X : Cx} {W : WX} {tg it : Expr}
/-! ### targets -/
/-- storing at a target, by the evaluator -/
def tgOf (K : PySem.W.Frag) (t : Tg) : TG := fun v σ H Q => ∃ Z Φ u e h x e', HR K Z Φ u H h ∧ ER K Φ u σ e ∧ VR K Φ u v x ∧ setT t x e = some e' ∧ ∀ σ', (∀ Φ' u', Ext Φ u Φ' u' → ER K Φ' u' σ' e') → (∀ i, i ∉ t.slots → σ'[i]? = σ[i]?) → σ'.length = σ.length → Q σ' H
theorem sto_of (hN : X.N = N) (hs : X.env.scope = sc) {fn : Str → Bool} (hf : ∀ x, fn x = true → X.fn x = true) {i : Nat} {x : Str} (h : sto N sc fn i x = true) : X.N[i]? = some x ∧ Loc X.env.scope x ∧ (X.fn x = true ∨ X.env.scope.names.lookup x = some .local) := by
  simp only [sto, Bool.and_eq_true, Bool.or_eq_true, decide_eq_true_eq] at h
  obtain ⟨⟨h1, h2⟩, h3⟩ := h
  refine ⟨by rw [hN]; exact h1, ?_, ?_⟩
  · rw [hs]
    unfold loc at h2
    split at h2
    · exact .inl (by assumption)
    · exact .inr (by assumption)
    · cases h2
  · rcases h3 with h3 | h3
    · exact .inl (hf x h3)
    · rw [hs]
      unfold lcl at h3
      split at h3
      · exact .inr (by assumption)
      · cases h3
theorem set_len {σ : L2.St} {i : Nat} {v : Option V} : (σ.set i v).length = σ.length := by simp
theorem set_other {σ : L2.St} {i j : Nat} {v : Option V} (h : j ≠ i) : (σ.set i v)[j]? = σ[j]? := List.getElem?_set_ne (Ne.symm h)
theorem tup_items {K : PySem.W.Frag} {Φ : Hp} {u : List Addr} {v : V} {ds : List PyData} (h : VR K Φ u v (.d (.tuple ds))) : ∃ a xs, v = .ref a ∧ SqT K Φ a xs ∧ DqAll K Φ xs ds := by
  have h : Dq K Φ v (.tuple ds) := h
  cases h with
  | tup h1 h2 => exact ⟨_, _, rfl, h1, h2⟩
theorem dqa2 {K : PySem.W.Frag} {Φ : Hp} {xs : List V} {d e : PyData} (h : DqAll K Φ xs [d, e]) : ∃ x y, xs = [x, y] ∧ Dq K Φ x d ∧ Dq K Φ y e := by
  cases h with
  | cons h1 h =>
    cases h with
    | cons h2 h => cases h; exact ⟨_, _, rfl, h1, h2⟩
theorem dqa3 {K : PySem.W.Frag} {Φ : Hp} {xs : List V} {d e f : PyData} (h : DqAll K Φ xs [d, e, f]) : ∃ x y z, xs = [x, y, z] ∧ Dq K Φ x d ∧ Dq K Φ y e ∧ Dq K Φ z f := by
  cases h with
  | cons h1 h =>
    obtain ⟨y, z, rfl, h2, h3⟩ := dqa2 h
    exact ⟨_, y, z, rfl, h1, h2, h3⟩
theorem setT_2 {i j : Nat} {x : Vl} {e e' : Ev} (h : setT (.t2 i j) x e = some e') : ∃ d d', x = .d (.tuple [d, d']) ∧ e' = (e.set i (some (.d d))).set j (some (.d d')) := by
  match x, h with
  | .d (.tuple [d, d']), h => exact ⟨d, d', rfl, (Option.some.inj h).symm⟩
theorem setT_3 {i j k : Nat} {x : Vl} {e e' : Ev} (h : setT (.t3 i j k) x e = some e') : ∃ d d' d'', x = .d (.tuple [d, d', d'']) ∧ e' = ((e.set i (some (.d d))).set j (some (.d d'))).set k (some (.d d'')) := by
  match x, h with
  | .d (.tuple [d, d', d'']), h => exact ⟨d, d', d'', rfl, (Option.some.inj h).symm⟩
theorem sndT (hN : X.N = N) (nd : N.Nodup) (hs : X.env.scope = sc) (hc : X.calm = true) {fn : Str → Bool} (hf : ∀ x, fn x = true → X.fn x = true) {t : Tg} (h : chkT N sc fn t tg = true) : PG X tg (tgOf X.K t) := by
  have nd' : X.N.Nodup := by rw [hN]; exact nd
  unfold chkT at h
  split at h
  · rename_i i x p
    obtain ⟨h1, h2, h3⟩ := sto_of hN hs hf h
    refine ⟨fun pins s σ H v w Q I r ⟨Z, Φ, u, e, m, y, e', R, er, hv, q, k⟩ => (pg_name nd' h1 h2 h3).run pins s σ H v w Q I r ?_⟩
    simp only [setT, Option.some.injEq] at q
    subst q
    exact k _ (fun Φ' u' X => (er.set hv).mono X) (fun j hj => set_other (by simpa [Tg.slots] using hj)) set_len
  · rename_i i j x p y p2 k2 p3
    simp only [Bool.and_eq_true] at h
    obtain ⟨h1, h2, h3⟩ := sto_of hN hs hf h.1
    obtain ⟨g1, g2, g3⟩ := sto_of hN hs hf h.2
    refine ⟨fun pins s σ H v w Q I r ⟨Z, Φ, u, e, m, y, e', R, er, hv, q, k⟩ => (pg_tup hc (pgs_cons (pg_name nd' h1 h2 h3) (pgs_cons (pg_name nd' g1 g2 g3) pgs_nil rfl) rfl)).run pins s σ H v w Q I r ?_⟩
    obtain ⟨d, d', rfl, rfl⟩ := setT_2 q
    obtain ⟨a, xs, rfl, k1, k2⟩ := tup_items hv
    obtain ⟨v1, v2, rfl, k3, k4⟩ := dqa2 k2
    refine ⟨a, _, rfl, sqt_mono R.sub k1, rfl, v1, _, rfl, v2, _, rfl, rfl, ?_⟩
    exact k _ (fun Φ' u' X => ((er.set (x := .d d) k3).set (x := .d d') k4).mono X) (fun l hl => by
      simp only [Tg.slots, List.mem_cons, List.not_mem_nil, or_false, not_or] at hl
      rw [set_other hl.2, set_other hl.1]) (by simp)
  · rename_i i j k x p y p2 z p3 k2 p4
    simp only [Bool.and_eq_true] at h
    obtain ⟨h1, h2, h3⟩ := sto_of hN hs hf h.1.1
    obtain ⟨g1, g2, g3⟩ := sto_of hN hs hf h.1.2
    obtain ⟨l1, l2, l3⟩ := sto_of hN hs hf h.2
    refine ⟨fun pins s σ H v w Q I r ⟨Z, Φ, u, e, m, y, e', R, er, hv, q, kk⟩ => (pg_tup hc (pgs_cons (pg_name nd' h1 h2 h3) (pgs_cons (pg_name nd' g1 g2 g3) (pgs_cons (pg_name nd' l1 l2 l3) pgs_nil rfl) rfl) rfl)).run pins s σ H v w Q I r ?_⟩
    obtain ⟨d, d', d'', rfl, rfl⟩ := setT_3 q
    obtain ⟨a, xs, rfl, k1, k2⟩ := tup_items hv
    obtain ⟨v1, v2, v3, rfl, k3, k4, k5⟩ := dqa3 k2
    refine ⟨a, _, rfl, sqt_mono R.sub k1, rfl, v1, _, rfl, v2, _, rfl, v3, _, rfl, rfl, ?_⟩
    exact kk _ (fun Φ' u' X => (((er.set (x := .d d) k3).set (x := .d d') k4).set (x := .d d'') k5).mono X) (fun l hl => by
      simp only [Tg.slots, List.mem_cons, List.not_mem_nil, or_false, not_or] at hl
      rw [set_other hl.2.2, set_other hl.2.1, set_other hl.1]) (by simp)
  · cases h

/-! ### slots forgotten, held lists -/
theorem er_wipe {K : PySem.W.Frag} {Φ : Hp} {u : List Addr} {σ : L2.St} {e : Ev} (r : ER K Φ u σ e) : ∀ vs : List Nat, ER K Φ u (wipe σ vs) (wpE e vs)
  | [] => r
  | v :: vs => by
    have ih := er_wipe r vs
    unfold wipe wpE
    refine ⟨by simp [ih.len], fun i x q => ?_⟩
    by_cases hi : v = i
    · subst hi
      by_cases hl : v < (wpE e vs).length
      · rw [List.getElem?_set_self hl] at q; cases q
      · rw [List.getElem?_eq_none (by simpa using hl)] at q; cases q
    · rw [List.getElem?_set_ne hi] at q ⊢
      exact ih.at_ i x q
theorem wp_setT {t : Tg} {x : Vl} {e : Ev} : setT t x (wpE e t.slots) = setT t x e := by
  cases t with
  | n i => simp [Tg.slots, wpE, setT]
  | t2 i j =>
    match x with
    | .d (.tuple [d, d']) =>
      simp only [setT, Tg.slots, wpE, Option.some.injEq]
      apply List.ext_getElem?
      intro k
      simp only [List.getElem?_set, List.length_set]
      grind
    | .r _ => rfl
    | .s _ => rfl
    | .d .none => rfl
    | .d (.bool _) => rfl
    | .d (.int _) => rfl
    | .d (.str _) => rfl
    | .d (.list _) => rfl
    | .d (.dict _) => rfl
    | .d (.tuple []) => rfl
    | .d (.tuple [_]) => rfl
    | .d (.tuple (_ :: _ :: _ :: _)) => rfl
  | t3 i j l =>
    match x with
    | .d (.tuple [d, d', d'']) =>
      simp only [setT, Tg.slots, wpE, Option.some.injEq]
      apply List.ext_getElem?
      intro k
      simp only [List.getElem?_set, List.length_set]
      grind
    | .r _ => rfl
    | .s _ => rfl
    | .d .none => rfl
    | .d (.bool _) => rfl
    | .d (.int _) => rfl
    | .d (.str _) => rfl
    | .d (.list _) => rfl
    | .d (.dict _) => rfl
    | .d (.tuple []) => rfl
    | .d (.tuple [_]) => rfl
    | .d (.tuple [_, _]) => rfl
    | .d (.tuple (_ :: _ :: _ :: _ :: _)) => rfl
theorem wipe_get (σ : L2.St) : ∀ (vs : List Nat) (k : Nat), (wipe σ vs)[k]? = if k ∈ vs then (σ[k]?).map fun _ => none else σ[k]?
  | [], k => by simp [wipe]
  | v :: vs, k => by
    unfold wipe
    rw [List.getElem?_set, wipe_get σ vs k, wipe_length]
    by_cases hk : v = k
    · subst hk
      simp only [if_pos, List.mem_cons, true_or]
      by_cases hl : v < σ.length
      · simp [hl]
      · simp [hl]
    · have hk' : ¬ k = v := fun z => hk z.symm
      simp [hk, hk']
theorem wipe_same {σ σ2 : L2.St} {vs : List Nat} (h : ∀ i, i ∉ vs → σ2[i]? = σ[i]?) (hl : σ2.length = σ.length) : wipe σ2 vs = wipe σ vs := by
  apply List.ext_getElem?
  intro k
  rw [wipe_get, wipe_get]
  by_cases hk : k ∈ vs
  · rw [if_pos hk, if_pos hk]
    by_cases hk2 : k < σ.length
    · rw [List.getElem?_eq_getElem hk2, List.getElem?_eq_getElem (by omega)]; rfl
    · rw [List.getElem?_eq_none (by omega), List.getElem?_eq_none (by omega)]
  · rw [if_neg hk, if_neg hk, h k hk]
theorem wipe_out {σ : L2.St} {vs : List Nat} {i : Nat} (h : i ∉ vs) : (wipe σ vs)[i]? = σ[i]? := by rw [wipe_get, if_neg h]
section
variable {K : PySem.W.Frag} {Z Φ H : Hp} {u : List Addr} {h : MH} {D : Addr}
theorem HR.inU (R : HR K Z Φ u H h) {a : Addr} (m : a ∈ u) : H a ≠ none := by
  obtain ⟨k, hk⟩ := List.getElem?_of_mem m
  have hl : k < h.length := by rw [← R.len]; exact (List.getElem?_eq_some_iff.mp hk).1
  obtain ⟨b, h1, _, h3⟩ := R.obj k _ (List.getElem?_eq_getElem hl)
  rw [hk] at h1; cases h1
  cases hm : h[k] with
  | l ds =>
    rw [hm] at h3
    obtain ⟨xs, h3, _⟩ := h3
    rw [h3]; simp
theorem HR.hold (R : HR K Z Φ u H h) {o : HO} (n : H D = none) : HR K (L2.upd Z D o) Φ u (L2.upd H D o) h := by
  refine ⟨fun a v q => ?_, fun a v q => ?_, R.sub.trans (upd_le n), R.len, R.nd, fun k m q => ?_⟩
  · by_cases ha : a = D
    · subst ha; rw [upd_same] at q ⊢; exact q
    · rw [upd_ne ha] at q ⊢; exact R.rs _ _ q
  · by_cases ha : a = D
    · subst ha; exact ⟨none_sub R.sub n, fun z => R.inU z n⟩
    · rw [upd_ne ha] at q; exact R.ds _ _ q
  · obtain ⟨a, h1, h2, h3⟩ := R.obj k m q
    refine ⟨a, h1, h2, ?_⟩
    cases m with
    | l ds =>
      obtain ⟨xs, h3, h4⟩ := h3
      exact ⟨xs, by rw [upd_ne (fun z => by subst z; rw [n] at h3; cases h3)]; exact h3, h4⟩
theorem HR.rehold {o o' : HO} (R : HR K (L2.upd Z D o) Φ u H h) : HR K (L2.upd Z D o') Φ u (L2.upd H D o') h := by
  have hD := R.ds D o upd_same
  refine ⟨fun a v q => ?_, fun a v q => ?_, fun a v q => ?_, R.len, R.nd, fun k m q => ?_⟩
  · by_cases ha : a = D
    · subst ha; rw [upd_same] at q ⊢; exact q
    · rw [upd_ne ha] at q ⊢; exact R.rs _ _ (by rw [upd_ne ha]; exact q)
  · by_cases ha : a = D
    · subst ha; exact hD
    · rw [upd_ne ha] at q; exact R.ds _ v (by rw [upd_ne ha]; exact q)
  · by_cases ha : a = D
    · subst ha; rw [hD.1] at q; cases q
    · rw [upd_ne ha]; exact R.sub _ _ q
  · obtain ⟨a, h1, h2, h3⟩ := R.obj k m q
    refine ⟨a, h1, h2, ?_⟩
    cases m with
    | l ds =>
      obtain ⟨xs, h3, h4⟩ := h3
      exact ⟨xs, by rw [upd_ne (fun z => by subst z; exact hD.2 (List.mem_of_getElem? h1))]; exact h3, h4⟩
theorem HR.held {o : HO} (R : HR K (L2.upd Z D o) Φ u H h) : H D = some o := R.rs _ _ upd_same
theorem HR.unhold {o : HO} (R : HR K (L2.upd Z D o) Φ u H h) (n : Z D = none) : HR K Z Φ u H h :=
  ⟨fun a v q => R.rs _ _ (by rw [upd_ne (ne_of_none q n)]; exact q), fun a v q => R.ds a v (by rw [upd_ne (ne_of_none q n)]; exact q), R.sub, R.len, R.nd, R.obj⟩
/-- the held list is handed out -/
theorem HR.give {xs : List V} {ds : List PyData} {xa : Xa} {Wx : Value → Option Addr → Hp → Prop} {m : Bool} {Q : VK} (R : HR K (L2.upd Z D (.lst xs)) Φ u H h) (n : Z D = none) (q : DqAll K Φ xs ds)
    (p : Po K xa Wx Z Φ u (mkR m true (.list ds) h) fun x _ Φ' u' H' => ∀ v, VR K Φ' u' v x → Q v H') : Q (.ref D) H := by
  have hD := R.ds D _ upd_same
  have hH := R.held
  have le : Le Φ (L2.upd Φ D (.lst xs)) := upd_le hD.1
  have R0 := R.unhold n
  cases m with
  | false =>
    have p : Po K xa Wx Z Φ u (.ok (.d (.list ds)) h) fun x _ Φ' u' H' => ∀ v, VR K Φ' u' v x → Q v H' := p
    refine p (L2.upd Φ D (.lst xs)) u H ⟨le, List.prefix_refl _⟩ ⟨R0.rs, fun a v z => ⟨?_, (R0.ds a v z).2⟩, fun a v z => ?_, R.len, R.nd, fun k mo z => ?_⟩ (.ref D) ?_
    · rw [upd_ne (ne_of_none z n)]; exact (R0.ds a v z).1
    · by_cases ha : a = D
      · subst ha; rw [upd_same] at z; rw [← z]; exact hH
      · rw [upd_ne ha] at z; exact R.sub _ _ z
    · obtain ⟨a, h1, h2, h3⟩ := R.obj k mo z
      refine ⟨a, h1, by rw [upd_ne (fun z => by subst z; exact hD.2 (List.mem_of_getElem? h1))]; exact h2, ?_⟩
      cases mo with
      | l ds =>
        obtain ⟨xs, h3, h4⟩ := h3
        exact ⟨xs, h3, dpa_mono le _ _ h4⟩
    · exact .lst upd_same (dpa_mono le _ _ q)
  | true =>
    have p : Po K xa Wx Z Φ u (.ok (.r h.length) (h ++ [.l ds])) fun x _ Φ' u' H' => ∀ v, VR K Φ' u' v x → Q v H' := p
    refine p Φ (u ++ [D]) H ⟨Le.refl, List.prefix_append _ _⟩ ⟨R0.rs, fun a v z => ⟨(R0.ds a v z).1, fun y => ?_⟩, R.sub, by simp [R.len], ?_, fun k mo z => ?_⟩ (.ref D) ⟨D, ?_, rfl⟩
    · rcases List.mem_append.mp y with y | y
      · exact (R0.ds a v z).2 y
      · have : a = D := by simpa using y
        subst this
        rw [n] at z; cases z
    · rw [List.nodup_append]
      refine ⟨R.nd, by simp, fun a ha b hb => ?_⟩
      have : b = D := by simpa using hb
      subst this
      intro z; subst z
      exact hD.2 ha
    · by_cases hk : k < h.length
      · rw [List.getElem?_append_left hk] at z
        obtain ⟨a, h1, h2, h3⟩ := R.obj k mo z
        exact ⟨a, by rw [List.getElem?_append_left (List.getElem?_eq_some_iff.mp h1).1]; exact h1, h2, h3⟩
      · have hk2 : k = h.length := by
          have := (List.getElem?_eq_some_iff.mp z).1
          simp at this; omega
        subst hk2
        rw [List.getElem?_append_right (Nat.le_refl _)] at z
        simp at z
        subst z
        refine ⟨D, ?_, hD.1, xs, hH, q⟩
        rw [← R.len, List.getElem?_append_right (Nat.le_refl _)]; simp
    · rw [← R.len, List.getElem?_append_right (Nat.le_refl _)]; simp
end

/-! ### the tests of a clause -/
abbrev W0 : WX := fun _ _ _ _ => False
theorem takes0' {X : Cx} : Takes X W0 := fun _ _ ⟨_, _, _, _, _, _, _, _, _, _, _, _, _, _, _, _, w⟩ => w.elim
theorem al0 {es : Cds} (h : Al xa F X W es []) : es = .n := by
  cases es with
  | n => rfl
  | c c r => obtain ⟨_, _, e, _⟩ := h; cases e
theorem sndF {ifs : List Expr} {fs : Cds} (hl : ifs.length ≤ 1) (al : Al xa F X W fs ifs) : PTs X ifs (ttOf X.K xa W (evb F true fs)) := by
  match ifs, hl with
  | [], _ =>
    have := al0 al
    subst this
    refine ⟨fun pins s σ H Q I ⟨Z, Φ, u, e, m, R, er, p⟩ => pts_nil.run pins s σ H Q I ?_⟩
    simp only [evb] at p
    obtain ⟨b, e1, q⟩ := p Φ u H Ext.refl R
    cases e1
    exact q
  | [c], _ =>
    obtain ⟨d, rfl, h0, h1, h2⟩ := al1 al
    refine ⟨fun pins s σ H Q I ⟨Z, Φ, u, e, m, R, er, p⟩ => (pts_one h2).run pins s σ H Q I ⟨Z, Φ, u, e, m, R, er, ?_⟩⟩
    simp only [evb] at p
    refine p.bind.mono fun x h1 Φ1 u1 H1 x1 R1 ⟨_, _, p1⟩ => ?_
    cases x with
    | r k => exact p1.elim
    | s k => exact p1.elim
    | d x =>
      cases x with
      | bool b =>
        refine ⟨b, rfl, ?_⟩
        have p1 : Po X.K xa _ Z Φ1 u1 (if b == true then Rs.ok (Vl.d (.bool true)) h1 else Rs.ok (Vl.d (.bool b)) h1) _ := p1
        cases b with
        | true => obtain ⟨c, e1, q⟩ := p1 Φ1 u1 H1 Ext.refl R1; cases e1; exact q
        | false => obtain ⟨c, e1, q⟩ := p1 Φ1 u1 H1 Ext.refl R1; cases e1; exact q
      | _ => exact p1.elim
theorem Gd.blk (G : Gd T xa F N n sc X) (s : Shared) (H : Hp) (s2 : Scope) (C : Addr) (cl : List (Str × Addr)) (fp : List Addr) : Gd T xa F N n (relS s2 sc) (X.blk s H s2 (compEnvC s2 cl C X.env) fp) := by
  refine ⟨G.nN, G.nd, ?_, G.calm, G.room, G.gu, G.hb, G.hc, G.hf⟩
  show relS s2 X.env.scope = _
  rw [G.sc]
theorem own_slots {N : List Str} {t : Tg} : (t.own N).map (·.2) = t.slots := by
  simp [Tg.own, Function.comp_def]
end
end Mn

/-! MnK: comprehensions; every expression. -/
namespace Mn
open PySem L2 PySem.Spec PyProof.Rows

theorem dqa_add {K : PySem.W.Frag} {Φ : Hp} {xs : List V} {ds : List PyData} {v : V} {d : PyData} (h : DqAll K Φ xs ds) (q : Dq K Φ v d) : DqAll K Φ (xs ++ [v]) (ds ++ [d]) := dpa_app h (.cons q .nil)
section
variable {K : PySem.W.Frag} {xa : Xa} {F : Nat → List Vl → MH → Rs Vl}
/-- one clause's turns: the items come to the held list at D -/
theorem turns {J : It} {Z Zw Φ1 Hs : Hp} {u1 : List Addr} {h1 hF : MH} {vs : List Vl} {xs r done0 : List PyData} {acc0 : List V} {D : Addr} {t : Tg} {a : Ev → MH → Rs Vl} {fs : Ev → MH → Rs Vl} {e : Ev} {σ : L2.St} {Fin : Hp → Prop}
    (wk : Wk K J Zw Φ1 u1 h1 vs xs) (R : HR K (upd Z D (.lst acc0)) Φ1 u1 Hs h1) (er : ER K Φ1 u1 σ e) (q0 : DqAll K Φ1 acc0 done0) (hl : done0.length + xs.length ≤ 2 ^ 21)
    (hm : mapR (fun h' => same h1 h' vs) (evl a fs t e) xs h1 = .ok r hF)
    (fin : ∀ Φ' u' H' acc, Ext Φ1 u1 Φ' u' → HR K (upd Z D (.lst acc)) Φ' u' H' hF → DqAll K Φ' acc (done0 ++ r) → Fin H') :
    ∃ W : Nat → Nat → Hp → Prop, (∃ m, W 0 m Hs) ∧ ∀ i m H, W i m H →
      (J.stop i H ∧ Fin H) ∨ (J.go i H ∧ ∃ Nx : Hp → Prop, (∀ H', Nx H' → ∃ m', m' < m ∧ W (i + 1) m' H') ∧ ∀ x H', J.yld i H x H' → tgOf K t x (wipe σ t.slots) H' fun σ2 H2 => wipe σ2 t.slots = wipe σ t.slots ∧
        ttOf K xa W0 fs σ2 H2 fun b H3 => if b = true then teOf K xa W0 a σ2 H3 fun y H4 => ∃ acc, H4 D = some (.lst acc) ∧ acc.length < sizeLine ∧ Nx (upd H4 D (.lst (acc ++ [y]))) else Nx H3) := by
  refine ⟨fun i m H => m = xs.length - i ∧ i ≤ xs.length ∧ ∃ Φ' u' h' acc done rest, Ext Φ1 u1 Φ' u' ∧ HR K (upd Z D (.lst acc)) Φ' u' H h' ∧ DqAll K Φ' acc done ∧ done.length ≤ done0.length + i ∧
    mapR (fun h' => same h1 h' vs) (evl a fs t e) (xs.drop i) h' = .ok rest hF ∧ done ++ rest = done0 ++ r,
    ⟨_, rfl, Nat.zero_le _, Φ1, u1, h1, acc0, done0, r, Ext.refl, R, q0, by omega, hm, rfl⟩, ?_⟩
  rintro i m H ⟨rfl, hi, Φ', u', h', acc, done, rest, x1, R1, q1, l1, hm1, hr1⟩
  by_cases hlt : i < xs.length
  · obtain ⟨x, hx⟩ : ∃ x, xs[i]? = some x := ⟨_, List.getElem?_eq_getElem hlt⟩
    have hdrop : xs.drop i = x :: xs.drop (i + 1) := by
      rw [List.drop_eq_getElem_cons hlt]
      have := List.getElem?_eq_getElem hlt
      rw [hx] at this; cases this; rfl
    rw [hdrop] at hm1
    simp only [mapR] at hm1
    split at hm1
    · rename_i hs
      obtain ⟨o, h2, e1, e2⟩ := bind_okE hm1
      obtain ⟨rr, h3, e3, e4⟩ := bind_okE e2
      obtain ⟨w1, w2⟩ := wk _ Φ' u' H h' x1 R1 hs
      obtain ⟨w3, w4⟩ := w1 i x hx
      refine .inr ⟨w3, fun H' => i + 1 ≤ xs.length ∧ ∃ Φ' u' h' acc done rest, Ext Φ1 u1 Φ' u' ∧ HR K (upd Z D (.lst acc)) Φ' u' H' h' ∧ DqAll K Φ' acc done ∧ done.length ≤ done0.length + (i + 1) ∧
        mapR (fun h' => same h1 h' vs) (evl a fs t e) (xs.drop (i + 1)) h' = .ok rest hF ∧ done ++ rest = done0 ++ r, fun H' ⟨g1, g⟩ => ⟨xs.length - (i + 1), by omega, rfl, g1, g⟩, fun v H' hy => ?_⟩
      obtain ⟨Φ2, n2, hv⟩ := w4 v H' hy
      have R2 := R1.new n2
      have X2 : Ext Φ' u' Φ2 u' := ⟨n2.le, List.prefix_refl _⟩
      unfold evl at e1
      split at e1
      · rename_i e' he'
        obtain ⟨b, h4, e5, e6⟩ := bind_okE e1
        refine ⟨upd Z D (.lst acc), Φ2, u', wpE e t.slots, h', .d x, e', R2, (er_wipe (er.mono (x1.trans X2)) t.slots), hv, by rw [wp_setT]; exact he', fun σ2 er2 hout hlen => ⟨?_, ?_⟩⟩
        · have := wipe_same (σ := wipe σ t.slots) (σ2 := σ2) (vs := t.slots) hout hlen
          rw [this]
          apply List.ext_getElem?
          intro k
          rw [wipe_get, wipe_get]
          by_cases hk : k ∈ t.slots
          · rw [if_pos hk, if_pos hk]; cases σ[k]? <;> rfl
          · rw [if_neg hk, if_neg hk]
        · refine ⟨upd Z D (.lst acc), Φ2, u', e', h', R2, er2 Φ2 u' Ext.refl, ?_⟩
          rw [e5]
          intro Φ3 u3 H3 x3 R3
          cases b with
          | r k => cases e6
          | s k => cases e6
          | d b =>
            cases b with
            | bool b =>
              refine ⟨b, rfl, ?_⟩
              cases b with
              | true =>
                have e6 : ((a e' h4).bind fun y h3 => match y with | .d y => Rs.ok (some y) h3 | _ => .no) = .ok o h2 := e6
                obtain ⟨y, h5, e7, e8⟩ := bind_okE e6
                cases y with
                | r k => cases e8
                | s k => cases e8
                | d y =>
                  cases e8
                  rw [if_pos rfl]
                  refine ⟨upd Z D (.lst acc), Φ3, u3, e', h4, R3, er2 Φ3 u3 x3, ?_⟩
                  rw [e7]
                  intro Φ4 u4 H4 x4 R4 v4 hv4
                  have X4 := (x1.trans X2).trans (x3.trans x4)
                  refine ⟨acc, R4.held, ?_, by omega, Φ4, u4, _, acc ++ [v4], done ++ [y], rr, X4, R4.rehold, dqa_add (dpa_mono (X2.trans (x3.trans x4)).le _ _ q1) hv4, ?_, ?_, ?_⟩
                  · rw [dpa_len q1, sizeLine_eq]; omega
                  · simp only [List.length_append, List.length_singleton]; omega
                  · cases e4; exact e3
                  · cases e4; rw [← hr1]; simp
              | false =>
                have e6 : Rs.ok (none : Option PyData) h4 = .ok o h2 := e6
                cases e6
                rw [if_neg Bool.false_ne_true]
                refine ⟨by omega, Φ3, u3, _, acc, done, rr, (x1.trans X2).trans x3, R3, dpa_mono (X2.trans x3).le _ _ q1, by omega, ?_, ?_⟩
                · cases e4; exact e3
                · cases e4; exact hr1
            | _ => cases e6
      · cases e1
    · cases hm1
  · have hie : i = xs.length := by omega
    subst hie
    rw [List.drop_length] at hm1
    simp only [mapR] at hm1
    split at hm1
    · rename_i hs
      cases hm1
      rw [List.append_nil] at hr1
      subst hr1
      obtain ⟨w1, w2⟩ := wk _ Φ' u' H hF x1 R1 hs
      exact .inl ⟨w2, fin Φ' u' H acc x1 R1 q1⟩
    · cases hm1
theorem lc_te {W : WX} {m : Bool} {a : Cd} {t : Tg} {k : Ik} {es fs : Cds} {σ : L2.St} {H : Hp} {Q : VK} (h : teOf K xa W (ev F (.lc m a t k es fs)) σ H Q) :
    tLc (tiOf K xa W k (evs F es)) (tgOf K t) (ttOf K xa W0 (evb F true fs)) (teOf K xa W0 (ev F a)) t.slots σ H Q := by
  obtain ⟨Z, Φ, u, e, h, R, er, p⟩ := h
  simp only [ev] at p
  refine ⟨Z, Φ, u, e, h, R, er, p.bind.mono fun vs h1 Φ1 u1 H1 _ _ ⟨x1, R1, p1⟩ => ?_⟩
  split at p1
  · rename_i xs hxs
    refine ⟨xs, hxs, fun J wk D hD => ?_⟩
    split at p1
    · rename_i hlim
      have hlim : xs.length ≤ 2 ^ 20 := of_decide_eq_true hlim
      cases hm : mapR (fun h' => same h1 h' vs) (evl (ev F a) (evb F true fs) t e) xs h1 with
      | ex c d h' => rw [hm] at p1; exact p1.elim
      | no => rw [hm] at p1; exact p1.elim
      | ok r hF =>
        rw [hm] at p1
        have nD : Z D = none := none_sub R1.rs hD
        exact turns (acc0 := []) (done0 := []) wk (R1.hold hD) (er.mono x1) .nil (by simp; omega) hm fun Φ' u' H' acc x2 R2 q2 => R2.give nD q2 (Po.ext p1 x2)
    · exact p1.elim
  · exact p1.elim
/-- two clauses -/
theorem l2_te {W : WX} {T : Tt} {N : List Str} {m : Bool} {a : Cd} {t t1 : Tg} {k k1 : Ik} {es es1 fs : Cds} {σ : L2.St} {H : Hp} {Q : VK} (ap : ∀ i ∈ t.slots, i ∉ t1.slots) (h : teOf K xa W (ev F (.l2 m a t k es t1 k1 es1 fs)) σ H Q) :
    tLc2 (tiOf K xa W k (evs F es)) (tgOf K t) tYes (tiOf K xa W0 k1 (evs F es1)) (tgOf K t1) (ttOf K xa W0 (evb F true fs)) (teOf K xa W0 (ev F a)) (t.slots ++ t1.slots) t1.slots σ H Q := by
  obtain ⟨Z, Φ, u, e, h, R, er, p⟩ := h
  simp only [ev] at p
  refine ⟨Z, Φ, u, e, h, R, er, p.bind.mono fun vs h1 Φ1 u1 H1 _ _ ⟨x1, R1, p1⟩ => ?_⟩
  split at p1
  · rename_i xs hxs
    refine ⟨xs, hxs, fun J wk D hD => ?_⟩
    split at p1
    · rename_i hlim
      have hlim : xs.length ≤ 2 ^ 20 := of_decide_eq_true hlim
      generalize hf : (fun (x : PyData) (h' : MH) => match setT t (.d x) (wpE e t1.slots) with
        | some e' => (evs F es1 e' h').bind fun vs1 h2 => match itV h2 k1 vs1 with
          | some ys => if lim ys then mapR (fun h' => same h2 h' vs1) (evl (ev F a) (evb F true fs) t1 e') ys h2 else .no
          | none => .no
        | none => .no) = f at p1
      cases hm : flatR (fun h' => same h1 h' vs) f 0 xs h1 with
      | ex c d h' => rw [hm] at p1; exact p1.elim
      | no => rw [hm] at p1; exact p1.elim
      | ok r hF =>
        rw [hm] at p1
        have nD : Z D = none := none_sub R1.rs hD
        refine ⟨fun i m H => m = xs.length - i ∧ i ≤ xs.length ∧ ∃ Φ' u' h' acc done rest, Ext Φ1 u1 Φ' u' ∧ HR K (upd Z D (.lst acc)) Φ' u' H h' ∧ DqAll K Φ' acc done ∧ done.length ≤ 2 ^ 20 ∧
          flatR (fun h' => same h1 h' vs) f done.length (xs.drop i) h' = .ok rest hF ∧ done ++ rest = r,
          ⟨_, rfl, Nat.zero_le _, Φ1, u1, h1, [], [], r, Ext.refl, R1.hold hD, .nil, by simp, hm, rfl⟩, ?_⟩
        rintro i m H ⟨rfl, hi, Φ', u', h', acc, done, rest, x2, R2, q2, l2, hm1, hr1⟩
        by_cases hlt : i < xs.length
        · obtain ⟨x, hx⟩ : ∃ x, xs[i]? = some x := ⟨_, List.getElem?_eq_getElem hlt⟩
          have hdrop : xs.drop i = x :: xs.drop (i + 1) := by
            rw [List.drop_eq_getElem_cons hlt]
            have := List.getElem?_eq_getElem hlt
            rw [hx] at this; cases this; rfl
          rw [hdrop] at hm1
          simp only [flatR] at hm1
          split at hm1
          · rename_i hs
            obtain ⟨o, h2, e1, e2⟩ := bind_okE hm1
            split at e2
            · rename_i hlo
              obtain ⟨rr, h3, e3, e4⟩ := bind_okE e2
              cases e4
              obtain ⟨w1, w2⟩ := wk _ Φ' u' H h' x2 R2 hs
              obtain ⟨w3, w4⟩ := w1 i x hx
              refine .inr ⟨w3, fun H' => i + 1 ≤ xs.length ∧ ∃ Φ' u' h' acc done rest, Ext Φ1 u1 Φ' u' ∧ HR K (upd Z D (.lst acc)) Φ' u' H' h' ∧ DqAll K Φ' acc done ∧ done.length ≤ 2 ^ 20 ∧
                flatR (fun h' => same h1 h' vs) f done.length (xs.drop (i + 1)) h' = .ok rest hF ∧ done ++ rest = r, fun H' ⟨g1, g⟩ => ⟨xs.length - (i + 1), by omega, rfl, g1, g⟩, fun v H' hy => ?_⟩
              obtain ⟨Φ2, n2, hv⟩ := w4 v H' hy
              have R3 := R2.new n2
              have X3 : Ext Φ' u' Φ2 u' := ⟨n2.le, List.prefix_refl _⟩
              rw [← hf] at e1
              simp only at e1
              split at e1
              · rename_i e' he'
                obtain ⟨vs1, h4, e5, e6⟩ := bind_okE e1
                split at e6
                · rename_i ys hys
                  split at e6
                  · rename_i hlim1
                    have hlim1 : ys.length ≤ 2 ^ 20 := of_decide_eq_true hlim1
                    have erw : ER K Φ2 u' (wipe σ (t.slots ++ t1.slots)) (wpE e (t.slots ++ t1.slots)) := er_wipe (er.mono ((x1.trans x2).trans X3)) _
                    have wsp : ∀ (e : Ev) (l1 l2 : List Nat), wpE e (l1 ++ l2) = wpE (wpE e l2) l1 := by
                      intro e l1 l2
                      induction l1 with
                      | nil => rfl
                      | cons v l ih => show (wpE e (l ++ l2)).set v none = _; rw [ih]; rfl
                    refine ⟨upd Z D (.lst acc), Φ2, u', wpE e (t.slots ++ t1.slots), h', .d x, e', R3, erw, hv, by rw [wsp, wp_setT]; exact he', fun σ2 er2 hout hlen => ⟨?_, ?_⟩⟩
                    · have hb : ∀ i, i ∉ t.slots ++ t1.slots → σ2[i]? = (wipe σ (t.slots ++ t1.slots))[i]? := fun i hi => hout i fun z => hi (List.mem_append_left _ z)
                      have := wipe_same (σ := wipe σ (t.slots ++ t1.slots)) (σ2 := σ2) (vs := t.slots ++ t1.slots) hb hlen
                      rw [this]
                      apply List.ext_getElem?
                      intro k
                      rw [wipe_get, wipe_get]
                      by_cases hk : k ∈ t.slots ++ t1.slots
                      · rw [if_pos hk, if_pos hk]; cases σ[k]? <;> rfl
                      · rw [if_neg hk, if_neg hk]
                    · refine ⟨upd Z D (.lst acc), Φ2, u', e', h', R3, er2 Φ2 u' Ext.refl, ?_⟩
                      rw [e5]
                      intro Φ4 u4 H4 x4 R4
                      refine ⟨ys, hys, fun J1 wk1 => ?_⟩
                      refine turns (done0 := done) wk1 R4 (er2 Φ4 u4 x4) (dpa_mono (X3.trans x4).le _ _ q2) (by omega) e6 fun Φ5 u5 H5 acc5 x5 R5 q5 => ?_
                      refine ⟨by omega, Φ5, u5, _, acc5, done ++ o, rr, ((x2.trans X3).trans x4).trans x5, R5, q5, by rw [List.length_append]; exact hlo, by rw [List.length_append]; exact e3, ?_⟩
                      rw [← hr1]; simp
                  · cases e6
                · cases e6
              · cases e1
            · cases e2
          · cases hm1
        · have hie : i = xs.length := by omega
          subst hie
          rw [List.drop_length] at hm1
          simp only [flatR] at hm1
          split at hm1
          · rename_i hs
            cases hm1
            rw [List.append_nil] at hr1
            subst hr1
            obtain ⟨w1, w2⟩ := wk _ Φ' u' H hF x2 R2 hs
            exact .inl ⟨w2, R2.give nD q2 (Po.ext p1 x2)⟩
          · cases hm1
    · exact p1.elim
  · exact p1.elim
end
end Mn

/-! MnL: EVERY expression. -/
namespace Mn
open PySem L2 PySem.Spec PyProof.Rows

section
variable {T : Tt} {xa : Xa} {F : Nat → List Vl → MH → Rs Vl} {N : List Str} {n : Nat} {sc : Scope} {X : Cx} {W : WX}
theorem pt_fi {c a b : Expr} {pos : Pos} {tc ta tb : TT} (hc : PT X c tc) (ha : PT X a ta) (hb : PT X b tb) : PT X (.IfExp c a b pos) fun σ H Q => tc σ H fun t H1 => if t = true then ta σ H1 Q else tb σ H1 Q := by
  constructor
  intro pins s σ H Q I h
  refine isTrue_IfExp (thn (hc.run pins s σ H _ I h) fun d s1 ⟨H1, I1, q1⟩ => ?_)
  cases d with
  | true => exact ha.run pins s1 σ H1 Q I1 q1
  | false => exact hb.run pins s1 σ H1 Q I1 q1
/-- a test's outcome, then the rest -/
theorem tt_then {K : PySem.W.Frag} {f : Ev → MH → Rs Vl} {g : Bool → Ev → MH → Rs Vl} {σ : L2.St} {H : Hp} {Qx : Vl → MH → Hp → List Addr → Hp → Prop} {R : Bool → Hp → Prop}
    (h : ∃ Z Φ u e h, HR K Z Φ u H h ∧ ER K Φ u σ e ∧ Po K xa (fun cl dd H => W cl dd σ H) Z Φ u ((f e h).bind (Vl.tt fun b h1 => g b e h1)) Qx)
    (k : ∀ b H', (∃ Z Φ u e h, HR K Z Φ u H' h ∧ ER K Φ u σ e ∧ Po K xa (fun cl dd H => W cl dd σ H) Z Φ u (g b e h) Qx) → R b H') : ttOf K xa W f σ H R := by
  obtain ⟨Z, Φ, u, e, h, R0, er, p⟩ := h
  refine ⟨Z, Φ, u, e, h, R0, er, p.bind.mono fun x h1 Φ1 u1 H1 _ _ ⟨x1, R1, p1⟩ => ?_⟩
  cases x with
  | r k => exact p1.elim
  | s k => exact p1.elim
  | d x =>
    cases x with
    | bool b => exact ⟨b, rfl, k b H1 ⟨Z, Φ1, u1, e, h1, R1, er.mono x1, p1⟩⟩
    | _ => exact p1.elim
theorem te_then {K : PySem.W.Frag} {f : Ev → MH → Rs Vl} {g : Bool → Ev → MH → Rs Vl} {σ : L2.St} {H : Hp} {Qx : Vl → MH → Hp → List Addr → Hp → Prop} {R : Bool → Hp → Prop}
    (h : ∃ Z Φ u e h, HR K Z Φ u H h ∧ ER K Φ u σ e ∧ Po K xa (fun cl dd H => W cl dd σ H) Z Φ u ((f e h).bind (Vl.tt fun b h1 => g b e h1)) Qx)
    (k : ∀ b H', (∃ Z Φ u e h, HR K Z Φ u H' h ∧ ER K Φ u σ e ∧ Po K xa (fun cl dd H => W cl dd σ H) Z Φ u (g b e h) Qx) → R b H') : teOf K xa W f σ H fun x H1 => ∃ c, x = .bl c ∧ R c H1 :=
  tt_te (tt_then h k)
theorem pw_of {op : BoolOp} {a : Expr} {as : List Expr} {pos : Pos} {t : TT} (h : PW X (.BoolOp op (a :: as) pos) t) : PT X (.BoolOp op (a :: as) pos) t := h.pt
theorem pw_imp {e : Expr} {t t' : TT} (h : PW X e t) (i : ∀ σ H Q, t' σ H Q → t σ H Q) : PW X e t' := ⟨fun wh pins s σ H Q I q => h.run wh pins s σ H Q I (i σ H Q q)⟩
def bop : Bool → BoolOp
  | true => .And
  | false => .Or
theorem sndB {pos : Pos} (w : Bool) : ∀ {as : List Expr} {es : Cds}, as ≠ [] → Al xa F X W es as → PE X (.BoolOp (bop w) as pos) (teOf X.K xa W (evb F w es)) ∧ PW X (.BoolOp (bop w) as pos) (ttOf X.K xa W (evb F w es))
  | [], _, h, _ => absurd rfl h
  | [a], es, _, al => by
    obtain ⟨c, rfl, h0, h1, h2⟩ := al1 al
    constructor
    · refine pe_imp (pe_one h1) fun σ H Q ⟨Z, Φ, u, e, h, R, er, p⟩ => ?_
      simp only [evb] at p
      refine te_mono (te_then (g := fun b e h1 => if (b == w) = true then .ok (.d (.bool w)) h1 else .ok (.d (.bool b)) h1) (R := fun b H => Q (.bl b) H) ⟨Z, Φ, u, e, h, R, er, p⟩ fun b H' ⟨Z, Φ, u, e, h, R, er, p⟩ => ?_) fun v H1 ⟨c, e1, q⟩ => by subst e1; exact q
      try dsimp only at p
      split at p
      · rename_i hb
        have hb : b = w := by simpa using hb
        subst hb
        exact p Φ u H' Ext.refl R (.bl b) (.bl b)
      · exact p Φ u H' Ext.refl R (.bl b) (.bl b)
    · have key : ∀ σ H Q, ttOf X.K xa W (evb F w (.c c .n)) σ H Q → ttOf X.K xa W (ev F c) σ H Q := fun σ H Q ⟨Z, Φ, u, e, h, R, er, p⟩ => by
        simp only [evb] at p
        refine tt_then (g := fun b e h1 => if (b == w) = true then .ok (.d (.bool w)) h1 else .ok (.d (.bool b)) h1) ⟨Z, Φ, u, e, h, R, er, p⟩ fun b H' ⟨Z, Φ, u, e, h, R, er, p⟩ => ?_
        try dsimp only at p
        split at p
        · rename_i hb
          have hb : b = w := by simpa using hb
          subst hb
          obtain ⟨c, e1, q⟩ := p Φ u H' Ext.refl R
          cases e1; exact q
        · obtain ⟨c, e1, q⟩ := p Φ u H' Ext.refl R
          cases e1; exact q
      cases w with
      | true => exact pw_imp (pw_and1 h2) key
      | false => exact pw_imp (pw_or1 h2) key
  | a :: b :: as, es, _, al => by
    cases es with
    | n => cases al
    | c c r =>
      obtain ⟨e, es, e1, h0, h1, h2, h3⟩ := al
      cases e1
      obtain ⟨g1, g2⟩ := sndB w (as := b :: as) (pos := pos) (by simp) h3
      constructor
      · have key : ∀ σ H Q, teOf X.K xa W (evb F w (.c c r)) σ H Q → teOf X.K xa W (ev F c) σ H fun x H1 => ∃ d, x = .bl d ∧ if (d == w) = true then teOf X.K xa W (evb F w r) σ H1 Q else Q (.bl d) H1 := fun σ H Q ⟨Z, Φ, u, e, h, R, er, p⟩ => by
          simp only [evb] at p
          refine te_then (g := fun b e h1 => if (b == w) = true then evb F w r e h1 else .ok (.d (.bool b)) h1) (R := fun d H1 => if (d == w) = true then teOf X.K xa W (evb F w r) σ H1 Q else Q (.bl d) H1) ⟨Z, Φ, u, e, h, R, er, p⟩ fun b H' ⟨Z, Φ, u, e, h, R, er, p⟩ => ?_
          try dsimp only at p
          by_cases hb : (b == w) = true
          · rw [if_pos hb] at p ⊢
            exact ⟨Z, Φ, u, e, h, R, er, p⟩
          · rw [if_neg hb] at p ⊢
            exact p Φ u H' Ext.refl R (.bl b) (.bl b)
        cases w with
        | true =>
          refine pe_imp (pe_and h1 g1) fun σ H Q q => te_mono (key σ H Q q) fun v H1 ⟨d, e1, q⟩ => ⟨d, e1, ?_⟩
          cases d with
          | true => exact q
          | false => exact q
        | false =>
          refine pe_imp (pe_or h1 g1) fun σ H Q q => te_mono (key σ H Q q) fun v H1 ⟨d, e1, q⟩ => ⟨d, e1, ?_⟩
          cases d with
          | true => exact q
          | false => exact q
      · have key : ∀ σ H Q, ttOf X.K xa W (evb F w (.c c r)) σ H Q → ttOf X.K xa W (ev F c) σ H fun d H1 => if (d == w) = true then ttOf X.K xa W (evb F w r) σ H1 Q else Q d H1 := fun σ H Q ⟨Z, Φ, u, e, h, R, er, p⟩ => by
          simp only [evb] at p
          refine tt_then (g := fun b e h1 => if (b == w) = true then evb F w r e h1 else .ok (.d (.bool b)) h1) ⟨Z, Φ, u, e, h, R, er, p⟩ fun b H' ⟨Z, Φ, u, e, h, R, er, p⟩ => ?_
          try dsimp only at p
          by_cases hb : (b == w) = true
          · rw [if_pos hb] at p ⊢
            exact ⟨Z, Φ, u, e, h, R, er, p⟩
          · rw [if_neg hb] at p ⊢
            obtain ⟨c, e1, q⟩ := p Φ u H' Ext.refl R
            cases e1; exact q
        have mono : ∀ {σ H} {Q Q' : Bool → Hp → Prop}, ttOf X.K xa W (ev F c) σ H Q → (∀ b H, Q b H → Q' b H) → ttOf X.K xa W (ev F c) σ H Q' := fun {σ H Q Q'} ⟨Z, Φ, u, e, h, R, er, p⟩ i =>
          ⟨Z, Φ, u, e, h, R, er, p.mono fun x h1 Φ1 u1 H1 _ _ ⟨b, e1, q⟩ => ⟨b, e1, i _ _ q⟩⟩
        cases w with
        | true =>
          refine pw_imp (pw_and h2 g2) fun σ H Q q => mono (key σ H Q q) fun d H1 q => ?_
          cases d with
          | true => exact q
          | false => exact q
        | false =>
          refine pw_imp (pw_or h2 g2) fun σ H Q q => mono (key σ H Q q) fun d H1 q => ?_
          cases d with
          | true => exact q
          | false => exact q

/-! ### comparisons in a row -/
theorem ch_te {K : PySem.W.Frag} {f g : Pf} {a b c : Cd} {r r' : R2}
    (S : ∀ Φ H x y d d' e Q, Le Φ H → Sn K Φ H x d → Sn K Φ H y d' → pf f [d, d'] = some e → OutP (fresh f) K Φ H e Q → r x y H Q)
    (S' : ∀ Φ H x y d d' e Q, Le Φ H → Sn K Φ H x d → Sn K Φ H y d' → pf g [d, d'] = some e → OutP (fresh g) K Φ H e Q → r' x y H Q) (hf : fresh f = false) (hg : fresh g = false)
    (σ : L2.St) (H : Hp) (Q : VK) (h : teOf K xa W (ev F (.ch f g a b c)) σ H Q) : tChain r r' (teOf K xa W (ev F a)) (teOf K xa W (ev F b)) (teOf K xa W (ev F c)) σ H Q := by
  obtain ⟨Z, Φ, u, e, h, R, er, p⟩ := h
  simp only [ev] at p
  refine ⟨Z, Φ, u, e, h, R, er, p.bind.mono fun x h1 Φ1 u1 H1 _ _ ⟨x1, R1, p1⟩ v hv => ⟨Z, Φ1, u1, e, h1, R1, er.mono x1, ?_⟩⟩
  refine p1.bind.mono fun y h2 Φ2 u2 H2 _ _ ⟨x2, R2, p2⟩ w hw => ?_
  split at p2
  · rename_i dx dy e1 e2
    have hx := snap_sn R2 (hv.mono x2) e1
    have hy := snap_sn R2 hw e2
    split at p2
    · rename_i e3
      refine S Φ2 H2 v w dx dy _ _ R2.sub hx hy e3 ?_
      rw [hf]
      intro Φ3 H3 z n3 hz
      cases hz
      refine ⟨true, rfl, ?_⟩
      rw [if_pos rfl]
      have X3 : Ext Φ2 u2 Φ3 u2 := ⟨n3.le, List.prefix_refl _⟩
      refine ⟨Z, Φ3, u2, e, h2, R2.new n3, ((er.mono x1).mono x2).mono X3, (Po.ext p2 X3).bind.mono fun z h3 Φ4 u4 H4 _ _ ⟨x4, R4, p4⟩ t ht => ?_⟩
      split at p4
      · rename_i dy dz e4 e5
        split at p4
        · rename_i o e6
          have p4 : Po K xa _ Z Φ4 u4 (mkR false (fresh g) o h3) _ := p4
          refine S' Φ4 H4 w t _ _ o Q R4.sub (snap_sn R4 (hw.mono (X3.trans x4)) e4) (snap_sn R4 ht e5) e6 ?_
          exact mkR_out R4 p4
        · exact p4.elim
      · exact p4.elim
    · rename_i e3
      refine S Φ2 H2 v w dx dy _ _ R2.sub hx hy e3 ?_
      rw [hf]
      intro Φ3 H3 z n3 hz
      cases hz
      refine ⟨false, rfl, ?_⟩
      rw [if_neg Bool.false_ne_true]
      exact p2 Φ3 u2 H3 ⟨n3.le, List.prefix_refl _⟩ (R2.new n3) (.bl false) (.bl false)
    · exact p2.elim
  · exact p2.elim
theorem cmp_rule (G : Gd T xa F N n sc X) {f : Pf} {o : CmpOp} (h : cmpIs f o = true) : (∃ r, OpR X (compareOp o) r ∧ S2 X f r) ∧ fresh f = false ∧ o ≠ .In ∧ o ≠ .NotIn := by
  have hun := G.room.un
  unfold cmpIs at h
  split at h
  · exact ⟨s2_lt (by omega), rfl, by decide, by decide⟩
  · exact ⟨s2_le (by omega), rfl, by decide, by decide⟩
  · exact ⟨s2_gt (by omega), rfl, by decide, by decide⟩
  · exact ⟨s2_ge (by omega), rfl, by decide, by decide⟩
  · cases h
theorem cst_te {c : Const} {d : PyData} (h : cst c d = true) {k : Nat} {pos : Pos} : PE X (.Constant c k pos) (teOf X.K xa W (ev F (.k d))) := by
  have go : ∀ v, (∀ Φ, Dq X.K Φ v d) → ∀ σ H Q, teOf X.K xa W (ev F (.k d)) σ H Q → tC v σ H Q := fun v hv σ H Q ⟨Z, Φ, u, e, h, R, er, p⟩ => p Φ u H Ext.refl R v (hv Φ)
  unfold cst at h
  split at h
  · exact pe_imp pe_non (go _ fun _ => .non)
  · have h := eq_of_beq h; subst h; exact pe_imp pe_bl (go _ fun _ => .bl _)
  · have h := of_decide_eq_true h; subst h; exact pe_imp pe_int (go _ fun _ => .int _)
  · have h := of_decide_eq_true h; subst h; exact pe_imp pe_str (go _ fun _ => .str _)
  · cases h
theorem okN_of {x : Str} (h : okN x = true) : (x == ("__debug__" : Str)) = false ∧ (x == ("__classdict__" : Str)) = false ∧ x ≠ "__name__" := by
  simp only [okN, Bool.and_eq_true, Bool.not_eq_true', decide_eq_false_iff_not] at h
  exact ⟨h.1.1, h.1.2, h.2⟩
theorem vis_of (G : Gd T xa F N n sc X) {x : Str} (h : vis sc x = true) : Vis X.env.scope x := by
  rw [G.sc]
  unfold vis at h
  split at h
  · exact .inl (by assumption)
  · exact .inr (.inl (by assumption))
  · exact .inr (.inr (by assumption))
  · cases h
theorem evs_len : ∀ {es : Cds} {e : Ev} {h h' : MH} {xs : List Vl} {as : List Expr}, evs F es e h = .ok xs h' → Al xa F X W es as → xs.length = as.length
  | .n, e, h, h', xs, as, q, al => by simp only [evs] at q; cases q; cases al; rfl
  | .c c r, e, h, h', xs, as, q, al => by
    obtain ⟨e1, es, rfl, _, _, _, al'⟩ := al
    simp only [evs] at q
    obtain ⟨a, h1, q1, q2⟩ := bind_okE q
    obtain ⟨b, h2, q3, q4⟩ := bind_okE q2
    cases q4
    simp [evs_len q3 al']
/-- EVERY EXPRESSION -/
theorem noBase_of {a : Expr} (h : noBase a = true) (f : Str) (env : Env) : attributeBase a f env (eval a env) = eval a env := by
  cases a <;> first | rfl | (simp [noBase] at h)
end
section
variable {T : Tt} {xa : Xa} {F : Nat → List Vl → MH → Rs Vl} {N : List Str} {n : Nat}
mutual
theorem sndE : ∀ (c : Cd) {X : Cx} {W : WX} {sc : Scope} {e : Expr}, Gd T xa F N n sc X → Takes X W → chkE T N c sc e = true → PE X e (teOf X.K xa W (ev F c)) ∧ PT X e (ttOf X.K xa W (ev F c))
  | .v i, X, W, sc, e, G, tk, h => by
    unfold chkE at h
    split at h
    · rename_i x p
      simp only [Bool.and_eq_true, decide_eq_true_eq] at h
      obtain ⟨⟨h1, h2⟩, h3⟩ := h
      obtain ⟨o1, o2, o3⟩ := okN_of h3
      refine both (pe_imp (pe_var (i := i) (by rw [G.nN]; exact h1) (vis_of G h2) o1 o2) fun σ H Q ⟨Z, Φ, u, e, m, R, er, p⟩ => ?_) rfl
      simp only [ev] at p
      split at p
      · rename_i y hy
        obtain ⟨v, g1, g2⟩ := er.at_ i y hy
        exact ⟨v, g1, p Φ u H Ext.refl R v g2⟩
      · exact p.elim
    · cases h
  | .k d, X, W, sc, e, G, tk, h => by
    unfold chkE at h
    split at h
    · exact both (cst_te h) rfl
    · cases h
  | .g x d, X, W, sc, e, G, tk, h => by
    unfold chkE at h
    split at h
    · rename_i y p
      simp only [Bool.and_eq_true, decide_eq_true_eq, List.any_eq_true] at h
      obtain ⟨⟨⟨rfl, h2⟩, h3⟩, ⟨z, d'⟩, h4, h5, h6⟩ := h
      have h5 : z = y := h5
      subst h5
      have h6 := beqD_eq _ _ h6
      have h6 : d' = d := h6
      subst h6
      obtain ⟨u, v, g1, g2, g3⟩ := G.hc _ h4
      obtain ⟨o1, o2, o3⟩ := okN_of h3
      refine both (pe_imp (pe_glob (gl_of G h2) g1 g2 o1) fun σ H Q ⟨Z, Φ, u, e, m, R, er, p⟩ => ?_) rfl
      simp only [ev] at p
      exact p Φ u H Ext.refl R v (dq_mono (fun a o q => by cases q) _ _ g3)
    · cases h
  | .p m f es, X, W, sc, e, G, tk, h => by
    unfold chkE at h
    split at h
    · rename_i as h1
      exact sndP G tk h1 (sndEs es G tk h)
    · cases h
  | .s3 m a b c, X, W, sc, e, G, tk, h => by
    unfold chkE at h
    split at h
    · rename_i x y z p1 p2
      simp only [Bool.and_eq_true] at h
      obtain ⟨⟨h1, h2⟩, h3⟩ := h
      obtain ⟨r, g1, g2⟩ := ss_any (X := X)
      refine both (pe_imp (pe_slice g1 (sndE a G tk h1).1 (po_some (sndE b G tk h2).1) (po_some (sndE c G tk h3).1)) fun σ H Q ⟨Z, Φ, u, e, h, R, er, p⟩ => ?_) rfl
      simp only [ev] at p
      refine ⟨Z, Φ, u, e, h, R, er, p.bind.mono fun x h1 Φ1 u1 H1 _ _ ⟨x1, R1, p1⟩ v hv => ⟨Z, Φ1, u1, e, h1, R1, er.mono x1, ?_⟩⟩
      refine p1.bind.mono fun y h2 Φ2 u2 H2 _ _ ⟨x2, R2, p2⟩ w hw => ?_
      split at p2
      · rename_i i _
        have hw : Dq X.K Φ2 w (.int i) := hw
        cases hw
        refine ⟨i, rfl, Z, Φ2, u2, e, h2, R2, (er.mono x1).mono x2, p2.bind.mono fun z h3 Φ3 u3 H3 _ _ ⟨x3, R3, p3⟩ t ht => ?_⟩
        split at p3
        · rename_i dx dz e1 e2
          split at p3
          · rename_i o e3
            have hx := snap_sn R3 (hv.mono (x2.trans x3)) e1
            have hz := snap_sn R3 ht e2
            cases dz <;> simp only [pf] at e3 <;> try (cases e3; done)
            exact ⟨_, hz.int, g2 Φ3 H3 v dx _ _ o Q R3.sub hx e3 (mkR_out R3 p3)⟩
          · exact p3.elim
        · exact p3.elim
      · exact p2.elim
    · cases h
  | .ch f g a b c, X, W, sc, e, G, tk, h => by
    unfold chkE at h
    split at h
    · rename_i l o q m r pos
      simp only [Bool.and_eq_true] at h
      obtain ⟨⟨⟨⟨h1, h2⟩, h3⟩, h4⟩, h5⟩ := h
      obtain ⟨⟨r1, k1, k2⟩, k3, _, _⟩ := cmp_rule G h1
      obtain ⟨⟨r2, l1, l2⟩, l3, l4, l5⟩ := cmp_rule G h2
      have hm : lastMarks [o, q] [m, r] = false := by
        show behindInMarks q r = false
        exact nomark r l4 l5
      have key := ch_te (xa := xa) (F := F) (W := W) (a := a) (b := b) (c := c) k2 l2 k3 l3
      exact ⟨pe_imp (pe_chain k1 l1 (sndE a G tk h3).1 (sndE b G tk h4).1 (sndE c G tk h5).1 hm) key, pt_imp (pt_chain k1 l1 (sndE a G tk h3).1 (sndE b G tk h4).1 (sndE c G tk h5).1 hm) fun σ H Q q => key σ H _ (tt_te q)⟩
    · cases h
  | .nt a, X, W, sc, e, G, tk, h => by
    unfold chkE at h
    split at h
    · rename_i x p
      obtain ⟨g1, g2⟩ := sndE a G tk h
      constructor
      · refine pe_imp (pe_not g1) fun σ H Q ⟨Z, Φ, u, e, m, R, er, p⟩ => ?_
        simp only [ev] at p
        refine te_then (g := fun b e h1 => .ok (.d (.bool (!b))) h1) (R := fun c H1 => Q (.bl (!c)) H1) ⟨Z, Φ, u, e, m, R, er, p⟩ fun b H' ⟨Z, Φ, u, e, m, R, er, p⟩ => ?_
        exact p Φ u H' Ext.refl R (.bl _) (.bl _)
      · refine pt_imp (pt_not g2) fun σ H Q ⟨Z, Φ, u, e, m, R, er, p⟩ => ?_
        simp only [ev] at p
        refine tt_then (g := fun b e h1 => .ok (.d (.bool (!b))) h1) ⟨Z, Φ, u, e, m, R, er, p⟩ fun b H' ⟨Z, Φ, u, e, m, R, er, p⟩ => ?_
        obtain ⟨c, e1, q⟩ := p Φ u H' Ext.refl R
        cases e1; exact q
    · cases h
  | .bo w es, X, W, sc, e, G, tk, h => by
    have q : ev F (.bo w es) = evb F w es := by funext e h; rw [ev]
    rw [q]
    unfold chkE at h
    split at h
    · rename_i as p
      simp only [Bool.and_eq_true, Bool.not_eq_true'] at h
      obtain ⟨⟨rfl, h2⟩, h3⟩ := h
      obtain ⟨g1, g2⟩ := sndB (pos := p) true (by intro z; subst z; cases h2) (sndEs es G tk h3)
      exact ⟨g1, g2.pt⟩
    · rename_i as p
      simp only [Bool.and_eq_true, Bool.not_eq_true'] at h
      obtain ⟨⟨rfl, h2⟩, h3⟩ := h
      obtain ⟨g1, g2⟩ := sndB (pos := p) false (by intro z; subst z; cases h2) (sndEs es G tk h3)
      exact ⟨g1, g2.pt⟩
    · cases h
  | .fi c a b, X, W, sc, e, G, tk, h => by
    unfold chkE at h
    split at h
    · rename_i t x y p
      simp only [Bool.and_eq_true] at h
      obtain ⟨⟨h1, h2⟩, h3⟩ := h
      obtain ⟨c1, c2⟩ := sndE c G tk h1
      obtain ⟨a1, a2⟩ := sndE a G tk h2
      obtain ⟨b1, b2⟩ := sndE b G tk h3
      constructor
      · refine pe_imp (pe_ifExp c2 a1 b1) fun σ H Q ⟨Z, Φ, u, e, m, R, er, p⟩ => ?_
        simp only [ev] at p
        refine tt_then (g := fun t e h1 => if t = true then ev F a e h1 else ev F b e h1) (R := fun t H1 => if t = true then teOf X.K xa W (ev F a) σ H1 Q else teOf X.K xa W (ev F b) σ H1 Q) ⟨Z, Φ, u, e, m, R, er, p⟩ fun t H' ⟨Z, Φ, u, e, m, R, er, p⟩ => ?_
        cases t with
        | true => exact ⟨Z, Φ, u, e, m, R, er, p⟩
        | false => exact ⟨Z, Φ, u, e, m, R, er, p⟩
      · refine pt_imp (pt_fi c2 a2 b2) fun σ H Q ⟨Z, Φ, u, e, m, R, er, p⟩ => ?_
        simp only [ev] at p
        refine tt_then (g := fun t e h1 => if t = true then ev F a e h1 else ev F b e h1) ⟨Z, Φ, u, e, m, R, er, p⟩ fun t H' ⟨Z, Φ, u, e, m, R, er, p⟩ => ?_
        cases t with
        | true => exact ⟨Z, Φ, u, e, m, R, er, p⟩
        | false => exact ⟨Z, Φ, u, e, m, R, er, p⟩
    · cases h
  | .tu es, X, W, sc, e, G, tk, h => by
    unfold chkE at h
    split at h
    · rename_i as k p
      have al := sndEs es G tk h
      refine both (pe_imp (pe_tup (al_pa al)) fun σ H Q ⟨Z, Φ, u, e, m, R, er, p⟩ => ?_) rfl
      simp only [ev] at p
      refine ⟨Z, Φ, u, e, m, R, er, p.bind.mono fun xs h1 Φ1 u1 H1 _ _ ⟨x1, R1, p1⟩ vs hv => ?_⟩
      split at p1
      · rename_i ds e1
        have q := datas_dpa hv e1
        split at p1
        · rename_i hl
          refine ⟨by rw [dpa_len q]; exact rep_line (of_decide_eq_true hl), fun a na => ?_⟩
          have N := NewOf.upd (o := .tup vs) R1.sub na
          exact p1 _ u1 _ ⟨N.le, List.prefix_refl _⟩ (R1.new N) (.ref a) (.tup (SqT.of upd_same) (dpa_mono N.le _ _ q))
        · exact p1.elim
      · exact p1.elim
    · cases h
  | .li mm es, X, W, sc, e, G, tk, h => by
    unfold chkE at h
    split at h
    · rename_i as p
      have al := sndEs es G tk h
      refine both (pe_imp (pe_lst (al_pa al)) fun σ H Q ⟨Z, Φ, u, e, m, R, er, p⟩ => ?_) rfl
      simp only [ev] at p
      refine ⟨Z, Φ, u, e, m, R, er, p.bind.mono fun xs h1 Φ1 u1 H1 _ _ ⟨x1, R1, p1⟩ vs hv => ?_⟩
      split at p1
      · rename_i ds e1
        have q := datas_dpa hv e1
        split at p1
        · rename_i hl
          refine ⟨by rw [dpa_len q]; exact rep_line (of_decide_eq_true hl), fun a na => ?_⟩
          exact mkR_out R1 p1 a vs q na
        · exact p1.elim
      · exact p1.elim
    · cases h
  | .ca f es, X, W, sc, e, G, tk, h => by
    unfold chkE at h
    split at h
    · rename_i x p as pos
      simp only [Bool.and_eq_true, decide_eq_true_eq] at h
      obtain ⟨⟨⟨h1, h2⟩, h3⟩, h4⟩ := h
      have al := sndEs es G tk h4
      obtain ⟨a, fd, ps, k1, k2, k3, k4, k5⟩ := G.hf f _ h1
      obtain ⟨o1, o2, o3⟩ := okN_of h3
      have key : ∀ (σ : L2.St) (H : Hp) (Q : VK), teOf X.K xa W (ev F (.ca f es)) σ H Q → tCa (spOf X.K xa (F f) as.length) W (taOf X.K xa W (evs F es)) σ H Q := fun σ H Q ⟨Z, Φ, u, e, m, R, er, p⟩ => by
        simp only [ev] at p
        refine ⟨Z, Φ, u, e, m, R, er, ?_⟩
        cases hq : evs F es e m with
        | ex c d h' => rw [hq] at p; exact p
        | no => rw [hq] at p; exact p
        | ok xs h1 =>
          rw [hq] at p
          intro Φ1 u1 H1 x1 R1 vs hv
          exact ⟨by rw [hv.len, evs_len hq al], Z, Φ1, u1, xs, h1, R1, hv, Po.ext p x1⟩
      cases as with
      | nil =>
        have := al0 al
        subst this
        refine both (pe_imp (pe_ca0 k5 G.gu G.room (gl_of G h2) k1 k2 k3 tk o1) fun σ H Q q => ?_) rfl
        obtain ⟨Z, Φ, u, e, m, R, er, p⟩ := key σ H Q q
        simp only [evs] at p
        exact p Φ u H Ext.refl R [] trivial
      | cons b bs =>
        cases es with
        | n => cases al
        | c c r =>
          obtain ⟨e', es', z1, z2, _, _, z3⟩ := id al
          cases z1
          exact both (pe_imp (pe_ca k5 G.gu G.room (gl_of G h2) k1 k2 k3 tk (al_pa al) o1 (star_cons z2 _ _) (al_star _ _ z3)) key) rfl
    · cases h
  | .me mm o es, X, W, sc, e, G, tk, h => by
    unfold chkE at h
    split at h
    · rename_i a nm ap as cp
      cases mm with
      | app =>
        simp only [Bool.and_eq_true, decide_eq_true_eq] at h
        obtain ⟨⟨⟨⟨⟨rfl, hl⟩, h2⟩, h3⟩, h4⟩, h5⟩ := h
        have al := sndEs es G tk h5
        match as, hl with
        | [b], _ =>
          obtain ⟨c, rfl, z1, z2, z3⟩ := al1 al
          refine both (pe_imp (pe_bm PySem.F.plainAttrs_list PySem.F.slot_list_append PySem.F.type_list_append mt_append (sndE o G tk h4).1 (al_pa al) (noBase_of h2 _ _) (by rw [star_cons z1]; rfl) h3 (star_cons z1 _ _) rfl) fun σ H Q ⟨Z, Φ, u, e, m, R, er, p⟩ => ?_) rfl
          simp only [ev] at p
          refine ⟨Z, Φ, u, e, m, R, er, p.bind.mono fun x h1 Φ1 u1 H1 _ _ ⟨x1, R1, p1⟩ v hv => ?_⟩
          split at p1
          · rename_i k _
            split at p1
            · rename_i ys hk
              obtain ⟨l, e1, rfl⟩ := hv
              obtain ⟨l', vs, g1, g2, g3, g4⟩ := R1.at_ hk
              rw [e1] at g1; cases g1
              refine ⟨.inl ⟨rfl, vs, SqL.of g3⟩, Z, Φ1, u1, e, h1, R1, er.mono x1, p1.bind.mono fun xs h2 Φ2 u2 H2 _ _ ⟨x2, R2, p2⟩ ws hw => ?_⟩
              match xs with
              | [.d y] =>
                obtain ⟨w, rfl, hw1⟩ := vrs1 hw
                simp only [meD] at p2
                split at p2
                · rename_i zs hz
                  split at p2
                  · rename_i hlim
                    obtain ⟨l2, us, k1, k2, k3, k4⟩ := R2.at_ hz
                    rw [pre_get x2.pre e1] at k1; cases k1
                    refine ⟨l, us, w, rfl, rfl, k3, ?_, ?_⟩
                    · rw [dpa_len k4, sizeLine_eq]
                      have := of_decide_eq_true hlim
                      omega
                    · exact p2 Φ2 u2 _ Ext.refl (R2.put (xs := us) (ds := zs) (pre_get x2.pre e1) k2 (dqa_add k4 hw1)) .non .non
                  · exact p2.elim
                · exact p2.elim
              | [] => exact p2.elim
              | [.r _] => exact p2.elim
              | [.s _] => exact p2.elim
              | y :: z :: r => cases y <;> exact p2.elim
            · exact p1.elim
          · exact p1.elim
      | pop =>
        simp only [Bool.and_eq_true, decide_eq_true_eq] at h
        obtain ⟨⟨⟨⟨⟨rfl, hl⟩, h2⟩, h3⟩, h4⟩, h5⟩ := h
        have al := sndEs es G tk h5
        match as, hl with
        | [b], _ =>
          obtain ⟨c, rfl, z1, z2, z3⟩ := al1 al
          refine both (pe_imp (pe_bm PySem.F.plainAttrs_list PySem.F.slot_list_pop PySem.F.type_list_pop mt_popAt (sndE o G tk h4).1 (al_pa al) (noBase_of h2 _ _) (by rw [star_cons z1]; rfl) h3 (star_cons z1 _ _) rfl) fun σ H Q ⟨Z, Φ, u, e, m, R, er, p⟩ => ?_) rfl
          simp only [ev] at p
          refine ⟨Z, Φ, u, e, m, R, er, p.bind.mono fun x h1 Φ1 u1 H1 _ _ ⟨x1, R1, p1⟩ v hv => ?_⟩
          split at p1
          · rename_i k _
            split at p1
            · rename_i ys hk
              obtain ⟨l, e1, rfl⟩ := hv
              obtain ⟨l', vs, g1, g2, g3, g4⟩ := R1.at_ hk
              rw [e1] at g1; cases g1
              refine ⟨.inl ⟨rfl, vs, SqL.of g3⟩, Z, Φ1, u1, e, h1, R1, er.mono x1, p1.bind.mono fun xs h2 Φ2 u2 H2 _ _ ⟨x2, R2, p2⟩ ws hw => ?_⟩
              match xs with
              | [.d (.int i)] =>
                obtain ⟨w, rfl, hw1⟩ := vrs1 hw
                have hw1 : Dq X.K Φ2 w (.int i) := hw1
                cases hw1
                simp only [meD] at p2
                split at p2
                · rename_i zs hz
                  split at p2
                  · rename_i j hj
                    split at p2
                    · rename_i x hx
                      split at p2
                      · rename_i hlim
                        have hlim := of_decide_eq_true hlim
                        obtain ⟨l2, us, k1, k2, k3, k4⟩ := R2.at_ hz
                        rw [pre_get x2.pre e1] at k1; cases k1
                        obtain ⟨q1, q2, q3, q4⟩ := ixN_seq hj
                        obtain ⟨y, hy, hd⟩ := dpa_get k4 hx
                        refine ⟨l, us, i, j, y, rfl, rfl, k3, by omega, by omega, by rw [dpa_len k4]; exact q1, hy, ?_⟩
                        exact p2 Φ2 u2 _ Ext.refl (R2.put (xs := us.eraseIdx j) (ds := zs.eraseIdx j) (pre_get x2.pre e1) k2 (dpa_erase j k4)) y hd
                      · exact p2.elim
                    · exact p2.elim
                  · exact p2.elim
                · exact p2.elim
              | [.d .none] => exact p2.elim
              | [.d (.bool _)] => exact p2.elim
              | [.d (.str _)] => exact p2.elim
              | [.d (.list _)] => exact p2.elim
              | [.d (.tuple _)] => exact p2.elim
              | [.d (.dict _)] => exact p2.elim
              | [] => exact p2.elim
              | [.r _] => exact p2.elim
              | [.s _] => exact p2.elim
              | y :: z :: r =>
                cases y with
                | d x => cases x <;> exact p2.elim
                | _ => exact p2.elim
            · exact p1.elim
          · exact p1.elim
      | rem =>
        simp only [Bool.and_eq_true, decide_eq_true_eq] at h
        obtain ⟨⟨⟨⟨⟨rfl, hl⟩, h2⟩, h3⟩, h4⟩, h5⟩ := h
        have al := sndEs es G tk h5
        match as, hl with
        | [b], _ =>
          obtain ⟨c, rfl, z1, z2, z3⟩ := al1 al
          refine both (pe_imp (pe_bm PySem.F.plainAttrs_list PySem.F.slot_list_remove PySem.F.type_list_remove mt_remove (sndE o G tk h4).1 (al_pa al) (noBase_of h2 _ _) (by rw [star_cons z1]; rfl) h3 (star_cons z1 _ _) rfl) fun σ H Q ⟨Z, Φ, u, e, m, R, er, p⟩ => ?_) rfl
          simp only [ev] at p
          refine ⟨Z, Φ, u, e, m, R, er, p.bind.mono fun x h1 Φ1 u1 H1 _ _ ⟨x1, R1, p1⟩ v hv => ?_⟩
          split at p1
          · rename_i k _
            split at p1
            · rename_i ys hk
              obtain ⟨l, e1, rfl⟩ := hv
              obtain ⟨l', vs, g1, g2, g3, g4⟩ := R1.at_ hk
              rw [e1] at g1; cases g1
              refine ⟨.inl ⟨rfl, vs, SqL.of g3⟩, Z, Φ1, u1, e, h1, R1, er.mono x1, p1.bind.mono fun xs h2 Φ2 u2 H2 _ _ ⟨x2, R2, p2⟩ ws hw => ?_⟩
              match xs with
              | [.d (.int i)] =>
                obtain ⟨w, rfl, hw1⟩ := vrs1 hw
                have hw1 : Dq X.K Φ2 w (.int i) := hw1
                cases hw1
                simp only [meD] at p2
                split at p2
                · rename_i zs hz
                  split at p2
                  · rename_i ns hns
                    split at p2
                    · rename_i hc
                      rw [Bool.and_eq_true] at hc
                      have hlim := of_decide_eq_true hc.2
                      obtain ⟨l2, us, k1, k2, k3, k4⟩ := R2.at_ hz
                      rw [pre_get x2.pre e1] at k1; cases k1
                      have hus := dpa_ints k4 hns
                      subst hus
                      have hm : i ∈ ns := by simpa using hc.1
                      refine ⟨l, ns, i, ns.idxOf i, rfl, rfl, k3, ?_, fun m hm' e => ?_, ?_⟩
                      · rw [List.getElem?_eq_getElem (List.idxOf_lt_length_of_mem hm)]
                        simp
                      · obtain ⟨hm1, hm2⟩ := List.getElem?_eq_some_iff.mp e
                        have := List.not_of_lt_findIdx (p := (· == i)) (xs := ns) hm'
                        simp [hm2] at this
                      · have hzs := asInts_is hns
                        subst hzs
                        exact p2 Φ2 u2 _ Ext.refl (R2.put (xs := (ns.eraseIdx (ns.idxOf i)).map V.int) (ds := ofInts (ns.eraseIdx (ns.idxOf i))) (pre_get x2.pre e1) k2 (dpa_ofInts _)) .non .non
                    · exact p2.elim
                  · exact p2.elim
                · exact p2.elim
              | [.d .none] => exact p2.elim
              | [.d (.bool _)] => exact p2.elim
              | [.d (.str _)] => exact p2.elim
              | [.d (.list _)] => exact p2.elim
              | [.d (.tuple _)] => exact p2.elim
              | [.d (.dict _)] => exact p2.elim
              | [] => exact p2.elim
              | [.r _] => exact p2.elim
              | [.s _] => exact p2.elim
              | y :: z :: r =>
                cases y with
                | d x => cases x <;> exact p2.elim
                | _ => exact p2.elim
            · exact p1.elim
          · exact p1.elim
    · cases h
  | .lc mm a t k es fs, X, W, sc, e, G, tk, h => by
    unfold chkE at h
    split at h
    · rename_i x tg it ifs s2 p
      split at h
      · rename_i as hw
        simp only [Bool.and_eq_true, decide_eq_true_eq] at h
        obtain ⟨⟨⟨⟨⟨h1, h2⟩, h3⟩, h4⟩, h5⟩, h6⟩ := h
        have al := sndEs es G tk h1
        have bl : BlkOk X.N X.env.scope s2 (t.own N) := by rw [G.nN, G.sc]; exact blkOk_by h2
        have r := pe_lc (elt := x) (tg := tg) (ifs := ifs) (g := tgOf X.K t) (tt := ttOf X.K xa W0 (evb F true fs)) (te := teOf X.K xa W0 (ev F a)) (pos := p) G.calm (by rw [G.nN]; exact G.nd) (sndI G hw al) bl
          (fun s H C cl fp => sndT (G.blk s H s2 C cl fp).nN G.nd (G.blk s H s2 C cl fp).sc (G.blk s H s2 C cl fp).calm (fn := blkF s2) (fun _ q => q) h3)
          (fun s H C cl fp => sndF (W := W0) h4 (sndEs fs (G.blk s H s2 C cl fp) takes0' h5))
          (fun s H C cl fp => (sndE a (G.blk s H s2 C cl fp) (W := W0) takes0' h6).1) (fun x => folded_of hw _ x)
        refine both (pe_imp r fun σ H Q q => ?_) rfl
        rw [own_slots]
        exact lc_te q
      · cases h
    · cases h
  | .l2 mm a t k es t1 k1 es1 fs, X, W, sc, e, G, tk, h => by
    unfold chkE at h
    split at h
    · rename_i x tg it tg1 it1 ifs s2 p
      split at h
      · rename_i as as1 hw hw1
        simp only [Bool.and_eq_true, decide_eq_true_eq] at h
        obtain ⟨⟨⟨⟨⟨⟨⟨⟨h1, h2⟩, hap⟩, h3⟩, h3'⟩, h7⟩, h4⟩, h5⟩, h6⟩ := h
        have al := sndEs es G tk h1
        have bl : BlkOk X.N X.env.scope s2 (t.own N ++ t1.own N) := by rw [G.nN, G.sc]; exact blkOk_by h2
        have os : (t.own N ++ t1.own N).map (·.2) = t.slots ++ t1.slots := by rw [List.map_append, own_slots, own_slots]
        have r := pe_lc2 (elt := x) (tg := tg) (tg1 := tg1) (ifs := []) (ifs1 := ifs) (g := tgOf X.K t) (tt := tYes) (wi1 := tiOf X.K xa W0 k1 (evs F es1)) (g1 := tgOf X.K t1) (tt1 := ttOf X.K xa W0 (evb F true fs)) (te := teOf X.K xa W0 (ev F a)) (vs1 := t1.slots) (pos := p) G.calm (by rw [G.nN]; exact G.nd) (sndI G hw al) bl (fun i hi => by rw [os]; exact List.mem_append_right _ hi)
          (fun s H C cl fp => sndT (G.blk s H s2 C cl fp).nN G.nd (G.blk s H s2 C cl fp).sc (G.blk s H s2 C cl fp).calm (fn := blkF s2) (fun _ q => q) h3)
          (fun s H C cl fp => pts_nil)
          (fun s H C cl fp => sndI (W := W0) (G.blk s H s2 C cl fp) hw1 (sndEs es1 (G.blk s H s2 C cl fp) takes0' h7))
          (fun s H C cl fp => sndT (G.blk s H s2 C cl fp).nN G.nd (G.blk s H s2 C cl fp).sc (G.blk s H s2 C cl fp).calm (fn := blkF s2) (fun _ q => q) h3')
          (fun s H C cl fp => sndF (W := W0) h4 (sndEs fs (G.blk s H s2 C cl fp) takes0' h5))
          (fun s H C cl fp => (sndE a (G.blk s H s2 C cl fp) (W := W0) takes0' h6).1) (fun x => folded_of hw _ x) (fun env x => folded_of hw1 env x)
        refine both (pe_imp r fun σ H Q q => ?_) rfl
        rw [os]
        exact l2_te (T := T) (N := N) (fun i hi => by
          have := List.all_eq_true.mp hap i hi
          simpa using this) q
      · cases h
    · cases h
theorem sndEs : ∀ (es : Cds) {X : Cx} {W : WX} {sc : Scope} {as : List Expr}, Gd T xa F N n sc X → Takes X W → chkEs T N es sc as = true → Al xa F X W es as
  | .n, X, W, sc, as, G, tk, h => by
    cases as with
    | nil => rfl
    | cons a as => simp [chkEs] at h
  | .c a r, X, W, sc, as, G, tk, h => by
    cases as with
    | nil => simp [chkEs] at h
    | cons e es =>
      simp only [chkEs, Bool.and_eq_true] at h
      obtain ⟨⟨h1, h2⟩, h3⟩ := h
      obtain ⟨g1, g2⟩ := sndE a G tk h2
      exact ⟨e, es, rfl, h1, g1, g2, sndEs r G tk h3⟩
end
end
end Mn

/-! MnT: try with several clauses, each with or without a name. -/
namespace Mn
open PySem L2 PySem.Spec PyProof.Rows

abbrev Cl := Value × Option Nat × (Addr → Value → Option Addr → TS)
/-- the ends of a clause with a name: the name goes -/
def Ends.gone (D : L2.Ends) (i : Nat) : L2.Ends := { nx := fun σ H => D.nx (σ.set i none) H, rt := D.rt, bk := fun σ H => D.bk (σ.set i none) H, ct := fun σ H => D.ct (σ.set i none) H }
def wG (K : PySem.W.Frag) (Wout : WX) (D : L2.Ends) : List Cl → WX
  | [] => Wout
  | (c, none, ts) :: r => fun cl d σ H => ∃ b, PySem.W.exmOne K cl c = some b ∧ (b = true → ∀ a, H a = none → ts a cl d D σ H) ∧ (b = false → wG K Wout D r cl d σ H)
  | (c, some i, ts) :: r => fun cl d σ H => ∃ b, PySem.W.exmOne K cl c = some b ∧ (b = true → ∀ a, H a = none → ts a cl d (Ends.gone D i) (σ.set i (some (.ref a))) H) ∧ (b = false → wG K Wout D r cl d σ H)
inductive ClsOk (X : Cx) : List ExceptHandler → List Cl → Prop
  | nil : ClsOk X [] []
  | pl {x : Str} {c : Value} {ts : Addr → Value → Option Addr → TS} {b : Stmt} {su : List Stmt} {p q : Pos} {hs : List ExceptHandler} {l : List Cl} (hc : Names X x c)
      (hsu : ∀ (a : Addr) (oe : Obj) (cl : Value) (d : Option Addr) (pn : List (Addr × Obj)), Zc cl d oe → (∃ vs, oe.data = .fields vs) → PSs (X.suite a ((a, oe) :: pn)) (b :: su) (ts a cl d)) (r : ClsOk X hs l) :
      ClsOk X (.ExceptHandler (some (.Name x p)) none (b :: su) q :: hs) ((c, none, ts) :: l)
  | as {x n : Str} {i : Nat} {c : Value} {ts : Addr → Value → Option Addr → TS} {b : Stmt} {su : List Stmt} {p q : Pos} {hs : List ExceptHandler} {l : List Cl} (hc : Names X x c) (hi : X.N[i]? = some n) (hn : X.env.kindOf n = some .local)
      (hsu : ∀ (a : Addr) (oe : Obj) (cl : Value) (d : Option Addr) (pn : List (Addr × Obj)), Zc cl d oe → (∃ vs, oe.data = .fields vs) → PSs (X.suite a ((a, oe) :: pn)) (b :: su) (ts a cl d)) (r : ClsOk X hs l) :
      ClsOk X (.ExceptHandler (some (.Name x p)) (some n) (b :: su) q :: hs) ((c, some i, ts) :: l)
theorem clause_test {X : Cx} {x : Str} {c : Value} {p : Pos} {a : Addr} {oe : Obj} {pn : List (Addr × Obj)} {σ : L2.St} {H : Hp} {s : Shared} (hc : Names X x c) (S : Inv (X.suite a ((a, oe) :: pn)) [] σ H s)
    {Q : Value → Shared → Prop} {E : Value → Shared → Prop} (q : Q c s) : wpAny (model X.prog X.w) (X.A.mark (some (.ref a))) (eval (.Name x p) X.env) Q E s := by
  obtain ⟨g, dbg, m⟩ := hc
  rcases m with m | ⟨m, v, nn⟩
  · exact ld_glob (X := X.suite a ((a, oe) :: pn)) S g m q dbg
  · exact ld_blt (X := X.suite a ((a, oe) :: pn)) S g m v q nn dbg
section
variable {X : Cx} {body : List Stmt} {h0 : ExceptHandler} {hs : List ExceptHandler} {l : List Cl} {pos : Pos} {tb : WX → TS} {Wout : WX}
theorem ps_tryG (nd : X.N.Nodup) (st : X.stack = X.env :: X.outer) (fr : X.env.frame = some X.env.locals) (tk : Takes X Wout)
    (hb : ∀ (W : WX) (pn : List (Addr × Obj)) (xe : Value → Shared → Prop), Takes (X.tr pn xe) W → PassesOwn (model X.prog X.w) X.A X.env xe → PSs (X.tr pn xe) body (tb W))
    (hh : ClsOk X (h0 :: hs) l) : PS X (.Try body (h0 :: hs) [] [] pos) (fun D σ H => tb (wG X.K Wout D l) D σ H) := by
  constructor
  intro pins s σ H D I h
  have ok := I.ok
  have hfr : X.A.frames = some (X.env :: X.outer) := by rw [ok.frames, st]
  apply wpAny_Try_except
  have run := (hb (wG X.K Wout D l) (X.pn ++ pins) (fun e s₁ => wpAny (model X.prog X.w) X.A (noteFrame e X.env) (fun _ s₂ => wpAny (model X.prog X.w) X.A (setFlight e none) (fun _ s₃ =>
    wpAny (model X.prog X.w) X.A (handleBy e X.env (h0 :: hs)) (SP X pins D) X.xe s₃) X.xe s₂) X.xe s₁) ?_ PassesOwn.looking).run [] s σ H D (I.toTry _) h
  · refine wpAny_mono run (fun f s1 q => ?_) (fun _ _ q => q)
    match f, q with
    | .next, ⟨_, _, J, q⟩ => exact wpAny_execs_nil ⟨_, _, J.ofTry ok, q⟩
    | .brk, ⟨_, _, J, q⟩ => exact ⟨_, _, J.ofTry ok, q⟩
    | .cont, ⟨_, _, J, q⟩ => exact ⟨_, _, J.ofTry ok, q⟩
    | .ret u, ⟨_, _, _, J, r, q⟩ => exact ⟨_, _, _, J.ofTry ok, r, q⟩
  rintro u s' ⟨a, B, sI, pins', σ', H', cls, d, rfl, J', nb, up, sky, na, os, ag, w⟩
  have J : Inv X pins σ' H' sI := J'.ofTry ok
  have sky' : Sky B (X.env :: X.outer) a (Zc cls d) X.env.locals s'.heap := st ▸ sky
  show wpAny (model X.prog X.w) X.A (noteFrame (.ref a) X.env) _ _ _
  refine Sky.land Zc.steady hfr fr sky' fun h3 fl3 up3 => ?_
  have J3 : Inv X pins σ' H' { s' with heap := h3 } := J.landed nb fl3.1 (up.trans up3) os ag
  obtain ⟨oe3, vs3, he3, hz3, hd3⟩ := fl3.there
  have nfr : a ∉ frs (X.env :: X.outer) := fun m => by
    obtain ⟨_, o, e', hnf⟩ := fl3.2.2.1.mem m
    rw [he3] at e'; cases e'
    exact hnf _ hd3
  have nL : a ≠ X.env.locals := fun z => nfr (List.mem_filterMap.mpr ⟨X.env, List.mem_cons_self, by rw [fr, z]⟩)
  have nF : a ∉ X.fs := fun m => by
    obtain ⟨e, he, q⟩ := List.mem_filterMap.mp m
    exact nfr (List.mem_filterMap.mpr ⟨e, List.mem_cons_of_mem _ he, q⟩)
  have S3 := J3.suite he3 hd3 na nL nF
  have LT : PySem.W.Looks (model X.prog X.w) h3 (typeOf (.ref a)) cls := fun A Q E s k q => wpAny_typeOf_ref (k _ _ he3) (by rw [hz3.1]; exact q)
  have go : ∀ {hds : List ExceptHandler} {l' : List Cl}, ClsOk X hds l' → wG X.K Wout D l' cls d σ' H' → wpAny (model X.prog X.w) X.A (handleBy (.ref a) X.env hds) (SP X pins D) X.xe { s' with heap := h3 } := by
    intro hds l' hk
    induction hk with
    | nil =>
      intro w
      apply wpAny_handleBy_nil
      obtain ⟨k1, k2, k3, oe, vs, T, oT, ts', he, hz, hd, h1, hr⟩ := id fl3
      unfold PySem.passOn
      refine wpAny_bind (wpAny_field he hd h1 ?_)
      rw [if_neg (show ¬ ((Value.ref T == Value.none) = true) from by simp)]
      have last : wpAny (model X.prog X.w) X.A (setFlight (.ref a) X.env.frame) (fun _ s4 => wpAny (model X.prog X.w) X.A (throw (.ref a) : Sem Flow) (SP X pins D) X.xe s4) X.xe { s' with heap := h3 } := by
        rw [fr]
        refine HandSPX.setFlight_upZ fl3 fun h4 hh4 up4 => wpAny_throw (tk _ _ ?_)
        exact ⟨a, B, sI, pins, σ', H', cls, d, rfl, J, nb, (up.trans up3).trans up4, .inr (.inr (st.symm ▸ hh4)), na, os, ag, w⟩
      first
        | exact wpAny_bind (wpAny_pure (wpAny_bind last))
        | exact wpAny_bind last
    | @pl x c ts b su p q hds2 l2 hc hsu r ih =>
      intro w
      obtain ⟨y, hy, yes, no⟩ := w
      refine wpAny_handleBy_cons (codeAny_handlers_test ?_) (by intro z; cases z)
      refine clause_test hc S3 ((PySem.W.exm_one (M := model X.prog X.w) J3.kIn LT hy).here ?_)
      cases y with
      | false => exact ih (no rfl)
      | true =>
        apply codeAny_handlers_suite
        refine HandSPX.lands_againZ fl3 fun h4 fl4 up4 => ?_
        have J4 : Inv X pins σ' H' { s' with heap := h4 } := J.landed nb fl4.1 ((up.trans up3).trans up4) os ag
        obtain ⟨oe4, vs4, he4, hz4, hd4⟩ := fl4.there
        have S4 := J4.suite he4 hd4 na nL nF
        refine wpAny_mono ((hsu a oe4 cls d (X.pn ++ pins) hz4 ⟨_, hd4⟩).run [] _ _ H' _ S4 (yes rfl a na)) (fun f s6 q => ?_) (fun _ _ z => False.elim z)
        match f, q with
        | .next, ⟨_, _, S, q⟩ => exact ⟨_, _, S.unsuite ok, q⟩
        | .brk, ⟨_, _, S, q⟩ => exact ⟨_, _, S.unsuite ok, q⟩
        | .cont, ⟨_, _, S, q⟩ => exact ⟨_, _, S.unsuite ok, q⟩
        | .ret u, ⟨_, _, _, S, r, q⟩ => exact ⟨_, _, _, S.unsuite ok, r, q⟩
    | @as x n i c ts b su p q hds2 l2 hc hi hn hsu r ih =>
      intro w
      obtain ⟨y, hy, yes, no⟩ := w
      refine wpAny_handleBy_cons (codeAny_handlers_test ?_) (by intro z; cases z)
      refine clause_test hc S3 ((PySem.W.exm_one (M := model X.prog X.w) J3.kIn LT hy).here ?_)
      cases y with
      | false => exact ih (no rfl)
      | true =>
        apply codeAny_handlers_suite_as
        refine HandSPX.lands_againZ fl3 fun h4 fl4 up4 => ?_
        have J4 : Inv X pins σ' H' { s' with heap := h4 } := J.landed nb fl4.1 ((up.trans up3).trans up4) os ag
        obtain ⟨oe4, vs4, he4, hz4, hd4⟩ := fl4.there
        have S4 := J4.suite he4 hd4 na nL nF
        refine store_ok (X := X.suite a ((a, oe4) :: (X.pn ++ pins))) (v := .ref a) S4 nd hi (.inl hn) rfl (fun s5 S5 => ?_) (.inr hn)
        have en : ∀ {σ6 : L2.St} {H6 : Hp} {s6 : Shared} {Q : Shared → Prop}, Inv (X.suite a ((a, oe4) :: (X.pn ++ pins))) [] σ6 H6 s6 → (∀ s7, Inv X pins (σ6.set i none) H6 s7 → Q s7) →
          wpAny (model X.prog X.w) X.A (do bindName X.env n .none; unbindBehindTheSuite X.env n q) (fun _ s7 => Q s7) X.xe s6 := fun S6 k => gone_ok (S6.unsuite ok) nd hi hn k
        refine wpAny_mono ((hsu a oe4 cls d (X.pn ++ pins) hz4 ⟨_, hd4⟩).run [] s5 _ H' _ S5 (yes rfl a na)) (fun f s6 q => ?_) (fun _ _ z => False.elim z)
        match f, q with
        | .next, ⟨_, _, S, q⟩ => exact en S fun s7 J7 => ⟨_, _, J7, q⟩
        | .brk, ⟨_, _, S, q⟩ => exact en S fun s7 J7 => ⟨_, _, J7, q⟩
        | .cont, ⟨_, _, S, q⟩ => exact en S fun s7 J7 => ⟨_, _, J7, q⟩
        | .ret u, ⟨_, _, _, S, r, q⟩ => exact en S fun s7 J7 => ⟨_, _, _, J7, r, q⟩
  exact go hh w
end
end Mn

/-! MnS: statements. -/
namespace Mn
open PySem L2 PySem.Spec PyProof.Rows

/-! ### the look at statements -/
def noComp : Expr → Bool
  | .ListComp _ _ _ _ => false
  | .SetComp _ _ _ _ => false
  | .DictComp _ _ _ _ _ => false
  | _ => true
def noTup : Expr → Bool
  | .Tuple _ _ _ => false
  | _ => true
/-- which stores of a, b = x, y are swapped -/
def swp (sc : Scope) (ts vs : List Expr) : Option (Option (List Str)) :=
  if !(ts.length == 2 || ts.length == 3) || vs.length != ts.length then some none
  else if vs.any fun | .Starred .. => true | _ => false then some none
  else
    let line := (ts.head?.map (·.pos.line)).getD 0
    let names := ts.filterMap fun
      | .Name id pos => if sc.names.lookup id == some .local && pos.line == line then some id else none
      | _ => none
    if names.length != ts.length || names.eraseDups.length != names.length then some none
    else if vs.all (foldedForSure 8) then some none
    else if vs.all (constantsAlone 8) then none
    else some (some names)
def optIs : Option (Option (List Str)) → Nat
  | some none => 0
  | some (some _) => 1
  | none => 2
/-- a, b = [..] in one: the names, stored by the slots -/
def stoN (N : List Str) (sc : Scope) : List Nat → List Expr → Bool
  | [], [] => true
  | i :: is, .Name x _ :: ts => sto N sc (fun _ => true) i x && stoN N sc is ts
  | _, _ => false
def ndb : List Nat → Bool
  | [] => true
  | i :: r => !r.contains i && ndb r
def lclN (N : List Str) (sc : Scope) : List Nat → List Expr → Bool
  | [], [] => true
  | i :: is, .Name x _ :: ts => decide (N[i]? = some x) && lcl sc x && lclN N sc is ts
  | _, _ => false
/-- an exception class of the text by its name -/
def xIs (T : Tt) (sc : Scope) (c : Nat) (x : Str) : Bool := (match T.xs[c]? with
  | some (y, _, _) => decide (y = x)
  | none => false) && gl sc x && okN x
/-- classes below c bear the attribute f -/
def bears (T : Tt) (up : Nat → Nat → Bool) (c : Nat) (f : Str) : Bool := (List.range T.xs.length).all fun i => !up i c || (match T.xs[i]? with
  | some (_, some g, _) => decide (g = f)
  | _ => false)
def chkH (T : Tt) (N : List Str) (sc : Scope) (up : Nat → Nat → Bool) : List (Nat × Option Nat × Sx) → List ExceptHandler → Bool
  | [], [] => true
  | (c, none, .k d) :: r, .ExceptHandler (some (.Name x _)) none [.Return (some (.Constant k _ _)) _] _ :: hs => xIs T sc c x && cst k d && chkH T N sc up r hs
  | (c, some i, .k d) :: r, .ExceptHandler (some (.Name x _)) (some n) [.Return (some (.Constant k _ _)) _] _ :: hs => xIs T sc c x && decide (N[i]? = some n) && lcl sc n && cst k d && chkH T N sc up r hs
  | (c, some i, .at) :: r, .ExceptHandler (some (.Name x _)) (some n) [.Return (some (.Attribute (.Name m _) f _)) _] _ :: hs => xIs T sc c x && decide (N[i]? = some n) && lcl sc n && decide (m = n) && okN n && bears T up c f && chkH T N sc up r hs
  | _, _ => false
mutual
def chkS (T : Tt) (N : List Str) (sc : Scope) (up : Nat → Nat → Bool) : Sd → Stmt → Bool
  | .e a, s => match s with
    | .Expr e _ => noComp e && chkE T N a sc e
    | _ => false
  | .s t a, s => match s with
    | .Assign [.Name x p] e q => chkE T N a sc e && chkT N sc (fun _ => true) t (.Name x p) && (noComp e || (match e with
      | .ListComp _ _ s2 lp => !(lcl sc x && (p.line == lp.line) && !(s2.names.any fun (n, k) => n == x && (k == .local || k == .cell))) || (lcl sc x && (p.line == lp.line) && !(s2.names.any fun (n, k) => n == x && (k == .local || k == .cell)) && (match a with
        | .lc _ _ _ _ _ _ => true
        | .l2 _ _ _ _ _ _ _ _ _ => true
        | _ => false))
      | _ => false))
    | .Assign [.Tuple ts k p] e q => chkE T N a sc e && chkT N sc (fun _ => true) t (.Tuple ts k p) && noTup e
    | _ => false
  | .pr is es, s => match s with
    | .Assign [.Tuple ts k p] (.Tuple vs k2 p2) q => chkEs T N es sc vs && decide (vs.length = is.length) && (match optIs (swp sc ts vs) with
      | 0 => stoN N sc is ts && decide (2 ≤ is.length ∧ is.length ≤ 4)
      | 1 => lclN N sc is ts && ndb is && decide (2 ≤ is.length ∧ is.length ≤ 3)
      | _ => false)
    | _ => false
  | .st o i a, s => match s with
    | .Assign [.Subscript x y p] e q => chkE T N a sc e && chkE T N o sc x && chkE T N i sc y && noSlice y && noComp e && noTup e
    | _ => false
  | .fi c a b, s => match s with
    | .If e x y _ => chkE T N c sc e && chkB T N sc up a x && chkB T N sc up b y
    | _ => false
  | .fo t k es b, s => match s with
    | .For tg it body [] _ => (match walks T sc k tg it with
      | some as => chkEs T N es sc as && chkT N sc (fun _ => true) t tg && chkB T N sc up b body
      | none => false)
    | _ => false
  | .wh c b, s => match s with
    | .While e body [] _ => chkE T N c sc e && chkB T N sc up b body
    | _ => false
  | .re a, s => match s with
    | .Return (some e) _ => chkE T N a sc e
    | _ => false
  | .rn, s => match s with
    | .Return none _ => true
    | _ => false
  | .ra c i es, s => match s with
    | .Raise (some (.Call (.Name x _) as [] _)) none _ => xIs T sc c x && decide (as.length = 1) && chkEs T N es sc as && (match T.xs[c]? with | some (_, _, j) => i == j | none => false)
    | _ => false
  | .tr b hs, s => match s with
    | .Try body (h :: hds) [] [] _ => chkB T N sc up b body && chkH T N sc up hs (h :: hds)
    | _ => false
  | .pa, s => match s with
    | .Pass _ => true
    | _ => false
  | .br, s => match s with
    | .Break _ => true
    | _ => false
  | .co, s => match s with
    | .Continue _ => true
    | _ => false
def chkB (T : Tt) (N : List Str) (sc : Scope) (up : Nat → Nat → Bool) : Bk → List Stmt → Bool
  | .n, ss => ss.isEmpty
  | .c a r, ss => match ss with
    | s :: ss => chkS T N sc up a s && chkB T N sc up r ss
    | [] => false
end

/-! ### facts of the stores -/
theorem noComp_sw {e : Expr} (h : noComp e = true) (t : Option Expr) (l : Nat) (env : Env) : swapsWith e t l env = pure false := by
  cases e <;> first | rfl | (simp [noComp] at h)
theorem tup_sw {ts : List Expr} {k : Nat} {p : Pos} (e : Expr) (l : Nat) (env : Env) : swapsWithSole [.Tuple ts k p] e l env = pure false := by
  cases e <;> rfl
theorem noTup_st {e : Expr} (h : noTup e = true) (t : Expr) (env : Env) : swappedStores [t] e env = pure none := by
  cases e with
  | Tuple _ _ _ => simp [noTup] at h
  | _ => cases t <;> rfl
theorem swp_ok {sc : Scope} {ts vs : List Expr} {r : Option (List Str)} {env : Env} {k k2 : Nat} {p p2 : Pos} (h : swp sc ts vs = some r) (hs : env.scope = sc) (hk : env.scope.kind = .function) :
    swappedStores [.Tuple ts k p] (.Tuple vs k2 p2) env = pure r := by
  have hb : env.blockKind = .function := by unfold Env.blockKind; rw [hk]; rfl
  subst hs
  have key : ∀ (c1 c2 c3 c4 c5 : Bool) (names : List Str) (y : Sem (Option (List Str))), (if c1 = true then some none else if c2 = true then some none else if c3 = true then some none else if c4 = true then some none else if c5 = true then none else some (some names)) = some r →
      (if (c1 || ScopeKind.function != ScopeKind.function) = true then (pure none : Sem (Option (List Str))) else if c2 = true then pure none else if c3 = true then pure none else if c4 = true then pure none else if c5 = true then y else pure (some names)) = pure r := by
    intro c1 c2 c3 c4 c5 names y e
    have e0 : (ScopeKind.function != ScopeKind.function) = false := rfl
    rw [e0, Bool.or_false]
    cases c1 <;> cases c2 <;> cases c3 <;> cases c4 <;> cases c5 <;> simp at e ⊢ <;> rw [← e]
  unfold swp at h
  unfold swappedStores
  simp only [hb]
  exact key _ _ _ _ _ _ _ h

/-! ### what holds of a statement -/
section
variable (K : PySem.W.Frag) (xa : Xa)
def PoS (W : WX) (Z Φ : Hp) (u : List Addr) (r : Ss) (D : L2.Ends) : Prop :=
  match r with
  | .nx e h => ∀ Φ' u' H' σ', Ext Φ u Φ' u' → HR K Z Φ' u' H' h → ER K Φ' u' σ' e → D.nx σ' H'
  | .bk e h => ∀ Φ' u' H' σ', Ext Φ u Φ' u' → HR K Z Φ' u' H' h → ER K Φ' u' σ' e → D.bk σ' H'
  | .ct e h => ∀ Φ' u' H' σ', Ext Φ u Φ' u' → HR K Z Φ' u' H' h → ER K Φ' u' σ' e → D.ct σ' H'
  | .rt x h => ∀ Φ' u' H' v, Ext Φ u Φ' u' → HR K Z Φ' u' H' h → VR K Φ' u' v x → D.rt v H'
  | .ex c d e h => ∀ Φ' u' H' σ' cl dd, Ext Φ u Φ' u' → HR K Z Φ' u' H' h → ER K Φ' u' σ' e → XR K xa Φ' H' cl dd c d → W cl dd σ' H'
  | .no => False
def tsOf (W : WX) (f : Ev → MH → Ss) : TS := fun D σ H => ∃ Z Φ u e h, HR K Z Φ u H h ∧ ER K Φ u σ e ∧ PoS K xa W Z Φ u (f e h) D
end
section
variable {K : PySem.W.Frag} {xa : Xa} {W W' : WX} {Z Φ Φ' : Hp} {u u' : List Addr} {D D' : L2.Ends}
theorem PoS.ext {r : Ss} (p : PoS K xa W Z Φ u r D) (x : Ext Φ u Φ' u') : PoS K xa W Z Φ' u' r D := by
  cases r with
  | nx e h => exact fun Φ'' u'' H' σ' y z w => p Φ'' u'' H' σ' (x.trans y) z w
  | bk e h => exact fun Φ'' u'' H' σ' y z w => p Φ'' u'' H' σ' (x.trans y) z w
  | ct e h => exact fun Φ'' u'' H' σ' y z w => p Φ'' u'' H' σ' (x.trans y) z w
  | rt v h => exact fun Φ'' u'' H' v y z w => p Φ'' u'' H' v (x.trans y) z w
  | ex c d e h => exact fun Φ'' u'' H' σ' cl dd y z w q => p Φ'' u'' H' σ' cl dd (x.trans y) z w q
  | no => exact p
theorem PoS.toS {x : Rs Vl} {e : Ev} {σ : L2.St} {f : Vl → MH → Ss} (p : PoS K xa W Z Φ u (x.toS e f) D) (er : ER K Φ u σ e) :
    Po K xa (fun cl dd H => W cl dd σ H) Z Φ u x fun v h1 Φ1 u1 H1 => Ext Φ u Φ1 u1 ∧ HR K Z Φ1 u1 H1 h1 ∧ PoS K xa W Z Φ1 u1 (f v h1) D := by
  cases x with
  | ok a h' => exact fun Φ' u' H' x y => ⟨x, y, p.ext x⟩
  | ex c d h' => exact fun Φ' u' H' cl dd x y z => p Φ' u' H' σ cl dd x y (er.mono x) z
  | no => exact p
/-- one statement, then the rest -/
theorem PoS.then {r : Ss} {f : Ev → MH → Ss} (p : PoS K xa W Z Φ u (r.then f) D) : PoS K xa W Z Φ u r { D with nx := fun σ H => tsOf K xa W f D σ H } := by
  cases r with
  | nx e h => exact fun Φ' u' H' σ' x y z => ⟨Z, Φ', u', e, h, y, z, PoS.ext p x⟩
  | _ => exact p
end
end Mn

/-! MnU: every statement. -/
namespace Mn
open PySem L2 PySem.Spec PyProof.Rows

/-- an exception of the class at C is made by its name and one argument -/
def MkOk (X : Cx) (nm : Str) (C : Addr) (an : Option Str) (ib : Bool) : Prop := ∀ (e : Expr) (t : TA) (p pos : Pos), noStar e = true → PA X [e] t →
  PMk X (.Call (.Name nm p) [e] [] pos) fun σ H Q => t σ H fun vs H1 => ∃ v, vs = [v] ∧ (ib = true → ∃ i : Int, v = .int i ∧ i.natAbs.log2 < 1920) ∧ match an with
    | none => Q (.ref C) none H1
    | some f => ∀ da, H1 da = none → Q (.ref C) (some da) (upd H1 da (.xd [(f, v)]))
structure Gs (T : Tt) (xa : Xa) (up : Nat → Nat → Bool) (F : Nat → List Vl → MH → Rs Vl) (N : List Str) (n : Nat) (sc : Scope) (X : Cx) : Prop extends Gd T xa F N n sc X where
  fn : ∀ x, X.fn x = true
  st : X.stack = X.env :: X.outer
  fr : X.env.frame = some X.env.locals
  po : PassesOwn (model X.prog X.w) X.A X.env X.xe
  kd : X.env.scope.kind = .function
  mkx : ∀ (c : Nat) (nm : Str) (an : Option Str) (ib : Bool), T.xs[c]? = some (nm, an, ib) → X.mg nm = some (.ref (xa.cA c)) ∧ xa.cN c = an ∧
    (∀ X' : Cx, X'.prog = X.prog → X'.w = X.w → X'.K = X.K → X'.mg = X.mg → X'.base = X.base → X'.calm = true → Room n X'.A → X'.A.guards = some [] → Gl X' nm → nm ≠ "__name__" → (nm == ("__debug__" : Str)) = false → MkOk X' nm (xa.cA c) an ib) ∧
    (∀ f, an = some f → XfC X.K (xa.cA c) ∧ PySem.W.findIn X.K (.ref (xa.cA c)) f = some none)
  nx : xa.nx = T.xs.length
  ex : ∀ c c', c < T.xs.length → c' < T.xs.length → PySem.W.exmOne X.K (.ref (xa.cA c)) (.ref (xa.cA c')) = some (up c c')
section
variable {T : Tt} {xa : Xa} {up : Nat → Nat → Bool} {F : Nat → List Vl → MH → Rs Vl} {N : List Str} {n : Nat} {sc : Scope} {X : Cx} {W : WX} {Wn : Nat}
theorem ps_imp {s : Stmt} {t t' : TS} (h : PS X s t) (i : ∀ D σ H, t' D σ H → t D σ H) : PS X s t' := ⟨fun pins st σ H D I q => h.run pins st σ H D I (i D σ H q)⟩
theorem pss_imp {s : List Stmt} {t t' : TS} (h : PSs X s t) (i : ∀ D σ H, t' D σ H → t D σ H) : PSs X s t' := ⟨fun pins st σ H D I q => h.run pins st σ H D I (i D σ H q)⟩
theorem Gs.tr (G : Gs T xa up F N n sc X) (pn : List (Addr × Obj)) (xe : Value → Shared → Prop) (po : PassesOwn (model X.prog X.w) X.A X.env xe) : Gs T xa up F N n sc (X.tr pn xe) :=
  ⟨⟨G.nN, G.nd, G.sc, G.calm, G.room, G.gu, G.hb, G.hc, G.hf⟩, G.fn, G.st, G.fr, po, G.kd, G.mkx, G.nx, G.ex⟩
theorem HR.extra {K : PySem.W.Frag} {Z Φ H : Hp} {u : List Addr} {h : MH} {p : Addr} {o : HO} (R : HR K Z Φ u H h) (n : H p = none) : HR K Z Φ u (L2.upd H p o) h :=
  (R.hold (o := o) n).unhold (none_sub R.rs n)
theorem lcl_of {x : Str} (h : lcl sc x = true) : sc.names.lookup x = some .local := by
  unfold lcl at h
  split at h
  · assumption
  · cases h
theorem names_of (G : Gs T xa up F N n sc X) {c : Nat} {x : Str} (h : xIs T sc c x = true) : Names X x (.ref (xa.cA c)) ∧ c < T.xs.length := by
  simp only [xIs, Bool.and_eq_true] at h
  obtain ⟨⟨h1, h2⟩, h3⟩ := h
  split at h1
  · rename_i y an ib e
    have h1 := of_decide_eq_true h1
    subst h1
    obtain ⟨m, _⟩ := G.mkx c y an ib e
    obtain ⟨o1, o2, o3⟩ := okN_of h3
    exact ⟨⟨gl_of G.toGd h2, o1, .inl m⟩, (List.getElem?_eq_some_iff.mp e).1⟩
  · cases h1
/-- a constant as a value -/
def cV : PyData → V
  | .bool b => .bl b
  | .int i => .int i
  | .str x => .str x
  | _ => .non
theorem cst_pe {X : Cx} {c : Const} {d : PyData} (h : cst c d = true) {k : Nat} {pos : Pos} : PE X (.Constant c k pos) (tC (cV d)) := by
  unfold cst at h
  split at h
  · exact pe_non
  · have h := eq_of_beq h; subst h; exact pe_bl
  · have h := of_decide_eq_true h; subst h; exact pe_int
  · have h := of_decide_eq_true h; subst h; exact pe_str
  · cases h
theorem cst_dq {K : PySem.W.Frag} {Φ : Hp} {c : Const} {d : PyData} (h : cst c d = true) : Dq K Φ (cV d) d := by
  unfold cst at h
  split at h
  · exact .non
  · exact .bl _
  · exact .int _
  · exact .str _
  · cases h
/-- what a clause's suite reads as -/
def suT (T : Tt) (xa : Xa) (K : PySem.W.Frag) (f : Str) (i : Nat) (a : Addr) (cl : Value) (d : Option Addr) : TS := fun D σ H =>
  ∃ c nm ib, cl = .ref (xa.cA c) ∧ T.xs[c]? = some (nm, some f, ib) ∧ tXf a cl d (xa.cA c) f (tVar i) σ H D.rt
theorem sndH (G : Gs T xa up F N n sc X) : ∀ {hs : List (Nat × Option Nat × Sx)} {hds : List ExceptHandler}, chkH T N sc up hs hds = true →
    ∃ l : List Cl, ClsOk X hds l ∧ ∀ (D : L2.Ends) (W : WX) (Z Φ : Hp) (u : List Addr) (c : Nat) (d : PyData) (e : Ev) (h : MH), PoS X.K xa W Z Φ u (hdR up hs c d e h) D →
      ∀ Φ' u' H' σ' cl dd, Ext Φ u Φ' u' → HR X.K Z Φ' u' H' h → ER X.K Φ' u' σ' e → XR X.K xa Φ' H' cl dd c d → wG X.K W D l cl dd σ' H'
  | [], [], _ => ⟨[], .nil, fun D W Z Φ u c d e h p Φ' u' H' σ' cl dd x R er q => p Φ' u' H' σ' cl dd x R er q⟩
  | (c, none, .k k) :: r, hd :: hds, h => by
    unfold chkH at h
    split at h <;> first | (cases h; done) | (rename_i e1 e2; cases e1; done) | skip
    · rename_i c' k' r' x p kc kk kp rp q hs e1 e2
      cases e1; cases e2
      simp only [Bool.and_eq_true] at h
      obtain ⟨⟨h1, h2⟩, h3⟩ := h
      obtain ⟨nm, hc⟩ := names_of G h1
      obtain ⟨l, k1, k2⟩ := sndH G h3
      refine ⟨(.ref (xa.cA c), none, fun a cl d => tRet (tC (cV k))) :: l, .pl nm (fun a oe cl d pn _ _ => pss_one (ps_ret (cst_pe h2))) k1, fun D W Z Φ u c1 d e h p Φ' u' H' σ' cl dd x R er q => ?_⟩
      have hc1 : c1 < T.xs.length := G.nx ▸ q.1.2
      refine ⟨up c1 c, by rw [q.1.1]; exact G.ex c1 c hc1 hc, fun hu a na => ?_, fun hu => ?_⟩
      · simp only [hdR, hu, if_true] at p
        split at p
        · exact p Φ' u' H' _ x R (cst_dq h2)
        · exact p.elim
      · simp only [hdR, hu] at p
        exact k2 D W Z Φ u c1 d e h p Φ' u' H' σ' cl dd x R er q
  | (c, some i, .k k) :: r, hd :: hds, h => by
    unfold chkH at h
    split at h <;> first | (cases h; done) | (rename_i e1 e2; cases e1; done) | skip
    · rename_i c' i' k' r' x p nn kc kk kp rp q hs e1 e2
      cases e1; cases e2
      simp only [Bool.and_eq_true, decide_eq_true_eq] at h
      obtain ⟨⟨⟨⟨h1, h4⟩, h5⟩, h2⟩, h3⟩ := h
      obtain ⟨nm, hc⟩ := names_of G h1
      obtain ⟨l, k1, k2⟩ := sndH G h3
      refine ⟨(.ref (xa.cA c), some i, fun a cl d => tRet (tC (cV k))) :: l, .as nm (by rw [G.nN]; exact h4) (by show X.env.scope.names.lookup _ = _; rw [G.sc]; exact lcl_of h5) (fun a oe cl d pn _ _ => pss_one (ps_ret (cst_pe h2))) k1, fun D W Z Φ u c1 d e h p Φ' u' H' σ' cl dd x R er q => ?_⟩
      have hc1 : c1 < T.xs.length := G.nx ▸ q.1.2
      refine ⟨up c1 c, by rw [q.1.1]; exact G.ex c1 c hc1 hc, fun hu a na => ?_, fun hu => ?_⟩
      · simp only [hdR, hu, if_true] at p
        split at p
        · exact p Φ' u' H' _ x R (cst_dq h2)
        · exact p.elim
      · simp only [hdR, hu] at p
        exact k2 D W Z Φ u c1 d e h p Φ' u' H' σ' cl dd x R er q
  | (c, some i, .at) :: r, hd :: hds, h => by
    unfold chkH at h
    split at h <;> first | (cases h; done) | (rename_i e1 e2; cases e1; done) | skip
    · rename_i c' i' r' x p nn m mp f ap rp q hs e1 e2
      cases e1; cases e2
      simp only [Bool.and_eq_true, decide_eq_true_eq] at h
      obtain ⟨⟨⟨⟨⟨⟨h1, h4⟩, h5⟩, rfl⟩, h6⟩, h7⟩, h3⟩ := h
      obtain ⟨nm, hc⟩ := names_of G h1
      obtain ⟨l, k1, k2⟩ := sndH G h3
      obtain ⟨o1, o2, o3⟩ := okN_of h6
      have hl : X.env.kindOf m = some .local := by show X.env.scope.names.lookup _ = _; rw [G.sc]; exact lcl_of h5
      refine ⟨(.ref (xa.cA c), some i, suT T xa X.K f i) :: l, .as nm (by rw [G.nN]; exact h4) hl (fun a oe cl d pn hz hfv => pss_one ⟨fun pins s σ H D I ⟨c2, nm2, ib2, e3, e4, e5⟩ => ?_⟩) k1, fun D W Z Φ u c1 d e h p Φ' u' H' σ' cl dd x R er q => ?_⟩
      · obtain ⟨_, _, _, g4⟩ := G.mkx c2 nm2 _ _ e4
        obtain ⟨g5, g6⟩ := g4 f rfl
        exact (ps_ret (pe_xf g5 g6 hz hfv (pe_var (X := X.suite a ((a, oe) :: pn)) (by show X.N[i]? = _; rw [G.nN]; exact h4) (.inl hl) o1 o2))).run pins s σ H D I e5
      have hc1 : c1 < T.xs.length := G.nx ▸ q.1.2
      refine ⟨up c1 c, by rw [q.1.1]; exact G.ex c1 c hc1 hc, fun hu a na => ?_, fun hu => ?_⟩
      · simp only [hdR, hu, if_true] at p
        have hsl : slot e.length (some i) = true := by
          cases z : slot e.length (some i) with
          | true => rfl
          | false => rw [z] at p; exact p.elim
        rw [hsl] at p
        have hb := List.all_eq_true.mp h7 c1 (List.mem_range.mpr hc1)
        rw [hu] at hb
        simp only [Bool.not_true, Bool.false_or] at hb
        split at hb
        · rename_i nm3 g ib3 e4
          have hb := of_decide_eq_true hb
          subst hb
          obtain ⟨_, g2, _, _⟩ := G.mkx c1 nm3 _ _ e4
          obtain ⟨q1, q2⟩ := q
          rw [g2] at q2
          obtain ⟨da, v, rfl, q3, q4⟩ := q2
          refine ⟨c1, nm3, ib3, q1.1, e4, .ref a, ?_, rfl, q1.1, da, _, v, rfl, q3, by simp [List.lookup], p Φ' u' H' v x R q4⟩
          refine List.getElem?_set_self ?_
          rw [er.len]
          exact of_decide_eq_true hsl
        · cases hb
      · simp only [hdR, hu] at p
        exact k2 D W Z Φ u c1 d e h p Φ' u' H' σ' cl dd x R er q
  | (c, none, .at) :: r, hd :: hds, h => by simp [chkH] at h
  | [], _ :: _, h => by simp [chkH] at h
  | _ :: _, [], h => by simp [chkH] at h
end
end Mn

/-! MnV: every statement. -/
namespace Mn
open PySem L2 PySem.Spec PyProof.Rows

theorem sw_false {x : Expr} {gs : List Comprehension} {s2 : Scope} {pos py : Pos} {y : Str} {l : Nat} {env : Env} {sc : Scope} (hs : env.scope = sc)
    (h : (lcl sc y && (py.line == pos.line) && !(s2.names.any fun (n, k) => n == y && (k == .local || k == .cell))) = false) : swapsWith (.ListComp x gs s2 pos) (some (.Name y py)) l env = pure false := by
  subst hs
  unfold swapsWith
  simp only [Expr.pos]
  have key : ∀ (a b c d : Bool), (b && c && !d) = false → (a && b && c && !d) = false := by decide
  have e : lcl env.scope y = (env.kindOf y == some .local) := by
    unfold lcl Env.kindOf
    generalize env.scope.names.lookup y = z
    cases z with
    | none => rfl
    | some k => cases k <;> rfl
  rw [e] at h
  show (pure _ : Sem Bool) = pure false
  congr 1
  exact key _ _ _ _ h
theorem sw_yes {x : Expr} {gs : List Comprehension} {s2 : Scope} {pos py : Pos} {y : Str} {l : Nat} {env : Env} {sc : Scope} (hs : env.scope = sc) (hk : env.scope.kind = .function)
    (h : (lcl sc y && (py.line == pos.line) && !(s2.names.any fun (n, k) => n == y && (k == .local || k == .cell))) = true) : swapsWith (.ListComp x gs s2 pos) (some (.Name y py)) l env = pure true ∧ env.scope.names.lookup y = some .local := by
  subst hs
  simp only [Bool.and_eq_true, Bool.not_eq_true'] at h
  obtain ⟨⟨h1, h2⟩, h3⟩ := h
  exact ⟨sw_true hk (lcl_of h1) h2 h3, lcl_of h1⟩
section
variable {T : Tt} {xa : Xa} {up : Nat → Nat → Bool} {F : Nat → List Vl → MH → Rs Vl} {N : List Str} {n : Nat} {sc : Scope} {X : Cx} {W : WX} {Wn : Nat}
theorem names_pgs (G : Gs T xa up F N n sc X) : ∀ {is : List Nat} {ts : List Expr}, stoN N sc is ts = true → PGs X ts (is.foldr (fun i g => gCons (gName i) g) gNil) ∧ (assignEach ts X.env).length = is.length ∧ (assignEach ts X.env).findIdx? (·.1) = none
  | [], [], _ => ⟨pgs_nil, rfl, rfl⟩
  | i :: is, .Name x p :: ts, h => by
    simp only [stoN, Bool.and_eq_true] at h
    obtain ⟨h1, h2⟩ := h
    obtain ⟨g1, g2, g3⟩ := names_pgs G h2
    obtain ⟨s1, s2, s3⟩ := sto_of G.nN G.sc (X := X) (fun x _ => G.fn x) h1
    refine ⟨pgs_cons (pg_name (by rw [G.nN]; exact G.nd) s1 s2 s3) g1 rfl, ?_, ?_⟩
    · show ((false, assign (.Name x p) X.env) :: assignEach ts X.env).length = _
      simp [g2]
    · show ((false, assign (.Name x p) X.env) :: assignEach ts X.env).findIdx? (·.1) = _
      simp [List.findIdx?_cons, g3]
  | [], _ :: _, h => by simp [stoN] at h
  | i :: is, [], h => by simp [stoN] at h
  | i :: is, .Constant _ _ _ :: ts, h => by simp [stoN] at h
theorem er_pars {K : PySem.W.Frag} {Φ : Hp} {u : List Addr} {σ : L2.St} {e e' : Ev} : ∀ {is : List Nat} {vs : List V} {xs : List Vl} {Q : L2.St → Hp → Prop} {H : Hp}, pars is xs e = some e' → VRs K Φ u vs xs → ER K Φ u σ e → (∀ σ', ER K Φ u σ' e' → Q σ' H) →
    (is.foldr (fun i g => gCons (gName i) g) gNil : TGs) vs σ H Q
  | [i, j], vs, [x, y], Q, H, h, hv, er, q => by
    obtain ⟨v, w, rfl, h1, h2⟩ := vrs2 hv
    cases h
    exact ⟨v, [w], rfl, w, [], rfl, rfl, q _ ((er.set h1).set h2)⟩
  | [i, j, k], vs, [x, y, z], Q, H, h, hv, er, q => by
    cases h
    match vs, hv with
    | [a, b, c], ⟨h1, h2, h3, _⟩ => exact ⟨a, [b, c], rfl, b, [c], rfl, c, [], rfl, rfl, q _ (((er.set h1).set h2).set h3)⟩
  | [i, j, k, l], vs, [x, y, z, w], Q, H, h, hv, er, q => by
    cases h
    match vs, hv with
    | [a, b, c, d], ⟨h1, h2, h3, h4, _⟩ => exact ⟨a, [b, c, d], rfl, b, [c, d], rfl, c, [d], rfl, d, [], rfl, rfl, q _ ((((er.set h1).set h2).set h3).set h4)⟩
  | [], _, _, _, _, h, _, _, _ => by simp [pars] at h
  | [_], _, _, _, _, h, _, _, _ => by simp [pars] at h
  | _ :: _ :: _ :: _ :: _ :: _, _, _, _, _, h, _, _, _ => by simp [pars] at h
/-- a list of values, then a statement -/
theorem PoS.toSs {K : PySem.W.Frag} {Z Φ : Hp} {u : List Addr} {D : L2.Ends} {x : Rs (List Vl)} {e : Ev} {σ : L2.St} {f : List Vl → MH → Ss}
    (p : PoS K xa W Z Φ u (match x with | .ok vs h1 => f vs h1 | .ex c d h1 => .ex c d e h1 | .no => .no) D) (er : ER K Φ u σ e) :
    Po K xa (fun cl dd H => W cl dd σ H) Z Φ u x fun v h1 Φ1 u1 H1 => Ext Φ u Φ1 u1 ∧ HR K Z Φ1 u1 H1 h1 ∧ PoS K xa W Z Φ1 u1 (f v h1) D := by
  cases x with
  | ok a h' => exact fun Φ' u' H' x y => ⟨x, y, p.ext x⟩
  | ex c d h' => exact fun Φ' u' H' cl dd x y z => p Φ' u' H' σ cl dd x y (er.mono x) z
  | no => exact p
/-- the turns of a for -/
theorem for_ts {K : PySem.W.Frag} {J : It} {Z Φ1 H1 : Hp} {u1 : List Addr} {h1 : MH} {vs : List Vl} {xs : List PyData} {t : Tg} {f : Ev → MH → Ss} {e : Ev} {σ : L2.St} {D : L2.Ends}
    (wk : Wk K J Z Φ1 u1 h1 vs xs) (R : HR K Z Φ1 u1 H1 h1) (er : ER K Φ1 u1 σ e) (p : PoS K xa W Z Φ1 u1 (forR (fun h' => same h1 h' vs) t f xs e h1) D) :
    ∃ Wx : Nat → Nat → L2.St → Hp → Prop, (∃ m, Wx 0 m σ H1) ∧ ∀ i m σ H, Wx i m σ H →
      (J.stop i H ∧ D.nx σ H) ∨ (J.go i H ∧ ∃ Nx : L2.St → Hp → Prop, (∀ σ' H', Nx σ' H' → ∃ m', m' < m ∧ Wx (i + 1) m' σ' H') ∧ ∀ x H', J.yld i H x H' → tgOf K t x σ H' fun σ2 H2 => tsOf K xa W f { D with nx := Nx, ct := Nx, bk := D.nx } σ2 H2) := by
  refine ⟨fun i m σ H => m = xs.length - i ∧ i ≤ xs.length ∧ ∃ Φ' u' h' e', Ext Φ1 u1 Φ' u' ∧ HR K Z Φ' u' H h' ∧ ER K Φ' u' σ e' ∧ PoS K xa W Z Φ' u' (forR (fun h' => same h1 h' vs) t f (xs.drop i) e' h') D,
    ⟨_, rfl, Nat.zero_le _, Φ1, u1, h1, e, Ext.refl, R, er, p⟩, ?_⟩
  rintro i m σ H ⟨rfl, hi, Φ', u', h', e', x1, R1, er1, p1⟩
  by_cases hlt : i < xs.length
  · obtain ⟨x, hx⟩ : ∃ x, xs[i]? = some x := ⟨_, List.getElem?_eq_getElem hlt⟩
    have hdrop : xs.drop i = x :: xs.drop (i + 1) := by
      rw [List.drop_eq_getElem_cons hlt]
      have := List.getElem?_eq_getElem hlt
      rw [hx] at this; cases this; rfl
    rw [hdrop] at p1
    simp only [forR] at p1
    split at p1
    · rename_i hs
      obtain ⟨w1, w2⟩ := wk _ Φ' u' H h' x1 R1 hs
      obtain ⟨w3, w4⟩ := w1 i x hx
      refine .inr ⟨w3, fun σ' H' => i + 1 ≤ xs.length ∧ ∃ Φ' u' h' e', Ext Φ1 u1 Φ' u' ∧ HR K Z Φ' u' H' h' ∧ ER K Φ' u' σ' e' ∧ PoS K xa W Z Φ' u' (forR (fun h' => same h1 h' vs) t f (xs.drop (i + 1)) e' h') D,
        fun σ' H' ⟨g1, g⟩ => ⟨xs.length - (i + 1), by omega, rfl, g1, g⟩, fun v H' hy => ?_⟩
      obtain ⟨Φ2, n2, hv⟩ := w4 v H' hy
      have R2 := R1.new n2
      have X2 : Ext Φ' u' Φ2 u' := ⟨n2.le, List.prefix_refl _⟩
      split at p1
      · rename_i e2 he2
        refine ⟨Z, Φ2, u', e', h', .d x, e2, R2, er1.mono X2, hv, he2, fun σ2 er2 _ _ => ⟨Z, Φ2, u', e2, h', R2, er2 Φ2 u' Ext.refl, ?_⟩⟩
        cases hq : f e2 h' with
        | nx e3 h3 =>
          rw [hq] at p1
          exact fun Φ3 u3 H3 σ3 x3 R3 er3 => ⟨by omega, Φ3, u3, h3, e3, x1.trans (X2.trans x3), R3, er3, PoS.ext p1 (X2.trans x3)⟩
        | ct e3 h3 =>
          rw [hq] at p1
          exact fun Φ3 u3 H3 σ3 x3 R3 er3 => ⟨by omega, Φ3, u3, h3, e3, x1.trans (X2.trans x3), R3, er3, PoS.ext p1 (X2.trans x3)⟩
        | bk e3 h3 =>
          rw [hq] at p1
          exact fun Φ3 u3 H3 σ3 x3 R3 er3 => p1 Φ3 u3 H3 σ3 (X2.trans x3) R3 er3
        | rt v h3 =>
          rw [hq] at p1
          exact fun Φ3 u3 H3 v x3 R3 er3 => p1 Φ3 u3 H3 v (X2.trans x3) R3 er3
        | ex c d e3 h3 =>
          rw [hq] at p1
          exact fun Φ3 u3 H3 σ3 cl dd x3 R3 er3 xr => p1 Φ3 u3 H3 σ3 cl dd (X2.trans x3) R3 er3 xr
        | no => rw [hq] at p1; exact p1
      · exact p1.elim
    · exact p1.elim
  · have hie : i = xs.length := by omega
    subst hie
    rw [List.drop_length] at p1
    simp only [forR] at p1
    split at p1
    · rename_i hs
      obtain ⟨w1, w2⟩ := wk _ Φ' u' H h' x1 R1 hs
      exact .inl ⟨w2, p1 Φ' u' H σ Ext.refl R1 er1⟩
    · exact p1.elim
theorem if_t {P Q : Prop} (h : P) : if true = true then P else Q := h
theorem if_f {P Q : Prop} (h : Q) : if false = true then P else Q := by rw [if_neg Bool.false_ne_true]; exact h
/-- the turns of a while -/
theorem wh_ts {K : PySem.W.Frag} {c : Ev → MH → Rs Vl} {f : Ev → MH → Ss} {D : L2.Ends} {σ : L2.St} {H : Hp} (q : tsOf K xa W (fun e h => whR c f Wn e h) D σ H) : tWhile (ttOf K xa W c) (tsOf K xa W f) D σ H := by
  refine ⟨fun m σ H => tsOf K xa W (fun e h => whR c f m e h) D σ H, ⟨Wn, q⟩, ?_⟩
  rintro m σ H ⟨Z, Φ, u, e, h, R, er, p⟩
  cases m with
  | zero => exact p.elim
  | succ m =>
    simp only [whR] at p
    refine ⟨Z, Φ, u, e, h, R, er, (p.toS er).mono fun v h1 Φ1 u1 H1 _ _ ⟨x1, R1, p1⟩ => ?_⟩
    split at p1
    · refine ⟨true, rfl, ?_⟩
      refine if_t ?_
      refine ⟨fun σ' H' => tsOf K xa W (fun e h => whR c f m e h) D σ' H', fun σ' H' g => ⟨m, Nat.lt_succ_self _, g⟩, Z, Φ1, u1, e, h1, R1, er.mono x1, ?_⟩
      cases hq : f e h1 with
      | nx e3 h3 =>
        rw [hq] at p1
        exact fun Φ3 u3 H3 σ3 x3 R3 er3 => ⟨Z, Φ3, u3, e3, h3, R3, er3, PoS.ext p1 x3⟩
      | ct e3 h3 =>
        rw [hq] at p1
        exact fun Φ3 u3 H3 σ3 x3 R3 er3 => ⟨Z, Φ3, u3, e3, h3, R3, er3, PoS.ext p1 x3⟩
      | bk e3 h3 => rw [hq] at p1; exact p1
      | rt v h3 => rw [hq] at p1; exact p1
      | ex c d e3 h3 => rw [hq] at p1; exact p1
      | no => rw [hq] at p1; exact p1
    · refine ⟨false, rfl, ?_⟩
      refine if_f ?_
      exact p1 Φ1 u1 H1 σ Ext.refl R1 (er.mono x1)
    · exact p1.elim
end
end Mn

/-! MnW: every statement, every block. -/
namespace Mn
open PySem L2 PySem.Spec PyProof.Rows

section
variable {T : Tt} {xa : Xa} {up : Nat → Nat → Bool} {F : Nat → List Vl → MH → Rs Vl} {N : List Str} {n : Nat} {Wn : Nat}
theorem swp_isN {sc : Scope} {ts vs : List Expr} : optIs (swp sc ts vs) = 0 → swp sc ts vs = some none := by
  intro h
  cases e : swp sc ts vs with
  | none => rw [e] at h; simp [optIs] at h
  | some r => cases r with
    | none => rfl
    | some r => rw [e] at h; simp [optIs] at h
theorem swp_isS {sc : Scope} {ts vs : List Expr} : optIs (swp sc ts vs) = 1 → ∃ r, swp sc ts vs = some (some r) := by
  intro h
  cases e : swp sc ts vs with
  | none => rw [e] at h; simp [optIs] at h
  | some r => cases r with
    | none => rw [e] at h; simp [optIs] at h
    | some r => exact ⟨r, rfl⟩
/-- the names that are swapped are the targets' -/
theorem swp_names {sc : Scope} {ts vs : List Expr} {r : List Str} (h : swp sc ts vs = some (some r)) : ∃ l, r = ts.filterMap (fun
      | .Name id pos => if sc.names.lookup id == some .local && pos.line == l then some id else none
      | _ => none) ∧ r.length = ts.length := by
  unfold swp at h
  split at h
  · cases h
  · split at h
    · cases h
    · simp only at h
      split at h
      · cases h
      · rename_i hn
        split at h
        · cases h
        · split at h
          · cases h
          · cases h
            refine ⟨_, rfl, ?_⟩
            simp only [Bool.or_eq_true, not_or, bne_iff_ne, ne_eq, Decidable.not_not] at hn
            exact hn.1
theorem fm2 {f : Expr → Option Str} {a b : Expr} {x y : Str} (ha : ∀ z, f a = some z → z = x) (hb : ∀ z, f b = some z → z = y) (h : ([a, b].filterMap f).length = 2) : [a, b].filterMap f = [x, y] := by
  simp only [List.filterMap_cons, List.filterMap_nil] at h ⊢
  cases e1 : f a <;> cases e2 : f b <;> simp [e1, e2] at h ⊢
  exact ⟨ha _ e1, hb _ e2⟩
theorem fm3 {f : Expr → Option Str} {a b c : Expr} {x y z : Str} (ha : ∀ w, f a = some w → w = x) (hb : ∀ w, f b = some w → w = y) (hc : ∀ w, f c = some w → w = z) (h : ([a, b, c].filterMap f).length = 3) : [a, b, c].filterMap f = [x, y, z] := by
  simp only [List.filterMap_cons, List.filterMap_nil] at h ⊢
  cases e1 : f a <;> cases e2 : f b <;> cases e3 : f c <;> simp [e1, e2, e3] at h ⊢
  exact ⟨ha _ e1, hb _ e2, hc _ e3⟩
theorem lcl1 {sc : Scope} {i : Nat} {is : List Nat} {ts : List Expr} (h : lclN N sc (i :: is) ts = true) : ∃ x p r, ts = .Name x p :: r ∧ N[i]? = some x ∧ lcl sc x = true ∧ lclN N sc is r = true := by
  cases ts with
  | nil => simp [lclN] at h
  | cons e r =>
    cases e with
    | Name x p =>
      simp only [lclN, Bool.and_eq_true, decide_eq_true_eq] at h
      exact ⟨x, p, r, rfl, h.1.1, h.1.2, h.2⟩
    | _ => simp [lclN] at h
theorem lcl0 {sc : Scope} {ts : List Expr} (h : lclN N sc [] ts = true) : ts = [] := by
  cases ts with
  | nil => rfl
  | cons e r => simp [lclN] at h
theorem stD_some {o i a : Vl} {h h4 : MH} (e : stD o i a h = some h4) : ∃ k j d xs jj, o = .r k ∧ i = .d (.int j) ∧ a = .d d ∧ h[k]? = some (.l xs) ∧ L2.ixN xs.length j = some jj ∧ h4 = h.set k (.l (xs.set jj d)) := by
  unfold stD at e
  split at e
  · rename_i k j d
    split at e
    · rename_i xs hk
      rw [Option.map_eq_some_iff] at e
      obtain ⟨jj, e5, rfl⟩ := e
      exact ⟨k, j, d, xs, jj, rfl, rfl, rfl, hk, e5, rfl⟩
    · cases e
  · cases e
mutual
theorem sndS : ∀ (c : Sd) {X : Cx} {W : WX} {sc : Scope} {s : Stmt}, Gs T xa up F N n sc X → Takes X W → chkS T N sc up c s = true → PS X s (tsOf X.K xa W (sv Wn up F c))
  | .e a, X, W, sc, s, G, tk, h => by
    unfold chkS at h
    split at h
    · rename_i e pos
      simp only [Bool.and_eq_true] at h
      obtain ⟨h1, h2⟩ := h
      refine ps_imp (ps_expr (sndE a G.toGd tk h2).1 (noComp_sw h1 _ _ _)) fun D σ H ⟨Z, Φ, u, e, m, R, er, p⟩ => ?_
      simp only [sv] at p
      exact ⟨Z, Φ, u, e, m, R, er, (p.toS er).mono fun v h1 Φ1 u1 H1 _ _ ⟨x1, R1, p1⟩ w hw => p1 Φ1 u1 H1 σ Ext.refl R1 (er.mono x1)⟩
    · cases h
  | .s t a, X, W, sc, s, G, tk, h => by
    unfold chkS at h
    split at h
    · rename_i x p e q
      simp only [Bool.and_eq_true] at h
      obtain ⟨⟨h1, h2⟩, h3⟩ := h
      cases t with
      | t2 i j => simp [chkT] at h2
      | t3 i j k => simp [chkT] at h2
      | n i =>
        have h2 : sto N sc (fun _ => true) i x = true := h2
        obtain ⟨s1, s2, s3⟩ := sto_of G.nN G.sc (X := X) (fun x _ => G.fn x) h2
        have fin : ∀ (D : L2.Ends) (σ : L2.St) (H : Hp), tsOf X.K xa W (sv Wn up F (.s (.n i) a)) D σ H → tAsg (teOf X.K xa W (ev F a)) (gName i) D σ H := fun D σ H ⟨Z, Φ, u, e, m, R, er, p⟩ => by
          simp only [sv] at p
          exact ⟨Z, Φ, u, e, m, R, er, (p.toS er).mono fun v h1 Φ1 u1 H1 _ _ ⟨x1, R1, p1⟩ w hw => p1 Φ1 u1 H1 _ Ext.refl R1 ((er.mono x1).set hw)⟩
        simp only [Bool.or_eq_true] at h3
        by_cases hnc : noComp e = true
        · exact ps_imp (ps_set (by rw [G.nN]; exact G.nd) s1 s2 (sndE a G.toGd tk h1).1 (noComp_sw hnc _ _ _) s3) fin
        · rcases h3 with h3 | h3
          · exact absurd h3 hnc
          · split at h3
            · rename_i x2 gs s2' lp
              simp only [Bool.or_eq_true, Bool.not_eq_true'] at h3
              rcases h3 with h3 | h3
              · exact ps_imp (ps_set (by rw [G.nN]; exact G.nd) s1 s2 (sndE a G.toGd tk h1).1 (sw_false G.sc h3) s3) fin
              · rw [Bool.and_eq_true] at h3
                obtain ⟨h3, h4⟩ := h3
                obtain ⟨sy, yl⟩ := sw_yes (x := x2) (gs := gs) (l := q.line) G.sc G.kd h3
                cases a with
                | lc mm a t k es fs =>
                  have h1' := h1
                  unfold chkE at h1
                  split at h1
                  · rename_i x tg it ifs s2'' p' heq
                    cases heq
                    split at h1
                    · rename_i as hw
                      simp only [Bool.and_eq_true, decide_eq_true_eq] at h1
                      obtain ⟨⟨⟨⟨⟨g1, g2⟩, g3⟩, g4⟩, g5⟩, g6⟩ := h1
                      have al := sndEs es G.toGd tk g1
                      have bl : BlkOk X.N X.env.scope s2' (t.own N) := by rw [G.nN, G.sc]; exact blkOk_by g2
                      refine ps_imp (ps_setLc (g := tgOf X.K t) (tt := ttOf X.K xa W0 (evb F true fs)) (te := teOf X.K xa W0 (ev F a)) G.calm (by rw [G.nN]; exact G.nd) s1 yl sy (sndI G.toGd hw al) bl
                        (fun s H C cl fp => sndT (G.toGd.blk s H s2' C cl fp).nN G.nd (G.toGd.blk s H s2' C cl fp).sc (G.toGd.blk s H s2' C cl fp).calm (fn := blkF s2') (fun _ q => q) g3)
                        (fun s H C cl fp => sndF (W := W0) g4 (sndEs fs (G.toGd.blk s H s2' C cl fp) takes0' g5))
                        (fun s H C cl fp => (sndE a (G.toGd.blk s H s2' C cl fp) (W := W0) takes0' g6).1) (fun x => folded_of hw _ x)) fun D σ H q => ?_
                      have q1 := fin D σ H q
                      unfold tAsg at q1 ⊢
                      rw [own_slots]
                      exact lc_te q1
                    · cases h1
                  · cases h1
                | l2 mm a t k es t1 k1 es1 fs =>
                  have h1' := h1
                  unfold chkE at h1
                  split at h1
                  · rename_i x tg it tg1 it1 ifs s2'' p' heq
                    cases heq
                    split at h1
                    · rename_i as as1 hw hw1
                      simp only [Bool.and_eq_true, decide_eq_true_eq] at h1
                      obtain ⟨⟨⟨⟨⟨⟨⟨⟨g1, g2⟩, hap⟩, g3⟩, g3'⟩, g7⟩, g4⟩, g5⟩, g6⟩ := h1
                      have al := sndEs es G.toGd tk g1
                      have bl : BlkOk X.N X.env.scope s2' (t.own N ++ t1.own N) := by rw [G.nN, G.sc]; exact blkOk_by g2
                      have os : (t.own N ++ t1.own N).map (·.2) = t.slots ++ t1.slots := by rw [List.map_append, own_slots, own_slots]
                      refine ps_imp (ps_setLc2 (ifs := []) (g := tgOf X.K t) (tt := tYes) (wi1 := tiOf X.K xa W0 k1 (evs F es1)) (g1 := tgOf X.K t1) (tt1 := ttOf X.K xa W0 (evb F true fs)) (te := teOf X.K xa W0 (ev F a)) (vs1 := t1.slots) G.calm (by rw [G.nN]; exact G.nd) s1 yl sy (sndI G.toGd hw al) bl (fun i hi => by rw [os]; exact List.mem_append_right _ hi)
                        (fun s H C cl fp => sndT (G.toGd.blk s H s2' C cl fp).nN G.nd (G.toGd.blk s H s2' C cl fp).sc (G.toGd.blk s H s2' C cl fp).calm (fn := blkF s2') (fun _ q => q) g3)
                        (fun s H C cl fp => pts_nil)
                        (fun s H C cl fp => sndI (W := W0) (G.toGd.blk s H s2' C cl fp) hw1 (sndEs es1 (G.toGd.blk s H s2' C cl fp) takes0' g7))
                        (fun s H C cl fp => sndT (G.toGd.blk s H s2' C cl fp).nN G.nd (G.toGd.blk s H s2' C cl fp).sc (G.toGd.blk s H s2' C cl fp).calm (fn := blkF s2') (fun _ q => q) g3')
                        (fun s H C cl fp => sndF (W := W0) g4 (sndEs fs (G.toGd.blk s H s2' C cl fp) takes0' g5))
                        (fun s H C cl fp => (sndE a (G.toGd.blk s H s2' C cl fp) (W := W0) takes0' g6).1) (fun x => folded_of hw _ x) (fun env x => folded_of hw1 env x)) fun D σ H q => ?_
                      have q1 := fin D σ H q
                      unfold tAsg at q1 ⊢
                      rw [os]
                      exact l2_te (T := T) (N := N) (fun i hi => by
                        have := List.all_eq_true.mp hap i hi
                        simpa using this) q1
                    · cases h1
                  · cases h1
                | _ => simp at h4
            · cases h3
    · rename_i ts k p e q
      simp only [Bool.and_eq_true] at h
      obtain ⟨⟨h1, h2⟩, h3⟩ := h
      refine ps_imp (ps_asg (sndE a G.toGd tk h1).1 (sndT G.nN G.nd G.sc G.calm (X := X) (fn := fun _ => true) (fun x _ => G.fn x) h2) (tup_sw _ _ _) (noTup_st h3 _ _)) fun D σ H ⟨Z, Φ, u, e, m, R, er, p⟩ => ?_
      simp only [sv] at p
      refine ⟨Z, Φ, u, e, m, R, er, (p.toS er).mono fun v h1 Φ1 u1 H1 _ _ ⟨x1, R1, p1⟩ w hw => ?_⟩
      split at p1
      · rename_i e' he'
        exact ⟨Z, Φ1, u1, e, h1, v, e', R1, er.mono x1, hw, he', fun σ' g _ _ => p1 Φ1 u1 H1 σ' Ext.refl R1 (g Φ1 u1 Ext.refl)⟩
      · exact p1.elim
    · cases h
  | .pr is es, X, W, sc, s, G, tk, h => by
    unfold chkS at h
    split at h
    · rename_i ts k p vs k2 p2 q
      simp only [Bool.and_eq_true, decide_eq_true_eq] at h
      obtain ⟨⟨h1, h2⟩, h3⟩ := h
      have al := sndEs es G.toGd tk h1
      split at h3
      · rename_i ho
        simp only [Bool.and_eq_true, decide_eq_true_eq] at h3
        obtain ⟨h3, h4⟩ := h3
        obtain ⟨g1, g2, g3⟩ := names_pgs G h3
        refine ps_imp (ps_asg (pe_tup (al_pa al)) (pg_tup G.calm g1 g2 g3) (tup_sw _ _ _) (swp_ok (swp_isN ho) G.sc G.kd)) fun D σ H ⟨Z, Φ, u, e, m, R, er, p⟩ => ?_
        simp only [sv] at p
        refine ⟨Z, Φ, u, e, m, R, er, (p.toSs er).mono fun xs h1 Φ1 u1 H1 _ _ ⟨x1, R1, p1⟩ ws hw => ?_⟩
        split at p1
        · rename_i e' he'
          have hl : ws.length = is.length := by
            rw [hw.len]
            revert he'
            unfold pars
            split <;> intro he' <;> first | rfl | cases he'
          refine ⟨by rw [hl, sizeLine_eq]; omega, fun a ha => ⟨a, ws, rfl, .inl (.inl upd_same), hl, ?_⟩⟩
          exact er_pars he' hw (er.mono x1) fun σ' er' => p1 Φ1 u1 _ σ' Ext.refl (R1.extra ha) er'
        · exact p1.elim
      · rename_i ho
        simp only [Bool.and_eq_true, decide_eq_true_eq] at h3
        obtain ⟨⟨h3, h5⟩, h4⟩ := h3
        obtain ⟨r, hr⟩ := swp_isS ho
        obtain ⟨l, hr1, hr2⟩ := swp_names hr
        have sw := swp_ok (p := p) (p2 := p2) (k := k) (k2 := k2) hr G.sc G.kd
        have vs2 : ∀ (a b : Nat) (l : List Nat), is = a :: b :: l → ∃ x y r, vs = x :: y :: r ∧ r.length = l.length := fun a b l e => by
          subst e
          match vs, h2 with
          | x :: y :: r, h2 => exact ⟨x, y, r, rfl, by simpa using h2⟩
        match is, h3, h4, h5, vs2 with
        | [i, j], h3, _, h5, vs2 =>
          obtain ⟨x, px, r1, rfl, a1, a2, h3⟩ := lcl1 h3
          obtain ⟨y, py, r2, rfl, b1, b2, h3⟩ := lcl1 h3
          have := lcl0 h3
          subst this
          obtain ⟨a, b, l3, rfl, hl3⟩ := vs2 _ _ _ rfl
          have := List.length_eq_zero_iff.mp hl3
          subst this
          have hij : i ≠ j := by simpa [ndb] using h5
          have er0 : r = [x, y] := by
            rw [hr1] at hr2 ⊢
            refine fm2 (fun z hz => ?_) (fun z hz => ?_) hr2 <;> (simp only at hz; split at hz <;> simp_all)
          rw [er0] at sw
          refine ps_imp (ps_par G.calm (by rw [G.nN]; exact G.nd) (by rw [G.nN]; exact a1) (by rw [G.nN]; exact b1) hij (by rw [G.sc]; exact lcl_of a2) (by rw [G.sc]; exact lcl_of b2) (al_pa al) sw (tup_sw _ _ _)) fun D σ H ⟨Z, Φ, u, e, m, R, er, p⟩ => ?_
          simp only [sv] at p
          refine ⟨Z, Φ, u, e, m, R, er, (p.toSs er).mono fun xs h1 Φ1 u1 H1 _ _ ⟨x1, R1, p1⟩ ws hw => ?_⟩
          split at p1
          · rename_i e' he'
            obtain ⟨v, r1, e1, w, r2, e2, e3, q⟩ := er_pars (Q := fun σ' _ => D.nx σ' H1) (H := H1) he' hw (er.mono x1) fun σ' er' => p1 Φ1 u1 _ σ' Ext.refl R1 er'
            subst e3; subst e2; subst e1
            exact ⟨v, w, rfl, q⟩
          · exact p1.elim
        | [i, j, o], h3, _, h5, vs2 =>
          obtain ⟨x, px, r1, rfl, a1, a2, h3⟩ := lcl1 h3
          obtain ⟨y, py, r2, rfl, b1, b2, h3⟩ := lcl1 h3
          obtain ⟨z, pz, r3, rfl, c1, c2, h3⟩ := lcl1 h3
          have := lcl0 h3
          subst this
          obtain ⟨a, b, l3, rfl, hl3⟩ := vs2 _ _ _ rfl
          obtain ⟨c, rfl⟩ := List.length_eq_one_iff.mp hl3
          have hij : (i ≠ j ∧ i ≠ o) ∧ j ≠ o := by simpa [ndb] using h5
          have er0 : r = [x, y, z] := by
            rw [hr1] at hr2 ⊢
            refine fm3 (fun z hz => ?_) (fun z hz => ?_) (fun z hz => ?_) hr2 <;> (simp only at hz; split at hz <;> simp_all)
          rw [er0] at sw
          refine ps_imp (ps_par3 G.calm (by rw [G.nN]; exact G.nd) (by rw [G.nN]; exact a1) (by rw [G.nN]; exact b1) (by rw [G.nN]; exact c1) hij.1.1 hij.1.2 hij.2 (by rw [G.sc]; exact lcl_of a2) (by rw [G.sc]; exact lcl_of b2) (by rw [G.sc]; exact lcl_of c2) (al_pa al) sw (tup_sw _ _ _)) fun D σ H ⟨Z, Φ, u, e, m, R, er, p⟩ => ?_
          simp only [sv] at p
          refine ⟨Z, Φ, u, e, m, R, er, (p.toSs er).mono fun xs h1 Φ1 u1 H1 _ _ ⟨x1, R1, p1⟩ ws hw => ?_⟩
          split at p1
          · rename_i e' he'
            obtain ⟨v, r1, e1, w, r2, e2, w3, r3, e5, e3, q⟩ := er_pars (Q := fun σ' _ => D.nx σ' H1) (H := H1) he' hw (er.mono x1) fun σ' er' => p1 Φ1 u1 _ σ' Ext.refl R1 er'
            subst e3; subst e5; subst e2; subst e1
            exact ⟨v, w, w3, rfl, q⟩
          · exact p1.elim
        | [], _, h4, _, _ => exact absurd h4.1 (by simp)
        | [_], _, h4, _, _ => exact absurd h4.1 (by simp)
        | _ :: _ :: _ :: _ :: _, _, h4, _, _ => exact absurd h4.2 (by simp)
      · cases h3
    · cases h
  | .st o i a, X, W, sc, s, G, tk, h => by
    unfold chkS at h
    split at h
    · rename_i x y p e q
      simp only [Bool.and_eq_true] at h
      obtain ⟨⟨⟨⟨⟨h1, h2⟩, h3⟩, h4⟩, h5⟩, h6⟩ := h
      refine ps_imp (ps_asg (sndE a G.toGd tk h1).1 (pg_sub (sndE o G.toGd tk h2).1 (sndE i G.toGd tk h3).1 set_list (fun v => by cases y <;> first | rfl | (simp [noSlice] at h4))) (noComp_sw h5 (some (.Subscript x y p)) q.line X.env) (noTup_st h6 _ _)) fun D σ H ⟨Z, Φ, u, e, m, R, er, p⟩ => ?_
      simp only [sv] at p
      refine ⟨Z, Φ, u, e, m, R, er, (p.toS er).mono fun v h1 Φ1 u1 H1 _ _ ⟨x1, R1, p1⟩ w hw => ?_⟩
      refine ⟨Z, Φ1, u1, e, h1, R1, er.mono x1, (p1.toS (er.mono x1)).mono fun v2 h2 Φ2 u2 H2 _ _ ⟨x2, R2, p2⟩ w2 hw2 => ?_⟩
      refine ⟨Z, Φ2, u2, e, h2, R2, (er.mono x1).mono x2, (p2.toS ((er.mono x1).mono x2)).mono fun v3 h3 Φ3 u3 H3 _ _ ⟨x3, R3, p3⟩ w3 hw3 => ?_⟩
      have er3 := ((er.mono x1).mono x2).mono x3
      split at p3
      · rename_i h4 e4
        obtain ⟨k, j, d, xs, jj, rfl, rfl, rfl, hk, e5, rfl⟩ := stD_some e4
        obtain ⟨b, g1, rfl⟩ := hw2
        obtain ⟨b', vs, k1, k2, k3, k4⟩ := R3.at_ hk
        rw [pre_get x3.pre g1] at k1; cases k1
        have hw3 : Dq X.K Φ3 w3 (.int j) := hw3
        cases hw3
        refine ⟨b, vs, j, jj, rfl, rfl, k3, by rw [dpa_len k4]; exact e5, ?_⟩
        exact p3 Φ3 u3 _ σ Ext.refl (R3.put (xs := vs) (ds := xs) (pre_get x3.pre g1) k2 (dpa_set (dq_mono (x2.trans x3).le _ _ hw) jj k4)) er3
      · exact p3.elim
    · cases h
  | .fi c a b, X, W, sc, s, G, tk, h => by
    unfold chkS at h
    split at h
    · rename_i e x y q
      simp only [Bool.and_eq_true] at h
      obtain ⟨⟨h1, h2⟩, h3⟩ := h
      refine ps_imp (ps_if (sndE c G.toGd tk h1).2 (sndBk a G tk h2) (sndBk b G tk h3)) fun D σ H ⟨Z, Φ, u, e, m, R, er, p⟩ => ?_
      simp only [sv] at p
      refine ⟨Z, Φ, u, e, m, R, er, (p.toS er).mono fun v h1 Φ1 u1 H1 _ _ ⟨x1, R1, p1⟩ => ?_⟩
      split at p1
      · exact ⟨true, rfl, if_t ⟨Z, Φ1, u1, e, h1, R1, er.mono x1, p1⟩⟩
      · exact ⟨false, rfl, if_f ⟨Z, Φ1, u1, e, h1, R1, er.mono x1, p1⟩⟩
      · exact p1.elim
    · cases h
  | .fo t k es b, X, W, sc, s, G, tk, h => by
    unfold chkS at h
    split at h
    · rename_i tg it body q
      split at h
      · rename_i as hw
        simp only [Bool.and_eq_true] at h
        obtain ⟨⟨h1, h2⟩, h3⟩ := h
        have al := sndEs es G.toGd tk h1
        refine ps_imp (ps_for G.po G.calm (sndI G.toGd hw al) (sndT G.nN G.nd G.sc G.calm (X := X) (fn := fun _ => true) (fun x _ => G.fn x) h2) (sndBk b G tk h3) (fun x => folded_of hw _ x)) fun D σ H ⟨Z, Φ, u, e, m, R, er, p⟩ => ?_
        simp only [sv] at p
        refine ⟨Z, Φ, u, e, m, R, er, (p.toSs er).mono fun vs h1 Φ1 u1 H1 _ _ ⟨x1, R1, p1⟩ => ?_⟩
        split at p1
        · rename_i xs hx
          exact ⟨xs, hx, fun J wk => for_ts wk R1 (er.mono x1) p1⟩
        · exact p1.elim
      · cases h
    · cases h
  | .wh c b, X, W, sc, s, G, tk, h => by
    unfold chkS at h
    split at h
    · rename_i e body q
      simp only [Bool.and_eq_true] at h
      obtain ⟨h1, h2⟩ := h
      refine ps_imp (ps_while G.po (sndE c G.toGd tk h1).2 (sndBk b G tk h2)) fun D σ H q => wh_ts (Wn := Wn) ?_
      obtain ⟨Z, Φ, u, e, m, R, er, p⟩ := q
      simp only [sv] at p
      exact ⟨Z, Φ, u, e, m, R, er, p⟩
    · cases h
  | .re a, X, W, sc, s, G, tk, h => by
    unfold chkS at h
    split at h
    · rename_i e q
      refine ps_imp (ps_ret (sndE a G.toGd tk h).1) fun D σ H ⟨Z, Φ, u, e, m, R, er, p⟩ => ?_
      simp only [sv] at p
      exact ⟨Z, Φ, u, e, m, R, er, (p.toS er).mono fun v h1 Φ1 u1 H1 _ _ ⟨x1, R1, p1⟩ w hw => p1 Φ1 u1 H1 w Ext.refl R1 hw⟩
    · cases h
  | .rn, X, W, sc, s, G, tk, h => by
    unfold chkS at h
    split at h
    · refine ps_imp ps_retN fun D σ H ⟨Z, Φ, u, e, m, R, er, p⟩ => ?_
      simp only [sv] at p
      exact p Φ u H .non Ext.refl R .non
    · cases h
  | .ra c ib es, X, W, sc, s, G, tk, h => by
    unfold chkS at h
    split at h
    · rename_i x px as cp q
      simp only [Bool.and_eq_true, decide_eq_true_eq] at h
      obtain ⟨⟨⟨h1, h2⟩, h3⟩, h6⟩ := h
      have al := sndEs es G.toGd tk h3
      simp only [xIs, Bool.and_eq_true] at h1
      obtain ⟨⟨g1, g2⟩, g3⟩ := h1
      split at g1
      · rename_i y an ib' he
        rw [he] at h6
        have h6 : ib = ib' := eq_of_beq h6
        subst h6
        have g1 := of_decide_eq_true g1
        subst g1
        obtain ⟨m1, m2, m3, _⟩ := G.mkx c y an _ he
        obtain ⟨o1, _, o3⟩ := okN_of g3
        have hlt : c < xa.nx := by rw [G.nx]; exact (List.getElem?_eq_some_iff.mp he).1
        match as, h2 with
        | [b], _ =>
          obtain ⟨d, rfl, z1, _, _⟩ := al1 al
          have mk := m3 X rfl rfl rfl rfl rfl G.calm G.room G.gu (gl_of G.toGd g2) o3 o1 b _ px cp z1 (al_pa al)
          refine ps_imp (ps_raise G.calm tk mk) fun D σ H ⟨Z, Φ, u, e, m, R, er, p⟩ => ?_
          simp only [sv] at p
          refine ⟨Z, Φ, u, e, m, R, er, (p.toSs er).mono fun xs h1 Φ1 u1 H1 _ _ ⟨x1, R1, p1⟩ ws hw => ?_⟩
          split at p1
          · rename_i d' hd
            split at p1
            rotate_left
            · exact p1.elim
            rename_i hra
            have hdd := datas_dpa hw hd
            obtain ⟨v, rfl⟩ : ∃ v, ws = [v] := by
              cases hdd with
              | cons _ hh => cases hh; exact ⟨_, rfl⟩
            have hv : Dq X.K Φ1 v d' := by
              cases hdd with
              | cons hh _ => exact hh
            refine ⟨v, rfl, fun hib => ?_, ?_⟩
            · subst hib
              unfold raOk at hra
              split at hra
              · contradiction
              · rename_i j _
                cases hv
                exact ⟨_, rfl, of_decide_eq_true hra⟩
              · cases hra
            cases an with
            | none => exact p1 Φ1 u1 H1 σ _ _ Ext.refl R1 (er.mono x1) ⟨⟨rfl, hlt⟩, by rw [m2]⟩
            | some f => exact fun da hda => p1 Φ1 u1 _ σ _ _ Ext.refl (R1.extra hda) (er.mono x1) ⟨⟨rfl, hlt⟩, by rw [m2]; exact ⟨da, v, rfl, upd_same, hv⟩⟩
          · exact p1.elim
      · cases g1
    · cases h
  | .tr b hs, X, W, sc, s, G, tk, h => by
    unfold chkS at h
    split at h
    · rename_i body hd hds q
      simp only [Bool.and_eq_true] at h
      obtain ⟨h1, h2⟩ := h
      obtain ⟨l, k1, k2⟩ := sndH G h2
      refine ps_imp (ps_tryG (tb := fun W => tsOf X.K xa W (bv Wn up F b)) (by rw [G.nN]; exact G.nd) G.st G.fr tk (fun W' pn xe tk' po => sndBk b (G.tr pn xe po) tk' h1) k1) fun D σ H ⟨Z, Φ, u, e, m, R, er, p⟩ => ?_
      simp only [sv] at p
      refine ⟨Z, Φ, u, e, m, R, er, ?_⟩
      cases hq : bv Wn up F b e m with
      | ex c d e1 h1 =>
        rw [hq] at p
        exact k2 D W Z Φ u c d e1 h1 p
      | nx e3 h3 => rw [hq] at p; exact p
      | ct e3 h3 => rw [hq] at p; exact p
      | bk e3 h3 => rw [hq] at p; exact p
      | rt v h3 => rw [hq] at p; exact p
      | no => rw [hq] at p; exact p
    · cases h
  | .pa, X, W, sc, s, G, tk, h => by
    unfold chkS at h
    split at h
    · refine ps_imp ps_pass fun D σ H ⟨Z, Φ, u, e, m, R, er, p⟩ => ?_
      simp only [sv] at p
      exact p Φ u H σ Ext.refl R er
    · cases h
  | .br, X, W, sc, s, G, tk, h => by
    unfold chkS at h
    split at h
    · refine ps_imp ps_break fun D σ H ⟨Z, Φ, u, e, m, R, er, p⟩ => ?_
      simp only [sv] at p
      exact p Φ u H σ Ext.refl R er
    · cases h
  | .co, X, W, sc, s, G, tk, h => by
    unfold chkS at h
    split at h
    · refine ps_imp ps_continue fun D σ H ⟨Z, Φ, u, e, m, R, er, p⟩ => ?_
      simp only [sv] at p
      exact p Φ u H σ Ext.refl R er
    · cases h
theorem sndBk : ∀ (c : Bk) {X : Cx} {W : WX} {sc : Scope} {s : List Stmt}, Gs T xa up F N n sc X → Takes X W → chkB T N sc up c s = true → PSs X s (tsOf X.K xa W (bv Wn up F c))
  | .n, X, W, sc, s, G, tk, h => by
    cases s with
    | nil => exact pss_imp pss_nil fun D σ H ⟨Z, Φ, u, e, m, R, er, p⟩ => by simp only [bv] at p; exact p Φ u H σ Ext.refl R er
    | cons a as => simp [chkB] at h
  | .c a r, X, W, sc, s, G, tk, h => by
    cases s with
    | nil => simp [chkB] at h
    | cons s ss =>
      simp only [chkB, Bool.and_eq_true] at h
      obtain ⟨h1, h2⟩ := h
      refine pss_imp (pss_cons (sndS a G tk h1) (sndBk r G tk h2)) fun D σ H ⟨Z, Φ, u, e, m, R, er, p⟩ => ?_
      simp only [bv] at p
      exact ⟨Z, Φ, u, e, m, R, er, p.then⟩
end
end
end Mn

/-! MnF: defs, by the depth of the calls; the law's call. -/
namespace Mn
open PySem L2 PySem.Spec PyProof.Rows

section
variable {P : Program} {w : World} {K : PySem.W.Frag} {mg : Str → Option Value} {base : Heap}
/-- THE RULE for a def -/
theorem fnG_of {x : Str} {st : Stmt} {f : Addr} {fd : FuncData} {N ps : List Str} {k : Nat} {sp : Sp} (F : L2.Fun K x x st f fd) (S : FnScope N ps (L2.defScope st)) (len : ∀ vs H Q E, sp vs H Q E → vs.length = ps.length)
    (body : ∀ (cdv : Value) (A : Around) (outer : List Env) (s : Shared) (H : Hp) (vs : List V) (Q : VK) (E : XK), A.guards = some [] → Room k (A.deeper (envOfC x (L2.defScope st) s.heap.objs.size f cdv)) → sp vs H Q E →
      ∃ t, PSs (cxOf (L2.CX P w) P w K mg base N x (L2.defScope st) f cdv A outer s H E) (L2.defBody st) t ∧ t { nx := fun _ H' => Q .non H', rt := Q } (start N vs) H) :
    FnG P w K mg base (L2.CX P w) (k + 1) f fd ps sp := by
  obtain ⟨oc, od, kV, doc, pm, an, cdv, ct, osl, rfl, lk, hcd⟩ := F.ex
  refine ⟨len, fun A outer s H args us vs Q E hg hr e0 hb r hsp => ?_⟩
  have hl := len _ _ _ _ hsp
  have KX : K.In s.heap := e0.mod.kin.keeps fun b o e => (e0.bs b o e).1
  have lim : s.heap.NoLimit := e0.mod.nolimit.keeps fun b o e => (e0.bs b o e).1
  have kinds : ∀ y ∈ ps.zip us, (L2.defScope st).names.lookup y.1 = some .local ∨ ((L2.defScope st).names.lookup y.1 = some .cell ∧ ((cellsFrom (s.heap.objs.size + 1) (L2.defScope st).names []).lookup y.1).isSome = true) := fun ⟨n, v⟩ hy =>
    (S.par n (List.of_mem_zip hy).1).elim .inl fun q => .inr ⟨q, PySem.W.cellsFrom_some _ _ _ (.inl q)⟩
  refine codeAny_call_function hr.depth (KX _ _ lk) rfl S.co S.gen rfl (PySem.W.codeRec_of KX hcd) (hb _ _ _ _ (wpAny_newFunctionEnv_cells S.kind kinds fun env he s1 x => ?_))
  subst he
  obtain ⟨t, ht, hq⟩ := body cdv A outer s H vs Q E hg (hr.deeper _) hsp
  have I : Inv (cxOf (L2.CX P w) P w K mg base N _ _ f cdv A outer s H E) [] (start N vs) H s1 := inv_start S hr.hd e0 hl r x
  refine ⟨lim.keeps x.toInCall.keep, codeAny_func (wpAny_mono (ht.run [] s1 (start N vs) H _ I hq) (fun fl s' hs => ?_) fun e s' hs => hs)⟩
  match fl, hs with
  | .ret u, ⟨v, σ', H', J, rv, q⟩ => exact ⟨v, H', J.os, J.bare, J.base, J.hok, rv, q⟩
  | .next, ⟨σ', H', J, q⟩ => exact ⟨V.non, H', J.os, J.bare, J.base, J.hok, rfl, q⟩
  | .brk, ⟨_, _, _, q⟩ => exact q.elim
  | .cont, ⟨_, _, _, q⟩ => exact q.elim
end

/-! ### the text's defs -/
structure Di where
  st : Stmt
  N : List Str
  ps : List Str
  bd : Bk
def Di.df (d : Di) : Df := ⟨d.ps.length, d.N.length, d.bd⟩
def scOk (N P : List Str) (sc : Scope) : Bool :=
  (sc.kind == .function) && !sc.isCoroutine && !sc.isGenerator && ndS N && decide (N.take P.length = P) && P.all (loc sc) && sc.names.all fun y => !(y.2 == .free)
where ndS : List Str → Bool
  | [] => true
  | x :: r => !(r.any fun y => decide (y = x)) && ndS r
theorem ndS_ok : ∀ {N : List Str}, scOk.ndS N = true → N.Nodup
  | [], _ => .nil
  | x :: r, h => by
    simp only [scOk.ndS, Bool.and_eq_true, Bool.not_eq_true', List.any_eq_false, decide_eq_true_eq] at h
    exact List.nodup_cons.mpr ⟨fun m => h.1 x m rfl, ndS_ok h.2⟩
theorem loc_of {sc : Scope} {x : Str} (h : loc sc x = true) : sc.names.lookup x = some .local ∨ sc.names.lookup x = some .cell := by
  unfold loc at h
  split at h
  · exact .inl ‹_›
  · exact .inr ‹_›
  · cases h
theorem scOk_ok {N P : List Str} {sc : Scope} (h : scOk N P sc = true) : FnScope N P sc := by
  simp only [scOk, Bool.and_eq_true, Bool.not_eq_true', decide_eq_true_eq, List.all_eq_true] at h
  obtain ⟨⟨⟨⟨⟨⟨h1, h2⟩, h3⟩, h4⟩, h5⟩, h6⟩, h7⟩ := h
  refine ⟨?_, h2, h3, ndS_ok h4, h5, fun x m => loc_of (h6 x m), fun y m z => ?_⟩
  · revert h1; cases sc.kind <;> intro h1 <;> first | rfl | cases h1
  · have := h7 y m
    rw [z] at this
    cases this
def chkD (T : Tt) (up : Nat → Nat → Bool) (d : Di) : Bool := scOk d.N d.ps (L2.defScope d.st) && chkB T d.N (L2.defScope d.st) up d.bd (L2.defBody d.st)
/-- every def is as it is told -/
def chkAll (T : Tt) (up : Nat → Nat → Bool) (ds : List Di) : Bool := ds.all (chkD T up) && decide (T.fs.map (·.2) = ds.map fun d => d.ps.length)
/-- a def of the text stands behind the top -/
def FD (K : PySem.W.Frag) (mg : Str → Option Value) (x : Str) (d : Di) : Prop := ∃ a fd, mg x = some (.ref a) ∧ L2.Fun K x x d.st a fd ∧ Binds K fd d.ps []
/-- what the rest of the module must have -/
structure Mx (T : Tt) (xa : Xa) (up : Nat → Nat → Bool) (P : Program) (w : World) (K : PySem.W.Frag) (mg : Str → Option Value) (base : Heap) : Prop where
  hb : ∀ x ∈ T.bn, mg x = none
  hc : ∀ p ∈ T.cs, ∃ u v, mg p.1 = some u ∧ RelV v u ∧ Dq K (fun _ => none) v p.2
  mkx : ∀ (c : Nat) (nm : Str) (an : Option Str) (ib : Bool), T.xs[c]? = some (nm, an, ib) → mg nm = some (.ref (xa.cA c)) ∧ xa.cN c = an ∧
    (∀ X' : Cx, X'.prog = P → X'.w = w → X'.K = K → X'.mg = mg → X'.base = base → X'.calm = true → Room 3 X'.A → Gl X' nm → nm ≠ "__name__" → (nm == ("__debug__" : Str)) = false → MkOk X' nm (xa.cA c) an ib) ∧
    (∀ f, an = some f → XfC K (xa.cA c) ∧ PySem.W.findIn K (.ref (xa.cA c)) f = some none)
  nx : xa.nx = T.xs.length
  ex : ∀ c c', c < T.xs.length → c' < T.xs.length → PySem.W.exmOne K (.ref (xa.cA c)) (.ref (xa.cA c')) = some (up c c')

section
variable {K : PySem.W.Frag} {xa : Xa} {W : WX} {Z Φ : Hp} {u : List Addr} {h : MH} {E : XK} {Q : VK}
theorem take_pre {α : Type} {u u' : List α} (p : u <+: u') {n : Nat} (e : u.length = n) : u'.take n = u := by
  obtain ⟨t, rfl⟩ := p
  subst e
  simp
/-- a body's end is the def's end -/
theorem PoS.fin {r : Ss} (hl : u.length = h.length) (p : Po K xa (fun c d H => E c d H) Z Φ u (Mn.fin h.length r) fun x _ Φ' u' H' => ∀ v, VR K Φ' u' v x → Q v H') :
    PoS K xa (fun c d _ H => E c d H) Z Φ u r { nx := fun _ H' => Q .non H', rt := Q } := by
  cases r with
  | nx e h' =>
    intro Φ' u' H' σ' x R er
    have t := take_pre x.pre hl
    have R' := R.take h.length
    rw [t] at R'
    exact p Φ' u H' ⟨x.le, List.prefix_refl _⟩ R' .non .non
  | rt v h' =>
    intro Φ' u' H' w x R rv
    cases v with
    | d y =>
      have t := take_pre x.pre hl
      have R' := R.take h.length
      rw [t] at R'
      exact p Φ' u H' ⟨x.le, List.prefix_refl _⟩ R' w rv
    | r k => exact p Φ' u' H' x R w rv
    | s ns => exact p.elim
  | ex c d e h' =>
    intro Φ' u' H' σ' cl dd x R er xr
    have t := take_pre x.pre hl
    have R' := R.take h.length
    rw [t] at R'
    exact p Φ' u H' cl dd ⟨x.le, List.prefix_refl _⟩ R' xr
  | bk e h' => exact p.elim
  | ct e h' => exact p.elim
  | no => exact p.elim
theorem vrs_get {vs : List V} {as : List Vl} (r : VRs K Φ u vs as) {i : Nat} {x : Vl} (q : as[i]? = some x) : ∃ v, vs[i]? = some v ∧ VR K Φ u v x := by
  induction as generalizing vs i with
  | nil => simp at q
  | cons a as ih =>
    cases vs with
    | nil => exact r.elim
    | cons v vs =>
      cases i with
      | zero => simp at q; subst q; exact ⟨v, rfl, r.1⟩
      | succ i => exact ih r.2 (by simpa using q)
theorem er_start {N : List Str} {vs : List V} {as : List Vl} {np : Nat} (r : VRs K Φ u vs as) (hn : as.length = np) (hN : np ≤ N.length) : ER K Φ u (L2.start N vs) (as.map some ++ List.replicate (N.length - np) none) := by
  have hl := r.len
  refine ⟨by unfold L2.start; simp; omega, fun i x q => ?_⟩
  by_cases hi : i < as.length
  · rw [List.getElem?_append_left (by simpa using hi), List.getElem?_map] at q
    cases e : as[i]? with
    | none => rw [e] at q; cases q
    | some y =>
      rw [e] at q
      cases q
      obtain ⟨v, h1, h2⟩ := vrs_get r e
      refine ⟨v, ?_, h2⟩
      unfold L2.start
      rw [List.getElem?_append_left (by simpa [hl] using hi), List.getElem?_map, h1]; rfl
  · rw [List.getElem?_append_right (by simpa using hi), List.getElem?_replicate] at q
    split at q <;> cases q
end
section
variable {P : Program} {w : World} {K : PySem.W.Frag} {mg : Str → Option Value} {base : Heap} {T : Tt} {xa : Xa} {up : Nat → Nat → Bool} {ds : List Di} {Wn : Nat}
theorem all_fn (M : Mx T xa up P w K mg base) (hk : chkAll T up ds = true) (hd : ∀ (i : Nat) (f : Str × Nat) (d : Di), T.fs[i]? = some f → ds[i]? = some d → FD K mg f.1 d) :
    ∀ (n i : Nat) (x : Str) (d : Di), T.fs[i]? = some (x, d.ps.length) → ds[i]? = some d → ∀ a fd, mg x = some (.ref a) → L2.Fun K x x d.st a fd →
      FnG P w K mg base (L2.CX P w) (n + 3) a fd d.ps (spOf K xa (run Wn up (ds.map Di.df) n i) d.ps.length)
  | 0, i, x, d, _, _, a, fd, _, _ => ⟨fun vs H Q E h => h.1, fun A outer s H args us vs Q E _ _ _ _ _ ⟨_, _, _, _, _, _, _, _, p⟩ => p.elim⟩
  | n + 1, i, x, d, hi, hd', a, fd, hm, F => by
    have ih := all_fn M hk hd n
    simp only [chkAll, Bool.and_eq_true, decide_eq_true_eq] at hk
    obtain ⟨k1, k2⟩ := hk
    have hkd := List.all_eq_true.mp k1 d (List.mem_of_getElem? hd')
    simp only [chkD, Bool.and_eq_true] at hkd
    have S := scOk_ok hkd.1
    refine fnG_of F S (fun vs H Q E h => h.1) fun cdv A outer s H vs Q E hg hr ⟨hl, Z, Φ, u, as, h, R, rv, p⟩ => ?_
    have hpl : d.ps.length ≤ d.N.length := by have := congrArg List.length S.pre; rw [List.length_take] at this; omega
    refine ⟨tsOf K xa (fun c dd _ H => E c dd H) (bv Wn up (run Wn up (ds.map Di.df) n) d.bd), sndBk (T := T) (N := d.N) (n := n + 3) (sc := L2.defScope d.st) d.bd ?_ (takes_of rfl rfl rfl rfl) hkd.2, ?_⟩
    · refine ⟨⟨rfl, S.nd, rfl, rfl, hr, hg, M.hb, M.hc, fun j g hj => ?_⟩, fun _ => rfl, rfl, rfl, passes_of (K := fun e s'' => L2.CX P w outer H s E e s'') rfl, S.kind, fun c nm an ib hc => ?_, M.nx, M.ex⟩
      · have hlen : T.fs.length = ds.length := by have := congrArg List.length k2; simpa using this
        obtain ⟨e, he⟩ : ∃ e, ds[j]? = some e := by
          have := (List.getElem?_eq_some_iff.mp hj).1
          exact ⟨_, List.getElem?_eq_getElem (by omega)⟩
        have hnp : g.2 = e.ps.length := by
          have := congrArg (fun l => l[j]?) k2
          simp only [List.getElem?_map, hj, he, Option.map_some] at this
          exact Option.some.inj this
        obtain ⟨b, fe, h1, h2, h3⟩ := hd j g e hj he
        obtain ⟨gx, gn⟩ := g
        cases hnp
        exact ⟨b, fe, e.ps, h1, h2.kp, h3, rfl, ih j gx e hj he b fe h1 h2⟩
      · obtain ⟨m1, m2, m3, m4⟩ := M.mkx c nm an ib hc
        exact ⟨m1, m2, fun X' e1 e2 e3 e4 e5 e6 e7 _ e8 e9 e10 => m3 X' e1 e2 e3 e4 e5 e6 (e7.mono (by omega)) e8 e9 e10, m4⟩
    · have hT : (ds.map Di.df)[i]? = some d.df := by rw [List.getElem?_map, hd']; rfl
      simp only [run, hT] at p
      split at p
      · rename_i hal
        have hal : as.length = d.ps.length := hal
        refine ⟨Z, Φ, u, _, h, R, er_start (N := d.N) (np := d.ps.length) rv hal hpl, ?_⟩
        exact PoS.fin R.len p
      · exact p.elim
end

/-! ### the law's call -/
section
variable {P : Program} {w : World} {K : PySem.W.Frag} {mg mb : Str → Option Value} {k : Nat} {fa a : Addr} {fd : FuncData} {x : Str} {sp : Sp} {s₁ : Shared} {vs : List Value} {ns : List Int}
theorem call_law (KX : K.In s₁.heap) (hns : s₁.heap.Ns mainGlobals mg) (hb : s₁.heap.Ns builtinsNs mb) (hbb : ∀ x : Str, x ≠ "__name__" → mb x = bootBuiltins x) (hlim : s₁.heap.NoLimit) (hg : s₁.gens = #[])
    (ha : s₁.heap.get? a = some { cls := .type "list", data := .seq vs.toArray }) (hi : IntsAre vs ns) (hl : ns.length ≤ sizeLine) (hr : Room k callerA)
    (F : ∀ base : Heap, K.In base → base.Ns mainGlobals mg → FnG P w K mg base (L2.CX P w) k fa fd [x] sp) (hbind : ∀ (s : Shared) (u : Value), BindsTo s fd ⟨[u], []⟩ [(x, u)])
    (hsp : ∀ H : Hp, SqL K H a (ns.map V.int) → sp [.ref a] H (fun v _ => v = .bl true) fun _ _ _ => False) :
    codeAny (model P w) callerA (.call (.ref fa) ⟨[.ref a], []⟩) (fun r s' => r = .ok (.ret (.bool true)) ∧ OldK s₁.heap s'.heap ∧ s'.os = s₁.os ∧ AllBare s'.gens) s₁ := by
  have rv := vals_ints hi
  -- D: what is tracked, at most the script
  have go : ∀ D : Option HO, (∀ u, D = some u → ∃ o, u = .frz o (.lst (ns.map V.int)) ∧ s₁.heap.get? a = some o ∧ ∃ its : List Value, Vals (ns.map V.int) its ∧ o.data = .seq its.toArray ∧ o.cls = .type "list") → (D ≠ none → K.lookup a = none) →
      SqL K (fun b => if b = a then D else none) a (ns.map V.int) → HOk P w (fun b => if b = a then D else none) s₁.heap →
      codeAny (model P w) callerA (.call (.ref fa) ⟨[.ref a], []⟩) (fun r s' => r = .ok (.ret (.bool true)) ∧ OldK s₁.heap s'.heap ∧ s'.os = s₁.os ∧ AllBare s'.gens) s₁ := by
    intro D hD hK hS hok
    obtain ⟨H, eH⟩ : ∃ H : Hp, H = fun b => if b = a then D else none := ⟨_, rfl⟩
    have Hne : ∀ {b : Addr}, b ≠ a → H b = none := fun {b} n => by rw [eH]; exact if_neg n
    have Hat : H a = D := by rw [eH]; exact if_pos rfl
    rw [← eH] at hS hok
    have up : ∀ {b : Addr} {o : Obj}, s₁.heap.get? b = some o → (∀ es ep, o.data = .dict es ep → (hidT s₁.heap H).get? b = some o) := fun {b o} e es ep d => hidT_get e (Hne fun z => by
      subst z
      rw [ha] at e
      cases e
      cases d)
    have tab : ∀ {b : Addr} {m : Str → Option Value}, s₁.heap.Ns b m → (hidT s₁.heap H).Ns b m := fun {b m} ⟨o, es, ep, e, d, r⟩ => ⟨o, es, ep, up e es ep d, d, r⟩
    have inK : K.In (hidT s₁.heap H) := fun b o e => hidT_get (KX b o e) (by
      by_cases hba : b = a
      · subst hba
        rw [Hat]
        cases z : D with
        | none => rfl
        | some u => rw [hK (by rw [z]; simp)] at e; cases e
      · exact Hne hba)
    obtain ⟨mc, l1, l2⟩ := hlim
    have e0 : Env0 P w K mg (hidT s₁.heap H) callerA [] s₁ H := ⟨rfl, ⟨inK, tab hns, ⟨mb, tab hb, hbb⟩, ⟨mc, tab l1, l2⟩⟩, fun _ _ e => of_hidT e, Nat.le_of_eq (hidT_size _ _), trivial, fun b hb => by simp [frs] at hb, hok, .of_eq hg⟩
    refine codeAny_mono ((F _ inK (tab hns)).run callerA [] s₁ H ⟨[.ref a], []⟩ [.ref a] [.ref a] _ _ rfl hr e0 (hbind s₁ (.ref a)) (.cons rfl .nil) (hsp H hS)) fun r s' h => ?_
    match r, h with
    | .error e, h =>
      obtain ⟨_, _, _, _, _, _, _, _, _, _, _, _, q⟩ := h
      exact q.elim
    | .ok .next, h => exact h.elim
    | .ok .brk, h => exact h.elim
    | .ok .cont, h => exact h.elim
    | .ok (.ret u), ⟨v, H', os, bare, un, hok', r', q⟩ =>
      have q' : v = .bl true := q
      subst q'
      have r' : u = Value.bool true := r'
      subst r'
      refine ⟨rfl, OldK.of_keep fun b o e => ?_, os, bare⟩
      cases z : H b with
      | none => exact un.keep b o e z (by simp [frs]) (by simp)
      | some y =>
        have hba : b = a := by
          apply Classical.byContradiction
          intro n
          rw [Hne n] at z
          cases z
        subst hba
        rw [Hat] at z
        obtain ⟨ob, rfl, g1, _⟩ := hD y z
        have z2 := un.frzs b ob _ (Hat.trans z)
        obtain ⟨e2, _⟩ := hok' b _ z2
        rw [e] at g1; cases g1
        exact e2
  cases hk : K.lookup a with
  | some o =>
    have e := KX a o hk
    rw [ha] at e
    cases e
    refine go none (fun u z => by cases z) (fun z => absurd rfl z) (.inr ⟨_, vs.toArray, _, hk, rfl, rfl, rfl, by rw [List.size_toArray, hi.length]; exact hl, by simpa using rv⟩) fun b u z => ?_
    exfalso
    revert z
    show (if b = a then (none : Option HO) else none) = some u → False
    split <;> intro z <;> cases z
  | none =>
    refine go (some (.frz { cls := .type "list", data := .seq vs.toArray } (.lst (ns.map V.int)))) (fun u z => by cases z; exact ⟨_, rfl, ha, vs, rv, rfl, rfl⟩) (fun _ => hk) (.inl (.inr ⟨_, if_pos rfl⟩)) fun b u z => ?_
    by_cases hba : b = a
    · have z' := (if_pos hba).symm.trans z
      cases z'
      subst hba
      exact ⟨ha, by rw [List.length_map]; exact hl, vs, _, rv, ha⟩
    · have z' := (if_neg hba).symm.trans z
      cases z'
end
/-- what k_head leaves -/
theorem walkM {l : PySem.W.OpenLaw} {n k : Nat} {q : Program} {loose : List Str} {XP : (Str → Option Value) → Heap → Prop} {YP : World → Heap → Prop} {d : DefRec} {K : Params → PySem.W.Frag} {x : Str} {g : List Vl → MH → Rs Vl}
    (hn : l.most = some n) (hn2 : n ≤ sizeLine) (hdf : d.params.defaults = []) (hr : Room k callerA) (hY : ∀ (w : World) (h : Heap), YP w h → (K w.params).In h)
    (hg : ∀ ns : List Int, ns.length ≤ n → ∃ h', g [.s ns] [] = .ok (.d (.bool true)) h')
    (F : ∀ (w : World) (mg : Str → Option Value) (fa : Addr) (h : Heap), (K w.params).In h → h.Ns mainGlobals mg → mg d.name = some (.ref fa) →
      ∃ (fd : FuncData) (xa : Xa), (∀ (s : Shared) (u : Value), BindsTo s fd ⟨[u], []⟩ [(x, u)]) ∧
        ∀ base : Heap, (K w.params).In base → base.Ns mainGlobals mg → FnG l.prog w (K w.params) mg base (L2.CX l.prog w) k fa fd [x] (spOf (K w.params) xa g 1)) :
    PySem.W.WalkO q loose XP YP l.row.toRowW d [] (fun f vs => PySem.call f vs) := by
  refine Att.attach_call hn hdf fun w s₀ s₁ mg mb fa o pm cd doc a vs ns G Y ho hd hcd hmg hobj hints hlen hgen => ?_
  have KX := hY w _ Y
  obtain ⟨fd, xa, hb, hF⟩ := F w mg fa _ KX G.T.g hmg
  refine call_law KX G.T.g G.T.b G.T.builtins G.T.nolimit hgen hobj hints (Nat.le_trans hlen hn2) hr hF hb fun H hS => ?_
  obtain ⟨h', e⟩ := hg ns hlen
  refine ⟨rfl, fun _ => none, H, [], [.s ns], [], ⟨fun _ _ z => (by cases z), fun _ _ z => (by cases z), Le.refl, rfl, .nil, fun k m z => (by simp at z)⟩, ⟨⟨a, rfl, hS⟩, trivial⟩, ?_⟩
  rw [e]
  intro Φ' u' H' _ _ v rv
  exact vr_bool rv
end Mn

/-! MnX: own exceptions over ValueError, made: without an own __init__; with one that says super().__init__(..) and stores one field. -/
namespace Mn
open PySem L2 PySem.Spec PyProof.Rows

/-- a reading, weakened at its end -/
def taUp (t : TA) : TA := fun σ H Q => ∃ Q' : List V → Hp → Prop, t σ H Q' ∧ ∀ vs H1, Q' vs H1 → Q vs H1
theorem pa_up {X : Cx} {es : List Expr} {t : TA} (h : PA X es t) : PA X es (taUp t) :=
  ⟨fun pos pins s σ H Q I ⟨Q', q, i⟩ => thn (h.run pos pins s σ H Q' I q) fun us s1 ⟨vs, H1, I1, r, z⟩ => ⟨vs, H1, I1, r, i _ _ z⟩⟩

/-! ### without -/
theorem mk_plain {X : Cx} {nm : Str} {C : Addr} (q : PySem.W.excIn X.K C [.type "ValueError", .type "Exception", .type "BaseException", .type "object"] "ValueError.__new__" = true) (gC : X.mg nm = some (.ref C)) (kC : PySem.W.keepIn X.K (.ref C) = true) (exC : PySem.W.subIn X.K (.ref C) (.type "BaseException") = some true)
    (tyC : PySem.W.typeIn X.K (.ref C) = some (.type "type")) (hg : Gl X nm) (hd : (nm == ("__debug__" : Str)) = false) : MkOk X nm C none false := by
  intro e t p pos hs ha pins s σ H Q I h
  refine pmk_ownA PySem.F.excBase_ValueError q gC kC (raises_own exC tyC) hg (pa_up ha) hd (star_cons hs _ _) rfl pins s σ H Q I ⟨_, h, fun vs H1 ⟨v, e1, _, z⟩ => ⟨?_, z⟩⟩
  subst e1
  show 1 ≤ sizeLine
  rw [sizeLine_eq]; omega

/-! ### with -/
open PySem.W PySem.Calls in
/-- ValueError.__init__ bound to the exception, called -/
theorem mw_ok {X : Cx} {pins : List (Addr × Obj)} {σ : L2.St} {H : Hp} {s : Shared} {a u C : Addr} {A : Around} {E : Value → Shared → Prop} {us : List Value} {Q : Value → Shared → Prop} (T : OexC X.K C) (I : Inv X pins σ H s) (e : H a = some (exo a C none))
    (hu : s.heap.get? u = some (kxs_mw "ValueError.__init__" a)) (hl : us.length ≤ sizeLine) (h : ∀ s', Inv X pins σ H s' → Q .none s') : wpAny (model X.prog X.w) A (call (.ref u) us) Q E s := by
  obtain ⟨nm, q, N, bs, bm, sn, sub, ab, col, dd, k0, k1, k2, k3, k5, hC, hbm⟩ := T.cls
  obtain ⟨t1, ho⟩ := exo_at I.hok e
  have hCh := I.kIn _ _ hC
  obtain ⟨hp, g, d, t, os⟩ := s
  refine wpAny_call (codeAny_of_tree ?_)
  show wpAny _ A.in1 (callAny (.ref u) ⟨us, []⟩) _ _ _
  simp only [callAny]
  refine wpAny_bind (wpAny_load hu ?_)
  simp only [kxs_mw, show (Value.type "method-wrapper" == Value.type "method" || Value.type "method-wrapper" == Value.type "builtin_function_or_method" || Value.type "method-wrapper" == Value.type "method-wrapper") = true by decide, if_true]
  refine KFB.if_so (by decide) ?_
  refine wpAny_bind (check_bound_init PySem.F.excBase_ValueError.toExcCallFacts hCh ho rfl ?_)
  refine wpAny_bind (wpAny_pure (wpAny_pure ?_))
  refine ⟨plainId_quiet PySem.F.excBase_ValueError.init.plain _, codeAny_builtin PySem.F.excBase_ValueError.initEntry ?_⟩
  refine exc_init_tree (cls := .ref C) (t0 := t1) (dv := none) (c2 := .none) (c3 := .none) (b4 := .bool false) ho hl fun h' k hx _ => ?_
  have J := I.write (t' := t) (x := a) (e := a) (o := exo a C none) (by rw [e]; exact True.intro) (.inl rfl) k ⟨_, hx⟩ (exo_ok hx)
  have eu : upd H a (exo a C none) = H := by
    funext b
    by_cases hb : b = a
    · rw [hb, upd_same, e]
    · rw [upd_ne hb]
  rw [eu] at J
  exact h _ J
/-- what stands behind the top of such a class -/
structure XiC (K : PySem.W.Frag) (C fI cc cda : Addr) (F : NdefX.NF) (file : Str) : Prop where
  oex : OexC K C
  iC : PySem.W.findIn K (.ref C) "__init__" = some (some (.ref fI))
  tI : PySem.W.typeIn K (.ref fI) = some (.type "function")
  lk : ∃ (oc : Value) (od an : Option Addr) (osl : Array (Option Value)) (doc pm ct : Value), K.lookup fI = some ⟨oc, od, .func (PySem.W.fnX F.name F.qual F.params F.body F.scope F.cl .none .none doc pm an (.ref F.c) ct), osl⟩
  cl : F.cl = [(("__class__" : Str), cc)]
  cd : F.c = cda
  code : PySem.W.codeIn K (.ref cda) F.qual = true
  cell : ∃ c d s, K.lookup cc = some ⟨c, d, .cell (some (.ref C)), s⟩
  rec_ : ∃ (c : Value) (d : Option Addr) (vs : Array Value) (s : Array (Option Value)) (tf : Tok), K.lookup cda = some ⟨c, d, .fields vs, s⟩ ∧ vs[2]? = some (.str file tf)
  sup : PySem.W.ks_superIn K C C "__init__" = some (some (.builtin "ValueError.__init__"))
  opq : PySem.W.nsIn K cStatics "thirdparty.any" = some none
  subB : PySem.W.subIn K (.ref C) (.type "ValueError") = some true
/-- how the text of super().__init__(..) is walked -/
def SupEv (p0 p1 p2 p3 : Pos) (ea : Expr) : Prop := ∀ env : Env, ∃ pl : Sem Bool, eval (.Call (.Attribute (.Call (.Name "super" p0) [] [] p1) "__init__" p2) [ea] [] p3) env = (do
      let ov ← attributeBase (.Call (.Name "super" p0) [] [] p1) "__init__" env (eval (.Call (.Name "super" p0) [] [] p1) env)
      standAt p2.atName
      let (f, first) ← holding [ov] (getMethod ov "__init__" pl)
      callWith p3 f first (backTo p3 (starEach [ea] env)) [])
/-- the text of such an __init__: its parameter p, the field f, what super().__init__ is given -/
structure XiT (F : NdefX.NF) (p f : Str) (ea : Expr) : Prop where
  body : ∃ p0 p1 p2 p3 p4 p5 p6 p7 p8, F.body = [.Expr (.Call (.Attribute (.Call (.Name "super" p0) [] [] p1) "__init__" p2) [ea] [] p3) p4, .Assign [.Attribute (.Name "self" p5) f p6] (.Name p p7) p8] ∧ SupEv p0 p1 p2 p3 ea
  par : ∃ ar : Arg, (F.params.posonlyargs ++ F.params.args).head? = some ar ∧ ar.arg = "self"
  sc : NdefX.NScope [("self" : Str), p, "__class__"] [("self" : Str), p] ["__class__"] F.scope
  sup : F.scope.names.lookup ("super" : Str) = some .globalImplicit
  noStar : noStar ea = true
  np : (p == ("__debug__" : Str)) = false ∧ (p == ("__classdict__" : Str)) = false
section
open PySem.W PySem.Calls
variable {X : Cx} {pins : List (Addr × Obj)} {σ : L2.St} {H : Hp} {s : Shared} {a u C cc cda fI : Addr} {ea : Expr} {te : TE}
theorem callWith_mw {M : Model} {A : Around} {E : Value → Shared → Prop} {pos : Pos} {env : Env} {e : Expr} {rest : List Expr} {i : String} {x : Addr} {Q : Value → Shared → Prop}
    (he : starEach (e :: rest) env = (false, eval e env) :: starEach rest env) (hplain : (backTo pos (starEach rest env)).any (·.1) = false)
    (h : wpAny M A (spliced (backTo pos (starEach (e :: rest) env))) (fun vs s₁ => s₁.heap.get? u = some (kxs_mw i x) ∧ wpAny M A (call (.ref u) vs) Q E s₁) E s) :
    wpAny M A (callWith pos (.ref u) [] (backTo pos (starEach (e :: rest) env)) []) Q E s := by
  rw [he] at h ⊢
  refine kxs_callWith (i := i) (x := x) (by show (false || (backTo pos (starEach rest env)).any (·.1)) = false; rw [hplain]; rfl) ?_
  exact evalArgs_plain h
theorem sup_stmt {oc : Value} {od : Option Addr} {fd : FuncData} {osl : Array (Option Value)} {ar : Arg} {file : Str} {p0 p1 p2 p3 p4 : Pos} {body : List Stmt}
    (I : Inv X pins σ H s) (T : OexC X.K C) (e : H a = some (exo a C none)) (hks : X.env.kindOf "super" = some .globalImplicit) (hkc : X.env.kindOf "__class__" = some .free) (hfu : X.env.func = some fI) (hco : X.env.code = .ref cda)
    (hcl : X.env.cells.lookup ("__class__" : Str) = some cc) (hfull : X.K.lookup fI = some ⟨oc, od, .func fd, osl⟩) (hp : (fd.params.posonlyargs ++ fd.params.args).head? = some ar) (har : ar.arg = "self")
    (hrec : ∃ (c : Value) (d : Option Addr) (vs : Array Value) (s : Array (Option Value)) (tf : Tok), X.K.lookup cda = some ⟨c, d, .fields vs, s⟩ ∧ vs[2]? = some (.str file tf)) (hfile : ((X.prog.main.file : Str) == file) = true)
    (htop : (X.prog.main.scope.names.lookup ("super" : Str)).isSome = false) (hcell : ∃ c d s, X.K.lookup cc = some ⟨c, d, .cell (some (.ref C)), s⟩) (hN : X.N[0]? = some ("self" : Str)) (hσ : σ[0]? = some (some (.ref a))) (hself : X.env.kindOf "self" = some .local)
    (hs : X.mg "super" = none) (hsup : ks_superIn X.K C C "__init__" = some (some (.builtin "ValueError.__init__"))) (hopq : nsIn X.K cStatics "thirdparty.any" = some none) (hB : subIn X.K (.ref C) (.type "ValueError") = some true)
    (hst : noStar ea = true) (hev : SupEv p0 p1 p2 p3 ea) (hea : PE X ea te) (hte : ∀ Q : VK, (∀ x, Q x H) → te σ H Q) :
    _root_.PySem.wpAt (model X.prog X.w) X.A (.func body X.env) (exec (.Expr (.Call (.Attribute (.Call (.Name "super" p0) [] [] p1) "__init__" p2) [ea] [] p3) p4) X.env) (fun f s' => f = .next ∧ Inv X pins σ H s') X.xe s := by
  obtain ⟨nm, q, N, bs, bm, sn, sub, ab, col, dd, k0, k1, k2, k3, k5, hC, hbm⟩ := T.cls
  have hcd : clsIn X.K C = some { name := nm, bases := bs, mro := .ref C :: bm, ns := N, qualname := q, hasDict := true, slotNames := sn, subclasses := sub, abstract := ab, collection := col, hasDel := false } := by unfold clsIn; rw [hC] <;> rfl
  obtain ⟨c1, d1, vs1, s1, tf, hr1, hr2⟩ := hrec
  obtain ⟨c3, d3, s3, hcell⟩ := hcell
  obtain ⟨m, hns, hl⟩ := id I.loc
  obtain ⟨w0, ru, lk⟩ := hl 0 "self" (.ref a) hN hσ (.inl hself)
  have ru : w0 = .ref a := ru
  subst ru
  have hm : m "self" = some (.ref a) := by
    rcases lk with ⟨_, z⟩ | ⟨z, _⟩
    · exact z
    · rw [hself] at z; rcases z with z | z <;> cases z
  obtain ⟨t1, ho⟩ := exo_at I.hok e
  obtain ⟨mb, b1, b2⟩ := I.mod.blt
  have KX := I.kIn
  refine ks_wpAt_Expr_any ?_ I.quiet (noComp_sw rfl _ _ _)
  obtain ⟨pl, hev⟩ := hev X.env
  refine ks_wpAt_MethodCall ?_ hev
  refine ks_wpAt_super_base hks hkc rfl hfu (KX _ _ hfull) rfl hp hco (KX _ _ hr1) rfl hr2 hfile htop ?_
  refine ks_loadName_global I.ok.kind hks (Calls.loadGlobal_builtin (by rw [I.ok.glob]; exact I.mod.glob.keeps I.bk) hs (by rw [I.ok.blt]; exact b1.keeps I.bk) ((b2 "super" (by decide +kernel)).trans (show bootBuiltins "super" = some (.type "super") from by decide +kernel)) ⟨rfl, ?_⟩)
  refine wpAny_loadName_free I.ok.kind hkc hcl ⟨_, KX _ _ hcell, rfl⟩ ?_
  rw [har]
  refine wpAny_loadName_local I.ok.kind hself hns hm ?_
  obtain ⟨h0, g, d, t, os⟩ := s
  refine ks_wpAny_isType_cls (KX _ _ hC) rfl ⟨rfl, ?_⟩
  have hsub : mroIn X.K C (.ref C) = some true := by
    unfold mroIn
    rw [hcd, Option.bind_some, if_neg (by simp)]
    simp
  refine ks_wpAny_call_super (KX _ _ hC) rfl ho rfl (fun c z => by cases z) (looks_mroIn KX hsub) (fun h1 e1 kk => ?_)
  have I1 : Inv X pins σ H ⟨h1, g, d, t, os⟩ := I.kept (t' := t) kk
  have hxC : a ≠ C := fun z => by
    have := KX _ _ hC
    rw [← z, ho] at this
    cases this
  have sI : ks_superIn X.K C C "__init__" = alongIn X.K "__init__" (((Value.ref C :: bm).dropWhile (· != .ref C)).drop 1) := by unfold ks_superIn; rw [hcd]; rfl
  have J1 : InstAt h1 a _ C none := ⟨kk _ _ ho, rfl, rfl, trivial⟩
  refine kxs_getMethod kxs_ValueError e1 (looks_opaque I1.kIn hopq) (l₀ := .ref C :: bm) (fun A Q E s k q => wpAny_bind ((looks_clsIn I1.kIn hcd) A _ E s k (wpAny_pure q))) rfl I1.kIn (sI.symm.trans hsup) (J1.type.andThen (looks_subIn I1.kIn hB)) hxC rfl ?_
  have I2 : Inv X pins σ H ⟨h1.push (kxs_mw "ValueError.__init__" a), g, d, t + 1, os⟩ := I1.kept (t' := t + 1) fun b o z => Heap.get?_push_of_some _ z
  have hu : (h1.push (kxs_mw "ValueError.__init__" a)).get? h1.objs.size = some (kxs_mw "ValueError.__init__" a) := Heap.get?_push_at rfl rfl
  have I3 : Inv X ((h1.objs.size, kxs_mw "ValueError.__init__" a) :: pins) σ H ⟨h1.push (kxs_mw "ValueError.__init__" a), g, d, t + 1, os⟩ := I2.pins_of fun p hp => by
    rcases List.mem_cons.mp hp with rfl | hp
    · exact ⟨hu, I1.hok.fresh (Nat.le_refl _), Nat.ne_of_gt I1.lt, I1.nofs (Nat.le_refl _), fun v z => by cases z⟩
    · exact I2.pin p (List.mem_append_right _ hp)
  refine callWith_mw (i := "ValueError.__init__") (x := a) (star_cons hst _ _) rfl ?_
  refine thn ((pa_cons hea pa_nil (star_cons hst _ _)).run p3 _ _ σ H (fun vs H1 => vs.length = 1 ∧ H1 = H) I3 (hte _ fun x => ⟨rfl, rfl⟩)) fun us s2 ⟨vs, H1, I4, r, hlv, eH⟩ => ?_
  subst eH
  obtain ⟨hu2, _⟩ := I4.pin _ (List.mem_append_right _ List.mem_cons_self)
  refine ⟨hu2, mw_ok T I4 e hu2 ?_ fun s' J => ⟨rfl, J.pins_of fun p hp => J.pin p (List.mem_append_right _ (List.mem_cons_of_mem _ hp))⟩⟩
  rw [← r.length, hlv, sizeLine_eq]
  omega
end
/-- what __init__ promises -/
def spInit (C : Addr) (f : Str) (ok : V → Prop) : Sp := fun vs H Q _ => ∃ (a : Addr) (v : V), vs = [.ref a, v] ∧ ok v ∧ H a = some (exo a C none) ∧ ∀ dx, H dx = none → dx ≠ a → Q .non (upd (upd H dx (exd dx [(f, v)])) a (exo a C (some dx)))
section
variable {P : Program} {w : World} {K : PySem.W.Frag} {mg : Str → Option Value} {base : Heap} {C fI cc cda : Addr} {F : NdefX.NF} {p f file : Str} {ea : Expr} {ok : V → Prop}
open PySem.W PySem.Calls in
theorem ok_init (S : XiC K C fI cc cda F file) (T : XiT F p f ea) (hno : PySem.W.findIn K (.ref C) f = some none) (hs : mg "super" = none) (hfile : ((P.main.file : Str) == file) = true) (htop : (P.main.scope.names.lookup ("super" : Str)).isSome = false)
    (hea : ∀ X : Cx, X.prog = P → X.w = w → X.K = K → X.mg = mg → X.base = base → X.N = [("self" : Str), p, "__class__"] → X.env.scope = F.scope → ∃ te : TE, PE X ea te ∧ ∀ (a : Addr) (v : V) (H : Hp) (Q : VK), ok v → (∀ x, Q x H) → te [some (.ref a), some v, none] H Q)
    {fd : FuncData} (hfd : ∃ (oc : Value) (od an : Option Addr) (osl : Array (Option Value)) (doc pm ct : Value), fd = PySem.W.fnX F.name F.qual F.params F.body F.scope F.cl .none .none doc pm an (.ref F.c) ct ∧ K.lookup fI = some ⟨oc, od, .func fd, osl⟩) :
    L2.FnOk P w K mg base L2.CX0 1 fI fd [("self" : Str), p] (spInit C f ok) := by
  obtain ⟨p0, p1, p2, p3, p4, p5, p6, p7, p8, hbody, hev⟩ := T.body
  obtain ⟨ar, har, har2⟩ := T.par
  obtain ⟨name, qual, params, body, scope, cl, c⟩ := F
  have e1 : cl = [(("__class__" : Str), cc)] := S.cl
  have e2 : c = cda := S.cd
  have hbody : body = _ := hbody
  subst e1 e2
  obtain ⟨oc, od, an, osl, doc, pm, ct, rfl, lk⟩ := hfd
  refine ⟨fun vs H Q E ⟨a, v, e, _⟩ => by rw [e]; rfl, fun A outer s H args us vs Q E hr e0 hb r ⟨a, v, ev, hok, ha, q⟩ => ?_⟩
  subst ev
  have KX : K.In s.heap := e0.mod.kin.keeps fun b o e => (e0.bs b o e).1
  have lim : s.heap.NoLimit := e0.mod.nolimit.keeps fun b o e => (e0.bs b o e).1
  obtain ⟨cv, cd, cs, hcell⟩ := S.cell
  have CA : NdefX.CellsAt [(("__class__" : Str), cc)] ["__class__"] [none] s.heap H := by
    refine ⟨rfl, fun y c z => ?_, fun x y c h1 h2 => ?_, fun i y z => ?_⟩
    · have : c = cc := by
        simp only [List.lookup] at z
        split at z
        · exact (Option.some.inj z).symm
        · cases z
      subst this
      exact ⟨(e0.bs _ _ (e0.mod.kin _ _ hcell)).2, _, _, KX _ _ hcell, rfl⟩
    · have hx : ∀ x : Str, List.lookup x [(("__class__" : Str), cc)] = some c → x = "__class__" := fun x z => by
        simp only [List.lookup] at z
        split at z
        · rename_i hb; exact eq_of_beq hb
        · cases z
      rw [hx x h1, hx y h2]
    · cases i with
      | zero => cases z; exact ⟨cc, by simp [List.lookup], fun v z => by simp at z⟩
      | succ i => simp at z
  obtain ⟨u0, u1, rfl, r0, r1⟩ : ∃ u0 u1, us = [u0, u1] ∧ RelV (.ref a) u0 ∧ RelV v u1 := by
    cases r with
    | cons p q =>
      cases q with
      | cons p' q' => cases q'; exact ⟨_, _, rfl, p, p'⟩
  refine ks_codeAny_call_defAt hr.depth (KX _ _ lk) rfl lim (codeRec_of KX S.code) rfl hb T.sc.nocell (fun y hy => T.sc.par y.1 (List.of_mem_zip hy).1) (fun h1 hns kp => ?_) T.sc.co T.sc.gen T.sc.kind
  have I := NdefX.inv_startN (CX := L2.CX0) (E := E) (w := w) (P := P) (tk := s.toks + ([("self" : Str), p].zip [u0, u1]).length) (f := fI) T.sc hr.hd e0 (vs := [.ref a, v]) rfl (.cons r0 (.cons r1 .nil)) CA hns kp
  obtain ⟨te, he1, he2⟩ := hea (NdefX.ncx L2.CX0 P w K mg base [("self" : Str), p, "__class__"] ⟨name, qual, params, body, scope, [(("__class__" : Str), cc)], c⟩ fI A outer s H E) rfl rfl rfl rfl rfl rfl rfl
  have lself : scope.names.lookup ("self" : Str) = some .local := T.sc.par "self" (by simp)
  have lp : scope.names.lookup p = some .local := T.sc.par p (by simp)
  have ost := ps_ost (X := NdefX.ncx L2.CX0 P w K mg base [("self" : Str), p, "__class__"] ⟨name, qual, params, body, scope, [(("__class__" : Str), cc)], c⟩ fI A outer s H E) (f := f) (p' := p6) (pos := p8) (pe_var (i := 0) (x := ("self" : Str)) (pos := p5) rfl (.inl lself) (by decide) (by decide)) (pe_var (i := 1) (x := p) (pos := p7) rfl (.inl lp) T.np.1 T.np.2)
  have hlk : List.lookup ("__class__" : Str) [(("__class__" : Str), cc)] = some cc := by simp [List.lookup]
  rw [hbody]
  refine ks_wpAt_execs_cons (ks_wpAt_mono (sup_stmt I S.oex ha T.sup (T.sc.frk "__class__" (by simp)) rfl rfl hlk lk har har2 S.rec_ hfile htop S.cell rfl rfl lself hs S.sup S.opq S.subB T.noStar hev he1 (fun Q h => he2 a v H Q hok h)) (fun f s2 ⟨ef, J⟩ => ?_) (fun _ _ z => z))
  subst ef
  refine wpAt_of_wpAny (wpAny_mono ((pss_one ost).run _ _ _ _ { nx := fun _ H' => Q .non H', rt := Q } J ⟨_, rfl, _, rfl, a, C, rfl, S.oex, hno, .inl ⟨ha, fun dx n1 n2 => q dx n1 n2⟩⟩) (fun fl s' hs => ?_) fun e s' hs => hs)
  match fl, hs with
  | .ret u, ⟨v, σ', H', J, rv, q⟩ => exact ⟨v, H', J.os, J.bare, J.base, J.hok, rv, q⟩
  | .next, ⟨σ', H', J, q⟩ => exact ⟨V.non, H', J.os, J.bare, J.base, J.hok, rfl, q⟩
  | .brk, ⟨_, _, _, q⟩ => exact q.elim
  | .cont, ⟨_, _, _, q⟩ => exact q.elim
end

/-- such an exception is made -/
theorem mk_init {X : Cx} {nm : Str} {C fI cc cda : Addr} {F : NdefX.NF} {p f file : Str} {ea : Expr} {ib : Bool} (S : XiC X.K C fI cc cda F file) (T : XiT F p f ea) (hno : PySem.W.findIn X.K (.ref C) f = some none) (hs : X.mg "super" = none)
    (hfile : ((X.prog.main.file : Str) == file) = true) (htop : (X.prog.main.scope.names.lookup ("super" : Str)).isSome = false)
    (hea : ∀ Y : Cx, Y.prog = X.prog → Y.w = X.w → Y.K = X.K → Y.mg = X.mg → Y.base = X.base → Y.N = [("self" : Str), p, "__class__"] → Y.env.scope = F.scope →
      ∃ te : TE, PE Y ea te ∧ ∀ (a : Addr) (v : V) (H : Hp) (Q : VK), (ib = true → ∃ i : Int, v = .int i ∧ i.natAbs.log2 < 1920) → (∀ x, Q x H) → te [some (.ref a), some v, none] H Q)
    (hb : ∀ (doc pm : Value) (an : Option Addr) (ct : Value) (us : List Value), us.length = 2 → bindArgs (PySem.W.fnX F.name F.qual F.params F.body F.scope F.cl .none .none doc pm an (.ref F.c) ct) ⟨us, []⟩ = pure ([("self" : Str), p].zip us))
    (hr : Room 3 X.A) (hg : Gl X nm) (hm : X.mg nm = some (.ref C)) (hd : (nm == ("__debug__" : Str)) = false) : MkOk X nm C (some f) ib := by
  intro e t p' pos hse ha pins s σ H Q I h
  obtain ⟨oc, od, an, osl, doc, pm, ct, lk⟩ := S.lk
  have F1 := ok_init (w := X.w) (P := X.prog) (base := X.base) S T hno hs hfile htop hea ⟨oc, od, an, osl, doc, pm, ct, rfl, lk⟩
  refine pmk_oex S.oex S.iC S.tI F1 (hr.mono (by decide)) (.all (hb doc pm an ct)) .nil pass0 hg hm (pa_up ha) hd (star_cons hse _ _) rfl pins s σ H Q I ⟨_, h, fun vs H1 ⟨v, e1, hib, z⟩ => ?_⟩
  subst e1
  refine ⟨(by show 1 ≤ 1000; decide), fun a hna => ⟨a, v, rfl, hib, upd_same, fun dx n1 n2 => ⟨rfl, dx, [(f, v)], upd_same, by rw [upd_ne n2, upd_same], ?_, ?_⟩⟩⟩
  · rw [upd_ne n2] at n1; exact n1
  · have n3 : H1 dx = none := by rw [upd_ne n2] at n1; exact n1
    have ee : upd (del (upd (upd (upd H1 a (exo a C none)) dx (exd dx [(f, v)])) a (exo a C (some dx))) a) dx (.xd [(f, v)]) = upd H1 dx (.xd [(f, v)]) := by
      funext b
      by_cases hb : b = dx
      · rw [hb, upd_same, upd_same]
      · rw [upd_ne hb, upd_ne hb]
        by_cases hba : b = a
        · rw [hba, del_same, hna]
        · rw [del_ne hba, upd_ne hba, upd_ne hb, upd_ne hba]
    rw [ee]
    exact z dx n3

theorem tail_ve : ∀ l : List Value, PySem.W.excTail [.type "ValueError", .type "Exception", .type "BaseException", .type "object"] l = true → PySem.HandSPX.refsVE l = true
  | .ref a :: r, h => tail_ve r (by simpa [PySem.W.excTail] using h)
  | [], h => by revert h; decide +kernel
  | .none :: _, h => h
  | .ellipsis :: _, h => h
  | .notImplemented :: _, h => h
  | .bool _ :: _, h => h
  | .int _ _ :: _, h => h
  | .float _ _ :: _, h => h
  | .str _ _ :: _, h => h
  | .type _ :: _, h => h
  | .builtin _ :: _, h => h
theorem oex_cls {K : PySem.W.Frag} {C : Addr} (q : PySem.W.excInitIn K C [.type "ValueError", .type "Exception", .type "BaseException", .type "object"] "ValueError.__new__" = true) (hd : PySem.W.hasDictIn K C = true) :
    ∃ nm q N bs bm sn sub ab col dd k0 k1 k2 k3 k5, K.lookup C = some (excClassObj nm q C N bs bm true sn sub ab col dd k0 k1 k2 k3 k5 "ValueError.__new__") ∧ PySem.HandSPX.refsVE bm = true := by
  unfold PySem.W.excInitIn at q
  split at q
  · rename_i dd cd sl ho
    split at q
    · rename_i C' bm k0 k1 k2 k3 n k5 hm hs
      simp only [Bool.and_eq_true, beq_iff_eq, Bool.not_eq_true'] at q
      obtain ⟨⟨⟨rfl, rfl⟩, hdel⟩, ht⟩ := q
      obtain ⟨nm, bs, mro, ns, qn, hd', sn, sub, ab, col, del⟩ := cd
      have hm : mro = _ := hm
      have hdel : del = false := hdel
      subst hm hdel
      have hsl : sl = #[k0, k1, k2, k3, some (.builtin "ValueError.__new__"), k5] := by
        obtain ⟨l⟩ := sl
        simp only at hs
        rw [hs]
      subst hsl
      have hdd : hd' = true := by
        have : PySem.W.hasDictIn K C' = hd' := by
          unfold PySem.W.hasDictIn PySem.W.clsIn
          rw [ho]
          rfl
        rw [← this]; exact hd
      subst hdd
      exact ⟨nm, qn, ns, bs, bm, sn, sub, ab, col, dd, k0, k1, k2, k3, k5, ho, tail_ve _ ht⟩
    · cases q
  · cases q
end Mn

/-! MnH: what the head of a law is given. -/
namespace Mn
open PySem L2 PySem.Spec PyProof.Rows

section
variable {K : PySem.W.Frag} {h : Heap} {mg : Str → Option Value}
def FDs (K : PySem.W.Frag) (mg : Str → Option Value) : List (Str × Nat) → List Di → Prop
  | [], [] => True
  | f :: fs, d :: ds => FD K mg f.1 d ∧ FDs K mg fs ds
  | _, _ => False
theorem FDs.at_ : ∀ {fs : List (Str × Nat)} {ds : List Di}, FDs K mg fs ds → ∀ (i : Nat) (f : Str × Nat) (d : Di), fs[i]? = some f → ds[i]? = some d → FD K mg f.1 d
  | [], [], _, i, f, d, e, _ => by simp at e
  | g :: fs, c :: ds, h, 0, f, d, e1, e2 => by cases e1; cases e2; exact h.1
  | g :: fs, c :: ds, h, i + 1, f, d, e1, e2 => FDs.at_ h.2 i f d (by simpa using e1) (by simpa using e2)
  | [], _ :: _, h, _, _, _, _, _ => h.elim
  | _ :: _, [], h, _, _, _, _, _ => h.elim
def Nones (K : PySem.W.Frag) : List Str → Prop
  | [] => True
  | x :: r => PySem.W.nsIn K mainGlobals x = some none ∧ Nones K r
theorem Nones.at_ (X : K.In h) (G : h.Ns mainGlobals mg) : ∀ {l : List Str}, Nones K l → ∀ x ∈ l, mg x = none
  | [], _, x, m => by simp at m
  | y :: r, n, x, m => by
    rcases List.mem_cons.mp m with e | m
    · rw [e]; exact PySem.W.mg_none_of X G n.1
    · exact Nones.at_ X G n.2 x m
def Consts (K : PySem.W.Frag) : List (Str × PyData) → Prop
  | [] => True
  | p :: r => (∃ u v, PySem.W.nsIn K mainGlobals p.1 = some (some u) ∧ RelV v u ∧ Dq K (fun _ => none) v p.2) ∧ Consts K r
theorem Consts.at_ (X : K.In h) (G : h.Ns mainGlobals mg) : ∀ {l : List (Str × PyData)}, Consts K l → ∀ p ∈ l, ∃ u v, mg p.1 = some u ∧ RelV v u ∧ Dq K (fun _ => none) v p.2
  | [], _, x, m => by simp at m
  | y :: r, n, x, m => by
    rcases List.mem_cons.mp m with e | m
    · obtain ⟨u, v, h1, h2, h3⟩ := n.1
      rw [e]; exact ⟨u, v, PySem.W.mg_of X G h1, h2, h3⟩
    · exact Consts.at_ X G n.2 x m
theorem cInt {x : Str} {i : Int} {u : Value} (e : PySem.W.nsIn K mainGlobals x = some (some u)) (h : ∃ t : Tok, u = .int i t) : ∃ u v, PySem.W.nsIn K mainGlobals x = some (some u) ∧ RelV v u ∧ Dq K (fun _ => none) v (.int i) := ⟨u, .int i, e, h, .int i⟩
theorem cStr {x y : Str} {u : Value} (e : PySem.W.nsIn K mainGlobals x = some (some u)) (h : ∃ t : Tok, u = .str y t) : ∃ u v, PySem.W.nsIn K mainGlobals x = some (some u) ∧ RelV v u ∧ Dq K (fun _ => none) v (.str y) := ⟨u, .str y, e, h, .str y⟩
theorem fd_mk {x : Str} {d : Di} {f : Addr} {oc : Value} {od an : Option Addr} {osl : Array (Option Value)} {kV doc pm cdv ct : Value} (X : K.In h) (G : h.Ns mainGlobals mg) (a : PySem.W.nsIn K mainGlobals x = some (some (.ref f)))
    (l : K.lookup f = some ⟨oc, od, .func (PySem.W.fnOf x x (L2.defArgs d.st) (L2.defBody d.st) (L2.defScope d.st) .none kV doc pm an cdv ct), osl⟩) (c : PySem.W.codeIn K cdv x = true) (k : PySem.W.keepIn K (.ref f) = true)
    (hb : ∀ us : List Value, us.length = d.ps.length → bindArgs (PySem.W.fnOf x x (L2.defArgs d.st) (L2.defBody d.st) (L2.defScope d.st) .none kV doc pm an cdv ct) ⟨us, []⟩ = pure (d.ps.zip us)) : FD K mg x d :=
  ⟨f, _, PySem.W.mg_of X G a, L2.fun_mk l c k, .all hb⟩
end
/-- a class without __init__ -/
structure XpF (K : PySem.W.Frag) (nm : Str) (C : Addr) : Prop where
  ns : PySem.W.nsIn K mainGlobals nm = some (some (.ref C))
  ex : PySem.W.excIn K C [.type "ValueError", .type "Exception", .type "BaseException", .type "object"] "ValueError.__new__" = true
  kp : PySem.W.keepIn K (.ref C) = true
  sub : PySem.W.subIn K (.ref C) (.type "BaseException") = some true
  ty : PySem.W.typeIn K (.ref C) = some (.type "type")
/-- a class with __init__, a field -/
structure XfF (K : PySem.W.Frag) (nm f : Str) (C fI cc cda : Addr) (F : NdefX.NF) (file : Str) : Prop where
  ns : PySem.W.nsIn K mainGlobals nm = some (some (.ref C))
  xi : XiC K C fI cc cda F file
  xf : XfC K C
  no : PySem.W.findIn K (.ref C) f = some none
theorem xif_mk {K : PySem.W.Frag} {nm f qual : Str} {C fI cc cda : Addr} {args : Arguments} {body : List Stmt} {scope : Scope} {file : Str} {ocI dcI pmI ctI clv ccl : Value} {odI anI cld cdd : Option Addr} {slI csl ccs : Array (Option Value)} {vs : Array Value}
    (r1 : PySem.W.nsIn K mainGlobals nm = some (some (.ref C)))
    (r3 : PySem.W.keepIn K (.ref C) = true) (r4 : PySem.W.subIn K (.ref C) (.type "BaseException") = some true) (r5 : PySem.W.typeIn K (.ref C) = some (.type "type"))
    (r6 : PySem.W.findIn K (.ref C) "__setattr__" = some (some (.builtin "object.__setattr__")))
    (r7 : PySem.W.findIn K (.ref C) "__init__" = some (some (.ref fI)))
    (r8 : PySem.W.typeIn K (.ref fI) = some (.type "function"))
    (r9 : K.lookup fI = some ⟨ocI, odI, .func (PySem.W.fnX "__init__" qual args body scope [("__class__", cc)] .none .none dcI pmI anI (.ref cda) ctI), slI⟩)
    (r10 : PySem.W.codeIn K (.ref cda) qual = true)
    (r11 : K.lookup cc = some ⟨clv, cld, .cell (some (.ref C)), csl⟩)
    (r12 : K.lookup cda = some ⟨ccl, cdd, .fields vs, ccs⟩)
    (r13 : ∃ tf : Tok, vs[2]? = some (.str file tf))
    (r14 : PySem.W.ks_superIn K C C "__init__" = some (some (.builtin "ValueError.__init__")))
    (r15 : PySem.W.nsIn K cStatics "thirdparty.any" = some none)
    (r16 : PySem.W.subIn K (.ref C) (.type "ValueError") = some true)
    (r17 : PySem.W.findIn K (.ref C) f = some none)
    (r18 : PySem.W.excInitIn K C [.type "ValueError", .type "Exception", .type "BaseException", .type "object"] "ValueError.__new__" = true)
    (x1 : PySem.W.findIn K (.ref C) "__getattribute__" = some (some (.builtin "BaseException.__getattribute__"))) (x2 : PySem.W.findIn K (.ref C) "__getattr__" = some none) (x3 : PySem.W.hasDictIn K C = true) :
    XfF K nm f C fI cc cda ⟨"__init__", qual, args, body, scope, [("__class__", cc)], cda⟩ file :=
  ⟨r1, ⟨⟨oex_cls r18 x3, r6, r4, r5, r3⟩, r7, r8, ⟨_, _, _, _, _, _, _, r9⟩, rfl, rfl, r10, ⟨_, _, _, r11⟩, ⟨_, _, _, _, _, r12, r13.choose_spec⟩, r14, r15, r16⟩, ⟨x1, x2, r4, x3⟩, r17⟩
end Mn

/-! MnQ: the evaluator, step by step. -/
namespace Mn
open PySem

theorem bindOk {α β : Type} (a : α) (h : MH) (f : α → MH → Rs β) : (Rs.ok a h).bind f = f a h := (Eq.refl _).trans (Eq.refl _)
theorem toSOk (a : Vl) (h : MH) (e : Ev) (f : Vl → MH → Ss) : (Rs.ok a h).toS e f = f a h := (Eq.refl _).trans (Eq.refl _)
theorem thenNx (e : Ev) (h : MH) (f : Ev → MH → Ss) : (Ss.nx e h).then f = f e h := (Eq.refl _).trans (Eq.refl _)
theorem thenRt (v : Vl) (h : MH) (f : Ev → MH → Ss) : (Ss.rt v h).then f = .rt v h := (Eq.refl _).trans (Eq.refl _)
theorem thenEx (c : Nat) (d : PyData) (e : Ev) (h : MH) (f : Ev → MH → Ss) : (Ss.ex c d e h).then f = .ex c d e h := (Eq.refl _).trans (Eq.refl _)
theorem ttB {α : Type} (f : Bool → MH → Rs α) (b : Bool) (h : MH) : Vl.tt f (.d (.bool b)) h = f b h := (Eq.refl _).trans (Eq.refl _)
section
variable {W : Nat} {up : Nat → Nat → Bool} {F : Nat → List Vl → MH → Rs Vl}
/-- one statement -/
theorem step (P : Ss → Prop) {s : Sd} {r : Bk} {e e1 : Ev} {h h1 : MH} (a : sv W up F s e h = .nx e1 h1) (k : P (bv W up F r e1 h1)) : P (bv W up F (.c s r) e h) := by
  rw [bv, a]
  exact k
theorem stepRt (P : Ss → Prop) {s : Sd} {r : Bk} {e : Ev} {h h1 : MH} {v : Vl} (a : sv W up F s e h = .rt v h1) (k : P (.rt v h1)) : P (bv W up F (.c s r) e h) := by
  rw [bv, a]
  exact k
theorem run_succ {T : List Df} {n f : Nat} {as : List Vl} {h : MH} {D : Df} (hT : T[f]? = some D) (hn : as.length = D.np) :
    run W up T (n + 1) f as h = fin h.length (bv W up (run W up T n) D.bd (as.map some ++ List.replicate (D.nl - D.np) none) h) := by
  simp only [run, hT, if_pos hn]
end
theorem lookup_r {m : Mo} {t : MH} : (m :: t)[0]? = some m := rfl
theorem beqDs_self (xs : List PyData) : beqDs xs xs = true := beqDs_rfl xs
theorem same_refl {h : MH} : ∀ {vs : List Vl} {ds : List PyData}, snaps h vs = some ds → same h h vs = true
  | [], _, _ => rfl
  | .d x :: r, ds, e => by
    simp only [snaps] at e
    split at e
    · rename_i h2; exact same_refl (vs := r) h2
    · cases e
  | .s x :: r, ds, e => by simp [snaps, snap] at e
  | .r k :: r, ds, e => by
    simp only [snaps] at e
    split at e
    · rename_i x xs h1 h2
      simp only [snap] at h1
      split at h1
      · rename_i ys hy
        simp only [same, hy, beqDs_self, Bool.true_and]
        exact same_refl (vs := r) h2
      · cases h1
    · cases e
/-- a comprehension that changes nothing -/
theorem mapR_pure {ok : MH → Bool} {f : PyData → MH → Rs (Option PyData)} {h : MH} (g : PyData → Option PyData) (hok : ok h = true) : ∀ {xs : List PyData}, (∀ x ∈ xs, f x h = .ok (g x) h) → mapR ok f xs h = .ok (xs.filterMap g) h
  | [], _ => by simp [mapR, hok]
  | x :: xs, hf => by
    simp only [mapR, hok, if_true, hf x List.mem_cons_self, bindOk, mapR_pure g hok (fun y m => hf y (List.mem_cons_of_mem _ m)), List.filterMap_cons]
    cases g x <;> rfl
inductive All2 {α β : Type} (R : α → β → Prop) : List α → List β → Prop
  | nil : All2 R [] []
  | cons {a : α} {b : β} {as : List α} {bs : List β} : R a b → All2 R as bs → All2 R (a :: as) (b :: bs)
/-- one that changes the heap -/
theorem mapR_st {ok : MH → Bool} {f : PyData → MH → Rs (Option PyData)} (I : MH → Prop) (g : PyData → Option PyData → Prop) (hok : ∀ h, I h → ok h = true) : ∀ {xs : List PyData} {h : MH}, I h → (∀ x ∈ xs, ∀ h, I h → ∃ o h', f x h = .ok o h' ∧ I h' ∧ g x o) →
    ∃ (os : List (Option PyData)) (h' : MH), mapR ok f xs h = .ok (os.filterMap id) h' ∧ I h' ∧ All2 g xs os
  | [], h, i, _ => ⟨[], h, by simp [mapR, hok h i], i, .nil⟩
  | x :: xs, h, i, hf => by
    obtain ⟨o, h1, e1, i1, g1⟩ := hf x List.mem_cons_self h i
    obtain ⟨os, h2, e2, i2, g2⟩ := mapR_st I g hok (xs := xs) i1 fun y m => hf y (List.mem_cons_of_mem _ m)
    refine ⟨o :: os, h2, ?_, i2, .cons g1 g2⟩
    simp only [mapR, hok h i, if_true, e1, bindOk, e2, List.filterMap_cons]
    cases o <;> rfl
/-- a for that is never left -/
theorem forR_st {ok : MH → Bool} {t : Tg} {f : Ev → MH → Ss} (I : Nat → Ev → MH → Prop) {xs : List PyData} (hok : ∀ i e h, I i e h → ok h = true)
    (hf : ∀ (i : Nat) (x : PyData) (e : Ev) (h : MH), xs[i]? = some x → I i e h → ∃ e1, setT t (.d x) e = some e1 ∧ ∃ e2 h2, f e1 h = .nx e2 h2 ∧ I (i + 1) e2 h2) :
    ∀ {e : Ev} {h : MH}, I 0 e h → ∃ e' h', forR ok t f xs e h = .nx e' h' ∧ I xs.length e' h' := by
  have gen : ∀ (k : Nat) {e : Ev} {h : MH}, k ≤ xs.length → I (xs.length - k) e h → ∃ e' h', forR ok t f (xs.drop (xs.length - k)) e h = .nx e' h' ∧ I xs.length e' h' := by
    intro k
    induction k with
    | zero =>
      intro e h _ i
      rw [Nat.sub_zero, List.drop_length]
      exact ⟨e, h, by simp [forR, hok _ e h i], i⟩
    | succ k ih =>
      intro e h hk i
      have hlt : xs.length - (k + 1) < xs.length := by omega
      obtain ⟨e1, s1, e2, h2, s2, i2⟩ := hf _ _ e h (List.getElem?_eq_getElem hlt) i
      have en : xs.length - (k + 1) + 1 = xs.length - k := by omega
      rw [en] at i2
      obtain ⟨e', h', s3, i3⟩ := ih (by omega) i2
      refine ⟨e', h', ?_, i3⟩
      rw [List.drop_eq_getElem_cons hlt, en]
      simp only [forR, hok _ e h i, if_true, s1, s2, s3]
  intro e h i
  have := gen xs.length (e := e) (h := h) (Nat.le_refl _) (by rw [Nat.sub_self]; exact i)
  rw [Nat.sub_self, List.drop_zero] at this
  exact this
section
variable {F : Nat → List Vl → MH → Rs Vl} {a c : Cd} {t : Tg} {k : Ik} {es : Cds} {e : Ev} {h : MH} {vs : List Vl} {xs : List PyData}
theorem evl_map {E : Ev} {x y : PyData} (h1 : setT t (.d x) e = some E) (h2 : ev F a E h = .ok (.d y) h) : evl (ev F a) (evb F true .n) t e x h = .ok (some y) h := by
  unfold evl
  rw [h1]
  simp only [evb, bindOk, ttB, if_true, h2]
theorem lc_map {E : PyData → Ev} {g : PyData → PyData} (h1 : evs F es e h = .ok vs h) (h2 : itV h k vs = some xs) (h3 : xs.length ≤ 2 ^ 20) (h4 : same h h vs = true)
    (h5 : ∀ x ∈ xs, setT t (.d x) e = some (E x) ∧ ev F a (E x) h = .ok (.d (g x)) h) : ev F (.lc false a t k es .n) e h = .ok (.d (.list (xs.map g))) h := by
  simp only [ev, h1, bindOk, h2]
  rw [if_pos (show lim xs = true from decide_eq_true h3), mapR_pure (fun x => some (g x)) h4 fun x m => evl_map (h5 x m).1 (h5 x m).2]
  simp only [Rs.calm, bindOk, mkR, Bool.false_eq_true, if_false]
  rw [show xs.filterMap (fun x => some (g x)) = xs.map g from by induction xs <;> simp_all]
theorem evl_fil {E : Ev} {x y : PyData} {b : Bool} (h1 : setT t (.d x) e = some E) (h2 : ev F c E h = .ok (.d (.bool b)) h) (h3 : b = true → ev F a E h = .ok (.d y) h) : evl (ev F a) (evb F true (.c c .n)) t e x h = .ok (if b then some y else none) h := by
  unfold evl
  rw [h1]
  simp only [evb, bindOk, ttB, h2]
  cases b with
  | false => simp only [Bool.false_eq_true, if_false, bindOk, ttB, show (false == true) = false from rfl]
  | true => simp only [if_true, bindOk, ttB, beq_self_eq_true, h3]
theorem lc_fil {E : PyData → Ev} {g : PyData → PyData} {p : PyData → Bool} (h1 : evs F es e h = .ok vs h) (h2 : itV h k vs = some xs) (h3 : xs.length ≤ 2 ^ 20) (h4 : same h h vs = true)
    (h5 : ∀ x ∈ xs, setT t (.d x) e = some (E x) ∧ ev F c (E x) h = .ok (.d (.bool (p x))) h ∧ (p x = true → ev F a (E x) h = .ok (.d (g x)) h)) : ev F (.lc false a t k es (.c c .n)) e h = .ok (.d (.list ((xs.filter p).map g))) h := by
  simp only [ev, h1, bindOk, h2]
  rw [if_pos (show lim xs = true from decide_eq_true h3), mapR_pure (fun x => if p x then some (g x) else none) h4 fun x m => evl_fil (h5 x m).1 (h5 x m).2.1 (h5 x m).2.2]
  simp only [Rs.calm, bindOk, mkR, Bool.false_eq_true, if_false]
  rw [show xs.filterMap (fun x => if p x then some (g x) else none) = (xs.filter p).map g from by
    clear h2 h3 h5
    induction xs with
    | nil => rfl
    | cons x xs ih =>
      rw [List.filterMap_cons, List.filter_cons]
      cases p x <;> simp [ih]]
end
theorem asBools_map {α : Type} (p : α → Bool) : ∀ xs : List α, asBools (xs.map fun x => .bool (p x)) = some (xs.map p)
  | [] => rfl
  | x :: xs => by simp only [List.map_cons, asBools, asBools_map p xs, Option.map_some]
theorem pf_allP {α : Type} (p : α → Bool) (xs : List α) : pf .all [.list (xs.map fun x => .bool (p x))] = some (.bool (xs.all p)) := by
  simp only [pf, asBools_map, Option.map_some, List.all_map]
  rfl
theorem pf_anyP {α : Type} (p : α → Bool) (xs : List α) : pf .any [.list (xs.map fun x => .bool (p x))] = some (.bool (xs.any p)) := by
  simp only [pf, asBools_map, Option.map_some, List.any_map]
  rfl
theorem pf_isi (t : String) (x : PyData) : pf (.isi t) [x] = some (.bool (isTy t x)) := rfl
section
variable {W : Nat} {up : Nat → Nat → Bool} {F : Nat → List Vl → MH → Rs Vl} {e : Ev} {h : MH}
theorem evV (i : Nat) : ev F (.v i) e h = (match e[i]? with | some (some x) => .ok x h | _ => .no) := by rw [ev] <;> rfl
theorem evK (x : PyData) : ev F (.k x) e h = .ok (.d x) h := by rw [ev]
theorem evG (y : Str) (x : PyData) : ev F (.g y x) e h = .ok (.d x) h := by rw [ev]
theorem evP (m : Bool) (f : Pf) (es : Cds) : ev F (.p m f es) e h = (evs F es e h).bind fun vs h1 => match snaps h1 vs with
    | some ds => (match pf f ds with
      | some r => mkR m (Mn.fresh f) r h1
      | none => .no)
    | none => .no := by rw [ev] <;> rfl
theorem evS3 (m : Bool) (a b c : Cd) : ev F (.s3 m a b c) e h = (ev F a e h).bind fun x h1 => (ev F b e h1).bind fun y h2 => match y with
    | .d (.int i) => (ev F c e h2).bind fun z h3 => (match snap h3 x, snap h3 z with
      | some dx, some dz => (match pf .slM [dx, .int i, dz] with
        | some r => mkR m true r h3
        | none => .no)
      | _, _ => .no)
    | _ => .no := by rw [ev] <;> rfl
theorem evCh (f g : Pf) (a b c : Cd) : ev F (.ch f g a b c) e h = (ev F a e h).bind fun x h1 => (ev F b e h1).bind fun y h2 => match snap h2 x, snap h2 y with
    | some dx, some dy => (match pf f [dx, dy] with
      | some (.bool true) => (ev F c e h2).bind fun z h3 => (match snap h3 y, snap h3 z with
        | some dy, some dz => (match pf g [dy, dz] with
          | some r => .ok (.d r) h3
          | none => .no)
        | _, _ => .no)
      | some (.bool false) => .ok (.d (.bool false)) h2
      | _ => .no)
    | _, _ => .no := by rw [ev] <;> rfl
theorem evNt (a : Cd) : ev F (.nt a) e h = (ev F a e h).bind (Vl.tt fun b h1 => .ok (.d (.bool (!b))) h1) := by rw [ev]
theorem evBo (w : Bool) (es : Cds) : ev F (.bo w es) e h = evb F w es e h := by rw [ev]
theorem evFi (c a b : Cd) : ev F (.fi c a b) e h = (ev F c e h).bind (Vl.tt fun t h1 => if t then ev F a e h1 else ev F b e h1) := by rw [ev]
theorem evTu (es : Cds) : ev F (.tu es) e h = (evs F es e h).bind fun vs h1 => match datas vs with
    | some ds => if lim ds then .ok (.d (.tuple ds)) h1 else .no
    | none => .no := by rw [ev] <;> rfl
theorem evLi (m : Bool) (es : Cds) : ev F (.li m es) e h = (evs F es e h).bind fun vs h1 => match datas vs with
    | some ds => if lim ds then mkR m true (.list ds) h1 else .no
    | none => .no := by rw [ev] <;> rfl
theorem evCa (f : Nat) (es : Cds) : ev F (.ca f es) e h = (evs F es e h).bind fun vs h1 => F f vs h1 := by rw [ev]
theorem evMe (m : Mt) (o : Cd) (es : Cds) : ev F (.me m o es) e h = (ev F o e h).bind fun x h1 => match x with
    | .r k => (match h1[k]? with
      | some (.l _) => (evs F es e h1).bind fun vs h2 => meD m k vs h2
      | none => .no)
    | _ => .no := by rw [ev] <;> rfl
theorem svE (a : Cd) : sv W up F (.e a) e h = (ev F a e h).toS e fun _ h1 => .nx e h1 := by rw [sv]
theorem svS (t : Tg) (a : Cd) : sv W up F (.s t a) e h = (ev F a e h).toS e fun v h1 => match setT t v e with
    | some e' => .nx e' h1
    | none => .no := by rw [sv] <;> rfl
theorem svPr (is : List Nat) (es : Cds) : sv W up F (.pr is es) e h = (match evs F es e h with
    | .ok vs h1 => (match pars is vs e with
      | some e' => .nx e' h1
      | none => .no)
    | .ex c d h1 => .ex c d e h1
    | .no => .no) := by rw [sv] <;> rfl
theorem svSt (o i a : Cd) : sv W up F (.st o i a) e h = (ev F a e h).toS e fun x h1 => (ev F o e h1).toS e fun y h2 => (ev F i e h2).toS e fun z h3 => match stD y z x h3 with
    | some h4 => .nx e h4
    | none => .no := by rw [sv] <;> rfl
theorem svFi (c : Cd) (a b : Bk) : sv W up F (.fi c a b) e h = (ev F c e h).toS e fun v h1 => match v with
    | .d (.bool true) => bv W up F a e h1
    | .d (.bool false) => bv W up F b e h1
    | _ => .no := by rw [sv] <;> rfl
theorem svRe (a : Cd) : sv W up F (.re a) e h = (ev F a e h).toS e fun v h1 => .rt v h1 := by rw [sv]
theorem svRn : sv W up F .rn e h = .rt (.d .none) h := by rw [sv]
theorem svRa (c : Nat) (i : Bool) (es : Cds) : sv W up F (.ra c i es) e h = (match evs F es e h with
    | .ok vs h1 => (match datas vs with
      | some [d] => if raOk i d then .ex c d e h1 else .no
      | _ => .no)
    | .ex c d h1 => .ex c d e h1
    | .no => .no) := by rw [sv] <;> rfl
theorem svTr (b : Bk) (hs : List (Nat × Option Nat × Sx)) : sv W up F (.tr b hs) e h = (match bv W up F b e h with
    | .ex c d e1 h1 => hdR up hs c d e1 h1
    | s => s) := by rw [sv] <;> rfl
theorem evsN : evs F .n e h = .ok [] h := by rw [evs]
theorem evsC (a : Cd) (r : Cds) : evs F (.c a r) e h = (ev F a e h).bind fun x h1 => (evs F r e h1).bind fun xs h2 => .ok (x :: xs) h2 := by rw [evs]
theorem evbN (w : Bool) : evb F w .n e h = .ok (.d (.bool w)) h := by rw [evb]
theorem evbC (w : Bool) (a : Cd) (r : Cds) : evb F w (.c a r) e h = (ev F a e h).bind (Vl.tt fun b h1 => if b == w then evb F w r e h1 else .ok (.d (.bool b)) h1) := by rw [evb]
theorem bvN : bv W up F .n e h = .nx e h := by rw [bv]
theorem bvC (a : Sd) (r : Bk) : bv W up F (.c a r) e h = (sv W up F a e h).then fun e1 h1 => bv W up F r e1 h1 := by rw [bv]
end
section
variable {W : Nat} {up : Nat → Nat → Bool} {F : Nat → List Vl → MH → Rs Vl} {e : Ev} {h : MH}
theorem svFo (t : Tg) (k : Ik) (es : Cds) (b : Bk) : sv W up F (.fo t k es b) e h = (match evs F es e h with
    | .ok vs h1 => (match itV h1 k vs with
      | some xs => forR (fun h' => same h1 h' vs) t (bv W up F b) xs e h1
      | none => .no)
    | .ex c d h1 => .ex c d e h1
    | .no => .no) := by rw [sv] <;> rfl
/-- a for that asks each item and may hand back v -/
theorem forR_all {ok : MH → Bool} {t : Tg} {f : Ev → MH → Ss} {E : PyData → Ev} {p : PyData → Bool} {v : Vl} (hok : ok h = true) (h1 : ∀ x y, setT t (.d y) (E x) = some (E y)) :
    ∀ {xs : List PyData} {e : Ev}, (∀ y, setT t (.d y) e = some (E y)) → (∀ x ∈ xs, f (E x) h = if p x = true then .nx (E x) h else .rt v h) → ∃ e', (e' = e ∨ ∃ x, e' = E x) ∧ forR ok t f xs e h = if xs.all p = true then .nx e' h else .rt v h
  | [], e, h0, _ => ⟨e, .inl rfl, by simp [forR, hok]⟩
  | x :: xs, e, h0, hf => by
    have e1 := hf x List.mem_cons_self
    cases hp : p x with
    | true =>
      rw [hp, if_pos rfl] at e1
      obtain ⟨e', k1, k2⟩ := forR_all hok h1 (xs := xs) (e := E x) (h1 x) fun y m => hf y (List.mem_cons_of_mem _ m)
      refine ⟨e', .inr ?_, ?_⟩
      · rcases k1 with k1 | k1
        · exact ⟨x, k1⟩
        · exact k1
      · simp only [forR, hok, if_true, h0, e1, k2, List.all_cons, hp, Bool.true_and]
    | false =>
      rw [hp, if_neg Bool.false_ne_true] at e1
      refine ⟨e, .inl rfl, ?_⟩
      simp only [forR, hok, if_true, h0, e1, List.all_cons, hp, Bool.false_and, Bool.false_eq_true, if_false]
end
section
variable {W : Nat} {up : Nat → Nat → Bool} {F : Nat → List Vl → MH → Rs Vl} {t : Tg} {k : Ik} {es : Cds} {b : Bk} {e e1 : Ev} {h h1 : MH} {vs : List Vl} {xs : List PyData} {s : Sd} {r : Bk} {v : Vl}
theorem svFo_eq (hev : evs F es e h = .ok vs h1) (hit : itV h1 k vs = some xs) : sv W up F (.fo t k es b) e h = forR (fun h' => same h1 h' vs) t (bv W up F b) xs e h1 := by
  rw [svFo, hev]
  simp only [hit]
theorem bv_nx (a : sv W up F s e h = .nx e1 h1) : bv W up F (.c s r) e h = bv W up F r e1 h1 := by
  rw [bv, a]
  exact thenNx e1 h1 _
theorem bv_rt (a : sv W up F s e h = .rt v h1) : bv W up F (.c s r) e h = .rt v h1 := by
  rw [bv, a]
  exact thenRt v h1 _
end
end Mn

/-! MnR: the evaluator by rewriting: comprehensions, tests, walks. -/
namespace Mn
open PySem

/-! ### comprehensions over lists of anything -/
def mapA {α : Type} (ok : MH → Bool) (f : α → MH → Rs (Option PyData)) : List α → MH → Rs (List PyData)
  | [], h => if ok h = true then .ok [] h else .no
  | x :: xs, h => if ok h = true then (f x h).bind fun o h1 => (mapA ok f xs h1).bind fun r h2 => .ok (match o with | some y => y :: r | none => r) h2 else .no
theorem mapR_A (ok : MH → Bool) (f : PyData → MH → Rs (Option PyData)) : ∀ (xs : List PyData) (h : MH), mapR ok f xs h = mapA ok f xs h
  | [], h => rfl
  | x :: xs, h => by
    simp only [mapR, mapA, mapR_A ok f xs] <;> rfl
theorem mapA_map {α : Type} (ok : MH → Bool) (φ : α → PyData) (f : PyData → MH → Rs (Option PyData)) : ∀ (ys : List α) (h : MH), mapA ok f (ys.map φ) h = mapA ok (fun y h' => f (φ y) h') ys h
  | [], h => rfl
  | y :: ys, h => by
    simp only [List.map_cons, mapA, mapA_map ok φ f ys]
theorem mapA_pure {α : Type} (ok : MH → Bool) (g : α → PyData) (h : MH) : ∀ (xs : List α), mapA ok (fun x h' => Rs.ok (some (g x)) h') xs h = if ok h = true then .ok (xs.map g) h else .no
  | [] => rfl
  | x :: xs => by
    simp only [mapA, bindOk, mapA_pure ok g h xs, List.map_cons]
    cases ok h <;> rfl
theorem mapA_ite {α : Type} (ok : MH → Bool) (p : α → Bool) (g : α → PyData) (h : MH) : ∀ (xs : List α), mapA ok (fun x h' => if p x = true then Rs.ok (some (g x)) h' else Rs.ok none h') xs h = if ok h = true then .ok ((xs.filter p).map g) h else .no
  | [] => rfl
  | x :: xs => by
    rw [mapA]
    cases hp : p x <;> simp only [Bool.false_eq_true, if_false, if_true, bindOk, mapA_ite ok p g h xs, List.filter_cons, hp] <;> cases ok h <;> rfl
theorem mapA_mem {α : Type} {ok : MH → Bool} {f : α → MH → Rs (Option PyData)} {h : MH} (g : α → Option PyData) (hok : ok h = true) : ∀ {xs : List α}, (∀ x ∈ xs, f x h = .ok (g x) h) → mapA ok f xs h = .ok (xs.filterMap g) h
  | [], _ => by simp [mapA, hok]
  | x :: xs, hf => by
    simp only [mapA, hok, if_true, hf x List.mem_cons_self, bindOk, mapA_mem g hok (fun y m => hf y (List.mem_cons_of_mem _ m)), List.filterMap_cons]
    cases g x <;> rfl
theorem mapA_memM {α : Type} {ok : MH → Bool} {f : α → MH → Rs (Option PyData)} {h : MH} (g : α → PyData) (hok : ok h = true) {xs : List α} (hf : ∀ x ∈ xs, f x h = .ok (some (g x)) h) : mapA ok f xs h = .ok (xs.map g) h := by
  rw [mapA_mem (fun x => some (g x)) hok hf]
  congr 1
  induction xs with
  | nil => rfl
  | cons x xs ih => rw [List.filterMap_cons, List.map_cons, ih fun y m => hf y (List.mem_cons_of_mem _ m)]
theorem mapA_memF {α : Type} {ok : MH → Bool} {f : α → MH → Rs (Option PyData)} {h : MH} (p : α → Bool) (g : α → PyData) (hok : ok h = true) {xs : List α} (hf : ∀ x ∈ xs, f x h = if p x = true then .ok (some (g x)) h else .ok none h) : mapA ok f xs h = .ok ((xs.filter p).map g) h := by
  rw [mapA_mem (fun x => if p x = true then some (g x) else none) hok fun x m => by rw [hf x m]; cases p x <;> rfl]
  congr 1
  clear hf
  induction xs with
  | nil => rfl
  | cons x xs ih =>
    rw [List.filterMap_cons, List.filter_cons, ih]
    cases p x <;> rfl
/-- one that changes the heap, in a way that is told by its state -/
theorem mapA_st {α σ : Type} {ok : MH → Bool} {f : α → MH → Rs (Option PyData)} (H : σ → MH) (g : α → Option PyData → Prop) (hok : ∀ s, ok (H s) = true) : ∀ {xs : List α} {s : σ}, (∀ x ∈ xs, ∀ s, ∃ o s', f x (H s) = .ok o (H s') ∧ g x o) →
    ∃ (os : List (Option PyData)) (s' : σ), mapA ok f xs (H s) = .ok (os.filterMap id) (H s') ∧ All2 g xs os
  | [], s, _ => ⟨[], s, by simp [mapA, hok], .nil⟩
  | x :: xs, s, hf => by
    obtain ⟨o, s1, e1, g1⟩ := hf x List.mem_cons_self s
    obtain ⟨os, s2, e2, g2⟩ := mapA_st H g hok (xs := xs) (s := s1) fun y m => hf y (List.mem_cons_of_mem _ m)
    refine ⟨o :: os, s2, ?_, .cons g1 g2⟩
    simp only [mapA, hok, if_true, e1, bindOk, e2, List.filterMap_cons]
    cases o <;> rfl
theorem calmOk {α : Type} (a : α) (h : MH) : (Rs.ok a h).calm = .ok a h := rfl
theorem lim_le {xs : List PyData} (h : xs.length ≤ 1048576) : lim xs = true := decide_eq_true h
theorem lim_map {α : Type} {xs : List α} {g : α → PyData} (h : xs.length ≤ 1048576) : lim (xs.map g) = true := decide_eq_true (by rw [List.length_map]; exact h)
theorem lim_ints {xs : List Int} (h : xs.length ≤ 1048576) : lim (ofInts xs) = true := lim_map h
theorem lim0 : lim [] = true := rfl
theorem lim1 (a : PyData) : lim [a] = true := rfl
theorem lim2 (a b : PyData) : lim [a, b] = true := rfl
theorem lim3 (a b c : PyData) : lim [a, b, c] = true := rfl
theorem lim4 (a b c d : PyData) : lim [a, b, c, d] = true := rfl
theorem limC {x : PyData} {xs : List PyData} (h : xs.length ≤ 1000) : lim (x :: xs) = true := decide_eq_true (by show xs.length + 1 ≤ 1048576; omega)
theorem iteOk {α : Type} (p : Prop) [Decidable p] (a b : α) (h : MH) : (if p then Rs.ok a h else Rs.ok b h) = Rs.ok (if p then a else b) h := by split <;> rfl
section
variable {F : Nat → List Vl → MH → Rs Vl} {e : Ev} {h : MH}
theorem evLc (m : Bool) (a : Cd) (t : Tg) (k : Ik) (es fs : Cds) : ev F (.lc m a t k es fs) e h = (evs F es e h).bind fun vs h1 => match itV h1 k vs with
    | some xs => if lim xs = true then (mapA (fun h' => same h1 h' vs) (evl (ev F a) (evb F true fs) t e) xs h1).calm.bind fun r h2 => mkR m true (.list r) h2 else .no
    | none => .no := by
  rw [ev]
  congr 1
  funext vs h1
  cases itV h1 k vs with
  | none => rfl
  | some xs => simp only [mapR_A]
end
theorem evl_eq (a g : Ev → MH → Rs Vl) (t : Tg) (e : Ev) (x : PyData) (h : MH) : evl a g t e x h = match setT t (.d x) e with
  | some e' => (g e' h).bind (Vl.tt fun b h2 => if b then (a e' h2).bind fun y h3 => (match y with
      | .d y => .ok (some y) h3
      | _ => .no) else .ok none h2)
  | none => .no := rfl
theorem mapA_ints (ok : MH → Bool) (f : PyData → MH → Rs (Option PyData)) (ys : List Int) (h : MH) : mapA ok f (ofInts ys) h = mapA ok (fun y h' => f (.int y) h') ys h := mapA_map ok .int f ys h
theorem ints_map {α : Type} (f : α → Int) (l : List α) : l.map (fun x => PyData.int (f x)) = ofInts (l.map f) := by
  unfold ofInts; rw [List.map_map]; rfl
theorem ints_id (l : List Int) : l.map (fun x => PyData.int x) = ofInts l := rfl
theorem ints_int (l : List Int) : l.map PyData.int = ofInts l := rfl
theorem same_d (h h' : MH) (x : PyData) (r : List Vl) : same h h' (.d x :: r) = same h h' r := rfl
theorem same_s (h h' : MH) (x : List Int) (r : List Vl) : same h h' (.s x :: r) = same h h' r := rfl
theorem same_n (h h' : MH) : same h h' [] = true := rfl
/-! ### and, or of two -/
theorem andC (b c : Bool) (h : MH) : (if (b == true) = true then Rs.ok (Vl.d (.bool c)) h else .ok (.d (.bool b)) h) = .ok (.d (.bool (b && c))) h := by cases b <;> rfl
theorem orC (b c : Bool) (h : MH) : (if (b == false) = true then Rs.ok (Vl.d (.bool c)) h else .ok (.d (.bool b)) h) = .ok (.d (.bool (b || c))) h := by cases b <;> rfl
/-! ### tests -/
/-- what a test leads to -/
def brc (x : Rs Vl) (e : Ev) (A B : MH → Ss) : Ss :=
  x.toS e fun v h1 => match v with
    | .d (.bool true) => A h1
    | .d (.bool false) => B h1
    | _ => .no
theorem brcB (b : Bool) (h : MH) (e : Ev) (A B : MH → Ss) : brc (.ok (.d (.bool b)) h) e A B = if b = true then A h else B h := by cases b <;> rfl
theorem brcIte (p : Prop) [Decidable p] (x y : Rs Vl) (e : Ev) (A B : MH → Ss) : brc (if p then x else y) e A B = if p then brc x e A B else brc y e A B := by split <;> rfl
theorem brcX (c : Nat) (d : PyData) (h : MH) (e : Ev) (A B : MH → Ss) : brc (.ex c d h) e A B = .ex c d e h := rfl
section
variable {W : Nat} {up : Nat → Nat → Bool} {F : Nat → List Vl → MH → Rs Vl} {e : Ev} {h : MH}
theorem svIf (c : Cd) (a b : Bk) : sv W up F (.fi c a b) e h = brc (ev F c e h) e (fun h1 => bv W up F a e h1) (fun h1 => bv W up F b e h1) := by rw [sv] <;> rfl
end
theorem thenIte (b : Bool) (x y : Ss) (f : Ev → MH → Ss) : (if b = true then x else y).then f = if b = true then x.then f else y.then f := by cases b <;> rfl
theorem finIte (n : Nat) (b : Bool) (x y : Ss) : fin n (if b = true then x else y) = if b = true then fin n x else fin n y := by cases b <;> rfl
theorem toSIte (b : Bool) (x y : Rs Vl) (e : Ev) (f : Vl → MH → Ss) : (if b = true then x else y).toS e f = if b = true then x.toS e f else y.toS e f := by cases b <;> rfl
theorem bindIte {α β : Type} (b : Bool) (x y : Rs α) (f : α → MH → Rs β) : (if b = true then x else y).bind f = if b = true then x.bind f else y.bind f := by cases b <;> rfl
theorem finRt (n : Nat) (x : PyData) (h : MH) : fin n (.rt (.d x) h) = .ok (.d x) (h.take n) := rfl
theorem finNx (n : Nat) (e : Ev) (h : MH) : fin n (.nx e h) = .ok (.d .none) (h.take n) := rfl
theorem finX (n c : Nat) (d : PyData) (e : Ev) (h : MH) : fin n (.ex c d e h) = .ex c d (h.take n) := rfl
theorem toSX (c : Nat) (d : PyData) (h : MH) (e : Ev) (f : Vl → MH → Ss) : (Rs.ex c d h).toS e f = .ex c d e h := rfl
theorem bindX {α β : Type} (c : Nat) (d : PyData) (h : MH) (f : α → MH → Rs β) : (Rs.ex c d h).bind f = .ex c d h := rfl
theorem takeAll (m : Mo) (t : MH) : (m :: t).take (m :: t).length = m :: t := List.take_length
/-! ### walks over lists of anything -/
theorem forR_map {α : Type} {ok : MH → Bool} {t : Tg} {f : Ev → MH → Ss} (φ : α → PyData) (I : Nat → Ev → MH → Prop) {xs : List α} (hok : ∀ i e h, I i e h → ok h = true)
    (hf : ∀ (i : Nat) (x : α) (e : Ev) (h : MH), xs[i]? = some x → I i e h → ∃ e1, setT t (.d (φ x)) e = some e1 ∧ ∃ e2 h2, f e1 h = .nx e2 h2 ∧ I (i + 1) e2 h2) {e : Ev} {h : MH} (h0 : I 0 e h) :
    ∃ e' h', forR ok t f (xs.map φ) e h = .nx e' h' ∧ I xs.length e' h' := by
  have := forR_st (ok := ok) (t := t) (f := f) I (xs := xs.map φ) hok (fun i x e h hx hI => by
    rw [List.getElem?_map] at hx
    obtain ⟨y, hy, rfl⟩ := Option.map_eq_some_iff.mp hx
    exact hf i y e h hy hI) h0
  rw [List.length_map] at this
  exact this
/-- one that always ends the same way: the state is folded -/
theorem forR_fold {α σ : Type} {ok : MH → Bool} {t : Tg} {f : Ev → MH → Ss} (φ : α → PyData) (E : σ → Ev) (H : σ → MH) (g : σ → α → σ) (hok : ∀ s, ok (H s) = true) :
    ∀ {xs : List α} {s : σ}, (∀ s, ∀ x ∈ xs, ∃ e1, setT t (.d (φ x)) (E s) = some e1 ∧ f e1 (H s) = .nx (E (g s x)) (H (g s x))) → forR ok t f (xs.map φ) (E s) (H s) = .nx (E (xs.foldl g s)) (H (xs.foldl g s))
  | [], s, _ => by simp [forR, hok]
  | x :: xs, s, hf => by
    obtain ⟨e1, a1, a2⟩ := hf s x List.mem_cons_self
    simp only [List.map_cons, forR, hok, if_true, a1, a2, List.foldl_cons]
    exact forR_fold φ E H g hok fun s y m => hf s y (List.mem_cons_of_mem _ m)
end Mn

/-! MnG: draws, ranges, lists that grow. -/
namespace Mn
open PySem
/-! ### ints -/
theorem eqv_int (a b : Int) : PyData.eqv (.int a) (.int b) = decide (a = b) := by
  simp only [PyData.eqv]
  rw [Bool.beq_eq_decide_eq]
theorem eqOk_int (a : Int) : eqOk (.int a) = true := by simp [eqOk, PyData.canLay0, PyData.depth]
theorem pf_add (a b : Int) : pf .add [.int a, .int b] = some (.int (a + b)) := rfl
theorem pf_sub (a b : Int) : pf .sub [.int a, .int b] = some (.int (a - b)) := rfl
theorem pf_neg (a : Int) : pf .neg [.int a] = some (.int (-a)) := rfl
theorem pf_mul (a b : Int) (h : b.natAbs < 2 ^ 64) : pf .mul [.int a, .int b] = some (.int (a * b)) := by
  have : decide (b.natAbs < 2 ^ 64) = true := decide_eq_true h
  simp only [pf, this, Bool.or_true, if_true]
theorem pf_fdiv (a b : Int) (h : 0 < b) (h2 : b < 1073741824) : pf .fdiv [.int a, .int b] = some (.int (a / b)) := by simp only [pf, h, h2, and_self, decide_true, if_true]
theorem pf_mod (a b : Int) (h : 0 < b) : pf .mod [.int a, .int b] = some (.int (a % b)) := by simp only [pf, h, decide_true, if_true]
theorem pf_eqI (a b : Int) : pf .eq [.int a, .int b] = some (.bool (decide (a = b))) := by simp only [pf, eqOk_int, eqv_int, Bool.and_self, if_true]
theorem pf_neI (a b : Int) : pf .ne [.int a, .int b] = some (.bool (!decide (a = b))) := by simp only [pf, eqOk_int, eqv_int, Bool.and_self, if_true]
theorem pf_ltI (a b : Int) : pf .lt [.int a, .int b] = some (.bool (decide (a < b))) := rfl
theorem pf_gtI (a b : Int) : pf .gt [.int a, .int b] = some (.bool (decide (b < a))) := rfl
theorem pf_leI (a b : Int) : pf .le [.int a, .int b] = some (.bool (decide (a ≤ b))) := rfl
theorem pf_geI (a b : Int) : pf .ge [.int a, .int b] = some (.bool (decide (b ≤ a))) := rfl
theorem pf_lenL (xs : List PyData) : pf .len [.list xs] = some (.int xs.length) := rfl
theorem pf_lenT (xs : List PyData) : pf .len [.tuple xs] = some (.int xs.length) := rfl
theorem pf_int (a : Int) : pf .int [.int a] = some (.int a) := rfl
theorem pf_abs (a : Int) : pf .abs [.int a] = some (.int (if a < 0 then -a else a)) := rfl
theorem pf_min (a b : Int) : pf .min2 [.int a, .int b] = some (.int (if b < a then b else a)) := rfl
theorem pf_max (a b : Int) : pf .max2 [.int a, .int b] = some (.int (if a < b then b else a)) := rfl
theorem pf_ixLn (xs : List PyData) (i : Int) (h : 0 ≤ i) : pf .ix [.list xs, .int i] = xs[i.toNat]? := by
  simp only [pf, L2.atI, L2.ixN, h, if_true]
  by_cases h2 : i < xs.length
  · simp [h2]
  · rw [if_neg h2, List.getElem?_eq_none (by omega)]; rfl
theorem pf_ixTn (xs : List PyData) (i : Int) (h : 0 ≤ i) : pf .ix [.tuple xs, .int i] = xs[i.toNat]? := by
  simp only [pf, L2.atI, L2.ixN, h, if_true]
  by_cases h2 : i < xs.length
  · simp [h2]
  · rw [if_neg h2, List.getElem?_eq_none (by omega)]; rfl
theorem ix0T (a : PyData) (r : List PyData) : pf .ix [.tuple (a :: r), .int 0] = some a := pf_ixTn _ 0 (by decide)
theorem ix1T (a b : PyData) (r : List PyData) : pf .ix [.tuple (a :: b :: r), .int 1] = some b := pf_ixTn _ 1 (by decide)
theorem ix2T (a b c : PyData) (r : List PyData) : pf .ix [.tuple (a :: b :: c :: r), .int 2] = some c := pf_ixTn _ 2 (by decide)
theorem ix3T (a b c d : PyData) (r : List PyData) : pf .ix [.tuple (a :: b :: c :: d :: r), .int 3] = some d := pf_ixTn _ 3 (by decide)
theorem ix0L (a : PyData) (r : List PyData) : pf .ix [.list (a :: r), .int 0] = some a := pf_ixLn _ 0 (by decide)
theorem ix1L (a b : PyData) (r : List PyData) : pf .ix [.list (a :: b :: r), .int 1] = some b := pf_ixLn _ 1 (by decide)
theorem ix2L (a b c : PyData) (r : List PyData) : pf .ix [.list (a :: b :: c :: r), .int 2] = some c := pf_ixLn _ 2 (by decide)
theorem ixLD (xs : List PyData) (i : Int) (h : 0 ≤ i) (h2 : i < xs.length) : pf .ix [.list xs, .int i] = some (xs.getD i.toNat .none) := by
  rw [pf_ixLn xs i h, List.getElem?_eq_getElem (by omega), List.getD_eq_getElem?_getD, List.getElem?_eq_getElem (by omega)]; rfl
theorem ixTD (xs : List PyData) (i : Int) (h : 0 ≤ i) (h2 : i < xs.length) : pf .ix [.tuple xs, .int i] = some (xs.getD i.toNat .none) := by
  rw [pf_ixTn xs i h, List.getElem?_eq_getElem (by omega), List.getD_eq_getElem?_getD, List.getElem?_eq_getElem (by omega)]; rfl
theorem ixLM {α : Type} (φ : α → PyData) (xs : List α) (dflt : α) (i : Int) (h : 0 ≤ i) (h2 : i < xs.length) : pf .ix [.list (xs.map φ), .int i] = some (φ (xs.getD i.toNat dflt)) := by
  rw [pf_ixLn _ i h, List.getElem?_map, List.getD_eq_getElem?_getD, List.getElem?_eq_getElem (by omega)]; rfl
theorem ixTM {α : Type} (φ : α → PyData) (xs : List α) (dflt : α) (i : Int) (h : 0 ≤ i) (h2 : i < xs.length) : pf .ix [.tuple (xs.map φ), .int i] = some (φ (xs.getD i.toNat dflt)) := by
  rw [pf_ixTn _ i h, List.getElem?_map, List.getD_eq_getElem?_getD, List.getElem?_eq_getElem (by omega)]; rfl
theorem getD_mem {α : Type} {xs : List α} {i : Nat} {dflt : α} (h : i < xs.length) : xs.getD i dflt ∈ xs := by
  rw [List.getD_eq_getElem?_getD, List.getElem?_eq_getElem h]
  exact List.getElem_mem h
theorem ofInts_len (l : List Int) : (ofInts l).length = l.length := by simp [ofInts]
theorem ofInts_app (a b : List Int) : ofInts a ++ ofInts b = ofInts (a ++ b) := by simp [ofInts]
theorem ofInts_snoc (l : List Int) (c : Int) : ofInts l ++ [.int c] = ofInts (l ++ [c]) := by simp [ofInts]
theorem ofInts_get (ns : List Int) (i : Nat) : (ofInts ns)[i]? = ns[i]?.map PyData.int := by simp [ofInts]
theorem ofRows_len (l : List (List Int)) : (ofRows l).length = l.length := by simp [ofRows]
theorem ofRows_snoc (l : List (List Int)) (b : List Int) : ofRows l ++ [.tuple (ofInts b)] = ofRows (l ++ [b]) := by simp [ofRows, ofRow]
theorem lim_rows {l : List (List Int)} (h : l.length ≤ 1048576) : lim (ofRows l) = true := lim_map h
theorem isort_len (l : List Int) : (isort l).length = l.length := (isort_perm l).length_eq
/-! ### ranges -/
def rngI (a b : Int) : List Int := (List.range (b - a).toNat).map fun i => a + (i : Nat)
theorem rngD_I (a b : Int) : rngD a b = ofInts (rngI a b) := by
  unfold rngD rngI ofInts; rw [List.map_map]; rfl
theorem rngI_len (a b : Int) : (rngI a b).length = (b - a).toNat := by simp [rngI]
theorem rngI_mem {a b x : Int} : x ∈ rngI a b ↔ a ≤ x ∧ x < b := by
  unfold rngI
  rw [List.mem_map]
  constructor
  · rintro ⟨i, hi, rfl⟩
    have := List.mem_range.mp hi
    omega
  · intro ⟨h1, h2⟩
    exact ⟨(x - a).toNat, List.mem_range.mpr (by omega), by omega⟩
theorem rngI_pw (a b : Int) : (rngI a b).Pairwise (· < ·) := by
  unfold rngI
  rw [List.pairwise_map]
  exact List.pairwise_lt_range.imp fun h => by omega
theorem itV_r1 (h : MH) (n : Int) (h1 : -4611686018427387904 ≤ n) (h2 : n < 4611686018427387904) : itV h .r1 [.d (.int n)] = some (ofInts (rngI 0 n)) := by
  have : small62 n = true := decide_eq_true ⟨h1, h2⟩
  simp only [itV, snaps, snap, itD, this, if_true, rngD_I]
theorem itV_r2 (h : MH) (a b : Int) (h1 : -4611686018427387904 ≤ a) (h2 : a < 4611686018427387904) (h3 : -4611686018427387904 ≤ b) (h4 : b < 4611686018427387904) : itV h .r2 [.d (.int a), .d (.int b)] = some (ofInts (rngI a b)) := by
  have e1 : small62 a = true := decide_eq_true ⟨h1, h2⟩
  have e2 : small62 b = true := decide_eq_true ⟨h3, h4⟩
  simp only [itV, snaps, snap, itD, e1, e2, Bool.and_self, if_true, rngD_I]
theorem itV_T (h : MH) (xs : List PyData) : itV h .sq [.d (.tuple xs)] = some xs := rfl
theorem itV_L (h : MH) (xs : List PyData) : itV h .sq [.d (.list xs)] = some xs := rfl
theorem itV_zT (h : MH) (xs ys : List PyData) : itV h .zp [.d (.tuple xs), .d (.tuple ys)] = some (zipD xs ys) := rfl
theorem itV_zL (h : MH) (xs ys : List PyData) : itV h .zp [.d (.list xs), .d (.list ys)] = some (zipD xs ys) := rfl
theorem itV_en (h : MH) (xs : List PyData) : itV h .en [.d (.list xs)] = some (enD 0 xs) := rfl
/-! ### lists at the heap's end -/
theorem last_get {α : Type} (t : List α) (a : α) : (t ++ [a])[t.length]? = some a := by simp
theorem last_set {α : Type} (t : List α) (a b : α) : (t ++ [a]).set t.length b = t ++ [b] := by simp
theorem take_app {α : Type} (t r : List α) : (t ++ r).take t.length = t := by simp
theorem mid_get {α : Type} (t : List α) (a b : α) : (t ++ [a, b])[t.length]? = some a := by simp
theorem mid_set {α : Type} (t : List α) (a b c : α) : (t ++ [a, b]).set t.length c = t ++ [c, b] := by simp
theorem mid_get1 {α : Type} (t : List α) (a b : α) : (t ++ [a, b])[t.length + 1]? = some b := by simp
theorem mid_set1 {α : Type} (t : List α) (a b c : α) : (t ++ [a, b]).set (t.length + 1) c = t ++ [a, c] := by simp
theorem app_app1 {α : Type} (t : List α) (a b : α) : t ++ [a] ++ [b] = t ++ [a, b] := by simp
/-! ### a draw's list -/
def dM (cells : List Int) (pos rest seed : Int) : Mo := .l [.list (ofInts cells), .int pos, .int rest, .int seed]
structure DS (m : Mo) : Prop where
  ex : ∃ cells pos rest seed, m = dM cells pos rest seed ∧ (∀ c ∈ cells, 0 ≤ c) ∧ -1 ≤ pos ∧ 0 ≤ rest ∧ 0 ≤ seed
structure Dr where
  cells : List Int
  pos : Int
  rest : Int
  seed : Int
  hc : ∀ c ∈ cells, 0 ≤ c
  hp : -1 ≤ pos
  hr : 0 ≤ rest
  hs : 0 ≤ seed
def Dr.mo (d : Dr) : Mo := dM d.cells d.pos d.rest d.seed
theorem DS.dr {m : Mo} (h : DS m) : ∃ d : Dr, m = d.mo := by
  obtain ⟨c, p, r, s, e, h1, h2, h3, h4⟩ := h.ex
  exact ⟨⟨c, p, r, s, h1, h2, h3, h4⟩, e⟩
theorem Dr.ds (d : Dr) : DS d.mo := ⟨⟨d.cells, d.pos, d.rest, d.seed, rfl, d.hc, d.hp, d.hr, d.hs⟩⟩
/-- items that are kept by draws -/
theorem mapA_dr {ok : MH → Bool} {t : MH} {f : Int → MH → Rs (Option PyData)} : ∀ {L : List Int} {d : Dr}, (∀ d : Dr, ok (d.mo :: t) = true) → (∀ x ∈ L, ∀ d : Dr, ∃ (b : Bool) (d' : Dr), f x (d.mo :: t) = if b = true then .ok (some (.int x)) (d'.mo :: t) else .ok none (d'.mo :: t)) →
    ∃ (xs : List Int) (d' : Dr), mapA ok f L (d.mo :: t) = .ok (ofInts xs) (d'.mo :: t) ∧ xs.Sublist L
  | [], d, hok, _ => ⟨[], d, by simp [mapA, hok, ofInts], .refl _⟩
  | x :: L, d, hok, hf => by
    obtain ⟨b, d1, e1⟩ := hf x List.mem_cons_self d
    obtain ⟨xs, d2, e2, s2⟩ := mapA_dr (d := d1) hok fun y m => hf y (List.mem_cons_of_mem _ m)
    cases b with
    | true =>
      rw [if_pos rfl] at e1
      exact ⟨x :: xs, d2, by simp only [mapA, hok, if_true, e1, bindOk, e2]; rfl, s2.cons_cons x⟩
    | false =>
      rw [if_neg Bool.false_ne_true] at e1
      exact ⟨xs, d2, by simp only [mapA, hok, if_true, e1, bindOk, e2], s2.cons x⟩
/-- items that are made by draws -/
theorem mapA_mk {α β : Type} {ok : MH → Bool} {t : MH} {f : α → MH → Rs (Option PyData)} (φ : β → PyData) (P : β → Prop) : ∀ {L : List α} {d : Dr}, (∀ d : Dr, ok (d.mo :: t) = true) → (∀ x ∈ L, ∀ d : Dr, ∃ (y : β) (d' : Dr), f x (d.mo :: t) = .ok (some (φ y)) (d'.mo :: t) ∧ P y) →
    ∃ (ys : List β) (d' : Dr), mapA ok f L (d.mo :: t) = .ok (ys.map φ) (d'.mo :: t) ∧ ys.length = L.length ∧ ∀ y ∈ ys, P y
  | [], d, hok, _ => ⟨[], d, by simp [mapA, hok], rfl, by simp⟩
  | x :: L, d, hok, hf => by
    obtain ⟨y, d1, e1, p1⟩ := hf x List.mem_cons_self d
    obtain ⟨ys, d2, e2, s2, p2⟩ := mapA_mk φ P (d := d1) hok fun y m => hf y (List.mem_cons_of_mem _ m)
    refine ⟨y :: ys, d2, by simp only [mapA, hok, if_true, e1, bindOk, e2]; rfl, by simp [s2], fun z hz => ?_⟩
    rcases List.mem_cons.mp hz with rfl | hz
    · exact p1
    · exact p2 z hz
section
variable {F : Nat → List Vl → MH → Rs Vl} {a : Cd} {tg : Tg} {kd : Ik} {es fs : Cds} {e : Ev} {h h1 h2 : MH} {vs : List Vl}
theorem lc_of {α : Type} {φ : α → PyData} {L : List α} {r : List PyData} (hes : evs F es e h = .ok vs h1) (hit : itV h1 kd vs = some (L.map φ)) (hl : L.length ≤ 1048576)
    (hm : mapA (fun h' => same h1 h' vs) (fun y => evl (ev F a) (evb F true fs) tg e (φ y)) L h1 = .ok r h2) : ev F (.lc false a tg kd es fs) e h = .ok (.d (.list r)) h2 := by
  rw [evLc, hes, bindOk, hit]
  show (if lim (L.map φ) = true then _ else _) = _
  rw [if_pos (lim_map hl), mapA_map]
  rw [show (mapA (fun h' => same h1 h' vs) (fun y h' => evl (ev F a) (evb F true fs) tg e (φ y) h') L h1) = .ok r h2 from hm]
  rfl
theorem lc_p {α : Type} {φ : α → PyData} {L : List α} (g : α → PyData) (hes : evs F es e h = .ok vs h) (hit : itV h kd vs = some (L.map φ)) (hl : L.length ≤ 1048576) (hs : same h h vs = true)
    (hm : ∀ x ∈ L, evl (ev F a) (evb F true fs) tg e (φ x) h = .ok (some (g x)) h) : ev F (.lc false a tg kd es fs) e h = .ok (.d (.list (L.map g))) h := lc_of hes hit hl (mapA_memM g hs hm)
theorem lc_pf {α : Type} {φ : α → PyData} {L : List α} (p : α → Bool) (g : α → PyData) (hes : evs F es e h = .ok vs h) (hit : itV h kd vs = some (L.map φ)) (hl : L.length ≤ 1048576) (hs : same h h vs = true)
    (hm : ∀ x ∈ L, evl (ev F a) (evb F true fs) tg e (φ x) h = if p x = true then .ok (some (g x)) h else .ok none h) : ev F (.lc false a tg kd es fs) e h = .ok (.d (.list ((L.filter p).map g))) h := lc_of hes hit hl (mapA_memF p g hs hm)
theorem lc_pd {L : List PyData} (g : PyData → PyData) (hes : evs F es e h = .ok vs h) (hit : itV h kd vs = some L) (hl : L.length ≤ 1048576) (hs : same h h vs = true)
    (hm : ∀ x ∈ L, evl (ev F a) (evb F true fs) tg e x h = .ok (some (g x)) h) : ev F (.lc false a tg kd es fs) e h = .ok (.d (.list (L.map g))) h := lc_of (φ := id) hes (by rw [List.map_id]; exact hit) hl (mapA_memM g hs hm)
end
/-! ### slices -/
theorem cut_to (xs : List PyData) (hi : Int) (h : 0 ≤ hi) : cut xs none (some hi) = xs.take hi.toNat := by
  show (xs.drop 0).take ((if hi < 0 then (hi + (xs.length : Int)).toNat else min hi.toNat xs.length) - 0) = _
  rw [if_neg (by omega), List.drop_zero, Nat.sub_zero]
  by_cases h2 : hi.toNat ≤ xs.length
  · rw [Nat.min_eq_left h2]
  · rw [Nat.min_eq_right (by omega), List.take_length, List.take_of_length_le (by omega)]
theorem cut_from (xs : List PyData) (lo : Int) (h : 0 ≤ lo) : cut xs (some lo) none = xs.drop lo.toNat := by
  show (xs.drop (if lo < 0 then (lo + (xs.length : Int)).toNat else min lo.toNat xs.length)).take (xs.length - (if lo < 0 then (lo + (xs.length : Int)).toNat else min lo.toNat xs.length)) = _
  rw [if_neg (by omega)]
  by_cases h2 : lo.toNat ≤ xs.length
  · rw [Nat.min_eq_left h2]
    exact List.take_of_length_le (by rw [List.length_drop]; omega)
  · rw [Nat.min_eq_right (by omega), List.drop_eq_nil_of_le (Nat.le_refl _), List.drop_eq_nil_of_le (by omega), List.take_nil]
theorem slT_T (xs : List PyData) (hi : Int) (h : 0 ≤ hi) : pf .slT [.tuple xs, .int hi] = some (.tuple (xs.take hi.toNat)) := by simp only [pf, sl, cut_to xs hi h]
theorem slT_L (xs : List PyData) (hi : Int) (h : 0 ≤ hi) : pf .slT [.list xs, .int hi] = some (.list (xs.take hi.toNat)) := by simp only [pf, sl, cut_to xs hi h]
theorem slF_T (xs : List PyData) (lo : Int) (h : 0 ≤ lo) : pf .slF [.tuple xs, .int lo] = some (.tuple (xs.drop lo.toNat)) := by simp only [pf, sl, cut_from xs lo h]
theorem slF_L (xs : List PyData) (lo : Int) (h : 0 ≤ lo) : pf .slF [.list xs, .int lo] = some (.list (xs.drop lo.toNat)) := by simp only [pf, sl, cut_from xs lo h]
theorem slT_last (xs : List PyData) : pf .slT [.tuple xs, .int (-1)] = some (.tuple xs.dropLast) := by
  simp only [pf, sl, cut]
  congr 2
  show (xs.drop 0).take ((if (-1 : Int) < 0 then ((-1 : Int) + (xs.length : Int)).toNat else min (-1 : Int).toNat xs.length) - 0) = _
  rw [if_pos (by decide), List.drop_zero, Nat.sub_zero, List.dropLast_eq_take, show ((-1 : Int) + (xs.length : Int)).toNat = xs.length - 1 by omega]
theorem ofInts_take (xs : List Int) (k : Nat) : (ofInts xs).take k = ofInts (xs.take k) := by simp [ofInts, List.map_take]
theorem ofInts_drop (xs : List Int) (k : Nat) : (ofInts xs).drop k = ofInts (xs.drop k) := by simp [ofInts, List.map_drop]
theorem ofRows_take (xs : List (List Int)) (k : Nat) : (ofRows xs).take k = ofRows (xs.take k) := by simp [ofRows, List.map_take]
theorem ofRows_drop (xs : List (List Int)) (k : Nat) : (ofRows xs).drop k = ofRows (xs.drop k) := by simp [ofRows, List.map_drop]
theorem pf_rev (xs : List PyData) : pf .rev [.tuple xs] = some (.tuple xs.reverse) := rfl
theorem pf_lst (xs : List PyData) : pf .lst [.tuple xs] = some (.list xs) := rfl
theorem pf_lstL (xs : List PyData) : pf .lst [.list xs] = some (.list xs) := rfl
theorem pf_tupT (a : List PyData) : pf .tup [.tuple a] = some (.tuple a) := rfl
theorem pf_tupL (a : List PyData) : pf .tup [.list a] = some (.tuple a) := rfl
theorem pf_isN (x : PyData) : pf .isN [x] = some (.bool (isNone x)) := rfl
theorem pf_notN (x : PyData) : pf .notN [x] = some (.bool (!isNone x)) := rfl
theorem pf_isB (a b : Bool) : pf .isB [.bool a, .bool b] = some (.bool (a == b)) := rfl
theorem pf_notB (a b : Bool) : pf .notB [.bool a, .bool b] = some (.bool (!(a == b))) := rfl
/-! ### in -/
def mem (a : List Int) (i : Int) : Bool := a.any fun y => decide (y = i)
theorem mem_iff (l : List Int) (i : Int) : mem l i = true ↔ i ∈ l := by simp [mem]
theorem mem_dec (l : List Int) (i : Int) : mem l i = decide (i ∈ l) := by
  by_cases h : i ∈ l
  · rw [decide_eq_true h]; exact (mem_iff l i).mpr h
  · rw [decide_eq_false h]
    cases e : mem l i with
    | false => rfl
    | true => exact absurd ((mem_iff l i).mp e) h
theorem isInD_ints (i : Int) (a : List Int) : isInD (.int i) (.tuple (ofInts a)) = some (mem a i) := by
  have e : (ofInts a).all flatD = true := by simp [ofInts, flatD]
  simp only [isInD, flatD, e, Bool.and_self, if_true]
  congr 1
  unfold mem ofInts
  rw [List.any_map]
  congr 1
theorem isInD_intsL (i : Int) (a : List Int) : isInD (.int i) (.list (ofInts a)) = some (mem a i) := by
  have e : (ofInts a).all flatD = true := by simp [ofInts, flatD]
  simp only [isInD, flatD, e, Bool.and_self, if_true]
  congr 1
  unfold mem ofInts
  rw [List.any_map]
  congr 1
theorem pf_in (i : Int) (a : List Int) : pf .isin [.int i, .tuple (ofInts a)] = some (.bool (mem a i)) := by simp only [pf, isInD_ints, Option.map_some]
theorem pf_nin (i : Int) (a : List Int) : pf .notin [.int i, .tuple (ofInts a)] = some (.bool (!mem a i)) := by simp only [pf, isInD_ints, Option.map_some]
theorem pf_inL (i : Int) (a : List Int) : pf .isin [.int i, .list (ofInts a)] = some (.bool (mem a i)) := by simp only [pf, isInD_intsL, Option.map_some]
theorem pf_ninL (i : Int) (a : List Int) : pf .notin [.int i, .list (ofInts a)] = some (.bool (!mem a i)) := by simp only [pf, isInD_intsL, Option.map_some]
/-! ### sums, sorted -/
theorem asInts_ofInts : ∀ l : List Int, asInts (ofInts l) = some l
  | [] => rfl
  | i :: l => by
    show (asInts (ofInts l)).map (i :: ·) = _
    rw [asInts_ofInts l]; rfl
theorem pf_sumI (l : List Int) : pf .sum [.list (ofInts l)] = some (.int l.sum) := by simp only [pf, asInts_ofInts, Option.map_some]
theorem pf_srtT (a : List Int) (h : a.length ≤ 2 ^ 20) : pf .srt [.tuple (ofInts a)] = some (.list (ofInts (isort a))) := by
  have : decide ((ofInts a).length ≤ 2 ^ 20) = true := decide_eq_true (by rw [ofInts_len]; exact h)
  simp only [pf, this, if_true, asInts_ofInts]
theorem pf_srtL (a : List Int) (h : a.length ≤ 2 ^ 20) : pf .srt [.list (ofInts a)] = some (.list (ofInts (isort a))) := by
  have : decide ((ofInts a).length ≤ 2 ^ 20) = true := decide_eq_true (by rw [ofInts_len]; exact h)
  simp only [pf, this, if_true, asInts_ofInts]
theorem pf_addT (a b : List PyData) (h : a.length + b.length ≤ 2 ^ 20) : pf .add [.tuple a, .tuple b] = some (.tuple (a ++ b)) := by simp only [pf, if_pos h]
theorem pf_addL (a b : List PyData) (h : a.length + b.length ≤ 2 ^ 20) : pf .add [.list a, .list b] = some (.list (a ++ b)) := by simp only [pf, if_pos h]
section
variable {W : Nat} {up : Nat → Nat → Bool} {F : Nat → List Vl → MH → Rs Vl} {e e1 : Ev} {h h1 : MH} {s : Sd} {r : Bk} {v : PyData} {m : Nat}
theorem lstep (a : sv W up F s e h = .nx e1 h1) (k : ∃ h', fin m (bv W up F r e1 h1) = .ok (.d v) h') : ∃ h', fin m (bv W up F (.c s r) e h) = .ok (.d v) h' := by
  rw [bv_nx a]; exact k
theorem lret (a : sv W up F s e h = .rt (.d v) h1) : ∃ h', fin m (bv W up F (.c s r) e h) = .ok (.d v) h' := by
  rw [bv_rt a]; exact ⟨_, rfl⟩
end
/-- a block without its first statements -/
def Bk.dr : Nat → Bk → Bk
  | 0, b => b
  | j + 1, .c _ r => Bk.dr j r
  | _ + 1, .n => .n
theorem dr0 (b : Bk) : Bk.dr 0 b = b := rfl
theorem drC (n : Nat) (a : Sd) (r : Bk) : Bk.dr (n + 1) (.c a r) = Bk.dr n r := rfl
end Mn

/-! MnY: data that may be compared and shown. -/
namespace Mn
open PySem
mutual
/-- modest data: short ints, texts and lists -/
def lf : PyData → Bool
  | .none => true
  | .bool _ => true
  | .int i => decide (i.natAbs < 1000000000000)
  | .str x => x.cps.toList.all (fun c => decide (c < 1114112)) && decide (x.length ≤ 1000)
  | .tuple xs => lfAll xs
  | .list xs => lfAll xs
  | .dict _ => false
def lfAll : List PyData → Bool
  | [] => true
  | x :: xs => lf x && lfAll xs
end
theorem lfAll_iff : ∀ {xs : List PyData}, lfAll xs = true ↔ ∀ x ∈ xs, lf x = true
  | [] => by simp [lfAll]
  | x :: xs => by
    simp only [lfAll, Bool.and_eq_true, lfAll_iff (xs := xs), List.mem_cons, forall_eq_or_imp]
mutual
theorem lf_lay : ∀ x : PyData, lf x = true → x.canLay0 = true
  | .none, _ => rfl
  | .bool _, _ => rfl
  | .int _, _ => rfl
  | .str x, h => by
    simp only [lf, Bool.and_eq_true] at h
    simp only [PyData.canLay0, PyData.strOk]
    rw [← Array.all_toList]
    exact h.1
  | .tuple xs, h => by
    simp only [lf] at h
    simp only [PyData.canLay0]
    exact lfAll_lay xs h
  | .list xs, h => by
    simp only [lf] at h
    simp only [PyData.canLay0]
    exact lfAll_lay xs h
  | .dict _, h => by simp [lf] at h
theorem lfAll_lay : ∀ xs : List PyData, lfAll xs = true → PyData.canLayAll0 xs = true
  | [], _ => by simp only [PyData.canLayAll0]
  | x :: xs, h => by
    simp only [lfAll, Bool.and_eq_true] at h
    simp only [PyData.canLayAll0, lf_lay x h.1, lfAll_lay xs h.2, Bool.and_self]
end
mutual
theorem lf_short : ∀ x : PyData, lf x = true → x.leavesShort 13 = true
  | .none, _ => by simp only [PyData.leavesShort]
  | .bool _, _ => by simp only [PyData.leavesShort]
  | .int i, h => by
    simp only [lf, decide_eq_true_eq] at h
    simp only [PyData.leavesShort, decide_eq_true_eq]
    exact PyData.shown_int_le (by omega)
  | .str x, h => by
    simp only [lf, Bool.and_eq_true, List.all_eq_true, decide_eq_true_eq] at h
    simp only [PyData.leavesShort, List.all_eq_true, decide_eq_true_eq]
    intro c hc
    have := h.1 c hc
    omega
  | .tuple xs, h => by
    simp only [lf] at h
    simp only [PyData.leavesShort]
    exact lfAll_short xs h
  | .list xs, h => by
    simp only [lf] at h
    simp only [PyData.leavesShort]
    exact lfAll_short xs h
  | .dict _, h => by simp [lf] at h
theorem lfAll_short : ∀ xs : List PyData, lfAll xs = true → PyData.leavesShortAll 13 xs = true
  | [], _ => by simp only [PyData.leavesShortAll]
  | x :: xs, h => by
    simp only [lfAll, Bool.and_eq_true] at h
    simp only [PyData.leavesShortAll, lf_short x h.1, lfAll_short xs h.2, Bool.and_self]
end
mutual
theorem lf_show : ∀ x : PyData, lf x = true → x.showable = true
  | .none, _ => by simp only [PyData.showable]
  | .bool _, _ => by simp only [PyData.showable]
  | .int i, h => by
    simp only [lf, decide_eq_true_eq] at h
    simp only [PyData.showable, decide_eq_true_eq]
    by_cases z : i.natAbs = 0
    · rw [z]; decide
    · exact Nat.lt_of_lt_of_le ((Nat.log2_lt z).mpr (show i.natAbs < 2 ^ 40 by omega)) (by decide)
  | .str x, h => by simp only [PyData.showable]
  | .tuple xs, h => by
    simp only [lf] at h
    simp only [PyData.showable]
    exact lfAll_show xs h
  | .list xs, h => by
    simp only [lf] at h
    simp only [PyData.showable]
    exact lfAll_show xs h
  | .dict _, h => by simp [lf] at h
theorem lfAll_show : ∀ xs : List PyData, lfAll xs = true → PyData.showableAll xs = true
  | [], _ => by simp only [PyData.showableAll]
  | x :: xs, h => by
    simp only [lfAll, Bool.and_eq_true] at h
    simp only [PyData.showableAll, lf_show x h.1, lfAll_show xs h.2, Bool.and_self]
end
/-- modest data of a depth and so many items in all -/
structure Gm (D K : Nat) (x : PyData) : Prop where
  lf : lf x = true
  dp : x.depth ≤ D
  bk : x.bulk ≤ K
theorem Gm.mono {D K D' K' : Nat} {x : PyData} (h : Gm D K x) (h1 : D ≤ D') (h2 : K ≤ K') : Gm D' K' x := ⟨h.lf, Nat.le_trans h.dp h1, Nat.le_trans h.bk h2⟩
theorem pf_repr {D K : Nat} {x : PyData} (h : Gm D K x) (h1 : D ≤ 60) (h2 : K ≤ 500000) : pf .repr [x] = some (.str x.shown) := by
  have e1 := PyData.shown_le_bulk 13 (by decide) x (lf_short x h.lf)
  have e2 := h.dp
  have e3 := h.bk
  have c1 : decide (x.depth ≤ 60) = true := decide_eq_true (by omega)
  have c2 : decide (x.shown.length ≤ 2 ^ 23) = true := decide_eq_true (by omega)
  simp only [pf, lf_show x h.lf, PyData.hasDict_of_canLay x (lf_lay x h.lf), c1, c2, Bool.not_false, Bool.and_self, if_true]
theorem gd_eqOk {D K : Nat} {x : PyData} (h : Gm D K x) (h1 : D ≤ 60) : eqOk x = true := by
  have := h.dp
  simp only [eqOk, lf_lay x h.lf, Bool.true_and, decide_eq_true_eq]
  omega
mutual
theorem eqv_self : ∀ x : PyData, lf x = true → PyData.eqv x x = true
  | .none, _ => by simp [PyData.eqv]
  | .bool _, _ => by simp [PyData.eqv]
  | .int _, _ => by simp [PyData.eqv]
  | .str _, _ => by simp [PyData.eqv]
  | .tuple xs, h => by
    simp only [lf] at h
    simp only [PyData.eqv]
    exact eqvAll_self xs h
  | .list xs, h => by
    simp only [lf] at h
    simp only [PyData.eqv]
    exact eqvAll_self xs h
  | .dict _, h => by simp [lf] at h
theorem eqvAll_self : ∀ xs : List PyData, lfAll xs = true → PyData.eqvAll xs xs = true
  | [], _ => by simp [PyData.eqvAll]
  | x :: xs, h => by
    simp only [lfAll, Bool.and_eq_true] at h
    simp only [PyData.eqvAll, eqv_self x h.1, eqvAll_self xs h.2, Bool.and_self]
end
theorem pf_eqS (a b : Str) : pf .eq [.str a, .str b] = some (.bool (decide (a = b))) := rfl
theorem pf_neS (a b : Str) : pf .ne [.str a, .str b] = some (.bool (!decide (a = b))) := rfl
theorem pf_eqD {D K D' K' : Nat} {x y : PyData} (h : Gm D K x) (h' : Gm D' K' y) (h1 : D ≤ 60) (h2 : D' ≤ 60) : pf .eq [x, y] = some (.bool (PyData.eqv x y)) := by
  have e : (if (eqOk x && eqOk y) = true then some (PyData.bool (PyData.eqv x y)) else none) = some (.bool (PyData.eqv x y)) := by rw [gd_eqOk h h1, gd_eqOk h' h2]; rfl
  refine Eq.trans ?_ e
  cases x <;> cases y <;> first | rfl | (rw [gd_eqOk h h1, gd_eqOk h' h2, if_pos (by rfl)]; simp only [pf_eqS, pf_neS, PyData.eqv]; congr 2)
theorem pf_neD {D K D' K' : Nat} {x y : PyData} (h : Gm D K x) (h' : Gm D' K' y) (h1 : D ≤ 60) (h2 : D' ≤ 60) : pf .ne [x, y] = some (.bool (!PyData.eqv x y)) := by
  have e : (if (eqOk x && eqOk y) = true then some (PyData.bool (!PyData.eqv x y)) else none) = some (.bool (!PyData.eqv x y)) := by rw [gd_eqOk h h1, gd_eqOk h' h2]; rfl
  refine Eq.trans ?_ e
  cases x <;> cases y <;> first | rfl | (rw [gd_eqOk h h1, gd_eqOk h' h2, if_pos (by rfl)]; simp only [pf_eqS, pf_neS, PyData.eqv]; congr 2)
/-! ### good data is made -/
theorem gd_none : Gm 0 0 .none := ⟨rfl, Nat.le_refl _, Nat.le_refl _⟩
theorem gd_bool (b : Bool) : Gm 0 0 (.bool b) := ⟨by simp [lf], by simp [PyData.depth], by simp [PyData.bulk]⟩
theorem gd_int {i : Int} (h : i.natAbs < 1000000000000) : Gm 0 0 (.int i) := ⟨by simp only [lf, decide_eq_true_eq]; exact h, by simp [PyData.depth], by simp [PyData.bulk]⟩
theorem depthAll_le {D : Nat} : ∀ {xs : List PyData}, (∀ x ∈ xs, x.depth ≤ D) → PyData.depthAll xs ≤ D
  | [], _ => by simp [PyData.depthAll]
  | x :: xs, h => by
    simp only [PyData.depthAll]
    have := h x (by simp)
    have := depthAll_le (xs := xs) fun y m => h y (List.mem_cons_of_mem _ m)
    omega
theorem le_depthAll : ∀ {xs : List PyData} {x : PyData}, x ∈ xs → x.depth ≤ PyData.depthAll xs
  | y :: ys, x, h => by
    simp only [PyData.depthAll]
    rcases List.mem_cons.mp h with e | h
    · rw [e]; omega
    · have := le_depthAll h; omega
theorem bulkAll_eq : ∀ xs : List PyData, PyData.bulkAll xs = (xs.map fun x => x.bulk + 1).sum
  | [] => by simp [PyData.bulkAll]
  | x :: xs => by simp only [PyData.bulkAll, bulkAll_eq xs, List.map_cons, List.sum_cons]
theorem bulkAll_app (a b : List PyData) : PyData.bulkAll (a ++ b) = PyData.bulkAll a + PyData.bulkAll b := by
  rw [bulkAll_eq, bulkAll_eq, bulkAll_eq, List.map_append, List.sum_append]
theorem bulkAll_le {K : Nat} : ∀ {xs : List PyData}, (∀ x ∈ xs, x.bulk ≤ K) → PyData.bulkAll xs ≤ xs.length * (K + 1)
  | [], _ => by simp [PyData.bulkAll]
  | x :: xs, h => by
    simp only [PyData.bulkAll, List.length_cons, Nat.succ_mul]
    have := h x (by simp)
    have := bulkAll_le (xs := xs) fun y m => h y (List.mem_cons_of_mem _ m)
    omega
theorem le_bulkAll {xs : List PyData} {x : PyData} (h : x ∈ xs) : x.bulk + 1 ≤ PyData.bulkAll xs := by
  induction xs with
  | nil => cases h
  | cons y ys ih =>
    simp only [PyData.bulkAll]
    rcases List.mem_cons.mp h with e | h
    · rw [e]; omega
    · have := ih h; omega
theorem gd_tup {D K : Nat} {xs : List PyData} (h : ∀ x ∈ xs, Gm D K x) : Gm (D + 1) (xs.length * (K + 1)) (.tuple xs) :=
  ⟨by simp only [lf]; exact lfAll_iff.mpr fun x m => (h x m).lf, by
    simp only [PyData.depth]
    have := depthAll_le (xs := xs) fun x m => (h x m).dp
    omega, by
    simp only [PyData.bulk]
    exact bulkAll_le fun x m => (h x m).bk⟩
theorem gd_list {D K : Nat} {xs : List PyData} (h : ∀ x ∈ xs, Gm D K x) : Gm (D + 1) (xs.length * (K + 1)) (.list xs) :=
  ⟨by simp only [lf]; exact lfAll_iff.mpr fun x m => (h x m).lf, by
    simp only [PyData.depth]
    have := depthAll_le (xs := xs) fun x m => (h x m).dp
    omega, by
    simp only [PyData.bulk]
    exact bulkAll_le fun x m => (h x m).bk⟩
theorem gd_row {l : List Int} (h : ∀ i ∈ l, 0 ≤ i ∧ i < 1000000000000) : Gm 1 l.length (.tuple (ofInts l)) := by
  have := gd_tup (D := 0) (K := 0) (xs := ofInts l) (fun x m => by
    obtain ⟨i, hi, rfl⟩ := List.mem_map.mp m
    have := h i hi
    exact gd_int (by omega))
  rw [ofInts_len] at this
  exact this.mono (by omega) (by omega)
/-- what stands in good data is good -/
theorem Gm.item {D K : Nat} {xs : List PyData} {x : PyData} (h : Gm (D + 1) K (.tuple xs)) (m : x ∈ xs) : Gm D K x :=
  ⟨by have := h.lf; simp only [Mn.lf] at this; exact lfAll_iff.mp this x m, by
    have := h.dp
    simp only [PyData.depth] at this
    have := le_depthAll m
    omega, by
    have := h.bk
    simp only [PyData.bulk] at this
    have := le_bulkAll m
    omega⟩
theorem bulkAll_len : ∀ xs : List PyData, xs.length ≤ PyData.bulkAll xs
  | [] => Nat.le_refl _
  | x :: xs => by
    have := bulkAll_len xs
    simp only [PyData.bulkAll, List.length_cons]; omega
/-- data, exactly so many items in all -/
theorem gd_exact {x : PyData} (h : lf x = true) : Gm x.depth x.bulk x := ⟨h, Nat.le_refl _, Nat.le_refl _⟩
theorem gd_tupS {D : Nat} {xs : List PyData} (h : ∀ x ∈ xs, Gm D x.bulk x) : Gm (D + 1) (PyData.bulkAll xs) (.tuple xs) :=
  ⟨by simp only [lf]; exact lfAll_iff.mpr fun x m => (h x m).lf, by
    simp only [PyData.depth]
    have := depthAll_le (xs := xs) fun x m => (h x m).dp
    omega, by simp only [PyData.bulk]; omega⟩
theorem bulkAll_sub {a b : List PyData} (h : a.Sublist b) : PyData.bulkAll a ≤ PyData.bulkAll b := by
  induction h with
  | slnil => exact Nat.le_refl _
  | cons a _ ih => simp only [PyData.bulkAll]; omega
  | cons_cons a _ ih => simp only [PyData.bulkAll]; omega
end Mn

/-! MnZ: rows, elections, as data. -/
namespace Mn
open PySem
def whole : PyData → Bool
  | .int _ => true
  | _ => false
theorem isTyInt (x : PyData) : (isTy "int" x && !isTy "bool" x) = whole x := by cases x <;> simp [isTy, whole]
mutual
/-- data of modest lengths -/
def bd : PyData → Bool
  | .tuple xs => decide (xs.length ≤ 900) && bdAll xs
  | .list xs => decide (xs.length ≤ 900) && bdAll xs
  | _ => true
def bdAll : List PyData → Bool
  | [] => true
  | x :: xs => bd x && bdAll xs
end
theorem bdAll_mem : ∀ {xs : List PyData} {x : PyData}, bdAll xs = true → x ∈ xs → bd x = true
  | y :: ys, x, h, m => by
    simp only [bdAll, Bool.and_eq_true] at h
    rcases List.mem_cons.mp m with e | m
    · rw [e]; exact h.1
    · exact bdAll_mem h.2 m
def inR (many : Int) : PyData → Bool
  | .int i => decide (0 ≤ i) && decide (i < many)
  | _ => false
def incr : List Int → Bool
  | a :: b :: r => decide (a < b) && incr (b :: r)
  | _ => true
def rowOf (many : Int) (xs : List PyData) : Bool := xs.all (inR many) && (match asInts xs with | some ns => incr ns | none => false)
def isRow (many : Int) : PyData → Bool
  | .tuple xs => rowOf many xs
  | _ => false
theorem inR_ints {many : Int} : ∀ {xs : List PyData}, xs.all (inR many) = true → ∃ ns, asInts xs = some ns ∧ xs = ofInts ns
  | [], _ => ⟨[], rfl, rfl⟩
  | x :: xs, h => by
    simp only [List.all_cons, Bool.and_eq_true] at h
    obtain ⟨ns, e1, e2⟩ := inR_ints h.2
    cases x with
    | int i => exact ⟨i :: ns, by simp only [asInts, e1, Option.map_some], by rw [e2]; rfl⟩
    | _ => simp [inR] at h
/-- neighbours -/
theorem incr_at : ∀ (ns : List Int), (List.range (ns.length - 1)).all (fun i => match ns[i]?, ns[i + 1]? with | some a, some b => decide (a < b) | _, _ => true) = incr ns
  | [] => rfl
  | [a] => rfl
  | a :: b :: r => by
    have ih := incr_at (b :: r)
    have e : (a :: b :: r).length - 1 = ((b :: r).length - 1) + 1 := by simp
    rw [e, List.range_succ_eq_map, List.all_cons, List.all_map]
    simp only [incr]
    rw [← ih]
    rfl
theorem evs2 {F : Nat → List Vl → MH → Rs Vl} {a b : Cd} {e : Ev} {h : MH} {x y : Vl} (h1 : ev F a e h = .ok x h) (h2 : ev F b e h = .ok y h) : evs F (.c a (.c b .n)) e h = .ok [x, y] h := by simp only [evs, h1, h2, bindOk]
def upP (ns : List Int) : PyData → Bool
  | .int i => (match ns[(i - 1).toNat]?, ns[i.toNat]? with
    | some a, some b => decide (a < b)
    | _, _ => true)
  | _ => true
theorem upsV (ns : List Int) : (rngD 1 ns.length).all (upP ns) = incr ns := by
  refine Eq.trans ?_ (incr_at ns)
  unfold rngD
  have : ((ns.length : Int) - 1).toNat = ns.length - 1 := by omega
  refine (List.all_map ..).trans ?_
  refine Eq.trans (congrArg (fun n => (List.range n).all _) this) ?_
  refine congrArg (fun p => (List.range (ns.length - 1)).all p) (funext fun i => ?_)
  show (match ns[((1 + (i : Int)) - 1).toNat]?, ns[(1 + (i : Int)).toNat]? with | some a, some b => decide (a < b) | _, _ => true) = _
  rw [show ((1 + (i : Int)) - 1).toNat = i by omega, show (1 + (i : Int)).toNat = i + 1 by omega]
theorem tf : (true == false) = false := rfl
theorem ft : (false == true) = false := rfl
/-- `[value[k - 1] < value[k] for k in range(1, len(value))]` -/
theorem upsL {F : Nat → List Vl → MH → Rs Vl} {ns : List Int} (hl : ns.length ≤ 900) {many : PyData} {w : Option Vl} {h : MH} :
    ev F (.lc false (.p false .lt (.c (.p false .ix (.c (.v 0) (.c (.p false .sub (.c (.v 2) (.c (.k (.int 1)) .n))) .n))) (.c (.p false .ix (.c (.v 0) (.c (.v 2) .n))) .n))) (.n 2) .r2 (.c (.k (.int 1)) (.c (.p false .len (.c (.v 0) .n)) .n)) .n) [some (.d (.tuple (ofInts ns))), some (.d many), none, w] h = .ok (.d (.list ((rngD 1 ns.length).map fun x => .bool (upP ns x)))) h := by
  refine lc_map (vs := [.d (.int 1), .d (.int ns.length)]) (xs := rngD 1 ns.length) (E := fun x => [some (.d (.tuple (ofInts ns))), some (.d many), some (.d x), w])
    (by simp only [bvN, bvC, svE, svS, svPr, svSt, svFi, svRe, svRn, svRa, svTr, evV, evK, evG, evP, evS3, evCh, evNt, evBo, evFi, evTu, evLi, evCa, evMe, evsN, evsC, evbN, evbC, bindOk, toSOk, thenNx, thenRt, thenEx, ttB, snaps, snap, mkR, Mn.fresh, setT, datas, pars, meD, stD, itV, itD, List.getElem?_cons_zero, List.getElem?_cons_succ, List.getElem?_nil, List.set_cons_zero, List.set_cons_succ, Option.map_some, Option.map_none, Bool.false_eq_true, if_false, if_true, List.length_cons, List.length_nil, Nat.zero_add, Nat.reduceAdd, List.map_cons, List.map_nil, eq_self, decide_true, decide_false, Bool.not_true, Bool.not_false, beq_self_eq_true, Int.reduceToNat, List.replicate_succ, List.replicate_zero, List.cons_append, List.nil_append, pf_lenT, ofInts_len]) (by
      have e1 : small62 1 = true := by decide
      have e2 : small62 (ns.length : Int) = true := decide_eq_true (by omega)
      simp only [itV, snaps, snap, itD, e1, e2, Bool.and_self, if_true]) (by simp [rngD]; omega) rfl (fun x hx => ?_)
  obtain ⟨i, hi, rfl⟩ := List.mem_map.mp hx
  have hi := List.mem_range.mp hi
  have h1 : i + 1 < ns.length := by omega
  refine ⟨rfl, ?_⟩
  have e1 : (0 : Int) ≤ 1 + (i : Int) - 1 := by omega
  have e2 : (0 : Int) ≤ 1 + (i : Int) := by omega
  have g1 : ns[(1 + (i : Int) - 1).toNat]? = some ns[i] := by rw [show (1 + (i : Int) - 1).toNat = i by omega]; exact List.getElem?_eq_getElem (by omega)
  have g2 : ns[(1 + (i : Int)).toNat]? = some ns[i + 1] := by rw [show (1 + (i : Int)).toNat = i + 1 by omega]; exact List.getElem?_eq_getElem h1
  simp only [bvN, bvC, svE, svS, svPr, svSt, svFi, svRe, svRn, svRa, svTr, evV, evK, evG, evP, evS3, evCh, evNt, evBo, evFi, evTu, evLi, evCa, evMe, evsN, evsC, evbN, evbC, bindOk, toSOk, thenNx, thenRt, thenEx, ttB, snaps, snap, mkR, Mn.fresh, setT, datas, pars, meD, stD, itV, itD, List.getElem?_cons_zero, List.getElem?_cons_succ, List.getElem?_nil, List.set_cons_zero, List.set_cons_succ, Option.map_some, Option.map_none, Bool.false_eq_true, if_false, if_true, List.length_cons, List.length_nil, Nat.zero_add, Nat.reduceAdd, List.map_cons, List.map_nil, eq_self, decide_true, decide_false, Bool.not_true, Bool.not_false, beq_self_eq_true, Int.reduceToNat, List.replicate_succ, List.replicate_zero, List.cons_append, List.nil_append, pf_add, pf_sub, pf_eqI, pf_neI, pf_ltI, pf_gtI, pf_leI, pf_geI, pf_lenL, pf_lenT, pf_int, pf_abs, pf_ixTn _ _ e1, pf_ixTn _ _ e2, ofInts_get, g1, g2, upP]
theorem lenU {n : Nat} (h : n ≤ 900) : n ≤ 2 ^ 20 := by omega
theorem bd_tup {xs : List PyData} (h : bd (.tuple xs) = true) : xs.length ≤ 900 ∧ bdAll xs = true := by
  simp only [bd, Bool.and_eq_true, decide_eq_true_eq] at h
  exact h
theorem tyT (xs : List PyData) : isTy "tuple" (.tuple xs) = true := by simp [isTy]
def memD (a : List Int) : PyData → Bool
  | .int i => mem a i
  | _ => false
def sh (a b : List Int) : Nat := (b.filter (mem a)).length
theorem sh_map (a : List Int) : ∀ b : List Int, (ofInts b).filter (memD a) = ofInts (b.filter (mem a))
  | [] => rfl
  | x :: b => by
    show ((PyData.int x) :: ofInts b).filter (memD a) = _
    rw [List.filter_cons, List.filter_cons]
    have e : memD a (.int x) = mem a x := rfl
    rw [e, sh_map a b]
    cases mem a x <;> rfl
def elC : PyData → PyData → Bool
  | .int m, .int s => decide (1 ≤ m) && decide (m ≤ 30) && (decide (1 ≤ s) && decide (s ≤ m))
  | _, _ => false
def isEl : PyData → Bool
  | .tuple [a, .tuple bs, c] => elC a c && (decide (1 ≤ bs.length) && decide (bs.length ≤ 60)) && (match a with | .int m => bs.all (isRow m) | _ => false)
  | _ => false
theorem raF (x : PyData) : raOk false x = true := by cases x <;> rfl
theorem incr_pw : ∀ {l : List Int}, incr l = true → l.Pairwise (· < ·)
  | [], _ => .nil
  | [a], _ => by simp
  | a :: b :: r, h => by
    simp only [incr, Bool.and_eq_true, decide_eq_true_eq] at h
    have ih := incr_pw h.2
    refine List.pairwise_cons.mpr ⟨fun x hx => ?_, ih⟩
    rcases List.mem_cons.mp hx with e | hx
    · rw [e]; exact h.1
    · exact Int.lt_trans h.1 ((List.pairwise_cons.mp ih).1 x hx)
theorem incr_nodup {l : List Int} (h : incr l = true) : l.Nodup := (incr_pw h).imp fun h => by omega
/-- how many of b are in a -/
theorem sh_le (a b : List Int) : sh a b ≤ b.length := List.length_filter_le _ _
theorem sh_all {a b : List Int} : sh a b = b.length ↔ ∀ i ∈ b, i ∈ a := by
  unfold sh
  rw [List.length_filter_eq_length_iff]
  exact ⟨fun h i hi => (mem_iff a i).mp (h i hi), fun h i hi => (mem_iff a i).mpr (h i hi)⟩
theorem isort_mem (l : List Int) (i : Int) : i ∈ isort l ↔ i ∈ l := (isort_perm l).mem_iff
mutual
theorem bd_rows : ∀ (l : List Int), bd (.tuple (ofInts l)) = decide (l.length ≤ 900)
  | l => by
    simp only [bd, ofInts_len]
    rw [bdAll_ints l, Bool.and_true]
theorem bdAll_ints : ∀ l : List Int, bdAll (ofInts l) = true
  | [] => rfl
  | a :: l => by
    show (bd (.int a) && bdAll (ofInts l)) = true
    rw [bdAll_ints l]; rfl
end
theorem asRows_ofRows : ∀ l : List (List Int), asRows (ofRows l) = some l
  | [] => rfl
  | r :: l => by
    show (match asInts (ofInts r), asRows (ofRows l) with | some z, some zs => some (z :: zs) | _, _ => none) = _
    rw [asInts_ofInts, asRows_ofRows l]
theorem pf_srtR (l : List (List Int)) (h : l.length ≤ 2 ^ 20) : pf .srt [.list (ofRows l)] = some (.list (ofRows (isortR l))) := by
  have : decide ((ofRows l).length ≤ 2 ^ 20) = true := decide_eq_true (by rw [ofRows_len]; exact h)
  cases l with
  | nil => rfl
  | cons r l =>
    have e : asInts (ofRows (r :: l)) = none := rfl
    simp only [pf, this, if_true, e, asRows_ofRows]
def turnB (b : List Int) (c : Int) : List Int := isort (b.filter (fun x => !decide (x = c)) ++ if mem b c = true then [] else [c])
theorem ints_abs (l : List Int) : l.map (fun x => PyData.int (if x < 0 then -x else x)) = ofInts (l.map fun x => if x < 0 then -x else x) := ints_map _ l
theorem ixRows (xs : List (List Int)) (i : Int) (h : 0 ≤ i) (h2 : i < xs.length) : pf .ix [.list (ofRows xs), .int i] = some (.tuple (ofInts (xs.getD i.toNat []))) := ixLM ofRow xs [] i h h2
theorem pw_incr : ∀ {l : List Int}, l.Pairwise (· < ·) → incr l = true
  | [], _ => rfl
  | [a], _ => rfl
  | a :: b :: r, h => by
    rw [List.pairwise_cons] at h
    simp only [incr, Bool.and_eq_true, decide_eq_true_eq]
    exact ⟨h.1 b (by simp), pw_incr h.2⟩
theorem sub_row {L b : List Int} (h : b.Sublist L) (hp : L.Pairwise (· < ·)) : incr b = true := pw_incr (hp.sublist h)
theorem rng_row {m : Int} {b : List Int} (h : b.Sublist (rngI 0 m)) : incr b = true ∧ ∀ i ∈ b, 0 ≤ i ∧ i < m := ⟨sub_row h (rngI_pw 0 m), fun i hi => rngI_mem.mp (h.subset hi)⟩
theorem row_len {m : Int} {b : List Int} (hi : incr b = true) (h : ∀ i ∈ b, 0 ≤ i ∧ i < m) : b.length ≤ m.toNat := by
  have key : ∀ (b : List Int) (lo : Int), b.Pairwise (· < ·) → (∀ i ∈ b, lo ≤ i ∧ i < m) → (b.length : Int) ≤ m - lo ∨ b = [] := by
    intro b
    induction b with
    | nil => intro lo _ _; exact .inr rfl
    | cons x r ih =>
      intro lo hp hb
      left
      rw [List.pairwise_cons] at hp
      have hx := hb x (by simp)
      rcases ih (x + 1) hp.2 fun i hi => ⟨hp.1 i hi, (hb i (List.mem_cons_of_mem _ hi)).2⟩ with z | z
      · simp only [List.length_cons]; omega
      · subst z; simp only [List.length_cons, List.length_nil]; omega
  rcases key b 0 (incr_pw hi) h with z | z
  · omega
  · subst z; simp
theorem isort_pw : ∀ l : List Int, (isort l).Pairwise (· ≤ ·) := by
  have ins_mem : ∀ (n : Int) (l : List Int) (x : Int), x ∈ ins n l ↔ x = n ∨ x ∈ l := fun n l x => by
    induction l with
    | nil => simp [ins]
    | cons a l ih =>
      unfold ins
      split
      · simp
      · simp only [List.mem_cons, ih]
        constructor
        · rintro (h | h | h)
          · exact .inr (.inl h)
          · exact .inl h
          · exact .inr (.inr h)
        · rintro (h | h | h)
          · exact .inr (.inl h)
          · exact .inl h
          · exact .inr (.inr h)
  intro l
  induction l with
  | nil => exact .nil
  | cons n l ih =>
    show (ins n (isort l)).Pairwise _
    generalize isort l = q at ih
    induction q with
    | nil => simp [ins]
    | cons a q ih2 =>
      unfold ins
      rw [List.pairwise_cons] at ih
      split
      · rename_i h
        rw [List.pairwise_cons]
        refine ⟨fun x hx => ?_, List.pairwise_cons.mpr ih⟩
        rcases List.mem_cons.mp hx with rfl | hx
        · exact h
        · exact Int.le_trans h (ih.1 x hx)
      · rename_i h
        rw [List.pairwise_cons]
        refine ⟨fun x hx => ?_, ih2 ih.2⟩
        rcases (ins_mem n q x).mp hx with rfl | hx
        · omega
        · exact ih.1 x hx
theorem isort_row {m : Int} {b : List Int} (h : b.Nodup) (h2 : ∀ i ∈ b, 0 ≤ i ∧ i < m) : incr (isort b) = true ∧ ∀ i ∈ isort b, 0 ≤ i ∧ i < m := by
  refine ⟨pw_incr ?_, fun i hi => h2 i ((isort_mem b i).mp hi)⟩
  have nd : (isort b).Nodup := (isort_perm b).nodup_iff.mpr h
  exact (List.Pairwise.and (isort_pw b) nd).imp fun {x y} h => by
    have := h.1
    have := h.2
    omega
theorem turnB_row {m c : Int} {b : List Int} (h : incr b = true ∧ ∀ i ∈ b, 0 ≤ i ∧ i < m) (h0 : 0 ≤ c) (h1 : c < m) : incr (turnB b c) = true ∧ ∀ i ∈ turnB b c, 0 ≤ i ∧ i < m := by
  refine isort_row ?_ ?_
  · refine List.nodup_append.mpr ⟨(incr_nodup h.1).filter _, by split <;> simp, fun x hx y hy e => ?_⟩
    subst e
    split at hy
    · simp at hy
    · simp at hy
      simp [hy] at hx
  · intro i hi
    rcases List.mem_append.mp hi with hi | hi
    · exact h.2 i (List.mem_filter.mp hi).1
    · split at hi
      · simp at hi
      · simp at hi; omega
/-- what is drawn: an election -/
structure El (many voters : Int) (m : Int) (bs : List (List Int)) (s : Int) : Prop where
  m1 : 1 ≤ m
  m2 : m ≤ many
  s1 : 1 ≤ s
  s2 : s ≤ m
  l1 : 1 ≤ bs.length
  l2 : (bs.length : Int) ≤ voters
  rows : ∀ b ∈ bs, incr b = true ∧ ∀ i ∈ b, 0 ≤ i ∧ i < m
abbrev elOf (m : Int) (bs : List (List Int)) (s : Int) : PyData := .tuple [.int m, .tuple (ofRows bs), .int s]
theorem ofRows_app (a b : List (List Int)) : ofRows a ++ ofRows b = ofRows (a ++ b) := by simp [ofRows]
mutual
/-- ints and tuples of them -/
def itd : PyData → Bool
  | .int i => decide (0 ≤ i) && decide (i < 1000)
  | .tuple xs => decide (xs.length ≤ 100) && itdAll xs
  | _ => false
def itdAll : List PyData → Bool
  | [] => true
  | x :: xs => itd x && itdAll xs
end
theorem itdAll_iff : ∀ {xs : List PyData}, itdAll xs = true ↔ ∀ x ∈ xs, itd x = true
  | [] => by simp [itdAll]
  | x :: xs => by
    simp only [itdAll, Bool.and_eq_true, itdAll_iff (xs := xs), List.mem_cons, forall_eq_or_imp]
mutual
theorem itd_lf : ∀ {x : PyData}, itd x = true → lf x = true
  | .none, h => by simp [itd] at h
  | .bool _, h => by simp [itd] at h
  | .str _, h => by simp [itd] at h
  | .list _, h => by simp [itd] at h
  | .dict _, h => by simp [itd] at h
  | .int i, h => by
    simp only [itd, Bool.and_eq_true, decide_eq_true_eq] at h
    simp only [lf, decide_eq_true_eq]; omega
  | .tuple xs, h => by
    simp only [itd, Bool.and_eq_true, decide_eq_true_eq] at h
    simp only [lf]
    exact itdAll_lf h.2
theorem itdAll_lf : ∀ {xs : List PyData}, itdAll xs = true → lfAll xs = true
  | [], _ => by simp [lfAll]
  | x :: xs, h => by
    simp only [itdAll, Bool.and_eq_true] at h
    simp only [lfAll, itd_lf h.1, itdAll_lf h.2, Bool.and_self]
end
theorem lf_tup {xs : List PyData} (h : ∀ x ∈ xs, lf x = true) : lf (.tuple xs) = true := by
  simp only [lf]
  exact lfAll_iff.mpr h
mutual
theorem lf_bd : ∀ {x : PyData}, x.bulk ≤ 900 → bd x = true
  | .none, _ => by simp [bd]
  | .bool _, _ => by simp [bd]
  | .str _, _ => by simp [bd]
  | .int _, _ => by simp [bd]
  | .dict _, h => by simp [bd]
  | .list xs, h => by
    simp only [PyData.bulk] at h
    have := bulkAll_len xs
    simp only [bd, Bool.and_eq_true, decide_eq_true_eq]
    exact ⟨by omega, lfAll_bd h⟩
  | .tuple xs, h => by
    simp only [PyData.bulk] at h
    have := bulkAll_len xs
    simp only [bd, Bool.and_eq_true, decide_eq_true_eq]
    exact ⟨by omega, lfAll_bd h⟩
theorem lfAll_bd : ∀ {xs : List PyData}, PyData.bulkAll xs ≤ 900 → bdAll xs = true
  | [], _ => by simp [bdAll]
  | x :: xs, h => by
    simp only [PyData.bulkAll] at h
    simp only [bdAll, lf_bd (x := x) (by omega), lfAll_bd (xs := xs) (by omega), Bool.and_self]
end
theorem zipD_rows : ∀ (a b : List (List Int)), zipD (ofRows a) (ofRows b) = (a.zip b).map fun p => .tuple [.tuple (ofInts p.1), .tuple (ofInts p.2)]
  | [], _ => by simp [zipD, ofRows]
  | _ :: _, [] => by simp [zipD, ofRows]
  | x :: a, y :: b => by
    show PyData.tuple [ofRow x, ofRow y] :: zipD (ofRows a) (ofRows b) = _
    rw [zipD_rows a b]; rfl
theorem el_bd {m s : Int} {bs : List (List Int)} (h1 : bs.length ≤ 900) (h2 : ∀ b ∈ bs, b.length ≤ 900) : bd (elOf m bs s) = true := by
  have : bdAll (ofRows bs) = true := by
    induction bs with
    | nil => rfl
    | cons b bs ih =>
      show (bd (.tuple (ofInts b)) && bdAll (ofRows bs)) = true
      rw [bd_rows, decide_eq_true (h2 b (by simp)), ih (by simp at h1; omega) fun c m => h2 c (List.mem_cons_of_mem _ m)]; rfl
  simp only [bd, bdAll, this, Bool.and_true, Bool.and_eq_true, decide_eq_true_eq, ofRows_len]
  exact ⟨by simp, by simpa using h1⟩
theorem el_isEl {many voters m s : Int} {bs : List (List Int)} (E : El many voters m bs s) (h1 : many ≤ 30) (h2 : voters ≤ 60) : isEl (elOf m bs s) = true := by
  have e1 := E.m1
  have e2 := E.m2
  have e3 := E.s1
  have e4 := E.s2
  have e5 := E.l1
  have e6 := E.l2
  have hall : (ofRows bs).all (isRow m) = true := List.all_eq_true.mpr fun x hx => by
    obtain ⟨b, hb, rfl⟩ := List.mem_map.mp hx
    have g := E.rows b hb
    show rowOf m (ofInts b) = true
    simp only [rowOf, asInts_ofInts, g.1, Bool.and_true, List.all_eq_true]
    intro z hz
    obtain ⟨i, hi, rfl⟩ := List.mem_map.mp hz
    have := g.2 i hi
    simp only [inR, Bool.and_eq_true, decide_eq_true_eq]; omega
  simp only [isEl, elC, hall, Bool.and_true, Bool.and_eq_true, decide_eq_true_eq, ofRows_len]
  omega
theorem gd_str {x : Str} (h : (x.cps.toList.all (fun c => decide (c < 1114112)) && decide (x.length ≤ 1000)) = true) : Gm 0 1000 (.str x) :=
  ⟨by simp only [lf]; exact h, by simp [PyData.depth], by
    simp only [PyData.bulk]
    simp only [Bool.and_eq_true, decide_eq_true_eq] at h
    exact h.2⟩
theorem gd_mal : Gm 0 1000 (.str "malformed") := gd_str (by decide)
theorem gd_three {m s : Int} {y : PyData} (hm : m.natAbs < 1000) (hs : s.natAbs < 1000) {D K : Nat} (g : Gm D K y) : Gm (D + 1) (3 * (K + 1)) (.tuple [.int m, y, .int s]) :=
  gd_tup (xs := [.int m, y, .int s]) fun x hx => by
    simp only [List.mem_cons, List.not_mem_nil, or_false] at hx
    rcases hx with e | e | e <;> rw [e]
    · exact (gd_int (by omega)).mono (by omega) (by omega)
    · exact g
    · exact (gd_int (by omega)).mono (by omega) (by omega)
theorem itd_row {m : Int} {b : List Int} (hm : m ≤ 30) (h : incr b = true ∧ ∀ i ∈ b, 0 ≤ i ∧ i < m) : itd (.tuple (ofInts b)) = true ∧ b.length ≤ 30 := by
  have l := row_len h.1 h.2
  refine ⟨?_, by omega⟩
  simp only [itd, Bool.and_eq_true, decide_eq_true_eq, ofInts_len]
  refine ⟨by omega, itdAll_iff.mpr fun x hx => ?_⟩
  obtain ⟨i, hi, rfl⟩ := List.mem_map.mp hx
  have := h.2 i hi
  simp only [itd, Bool.and_eq_true, decide_eq_true_eq]
  omega
theorem bulk_row (l : List Int) : (PyData.tuple (ofInts l)).bulk = l.length := by
  simp only [PyData.bulk, bulkAll_eq, ofInts, List.map_map]
  induction l with
  | nil => rfl
  | cons a l ih => simp only [List.map_cons, List.sum_cons, List.length_cons, Function.comp] at *; rw [ih]; simp [PyData.bulk]; omega
theorem depth_row (l : List Int) : (PyData.tuple (ofInts l)).depth ≤ 1 := by
  simp only [PyData.depth]
  have := depthAll_le (D := 0) (xs := ofInts l) fun x hx => by
    obtain ⟨i, _, rfl⟩ := List.mem_map.mp hx
    simp [PyData.depth]
  omega
theorem itd_rows {m : Int} {bl : List (List Int)} (hm : m ≤ 30) (hl : bl.length ≤ 12) (h : ∀ b ∈ bl, incr b = true ∧ ∀ i ∈ b, 0 ≤ i ∧ i < m) : itd (.tuple (ofRows bl)) = true ∧ (PyData.tuple (ofRows bl)).bulk ≤ 372 ∧ (PyData.tuple (ofRows bl)).depth ≤ 2 := by
  have key : ∀ x ∈ ofRows bl, itd x = true ∧ x.bulk ≤ 30 ∧ x.depth ≤ 1 := fun x hx => by
    obtain ⟨b, hb, rfl⟩ := List.mem_map.mp hx
    have g := itd_row hm (h b hb)
    exact ⟨g.1, by show (PyData.tuple (ofInts b)).bulk ≤ 30; rw [bulk_row]; exact g.2, depth_row b⟩
  refine ⟨?_, ?_, ?_⟩
  · simp only [itd, Bool.and_eq_true, decide_eq_true_eq, ofRows_len]
    exact ⟨by omega, itdAll_iff.mpr fun x hx => (key x hx).1⟩
  · simp only [PyData.bulk]
    have := bulkAll_le (K := 30) (xs := ofRows bl) fun x hx => (key x hx).2.1
    rw [ofRows_len] at this
    omega
  · simp only [PyData.depth]
    have := depthAll_le (D := 1) (xs := ofRows bl) fun x hx => (key x hx).2.2
    omega
theorem ixRowsT (xs : List (List Int)) (i : Int) (h : 0 ≤ i) (h2 : i < xs.length) : pf .ix [.tuple (ofRows xs), .int i] = some (.tuple (ofInts (xs.getD i.toNat []))) := ixTM ofRow xs [] i h h2
theorem row_is {m : Int} {v : PyData} (h : isRow m v = true) : ∃ ns, v = .tuple (ofInts ns) ∧ asInts (ofInts ns) = some ns ∧ incr ns = true ∧ (∀ i ∈ ns, 0 ≤ i ∧ i < m) := by
  cases v with
  | tuple xs =>
    simp only [isRow, rowOf, Bool.and_eq_true] at h
    obtain ⟨ns, e1, e2⟩ := inR_ints h.1
    have h2 := h.2
    rw [e1] at h2
    refine ⟨ns, by rw [e2], by rw [← e2]; exact e1, h2, fun i hi => ?_⟩
    have := List.all_eq_true.mp h.1 (.int i) (by rw [e2]; exact List.mem_map.mpr ⟨i, hi, rfl⟩)
    simpa [inR] using this
  | _ => simp [isRow] at h
theorem gd_el {m s : Int} {bl : List (List Int)} (m1 : 0 ≤ m) (m2 : m ≤ 30) (s1 : 0 ≤ s) (s2 : s ≤ 30) (hl : bl.length ≤ 12) (h : ∀ b ∈ bl, incr b = true ∧ ∀ i ∈ b, 0 ≤ i ∧ i < m) : Gm 3 1119 (elOf m bl s) := by
  have i := itd_rows m2 hl h
  have g : Gm 2 372 (.tuple (ofRows bl)) := ⟨itd_lf i.1, i.2.2, i.2.1⟩
  exact gd_three (by omega) (by omega) g
/-! ### rows are equal -/
theorem eqvAll_ints : ∀ a b : List Int, PyData.eqvAll (ofInts a) (ofInts b) = decide (a = b)
  | [], [] => by simp [ofInts, PyData.eqvAll]
  | [], _ :: _ => by simp [ofInts, PyData.eqvAll]
  | _ :: _, [] => by simp [ofInts, PyData.eqvAll]
  | x :: a, y :: b => by
    show PyData.eqvAll (.int x :: ofInts a) (.int y :: ofInts b) = _
    simp only [PyData.eqvAll, eqv_int, eqvAll_ints a b, List.cons.injEq, Bool.decide_and]
theorem eqv_row (a b : List Int) : PyData.eqv (.tuple (ofInts a)) (.tuple (ofInts b)) = decide (a = b) := by simp only [PyData.eqv, eqvAll_ints]
theorem eqvAll_rows : ∀ a b : List (List Int), PyData.eqvAll (ofRows a) (ofRows b) = decide (a = b)
  | [], [] => by simp [ofRows, PyData.eqvAll]
  | [], _ :: _ => by simp [ofRows, PyData.eqvAll]
  | _ :: _, [] => by simp [ofRows, PyData.eqvAll]
  | x :: a, y :: b => by
    show PyData.eqvAll (.tuple (ofInts x) :: ofRows a) (.tuple (ofInts y) :: ofRows b) = _
    simp only [PyData.eqvAll, eqv_row, eqvAll_rows a b, List.cons.injEq, Bool.decide_and]
theorem lay_ints : ∀ a : List Int, PyData.canLayAll0 (ofInts a) = true
  | [] => by simp [ofInts, PyData.canLayAll0]
  | x :: a => by
    show PyData.canLayAll0 (.int x :: ofInts a) = true
    simp only [PyData.canLayAll0, PyData.canLay0, lay_ints a, Bool.and_self]
theorem lay_rows : ∀ a : List (List Int), PyData.canLayAll0 (ofRows a) = true
  | [] => by simp [ofRows, PyData.canLayAll0]
  | x :: a => by
    show PyData.canLayAll0 (.tuple (ofInts x) :: ofRows a) = true
    simp only [PyData.canLayAll0, PyData.canLay0, lay_ints x, lay_rows a, Bool.and_self]
theorem eqOk_row (a : List Int) : eqOk (.tuple (ofInts a)) = true := by
  have := depth_row a
  simp only [eqOk, PyData.canLay0, lay_ints, Bool.true_and, decide_eq_true_eq]; omega
theorem depthAll_rows (a : List (List Int)) : PyData.depthAll (ofRows a) ≤ 1 := depthAll_le fun x hx => by
  obtain ⟨r, _, rfl⟩ := List.mem_map.mp hx
  exact depth_row r
theorem eqOk_rows (a : List (List Int)) : eqOk (.list (ofRows a)) = true := by
  have := depthAll_rows a
  have d : (PyData.list (ofRows a)).depth ≤ 60 := by simp only [PyData.depth]; omega
  simp only [eqOk, PyData.canLay0, lay_rows, decide_eq_true d, Bool.and_self]
theorem eqOk_rowsT (a : List (List Int)) : eqOk (.tuple (ofRows a)) = true := by
  have := depthAll_rows a
  have d : (PyData.tuple (ofRows a)).depth ≤ 60 := by simp only [PyData.depth]; omega
  simp only [eqOk, PyData.canLay0, lay_rows, decide_eq_true d, Bool.and_self]
theorem pf_eqOf {x y : PyData} {b : Bool} (h1 : eqOk x = true) (h2 : eqOk y = true) (h : PyData.eqv x y = b) (hn : ∀ a, x ≠ .str a) : pf .eq [x, y] = some (.bool b) := by
  have e : (if (eqOk x && eqOk y) = true then some (PyData.bool (PyData.eqv x y)) else none) = some (.bool b) := by rw [h1, h2, h]; rfl
  refine Eq.trans ?_ e
  cases x <;> cases y <;> first | rfl | (exact absurd rfl (hn _))
theorem pf_neOf {x y : PyData} {b : Bool} (h1 : eqOk x = true) (h2 : eqOk y = true) (h : PyData.eqv x y = b) (hn : ∀ a, x ≠ .str a) : pf .ne [x, y] = some (.bool (!b)) := by
  have e : (if (eqOk x && eqOk y) = true then some (PyData.bool (!PyData.eqv x y)) else none) = some (.bool (!b)) := by rw [h1, h2, h]; rfl
  refine Eq.trans ?_ e
  cases x <;> cases y <;> first | rfl | (exact absurd rfl (hn _))
theorem pf_eqRow (a b : List Int) : pf .eq [.tuple (ofInts a), .tuple (ofInts b)] = some (.bool (decide (a = b))) := pf_eqOf (eqOk_row a) (eqOk_row b) (eqv_row a b) (fun _ => by simp)
theorem pf_neRow (a b : List Int) : pf .ne [.tuple (ofInts a), .tuple (ofInts b)] = some (.bool (!decide (a = b))) := pf_neOf (eqOk_row a) (eqOk_row b) (eqv_row a b) (fun _ => by simp)
theorem pf_eqRows (a b : List (List Int)) : pf .eq [.list (ofRows a), .list (ofRows b)] = some (.bool (decide (a = b))) := pf_eqOf (eqOk_rows a) (eqOk_rows b) (by simp only [PyData.eqv, eqvAll_rows]) (fun _ => by simp)
theorem eqOk_ints (a : List Int) : eqOk (.list (ofInts a)) = true := by
  have := depth_row a
  simp only [PyData.depth] at this
  have d : (PyData.list (ofInts a)).depth ≤ 60 := by simp only [PyData.depth]; omega
  simp only [eqOk, PyData.canLay0, lay_ints, decide_eq_true d, Bool.and_self]
theorem pf_eqInts (a b : List Int) : pf .eq [.list (ofInts a), .list (ofInts b)] = some (.bool (decide (a = b))) := pf_eqOf (eqOk_ints a) (eqOk_ints b) (by simp only [PyData.eqv, eqvAll_ints]) (fun _ => by simp)
/-! ### two comprehensions in one -/
theorem flatR_p {α : Type} {ok : MH → Bool} {f : PyData → MH → Rs (List PyData)} {h : MH} {φ : α → PyData} (g : α → List PyData) (hok : ok h = true) : ∀ {L : List α} {n : Nat}, (∀ x ∈ L, f (φ x) h = .ok (g x) h) → n + (L.flatMap g).length ≤ 2 ^ 20 → flatR ok f n (L.map φ) h = .ok (L.flatMap g) h
  | [], n, _, _ => by simp [flatR, hok]
  | x :: xs, n, hf, hl => by
    rw [List.flatMap_cons, List.length_append] at hl
    have ih := flatR_p (ok := ok) (f := f) (φ := φ) g hok (L := xs) (n := n + (g x).length) (fun y m => hf y (List.mem_cons_of_mem _ m)) (by omega)
    simp only [List.map_cons, flatR, hok, if_true, hf x List.mem_cons_self, bindOk, if_pos (show n + (g x).length ≤ 2 ^ 20 by omega), ih, List.flatMap_cons]
section
variable {F : Nat → List Vl → MH → Rs Vl} {a : Cd} {t t1 : Tg} {k k1 : Ik} {es es1 fs : Cds} {e : Ev} {h : MH} {vs : List Vl}
theorem l2_pf {α β : Type} {φ : α → PyData} {ψ : β → PyData} {L : List α} (M : α → List β) (p : α → β → Bool) (g : α → β → PyData)
    (h1 : evs F es e h = .ok vs h) (h2 : itV h k vs = some (L.map φ)) (h3 : L.length ≤ 1048576) (h4 : same h h vs = true) (hs : (L.flatMap fun x => ((M x).filter (p x)).map (g x)).length ≤ 2 ^ 20)
    (h5 : ∀ x ∈ L, ∃ (vs1 : List Vl) (e' : Ev), setT t (.d (φ x)) (wpE e t1.slots) = some e' ∧ evs F es1 e' h = .ok vs1 h ∧ itV h k1 vs1 = some ((M x).map ψ) ∧ (M x).length ≤ 1048576 ∧ same h h vs1 = true ∧
      ∀ y ∈ M x, evl (ev F a) (evb F true fs) t1 e' (ψ y) h = if p x y = true then .ok (some (g x y)) h else .ok none h) :
    ev F (.l2 false a t k es t1 k1 es1 fs) e h = .ok (.d (.list (L.flatMap fun x => ((M x).filter (p x)).map (g x)))) h := by
  simp only [ev, h1, bindOk, h2]
  rw [if_pos (show lim (L.map φ) = true from lim_map h3), flatR_p (fun x => ((M x).filter (p x)).map (g x)) h4 (fun x m => ?_) (by omega)]
  · simp only [Rs.calm, bindOk, mkR, Bool.false_eq_true, if_false]
  · obtain ⟨vs1, e', q1, q2, q3, q4, q5, q6⟩ := h5 x m
    simp only [q1, q2, bindOk, q3]
    rw [if_pos (show lim ((M x).map ψ) = true from lim_map q4), mapR_A, mapA_map]
    exact mapA_memF (p x) (g x) q5 q6
theorem l2_p {α β : Type} {φ : α → PyData} {ψ : β → PyData} {L : List α} (M : α → List β) (g : α → β → PyData)
    (h1 : evs F es e h = .ok vs h) (h2 : itV h k vs = some (L.map φ)) (h3 : L.length ≤ 1048576) (h4 : same h h vs = true) (hs : (L.flatMap fun x => (M x).map (g x)).length ≤ 2 ^ 20)
    (h5 : ∀ x ∈ L, ∃ (vs1 : List Vl) (e' : Ev), setT t (.d (φ x)) (wpE e t1.slots) = some e' ∧ evs F es1 e' h = .ok vs1 h ∧ itV h k1 vs1 = some ((M x).map ψ) ∧ (M x).length ≤ 1048576 ∧ same h h vs1 = true ∧
      ∀ y ∈ M x, evl (ev F a) (evb F true fs) t1 e' (ψ y) h = .ok (some (g x y)) h) :
    ev F (.l2 false a t k es t1 k1 es1 fs) e h = .ok (.d (.list (L.flatMap fun x => (M x).map (g x)))) h := by
  have e1 : ∀ x, ((M x).filter fun _ => true).map (g x) = (M x).map (g x) := fun x => by rw [List.filter_eq_self.mpr fun _ _ => rfl]
  have := l2_pf (F := F) (a := a) (t := t) (t1 := t1) (k := k) (k1 := k1) (es := es) (es1 := es1) (fs := fs) (e := e) (h := h) (φ := φ) (ψ := ψ) (L := L) M (fun _ _ => true) g h1 h2 h3 h4 (by simp only [e1]; exact hs) (fun x m => by
    obtain ⟨vs1, e', q1, q2, q3, q4, q5, q6⟩ := h5 x m
    exact ⟨vs1, e', q1, q2, q3, q4, q5, fun y hy => by rw [if_pos rfl]; exact q6 y hy⟩)
  simp only [e1] at this
  exact this
end
theorem pf_srtRT (l : List (List Int)) (h : l.length ≤ 2 ^ 20) : pf .srt [.tuple (ofRows l)] = some (.list (ofRows (isortR l))) := by
  have : decide ((ofRows l).length ≤ 2 ^ 20) = true := decide_eq_true (by rw [ofRows_len]; exact h)
  cases l with
  | nil => rfl
  | cons r l =>
    have e : asInts (ofRows (r :: l)) = none := rfl
    simp only [pf, this, if_true, e, asRows_ofRows]
end Mn

/-! PermA: names, tables, least tables, in plain lists. -/
namespace Mn
open PySem
/-! ### orders of lists -/
structure STO {α : Type} (lt : α → α → Bool) : Prop where
  irr : ∀ a, lt a a = false
  tri : ∀ a b, lt a b = false → lt b a = false → a = b
  trans : ∀ a b c, lt a b = true → lt b c = true → lt a c = true
def lexG {α : Type} [DecidableEq α] (lt : α → α → Bool) : List α → List α → Bool
  | [], [] => false
  | [], _ :: _ => true
  | _ :: _, [] => false
  | x :: xs, y :: ys => if x = y then lexG lt xs ys else lt x y
theorem lexG_sto {α : Type} [DecidableEq α] {lt : α → α → Bool} (h : STO lt) : STO (lexG lt) where
  irr := by
    intro a
    induction a with
    | nil => rfl
    | cons x a ih => simp [lexG, ih]
  tri := by
    intro a
    induction a with
    | nil => intro b h1 h2; cases b <;> simp [lexG] at h1 h2 ⊢
    | cons x a ih =>
      intro b h1 h2
      cases b with
      | nil => simp [lexG] at h2
      | cons y b =>
        simp only [lexG] at h1 h2
        by_cases e : x = y
        · subst e
          rw [if_pos rfl] at h1 h2
          rw [ih b h1 h2]
        · rw [if_neg e] at h1
          rw [if_neg (Ne.symm e)] at h2
          exact absurd (h.tri x y h1 h2) e
  trans := by
    intro a
    induction a with
    | nil =>
      intro b c h1 h2
      cases b with
      | nil => simp [lexG] at h1
      | cons y b =>
        cases c with
        | nil => simp [lexG] at h2
        | cons z c => rfl
    | cons x a ih =>
      intro b c h1 h2
      cases b with
      | nil => simp [lexG] at h1
      | cons y b =>
        cases c with
        | nil => simp [lexG] at h2
        | cons z c =>
          simp only [lexG] at h1 h2 ⊢
          by_cases e : x = y
          · subst e
            rw [if_pos rfl] at h1
            by_cases e2 : x = z
            · subst e2
              rw [if_pos rfl] at h2 ⊢
              exact ih b c h1 h2
            · rw [if_neg e2] at h2 ⊢
              exact h2
          · rw [if_neg e] at h1
            by_cases e2 : y = z
            · subst e2
              rw [if_neg e]
              exact h1
            · rw [if_neg e2] at h2
              by_cases e3 : x = z
              · subst e3
                have := h.trans _ _ _ h1 h2
                rw [h.irr] at this
                cases this
              · rw [if_neg e3]
                exact h.trans _ _ _ h1 h2
theorem int_sto : STO (fun a b : Int => decide (a < b)) where
  irr a := by simp
  tri a b h1 h2 := by
    have := of_decide_eq_false h1
    have := of_decide_eq_false h2
    omega
  trans a b c h1 h2 := by
    have := of_decide_eq_true h1
    have := of_decide_eq_true h2
    exact decide_eq_true (by omega)
theorem lexLt_G : ∀ a b : List Int, HT.lexLt a b = lexG (fun a b : Int => decide (a < b)) a b
  | [], [] => rfl
  | [], _ :: _ => rfl
  | _ :: _, [] => rfl
  | x :: a, y :: b => by
    rw [HT.lexLt_cons, lexG, lexLt_G a b]
theorem row_sto : STO HT.lexLt := by
  have : HT.lexLt = lexG (fun a b : Int => decide (a < b)) := by funext a b; exact lexLt_G a b
  rw [this]
  exact lexG_sto int_sto
def ltT : List (List Int) → List (List Int) → Bool := lexG HT.lexLt
theorem ltT_sto : STO ltT := lexG_sto row_sto
/-! ### the same order, of data -/
theorem listLt_G : ∀ a b : List Int, PySem.W.listLt a b = HT.lexLt a b
  | [], [] => rfl
  | [], _ :: _ => rfl
  | _ :: _, [] => rfl
  | x :: a, y :: b => by
    rw [PySem.W.listLt, HT.lexLt_cons, listLt_G a b]; rfl
theorem listLt_T : ∀ a b : List (List Int), PySem.W.listLt (a.map PySem.W.Tup.mk) (b.map PySem.W.Tup.mk) = ltT a b
  | [], [] => rfl
  | [], _ :: _ => rfl
  | _ :: _, [] => rfl
  | x :: a, y :: b => by
    rw [List.map_cons, List.map_cons, PySem.W.listLt, listLt_T a b]
    show (if PySem.W.Tup.mk x = PySem.W.Tup.mk y then _ else PySem.W.listLt x y) = if x = y then _ else _
    rw [listLt_G]
    by_cases e : x = y
    · rw [if_pos e, if_pos (by rw [e])]; rfl
    · rw [if_neg e, if_neg (fun z => e (by injection z))]
theorem toD_T (a : List (List Int)) : PySem.W.Datum.toD (a.map PySem.W.Tup.mk) = PyData.list (ofRows a) := by
  show PyData.list _ = _
  congr 1
  rw [List.map_map]
  rfl
theorem dataLt_T (a b : List (List Int)) : PySem.W.dataLt (.list (ofRows a)) (.list (ofRows b)) = ltT a b := by
  rw [← toD_T, ← toD_T, PySem.W.DatumOrd.lt_eq, ← listLt_T]; rfl
theorem alike_T (a b : List (List Int)) : PySem.W.alike (.list (ofRows a)) (.list (ofRows b)) = true := by
  rw [← toD_T, ← toD_T]; exact PySem.W.DatumOrd.alike _ _
theorem depth_T (a : List (List Int)) : (PyData.list (ofRows a)).depth ≤ 2 := by
  simp only [PyData.depth]
  have := depthAll_le (D := 1) (xs := ofRows a) fun x hx => by
    obtain ⟨r, _, rfl⟩ := List.mem_map.mp hx
    exact depth_row r
  omega
theorem pf_ltT (a b : List (List Int)) : pf .lt [.list (ofRows a), .list (ofRows b)] = some (.bool (ltT a b)) := by
  have h := depth_T a
  have c : decide ((PyData.list (ofRows a)).depth ≤ 60) = true := decide_eq_true (by omega)
  show ordP _ _ _ = _
  simp only [ordP, alike_T, dataLt_T, c, isNone, Bool.not_false, Bool.and_self, if_true]
/-! ### the least one -/
def minG {α : Type} (lt : α → α → Bool) (x : α) (xs : List α) : α := xs.foldl (fun a y => if lt y a = true then y else a) x
theorem minG_is {α : Type} {lt : α → α → Bool} (h : STO lt) : ∀ (xs : List α) (x : α), minG lt x xs ∈ x :: xs ∧ ∀ y ∈ x :: xs, lt y (minG lt x xs) = false
  | [], x => ⟨by simp [minG], fun y hy => by simp at hy; rw [hy]; exact h.irr x⟩
  | z :: xs, x => by
    by_cases c : lt z x = true
    · have e : minG lt x (z :: xs) = minG lt z xs := by
        show minG lt (if lt z x = true then z else x) xs = _
        rw [if_pos c]
      obtain ⟨i1, i2⟩ := minG_is h xs z
      rw [e]
      refine ⟨List.mem_cons_of_mem _ i1, fun y hy => ?_⟩
      rcases List.mem_cons.mp hy with q | hy
      · have h0 := i2 z List.mem_cons_self
        rw [q]
        cases d : lt x (minG lt z xs) with
        | false => rfl
        | true => rw [h.trans _ _ _ c d] at h0; cases h0
      · exact i2 y hy
    · have e : minG lt x (z :: xs) = minG lt x xs := by
        show minG lt (if lt z x = true then z else x) xs = _
        rw [if_neg c]
      obtain ⟨i1, i2⟩ := minG_is h xs x
      rw [e]
      refine ⟨?_, fun y hy => ?_⟩
      · rcases List.mem_cons.mp i1 with q | q
        · rw [q]; exact List.mem_cons_self
        · exact List.mem_cons_of_mem _ (List.mem_cons_of_mem _ q)
      · rcases List.mem_cons.mp hy with q | hy
        · rw [q]; exact i2 x List.mem_cons_self
        · rcases List.mem_cons.mp hy with q | hy
          · rw [q]
            have h0 := i2 x List.mem_cons_self
            have c : lt z x = false := by simpa using c
            cases d : lt z (minG lt x xs) with
            | false => rfl
            | true =>
              cases e2 : lt x z with
              | true => rw [h.trans _ _ _ e2 d] at h0; cases h0
              | false => rw [h.tri _ _ c e2] at d; rw [d] at h0; cases h0
          · exact i2 y (List.mem_cons_of_mem _ hy)
/-- the least of the same things is the same -/
theorem least_uniq {α : Type} {lt : α → α → Bool} (h : STO lt) {S T : List α} (e : ∀ t, t ∈ S ↔ t ∈ T) {a b : α} (ha : a ∈ S ∧ ∀ y ∈ S, lt y a = false) (hb : b ∈ T ∧ ∀ y ∈ T, lt y b = false) : a = b :=
  h.tri a b (hb.2 a ((e a).mp ha.1)) (ha.2 b ((e b).mpr hb.1))
/-! ### sorted lists -/
theorem isort_eq {a b : List Int} (h : a.Perm b) : isort a = isort b := isort_uniq ((isort_perm a).trans h) (isort_sorted a)
theorem isort_id {a : List Int} (h : incr a = true) : isort a = a := (isort_uniq (.refl _) ((incr_pw h).imp fun h => by omega)).symm
theorem isortR_eq {a b : List (List Int)} (h : a.Perm b) : isortR a = isortR b :=
  sorted_uniq leR_anti leR_rfl ((isortR_perm a).trans (h.trans (isortR_perm b).symm)) (isortR_sorted a) (isortR_sorted b)
theorem isortR_len (l : List (List Int)) : (isortR l).length = l.length := (isortR_perm l).length_eq
theorem perm_of_isortR {a b : List (List Int)} (h : isortR a = isortR b) : a.Perm b := (isortR_perm a).symm.trans (h ▸ isortR_perm b)
/-! ### names -/
structure IsP (m : Int) (p : List Int) : Prop where
  len : p.length = m.toNat
  nd : p.Nodup
  rg : ∀ i ∈ p, 0 ≤ i ∧ i < m
theorem incr_full : ∀ (l : List Int) (lo hi : Int), l.Pairwise (· < ·) → (∀ i ∈ l, lo ≤ i ∧ i < hi) → (l.length : Int) = hi - lo → l = rngI lo hi
  | [], lo, hi, _, _, h => by
    have : (hi - lo).toNat = 0 := by simp at h; omega
    unfold rngI
    rw [this]; rfl
  | a :: l, lo, hi, hp, hr, hl => by
    rw [List.pairwise_cons] at hp
    have ha := hr a (by simp)
    have h1 : a = lo := by
      -- the rest lies above a
      have key : ∀ (l : List Int) (a : Int), l.Pairwise (· < ·) → (∀ i ∈ l, a < i ∧ i < hi) → (l.length : Int) ≤ hi - a - 1 ∨ l = [] := by
        intro l
        induction l with
        | nil => intro a _ _; exact .inr rfl
        | cons b l ih =>
          intro a hp hr
          rw [List.pairwise_cons] at hp
          have hb := hr b (by simp)
          left
          rcases ih b hp.2 fun i hi => ⟨hp.1 i hi, (hr i (List.mem_cons_of_mem _ hi)).2⟩ with z | z
          · simp only [List.length_cons]; omega
          · subst z; simp only [List.length_cons, List.length_nil]; omega
      simp only [List.length_cons] at hl
      rcases key l a hp.2 fun i hi => ⟨hp.1 i hi, (hr i (List.mem_cons_of_mem _ hi)).2⟩ with z | z
      · omega
      · subst z; simp at hl; omega
    subst h1
    have ih := incr_full l (a + 1) hi hp.2 (fun i hi => ⟨hp.1 i hi, (hr i (List.mem_cons_of_mem _ hi)).2⟩) (by simp only [List.length_cons] at hl; omega)
    rw [ih]
    unfold rngI
    have e : (hi - a).toNat = (hi - (a + 1)).toNat + 1 := by omega
    rw [e, List.range_succ_eq_map, List.map_cons, List.map_map]
    congr 1
    · omega
    · exact List.map_congr_left fun i _ => by simp only [Function.comp]; omega
theorem IsP.sorted {m : Int} {p : List Int} (h : IsP m p) (hm : 0 ≤ m) : isort p = rngI 0 m := by
  refine incr_full _ 0 m ?_ (fun i hi => h.rg i ((isort_mem p i).mp hi)) (by rw [isort_len, h.len]; omega)
  have nd : (isort p).Nodup := (isort_perm p).nodup_iff.mpr h.nd
  exact (List.Pairwise.and (isort_pw p) nd).imp fun {x y} h => by
    have := h.1
    have := h.2
    omega
theorem IsP.perm {m : Int} {p : List Int} (h : IsP m p) (hm : 0 ≤ m) : p.Perm (rngI 0 m) := by
  have := isort_perm p
  rw [h.sorted hm] at this
  exact this.symm
theorem IsP.mem {m : Int} {p : List Int} (h : IsP m p) (hm : 0 ≤ m) (i : Int) : i ∈ p ↔ 0 ≤ i ∧ i < m := by
  rw [(h.perm hm).mem_iff, rngI_mem]
theorem rngI_nodup (a b : Int) : (rngI a b).Nodup := (rngI_pw a b).imp fun h => by omega
theorem IsP_rng {m : Int} (hm : 0 ≤ m) : IsP m (rngI 0 m) := ⟨by rw [rngI_len]; simp, rngI_nodup 0 m, fun i hi => rngI_mem.mp hi⟩
theorem IsP_of {m : Int} {p : List Int} (hm : 0 ≤ m) (h : p.Perm (rngI 0 m)) : IsP m p :=
  ⟨by rw [h.length_eq, rngI_len]; simp, h.nodup_iff.mpr (rngI_nodup 0 m), fun i hi => rngI_mem.mp (h.mem_iff.mp hi)⟩
def nm (p : List Int) (i : Int) : Int := p.getD i.toNat 0
theorem nm_mem {m : Int} {p : List Int} (h : IsP m p) {i : Int} (h0 : 0 ≤ i) (h1 : i < m) : nm p i ∈ p := getD_mem (by rw [h.len]; omega)
theorem nm_rg {m : Int} {p : List Int} (h : IsP m p) {i : Int} (h0 : 0 ≤ i) (h1 : i < m) : 0 ≤ nm p i ∧ nm p i < m := h.rg _ (nm_mem h h0 h1)
theorem nm_get {p : List Int} {i : Int} (h0 : 0 ≤ i) (h1 : i.toNat < p.length) : nm p i = p[i.toNat] := by
  unfold nm
  rw [List.getD_eq_getElem?_getD, List.getElem?_eq_getElem h1]; rfl
theorem nm_inj {m : Int} {p : List Int} (h : IsP m p) {i j : Int} (h0 : 0 ≤ i) (h1 : i < m) (g0 : 0 ≤ j) (g1 : j < m) (e : nm p i = nm p j) : i = j := by
  have k1 : i.toNat < p.length := by rw [h.len]; omega
  have k2 : j.toNat < p.length := by rw [h.len]; omega
  rw [nm_get h0 k1, nm_get g0 k2] at e
  have pw := List.pairwise_iff_getElem.mp h.nd
  rcases Nat.lt_trichotomy i.toNat j.toNat with z | z | z
  · exact absurd e (pw _ _ k1 k2 z)
  · omega
  · exact absurd e.symm (pw _ _ k2 k1 z)
/-- one after the other -/
def cmp (p q : List Int) : List Int := p.map (nm q)
theorem nm_cmp {m : Int} {p : List Int} (q : List Int) (h : IsP m p) {i : Int} (h0 : 0 ≤ i) (h1 : i < m) : nm (cmp p q) i = nm q (nm p i) := by
  have k1 : i.toNat < p.length := by rw [h.len]; omega
  have k2 : i.toNat < (cmp p q).length := by simp [cmp, h.len]; omega
  rw [nm_get h0 k2, nm_get h0 k1]
  simp [cmp]
theorem map_nodup {α β : Type} {f : α → β} : ∀ {l : List α}, l.Nodup → (∀ a ∈ l, ∀ b ∈ l, f a = f b → a = b) → (l.map f).Nodup
  | [], _, _ => .nil
  | a :: l, h, hf => by
    have h' := List.nodup_cons.mp h
    rw [List.map_cons, List.nodup_cons]
    refine ⟨fun hm => ?_, map_nodup h'.2 fun x hx y hy => hf x (List.mem_cons_of_mem _ hx) y (List.mem_cons_of_mem _ hy)⟩
    obtain ⟨b, hb, e⟩ := List.mem_map.mp hm
    have := hf b (List.mem_cons_of_mem _ hb) a List.mem_cons_self e
    exact h'.1 (this ▸ hb)
theorem IsP_cmp {m : Int} {p q : List Int} (hp : IsP m p) (hq : IsP m q) : IsP m (cmp p q) :=
  ⟨by simp [cmp, hp.len], map_nodup hp.nd fun a ha b hb e => nm_inj hq (hp.rg a ha).1 (hp.rg a ha).2 (hp.rg b hb).1 (hp.rg b hb).2 e, fun i hi => by
    obtain ⟨a, ha, rfl⟩ := List.mem_map.mp hi
    exact nm_rg hq (hp.rg a ha).1 (hp.rg a ha).2⟩
/-- the way back -/
def inv (m : Int) (p : List Int) : List Int := (rngI 0 m).map fun i => (p.idxOf i : Int)
theorem idx_lt {m : Int} {p : List Int} (h : IsP m p) (hm : 0 ≤ m) {i : Int} (h0 : 0 ≤ i) (h1 : i < m) : p.idxOf i < p.length := List.idxOf_lt_length_of_mem ((h.mem hm i).mpr ⟨h0, h1⟩)
theorem get_idx {p : List Int} {i : Int} (h : p.idxOf i < p.length) : p[p.idxOf i] = i := by simp
theorem IsP_inv {m : Int} {p : List Int} (h : IsP m p) (hm : 0 ≤ m) : IsP m (inv m p) :=
  ⟨by simp [inv, rngI_len], map_nodup (rngI_nodup 0 m) fun a ha b hb e => by
    have ha := rngI_mem.mp ha
    have hb := rngI_mem.mp hb
    have k1 := get_idx (idx_lt h hm ha.1 ha.2)
    have k2 := get_idx (idx_lt h hm hb.1 hb.2)
    have e : p.idxOf a = p.idxOf b := by omega
    rw [← k1, ← k2]
    congr 1, fun i hi => by
    obtain ⟨a, ha, rfl⟩ := List.mem_map.mp hi
    have ha := rngI_mem.mp ha
    have := idx_lt h hm ha.1 ha.2
    rw [h.len] at this
    omega⟩
theorem rngI_get {m : Int} {k : Nat} (h : k < (rngI 0 m).length) : (rngI 0 m)[k] = (k : Int) := by simp [rngI]
theorem nm_inv {m : Int} {p : List Int} (h : IsP m p) (hm : 0 ≤ m) {i : Int} (h0 : 0 ≤ i) (h1 : i < m) : nm (inv m p) i = p.idxOf i := by
  have k2 : i.toNat < (inv m p).length := by simp [inv, rngI_len]; omega
  rw [nm_get h0 k2]
  simp only [inv, List.getElem_map, rngI_get]
  rw [Int.toNat_of_nonneg h0]
theorem nm_inv_r {m : Int} {p : List Int} (h : IsP m p) (hm : 0 ≤ m) {i : Int} (h0 : 0 ≤ i) (h1 : i < m) : nm p (nm (inv m p) i) = i := by
  rw [nm_inv h hm h0 h1]
  have := idx_lt h hm h0 h1
  rw [nm_get (by omega) (by omega)]
  simp
theorem nm_inv_l {m : Int} {p : List Int} (h : IsP m p) (hm : 0 ≤ m) {i : Int} (h0 : 0 ≤ i) (h1 : i < m) : nm (inv m p) (nm p i) = i := by
  have g := nm_rg h h0 h1
  refine nm_inj h ?_ ?_ h0 h1 (nm_inv_r h hm g.1 g.2)
  · exact (nm_rg (IsP_inv h hm) g.1 g.2).1
  · exact (nm_rg (IsP_inv h hm) g.1 g.2).2
/-! ### rows and tables under other names -/
def mpR (p row : List Int) : List Int := isort (row.map (nm p))
def tabR (bs : List (List Int)) (p : List Int) : List (List Int) := isortR (bs.map (mpR p))
abbrev rowOk (m : Int) (r : List Int) : Prop := incr r = true ∧ ∀ i ∈ r, 0 ≤ i ∧ i < m
theorem mpR_ok {m : Int} {p r : List Int} (hp : IsP m p) (h : rowOk m r) : rowOk m (mpR p r) := by
  refine isort_row (map_nodup (incr_nodup h.1) fun a ha b hb e => nm_inj hp (h.2 a ha).1 (h.2 a ha).2 (h.2 b hb).1 (h.2 b hb).2 e) fun i hi => ?_
  obtain ⟨a, ha, rfl⟩ := List.mem_map.mp hi
  exact nm_rg hp (h.2 a ha).1 (h.2 a ha).2
theorem mpR_cmp {m : Int} {p q r : List Int} (hp : IsP m p) (h : ∀ i ∈ r, 0 ≤ i ∧ i < m) : mpR q (mpR p r) = mpR (cmp p q) r := by
  unfold mpR
  rw [isort_eq ((isort_perm (r.map (nm p))).map (nm q)), List.map_map]
  congr 1
  exact List.map_congr_left fun i hi => (nm_cmp q hp (h i hi).1 (h i hi).2).symm
theorem mpR_id {m : Int} {p r : List Int} (h : rowOk m r) (hp : ∀ i, 0 ≤ i → i < m → nm p i = i) : mpR p r = r := by
  unfold mpR
  rw [show r.map (nm p) = r from by
    conv => rhs; rw [← List.map_id r]
    exact List.map_congr_left fun i hi => hp i (h.2 i hi).1 (h.2 i hi).2]
  exact isort_id h.1
theorem mpR_back {m : Int} {p r : List Int} (hm : 0 ≤ m) (hp : IsP m p) (h : rowOk m r) : mpR (inv m p) (mpR p r) = r := by
  rw [mpR_cmp hp h.2]
  exact mpR_id h fun i h0 h1 => by rw [nm_cmp _ hp h0 h1, nm_inv_l hp hm h0 h1]
theorem tabR_ok {m : Int} {bs : List (List Int)} {p : List Int} (hp : IsP m p) (h : ∀ b ∈ bs, rowOk m b) : ∀ b ∈ tabR bs p, rowOk m b := fun b hb => by
  have := (isortR_perm _).mem_iff.mp hb
  obtain ⟨c, hc, rfl⟩ := List.mem_map.mp this
  exact mpR_ok hp (h c hc)
theorem tabR_len (bs : List (List Int)) (p : List Int) : (tabR bs p).length = bs.length := by simp [tabR, isortR_len]
/-- the same by other names: the same tables -/
theorem tabR_perm {m : Int} {bs bs2 : List (List Int)} {p : List Int} (hp : IsP m p) (h : ∀ b ∈ bs, rowOk m b) (e : bs2.Perm (bs.map (mpR p))) (q : List Int) : tabR bs2 q = tabR bs (cmp p q) := by
  unfold tabR
  refine isortR_eq ((e.map (mpR q)).trans ?_)
  rw [List.map_map]
  refine List.Perm.of_eq (List.map_congr_left fun b hb => ?_)
  exact mpR_cmp hp (h b hb).2
end Mn

/-! PermB: all names, least tables, names that lead from one to the other. -/
namespace Mn
open PySem
def ext1 (m : Int) (row : List Int) : List (List Int) := ((rngI 0 m).filter fun x => !mem row x).map fun x => row ++ [x]
def permK (m : Int) : Nat → List (List Int)
  | 0 => [[]]
  | k + 1 => (permK m k).flatMap (ext1 m)
def perms (m : Int) : List (List Int) := permK m m.toNat
theorem permK_mem (m : Int) : ∀ (k : Nat) (p : List Int), p ∈ permK m k ↔ p.length = k ∧ p.Nodup ∧ ∀ i ∈ p, 0 ≤ i ∧ i < m
  | 0, p => by
    simp only [permK, List.mem_singleton]
    constructor
    · rintro rfl; simp
    · rintro ⟨h, _⟩; exact List.length_eq_zero_iff.mp h
  | k + 1, p => by
    simp only [permK, List.mem_flatMap, ext1, List.mem_map, List.mem_filter]
    constructor
    · rintro ⟨r, hr, x, ⟨hx, hn⟩, rfl⟩
      obtain ⟨h1, h2, h3⟩ := (permK_mem m k r).mp hr
      have hx := rngI_mem.mp hx
      have hn : x ∉ r := fun z => by rw [(mem_iff r x).mpr z] at hn; cases hn
      refine ⟨by simp [h1], List.nodup_append.mpr ⟨h2, by simp, fun a ha b hb e => ?_⟩, fun i hi => ?_⟩
      · simp at hb; rw [hb] at e; rw [e] at ha; exact hn ha
      · rcases List.mem_append.mp hi with hi | hi
        · exact h3 i hi
        · simp at hi; rw [hi]; exact hx
    · rintro ⟨h1, h2, h3⟩
      have hne : p ≠ [] := by intro z; rw [z] at h1; simp at h1
      have e := List.dropLast_concat_getLast hne
      refine ⟨p.dropLast, (permK_mem m k _).mpr ⟨by simp [h1], h2.sublist (List.dropLast_sublist p), fun i hi => h3 i ((List.dropLast_sublist p).subset hi)⟩, p.getLast hne, ⟨rngI_mem.mpr (h3 _ (List.getLast_mem hne)), ?_⟩, e⟩
      rw [← e] at h2
      have := (List.nodup_append.mp h2).2.2
      cases c : mem p.dropLast (p.getLast hne) with
      | false => rfl
      | true => exact absurd rfl (this _ ((mem_iff _ _).mp c) _ (by simp))
theorem perms_iff {m : Int} {p : List Int} : p ∈ perms m ↔ IsP m p :=
  (permK_mem m m.toNat p).trans ⟨fun h => ⟨h.1, h.2.1, h.2.2⟩, fun h => ⟨h.len, h.nd, h.rg⟩⟩
theorem permK_len (m : Int) : ∀ k : Nat, (permK m k).length ≤ m.toNat ^ k
  | 0 => by simp [permK]
  | k + 1 => by
    have ih := permK_len m k
    have key : ∀ l : List (List Int), (l.flatMap (ext1 m)).length ≤ l.length * m.toNat := by
      intro l
      induction l with
      | nil => simp
      | cons r l ih =>
        rw [List.flatMap_cons, List.length_append, List.length_cons, Nat.succ_mul]
        have h1 : (ext1 m r).length ≤ m.toNat := by
          unfold ext1
          rw [List.length_map]
          have := List.length_filter_le (fun x => !mem r x) (rngI 0 m)
          rw [rngI_len] at this
          simpa using this
        omega
    have := key (permK m k)
    simp only [permK, Nat.pow_succ]
    exact Nat.le_trans this (Nat.mul_le_mul_right _ ih)
theorem permK_row {m : Int} {k : Nat} {r : List Int} (h : r ∈ permK m k) : r.length = k := ((permK_mem m k r).mp h).1
/-! ### least tables -/
def tabs (m : Int) (bs : List (List Int)) : List (List (List Int)) := (perms m).map (tabR bs)
def codeT (m : Int) (bs : List (List Int)) : List (List Int) := match tabs m bs with
  | x :: xs => minG ltT x xs
  | [] => []
theorem tabs_ne {m : Int} (hm : 0 ≤ m) (bs : List (List Int)) : tabs m bs ≠ [] := by
  intro e
  have : tabR bs (rngI 0 m) ∈ tabs m bs := List.mem_map.mpr ⟨_, perms_iff.mpr (IsP_rng hm), rfl⟩
  rw [e] at this; cases this
theorem codeT_is {m : Int} (hm : 0 ≤ m) (bs : List (List Int)) : codeT m bs ∈ tabs m bs ∧ ∀ y ∈ tabs m bs, ltT y (codeT m bs) = false := by
  unfold codeT
  have := tabs_ne hm bs
  cases h : tabs m bs with
  | nil => exact absurd h this
  | cons x xs => exact minG_is ltT_sto xs x
theorem tab_mem {m : Int} {bs : List (List Int)} {t : List (List Int)} : t ∈ tabs m bs ↔ ∃ p, IsP m p ∧ tabR bs p = t := by
  unfold tabs
  rw [List.mem_map]
  exact ⟨fun ⟨p, h, e⟩ => ⟨p, perms_iff.mp h, e⟩, fun ⟨p, h, e⟩ => ⟨p, perms_iff.mpr h, e⟩⟩
theorem tabs_same {m : Int} (hm : 0 ≤ m) {bs bs2 : List (List Int)} {p : List Int} (hp : IsP m p) (h : ∀ b ∈ bs, rowOk m b) (e : bs2.Perm (bs.map (mpR p))) (t : List (List Int)) : t ∈ tabs m bs2 ↔ t ∈ tabs m bs := by
  rw [tab_mem, tab_mem]
  constructor
  · rintro ⟨q, hq, rfl⟩
    exact ⟨cmp p q, IsP_cmp hp hq, (tabR_perm hp h e q).symm⟩
  · rintro ⟨q, hq, rfl⟩
    refine ⟨cmp (inv m p) q, IsP_cmp (IsP_inv hp hm) hq, ?_⟩
    rw [tabR_perm hp h e]
    unfold tabR
    refine congrArg isortR (List.map_congr_left fun b hb => ?_)
    unfold mpR
    refine congrArg isort (List.map_congr_left fun i hi => ?_)
    have := (h b hb).2 i hi
    have g := nm_rg hp this.1 this.2
    rw [nm_cmp _ hp this.1 this.2, nm_cmp _ (IsP_inv hp hm) g.1 g.2, nm_inv_l hp hm this.1 this.2]
theorem codeT_same {m : Int} (hm : 0 ≤ m) {bs bs2 : List (List Int)} {p : List Int} (hp : IsP m p) (h : ∀ b ∈ bs, rowOk m b) (e : bs2.Perm (bs.map (mpR p))) : codeT m bs2 = codeT m bs :=
  least_uniq ltT_sto (tabs_same hm hp h e) (codeT_is hm bs2) (codeT_is hm bs)
theorem codeT_ok {m : Int} (hm : 0 ≤ m) {bs : List (List Int)} (h : ∀ b ∈ bs, rowOk m b) : (∀ b ∈ codeT m bs, rowOk m b) ∧ (codeT m bs).length = bs.length := by
  obtain ⟨p, hp, e⟩ := tab_mem.mp (codeT_is hm bs).1
  rw [← e]
  exact ⟨tabR_ok hp h, tabR_len bs p⟩
/-- the code of a code -/
theorem codeT_code {m : Int} (hm : 0 ≤ m) {bs : List (List Int)} (h : ∀ b ∈ bs, rowOk m b) : codeT m (codeT m bs) = codeT m bs := by
  obtain ⟨p, hp, e⟩ := tab_mem.mp (codeT_is hm bs).1
  refine codeT_same hm hp h ?_
  rw [← e]
  exact isortR_perm _
/-- names that lead from the one to the other are there just if the codes are the same -/
theorem alike_code {m : Int} (hm : 0 ≤ m) {b1 b2 : List (List Int)} (h1 : ∀ b ∈ b1, rowOk m b) (h2 : ∀ b ∈ b2, rowOk m b) : (∃ p, IsP m p ∧ isortR (b1.map (mpR p)) = isortR b2) ↔ codeT m b2 = codeT m b1 := by
  constructor
  · rintro ⟨p, hp, e⟩
    exact codeT_same hm hp h1 (perm_of_isortR e).symm
  · intro e
    obtain ⟨p, hp, e1⟩ := tab_mem.mp (codeT_is hm b1).1
    obtain ⟨q, hq, e2⟩ := tab_mem.mp (codeT_is hm b2).1
    refine ⟨cmp p (inv m q), IsP_cmp hp (IsP_inv hq hm), ?_⟩
    have pe : (b1.map (mpR p)).Perm (b2.map (mpR q)) := perm_of_isortR (e1.trans (e.symm.trans e2.symm))
    have := pe.map (mpR (inv m q))
    rw [List.map_map, List.map_map] at this
    have l1 : b1.map (mpR (inv m q) ∘ mpR p) = b1.map (mpR (cmp p (inv m q))) := List.map_congr_left fun b hb => mpR_cmp hp (h1 b hb).2
    have l2 : b2.map (mpR (inv m q) ∘ mpR q) = b2 := by
      conv => rhs; rw [← List.map_id b2]
      exact List.map_congr_left fun b hb => mpR_back hm hq (h2 b hb)
    rw [l1, l2] at this
    exact isortR_eq this
/-! ### the order of the voters -/
/-- the first free one that fits, one after the other -/
def grd (rows : List (List Int)) : List Int → List (List Int) → Option (List Int)
  | _, [] => some []
  | free, d :: ds => match free.filter (fun i => decide (rows.getD i.toNat [] = d)) with
    | [] => none
    | i :: _ => (grd rows (free.eraseIdx (free.idxOf i)) ds).map (i :: ·)
theorem erase_perm {l : List Int} {i : Int} (h : i ∈ l) : l.Perm (i :: l.eraseIdx (l.idxOf i)) := by
  have hl := List.idxOf_lt_length_of_mem h
  have e : l[l.idxOf i] = i := by simp
  conv => lhs; rw [← List.take_append_drop (l.idxOf i) l, List.drop_eq_getElem_cons hl, e]
  rw [List.eraseIdx_eq_take_drop_succ]
  exact List.perm_middle
theorem grd_ok (rows : List (List Int)) : ∀ (due : List (List Int)) (free : List Int), (free.map fun i => rows.getD i.toNat []).Perm due → ∃ o, grd rows free due = some o ∧ (o.map fun i => rows.getD i.toNat []) = due ∧ o.Perm free
  | [], free, h => by
    have : free = [] := List.map_eq_nil_iff.mp (List.Perm.eq_nil h)
    exact ⟨[], rfl, rfl, by rw [this]⟩
  | d :: ds, free, h => by
    have hd : d ∈ free.map fun i => rows.getD i.toNat [] := h.mem_iff.mpr List.mem_cons_self
    obtain ⟨j, hj, ej⟩ := List.mem_map.mp hd
    have hjf : j ∈ free.filter (fun i => decide (rows.getD i.toNat [] = d)) := List.mem_filter.mpr ⟨hj, decide_eq_true ej⟩
    cases hf : free.filter (fun i => decide (rows.getD i.toNat [] = d)) with
    | nil => rw [hf] at hjf; cases hjf
    | cons i r =>
      have hi : i ∈ free.filter (fun i => decide (rows.getD i.toNat [] = d)) := by rw [hf]; exact List.mem_cons_self
      obtain ⟨hi1, hi2⟩ := List.mem_filter.mp hi
      have hi2 := of_decide_eq_true hi2
      have pe := erase_perm hi1
      have h2 := (pe.map fun i => rows.getD i.toNat []).symm.trans h
      rw [List.map_cons, hi2] at h2
      obtain ⟨o, e1, e2, e3⟩ := grd_ok rows ds (free.eraseIdx (free.idxOf i)) (List.Perm.cons_inv h2)
      refine ⟨i :: o, ?_, by rw [List.map_cons, e2, hi2], (e3.cons i).trans pe.symm⟩
      simp only [grd, hf, e1, Option.map_some]
end Mn

namespace K61
open PySem Mn
def top (i : Nat) : Stmt := PySem.Challenge.pw_manyheard_k61_codes_and_alike_elections.main.body.getD i (.Pass ⟨0, 0, 0, 0⟩)
def tt : Tt where
  fs := [("is_whole", 1), ("is_row", 2), ("is_election", 1), ("check_election", 1), ("is_order", 2), ("are_names", 2), ("check_names", 2), ("mapped", 2), ("with_names", 3), ("renamed", 2), ("every_order", 1), ("code", 1), ("order_for", 2), ("alike", 2), ("_law_draw", 1), ("_law_take", 2), ("_law_turned", 2), ("_law_election", 3), ("_law_order", 2), ("_law_perms", 1), ("_law_mapped", 2), ("_law_code", 1), ("_law_alike", 2), ("_law_other", 2), ("_law_told", 3), ("law", 1)]
  bn := ["abs", "all", "bool", "int", "isinstance", "len", "list", "min", "range", "repr", "sorted", "tuple"]
  cs := [("MOST_CANDIDATES", (.int 30)), ("MOST_VOTERS", (.int 60)), ("FEW", (.int 6))]
  xs := [("Malformed", none, false), ("Refused", some "reason", false)]
def up (a b : Nat) : Bool := a == b
/-- is_whole: 0 value -/
def b_is_whole : Bk := 
  (.c (.re (.bo true (.c (.p false (.isi "int") (.c (.v 0) .n)) (.c (.nt (.p false (.isi "bool") (.c (.v 0) .n))) .n)))) .n)
def d_is_whole : Di := ⟨top 5, ["value"], ["value"], b_is_whole⟩
/-- is_row: 0 value, 1 many, 2 k, 3 item -/
abbrev q_is_row_0 : Cd := .lc false (.bo true (.c (.ca 0 (.c (.v 3) .n)) (.c (.ch .le .lt (.k (.int 0)) (.v 3) (.v 1)) .n))) (.n 3) .sq (.c (.v 0) .n) .n
abbrev q_is_row_1 : Cd := .lc false (.p false .lt (.c (.p false .ix (.c (.v 0) (.c (.p false .sub (.c (.v 2) (.c (.k (.int 1)) .n))) .n))) (.c (.p false .ix (.c (.v 0) (.c (.v 2) .n))) .n))) (.n 2) .r2 (.c (.k (.int 1)) (.c (.p false .len (.c (.v 0) .n)) .n)) .n
def b_is_row : Bk := 
  (.c (.fi (.bo false (.c (.nt (.p false (.isi "tuple") (.c (.v 0) .n))) (.c (.nt (.p false .all (.c q_is_row_0 .n))) .n))) 
   (.c (.re (.k (.bool false))) .n) .n)
  (.c (.re (.p false .all (.c q_is_row_1 .n))) .n))
def d_is_row : Di := ⟨top 9, ["value", "many", "k", "item"], ["value", "many"], b_is_row⟩
/-- is_election: 0 value, 1 many, 2 ballots, 3 seats, 4 ballot -/
abbrev q_is_election_0 : Cd := .lc false (.ca 1 (.c (.v 4) (.c (.v 1) .n))) (.n 4) .sq (.c (.v 2) .n) .n
def b_is_election : Bk := 
  (.c (.fi (.bo false (.c (.nt (.p false (.isi "tuple") (.c (.v 0) .n))) (.c (.p false .ne (.c (.p false .len (.c (.v 0) .n)) (.c (.k (.int 3)) .n))) .n))) 
   (.c (.re (.k (.bool false))) .n) .n)
  (.c (.s (.t3 1 2 3) (.v 0))
  (.c (.fi (.bo false (.c (.nt (.ca 0 (.c (.v 1) .n))) (.c (.nt (.ch .le .le (.k (.int 1)) (.v 1) (.g "MOST_CANDIDATES" (.int 30)))) (.c (.nt (.ca 0 (.c (.v 3) .n))) (.c (.nt (.ch .le .le (.k (.int 1)) (.v 3) (.v 1))) .n))))) 
   (.c (.re (.k (.bool false))) .n) .n)
  (.c (.fi (.bo false (.c (.nt (.p false (.isi "tuple") (.c (.v 2) .n))) (.c (.nt (.ch .le .le (.k (.int 1)) (.p false .len (.c (.v 2) .n)) (.g "MOST_VOTERS" (.int 60)))) .n))) 
   (.c (.re (.k (.bool false))) .n) .n)
  (.c (.re (.p false .all (.c q_is_election_0 .n))) .n)))))
def d_is_election : Di := ⟨top 10, ["value", "many", "ballots", "seats", "ballot"], ["value"], b_is_election⟩
/-- check_election: 0 election -/
def b_check_election : Bk := 
  (.c (.fi (.nt (.ca 2 (.c (.v 0) .n))) 
   (.c (.ra 0 false (.c (.k (.str "no election")) .n)) .n) .n) .n)
def d_check_election : Di := ⟨top 11, ["election"], ["election"], b_check_election⟩
/-- is_order: 0 value, 1 many, 2 item -/
abbrev q_is_order_0 : Cd := .lc false (.ca 0 (.c (.v 2) .n)) (.n 2) .sq (.c (.v 0) .n) .n
def b_is_order : Bk := 
  (.c (.fi (.bo false (.c (.nt (.p false (.isi "tuple") (.c (.v 0) .n))) (.c (.nt (.p false .all (.c q_is_order_0 .n))) .n))) 
   (.c (.re (.k (.bool false))) .n) .n)
  (.c (.re (.p false .eq (.c (.p false .srt (.c (.v 0) .n)) (.c (.p false .rng (.c (.v 1) .n)) .n)))) .n))
def d_is_order : Di := ⟨top 14, ["value", "many", "item"], ["value", "many"], b_is_order⟩
/-- are_names: 0 election, 1 value -/
def b_are_names : Bk := 
  (.c (.fi (.bo false (.c (.nt (.p false (.isi "tuple") (.c (.v 1) .n))) (.c (.p false .ne (.c (.p false .len (.c (.v 1) .n)) (.c (.k (.int 2)) .n))) .n))) 
   (.c (.re (.k (.bool false))) .n) .n)
  (.c (.re (.bo true (.c (.ca 4 (.c (.p false .ix (.c (.v 1) (.c (.k (.int 0)) .n))) (.c (.p false .ix (.c (.v 0) (.c (.k (.int 0)) .n))) .n))) (.c (.ca 4 (.c (.p false .ix (.c (.v 1) (.c (.k (.int 1)) .n))) (.c (.p false .len (.c (.p false .ix (.c (.v 0) (.c (.k (.int 1)) .n))) .n)) .n))) .n)))) .n))
def d_are_names : Di := ⟨top 15, ["election", "value"], ["election", "value"], b_are_names⟩
/-- check_names: 0 election, 1 value -/
def b_check_names : Bk := 
  (.c (.e (.ca 3 (.c (.v 0) .n)))
  (.c (.fi (.nt (.ca 5 (.c (.v 0) (.c (.v 1) .n)))) 
   (.c (.ra 0 false (.c (.k (.str "no names")) .n)) .n) .n) .n))
def d_check_names : Di := ⟨top 16, ["election", "value"], ["election", "value"], b_check_names⟩
/-- mapped: 0 row, 1 names, 2 item -/
abbrev q_mapped_0 : Cd := .lc false (.p false .ix (.c (.v 1) (.c (.v 2) .n))) (.n 2) .sq (.c (.v 0) .n) .n
def b_mapped : Bk := 
  (.c (.re (.p false .tup (.c (.p false .srt (.c q_mapped_0 .n)) .n))) .n)
def d_mapped : Di := ⟨top 17, ["row", "names", "item"], ["row", "names"], b_mapped⟩
/-- with_names: 0 election, 1 names, 2 order, 3 many, 4 ballots, 5 seats, 6 i -/
abbrev q_with_names_0 : Cd := .lc false (.ca 7 (.c (.p false .ix (.c (.v 4) (.c (.v 6) .n))) (.c (.v 1) .n))) (.n 6) .sq (.c (.v 2) .n) .n
def b_with_names : Bk := 
  (.c (.s (.t3 3 4 5) (.v 0))
  (.c (.re (.tu (.c (.v 3) (.c (.p false .tup (.c q_with_names_0 .n)) (.c (.v 5) .n))))) .n))
def d_with_names : Di := ⟨top 18, ["election", "names", "order", "many", "ballots", "seats", "i"], ["election", "names", "order"], b_with_names⟩
/-- renamed: 0 election, 1 names -/
def b_renamed : Bk := 
  (.c (.e (.ca 6 (.c (.v 0) (.c (.v 1) .n))))
  (.c (.re (.ca 8 (.c (.v 0) (.c (.p false .ix (.c (.v 1) (.c (.k (.int 0)) .n))) (.c (.p false .ix (.c (.v 1) (.c (.k (.int 1)) .n))) .n))))) .n))
def d_renamed : Di := ⟨top 19, ["election", "names"], ["election", "names"], b_renamed⟩
/-- every_order: 0 many, 1 found, 2 _, 3 row, 4 item -/
abbrev q_every_order_0 : Cd := .l2 false (.p false .add (.c (.v 3) (.c (.tu (.c (.v 4) .n)) .n))) (.n 3) .sq (.c (.v 1) .n) (.n 4) .r1 (.c (.v 0) .n) (.c (.p false .notin (.c (.v 4) (.c (.v 3) .n))) .n)
abbrev o_every_order_0 : Bk := 
  (.c (.s (.n 1) q_every_order_0) .n)
abbrev l_every_order_0 : Sd := .fo (.n 2) .r1 (.c (.v 0) .n) o_every_order_0
def b_every_order : Bk := 
  (.c (.s (.n 1) (.li false (.c (.tu .n) .n)))
  (.c l_every_order_0
  (.c (.re (.v 1)) .n)))
def d_every_order : Di := ⟨top 20, ["many", "found", "_", "row", "item"], ["many"], b_every_order⟩
/-- code: 0 election, 1 found, 2 names, 3 many, 4 ballots, 5 seats, 6 rows, 7 ballot -/
abbrev q_code_0 : Cd := .lc false (.ca 7 (.c (.v 7) (.c (.v 2) .n))) (.n 7) .sq (.c (.v 4) .n) .n
abbrev o_code_0 : Bk := 
  (.c (.s (.n 6) (.p false .srt (.c q_code_0 .n)))
  (.c (.fi (.bo false (.c (.p false .isN (.c (.v 1) .n)) (.c (.p false .lt (.c (.v 6) (.c (.v 1) .n))) .n))) 
   (.c (.s (.n 1) (.v 6)) .n) .n) .n))
abbrev l_code_0 : Sd := .fo (.n 2) .sq (.c (.ca 10 (.c (.v 3) .n)) .n) o_code_0
def b_code : Bk := 
  (.c (.e (.ca 3 (.c (.v 0) .n)))
  (.c (.s (.t3 3 4 5) (.v 0))
  (.c (.fi (.p false .gt (.c (.v 3) (.c (.g "FEW" (.int 6)) .n))) 
   (.c (.ra 1 false (.c (.k (.str "large")) .n)) .n) .n)
  (.c (.s (.n 1) (.k .none))
  (.c l_code_0
  (.c (.re (.tu (.c (.v 3) (.c (.p false .tup (.c (.v 1) .n)) (.c (.v 5) .n))))) .n))))))
def d_code : Di := ⟨top 21, ["election", "found", "names", "many", "ballots", "seats", "rows", "ballot"], ["election"], b_code⟩
/-- order_for: 0 rows, 1 due, 2 row, 3 free, 4 found, 5 fitting, 6 i -/
abbrev q_order_for_0 : Cd := .lc false (.v 6) (.n 6) .sq (.c (.v 3) .n) (.c (.p false .eq (.c (.p false .ix (.c (.v 0) (.c (.v 6) .n))) (.c (.v 2) .n))) .n)
abbrev o_order_for_0 : Bk := 
  (.c (.s (.n 5) q_order_for_0)
  (.c (.fi (.p false .eq (.c (.p false .len (.c (.v 5) .n)) (.c (.k (.int 0)) .n))) 
   (.c (.ra 1 false (.c (.k (.str "order")) .n)) .n) .n)
  (.c (.e (.me .app (.v 4) (.c (.p false .ix (.c (.v 5) (.c (.k (.int 0)) .n))) .n)))
  (.c (.e (.me .rem (.v 3) (.c (.p false .ix (.c (.v 5) (.c (.k (.int 0)) .n))) .n))) .n))))
abbrev l_order_for_0 : Sd := .fo (.n 2) .sq (.c (.v 1) .n) o_order_for_0
def b_order_for : Bk := 
  (.c (.pr [3, 4] (.c (.p true .rng (.c (.p false .len (.c (.v 0) .n)) .n)) (.c (.li true .n) .n)))
  (.c l_order_for_0
  (.c (.re (.p false .tup (.c (.v 4) .n))) .n)))
def d_order_for : Di := ⟨top 22, ["rows", "due", "row", "free", "found", "fitting", "i"], ["rows", "due"], b_order_for⟩
/-- alike: 0 one, 1 two, 2 due, 3 names, 4 rows, 5 ballot -/
abbrev q_alike_0 : Cd := .lc false (.ca 7 (.c (.v 5) (.c (.v 3) .n))) (.n 5) .sq (.c (.p false .ix (.c (.v 0) (.c (.k (.int 1)) .n))) .n) .n
abbrev o_alike_0 : Bk := 
  (.c (.s (.n 4) q_alike_0)
  (.c (.fi (.p false .eq (.c (.p false .srt (.c (.v 4) .n)) (.c (.v 2) .n))) 
   (.c (.re (.tu (.c (.v 3) (.c (.ca 12 (.c (.v 4) (.c (.p false .ix (.c (.v 1) (.c (.k (.int 1)) .n))) .n))) .n)))) .n) .n) .n))
abbrev l_alike_0 : Sd := .fo (.n 3) .sq (.c (.ca 10 (.c (.p false .ix (.c (.v 0) (.c (.k (.int 0)) .n))) .n)) .n) o_alike_0
def b_alike : Bk := 
  (.c (.e (.ca 3 (.c (.v 0) .n)))
  (.c (.e (.ca 3 (.c (.v 1) .n)))
  (.c (.fi (.p false .gt (.c (.p false .ix (.c (.v 0) (.c (.k (.int 0)) .n))) (.c (.g "FEW" (.int 6)) .n))) 
   (.c (.ra 1 false (.c (.k (.str "large")) .n)) .n) .n)
  (.c (.fi (.bo false (.c (.p false .ne (.c (.p false .ix (.c (.v 0) (.c (.k (.int 0)) .n))) (.c (.p false .ix (.c (.v 1) (.c (.k (.int 0)) .n))) .n))) (.c (.p false .ne (.c (.p false .ix (.c (.v 0) (.c (.k (.int 2)) .n))) (.c (.p false .ix (.c (.v 1) (.c (.k (.int 2)) .n))) .n))) (.c (.p false .ne (.c (.p false .len (.c (.p false .ix (.c (.v 0) (.c (.k (.int 1)) .n))) .n)) (.c (.p false .len (.c (.p false .ix (.c (.v 1) (.c (.k (.int 1)) .n))) .n)) .n))) .n)))) 
   (.c (.re (.k .none)) .n) .n)
  (.c (.s (.n 2) (.p false .srt (.c (.p false .ix (.c (.v 1) (.c (.k (.int 1)) .n))) .n)))
  (.c l_alike_0
  (.c (.re (.k .none)) .n)))))))
def d_alike : Di := ⟨top 23, ["one", "two", "due", "names", "rows", "ballot"], ["one", "two"], b_alike⟩
/-- _law_draw: 0 script, 1 seed, 2 cell -/
abbrev o__law_draw_0 : Bk := 
  (.c (.s (.n 1) (.p false .mod (.c (.p false .int (.c (.p false .add (.c (.p false .add (.c (.p false .mul (.c (.v 1) (.c (.k (.int 48271)) .n))) (.c (.p false .mod (.c (.p false .abs (.c (.p false .int (.c (.v 2) .n)) .n)) (.c (.k (.int 65521)) .n))) .n))) (.c (.k (.int 1)) .n))) .n)) (.c (.k (.int 2147483647)) .n)))) .n)
abbrev l__law_draw_0 : Sd := .fo (.n 2) .sq (.c (.v 0) .n) o__law_draw_0
abbrev q__law_draw_0 : Cd := .lc false (.p false .abs (.c (.p false .int (.c (.v 2) .n)) .n)) (.n 2) .sq (.c (.v 0) .n) .n
def b__law_draw : Bk := 
  (.c (.s (.n 1) (.k (.int 7)))
  (.c l__law_draw_0
  (.c (.re (.li true (.c q__law_draw_0 (.c (.p false .neg (.c (.k (.int 1)) .n)) (.c (.k (.int 0)) (.c (.v 1) .n)))))) .n)))
def d__law_draw : Di := ⟨top 25, ["script", "seed", "cell"], ["script"], b__law_draw⟩
/-- _law_take: 0 draw, 1 many, 2 found -/
def b__law_take : Bk := 
  (.c (.fi (.p false .eq (.c (.p false .ix (.c (.v 0) (.c (.k (.int 2)) .n))) (.c (.k (.int 0)) .n))) 
   (.c (.st (.v 0) (.k (.int 1)) (.p false .add (.c (.p false .ix (.c (.v 0) (.c (.k (.int 1)) .n))) (.c (.k (.int 1)) .n))))
   (.c (.fi (.p false .lt (.c (.p false .ix (.c (.v 0) (.c (.k (.int 1)) .n))) (.c (.p false .len (.c (.p false .ix (.c (.v 0) (.c (.k (.int 0)) .n))) .n)) .n))) 
    (.c (.st (.v 0) (.k (.int 2)) (.p false .ix (.c (.p false .ix (.c (.v 0) (.c (.k (.int 0)) .n))) (.c (.p false .ix (.c (.v 0) (.c (.k (.int 1)) .n))) .n)))) .n) .n)
   (.c (.fi (.p false .eq (.c (.p false .ix (.c (.v 0) (.c (.k (.int 2)) .n))) (.c (.k (.int 0)) .n))) 
    (.c (.st (.v 0) (.k (.int 3)) (.p false .mod (.c (.p false .int (.c (.p false .add (.c (.p false .mul (.c (.p false .ix (.c (.v 0) (.c (.k (.int 3)) .n))) (.c (.k (.int 48271)) .n))) (.c (.k (.int 11)) .n))) .n)) (.c (.k (.int 2147483647)) .n))))
    (.c (.st (.v 0) (.k (.int 2)) (.p false .ix (.c (.v 0) (.c (.k (.int 3)) .n)))) .n)) .n) .n))) .n)
  (.c (.s (.n 2) (.p false .mod (.c (.p false .int (.c (.p false .ix (.c (.v 0) (.c (.k (.int 2)) .n))) .n)) (.c (.v 1) .n))))
  (.c (.st (.v 0) (.k (.int 2)) (.p false .fdiv (.c (.p false .ix (.c (.v 0) (.c (.k (.int 2)) .n))) (.c (.v 1) .n))))
  (.c (.re (.v 2)) .n))))
def d__law_take : Di := ⟨top 26, ["draw", "many", "found"], ["draw", "many"], b__law_take⟩
/-- _law_turned: 0 ballot, 1 c, 2 x -/
abbrev q__law_turned_0 : Cd := .lc false (.v 2) (.n 2) .sq (.c (.v 0) .n) (.c (.p false .ne (.c (.v 2) (.c (.v 1) .n))) .n)
def b__law_turned : Bk := 
  (.c (.re (.p false .tup (.c (.p false .srt (.c (.p false .add (.c q__law_turned_0 (.c (.fi (.p false .isin (.c (.v 1) (.c (.v 0) .n))) (.li false .n) (.li false (.c (.v 1) .n))) .n))) .n)) .n))) .n)
def d__law_turned : Di := ⟨top 27, ["ballot", "c", "x"], ["ballot", "c"], b__law_turned⟩
/-- _law_election: 0 draw, 1 many, 2 voters, 3 bases, 4 ballots, 5 i, 6 m, 7 n, 8 ballot, 9 j, 10 c -/
abbrev q__law_election_0 : Cd := .lc false (.v 10) (.n 10) .r1 (.c (.v 6) .n) (.c (.p false .eq (.c (.ca 15 (.c (.v 0) (.c (.k (.int 2)) .n))) (.c (.k (.int 0)) .n))) .n)
abbrev q__law_election_1 : Cd := .lc false (.p false .tup (.c q__law_election_0 .n)) (.n 9) .r1 (.c (.p false .add (.c (.k (.int 1)) (.c (.ca 15 (.c (.v 0) (.c (.k (.int 3)) .n))) .n))) .n) .n
abbrev o__law_election_0 : Bk := 
  (.c (.s (.n 8) (.p false .ix (.c (.v 3) (.c (.ca 15 (.c (.v 0) (.c (.p false .len (.c (.v 3) .n)) .n))) .n))))
  (.c (.e (.me .app (.v 4) (.c (.fi (.p false .gt (.c (.ca 15 (.c (.v 0) (.c (.k (.int 3)) .n))) (.c (.k (.int 0)) .n))) (.v 8) (.ca 16 (.c (.v 8) (.c (.ca 15 (.c (.v 0) (.c (.v 6) .n))) .n)))) .n))) .n))
abbrev l__law_election_0 : Sd := .fo (.n 5) .r1 (.c (.v 7) .n) o__law_election_0
def b__law_election : Bk := 
  (.c (.pr [6, 7] (.c (.p false .add (.c (.k (.int 1)) (.c (.ca 15 (.c (.v 0) (.c (.v 1) .n))) .n))) (.c (.p false .add (.c (.k (.int 1)) (.c (.ca 15 (.c (.v 0) (.c (.v 2) .n))) .n))) .n)))
  (.c (.s (.n 3) q__law_election_1)
  (.c (.s (.n 4) (.li true .n))
  (.c l__law_election_0
  (.c (.re (.tu (.c (.v 6) (.c (.p false .tup (.c (.v 4) .n)) (.c (.p false .add (.c (.k (.int 1)) (.c (.ca 15 (.c (.v 0) (.c (.v 6) .n))) .n))) .n))))) .n)))))
def d__law_election : Di := ⟨top 28, ["draw", "many", "voters", "bases", "ballots", "i", "m", "n", "ballot", "j", "c"], ["draw", "many", "voters"], b__law_election⟩
/-- _law_order: 0 draw, 1 many, 2 k, 3 left, 4 found -/
abbrev o__law_order_0 : Bk := 
  (.c (.e (.me .app (.v 4) (.c (.me .pop (.v 3) (.c (.ca 15 (.c (.v 0) (.c (.p false .len (.c (.v 3) .n)) .n))) .n)) .n))) .n)
abbrev l__law_order_0 : Sd := .fo (.n 2) .r1 (.c (.v 1) .n) o__law_order_0
def b__law_order : Bk := 
  (.c (.pr [3, 4] (.c (.p true .rng (.c (.v 1) .n)) (.c (.li true .n) .n)))
  (.c l__law_order_0
  (.c (.re (.p false .tup (.c (.v 4) .n))) .n)))
def d__law_order : Di := ⟨top 29, ["draw", "many", "k", "left", "found"], ["draw", "many"], b__law_order⟩
/-- _law_perms: 0 many, 1 found, 2 k, 3 longer, 4 row, 5 x -/
abbrev q__law_perms_0 : Cd := .lc false (.p false .add (.c (.v 4) (.c (.tu (.c (.v 5) .n)) .n))) (.n 5) .r1 (.c (.v 0) .n) (.c (.p false .notin (.c (.v 5) (.c (.v 4) .n))) .n)
abbrev o__law_perms_0 : Bk := 
  (.c (.s (.n 3) (.p false .add (.c (.v 3) (.c q__law_perms_0 .n)))) .n)
abbrev l__law_perms_0 : Sd := .fo (.n 4) .sq (.c (.v 1) .n) o__law_perms_0
abbrev o__law_perms_1 : Bk := 
  (.c (.s (.n 3) (.li false .n))
  (.c l__law_perms_0
  (.c (.s (.n 1) (.v 3)) .n)))
abbrev l__law_perms_1 : Sd := .fo (.n 2) .r1 (.c (.v 0) .n) o__law_perms_1
def b__law_perms : Bk := 
  (.c (.s (.n 1) (.li false (.c (.tu .n) .n)))
  (.c l__law_perms_1
  (.c (.re (.v 1)) .n)))
def d__law_perms : Di := ⟨top 30, ["many", "found", "k", "longer", "row", "x"], ["many"], b__law_perms⟩
/-- _law_mapped: 0 row, 1 names, 2 c -/
abbrev q__law_mapped_0 : Cd := .lc false (.p false .ix (.c (.v 1) (.c (.v 2) .n))) (.n 2) .sq (.c (.v 0) .n) .n
def b__law_mapped : Bk := 
  (.c (.re (.p false .tup (.c (.p false .srt (.c q__law_mapped_0 .n)) .n))) .n)
def d__law_mapped : Di := ⟨top 31, ["row", "names", "c"], ["row", "names"], b__law_mapped⟩
/-- _law_code: 0 election, 1 tables, 2 names, 3 ballot -/
abbrev q__law_code_0 : Cd := .lc false (.ca 20 (.c (.v 3) (.c (.v 2) .n))) (.n 3) .sq (.c (.p false .ix (.c (.v 0) (.c (.k (.int 1)) .n))) .n) .n
abbrev q__law_code_1 : Cd := .lc false (.p false .srt (.c q__law_code_0 .n)) (.n 2) .sq (.c (.ca 19 (.c (.p false .ix (.c (.v 0) (.c (.k (.int 0)) .n))) .n)) .n) .n
def b__law_code : Bk := 
  (.c (.s (.n 1) q__law_code_1)
  (.c (.re (.tu (.c (.p false .ix (.c (.v 0) (.c (.k (.int 0)) .n))) (.c (.p false .tup (.c (.p false .minL (.c (.v 1) .n)) .n)) (.c (.p false .ix (.c (.v 0) (.c (.k (.int 2)) .n))) .n))))) .n))
def d__law_code : Di := ⟨top 32, ["election", "tables", "names", "ballot"], ["election"], b__law_code⟩
/-- _law_alike: 0 one, 1 two, 2 names, 3 rows, 4 order, 5 ballot, 6 i -/
abbrev q__law_alike_0 : Cd := .lc false (.ca 20 (.c (.v 5) (.c (.v 2) .n))) (.n 5) .sq (.c (.p false .ix (.c (.v 0) (.c (.k (.int 1)) .n))) .n) .n
abbrev q__law_alike_1 : Cd := .lc false (.v 6) (.n 6) .r1 (.c (.p false .len (.c (.v 3) .n)) .n) (.c (.bo true (.c (.p false .eq (.c (.p false .ix (.c (.v 3) (.c (.v 6) .n))) (.c (.v 5) .n))) (.c (.p false .notin (.c (.v 6) (.c (.v 4) .n))) .n))) .n)
abbrev o__law_alike_0 : Bk := 
  (.c (.e (.me .app (.v 4) (.c (.p false .ix (.c q__law_alike_1 (.c (.k (.int 0)) .n))) .n))) .n)
abbrev l__law_alike_0 : Sd := .fo (.n 5) .sq (.c (.p false .ix (.c (.v 1) (.c (.k (.int 1)) .n))) .n) o__law_alike_0
abbrev o__law_alike_1 : Bk := 
  (.c (.s (.n 3) q__law_alike_0)
  (.c (.fi (.p false .eq (.c (.p false .srt (.c (.v 3) .n)) (.c (.p false .srt (.c (.p false .ix (.c (.v 1) (.c (.k (.int 1)) .n))) .n)) .n))) 
   (.c (.s (.n 4) (.li true .n))
   (.c l__law_alike_0
   (.c (.re (.tu (.c (.v 2) (.c (.p false .tup (.c (.v 4) .n)) .n)))) .n))) .n) .n))
abbrev l__law_alike_1 : Sd := .fo (.n 2) .sq (.c (.ca 19 (.c (.p false .ix (.c (.v 0) (.c (.k (.int 0)) .n))) .n)) .n) o__law_alike_1
def b__law_alike : Bk := 
  (.c (.fi (.bo false (.c (.p false .ne (.c (.p false .ix (.c (.v 0) (.c (.k (.int 0)) .n))) (.c (.p false .ix (.c (.v 1) (.c (.k (.int 0)) .n))) .n))) (.c (.p false .ne (.c (.p false .ix (.c (.v 0) (.c (.k (.int 2)) .n))) (.c (.p false .ix (.c (.v 1) (.c (.k (.int 2)) .n))) .n))) (.c (.p false .ne (.c (.p false .len (.c (.p false .ix (.c (.v 0) (.c (.k (.int 1)) .n))) .n)) (.c (.p false .len (.c (.p false .ix (.c (.v 1) (.c (.k (.int 1)) .n))) .n)) .n))) .n)))) 
   (.c (.re (.k .none)) .n) .n)
  (.c l__law_alike_1
  (.c (.re (.k .none)) .n)))
def d__law_alike : Di := ⟨top 33, ["one", "two", "names", "rows", "order", "ballot", "i"], ["one", "two"], b__law_alike⟩
/-- _law_other: 0 draw, 1 election, 2 names, 3 other, 4 bent, 5 odd, 6 m, 7 ballots, 8 seats, 9 i, 10 c -/
abbrev q__law_other_0 : Cd := .lc false (.ca 20 (.c (.p false .ix (.c (.v 7) (.c (.v 9) .n))) (.c (.p false .ix (.c (.v 2) (.c (.k (.int 0)) .n))) .n))) (.n 9) .sq (.c (.p false .ix (.c (.v 2) (.c (.k (.int 1)) .n))) .n) .n
def b__law_other : Bk := 
  (.c (.s (.t3 6 7 8) (.v 1))
  (.c (.s (.n 2) (.tu (.c (.ca 18 (.c (.v 0) (.c (.v 6) .n))) (.c (.ca 18 (.c (.v 0) (.c (.p false .len (.c (.v 7) .n)) .n))) .n))))
  (.c (.s (.n 3) (.tu (.c (.v 6) (.c (.p false .tup (.c q__law_other_0 .n)) (.c (.v 8) .n)))))
  (.c (.pr [9, 10] (.c (.ca 15 (.c (.v 0) (.c (.p false .len (.c (.v 7) .n)) .n))) (.c (.ca 15 (.c (.v 0) (.c (.v 6) .n))) .n)))
  (.c (.s (.n 4) (.tu (.c (.v 6) (.c (.p false .add (.c (.p false .add (.c (.p false .slT (.c (.p false .ix (.c (.v 3) (.c (.k (.int 1)) .n))) (.c (.v 9) .n))) (.c (.tu (.c (.ca 16 (.c (.p false .ix (.c (.p false .ix (.c (.v 3) (.c (.k (.int 1)) .n))) (.c (.v 9) .n))) (.c (.v 10) .n))) .n)) .n))) (.c (.p false .slF (.c (.p false .ix (.c (.v 3) (.c (.k (.int 1)) .n))) (.c (.p false .add (.c (.v 9) (.c (.k (.int 1)) .n))) .n))) .n))) (.c (.v 8) .n)))))
  (.c (.s (.n 5) (.li false (.c (.v 4) (.c (.tu (.c (.v 6) (.c (.p false .add (.c (.p false .ix (.c (.v 3) (.c (.k (.int 1)) .n))) (.c (.tu (.c (.tu .n) .n)) .n))) (.c (.v 8) .n)))) (.c (.tu (.c (.v 6) (.c (.p false .ix (.c (.v 3) (.c (.k (.int 1)) .n))) (.c (.p false .add (.c (.k (.int 1)) (.c (.ca 15 (.c (.v 0) (.c (.v 6) .n))) .n))) .n)))) (.c (.tu (.c (.p false .add (.c (.v 6) (.c (.k (.int 1)) .n))) (.c (.p false .ix (.c (.v 3) (.c (.k (.int 1)) .n))) (.c (.v 8) .n)))) (.c (.ca 17 (.c (.v 0) (.c (.k (.int 4)) (.c (.k (.int 5)) .n)))) (.c (.v 1) .n))))))))
  (.c (.re (.fi (.p false .eq (.c (.ca 15 (.c (.v 0) (.c (.k (.int 2)) .n))) (.c (.k (.int 0)) .n))) (.v 3) (.p false .ix (.c (.v 5) (.c (.ca 15 (.c (.v 0) (.c (.k (.int 6)) .n))) .n))))) .n)))))))
def d__law_other : Di := ⟨top 34, ["draw", "election", "names", "other", "bent", "odd", "m", "ballots", "seats", "i", "c"], ["draw", "election"], b__law_other⟩
/-- _law_told: 0 which, 1 one, 2 two, 3 refusal -/
def b__law_told : Bk := 
  (.c (.tr 
   (.c (.re (.fi (.p false .eq (.c (.v 0) (.c (.k (.int 0)) .n))) (.ca 11 (.c (.v 1) .n)) (.ca 13 (.c (.v 1) (.c (.v 2) .n))))) .n) [(0, none, .k (.str "malformed")), (1, some 3, .at)]) .n)
def d__law_told : Di := ⟨top 35, ["which", "one", "two", "refusal"], ["which", "one", "two"], b__law_told⟩
/-- law: 0 script, 1 draw, 2 many, 3 one, 4 two, 5 due, 6 names, 7 large, 8 odd -/
def b_law : Bk := 
  (.c (.s (.n 1) (.ca 14 (.c (.v 0) .n)))
  (.c (.s (.n 2) (.fi (.p false .eq (.c (.ca 15 (.c (.v 1) (.c (.k (.int 12)) .n))) (.c (.k (.int 0)) .n))) (.k (.int 6)) (.k (.int 4))))
  (.c (.s (.n 3) (.ca 17 (.c (.v 1) (.c (.v 2) (.c (.k (.int 7)) .n)))))
  (.c (.s (.n 4) (.ca 23 (.c (.v 1) (.c (.v 3) .n))))
  (.c (.s (.n 5) (.ca 21 (.c (.v 3) .n)))
  (.c (.fi (.bo false (.c (.p false .ne (.c (.p false .repr (.c (.ca 24 (.c (.k (.int 0)) (.c (.v 3) (.c (.v 4) .n)))) .n)) (.c (.p false .repr (.c (.v 5) .n)) .n))) (.c (.p false .ne (.c (.p false .repr (.c (.ca 24 (.c (.k (.int 0)) (.c (.v 5) (.c (.v 4) .n)))) .n)) (.c (.p false .repr (.c (.v 5) .n)) .n))) .n))) 
   (.c (.re (.k (.bool false))) .n) .n)
  (.c (.s (.n 6) (.ca 22 (.c (.v 3) (.c (.v 4) .n))))
  (.c (.fi (.p false .ne (.c (.p false .repr (.c (.ca 24 (.c (.k (.int 1)) (.c (.v 3) (.c (.v 4) .n)))) .n)) (.c (.p false .repr (.c (.v 6) .n)) .n))) 
   (.c (.re (.k (.bool false))) .n) .n)
  (.c (.fi (.bo true (.c (.p false .le (.c (.p false .ix (.c (.v 4) (.c (.k (.int 0)) .n))) (.c (.k (.int 6)) .n))) (.c (.p false .ne (.c (.p false .eq (.c (.ca 24 (.c (.k (.int 0)) (.c (.v 4) (.c (.v 4) .n)))) (.c (.v 5) .n))) (.c (.p false .notN (.c (.v 6) .n)) .n))) .n))) 
   (.c (.re (.k (.bool false))) .n) .n)
  (.c (.fi (.bo true (.c (.p false .notN (.c (.v 6) .n)) (.c (.p false .ne (.c (.ca 9 (.c (.v 3) (.c (.v 6) .n))) (.c (.v 4) .n))) .n))) 
   (.c (.re (.k (.bool false))) .n) .n)
  (.c (.s (.n 7) (.tu (.c (.p false .add (.c (.k (.int 7)) (.c (.ca 15 (.c (.v 1) (.c (.k (.int 24)) .n))) .n))) (.c (.p false .ix (.c (.v 3) (.c (.k (.int 1)) .n))) (.c (.p false .ix (.c (.v 3) (.c (.k (.int 2)) .n))) .n)))))
  (.c (.fi (.p false .ne (.c (.li false (.c (.ca 24 (.c (.k (.int 0)) (.c (.v 7) (.c (.v 7) .n)))) (.c (.ca 24 (.c (.k (.int 1)) (.c (.v 7) (.c (.v 3) .n)))) (.c (.ca 24 (.c (.k (.int 1)) (.c (.v 3) (.c (.v 7) .n)))) .n)))) (.c (.li false (.c (.k (.str "large")) (.c (.k (.str "large")) (.c (.k .none) .n)))) .n))) 
   (.c (.re (.k (.bool false))) .n) .n)
  (.c (.s (.n 8) (.p false .ix (.c (.li false (.c (.k .none) (.c (.k (.int 5)) (.c (.tu .n) (.c (.p false .lst (.c (.v 3) .n)) (.c (.tu (.c (.p false .ix (.c (.v 3) (.c (.k (.int 0)) .n))) (.c (.p false .ix (.c (.v 3) (.c (.k (.int 1)) .n))) (.c (.k (.int 0)) .n)))) (.c (.tu (.c (.p false .ix (.c (.v 3) (.c (.k (.int 0)) .n))) (.c (.tu .n) (.c (.p false .ix (.c (.v 3) (.c (.k (.int 2)) .n))) .n)))) (.c (.tu (.c (.p false .ix (.c (.v 3) (.c (.k (.int 0)) .n))) (.c (.p false .add (.c (.p false .ix (.c (.v 3) (.c (.k (.int 1)) .n))) (.c (.tu (.c (.tu (.c (.k (.int 1)) (.c (.k (.int 0)) .n))) .n)) .n))) (.c (.p false .ix (.c (.v 3) (.c (.k (.int 2)) .n))) .n)))) (.c (.tu (.c (.k (.int 31)) (.c (.p false .ix (.c (.v 3) (.c (.k (.int 1)) .n))) (.c (.p false .ix (.c (.v 3) (.c (.k (.int 2)) .n))) .n)))) .n))))))))) (.c (.ca 15 (.c (.v 1) (.c (.k (.int 8)) .n))) .n))))
  (.c (.re (.p false .eq (.c (.li false (.c (.ca 24 (.c (.k (.int 0)) (.c (.v 8) (.c (.v 3) .n)))) (.c (.ca 24 (.c (.k (.int 1)) (.c (.v 8) (.c (.v 3) .n)))) (.c (.ca 24 (.c (.k (.int 1)) (.c (.v 3) (.c (.v 8) .n)))) (.c (.ca 24 (.c (.k (.int 1)) (.c (.v 7) (.c (.v 8) .n)))) .n))))) (.c (.p false .mul (.c (.li false (.c (.k (.str "malformed")) .n)) (.c (.k (.int 4)) .n))) .n)))) .n))))))))))))))
def d_law : Di := ⟨top 36, ["script", "draw", "many", "one", "two", "due", "names", "large", "odd"], ["script"], b_law⟩
def ds : List Di := [d_is_whole, d_is_row, d_is_election, d_check_election, d_is_order, d_are_names, d_check_names, d_mapped, d_with_names, d_renamed, d_every_order, d_code, d_order_for, d_alike, d__law_draw, d__law_take, d__law_turned, d__law_election, d__law_order, d__law_perms, d__law_mapped, d__law_code, d__law_alike, d__law_other, d__law_told, d_law]
theorem c_is_whole : chkD tt up d_is_whole = true := by decide +kernel
theorem c_is_row : chkD tt up d_is_row = true := by decide +kernel
theorem c_is_election : chkD tt up d_is_election = true := by decide +kernel
theorem c_check_election : chkD tt up d_check_election = true := by decide +kernel
theorem c_is_order : chkD tt up d_is_order = true := by decide +kernel
theorem c_are_names : chkD tt up d_are_names = true := by decide +kernel
theorem c_check_names : chkD tt up d_check_names = true := by decide +kernel
theorem c_mapped : chkD tt up d_mapped = true := by decide +kernel
theorem c_with_names : chkD tt up d_with_names = true := by decide +kernel
theorem c_renamed : chkD tt up d_renamed = true := by decide +kernel
theorem c_every_order : chkD tt up d_every_order = true := by decide +kernel
theorem c_code : chkD tt up d_code = true := by decide +kernel
theorem c_order_for : chkD tt up d_order_for = true := by decide +kernel
theorem c_alike : chkD tt up d_alike = true := by decide +kernel
theorem c__law_draw : chkD tt up d__law_draw = true := by decide +kernel
theorem c__law_take : chkD tt up d__law_take = true := by decide +kernel
theorem c__law_turned : chkD tt up d__law_turned = true := by decide +kernel
theorem c__law_election : chkD tt up d__law_election = true := by decide +kernel
theorem c__law_order : chkD tt up d__law_order = true := by decide +kernel
theorem c__law_perms : chkD tt up d__law_perms = true := by decide +kernel
theorem c__law_mapped : chkD tt up d__law_mapped = true := by decide +kernel
theorem c__law_code : chkD tt up d__law_code = true := by decide +kernel
theorem c__law_alike : chkD tt up d__law_alike = true := by decide +kernel
theorem c__law_other : chkD tt up d__law_other = true := by decide +kernel
theorem c__law_told : chkD tt up d__law_told = true := by decide +kernel
theorem c_law : chkD tt up d_law = true := by decide +kernel
abbrev WW : Nat := 0
abbrev Tb : List Df := ds.map Di.df
abbrev R (n : Nat) : Nat → List Vl → MH → Rs Vl := run WW up Tb n
theorem s_is_whole (n : Nat) (a0 : Vl) (h : MH) : R (n + 1) 0 [a0] h = fin h.length (bv WW up (R n) b_is_whole [some a0] h) := run_succ (D := d_is_whole.df) rfl rfl
theorem s_is_row (n : Nat) (a0 : Vl) (a1 : Vl) (h : MH) : R (n + 1) 1 [a0, a1] h = fin h.length (bv WW up (R n) b_is_row [some a0, some a1, none, none] h) := run_succ (D := d_is_row.df) rfl rfl
theorem s_is_election (n : Nat) (a0 : Vl) (h : MH) : R (n + 1) 2 [a0] h = fin h.length (bv WW up (R n) b_is_election [some a0, none, none, none, none] h) := run_succ (D := d_is_election.df) rfl rfl
theorem s_check_election (n : Nat) (a0 : Vl) (h : MH) : R (n + 1) 3 [a0] h = fin h.length (bv WW up (R n) b_check_election [some a0] h) := run_succ (D := d_check_election.df) rfl rfl
theorem s_is_order (n : Nat) (a0 : Vl) (a1 : Vl) (h : MH) : R (n + 1) 4 [a0, a1] h = fin h.length (bv WW up (R n) b_is_order [some a0, some a1, none] h) := run_succ (D := d_is_order.df) rfl rfl
theorem s_are_names (n : Nat) (a0 : Vl) (a1 : Vl) (h : MH) : R (n + 1) 5 [a0, a1] h = fin h.length (bv WW up (R n) b_are_names [some a0, some a1] h) := run_succ (D := d_are_names.df) rfl rfl
theorem s_check_names (n : Nat) (a0 : Vl) (a1 : Vl) (h : MH) : R (n + 1) 6 [a0, a1] h = fin h.length (bv WW up (R n) b_check_names [some a0, some a1] h) := run_succ (D := d_check_names.df) rfl rfl
theorem s_mapped (n : Nat) (a0 : Vl) (a1 : Vl) (h : MH) : R (n + 1) 7 [a0, a1] h = fin h.length (bv WW up (R n) b_mapped [some a0, some a1, none] h) := run_succ (D := d_mapped.df) rfl rfl
theorem s_with_names (n : Nat) (a0 : Vl) (a1 : Vl) (a2 : Vl) (h : MH) : R (n + 1) 8 [a0, a1, a2] h = fin h.length (bv WW up (R n) b_with_names [some a0, some a1, some a2, none, none, none, none] h) := run_succ (D := d_with_names.df) rfl rfl
theorem s_renamed (n : Nat) (a0 : Vl) (a1 : Vl) (h : MH) : R (n + 1) 9 [a0, a1] h = fin h.length (bv WW up (R n) b_renamed [some a0, some a1] h) := run_succ (D := d_renamed.df) rfl rfl
theorem s_every_order (n : Nat) (a0 : Vl) (h : MH) : R (n + 1) 10 [a0] h = fin h.length (bv WW up (R n) b_every_order [some a0, none, none, none, none] h) := run_succ (D := d_every_order.df) rfl rfl
theorem s_code (n : Nat) (a0 : Vl) (h : MH) : R (n + 1) 11 [a0] h = fin h.length (bv WW up (R n) b_code [some a0, none, none, none, none, none, none, none] h) := run_succ (D := d_code.df) rfl rfl
theorem s_order_for (n : Nat) (a0 : Vl) (a1 : Vl) (h : MH) : R (n + 1) 12 [a0, a1] h = fin h.length (bv WW up (R n) b_order_for [some a0, some a1, none, none, none, none, none] h) := run_succ (D := d_order_for.df) rfl rfl
theorem s_alike (n : Nat) (a0 : Vl) (a1 : Vl) (h : MH) : R (n + 1) 13 [a0, a1] h = fin h.length (bv WW up (R n) b_alike [some a0, some a1, none, none, none, none] h) := run_succ (D := d_alike.df) rfl rfl
theorem s__law_draw (n : Nat) (a0 : Vl) (h : MH) : R (n + 1) 14 [a0] h = fin h.length (bv WW up (R n) b__law_draw [some a0, none, none] h) := run_succ (D := d__law_draw.df) rfl rfl
theorem s__law_take (n : Nat) (a0 : Vl) (a1 : Vl) (h : MH) : R (n + 1) 15 [a0, a1] h = fin h.length (bv WW up (R n) b__law_take [some a0, some a1, none] h) := run_succ (D := d__law_take.df) rfl rfl
theorem s__law_turned (n : Nat) (a0 : Vl) (a1 : Vl) (h : MH) : R (n + 1) 16 [a0, a1] h = fin h.length (bv WW up (R n) b__law_turned [some a0, some a1, none] h) := run_succ (D := d__law_turned.df) rfl rfl
theorem s__law_election (n : Nat) (a0 : Vl) (a1 : Vl) (a2 : Vl) (h : MH) : R (n + 1) 17 [a0, a1, a2] h = fin h.length (bv WW up (R n) b__law_election [some a0, some a1, some a2, none, none, none, none, none, none, none, none] h) := run_succ (D := d__law_election.df) rfl rfl
theorem s__law_order (n : Nat) (a0 : Vl) (a1 : Vl) (h : MH) : R (n + 1) 18 [a0, a1] h = fin h.length (bv WW up (R n) b__law_order [some a0, some a1, none, none, none] h) := run_succ (D := d__law_order.df) rfl rfl
theorem s__law_perms (n : Nat) (a0 : Vl) (h : MH) : R (n + 1) 19 [a0] h = fin h.length (bv WW up (R n) b__law_perms [some a0, none, none, none, none, none] h) := run_succ (D := d__law_perms.df) rfl rfl
theorem s__law_mapped (n : Nat) (a0 : Vl) (a1 : Vl) (h : MH) : R (n + 1) 20 [a0, a1] h = fin h.length (bv WW up (R n) b__law_mapped [some a0, some a1, none] h) := run_succ (D := d__law_mapped.df) rfl rfl
theorem s__law_code (n : Nat) (a0 : Vl) (h : MH) : R (n + 1) 21 [a0] h = fin h.length (bv WW up (R n) b__law_code [some a0, none, none, none] h) := run_succ (D := d__law_code.df) rfl rfl
theorem s__law_alike (n : Nat) (a0 : Vl) (a1 : Vl) (h : MH) : R (n + 1) 22 [a0, a1] h = fin h.length (bv WW up (R n) b__law_alike [some a0, some a1, none, none, none, none, none] h) := run_succ (D := d__law_alike.df) rfl rfl
theorem s__law_other (n : Nat) (a0 : Vl) (a1 : Vl) (h : MH) : R (n + 1) 23 [a0, a1] h = fin h.length (bv WW up (R n) b__law_other [some a0, some a1, none, none, none, none, none, none, none, none, none] h) := run_succ (D := d__law_other.df) rfl rfl
theorem s__law_told (n : Nat) (a0 : Vl) (a1 : Vl) (a2 : Vl) (h : MH) : R (n + 1) 24 [a0, a1, a2] h = fin h.length (bv WW up (R n) b__law_told [some a0, some a1, some a2, none] h) := run_succ (D := d__law_told.df) rfl rfl
theorem s_law (n : Nat) (a0 : Vl) (h : MH) : R (n + 1) 25 [a0] h = fin h.length (bv WW up (R n) b_law [some a0, none, none, none, none, none, none, none, none] h) := run_succ (D := d_law.df) rfl rfl
theorem c_np : tt.fs.map (·.2) = ds.map fun d => d.ps.length := by decide +kernel
theorem c_all : chkAll tt up ds = true := by
  unfold chkAll ds
  rw [Bool.and_eq_true]
  refine ⟨?_, decide_eq_true c_np⟩
  simp only [List.all_cons, List.all_nil, Bool.and_true, c_is_whole, c_is_row, c_is_election, c_check_election, c_is_order, c_are_names, c_check_names, c_mapped, c_with_names, c_renamed, c_every_order, c_code, c_order_for, c_alike, c__law_draw, c__law_take, c__law_turned, c__law_election, c__law_order, c__law_perms, c__law_mapped, c__law_code, c__law_alike, c__law_other, c__law_told, c_law]
end K61

/-! draws, rows -/
namespace K61
open PySem Mn
theorem ix4_1 : L2.ixN 4 1 = some 1 := rfl
theorem ix4_2 : L2.ixN 4 2 = some 2 := rfl
theorem ix4_3 : L2.ixN 4 3 = some 3 := rfl
abbrev takeEnd : Bk := (.c (.s (.n 2) (.p false .mod (.c (.p false .int (.c (.p false .ix (.c (.v 0) (.c (.k (.int 2)) .n))) .n)) (.c (.v 1) .n)))) (.c (.st (.v 0) (.k (.int 2)) (.p false .fdiv (.c (.p false .ix (.c (.v 0) (.c (.k (.int 2)) .n))) (.c (.v 1) .n)))) (.c (.re (.v 2)) .n)))
theorem take_end {cells : List Int} {pos rest seed : Int} (hc : ∀ c ∈ cells, 0 ≤ c) (hp : -1 ≤ pos) (hr : 0 ≤ rest) (hs : 0 ≤ seed) {many : Int} (h1 : 1 ≤ many) (h2 : many < 1073741824) :
    ∃ v m', 0 ≤ v ∧ v < many ∧ DS m' ∧ ∀ (n : Nat) (t : MH), fin (t.length + 1) (bv WW up (R n) takeEnd [some (.r 0), some (.d (.int many)), none] (dM cells pos rest seed :: t)) = .ok (.d (.int v)) (m' :: t) := by
  refine ⟨rest % many, dM cells pos (rest / many) seed, Int.emod_nonneg _ (by omega), Int.emod_lt_of_pos _ (by omega), ⟨cells, pos, rest / many, seed, rfl, hc, hp, Int.ediv_nonneg hr (by omega), hs⟩, fun n t => ?_⟩
  simp only [takeEnd, dM, bvN, bvC, svE, svS, svPr, svSt, svFi, svRe, svRn, svRa, svTr, evV, evK, evG, evP, evS3, evCh, evNt, evBo, evFi, evTu, evLi, evCa, evMe, evsN, evsC, evbN, evbC, bindOk, toSOk, thenNx, thenRt, thenEx, ttB, snaps, snap, mkR, Mn.fresh, setT, datas, pars, meD, stD, itV, itD, List.getElem?_cons_zero, List.getElem?_cons_succ, List.getElem?_nil, List.set_cons_zero, List.set_cons_succ, Option.map_some, Option.map_none, Bool.false_eq_true, if_false, if_true, List.length_cons, List.length_nil, Nat.zero_add, Nat.reduceAdd, List.map_cons, List.map_nil, eq_self, decide_true, decide_false, Bool.not_true, Bool.not_false, beq_self_eq_true, Int.reduceToNat, List.replicate_succ, List.replicate_zero, List.cons_append, List.nil_append, pf_add, pf_sub, pf_eqI, pf_neI, pf_ltI, pf_gtI, pf_leI, pf_geI, pf_lenL, pf_lenT, pf_int, pf_abs, pf_ixLn _ 2 (by decide), pf_mod _ _ (show 0 < many by omega), pf_fdiv _ _ (show 0 < many by omega) h2, ix4_2, fin, List.take_succ_cons, List.take_length]
theorem take {m : Mo} (hm : DS m) {many : Int} (h1 : 1 ≤ many) (h2 : many < 1073741824) : ∃ v m', 0 ≤ v ∧ v < many ∧ DS m' ∧ ∀ (n : Nat) (t : MH), R (n + 1) 15 [.r 0, .d (.int many)] (m :: t) = .ok (.d (.int v)) (m' :: t) := by
  obtain ⟨cells, pos, rest, seed, rfl, hc, hp, hr, hs⟩ := hm.ex
  suffices w : ∃ v m', 0 ≤ v ∧ v < many ∧ DS m' ∧ ∀ (n : Nat) (t : MH), fin (t.length + 1) (bv WW up (R n) b__law_take [some (.r 0), some (.d (.int many)), none] (dM cells pos rest seed :: t)) = .ok (.d (.int v)) (m' :: t) by
    obtain ⟨v, m', a1, a2, a3, a4⟩ := w
    exact ⟨v, m', a1, a2, a3, fun n t => by rw [s__law_take]; exact a4 n t⟩
  -- how the head ends
  have go : ∀ (pos' rest' seed' : Int), -1 ≤ pos' → 0 ≤ rest' → 0 ≤ seed' → ∀ {s : Sd}, (∀ (n : Nat) (t : MH), sv WW up (R n) s [some (.r 0), some (.d (.int many)), none] (dM cells pos rest seed :: t) = .nx [some (.r 0), some (.d (.int many)), none] (dM cells pos' rest' seed' :: t)) →
      ∃ v m', 0 ≤ v ∧ v < many ∧ DS m' ∧ ∀ (n : Nat) (t : MH), fin (t.length + 1) (bv WW up (R n) (.c s takeEnd) [some (.r 0), some (.d (.int many)), none] (dM cells pos rest seed :: t)) = .ok (.d (.int v)) (m' :: t) := by
    intro pos' rest' seed' p1 p2 p3 s hs'
    obtain ⟨v, m', a1, a2, a3, a4⟩ := take_end (pos := pos') (rest := rest') (seed := seed') hc p1 p2 p3 h1 h2
    exact ⟨v, m', a1, a2, a3, fun n t => by rw [bv, hs', thenNx]; exact a4 n t⟩
  by_cases hr0 : rest = 0
  · subst hr0
    have hm1 : (0 : Int) < 2147483647 := by decide
    have seed0 : 0 ≤ (seed * 48271 + 11) % 2147483647 := Int.emod_nonneg _ (by decide)
    have p1 : 0 ≤ pos + 1 := by omega
    by_cases hlt : pos + 1 < (cells.length : Int)
    · obtain ⟨c, hcell⟩ : ∃ c, cells[(pos + 1).toNat]? = some c := ⟨_, List.getElem?_eq_getElem (by omega)⟩
      have hcd : (ofInts cells)[(pos + 1).toNat]? = some (.int c) := by simp [ofInts, hcell]
      have c0 : 0 ≤ c := hc c (List.mem_of_getElem? hcell)
      by_cases hz : c = 0
      · refine go (pos + 1) ((seed * 48271 + 11) % 2147483647) ((seed * 48271 + 11) % 2147483647) (by omega) seed0 seed0 fun n t => ?_
        subst hz
        simp only [dM, bvN, bvC, svE, svS, svPr, svSt, svFi, svRe, svRn, svRa, svTr, evV, evK, evG, evP, evS3, evCh, evNt, evBo, evFi, evTu, evLi, evCa, evMe, evsN, evsC, evbN, evbC, bindOk, toSOk, thenNx, thenRt, thenEx, ttB, snaps, snap, mkR, Mn.fresh, setT, datas, pars, meD, stD, itV, itD, List.getElem?_cons_zero, List.getElem?_cons_succ, List.getElem?_nil, List.set_cons_zero, List.set_cons_succ, Option.map_some, Option.map_none, Bool.false_eq_true, if_false, if_true, List.length_cons, List.length_nil, Nat.zero_add, Nat.reduceAdd, List.map_cons, List.map_nil, eq_self, decide_true, decide_false, Bool.not_true, Bool.not_false, beq_self_eq_true, Int.reduceToNat, List.replicate_succ, List.replicate_zero, List.cons_append, List.nil_append, pf_add, pf_sub, pf_eqI, pf_neI, pf_ltI, pf_gtI, pf_leI, pf_geI, pf_lenL, pf_lenT, pf_int, pf_abs, pf_ixLn _ 0 (by decide), pf_ixLn _ 1 (by decide), pf_ixLn _ 2 (by decide), pf_ixLn _ 3 (by decide), pf_ixLn _ _ p1, pf_mod _ _ hm1, pf_mul _ 48271 (by decide), ix4_1, ix4_2, ix4_3, hcd, ofInts_len, hlt]
      · refine go (pos + 1) c seed (by omega) c0 hs fun n t => ?_
        simp only [dM, bvN, bvC, svE, svS, svPr, svSt, svFi, svRe, svRn, svRa, svTr, evV, evK, evG, evP, evS3, evCh, evNt, evBo, evFi, evTu, evLi, evCa, evMe, evsN, evsC, evbN, evbC, bindOk, toSOk, thenNx, thenRt, thenEx, ttB, snaps, snap, mkR, Mn.fresh, setT, datas, pars, meD, stD, itV, itD, List.getElem?_cons_zero, List.getElem?_cons_succ, List.getElem?_nil, List.set_cons_zero, List.set_cons_succ, Option.map_some, Option.map_none, Bool.false_eq_true, if_false, if_true, List.length_cons, List.length_nil, Nat.zero_add, Nat.reduceAdd, List.map_cons, List.map_nil, eq_self, decide_true, decide_false, Bool.not_true, Bool.not_false, beq_self_eq_true, Int.reduceToNat, List.replicate_succ, List.replicate_zero, List.cons_append, List.nil_append, pf_add, pf_sub, pf_eqI, pf_neI, pf_ltI, pf_gtI, pf_leI, pf_geI, pf_lenL, pf_lenT, pf_int, pf_abs, pf_ixLn _ 0 (by decide), pf_ixLn _ 1 (by decide), pf_ixLn _ 2 (by decide), pf_ixLn _ 3 (by decide), pf_ixLn _ _ p1, pf_mod _ _ hm1, pf_mul _ 48271 (by decide), ix4_1, ix4_2, ix4_3, hcd, ofInts_len, hlt, hz]
    · refine go (pos + 1) ((seed * 48271 + 11) % 2147483647) ((seed * 48271 + 11) % 2147483647) (by omega) seed0 seed0 fun n t => ?_
      simp only [dM, bvN, bvC, svE, svS, svPr, svSt, svFi, svRe, svRn, svRa, svTr, evV, evK, evG, evP, evS3, evCh, evNt, evBo, evFi, evTu, evLi, evCa, evMe, evsN, evsC, evbN, evbC, bindOk, toSOk, thenNx, thenRt, thenEx, ttB, snaps, snap, mkR, Mn.fresh, setT, datas, pars, meD, stD, itV, itD, List.getElem?_cons_zero, List.getElem?_cons_succ, List.getElem?_nil, List.set_cons_zero, List.set_cons_succ, Option.map_some, Option.map_none, Bool.false_eq_true, if_false, if_true, List.length_cons, List.length_nil, Nat.zero_add, Nat.reduceAdd, List.map_cons, List.map_nil, eq_self, decide_true, decide_false, Bool.not_true, Bool.not_false, beq_self_eq_true, Int.reduceToNat, List.replicate_succ, List.replicate_zero, List.cons_append, List.nil_append, pf_add, pf_sub, pf_eqI, pf_neI, pf_ltI, pf_gtI, pf_leI, pf_geI, pf_lenL, pf_lenT, pf_int, pf_abs, pf_ixLn _ 0 (by decide), pf_ixLn _ 1 (by decide), pf_ixLn _ 2 (by decide), pf_ixLn _ 3 (by decide), pf_ixLn _ _ p1, pf_mod _ _ hm1, pf_mul _ 48271 (by decide), ix4_1, ix4_2, ix4_3, ofInts_len, hlt]
  · refine go pos rest seed hp hr hs fun n t => ?_
    simp only [dM, bvN, bvC, svE, svS, svPr, svSt, svFi, svRe, svRn, svRa, svTr, evV, evK, evG, evP, evS3, evCh, evNt, evBo, evFi, evTu, evLi, evCa, evMe, evsN, evsC, evbN, evbC, bindOk, toSOk, thenNx, thenRt, thenEx, ttB, snaps, snap, mkR, Mn.fresh, setT, datas, pars, meD, stD, itV, itD, List.getElem?_cons_zero, List.getElem?_cons_succ, List.getElem?_nil, List.set_cons_zero, List.set_cons_succ, Option.map_some, Option.map_none, Bool.false_eq_true, if_false, if_true, List.length_cons, List.length_nil, Nat.zero_add, Nat.reduceAdd, List.map_cons, List.map_nil, eq_self, decide_true, decide_false, Bool.not_true, Bool.not_false, beq_self_eq_true, Int.reduceToNat, List.replicate_succ, List.replicate_zero, List.cons_append, List.nil_append, pf_add, pf_sub, pf_eqI, pf_neI, pf_ltI, pf_gtI, pf_leI, pf_geI, pf_lenL, pf_lenT, pf_int, pf_abs, pf_ixLn _ 0 (by decide), pf_ixLn _ 1 (by decide), pf_ixLn _ 2 (by decide), hr0]

theorem is_whole (n : Nat) (x : PyData) (h : MH) : R (n + 1) 0 [.d x] h = .ok (.d (.bool (whole x))) h := by
  rw [show R (n+1) 0 [.d x] h = _ from run_succ (D := d_is_whole.df) rfl rfl]
  cases x <;> simp [d_is_whole, Di.df, b_is_whole, bv, sv, ev, evs, evb, Rs.bind, Rs.toS, Ss.then, snaps, snap, pf, isTy, mkR, Vl.tt, fin, whole]
theorem inR_ev (F : Nat → List Vl → MH → Rs Vl) (hF : ∀ x h, F 0 [.d x] h = .ok (.d (.bool (whole x))) h) (many : Int) (v x : PyData) (h : MH) :
    ev F (.bo true (.c (.ca 0 (.c (.v 3) .n)) (.c (.ch .le .lt (.k (.int 0)) (.v 3) (.v 1)) .n))) [some (.d v), some (.d (.int many)), none, some (.d x)] h = .ok (.d (.bool (inR many x))) h := by
  simp only [bvN, bvC, svE, svS, svPr, svSt, svFi, svRe, svRn, svRa, svTr, evV, evK, evG, evP, evS3, evCh, evNt, evBo, evFi, evTu, evLi, evCa, evMe, evsN, evsC, evbN, evbC, bindOk, toSOk, thenNx, thenRt, thenEx, ttB, snaps, snap, mkR, Mn.fresh, setT, datas, pars, meD, stD, itV, itD, List.getElem?_cons_zero, List.getElem?_cons_succ, List.getElem?_nil, List.set_cons_zero, List.set_cons_succ, Option.map_some, Option.map_none, Bool.false_eq_true, if_false, if_true, List.length_cons, List.length_nil, Nat.zero_add, Nat.reduceAdd, List.map_cons, List.map_nil, eq_self, decide_true, decide_false, Bool.not_true, Bool.not_false, beq_self_eq_true, Int.reduceToNat, List.replicate_succ, List.replicate_zero, List.cons_append, List.nil_append, hF]
  cases x with
  | int i =>
    simp only [whole, bvN, bvC, svE, svS, svPr, svSt, svFi, svRe, svRn, svRa, svTr, evV, evK, evG, evP, evS3, evCh, evNt, evBo, evFi, evTu, evLi, evCa, evMe, evsN, evsC, evbN, evbC, bindOk, toSOk, thenNx, thenRt, thenEx, ttB, snaps, snap, mkR, Mn.fresh, setT, datas, pars, meD, stD, itV, itD, List.getElem?_cons_zero, List.getElem?_cons_succ, List.getElem?_nil, List.set_cons_zero, List.set_cons_succ, Option.map_some, Option.map_none, Bool.false_eq_true, if_false, if_true, List.length_cons, List.length_nil, Nat.zero_add, Nat.reduceAdd, List.map_cons, List.map_nil, eq_self, decide_true, decide_false, Bool.not_true, Bool.not_false, beq_self_eq_true, Int.reduceToNat, List.replicate_succ, List.replicate_zero, List.cons_append, List.nil_append, pf_leI, pf_ltI, inR]
    by_cases h0 : 0 ≤ i
    · simp only [h0, bvN, bvC, svE, svS, svPr, svSt, svFi, svRe, svRn, svRa, svTr, evV, evK, evG, evP, evS3, evCh, evNt, evBo, evFi, evTu, evLi, evCa, evMe, evsN, evsC, evbN, evbC, bindOk, toSOk, thenNx, thenRt, thenEx, ttB, snaps, snap, mkR, Mn.fresh, setT, datas, pars, meD, stD, itV, itD, List.getElem?_cons_zero, List.getElem?_cons_succ, List.getElem?_nil, List.set_cons_zero, List.set_cons_succ, Option.map_some, Option.map_none, Bool.false_eq_true, if_false, if_true, List.length_cons, List.length_nil, Nat.zero_add, Nat.reduceAdd, List.map_cons, List.map_nil, eq_self, decide_true, decide_false, Bool.not_true, Bool.not_false, beq_self_eq_true, Int.reduceToNat, List.replicate_succ, List.replicate_zero, List.cons_append, List.nil_append]
      cases decide (i < many) <;> rfl
    · simp only [h0, bvN, bvC, svE, svS, svPr, svSt, svFi, svRe, svRn, svRa, svTr, evV, evK, evG, evP, evS3, evCh, evNt, evBo, evFi, evTu, evLi, evCa, evMe, evsN, evsC, evbN, evbC, bindOk, toSOk, thenNx, thenRt, thenEx, ttB, snaps, snap, mkR, Mn.fresh, setT, datas, pars, meD, stD, itV, itD, List.getElem?_cons_zero, List.getElem?_cons_succ, List.getElem?_nil, List.set_cons_zero, List.set_cons_succ, Option.map_some, Option.map_none, Bool.false_eq_true, if_false, if_true, List.length_cons, List.length_nil, Nat.zero_add, Nat.reduceAdd, List.map_cons, List.map_nil, eq_self, decide_true, decide_false, Bool.not_true, Bool.not_false, beq_self_eq_true, Int.reduceToNat, List.replicate_succ, List.replicate_zero, List.cons_append, List.nil_append]
      rfl
  | _ => simp only [whole, ft, bvN, bvC, svE, svS, svPr, svSt, svFi, svRe, svRn, svRa, svTr, evV, evK, evG, evP, evS3, evCh, evNt, evBo, evFi, evTu, evLi, evCa, evMe, evsN, evsC, evbN, evbC, bindOk, toSOk, thenNx, thenRt, thenEx, ttB, snaps, snap, mkR, Mn.fresh, setT, datas, pars, meD, stD, itV, itD, List.getElem?_cons_zero, List.getElem?_cons_succ, List.getElem?_nil, List.set_cons_zero, List.set_cons_succ, Option.map_some, Option.map_none, Bool.false_eq_true, if_false, if_true, List.length_cons, List.length_nil, Nat.zero_add, Nat.reduceAdd, List.map_cons, List.map_nil, eq_self, decide_true, decide_false, Bool.not_true, Bool.not_false, beq_self_eq_true, Int.reduceToNat, List.replicate_succ, List.replicate_zero, List.cons_append, List.nil_append, inR]
theorem rowL (F : Nat → List Vl → MH → Rs Vl) (hF : ∀ x h, F 0 [.d x] h = .ok (.d (.bool (whole x))) h) (many : Int) (xs : List PyData) (h : MH) (hl : xs.length ≤ 900) :
    ev F (.lc false (.bo true (.c (.ca 0 (.c (.v 3) .n)) (.c (.ch .le .lt (.k (.int 0)) (.v 3) (.v 1)) .n))) (.n 3) .sq (.c (.v 0) .n) .n) [some (.d (.tuple xs)), some (.d (.int many)), none, none] h = .ok (.d (.list (xs.map fun x => .bool (inR many x)))) h :=
  lc_map (vs := [.d (.tuple xs)]) (E := fun x => [some (.d (.tuple xs)), some (.d (.int many)), none, some (.d x)]) (by simp only [bvN, bvC, svE, svS, svPr, svSt, svFi, svRe, svRn, svRa, svTr, evV, evK, evG, evP, evS3, evCh, evNt, evBo, evFi, evTu, evLi, evCa, evMe, evsN, evsC, evbN, evbC, bindOk, toSOk, thenNx, thenRt, thenEx, ttB, snaps, snap, mkR, Mn.fresh, setT, datas, pars, meD, stD, itV, itD, List.getElem?_cons_zero, List.getElem?_cons_succ, List.getElem?_nil, List.set_cons_zero, List.set_cons_succ, Option.map_some, Option.map_none, Bool.false_eq_true, if_false, if_true, List.length_cons, List.length_nil, Nat.zero_add, Nat.reduceAdd, List.map_cons, List.map_nil, eq_self, decide_true, decide_false, Bool.not_true, Bool.not_false, beq_self_eq_true, Int.reduceToNat, List.replicate_succ, List.replicate_zero, List.cons_append, List.nil_append]) (by simp only [itV, snaps, snap, itD, seqOf]) (lenU hl) rfl fun x hm => ⟨rfl, inR_ev F hF many _ x h⟩
theorem is_row0 (n : Nat) (many : Int) (w : PyData) (h : MH) (hw : isTy "tuple" w = false) : R (n + 2) 1 [.d w, .d (.int many)] h = .ok (.d (.bool false)) h := by
  rw [show R (n+2) 1 [.d w, .d (.int many)] h = _ from run_succ (D := d_is_row.df) rfl rfl]
  simp only [d_is_row, Di.df, b_is_row, bvN, bvC, svE, svS, svPr, svSt, svFi, svRe, svRn, svRa, svTr, evV, evK, evG, evP, evS3, evCh, evNt, evBo, evFi, evTu, evLi, evCa, evMe, evsN, evsC, evbN, evbC, bindOk, toSOk, thenNx, thenRt, thenEx, ttB, snaps, snap, mkR, Mn.fresh, setT, datas, pars, meD, stD, itV, itD, List.getElem?_cons_zero, List.getElem?_cons_succ, List.getElem?_nil, List.set_cons_zero, List.set_cons_succ, Option.map_some, Option.map_none, Bool.false_eq_true, if_false, if_true, List.length_cons, List.length_nil, Nat.zero_add, Nat.reduceAdd, List.map_cons, List.map_nil, eq_self, decide_true, decide_false, Bool.not_true, Bool.not_false, beq_self_eq_true, Int.reduceToNat, List.replicate_succ, List.replicate_zero, List.cons_append, List.nil_append, pf_isi, hw, tf, ft, fin, List.take_length]
theorem is_row1 (n : Nat) (many : Int) (xs : List PyData) (h : MH) (hl : xs.length ≤ 900) : R (n + 2) 1 [.d (.tuple xs), .d (.int many)] h = .ok (.d (.bool (rowOf many xs))) h := by
  rw [show R (n+2) 1 [.d (.tuple xs), .d (.int many)] h = _ from run_succ (D := d_is_row.df) rfl rfl]
  have hall := rowL (R (n + 1)) (is_whole n) many xs h hl
  cases hr : xs.all (inR many) with
  | true =>
    obtain ⟨ns, e2, e3⟩ := inR_ints hr
    have e4 := upsL (F := R (n + 1)) (ns := ns) (by rw [← ofInts_len, ← e3]; exact hl) (many := .int many) (w := none) (h := h)
    have res : rowOf many xs = incr ns := by simp only [rowOf, hr, e2, Bool.true_and]
    rw [res]
    subst e3
    refine step (fun s => fin h.length s = .ok (.d (.bool (incr ns))) h) (e1 := [some (.d (.tuple (ofInts ns))), some (.d (.int many)), none, none]) (h1 := h) ?_ (stepRt (fun s => fin h.length s = .ok (.d (.bool (incr ns))) h) (v := .d (.bool (incr ns))) (h1 := h) ?_ ?_)
    · simp only [d_is_row, Di.df, bvN, bvC, svE, svS, svPr, svSt, svFi, svRe, svRn, svRa, svTr, evV, evK, evG, evP, evS3, evCh, evNt, evBo, evFi, evTu, evLi, evCa, evMe, evsN, evsC, evbN, evbC, bindOk, toSOk, thenNx, thenRt, thenEx, ttB, snaps, snap, mkR, Mn.fresh, setT, datas, pars, meD, stD, itV, itD, List.getElem?_cons_zero, List.getElem?_cons_succ, List.getElem?_nil, List.set_cons_zero, List.set_cons_succ, Option.map_some, Option.map_none, Bool.false_eq_true, if_false, if_true, List.length_cons, List.length_nil, Nat.zero_add, Nat.reduceAdd, List.map_cons, List.map_nil, eq_self, decide_true, decide_false, Bool.not_true, Bool.not_false, beq_self_eq_true, Int.reduceToNat, List.replicate_succ, List.replicate_zero, List.cons_append, List.nil_append, pf_isi, tyT, hall, pf_allP, hr, tf, ft]
    · simp only [svRe, evP, evsC, evsN, e4, bindOk, snaps, snap, pf_allP, upsV, mkR, Bool.false_eq_true, if_false, toSOk]
    · simp only [fin, List.take_length]
  | false =>
    have res : rowOf many xs = false := by simp only [rowOf, hr, Bool.false_and]
    rw [res]
    simp only [d_is_row, Di.df, b_is_row, bvN, bvC, svE, svS, svPr, svSt, svFi, svRe, svRn, svRa, svTr, evV, evK, evG, evP, evS3, evCh, evNt, evBo, evFi, evTu, evLi, evCa, evMe, evsN, evsC, evbN, evbC, bindOk, toSOk, thenNx, thenRt, thenEx, ttB, snaps, snap, mkR, Mn.fresh, setT, datas, pars, meD, stD, itV, itD, List.getElem?_cons_zero, List.getElem?_cons_succ, List.getElem?_nil, List.set_cons_zero, List.set_cons_succ, Option.map_some, Option.map_none, Bool.false_eq_true, if_false, if_true, List.length_cons, List.length_nil, Nat.zero_add, Nat.reduceAdd, List.map_cons, List.map_nil, eq_self, decide_true, decide_false, Bool.not_true, Bool.not_false, beq_self_eq_true, Int.reduceToNat, List.replicate_succ, List.replicate_zero, List.cons_append, List.nil_append, pf_isi, tyT, hall, pf_allP, hr, tf, ft, fin, List.take_length]
theorem is_row (n : Nat) (many : Int) (v : PyData) (h : MH) (hb : bd v = true) : R (n + 2) 1 [.d v, .d (.int many)] h = .ok (.d (.bool (isRow many v))) h := by
  cases v with
  | tuple xs => exact is_row1 n many xs h (bd_tup hb).1
  | _ => exact is_row0 n many _ h (by simp [isTy])
end K61

/-! elections -/
namespace K61
open PySem Mn
theorem el_cond (F : Nat → List Vl → MH → Rs Vl) (hF : ∀ x h, F 0 [.d x] h = .ok (.d (.bool (whole x))) h) (v a b c : PyData) (w : Option Vl) (h : MH) :
    ev F (.bo false (.c (.nt (.ca 0 (.c (.v 1) .n))) (.c (.nt (.ch .le .le (.k (.int 1)) (.v 1) (.g "MOST_CANDIDATES" (.int 30)))) (.c (.nt (.ca 0 (.c (.v 3) .n))) (.c (.nt (.ch .le .le (.k (.int 1)) (.v 3) (.v 1))) .n))))) [some (.d v), some (.d a), some (.d b), some (.d c), w] h = .ok (.d (.bool (!elC a c))) h := by
  simp only [bvN, bvC, svE, svS, svPr, svSt, svFi, svRe, svRn, svRa, svTr, evV, evK, evG, evP, evS3, evCh, evNt, evBo, evFi, evTu, evLi, evCa, evMe, evsN, evsC, evbN, evbC, bindOk, toSOk, thenNx, thenRt, thenEx, ttB, snaps, snap, mkR, Mn.fresh, setT, datas, pars, meD, stD, itV, itD, List.getElem?_cons_zero, List.getElem?_cons_succ, List.getElem?_nil, List.set_cons_zero, List.set_cons_succ, Option.map_some, Option.map_none, Bool.false_eq_true, if_false, if_true, List.length_cons, List.length_nil, Nat.zero_add, Nat.reduceAdd, List.map_cons, List.map_nil, eq_self, decide_true, decide_false, Bool.not_true, Bool.not_false, beq_self_eq_true, Int.reduceToNat, List.replicate_succ, List.replicate_zero, List.cons_append, List.nil_append, hF]
  cases a with
  | int m =>
    simp only [whole, bvN, bvC, svE, svS, svPr, svSt, svFi, svRe, svRn, svRa, svTr, evV, evK, evG, evP, evS3, evCh, evNt, evBo, evFi, evTu, evLi, evCa, evMe, evsN, evsC, evbN, evbC, bindOk, toSOk, thenNx, thenRt, thenEx, ttB, snaps, snap, mkR, Mn.fresh, setT, datas, pars, meD, stD, itV, itD, List.getElem?_cons_zero, List.getElem?_cons_succ, List.getElem?_nil, List.set_cons_zero, List.set_cons_succ, Option.map_some, Option.map_none, Bool.false_eq_true, if_false, if_true, List.length_cons, List.length_nil, Nat.zero_add, Nat.reduceAdd, List.map_cons, List.map_nil, eq_self, decide_true, decide_false, Bool.not_true, Bool.not_false, beq_self_eq_true, Int.reduceToNat, List.replicate_succ, List.replicate_zero, List.cons_append, List.nil_append, pf_leI, tf, ft]
    by_cases h1 : 1 ≤ m
    · simp only [h1, bvN, bvC, svE, svS, svPr, svSt, svFi, svRe, svRn, svRa, svTr, evV, evK, evG, evP, evS3, evCh, evNt, evBo, evFi, evTu, evLi, evCa, evMe, evsN, evsC, evbN, evbC, bindOk, toSOk, thenNx, thenRt, thenEx, ttB, snaps, snap, mkR, Mn.fresh, setT, datas, pars, meD, stD, itV, itD, List.getElem?_cons_zero, List.getElem?_cons_succ, List.getElem?_nil, List.set_cons_zero, List.set_cons_succ, Option.map_some, Option.map_none, Bool.false_eq_true, if_false, if_true, List.length_cons, List.length_nil, Nat.zero_add, Nat.reduceAdd, List.map_cons, List.map_nil, eq_self, decide_true, decide_false, Bool.not_true, Bool.not_false, beq_self_eq_true, Int.reduceToNat, List.replicate_succ, List.replicate_zero, List.cons_append, List.nil_append, tf, ft]
      by_cases h2 : m ≤ 30
      · simp only [h2, bvN, bvC, svE, svS, svPr, svSt, svFi, svRe, svRn, svRa, svTr, evV, evK, evG, evP, evS3, evCh, evNt, evBo, evFi, evTu, evLi, evCa, evMe, evsN, evsC, evbN, evbC, bindOk, toSOk, thenNx, thenRt, thenEx, ttB, snaps, snap, mkR, Mn.fresh, setT, datas, pars, meD, stD, itV, itD, List.getElem?_cons_zero, List.getElem?_cons_succ, List.getElem?_nil, List.set_cons_zero, List.set_cons_succ, Option.map_some, Option.map_none, Bool.false_eq_true, if_false, if_true, List.length_cons, List.length_nil, Nat.zero_add, Nat.reduceAdd, List.map_cons, List.map_nil, eq_self, decide_true, decide_false, Bool.not_true, Bool.not_false, beq_self_eq_true, Int.reduceToNat, List.replicate_succ, List.replicate_zero, List.cons_append, List.nil_append, tf, ft]
        cases c with
        | int s =>
          simp only [whole, bvN, bvC, svE, svS, svPr, svSt, svFi, svRe, svRn, svRa, svTr, evV, evK, evG, evP, evS3, evCh, evNt, evBo, evFi, evTu, evLi, evCa, evMe, evsN, evsC, evbN, evbC, bindOk, toSOk, thenNx, thenRt, thenEx, ttB, snaps, snap, mkR, Mn.fresh, setT, datas, pars, meD, stD, itV, itD, List.getElem?_cons_zero, List.getElem?_cons_succ, List.getElem?_nil, List.set_cons_zero, List.set_cons_succ, Option.map_some, Option.map_none, Bool.false_eq_true, if_false, if_true, List.length_cons, List.length_nil, Nat.zero_add, Nat.reduceAdd, List.map_cons, List.map_nil, eq_self, decide_true, decide_false, Bool.not_true, Bool.not_false, beq_self_eq_true, Int.reduceToNat, List.replicate_succ, List.replicate_zero, List.cons_append, List.nil_append, pf_leI, tf, ft]
          by_cases h3 : 1 ≤ s
          · simp only [h3, bvN, bvC, svE, svS, svPr, svSt, svFi, svRe, svRn, svRa, svTr, evV, evK, evG, evP, evS3, evCh, evNt, evBo, evFi, evTu, evLi, evCa, evMe, evsN, evsC, evbN, evbC, bindOk, toSOk, thenNx, thenRt, thenEx, ttB, snaps, snap, mkR, Mn.fresh, setT, datas, pars, meD, stD, itV, itD, List.getElem?_cons_zero, List.getElem?_cons_succ, List.getElem?_nil, List.set_cons_zero, List.set_cons_succ, Option.map_some, Option.map_none, Bool.false_eq_true, if_false, if_true, List.length_cons, List.length_nil, Nat.zero_add, Nat.reduceAdd, List.map_cons, List.map_nil, eq_self, decide_true, decide_false, Bool.not_true, Bool.not_false, beq_self_eq_true, Int.reduceToNat, List.replicate_succ, List.replicate_zero, List.cons_append, List.nil_append, pf_leI, tf, ft, elC, h1, h2]
            cases decide (s ≤ m) <;> rfl
          · simp only [h3, bvN, bvC, svE, svS, svPr, svSt, svFi, svRe, svRn, svRa, svTr, evV, evK, evG, evP, evS3, evCh, evNt, evBo, evFi, evTu, evLi, evCa, evMe, evsN, evsC, evbN, evbC, bindOk, toSOk, thenNx, thenRt, thenEx, ttB, snaps, snap, mkR, Mn.fresh, setT, datas, pars, meD, stD, itV, itD, List.getElem?_cons_zero, List.getElem?_cons_succ, List.getElem?_nil, List.set_cons_zero, List.set_cons_succ, Option.map_some, Option.map_none, Bool.false_eq_true, if_false, if_true, List.length_cons, List.length_nil, Nat.zero_add, Nat.reduceAdd, List.map_cons, List.map_nil, eq_self, decide_true, decide_false, Bool.not_true, Bool.not_false, beq_self_eq_true, Int.reduceToNat, List.replicate_succ, List.replicate_zero, List.cons_append, List.nil_append, pf_leI, tf, ft, elC, h1, h2]
            rfl
        | _ => simp only [whole, bvN, bvC, svE, svS, svPr, svSt, svFi, svRe, svRn, svRa, svTr, evV, evK, evG, evP, evS3, evCh, evNt, evBo, evFi, evTu, evLi, evCa, evMe, evsN, evsC, evbN, evbC, bindOk, toSOk, thenNx, thenRt, thenEx, ttB, snaps, snap, mkR, Mn.fresh, setT, datas, pars, meD, stD, itV, itD, List.getElem?_cons_zero, List.getElem?_cons_succ, List.getElem?_nil, List.set_cons_zero, List.set_cons_succ, Option.map_some, Option.map_none, Bool.false_eq_true, if_false, if_true, List.length_cons, List.length_nil, Nat.zero_add, Nat.reduceAdd, List.map_cons, List.map_nil, eq_self, decide_true, decide_false, Bool.not_true, Bool.not_false, beq_self_eq_true, Int.reduceToNat, List.replicate_succ, List.replicate_zero, List.cons_append, List.nil_append, tf, ft, elC]
      · simp only [h2, bvN, bvC, svE, svS, svPr, svSt, svFi, svRe, svRn, svRa, svTr, evV, evK, evG, evP, evS3, evCh, evNt, evBo, evFi, evTu, evLi, evCa, evMe, evsN, evsC, evbN, evbC, bindOk, toSOk, thenNx, thenRt, thenEx, ttB, snaps, snap, mkR, Mn.fresh, setT, datas, pars, meD, stD, itV, itD, List.getElem?_cons_zero, List.getElem?_cons_succ, List.getElem?_nil, List.set_cons_zero, List.set_cons_succ, Option.map_some, Option.map_none, Bool.false_eq_true, if_false, if_true, List.length_cons, List.length_nil, Nat.zero_add, Nat.reduceAdd, List.map_cons, List.map_nil, eq_self, decide_true, decide_false, Bool.not_true, Bool.not_false, beq_self_eq_true, Int.reduceToNat, List.replicate_succ, List.replicate_zero, List.cons_append, List.nil_append, tf, ft]
        cases c <;> simp [elC, h2]
    · simp only [h1, bvN, bvC, svE, svS, svPr, svSt, svFi, svRe, svRn, svRa, svTr, evV, evK, evG, evP, evS3, evCh, evNt, evBo, evFi, evTu, evLi, evCa, evMe, evsN, evsC, evbN, evbC, bindOk, toSOk, thenNx, thenRt, thenEx, ttB, snaps, snap, mkR, Mn.fresh, setT, datas, pars, meD, stD, itV, itD, List.getElem?_cons_zero, List.getElem?_cons_succ, List.getElem?_nil, List.set_cons_zero, List.set_cons_succ, Option.map_some, Option.map_none, Bool.false_eq_true, if_false, if_true, List.length_cons, List.length_nil, Nat.zero_add, Nat.reduceAdd, List.map_cons, List.map_nil, eq_self, decide_true, decide_false, Bool.not_true, Bool.not_false, beq_self_eq_true, Int.reduceToNat, List.replicate_succ, List.replicate_zero, List.cons_append, List.nil_append, tf, ft]
      cases c <;> simp [elC, h1]
  | _ => simp only [whole, bvN, bvC, svE, svS, svPr, svSt, svFi, svRe, svRn, svRa, svTr, evV, evK, evG, evP, evS3, evCh, evNt, evBo, evFi, evTu, evLi, evCa, evMe, evsN, evsC, evbN, evbC, bindOk, toSOk, thenNx, thenRt, thenEx, ttB, snaps, snap, mkR, Mn.fresh, setT, datas, pars, meD, stD, itV, itD, List.getElem?_cons_zero, List.getElem?_cons_succ, List.getElem?_nil, List.set_cons_zero, List.set_cons_succ, Option.map_some, Option.map_none, Bool.false_eq_true, if_false, if_true, List.length_cons, List.length_nil, Nat.zero_add, Nat.reduceAdd, List.map_cons, List.map_nil, eq_self, decide_true, decide_false, Bool.not_true, Bool.not_false, beq_self_eq_true, Int.reduceToNat, List.replicate_succ, List.replicate_zero, List.cons_append, List.nil_append, tf, ft, elC]
theorem balL (F : Nat → List Vl → MH → Rs Vl) (m : Int) (v c : PyData) (bs : List PyData) (h : MH) (hb : bd (.tuple bs) = true) (hF : ∀ x, bd x = true → F 1 [.d x, .d (.int m)] h = .ok (.d (.bool (isRow m x))) h) :
    ev F (.lc false (.ca 1 (.c (.v 4) (.c (.v 1) .n))) (.n 4) .sq (.c (.v 2) .n) .n) [some (.d v), some (.d (.int m)), some (.d (.tuple bs)), some (.d c), none] h = .ok (.d (.list (bs.map fun x => .bool (isRow m x)))) h :=
  lc_map (vs := [.d (.tuple bs)]) (E := fun x => [some (.d v), some (.d (.int m)), some (.d (.tuple bs)), some (.d c), some (.d x)]) (by simp only [bvN, bvC, svE, svS, svPr, svSt, svFi, svRe, svRn, svRa, svTr, evV, evK, evG, evP, evS3, evCh, evNt, evBo, evFi, evTu, evLi, evCa, evMe, evsN, evsC, evbN, evbC, bindOk, toSOk, thenNx, thenRt, thenEx, ttB, snaps, snap, mkR, Mn.fresh, setT, datas, pars, meD, stD, itV, itD, List.getElem?_cons_zero, List.getElem?_cons_succ, List.getElem?_nil, List.set_cons_zero, List.set_cons_succ, Option.map_some, Option.map_none, Bool.false_eq_true, if_false, if_true, List.length_cons, List.length_nil, Nat.zero_add, Nat.reduceAdd, List.map_cons, List.map_nil, eq_self, decide_true, decide_false, Bool.not_true, Bool.not_false, beq_self_eq_true, Int.reduceToNat, List.replicate_succ, List.replicate_zero, List.cons_append, List.nil_append]) (by simp only [itV, snaps, snap, itD, seqOf]) (lenU (bd_tup hb).1) rfl fun x hm => ⟨rfl, by
    simp only [bvN, bvC, svE, svS, svPr, svSt, svFi, svRe, svRn, svRa, svTr, evV, evK, evG, evP, evS3, evCh, evNt, evBo, evFi, evTu, evLi, evCa, evMe, evsN, evsC, evbN, evbC, bindOk, toSOk, thenNx, thenRt, thenEx, ttB, snaps, snap, mkR, Mn.fresh, setT, datas, pars, meD, stD, itV, itD, List.getElem?_cons_zero, List.getElem?_cons_succ, List.getElem?_nil, List.set_cons_zero, List.set_cons_succ, Option.map_some, Option.map_none, Bool.false_eq_true, if_false, if_true, List.length_cons, List.length_nil, Nat.zero_add, Nat.reduceAdd, List.map_cons, List.map_nil, eq_self, decide_true, decide_false, Bool.not_true, Bool.not_false, beq_self_eq_true, Int.reduceToNat, List.replicate_succ, List.replicate_zero, List.cons_append, List.nil_append, hF x (bdAll_mem (bd_tup hb).2 hm)]⟩
theorem pf_neLen (xs : List PyData) (k : Int) : pf .ne [.int xs.length, .int k] = some (.bool (!decide ((xs.length : Int) = k))) := pf_neI _ _
theorem is_election (n : Nat) (v : PyData) (h : MH) (hb : bd v = true) : R (n + 3) 2 [.d v] h = .ok (.d (.bool (isEl v))) h := by
  rw [show R (n+3) 2 [.d v] h = _ from run_succ (D := d_is_election.df) rfl rfl]
  have hno : ∀ {w : PyData}, isTy "tuple" w = false → fin h.length (bv 0 up (R (n + 2)) b_is_election [some (.d w), none, none, none, none] h) = .ok (.d (.bool false)) h := by
    intro w hw
    simp only [b_is_election, bvN, bvC, svE, svS, svPr, svSt, svFi, svRe, svRn, svRa, svTr, evV, evK, evG, evP, evS3, evCh, evNt, evBo, evFi, evTu, evLi, evCa, evMe, evsN, evsC, evbN, evbC, bindOk, toSOk, thenNx, thenRt, thenEx, ttB, snaps, snap, mkR, Mn.fresh, setT, datas, pars, meD, stD, itV, itD, List.getElem?_cons_zero, List.getElem?_cons_succ, List.getElem?_nil, List.set_cons_zero, List.set_cons_succ, Option.map_some, Option.map_none, Bool.false_eq_true, if_false, if_true, List.length_cons, List.length_nil, Nat.zero_add, Nat.reduceAdd, List.map_cons, List.map_nil, eq_self, decide_true, decide_false, Bool.not_true, Bool.not_false, beq_self_eq_true, Int.reduceToNat, List.replicate_succ, List.replicate_zero, List.cons_append, List.nil_append, pf_isi, hw, tf, ft, fin, List.take_length]
  have hlen : ∀ {xs : List PyData}, ¬ (xs.length : Int) = 3 → fin h.length (bv 0 up (R (n + 2)) b_is_election [some (.d (.tuple xs)), none, none, none, none] h) = .ok (.d (.bool false)) h := by
    intro xs hx
    simp only [b_is_election, bvN, bvC, svE, svS, svPr, svSt, svFi, svRe, svRn, svRa, svTr, evV, evK, evG, evP, evS3, evCh, evNt, evBo, evFi, evTu, evLi, evCa, evMe, evsN, evsC, evbN, evbC, bindOk, toSOk, thenNx, thenRt, thenEx, ttB, snaps, snap, mkR, Mn.fresh, setT, datas, pars, meD, stD, itV, itD, List.getElem?_cons_zero, List.getElem?_cons_succ, List.getElem?_nil, List.set_cons_zero, List.set_cons_succ, Option.map_some, Option.map_none, Bool.false_eq_true, if_false, if_true, List.length_cons, List.length_nil, Nat.zero_add, Nat.reduceAdd, List.map_cons, List.map_nil, eq_self, decide_true, decide_false, Bool.not_true, Bool.not_false, beq_self_eq_true, Int.reduceToNat, List.replicate_succ, List.replicate_zero, List.cons_append, List.nil_append, pf_isi, tyT, pf_lenT, pf_neLen, hx, tf, ft, fin, List.take_length]
  show fin h.length (bv 0 up (R (n + 2)) b_is_election [some (.d v), none, none, none, none] h) = _
  cases v with
  | tuple xs =>
    match xs, hb with
    | [a, b, c], hb =>
      have hbs := bd_tup hb
      have h3 : pf .len [.tuple [a, b, c]] = some (.int 3) := rfl
      refine step (fun s => fin h.length s = _) (e1 := [some (.d (.tuple [a, b, c])), none, none, none, none]) (h1 := h) ?_ (step (fun s => fin h.length s = _) (e1 := [some (.d (.tuple [a, b, c])), some (.d a), some (.d b), some (.d c), none]) (h1 := h) ?_ ?_)
      · simp only [bvN, bvC, svE, svS, svPr, svSt, svFi, svRe, svRn, svRa, svTr, evV, evK, evG, evP, evS3, evCh, evNt, evBo, evFi, evTu, evLi, evCa, evMe, evsN, evsC, evbN, evbC, bindOk, toSOk, thenNx, thenRt, thenEx, ttB, snaps, snap, mkR, Mn.fresh, setT, datas, pars, meD, stD, itV, itD, List.getElem?_cons_zero, List.getElem?_cons_succ, List.getElem?_nil, List.set_cons_zero, List.set_cons_succ, Option.map_some, Option.map_none, Bool.false_eq_true, if_false, if_true, List.length_cons, List.length_nil, Nat.zero_add, Nat.reduceAdd, List.map_cons, List.map_nil, eq_self, decide_true, decide_false, Bool.not_true, Bool.not_false, beq_self_eq_true, Int.reduceToNat, List.replicate_succ, List.replicate_zero, List.cons_append, List.nil_append, pf_isi, tyT, h3, pf_neI, tf, ft]
      · simp only [bvN, bvC, svE, svS, svPr, svSt, svFi, svRe, svRn, svRa, svTr, evV, evK, evG, evP, evS3, evCh, evNt, evBo, evFi, evTu, evLi, evCa, evMe, evsN, evsC, evbN, evbC, bindOk, toSOk, thenNx, thenRt, thenEx, ttB, snaps, snap, mkR, Mn.fresh, setT, datas, pars, meD, stD, itV, itD, List.getElem?_cons_zero, List.getElem?_cons_succ, List.getElem?_nil, List.set_cons_zero, List.set_cons_succ, Option.map_some, Option.map_none, Bool.false_eq_true, if_false, if_true, List.length_cons, List.length_nil, Nat.zero_add, Nat.reduceAdd, List.map_cons, List.map_nil, eq_self, decide_true, decide_false, Bool.not_true, Bool.not_false, beq_self_eq_true, Int.reduceToNat, List.replicate_succ, List.replicate_zero, List.cons_append, List.nil_append]
      have cond := el_cond (R (n + 2)) (is_whole (n + 1)) (.tuple [a, b, c]) a b c none h
      cases hc : elC a c with
      | false =>
        rw [hc] at cond
        have res : isEl (.tuple [a, b, c]) = false := by cases b <;> simp [isEl, hc]
        rw [res]
        refine stepRt (fun s => fin h.length s = _) (v := .d (.bool false)) (h1 := h) ?_ ?_
        · simp only [svFi, cond, bvN, bvC, svE, svS, svPr, svSt, svFi, svRe, svRn, svRa, svTr, evV, evK, evG, evP, evS3, evCh, evNt, evBo, evFi, evTu, evLi, evCa, evMe, evsN, evsC, evbN, evbC, bindOk, toSOk, thenNx, thenRt, thenEx, ttB, snaps, snap, mkR, Mn.fresh, setT, datas, pars, meD, stD, itV, itD, List.getElem?_cons_zero, List.getElem?_cons_succ, List.getElem?_nil, List.set_cons_zero, List.set_cons_succ, Option.map_some, Option.map_none, Bool.false_eq_true, if_false, if_true, List.length_cons, List.length_nil, Nat.zero_add, Nat.reduceAdd, List.map_cons, List.map_nil, eq_self, decide_true, decide_false, Bool.not_true, Bool.not_false, beq_self_eq_true, Int.reduceToNat, List.replicate_succ, List.replicate_zero, List.cons_append, List.nil_append]
        · simp only [fin, List.take_length]
      | true =>
        rw [hc] at cond
        refine step (fun s => fin h.length s = _) (e1 := [some (.d (.tuple [a, b, c])), some (.d a), some (.d b), some (.d c), none]) (h1 := h) ?_ ?_
        · simp only [svFi, cond, bvN, bvC, svE, svS, svPr, svSt, svFi, svRe, svRn, svRa, svTr, evV, evK, evG, evP, evS3, evCh, evNt, evBo, evFi, evTu, evLi, evCa, evMe, evsN, evsC, evbN, evbC, bindOk, toSOk, thenNx, thenRt, thenEx, ttB, snaps, snap, mkR, Mn.fresh, setT, datas, pars, meD, stD, itV, itD, List.getElem?_cons_zero, List.getElem?_cons_succ, List.getElem?_nil, List.set_cons_zero, List.set_cons_succ, Option.map_some, Option.map_none, Bool.false_eq_true, if_false, if_true, List.length_cons, List.length_nil, Nat.zero_add, Nat.reduceAdd, List.map_cons, List.map_nil, eq_self, decide_true, decide_false, Bool.not_true, Bool.not_false, beq_self_eq_true, Int.reduceToNat, List.replicate_succ, List.replicate_zero, List.cons_append, List.nil_append]
        cases b with
        | tuple bs =>
          have hbb : bd (.tuple bs) = true := bdAll_mem hbs.2 (by simp)
          by_cases hl : 1 ≤ bs.length ∧ bs.length ≤ 60
          · have i1 : (1 : Int) ≤ (bs.length : Int) := by omega
            have i2 : (bs.length : Int) ≤ 60 := by omega
            obtain ⟨m, rfl⟩ : ∃ m, a = .int m := by cases a <;> simp [elC] at hc <;> exact ⟨_, rfl⟩
            have hall := balL (R (n + 2)) m (.tuple [.int m, .tuple bs, c]) c bs h hbb (fun x hx => is_row n m x h hx)
            have res : isEl (.tuple [.int m, .tuple bs, c]) = bs.all (isRow m) := by simp [isEl, hc, hl]
            rw [res]
            refine step (fun s => fin h.length s = _) (e1 := [some (.d (.tuple [.int m, .tuple bs, c])), some (.d (.int m)), some (.d (.tuple bs)), some (.d c), none]) (h1 := h) ?_ (stepRt (fun s => fin h.length s = _) (v := .d (.bool (bs.all (isRow m)))) (h1 := h) ?_ ?_)
            · simp only [bvN, bvC, svE, svS, svPr, svSt, svFi, svRe, svRn, svRa, svTr, evV, evK, evG, evP, evS3, evCh, evNt, evBo, evFi, evTu, evLi, evCa, evMe, evsN, evsC, evbN, evbC, bindOk, toSOk, thenNx, thenRt, thenEx, ttB, snaps, snap, mkR, Mn.fresh, setT, datas, pars, meD, stD, itV, itD, List.getElem?_cons_zero, List.getElem?_cons_succ, List.getElem?_nil, List.set_cons_zero, List.set_cons_succ, Option.map_some, Option.map_none, Bool.false_eq_true, if_false, if_true, List.length_cons, List.length_nil, Nat.zero_add, Nat.reduceAdd, List.map_cons, List.map_nil, eq_self, decide_true, decide_false, Bool.not_true, Bool.not_false, beq_self_eq_true, Int.reduceToNat, List.replicate_succ, List.replicate_zero, List.cons_append, List.nil_append, pf_isi, tyT, pf_lenT, pf_leI, i1, i2, tf, ft]
            · simp only [svRe, evP, evsC, evsN, hall, bindOk, snaps, snap, pf_allP, mkR, Bool.false_eq_true, if_false, toSOk]
            · simp only [fin, List.take_length]
          · have res : isEl (.tuple [a, .tuple bs, c]) = false := by
              have : (decide (1 ≤ bs.length) && decide (bs.length ≤ 60)) = false := by
                rw [← Bool.decide_and]; exact decide_eq_false hl
              simp only [isEl, this, Bool.and_false, Bool.false_and]
            rw [res]
            refine stepRt (fun s => fin h.length s = _) (v := .d (.bool false)) (h1 := h) ?_ ?_
            · by_cases i1 : (1 : Int) ≤ (bs.length : Int)
              · have i2 : ¬ (bs.length : Int) ≤ 60 := by omega
                simp only [bvN, bvC, svE, svS, svPr, svSt, svFi, svRe, svRn, svRa, svTr, evV, evK, evG, evP, evS3, evCh, evNt, evBo, evFi, evTu, evLi, evCa, evMe, evsN, evsC, evbN, evbC, bindOk, toSOk, thenNx, thenRt, thenEx, ttB, snaps, snap, mkR, Mn.fresh, setT, datas, pars, meD, stD, itV, itD, List.getElem?_cons_zero, List.getElem?_cons_succ, List.getElem?_nil, List.set_cons_zero, List.set_cons_succ, Option.map_some, Option.map_none, Bool.false_eq_true, if_false, if_true, List.length_cons, List.length_nil, Nat.zero_add, Nat.reduceAdd, List.map_cons, List.map_nil, eq_self, decide_true, decide_false, Bool.not_true, Bool.not_false, beq_self_eq_true, Int.reduceToNat, List.replicate_succ, List.replicate_zero, List.cons_append, List.nil_append, pf_isi, tyT, pf_lenT, pf_leI, i1, i2, tf, ft]
              · simp only [bvN, bvC, svE, svS, svPr, svSt, svFi, svRe, svRn, svRa, svTr, evV, evK, evG, evP, evS3, evCh, evNt, evBo, evFi, evTu, evLi, evCa, evMe, evsN, evsC, evbN, evbC, bindOk, toSOk, thenNx, thenRt, thenEx, ttB, snaps, snap, mkR, Mn.fresh, setT, datas, pars, meD, stD, itV, itD, List.getElem?_cons_zero, List.getElem?_cons_succ, List.getElem?_nil, List.set_cons_zero, List.set_cons_succ, Option.map_some, Option.map_none, Bool.false_eq_true, if_false, if_true, List.length_cons, List.length_nil, Nat.zero_add, Nat.reduceAdd, List.map_cons, List.map_nil, eq_self, decide_true, decide_false, Bool.not_true, Bool.not_false, beq_self_eq_true, Int.reduceToNat, List.replicate_succ, List.replicate_zero, List.cons_append, List.nil_append, pf_isi, tyT, pf_lenT, pf_leI, i1, tf, ft]
            · simp only [fin, List.take_length]
        | _ =>
          refine stepRt (fun s => fin h.length s = _) (v := .d (.bool false)) (h1 := h) ?_ ?_
          · simp only [bvN, bvC, svE, svS, svPr, svSt, svFi, svRe, svRn, svRa, svTr, evV, evK, evG, evP, evS3, evCh, evNt, evBo, evFi, evTu, evLi, evCa, evMe, evsN, evsC, evbN, evbC, bindOk, toSOk, thenNx, thenRt, thenEx, ttB, snaps, snap, mkR, Mn.fresh, setT, datas, pars, meD, stD, itV, itD, List.getElem?_cons_zero, List.getElem?_cons_succ, List.getElem?_nil, List.set_cons_zero, List.set_cons_succ, Option.map_some, Option.map_none, Bool.false_eq_true, if_false, if_true, List.length_cons, List.length_nil, Nat.zero_add, Nat.reduceAdd, List.map_cons, List.map_nil, eq_self, decide_true, decide_false, Bool.not_true, Bool.not_false, beq_self_eq_true, Int.reduceToNat, List.replicate_succ, List.replicate_zero, List.cons_append, List.nil_append, pf_isi, show isTy "tuple" PyData.none = false by simp [isTy], show ∀ y, isTy "tuple" (PyData.bool y) = false by simp [isTy], show ∀ y, isTy "tuple" (PyData.int y) = false by simp [isTy], show ∀ y, isTy "tuple" (PyData.str y) = false by simp [isTy], show ∀ y, isTy "tuple" (PyData.list y) = false by simp [isTy], show ∀ y, isTy "tuple" (PyData.dict y) = false by simp [isTy], tf, ft]
          · simp only [fin, List.take_length, isEl]
    | [], _ => exact hlen (xs := []) (by decide)
    | [a], _ => exact hlen (xs := [a]) (by show ¬ (1 : Int) = 3; decide)
    | [a, b], _ => rw [show isEl (.tuple [a, b]) = false by simp [isEl]]; exact hlen (xs := [a, b]) (by show ¬ (2 : Int) = 3; decide)
    | a :: b :: c :: d :: r, _ => rw [show isEl (.tuple (a :: b :: c :: d :: r)) = false by simp [isEl]]; exact hlen (xs := a :: b :: c :: d :: r) (by simp only [List.length_cons]; omega)
  | _ => exact hno (by simp [isTy])
theorem check_election (n : Nat) (v : PyData) (h : MH) (hb : bd v = true) : R (n + 4) 3 [.d v] h = if isEl v = true then .ok (.d .none) h else .ex 0 (.str "no election") h := by
  rw [show R (n+4) 3 [.d v] h = _ from run_succ (D := d_check_election.df) rfl rfl]
  show fin h.length (bv 0 up (R (n + 3)) b_check_election [some (.d v)] h) = _
  have e := fun h => is_election n v h hb
  cases ho : isEl v with
  | true =>
    rw [if_pos rfl]
    simp only [b_check_election, bvN, bvC, svE, svS, svPr, svSt, svFi, svRe, svRn, svRa, svTr, evV, evK, evG, evP, evS3, evCh, evNt, evBo, evFi, evTu, evLi, evCa, evMe, evsN, evsC, evbN, evbC, bindOk, toSOk, thenNx, thenRt, thenEx, ttB, snaps, snap, mkR, Mn.fresh, setT, datas, pars, meD, stD, itV, itD, List.getElem?_cons_zero, List.getElem?_cons_succ, List.getElem?_nil, List.set_cons_zero, List.set_cons_succ, Option.map_some, Option.map_none, Bool.false_eq_true, if_false, if_true, List.length_cons, List.length_nil, Nat.zero_add, Nat.reduceAdd, List.map_cons, List.map_nil, eq_self, decide_true, decide_false, Bool.not_true, Bool.not_false, beq_self_eq_true, Int.reduceToNat, List.replicate_succ, List.replicate_zero, List.cons_append, List.nil_append, e, ho, fin, List.take_length]
  | false =>
    rw [if_neg Bool.false_ne_true]
    have ra : ∀ x : PyData, raOk false x = true := fun x => by cases x <;> rfl
    simp only [b_check_election, bvN, bvC, svE, svS, svPr, svSt, svFi, svRe, svRn, svRa, svTr, evV, evK, evG, evP, evS3, evCh, evNt, evBo, evFi, evTu, evLi, evCa, evMe, evsN, evsC, evbN, evbC, bindOk, toSOk, thenNx, thenRt, thenEx, ttB, snaps, snap, mkR, Mn.fresh, setT, datas, pars, meD, stD, itV, itD, List.getElem?_cons_zero, List.getElem?_cons_succ, List.getElem?_nil, List.set_cons_zero, List.set_cons_succ, Option.map_some, Option.map_none, Bool.false_eq_true, if_false, if_true, List.length_cons, List.length_nil, Nat.zero_add, Nat.reduceAdd, List.map_cons, List.map_nil, eq_self, decide_true, decide_false, Bool.not_true, Bool.not_false, beq_self_eq_true, Int.reduceToNat, List.replicate_succ, List.replicate_zero, List.cons_append, List.nil_append, e, ho, ra, finX, List.take_length]
end K61

/-! drawn elections -/
namespace K61
open PySem Mn
theorem law_turned (n : Nat) (b : List Int) (c : Int) (h : MH) (hb : b.length ≤ 900) : R (n + 1) 16 [.d (.tuple (ofInts b)), .d (.int c)] h = .ok (.d (.tuple (ofInts (turnB b c)))) h := by
  have l1 := List.length_filter_le (fun x => !decide (x = c)) b
  unfold turnB
  cases hm : mem b c <;> simp (disch := (first | exact dv_nn _ _ | (exact dv_lt _ (by omega)) | ((try simp only [ofInts_len, ofRows_len, rngI_len, List.length_append, List.length_cons, List.length_nil, List.length_map, isort_len]); omega))) only [s__law_turned, b__law_turned, hm, bvN, bvC, svE, svS, svPr, svSt, svIf, svRe, svRn, svRa, svTr, evV, evK, evG, evP, evS3, evCh, evNt, evBo, evFi, evTu, evLi, evCa, evMe, evLc, evsN, evsC, evbN, evbC, bindOk, toSOk, thenNx, thenRt, thenEx, ttB, snaps, snap, mkR, Mn.fresh, setT, datas, pars, meD, stD, itV, itD, seqOf, List.getElem?_cons_zero, List.getElem?_cons_succ, List.getElem?_nil, List.set_cons_zero, List.set_cons_succ, Option.map_some, Option.map_none, Bool.false_eq_true, if_false, if_true, List.length_cons, List.length_nil, Nat.zero_add, Nat.reduceAdd, List.map_cons, List.map_nil, eq_self, decide_true, decide_false, Bool.not_true, Bool.not_false, beq_self_eq_true, Int.reduceToNat, List.replicate_succ, List.replicate_zero, List.cons_append, List.nil_append, brcB, brcX, brcIte, thenIte, finIte, toSIte, bindIte, finRt, finNx, finX, toSX, bindX, evl_eq, calmOk, lim0, lim1, lim2, lim3, lim4, lim_map, lim_ints, mapA_map, mapA_ints, mapA_pure, mapA_ite, same_d, same_s, same_n, andC, orC, ints_map, ints_id, ints_int, List.take_length, tf, ft, Tg.slots, wpE, Int.cast_ofNat_Int, Int.reduceEq, Int.reduceLT, Int.reduceLE, Nat.reduceLT, Nat.reduceLeDiff, Bool.and_true, Bool.true_and, Bool.false_and, Bool.and_false, Bool.or_true, Bool.true_or, Bool.or_false, Bool.false_or, ofInts_snoc, List.append_nil, isort_len, pf_add, pf_sub, pf_eqI, pf_neI, pf_ltI, pf_gtI, pf_leI, pf_geI, pf_lenL, pf_lenT, pf_int, pf_abs, pf_neg, pf_min, pf_max, ix0T, ix1T, ix2T, ix3T, ix0L, ix1L, ix2L, rngD_I, List.take_succ_cons, last_get, last_set, take_app, mid_get, mid_set, mid_get1, mid_set1, app_app1, lim_rows, ofRows_snoc, List.append_assoc, Int.zero_add, pf_in, pf_nin, pf_inL, pf_ninL, pf_eqRow, pf_neRow, pf_eqRows, pf_eqInts, pf_sumI, pf_tupT, pf_lst, pf_lstL, pf_rev, pf_isN, pf_notN, isNone, pf_isB, pf_notB, slT_T, slT_L, slF_T, slF_L, slT_last, ofInts_take, ofInts_drop, ofRows_take, ofRows_drop, pf_tupL, pf_srtT, pf_srtL, pf_addT, pf_addL, ofInts_len, ofRows_len, ofInts_app, pf_allP, pf_anyP, raF]
/-- a draw's list -/
theorem take_all (d : Dr) (many : Int) : ∃ q : Int × Dr, 0 ≤ q.1 ∧ (1 ≤ many → q.1 < many) ∧ (1 ≤ many → many < 1073741824 → ∀ (n : Nat) (t : MH), R (n + 1) 15 [.r 0, .d (.int many)] (d.mo :: t) = .ok (.d (.int q.1)) (q.2.mo :: t)) := by
  by_cases h1 : 1 ≤ many
  · by_cases h2 : many < 1073741824
    · obtain ⟨v, m', a1, a2, a3, a4⟩ := take d.ds h1 h2
      obtain ⟨d', rfl⟩ := a3.dr
      exact ⟨(v, d'), a1, fun _ => a2, fun _ _ => a4⟩
    · exact ⟨(0, d), Int.le_refl _, fun _ => by show (0 : Int) < many; omega, fun _ q => absurd q h2⟩
  · exact ⟨(0, d), Int.le_refl _, fun q => absurd q h1, fun q => absurd q h1⟩
/-- the number that is drawn, and the draw behind it -/
noncomputable def dv (d : Dr) (many : Int) : Int := (Classical.choose (take_all d many)).1
noncomputable def dx (d : Dr) (many : Int) : Dr := (Classical.choose (take_all d many)).2
theorem dv_nn (d : Dr) (many : Int) : 0 ≤ dv d many := (Classical.choose_spec (take_all d many)).1
theorem dv_lt (d : Dr) {many : Int} (h : 1 ≤ many) : dv d many < many := (Classical.choose_spec (take_all d many)).2.1 h
theorem draw (n : Nat) (d : Dr) (t : MH) (many : Int) (h1 : 1 ≤ many) (h2 : many < 1073741824) : R (n + 1) 15 [.r 0, .d (.int many)] (d.mo :: t) = .ok (.d (.int (dv d many))) ((dx d many).mo :: t) :=
  (Classical.choose_spec (take_all d many)).2.2 h1 h2 n t
theorem law_draw (n : Nat) (ns : List Int) (hn : ns.length ≤ 63) : ∃ d : Dr, R (n + 1) 14 [.s ns] [] = .ok (.r 0) [d.mo] := by
  have key := forR_fold (ok := fun h' => same [] h' [.s ns]) (t := .n 2) (xs := ns) (f := bv WW up (R n) o__law_draw_0)
    .int (fun s : Int × Option Vl => [some (.s ns), some (.d (.int s.1)), s.2]) (fun _ => []) (fun s x => ((s.1 * 48271 + (if x < 0 then -x else x) % 65521 + 1) % 2147483647, some (.d (.int x)))) (fun _ => rfl) (s := (7, none)) (fun s x _ => ⟨_, rfl, by
      simp (disch := (first | exact dv_nn _ _ | (exact dv_lt _ (by omega)) | ((try simp only [ofInts_len, ofRows_len, rngI_len, List.length_append, List.length_cons, List.length_nil, List.length_map, isort_len]); omega))) only [pf_mod _ _ (show (0 : Int) < 65521 by decide), pf_mod _ _ (show (0 : Int) < 2147483647 by decide), pf_mul _ 48271 (by decide), bvN, bvC, svE, svS, svPr, svSt, svIf, svRe, svRn, svRa, svTr, evV, evK, evG, evP, evS3, evCh, evNt, evBo, evFi, evTu, evLi, evCa, evMe, evLc, evsN, evsC, evbN, evbC, bindOk, toSOk, thenNx, thenRt, thenEx, ttB, snaps, snap, mkR, Mn.fresh, setT, datas, pars, meD, stD, itV, itD, seqOf, List.getElem?_cons_zero, List.getElem?_cons_succ, List.getElem?_nil, List.set_cons_zero, List.set_cons_succ, Option.map_some, Option.map_none, Bool.false_eq_true, if_false, if_true, List.length_cons, List.length_nil, Nat.zero_add, Nat.reduceAdd, List.map_cons, List.map_nil, eq_self, decide_true, decide_false, Bool.not_true, Bool.not_false, beq_self_eq_true, Int.reduceToNat, List.replicate_succ, List.replicate_zero, List.cons_append, List.nil_append, brcB, brcX, brcIte, thenIte, finIte, toSIte, bindIte, finRt, finNx, finX, toSX, bindX, evl_eq, calmOk, lim0, lim1, lim2, lim3, lim4, lim_map, lim_ints, mapA_map, mapA_ints, mapA_pure, mapA_ite, same_d, same_s, same_n, andC, orC, ints_map, ints_id, ints_int, List.take_length, tf, ft, Tg.slots, wpE, Int.cast_ofNat_Int, Int.reduceEq, Int.reduceLT, Int.reduceLE, Nat.reduceLT, Nat.reduceLeDiff, Bool.and_true, Bool.true_and, Bool.false_and, Bool.and_false, Bool.or_true, Bool.true_or, Bool.or_false, Bool.false_or, ofInts_snoc, List.append_nil, isort_len, pf_add, pf_sub, pf_eqI, pf_neI, pf_ltI, pf_gtI, pf_leI, pf_geI, pf_lenL, pf_lenT, pf_int, pf_abs, pf_neg, pf_min, pf_max, ix0T, ix1T, ix2T, ix3T, ix0L, ix1L, ix2L, rngD_I, List.take_succ_cons, last_get, last_set, take_app, mid_get, mid_set, mid_get1, mid_set1, app_app1, lim_rows, ofRows_snoc, List.append_assoc, Int.zero_add, pf_in, pf_nin, pf_inL, pf_ninL, pf_eqRow, pf_neRow, pf_eqRows, pf_eqInts, pf_sumI, pf_tupT, pf_lst, pf_lstL, pf_rev, pf_isN, pf_notN, isNone, pf_isB, pf_notB, slT_T, slT_L, slF_T, slF_L, slT_last, ofInts_take, ofInts_drop, ofRows_take, ofRows_drop, pf_tupL, pf_srtT, pf_srtL, pf_addT, pf_addL, ofInts_len, ofRows_len, ofInts_app, pf_allP, pf_anyP, raF]⟩)
  have s0 : ∀ (l : List Int) (s : Int × Option Vl), 0 ≤ s.1 → 0 ≤ (l.foldl (fun (s : Int × Option Vl) x => ((s.1 * 48271 + (if x < 0 then -x else x) % 65521 + 1) % 2147483647, some (Vl.d (.int x)))) s).1 := by
    intro l
    induction l with
    | nil => intro s h; exact h
    | cons a l ih => intro s h; exact ih _ (Int.emod_nonneg _ (by decide))
  have s1 := s0 ns (7, none) (by decide)
  generalize ns.foldl (fun (s : Int × Option Vl) x => ((s.1 * 48271 + (if x < 0 then -x else x) % 65521 + 1) % 2147483647, some (Vl.d (.int x)))) (7, none) = q at key s1
  refine ⟨⟨ns.map fun x => if x < 0 then -x else x, -1, 0, q.1, fun c hc => ?_, by omega, by omega, s1⟩, ?_⟩
  · obtain ⟨x, _, rfl⟩ := List.mem_map.mp hc
    split <;> omega
  have hfo : sv WW up (R n) l__law_draw_0 [some (.s ns), some (.d (.int 7)), none] [] = _ := (svFo_eq (vs := [.s ns]) (by simp (disch := (first | exact dv_nn _ _ | (exact dv_lt _ (by omega)) | ((try simp only [ofInts_len, ofRows_len, rngI_len, List.length_append, List.length_cons, List.length_nil, List.length_map, isort_len]); omega))) only [bvN, bvC, svE, svS, svPr, svSt, svIf, svRe, svRn, svRa, svTr, evV, evK, evG, evP, evS3, evCh, evNt, evBo, evFi, evTu, evLi, evCa, evMe, evLc, evsN, evsC, evbN, evbC, bindOk, toSOk, thenNx, thenRt, thenEx, ttB, snaps, snap, mkR, Mn.fresh, setT, datas, pars, meD, stD, itV, itD, seqOf, List.getElem?_cons_zero, List.getElem?_cons_succ, List.getElem?_nil, List.set_cons_zero, List.set_cons_succ, Option.map_some, Option.map_none, Bool.false_eq_true, if_false, if_true, List.length_cons, List.length_nil, Nat.zero_add, Nat.reduceAdd, List.map_cons, List.map_nil, eq_self, decide_true, decide_false, Bool.not_true, Bool.not_false, beq_self_eq_true, Int.reduceToNat, List.replicate_succ, List.replicate_zero, List.cons_append, List.nil_append, brcB, brcX, brcIte, thenIte, finIte, toSIte, bindIte, finRt, finNx, finX, toSX, bindX, evl_eq, calmOk, lim0, lim1, lim2, lim3, lim4, lim_map, lim_ints, mapA_map, mapA_ints, mapA_pure, mapA_ite, same_d, same_s, same_n, andC, orC, ints_map, ints_id, ints_int, List.take_length, tf, ft, Tg.slots, wpE, Int.cast_ofNat_Int, Int.reduceEq, Int.reduceLT, Int.reduceLE, Nat.reduceLT, Nat.reduceLeDiff, Bool.and_true, Bool.true_and, Bool.false_and, Bool.and_false, Bool.or_true, Bool.true_or, Bool.or_false, Bool.false_or, ofInts_snoc, List.append_nil, isort_len, pf_add, pf_sub, pf_eqI, pf_neI, pf_ltI, pf_gtI, pf_leI, pf_geI, pf_lenL, pf_lenT, pf_int, pf_abs, pf_neg, pf_min, pf_max, ix0T, ix1T, ix2T, ix3T, ix0L, ix1L, ix2L, rngD_I, List.take_succ_cons, last_get, last_set, take_app, mid_get, mid_set, mid_get1, mid_set1, app_app1, lim_rows, ofRows_snoc, List.append_assoc, Int.zero_add, pf_in, pf_nin, pf_inL, pf_ninL, pf_eqRow, pf_neRow, pf_eqRows, pf_eqInts, pf_sumI, pf_tupT, pf_lst, pf_lstL, pf_rev, pf_isN, pf_notN, isNone, pf_isB, pf_notB, slT_T, slT_L, slF_T, slF_L, slT_last, ofInts_take, ofInts_drop, ofRows_take, ofRows_drop, pf_tupL, pf_srtT, pf_srtL, pf_addT, pf_addL, ofInts_len, ofRows_len, ofInts_app, pf_allP, pf_anyP, raF]) rfl).trans key
  simp (disch := (first | exact dv_nn _ _ | (exact dv_lt _ (by omega)) | ((try simp only [ofInts_len, ofRows_len, rngI_len, List.length_append, List.length_cons, List.length_nil, List.length_map, isort_len]); omega))) only [s__law_draw, b__law_draw, q__law_draw_0, hfo, ints_abs, Dr.mo, dM, fin, pf, List.length_append, bvN, bvC, svE, svS, svPr, svSt, svIf, svRe, svRn, svRa, svTr, evV, evK, evG, evP, evS3, evCh, evNt, evBo, evFi, evTu, evLi, evCa, evMe, evLc, evsN, evsC, evbN, evbC, bindOk, toSOk, thenNx, thenRt, thenEx, ttB, snaps, snap, mkR, Mn.fresh, setT, datas, pars, meD, stD, itV, itD, seqOf, List.getElem?_cons_zero, List.getElem?_cons_succ, List.getElem?_nil, List.set_cons_zero, List.set_cons_succ, Option.map_some, Option.map_none, Bool.false_eq_true, if_false, if_true, List.length_cons, List.length_nil, Nat.zero_add, Nat.reduceAdd, List.map_cons, List.map_nil, eq_self, decide_true, decide_false, Bool.not_true, Bool.not_false, beq_self_eq_true, Int.reduceToNat, List.replicate_succ, List.replicate_zero, List.cons_append, List.nil_append, brcB, brcX, brcIte, thenIte, finIte, toSIte, bindIte, finRt, finNx, finX, toSX, bindX, evl_eq, calmOk, lim0, lim1, lim2, lim3, lim4, lim_map, lim_ints, mapA_map, mapA_ints, mapA_pure, mapA_ite, same_d, same_s, same_n, andC, orC, ints_map, ints_id, ints_int, List.take_length, tf, ft, Tg.slots, wpE, Int.cast_ofNat_Int, Int.reduceEq, Int.reduceLT, Int.reduceLE, Nat.reduceLT, Nat.reduceLeDiff, Bool.and_true, Bool.true_and, Bool.false_and, Bool.and_false, Bool.or_true, Bool.true_or, Bool.or_false, Bool.false_or, ofInts_snoc, List.append_nil, isort_len, pf_add, pf_sub, pf_eqI, pf_neI, pf_ltI, pf_gtI, pf_leI, pf_geI, pf_lenL, pf_lenT, pf_int, pf_abs, pf_neg, pf_min, pf_max, ix0T, ix1T, ix2T, ix3T, ix0L, ix1L, ix2L, rngD_I, List.take_succ_cons, last_get, last_set, take_app, mid_get, mid_set, mid_get1, mid_set1, app_app1, lim_rows, ofRows_snoc, List.append_assoc, Int.zero_add, pf_in, pf_nin, pf_inL, pf_ninL, pf_eqRow, pf_neRow, pf_eqRows, pf_eqInts, pf_sumI, pf_tupT, pf_lst, pf_lstL, pf_rev, pf_isN, pf_notN, isNone, pf_isB, pf_notB, slT_T, slT_L, slF_T, slF_L, slT_last, ofInts_take, ofInts_drop, ofRows_take, ofRows_drop, pf_tupL, pf_srtT, pf_srtL, pf_addT, pf_addL, ofInts_len, ofRows_len, ofInts_app, pf_allP, pf_anyP, raF]
/-- some of a range, by draws -/
theorem dr_fil (n : Nat) {F : Nat → List Vl → MH → Rs Vl} (hF : F = R (n + 1)) {k dr : Nat} {w : Int} {e : Ev} {d : Dr} {t : MH} {L : List Int} {es : Cds} {kd : Ik} {vs : List Vl} (hes : evs F es e (d.mo :: t) = .ok vs (d.mo :: t)) (hit : itV (d.mo :: t) kd vs = some (ofInts L))
    (hs : ∀ h h', same h h' vs = true) (hd : e[dr]? = some (some (.r 0))) (hk : k < e.length) (kd' : k ≠ dr) (hL : L.length ≤ 1000) (w1 : 1 ≤ w) (w2 : w < 1073741824) :
    ∃ (xs : List Int) (d' : Dr), ev F (.lc false (.v k) (.n k) kd es (.c (.p false .eq (.c (.ca 15 (.c (.v dr) (.c (.k (.int w)) .n))) (.c (.k (.int 0)) .n))) .n)) e (d.mo :: t) = .ok (.d (.list (ofInts xs))) (d'.mo :: t) ∧ xs.Sublist L := by
  obtain ⟨xs, d', h1, h2⟩ := mapA_dr (ok := fun h' => same (d.mo :: t) h' vs) (t := t) (L := L) (d := d) (f := fun x => evl (ev F (.v k)) (evb F true (.c (.p false .eq (.c (.ca 15 (.c (.v dr) (.c (.k (.int w)) .n))) (.c (.k (.int 0)) .n))) .n)) (.n k) e (.int x)) (fun _ => hs _ _) (fun x hx d => by
    refine ⟨decide (dv d w = 0), dx d w, ?_⟩
    subst hF
    have e1 : (e.set k (some (.d (.int x))))[k]? = some (some (.d (.int x))) := List.getElem?_set_self hk
    have e2 : (e.set k (some (.d (.int x))))[dr]? = some (some (.r 0)) := by rw [List.getElem?_set_ne kd']; exact hd
    simp (disch := (first | exact dv_nn _ _ | (exact dv_lt _ (by omega)) | ((try simp only [ofInts_len, ofRows_len, rngI_len, List.length_append, List.length_cons, List.length_nil, List.length_map, isort_len]); omega))) only [draw, e1, e2, bvN, bvC, svE, svS, svPr, svSt, svIf, svRe, svRn, svRa, svTr, evV, evK, evG, evP, evS3, evCh, evNt, evBo, evFi, evTu, evLi, evCa, evMe, evLc, evsN, evsC, evbN, evbC, bindOk, toSOk, thenNx, thenRt, thenEx, ttB, snaps, snap, mkR, Mn.fresh, setT, datas, pars, meD, stD, itV, itD, seqOf, List.getElem?_cons_zero, List.getElem?_cons_succ, List.getElem?_nil, List.set_cons_zero, List.set_cons_succ, Option.map_some, Option.map_none, Bool.false_eq_true, if_false, if_true, List.length_cons, List.length_nil, Nat.zero_add, Nat.reduceAdd, List.map_cons, List.map_nil, eq_self, decide_true, decide_false, Bool.not_true, Bool.not_false, beq_self_eq_true, Int.reduceToNat, List.replicate_succ, List.replicate_zero, List.cons_append, List.nil_append, brcB, brcX, brcIte, thenIte, finIte, toSIte, bindIte, finRt, finNx, finX, toSX, bindX, evl_eq, calmOk, lim0, lim1, lim2, lim3, lim4, lim_map, lim_ints, mapA_map, mapA_ints, mapA_pure, mapA_ite, same_d, same_s, same_n, andC, orC, ints_map, ints_id, ints_int, List.take_length, tf, ft, Tg.slots, wpE, Int.cast_ofNat_Int, Int.reduceEq, Int.reduceLT, Int.reduceLE, Nat.reduceLT, Nat.reduceLeDiff, Bool.and_true, Bool.true_and, Bool.false_and, Bool.and_false, Bool.or_true, Bool.true_or, Bool.or_false, Bool.false_or, ofInts_snoc, List.append_nil, isort_len, pf_add, pf_sub, pf_eqI, pf_neI, pf_ltI, pf_gtI, pf_leI, pf_geI, pf_lenL, pf_lenT, pf_int, pf_abs, pf_neg, pf_min, pf_max, ix0T, ix1T, ix2T, ix3T, ix0L, ix1L, ix2L, rngD_I, List.take_succ_cons, last_get, last_set, take_app, mid_get, mid_set, mid_get1, mid_set1, app_app1, lim_rows, ofRows_snoc, List.append_assoc, Int.zero_add, pf_in, pf_nin, pf_inL, pf_ninL, pf_eqRow, pf_neRow, pf_eqRows, pf_eqInts, pf_sumI, pf_tupT, pf_lst, pf_lstL, pf_rev, pf_isN, pf_notN, isNone, pf_isB, pf_notB, slT_T, slT_L, slF_T, slF_L, slT_last, ofInts_take, ofInts_drop, ofRows_take, ofRows_drop, pf_tupL, pf_srtT, pf_srtL, pf_addT, pf_addL, ofInts_len, ofRows_len, ofInts_app, pf_allP, pf_anyP, raF])
  exact ⟨xs, d', lc_of (φ := .int) hes hit (by omega) h1, h2⟩
theorem law_election (n : Nat) (d : Dr) (t : MH) (many voters : Int) (h1 : 1 ≤ many) (h2 : many ≤ 30) (h3 : 1 ≤ voters) (h4 : voters ≤ 60) :
    ∃ (m : Int) (bs : List (List Int)) (s : Int) (d' : Dr), R (n + 2) 17 [.r 0, .d (.int many), .d (.int voters)] (d.mo :: t) = .ok (.d (elOf m bs s)) (d'.mo :: t) ∧ El many voters m bs s := by
  have q1 : ∀ (m : Int) (a1 a2 a3 a4 a5 a7 a8 a9 : Option Vl) (d : Dr) (t : MH), 1 ≤ m → m ≤ 30 → ∃ (xs : List Int) (d' : Dr), ev (R (n + 1)) q__law_election_0 [some (.r 0), a1, a2, a3, a4, a5, some (.d (.int m)), a7, a8, a9, none] (d.mo :: t) = .ok (.d (.list (ofInts xs))) (d'.mo :: t) ∧ xs.Sublist (rngI 0 m) := fun m a1 a2 a3 a4 a5 a7 a8 a9 d t m1 m2 =>
    dr_fil n rfl (L := rngI 0 m) (vs := [.d (.int m)]) (by simp (disch := (first | exact dv_nn _ _ | (exact dv_lt _ (by omega)) | ((try simp only [ofInts_len, ofRows_len, rngI_len, List.length_append, List.length_cons, List.length_nil, List.length_map, isort_len]); omega))) only [bvN, bvC, svE, svS, svPr, svSt, svIf, svRe, svRn, svRa, svTr, evV, evK, evG, evP, evS3, evCh, evNt, evBo, evFi, evTu, evLi, evCa, evMe, evLc, evsN, evsC, evbN, evbC, bindOk, toSOk, thenNx, thenRt, thenEx, ttB, snaps, snap, mkR, Mn.fresh, setT, datas, pars, meD, stD, itV, itD, seqOf, List.getElem?_cons_zero, List.getElem?_cons_succ, List.getElem?_nil, List.set_cons_zero, List.set_cons_succ, Option.map_some, Option.map_none, Bool.false_eq_true, if_false, if_true, List.length_cons, List.length_nil, Nat.zero_add, Nat.reduceAdd, List.map_cons, List.map_nil, eq_self, decide_true, decide_false, Bool.not_true, Bool.not_false, beq_self_eq_true, Int.reduceToNat, List.replicate_succ, List.replicate_zero, List.cons_append, List.nil_append, brcB, brcX, brcIte, thenIte, finIte, toSIte, bindIte, finRt, finNx, finX, toSX, bindX, evl_eq, calmOk, lim0, lim1, lim2, lim3, lim4, lim_map, lim_ints, mapA_map, mapA_ints, mapA_pure, mapA_ite, same_d, same_s, same_n, andC, orC, ints_map, ints_id, ints_int, List.take_length, tf, ft, Tg.slots, wpE, Int.cast_ofNat_Int, Int.reduceEq, Int.reduceLT, Int.reduceLE, Nat.reduceLT, Nat.reduceLeDiff, Bool.and_true, Bool.true_and, Bool.false_and, Bool.and_false, Bool.or_true, Bool.true_or, Bool.or_false, Bool.false_or, ofInts_snoc, List.append_nil, isort_len, pf_add, pf_sub, pf_eqI, pf_neI, pf_ltI, pf_gtI, pf_leI, pf_geI, pf_lenL, pf_lenT, pf_int, pf_abs, pf_neg, pf_min, pf_max, ix0T, ix1T, ix2T, ix3T, ix0L, ix1L, ix2L, rngD_I, List.take_succ_cons, last_get, last_set, take_app, mid_get, mid_set, mid_get1, mid_set1, app_app1, lim_rows, ofRows_snoc, List.append_assoc, Int.zero_add, pf_in, pf_nin, pf_inL, pf_ninL, pf_eqRow, pf_neRow, pf_eqRows, pf_eqInts, pf_sumI, pf_tupT, pf_lst, pf_lstL, pf_rev, pf_isN, pf_notN, isNone, pf_isB, pf_notB, slT_T, slT_L, slF_T, slF_L, slT_last, ofInts_take, ofInts_drop, ofRows_take, ofRows_drop, pf_tupL, pf_srtT, pf_srtL, pf_addT, pf_addL, ofInts_len, ofRows_len, ofInts_app, pf_allP, pf_anyP, raF]) (by rw [itV_r1 _ _ (by omega) (by omega)]) (fun _ _ => rfl) rfl (by show 10 < 11; decide) (by decide) (by rw [rngI_len]; omega) (by decide) (by decide)
  have q2 : ∀ (m : Int) (a1 a2 a3 a4 a5 a7 a8 : Option Vl) (d : Dr) (t : MH), 1 ≤ m → m ≤ 30 → ∃ (bs : List (List Int)) (d' : Dr), ev (R (n + 1)) q__law_election_1 [some (.r 0), a1, a2, a3, a4, a5, some (.d (.int m)), a7, a8, none, none] (d.mo :: t) = .ok (.d (.list (ofRows bs))) (d'.mo :: t) ∧ 1 ≤ bs.length ∧ bs.length ≤ 3 ∧ ∀ b ∈ bs, b.Sublist (rngI 0 m) := by
    intro m a1 a2 a3 a4 a5 a7 a8 d t m1 m2
    have z1 := dv_nn d 3
    have z2 := dv_lt d (many := 3) (by decide)
    obtain ⟨ys, d', e1, e2, e3⟩ := mapA_mk (ok := fun h' => same ((dx d 3).mo :: t) h' [.d (.int (1 + dv d 3))]) (t := t) (L := rngI 0 (1 + dv d 3)) (d := dx d 3) ofRow (fun b => b.Sublist (rngI 0 m))
      (f := fun y => evl (ev (R (n + 1)) (.p false .tup (.c q__law_election_0 .n))) (evb (R (n + 1)) true .n) (.n 9) [some (.r 0), a1, a2, a3, a4, a5, some (.d (.int m)), a7, a8, none, none] (.int y)) (fun _ => rfl) (fun x _ d => by
        obtain ⟨xs, d', w1, w2⟩ := q1 m a1 a2 a3 a4 a5 a7 a8 (some (.d (.int x))) d t m1 m2
        exact ⟨xs, d', by simp (disch := (first | exact dv_nn _ _ | (exact dv_lt _ (by omega)) | ((try simp only [ofInts_len, ofRows_len, rngI_len, List.length_append, List.length_cons, List.length_nil, List.length_map, isort_len]); omega))) only [w1, ofRow, bvN, bvC, svE, svS, svPr, svSt, svIf, svRe, svRn, svRa, svTr, evV, evK, evG, evP, evS3, evCh, evNt, evBo, evFi, evTu, evLi, evCa, evMe, evsN, evsC, evbN, evbC, bindOk, toSOk, thenNx, thenRt, thenEx, ttB, snaps, snap, mkR, Mn.fresh, setT, datas, pars, meD, stD, itV, itD, seqOf, List.getElem?_cons_zero, List.getElem?_cons_succ, List.getElem?_nil, List.set_cons_zero, List.set_cons_succ, Option.map_some, Option.map_none, Bool.false_eq_true, if_false, if_true, List.length_cons, List.length_nil, Nat.zero_add, Nat.reduceAdd, List.map_cons, List.map_nil, eq_self, decide_true, decide_false, Bool.not_true, Bool.not_false, beq_self_eq_true, Int.reduceToNat, List.replicate_succ, List.replicate_zero, List.cons_append, List.nil_append, brcB, brcX, brcIte, thenIte, finIte, toSIte, bindIte, finRt, finNx, finX, toSX, bindX, evl_eq, calmOk, lim0, lim1, lim2, lim3, lim4, lim_map, lim_ints, mapA_map, mapA_ints, mapA_pure, mapA_ite, same_d, same_s, same_n, andC, orC, ints_map, ints_id, ints_int, List.take_length, tf, ft, Tg.slots, wpE, Int.cast_ofNat_Int, Int.reduceEq, Int.reduceLT, Int.reduceLE, Nat.reduceLT, Nat.reduceLeDiff, Bool.and_true, Bool.true_and, Bool.false_and, Bool.and_false, Bool.or_true, Bool.true_or, Bool.or_false, Bool.false_or, ofInts_snoc, List.append_nil, isort_len, pf_add, pf_sub, pf_eqI, pf_neI, pf_ltI, pf_gtI, pf_leI, pf_geI, pf_lenL, pf_lenT, pf_int, pf_abs, pf_neg, pf_min, pf_max, ix0T, ix1T, ix2T, ix3T, ix0L, ix1L, ix2L, rngD_I, List.take_succ_cons, last_get, last_set, take_app, mid_get, mid_set, mid_get1, mid_set1, app_app1, lim_rows, ofRows_snoc, List.append_assoc, Int.zero_add, pf_in, pf_nin, pf_inL, pf_ninL, pf_eqRow, pf_neRow, pf_eqRows, pf_eqInts, pf_sumI, pf_tupT, pf_lst, pf_lstL, pf_rev, pf_isN, pf_notN, isNone, pf_isB, pf_notB, slT_T, slT_L, slF_T, slF_L, slT_last, ofInts_take, ofInts_drop, ofRows_take, ofRows_drop, pf_tupL, pf_srtT, pf_srtL, pf_addT, pf_addL, ofInts_len, ofRows_len, ofInts_app, pf_allP, pf_anyP, raF], w2⟩)
    rw [rngI_len] at e2
    exact ⟨ys, d', lc_of (φ := .int) (vs := [.d (.int (1 + dv d 3))]) (by simp (disch := (first | exact dv_nn _ _ | (exact dv_lt _ (by omega)) | ((try simp only [ofInts_len, ofRows_len, rngI_len, List.length_append, List.length_cons, List.length_nil, List.length_map, isort_len]); omega))) only [draw, bvN, bvC, svE, svS, svPr, svSt, svIf, svRe, svRn, svRa, svTr, evV, evK, evG, evP, evS3, evCh, evNt, evBo, evFi, evTu, evLi, evCa, evMe, evLc, evsN, evsC, evbN, evbC, bindOk, toSOk, thenNx, thenRt, thenEx, ttB, snaps, snap, mkR, Mn.fresh, setT, datas, pars, meD, stD, itV, itD, seqOf, List.getElem?_cons_zero, List.getElem?_cons_succ, List.getElem?_nil, List.set_cons_zero, List.set_cons_succ, Option.map_some, Option.map_none, Bool.false_eq_true, if_false, if_true, List.length_cons, List.length_nil, Nat.zero_add, Nat.reduceAdd, List.map_cons, List.map_nil, eq_self, decide_true, decide_false, Bool.not_true, Bool.not_false, beq_self_eq_true, Int.reduceToNat, List.replicate_succ, List.replicate_zero, List.cons_append, List.nil_append, brcB, brcX, brcIte, thenIte, finIte, toSIte, bindIte, finRt, finNx, finX, toSX, bindX, evl_eq, calmOk, lim0, lim1, lim2, lim3, lim4, lim_map, lim_ints, mapA_map, mapA_ints, mapA_pure, mapA_ite, same_d, same_s, same_n, andC, orC, ints_map, ints_id, ints_int, List.take_length, tf, ft, Tg.slots, wpE, Int.cast_ofNat_Int, Int.reduceEq, Int.reduceLT, Int.reduceLE, Nat.reduceLT, Nat.reduceLeDiff, Bool.and_true, Bool.true_and, Bool.false_and, Bool.and_false, Bool.or_true, Bool.true_or, Bool.or_false, Bool.false_or, ofInts_snoc, List.append_nil, isort_len, pf_add, pf_sub, pf_eqI, pf_neI, pf_ltI, pf_gtI, pf_leI, pf_geI, pf_lenL, pf_lenT, pf_int, pf_abs, pf_neg, pf_min, pf_max, ix0T, ix1T, ix2T, ix3T, ix0L, ix1L, ix2L, rngD_I, List.take_succ_cons, last_get, last_set, take_app, mid_get, mid_set, mid_get1, mid_set1, app_app1, lim_rows, ofRows_snoc, List.append_assoc, Int.zero_add, pf_in, pf_nin, pf_inL, pf_ninL, pf_eqRow, pf_neRow, pf_eqRows, pf_eqInts, pf_sumI, pf_tupT, pf_lst, pf_lstL, pf_rev, pf_isN, pf_notN, isNone, pf_isB, pf_notB, slT_T, slT_L, slF_T, slF_L, slT_last, ofInts_take, ofInts_drop, ofRows_take, ofRows_drop, pf_tupL, pf_srtT, pf_srtL, pf_addT, pf_addL, ofInts_len, ofRows_len, ofInts_app, pf_allP, pf_anyP, raF]) (by rw [itV_r1 _ _ (by omega) (by omega)]; rfl) (by rw [rngI_len]; omega) e1, by omega, by omega, e3⟩
  have z1 := dv_nn d many
  have z2 := dv_lt d (many := many) h1
  have y1 := dv_nn (dx d many) voters
  have y2 := dv_lt (dx d many) (many := voters) h3
  obtain ⟨bs, d1, w1, w2, w3, w4⟩ := q2 (1 + dv d many) (some (.d (.int many))) (some (.d (.int voters))) none none none (some (.d (.int (1 + dv (dx d many) voters)))) none (dx (dx d many) voters) t (by omega) (by omega)
  rw [s__law_election]
  simp (disch := (first | exact dv_nn _ _ | (exact dv_lt _ (by omega)) | ((try simp only [ofInts_len, ofRows_len, rngI_len, List.length_append, List.length_cons, List.length_nil, List.length_map, isort_len]); omega))) only [b__law_election, draw, w1, bvN, bvC, svE, svS, svPr, svSt, svIf, svRe, svRn, svRa, svTr, evV, evK, evG, evP, evS3, evCh, evNt, evBo, evFi, evTu, evLi, evCa, evMe, evsN, evsC, evbN, evbC, bindOk, toSOk, thenNx, thenRt, thenEx, ttB, snaps, snap, mkR, Mn.fresh, setT, datas, pars, meD, stD, itV, itD, seqOf, List.getElem?_cons_zero, List.getElem?_cons_succ, List.getElem?_nil, List.set_cons_zero, List.set_cons_succ, Option.map_some, Option.map_none, Bool.false_eq_true, if_false, if_true, List.length_cons, List.length_nil, Nat.zero_add, Nat.reduceAdd, List.map_cons, List.map_nil, eq_self, decide_true, decide_false, Bool.not_true, Bool.not_false, beq_self_eq_true, Int.reduceToNat, List.replicate_succ, List.replicate_zero, List.cons_append, List.nil_append, brcB, brcX, brcIte, thenIte, finIte, toSIte, bindIte, finRt, finNx, finX, toSX, bindX, evl_eq, calmOk, lim0, lim1, lim2, lim3, lim4, lim_map, lim_ints, mapA_map, mapA_ints, mapA_pure, mapA_ite, same_d, same_s, same_n, andC, orC, ints_map, ints_id, ints_int, List.take_length, tf, ft, Tg.slots, wpE, Int.cast_ofNat_Int, Int.reduceEq, Int.reduceLT, Int.reduceLE, Nat.reduceLT, Nat.reduceLeDiff, Bool.and_true, Bool.true_and, Bool.false_and, Bool.and_false, Bool.or_true, Bool.true_or, Bool.or_false, Bool.false_or, ofInts_snoc, List.append_nil, isort_len, pf_add, pf_sub, pf_eqI, pf_neI, pf_ltI, pf_gtI, pf_leI, pf_geI, pf_lenL, pf_lenT, pf_int, pf_abs, pf_neg, pf_min, pf_max, ix0T, ix1T, ix2T, ix3T, ix0L, ix1L, ix2L, rngD_I, List.take_succ_cons, last_get, last_set, take_app, mid_get, mid_set, mid_get1, mid_set1, app_app1, lim_rows, ofRows_snoc, List.append_assoc, Int.zero_add, pf_in, pf_nin, pf_inL, pf_ninL, pf_eqRow, pf_neRow, pf_eqRows, pf_eqInts, pf_sumI, pf_tupT, pf_lst, pf_lstL, pf_rev, pf_isN, pf_notN, isNone, pf_isB, pf_notB, slT_T, slT_L, slF_T, slF_L, slT_last, ofInts_take, ofInts_drop, ofRows_take, ofRows_drop, pf_tupL, pf_srtT, pf_srtL, pf_addT, pf_addL, ofInts_len, ofRows_len, ofInts_app, pf_allP, pf_anyP, raF]
  have m1 : 1 ≤ 1 + dv d many := by omega
  have m2 : 1 + dv d many ≤ many := by omega
  have n1 : 1 ≤ 1 + dv (dx d many) voters := by omega
  have n2 : 1 + dv (dx d many) voters ≤ voters := by omega
  generalize 1 + dv d many = m at *
  generalize 1 + dv (dx d many) voters = nv at *
  have key := forR_map (ok := fun h' => same (d1.mo :: (t ++ [.l []])) h' [.d (.int nv)]) (t := .n 5) (f := bv WW up (R (n + 1)) o__law_election_0) .int
    (fun i e h => ∃ (d : Dr) (bl : List (List Int)) (a5 a8 : Option Vl), e = [some (.r 0), some (.d (.int many)), some (.d (.int voters)), some (.d (.list (ofRows bs))), some (.r (t.length + 1)), a5, some (.d (.int m)), some (.d (.int nv)), a8, none, none] ∧ h = d.mo :: (t ++ [.l (ofRows bl)]) ∧ bl.length = i ∧ ∀ b ∈ bl, incr b = true ∧ ∀ i ∈ b, 0 ≤ i ∧ i < m)
    (xs := rngI 0 nv) (fun _ _ _ _ => rfl) (fun i x e h hx ⟨d, bl, a5, a8, q1, q2, q3, q4⟩ => by
      subst q1; subst q2
      refine ⟨_, rfl, ?_⟩
      have b1 : (1 : Int) ≤ bs.length := by omega
      have b2 : bl.length ≤ 100 := by
        have := (List.getElem?_eq_some_iff.mp hx).1
        rw [rngI_len] at this
        omega
      have mem := getD_mem (xs := bs) (dflt := []) (i := (dv d (bs.length : Int)).toNat) (by have := dv_lt d b1; have := dv_nn d (bs.length : Int); omega)
      have g := rng_row (w4 _ mem)
      have b3 := row_len g.1 g.2
      simp (disch := (first | exact dv_nn _ _ | (exact dv_lt _ (by omega)) | ((try simp only [ofInts_len, ofRows_len, rngI_len, List.length_append, List.length_cons, List.length_nil, List.length_map, isort_len]); omega))) only [o__law_election_0, draw, ixRows, law_turned, bvN, bvC, svE, svS, svPr, svSt, svIf, svRe, svRn, svRa, svTr, evV, evK, evG, evP, evS3, evCh, evNt, evBo, evFi, evTu, evLi, evCa, evMe, evsN, evsC, evbN, evbC, bindOk, toSOk, thenNx, thenRt, thenEx, ttB, snaps, snap, mkR, Mn.fresh, setT, datas, pars, meD, stD, itV, itD, seqOf, List.getElem?_cons_zero, List.getElem?_cons_succ, List.getElem?_nil, List.set_cons_zero, List.set_cons_succ, Option.map_some, Option.map_none, Bool.false_eq_true, if_false, if_true, List.length_cons, List.length_nil, Nat.zero_add, Nat.reduceAdd, List.map_cons, List.map_nil, eq_self, decide_true, decide_false, Bool.not_true, Bool.not_false, beq_self_eq_true, Int.reduceToNat, List.replicate_succ, List.replicate_zero, List.cons_append, List.nil_append, brcB, brcX, brcIte, thenIte, finIte, toSIte, bindIte, finRt, finNx, finX, toSX, bindX, evl_eq, calmOk, lim0, lim1, lim2, lim3, lim4, lim_map, lim_ints, mapA_map, mapA_ints, mapA_pure, mapA_ite, same_d, same_s, same_n, andC, orC, ints_map, ints_id, ints_int, List.take_length, tf, ft, Tg.slots, wpE, Int.cast_ofNat_Int, Int.reduceEq, Int.reduceLT, Int.reduceLE, Nat.reduceLT, Nat.reduceLeDiff, Bool.and_true, Bool.true_and, Bool.false_and, Bool.and_false, Bool.or_true, Bool.true_or, Bool.or_false, Bool.false_or, ofInts_snoc, List.append_nil, isort_len, pf_add, pf_sub, pf_eqI, pf_neI, pf_ltI, pf_gtI, pf_leI, pf_geI, pf_lenL, pf_lenT, pf_int, pf_abs, pf_neg, pf_min, pf_max, ix0T, ix1T, ix2T, ix3T, ix0L, ix1L, ix2L, rngD_I, List.take_succ_cons, last_get, last_set, take_app, mid_get, mid_set, mid_get1, mid_set1, app_app1, lim_rows, ofRows_snoc, List.append_assoc, Int.zero_add, pf_in, pf_nin, pf_inL, pf_ninL, pf_eqRow, pf_neRow, pf_eqRows, pf_eqInts, pf_sumI, pf_tupT, pf_lst, pf_lstL, pf_rev, pf_isN, pf_notN, isNone, pf_isB, pf_notB, slT_T, slT_L, slF_T, slF_L, slT_last, ofInts_take, ofInts_drop, ofRows_take, ofRows_drop, pf_tupL, pf_srtT, pf_srtL, pf_addT, pf_addL, ofInts_len, ofRows_len, ofInts_app, pf_allP, pf_anyP, raF]
      generalize bs.getD (dv d (bs.length : Int)).toNat [] = b at *
      split
      · refine ⟨_, _, rfl, _, _, _, _, rfl, rfl, by simp [q3], fun c hc => ?_⟩
        rcases List.mem_append.mp hc with hc | hc
        · exact q4 c hc
        · simp at hc; rw [hc]; exact g
      · refine ⟨_, _, rfl, _, _, _, _, rfl, rfl, by simp [q3], fun c hc => ?_⟩
        rcases List.mem_append.mp hc with hc | hc
        · exact q4 c hc
        · simp at hc; rw [hc]; exact turnB_row g (dv_nn _ _) (dv_lt _ m1))
    (e := [some (.r 0), some (.d (.int many)), some (.d (.int voters)), some (.d (.list (ofRows bs))), some (.r (t.length + 1)), none, some (.d (.int m)), some (.d (.int nv)), none, none, none]) (h := d1.mo :: (t ++ [.l []])) ⟨d1, [], none, none, rfl, rfl, rfl, by simp⟩
  obtain ⟨e', h', r1, d2, bl, a5, a8, rfl, rfl, q3, q4⟩ := key
  have hfo : sv WW up (R (n + 1)) l__law_election_0 [some (.r 0), some (.d (.int many)), some (.d (.int voters)), some (.d (.list (ofRows bs))), some (.r (t.length + 1)), none, some (.d (.int m)), some (.d (.int nv)), none, none, none] (d1.mo :: (t ++ [.l []])) = _ :=
    (svFo_eq (vs := [.d (.int nv)]) (by simp (disch := (first | exact dv_nn _ _ | (exact dv_lt _ (by omega)) | ((try simp only [ofInts_len, ofRows_len, rngI_len, List.length_append, List.length_cons, List.length_nil, List.length_map, isort_len]); omega))) only [bvN, bvC, svE, svS, svPr, svSt, svIf, svRe, svRn, svRa, svTr, evV, evK, evG, evP, evS3, evCh, evNt, evBo, evFi, evTu, evLi, evCa, evMe, evLc, evsN, evsC, evbN, evbC, bindOk, toSOk, thenNx, thenRt, thenEx, ttB, snaps, snap, mkR, Mn.fresh, setT, datas, pars, meD, stD, itV, itD, seqOf, List.getElem?_cons_zero, List.getElem?_cons_succ, List.getElem?_nil, List.set_cons_zero, List.set_cons_succ, Option.map_some, Option.map_none, Bool.false_eq_true, if_false, if_true, List.length_cons, List.length_nil, Nat.zero_add, Nat.reduceAdd, List.map_cons, List.map_nil, eq_self, decide_true, decide_false, Bool.not_true, Bool.not_false, beq_self_eq_true, Int.reduceToNat, List.replicate_succ, List.replicate_zero, List.cons_append, List.nil_append, brcB, brcX, brcIte, thenIte, finIte, toSIte, bindIte, finRt, finNx, finX, toSX, bindX, evl_eq, calmOk, lim0, lim1, lim2, lim3, lim4, lim_map, lim_ints, mapA_map, mapA_ints, mapA_pure, mapA_ite, same_d, same_s, same_n, andC, orC, ints_map, ints_id, ints_int, List.take_length, tf, ft, Tg.slots, wpE, Int.cast_ofNat_Int, Int.reduceEq, Int.reduceLT, Int.reduceLE, Nat.reduceLT, Nat.reduceLeDiff, Bool.and_true, Bool.true_and, Bool.false_and, Bool.and_false, Bool.or_true, Bool.true_or, Bool.or_false, Bool.false_or, ofInts_snoc, List.append_nil, isort_len, pf_add, pf_sub, pf_eqI, pf_neI, pf_ltI, pf_gtI, pf_leI, pf_geI, pf_lenL, pf_lenT, pf_int, pf_abs, pf_neg, pf_min, pf_max, ix0T, ix1T, ix2T, ix3T, ix0L, ix1L, ix2L, rngD_I, List.take_succ_cons, last_get, last_set, take_app, mid_get, mid_set, mid_get1, mid_set1, app_app1, lim_rows, ofRows_snoc, List.append_assoc, Int.zero_add, pf_in, pf_nin, pf_inL, pf_ninL, pf_eqRow, pf_neRow, pf_eqRows, pf_eqInts, pf_sumI, pf_tupT, pf_lst, pf_lstL, pf_rev, pf_isN, pf_notN, isNone, pf_isB, pf_notB, slT_T, slT_L, slF_T, slF_L, slT_last, ofInts_take, ofInts_drop, ofRows_take, ofRows_drop, pf_tupL, pf_srtT, pf_srtL, pf_addT, pf_addL, ofInts_len, ofRows_len, ofInts_app, pf_allP, pf_anyP, raF]) (by rw [itV_r1 _ _ (by omega) (by omega)]; rfl)).trans r1
  rw [rngI_len] at q3
  simp (disch := (first | exact dv_nn _ _ | (exact dv_lt _ (by omega)) | ((try simp only [ofInts_len, ofRows_len, rngI_len, List.length_append, List.length_cons, List.length_nil, List.length_map, isort_len]); omega))) only [hfo, draw, bvN, bvC, svE, svS, svPr, svSt, svIf, svRe, svRn, svRa, svTr, evV, evK, evG, evP, evS3, evCh, evNt, evBo, evFi, evTu, evLi, evCa, evMe, evsN, evsC, evbN, evbC, bindOk, toSOk, thenNx, thenRt, thenEx, ttB, snaps, snap, mkR, Mn.fresh, setT, datas, pars, meD, stD, itV, itD, seqOf, List.getElem?_cons_zero, List.getElem?_cons_succ, List.getElem?_nil, List.set_cons_zero, List.set_cons_succ, Option.map_some, Option.map_none, Bool.false_eq_true, if_false, if_true, List.length_cons, List.length_nil, Nat.zero_add, Nat.reduceAdd, List.map_cons, List.map_nil, eq_self, decide_true, decide_false, Bool.not_true, Bool.not_false, beq_self_eq_true, Int.reduceToNat, List.replicate_succ, List.replicate_zero, List.cons_append, List.nil_append, brcB, brcX, brcIte, thenIte, finIte, toSIte, bindIte, finRt, finNx, finX, toSX, bindX, evl_eq, calmOk, lim0, lim1, lim2, lim3, lim4, lim_map, lim_ints, mapA_map, mapA_ints, mapA_pure, mapA_ite, same_d, same_s, same_n, andC, orC, ints_map, ints_id, ints_int, List.take_length, tf, ft, Tg.slots, wpE, Int.cast_ofNat_Int, Int.reduceEq, Int.reduceLT, Int.reduceLE, Nat.reduceLT, Nat.reduceLeDiff, Bool.and_true, Bool.true_and, Bool.false_and, Bool.and_false, Bool.or_true, Bool.true_or, Bool.or_false, Bool.false_or, ofInts_snoc, List.append_nil, isort_len, pf_add, pf_sub, pf_eqI, pf_neI, pf_ltI, pf_gtI, pf_leI, pf_geI, pf_lenL, pf_lenT, pf_int, pf_abs, pf_neg, pf_min, pf_max, ix0T, ix1T, ix2T, ix3T, ix0L, ix1L, ix2L, rngD_I, List.take_succ_cons, last_get, last_set, take_app, mid_get, mid_set, mid_get1, mid_set1, app_app1, lim_rows, ofRows_snoc, List.append_assoc, Int.zero_add, pf_in, pf_nin, pf_inL, pf_ninL, pf_eqRow, pf_neRow, pf_eqRows, pf_eqInts, pf_sumI, pf_tupT, pf_lst, pf_lstL, pf_rev, pf_isN, pf_notN, isNone, pf_isB, pf_notB, slT_T, slT_L, slF_T, slF_L, slT_last, ofInts_take, ofInts_drop, ofRows_take, ofRows_drop, pf_tupL, pf_srtT, pf_srtL, pf_addT, pf_addL, ofInts_len, ofRows_len, ofInts_app, pf_allP, pf_anyP, raF]
  exact ⟨_, _, _, _, rfl, m1, m2, by have := dv_nn d2 m; omega, by have := dv_lt d2 m1; omega, by omega, by omega, q4⟩
end K61

/-! names, codes: the program. -/
namespace K61
open PySem Mn
/-- what is an election, in plain lists -/
structure Elc (m : Int) (bs : List (List Int)) (s : Int) : Prop where
  m1 : 1 ≤ m
  m2 : m ≤ 30
  s1 : 1 ≤ s
  s2 : s ≤ m
  l1 : 1 ≤ bs.length
  l2 : bs.length ≤ 60
  rows : ∀ b ∈ bs, rowOk m b
theorem Elc.len {m s : Int} {bs : List (List Int)} (E : Elc m bs s) {b : List Int} (h : b ∈ bs) : b.length ≤ 30 := by
  have := row_len (E.rows b h).1 (E.rows b h).2
  have := E.m2
  omega
theorem Elc.bd {m s : Int} {bs : List (List Int)} (E : Elc m bs s) : bd (elOf m bs s) = true := el_bd (by have := E.l2; omega) fun b h => by have := E.len h; omega
theorem Elc.isEl {m s : Int} {bs : List (List Int)} (E : Elc m bs s) : isEl (elOf m bs s) = true :=
  el_isEl (many := 30) (voters := 60) ⟨E.m1, E.m2, E.s1, E.s2, E.l1, by have := E.l2; omega, E.rows⟩ (by decide) (by decide)
theorem check_el (n : Nat) {m s : Int} {bs : List (List Int)} (E : Elc m bs s) (h : MH) : R (n + 4) 3 [.d (elOf m bs s)] h = .ok (.d .none) h := by
  have := check_election n _ h E.bd
  rw [E.isEl, if_pos rfl] at this
  exact this
theorem ixRowT (xs : List Int) (i : Int) (h : 0 ≤ i) (h2 : i < xs.length) : pf .ix [.tuple (ofInts xs), .int i] = some (.int (nm xs i)) := ixTM .int xs 0 i h h2
theorem mapped (n : Nat) {m : Int} {p r : List Int} (hp : IsP m p) (hr : ∀ i ∈ r, 0 ≤ i ∧ i < m) (hl : r.length ≤ 900) (h : MH) : R (n + 1) 7 [.d (.tuple (ofInts r)), .d (.tuple (ofInts p))] h = .ok (.d (.tuple (ofInts (mpR p r)))) h := by
  have q : ev (R n) q_mapped_0 [some (.d (.tuple (ofInts r))), some (.d (.tuple (ofInts p))), none] h = .ok (.d (.list (r.map fun i => .int (nm p i)))) h :=
    lc_p (φ := .int) (L := r) (vs := [.d (.tuple (ofInts r))]) (fun i => .int (nm p i)) (by simp (disch := (first | exact dv_nn _ _ | (exact dv_lt _ (by omega)) | ((try simp only [ofInts_len, ofRows_len, rngI_len, List.length_append, List.length_cons, List.length_nil, List.length_map, isort_len]); omega))) only [bvN, bvC, svE, svS, svPr, svSt, svIf, svRe, svRn, svRa, svTr, evV, evK, evG, evP, evS3, evCh, evNt, evBo, evFi, evTu, evLi, evCa, evMe, evLc, evsN, evsC, evbN, evbC, bindOk, toSOk, thenNx, thenRt, thenEx, ttB, snaps, snap, mkR, Mn.fresh, setT, datas, pars, meD, stD, itV, itD, seqOf, List.getElem?_cons_zero, List.getElem?_cons_succ, List.getElem?_nil, List.set_cons_zero, List.set_cons_succ, Option.map_some, Option.map_none, Bool.false_eq_true, if_false, if_true, List.length_cons, List.length_nil, Nat.zero_add, Nat.reduceAdd, List.map_cons, List.map_nil, eq_self, decide_true, decide_false, Bool.not_true, Bool.not_false, beq_self_eq_true, Int.reduceToNat, List.replicate_succ, List.replicate_zero, List.cons_append, List.nil_append, brcB, brcX, brcIte, thenIte, finIte, toSIte, bindIte, finRt, finNx, finX, toSX, bindX, evl_eq, calmOk, lim0, lim1, lim2, lim3, lim4, lim_map, lim_ints, mapA_map, mapA_ints, mapA_pure, mapA_ite, same_d, same_s, same_n, andC, orC, ints_map, ints_id, ints_int, List.take_length, tf, ft, Tg.slots, wpE, Int.cast_ofNat_Int, Int.reduceEq, Int.reduceLT, Int.reduceLE, Nat.reduceLT, Nat.reduceLeDiff, Bool.and_true, Bool.true_and, Bool.false_and, Bool.and_false, Bool.or_true, Bool.true_or, Bool.or_false, Bool.false_or, ofInts_snoc, List.append_nil, isort_len, pf_add, pf_sub, pf_eqI, pf_neI, pf_ltI, pf_gtI, pf_leI, pf_geI, pf_lenL, pf_lenT, pf_int, pf_abs, pf_neg, pf_min, pf_max, ix0T, ix1T, ix2T, ix3T, ix0L, ix1L, ix2L, rngD_I, List.take_succ_cons, last_get, last_set, take_app, mid_get, mid_set, mid_get1, mid_set1, app_app1, lim_rows, ofRows_snoc, List.append_assoc, Int.zero_add, pf_in, pf_nin, pf_inL, pf_ninL, pf_eqRow, pf_neRow, pf_eqRows, pf_eqInts, pf_sumI, pf_tupT, pf_lst, pf_lstL, pf_rev, pf_isN, pf_notN, isNone, pf_isB, pf_notB, slT_T, slT_L, slF_T, slF_L, slT_last, ofInts_take, ofInts_drop, ofRows_take, ofRows_drop, pf_tupL, pf_srtT, pf_srtL, pf_addT, pf_addL, ofInts_len, ofRows_len, ofInts_app, pf_allP, pf_anyP, raF]) rfl (by omega) rfl fun i hi => by
      have g := hr i hi
      have g1 := g.1
      have g2 : i < (p.length : Int) := by rw [hp.len]; omega
      simp (disch := (first | exact dv_nn _ _ | (exact dv_lt _ (by omega)) | ((try simp only [ofInts_len, ofRows_len, rngI_len, List.length_append, List.length_cons, List.length_nil, List.length_map, isort_len]); omega))) only [ixRowT, bvN, bvC, svE, svS, svPr, svSt, svIf, svRe, svRn, svRa, svTr, evV, evK, evG, evP, evS3, evCh, evNt, evBo, evFi, evTu, evLi, evCa, evMe, evLc, evsN, evsC, evbN, evbC, bindOk, toSOk, thenNx, thenRt, thenEx, ttB, snaps, snap, mkR, Mn.fresh, setT, datas, pars, meD, stD, itV, itD, seqOf, List.getElem?_cons_zero, List.getElem?_cons_succ, List.getElem?_nil, List.set_cons_zero, List.set_cons_succ, Option.map_some, Option.map_none, Bool.false_eq_true, if_false, if_true, List.length_cons, List.length_nil, Nat.zero_add, Nat.reduceAdd, List.map_cons, List.map_nil, eq_self, decide_true, decide_false, Bool.not_true, Bool.not_false, beq_self_eq_true, Int.reduceToNat, List.replicate_succ, List.replicate_zero, List.cons_append, List.nil_append, brcB, brcX, brcIte, thenIte, finIte, toSIte, bindIte, finRt, finNx, finX, toSX, bindX, evl_eq, calmOk, lim0, lim1, lim2, lim3, lim4, lim_map, lim_ints, mapA_map, mapA_ints, mapA_pure, mapA_ite, same_d, same_s, same_n, andC, orC, ints_map, ints_id, ints_int, List.take_length, tf, ft, Tg.slots, wpE, Int.cast_ofNat_Int, Int.reduceEq, Int.reduceLT, Int.reduceLE, Nat.reduceLT, Nat.reduceLeDiff, Bool.and_true, Bool.true_and, Bool.false_and, Bool.and_false, Bool.or_true, Bool.true_or, Bool.or_false, Bool.false_or, ofInts_snoc, List.append_nil, isort_len, pf_add, pf_sub, pf_eqI, pf_neI, pf_ltI, pf_gtI, pf_leI, pf_geI, pf_lenL, pf_lenT, pf_int, pf_abs, pf_neg, pf_min, pf_max, ix0T, ix1T, ix2T, ix3T, ix0L, ix1L, ix2L, rngD_I, List.take_succ_cons, last_get, last_set, take_app, mid_get, mid_set, mid_get1, mid_set1, app_app1, lim_rows, ofRows_snoc, List.append_assoc, Int.zero_add, pf_in, pf_nin, pf_inL, pf_ninL, pf_eqRow, pf_neRow, pf_eqRows, pf_eqInts, pf_sumI, pf_tupT, pf_lst, pf_lstL, pf_rev, pf_isN, pf_notN, isNone, pf_isB, pf_notB, slT_T, slT_L, slF_T, slF_L, slT_last, ofInts_take, ofInts_drop, ofRows_take, ofRows_drop, pf_tupL, pf_srtT, pf_srtL, pf_addT, pf_addL, ofInts_len, ofRows_len, ofInts_app, pf_allP, pf_anyP, raF]
  unfold mpR
  simp (disch := (first | exact dv_nn _ _ | (exact dv_lt _ (by omega)) | ((try simp only [ofInts_len, ofRows_len, rngI_len, List.length_append, List.length_cons, List.length_nil, List.length_map, isort_len]); omega))) only [s_mapped, b_mapped, q, bvN, bvC, svE, svS, svPr, svSt, svIf, svRe, svRn, svRa, svTr, evV, evK, evG, evP, evS3, evCh, evNt, evBo, evFi, evTu, evLi, evCa, evMe, evsN, evsC, evbN, evbC, bindOk, toSOk, thenNx, thenRt, thenEx, ttB, snaps, snap, mkR, Mn.fresh, setT, datas, pars, meD, stD, itV, itD, seqOf, List.getElem?_cons_zero, List.getElem?_cons_succ, List.getElem?_nil, List.set_cons_zero, List.set_cons_succ, Option.map_some, Option.map_none, Bool.false_eq_true, if_false, if_true, List.length_cons, List.length_nil, Nat.zero_add, Nat.reduceAdd, List.map_cons, List.map_nil, eq_self, decide_true, decide_false, Bool.not_true, Bool.not_false, beq_self_eq_true, Int.reduceToNat, List.replicate_succ, List.replicate_zero, List.cons_append, List.nil_append, brcB, brcX, brcIte, thenIte, finIte, toSIte, bindIte, finRt, finNx, finX, toSX, bindX, evl_eq, calmOk, lim0, lim1, lim2, lim3, lim4, lim_map, lim_ints, mapA_map, mapA_ints, mapA_pure, mapA_ite, same_d, same_s, same_n, andC, orC, ints_map, ints_id, ints_int, List.take_length, tf, ft, Tg.slots, wpE, Int.cast_ofNat_Int, Int.reduceEq, Int.reduceLT, Int.reduceLE, Nat.reduceLT, Nat.reduceLeDiff, Bool.and_true, Bool.true_and, Bool.false_and, Bool.and_false, Bool.or_true, Bool.true_or, Bool.or_false, Bool.false_or, ofInts_snoc, List.append_nil, isort_len, pf_add, pf_sub, pf_eqI, pf_neI, pf_ltI, pf_gtI, pf_leI, pf_geI, pf_lenL, pf_lenT, pf_int, pf_abs, pf_neg, pf_min, pf_max, ix0T, ix1T, ix2T, ix3T, ix0L, ix1L, ix2L, rngD_I, List.take_succ_cons, last_get, last_set, take_app, mid_get, mid_set, mid_get1, mid_set1, app_app1, lim_rows, ofRows_snoc, List.append_assoc, Int.zero_add, pf_in, pf_nin, pf_inL, pf_ninL, pf_eqRow, pf_neRow, pf_eqRows, pf_eqInts, pf_sumI, pf_tupT, pf_lst, pf_lstL, pf_rev, pf_isN, pf_notN, isNone, pf_isB, pf_notB, slT_T, slT_L, slF_T, slF_L, slT_last, ofInts_take, ofInts_drop, ofRows_take, ofRows_drop, pf_tupL, pf_srtT, pf_srtL, pf_addT, pf_addL, ofInts_len, ofRows_len, ofInts_app, pf_allP, pf_anyP, raF]
theorem with_names (n : Nat) {m s : Int} {bs : List (List Int)} {p q : List Int} (E : Elc m bs s) (hp : IsP m p) (hq : ∀ i ∈ q, 0 ≤ i ∧ i < (bs.length : Int)) (hql : q.length ≤ 900) (h : MH) :
    R (n + 2) 8 [.d (elOf m bs s), .d (.tuple (ofInts p)), .d (.tuple (ofInts q))] h = .ok (.d (elOf m (q.map fun i => mpR p (bs.getD i.toNat [])) s)) h := by
  have k : ∀ (a0 a3 a5 : Option Vl), ev (R (n + 1)) q_with_names_0 [a0, some (.d (.tuple (ofInts p))), some (.d (.tuple (ofInts q))), a3, some (.d (.tuple (ofRows bs))), a5, none] h = .ok (.d (.list (q.map fun i => .tuple (ofInts (mpR p (bs.getD i.toNat [])))))) h := fun a0 a3 a5 =>
    lc_p (φ := .int) (L := q) (vs := [.d (.tuple (ofInts q))]) (fun i => .tuple (ofInts (mpR p (bs.getD i.toNat [])))) (by simp (disch := (first | exact dv_nn _ _ | (exact dv_lt _ (by omega)) | ((try simp only [ofInts_len, ofRows_len, rngI_len, List.length_append, List.length_cons, List.length_nil, List.length_map, isort_len]); omega))) only [bvN, bvC, svE, svS, svPr, svSt, svIf, svRe, svRn, svRa, svTr, evV, evK, evG, evP, evS3, evCh, evNt, evBo, evFi, evTu, evLi, evCa, evMe, evLc, evsN, evsC, evbN, evbC, bindOk, toSOk, thenNx, thenRt, thenEx, ttB, snaps, snap, mkR, Mn.fresh, setT, datas, pars, meD, stD, itV, itD, seqOf, List.getElem?_cons_zero, List.getElem?_cons_succ, List.getElem?_nil, List.set_cons_zero, List.set_cons_succ, Option.map_some, Option.map_none, Bool.false_eq_true, if_false, if_true, List.length_cons, List.length_nil, Nat.zero_add, Nat.reduceAdd, List.map_cons, List.map_nil, eq_self, decide_true, decide_false, Bool.not_true, Bool.not_false, beq_self_eq_true, Int.reduceToNat, List.replicate_succ, List.replicate_zero, List.cons_append, List.nil_append, brcB, brcX, brcIte, thenIte, finIte, toSIte, bindIte, finRt, finNx, finX, toSX, bindX, evl_eq, calmOk, lim0, lim1, lim2, lim3, lim4, lim_map, lim_ints, mapA_map, mapA_ints, mapA_pure, mapA_ite, same_d, same_s, same_n, andC, orC, ints_map, ints_id, ints_int, List.take_length, tf, ft, Tg.slots, wpE, Int.cast_ofNat_Int, Int.reduceEq, Int.reduceLT, Int.reduceLE, Nat.reduceLT, Nat.reduceLeDiff, Bool.and_true, Bool.true_and, Bool.false_and, Bool.and_false, Bool.or_true, Bool.true_or, Bool.or_false, Bool.false_or, ofInts_snoc, List.append_nil, isort_len, pf_add, pf_sub, pf_eqI, pf_neI, pf_ltI, pf_gtI, pf_leI, pf_geI, pf_lenL, pf_lenT, pf_int, pf_abs, pf_neg, pf_min, pf_max, ix0T, ix1T, ix2T, ix3T, ix0L, ix1L, ix2L, rngD_I, List.take_succ_cons, last_get, last_set, take_app, mid_get, mid_set, mid_get1, mid_set1, app_app1, lim_rows, ofRows_snoc, List.append_assoc, Int.zero_add, pf_in, pf_nin, pf_inL, pf_ninL, pf_eqRow, pf_neRow, pf_eqRows, pf_eqInts, pf_sumI, pf_tupT, pf_lst, pf_lstL, pf_rev, pf_isN, pf_notN, isNone, pf_isB, pf_notB, slT_T, slT_L, slF_T, slF_L, slT_last, ofInts_take, ofInts_drop, ofRows_take, ofRows_drop, pf_tupL, pf_srtT, pf_srtL, pf_addT, pf_addL, ofInts_len, ofRows_len, ofInts_app, pf_allP, pf_anyP, raF]) rfl (by omega) rfl fun i hi => by
      have g := hq i hi
      have g1 := g.1
      have g2 := g.2
      have mem := getD_mem (xs := bs) (dflt := []) (i := i.toNat) (by omega)
      have mo := mapped n hp (E.rows _ mem).2 (by have := E.len mem; omega) h
      simp (disch := (first | exact dv_nn _ _ | (exact dv_lt _ (by omega)) | ((try simp only [ofInts_len, ofRows_len, rngI_len, List.length_append, List.length_cons, List.length_nil, List.length_map, isort_len]); omega))) only [ixRowsT, mo, bvN, bvC, svE, svS, svPr, svSt, svIf, svRe, svRn, svRa, svTr, evV, evK, evG, evP, evS3, evCh, evNt, evBo, evFi, evTu, evLi, evCa, evMe, evLc, evsN, evsC, evbN, evbC, bindOk, toSOk, thenNx, thenRt, thenEx, ttB, snaps, snap, mkR, Mn.fresh, setT, datas, pars, meD, stD, itV, itD, seqOf, List.getElem?_cons_zero, List.getElem?_cons_succ, List.getElem?_nil, List.set_cons_zero, List.set_cons_succ, Option.map_some, Option.map_none, Bool.false_eq_true, if_false, if_true, List.length_cons, List.length_nil, Nat.zero_add, Nat.reduceAdd, List.map_cons, List.map_nil, eq_self, decide_true, decide_false, Bool.not_true, Bool.not_false, beq_self_eq_true, Int.reduceToNat, List.replicate_succ, List.replicate_zero, List.cons_append, List.nil_append, brcB, brcX, brcIte, thenIte, finIte, toSIte, bindIte, finRt, finNx, finX, toSX, bindX, evl_eq, calmOk, lim0, lim1, lim2, lim3, lim4, lim_map, lim_ints, mapA_map, mapA_ints, mapA_pure, mapA_ite, same_d, same_s, same_n, andC, orC, ints_map, ints_id, ints_int, List.take_length, tf, ft, Tg.slots, wpE, Int.cast_ofNat_Int, Int.reduceEq, Int.reduceLT, Int.reduceLE, Nat.reduceLT, Nat.reduceLeDiff, Bool.and_true, Bool.true_and, Bool.false_and, Bool.and_false, Bool.or_true, Bool.true_or, Bool.or_false, Bool.false_or, ofInts_snoc, List.append_nil, isort_len, pf_add, pf_sub, pf_eqI, pf_neI, pf_ltI, pf_gtI, pf_leI, pf_geI, pf_lenL, pf_lenT, pf_int, pf_abs, pf_neg, pf_min, pf_max, ix0T, ix1T, ix2T, ix3T, ix0L, ix1L, ix2L, rngD_I, List.take_succ_cons, last_get, last_set, take_app, mid_get, mid_set, mid_get1, mid_set1, app_app1, lim_rows, ofRows_snoc, List.append_assoc, Int.zero_add, pf_in, pf_nin, pf_inL, pf_ninL, pf_eqRow, pf_neRow, pf_eqRows, pf_eqInts, pf_sumI, pf_tupT, pf_lst, pf_lstL, pf_rev, pf_isN, pf_notN, isNone, pf_isB, pf_notB, slT_T, slT_L, slF_T, slF_L, slT_last, ofInts_take, ofInts_drop, ofRows_take, ofRows_drop, pf_tupL, pf_srtT, pf_srtL, pf_addT, pf_addL, ofInts_len, ofRows_len, ofInts_app, pf_allP, pf_anyP, raF]
  have fold : (q.map fun i => PyData.tuple (ofInts (mpR p (bs.getD i.toNat [])))) = ofRows (q.map fun i => mpR p (bs.getD i.toNat [])) := by unfold ofRows; rw [List.map_map]; rfl
  simp (disch := (first | exact dv_nn _ _ | (exact dv_lt _ (by omega)) | ((try simp only [ofInts_len, ofRows_len, rngI_len, List.length_append, List.length_cons, List.length_nil, List.length_map, isort_len]); omega))) only [s_with_names, b_with_names, k, fold, bvN, bvC, svE, svS, svPr, svSt, svIf, svRe, svRn, svRa, svTr, evV, evK, evG, evP, evS3, evCh, evNt, evBo, evFi, evTu, evLi, evCa, evMe, evsN, evsC, evbN, evbC, bindOk, toSOk, thenNx, thenRt, thenEx, ttB, snaps, snap, mkR, Mn.fresh, setT, datas, pars, meD, stD, itV, itD, seqOf, List.getElem?_cons_zero, List.getElem?_cons_succ, List.getElem?_nil, List.set_cons_zero, List.set_cons_succ, Option.map_some, Option.map_none, Bool.false_eq_true, if_false, if_true, List.length_cons, List.length_nil, Nat.zero_add, Nat.reduceAdd, List.map_cons, List.map_nil, eq_self, decide_true, decide_false, Bool.not_true, Bool.not_false, beq_self_eq_true, Int.reduceToNat, List.replicate_succ, List.replicate_zero, List.cons_append, List.nil_append, brcB, brcX, brcIte, thenIte, finIte, toSIte, bindIte, finRt, finNx, finX, toSX, bindX, evl_eq, calmOk, lim0, lim1, lim2, lim3, lim4, lim_map, lim_ints, mapA_map, mapA_ints, mapA_pure, mapA_ite, same_d, same_s, same_n, andC, orC, ints_map, ints_id, ints_int, List.take_length, tf, ft, Tg.slots, wpE, Int.cast_ofNat_Int, Int.reduceEq, Int.reduceLT, Int.reduceLE, Nat.reduceLT, Nat.reduceLeDiff, Bool.and_true, Bool.true_and, Bool.false_and, Bool.and_false, Bool.or_true, Bool.true_or, Bool.or_false, Bool.false_or, ofInts_snoc, List.append_nil, isort_len, pf_add, pf_sub, pf_eqI, pf_neI, pf_ltI, pf_gtI, pf_leI, pf_geI, pf_lenL, pf_lenT, pf_int, pf_abs, pf_neg, pf_min, pf_max, ix0T, ix1T, ix2T, ix3T, ix0L, ix1L, ix2L, rngD_I, List.take_succ_cons, last_get, last_set, take_app, mid_get, mid_set, mid_get1, mid_set1, app_app1, lim_rows, ofRows_snoc, List.append_assoc, Int.zero_add, pf_in, pf_nin, pf_inL, pf_ninL, pf_eqRow, pf_neRow, pf_eqRows, pf_eqInts, pf_sumI, pf_tupT, pf_lst, pf_lstL, pf_rev, pf_isN, pf_notN, isNone, pf_isB, pf_notB, slT_T, slT_L, slF_T, slF_L, slT_last, ofInts_take, ofInts_drop, ofRows_take, ofRows_drop, pf_tupL, pf_srtT, pf_srtL, pf_addT, pf_addL, ofInts_len, ofRows_len, ofInts_app, pf_allP, pf_anyP, raF]
theorem whole_ints (n : Nat) (p : List Int) (h : MH) (a1 : Option Vl) (hl : p.length ≤ 900) : ev (R (n + 1)) q_is_order_0 [some (.d (.tuple (ofInts p))), a1, none] h = .ok (.d (.list (p.map fun _ => .bool true))) h :=
  lc_p (φ := .int) (L := p) (vs := [.d (.tuple (ofInts p))]) (fun _ => .bool true) (by simp (disch := (first | exact dv_nn _ _ | (exact dv_lt _ (by omega)) | ((try simp only [ofInts_len, ofRows_len, rngI_len, List.length_append, List.length_cons, List.length_nil, List.length_map, isort_len]); omega))) only [bvN, bvC, svE, svS, svPr, svSt, svIf, svRe, svRn, svRa, svTr, evV, evK, evG, evP, evS3, evCh, evNt, evBo, evFi, evTu, evLi, evCa, evMe, evLc, evsN, evsC, evbN, evbC, bindOk, toSOk, thenNx, thenRt, thenEx, ttB, snaps, snap, mkR, Mn.fresh, setT, datas, pars, meD, stD, itV, itD, seqOf, List.getElem?_cons_zero, List.getElem?_cons_succ, List.getElem?_nil, List.set_cons_zero, List.set_cons_succ, Option.map_some, Option.map_none, Bool.false_eq_true, if_false, if_true, List.length_cons, List.length_nil, Nat.zero_add, Nat.reduceAdd, List.map_cons, List.map_nil, eq_self, decide_true, decide_false, Bool.not_true, Bool.not_false, beq_self_eq_true, Int.reduceToNat, List.replicate_succ, List.replicate_zero, List.cons_append, List.nil_append, brcB, brcX, brcIte, thenIte, finIte, toSIte, bindIte, finRt, finNx, finX, toSX, bindX, evl_eq, calmOk, lim0, lim1, lim2, lim3, lim4, lim_map, lim_ints, mapA_map, mapA_ints, mapA_pure, mapA_ite, same_d, same_s, same_n, andC, orC, ints_map, ints_id, ints_int, List.take_length, tf, ft, Tg.slots, wpE, Int.cast_ofNat_Int, Int.reduceEq, Int.reduceLT, Int.reduceLE, Nat.reduceLT, Nat.reduceLeDiff, Bool.and_true, Bool.true_and, Bool.false_and, Bool.and_false, Bool.or_true, Bool.true_or, Bool.or_false, Bool.false_or, ofInts_snoc, List.append_nil, isort_len, pf_add, pf_sub, pf_eqI, pf_neI, pf_ltI, pf_gtI, pf_leI, pf_geI, pf_lenL, pf_lenT, pf_int, pf_abs, pf_neg, pf_min, pf_max, ix0T, ix1T, ix2T, ix3T, ix0L, ix1L, ix2L, rngD_I, List.take_succ_cons, last_get, last_set, take_app, mid_get, mid_set, mid_get1, mid_set1, app_app1, lim_rows, ofRows_snoc, List.append_assoc, Int.zero_add, pf_in, pf_nin, pf_inL, pf_ninL, pf_eqRow, pf_neRow, pf_eqRows, pf_eqInts, pf_sumI, pf_tupT, pf_lst, pf_lstL, pf_rev, pf_isN, pf_notN, isNone, pf_isB, pf_notB, slT_T, slT_L, slF_T, slF_L, slT_last, ofInts_take, ofInts_drop, ofRows_take, ofRows_drop, pf_tupL, pf_srtT, pf_srtL, pf_addT, pf_addL, ofInts_len, ofRows_len, ofInts_app, pf_allP, pf_anyP, raF]) rfl (by omega) rfl fun i hi => by
    have := is_whole n (.int i) h
    simp (disch := (first | exact dv_nn _ _ | (exact dv_lt _ (by omega)) | ((try simp only [ofInts_len, ofRows_len, rngI_len, List.length_append, List.length_cons, List.length_nil, List.length_map, isort_len]); omega))) only [this, whole, bvN, bvC, svE, svS, svPr, svSt, svIf, svRe, svRn, svRa, svTr, evV, evK, evG, evP, evS3, evCh, evNt, evBo, evFi, evTu, evLi, evCa, evMe, evLc, evsN, evsC, evbN, evbC, bindOk, toSOk, thenNx, thenRt, thenEx, ttB, snaps, snap, mkR, Mn.fresh, setT, datas, pars, meD, stD, itV, itD, seqOf, List.getElem?_cons_zero, List.getElem?_cons_succ, List.getElem?_nil, List.set_cons_zero, List.set_cons_succ, Option.map_some, Option.map_none, Bool.false_eq_true, if_false, if_true, List.length_cons, List.length_nil, Nat.zero_add, Nat.reduceAdd, List.map_cons, List.map_nil, eq_self, decide_true, decide_false, Bool.not_true, Bool.not_false, beq_self_eq_true, Int.reduceToNat, List.replicate_succ, List.replicate_zero, List.cons_append, List.nil_append, brcB, brcX, brcIte, thenIte, finIte, toSIte, bindIte, finRt, finNx, finX, toSX, bindX, evl_eq, calmOk, lim0, lim1, lim2, lim3, lim4, lim_map, lim_ints, mapA_map, mapA_ints, mapA_pure, mapA_ite, same_d, same_s, same_n, andC, orC, ints_map, ints_id, ints_int, List.take_length, tf, ft, Tg.slots, wpE, Int.cast_ofNat_Int, Int.reduceEq, Int.reduceLT, Int.reduceLE, Nat.reduceLT, Nat.reduceLeDiff, Bool.and_true, Bool.true_and, Bool.false_and, Bool.and_false, Bool.or_true, Bool.true_or, Bool.or_false, Bool.false_or, ofInts_snoc, List.append_nil, isort_len, pf_add, pf_sub, pf_eqI, pf_neI, pf_ltI, pf_gtI, pf_leI, pf_geI, pf_lenL, pf_lenT, pf_int, pf_abs, pf_neg, pf_min, pf_max, ix0T, ix1T, ix2T, ix3T, ix0L, ix1L, ix2L, rngD_I, List.take_succ_cons, last_get, last_set, take_app, mid_get, mid_set, mid_get1, mid_set1, app_app1, lim_rows, ofRows_snoc, List.append_assoc, Int.zero_add, pf_in, pf_nin, pf_inL, pf_ninL, pf_eqRow, pf_neRow, pf_eqRows, pf_eqInts, pf_sumI, pf_tupT, pf_lst, pf_lstL, pf_rev, pf_isN, pf_notN, isNone, pf_isB, pf_notB, slT_T, slT_L, slF_T, slF_L, slT_last, ofInts_take, ofInts_drop, ofRows_take, ofRows_drop, pf_tupL, pf_srtT, pf_srtL, pf_addT, pf_addL, ofInts_len, ofRows_len, ofInts_app, pf_allP, pf_anyP, raF]
theorem pf_rng (m : Int) (h0 : 0 ≤ m) (h1 : m ≤ 1000000) : pf .rng [.int m] = some (.list (ofInts (rngI 0 m))) := by
  have : decide (0 ≤ m ∧ m ≤ 1000000) = true := decide_eq_true ⟨h0, h1⟩
  simp only [pf, this, if_true, rngD_I]
theorem all_true {α : Type} (l : List α) : (l.all fun _ => true) = true := by simp
theorem is_order (n : Nat) {m : Int} {p : List Int} (hm : 0 ≤ m) (hm2 : m ≤ 900) (hp : IsP m p) (h : MH) : R (n + 2) 4 [.d (.tuple (ofInts p)), .d (.int m)] h = .ok (.d (.bool true)) h := by
  have hl : p.length ≤ 900 := by rw [hp.len]; omega
  have e := hp.sorted hm
  have q := whole_ints n p h (some (.d (.int m))) hl
  simp (disch := (first | exact dv_nn _ _ | (exact dv_lt _ (by omega)) | ((try simp only [ofInts_len, ofRows_len, rngI_len, List.length_append, List.length_cons, List.length_nil, List.length_map, isort_len]); omega))) only [s_is_order, b_is_order, pf_isi, tyT, q, all_true, pf_rng, e, bvN, bvC, svE, svS, svPr, svSt, svIf, svRe, svRn, svRa, svTr, evV, evK, evG, evP, evS3, evCh, evNt, evBo, evFi, evTu, evLi, evCa, evMe, evsN, evsC, evbN, evbC, bindOk, toSOk, thenNx, thenRt, thenEx, ttB, snaps, snap, mkR, Mn.fresh, setT, datas, pars, meD, stD, itV, itD, seqOf, List.getElem?_cons_zero, List.getElem?_cons_succ, List.getElem?_nil, List.set_cons_zero, List.set_cons_succ, Option.map_some, Option.map_none, Bool.false_eq_true, if_false, if_true, List.length_cons, List.length_nil, Nat.zero_add, Nat.reduceAdd, List.map_cons, List.map_nil, eq_self, decide_true, decide_false, Bool.not_true, Bool.not_false, beq_self_eq_true, Int.reduceToNat, List.replicate_succ, List.replicate_zero, List.cons_append, List.nil_append, brcB, brcX, brcIte, thenIte, finIte, toSIte, bindIte, finRt, finNx, finX, toSX, bindX, evl_eq, calmOk, lim0, lim1, lim2, lim3, lim4, lim_map, lim_ints, mapA_map, mapA_ints, mapA_pure, mapA_ite, same_d, same_s, same_n, andC, orC, ints_map, ints_id, ints_int, List.take_length, tf, ft, Tg.slots, wpE, Int.cast_ofNat_Int, Int.reduceEq, Int.reduceLT, Int.reduceLE, Nat.reduceLT, Nat.reduceLeDiff, Bool.and_true, Bool.true_and, Bool.false_and, Bool.and_false, Bool.or_true, Bool.true_or, Bool.or_false, Bool.false_or, ofInts_snoc, List.append_nil, isort_len, pf_add, pf_sub, pf_eqI, pf_neI, pf_ltI, pf_gtI, pf_leI, pf_geI, pf_lenL, pf_lenT, pf_int, pf_abs, pf_neg, pf_min, pf_max, ix0T, ix1T, ix2T, ix3T, ix0L, ix1L, ix2L, rngD_I, List.take_succ_cons, last_get, last_set, take_app, mid_get, mid_set, mid_get1, mid_set1, app_app1, lim_rows, ofRows_snoc, List.append_assoc, Int.zero_add, pf_in, pf_nin, pf_inL, pf_ninL, pf_eqRow, pf_neRow, pf_eqRows, pf_eqInts, pf_sumI, pf_tupT, pf_lst, pf_lstL, pf_rev, pf_isN, pf_notN, isNone, pf_isB, pf_notB, slT_T, slT_L, slF_T, slF_L, slT_last, ofInts_take, ofInts_drop, ofRows_take, ofRows_drop, pf_tupL, pf_srtT, pf_srtL, pf_addT, pf_addL, ofInts_len, ofRows_len, ofInts_app, pf_allP, pf_anyP, raF]
theorem are_names (n : Nat) {m s : Int} {bs : List (List Int)} {p q : List Int} (E : Elc m bs s) (hp : IsP m p) (hq : IsP bs.length q) (h : MH) : R (n + 3) 5 [.d (elOf m bs s), .d (.tuple [.tuple (ofInts p), .tuple (ofInts q)])] h = .ok (.d (.bool true)) h := by
  have o1 := is_order n (by have := E.m1; omega) (by have := E.m2; omega) hp h
  have o2 := is_order n (m := bs.length) (by omega) (by have := E.l2; omega) hq h
  simp (disch := (first | exact dv_nn _ _ | (exact dv_lt _ (by omega)) | ((try simp only [ofInts_len, ofRows_len, rngI_len, List.length_append, List.length_cons, List.length_nil, List.length_map, isort_len]); omega))) only [s_are_names, b_are_names, pf_isi, tyT, o1, o2, bvN, bvC, svE, svS, svPr, svSt, svIf, svRe, svRn, svRa, svTr, evV, evK, evG, evP, evS3, evCh, evNt, evBo, evFi, evTu, evLi, evCa, evMe, evLc, evsN, evsC, evbN, evbC, bindOk, toSOk, thenNx, thenRt, thenEx, ttB, snaps, snap, mkR, Mn.fresh, setT, datas, pars, meD, stD, itV, itD, seqOf, List.getElem?_cons_zero, List.getElem?_cons_succ, List.getElem?_nil, List.set_cons_zero, List.set_cons_succ, Option.map_some, Option.map_none, Bool.false_eq_true, if_false, if_true, List.length_cons, List.length_nil, Nat.zero_add, Nat.reduceAdd, List.map_cons, List.map_nil, eq_self, decide_true, decide_false, Bool.not_true, Bool.not_false, beq_self_eq_true, Int.reduceToNat, List.replicate_succ, List.replicate_zero, List.cons_append, List.nil_append, brcB, brcX, brcIte, thenIte, finIte, toSIte, bindIte, finRt, finNx, finX, toSX, bindX, evl_eq, calmOk, lim0, lim1, lim2, lim3, lim4, lim_map, lim_ints, mapA_map, mapA_ints, mapA_pure, mapA_ite, same_d, same_s, same_n, andC, orC, ints_map, ints_id, ints_int, List.take_length, tf, ft, Tg.slots, wpE, Int.cast_ofNat_Int, Int.reduceEq, Int.reduceLT, Int.reduceLE, Nat.reduceLT, Nat.reduceLeDiff, Bool.and_true, Bool.true_and, Bool.false_and, Bool.and_false, Bool.or_true, Bool.true_or, Bool.or_false, Bool.false_or, ofInts_snoc, List.append_nil, isort_len, pf_add, pf_sub, pf_eqI, pf_neI, pf_ltI, pf_gtI, pf_leI, pf_geI, pf_lenL, pf_lenT, pf_int, pf_abs, pf_neg, pf_min, pf_max, ix0T, ix1T, ix2T, ix3T, ix0L, ix1L, ix2L, rngD_I, List.take_succ_cons, last_get, last_set, take_app, mid_get, mid_set, mid_get1, mid_set1, app_app1, lim_rows, ofRows_snoc, List.append_assoc, Int.zero_add, pf_in, pf_nin, pf_inL, pf_ninL, pf_eqRow, pf_neRow, pf_eqRows, pf_eqInts, pf_sumI, pf_tupT, pf_lst, pf_lstL, pf_rev, pf_isN, pf_notN, isNone, pf_isB, pf_notB, slT_T, slT_L, slF_T, slF_L, slT_last, ofInts_take, ofInts_drop, ofRows_take, ofRows_drop, pf_tupL, pf_srtT, pf_srtL, pf_addT, pf_addL, ofInts_len, ofRows_len, ofInts_app, pf_allP, pf_anyP, raF]
theorem check_names (n : Nat) {m s : Int} {bs : List (List Int)} {p q : List Int} (E : Elc m bs s) (hp : IsP m p) (hq : IsP bs.length q) (h : MH) : R (n + 5) 6 [.d (elOf m bs s), .d (.tuple [.tuple (ofInts p), .tuple (ofInts q)])] h = .ok (.d .none) h := by
  have c1 := check_el n E h
  have c2 := are_names (n + 1) E hp hq h
  simp (disch := (first | exact dv_nn _ _ | (exact dv_lt _ (by omega)) | ((try simp only [ofInts_len, ofRows_len, rngI_len, List.length_append, List.length_cons, List.length_nil, List.length_map, isort_len]); omega))) only [s_check_names, b_check_names, c1, c2, bvN, bvC, svE, svS, svPr, svSt, svIf, svRe, svRn, svRa, svTr, evV, evK, evG, evP, evS3, evCh, evNt, evBo, evFi, evTu, evLi, evCa, evMe, evLc, evsN, evsC, evbN, evbC, bindOk, toSOk, thenNx, thenRt, thenEx, ttB, snaps, snap, mkR, Mn.fresh, setT, datas, pars, meD, stD, itV, itD, seqOf, List.getElem?_cons_zero, List.getElem?_cons_succ, List.getElem?_nil, List.set_cons_zero, List.set_cons_succ, Option.map_some, Option.map_none, Bool.false_eq_true, if_false, if_true, List.length_cons, List.length_nil, Nat.zero_add, Nat.reduceAdd, List.map_cons, List.map_nil, eq_self, decide_true, decide_false, Bool.not_true, Bool.not_false, beq_self_eq_true, Int.reduceToNat, List.replicate_succ, List.replicate_zero, List.cons_append, List.nil_append, brcB, brcX, brcIte, thenIte, finIte, toSIte, bindIte, finRt, finNx, finX, toSX, bindX, evl_eq, calmOk, lim0, lim1, lim2, lim3, lim4, lim_map, lim_ints, mapA_map, mapA_ints, mapA_pure, mapA_ite, same_d, same_s, same_n, andC, orC, ints_map, ints_id, ints_int, List.take_length, tf, ft, Tg.slots, wpE, Int.cast_ofNat_Int, Int.reduceEq, Int.reduceLT, Int.reduceLE, Nat.reduceLT, Nat.reduceLeDiff, Bool.and_true, Bool.true_and, Bool.false_and, Bool.and_false, Bool.or_true, Bool.true_or, Bool.or_false, Bool.false_or, ofInts_snoc, List.append_nil, isort_len, pf_add, pf_sub, pf_eqI, pf_neI, pf_ltI, pf_gtI, pf_leI, pf_geI, pf_lenL, pf_lenT, pf_int, pf_abs, pf_neg, pf_min, pf_max, ix0T, ix1T, ix2T, ix3T, ix0L, ix1L, ix2L, rngD_I, List.take_succ_cons, last_get, last_set, take_app, mid_get, mid_set, mid_get1, mid_set1, app_app1, lim_rows, ofRows_snoc, List.append_assoc, Int.zero_add, pf_in, pf_nin, pf_inL, pf_ninL, pf_eqRow, pf_neRow, pf_eqRows, pf_eqInts, pf_sumI, pf_tupT, pf_lst, pf_lstL, pf_rev, pf_isN, pf_notN, isNone, pf_isB, pf_notB, slT_T, slT_L, slF_T, slF_L, slT_last, ofInts_take, ofInts_drop, ofRows_take, ofRows_drop, pf_tupL, pf_srtT, pf_srtL, pf_addT, pf_addL, ofInts_len, ofRows_len, ofInts_app, pf_allP, pf_anyP, raF]
theorem renamed (n : Nat) {m s : Int} {bs : List (List Int)} {p q : List Int} (E : Elc m bs s) (hp : IsP m p) (hq : IsP bs.length q) (h : MH) : R (n + 6) 9 [.d (elOf m bs s), .d (.tuple [.tuple (ofInts p), .tuple (ofInts q)])] h = .ok (.d (elOf m (q.map fun i => mpR p (bs.getD i.toNat [])) s)) h := by
  have c1 := check_names n E hp hq h
  have c2 := with_names (n + 3) E hp hq.rg (by rw [hq.len]; have := E.l2; omega) h
  simp (disch := (first | exact dv_nn _ _ | (exact dv_lt _ (by omega)) | ((try simp only [ofInts_len, ofRows_len, rngI_len, List.length_append, List.length_cons, List.length_nil, List.length_map, isort_len]); omega))) only [s_renamed, b_renamed, c1, c2, bvN, bvC, svE, svS, svPr, svSt, svIf, svRe, svRn, svRa, svTr, evV, evK, evG, evP, evS3, evCh, evNt, evBo, evFi, evTu, evLi, evCa, evMe, evLc, evsN, evsC, evbN, evbC, bindOk, toSOk, thenNx, thenRt, thenEx, ttB, snaps, snap, mkR, Mn.fresh, setT, datas, pars, meD, stD, itV, itD, seqOf, List.getElem?_cons_zero, List.getElem?_cons_succ, List.getElem?_nil, List.set_cons_zero, List.set_cons_succ, Option.map_some, Option.map_none, Bool.false_eq_true, if_false, if_true, List.length_cons, List.length_nil, Nat.zero_add, Nat.reduceAdd, List.map_cons, List.map_nil, eq_self, decide_true, decide_false, Bool.not_true, Bool.not_false, beq_self_eq_true, Int.reduceToNat, List.replicate_succ, List.replicate_zero, List.cons_append, List.nil_append, brcB, brcX, brcIte, thenIte, finIte, toSIte, bindIte, finRt, finNx, finX, toSX, bindX, evl_eq, calmOk, lim0, lim1, lim2, lim3, lim4, lim_map, lim_ints, mapA_map, mapA_ints, mapA_pure, mapA_ite, same_d, same_s, same_n, andC, orC, ints_map, ints_id, ints_int, List.take_length, tf, ft, Tg.slots, wpE, Int.cast_ofNat_Int, Int.reduceEq, Int.reduceLT, Int.reduceLE, Nat.reduceLT, Nat.reduceLeDiff, Bool.and_true, Bool.true_and, Bool.false_and, Bool.and_false, Bool.or_true, Bool.true_or, Bool.or_false, Bool.false_or, ofInts_snoc, List.append_nil, isort_len, pf_add, pf_sub, pf_eqI, pf_neI, pf_ltI, pf_gtI, pf_leI, pf_geI, pf_lenL, pf_lenT, pf_int, pf_abs, pf_neg, pf_min, pf_max, ix0T, ix1T, ix2T, ix3T, ix0L, ix1L, ix2L, rngD_I, List.take_succ_cons, last_get, last_set, take_app, mid_get, mid_set, mid_get1, mid_set1, app_app1, lim_rows, ofRows_snoc, List.append_assoc, Int.zero_add, pf_in, pf_nin, pf_inL, pf_ninL, pf_eqRow, pf_neRow, pf_eqRows, pf_eqInts, pf_sumI, pf_tupT, pf_lst, pf_lstL, pf_rev, pf_isN, pf_notN, isNone, pf_isB, pf_notB, slT_T, slT_L, slF_T, slF_L, slT_last, ofInts_take, ofInts_drop, ofRows_take, ofRows_drop, pf_tupL, pf_srtT, pf_srtL, pf_addT, pf_addL, ofInts_len, ofRows_len, ofInts_app, pf_allP, pf_anyP, raF]
/-! ### all orders -/
theorem permK_le {m : Int} (hm : m ≤ 6) (k : Nat) (hk : k ≤ 6) : (permK m k).length ≤ 46656 := by
  have h1 := permK_len m k
  have h2 : m.toNat ^ k ≤ 6 ^ k := Nat.pow_le_pow_left (by omega) k
  have h3 : 6 ^ k ≤ 6 ^ 6 := Nat.pow_le_pow_right (by omega) hk
  have : (6 : Nat) ^ 6 = 46656 := by decide
  omega
theorem ext_rows (m : Int) (l : List (List Int)) : (l.flatMap fun r => ((rngI 0 m).filter fun x => !mem r x).map fun x => PyData.tuple (ofInts (r ++ [x]))) = ofRows (l.flatMap (ext1 m)) := by
  unfold ofRows
  rw [List.map_flatMap]
  congr 1
  funext r
  unfold ext1
  rw [List.map_map]
  rfl
theorem every_order (n : Nat) {m : Int} (h0 : 0 ≤ m) (h1 : m ≤ 6) (h : MH) : R (n + 1) 10 [.d (.int m)] h = .ok (.d (.list (ofRows (perms m)))) h := by
  have body : ∀ (i : Nat) (a2 : Option Vl), i < m.toNat → ev (R n) q_every_order_0 [some (.d (.int m)), some (.d (.list (ofRows (permK m i)))), a2, none, none] h = .ok (.d (.list (ofRows (permK m (i + 1))))) h := fun i a2 hi => by
    have le1 := permK_le h1 i (by omega)
    have le2 := permK_le h1 (i + 1) (by omega)
    rw [show permK m (i + 1) = (permK m i).flatMap (ext1 m) from rfl] at le2 ⊢
    rw [← ext_rows]
    refine l2_pf (φ := ofRow) (ψ := .int) (L := permK m i) (vs := [.d (.list (ofRows (permK m i)))]) (fun _ => rngI 0 m) (fun r x => !mem r x) (fun r x => .tuple (ofInts (r ++ [x]))) (by simp (disch := (first | exact dv_nn _ _ | (exact dv_lt _ (by omega)) | ((try simp only [ofInts_len, ofRows_len, rngI_len, List.length_append, List.length_cons, List.length_nil, List.length_map, isort_len]); omega))) only [bvN, bvC, svE, svS, svPr, svSt, svIf, svRe, svRn, svRa, svTr, evV, evK, evG, evP, evS3, evCh, evNt, evBo, evFi, evTu, evLi, evCa, evMe, evLc, evsN, evsC, evbN, evbC, bindOk, toSOk, thenNx, thenRt, thenEx, ttB, snaps, snap, mkR, Mn.fresh, setT, datas, pars, meD, stD, itV, itD, seqOf, List.getElem?_cons_zero, List.getElem?_cons_succ, List.getElem?_nil, List.set_cons_zero, List.set_cons_succ, Option.map_some, Option.map_none, Bool.false_eq_true, if_false, if_true, List.length_cons, List.length_nil, Nat.zero_add, Nat.reduceAdd, List.map_cons, List.map_nil, eq_self, decide_true, decide_false, Bool.not_true, Bool.not_false, beq_self_eq_true, Int.reduceToNat, List.replicate_succ, List.replicate_zero, List.cons_append, List.nil_append, brcB, brcX, brcIte, thenIte, finIte, toSIte, bindIte, finRt, finNx, finX, toSX, bindX, evl_eq, calmOk, lim0, lim1, lim2, lim3, lim4, lim_map, lim_ints, mapA_map, mapA_ints, mapA_pure, mapA_ite, same_d, same_s, same_n, andC, orC, ints_map, ints_id, ints_int, List.take_length, tf, ft, Tg.slots, wpE, Int.cast_ofNat_Int, Int.reduceEq, Int.reduceLT, Int.reduceLE, Nat.reduceLT, Nat.reduceLeDiff, Bool.and_true, Bool.true_and, Bool.false_and, Bool.and_false, Bool.or_true, Bool.true_or, Bool.or_false, Bool.false_or, ofInts_snoc, List.append_nil, isort_len, pf_add, pf_sub, pf_eqI, pf_neI, pf_ltI, pf_gtI, pf_leI, pf_geI, pf_lenL, pf_lenT, pf_int, pf_abs, pf_neg, pf_min, pf_max, ix0T, ix1T, ix2T, ix3T, ix0L, ix1L, ix2L, rngD_I, List.take_succ_cons, last_get, last_set, take_app, mid_get, mid_set, mid_get1, mid_set1, app_app1, lim_rows, ofRows_snoc, List.append_assoc, Int.zero_add, pf_in, pf_nin, pf_inL, pf_ninL, pf_eqRow, pf_neRow, pf_eqRows, pf_eqInts, pf_sumI, pf_tupT, pf_lst, pf_lstL, pf_rev, pf_isN, pf_notN, isNone, pf_isB, pf_notB, slT_T, slT_L, slF_T, slF_L, slT_last, ofInts_take, ofInts_drop, ofRows_take, ofRows_drop, pf_tupL, pf_srtT, pf_srtL, pf_addT, pf_addL, ofInts_len, ofRows_len, ofInts_app, pf_allP, pf_anyP, raF]) rfl (by omega) rfl (by rw [ext_rows, ofRows_len]; omega) fun r hr => ?_
    have rl := permK_row hr
    refine ⟨[.d (.int m)], _, rfl, by simp (disch := (first | exact dv_nn _ _ | (exact dv_lt _ (by omega)) | ((try simp only [ofInts_len, ofRows_len, rngI_len, List.length_append, List.length_cons, List.length_nil, List.length_map, isort_len]); omega))) only [bvN, bvC, svE, svS, svPr, svSt, svIf, svRe, svRn, svRa, svTr, evV, evK, evG, evP, evS3, evCh, evNt, evBo, evFi, evTu, evLi, evCa, evMe, evLc, evsN, evsC, evbN, evbC, bindOk, toSOk, thenNx, thenRt, thenEx, ttB, snaps, snap, mkR, Mn.fresh, setT, datas, pars, meD, stD, itV, itD, seqOf, List.getElem?_cons_zero, List.getElem?_cons_succ, List.getElem?_nil, List.set_cons_zero, List.set_cons_succ, Option.map_some, Option.map_none, Bool.false_eq_true, if_false, if_true, List.length_cons, List.length_nil, Nat.zero_add, Nat.reduceAdd, List.map_cons, List.map_nil, eq_self, decide_true, decide_false, Bool.not_true, Bool.not_false, beq_self_eq_true, Int.reduceToNat, List.replicate_succ, List.replicate_zero, List.cons_append, List.nil_append, brcB, brcX, brcIte, thenIte, finIte, toSIte, bindIte, finRt, finNx, finX, toSX, bindX, evl_eq, calmOk, lim0, lim1, lim2, lim3, lim4, lim_map, lim_ints, mapA_map, mapA_ints, mapA_pure, mapA_ite, same_d, same_s, same_n, andC, orC, ints_map, ints_id, ints_int, List.take_length, tf, ft, Tg.slots, wpE, Int.cast_ofNat_Int, Int.reduceEq, Int.reduceLT, Int.reduceLE, Nat.reduceLT, Nat.reduceLeDiff, Bool.and_true, Bool.true_and, Bool.false_and, Bool.and_false, Bool.or_true, Bool.true_or, Bool.or_false, Bool.false_or, ofInts_snoc, List.append_nil, isort_len, pf_add, pf_sub, pf_eqI, pf_neI, pf_ltI, pf_gtI, pf_leI, pf_geI, pf_lenL, pf_lenT, pf_int, pf_abs, pf_neg, pf_min, pf_max, ix0T, ix1T, ix2T, ix3T, ix0L, ix1L, ix2L, rngD_I, List.take_succ_cons, last_get, last_set, take_app, mid_get, mid_set, mid_get1, mid_set1, app_app1, lim_rows, ofRows_snoc, List.append_assoc, Int.zero_add, pf_in, pf_nin, pf_inL, pf_ninL, pf_eqRow, pf_neRow, pf_eqRows, pf_eqInts, pf_sumI, pf_tupT, pf_lst, pf_lstL, pf_rev, pf_isN, pf_notN, isNone, pf_isB, pf_notB, slT_T, slT_L, slF_T, slF_L, slT_last, ofInts_take, ofInts_drop, ofRows_take, ofRows_drop, pf_tupL, pf_srtT, pf_srtL, pf_addT, pf_addL, ofInts_len, ofRows_len, ofInts_app, pf_allP, pf_anyP, raF], by rw [itV_r1 _ _ (by omega) (by omega)]; rfl, by rw [rngI_len]; omega, rfl, fun x hx => ?_⟩
    simp (disch := (first | exact dv_nn _ _ | (exact dv_lt _ (by omega)) | ((try simp only [ofInts_len, ofRows_len, rngI_len, List.length_append, List.length_cons, List.length_nil, List.length_map, isort_len]); omega))) only [ofRow, bvN, bvC, svE, svS, svPr, svSt, svIf, svRe, svRn, svRa, svTr, evV, evK, evG, evP, evS3, evCh, evNt, evBo, evFi, evTu, evLi, evCa, evMe, evLc, evsN, evsC, evbN, evbC, bindOk, toSOk, thenNx, thenRt, thenEx, ttB, snaps, snap, mkR, Mn.fresh, setT, datas, pars, meD, stD, itV, itD, seqOf, List.getElem?_cons_zero, List.getElem?_cons_succ, List.getElem?_nil, List.set_cons_zero, List.set_cons_succ, Option.map_some, Option.map_none, Bool.false_eq_true, if_false, if_true, List.length_cons, List.length_nil, Nat.zero_add, Nat.reduceAdd, List.map_cons, List.map_nil, eq_self, decide_true, decide_false, Bool.not_true, Bool.not_false, beq_self_eq_true, Int.reduceToNat, List.replicate_succ, List.replicate_zero, List.cons_append, List.nil_append, brcB, brcX, brcIte, thenIte, finIte, toSIte, bindIte, finRt, finNx, finX, toSX, bindX, evl_eq, calmOk, lim0, lim1, lim2, lim3, lim4, lim_map, lim_ints, mapA_map, mapA_ints, mapA_pure, mapA_ite, same_d, same_s, same_n, andC, orC, ints_map, ints_id, ints_int, List.take_length, tf, ft, Tg.slots, wpE, Int.cast_ofNat_Int, Int.reduceEq, Int.reduceLT, Int.reduceLE, Nat.reduceLT, Nat.reduceLeDiff, Bool.and_true, Bool.true_and, Bool.false_and, Bool.and_false, Bool.or_true, Bool.true_or, Bool.or_false, Bool.false_or, ofInts_snoc, List.append_nil, isort_len, pf_add, pf_sub, pf_eqI, pf_neI, pf_ltI, pf_gtI, pf_leI, pf_geI, pf_lenL, pf_lenT, pf_int, pf_abs, pf_neg, pf_min, pf_max, ix0T, ix1T, ix2T, ix3T, ix0L, ix1L, ix2L, rngD_I, List.take_succ_cons, last_get, last_set, take_app, mid_get, mid_set, mid_get1, mid_set1, app_app1, lim_rows, ofRows_snoc, List.append_assoc, Int.zero_add, pf_in, pf_nin, pf_inL, pf_ninL, pf_eqRow, pf_neRow, pf_eqRows, pf_eqInts, pf_sumI, pf_tupT, pf_lst, pf_lstL, pf_rev, pf_isN, pf_notN, isNone, pf_isB, pf_notB, slT_T, slT_L, slF_T, slF_L, slT_last, ofInts_take, ofInts_drop, ofRows_take, ofRows_drop, pf_tupL, pf_srtT, pf_srtL, pf_addT, pf_addL, ofInts_len, ofRows_len, ofInts_app, pf_allP, pf_anyP, raF]
  have key := forR_map (ok := fun h' => same h h' [.d (.int m)]) (t := .n 2) (f := bv WW up (R n) o_every_order_0) .int
    (fun i e h' => h' = h ∧ ∃ a2 : Option Vl, e = [some (.d (.int m)), some (.d (.list (ofRows (permK m i)))), a2, none, none]) (xs := rngI 0 m) (fun _ _ _ _ => rfl) (fun i x e h' hx ⟨q1, a2, q2⟩ => by
      subst q1; subst q2
      have hi := (List.getElem?_eq_some_iff.mp hx).1
      rw [rngI_len] at hi
      have b := body i (some (.d (.int x))) (by omega)
      exact ⟨_, rfl, _, _, by simp (disch := (first | exact dv_nn _ _ | (exact dv_lt _ (by omega)) | ((try simp only [ofInts_len, ofRows_len, rngI_len, List.length_append, List.length_cons, List.length_nil, List.length_map, isort_len]); omega))) only [o_every_order_0, b, bvN, bvC, svE, svS, svPr, svSt, svIf, svRe, svRn, svRa, svTr, evV, evK, evG, evP, evS3, evCh, evNt, evBo, evFi, evTu, evLi, evCa, evMe, evsN, evsC, evbN, evbC, bindOk, toSOk, thenNx, thenRt, thenEx, ttB, snaps, snap, mkR, Mn.fresh, setT, datas, pars, meD, stD, itV, itD, seqOf, List.getElem?_cons_zero, List.getElem?_cons_succ, List.getElem?_nil, List.set_cons_zero, List.set_cons_succ, Option.map_some, Option.map_none, Bool.false_eq_true, if_false, if_true, List.length_cons, List.length_nil, Nat.zero_add, Nat.reduceAdd, List.map_cons, List.map_nil, eq_self, decide_true, decide_false, Bool.not_true, Bool.not_false, beq_self_eq_true, Int.reduceToNat, List.replicate_succ, List.replicate_zero, List.cons_append, List.nil_append, brcB, brcX, brcIte, thenIte, finIte, toSIte, bindIte, finRt, finNx, finX, toSX, bindX, evl_eq, calmOk, lim0, lim1, lim2, lim3, lim4, lim_map, lim_ints, mapA_map, mapA_ints, mapA_pure, mapA_ite, same_d, same_s, same_n, andC, orC, ints_map, ints_id, ints_int, List.take_length, tf, ft, Tg.slots, wpE, Int.cast_ofNat_Int, Int.reduceEq, Int.reduceLT, Int.reduceLE, Nat.reduceLT, Nat.reduceLeDiff, Bool.and_true, Bool.true_and, Bool.false_and, Bool.and_false, Bool.or_true, Bool.true_or, Bool.or_false, Bool.false_or, ofInts_snoc, List.append_nil, isort_len, pf_add, pf_sub, pf_eqI, pf_neI, pf_ltI, pf_gtI, pf_leI, pf_geI, pf_lenL, pf_lenT, pf_int, pf_abs, pf_neg, pf_min, pf_max, ix0T, ix1T, ix2T, ix3T, ix0L, ix1L, ix2L, rngD_I, List.take_succ_cons, last_get, last_set, take_app, mid_get, mid_set, mid_get1, mid_set1, app_app1, lim_rows, ofRows_snoc, List.append_assoc, Int.zero_add, pf_in, pf_nin, pf_inL, pf_ninL, pf_eqRow, pf_neRow, pf_eqRows, pf_eqInts, pf_sumI, pf_tupT, pf_lst, pf_lstL, pf_rev, pf_isN, pf_notN, isNone, pf_isB, pf_notB, slT_T, slT_L, slF_T, slF_L, slT_last, ofInts_take, ofInts_drop, ofRows_take, ofRows_drop, pf_tupL, pf_srtT, pf_srtL, pf_addT, pf_addL, ofInts_len, ofRows_len, ofInts_app, pf_allP, pf_anyP, raF]; rfl, rfl, _, rfl⟩)
    (e := [some (.d (.int m)), some (.d (.list (ofRows [[]]))), none, none, none]) (h := h) ⟨rfl, none, rfl⟩
  obtain ⟨e', h', r1, rfl, a2, rfl⟩ := key
  rw [rngI_len] at r1
  have hfo : sv WW up (R n) l_every_order_0 [some (.d (.int m)), some (.d (.list (ofRows [[]]))), none, none, none] h' = _ := (svFo_eq (vs := [.d (.int m)]) (by simp (disch := (first | exact dv_nn _ _ | (exact dv_lt _ (by omega)) | ((try simp only [ofInts_len, ofRows_len, rngI_len, List.length_append, List.length_cons, List.length_nil, List.length_map, isort_len]); omega))) only [bvN, bvC, svE, svS, svPr, svSt, svIf, svRe, svRn, svRa, svTr, evV, evK, evG, evP, evS3, evCh, evNt, evBo, evFi, evTu, evLi, evCa, evMe, evLc, evsN, evsC, evbN, evbC, bindOk, toSOk, thenNx, thenRt, thenEx, ttB, snaps, snap, mkR, Mn.fresh, setT, datas, pars, meD, stD, itV, itD, seqOf, List.getElem?_cons_zero, List.getElem?_cons_succ, List.getElem?_nil, List.set_cons_zero, List.set_cons_succ, Option.map_some, Option.map_none, Bool.false_eq_true, if_false, if_true, List.length_cons, List.length_nil, Nat.zero_add, Nat.reduceAdd, List.map_cons, List.map_nil, eq_self, decide_true, decide_false, Bool.not_true, Bool.not_false, beq_self_eq_true, Int.reduceToNat, List.replicate_succ, List.replicate_zero, List.cons_append, List.nil_append, brcB, brcX, brcIte, thenIte, finIte, toSIte, bindIte, finRt, finNx, finX, toSX, bindX, evl_eq, calmOk, lim0, lim1, lim2, lim3, lim4, lim_map, lim_ints, mapA_map, mapA_ints, mapA_pure, mapA_ite, same_d, same_s, same_n, andC, orC, ints_map, ints_id, ints_int, List.take_length, tf, ft, Tg.slots, wpE, Int.cast_ofNat_Int, Int.reduceEq, Int.reduceLT, Int.reduceLE, Nat.reduceLT, Nat.reduceLeDiff, Bool.and_true, Bool.true_and, Bool.false_and, Bool.and_false, Bool.or_true, Bool.true_or, Bool.or_false, Bool.false_or, ofInts_snoc, List.append_nil, isort_len, pf_add, pf_sub, pf_eqI, pf_neI, pf_ltI, pf_gtI, pf_leI, pf_geI, pf_lenL, pf_lenT, pf_int, pf_abs, pf_neg, pf_min, pf_max, ix0T, ix1T, ix2T, ix3T, ix0L, ix1L, ix2L, rngD_I, List.take_succ_cons, last_get, last_set, take_app, mid_get, mid_set, mid_get1, mid_set1, app_app1, lim_rows, ofRows_snoc, List.append_assoc, Int.zero_add, pf_in, pf_nin, pf_inL, pf_ninL, pf_eqRow, pf_neRow, pf_eqRows, pf_eqInts, pf_sumI, pf_tupT, pf_lst, pf_lstL, pf_rev, pf_isN, pf_notN, isNone, pf_isB, pf_notB, slT_T, slT_L, slF_T, slF_L, slT_last, ofInts_take, ofInts_drop, ofRows_take, ofRows_drop, pf_tupL, pf_srtT, pf_srtL, pf_addT, pf_addL, ofInts_len, ofRows_len, ofInts_app, pf_allP, pf_anyP, raF]) (by rw [itV_r1 _ _ (by omega) (by omega)]; rfl)).trans r1
  have h2 : (m - 0).toNat = m.toNat := by omega
  have e0 : ofRows [[]] = [PyData.tuple []] := rfl
  rw [h2, e0] at hfo
  simp (disch := (first | exact dv_nn _ _ | (exact dv_lt _ (by omega)) | ((try simp only [ofInts_len, ofRows_len, rngI_len, List.length_append, List.length_cons, List.length_nil, List.length_map, isort_len]); omega))) only [s_every_order, b_every_order, hfo, perms, bvN, bvC, svE, svS, svPr, svSt, svIf, svRe, svRn, svRa, svTr, evV, evK, evG, evP, evS3, evCh, evNt, evBo, evFi, evTu, evLi, evCa, evMe, evsN, evsC, evbN, evbC, bindOk, toSOk, thenNx, thenRt, thenEx, ttB, snaps, snap, mkR, Mn.fresh, setT, datas, pars, meD, stD, itV, itD, seqOf, List.getElem?_cons_zero, List.getElem?_cons_succ, List.getElem?_nil, List.set_cons_zero, List.set_cons_succ, Option.map_some, Option.map_none, Bool.false_eq_true, if_false, if_true, List.length_cons, List.length_nil, Nat.zero_add, Nat.reduceAdd, List.map_cons, List.map_nil, eq_self, decide_true, decide_false, Bool.not_true, Bool.not_false, beq_self_eq_true, Int.reduceToNat, List.replicate_succ, List.replicate_zero, List.cons_append, List.nil_append, brcB, brcX, brcIte, thenIte, finIte, toSIte, bindIte, finRt, finNx, finX, toSX, bindX, evl_eq, calmOk, lim0, lim1, lim2, lim3, lim4, lim_map, lim_ints, mapA_map, mapA_ints, mapA_pure, mapA_ite, same_d, same_s, same_n, andC, orC, ints_map, ints_id, ints_int, List.take_length, tf, ft, Tg.slots, wpE, Int.cast_ofNat_Int, Int.reduceEq, Int.reduceLT, Int.reduceLE, Nat.reduceLT, Nat.reduceLeDiff, Bool.and_true, Bool.true_and, Bool.false_and, Bool.and_false, Bool.or_true, Bool.true_or, Bool.or_false, Bool.false_or, ofInts_snoc, List.append_nil, isort_len, pf_add, pf_sub, pf_eqI, pf_neI, pf_ltI, pf_gtI, pf_leI, pf_geI, pf_lenL, pf_lenT, pf_int, pf_abs, pf_neg, pf_min, pf_max, ix0T, ix1T, ix2T, ix3T, ix0L, ix1L, ix2L, rngD_I, List.take_succ_cons, last_get, last_set, take_app, mid_get, mid_set, mid_get1, mid_set1, app_app1, lim_rows, ofRows_snoc, List.append_assoc, Int.zero_add, pf_in, pf_nin, pf_inL, pf_ninL, pf_eqRow, pf_neRow, pf_eqRows, pf_eqInts, pf_sumI, pf_tupT, pf_lst, pf_lstL, pf_rev, pf_isN, pf_notN, isNone, pf_isB, pf_notB, slT_T, slT_L, slF_T, slF_L, slT_last, ofInts_take, ofInts_drop, ofRows_take, ofRows_drop, pf_tupL, pf_srtT, pf_srtL, pf_addT, pf_addL, ofInts_len, ofRows_len, ofInts_app, pf_allP, pf_anyP, raF]
end K61

/-! codes, alike elections: the program. -/
namespace K61
open PySem Mn
def fd : Option (List (List Int)) → PyData
  | none => .none
  | some t => .list (ofRows t)
def codeF (bs : List (List Int)) (found : Option (List (List Int))) (p : List Int) : Option (List (List Int)) :=
  match found with
  | none => some (tabR bs p)
  | some t => if ltT (tabR bs p) t = true then some (tabR bs p) else some t
theorem codeF_fold (bs : List (List Int)) : ∀ (ps : List (List Int)) (t : List (List Int)), ps.foldl (codeF bs) (some t) = some (minG ltT t (ps.map (tabR bs)))
  | [], t => rfl
  | p :: ps, t => by
    rw [List.foldl_cons, List.map_cons]
    show ps.foldl (codeF bs) (if ltT (tabR bs p) t = true then some (tabR bs p) else some t) = some (minG ltT (if ltT (tabR bs p) t = true then tabR bs p else t) (ps.map (tabR bs)))
    split <;> exact codeF_fold bs ps _
theorem codeF_all {m : Int} (hm : 0 ≤ m) (bs : List (List Int)) : (perms m).foldl (codeF bs) none = some (codeT m bs) := by
  have ne := tabs_ne hm bs
  unfold codeT tabs at *
  cases h : perms m with
  | nil => rw [h] at ne; exact absurd rfl ne
  | cons p ps => rw [List.foldl_cons, List.map_cons]; exact codeF_fold bs ps (tabR bs p)
theorem rows_map (bs : List (List Int)) (p : List Int) : (bs.map fun b => PyData.tuple (ofInts (mpR p b))) = ofRows (bs.map (mpR p)) := by
  unfold ofRows; rw [List.map_map]; rfl
theorem code_large (n : Nat) {m s : Int} {bs : List (List Int)} (E : Elc m bs s) (hm : 6 < m) (h : MH) : R (n + 5) 11 [.d (elOf m bs s)] h = .ex 1 (.str "large") h := by
  have c := check_el n E h
  have d : decide ((6 : Int) < m) = true := decide_eq_true hm
  simp (disch := (first | exact dv_nn _ _ | (exact dv_lt _ (by omega)) | ((try simp only [ofInts_len, ofRows_len, rngI_len, List.length_append, List.length_cons, List.length_nil, List.length_map, isort_len]); omega))) only [s_code, b_code, c, d, bvN, bvC, svE, svS, svPr, svSt, svIf, svRe, svRn, svRa, svTr, evV, evK, evG, evP, evS3, evCh, evNt, evBo, evFi, evTu, evLi, evCa, evMe, evLc, evsN, evsC, evbN, evbC, bindOk, toSOk, thenNx, thenRt, thenEx, ttB, snaps, snap, mkR, Mn.fresh, setT, datas, pars, meD, stD, itV, itD, seqOf, List.getElem?_cons_zero, List.getElem?_cons_succ, List.getElem?_nil, List.set_cons_zero, List.set_cons_succ, Option.map_some, Option.map_none, Bool.false_eq_true, if_false, if_true, List.length_cons, List.length_nil, Nat.zero_add, Nat.reduceAdd, List.map_cons, List.map_nil, eq_self, decide_true, decide_false, Bool.not_true, Bool.not_false, beq_self_eq_true, Int.reduceToNat, List.replicate_succ, List.replicate_zero, List.cons_append, List.nil_append, brcB, brcX, brcIte, thenIte, finIte, toSIte, bindIte, finRt, finNx, finX, toSX, bindX, evl_eq, calmOk, lim0, lim1, lim2, lim3, lim4, lim_map, lim_ints, mapA_map, mapA_ints, mapA_pure, mapA_ite, same_d, same_s, same_n, andC, orC, ints_map, ints_id, ints_int, List.take_length, tf, ft, Tg.slots, wpE, Int.cast_ofNat_Int, Int.reduceEq, Int.reduceLT, Int.reduceLE, Nat.reduceLT, Nat.reduceLeDiff, Bool.and_true, Bool.true_and, Bool.false_and, Bool.and_false, Bool.or_true, Bool.true_or, Bool.or_false, Bool.false_or, ofInts_snoc, List.append_nil, isort_len, pf_add, pf_sub, pf_eqI, pf_neI, pf_ltI, pf_gtI, pf_leI, pf_geI, pf_lenL, pf_lenT, pf_int, pf_abs, pf_neg, pf_min, pf_max, ix0T, ix1T, ix2T, ix3T, ix0L, ix1L, ix2L, rngD_I, List.take_succ_cons, last_get, last_set, take_app, mid_get, mid_set, mid_get1, mid_set1, app_app1, lim_rows, ofRows_snoc, List.append_assoc, Int.zero_add, pf_in, pf_nin, pf_inL, pf_ninL, pf_eqRow, pf_neRow, pf_eqRows, pf_eqInts, pf_sumI, pf_tupT, pf_lst, pf_lstL, pf_rev, pf_isN, pf_notN, isNone, pf_isB, pf_notB, slT_T, slT_L, slF_T, slF_L, slT_last, ofInts_take, ofInts_drop, ofRows_take, ofRows_drop, pf_tupL, pf_srtT, pf_srtL, pf_addT, pf_addL, ofInts_len, ofRows_len, ofInts_app, pf_allP, pf_anyP, raF]
theorem code_ok (n : Nat) {m s : Int} {bs : List (List Int)} (E : Elc m bs s) (hm : m ≤ 6) (h : MH) : R (n + 5) 11 [.d (elOf m bs s)] h = .ok (.d (elOf m (codeT m bs) s)) h := by
  have c := check_el n E h
  have m1 := E.m1
  have d : decide ((6 : Int) < m) = false := decide_eq_false (by omega)
  have eo := every_order (n + 3) (m := m) (by omega) hm h
  have q : ∀ (p : List Int), IsP m p → ∀ (a0 a1 a3 a5 a6 : Option Vl), ev (R (n + 4)) q_code_0 [a0, a1, some (.d (.tuple (ofInts p))), a3, some (.d (.tuple (ofRows bs))), a5, a6, none] h = .ok (.d (.list (ofRows (bs.map (mpR p))))) h := fun p hp a0 a1 a3 a5 a6 => by
    rw [← rows_map]
    refine lc_p (φ := ofRow) (L := bs) (vs := [.d (.tuple (ofRows bs))]) (fun b => .tuple (ofInts (mpR p b))) (by simp (disch := (first | exact dv_nn _ _ | (exact dv_lt _ (by omega)) | ((try simp only [ofInts_len, ofRows_len, rngI_len, List.length_append, List.length_cons, List.length_nil, List.length_map, isort_len]); omega))) only [bvN, bvC, svE, svS, svPr, svSt, svIf, svRe, svRn, svRa, svTr, evV, evK, evG, evP, evS3, evCh, evNt, evBo, evFi, evTu, evLi, evCa, evMe, evLc, evsN, evsC, evbN, evbC, bindOk, toSOk, thenNx, thenRt, thenEx, ttB, snaps, snap, mkR, Mn.fresh, setT, datas, pars, meD, stD, itV, itD, seqOf, List.getElem?_cons_zero, List.getElem?_cons_succ, List.getElem?_nil, List.set_cons_zero, List.set_cons_succ, Option.map_some, Option.map_none, Bool.false_eq_true, if_false, if_true, List.length_cons, List.length_nil, Nat.zero_add, Nat.reduceAdd, List.map_cons, List.map_nil, eq_self, decide_true, decide_false, Bool.not_true, Bool.not_false, beq_self_eq_true, Int.reduceToNat, List.replicate_succ, List.replicate_zero, List.cons_append, List.nil_append, brcB, brcX, brcIte, thenIte, finIte, toSIte, bindIte, finRt, finNx, finX, toSX, bindX, evl_eq, calmOk, lim0, lim1, lim2, lim3, lim4, lim_map, lim_ints, mapA_map, mapA_ints, mapA_pure, mapA_ite, same_d, same_s, same_n, andC, orC, ints_map, ints_id, ints_int, List.take_length, tf, ft, Tg.slots, wpE, Int.cast_ofNat_Int, Int.reduceEq, Int.reduceLT, Int.reduceLE, Nat.reduceLT, Nat.reduceLeDiff, Bool.and_true, Bool.true_and, Bool.false_and, Bool.and_false, Bool.or_true, Bool.true_or, Bool.or_false, Bool.false_or, ofInts_snoc, List.append_nil, isort_len, pf_add, pf_sub, pf_eqI, pf_neI, pf_ltI, pf_gtI, pf_leI, pf_geI, pf_lenL, pf_lenT, pf_int, pf_abs, pf_neg, pf_min, pf_max, ix0T, ix1T, ix2T, ix3T, ix0L, ix1L, ix2L, rngD_I, List.take_succ_cons, last_get, last_set, take_app, mid_get, mid_set, mid_get1, mid_set1, app_app1, lim_rows, ofRows_snoc, List.append_assoc, Int.zero_add, pf_in, pf_nin, pf_inL, pf_ninL, pf_eqRow, pf_neRow, pf_eqRows, pf_eqInts, pf_sumI, pf_tupT, pf_lst, pf_lstL, pf_rev, pf_isN, pf_notN, isNone, pf_isB, pf_notB, slT_T, slT_L, slF_T, slF_L, slT_last, ofInts_take, ofInts_drop, ofRows_take, ofRows_drop, pf_tupL, pf_srtT, pf_srtL, pf_addT, pf_addL, ofInts_len, ofRows_len, ofInts_app, pf_allP, pf_anyP, raF]) rfl (by have := E.l2; omega) rfl fun b hb => ?_
    have mo := mapped (n + 3) hp (E.rows b hb).2 (by have := E.len hb; omega) h
    simp (disch := (first | exact dv_nn _ _ | (exact dv_lt _ (by omega)) | ((try simp only [ofInts_len, ofRows_len, rngI_len, List.length_append, List.length_cons, List.length_nil, List.length_map, isort_len]); omega))) only [ofRow, mo, bvN, bvC, svE, svS, svPr, svSt, svIf, svRe, svRn, svRa, svTr, evV, evK, evG, evP, evS3, evCh, evNt, evBo, evFi, evTu, evLi, evCa, evMe, evLc, evsN, evsC, evbN, evbC, bindOk, toSOk, thenNx, thenRt, thenEx, ttB, snaps, snap, mkR, Mn.fresh, setT, datas, pars, meD, stD, itV, itD, seqOf, List.getElem?_cons_zero, List.getElem?_cons_succ, List.getElem?_nil, List.set_cons_zero, List.set_cons_succ, Option.map_some, Option.map_none, Bool.false_eq_true, if_false, if_true, List.length_cons, List.length_nil, Nat.zero_add, Nat.reduceAdd, List.map_cons, List.map_nil, eq_self, decide_true, decide_false, Bool.not_true, Bool.not_false, beq_self_eq_true, Int.reduceToNat, List.replicate_succ, List.replicate_zero, List.cons_append, List.nil_append, brcB, brcX, brcIte, thenIte, finIte, toSIte, bindIte, finRt, finNx, finX, toSX, bindX, evl_eq, calmOk, lim0, lim1, lim2, lim3, lim4, lim_map, lim_ints, mapA_map, mapA_ints, mapA_pure, mapA_ite, same_d, same_s, same_n, andC, orC, ints_map, ints_id, ints_int, List.take_length, tf, ft, Tg.slots, wpE, Int.cast_ofNat_Int, Int.reduceEq, Int.reduceLT, Int.reduceLE, Nat.reduceLT, Nat.reduceLeDiff, Bool.and_true, Bool.true_and, Bool.false_and, Bool.and_false, Bool.or_true, Bool.true_or, Bool.or_false, Bool.false_or, ofInts_snoc, List.append_nil, isort_len, pf_add, pf_sub, pf_eqI, pf_neI, pf_ltI, pf_gtI, pf_leI, pf_geI, pf_lenL, pf_lenT, pf_int, pf_abs, pf_neg, pf_min, pf_max, ix0T, ix1T, ix2T, ix3T, ix0L, ix1L, ix2L, rngD_I, List.take_succ_cons, last_get, last_set, take_app, mid_get, mid_set, mid_get1, mid_set1, app_app1, lim_rows, ofRows_snoc, List.append_assoc, Int.zero_add, pf_in, pf_nin, pf_inL, pf_ninL, pf_eqRow, pf_neRow, pf_eqRows, pf_eqInts, pf_sumI, pf_tupT, pf_lst, pf_lstL, pf_rev, pf_isN, pf_notN, isNone, pf_isB, pf_notB, slT_T, slT_L, slF_T, slF_L, slT_last, ofInts_take, ofInts_drop, ofRows_take, ofRows_drop, pf_tupL, pf_srtT, pf_srtL, pf_addT, pf_addL, ofInts_len, ofRows_len, ofInts_app, pf_allP, pf_anyP, raF]
  have key := forR_fold (ok := fun h' => same h h' [.d (.list (ofRows (perms m)))]) (t := .n 2) (xs := perms m) (f := bv WW up (R (n + 4)) o_code_0) ofRow
    (fun s' : Option (List (List Int)) × Option Vl × Option Vl => [some (.d (elOf m bs s)), some (.d (fd s'.1)), s'.2.1, some (.d (.int m)), some (.d (.tuple (ofRows bs))), some (.d (.int s)), s'.2.2, none]) (fun _ => h)
    (fun s' p => (codeF bs s'.1 p, some (.d (ofRow p)), some (.d (.list (ofRows (tabR bs p)))))) (fun _ => rfl) (s := (none, none, none)) (fun s' p hp => ⟨_, rfl, by
      have hp := perms_iff.mp hp
      have q := q p hp
      have bl := E.l2
      obtain ⟨found, a2, a6⟩ := s'
      cases found with
      | none =>
        simp (disch := (first | exact dv_nn _ _ | (exact dv_lt _ (by omega)) | ((try simp only [ofInts_len, ofRows_len, rngI_len, List.length_append, List.length_cons, List.length_nil, List.length_map, isort_len]); omega))) only [o_code_0, ofRow, fd, codeF, tabR, q, pf_srtR, bvN, bvC, svE, svS, svPr, svSt, svIf, svRe, svRn, svRa, svTr, evV, evK, evG, evP, evS3, evCh, evNt, evBo, evFi, evTu, evLi, evCa, evMe, evsN, evsC, evbN, evbC, bindOk, toSOk, thenNx, thenRt, thenEx, ttB, snaps, snap, mkR, Mn.fresh, setT, datas, pars, meD, stD, itV, itD, seqOf, List.getElem?_cons_zero, List.getElem?_cons_succ, List.getElem?_nil, List.set_cons_zero, List.set_cons_succ, Option.map_some, Option.map_none, Bool.false_eq_true, if_false, if_true, List.length_cons, List.length_nil, Nat.zero_add, Nat.reduceAdd, List.map_cons, List.map_nil, eq_self, decide_true, decide_false, Bool.not_true, Bool.not_false, beq_self_eq_true, Int.reduceToNat, List.replicate_succ, List.replicate_zero, List.cons_append, List.nil_append, brcB, brcX, brcIte, thenIte, finIte, toSIte, bindIte, finRt, finNx, finX, toSX, bindX, evl_eq, calmOk, lim0, lim1, lim2, lim3, lim4, lim_map, lim_ints, mapA_map, mapA_ints, mapA_pure, mapA_ite, same_d, same_s, same_n, andC, orC, ints_map, ints_id, ints_int, List.take_length, tf, ft, Tg.slots, wpE, Int.cast_ofNat_Int, Int.reduceEq, Int.reduceLT, Int.reduceLE, Nat.reduceLT, Nat.reduceLeDiff, Bool.and_true, Bool.true_and, Bool.false_and, Bool.and_false, Bool.or_true, Bool.true_or, Bool.or_false, Bool.false_or, ofInts_snoc, List.append_nil, isort_len, pf_add, pf_sub, pf_eqI, pf_neI, pf_ltI, pf_gtI, pf_leI, pf_geI, pf_lenL, pf_lenT, pf_int, pf_abs, pf_neg, pf_min, pf_max, ix0T, ix1T, ix2T, ix3T, ix0L, ix1L, ix2L, rngD_I, List.take_succ_cons, last_get, last_set, take_app, mid_get, mid_set, mid_get1, mid_set1, app_app1, lim_rows, ofRows_snoc, List.append_assoc, Int.zero_add, pf_in, pf_nin, pf_inL, pf_ninL, pf_eqRow, pf_neRow, pf_eqRows, pf_eqInts, pf_sumI, pf_tupT, pf_lst, pf_lstL, pf_rev, pf_isN, pf_notN, isNone, pf_isB, pf_notB, slT_T, slT_L, slF_T, slF_L, slT_last, ofInts_take, ofInts_drop, ofRows_take, ofRows_drop, pf_tupL, pf_srtT, pf_srtL, pf_addT, pf_addL, ofInts_len, ofRows_len, ofInts_app, pf_allP, pf_anyP, raF]
      | some t =>
        cases ht : ltT (tabR bs p) t with
        | true =>
          have ht' : ltT (isortR (bs.map (mpR p))) t = true := ht
          simp (disch := (first | exact dv_nn _ _ | (exact dv_lt _ (by omega)) | ((try simp only [ofInts_len, ofRows_len, rngI_len, List.length_append, List.length_cons, List.length_nil, List.length_map, isort_len]); omega))) only [o_code_0, ofRow, fd, codeF, tabR, q, pf_srtR, pf_ltT, ht', bvN, bvC, svE, svS, svPr, svSt, svIf, svRe, svRn, svRa, svTr, evV, evK, evG, evP, evS3, evCh, evNt, evBo, evFi, evTu, evLi, evCa, evMe, evsN, evsC, evbN, evbC, bindOk, toSOk, thenNx, thenRt, thenEx, ttB, snaps, snap, mkR, Mn.fresh, setT, datas, pars, meD, stD, itV, itD, seqOf, List.getElem?_cons_zero, List.getElem?_cons_succ, List.getElem?_nil, List.set_cons_zero, List.set_cons_succ, Option.map_some, Option.map_none, Bool.false_eq_true, if_false, if_true, List.length_cons, List.length_nil, Nat.zero_add, Nat.reduceAdd, List.map_cons, List.map_nil, eq_self, decide_true, decide_false, Bool.not_true, Bool.not_false, beq_self_eq_true, Int.reduceToNat, List.replicate_succ, List.replicate_zero, List.cons_append, List.nil_append, brcB, brcX, brcIte, thenIte, finIte, toSIte, bindIte, finRt, finNx, finX, toSX, bindX, evl_eq, calmOk, lim0, lim1, lim2, lim3, lim4, lim_map, lim_ints, mapA_map, mapA_ints, mapA_pure, mapA_ite, same_d, same_s, same_n, andC, orC, ints_map, ints_id, ints_int, List.take_length, tf, ft, Tg.slots, wpE, Int.cast_ofNat_Int, Int.reduceEq, Int.reduceLT, Int.reduceLE, Nat.reduceLT, Nat.reduceLeDiff, Bool.and_true, Bool.true_and, Bool.false_and, Bool.and_false, Bool.or_true, Bool.true_or, Bool.or_false, Bool.false_or, ofInts_snoc, List.append_nil, isort_len, pf_add, pf_sub, pf_eqI, pf_neI, pf_ltI, pf_gtI, pf_leI, pf_geI, pf_lenL, pf_lenT, pf_int, pf_abs, pf_neg, pf_min, pf_max, ix0T, ix1T, ix2T, ix3T, ix0L, ix1L, ix2L, rngD_I, List.take_succ_cons, last_get, last_set, take_app, mid_get, mid_set, mid_get1, mid_set1, app_app1, lim_rows, ofRows_snoc, List.append_assoc, Int.zero_add, pf_in, pf_nin, pf_inL, pf_ninL, pf_eqRow, pf_neRow, pf_eqRows, pf_eqInts, pf_sumI, pf_tupT, pf_lst, pf_lstL, pf_rev, pf_isN, pf_notN, isNone, pf_isB, pf_notB, slT_T, slT_L, slF_T, slF_L, slT_last, ofInts_take, ofInts_drop, ofRows_take, ofRows_drop, pf_tupL, pf_srtT, pf_srtL, pf_addT, pf_addL, ofInts_len, ofRows_len, ofInts_app, pf_allP, pf_anyP, raF]
        | false =>
          have ht' : ltT (isortR (bs.map (mpR p))) t = false := ht
          simp (disch := (first | exact dv_nn _ _ | (exact dv_lt _ (by omega)) | ((try simp only [ofInts_len, ofRows_len, rngI_len, List.length_append, List.length_cons, List.length_nil, List.length_map, isort_len]); omega))) only [o_code_0, ofRow, fd, codeF, tabR, q, pf_srtR, pf_ltT, ht', bvN, bvC, svE, svS, svPr, svSt, svIf, svRe, svRn, svRa, svTr, evV, evK, evG, evP, evS3, evCh, evNt, evBo, evFi, evTu, evLi, evCa, evMe, evsN, evsC, evbN, evbC, bindOk, toSOk, thenNx, thenRt, thenEx, ttB, snaps, snap, mkR, Mn.fresh, setT, datas, pars, meD, stD, itV, itD, seqOf, List.getElem?_cons_zero, List.getElem?_cons_succ, List.getElem?_nil, List.set_cons_zero, List.set_cons_succ, Option.map_some, Option.map_none, Bool.false_eq_true, if_false, if_true, List.length_cons, List.length_nil, Nat.zero_add, Nat.reduceAdd, List.map_cons, List.map_nil, eq_self, decide_true, decide_false, Bool.not_true, Bool.not_false, beq_self_eq_true, Int.reduceToNat, List.replicate_succ, List.replicate_zero, List.cons_append, List.nil_append, brcB, brcX, brcIte, thenIte, finIte, toSIte, bindIte, finRt, finNx, finX, toSX, bindX, evl_eq, calmOk, lim0, lim1, lim2, lim3, lim4, lim_map, lim_ints, mapA_map, mapA_ints, mapA_pure, mapA_ite, same_d, same_s, same_n, andC, orC, ints_map, ints_id, ints_int, List.take_length, tf, ft, Tg.slots, wpE, Int.cast_ofNat_Int, Int.reduceEq, Int.reduceLT, Int.reduceLE, Nat.reduceLT, Nat.reduceLeDiff, Bool.and_true, Bool.true_and, Bool.false_and, Bool.and_false, Bool.or_true, Bool.true_or, Bool.or_false, Bool.false_or, ofInts_snoc, List.append_nil, isort_len, pf_add, pf_sub, pf_eqI, pf_neI, pf_ltI, pf_gtI, pf_leI, pf_geI, pf_lenL, pf_lenT, pf_int, pf_abs, pf_neg, pf_min, pf_max, ix0T, ix1T, ix2T, ix3T, ix0L, ix1L, ix2L, rngD_I, List.take_succ_cons, last_get, last_set, take_app, mid_get, mid_set, mid_get1, mid_set1, app_app1, lim_rows, ofRows_snoc, List.append_assoc, Int.zero_add, pf_in, pf_nin, pf_inL, pf_ninL, pf_eqRow, pf_neRow, pf_eqRows, pf_eqInts, pf_sumI, pf_tupT, pf_lst, pf_lstL, pf_rev, pf_isN, pf_notN, isNone, pf_isB, pf_notB, slT_T, slT_L, slF_T, slF_L, slT_last, ofInts_take, ofInts_drop, ofRows_take, ofRows_drop, pf_tupL, pf_srtT, pf_srtL, pf_addT, pf_addL, ofInts_len, ofRows_len, ofInts_app, pf_allP, pf_anyP, raF]⟩)
  have fst : ∀ (ps : List (List Int)) (s' : Option (List (List Int)) × Option Vl × Option Vl), (ps.foldl (fun s' p => (codeF bs s'.1 p, some (Vl.d (ofRow p)), some (Vl.d (.list (ofRows (tabR bs p)))))) s').1 = ps.foldl (codeF bs) s'.1 := by
    intro ps
    induction ps with
    | nil => intro s'; rfl
    | cons p ps ih => intro s'; exact ih _
  have e1 := fst (perms m) (none, none, none)
  rw [codeF_all (by omega) bs] at e1
  generalize (perms m).foldl (fun (s' : Option (List (List Int)) × Option Vl × Option Vl) p => (codeF bs s'.1 p, some (Vl.d (ofRow p)), some (Vl.d (.list (ofRows (tabR bs p)))))) (none, none, none) = fin' at key e1
  obtain ⟨f1, f2, f3⟩ := fin'
  have e1 : f1 = some (codeT m bs) := e1
  subst e1
  have hfo : sv WW up (R (n + 4)) l_code_0 [some (.d (elOf m bs s)), some (.d .none), none, some (.d (.int m)), some (.d (.tuple (ofRows bs))), some (.d (.int s)), none, none] h = _ := (svFo_eq (vs := [.d (.list (ofRows (perms m)))]) (by simp (disch := (first | exact dv_nn _ _ | (exact dv_lt _ (by omega)) | ((try simp only [ofInts_len, ofRows_len, rngI_len, List.length_append, List.length_cons, List.length_nil, List.length_map, isort_len]); omega))) only [eo, bvN, bvC, svE, svS, svPr, svSt, svIf, svRe, svRn, svRa, svTr, evV, evK, evG, evP, evS3, evCh, evNt, evBo, evFi, evTu, evLi, evCa, evMe, evLc, evsN, evsC, evbN, evbC, bindOk, toSOk, thenNx, thenRt, thenEx, ttB, snaps, snap, mkR, Mn.fresh, setT, datas, pars, meD, stD, itV, itD, seqOf, List.getElem?_cons_zero, List.getElem?_cons_succ, List.getElem?_nil, List.set_cons_zero, List.set_cons_succ, Option.map_some, Option.map_none, Bool.false_eq_true, if_false, if_true, List.length_cons, List.length_nil, Nat.zero_add, Nat.reduceAdd, List.map_cons, List.map_nil, eq_self, decide_true, decide_false, Bool.not_true, Bool.not_false, beq_self_eq_true, Int.reduceToNat, List.replicate_succ, List.replicate_zero, List.cons_append, List.nil_append, brcB, brcX, brcIte, thenIte, finIte, toSIte, bindIte, finRt, finNx, finX, toSX, bindX, evl_eq, calmOk, lim0, lim1, lim2, lim3, lim4, lim_map, lim_ints, mapA_map, mapA_ints, mapA_pure, mapA_ite, same_d, same_s, same_n, andC, orC, ints_map, ints_id, ints_int, List.take_length, tf, ft, Tg.slots, wpE, Int.cast_ofNat_Int, Int.reduceEq, Int.reduceLT, Int.reduceLE, Nat.reduceLT, Nat.reduceLeDiff, Bool.and_true, Bool.true_and, Bool.false_and, Bool.and_false, Bool.or_true, Bool.true_or, Bool.or_false, Bool.false_or, ofInts_snoc, List.append_nil, isort_len, pf_add, pf_sub, pf_eqI, pf_neI, pf_ltI, pf_gtI, pf_leI, pf_geI, pf_lenL, pf_lenT, pf_int, pf_abs, pf_neg, pf_min, pf_max, ix0T, ix1T, ix2T, ix3T, ix0L, ix1L, ix2L, rngD_I, List.take_succ_cons, last_get, last_set, take_app, mid_get, mid_set, mid_get1, mid_set1, app_app1, lim_rows, ofRows_snoc, List.append_assoc, Int.zero_add, pf_in, pf_nin, pf_inL, pf_ninL, pf_eqRow, pf_neRow, pf_eqRows, pf_eqInts, pf_sumI, pf_tupT, pf_lst, pf_lstL, pf_rev, pf_isN, pf_notN, isNone, pf_isB, pf_notB, slT_T, slT_L, slF_T, slF_L, slT_last, ofInts_take, ofInts_drop, ofRows_take, ofRows_drop, pf_tupL, pf_srtT, pf_srtL, pf_addT, pf_addL, ofInts_len, ofRows_len, ofInts_app, pf_allP, pf_anyP, raF]) rfl).trans key
  simp (disch := (first | exact dv_nn _ _ | (exact dv_lt _ (by omega)) | ((try simp only [ofInts_len, ofRows_len, rngI_len, List.length_append, List.length_cons, List.length_nil, List.length_map, isort_len]); omega))) only [s_code, b_code, c, d, hfo, fd, bvN, bvC, svE, svS, svPr, svSt, svIf, svRe, svRn, svRa, svTr, evV, evK, evG, evP, evS3, evCh, evNt, evBo, evFi, evTu, evLi, evCa, evMe, evsN, evsC, evbN, evbC, bindOk, toSOk, thenNx, thenRt, thenEx, ttB, snaps, snap, mkR, Mn.fresh, setT, datas, pars, meD, stD, itV, itD, seqOf, List.getElem?_cons_zero, List.getElem?_cons_succ, List.getElem?_nil, List.set_cons_zero, List.set_cons_succ, Option.map_some, Option.map_none, Bool.false_eq_true, if_false, if_true, List.length_cons, List.length_nil, Nat.zero_add, Nat.reduceAdd, List.map_cons, List.map_nil, eq_self, decide_true, decide_false, Bool.not_true, Bool.not_false, beq_self_eq_true, Int.reduceToNat, List.replicate_succ, List.replicate_zero, List.cons_append, List.nil_append, brcB, brcX, brcIte, thenIte, finIte, toSIte, bindIte, finRt, finNx, finX, toSX, bindX, evl_eq, calmOk, lim0, lim1, lim2, lim3, lim4, lim_map, lim_ints, mapA_map, mapA_ints, mapA_pure, mapA_ite, same_d, same_s, same_n, andC, orC, ints_map, ints_id, ints_int, List.take_length, tf, ft, Tg.slots, wpE, Int.cast_ofNat_Int, Int.reduceEq, Int.reduceLT, Int.reduceLE, Nat.reduceLT, Nat.reduceLeDiff, Bool.and_true, Bool.true_and, Bool.false_and, Bool.and_false, Bool.or_true, Bool.true_or, Bool.or_false, Bool.false_or, ofInts_snoc, List.append_nil, isort_len, pf_add, pf_sub, pf_eqI, pf_neI, pf_ltI, pf_gtI, pf_leI, pf_geI, pf_lenL, pf_lenT, pf_int, pf_abs, pf_neg, pf_min, pf_max, ix0T, ix1T, ix2T, ix3T, ix0L, ix1L, ix2L, rngD_I, List.take_succ_cons, last_get, last_set, take_app, mid_get, mid_set, mid_get1, mid_set1, app_app1, lim_rows, ofRows_snoc, List.append_assoc, Int.zero_add, pf_in, pf_nin, pf_inL, pf_ninL, pf_eqRow, pf_neRow, pf_eqRows, pf_eqInts, pf_sumI, pf_tupT, pf_lst, pf_lstL, pf_rev, pf_isN, pf_notN, isNone, pf_isB, pf_notB, slT_T, slT_L, slF_T, slF_L, slT_last, ofInts_take, ofInts_drop, ofRows_take, ofRows_drop, pf_tupL, pf_srtT, pf_srtL, pf_addT, pf_addL, ofInts_len, ofRows_len, ofInts_app, pf_allP, pf_anyP, raF]
/-! ### the order of the voters -/
def ordT (rows due : List (List Int)) : List Int := (grd rows (rngI 0 rows.length) due).getD []
theorem getD_len0 {o : List Int} {i : Nat} : True := trivial
theorem order_for (n : Nat) {rows due : List (List Int)} (hp : rows.Perm due) (hl : rows.length ≤ 60) (h : MH) : R (n + 1) 12 [.d (.list (ofRows rows)), .d (.tuple (ofRows due))] h = .ok (.d (.tuple (ofInts (ordT rows due)))) h := by
  have hall : ((rngI 0 rows.length).map fun i => rows.getD i.toNat []) = rows := by
    apply List.ext_getElem
    · simp [rngI_len]
    · intro i h1 h2
      rw [List.getElem_map, rngI_get, List.getD_eq_getElem?_getD, Int.toNat_natCast, List.getElem?_eq_getElem h2]; rfl
  obtain ⟨O, g1, g2, g3⟩ := grd_ok rows due (rngI 0 rows.length) (by rw [hall]; exact hp)
  have hO : ordT rows due = O := by unfold ordT; rw [g1]; rfl
  have ol : O.length ≤ 60 := by rw [g3.length_eq, rngI_len]; omega
  rw [hO]
  have dl := hp.length_eq
  have key := forR_map (ok := fun h' => same (h ++ [.l (ofInts (rngI 0 rows.length)), .l []]) h' [.d (.tuple (ofRows due))]) (t := .n 2) (f := bv WW up (R n) o_order_for_0) ofRow
    (fun i e h' => ∃ (free o rest : List Int) (a2 a5 : Option Vl), e = [some (.d (.list (ofRows rows))), some (.d (.tuple (ofRows due))), a2, some (.r h.length), some (.r (h.length + 1)), a5, none] ∧ h' = h ++ [.l (ofInts free), .l (ofInts o)] ∧ grd rows free (due.drop i) = some rest ∧ o ++ rest = O ∧ free.length ≤ 60 ∧ ∀ j ∈ free, 0 ≤ j ∧ j < (rows.length : Int))
    (xs := due) (fun _ _ _ _ => rfl) (fun i d e h' hx ⟨free, o, rest, a2, a5, q1, q2, q3, q4, q5, q6⟩ => by
      subst q1; subst q2
      refine ⟨_, rfl, ?_⟩
      have il : i < due.length := (List.getElem?_eq_some_iff.mp hx).1
      have ed : due.drop i = d :: due.drop (i + 1) := by rw [List.drop_eq_getElem_cons il, (List.getElem?_eq_some_iff.mp hx).2]
      rw [ed] at q3
      simp only [grd] at q3
      cases hf : free.filter (fun i => decide (rows.getD i.toNat [] = d)) with
      | nil => rw [hf] at q3; cases q3
      | cons j r =>
        rw [hf] at q3
        simp only at q3
        obtain ⟨rest', e1, e2⟩ := Option.map_eq_some_iff.mp q3
        have hj : j ∈ free := (List.mem_filter.mp (by rw [hf]; exact List.mem_cons_self : j ∈ free.filter _)).1
        have fl : (j :: r).length ≤ 60 := by rw [← hf]; exact Nat.le_trans (List.length_filter_le _ _) q5
        have q : ∀ (a4 a5 : Option Vl), ev (R n) q_order_for_0 [some (.d (.list (ofRows rows))), some (.d (.tuple (ofRows due))), some (.d (.tuple (ofInts d))), some (.r h.length), a4, a5, none] (h ++ [.l (ofInts free), .l (ofInts o)]) = .ok (.d (.list (ofInts (j :: r)))) (h ++ [.l (ofInts free), .l (ofInts o)]) := fun a4 a5 => by
          have := lc_pf (F := R n) (a := .v 6) (tg := .n 6) (kd := .sq) (es := .c (.v 3) .n) (fs := .c (.p false .eq (.c (.p false .ix (.c (.v 0) (.c (.v 6) .n))) (.c (.v 2) .n))) .n) (e := [some (.d (.list (ofRows rows))), some (.d (.tuple (ofRows due))), some (.d (.tuple (ofInts d))), some (.r h.length), a4, a5, none]) (h := h ++ [.l (ofInts free), .l (ofInts o)])
            (φ := .int) (L := free) (vs := [.r h.length]) (fun i => decide (rows.getD i.toNat [] = d)) (fun i => .int i) (by simp (disch := (first | exact dv_nn _ _ | (exact dv_lt _ (by omega)) | ((try simp only [ofInts_len, ofRows_len, rngI_len, List.length_append, List.length_cons, List.length_nil, List.length_map, isort_len]); omega))) only [bvN, bvC, svE, svS, svPr, svSt, svIf, svRe, svRn, svRa, svTr, evV, evK, evG, evP, evS3, evCh, evNt, evBo, evFi, evTu, evLi, evCa, evMe, evLc, evsN, evsC, evbN, evbC, bindOk, toSOk, thenNx, thenRt, thenEx, ttB, snaps, snap, mkR, Mn.fresh, setT, datas, pars, meD, stD, itV, itD, seqOf, List.getElem?_cons_zero, List.getElem?_cons_succ, List.getElem?_nil, List.set_cons_zero, List.set_cons_succ, Option.map_some, Option.map_none, Bool.false_eq_true, if_false, if_true, List.length_cons, List.length_nil, Nat.zero_add, Nat.reduceAdd, List.map_cons, List.map_nil, eq_self, decide_true, decide_false, Bool.not_true, Bool.not_false, beq_self_eq_true, Int.reduceToNat, List.replicate_succ, List.replicate_zero, List.cons_append, List.nil_append, brcB, brcX, brcIte, thenIte, finIte, toSIte, bindIte, finRt, finNx, finX, toSX, bindX, evl_eq, calmOk, lim0, lim1, lim2, lim3, lim4, lim_map, lim_ints, mapA_map, mapA_ints, mapA_pure, mapA_ite, same_d, same_s, same_n, andC, orC, ints_map, ints_id, ints_int, List.take_length, tf, ft, Tg.slots, wpE, Int.cast_ofNat_Int, Int.reduceEq, Int.reduceLT, Int.reduceLE, Nat.reduceLT, Nat.reduceLeDiff, Bool.and_true, Bool.true_and, Bool.false_and, Bool.and_false, Bool.or_true, Bool.true_or, Bool.or_false, Bool.false_or, ofInts_snoc, List.append_nil, isort_len, pf_add, pf_sub, pf_eqI, pf_neI, pf_ltI, pf_gtI, pf_leI, pf_geI, pf_lenL, pf_lenT, pf_int, pf_abs, pf_neg, pf_min, pf_max, ix0T, ix1T, ix2T, ix3T, ix0L, ix1L, ix2L, rngD_I, List.take_succ_cons, last_get, last_set, take_app, mid_get, mid_set, mid_get1, mid_set1, app_app1, lim_rows, ofRows_snoc, List.append_assoc, Int.zero_add, pf_in, pf_nin, pf_inL, pf_ninL, pf_eqRow, pf_neRow, pf_eqRows, pf_eqInts, pf_sumI, pf_tupT, pf_lst, pf_lstL, pf_rev, pf_isN, pf_notN, isNone, pf_isB, pf_notB, slT_T, slT_L, slF_T, slF_L, slT_last, ofInts_take, ofInts_drop, ofRows_take, ofRows_drop, pf_tupL, pf_srtT, pf_srtL, pf_addT, pf_addL, ofInts_len, ofRows_len, ofInts_app, pf_allP, pf_anyP, raF]) (by simp only [itV, snaps, snap, mid_get, itD, seqOf]; rfl) (by omega) (by simp only [same, mid_get, beqDs_rfl, Bool.and_self]) fun i hi => by
              have g := q6 i hi
              have g1 := g.1
              have g2 := g.2
              simp (disch := (first | exact dv_nn _ _ | (exact dv_lt _ (by omega)) | ((try simp only [ofInts_len, ofRows_len, rngI_len, List.length_append, List.length_cons, List.length_nil, List.length_map, isort_len]); omega))) only [ixRows, bvN, bvC, svE, svS, svPr, svSt, svIf, svRe, svRn, svRa, svTr, evV, evK, evG, evP, evS3, evCh, evNt, evBo, evFi, evTu, evLi, evCa, evMe, evLc, evsN, evsC, evbN, evbC, bindOk, toSOk, thenNx, thenRt, thenEx, ttB, snaps, snap, mkR, Mn.fresh, setT, datas, pars, meD, stD, itV, itD, seqOf, List.getElem?_cons_zero, List.getElem?_cons_succ, List.getElem?_nil, List.set_cons_zero, List.set_cons_succ, Option.map_some, Option.map_none, Bool.false_eq_true, if_false, if_true, List.length_cons, List.length_nil, Nat.zero_add, Nat.reduceAdd, List.map_cons, List.map_nil, eq_self, decide_true, decide_false, Bool.not_true, Bool.not_false, beq_self_eq_true, Int.reduceToNat, List.replicate_succ, List.replicate_zero, List.cons_append, List.nil_append, brcB, brcX, brcIte, thenIte, finIte, toSIte, bindIte, finRt, finNx, finX, toSX, bindX, evl_eq, calmOk, lim0, lim1, lim2, lim3, lim4, lim_map, lim_ints, mapA_map, mapA_ints, mapA_pure, mapA_ite, same_d, same_s, same_n, andC, orC, ints_map, ints_id, ints_int, List.take_length, tf, ft, Tg.slots, wpE, Int.cast_ofNat_Int, Int.reduceEq, Int.reduceLT, Int.reduceLE, Nat.reduceLT, Nat.reduceLeDiff, Bool.and_true, Bool.true_and, Bool.false_and, Bool.and_false, Bool.or_true, Bool.true_or, Bool.or_false, Bool.false_or, ofInts_snoc, List.append_nil, isort_len, pf_add, pf_sub, pf_eqI, pf_neI, pf_ltI, pf_gtI, pf_leI, pf_geI, pf_lenL, pf_lenT, pf_int, pf_abs, pf_neg, pf_min, pf_max, ix0T, ix1T, ix2T, ix3T, ix0L, ix1L, ix2L, rngD_I, List.take_succ_cons, last_get, last_set, take_app, mid_get, mid_set, mid_get1, mid_set1, app_app1, lim_rows, ofRows_snoc, List.append_assoc, Int.zero_add, pf_in, pf_nin, pf_inL, pf_ninL, pf_eqRow, pf_neRow, pf_eqRows, pf_eqInts, pf_sumI, pf_tupT, pf_lst, pf_lstL, pf_rev, pf_isN, pf_notN, isNone, pf_isB, pf_notB, slT_T, slT_L, slF_T, slF_L, slT_last, ofInts_take, ofInts_drop, ofRows_take, ofRows_drop, pf_tupL, pf_srtT, pf_srtL, pf_addT, pf_addL, ofInts_len, ofRows_len, ofInts_app, pf_allP, pf_anyP, raF]
          rw [hf] at this
          exact this
        have ze : ¬ (((j :: r).length : Nat) : Int) = 0 := by simp only [List.length_cons]; omega
        have xj : pf .ix [.list (ofInts (j :: r)), .int 0] = some (.int j) := ix0L _ _
        have ct : free.contains j = true := by simpa using hj
        have oll : o.length ≤ 60 := by rw [← q4] at ol; simp at ol; omega
        generalize j :: r = fitl at *
        have el : (free.eraseIdx (free.idxOf j)).length ≤ 60 := Nat.le_trans (List.length_eraseIdx_le _ _) q5
        refine ⟨_, _, by simp (disch := (first | exact dv_nn _ _ | (exact dv_lt _ (by omega)) | ((try simp only [ofInts_len, ofRows_len, rngI_len, List.length_append, List.length_cons, List.length_nil, List.length_map, isort_len]); omega))) only [o_order_for_0, ofRow, q, ze, xj, asInts_ofInts, ct, List.length_append, bvN, bvC, svE, svS, svPr, svSt, svIf, svRe, svRn, svRa, svTr, evV, evK, evG, evP, evS3, evCh, evNt, evBo, evFi, evTu, evLi, evCa, evMe, evsN, evsC, evbN, evbC, bindOk, toSOk, thenNx, thenRt, thenEx, ttB, snaps, snap, mkR, Mn.fresh, setT, datas, pars, meD, stD, itV, itD, seqOf, List.getElem?_cons_zero, List.getElem?_cons_succ, List.getElem?_nil, List.set_cons_zero, List.set_cons_succ, Option.map_some, Option.map_none, Bool.false_eq_true, if_false, if_true, List.length_cons, List.length_nil, Nat.zero_add, Nat.reduceAdd, List.map_cons, List.map_nil, eq_self, decide_true, decide_false, Bool.not_true, Bool.not_false, beq_self_eq_true, Int.reduceToNat, List.replicate_succ, List.replicate_zero, List.cons_append, List.nil_append, brcB, brcX, brcIte, thenIte, finIte, toSIte, bindIte, finRt, finNx, finX, toSX, bindX, evl_eq, calmOk, lim0, lim1, lim2, lim3, lim4, lim_map, lim_ints, mapA_map, mapA_ints, mapA_pure, mapA_ite, same_d, same_s, same_n, andC, orC, ints_map, ints_id, ints_int, List.take_length, tf, ft, Tg.slots, wpE, Int.cast_ofNat_Int, Int.reduceEq, Int.reduceLT, Int.reduceLE, Nat.reduceLT, Nat.reduceLeDiff, Bool.and_true, Bool.true_and, Bool.false_and, Bool.and_false, Bool.or_true, Bool.true_or, Bool.or_false, Bool.false_or, ofInts_snoc, List.append_nil, isort_len, pf_add, pf_sub, pf_eqI, pf_neI, pf_ltI, pf_gtI, pf_leI, pf_geI, pf_lenL, pf_lenT, pf_int, pf_abs, pf_neg, pf_min, pf_max, ix0T, ix1T, ix2T, ix3T, ix0L, ix1L, ix2L, rngD_I, List.take_succ_cons, last_get, last_set, take_app, mid_get, mid_set, mid_get1, mid_set1, app_app1, lim_rows, ofRows_snoc, List.append_assoc, Int.zero_add, pf_in, pf_nin, pf_inL, pf_ninL, pf_eqRow, pf_neRow, pf_eqRows, pf_eqInts, pf_sumI, pf_tupT, pf_lst, pf_lstL, pf_rev, pf_isN, pf_notN, isNone, pf_isB, pf_notB, slT_T, slT_L, slF_T, slF_L, slT_last, ofInts_take, ofInts_drop, ofRows_take, ofRows_drop, pf_tupL, pf_srtT, pf_srtL, pf_addT, pf_addL, ofInts_len, ofRows_len, ofInts_app, pf_allP, pf_anyP, raF]; rfl, free.eraseIdx (free.idxOf j), o ++ [j], rest', _, _, rfl, rfl, e1, by rw [List.append_assoc, ← q4, ← e2]; rfl, el, fun i hi => q6 i (List.mem_of_mem_eraseIdx hi)⟩)
    (e := [some (.d (.list (ofRows rows))), some (.d (.tuple (ofRows due))), none, some (.r h.length), some (.r (h.length + 1)), none, none]) (h := h ++ [.l (ofInts (rngI 0 rows.length)), .l []]) ⟨rngI 0 rows.length, [], O, none, none, rfl, rfl, g1, rfl, by rw [rngI_len]; omega, fun j hj => rngI_mem.mp hj⟩
  obtain ⟨e', h', r1, free, o, rest, a2, a5, rfl, rfl, q3, q4, q5, q6⟩ := key
  rw [List.drop_length] at q3
  simp only [grd, Option.some.injEq] at q3
  subst q3
  rw [List.append_nil] at q4
  subst q4
  have hfo : sv WW up (R n) l_order_for_0 [some (.d (.list (ofRows rows))), some (.d (.tuple (ofRows due))), none, some (.r h.length), some (.r (h.length + 1)), none, none] (h ++ [.l (ofInts (rngI 0 rows.length)), .l []]) = _ := (svFo_eq (vs := [.d (.tuple (ofRows due))]) (by simp (disch := (first | exact dv_nn _ _ | (exact dv_lt _ (by omega)) | ((try simp only [ofInts_len, ofRows_len, rngI_len, List.length_append, List.length_cons, List.length_nil, List.length_map, isort_len]); omega))) only [bvN, bvC, svE, svS, svPr, svSt, svIf, svRe, svRn, svRa, svTr, evV, evK, evG, evP, evS3, evCh, evNt, evBo, evFi, evTu, evLi, evCa, evMe, evLc, evsN, evsC, evbN, evbC, bindOk, toSOk, thenNx, thenRt, thenEx, ttB, snaps, snap, mkR, Mn.fresh, setT, datas, pars, meD, stD, itV, itD, seqOf, List.getElem?_cons_zero, List.getElem?_cons_succ, List.getElem?_nil, List.set_cons_zero, List.set_cons_succ, Option.map_some, Option.map_none, Bool.false_eq_true, if_false, if_true, List.length_cons, List.length_nil, Nat.zero_add, Nat.reduceAdd, List.map_cons, List.map_nil, eq_self, decide_true, decide_false, Bool.not_true, Bool.not_false, beq_self_eq_true, Int.reduceToNat, List.replicate_succ, List.replicate_zero, List.cons_append, List.nil_append, brcB, brcX, brcIte, thenIte, finIte, toSIte, bindIte, finRt, finNx, finX, toSX, bindX, evl_eq, calmOk, lim0, lim1, lim2, lim3, lim4, lim_map, lim_ints, mapA_map, mapA_ints, mapA_pure, mapA_ite, same_d, same_s, same_n, andC, orC, ints_map, ints_id, ints_int, List.take_length, tf, ft, Tg.slots, wpE, Int.cast_ofNat_Int, Int.reduceEq, Int.reduceLT, Int.reduceLE, Nat.reduceLT, Nat.reduceLeDiff, Bool.and_true, Bool.true_and, Bool.false_and, Bool.and_false, Bool.or_true, Bool.true_or, Bool.or_false, Bool.false_or, ofInts_snoc, List.append_nil, isort_len, pf_add, pf_sub, pf_eqI, pf_neI, pf_ltI, pf_gtI, pf_leI, pf_geI, pf_lenL, pf_lenT, pf_int, pf_abs, pf_neg, pf_min, pf_max, ix0T, ix1T, ix2T, ix3T, ix0L, ix1L, ix2L, rngD_I, List.take_succ_cons, last_get, last_set, take_app, mid_get, mid_set, mid_get1, mid_set1, app_app1, lim_rows, ofRows_snoc, List.append_assoc, Int.zero_add, pf_in, pf_nin, pf_inL, pf_ninL, pf_eqRow, pf_neRow, pf_eqRows, pf_eqInts, pf_sumI, pf_tupT, pf_lst, pf_lstL, pf_rev, pf_isN, pf_notN, isNone, pf_isB, pf_notB, slT_T, slT_L, slF_T, slF_L, slT_last, ofInts_take, ofInts_drop, ofRows_take, ofRows_drop, pf_tupL, pf_srtT, pf_srtL, pf_addT, pf_addL, ofInts_len, ofRows_len, ofInts_app, pf_allP, pf_anyP, raF]) rfl).trans r1
  simp (disch := (first | exact dv_nn _ _ | (exact dv_lt _ (by omega)) | ((try simp only [ofInts_len, ofRows_len, rngI_len, List.length_append, List.length_cons, List.length_nil, List.length_map, isort_len]); omega))) only [s_order_for, b_order_for, pf_rng, hfo, List.length_append, bvN, bvC, svE, svS, svPr, svSt, svIf, svRe, svRn, svRa, svTr, evV, evK, evG, evP, evS3, evCh, evNt, evBo, evFi, evTu, evLi, evCa, evMe, evsN, evsC, evbN, evbC, bindOk, toSOk, thenNx, thenRt, thenEx, ttB, snaps, snap, mkR, Mn.fresh, setT, datas, pars, meD, stD, itV, itD, seqOf, List.getElem?_cons_zero, List.getElem?_cons_succ, List.getElem?_nil, List.set_cons_zero, List.set_cons_succ, Option.map_some, Option.map_none, Bool.false_eq_true, if_false, if_true, List.length_cons, List.length_nil, Nat.zero_add, Nat.reduceAdd, List.map_cons, List.map_nil, eq_self, decide_true, decide_false, Bool.not_true, Bool.not_false, beq_self_eq_true, Int.reduceToNat, List.replicate_succ, List.replicate_zero, List.cons_append, List.nil_append, brcB, brcX, brcIte, thenIte, finIte, toSIte, bindIte, finRt, finNx, finX, toSX, bindX, evl_eq, calmOk, lim0, lim1, lim2, lim3, lim4, lim_map, lim_ints, mapA_map, mapA_ints, mapA_pure, mapA_ite, same_d, same_s, same_n, andC, orC, ints_map, ints_id, ints_int, List.take_length, tf, ft, Tg.slots, wpE, Int.cast_ofNat_Int, Int.reduceEq, Int.reduceLT, Int.reduceLE, Nat.reduceLT, Nat.reduceLeDiff, Bool.and_true, Bool.true_and, Bool.false_and, Bool.and_false, Bool.or_true, Bool.true_or, Bool.or_false, Bool.false_or, ofInts_snoc, List.append_nil, isort_len, pf_add, pf_sub, pf_eqI, pf_neI, pf_ltI, pf_gtI, pf_leI, pf_geI, pf_lenL, pf_lenT, pf_int, pf_abs, pf_neg, pf_min, pf_max, ix0T, ix1T, ix2T, ix3T, ix0L, ix1L, ix2L, rngD_I, List.take_succ_cons, last_get, last_set, take_app, mid_get, mid_set, mid_get1, mid_set1, app_app1, lim_rows, ofRows_snoc, List.append_assoc, Int.zero_add, pf_in, pf_nin, pf_inL, pf_ninL, pf_eqRow, pf_neRow, pf_eqRows, pf_eqInts, pf_sumI, pf_tupT, pf_lst, pf_lstL, pf_rev, pf_isN, pf_notN, isNone, pf_isB, pf_notB, slT_T, slT_L, slF_T, slF_L, slT_last, ofInts_take, ofInts_drop, ofRows_take, ofRows_drop, pf_tupL, pf_srtT, pf_srtL, pf_addT, pf_addL, ofInts_len, ofRows_len, ofInts_app, pf_allP, pf_anyP, raF]
  trace_state
end K61

/-! alike; the law's own. -/
namespace K61
open PySem Mn
theorem forR_find {α : Type} {ok : MH → Bool} {t : Tg} {f : Ev → MH → Ss} {φ : α → PyData} (p : α → Bool) (v : α → Vl) (S : Mn.Ev → Prop) {h : MH} (hok : ok h = true) :
    ∀ {L : List α} {e : Mn.Ev}, S e → (∀ x ∈ L, ∀ e, S e → ∃ e1, setT t (.d (φ x)) e = some e1 ∧ (p x = true → f e1 h = .rt (v x) h) ∧ (p x = false → ∃ e2, f e1 h = .nx e2 h ∧ S e2)) →
      (∀ x, L.find? p = some x → forR ok t f (L.map φ) e h = .rt (v x) h) ∧ (L.find? p = none → ∃ e', forR ok t f (L.map φ) e h = .nx e' h ∧ S e')
  | [], e, hS, _ => ⟨fun x hx => by simp at hx, fun _ => ⟨e, by simp [forR, hok], hS⟩⟩
  | x :: L, e, hS, hf => by
    obtain ⟨e1, h1, h2, h3⟩ := hf x List.mem_cons_self e hS
    cases hp : p x with
    | true =>
      refine ⟨fun y hy => ?_, fun hy => by simp [hp] at hy⟩
      simp only [List.find?_cons, hp, Option.some.injEq] at hy
      subst hy
      simp only [List.map_cons, forR, hok, if_true, h1, h2 hp]
    | false =>
      obtain ⟨e2, h4, h5⟩ := h3 hp
      obtain ⟨g1, g2⟩ := forR_find p v S hok (L := L) h5 fun y m => hf y (List.mem_cons_of_mem _ m)
      refine ⟨fun y hy => ?_, fun hy => ?_⟩
      · simp only [List.find?_cons, hp] at hy
        simp only [List.map_cons, forR, hok, if_true, h1, h4]
        exact g1 y hy
      · simp only [List.find?_cons, hp] at hy
        simp only [List.map_cons, forR, hok, if_true, h1, h4]
        exact g2 hy
/-- the names by which one becomes the other -/
def alikeP (b1 b2 : List (List Int)) (p : List Int) : Bool := decide (isortR (b1.map (mpR p)) = isortR b2)
def namesD (b1 b2 : List (List Int)) (p : List Int) : PyData := .tuple [.tuple (ofInts p), .tuple (ofInts (ordT (b1.map (mpR p)) b2))]
def alikeD (m1 s1 : Int) (b1 : List (List Int)) (m2 s2 : Int) (b2 : List (List Int)) : PyData :=
  if m1 = m2 ∧ s1 = s2 ∧ b1.length = b2.length then (match (perms m1).find? (alikeP b1 b2) with | some p => namesD b1 b2 p | none => .none) else .none
theorem alike_large (n : Nat) {m s m2 s2 : Int} {bs b2 : List (List Int)} (E : Elc m bs s) (E2 : Elc m2 b2 s2) (hm : 6 < m) (h : MH) : R (n + 6) 13 [.d (elOf m bs s), .d (elOf m2 b2 s2)] h = .ex 1 (.str "large") h := by
  have c := check_el (n + 1) E h
  have c2 := check_el (n + 1) E2 h
  have d : decide ((6 : Int) < m) = true := decide_eq_true hm
  simp (disch := (first | exact dv_nn _ _ | (exact dv_lt _ (by omega)) | ((try simp only [ofInts_len, ofRows_len, rngI_len, List.length_append, List.length_cons, List.length_nil, List.length_map, isort_len]); omega))) only [s_alike, b_alike, c, c2, d, bvN, bvC, svE, svS, svPr, svSt, svIf, svRe, svRn, svRa, svTr, evV, evK, evG, evP, evS3, evCh, evNt, evBo, evFi, evTu, evLi, evCa, evMe, evLc, evsN, evsC, evbN, evbC, bindOk, toSOk, thenNx, thenRt, thenEx, ttB, snaps, snap, mkR, Mn.fresh, setT, datas, pars, meD, stD, itV, itD, seqOf, List.getElem?_cons_zero, List.getElem?_cons_succ, List.getElem?_nil, List.set_cons_zero, List.set_cons_succ, Option.map_some, Option.map_none, Bool.false_eq_true, if_false, if_true, List.length_cons, List.length_nil, Nat.zero_add, Nat.reduceAdd, List.map_cons, List.map_nil, eq_self, decide_true, decide_false, Bool.not_true, Bool.not_false, beq_self_eq_true, Int.reduceToNat, List.replicate_succ, List.replicate_zero, List.cons_append, List.nil_append, brcB, brcX, brcIte, thenIte, finIte, toSIte, bindIte, finRt, finNx, finX, toSX, bindX, evl_eq, calmOk, lim0, lim1, lim2, lim3, lim4, lim_map, lim_ints, mapA_map, mapA_ints, mapA_pure, mapA_ite, same_d, same_s, same_n, andC, orC, ints_map, ints_id, ints_int, List.take_length, tf, ft, Tg.slots, wpE, Int.cast_ofNat_Int, Int.reduceEq, Int.reduceLT, Int.reduceLE, Nat.reduceLT, Nat.reduceLeDiff, Bool.and_true, Bool.true_and, Bool.false_and, Bool.and_false, Bool.or_true, Bool.true_or, Bool.or_false, Bool.false_or, ofInts_snoc, List.append_nil, isort_len, pf_add, pf_sub, pf_eqI, pf_neI, pf_ltI, pf_gtI, pf_leI, pf_geI, pf_lenL, pf_lenT, pf_int, pf_abs, pf_neg, pf_min, pf_max, ix0T, ix1T, ix2T, ix3T, ix0L, ix1L, ix2L, rngD_I, List.take_succ_cons, last_get, last_set, take_app, mid_get, mid_set, mid_get1, mid_set1, app_app1, lim_rows, ofRows_snoc, List.append_assoc, Int.zero_add, pf_in, pf_nin, pf_inL, pf_ninL, pf_eqRow, pf_neRow, pf_eqRows, pf_eqInts, pf_sumI, pf_tupT, pf_lst, pf_lstL, pf_rev, pf_isN, pf_notN, isNone, pf_isB, pf_notB, slT_T, slT_L, slF_T, slF_L, slT_last, ofInts_take, ofInts_drop, ofRows_take, ofRows_drop, pf_tupL, pf_srtT, pf_srtL, pf_addT, pf_addL, ofInts_len, ofRows_len, ofInts_app, pf_allP, pf_anyP, raF]
theorem al_cond (m1 s1 m2 s2 : Int) (b1 b2 : List (List Int)) : (!decide (m1 = m2) || (!decide (s1 = s2) || !decide ((b1.length : Int) = (b2.length : Int)))) = !decide (m1 = m2 ∧ s1 = s2 ∧ b1.length = b2.length) := by
  rw [Bool.decide_and, Bool.decide_and, Bool.not_and, Bool.not_and]
  congr 3
  exact decide_eq_decide.mpr (by omega)
theorem alike_ok (n : Nat) {m s m2 s2 : Int} {bs b2 : List (List Int)} (E : Elc m bs s) (E2 : Elc m2 b2 s2) (hm : m ≤ 6) (h : MH) : R (n + 6) 13 [.d (elOf m bs s), .d (elOf m2 b2 s2)] h = .ok (.d (alikeD m s bs m2 s2 b2)) h := by
  have c := check_el (n + 1) E h
  have c2 := check_el (n + 1) E2 h
  have m1 := E.m1
  have l1 := E.l2
  have l2 := E2.l2
  have d : decide ((6 : Int) < m) = false := decide_eq_false (by omega)
  have ac := al_cond m s m2 s2 bs b2
  unfold alikeD
  by_cases hc : m = m2 ∧ s = s2 ∧ bs.length = b2.length
  · rw [if_pos hc]
    rw [decide_eq_true hc] at ac
    have eo := every_order (n + 4) (m := m) (by omega) hm h
    have q : ∀ (p : List Int), IsP m p → ∀ (a1 a2 a4 : Option Vl), Mn.ev (R (n + 5)) q_alike_0 [some (.d (elOf m bs s)), a1, a2, some (.d (.tuple (ofInts p))), a4, none] h = .ok (.d (.list (ofRows (bs.map (mpR p))))) h := fun p hp a1 a2 a4 => by
      rw [← rows_map]
      refine lc_p (φ := ofRow) (L := bs) (vs := [.d (.tuple (ofRows bs))]) (fun b => .tuple (ofInts (mpR p b))) (by simp (disch := (first | exact dv_nn _ _ | (exact dv_lt _ (by omega)) | ((try simp only [ofInts_len, ofRows_len, rngI_len, List.length_append, List.length_cons, List.length_nil, List.length_map, isort_len]); omega))) only [bvN, bvC, svE, svS, svPr, svSt, svIf, svRe, svRn, svRa, svTr, evV, evK, evG, evP, evS3, evCh, evNt, evBo, evFi, evTu, evLi, evCa, evMe, evLc, evsN, evsC, evbN, evbC, bindOk, toSOk, thenNx, thenRt, thenEx, ttB, snaps, snap, mkR, Mn.fresh, setT, datas, pars, meD, stD, itV, itD, seqOf, List.getElem?_cons_zero, List.getElem?_cons_succ, List.getElem?_nil, List.set_cons_zero, List.set_cons_succ, Option.map_some, Option.map_none, Bool.false_eq_true, if_false, if_true, List.length_cons, List.length_nil, Nat.zero_add, Nat.reduceAdd, List.map_cons, List.map_nil, eq_self, decide_true, decide_false, Bool.not_true, Bool.not_false, beq_self_eq_true, Int.reduceToNat, List.replicate_succ, List.replicate_zero, List.cons_append, List.nil_append, brcB, brcX, brcIte, thenIte, finIte, toSIte, bindIte, finRt, finNx, finX, toSX, bindX, evl_eq, calmOk, lim0, lim1, lim2, lim3, lim4, lim_map, lim_ints, mapA_map, mapA_ints, mapA_pure, mapA_ite, same_d, same_s, same_n, andC, orC, ints_map, ints_id, ints_int, List.take_length, tf, ft, Tg.slots, wpE, Int.cast_ofNat_Int, Int.reduceEq, Int.reduceLT, Int.reduceLE, Nat.reduceLT, Nat.reduceLeDiff, Bool.and_true, Bool.true_and, Bool.false_and, Bool.and_false, Bool.or_true, Bool.true_or, Bool.or_false, Bool.false_or, ofInts_snoc, List.append_nil, isort_len, pf_add, pf_sub, pf_eqI, pf_neI, pf_ltI, pf_gtI, pf_leI, pf_geI, pf_lenL, pf_lenT, pf_int, pf_abs, pf_neg, pf_min, pf_max, ix0T, ix1T, ix2T, ix3T, ix0L, ix1L, ix2L, rngD_I, List.take_succ_cons, last_get, last_set, take_app, mid_get, mid_set, mid_get1, mid_set1, app_app1, lim_rows, ofRows_snoc, List.append_assoc, Int.zero_add, pf_in, pf_nin, pf_inL, pf_ninL, pf_eqRow, pf_neRow, pf_eqRows, pf_eqInts, pf_sumI, pf_tupT, pf_lst, pf_lstL, pf_rev, pf_isN, pf_notN, isNone, pf_isB, pf_notB, slT_T, slT_L, slF_T, slF_L, slT_last, ofInts_take, ofInts_drop, ofRows_take, ofRows_drop, pf_tupL, pf_srtT, pf_srtL, pf_addT, pf_addL, ofInts_len, ofRows_len, ofInts_app, pf_allP, pf_anyP, raF]) rfl (by omega) rfl fun b hb => ?_
      have mo := mapped (n + 4) hp (E.rows b hb).2 (by have := E.len hb; omega) h
      simp (disch := (first | exact dv_nn _ _ | (exact dv_lt _ (by omega)) | ((try simp only [ofInts_len, ofRows_len, rngI_len, List.length_append, List.length_cons, List.length_nil, List.length_map, isort_len]); omega))) only [ofRow, mo, bvN, bvC, svE, svS, svPr, svSt, svIf, svRe, svRn, svRa, svTr, evV, evK, evG, evP, evS3, evCh, evNt, evBo, evFi, evTu, evLi, evCa, evMe, evLc, evsN, evsC, evbN, evbC, bindOk, toSOk, thenNx, thenRt, thenEx, ttB, snaps, snap, mkR, Mn.fresh, setT, datas, pars, meD, stD, itV, itD, seqOf, List.getElem?_cons_zero, List.getElem?_cons_succ, List.getElem?_nil, List.set_cons_zero, List.set_cons_succ, Option.map_some, Option.map_none, Bool.false_eq_true, if_false, if_true, List.length_cons, List.length_nil, Nat.zero_add, Nat.reduceAdd, List.map_cons, List.map_nil, eq_self, decide_true, decide_false, Bool.not_true, Bool.not_false, beq_self_eq_true, Int.reduceToNat, List.replicate_succ, List.replicate_zero, List.cons_append, List.nil_append, brcB, brcX, brcIte, thenIte, finIte, toSIte, bindIte, finRt, finNx, finX, toSX, bindX, evl_eq, calmOk, lim0, lim1, lim2, lim3, lim4, lim_map, lim_ints, mapA_map, mapA_ints, mapA_pure, mapA_ite, same_d, same_s, same_n, andC, orC, ints_map, ints_id, ints_int, List.take_length, tf, ft, Tg.slots, wpE, Int.cast_ofNat_Int, Int.reduceEq, Int.reduceLT, Int.reduceLE, Nat.reduceLT, Nat.reduceLeDiff, Bool.and_true, Bool.true_and, Bool.false_and, Bool.and_false, Bool.or_true, Bool.true_or, Bool.or_false, Bool.false_or, ofInts_snoc, List.append_nil, isort_len, pf_add, pf_sub, pf_eqI, pf_neI, pf_ltI, pf_gtI, pf_leI, pf_geI, pf_lenL, pf_lenT, pf_int, pf_abs, pf_neg, pf_min, pf_max, ix0T, ix1T, ix2T, ix3T, ix0L, ix1L, ix2L, rngD_I, List.take_succ_cons, last_get, last_set, take_app, mid_get, mid_set, mid_get1, mid_set1, app_app1, lim_rows, ofRows_snoc, List.append_assoc, Int.zero_add, pf_in, pf_nin, pf_inL, pf_ninL, pf_eqRow, pf_neRow, pf_eqRows, pf_eqInts, pf_sumI, pf_tupT, pf_lst, pf_lstL, pf_rev, pf_isN, pf_notN, isNone, pf_isB, pf_notB, slT_T, slT_L, slF_T, slF_L, slT_last, ofInts_take, ofInts_drop, ofRows_take, ofRows_drop, pf_tupL, pf_srtT, pf_srtL, pf_addT, pf_addL, ofInts_len, ofRows_len, ofInts_app, pf_allP, pf_anyP, raF]
    have key := forR_find (ok := fun h' => same h h' [.d (.list (ofRows (perms m)))]) (t := .n 3) (f := bv WW up (R (n + 5)) o_alike_0) (φ := ofRow) (alikeP bs b2) (fun p => .d (namesD bs b2 p))
      (fun e => ∃ a3 a4 : Option Vl, e = [some (.d (elOf m bs s)), some (.d (elOf m2 b2 s2)), some (.d (.list (ofRows (isortR b2)))), a3, a4, none]) (h := h) rfl (L := perms m) (e := [some (.d (elOf m bs s)), some (.d (elOf m2 b2 s2)), some (.d (.list (ofRows (isortR b2)))), none, none, none]) ⟨none, none, rfl⟩
      (fun p hp e ⟨a3, a4, he⟩ => by
        subst he
        have hp := perms_iff.mp hp
        have q := q p hp
        refine ⟨_, rfl, fun hq => ?_, fun hq => ?_⟩
        · have hq' : decide (isortR (bs.map (mpR p)) = isortR b2) = true := hq
          have of := order_for (n + 4) (rows := bs.map (mpR p)) (due := b2) (perm_of_isortR (of_decide_eq_true hq')) (by rw [List.length_map]; exact l1) h
          simp (disch := (first | exact dv_nn _ _ | (exact dv_lt _ (by omega)) | ((try simp only [ofInts_len, ofRows_len, rngI_len, List.length_append, List.length_cons, List.length_nil, List.length_map, isort_len]); omega))) only [o_alike_0, ofRow, q, pf_srtR, hq', of, namesD, bvN, bvC, svE, svS, svPr, svSt, svIf, svRe, svRn, svRa, svTr, evV, evK, evG, evP, evS3, evCh, evNt, evBo, evFi, evTu, evLi, evCa, evMe, evsN, evsC, evbN, evbC, bindOk, toSOk, thenNx, thenRt, thenEx, ttB, snaps, snap, mkR, Mn.fresh, setT, datas, pars, meD, stD, itV, itD, seqOf, List.getElem?_cons_zero, List.getElem?_cons_succ, List.getElem?_nil, List.set_cons_zero, List.set_cons_succ, Option.map_some, Option.map_none, Bool.false_eq_true, if_false, if_true, List.length_cons, List.length_nil, Nat.zero_add, Nat.reduceAdd, List.map_cons, List.map_nil, eq_self, decide_true, decide_false, Bool.not_true, Bool.not_false, beq_self_eq_true, Int.reduceToNat, List.replicate_succ, List.replicate_zero, List.cons_append, List.nil_append, brcB, brcX, brcIte, thenIte, finIte, toSIte, bindIte, finRt, finNx, finX, toSX, bindX, evl_eq, calmOk, lim0, lim1, lim2, lim3, lim4, lim_map, lim_ints, mapA_map, mapA_ints, mapA_pure, mapA_ite, same_d, same_s, same_n, andC, orC, ints_map, ints_id, ints_int, List.take_length, tf, ft, Tg.slots, wpE, Int.cast_ofNat_Int, Int.reduceEq, Int.reduceLT, Int.reduceLE, Nat.reduceLT, Nat.reduceLeDiff, Bool.and_true, Bool.true_and, Bool.false_and, Bool.and_false, Bool.or_true, Bool.true_or, Bool.or_false, Bool.false_or, ofInts_snoc, List.append_nil, isort_len, pf_add, pf_sub, pf_eqI, pf_neI, pf_ltI, pf_gtI, pf_leI, pf_geI, pf_lenL, pf_lenT, pf_int, pf_abs, pf_neg, pf_min, pf_max, ix0T, ix1T, ix2T, ix3T, ix0L, ix1L, ix2L, rngD_I, List.take_succ_cons, last_get, last_set, take_app, mid_get, mid_set, mid_get1, mid_set1, app_app1, lim_rows, ofRows_snoc, List.append_assoc, Int.zero_add, pf_in, pf_nin, pf_inL, pf_ninL, pf_eqRow, pf_neRow, pf_eqRows, pf_eqInts, pf_sumI, pf_tupT, pf_lst, pf_lstL, pf_rev, pf_isN, pf_notN, isNone, pf_isB, pf_notB, slT_T, slT_L, slF_T, slF_L, slT_last, ofInts_take, ofInts_drop, ofRows_take, ofRows_drop, pf_tupL, pf_srtT, pf_srtL, pf_addT, pf_addL, ofInts_len, ofRows_len, ofInts_app, pf_allP, pf_anyP, raF]
        · have hq' : decide (isortR (bs.map (mpR p)) = isortR b2) = false := hq
          exact ⟨_, by simp (disch := (first | exact dv_nn _ _ | (exact dv_lt _ (by omega)) | ((try simp only [ofInts_len, ofRows_len, rngI_len, List.length_append, List.length_cons, List.length_nil, List.length_map, isort_len]); omega))) only [o_alike_0, ofRow, q, pf_srtR, hq', bvN, bvC, svE, svS, svPr, svSt, svIf, svRe, svRn, svRa, svTr, evV, evK, evG, evP, evS3, evCh, evNt, evBo, evFi, evTu, evLi, evCa, evMe, evsN, evsC, evbN, evbC, bindOk, toSOk, thenNx, thenRt, thenEx, ttB, snaps, snap, mkR, Mn.fresh, setT, datas, pars, meD, stD, itV, itD, seqOf, List.getElem?_cons_zero, List.getElem?_cons_succ, List.getElem?_nil, List.set_cons_zero, List.set_cons_succ, Option.map_some, Option.map_none, Bool.false_eq_true, if_false, if_true, List.length_cons, List.length_nil, Nat.zero_add, Nat.reduceAdd, List.map_cons, List.map_nil, eq_self, decide_true, decide_false, Bool.not_true, Bool.not_false, beq_self_eq_true, Int.reduceToNat, List.replicate_succ, List.replicate_zero, List.cons_append, List.nil_append, brcB, brcX, brcIte, thenIte, finIte, toSIte, bindIte, finRt, finNx, finX, toSX, bindX, evl_eq, calmOk, lim0, lim1, lim2, lim3, lim4, lim_map, lim_ints, mapA_map, mapA_ints, mapA_pure, mapA_ite, same_d, same_s, same_n, andC, orC, ints_map, ints_id, ints_int, List.take_length, tf, ft, Tg.slots, wpE, Int.cast_ofNat_Int, Int.reduceEq, Int.reduceLT, Int.reduceLE, Nat.reduceLT, Nat.reduceLeDiff, Bool.and_true, Bool.true_and, Bool.false_and, Bool.and_false, Bool.or_true, Bool.true_or, Bool.or_false, Bool.false_or, ofInts_snoc, List.append_nil, isort_len, pf_add, pf_sub, pf_eqI, pf_neI, pf_ltI, pf_gtI, pf_leI, pf_geI, pf_lenL, pf_lenT, pf_int, pf_abs, pf_neg, pf_min, pf_max, ix0T, ix1T, ix2T, ix3T, ix0L, ix1L, ix2L, rngD_I, List.take_succ_cons, last_get, last_set, take_app, mid_get, mid_set, mid_get1, mid_set1, app_app1, lim_rows, ofRows_snoc, List.append_assoc, Int.zero_add, pf_in, pf_nin, pf_inL, pf_ninL, pf_eqRow, pf_neRow, pf_eqRows, pf_eqInts, pf_sumI, pf_tupT, pf_lst, pf_lstL, pf_rev, pf_isN, pf_notN, isNone, pf_isB, pf_notB, slT_T, slT_L, slF_T, slF_L, slT_last, ofInts_take, ofInts_drop, ofRows_take, ofRows_drop, pf_tupL, pf_srtT, pf_srtL, pf_addT, pf_addL, ofInts_len, ofRows_len, ofInts_app, pf_allP, pf_anyP, raF]; rfl, _, _, rfl⟩)
    have srt2 := pf_srtRT b2 (by omega)
    have hes : evs (R (n + 5)) (.c (.ca 10 (.c (.p false .ix (.c (.v 0) (.c (.k (.int 0)) .n))) .n)) .n) [some (.d (elOf m bs s)), some (.d (elOf m2 b2 s2)), some (.d (.list (ofRows (isortR b2)))), none, none, none] h = .ok [.d (.list (ofRows (perms m)))] h := by simp (disch := (first | exact dv_nn _ _ | (exact dv_lt _ (by omega)) | ((try simp only [ofInts_len, ofRows_len, rngI_len, List.length_append, List.length_cons, List.length_nil, List.length_map, isort_len]); omega))) only [eo, bvN, bvC, svE, svS, svPr, svSt, svIf, svRe, svRn, svRa, svTr, evV, evK, evG, evP, evS3, evCh, evNt, evBo, evFi, evTu, evLi, evCa, evMe, evLc, evsN, evsC, evbN, evbC, bindOk, toSOk, thenNx, thenRt, thenEx, ttB, snaps, snap, mkR, Mn.fresh, setT, datas, pars, meD, stD, itV, itD, seqOf, List.getElem?_cons_zero, List.getElem?_cons_succ, List.getElem?_nil, List.set_cons_zero, List.set_cons_succ, Option.map_some, Option.map_none, Bool.false_eq_true, if_false, if_true, List.length_cons, List.length_nil, Nat.zero_add, Nat.reduceAdd, List.map_cons, List.map_nil, eq_self, decide_true, decide_false, Bool.not_true, Bool.not_false, beq_self_eq_true, Int.reduceToNat, List.replicate_succ, List.replicate_zero, List.cons_append, List.nil_append, brcB, brcX, brcIte, thenIte, finIte, toSIte, bindIte, finRt, finNx, finX, toSX, bindX, evl_eq, calmOk, lim0, lim1, lim2, lim3, lim4, lim_map, lim_ints, mapA_map, mapA_ints, mapA_pure, mapA_ite, same_d, same_s, same_n, andC, orC, ints_map, ints_id, ints_int, List.take_length, tf, ft, Tg.slots, wpE, Int.cast_ofNat_Int, Int.reduceEq, Int.reduceLT, Int.reduceLE, Nat.reduceLT, Nat.reduceLeDiff, Bool.and_true, Bool.true_and, Bool.false_and, Bool.and_false, Bool.or_true, Bool.true_or, Bool.or_false, Bool.false_or, ofInts_snoc, List.append_nil, isort_len, pf_add, pf_sub, pf_eqI, pf_neI, pf_ltI, pf_gtI, pf_leI, pf_geI, pf_lenL, pf_lenT, pf_int, pf_abs, pf_neg, pf_min, pf_max, ix0T, ix1T, ix2T, ix3T, ix0L, ix1L, ix2L, rngD_I, List.take_succ_cons, last_get, last_set, take_app, mid_get, mid_set, mid_get1, mid_set1, app_app1, lim_rows, ofRows_snoc, List.append_assoc, Int.zero_add, pf_in, pf_nin, pf_inL, pf_ninL, pf_eqRow, pf_neRow, pf_eqRows, pf_eqInts, pf_sumI, pf_tupT, pf_lst, pf_lstL, pf_rev, pf_isN, pf_notN, isNone, pf_isB, pf_notB, slT_T, slT_L, slF_T, slF_L, slT_last, ofInts_take, ofInts_drop, ofRows_take, ofRows_drop, pf_tupL, pf_srtT, pf_srtL, pf_addT, pf_addL, ofInts_len, ofRows_len, ofInts_app, pf_allP, pf_anyP, raF]
    cases hf : (perms m).find? (alikeP bs b2) with
    | some p =>
      have k := key.1 p hf
      have hfo : sv WW up (R (n + 5)) l_alike_0 [some (.d (elOf m bs s)), some (.d (elOf m2 b2 s2)), some (.d (.list (ofRows (isortR b2)))), none, none, none] h = _ := (svFo_eq (vs := [.d (.list (ofRows (perms m)))]) hes rfl).trans k
      simp (disch := (first | exact dv_nn _ _ | (exact dv_lt _ (by omega)) | ((try simp only [ofInts_len, ofRows_len, rngI_len, List.length_append, List.length_cons, List.length_nil, List.length_map, isort_len]); omega))) only [s_alike, b_alike, c, c2, d, ac, srt2, hfo, bvN, bvC, svE, svS, svPr, svSt, svIf, svRe, svRn, svRa, svTr, evV, evK, evG, evP, evS3, evCh, evNt, evBo, evFi, evTu, evLi, evCa, evMe, evsN, evsC, evbN, evbC, bindOk, toSOk, thenNx, thenRt, thenEx, ttB, snaps, snap, mkR, Mn.fresh, setT, datas, pars, meD, stD, itV, itD, seqOf, List.getElem?_cons_zero, List.getElem?_cons_succ, List.getElem?_nil, List.set_cons_zero, List.set_cons_succ, Option.map_some, Option.map_none, Bool.false_eq_true, if_false, if_true, List.length_cons, List.length_nil, Nat.zero_add, Nat.reduceAdd, List.map_cons, List.map_nil, eq_self, decide_true, decide_false, Bool.not_true, Bool.not_false, beq_self_eq_true, Int.reduceToNat, List.replicate_succ, List.replicate_zero, List.cons_append, List.nil_append, brcB, brcX, brcIte, thenIte, finIte, toSIte, bindIte, finRt, finNx, finX, toSX, bindX, evl_eq, calmOk, lim0, lim1, lim2, lim3, lim4, lim_map, lim_ints, mapA_map, mapA_ints, mapA_pure, mapA_ite, same_d, same_s, same_n, andC, orC, ints_map, ints_id, ints_int, List.take_length, tf, ft, Tg.slots, wpE, Int.cast_ofNat_Int, Int.reduceEq, Int.reduceLT, Int.reduceLE, Nat.reduceLT, Nat.reduceLeDiff, Bool.and_true, Bool.true_and, Bool.false_and, Bool.and_false, Bool.or_true, Bool.true_or, Bool.or_false, Bool.false_or, ofInts_snoc, List.append_nil, isort_len, pf_add, pf_sub, pf_eqI, pf_neI, pf_ltI, pf_gtI, pf_leI, pf_geI, pf_lenL, pf_lenT, pf_int, pf_abs, pf_neg, pf_min, pf_max, ix0T, ix1T, ix2T, ix3T, ix0L, ix1L, ix2L, rngD_I, List.take_succ_cons, last_get, last_set, take_app, mid_get, mid_set, mid_get1, mid_set1, app_app1, lim_rows, ofRows_snoc, List.append_assoc, Int.zero_add, pf_in, pf_nin, pf_inL, pf_ninL, pf_eqRow, pf_neRow, pf_eqRows, pf_eqInts, pf_sumI, pf_tupT, pf_lst, pf_lstL, pf_rev, pf_isN, pf_notN, isNone, pf_isB, pf_notB, slT_T, slT_L, slF_T, slF_L, slT_last, ofInts_take, ofInts_drop, ofRows_take, ofRows_drop, pf_tupL, pf_srtT, pf_srtL, pf_addT, pf_addL, ofInts_len, ofRows_len, ofInts_app, pf_allP, pf_anyP, raF]
    | none =>
      obtain ⟨e', k, _⟩ := key.2 hf
      have hfo : sv WW up (R (n + 5)) l_alike_0 [some (.d (elOf m bs s)), some (.d (elOf m2 b2 s2)), some (.d (.list (ofRows (isortR b2)))), none, none, none] h = _ := (svFo_eq (vs := [.d (.list (ofRows (perms m)))]) hes rfl).trans k
      simp (disch := (first | exact dv_nn _ _ | (exact dv_lt _ (by omega)) | ((try simp only [ofInts_len, ofRows_len, rngI_len, List.length_append, List.length_cons, List.length_nil, List.length_map, isort_len]); omega))) only [s_alike, b_alike, c, c2, d, ac, srt2, hfo, bvN, bvC, svE, svS, svPr, svSt, svIf, svRe, svRn, svRa, svTr, evV, evK, evG, evP, evS3, evCh, evNt, evBo, evFi, evTu, evLi, evCa, evMe, evsN, evsC, evbN, evbC, bindOk, toSOk, thenNx, thenRt, thenEx, ttB, snaps, snap, mkR, Mn.fresh, setT, datas, pars, meD, stD, itV, itD, seqOf, List.getElem?_cons_zero, List.getElem?_cons_succ, List.getElem?_nil, List.set_cons_zero, List.set_cons_succ, Option.map_some, Option.map_none, Bool.false_eq_true, if_false, if_true, List.length_cons, List.length_nil, Nat.zero_add, Nat.reduceAdd, List.map_cons, List.map_nil, eq_self, decide_true, decide_false, Bool.not_true, Bool.not_false, beq_self_eq_true, Int.reduceToNat, List.replicate_succ, List.replicate_zero, List.cons_append, List.nil_append, brcB, brcX, brcIte, thenIte, finIte, toSIte, bindIte, finRt, finNx, finX, toSX, bindX, evl_eq, calmOk, lim0, lim1, lim2, lim3, lim4, lim_map, lim_ints, mapA_map, mapA_ints, mapA_pure, mapA_ite, same_d, same_s, same_n, andC, orC, ints_map, ints_id, ints_int, List.take_length, tf, ft, Tg.slots, wpE, Int.cast_ofNat_Int, Int.reduceEq, Int.reduceLT, Int.reduceLE, Nat.reduceLT, Nat.reduceLeDiff, Bool.and_true, Bool.true_and, Bool.false_and, Bool.and_false, Bool.or_true, Bool.true_or, Bool.or_false, Bool.false_or, ofInts_snoc, List.append_nil, isort_len, pf_add, pf_sub, pf_eqI, pf_neI, pf_ltI, pf_gtI, pf_leI, pf_geI, pf_lenL, pf_lenT, pf_int, pf_abs, pf_neg, pf_min, pf_max, ix0T, ix1T, ix2T, ix3T, ix0L, ix1L, ix2L, rngD_I, List.take_succ_cons, last_get, last_set, take_app, mid_get, mid_set, mid_get1, mid_set1, app_app1, lim_rows, ofRows_snoc, List.append_assoc, Int.zero_add, pf_in, pf_nin, pf_inL, pf_ninL, pf_eqRow, pf_neRow, pf_eqRows, pf_eqInts, pf_sumI, pf_tupT, pf_lst, pf_lstL, pf_rev, pf_isN, pf_notN, isNone, pf_isB, pf_notB, slT_T, slT_L, slF_T, slF_L, slT_last, ofInts_take, ofInts_drop, ofRows_take, ofRows_drop, pf_tupL, pf_srtT, pf_srtL, pf_addT, pf_addL, ofInts_len, ofRows_len, ofInts_app, pf_allP, pf_anyP, raF]
  · rw [if_neg hc]
    rw [decide_eq_false hc] at ac
    simp (disch := (first | exact dv_nn _ _ | (exact dv_lt _ (by omega)) | ((try simp only [ofInts_len, ofRows_len, rngI_len, List.length_append, List.length_cons, List.length_nil, List.length_map, isort_len]); omega))) only [s_alike, b_alike, c, c2, d, ac, bvN, bvC, svE, svS, svPr, svSt, svIf, svRe, svRn, svRa, svTr, evV, evK, evG, evP, evS3, evCh, evNt, evBo, evFi, evTu, evLi, evCa, evMe, evsN, evsC, evbN, evbC, bindOk, toSOk, thenNx, thenRt, thenEx, ttB, snaps, snap, mkR, Mn.fresh, setT, datas, pars, meD, stD, itV, itD, seqOf, List.getElem?_cons_zero, List.getElem?_cons_succ, List.getElem?_nil, List.set_cons_zero, List.set_cons_succ, Option.map_some, Option.map_none, Bool.false_eq_true, if_false, if_true, List.length_cons, List.length_nil, Nat.zero_add, Nat.reduceAdd, List.map_cons, List.map_nil, eq_self, decide_true, decide_false, Bool.not_true, Bool.not_false, beq_self_eq_true, Int.reduceToNat, List.replicate_succ, List.replicate_zero, List.cons_append, List.nil_append, brcB, brcX, brcIte, thenIte, finIte, toSIte, bindIte, finRt, finNx, finX, toSX, bindX, evl_eq, calmOk, lim0, lim1, lim2, lim3, lim4, lim_map, lim_ints, mapA_map, mapA_ints, mapA_pure, mapA_ite, same_d, same_s, same_n, andC, orC, ints_map, ints_id, ints_int, List.take_length, tf, ft, Tg.slots, wpE, Int.cast_ofNat_Int, Int.reduceEq, Int.reduceLT, Int.reduceLE, Nat.reduceLT, Nat.reduceLeDiff, Bool.and_true, Bool.true_and, Bool.false_and, Bool.and_false, Bool.or_true, Bool.true_or, Bool.or_false, Bool.false_or, ofInts_snoc, List.append_nil, isort_len, pf_add, pf_sub, pf_eqI, pf_neI, pf_ltI, pf_gtI, pf_leI, pf_geI, pf_lenL, pf_lenT, pf_int, pf_abs, pf_neg, pf_min, pf_max, ix0T, ix1T, ix2T, ix3T, ix0L, ix1L, ix2L, rngD_I, List.take_succ_cons, last_get, last_set, take_app, mid_get, mid_set, mid_get1, mid_set1, app_app1, lim_rows, ofRows_snoc, List.append_assoc, Int.zero_add, pf_in, pf_nin, pf_inL, pf_ninL, pf_eqRow, pf_neRow, pf_eqRows, pf_eqInts, pf_sumI, pf_tupT, pf_lst, pf_lstL, pf_rev, pf_isN, pf_notN, isNone, pf_isB, pf_notB, slT_T, slT_L, slF_T, slF_L, slT_last, ofInts_take, ofInts_drop, ofRows_take, ofRows_drop, pf_tupL, pf_srtT, pf_srtL, pf_addT, pf_addL, ofInts_len, ofRows_len, ofInts_app, pf_allP, pf_anyP, raF]
end K61

/-! the law's own names and codes. -/
namespace K61
open PySem Mn
theorem ixN_pos (n : Nat) (i : Int) (h : 0 ≤ i) (h2 : i < n) : L2.ixN n i = some i.toNat := by simp only [L2.ixN, h, h2, if_true]
theorem ofInts_erase : ∀ (l : List Int) (k : Nat), (ofInts l).eraseIdx k = ofInts (l.eraseIdx k)
  | [], _ => rfl
  | a :: l, 0 => rfl
  | a :: l, k + 1 => by
    show PyData.int a :: (ofInts l).eraseIdx k = .int a :: ofInts (l.eraseIdx k)
    rw [ofInts_erase l k]
theorem law_mapped (n : Nat) {m : Int} {p r : List Int} (hp : IsP m p) (hr : ∀ i ∈ r, 0 ≤ i ∧ i < m) (hl : r.length ≤ 900) (h : MH) : R (n + 1) 20 [.d (.tuple (ofInts r)), .d (.tuple (ofInts p))] h = .ok (.d (.tuple (ofInts (mpR p r)))) h := by
  have q : ev (R n) q__law_mapped_0 [some (.d (.tuple (ofInts r))), some (.d (.tuple (ofInts p))), none] h = .ok (.d (.list (r.map fun i => .int (nm p i)))) h :=
    lc_p (φ := .int) (L := r) (vs := [.d (.tuple (ofInts r))]) (fun i => .int (nm p i)) (by simp (disch := (first | exact dv_nn _ _ | (exact dv_lt _ (by omega)) | ((try simp only [ofInts_len, ofRows_len, rngI_len, List.length_append, List.length_cons, List.length_nil, List.length_map, isort_len]); omega))) only [bvN, bvC, svE, svS, svPr, svSt, svIf, svRe, svRn, svRa, svTr, evV, evK, evG, evP, evS3, evCh, evNt, evBo, evFi, evTu, evLi, evCa, evMe, evLc, evsN, evsC, evbN, evbC, bindOk, toSOk, thenNx, thenRt, thenEx, ttB, snaps, snap, mkR, Mn.fresh, setT, datas, pars, meD, stD, itV, itD, seqOf, List.getElem?_cons_zero, List.getElem?_cons_succ, List.getElem?_nil, List.set_cons_zero, List.set_cons_succ, Option.map_some, Option.map_none, Bool.false_eq_true, if_false, if_true, List.length_cons, List.length_nil, Nat.zero_add, Nat.reduceAdd, List.map_cons, List.map_nil, eq_self, decide_true, decide_false, Bool.not_true, Bool.not_false, beq_self_eq_true, Int.reduceToNat, List.replicate_succ, List.replicate_zero, List.cons_append, List.nil_append, brcB, brcX, brcIte, thenIte, finIte, toSIte, bindIte, finRt, finNx, finX, toSX, bindX, evl_eq, calmOk, lim0, lim1, lim2, lim3, lim4, lim_map, lim_ints, mapA_map, mapA_ints, mapA_pure, mapA_ite, same_d, same_s, same_n, andC, orC, ints_map, ints_id, ints_int, List.take_length, tf, ft, Tg.slots, wpE, Int.cast_ofNat_Int, Int.reduceEq, Int.reduceLT, Int.reduceLE, Nat.reduceLT, Nat.reduceLeDiff, Bool.and_true, Bool.true_and, Bool.false_and, Bool.and_false, Bool.or_true, Bool.true_or, Bool.or_false, Bool.false_or, ofInts_snoc, List.append_nil, isort_len, pf_add, pf_sub, pf_eqI, pf_neI, pf_ltI, pf_gtI, pf_leI, pf_geI, pf_lenL, pf_lenT, pf_int, pf_abs, pf_neg, pf_min, pf_max, ix0T, ix1T, ix2T, ix3T, ix0L, ix1L, ix2L, rngD_I, List.take_succ_cons, last_get, last_set, take_app, mid_get, mid_set, mid_get1, mid_set1, app_app1, lim_rows, ofRows_snoc, List.append_assoc, Int.zero_add, pf_in, pf_nin, pf_inL, pf_ninL, pf_eqRow, pf_neRow, pf_eqRows, pf_eqInts, pf_sumI, pf_tupT, pf_lst, pf_lstL, pf_rev, pf_isN, pf_notN, isNone, pf_isB, pf_notB, slT_T, slT_L, slF_T, slF_L, slT_last, ofInts_take, ofInts_drop, ofRows_take, ofRows_drop, pf_tupL, pf_srtT, pf_srtL, pf_addT, pf_addL, ofInts_len, ofRows_len, ofInts_app, pf_allP, pf_anyP, raF]) rfl (by omega) rfl fun i hi => by
      have g := hr i hi
      have g1 := g.1
      have g2 : i < (p.length : Int) := by rw [hp.len]; omega
      simp (disch := (first | exact dv_nn _ _ | (exact dv_lt _ (by omega)) | ((try simp only [ofInts_len, ofRows_len, rngI_len, List.length_append, List.length_cons, List.length_nil, List.length_map, isort_len]); omega))) only [ixRowT, bvN, bvC, svE, svS, svPr, svSt, svIf, svRe, svRn, svRa, svTr, evV, evK, evG, evP, evS3, evCh, evNt, evBo, evFi, evTu, evLi, evCa, evMe, evLc, evsN, evsC, evbN, evbC, bindOk, toSOk, thenNx, thenRt, thenEx, ttB, snaps, snap, mkR, Mn.fresh, setT, datas, pars, meD, stD, itV, itD, seqOf, List.getElem?_cons_zero, List.getElem?_cons_succ, List.getElem?_nil, List.set_cons_zero, List.set_cons_succ, Option.map_some, Option.map_none, Bool.false_eq_true, if_false, if_true, List.length_cons, List.length_nil, Nat.zero_add, Nat.reduceAdd, List.map_cons, List.map_nil, eq_self, decide_true, decide_false, Bool.not_true, Bool.not_false, beq_self_eq_true, Int.reduceToNat, List.replicate_succ, List.replicate_zero, List.cons_append, List.nil_append, brcB, brcX, brcIte, thenIte, finIte, toSIte, bindIte, finRt, finNx, finX, toSX, bindX, evl_eq, calmOk, lim0, lim1, lim2, lim3, lim4, lim_map, lim_ints, mapA_map, mapA_ints, mapA_pure, mapA_ite, same_d, same_s, same_n, andC, orC, ints_map, ints_id, ints_int, List.take_length, tf, ft, Tg.slots, wpE, Int.cast_ofNat_Int, Int.reduceEq, Int.reduceLT, Int.reduceLE, Nat.reduceLT, Nat.reduceLeDiff, Bool.and_true, Bool.true_and, Bool.false_and, Bool.and_false, Bool.or_true, Bool.true_or, Bool.or_false, Bool.false_or, ofInts_snoc, List.append_nil, isort_len, pf_add, pf_sub, pf_eqI, pf_neI, pf_ltI, pf_gtI, pf_leI, pf_geI, pf_lenL, pf_lenT, pf_int, pf_abs, pf_neg, pf_min, pf_max, ix0T, ix1T, ix2T, ix3T, ix0L, ix1L, ix2L, rngD_I, List.take_succ_cons, last_get, last_set, take_app, mid_get, mid_set, mid_get1, mid_set1, app_app1, lim_rows, ofRows_snoc, List.append_assoc, Int.zero_add, pf_in, pf_nin, pf_inL, pf_ninL, pf_eqRow, pf_neRow, pf_eqRows, pf_eqInts, pf_sumI, pf_tupT, pf_lst, pf_lstL, pf_rev, pf_isN, pf_notN, isNone, pf_isB, pf_notB, slT_T, slT_L, slF_T, slF_L, slT_last, ofInts_take, ofInts_drop, ofRows_take, ofRows_drop, pf_tupL, pf_srtT, pf_srtL, pf_addT, pf_addL, ofInts_len, ofRows_len, ofInts_app, pf_allP, pf_anyP, raF]
  unfold mpR
  simp (disch := (first | exact dv_nn _ _ | (exact dv_lt _ (by omega)) | ((try simp only [ofInts_len, ofRows_len, rngI_len, List.length_append, List.length_cons, List.length_nil, List.length_map, isort_len]); omega))) only [s__law_mapped, b__law_mapped, q, bvN, bvC, svE, svS, svPr, svSt, svIf, svRe, svRn, svRa, svTr, evV, evK, evG, evP, evS3, evCh, evNt, evBo, evFi, evTu, evLi, evCa, evMe, evsN, evsC, evbN, evbC, bindOk, toSOk, thenNx, thenRt, thenEx, ttB, snaps, snap, mkR, Mn.fresh, setT, datas, pars, meD, stD, itV, itD, seqOf, List.getElem?_cons_zero, List.getElem?_cons_succ, List.getElem?_nil, List.set_cons_zero, List.set_cons_succ, Option.map_some, Option.map_none, Bool.false_eq_true, if_false, if_true, List.length_cons, List.length_nil, Nat.zero_add, Nat.reduceAdd, List.map_cons, List.map_nil, eq_self, decide_true, decide_false, Bool.not_true, Bool.not_false, beq_self_eq_true, Int.reduceToNat, List.replicate_succ, List.replicate_zero, List.cons_append, List.nil_append, brcB, brcX, brcIte, thenIte, finIte, toSIte, bindIte, finRt, finNx, finX, toSX, bindX, evl_eq, calmOk, lim0, lim1, lim2, lim3, lim4, lim_map, lim_ints, mapA_map, mapA_ints, mapA_pure, mapA_ite, same_d, same_s, same_n, andC, orC, ints_map, ints_id, ints_int, List.take_length, tf, ft, Tg.slots, wpE, Int.cast_ofNat_Int, Int.reduceEq, Int.reduceLT, Int.reduceLE, Nat.reduceLT, Nat.reduceLeDiff, Bool.and_true, Bool.true_and, Bool.false_and, Bool.and_false, Bool.or_true, Bool.true_or, Bool.or_false, Bool.false_or, ofInts_snoc, List.append_nil, isort_len, pf_add, pf_sub, pf_eqI, pf_neI, pf_ltI, pf_gtI, pf_leI, pf_geI, pf_lenL, pf_lenT, pf_int, pf_abs, pf_neg, pf_min, pf_max, ix0T, ix1T, ix2T, ix3T, ix0L, ix1L, ix2L, rngD_I, List.take_succ_cons, last_get, last_set, take_app, mid_get, mid_set, mid_get1, mid_set1, app_app1, lim_rows, ofRows_snoc, List.append_assoc, Int.zero_add, pf_in, pf_nin, pf_inL, pf_ninL, pf_eqRow, pf_neRow, pf_eqRows, pf_eqInts, pf_sumI, pf_tupT, pf_lst, pf_lstL, pf_rev, pf_isN, pf_notN, isNone, pf_isB, pf_notB, slT_T, slT_L, slF_T, slF_L, slT_last, ofInts_take, ofInts_drop, ofRows_take, ofRows_drop, pf_tupL, pf_srtT, pf_srtL, pf_addT, pf_addL, ofInts_len, ofRows_len, ofInts_app, pf_allP, pf_anyP, raF]
theorem law_order (n : Nat) (d : Dr) (t : MH) {m : Int} (h0 : 0 ≤ m) (h1 : m ≤ 60) : ∃ (p : List Int) (d' : Dr), R (n + 2) 18 [.r 0, .d (.int m)] (d.mo :: t) = .ok (.d (.tuple (ofInts p))) (d'.mo :: t) ∧ IsP m p := by
  have key := forR_map (ok := fun h' => same (d.mo :: (t ++ [.l (ofInts (rngI 0 m)), .l []])) h' [.d (.int m)]) (t := .n 2) (f := bv WW up (R (n + 1)) o__law_order_0) .int
    (fun i e h' => ∃ (d' : Dr) (left found : List Int) (a2 : Option Vl), e = [some (.r 0), some (.d (.int m)), a2, some (.r (t.length + 1)), some (.r (t.length + 1 + 1))] ∧ h' = d'.mo :: (t ++ [.l (ofInts left), .l (ofInts found)]) ∧ (found ++ left).Perm (rngI 0 m) ∧ found.length = i)
    (xs := rngI 0 m) (fun _ _ _ _ => rfl) (fun i x e h' hx ⟨d', left, found, a2, q1, q2, q3, q4⟩ => by
      subst q1; subst q2
      refine ⟨_, rfl, ?_⟩
      have il := (List.getElem?_eq_some_iff.mp hx).1
      rw [rngI_len] at il
      have ll := q3.length_eq
      rw [List.length_append, rngI_len] at ll
      have l1 : (1 : Int) ≤ (left.length : Int) := by omega
      have l2 : left.length ≤ 60 := by omega
      have l3 : found.length ≤ 60 := by omega
      have z0 := dv_nn d' (left.length : Int)
      have z1 := dv_lt d' l1
      have zk : (dv d' (left.length : Int)).toNat < left.length := by omega
      have gx : (ofInts left)[(dv d' (left.length : Int)).toNat]? = some (.int left[(dv d' (left.length : Int)).toNat]) := by
        rw [ofInts_get, List.getElem?_eq_getElem zk]; rfl
      refine ⟨_, _, by simp (disch := (first | exact dv_nn _ _ | (exact dv_lt _ (by omega)) | ((try simp only [ofInts_len, ofRows_len, rngI_len, List.length_append, List.length_cons, List.length_nil, List.length_map, isort_len]); omega))) only [o__law_order_0, draw, ixN_pos, gx, ofInts_erase, bvN, bvC, svE, svS, svPr, svSt, svIf, svRe, svRn, svRa, svTr, evV, evK, evG, evP, evS3, evCh, evNt, evBo, evFi, evTu, evLi, evCa, evMe, evsN, evsC, evbN, evbC, bindOk, toSOk, thenNx, thenRt, thenEx, ttB, snaps, snap, mkR, Mn.fresh, setT, datas, pars, meD, stD, itV, itD, seqOf, List.getElem?_cons_zero, List.getElem?_cons_succ, List.getElem?_nil, List.set_cons_zero, List.set_cons_succ, Option.map_some, Option.map_none, Bool.false_eq_true, if_false, if_true, List.length_cons, List.length_nil, Nat.zero_add, Nat.reduceAdd, List.map_cons, List.map_nil, eq_self, decide_true, decide_false, Bool.not_true, Bool.not_false, beq_self_eq_true, Int.reduceToNat, List.replicate_succ, List.replicate_zero, List.cons_append, List.nil_append, brcB, brcX, brcIte, thenIte, finIte, toSIte, bindIte, finRt, finNx, finX, toSX, bindX, evl_eq, calmOk, lim0, lim1, lim2, lim3, lim4, lim_map, lim_ints, mapA_map, mapA_ints, mapA_pure, mapA_ite, same_d, same_s, same_n, andC, orC, ints_map, ints_id, ints_int, List.take_length, tf, ft, Tg.slots, wpE, Int.cast_ofNat_Int, Int.reduceEq, Int.reduceLT, Int.reduceLE, Nat.reduceLT, Nat.reduceLeDiff, Bool.and_true, Bool.true_and, Bool.false_and, Bool.and_false, Bool.or_true, Bool.true_or, Bool.or_false, Bool.false_or, ofInts_snoc, List.append_nil, isort_len, pf_add, pf_sub, pf_eqI, pf_neI, pf_ltI, pf_gtI, pf_leI, pf_geI, pf_lenL, pf_lenT, pf_int, pf_abs, pf_neg, pf_min, pf_max, ix0T, ix1T, ix2T, ix3T, ix0L, ix1L, ix2L, rngD_I, List.take_succ_cons, last_get, last_set, take_app, mid_get, mid_set, mid_get1, mid_set1, app_app1, lim_rows, ofRows_snoc, List.append_assoc, Int.zero_add, pf_in, pf_nin, pf_inL, pf_ninL, pf_eqRow, pf_neRow, pf_eqRows, pf_eqInts, pf_sumI, pf_tupT, pf_lst, pf_lstL, pf_rev, pf_isN, pf_notN, isNone, pf_isB, pf_notB, slT_T, slT_L, slF_T, slF_L, slT_last, ofInts_take, ofInts_drop, ofRows_take, ofRows_drop, pf_tupL, pf_srtT, pf_srtL, pf_addT, pf_addL, ofInts_len, ofRows_len, ofInts_app, pf_allP, pf_anyP, raF]; rfl, dx d' (left.length : Int), left.eraseIdx (dv d' (left.length : Int)).toNat, found ++ [left[(dv d' (left.length : Int)).toNat]], _, rfl, rfl, ?_, by simp [q4]⟩
      refine List.Perm.trans ?_ q3
      rw [List.append_assoc]
      refine List.Perm.append_left _ ?_
      have e : left = left.take (dv d' (left.length : Int)).toNat ++ left[(dv d' (left.length : Int)).toNat] :: left.drop ((dv d' (left.length : Int)).toNat + 1) := by simp
      conv => rhs; rw [e]
      rw [List.eraseIdx_eq_take_drop_succ]
      rw [List.singleton_append]
      exact List.perm_middle.symm)
    (e := [some (.r 0), some (.d (.int m)), none, some (.r (t.length + 1)), some (.r (t.length + 1 + 1))]) (h := d.mo :: (t ++ [.l (ofInts (rngI 0 m)), .l []])) ⟨d, rngI 0 m, [], none, rfl, rfl, by simp, rfl⟩
  obtain ⟨e', h', r1, d', left, found, a2, rfl, rfl, q3, q4⟩ := key
  have le : left = [] := by
    have ll := q3.length_eq
    rw [List.length_append, q4] at ll
    exact List.length_eq_zero_iff.mp (by omega)
  subst le
  rw [List.append_nil] at q3
  have hfo : sv WW up (R (n + 1)) l__law_order_0 [some (.r 0), some (.d (.int m)), none, some (.r (t.length + 1)), some (.r (t.length + 1 + 1))] (d.mo :: (t ++ [.l (ofInts (rngI 0 m)), .l []])) = _ := (svFo_eq (vs := [.d (.int m)]) (by simp (disch := (first | exact dv_nn _ _ | (exact dv_lt _ (by omega)) | ((try simp only [ofInts_len, ofRows_len, rngI_len, List.length_append, List.length_cons, List.length_nil, List.length_map, isort_len]); omega))) only [bvN, bvC, svE, svS, svPr, svSt, svIf, svRe, svRn, svRa, svTr, evV, evK, evG, evP, evS3, evCh, evNt, evBo, evFi, evTu, evLi, evCa, evMe, evLc, evsN, evsC, evbN, evbC, bindOk, toSOk, thenNx, thenRt, thenEx, ttB, snaps, snap, mkR, Mn.fresh, setT, datas, pars, meD, stD, itV, itD, seqOf, List.getElem?_cons_zero, List.getElem?_cons_succ, List.getElem?_nil, List.set_cons_zero, List.set_cons_succ, Option.map_some, Option.map_none, Bool.false_eq_true, if_false, if_true, List.length_cons, List.length_nil, Nat.zero_add, Nat.reduceAdd, List.map_cons, List.map_nil, eq_self, decide_true, decide_false, Bool.not_true, Bool.not_false, beq_self_eq_true, Int.reduceToNat, List.replicate_succ, List.replicate_zero, List.cons_append, List.nil_append, brcB, brcX, brcIte, thenIte, finIte, toSIte, bindIte, finRt, finNx, finX, toSX, bindX, evl_eq, calmOk, lim0, lim1, lim2, lim3, lim4, lim_map, lim_ints, mapA_map, mapA_ints, mapA_pure, mapA_ite, same_d, same_s, same_n, andC, orC, ints_map, ints_id, ints_int, List.take_length, tf, ft, Tg.slots, wpE, Int.cast_ofNat_Int, Int.reduceEq, Int.reduceLT, Int.reduceLE, Nat.reduceLT, Nat.reduceLeDiff, Bool.and_true, Bool.true_and, Bool.false_and, Bool.and_false, Bool.or_true, Bool.true_or, Bool.or_false, Bool.false_or, ofInts_snoc, List.append_nil, isort_len, pf_add, pf_sub, pf_eqI, pf_neI, pf_ltI, pf_gtI, pf_leI, pf_geI, pf_lenL, pf_lenT, pf_int, pf_abs, pf_neg, pf_min, pf_max, ix0T, ix1T, ix2T, ix3T, ix0L, ix1L, ix2L, rngD_I, List.take_succ_cons, last_get, last_set, take_app, mid_get, mid_set, mid_get1, mid_set1, app_app1, lim_rows, ofRows_snoc, List.append_assoc, Int.zero_add, pf_in, pf_nin, pf_inL, pf_ninL, pf_eqRow, pf_neRow, pf_eqRows, pf_eqInts, pf_sumI, pf_tupT, pf_lst, pf_lstL, pf_rev, pf_isN, pf_notN, isNone, pf_isB, pf_notB, slT_T, slT_L, slF_T, slF_L, slT_last, ofInts_take, ofInts_drop, ofRows_take, ofRows_drop, pf_tupL, pf_srtT, pf_srtL, pf_addT, pf_addL, ofInts_len, ofRows_len, ofInts_app, pf_allP, pf_anyP, raF]) (by rw [itV_r1 _ _ (by omega) (by omega)]; rfl)).trans r1
  refine ⟨found, d', ?_, IsP_of h0 q3⟩
  simp (disch := (first | exact dv_nn _ _ | (exact dv_lt _ (by omega)) | ((try simp only [ofInts_len, ofRows_len, rngI_len, List.length_append, List.length_cons, List.length_nil, List.length_map, isort_len]); omega))) only [s__law_order, b__law_order, pf_rng, hfo, List.length_append, bvN, bvC, svE, svS, svPr, svSt, svIf, svRe, svRn, svRa, svTr, evV, evK, evG, evP, evS3, evCh, evNt, evBo, evFi, evTu, evLi, evCa, evMe, evsN, evsC, evbN, evbC, bindOk, toSOk, thenNx, thenRt, thenEx, ttB, snaps, snap, mkR, Mn.fresh, setT, datas, pars, meD, stD, itV, itD, seqOf, List.getElem?_cons_zero, List.getElem?_cons_succ, List.getElem?_nil, List.set_cons_zero, List.set_cons_succ, Option.map_some, Option.map_none, Bool.false_eq_true, if_false, if_true, List.length_cons, List.length_nil, Nat.zero_add, Nat.reduceAdd, List.map_cons, List.map_nil, eq_self, decide_true, decide_false, Bool.not_true, Bool.not_false, beq_self_eq_true, Int.reduceToNat, List.replicate_succ, List.replicate_zero, List.cons_append, List.nil_append, brcB, brcX, brcIte, thenIte, finIte, toSIte, bindIte, finRt, finNx, finX, toSX, bindX, evl_eq, calmOk, lim0, lim1, lim2, lim3, lim4, lim_map, lim_ints, mapA_map, mapA_ints, mapA_pure, mapA_ite, same_d, same_s, same_n, andC, orC, ints_map, ints_id, ints_int, List.take_length, tf, ft, Tg.slots, wpE, Int.cast_ofNat_Int, Int.reduceEq, Int.reduceLT, Int.reduceLE, Nat.reduceLT, Nat.reduceLeDiff, Bool.and_true, Bool.true_and, Bool.false_and, Bool.and_false, Bool.or_true, Bool.true_or, Bool.or_false, Bool.false_or, ofInts_snoc, List.append_nil, isort_len, pf_add, pf_sub, pf_eqI, pf_neI, pf_ltI, pf_gtI, pf_leI, pf_geI, pf_lenL, pf_lenT, pf_int, pf_abs, pf_neg, pf_min, pf_max, ix0T, ix1T, ix2T, ix3T, ix0L, ix1L, ix2L, rngD_I, List.take_succ_cons, last_get, last_set, take_app, mid_get, mid_set, mid_get1, mid_set1, app_app1, lim_rows, ofRows_snoc, List.append_assoc, Int.zero_add, pf_in, pf_nin, pf_inL, pf_ninL, pf_eqRow, pf_neRow, pf_eqRows, pf_eqInts, pf_sumI, pf_tupT, pf_lst, pf_lstL, pf_rev, pf_isN, pf_notN, isNone, pf_isB, pf_notB, slT_T, slT_L, slF_T, slF_L, slT_last, ofInts_take, ofInts_drop, ofRows_take, ofRows_drop, pf_tupL, pf_srtT, pf_srtL, pf_addT, pf_addL, ofInts_len, ofRows_len, ofInts_app, pf_allP, pf_anyP, raF]
theorem take_flat {α β : Type} (f : α → List β) (l : List α) (j : Nat) : ((l.take j).flatMap f).length ≤ (l.flatMap f).length := by
  have e : l.flatMap f = (l.take j).flatMap f ++ (l.drop j).flatMap f := by rw [← List.flatMap_append, List.take_append_drop]
  rw [e, List.length_append]
  omega
theorem law_perms (n : Nat) {m : Int} (h0 : 0 ≤ m) (h1 : m ≤ 6) (h : MH) : R (n + 1) 19 [.d (.int m)] h = .ok (.d (.list (ofRows (perms m)))) h := by
  have body : ∀ (i : Nat) (a2 a3 a4 : Option Vl), i < m.toNat → ∃ (b3 b4 : Option Vl), bv WW up (R n) o__law_perms_1 [some (.d (.int m)), some (.d (.list (ofRows (permK m i)))), a2, a3, a4, none] h = .nx [some (.d (.int m)), some (.d (.list (ofRows (permK m (i + 1))))), a2, b3, b4, none] h := fun i a2 a3 a4 hi => by
    have le1 := permK_le h1 i (by omega)
    have le2 := permK_le h1 (i + 1) (by omega)
    rw [show permK m (i + 1) = (permK m i).flatMap (ext1 m) from rfl] at le2 ⊢
    have key := forR_map (ok := fun h' => same h h' [.d (.list (ofRows (permK m i)))]) (t := .n 4) (f := bv WW up (R n) o__law_perms_0) ofRow
      (fun j e h' => h' = h ∧ ∃ a4 : Option Vl, e = [some (.d (.int m)), some (.d (.list (ofRows (permK m i)))), a2, some (.d (.list (ofRows (((permK m i).take j).flatMap (ext1 m))))), a4, none])
      (xs := permK m i) (fun _ _ _ _ => rfl) (fun j r e h' hx ⟨q1, a4, q2⟩ => by
        subst q1; subst q2
        have rl := permK_row (List.mem_of_getElem? hx)
        have jl := (List.getElem?_eq_some_iff.mp hx).1
        have t1 := take_flat (ext1 m) (permK m i) j
        have t2 := take_flat (ext1 m) (permK m i) (j + 1)
        have es : ((permK m i).take (j + 1)).flatMap (ext1 m) = ((permK m i).take j).flatMap (ext1 m) ++ ext1 m r := by
          rw [List.take_succ_eq_append_getElem jl, (List.getElem?_eq_some_iff.mp hx).2, List.flatMap_append]; simp
        rw [es, List.length_append] at t2
        have q : ∀ (a2 a3 : Option Vl), ev (R n) q__law_perms_0 [some (.d (.int m)), some (.d (.list (ofRows (permK m i)))), a2, a3, some (.d (.tuple (ofInts r))), none] h' = .ok (.d (.list (ofRows (ext1 m r)))) h' := fun a2 a3 => by
          have : ofRows (ext1 m r) = ((rngI 0 m).filter fun x => !mem r x).map fun x => PyData.tuple (ofInts (r ++ [x])) := by
            unfold ofRows ext1; rw [List.map_map]; rfl
          rw [this]
          refine lc_pf (φ := .int) (L := rngI 0 m) (vs := [.d (.int m)]) (fun x => !mem r x) (fun x => .tuple (ofInts (r ++ [x]))) (by simp (disch := (first | exact dv_nn _ _ | (exact dv_lt _ (by omega)) | ((try simp only [ofInts_len, ofRows_len, rngI_len, List.length_append, List.length_cons, List.length_nil, List.length_map, isort_len]); omega))) only [bvN, bvC, svE, svS, svPr, svSt, svIf, svRe, svRn, svRa, svTr, evV, evK, evG, evP, evS3, evCh, evNt, evBo, evFi, evTu, evLi, evCa, evMe, evLc, evsN, evsC, evbN, evbC, bindOk, toSOk, thenNx, thenRt, thenEx, ttB, snaps, snap, mkR, Mn.fresh, setT, datas, pars, meD, stD, itV, itD, seqOf, List.getElem?_cons_zero, List.getElem?_cons_succ, List.getElem?_nil, List.set_cons_zero, List.set_cons_succ, Option.map_some, Option.map_none, Bool.false_eq_true, if_false, if_true, List.length_cons, List.length_nil, Nat.zero_add, Nat.reduceAdd, List.map_cons, List.map_nil, eq_self, decide_true, decide_false, Bool.not_true, Bool.not_false, beq_self_eq_true, Int.reduceToNat, List.replicate_succ, List.replicate_zero, List.cons_append, List.nil_append, brcB, brcX, brcIte, thenIte, finIte, toSIte, bindIte, finRt, finNx, finX, toSX, bindX, evl_eq, calmOk, lim0, lim1, lim2, lim3, lim4, lim_map, lim_ints, mapA_map, mapA_ints, mapA_pure, mapA_ite, same_d, same_s, same_n, andC, orC, ints_map, ints_id, ints_int, List.take_length, tf, ft, Tg.slots, wpE, Int.cast_ofNat_Int, Int.reduceEq, Int.reduceLT, Int.reduceLE, Nat.reduceLT, Nat.reduceLeDiff, Bool.and_true, Bool.true_and, Bool.false_and, Bool.and_false, Bool.or_true, Bool.true_or, Bool.or_false, Bool.false_or, ofInts_snoc, List.append_nil, isort_len, pf_add, pf_sub, pf_eqI, pf_neI, pf_ltI, pf_gtI, pf_leI, pf_geI, pf_lenL, pf_lenT, pf_int, pf_abs, pf_neg, pf_min, pf_max, ix0T, ix1T, ix2T, ix3T, ix0L, ix1L, ix2L, rngD_I, List.take_succ_cons, last_get, last_set, take_app, mid_get, mid_set, mid_get1, mid_set1, app_app1, lim_rows, ofRows_snoc, List.append_assoc, Int.zero_add, pf_in, pf_nin, pf_inL, pf_ninL, pf_eqRow, pf_neRow, pf_eqRows, pf_eqInts, pf_sumI, pf_tupT, pf_lst, pf_lstL, pf_rev, pf_isN, pf_notN, isNone, pf_isB, pf_notB, slT_T, slT_L, slF_T, slF_L, slT_last, ofInts_take, ofInts_drop, ofRows_take, ofRows_drop, pf_tupL, pf_srtT, pf_srtL, pf_addT, pf_addL, ofInts_len, ofRows_len, ofInts_app, pf_allP, pf_anyP, raF]) (by rw [itV_r1 _ _ (by omega) (by omega)]; rfl) (by rw [rngI_len]; omega) rfl fun x hx => ?_
          simp (disch := (first | exact dv_nn _ _ | (exact dv_lt _ (by omega)) | ((try simp only [ofInts_len, ofRows_len, rngI_len, List.length_append, List.length_cons, List.length_nil, List.length_map, isort_len]); omega))) only [bvN, bvC, svE, svS, svPr, svSt, svIf, svRe, svRn, svRa, svTr, evV, evK, evG, evP, evS3, evCh, evNt, evBo, evFi, evTu, evLi, evCa, evMe, evLc, evsN, evsC, evbN, evbC, bindOk, toSOk, thenNx, thenRt, thenEx, ttB, snaps, snap, mkR, Mn.fresh, setT, datas, pars, meD, stD, itV, itD, seqOf, List.getElem?_cons_zero, List.getElem?_cons_succ, List.getElem?_nil, List.set_cons_zero, List.set_cons_succ, Option.map_some, Option.map_none, Bool.false_eq_true, if_false, if_true, List.length_cons, List.length_nil, Nat.zero_add, Nat.reduceAdd, List.map_cons, List.map_nil, eq_self, decide_true, decide_false, Bool.not_true, Bool.not_false, beq_self_eq_true, Int.reduceToNat, List.replicate_succ, List.replicate_zero, List.cons_append, List.nil_append, brcB, brcX, brcIte, thenIte, finIte, toSIte, bindIte, finRt, finNx, finX, toSX, bindX, evl_eq, calmOk, lim0, lim1, lim2, lim3, lim4, lim_map, lim_ints, mapA_map, mapA_ints, mapA_pure, mapA_ite, same_d, same_s, same_n, andC, orC, ints_map, ints_id, ints_int, List.take_length, tf, ft, Tg.slots, wpE, Int.cast_ofNat_Int, Int.reduceEq, Int.reduceLT, Int.reduceLE, Nat.reduceLT, Nat.reduceLeDiff, Bool.and_true, Bool.true_and, Bool.false_and, Bool.and_false, Bool.or_true, Bool.true_or, Bool.or_false, Bool.false_or, ofInts_snoc, List.append_nil, isort_len, pf_add, pf_sub, pf_eqI, pf_neI, pf_ltI, pf_gtI, pf_leI, pf_geI, pf_lenL, pf_lenT, pf_int, pf_abs, pf_neg, pf_min, pf_max, ix0T, ix1T, ix2T, ix3T, ix0L, ix1L, ix2L, rngD_I, List.take_succ_cons, last_get, last_set, take_app, mid_get, mid_set, mid_get1, mid_set1, app_app1, lim_rows, ofRows_snoc, List.append_assoc, Int.zero_add, pf_in, pf_nin, pf_inL, pf_ninL, pf_eqRow, pf_neRow, pf_eqRows, pf_eqInts, pf_sumI, pf_tupT, pf_lst, pf_lstL, pf_rev, pf_isN, pf_notN, isNone, pf_isB, pf_notB, slT_T, slT_L, slF_T, slF_L, slT_last, ofInts_take, ofInts_drop, ofRows_take, ofRows_drop, pf_tupL, pf_srtT, pf_srtL, pf_addT, pf_addL, ofInts_len, ofRows_len, ofInts_app, pf_allP, pf_anyP, raF]
        exact ⟨_, rfl, _, _, by simp (disch := (first | exact dv_nn _ _ | (exact dv_lt _ (by omega)) | ((try simp only [ofInts_len, ofRows_len, rngI_len, List.length_append, List.length_cons, List.length_nil, List.length_map, isort_len]); omega))) only [o__law_perms_0, ofRow, q, ofRows_app, bvN, bvC, svE, svS, svPr, svSt, svIf, svRe, svRn, svRa, svTr, evV, evK, evG, evP, evS3, evCh, evNt, evBo, evFi, evTu, evLi, evCa, evMe, evsN, evsC, evbN, evbC, bindOk, toSOk, thenNx, thenRt, thenEx, ttB, snaps, snap, mkR, Mn.fresh, setT, datas, pars, meD, stD, itV, itD, seqOf, List.getElem?_cons_zero, List.getElem?_cons_succ, List.getElem?_nil, List.set_cons_zero, List.set_cons_succ, Option.map_some, Option.map_none, Bool.false_eq_true, if_false, if_true, List.length_cons, List.length_nil, Nat.zero_add, Nat.reduceAdd, List.map_cons, List.map_nil, eq_self, decide_true, decide_false, Bool.not_true, Bool.not_false, beq_self_eq_true, Int.reduceToNat, List.replicate_succ, List.replicate_zero, List.cons_append, List.nil_append, brcB, brcX, brcIte, thenIte, finIte, toSIte, bindIte, finRt, finNx, finX, toSX, bindX, evl_eq, calmOk, lim0, lim1, lim2, lim3, lim4, lim_map, lim_ints, mapA_map, mapA_ints, mapA_pure, mapA_ite, same_d, same_s, same_n, andC, orC, ints_map, ints_id, ints_int, List.take_length, tf, ft, Tg.slots, wpE, Int.cast_ofNat_Int, Int.reduceEq, Int.reduceLT, Int.reduceLE, Nat.reduceLT, Nat.reduceLeDiff, Bool.and_true, Bool.true_and, Bool.false_and, Bool.and_false, Bool.or_true, Bool.true_or, Bool.or_false, Bool.false_or, ofInts_snoc, List.append_nil, isort_len, pf_add, pf_sub, pf_eqI, pf_neI, pf_ltI, pf_gtI, pf_leI, pf_geI, pf_lenL, pf_lenT, pf_int, pf_abs, pf_neg, pf_min, pf_max, ix0T, ix1T, ix2T, ix3T, ix0L, ix1L, ix2L, rngD_I, List.take_succ_cons, last_get, last_set, take_app, mid_get, mid_set, mid_get1, mid_set1, app_app1, lim_rows, ofRows_snoc, List.append_assoc, Int.zero_add, pf_in, pf_nin, pf_inL, pf_ninL, pf_eqRow, pf_neRow, pf_eqRows, pf_eqInts, pf_sumI, pf_tupT, pf_lst, pf_lstL, pf_rev, pf_isN, pf_notN, isNone, pf_isB, pf_notB, slT_T, slT_L, slF_T, slF_L, slT_last, ofInts_take, ofInts_drop, ofRows_take, ofRows_drop, pf_tupL, pf_srtT, pf_srtL, pf_addT, pf_addL, ofInts_len, ofRows_len, ofInts_app, pf_allP, pf_anyP, raF]; rfl, rfl, _, by rw [es]⟩)
      (e := [some (.d (.int m)), some (.d (.list (ofRows (permK m i)))), a2, some (.d (.list [])), a4, none]) (h := h) ⟨rfl, a4, rfl⟩
    obtain ⟨e', h', r1, rfl, b4, rfl⟩ := key
    rw [List.take_length] at r1
    have hfo : sv WW up (R n) l__law_perms_0 [some (.d (.int m)), some (.d (.list (ofRows (permK m i)))), a2, some (.d (.list [])), a4, none] h' = _ := (svFo_eq (vs := [.d (.list (ofRows (permK m i)))]) (by simp (disch := (first | exact dv_nn _ _ | (exact dv_lt _ (by omega)) | ((try simp only [ofInts_len, ofRows_len, rngI_len, List.length_append, List.length_cons, List.length_nil, List.length_map, isort_len]); omega))) only [bvN, bvC, svE, svS, svPr, svSt, svIf, svRe, svRn, svRa, svTr, evV, evK, evG, evP, evS3, evCh, evNt, evBo, evFi, evTu, evLi, evCa, evMe, evLc, evsN, evsC, evbN, evbC, bindOk, toSOk, thenNx, thenRt, thenEx, ttB, snaps, snap, mkR, Mn.fresh, setT, datas, pars, meD, stD, itV, itD, seqOf, List.getElem?_cons_zero, List.getElem?_cons_succ, List.getElem?_nil, List.set_cons_zero, List.set_cons_succ, Option.map_some, Option.map_none, Bool.false_eq_true, if_false, if_true, List.length_cons, List.length_nil, Nat.zero_add, Nat.reduceAdd, List.map_cons, List.map_nil, eq_self, decide_true, decide_false, Bool.not_true, Bool.not_false, beq_self_eq_true, Int.reduceToNat, List.replicate_succ, List.replicate_zero, List.cons_append, List.nil_append, brcB, brcX, brcIte, thenIte, finIte, toSIte, bindIte, finRt, finNx, finX, toSX, bindX, evl_eq, calmOk, lim0, lim1, lim2, lim3, lim4, lim_map, lim_ints, mapA_map, mapA_ints, mapA_pure, mapA_ite, same_d, same_s, same_n, andC, orC, ints_map, ints_id, ints_int, List.take_length, tf, ft, Tg.slots, wpE, Int.cast_ofNat_Int, Int.reduceEq, Int.reduceLT, Int.reduceLE, Nat.reduceLT, Nat.reduceLeDiff, Bool.and_true, Bool.true_and, Bool.false_and, Bool.and_false, Bool.or_true, Bool.true_or, Bool.or_false, Bool.false_or, ofInts_snoc, List.append_nil, isort_len, pf_add, pf_sub, pf_eqI, pf_neI, pf_ltI, pf_gtI, pf_leI, pf_geI, pf_lenL, pf_lenT, pf_int, pf_abs, pf_neg, pf_min, pf_max, ix0T, ix1T, ix2T, ix3T, ix0L, ix1L, ix2L, rngD_I, List.take_succ_cons, last_get, last_set, take_app, mid_get, mid_set, mid_get1, mid_set1, app_app1, lim_rows, ofRows_snoc, List.append_assoc, Int.zero_add, pf_in, pf_nin, pf_inL, pf_ninL, pf_eqRow, pf_neRow, pf_eqRows, pf_eqInts, pf_sumI, pf_tupT, pf_lst, pf_lstL, pf_rev, pf_isN, pf_notN, isNone, pf_isB, pf_notB, slT_T, slT_L, slF_T, slF_L, slT_last, ofInts_take, ofInts_drop, ofRows_take, ofRows_drop, pf_tupL, pf_srtT, pf_srtL, pf_addT, pf_addL, ofInts_len, ofRows_len, ofInts_app, pf_allP, pf_anyP, raF]) rfl).trans r1
    exact ⟨_, b4, by simp (disch := (first | exact dv_nn _ _ | (exact dv_lt _ (by omega)) | ((try simp only [ofInts_len, ofRows_len, rngI_len, List.length_append, List.length_cons, List.length_nil, List.length_map, isort_len]); omega))) only [o__law_perms_1, hfo, bvN, bvC, svE, svS, svPr, svSt, svIf, svRe, svRn, svRa, svTr, evV, evK, evG, evP, evS3, evCh, evNt, evBo, evFi, evTu, evLi, evCa, evMe, evsN, evsC, evbN, evbC, bindOk, toSOk, thenNx, thenRt, thenEx, ttB, snaps, snap, mkR, Mn.fresh, setT, datas, pars, meD, stD, itV, itD, seqOf, List.getElem?_cons_zero, List.getElem?_cons_succ, List.getElem?_nil, List.set_cons_zero, List.set_cons_succ, Option.map_some, Option.map_none, Bool.false_eq_true, if_false, if_true, List.length_cons, List.length_nil, Nat.zero_add, Nat.reduceAdd, List.map_cons, List.map_nil, eq_self, decide_true, decide_false, Bool.not_true, Bool.not_false, beq_self_eq_true, Int.reduceToNat, List.replicate_succ, List.replicate_zero, List.cons_append, List.nil_append, brcB, brcX, brcIte, thenIte, finIte, toSIte, bindIte, finRt, finNx, finX, toSX, bindX, evl_eq, calmOk, lim0, lim1, lim2, lim3, lim4, lim_map, lim_ints, mapA_map, mapA_ints, mapA_pure, mapA_ite, same_d, same_s, same_n, andC, orC, ints_map, ints_id, ints_int, List.take_length, tf, ft, Tg.slots, wpE, Int.cast_ofNat_Int, Int.reduceEq, Int.reduceLT, Int.reduceLE, Nat.reduceLT, Nat.reduceLeDiff, Bool.and_true, Bool.true_and, Bool.false_and, Bool.and_false, Bool.or_true, Bool.true_or, Bool.or_false, Bool.false_or, ofInts_snoc, List.append_nil, isort_len, pf_add, pf_sub, pf_eqI, pf_neI, pf_ltI, pf_gtI, pf_leI, pf_geI, pf_lenL, pf_lenT, pf_int, pf_abs, pf_neg, pf_min, pf_max, ix0T, ix1T, ix2T, ix3T, ix0L, ix1L, ix2L, rngD_I, List.take_succ_cons, last_get, last_set, take_app, mid_get, mid_set, mid_get1, mid_set1, app_app1, lim_rows, ofRows_snoc, List.append_assoc, Int.zero_add, pf_in, pf_nin, pf_inL, pf_ninL, pf_eqRow, pf_neRow, pf_eqRows, pf_eqInts, pf_sumI, pf_tupT, pf_lst, pf_lstL, pf_rev, pf_isN, pf_notN, isNone, pf_isB, pf_notB, slT_T, slT_L, slF_T, slF_L, slT_last, ofInts_take, ofInts_drop, ofRows_take, ofRows_drop, pf_tupL, pf_srtT, pf_srtL, pf_addT, pf_addL, ofInts_len, ofRows_len, ofInts_app, pf_allP, pf_anyP, raF]; rfl⟩
  have key := forR_map (ok := fun h' => same h h' [.d (.int m)]) (t := .n 2) (f := bv WW up (R n) o__law_perms_1) .int
    (fun i e h' => h' = h ∧ ∃ a2 a3 a4 : Option Vl, e = [some (.d (.int m)), some (.d (.list (ofRows (permK m i)))), a2, a3, a4, none]) (xs := rngI 0 m) (fun _ _ _ _ => rfl) (fun i x e h' hx ⟨q1, a2, a3, a4, q2⟩ => by
      subst q1; subst q2
      have hi := (List.getElem?_eq_some_iff.mp hx).1
      rw [rngI_len] at hi
      obtain ⟨b3, b4, b⟩ := body i (some (.d (.int x))) a3 a4 (by omega)
      exact ⟨_, rfl, _, _, b, rfl, _, _, _, rfl⟩)
    (e := [some (.d (.int m)), some (.d (.list (ofRows [[]]))), none, none, none, none]) (h := h) ⟨rfl, none, none, none, rfl⟩
  obtain ⟨e', h', r1, rfl, a2, a3, a4, rfl⟩ := key
  rw [rngI_len] at r1
  have hfo : sv WW up (R n) l__law_perms_1 [some (.d (.int m)), some (.d (.list (ofRows [[]]))), none, none, none, none] h' = _ := (svFo_eq (vs := [.d (.int m)]) (by simp (disch := (first | exact dv_nn _ _ | (exact dv_lt _ (by omega)) | ((try simp only [ofInts_len, ofRows_len, rngI_len, List.length_append, List.length_cons, List.length_nil, List.length_map, isort_len]); omega))) only [bvN, bvC, svE, svS, svPr, svSt, svIf, svRe, svRn, svRa, svTr, evV, evK, evG, evP, evS3, evCh, evNt, evBo, evFi, evTu, evLi, evCa, evMe, evLc, evsN, evsC, evbN, evbC, bindOk, toSOk, thenNx, thenRt, thenEx, ttB, snaps, snap, mkR, Mn.fresh, setT, datas, pars, meD, stD, itV, itD, seqOf, List.getElem?_cons_zero, List.getElem?_cons_succ, List.getElem?_nil, List.set_cons_zero, List.set_cons_succ, Option.map_some, Option.map_none, Bool.false_eq_true, if_false, if_true, List.length_cons, List.length_nil, Nat.zero_add, Nat.reduceAdd, List.map_cons, List.map_nil, eq_self, decide_true, decide_false, Bool.not_true, Bool.not_false, beq_self_eq_true, Int.reduceToNat, List.replicate_succ, List.replicate_zero, List.cons_append, List.nil_append, brcB, brcX, brcIte, thenIte, finIte, toSIte, bindIte, finRt, finNx, finX, toSX, bindX, evl_eq, calmOk, lim0, lim1, lim2, lim3, lim4, lim_map, lim_ints, mapA_map, mapA_ints, mapA_pure, mapA_ite, same_d, same_s, same_n, andC, orC, ints_map, ints_id, ints_int, List.take_length, tf, ft, Tg.slots, wpE, Int.cast_ofNat_Int, Int.reduceEq, Int.reduceLT, Int.reduceLE, Nat.reduceLT, Nat.reduceLeDiff, Bool.and_true, Bool.true_and, Bool.false_and, Bool.and_false, Bool.or_true, Bool.true_or, Bool.or_false, Bool.false_or, ofInts_snoc, List.append_nil, isort_len, pf_add, pf_sub, pf_eqI, pf_neI, pf_ltI, pf_gtI, pf_leI, pf_geI, pf_lenL, pf_lenT, pf_int, pf_abs, pf_neg, pf_min, pf_max, ix0T, ix1T, ix2T, ix3T, ix0L, ix1L, ix2L, rngD_I, List.take_succ_cons, last_get, last_set, take_app, mid_get, mid_set, mid_get1, mid_set1, app_app1, lim_rows, ofRows_snoc, List.append_assoc, Int.zero_add, pf_in, pf_nin, pf_inL, pf_ninL, pf_eqRow, pf_neRow, pf_eqRows, pf_eqInts, pf_sumI, pf_tupT, pf_lst, pf_lstL, pf_rev, pf_isN, pf_notN, isNone, pf_isB, pf_notB, slT_T, slT_L, slF_T, slF_L, slT_last, ofInts_take, ofInts_drop, ofRows_take, ofRows_drop, pf_tupL, pf_srtT, pf_srtL, pf_addT, pf_addL, ofInts_len, ofRows_len, ofInts_app, pf_allP, pf_anyP, raF]) (by rw [itV_r1 _ _ (by omega) (by omega)]; rfl)).trans r1
  have h2 : (m - 0).toNat = m.toNat := by omega
  have e0 : ofRows [[]] = [PyData.tuple []] := rfl
  rw [h2, e0] at hfo
  simp (disch := (first | exact dv_nn _ _ | (exact dv_lt _ (by omega)) | ((try simp only [ofInts_len, ofRows_len, rngI_len, List.length_append, List.length_cons, List.length_nil, List.length_map, isort_len]); omega))) only [s__law_perms, b__law_perms, hfo, perms, bvN, bvC, svE, svS, svPr, svSt, svIf, svRe, svRn, svRa, svTr, evV, evK, evG, evP, evS3, evCh, evNt, evBo, evFi, evTu, evLi, evCa, evMe, evsN, evsC, evbN, evbC, bindOk, toSOk, thenNx, thenRt, thenEx, ttB, snaps, snap, mkR, Mn.fresh, setT, datas, pars, meD, stD, itV, itD, seqOf, List.getElem?_cons_zero, List.getElem?_cons_succ, List.getElem?_nil, List.set_cons_zero, List.set_cons_succ, Option.map_some, Option.map_none, Bool.false_eq_true, if_false, if_true, List.length_cons, List.length_nil, Nat.zero_add, Nat.reduceAdd, List.map_cons, List.map_nil, eq_self, decide_true, decide_false, Bool.not_true, Bool.not_false, beq_self_eq_true, Int.reduceToNat, List.replicate_succ, List.replicate_zero, List.cons_append, List.nil_append, brcB, brcX, brcIte, thenIte, finIte, toSIte, bindIte, finRt, finNx, finX, toSX, bindX, evl_eq, calmOk, lim0, lim1, lim2, lim3, lim4, lim_map, lim_ints, mapA_map, mapA_ints, mapA_pure, mapA_ite, same_d, same_s, same_n, andC, orC, ints_map, ints_id, ints_int, List.take_length, tf, ft, Tg.slots, wpE, Int.cast_ofNat_Int, Int.reduceEq, Int.reduceLT, Int.reduceLE, Nat.reduceLT, Nat.reduceLeDiff, Bool.and_true, Bool.true_and, Bool.false_and, Bool.and_false, Bool.or_true, Bool.true_or, Bool.or_false, Bool.false_or, ofInts_snoc, List.append_nil, isort_len, pf_add, pf_sub, pf_eqI, pf_neI, pf_ltI, pf_gtI, pf_leI, pf_geI, pf_lenL, pf_lenT, pf_int, pf_abs, pf_neg, pf_min, pf_max, ix0T, ix1T, ix2T, ix3T, ix0L, ix1L, ix2L, rngD_I, List.take_succ_cons, last_get, last_set, take_app, mid_get, mid_set, mid_get1, mid_set1, app_app1, lim_rows, ofRows_snoc, List.append_assoc, Int.zero_add, pf_in, pf_nin, pf_inL, pf_ninL, pf_eqRow, pf_neRow, pf_eqRows, pf_eqInts, pf_sumI, pf_tupT, pf_lst, pf_lstL, pf_rev, pf_isN, pf_notN, isNone, pf_isB, pf_notB, slT_T, slT_L, slF_T, slF_L, slT_last, ofInts_take, ofInts_drop, ofRows_take, ofRows_drop, pf_tupL, pf_srtT, pf_srtL, pf_addT, pf_addL, ofInts_len, ofRows_len, ofInts_app, pf_allP, pf_anyP, raF]
/-! ### the least table -/
theorem minD_T (x : List (List Int)) : ∀ xs : List (List (List Int)), PySem.W.minD (.list (ofRows x)) (xs.map fun t => .list (ofRows t)) = .list (ofRows (minG ltT x xs)) := by
  intro xs
  induction xs generalizing x with
  | nil => rfl
  | cons y xs ih =>
    show PySem.W.minD (if PySem.W.dataLt (.list (ofRows y)) (.list (ofRows x)) = true then .list (ofRows y) else .list (ofRows x)) _ = PyData.list (ofRows (minG ltT (if ltT y x = true then y else x) xs))
    rw [dataLt_T]
    split <;> exact ih _
theorem pf_minT (x : List (List Int)) (xs : List (List (List Int))) : pf .minL [.list ((x :: xs).map fun t => .list (ofRows t))] = some (.list (ofRows (minG ltT x xs))) := by
  have a : alikeL ((x :: xs).map fun t => PyData.list (ofRows t)) = true := by
    simp only [alikeL, Bool.and_eq_true, List.all_eq_true, decide_eq_true_eq, Bool.not_eq_true']
    refine ⟨⟨fun u hu v hv => ?_, fun u hu => ?_⟩, ?_⟩
    · obtain ⟨a, _, rfl⟩ := List.mem_map.mp hu
      obtain ⟨b, _, rfl⟩ := List.mem_map.mp hv
      exact alike_T a b
    · obtain ⟨a, _, rfl⟩ := List.mem_map.mp hu
      rfl
    · have := depthAll_le (D := 2) (xs := (x :: xs).map fun t => PyData.list (ofRows t)) fun u hu => by
        obtain ⟨a, _, rfl⟩ := List.mem_map.mp hu
        exact depth_T a
      omega
  show (if alikeL ((x :: xs).map fun t => PyData.list (ofRows t)) = true then _ else _) = _
  rw [if_pos a]
  exact congrArg some (minD_T x xs)
theorem law_code (n : Nat) {m s : Int} {bs : List (List Int)} (E : Elc m bs s) (hm : m ≤ 6) (h : MH) : R (n + 2) 21 [.d (elOf m bs s)] h = .ok (.d (elOf m (codeT m bs) s)) h := by
  have m1 := E.m1
  have l2 := E.l2
  have lp := law_perms n (m := m) (by omega) hm h
  have pl := permK_le hm m.toNat (by omega)
  have q0 : ∀ (p : List Int), IsP m p → ∀ (a1 : Option Vl), ev (R (n + 1)) q__law_code_0 [some (.d (elOf m bs s)), a1, some (.d (.tuple (ofInts p))), none] h = .ok (.d (.list (ofRows (bs.map (mpR p))))) h := fun p hp a1 => by
    rw [← rows_map]
    refine lc_p (φ := ofRow) (L := bs) (vs := [.d (.tuple (ofRows bs))]) (fun b => .tuple (ofInts (mpR p b))) (by simp (disch := (first | exact dv_nn _ _ | (exact dv_lt _ (by omega)) | ((try simp only [ofInts_len, ofRows_len, rngI_len, List.length_append, List.length_cons, List.length_nil, List.length_map, isort_len]); omega))) only [bvN, bvC, svE, svS, svPr, svSt, svIf, svRe, svRn, svRa, svTr, evV, evK, evG, evP, evS3, evCh, evNt, evBo, evFi, evTu, evLi, evCa, evMe, evLc, evsN, evsC, evbN, evbC, bindOk, toSOk, thenNx, thenRt, thenEx, ttB, snaps, snap, mkR, Mn.fresh, setT, datas, pars, meD, stD, itV, itD, seqOf, List.getElem?_cons_zero, List.getElem?_cons_succ, List.getElem?_nil, List.set_cons_zero, List.set_cons_succ, Option.map_some, Option.map_none, Bool.false_eq_true, if_false, if_true, List.length_cons, List.length_nil, Nat.zero_add, Nat.reduceAdd, List.map_cons, List.map_nil, eq_self, decide_true, decide_false, Bool.not_true, Bool.not_false, beq_self_eq_true, Int.reduceToNat, List.replicate_succ, List.replicate_zero, List.cons_append, List.nil_append, brcB, brcX, brcIte, thenIte, finIte, toSIte, bindIte, finRt, finNx, finX, toSX, bindX, evl_eq, calmOk, lim0, lim1, lim2, lim3, lim4, lim_map, lim_ints, mapA_map, mapA_ints, mapA_pure, mapA_ite, same_d, same_s, same_n, andC, orC, ints_map, ints_id, ints_int, List.take_length, tf, ft, Tg.slots, wpE, Int.cast_ofNat_Int, Int.reduceEq, Int.reduceLT, Int.reduceLE, Nat.reduceLT, Nat.reduceLeDiff, Bool.and_true, Bool.true_and, Bool.false_and, Bool.and_false, Bool.or_true, Bool.true_or, Bool.or_false, Bool.false_or, ofInts_snoc, List.append_nil, isort_len, pf_add, pf_sub, pf_eqI, pf_neI, pf_ltI, pf_gtI, pf_leI, pf_geI, pf_lenL, pf_lenT, pf_int, pf_abs, pf_neg, pf_min, pf_max, ix0T, ix1T, ix2T, ix3T, ix0L, ix1L, ix2L, rngD_I, List.take_succ_cons, last_get, last_set, take_app, mid_get, mid_set, mid_get1, mid_set1, app_app1, lim_rows, ofRows_snoc, List.append_assoc, Int.zero_add, pf_in, pf_nin, pf_inL, pf_ninL, pf_eqRow, pf_neRow, pf_eqRows, pf_eqInts, pf_sumI, pf_tupT, pf_lst, pf_lstL, pf_rev, pf_isN, pf_notN, isNone, pf_isB, pf_notB, slT_T, slT_L, slF_T, slF_L, slT_last, ofInts_take, ofInts_drop, ofRows_take, ofRows_drop, pf_tupL, pf_srtT, pf_srtL, pf_addT, pf_addL, ofInts_len, ofRows_len, ofInts_app, pf_allP, pf_anyP, raF]) rfl (by omega) rfl fun b hb => ?_
    have mo := law_mapped n hp (E.rows b hb).2 (by have := E.len hb; omega) h
    simp (disch := (first | exact dv_nn _ _ | (exact dv_lt _ (by omega)) | ((try simp only [ofInts_len, ofRows_len, rngI_len, List.length_append, List.length_cons, List.length_nil, List.length_map, isort_len]); omega))) only [ofRow, mo, bvN, bvC, svE, svS, svPr, svSt, svIf, svRe, svRn, svRa, svTr, evV, evK, evG, evP, evS3, evCh, evNt, evBo, evFi, evTu, evLi, evCa, evMe, evLc, evsN, evsC, evbN, evbC, bindOk, toSOk, thenNx, thenRt, thenEx, ttB, snaps, snap, mkR, Mn.fresh, setT, datas, pars, meD, stD, itV, itD, seqOf, List.getElem?_cons_zero, List.getElem?_cons_succ, List.getElem?_nil, List.set_cons_zero, List.set_cons_succ, Option.map_some, Option.map_none, Bool.false_eq_true, if_false, if_true, List.length_cons, List.length_nil, Nat.zero_add, Nat.reduceAdd, List.map_cons, List.map_nil, eq_self, decide_true, decide_false, Bool.not_true, Bool.not_false, beq_self_eq_true, Int.reduceToNat, List.replicate_succ, List.replicate_zero, List.cons_append, List.nil_append, brcB, brcX, brcIte, thenIte, finIte, toSIte, bindIte, finRt, finNx, finX, toSX, bindX, evl_eq, calmOk, lim0, lim1, lim2, lim3, lim4, lim_map, lim_ints, mapA_map, mapA_ints, mapA_pure, mapA_ite, same_d, same_s, same_n, andC, orC, ints_map, ints_id, ints_int, List.take_length, tf, ft, Tg.slots, wpE, Int.cast_ofNat_Int, Int.reduceEq, Int.reduceLT, Int.reduceLE, Nat.reduceLT, Nat.reduceLeDiff, Bool.and_true, Bool.true_and, Bool.false_and, Bool.and_false, Bool.or_true, Bool.true_or, Bool.or_false, Bool.false_or, ofInts_snoc, List.append_nil, isort_len, pf_add, pf_sub, pf_eqI, pf_neI, pf_ltI, pf_gtI, pf_leI, pf_geI, pf_lenL, pf_lenT, pf_int, pf_abs, pf_neg, pf_min, pf_max, ix0T, ix1T, ix2T, ix3T, ix0L, ix1L, ix2L, rngD_I, List.take_succ_cons, last_get, last_set, take_app, mid_get, mid_set, mid_get1, mid_set1, app_app1, lim_rows, ofRows_snoc, List.append_assoc, Int.zero_add, pf_in, pf_nin, pf_inL, pf_ninL, pf_eqRow, pf_neRow, pf_eqRows, pf_eqInts, pf_sumI, pf_tupT, pf_lst, pf_lstL, pf_rev, pf_isN, pf_notN, isNone, pf_isB, pf_notB, slT_T, slT_L, slF_T, slF_L, slT_last, ofInts_take, ofInts_drop, ofRows_take, ofRows_drop, pf_tupL, pf_srtT, pf_srtL, pf_addT, pf_addL, ofInts_len, ofRows_len, ofInts_app, pf_allP, pf_anyP, raF]
  have q1 : ev (R (n + 1)) q__law_code_1 [some (.d (elOf m bs s)), none, none, none] h = .ok (.d (.list ((tabs m bs).map fun t => .list (ofRows t)))) h := by
    unfold tabs
    rw [List.map_map]
    refine lc_p (φ := ofRow) (L := perms m) (vs := [.d (.list (ofRows (perms m)))]) (fun p => .list (ofRows (tabR bs p))) (by simp (disch := (first | exact dv_nn _ _ | (exact dv_lt _ (by omega)) | ((try simp only [ofInts_len, ofRows_len, rngI_len, List.length_append, List.length_cons, List.length_nil, List.length_map, isort_len]); omega))) only [lp, bvN, bvC, svE, svS, svPr, svSt, svIf, svRe, svRn, svRa, svTr, evV, evK, evG, evP, evS3, evCh, evNt, evBo, evFi, evTu, evLi, evCa, evMe, evLc, evsN, evsC, evbN, evbC, bindOk, toSOk, thenNx, thenRt, thenEx, ttB, snaps, snap, mkR, Mn.fresh, setT, datas, pars, meD, stD, itV, itD, seqOf, List.getElem?_cons_zero, List.getElem?_cons_succ, List.getElem?_nil, List.set_cons_zero, List.set_cons_succ, Option.map_some, Option.map_none, Bool.false_eq_true, if_false, if_true, List.length_cons, List.length_nil, Nat.zero_add, Nat.reduceAdd, List.map_cons, List.map_nil, eq_self, decide_true, decide_false, Bool.not_true, Bool.not_false, beq_self_eq_true, Int.reduceToNat, List.replicate_succ, List.replicate_zero, List.cons_append, List.nil_append, brcB, brcX, brcIte, thenIte, finIte, toSIte, bindIte, finRt, finNx, finX, toSX, bindX, evl_eq, calmOk, lim0, lim1, lim2, lim3, lim4, lim_map, lim_ints, mapA_map, mapA_ints, mapA_pure, mapA_ite, same_d, same_s, same_n, andC, orC, ints_map, ints_id, ints_int, List.take_length, tf, ft, Tg.slots, wpE, Int.cast_ofNat_Int, Int.reduceEq, Int.reduceLT, Int.reduceLE, Nat.reduceLT, Nat.reduceLeDiff, Bool.and_true, Bool.true_and, Bool.false_and, Bool.and_false, Bool.or_true, Bool.true_or, Bool.or_false, Bool.false_or, ofInts_snoc, List.append_nil, isort_len, pf_add, pf_sub, pf_eqI, pf_neI, pf_ltI, pf_gtI, pf_leI, pf_geI, pf_lenL, pf_lenT, pf_int, pf_abs, pf_neg, pf_min, pf_max, ix0T, ix1T, ix2T, ix3T, ix0L, ix1L, ix2L, rngD_I, List.take_succ_cons, last_get, last_set, take_app, mid_get, mid_set, mid_get1, mid_set1, app_app1, lim_rows, ofRows_snoc, List.append_assoc, Int.zero_add, pf_in, pf_nin, pf_inL, pf_ninL, pf_eqRow, pf_neRow, pf_eqRows, pf_eqInts, pf_sumI, pf_tupT, pf_lst, pf_lstL, pf_rev, pf_isN, pf_notN, isNone, pf_isB, pf_notB, slT_T, slT_L, slF_T, slF_L, slT_last, ofInts_take, ofInts_drop, ofRows_take, ofRows_drop, pf_tupL, pf_srtT, pf_srtL, pf_addT, pf_addL, ofInts_len, ofRows_len, ofInts_app, pf_allP, pf_anyP, raF]) rfl (by unfold perms; omega) rfl fun p hp => ?_
    have q0 := q0 p (perms_iff.mp hp)
    unfold tabR
    simp (disch := (first | exact dv_nn _ _ | (exact dv_lt _ (by omega)) | ((try simp only [ofInts_len, ofRows_len, rngI_len, List.length_append, List.length_cons, List.length_nil, List.length_map, isort_len]); omega))) only [ofRow, q0, pf_srtR, bvN, bvC, svE, svS, svPr, svSt, svIf, svRe, svRn, svRa, svTr, evV, evK, evG, evP, evS3, evCh, evNt, evBo, evFi, evTu, evLi, evCa, evMe, evsN, evsC, evbN, evbC, bindOk, toSOk, thenNx, thenRt, thenEx, ttB, snaps, snap, mkR, Mn.fresh, setT, datas, pars, meD, stD, itV, itD, seqOf, List.getElem?_cons_zero, List.getElem?_cons_succ, List.getElem?_nil, List.set_cons_zero, List.set_cons_succ, Option.map_some, Option.map_none, Bool.false_eq_true, if_false, if_true, List.length_cons, List.length_nil, Nat.zero_add, Nat.reduceAdd, List.map_cons, List.map_nil, eq_self, decide_true, decide_false, Bool.not_true, Bool.not_false, beq_self_eq_true, Int.reduceToNat, List.replicate_succ, List.replicate_zero, List.cons_append, List.nil_append, brcB, brcX, brcIte, thenIte, finIte, toSIte, bindIte, finRt, finNx, finX, toSX, bindX, evl_eq, calmOk, lim0, lim1, lim2, lim3, lim4, lim_map, lim_ints, mapA_map, mapA_ints, mapA_pure, mapA_ite, same_d, same_s, same_n, andC, orC, ints_map, ints_id, ints_int, List.take_length, tf, ft, Tg.slots, wpE, Int.cast_ofNat_Int, Int.reduceEq, Int.reduceLT, Int.reduceLE, Nat.reduceLT, Nat.reduceLeDiff, Bool.and_true, Bool.true_and, Bool.false_and, Bool.and_false, Bool.or_true, Bool.true_or, Bool.or_false, Bool.false_or, ofInts_snoc, List.append_nil, isort_len, pf_add, pf_sub, pf_eqI, pf_neI, pf_ltI, pf_gtI, pf_leI, pf_geI, pf_lenL, pf_lenT, pf_int, pf_abs, pf_neg, pf_min, pf_max, ix0T, ix1T, ix2T, ix3T, ix0L, ix1L, ix2L, rngD_I, List.take_succ_cons, last_get, last_set, take_app, mid_get, mid_set, mid_get1, mid_set1, app_app1, lim_rows, ofRows_snoc, List.append_assoc, Int.zero_add, pf_in, pf_nin, pf_inL, pf_ninL, pf_eqRow, pf_neRow, pf_eqRows, pf_eqInts, pf_sumI, pf_tupT, pf_lst, pf_lstL, pf_rev, pf_isN, pf_notN, isNone, pf_isB, pf_notB, slT_T, slT_L, slF_T, slF_L, slT_last, ofInts_take, ofInts_drop, ofRows_take, ofRows_drop, pf_tupL, pf_srtT, pf_srtL, pf_addT, pf_addL, ofInts_len, ofRows_len, ofInts_app, pf_allP, pf_anyP, raF]
  have ne := tabs_ne (m := m) (by omega) bs
  cases ht : tabs m bs with
  | nil => exact absurd ht ne
  | cons x xs =>
    have ec : codeT m bs = minG ltT x xs := by unfold codeT; rw [ht]
    rw [ht] at q1
    have mt := pf_minT x xs
    rw [ec]
    generalize (x :: xs).map (fun t => PyData.list (ofRows t)) = tt' at *
    simp (disch := (first | exact dv_nn _ _ | (exact dv_lt _ (by omega)) | ((try simp only [ofInts_len, ofRows_len, rngI_len, List.length_append, List.length_cons, List.length_nil, List.length_map, isort_len]); omega))) only [s__law_code, b__law_code, q1, mt, bvN, bvC, svE, svS, svPr, svSt, svIf, svRe, svRn, svRa, svTr, evV, evK, evG, evP, evS3, evCh, evNt, evBo, evFi, evTu, evLi, evCa, evMe, evsN, evsC, evbN, evbC, bindOk, toSOk, thenNx, thenRt, thenEx, ttB, snaps, snap, mkR, Mn.fresh, setT, datas, pars, meD, stD, itV, itD, seqOf, List.getElem?_cons_zero, List.getElem?_cons_succ, List.getElem?_nil, List.set_cons_zero, List.set_cons_succ, Option.map_some, Option.map_none, Bool.false_eq_true, if_false, if_true, List.length_cons, List.length_nil, Nat.zero_add, Nat.reduceAdd, List.map_cons, List.map_nil, eq_self, decide_true, decide_false, Bool.not_true, Bool.not_false, beq_self_eq_true, Int.reduceToNat, List.replicate_succ, List.replicate_zero, List.cons_append, List.nil_append, brcB, brcX, brcIte, thenIte, finIte, toSIte, bindIte, finRt, finNx, finX, toSX, bindX, evl_eq, calmOk, lim0, lim1, lim2, lim3, lim4, lim_map, lim_ints, mapA_map, mapA_ints, mapA_pure, mapA_ite, same_d, same_s, same_n, andC, orC, ints_map, ints_id, ints_int, List.take_length, tf, ft, Tg.slots, wpE, Int.cast_ofNat_Int, Int.reduceEq, Int.reduceLT, Int.reduceLE, Nat.reduceLT, Nat.reduceLeDiff, Bool.and_true, Bool.true_and, Bool.false_and, Bool.and_false, Bool.or_true, Bool.true_or, Bool.or_false, Bool.false_or, ofInts_snoc, List.append_nil, isort_len, pf_add, pf_sub, pf_eqI, pf_neI, pf_ltI, pf_gtI, pf_leI, pf_geI, pf_lenL, pf_lenT, pf_int, pf_abs, pf_neg, pf_min, pf_max, ix0T, ix1T, ix2T, ix3T, ix0L, ix1L, ix2L, rngD_I, List.take_succ_cons, last_get, last_set, take_app, mid_get, mid_set, mid_get1, mid_set1, app_app1, lim_rows, ofRows_snoc, List.append_assoc, Int.zero_add, pf_in, pf_nin, pf_inL, pf_ninL, pf_eqRow, pf_neRow, pf_eqRows, pf_eqInts, pf_sumI, pf_tupT, pf_lst, pf_lstL, pf_rev, pf_isN, pf_notN, isNone, pf_isB, pf_notB, slT_T, slT_L, slF_T, slF_L, slT_last, ofInts_take, ofInts_drop, ofRows_take, ofRows_drop, pf_tupL, pf_srtT, pf_srtL, pf_addT, pf_addL, ofInts_len, ofRows_len, ofInts_app, pf_allP, pf_anyP, raF]
end K61

/-! the law's own alike; drawn others; told. -/
namespace K61
open PySem Mn
theorem forR_findT {α : Type} {ok : MH → Bool} {t : Tg} {f : Mn.Ev → MH → Ss} {φ : α → PyData} (p : α → Bool) (v : α → Vl) (S : Mn.Ev → Prop) (T : MH → Prop) {h : MH} (hok : ok h = true) :
    ∀ {L : List α} {e : Mn.Ev}, S e → (∀ x ∈ L, ∀ e, S e → ∃ e1, setT t (.d (φ x)) e = some e1 ∧ (p x = true → ∃ h', f e1 h = .rt (v x) h' ∧ T h') ∧ (p x = false → ∃ e2, f e1 h = .nx e2 h ∧ S e2)) →
      (∀ x, L.find? p = some x → ∃ h', forR ok t f (L.map φ) e h = .rt (v x) h' ∧ T h') ∧ (L.find? p = none → ∃ e', forR ok t f (L.map φ) e h = .nx e' h ∧ S e')
  | [], e, hS, _ => ⟨fun x hx => by simp at hx, fun _ => ⟨e, by simp [forR, hok], hS⟩⟩
  | x :: L, e, hS, hf => by
    obtain ⟨e1, h1, h2, h3⟩ := hf x List.mem_cons_self e hS
    cases hp : p x with
    | true =>
      refine ⟨fun y hy => ?_, fun hy => by simp [hp] at hy⟩
      simp only [List.find?_cons, hp, Option.some.injEq] at hy
      subst hy
      obtain ⟨h', q1, q2⟩ := h2 hp
      exact ⟨h', by simp only [List.map_cons, forR, hok, if_true, h1, q1], q2⟩
    | false =>
      obtain ⟨e2, h4, h5⟩ := h3 hp
      obtain ⟨g1, g2⟩ := forR_findT p v S T hok (L := L) h5 fun y m => hf y (List.mem_cons_of_mem _ m)
      refine ⟨fun y hy => ?_, fun hy => ?_⟩
      · simp only [List.find?_cons, hp] at hy
        simp only [List.map_cons, forR, hok, if_true, h1, h4]
        exact g1 y hy
      · simp only [List.find?_cons, hp] at hy
        simp only [List.map_cons, forR, hok, if_true, h1, h4]
        exact g2 hy
theorem erase_filter : ∀ {l : List Int} {j : Int}, l.Nodup → l.eraseIdx (l.idxOf j) = l.filter fun i => !decide (i = j)
  | [], _, _ => rfl
  | a :: l, j, h => by
    have h' := List.nodup_cons.mp h
    by_cases e : a = j
    · subst e
      rw [List.idxOf_cons_self, List.eraseIdx_cons_zero, List.filter_cons, if_neg (by simp)]
      refine (List.filter_eq_self.mpr fun i hi => ?_).symm
      simp only [Bool.not_eq_true', decide_eq_false_iff_not]
      intro z; rw [z] at hi; exact h'.1 hi
    · have ie : (a :: l).idxOf j = l.idxOf j + 1 := by
        rw [List.idxOf_cons, beq_false_of_ne e]; rfl
      rw [ie, List.eraseIdx_cons_succ, erase_filter h'.2, List.filter_cons, if_pos (by simp [e])]
theorem mem_snoc (o : List Int) (j i : Int) : mem (o ++ [j]) i = (mem o i || decide (j = i)) := by simp [mem]
/-- the law's order of the voters -/
theorem order_loop (n : Nat) {rows b2 : List (List Int)} (hp : rows.Perm b2) (hl : rows.length ≤ 60) (h : MH) (one p : PyData) (m2 s2 : Int) (a5 : Option Vl) :
    ∃ (a5' : Option Vl), sv WW up (R n) l__law_alike_0 [some (.d one), some (.d (elOf m2 b2 s2)), some (.d p), some (.d (.list (ofRows rows))), some (.r h.length), a5, none] (h ++ [.l []]) =
      .nx [some (.d one), some (.d (elOf m2 b2 s2)), some (.d p), some (.d (.list (ofRows rows))), some (.r h.length), a5', none] (h ++ [.l (ofInts (ordT rows b2))]) := by
  have hall : ((rngI 0 rows.length).map fun i => rows.getD i.toNat []) = rows := by
    apply List.ext_getElem
    · simp [rngI_len]
    · intro i h1 h2
      rw [List.getElem_map, rngI_get, List.getD_eq_getElem?_getD, Int.toNat_natCast, List.getElem?_eq_getElem h2]; rfl
  obtain ⟨O, g1, g2, g3⟩ := grd_ok rows b2 (rngI 0 rows.length) (by rw [hall]; exact hp)
  have hO : ordT rows b2 = O := by unfold ordT; rw [g1]; rfl
  have ol : O.length ≤ 60 := by rw [g3.length_eq, rngI_len]; omega
  rw [hO]
  have key := forR_map (ok := fun h' => same (h ++ [.l []]) h' [.d (.tuple (ofRows b2))]) (t := .n 5) (f := bv WW up (R n) o__law_alike_0) ofRow
    (fun i e h' => ∃ (o rest : List Int) (a5 : Option Vl), e = [some (.d one), some (.d (elOf m2 b2 s2)), some (.d p), some (.d (.list (ofRows rows))), some (.r h.length), a5, none] ∧ h' = h ++ [.l (ofInts o)] ∧ grd rows ((rngI 0 rows.length).filter fun i => !mem o i) (b2.drop i) = some rest ∧ o ++ rest = O)
    (xs := b2) (fun _ _ _ _ => rfl) (fun i d e h' hx ⟨o, rest, a5, q1, q2, q3, q4⟩ => by
      subst q1; subst q2
      refine ⟨_, rfl, ?_⟩
      have il : i < b2.length := (List.getElem?_eq_some_iff.mp hx).1
      have ed : b2.drop i = d :: b2.drop (i + 1) := by rw [List.drop_eq_getElem_cons il, (List.getElem?_eq_some_iff.mp hx).2]
      rw [ed] at q3
      simp only [grd] at q3
      rw [List.filter_filter] at q3
      cases hf : (rngI 0 rows.length).filter (fun i => decide (rows.getD i.toNat [] = d) && !mem o i) with
      | nil => rw [hf] at q3; cases q3
      | cons j r =>
        rw [hf] at q3
        simp only at q3
        obtain ⟨rest', e1, e2⟩ := Option.map_eq_some_iff.mp q3
        have q : ∀ (a2 : Option Vl), ev (R n) q__law_alike_1 [some (.d one), some (.d (elOf m2 b2 s2)), a2, some (.d (.list (ofRows rows))), some (.r h.length), some (.d (.tuple (ofInts d))), none] (h ++ [.l (ofInts o)]) = .ok (.d (.list (ofInts (j :: r)))) (h ++ [.l (ofInts o)]) := fun a2 => by
          have := lc_pf (F := R n) (a := .v 6) (tg := .n 6) (kd := .r1) (es := .c (.p false .len (.c (.v 3) .n)) .n) (fs := .c (.bo true (.c (.p false .eq (.c (.p false .ix (.c (.v 3) (.c (.v 6) .n))) (.c (.v 5) .n))) (.c (.p false .notin (.c (.v 6) (.c (.v 4) .n))) .n))) .n) (e := [some (.d one), some (.d (elOf m2 b2 s2)), a2, some (.d (.list (ofRows rows))), some (.r h.length), some (.d (.tuple (ofInts d))), none]) (h := h ++ [.l (ofInts o)])
            (φ := .int) (L := rngI 0 rows.length) (vs := [.d (.int rows.length)]) (fun i => decide (rows.getD i.toNat [] = d) && !mem o i) (fun i => .int i) (by simp (disch := (first | exact dv_nn _ _ | (exact dv_lt _ (by omega)) | ((try simp only [ofInts_len, ofRows_len, rngI_len, List.length_append, List.length_cons, List.length_nil, List.length_map, isort_len]); omega))) only [bvN, bvC, svE, svS, svPr, svSt, svIf, svRe, svRn, svRa, svTr, evV, evK, evG, evP, evS3, evCh, evNt, evBo, evFi, evTu, evLi, evCa, evMe, evLc, evsN, evsC, evbN, evbC, bindOk, toSOk, thenNx, thenRt, thenEx, ttB, snaps, snap, mkR, Mn.fresh, setT, datas, pars, meD, stD, itV, itD, seqOf, List.getElem?_cons_zero, List.getElem?_cons_succ, List.getElem?_nil, List.set_cons_zero, List.set_cons_succ, Option.map_some, Option.map_none, Bool.false_eq_true, if_false, if_true, List.length_cons, List.length_nil, Nat.zero_add, Nat.reduceAdd, List.map_cons, List.map_nil, eq_self, decide_true, decide_false, Bool.not_true, Bool.not_false, beq_self_eq_true, Int.reduceToNat, List.replicate_succ, List.replicate_zero, List.cons_append, List.nil_append, brcB, brcX, brcIte, thenIte, finIte, toSIte, bindIte, finRt, finNx, finX, toSX, bindX, evl_eq, calmOk, lim0, lim1, lim2, lim3, lim4, lim_map, lim_ints, mapA_map, mapA_ints, mapA_pure, mapA_ite, same_d, same_s, same_n, andC, orC, ints_map, ints_id, ints_int, List.take_length, tf, ft, Tg.slots, wpE, Int.cast_ofNat_Int, Int.reduceEq, Int.reduceLT, Int.reduceLE, Nat.reduceLT, Nat.reduceLeDiff, Bool.and_true, Bool.true_and, Bool.false_and, Bool.and_false, Bool.or_true, Bool.true_or, Bool.or_false, Bool.false_or, ofInts_snoc, List.append_nil, isort_len, pf_add, pf_sub, pf_eqI, pf_neI, pf_ltI, pf_gtI, pf_leI, pf_geI, pf_lenL, pf_lenT, pf_int, pf_abs, pf_neg, pf_min, pf_max, ix0T, ix1T, ix2T, ix3T, ix0L, ix1L, ix2L, rngD_I, List.take_succ_cons, last_get, last_set, take_app, mid_get, mid_set, mid_get1, mid_set1, app_app1, lim_rows, ofRows_snoc, List.append_assoc, Int.zero_add, pf_in, pf_nin, pf_inL, pf_ninL, pf_eqRow, pf_neRow, pf_eqRows, pf_eqInts, pf_sumI, pf_tupT, pf_lst, pf_lstL, pf_rev, pf_isN, pf_notN, isNone, pf_isB, pf_notB, slT_T, slT_L, slF_T, slF_L, slT_last, ofInts_take, ofInts_drop, ofRows_take, ofRows_drop, pf_tupL, pf_srtT, pf_srtL, pf_addT, pf_addL, ofInts_len, ofRows_len, ofInts_app, pf_allP, pf_anyP, raF]) (by rw [itV_r1 _ _ (by omega) (by omega)]; rfl) (by rw [rngI_len]; omega) rfl fun i hi => by
              have g := rngI_mem.mp hi
              have g1 := g.1
              have g2 := g.2
              simp (disch := (first | exact dv_nn _ _ | (exact dv_lt _ (by omega)) | ((try simp only [ofInts_len, ofRows_len, rngI_len, List.length_append, List.length_cons, List.length_nil, List.length_map, isort_len]); omega))) only [ixRows, bvN, bvC, svE, svS, svPr, svSt, svIf, svRe, svRn, svRa, svTr, evV, evK, evG, evP, evS3, evCh, evNt, evBo, evFi, evTu, evLi, evCa, evMe, evLc, evsN, evsC, evbN, evbC, bindOk, toSOk, thenNx, thenRt, thenEx, ttB, snaps, snap, mkR, Mn.fresh, setT, datas, pars, meD, stD, itV, itD, seqOf, List.getElem?_cons_zero, List.getElem?_cons_succ, List.getElem?_nil, List.set_cons_zero, List.set_cons_succ, Option.map_some, Option.map_none, Bool.false_eq_true, if_false, if_true, List.length_cons, List.length_nil, Nat.zero_add, Nat.reduceAdd, List.map_cons, List.map_nil, eq_self, decide_true, decide_false, Bool.not_true, Bool.not_false, beq_self_eq_true, Int.reduceToNat, List.replicate_succ, List.replicate_zero, List.cons_append, List.nil_append, brcB, brcX, brcIte, thenIte, finIte, toSIte, bindIte, finRt, finNx, finX, toSX, bindX, evl_eq, calmOk, lim0, lim1, lim2, lim3, lim4, lim_map, lim_ints, mapA_map, mapA_ints, mapA_pure, mapA_ite, same_d, same_s, same_n, andC, orC, ints_map, ints_id, ints_int, List.take_length, tf, ft, Tg.slots, wpE, Int.cast_ofNat_Int, Int.reduceEq, Int.reduceLT, Int.reduceLE, Nat.reduceLT, Nat.reduceLeDiff, Bool.and_true, Bool.true_and, Bool.false_and, Bool.and_false, Bool.or_true, Bool.true_or, Bool.or_false, Bool.false_or, ofInts_snoc, List.append_nil, isort_len, pf_add, pf_sub, pf_eqI, pf_neI, pf_ltI, pf_gtI, pf_leI, pf_geI, pf_lenL, pf_lenT, pf_int, pf_abs, pf_neg, pf_min, pf_max, ix0T, ix1T, ix2T, ix3T, ix0L, ix1L, ix2L, rngD_I, List.take_succ_cons, last_get, last_set, take_app, mid_get, mid_set, mid_get1, mid_set1, app_app1, lim_rows, ofRows_snoc, List.append_assoc, Int.zero_add, pf_in, pf_nin, pf_inL, pf_ninL, pf_eqRow, pf_neRow, pf_eqRows, pf_eqInts, pf_sumI, pf_tupT, pf_lst, pf_lstL, pf_rev, pf_isN, pf_notN, isNone, pf_isB, pf_notB, slT_T, slT_L, slF_T, slF_L, slT_last, ofInts_take, ofInts_drop, ofRows_take, ofRows_drop, pf_tupL, pf_srtT, pf_srtL, pf_addT, pf_addL, ofInts_len, ofRows_len, ofInts_app, pf_allP, pf_anyP, raF]
          rw [hf] at this
          exact this
        have xj : pf .ix [.list (ofInts (j :: r)), .int 0] = some (.int j) := ix0L _ _
        have oll : o.length ≤ 60 := by rw [← q4] at ol; simp at ol; omega
        have fe : ((rngI 0 rows.length).filter fun i => !mem o i).eraseIdx (((rngI 0 rows.length).filter fun i => !mem o i).idxOf j) = (rngI 0 rows.length).filter fun i => !mem (o ++ [j]) i := by
          rw [erase_filter ((rngI_nodup _ _).filter _), List.filter_filter]
          congr 1
          funext i
          rw [mem_snoc]
          cases mem o i <;> by_cases z : i = j
          · subst z; simp
          · simp [z, Ne.symm z]
          · simp
          · simp
        rw [fe] at e1
        generalize j :: r = fitl at *
        refine ⟨_, _, by simp (disch := (first | exact dv_nn _ _ | (exact dv_lt _ (by omega)) | ((try simp only [ofInts_len, ofRows_len, rngI_len, List.length_append, List.length_cons, List.length_nil, List.length_map, isort_len]); omega))) only [o__law_alike_0, ofRow, q, xj, bvN, bvC, svE, svS, svPr, svSt, svIf, svRe, svRn, svRa, svTr, evV, evK, evG, evP, evS3, evCh, evNt, evBo, evFi, evTu, evLi, evCa, evMe, evsN, evsC, evbN, evbC, bindOk, toSOk, thenNx, thenRt, thenEx, ttB, snaps, snap, mkR, Mn.fresh, setT, datas, pars, meD, stD, itV, itD, seqOf, List.getElem?_cons_zero, List.getElem?_cons_succ, List.getElem?_nil, List.set_cons_zero, List.set_cons_succ, Option.map_some, Option.map_none, Bool.false_eq_true, if_false, if_true, List.length_cons, List.length_nil, Nat.zero_add, Nat.reduceAdd, List.map_cons, List.map_nil, eq_self, decide_true, decide_false, Bool.not_true, Bool.not_false, beq_self_eq_true, Int.reduceToNat, List.replicate_succ, List.replicate_zero, List.cons_append, List.nil_append, brcB, brcX, brcIte, thenIte, finIte, toSIte, bindIte, finRt, finNx, finX, toSX, bindX, evl_eq, calmOk, lim0, lim1, lim2, lim3, lim4, lim_map, lim_ints, mapA_map, mapA_ints, mapA_pure, mapA_ite, same_d, same_s, same_n, andC, orC, ints_map, ints_id, ints_int, List.take_length, tf, ft, Tg.slots, wpE, Int.cast_ofNat_Int, Int.reduceEq, Int.reduceLT, Int.reduceLE, Nat.reduceLT, Nat.reduceLeDiff, Bool.and_true, Bool.true_and, Bool.false_and, Bool.and_false, Bool.or_true, Bool.true_or, Bool.or_false, Bool.false_or, ofInts_snoc, List.append_nil, isort_len, pf_add, pf_sub, pf_eqI, pf_neI, pf_ltI, pf_gtI, pf_leI, pf_geI, pf_lenL, pf_lenT, pf_int, pf_abs, pf_neg, pf_min, pf_max, ix0T, ix1T, ix2T, ix3T, ix0L, ix1L, ix2L, rngD_I, List.take_succ_cons, last_get, last_set, take_app, mid_get, mid_set, mid_get1, mid_set1, app_app1, lim_rows, ofRows_snoc, List.append_assoc, Int.zero_add, pf_in, pf_nin, pf_inL, pf_ninL, pf_eqRow, pf_neRow, pf_eqRows, pf_eqInts, pf_sumI, pf_tupT, pf_lst, pf_lstL, pf_rev, pf_isN, pf_notN, isNone, pf_isB, pf_notB, slT_T, slT_L, slF_T, slF_L, slT_last, ofInts_take, ofInts_drop, ofRows_take, ofRows_drop, pf_tupL, pf_srtT, pf_srtL, pf_addT, pf_addL, ofInts_len, ofRows_len, ofInts_app, pf_allP, pf_anyP, raF]; rfl, o ++ [j], rest', _, rfl, rfl, e1, by rw [List.append_assoc, ← q4, ← e2]; rfl⟩)
    (e := [some (.d one), some (.d (elOf m2 b2 s2)), some (.d p), some (.d (.list (ofRows rows))), some (.r h.length), a5, none]) (h := h ++ [.l []]) ⟨[], O, a5, rfl, rfl, by
      have : (rngI 0 rows.length).filter (fun i => !mem [] i) = rngI 0 rows.length := List.filter_eq_self.mpr fun i _ => rfl
      rw [this]; exact g1, rfl⟩
  obtain ⟨e', h', r1, o, rest, a5', rfl, rfl, q3, q4⟩ := key
  rw [List.drop_length] at q3
  simp only [grd, Option.some.injEq] at q3
  subst q3
  rw [List.append_nil] at q4
  subst q4
  exact ⟨a5', (svFo_eq (vs := [.d (.tuple (ofRows b2))]) (by simp (disch := (first | exact dv_nn _ _ | (exact dv_lt _ (by omega)) | ((try simp only [ofInts_len, ofRows_len, rngI_len, List.length_append, List.length_cons, List.length_nil, List.length_map, isort_len]); omega))) only [bvN, bvC, svE, svS, svPr, svSt, svIf, svRe, svRn, svRa, svTr, evV, evK, evG, evP, evS3, evCh, evNt, evBo, evFi, evTu, evLi, evCa, evMe, evLc, evsN, evsC, evbN, evbC, bindOk, toSOk, thenNx, thenRt, thenEx, ttB, snaps, snap, mkR, Mn.fresh, setT, datas, pars, meD, stD, itV, itD, seqOf, List.getElem?_cons_zero, List.getElem?_cons_succ, List.getElem?_nil, List.set_cons_zero, List.set_cons_succ, Option.map_some, Option.map_none, Bool.false_eq_true, if_false, if_true, List.length_cons, List.length_nil, Nat.zero_add, Nat.reduceAdd, List.map_cons, List.map_nil, eq_self, decide_true, decide_false, Bool.not_true, Bool.not_false, beq_self_eq_true, Int.reduceToNat, List.replicate_succ, List.replicate_zero, List.cons_append, List.nil_append, brcB, brcX, brcIte, thenIte, finIte, toSIte, bindIte, finRt, finNx, finX, toSX, bindX, evl_eq, calmOk, lim0, lim1, lim2, lim3, lim4, lim_map, lim_ints, mapA_map, mapA_ints, mapA_pure, mapA_ite, same_d, same_s, same_n, andC, orC, ints_map, ints_id, ints_int, List.take_length, tf, ft, Tg.slots, wpE, Int.cast_ofNat_Int, Int.reduceEq, Int.reduceLT, Int.reduceLE, Nat.reduceLT, Nat.reduceLeDiff, Bool.and_true, Bool.true_and, Bool.false_and, Bool.and_false, Bool.or_true, Bool.true_or, Bool.or_false, Bool.false_or, ofInts_snoc, List.append_nil, isort_len, pf_add, pf_sub, pf_eqI, pf_neI, pf_ltI, pf_gtI, pf_leI, pf_geI, pf_lenL, pf_lenT, pf_int, pf_abs, pf_neg, pf_min, pf_max, ix0T, ix1T, ix2T, ix3T, ix0L, ix1L, ix2L, rngD_I, List.take_succ_cons, last_get, last_set, take_app, mid_get, mid_set, mid_get1, mid_set1, app_app1, lim_rows, ofRows_snoc, List.append_assoc, Int.zero_add, pf_in, pf_nin, pf_inL, pf_ninL, pf_eqRow, pf_neRow, pf_eqRows, pf_eqInts, pf_sumI, pf_tupT, pf_lst, pf_lstL, pf_rev, pf_isN, pf_notN, isNone, pf_isB, pf_notB, slT_T, slT_L, slF_T, slF_L, slT_last, ofInts_take, ofInts_drop, ofRows_take, ofRows_drop, pf_tupL, pf_srtT, pf_srtL, pf_addT, pf_addL, ofInts_len, ofRows_len, ofInts_app, pf_allP, pf_anyP, raF]) rfl).trans r1⟩
theorem law_alike (n : Nat) {m s m2 s2 : Int} {bs b2 : List (List Int)} (E : Elc m bs s) (E2 : Elc m2 b2 s2) (hm : m ≤ 6) (h : MH) : R (n + 2) 22 [.d (elOf m bs s), .d (elOf m2 b2 s2)] h = .ok (.d (alikeD m s bs m2 s2 b2)) h := by
  have m1 := E.m1
  have l1 := E.l2
  have l2 := E2.l2
  have ac := al_cond m s m2 s2 bs b2
  unfold alikeD
  by_cases hc : m = m2 ∧ s = s2 ∧ bs.length = b2.length
  · rw [if_pos hc]
    rw [decide_eq_true hc] at ac
    have eo := law_perms n (m := m) (by omega) hm h
    have q : ∀ (p : List Int), IsP m p → ∀ (a1 a3 a4 : Option Vl), ev (R (n + 1)) q__law_alike_0 [some (.d (elOf m bs s)), a1, some (.d (.tuple (ofInts p))), a3, a4, none, none] h = .ok (.d (.list (ofRows (bs.map (mpR p))))) h := fun p hp a1 a3 a4 => by
      rw [← rows_map]
      refine lc_p (φ := ofRow) (L := bs) (vs := [.d (.tuple (ofRows bs))]) (fun b => .tuple (ofInts (mpR p b))) (by simp (disch := (first | exact dv_nn _ _ | (exact dv_lt _ (by omega)) | ((try simp only [ofInts_len, ofRows_len, rngI_len, List.length_append, List.length_cons, List.length_nil, List.length_map, isort_len]); omega))) only [bvN, bvC, svE, svS, svPr, svSt, svIf, svRe, svRn, svRa, svTr, evV, evK, evG, evP, evS3, evCh, evNt, evBo, evFi, evTu, evLi, evCa, evMe, evLc, evsN, evsC, evbN, evbC, bindOk, toSOk, thenNx, thenRt, thenEx, ttB, snaps, snap, mkR, Mn.fresh, setT, datas, pars, meD, stD, itV, itD, seqOf, List.getElem?_cons_zero, List.getElem?_cons_succ, List.getElem?_nil, List.set_cons_zero, List.set_cons_succ, Option.map_some, Option.map_none, Bool.false_eq_true, if_false, if_true, List.length_cons, List.length_nil, Nat.zero_add, Nat.reduceAdd, List.map_cons, List.map_nil, eq_self, decide_true, decide_false, Bool.not_true, Bool.not_false, beq_self_eq_true, Int.reduceToNat, List.replicate_succ, List.replicate_zero, List.cons_append, List.nil_append, brcB, brcX, brcIte, thenIte, finIte, toSIte, bindIte, finRt, finNx, finX, toSX, bindX, evl_eq, calmOk, lim0, lim1, lim2, lim3, lim4, lim_map, lim_ints, mapA_map, mapA_ints, mapA_pure, mapA_ite, same_d, same_s, same_n, andC, orC, ints_map, ints_id, ints_int, List.take_length, tf, ft, Tg.slots, wpE, Int.cast_ofNat_Int, Int.reduceEq, Int.reduceLT, Int.reduceLE, Nat.reduceLT, Nat.reduceLeDiff, Bool.and_true, Bool.true_and, Bool.false_and, Bool.and_false, Bool.or_true, Bool.true_or, Bool.or_false, Bool.false_or, ofInts_snoc, List.append_nil, isort_len, pf_add, pf_sub, pf_eqI, pf_neI, pf_ltI, pf_gtI, pf_leI, pf_geI, pf_lenL, pf_lenT, pf_int, pf_abs, pf_neg, pf_min, pf_max, ix0T, ix1T, ix2T, ix3T, ix0L, ix1L, ix2L, rngD_I, List.take_succ_cons, last_get, last_set, take_app, mid_get, mid_set, mid_get1, mid_set1, app_app1, lim_rows, ofRows_snoc, List.append_assoc, Int.zero_add, pf_in, pf_nin, pf_inL, pf_ninL, pf_eqRow, pf_neRow, pf_eqRows, pf_eqInts, pf_sumI, pf_tupT, pf_lst, pf_lstL, pf_rev, pf_isN, pf_notN, isNone, pf_isB, pf_notB, slT_T, slT_L, slF_T, slF_L, slT_last, ofInts_take, ofInts_drop, ofRows_take, ofRows_drop, pf_tupL, pf_srtT, pf_srtL, pf_addT, pf_addL, ofInts_len, ofRows_len, ofInts_app, pf_allP, pf_anyP, raF]) rfl (by omega) rfl fun b hb => ?_
      have mo := law_mapped n hp (E.rows b hb).2 (by have := E.len hb; omega) h
      simp (disch := (first | exact dv_nn _ _ | (exact dv_lt _ (by omega)) | ((try simp only [ofInts_len, ofRows_len, rngI_len, List.length_append, List.length_cons, List.length_nil, List.length_map, isort_len]); omega))) only [ofRow, mo, bvN, bvC, svE, svS, svPr, svSt, svIf, svRe, svRn, svRa, svTr, evV, evK, evG, evP, evS3, evCh, evNt, evBo, evFi, evTu, evLi, evCa, evMe, evLc, evsN, evsC, evbN, evbC, bindOk, toSOk, thenNx, thenRt, thenEx, ttB, snaps, snap, mkR, Mn.fresh, setT, datas, pars, meD, stD, itV, itD, seqOf, List.getElem?_cons_zero, List.getElem?_cons_succ, List.getElem?_nil, List.set_cons_zero, List.set_cons_succ, Option.map_some, Option.map_none, Bool.false_eq_true, if_false, if_true, List.length_cons, List.length_nil, Nat.zero_add, Nat.reduceAdd, List.map_cons, List.map_nil, eq_self, decide_true, decide_false, Bool.not_true, Bool.not_false, beq_self_eq_true, Int.reduceToNat, List.replicate_succ, List.replicate_zero, List.cons_append, List.nil_append, brcB, brcX, brcIte, thenIte, finIte, toSIte, bindIte, finRt, finNx, finX, toSX, bindX, evl_eq, calmOk, lim0, lim1, lim2, lim3, lim4, lim_map, lim_ints, mapA_map, mapA_ints, mapA_pure, mapA_ite, same_d, same_s, same_n, andC, orC, ints_map, ints_id, ints_int, List.take_length, tf, ft, Tg.slots, wpE, Int.cast_ofNat_Int, Int.reduceEq, Int.reduceLT, Int.reduceLE, Nat.reduceLT, Nat.reduceLeDiff, Bool.and_true, Bool.true_and, Bool.false_and, Bool.and_false, Bool.or_true, Bool.true_or, Bool.or_false, Bool.false_or, ofInts_snoc, List.append_nil, isort_len, pf_add, pf_sub, pf_eqI, pf_neI, pf_ltI, pf_gtI, pf_leI, pf_geI, pf_lenL, pf_lenT, pf_int, pf_abs, pf_neg, pf_min, pf_max, ix0T, ix1T, ix2T, ix3T, ix0L, ix1L, ix2L, rngD_I, List.take_succ_cons, last_get, last_set, take_app, mid_get, mid_set, mid_get1, mid_set1, app_app1, lim_rows, ofRows_snoc, List.append_assoc, Int.zero_add, pf_in, pf_nin, pf_inL, pf_ninL, pf_eqRow, pf_neRow, pf_eqRows, pf_eqInts, pf_sumI, pf_tupT, pf_lst, pf_lstL, pf_rev, pf_isN, pf_notN, isNone, pf_isB, pf_notB, slT_T, slT_L, slF_T, slF_L, slT_last, ofInts_take, ofInts_drop, ofRows_take, ofRows_drop, pf_tupL, pf_srtT, pf_srtL, pf_addT, pf_addL, ofInts_len, ofRows_len, ofInts_app, pf_allP, pf_anyP, raF]
    have key := forR_findT (ok := fun h' => same h h' [.d (.list (ofRows (perms m)))]) (t := .n 2) (f := bv WW up (R (n + 1)) o__law_alike_1) (φ := ofRow) (alikeP bs b2) (fun p => .d (namesD bs b2 p))
      (fun e => ∃ a2 a3 : Option Vl, e = [some (.d (elOf m bs s)), some (.d (elOf m2 b2 s2)), a2, a3, none, none, none]) (fun h' => h'.take h.length = h) (h := h) rfl (L := perms m) (e := [some (.d (elOf m bs s)), some (.d (elOf m2 b2 s2)), none, none, none, none, none]) ⟨none, none, rfl⟩
      (fun p hp e ⟨a2, a3, he⟩ => by
        subst he
        have hp := perms_iff.mp hp
        have q := q p hp
        refine ⟨_, rfl, fun hq => ?_, fun hq => ?_⟩
        · have hq' : decide (isortR (bs.map (mpR p)) = isortR b2) = true := hq
          obtain ⟨a5', ol⟩ := order_loop (n + 1) (rows := bs.map (mpR p)) (b2 := b2) (perm_of_isortR (of_decide_eq_true hq')) (by rw [List.length_map]; exact l1) h (elOf m bs s) (.tuple (ofInts p)) m2 s2 none
          exact ⟨_, by simp (disch := (first | exact dv_nn _ _ | (exact dv_lt _ (by omega)) | ((try simp only [ofInts_len, ofRows_len, rngI_len, List.length_append, List.length_cons, List.length_nil, List.length_map, isort_len]); omega))) only [o__law_alike_1, ofRow, q, pf_srtR, pf_srtRT, hq', ol, namesD, bvN, bvC, svE, svS, svPr, svSt, svIf, svRe, svRn, svRa, svTr, evV, evK, evG, evP, evS3, evCh, evNt, evBo, evFi, evTu, evLi, evCa, evMe, evsN, evsC, evbN, evbC, bindOk, toSOk, thenNx, thenRt, thenEx, ttB, snaps, snap, mkR, Mn.fresh, setT, datas, pars, meD, stD, itV, itD, seqOf, List.getElem?_cons_zero, List.getElem?_cons_succ, List.getElem?_nil, List.set_cons_zero, List.set_cons_succ, Option.map_some, Option.map_none, Bool.false_eq_true, if_false, if_true, List.length_cons, List.length_nil, Nat.zero_add, Nat.reduceAdd, List.map_cons, List.map_nil, eq_self, decide_true, decide_false, Bool.not_true, Bool.not_false, beq_self_eq_true, Int.reduceToNat, List.replicate_succ, List.replicate_zero, List.cons_append, List.nil_append, brcB, brcX, brcIte, thenIte, finIte, toSIte, bindIte, finRt, finNx, finX, toSX, bindX, evl_eq, calmOk, lim0, lim1, lim2, lim3, lim4, lim_map, lim_ints, mapA_map, mapA_ints, mapA_pure, mapA_ite, same_d, same_s, same_n, andC, orC, ints_map, ints_id, ints_int, List.take_length, tf, ft, Tg.slots, wpE, Int.cast_ofNat_Int, Int.reduceEq, Int.reduceLT, Int.reduceLE, Nat.reduceLT, Nat.reduceLeDiff, Bool.and_true, Bool.true_and, Bool.false_and, Bool.and_false, Bool.or_true, Bool.true_or, Bool.or_false, Bool.false_or, ofInts_snoc, List.append_nil, isort_len, pf_add, pf_sub, pf_eqI, pf_neI, pf_ltI, pf_gtI, pf_leI, pf_geI, pf_lenL, pf_lenT, pf_int, pf_abs, pf_neg, pf_min, pf_max, ix0T, ix1T, ix2T, ix3T, ix0L, ix1L, ix2L, rngD_I, List.take_succ_cons, last_get, last_set, take_app, mid_get, mid_set, mid_get1, mid_set1, app_app1, lim_rows, ofRows_snoc, List.append_assoc, Int.zero_add, pf_in, pf_nin, pf_inL, pf_ninL, pf_eqRow, pf_neRow, pf_eqRows, pf_eqInts, pf_sumI, pf_tupT, pf_lst, pf_lstL, pf_rev, pf_isN, pf_notN, isNone, pf_isB, pf_notB, slT_T, slT_L, slF_T, slF_L, slT_last, ofInts_take, ofInts_drop, ofRows_take, ofRows_drop, pf_tupL, pf_srtT, pf_srtL, pf_addT, pf_addL, ofInts_len, ofRows_len, ofInts_app, pf_allP, pf_anyP, raF]; rfl, by simp⟩
        · have hq' : decide (isortR (bs.map (mpR p)) = isortR b2) = false := hq
          exact ⟨_, by simp (disch := (first | exact dv_nn _ _ | (exact dv_lt _ (by omega)) | ((try simp only [ofInts_len, ofRows_len, rngI_len, List.length_append, List.length_cons, List.length_nil, List.length_map, isort_len]); omega))) only [o__law_alike_1, ofRow, q, pf_srtR, pf_srtRT, hq', bvN, bvC, svE, svS, svPr, svSt, svIf, svRe, svRn, svRa, svTr, evV, evK, evG, evP, evS3, evCh, evNt, evBo, evFi, evTu, evLi, evCa, evMe, evsN, evsC, evbN, evbC, bindOk, toSOk, thenNx, thenRt, thenEx, ttB, snaps, snap, mkR, Mn.fresh, setT, datas, pars, meD, stD, itV, itD, seqOf, List.getElem?_cons_zero, List.getElem?_cons_succ, List.getElem?_nil, List.set_cons_zero, List.set_cons_succ, Option.map_some, Option.map_none, Bool.false_eq_true, if_false, if_true, List.length_cons, List.length_nil, Nat.zero_add, Nat.reduceAdd, List.map_cons, List.map_nil, eq_self, decide_true, decide_false, Bool.not_true, Bool.not_false, beq_self_eq_true, Int.reduceToNat, List.replicate_succ, List.replicate_zero, List.cons_append, List.nil_append, brcB, brcX, brcIte, thenIte, finIte, toSIte, bindIte, finRt, finNx, finX, toSX, bindX, evl_eq, calmOk, lim0, lim1, lim2, lim3, lim4, lim_map, lim_ints, mapA_map, mapA_ints, mapA_pure, mapA_ite, same_d, same_s, same_n, andC, orC, ints_map, ints_id, ints_int, List.take_length, tf, ft, Tg.slots, wpE, Int.cast_ofNat_Int, Int.reduceEq, Int.reduceLT, Int.reduceLE, Nat.reduceLT, Nat.reduceLeDiff, Bool.and_true, Bool.true_and, Bool.false_and, Bool.and_false, Bool.or_true, Bool.true_or, Bool.or_false, Bool.false_or, ofInts_snoc, List.append_nil, isort_len, pf_add, pf_sub, pf_eqI, pf_neI, pf_ltI, pf_gtI, pf_leI, pf_geI, pf_lenL, pf_lenT, pf_int, pf_abs, pf_neg, pf_min, pf_max, ix0T, ix1T, ix2T, ix3T, ix0L, ix1L, ix2L, rngD_I, List.take_succ_cons, last_get, last_set, take_app, mid_get, mid_set, mid_get1, mid_set1, app_app1, lim_rows, ofRows_snoc, List.append_assoc, Int.zero_add, pf_in, pf_nin, pf_inL, pf_ninL, pf_eqRow, pf_neRow, pf_eqRows, pf_eqInts, pf_sumI, pf_tupT, pf_lst, pf_lstL, pf_rev, pf_isN, pf_notN, isNone, pf_isB, pf_notB, slT_T, slT_L, slF_T, slF_L, slT_last, ofInts_take, ofInts_drop, ofRows_take, ofRows_drop, pf_tupL, pf_srtT, pf_srtL, pf_addT, pf_addL, ofInts_len, ofRows_len, ofInts_app, pf_allP, pf_anyP, raF]; rfl, _, _, rfl⟩)
    have hes : evs (R (n + 1)) (.c (.ca 19 (.c (.p false .ix (.c (.v 0) (.c (.k (.int 0)) .n))) .n)) .n) [some (.d (elOf m bs s)), some (.d (elOf m2 b2 s2)), none, none, none, none, none] h = .ok [.d (.list (ofRows (perms m)))] h := by simp (disch := (first | exact dv_nn _ _ | (exact dv_lt _ (by omega)) | ((try simp only [ofInts_len, ofRows_len, rngI_len, List.length_append, List.length_cons, List.length_nil, List.length_map, isort_len]); omega))) only [eo, bvN, bvC, svE, svS, svPr, svSt, svIf, svRe, svRn, svRa, svTr, evV, evK, evG, evP, evS3, evCh, evNt, evBo, evFi, evTu, evLi, evCa, evMe, evLc, evsN, evsC, evbN, evbC, bindOk, toSOk, thenNx, thenRt, thenEx, ttB, snaps, snap, mkR, Mn.fresh, setT, datas, pars, meD, stD, itV, itD, seqOf, List.getElem?_cons_zero, List.getElem?_cons_succ, List.getElem?_nil, List.set_cons_zero, List.set_cons_succ, Option.map_some, Option.map_none, Bool.false_eq_true, if_false, if_true, List.length_cons, List.length_nil, Nat.zero_add, Nat.reduceAdd, List.map_cons, List.map_nil, eq_self, decide_true, decide_false, Bool.not_true, Bool.not_false, beq_self_eq_true, Int.reduceToNat, List.replicate_succ, List.replicate_zero, List.cons_append, List.nil_append, brcB, brcX, brcIte, thenIte, finIte, toSIte, bindIte, finRt, finNx, finX, toSX, bindX, evl_eq, calmOk, lim0, lim1, lim2, lim3, lim4, lim_map, lim_ints, mapA_map, mapA_ints, mapA_pure, mapA_ite, same_d, same_s, same_n, andC, orC, ints_map, ints_id, ints_int, List.take_length, tf, ft, Tg.slots, wpE, Int.cast_ofNat_Int, Int.reduceEq, Int.reduceLT, Int.reduceLE, Nat.reduceLT, Nat.reduceLeDiff, Bool.and_true, Bool.true_and, Bool.false_and, Bool.and_false, Bool.or_true, Bool.true_or, Bool.or_false, Bool.false_or, ofInts_snoc, List.append_nil, isort_len, pf_add, pf_sub, pf_eqI, pf_neI, pf_ltI, pf_gtI, pf_leI, pf_geI, pf_lenL, pf_lenT, pf_int, pf_abs, pf_neg, pf_min, pf_max, ix0T, ix1T, ix2T, ix3T, ix0L, ix1L, ix2L, rngD_I, List.take_succ_cons, last_get, last_set, take_app, mid_get, mid_set, mid_get1, mid_set1, app_app1, lim_rows, ofRows_snoc, List.append_assoc, Int.zero_add, pf_in, pf_nin, pf_inL, pf_ninL, pf_eqRow, pf_neRow, pf_eqRows, pf_eqInts, pf_sumI, pf_tupT, pf_lst, pf_lstL, pf_rev, pf_isN, pf_notN, isNone, pf_isB, pf_notB, slT_T, slT_L, slF_T, slF_L, slT_last, ofInts_take, ofInts_drop, ofRows_take, ofRows_drop, pf_tupL, pf_srtT, pf_srtL, pf_addT, pf_addL, ofInts_len, ofRows_len, ofInts_app, pf_allP, pf_anyP, raF]
    cases hf : (perms m).find? (alikeP bs b2) with
    | some p =>
      obtain ⟨h', k, kt⟩ := key.1 p hf
      have hfo : sv WW up (R (n + 1)) l__law_alike_1 [some (.d (elOf m bs s)), some (.d (elOf m2 b2 s2)), none, none, none, none, none] h = _ := (svFo_eq (vs := [.d (.list (ofRows (perms m)))]) hes rfl).trans k
      simp (disch := (first | exact dv_nn _ _ | (exact dv_lt _ (by omega)) | ((try simp only [ofInts_len, ofRows_len, rngI_len, List.length_append, List.length_cons, List.length_nil, List.length_map, isort_len]); omega))) only [s__law_alike, b__law_alike, ac, hfo, kt, bvN, bvC, svE, svS, svPr, svSt, svIf, svRe, svRn, svRa, svTr, evV, evK, evG, evP, evS3, evCh, evNt, evBo, evFi, evTu, evLi, evCa, evMe, evsN, evsC, evbN, evbC, bindOk, toSOk, thenNx, thenRt, thenEx, ttB, snaps, snap, mkR, Mn.fresh, setT, datas, pars, meD, stD, itV, itD, seqOf, List.getElem?_cons_zero, List.getElem?_cons_succ, List.getElem?_nil, List.set_cons_zero, List.set_cons_succ, Option.map_some, Option.map_none, Bool.false_eq_true, if_false, if_true, List.length_cons, List.length_nil, Nat.zero_add, Nat.reduceAdd, List.map_cons, List.map_nil, eq_self, decide_true, decide_false, Bool.not_true, Bool.not_false, beq_self_eq_true, Int.reduceToNat, List.replicate_succ, List.replicate_zero, List.cons_append, List.nil_append, brcB, brcX, brcIte, thenIte, finIte, toSIte, bindIte, finRt, finNx, finX, toSX, bindX, evl_eq, calmOk, lim0, lim1, lim2, lim3, lim4, lim_map, lim_ints, mapA_map, mapA_ints, mapA_pure, mapA_ite, same_d, same_s, same_n, andC, orC, ints_map, ints_id, ints_int, List.take_length, tf, ft, Tg.slots, wpE, Int.cast_ofNat_Int, Int.reduceEq, Int.reduceLT, Int.reduceLE, Nat.reduceLT, Nat.reduceLeDiff, Bool.and_true, Bool.true_and, Bool.false_and, Bool.and_false, Bool.or_true, Bool.true_or, Bool.or_false, Bool.false_or, ofInts_snoc, List.append_nil, isort_len, pf_add, pf_sub, pf_eqI, pf_neI, pf_ltI, pf_gtI, pf_leI, pf_geI, pf_lenL, pf_lenT, pf_int, pf_abs, pf_neg, pf_min, pf_max, ix0T, ix1T, ix2T, ix3T, ix0L, ix1L, ix2L, rngD_I, List.take_succ_cons, last_get, last_set, take_app, mid_get, mid_set, mid_get1, mid_set1, app_app1, lim_rows, ofRows_snoc, List.append_assoc, Int.zero_add, pf_in, pf_nin, pf_inL, pf_ninL, pf_eqRow, pf_neRow, pf_eqRows, pf_eqInts, pf_sumI, pf_tupT, pf_lst, pf_lstL, pf_rev, pf_isN, pf_notN, isNone, pf_isB, pf_notB, slT_T, slT_L, slF_T, slF_L, slT_last, ofInts_take, ofInts_drop, ofRows_take, ofRows_drop, pf_tupL, pf_srtT, pf_srtL, pf_addT, pf_addL, ofInts_len, ofRows_len, ofInts_app, pf_allP, pf_anyP, raF]
    | none =>
      obtain ⟨e', k, _⟩ := key.2 hf
      have hfo : sv WW up (R (n + 1)) l__law_alike_1 [some (.d (elOf m bs s)), some (.d (elOf m2 b2 s2)), none, none, none, none, none] h = _ := (svFo_eq (vs := [.d (.list (ofRows (perms m)))]) hes rfl).trans k
      simp (disch := (first | exact dv_nn _ _ | (exact dv_lt _ (by omega)) | ((try simp only [ofInts_len, ofRows_len, rngI_len, List.length_append, List.length_cons, List.length_nil, List.length_map, isort_len]); omega))) only [s__law_alike, b__law_alike, ac, hfo, bvN, bvC, svE, svS, svPr, svSt, svIf, svRe, svRn, svRa, svTr, evV, evK, evG, evP, evS3, evCh, evNt, evBo, evFi, evTu, evLi, evCa, evMe, evsN, evsC, evbN, evbC, bindOk, toSOk, thenNx, thenRt, thenEx, ttB, snaps, snap, mkR, Mn.fresh, setT, datas, pars, meD, stD, itV, itD, seqOf, List.getElem?_cons_zero, List.getElem?_cons_succ, List.getElem?_nil, List.set_cons_zero, List.set_cons_succ, Option.map_some, Option.map_none, Bool.false_eq_true, if_false, if_true, List.length_cons, List.length_nil, Nat.zero_add, Nat.reduceAdd, List.map_cons, List.map_nil, eq_self, decide_true, decide_false, Bool.not_true, Bool.not_false, beq_self_eq_true, Int.reduceToNat, List.replicate_succ, List.replicate_zero, List.cons_append, List.nil_append, brcB, brcX, brcIte, thenIte, finIte, toSIte, bindIte, finRt, finNx, finX, toSX, bindX, evl_eq, calmOk, lim0, lim1, lim2, lim3, lim4, lim_map, lim_ints, mapA_map, mapA_ints, mapA_pure, mapA_ite, same_d, same_s, same_n, andC, orC, ints_map, ints_id, ints_int, List.take_length, tf, ft, Tg.slots, wpE, Int.cast_ofNat_Int, Int.reduceEq, Int.reduceLT, Int.reduceLE, Nat.reduceLT, Nat.reduceLeDiff, Bool.and_true, Bool.true_and, Bool.false_and, Bool.and_false, Bool.or_true, Bool.true_or, Bool.or_false, Bool.false_or, ofInts_snoc, List.append_nil, isort_len, pf_add, pf_sub, pf_eqI, pf_neI, pf_ltI, pf_gtI, pf_leI, pf_geI, pf_lenL, pf_lenT, pf_int, pf_abs, pf_neg, pf_min, pf_max, ix0T, ix1T, ix2T, ix3T, ix0L, ix1L, ix2L, rngD_I, List.take_succ_cons, last_get, last_set, take_app, mid_get, mid_set, mid_get1, mid_set1, app_app1, lim_rows, ofRows_snoc, List.append_assoc, Int.zero_add, pf_in, pf_nin, pf_inL, pf_ninL, pf_eqRow, pf_neRow, pf_eqRows, pf_eqInts, pf_sumI, pf_tupT, pf_lst, pf_lstL, pf_rev, pf_isN, pf_notN, isNone, pf_isB, pf_notB, slT_T, slT_L, slF_T, slF_L, slT_last, ofInts_take, ofInts_drop, ofRows_take, ofRows_drop, pf_tupL, pf_srtT, pf_srtL, pf_addT, pf_addL, ofInts_len, ofRows_len, ofInts_app, pf_allP, pf_anyP, raF]
  · rw [if_neg hc]
    rw [decide_eq_false hc] at ac
    simp (disch := (first | exact dv_nn _ _ | (exact dv_lt _ (by omega)) | ((try simp only [ofInts_len, ofRows_len, rngI_len, List.length_append, List.length_cons, List.length_nil, List.length_map, isort_len]); omega))) only [s__law_alike, b__law_alike, ac, bvN, bvC, svE, svS, svPr, svSt, svIf, svRe, svRn, svRa, svTr, evV, evK, evG, evP, evS3, evCh, evNt, evBo, evFi, evTu, evLi, evCa, evMe, evsN, evsC, evbN, evbC, bindOk, toSOk, thenNx, thenRt, thenEx, ttB, snaps, snap, mkR, Mn.fresh, setT, datas, pars, meD, stD, itV, itD, seqOf, List.getElem?_cons_zero, List.getElem?_cons_succ, List.getElem?_nil, List.set_cons_zero, List.set_cons_succ, Option.map_some, Option.map_none, Bool.false_eq_true, if_false, if_true, List.length_cons, List.length_nil, Nat.zero_add, Nat.reduceAdd, List.map_cons, List.map_nil, eq_self, decide_true, decide_false, Bool.not_true, Bool.not_false, beq_self_eq_true, Int.reduceToNat, List.replicate_succ, List.replicate_zero, List.cons_append, List.nil_append, brcB, brcX, brcIte, thenIte, finIte, toSIte, bindIte, finRt, finNx, finX, toSX, bindX, evl_eq, calmOk, lim0, lim1, lim2, lim3, lim4, lim_map, lim_ints, mapA_map, mapA_ints, mapA_pure, mapA_ite, same_d, same_s, same_n, andC, orC, ints_map, ints_id, ints_int, List.take_length, tf, ft, Tg.slots, wpE, Int.cast_ofNat_Int, Int.reduceEq, Int.reduceLT, Int.reduceLE, Nat.reduceLT, Nat.reduceLeDiff, Bool.and_true, Bool.true_and, Bool.false_and, Bool.and_false, Bool.or_true, Bool.true_or, Bool.or_false, Bool.false_or, ofInts_snoc, List.append_nil, isort_len, pf_add, pf_sub, pf_eqI, pf_neI, pf_ltI, pf_gtI, pf_leI, pf_geI, pf_lenL, pf_lenT, pf_int, pf_abs, pf_neg, pf_min, pf_max, ix0T, ix1T, ix2T, ix3T, ix0L, ix1L, ix2L, rngD_I, List.take_succ_cons, last_get, last_set, take_app, mid_get, mid_set, mid_get1, mid_set1, app_app1, lim_rows, ofRows_snoc, List.append_assoc, Int.zero_add, pf_in, pf_nin, pf_inL, pf_ninL, pf_eqRow, pf_neRow, pf_eqRows, pf_eqInts, pf_sumI, pf_tupT, pf_lst, pf_lstL, pf_rev, pf_isN, pf_notN, isNone, pf_isB, pf_notB, slT_T, slT_L, slF_T, slF_L, slT_last, ofInts_take, ofInts_drop, ofRows_take, ofRows_drop, pf_tupL, pf_srtT, pf_srtL, pf_addT, pf_addL, ofInts_len, ofRows_len, ofInts_app, pf_allP, pf_anyP, raF]
end K61

/-! drawn others; told. -/
namespace K61
open PySem Mn
theorem Elc_of {many voters m s : Int} {bs : List (List Int)} (E : El many voters m bs s) (h1 : many ≤ 30) (h2 : voters ≤ 60) : Elc m bs s :=
  ⟨E.m1, by have := E.m2; omega, E.s1, E.s2, E.l1, by have := E.l2; omega, E.rows⟩
theorem others_ok {m s : Int} {bs : List (List Int)} (E : Elc m bs s) (hm : m ≤ 6) (hl : bs.length ≤ 7) {r2 : List (List Int)} (hr : ∀ b ∈ r2, rowOk m b) (rl : r2.length = bs.length) {i c s2 : Int} (i0 : 0 ≤ i) (i1 : i < r2.length) (c0 : 0 ≤ c) (c1 : c < m)
    (s0 : 1 ≤ s2) (s1 : s2 ≤ m) {m5 s5 : Int} {b5 : List (List Int)} (E5 : Elc m5 b5 s5) (h5 : m5 ≤ 6) (l5 : b5.length ≤ 7) :
    ∀ v ∈ [elOf m (r2.take i.toNat ++ ([turnB (r2.getD i.toNat []) c] ++ r2.drop (i + 1).toNat)) s, elOf m (r2 ++ [[]]) s, elOf m r2 s2, elOf (m + 1) r2 s, elOf m5 b5 s5, elOf m bs s], ∃ m2 b2 s2, v = elOf m2 b2 s2 ∧ Elc m2 b2 s2 ∧ b2.length ≤ 8 ∧ m2 ≤ 7 := by
  have m1 := E.m1
  have m2 := E.m2
  have z1 := E.s1
  have z2 := E.s2
  have l1 := E.l1
  have tr := turnB_row (hr _ (getD_mem (xs := r2) (dflt := []) (i := i.toNat) (by omega))) c0 c1
  have ta := List.length_take (i := i.toNat) (l := r2)
  have da := List.length_drop (i := (i + 1).toNat) (l := r2)
  have ll : (r2.take i.toNat ++ ([turnB (r2.getD i.toNat []) c] ++ r2.drop (i + 1).toNat)).length = r2.length := by
    rw [List.length_append, List.length_append, ta, da, List.length_singleton]; omega
  intro v hv
  simp only [List.mem_cons, List.not_mem_nil, or_false] at hv
  rcases hv with e | e | e | e | e | e <;> rw [e]
  · refine ⟨_, _, _, rfl, ⟨m1, m2, z1, z2, by omega, by omega, fun b hb => ?_⟩, by omega, by omega⟩
    rcases List.mem_append.mp hb with hb | hb
    · exact hr b (List.mem_of_mem_take hb)
    · rcases List.mem_append.mp hb with hb | hb
      · rw [List.mem_singleton.mp hb]; exact tr
      · exact hr b (List.mem_of_mem_drop hb)
  · refine ⟨_, _, _, rfl, ⟨m1, m2, z1, z2, by simp, by simp; omega, fun b hb => ?_⟩, by simp; omega, by omega⟩
    rcases List.mem_append.mp hb with hb | hb
    · exact hr b hb
    · rw [List.mem_singleton.mp hb]; exact ⟨rfl, by simp⟩
  · exact ⟨_, _, _, rfl, ⟨m1, m2, s0, s1, by omega, by omega, hr⟩, by omega, by omega⟩
  · exact ⟨_, _, _, rfl, ⟨by omega, by omega, z1, by omega, by omega, by omega, fun b hb => ⟨(hr b hb).1, fun i hi => by have := (hr b hb).2 i hi; omega⟩⟩, by omega, by omega⟩
  · exact ⟨_, _, _, rfl, E5, by omega, by omega⟩
  · exact ⟨_, _, _, rfl, E, by omega, by omega⟩
set_option maxHeartbeats 4000000 in
theorem law_other (n : Nat) (d : Dr) (t : MH) {m s : Int} {bs : List (List Int)} (E : Elc m bs s) (hm : m ≤ 6) (hl : bs.length ≤ 7) :
    ∃ (m2 : Int) (b2 : List (List Int)) (s2 : Int) (d' : Dr), R (n + 3) 23 [.r 0, .d (elOf m bs s)] (d.mo :: t) = .ok (.d (elOf m2 b2 s2)) (d'.mo :: t) ∧ Elc m2 b2 s2 ∧ b2.length ≤ 8 ∧ m2 ≤ 7 := by
  have m1 := E.m1
  have l1 := E.l1
  obtain ⟨p, d1, e1, hp⟩ := law_order n d t (m := m) (by omega) (by omega)
  obtain ⟨q, d2, e2, hq⟩ := law_order n d1 t (m := bs.length) (by omega) (by omega)
  have ql := hq.len
  have k : ∀ (h : MH) (a0 a1 a3 a4 a5 a6 a8 a10 : Option Vl) , ev (R (n + 2)) q__law_other_0 [a0, a1, some (.d (.tuple [.tuple (ofInts p), .tuple (ofInts q)])), a3, a4, a5, a6, some (.d (.tuple (ofRows bs))), a8, none, a10] h = .ok (.d (.list (q.map fun i => .tuple (ofInts (mpR p (bs.getD i.toNat [])))))) h := fun h a0 a1 a3 a4 a5 a6 a8 a10 =>
    lc_p (φ := .int) (L := q) (vs := [.d (.tuple (ofInts q))]) (fun i => .tuple (ofInts (mpR p (bs.getD i.toNat [])))) (by simp (disch := (first | exact dv_nn _ _ | (exact dv_lt _ (by omega)) | ((try simp only [ofInts_len, ofRows_len, rngI_len, List.length_append, List.length_cons, List.length_nil, List.length_map, isort_len]); omega))) only [bvN, bvC, svE, svS, svPr, svSt, svIf, svRe, svRn, svRa, svTr, evV, evK, evG, evP, evS3, evCh, evNt, evBo, evFi, evTu, evLi, evCa, evMe, evLc, evsN, evsC, evbN, evbC, bindOk, toSOk, thenNx, thenRt, thenEx, ttB, snaps, snap, mkR, Mn.fresh, setT, datas, pars, meD, stD, itV, itD, seqOf, List.getElem?_cons_zero, List.getElem?_cons_succ, List.getElem?_nil, List.set_cons_zero, List.set_cons_succ, Option.map_some, Option.map_none, Bool.false_eq_true, if_false, if_true, List.length_cons, List.length_nil, Nat.zero_add, Nat.reduceAdd, List.map_cons, List.map_nil, eq_self, decide_true, decide_false, Bool.not_true, Bool.not_false, beq_self_eq_true, Int.reduceToNat, List.replicate_succ, List.replicate_zero, List.cons_append, List.nil_append, brcB, brcX, brcIte, thenIte, finIte, toSIte, bindIte, finRt, finNx, finX, toSX, bindX, evl_eq, calmOk, lim0, lim1, lim2, lim3, lim4, lim_map, lim_ints, mapA_map, mapA_ints, mapA_pure, mapA_ite, same_d, same_s, same_n, andC, orC, ints_map, ints_id, ints_int, List.take_length, tf, ft, Tg.slots, wpE, Int.cast_ofNat_Int, Int.reduceEq, Int.reduceLT, Int.reduceLE, Nat.reduceLT, Nat.reduceLeDiff, Bool.and_true, Bool.true_and, Bool.false_and, Bool.and_false, Bool.or_true, Bool.true_or, Bool.or_false, Bool.false_or, ofInts_snoc, List.append_nil, isort_len, pf_add, pf_sub, pf_eqI, pf_neI, pf_ltI, pf_gtI, pf_leI, pf_geI, pf_lenL, pf_lenT, pf_int, pf_abs, pf_neg, pf_min, pf_max, ix0T, ix1T, ix2T, ix3T, ix0L, ix1L, ix2L, rngD_I, List.take_succ_cons, last_get, last_set, take_app, mid_get, mid_set, mid_get1, mid_set1, app_app1, lim_rows, ofRows_snoc, List.append_assoc, Int.zero_add, pf_in, pf_nin, pf_inL, pf_ninL, pf_eqRow, pf_neRow, pf_eqRows, pf_eqInts, pf_sumI, pf_tupT, pf_lst, pf_lstL, pf_rev, pf_isN, pf_notN, isNone, pf_isB, pf_notB, slT_T, slT_L, slF_T, slF_L, slT_last, ofInts_take, ofInts_drop, ofRows_take, ofRows_drop, pf_tupL, pf_srtT, pf_srtL, pf_addT, pf_addL, ofInts_len, ofRows_len, ofInts_app, pf_allP, pf_anyP, raF]) rfl (by omega) rfl fun i hi => by
      have g := hq.rg i hi
      have g1 := g.1
      have g2 := g.2
      have mem := getD_mem (xs := bs) (dflt := []) (i := i.toNat) (by omega)
      have mo := law_mapped (n + 1) hp (E.rows _ mem).2 (by have := E.len mem; omega) h
      simp (disch := (first | exact dv_nn _ _ | (exact dv_lt _ (by omega)) | ((try simp only [ofInts_len, ofRows_len, rngI_len, List.length_append, List.length_cons, List.length_nil, List.length_map, isort_len]); omega))) only [ixRowsT, mo, bvN, bvC, svE, svS, svPr, svSt, svIf, svRe, svRn, svRa, svTr, evV, evK, evG, evP, evS3, evCh, evNt, evBo, evFi, evTu, evLi, evCa, evMe, evLc, evsN, evsC, evbN, evbC, bindOk, toSOk, thenNx, thenRt, thenEx, ttB, snaps, snap, mkR, Mn.fresh, setT, datas, pars, meD, stD, itV, itD, seqOf, List.getElem?_cons_zero, List.getElem?_cons_succ, List.getElem?_nil, List.set_cons_zero, List.set_cons_succ, Option.map_some, Option.map_none, Bool.false_eq_true, if_false, if_true, List.length_cons, List.length_nil, Nat.zero_add, Nat.reduceAdd, List.map_cons, List.map_nil, eq_self, decide_true, decide_false, Bool.not_true, Bool.not_false, beq_self_eq_true, Int.reduceToNat, List.replicate_succ, List.replicate_zero, List.cons_append, List.nil_append, brcB, brcX, brcIte, thenIte, finIte, toSIte, bindIte, finRt, finNx, finX, toSX, bindX, evl_eq, calmOk, lim0, lim1, lim2, lim3, lim4, lim_map, lim_ints, mapA_map, mapA_ints, mapA_pure, mapA_ite, same_d, same_s, same_n, andC, orC, ints_map, ints_id, ints_int, List.take_length, tf, ft, Tg.slots, wpE, Int.cast_ofNat_Int, Int.reduceEq, Int.reduceLT, Int.reduceLE, Nat.reduceLT, Nat.reduceLeDiff, Bool.and_true, Bool.true_and, Bool.false_and, Bool.and_false, Bool.or_true, Bool.true_or, Bool.or_false, Bool.false_or, ofInts_snoc, List.append_nil, isort_len, pf_add, pf_sub, pf_eqI, pf_neI, pf_ltI, pf_gtI, pf_leI, pf_geI, pf_lenL, pf_lenT, pf_int, pf_abs, pf_neg, pf_min, pf_max, ix0T, ix1T, ix2T, ix3T, ix0L, ix1L, ix2L, rngD_I, List.take_succ_cons, last_get, last_set, take_app, mid_get, mid_set, mid_get1, mid_set1, app_app1, lim_rows, ofRows_snoc, List.append_assoc, Int.zero_add, pf_in, pf_nin, pf_inL, pf_ninL, pf_eqRow, pf_neRow, pf_eqRows, pf_eqInts, pf_sumI, pf_tupT, pf_lst, pf_lstL, pf_rev, pf_isN, pf_notN, isNone, pf_isB, pf_notB, slT_T, slT_L, slF_T, slF_L, slT_last, ofInts_take, ofInts_drop, ofRows_take, ofRows_drop, pf_tupL, pf_srtT, pf_srtL, pf_addT, pf_addL, ofInts_len, ofRows_len, ofInts_app, pf_allP, pf_anyP, raF]
  have fold : (q.map fun i => PyData.tuple (ofInts (mpR p (bs.getD i.toNat [])))) = ofRows (q.map fun i => mpR p (bs.getD i.toNat [])) := by unfold ofRows; rw [List.map_map]; rfl
  have hr : ∀ b ∈ q.map (fun i => mpR p (bs.getD i.toNat [])), rowOk m b := fun b hb => by
    obtain ⟨i, hi, rfl⟩ := List.mem_map.mp hb
    have g := hq.rg i hi
    exact mpR_ok hp (E.rows _ (getD_mem (by omega)))
  have rl : (q.map (fun i => mpR p (bs.getD i.toNat []))).length = bs.length := by rw [List.length_map]; omega
  rw [fold] at k
  generalize q.map (fun i => mpR p (bs.getD i.toNat [])) = r2 at *
  have i0 := dv_nn d2 (bs.length : Int)
  have i1 := dv_lt d2 (many := (bs.length : Int)) (by omega)
  have c0 := dv_nn (dx d2 (bs.length : Int)) m
  have c1 := dv_lt (dx d2 (bs.length : Int)) m1
  have s0 := dv_nn (dx (dx d2 (bs.length : Int)) m) m
  have s1 := dv_lt (dx (dx d2 (bs.length : Int)) m) m1
  obtain ⟨m5, b5, s5, d5, e5, E5⟩ := law_election n (dx (dx (dx d2 (bs.length : Int)) m) m) t 4 5 (by decide) (by decide) (by decide) (by decide)
  have ok := others_ok E hm hl hr rl i0 (by omega) c0 c1 (s2 := 1 + dv (dx (dx d2 (bs.length : Int)) m) m) (by omega) (by omega) (Elc_of E5 (by decide) (by decide)) (by have := E5.m2; omega) (by have := E5.l2; omega)
  have el : ∀ i, rowOk m (r2.getD (dv d2 (bs.length : Int)).toNat i) := fun i => by
    have : (dv d2 (bs.length : Int)).toNat < r2.length := by omega
    rw [List.getD_eq_getElem?_getD, List.getElem?_eq_getElem this]
    exact hr _ (List.getElem_mem _)
  have bl : (r2.getD (dv d2 (bs.length : Int)).toNat []).length ≤ 900 := by have := row_len (el []).1 (el []).2; omega
  have o2 := dv_nn d5 2
  have o3 := dv_nn (dx d5 2) 6
  have o4 := dv_lt (dx d5 2) (many := 6) (by decide)
  have la := List.length_take_le (dv d2 (bs.length : Int)).toNat r2
  have lb := List.length_drop (i := (dv d2 (bs.length : Int) + 1).toNat) (l := r2)
  rw [s__law_other]
  by_cases hz : dv d5 2 = 0
  · refine ⟨m, r2, s, dx d5 2, ?_, ⟨m1, by omega, E.s1, E.s2, by omega, by omega, hr⟩, by omega, by omega⟩
    simp (disch := (first | exact dv_nn _ _ | (exact dv_lt _ (by omega)) | ((try simp only [ofInts_len, ofRows_len, rngI_len, List.length_append, List.length_cons, List.length_nil, List.length_map, isort_len]); omega))) only [b__law_other, e1, e2, k, draw, ixRowsT, law_turned, slT_T, e5, hz, limC, bvN, bvC, svE, svS, svPr, svSt, svIf, svRe, svRn, svRa, svTr, evV, evK, evG, evP, evS3, evCh, evNt, evBo, evFi, evTu, evLi, evCa, evMe, evsN, evsC, evbN, evbC, bindOk, toSOk, thenNx, thenRt, thenEx, ttB, snaps, snap, mkR, Mn.fresh, setT, datas, pars, meD, stD, itV, itD, seqOf, List.getElem?_cons_zero, List.getElem?_cons_succ, List.getElem?_nil, List.set_cons_zero, List.set_cons_succ, Option.map_some, Option.map_none, Bool.false_eq_true, if_false, if_true, List.length_cons, List.length_nil, Nat.zero_add, Nat.reduceAdd, List.map_cons, List.map_nil, eq_self, decide_true, decide_false, Bool.not_true, Bool.not_false, beq_self_eq_true, Int.reduceToNat, List.replicate_succ, List.replicate_zero, List.cons_append, List.nil_append, brcB, brcX, brcIte, thenIte, finIte, toSIte, bindIte, finRt, finNx, finX, toSX, bindX, evl_eq, calmOk, lim0, lim1, lim2, lim3, lim4, lim_map, lim_ints, mapA_map, mapA_ints, mapA_pure, mapA_ite, same_d, same_s, same_n, andC, orC, ints_map, ints_id, ints_int, List.take_length, tf, ft, Tg.slots, wpE, Int.cast_ofNat_Int, Int.reduceEq, Int.reduceLT, Int.reduceLE, Nat.reduceLT, Nat.reduceLeDiff, Bool.and_true, Bool.true_and, Bool.false_and, Bool.and_false, Bool.or_true, Bool.true_or, Bool.or_false, Bool.false_or, ofInts_snoc, List.append_nil, isort_len, pf_add, pf_sub, pf_eqI, pf_neI, pf_ltI, pf_gtI, pf_leI, pf_geI, pf_lenL, pf_lenT, pf_int, pf_abs, pf_neg, pf_min, pf_max, ix0T, ix1T, ix2T, ix3T, ix0L, ix1L, ix2L, rngD_I, List.take_succ_cons, last_get, last_set, take_app, mid_get, mid_set, mid_get1, mid_set1, app_app1, lim_rows, ofRows_snoc, List.append_assoc, Int.zero_add, pf_in, pf_nin, pf_inL, pf_ninL, pf_eqRow, pf_neRow, pf_eqRows, pf_eqInts, pf_sumI, pf_tupT, pf_lst, pf_lstL, pf_rev, pf_isN, pf_notN, isNone, pf_isB, pf_notB, slT_T, slT_L, slF_T, slF_L, slT_last, ofInts_take, ofInts_drop, ofRows_take, ofRows_drop, pf_tupL, pf_srtT, pf_srtL, pf_addT, pf_addL, ofInts_len, ofRows_len, ofInts_app, pf_allP, pf_anyP, raF]
  · obtain ⟨m2, b2, s2, ev2, h2⟩ := ok _ (getD_mem (dflt := .none) (i := (dv (dx d5 2) 6).toNat) (by simp only [List.length_cons, List.length_nil]; omega))
    refine ⟨m2, b2, s2, dx (dx d5 2) 6, ?_, h2⟩
    rw [← ev2]
    have ixO : pf .ix [.list [.tuple [.int m, .tuple (ofRows (r2.take (dv d2 (bs.length : Int)).toNat ++ [turnB (r2.getD (dv d2 (bs.length : Int)).toNat []) (dv (dx d2 (bs.length : Int)) m)]) ++ ofRows (r2.drop (dv d2 (bs.length : Int) + 1).toNat)), .int s],
        .tuple [.int m, .tuple (ofRows r2 ++ [.tuple []]), .int s], .tuple [.int m, .tuple (ofRows r2), .int (1 + dv (dx (dx d2 (bs.length : Int)) m) m)], .tuple [.int (m + 1), .tuple (ofRows r2), .int s], elOf m5 b5 s5, elOf m bs s], .int (dv (dx d5 2) 6)] =
        some ([elOf m (r2.take (dv d2 (bs.length : Int)).toNat ++ ([turnB (r2.getD (dv d2 (bs.length : Int)).toNat []) (dv (dx d2 (bs.length : Int)) m)] ++ r2.drop (dv d2 (bs.length : Int) + 1).toNat)) s, elOf m (r2 ++ [[]]) s, elOf m r2 (1 + dv (dx (dx d2 (bs.length : Int)) m) m), elOf (m + 1) r2 s, elOf m5 b5 s5, elOf m bs s].getD (dv (dx d5 2) 6).toNat .none) := by
      rw [ofRows_app, List.append_assoc, show ofRows r2 ++ [PyData.tuple []] = ofRows (r2 ++ [[]]) from ofRows_app r2 [[]]]
      exact ixLD _ _ o3 o4
    simp (disch := (first | exact dv_nn _ _ | (exact dv_lt _ (by omega)) | ((try simp only [ofInts_len, ofRows_len, rngI_len, List.length_append, List.length_cons, List.length_nil, List.length_map, isort_len]); omega))) only [b__law_other, e1, e2, k, draw, ixRowsT, law_turned, slT_T, e5, hz, limC, ixO, bvN, bvC, svE, svS, svPr, svSt, svIf, svRe, svRn, svRa, svTr, evV, evK, evG, evP, evS3, evCh, evNt, evBo, evFi, evTu, evLi, evCa, evMe, evsN, evsC, evbN, evbC, bindOk, toSOk, thenNx, thenRt, thenEx, ttB, snaps, snap, mkR, Mn.fresh, setT, datas, pars, meD, stD, itV, itD, seqOf, List.getElem?_cons_zero, List.getElem?_cons_succ, List.getElem?_nil, List.set_cons_zero, List.set_cons_succ, Option.map_some, Option.map_none, Bool.false_eq_true, if_false, if_true, List.length_cons, List.length_nil, Nat.zero_add, Nat.reduceAdd, List.map_cons, List.map_nil, eq_self, decide_true, decide_false, Bool.not_true, Bool.not_false, beq_self_eq_true, Int.reduceToNat, List.replicate_succ, List.replicate_zero, List.cons_append, List.nil_append, brcB, brcX, brcIte, thenIte, finIte, toSIte, bindIte, finRt, finNx, finX, toSX, bindX, evl_eq, calmOk, lim0, lim1, lim2, lim3, lim4, lim_map, lim_ints, mapA_map, mapA_ints, mapA_pure, mapA_ite, same_d, same_s, same_n, andC, orC, ints_map, ints_id, ints_int, List.take_length, tf, ft, Tg.slots, wpE, Int.cast_ofNat_Int, Int.reduceEq, Int.reduceLT, Int.reduceLE, Nat.reduceLT, Nat.reduceLeDiff, Bool.and_true, Bool.true_and, Bool.false_and, Bool.and_false, Bool.or_true, Bool.true_or, Bool.or_false, Bool.false_or, ofInts_snoc, List.append_nil, isort_len, pf_add, pf_sub, pf_eqI, pf_neI, pf_ltI, pf_gtI, pf_leI, pf_geI, pf_lenL, pf_lenT, pf_int, pf_abs, pf_neg, pf_min, pf_max, ix0T, ix1T, ix2T, ix3T, ix0L, ix1L, ix2L, rngD_I, List.take_succ_cons, last_get, last_set, take_app, mid_get, mid_set, mid_get1, mid_set1, app_app1, lim_rows, ofRows_snoc, List.append_assoc, Int.zero_add, pf_in, pf_nin, pf_inL, pf_ninL, pf_eqRow, pf_neRow, pf_eqRows, pf_eqInts, pf_sumI, pf_tupT, pf_lst, pf_lstL, pf_rev, pf_isN, pf_notN, isNone, pf_isB, pf_notB, slT_T, slT_L, slF_T, slF_L, slT_last, ofInts_take, ofInts_drop, ofRows_take, ofRows_drop, pf_tupL, pf_srtT, pf_srtL, pf_addT, pf_addL, ofInts_len, ofRows_len, ofInts_app, pf_allP, pf_anyP, raF]
end K61

/-! told; the names. -/
namespace K61
open PySem Mn
def tell : Rs Vl → Rs Vl
  | .ok v h => .ok v h
  | .ex 0 _ h => .ok (.d (.str "malformed")) h
  | .ex 1 d h => .ok (.d d) h
  | x => x
theorem told_of (n : Nat) (w : Int) (f : Nat) (r v : PyData) (as : List Vl) (h : MH) (res : Rs Vl) (hw : (w = 0 ∧ f = 11 ∧ as = [.d r]) ∨ (w = 1 ∧ f = 13 ∧ as = [.d r, .d v]))
    (e : R n f as h = res) (hr : (∃ x, res = .ok (.d x) h) ∨ (∃ d, res = .ex 0 d h) ∨ ∃ d, res = .ex 1 d h) : R (n + 1) 24 [.d (.int w), .d r, .d v] h = tell res := by
  have i1 : ¬ (1 : Int) = 0 := by decide
  have u1 : up 0 0 = true := rfl
  have u2 : up 1 0 = false := rfl
  have u3 : up 1 1 = true := rfl
  rw [s__law_told]
  rcases hw with ⟨rfl, rfl, rfl⟩ | ⟨rfl, rfl, rfl⟩ <;> rcases hr with ⟨x, rfl⟩ | ⟨x, rfl⟩ | ⟨x, rfl⟩ <;> simp (disch := (first | exact dv_nn _ _ | (exact dv_lt _ (by omega)) | ((try simp only [ofInts_len, ofRows_len, rngI_len, List.length_append, List.length_cons, List.length_nil, List.length_map, isort_len]); omega))) only [b__law_told, i1, e, hdR, u1, u2, u3, slot, tell, bvN, bvC, svE, svS, svPr, svSt, svIf, svRe, svRn, svRa, svTr, evV, evK, evG, evP, evS3, evCh, evNt, evBo, evFi, evTu, evLi, evCa, evMe, evLc, evsN, evsC, evbN, evbC, bindOk, toSOk, thenNx, thenRt, thenEx, ttB, snaps, snap, mkR, Mn.fresh, setT, datas, pars, meD, stD, itV, itD, seqOf, List.getElem?_cons_zero, List.getElem?_cons_succ, List.getElem?_nil, List.set_cons_zero, List.set_cons_succ, Option.map_some, Option.map_none, Bool.false_eq_true, if_false, if_true, List.length_cons, List.length_nil, Nat.zero_add, Nat.reduceAdd, List.map_cons, List.map_nil, eq_self, decide_true, decide_false, Bool.not_true, Bool.not_false, beq_self_eq_true, Int.reduceToNat, List.replicate_succ, List.replicate_zero, List.cons_append, List.nil_append, brcB, brcX, brcIte, thenIte, finIte, toSIte, bindIte, finRt, finNx, finX, toSX, bindX, evl_eq, calmOk, lim0, lim1, lim2, lim3, lim4, lim_map, lim_ints, mapA_map, mapA_ints, mapA_pure, mapA_ite, same_d, same_s, same_n, andC, orC, ints_map, ints_id, ints_int, List.take_length, tf, ft, Tg.slots, wpE, Int.cast_ofNat_Int, Int.reduceEq, Int.reduceLT, Int.reduceLE, Nat.reduceLT, Nat.reduceLeDiff, Bool.and_true, Bool.true_and, Bool.false_and, Bool.and_false, Bool.or_true, Bool.true_or, Bool.or_false, Bool.false_or, ofInts_snoc, List.append_nil, isort_len, pf_add, pf_sub, pf_eqI, pf_neI, pf_ltI, pf_gtI, pf_leI, pf_geI, pf_lenL, pf_lenT, pf_int, pf_abs, pf_neg, pf_min, pf_max, ix0T, ix1T, ix2T, ix3T, ix0L, ix1L, ix2L, rngD_I, List.take_succ_cons, last_get, last_set, take_app, mid_get, mid_set, mid_get1, mid_set1, app_app1, lim_rows, ofRows_snoc, List.append_assoc, Int.zero_add, pf_in, pf_nin, pf_inL, pf_ninL, pf_eqRow, pf_neRow, pf_eqRows, pf_eqInts, pf_sumI, pf_tupT, pf_lst, pf_lstL, pf_rev, pf_isN, pf_notN, isNone, pf_isB, pf_notB, slT_T, slT_L, slF_T, slF_L, slT_last, ofInts_take, ofInts_drop, ofRows_take, ofRows_drop, pf_tupL, pf_srtT, pf_srtL, pf_addT, pf_addL, ofInts_len, ofRows_len, ofInts_app, pf_allP, pf_anyP, raF]
theorem told0 (n : Nat) {m s : Int} {bs : List (List Int)} (E : Elc m bs s) (hm : m ≤ 6) (v : PyData) (h : MH) : R (n + 6) 24 [.d (.int 0), .d (elOf m bs s), .d v] h = .ok (.d (elOf m (codeT m bs) s)) h :=
  told_of (n + 5) 0 _ _ v _ h _ (.inl ⟨rfl, rfl, rfl⟩) (code_ok n E hm h) (.inl ⟨_, rfl⟩)
theorem told0L (n : Nat) {m s : Int} {bs : List (List Int)} (E : Elc m bs s) (hm : 6 < m) (v : PyData) (h : MH) : R (n + 6) 24 [.d (.int 0), .d (elOf m bs s), .d v] h = .ok (.d (.str "large")) h :=
  told_of (n + 5) 0 _ _ v _ h _ (.inl ⟨rfl, rfl, rfl⟩) (code_large n E hm h) (.inr (.inr ⟨_, rfl⟩))
theorem told0N (n : Nat) {x : PyData} (hb : bd x = true) (hx : isEl x = false) (v : PyData) (h : MH) : R (n + 6) 24 [.d (.int 0), .d x, .d v] h = .ok (.d (.str "malformed")) h := by
  have c := check_election n x h hb
  rw [hx, if_neg Bool.false_ne_true] at c
  exact told_of (n + 5) 0 _ _ v _ h (.ex 0 (.str "no election") h) (.inl ⟨rfl, rfl, rfl⟩) (by simp (disch := (first | exact dv_nn _ _ | (exact dv_lt _ (by omega)) | ((try simp only [ofInts_len, ofRows_len, rngI_len, List.length_append, List.length_cons, List.length_nil, List.length_map, isort_len]); omega))) only [s_code, b_code, c, bvN, bvC, svE, svS, svPr, svSt, svIf, svRe, svRn, svRa, svTr, evV, evK, evG, evP, evS3, evCh, evNt, evBo, evFi, evTu, evLi, evCa, evMe, evLc, evsN, evsC, evbN, evbC, bindOk, toSOk, thenNx, thenRt, thenEx, ttB, snaps, snap, mkR, Mn.fresh, setT, datas, pars, meD, stD, itV, itD, seqOf, List.getElem?_cons_zero, List.getElem?_cons_succ, List.getElem?_nil, List.set_cons_zero, List.set_cons_succ, Option.map_some, Option.map_none, Bool.false_eq_true, if_false, if_true, List.length_cons, List.length_nil, Nat.zero_add, Nat.reduceAdd, List.map_cons, List.map_nil, eq_self, decide_true, decide_false, Bool.not_true, Bool.not_false, beq_self_eq_true, Int.reduceToNat, List.replicate_succ, List.replicate_zero, List.cons_append, List.nil_append, brcB, brcX, brcIte, thenIte, finIte, toSIte, bindIte, finRt, finNx, finX, toSX, bindX, evl_eq, calmOk, lim0, lim1, lim2, lim3, lim4, lim_map, lim_ints, mapA_map, mapA_ints, mapA_pure, mapA_ite, same_d, same_s, same_n, andC, orC, ints_map, ints_id, ints_int, List.take_length, tf, ft, Tg.slots, wpE, Int.cast_ofNat_Int, Int.reduceEq, Int.reduceLT, Int.reduceLE, Nat.reduceLT, Nat.reduceLeDiff, Bool.and_true, Bool.true_and, Bool.false_and, Bool.and_false, Bool.or_true, Bool.true_or, Bool.or_false, Bool.false_or, ofInts_snoc, List.append_nil, isort_len, pf_add, pf_sub, pf_eqI, pf_neI, pf_ltI, pf_gtI, pf_leI, pf_geI, pf_lenL, pf_lenT, pf_int, pf_abs, pf_neg, pf_min, pf_max, ix0T, ix1T, ix2T, ix3T, ix0L, ix1L, ix2L, rngD_I, List.take_succ_cons, last_get, last_set, take_app, mid_get, mid_set, mid_get1, mid_set1, app_app1, lim_rows, ofRows_snoc, List.append_assoc, Int.zero_add, pf_in, pf_nin, pf_inL, pf_ninL, pf_eqRow, pf_neRow, pf_eqRows, pf_eqInts, pf_sumI, pf_tupT, pf_lst, pf_lstL, pf_rev, pf_isN, pf_notN, isNone, pf_isB, pf_notB, slT_T, slT_L, slF_T, slF_L, slT_last, ofInts_take, ofInts_drop, ofRows_take, ofRows_drop, pf_tupL, pf_srtT, pf_srtL, pf_addT, pf_addL, ofInts_len, ofRows_len, ofInts_app, pf_allP, pf_anyP, raF]) (.inr (.inl ⟨_, rfl⟩))
theorem told1 (n : Nat) {m s m2 s2 : Int} {bs b2 : List (List Int)} (E : Elc m bs s) (E2 : Elc m2 b2 s2) (hm : m ≤ 6) (h : MH) : R (n + 7) 24 [.d (.int 1), .d (elOf m bs s), .d (elOf m2 b2 s2)] h = .ok (.d (alikeD m s bs m2 s2 b2)) h :=
  told_of (n + 6) 1 _ _ _ _ h _ (.inr ⟨rfl, rfl, rfl⟩) (alike_ok n E E2 hm h) (.inl ⟨_, rfl⟩)
theorem told1L (n : Nat) {m s m2 s2 : Int} {bs b2 : List (List Int)} (E : Elc m bs s) (E2 : Elc m2 b2 s2) (hm : 6 < m) (h : MH) : R (n + 7) 24 [.d (.int 1), .d (elOf m bs s), .d (elOf m2 b2 s2)] h = .ok (.d (.str "large")) h :=
  told_of (n + 6) 1 _ _ _ _ h _ (.inr ⟨rfl, rfl, rfl⟩) (alike_large n E E2 hm h) (.inr (.inr ⟨_, rfl⟩))
theorem told1N (n : Nat) {x : PyData} (hb : bd x = true) (hx : isEl x = false) (v : PyData) (h : MH) : R (n + 7) 24 [.d (.int 1), .d x, .d v] h = .ok (.d (.str "malformed")) h := by
  have c := check_election (n + 1) x h hb
  rw [hx, if_neg Bool.false_ne_true] at c
  exact told_of (n + 6) 1 _ _ v _ h (.ex 0 (.str "no election") h) (.inr ⟨rfl, rfl, rfl⟩) (by simp (disch := (first | exact dv_nn _ _ | (exact dv_lt _ (by omega)) | ((try simp only [ofInts_len, ofRows_len, rngI_len, List.length_append, List.length_cons, List.length_nil, List.length_map, isort_len]); omega))) only [s_alike, b_alike, c, bvN, bvC, svE, svS, svPr, svSt, svIf, svRe, svRn, svRa, svTr, evV, evK, evG, evP, evS3, evCh, evNt, evBo, evFi, evTu, evLi, evCa, evMe, evLc, evsN, evsC, evbN, evbC, bindOk, toSOk, thenNx, thenRt, thenEx, ttB, snaps, snap, mkR, Mn.fresh, setT, datas, pars, meD, stD, itV, itD, seqOf, List.getElem?_cons_zero, List.getElem?_cons_succ, List.getElem?_nil, List.set_cons_zero, List.set_cons_succ, Option.map_some, Option.map_none, Bool.false_eq_true, if_false, if_true, List.length_cons, List.length_nil, Nat.zero_add, Nat.reduceAdd, List.map_cons, List.map_nil, eq_self, decide_true, decide_false, Bool.not_true, Bool.not_false, beq_self_eq_true, Int.reduceToNat, List.replicate_succ, List.replicate_zero, List.cons_append, List.nil_append, brcB, brcX, brcIte, thenIte, finIte, toSIte, bindIte, finRt, finNx, finX, toSX, bindX, evl_eq, calmOk, lim0, lim1, lim2, lim3, lim4, lim_map, lim_ints, mapA_map, mapA_ints, mapA_pure, mapA_ite, same_d, same_s, same_n, andC, orC, ints_map, ints_id, ints_int, List.take_length, tf, ft, Tg.slots, wpE, Int.cast_ofNat_Int, Int.reduceEq, Int.reduceLT, Int.reduceLE, Nat.reduceLT, Nat.reduceLeDiff, Bool.and_true, Bool.true_and, Bool.false_and, Bool.and_false, Bool.or_true, Bool.true_or, Bool.or_false, Bool.false_or, ofInts_snoc, List.append_nil, isort_len, pf_add, pf_sub, pf_eqI, pf_neI, pf_ltI, pf_gtI, pf_leI, pf_geI, pf_lenL, pf_lenT, pf_int, pf_abs, pf_neg, pf_min, pf_max, ix0T, ix1T, ix2T, ix3T, ix0L, ix1L, ix2L, rngD_I, List.take_succ_cons, last_get, last_set, take_app, mid_get, mid_set, mid_get1, mid_set1, app_app1, lim_rows, ofRows_snoc, List.append_assoc, Int.zero_add, pf_in, pf_nin, pf_inL, pf_ninL, pf_eqRow, pf_neRow, pf_eqRows, pf_eqInts, pf_sumI, pf_tupT, pf_lst, pf_lstL, pf_rev, pf_isN, pf_notN, isNone, pf_isB, pf_notB, slT_T, slT_L, slF_T, slF_L, slT_last, ofInts_take, ofInts_drop, ofRows_take, ofRows_drop, pf_tupL, pf_srtT, pf_srtL, pf_addT, pf_addL, ofInts_len, ofRows_len, ofInts_app, pf_allP, pf_anyP, raF]) (.inr (.inl ⟨_, rfl⟩))
theorem told1N2 (n : Nat) {m s : Int} {bs : List (List Int)} (E : Elc m bs s) {x : PyData} (hb : bd x = true) (hx : isEl x = false) (h : MH) : R (n + 7) 24 [.d (.int 1), .d (elOf m bs s), .d x] h = .ok (.d (.str "malformed")) h := by
  have c := check_el (n + 1) E h
  have c2 := check_election (n + 1) x h hb
  rw [hx, if_neg Bool.false_ne_true] at c2
  exact told_of (n + 6) 1 _ _ x _ h (.ex 0 (.str "no election") h) (.inr ⟨rfl, rfl, rfl⟩) (by simp (disch := (first | exact dv_nn _ _ | (exact dv_lt _ (by omega)) | ((try simp only [ofInts_len, ofRows_len, rngI_len, List.length_append, List.length_cons, List.length_nil, List.length_map, isort_len]); omega))) only [s_alike, b_alike, c, c2, bvN, bvC, svE, svS, svPr, svSt, svIf, svRe, svRn, svRa, svTr, evV, evK, evG, evP, evS3, evCh, evNt, evBo, evFi, evTu, evLi, evCa, evMe, evLc, evsN, evsC, evbN, evbC, bindOk, toSOk, thenNx, thenRt, thenEx, ttB, snaps, snap, mkR, Mn.fresh, setT, datas, pars, meD, stD, itV, itD, seqOf, List.getElem?_cons_zero, List.getElem?_cons_succ, List.getElem?_nil, List.set_cons_zero, List.set_cons_succ, Option.map_some, Option.map_none, Bool.false_eq_true, if_false, if_true, List.length_cons, List.length_nil, Nat.zero_add, Nat.reduceAdd, List.map_cons, List.map_nil, eq_self, decide_true, decide_false, Bool.not_true, Bool.not_false, beq_self_eq_true, Int.reduceToNat, List.replicate_succ, List.replicate_zero, List.cons_append, List.nil_append, brcB, brcX, brcIte, thenIte, finIte, toSIte, bindIte, finRt, finNx, finX, toSX, bindX, evl_eq, calmOk, lim0, lim1, lim2, lim3, lim4, lim_map, lim_ints, mapA_map, mapA_ints, mapA_pure, mapA_ite, same_d, same_s, same_n, andC, orC, ints_map, ints_id, ints_int, List.take_length, tf, ft, Tg.slots, wpE, Int.cast_ofNat_Int, Int.reduceEq, Int.reduceLT, Int.reduceLE, Nat.reduceLT, Nat.reduceLeDiff, Bool.and_true, Bool.true_and, Bool.false_and, Bool.and_false, Bool.or_true, Bool.true_or, Bool.or_false, Bool.false_or, ofInts_snoc, List.append_nil, isort_len, pf_add, pf_sub, pf_eqI, pf_neI, pf_ltI, pf_gtI, pf_leI, pf_geI, pf_lenL, pf_lenT, pf_int, pf_abs, pf_neg, pf_min, pf_max, ix0T, ix1T, ix2T, ix3T, ix0L, ix1L, ix2L, rngD_I, List.take_succ_cons, last_get, last_set, take_app, mid_get, mid_set, mid_get1, mid_set1, app_app1, lim_rows, ofRows_snoc, List.append_assoc, Int.zero_add, pf_in, pf_nin, pf_inL, pf_ninL, pf_eqRow, pf_neRow, pf_eqRows, pf_eqInts, pf_sumI, pf_tupT, pf_lst, pf_lstL, pf_rev, pf_isN, pf_notN, isNone, pf_isB, pf_notB, slT_T, slT_L, slF_T, slF_L, slT_last, ofInts_take, ofInts_drop, ofRows_take, ofRows_drop, pf_tupL, pf_srtT, pf_srtL, pf_addT, pf_addL, ofInts_len, ofRows_len, ofInts_app, pf_allP, pf_anyP, raF]) (.inr (.inl ⟨_, rfl⟩))
/-! ### the names -/
theorem ordT_ok {rows due : List (List Int)} (hp : rows.Perm due) : ((ordT rows due).map fun i => rows.getD i.toNat []) = due ∧ IsP rows.length (ordT rows due) := by
  have hall : ((rngI 0 rows.length).map fun i => rows.getD i.toNat []) = rows := by
    apply List.ext_getElem
    · simp [rngI_len]
    · intro i h1 h2
      rw [List.getElem_map, rngI_get, List.getD_eq_getElem?_getD, Int.toNat_natCast, List.getElem?_eq_getElem h2]; rfl
  obtain ⟨O, g1, g2, g3⟩ := grd_ok rows due (rngI 0 rows.length) (by rw [hall]; exact hp)
  have hO : ordT rows due = O := by unfold ordT; rw [g1]; rfl
  rw [hO]
  exact ⟨g2, IsP_of (by omega) g3⟩
/-- what the names are: none, or names that lead there -/
theorem alikeD_is (m s m2 s2 : Int) (bs b2 : List (List Int)) : (alikeD m s bs m2 s2 b2 = .none ∧ ¬ (m = m2 ∧ s = s2 ∧ ∃ p, IsP m p ∧ isortR (bs.map (mpR p)) = isortR b2)) ∨
    ∃ p, m = m2 ∧ s = s2 ∧ IsP m p ∧ isortR (bs.map (mpR p)) = isortR b2 ∧ alikeD m s bs m2 s2 b2 = namesD bs b2 p := by
  have len : ∀ p : List Int, isortR (bs.map (mpR p)) = isortR b2 → bs.length = b2.length := fun p h => by
    have := (perm_of_isortR h).length_eq
    rw [List.length_map] at this; exact this
  unfold alikeD
  by_cases hc : m = m2 ∧ s = s2 ∧ bs.length = b2.length
  · rw [if_pos hc]
    cases hf : (perms m).find? (alikeP bs b2) with
    | some p =>
      have h1 := List.find?_some hf
      have h2 := List.mem_of_find?_eq_some hf
      exact .inr ⟨p, hc.1, hc.2.1, perms_iff.mp h2, of_decide_eq_true h1, rfl⟩
    | none =>
      refine .inl ⟨rfl, fun ⟨_, _, p, hp, e⟩ => ?_⟩
      have := List.find?_eq_none.mp hf p (perms_iff.mpr hp)
      exact this (decide_eq_true e)
  · rw [if_neg hc]
    exact .inl ⟨rfl, fun ⟨h1, h2, p, hp, e⟩ => hc ⟨h1, h2, len p e⟩⟩
/-- names are there just if the codes are the same -/
theorem alikeD_none {m s m2 s2 : Int} {bs b2 : List (List Int)} (E : Elc m bs s) (E2 : Elc m2 b2 s2) : isNone (alikeD m s bs m2 s2 b2) = !decide (m2 = m ∧ codeT m2 b2 = codeT m bs ∧ s2 = s) := by
  have m1 := E.m1
  rcases alikeD_is m s m2 s2 bs b2 with ⟨e, h⟩ | ⟨p, rfl, rfl, hp, e, h⟩
  · rw [e, show isNone PyData.none = true from rfl]
    refine Eq.symm ?_
    rw [Bool.not_eq_true', decide_eq_false_iff_not]
    rintro ⟨rfl, h1, rfl⟩
    exact h ⟨rfl, rfl, (alike_code (by omega) E.rows E2.rows).mpr h1⟩
  · rw [h, show isNone (namesD bs b2 p) = false from rfl]
    refine Eq.symm ?_
    rw [Bool.not_eq_false', decide_eq_true_eq]
    exact ⟨rfl, (alike_code (by omega) E.rows E2.rows).mp ⟨p, hp, e⟩, rfl⟩
theorem eqv_el (m s m2 s2 : Int) (bs b2 : List (List Int)) : PyData.eqv (elOf m2 b2 s2) (elOf m bs s) = decide (m2 = m ∧ b2 = bs ∧ s2 = s) := by
  have i : ∀ a b : Int, (a == b) = decide (a = b) := fun a b => by by_cases z : a = b <;> simp [z]
  simp [PyData.eqv, PyData.eqvAll, eqvAll_rows, Bool.decide_and, i]
theorem Elc.gd {m s : Int} {bs : List (List Int)} (E : Elc m bs s) (hl : bs.length ≤ 12) : Gm 3 1119 (elOf m bs s) :=
  gd_el (by have := E.m1; omega) E.m2 (by have := E.s1; omega) (by have := E.s2; have := E.m2; omega) hl E.rows
theorem Elc.code {m s : Int} {bs : List (List Int)} (E : Elc m bs s) : Elc m (codeT m bs) s := by
  have k := codeT_ok (m := m) (by have := E.m1; omega) E.rows
  exact ⟨E.m1, E.m2, E.s1, E.s2, by rw [k.2]; exact E.l1, by rw [k.2]; exact E.l2, k.1⟩
theorem gd_alikeD {m s m2 s2 : Int} {bs b2 : List (List Int)} (E : Elc m bs s) : Gm 2 122 (alikeD m s bs m2 s2 b2) := by
  rcases alikeD_is m s m2 s2 bs b2 with ⟨e, h⟩ | ⟨p, rfl, rfl, hp, e, h⟩
  · rw [e]; exact gd_none.mono (by decide) (by decide)
  · rw [h]
    have o := (ordT_ok (perm_of_isortR e)).2
    rw [List.length_map] at o
    have l2 := E.l2
    have m2 := E.m2
    have ll := hp.len
    have ol := o.len
    have g1 : Gm 1 60 (.tuple (ofInts p)) := (gd_row fun i hi => by have := hp.rg i hi; omega).mono (Nat.le_refl _) (by omega)
    have g2 : Gm 1 60 (.tuple (ofInts (ordT (bs.map (mpR p)) b2))) := (gd_row fun i hi => by have := o.rg i hi; omega).mono (Nat.le_refl _) (by omega)
    have := gd_tup (D := 1) (K := 60) (xs := [.tuple (ofInts p), .tuple (ofInts (ordT (bs.map (mpR p)) b2))]) fun x hx => by
      simp only [List.mem_cons, List.not_mem_nil, or_false] at hx
      rcases hx with e | e <;> rw [e]
      · exact g1
      · exact g2
    exact this
/-- the names lead there -/
theorem renamed_to {m s : Int} {bs b2 : List (List Int)} {p : List Int} (E : Elc m bs s) (hp : IsP m p) (e : isortR (bs.map (mpR p)) = isortR b2) (n : Nat) (h : MH) : R (n + 6) 9 [.d (elOf m bs s), .d (namesD bs b2 p)] h = .ok (.d (elOf m b2 s)) h := by
  have o := ordT_ok (perm_of_isortR e)
  have o2 := o.2
  rw [List.length_map] at o2
  have k := renamed n E hp o2 h
  have q : ((ordT (bs.map (mpR p)) b2).map fun i => mpR p (bs.getD i.toNat [])) = b2 := by
    refine Eq.trans (List.map_congr_left fun i hi => ?_) o.1
    have g := o2.rg i hi
    have gl : i.toNat < bs.length := by omega
    rw [List.getD_eq_getElem?_getD, List.getD_eq_getElem?_getD, List.getElem?_map, List.getElem?_eq_getElem gl]; rfl
  rw [q] at k
  exact k
end K61

/-! the law. -/
namespace K61
open PySem Mn
/-- what is no election -/
def oddL (m s : Int) (bs : List (List Int)) : List PyData := [.none, .int 5, .tuple [], .list [.int m, .tuple (ofRows bs), .int s], .tuple [.int m, .tuple (ofRows bs), .int 0], .tuple [.int m, .tuple [], .int s], .tuple [.int m, .tuple (ofRows bs ++ [.tuple [.int 1, .int 0]]), .int s], .tuple [.int 31, .tuple (ofRows bs), .int s]]
theorem oddL_no {m s : Int} {bs : List (List Int)} (E : Elc m bs s) (hl : bs.length ≤ 12) : ∀ v ∈ oddL m s bs, isEl v = false ∧ bd v = true := by
  have b := (itd_rows E.m2 hl E.rows).2.1
  simp only [PyData.bulk] at b
  intro v hv
  simp only [oddL, List.mem_cons, List.not_mem_nil, or_false] at hv
  rcases hv with e | e | e | e | e | e | e | e <;> rw [e] <;> refine ⟨?_, lf_bd ?_⟩
  · rfl
  · decide
  · rfl
  · decide
  · rfl
  · decide
  · rfl
  · simp only [PyData.bulk, PyData.bulkAll]; omega
  · simp [isEl, elC]
  · simp only [PyData.bulk, PyData.bulkAll]; omega
  · simp [isEl]
  · simp only [PyData.bulk, PyData.bulkAll]; omega
  · have : isRow m (.tuple [.int 1, .int 0]) = false := by simp [isRow, rowOf, asInts, incr]
    simp [isEl, this]
  · simp only [PyData.bulk, PyData.bulkAll, bulkAll_app]; omega
  · simp [isEl, elC]
  · simp only [PyData.bulk, PyData.bulkAll]; omega
theorem plain (ns : List Int) (hn : ns.length ≤ 63) : ∃ h', run 0 up (ds.map Di.df) 20 25 [.s ns] [] = .ok (.d (.bool true)) h' := by
  show ∃ h', R (19 + 1) 25 [.s ns] [] = .ok (.d (.bool true)) h'
  rw [s_law]
  obtain ⟨d, e⟩ := law_draw 18 ns hn
  have e1 : R 19 14 [.s ns] [] = .ok (.r 0) [d.mo] := e
  refine lstep (e1 := [some (.s ns), some (.r 0), none, none, none, none, none, none, none]) (h1 := [d.mo]) (by simp (disch := (first | exact dv_nn _ _ | (exact dv_lt _ (by omega)) | ((try simp only [ofInts_len, ofRows_len, rngI_len, List.length_append, List.length_cons, List.length_nil, List.length_map, isort_len]); omega))) only [e1, bvN, bvC, svE, svS, svPr, svSt, svIf, svRe, svRn, svRa, svTr, evV, evK, evG, evP, evS3, evCh, evNt, evBo, evFi, evTu, evLi, evCa, evMe, evsN, evsC, evbN, evbC, bindOk, toSOk, thenNx, thenRt, thenEx, ttB, snaps, snap, mkR, Mn.fresh, setT, datas, pars, meD, stD, itV, itD, seqOf, List.getElem?_cons_zero, List.getElem?_cons_succ, List.getElem?_nil, List.set_cons_zero, List.set_cons_succ, Option.map_some, Option.map_none, Bool.false_eq_true, if_false, if_true, List.length_cons, List.length_nil, Nat.zero_add, Nat.reduceAdd, List.map_cons, List.map_nil, eq_self, decide_true, decide_false, Bool.not_true, Bool.not_false, beq_self_eq_true, Int.reduceToNat, List.replicate_succ, List.replicate_zero, List.cons_append, List.nil_append, brcB, brcX, brcIte, thenIte, finIte, toSIte, bindIte, finRt, finNx, finX, toSX, bindX, evl_eq, calmOk, lim0, lim1, lim2, lim3, lim4, lim_map, lim_ints, mapA_map, mapA_ints, mapA_pure, mapA_ite, same_d, same_s, same_n, andC, orC, ints_map, ints_id, ints_int, List.take_length, tf, ft, Tg.slots, wpE, Int.cast_ofNat_Int, Int.reduceEq, Int.reduceLT, Int.reduceLE, Nat.reduceLT, Nat.reduceLeDiff, Bool.and_true, Bool.true_and, Bool.false_and, Bool.and_false, Bool.or_true, Bool.true_or, Bool.or_false, Bool.false_or, ofInts_snoc, List.append_nil, isort_len, pf_add, pf_sub, pf_eqI, pf_neI, pf_ltI, pf_gtI, pf_leI, pf_geI, pf_lenL, pf_lenT, pf_int, pf_abs, pf_neg, pf_min, pf_max, ix0T, ix1T, ix2T, ix3T, ix0L, ix1L, ix2L, rngD_I, List.take_succ_cons, last_get, last_set, take_app, mid_get, mid_set, mid_get1, mid_set1, app_app1, lim_rows, ofRows_snoc, List.append_assoc, Int.zero_add, pf_in, pf_nin, pf_inL, pf_ninL, pf_eqRow, pf_neRow, pf_eqRows, pf_eqInts, pf_sumI, pf_tupT, pf_lst, pf_lstL, pf_rev, pf_isN, pf_notN, isNone, pf_isB, pf_notB, slT_T, slT_L, slF_T, slF_L, slT_last, ofInts_take, ofInts_drop, ofRows_take, ofRows_drop, pf_tupL, pf_srtT, pf_srtL, pf_addT, pf_addL, ofInts_len, ofRows_len, ofInts_app, pf_allP, pf_anyP, raF]) ?_
  obtain ⟨many, hmany, em⟩ : ∃ many : Int, (many = 6 ∨ many = 4) ∧ many = if dv d 12 = 0 then 6 else 4 := by
    by_cases z : dv d 12 = 0
    · exact ⟨6, .inl rfl, by rw [if_pos z]⟩
    · exact ⟨4, .inr rfl, by rw [if_neg z]⟩
  refine lstep (e1 := [some (.s ns), some (.r 0), some (.d (.int many)), none, none, none, none, none, none]) (h1 := [(dx d 12).mo]) (by
    by_cases z : dv d 12 = 0
    · rw [if_pos z] at em; subst em; simp (disch := (first | exact dv_nn _ _ | (exact dv_lt _ (by omega)) | ((try simp only [ofInts_len, ofRows_len, rngI_len, List.length_append, List.length_cons, List.length_nil, List.length_map, isort_len]); omega))) only [draw, z, bvN, bvC, svE, svS, svPr, svSt, svIf, svRe, svRn, svRa, svTr, evV, evK, evG, evP, evS3, evCh, evNt, evBo, evFi, evTu, evLi, evCa, evMe, evsN, evsC, evbN, evbC, bindOk, toSOk, thenNx, thenRt, thenEx, ttB, snaps, snap, mkR, Mn.fresh, setT, datas, pars, meD, stD, itV, itD, seqOf, List.getElem?_cons_zero, List.getElem?_cons_succ, List.getElem?_nil, List.set_cons_zero, List.set_cons_succ, Option.map_some, Option.map_none, Bool.false_eq_true, if_false, if_true, List.length_cons, List.length_nil, Nat.zero_add, Nat.reduceAdd, List.map_cons, List.map_nil, eq_self, decide_true, decide_false, Bool.not_true, Bool.not_false, beq_self_eq_true, Int.reduceToNat, List.replicate_succ, List.replicate_zero, List.cons_append, List.nil_append, brcB, brcX, brcIte, thenIte, finIte, toSIte, bindIte, finRt, finNx, finX, toSX, bindX, evl_eq, calmOk, lim0, lim1, lim2, lim3, lim4, lim_map, lim_ints, mapA_map, mapA_ints, mapA_pure, mapA_ite, same_d, same_s, same_n, andC, orC, ints_map, ints_id, ints_int, List.take_length, tf, ft, Tg.slots, wpE, Int.cast_ofNat_Int, Int.reduceEq, Int.reduceLT, Int.reduceLE, Nat.reduceLT, Nat.reduceLeDiff, Bool.and_true, Bool.true_and, Bool.false_and, Bool.and_false, Bool.or_true, Bool.true_or, Bool.or_false, Bool.false_or, ofInts_snoc, List.append_nil, isort_len, pf_add, pf_sub, pf_eqI, pf_neI, pf_ltI, pf_gtI, pf_leI, pf_geI, pf_lenL, pf_lenT, pf_int, pf_abs, pf_neg, pf_min, pf_max, ix0T, ix1T, ix2T, ix3T, ix0L, ix1L, ix2L, rngD_I, List.take_succ_cons, last_get, last_set, take_app, mid_get, mid_set, mid_get1, mid_set1, app_app1, lim_rows, ofRows_snoc, List.append_assoc, Int.zero_add, pf_in, pf_nin, pf_inL, pf_ninL, pf_eqRow, pf_neRow, pf_eqRows, pf_eqInts, pf_sumI, pf_tupT, pf_lst, pf_lstL, pf_rev, pf_isN, pf_notN, isNone, pf_isB, pf_notB, slT_T, slT_L, slF_T, slF_L, slT_last, ofInts_take, ofInts_drop, ofRows_take, ofRows_drop, pf_tupL, pf_srtT, pf_srtL, pf_addT, pf_addL, ofInts_len, ofRows_len, ofInts_app, pf_allP, pf_anyP, raF]
    · rw [if_neg z] at em; subst em; simp (disch := (first | exact dv_nn _ _ | (exact dv_lt _ (by omega)) | ((try simp only [ofInts_len, ofRows_len, rngI_len, List.length_append, List.length_cons, List.length_nil, List.length_map, isort_len]); omega))) only [draw, z, bvN, bvC, svE, svS, svPr, svSt, svIf, svRe, svRn, svRa, svTr, evV, evK, evG, evP, evS3, evCh, evNt, evBo, evFi, evTu, evLi, evCa, evMe, evsN, evsC, evbN, evbC, bindOk, toSOk, thenNx, thenRt, thenEx, ttB, snaps, snap, mkR, Mn.fresh, setT, datas, pars, meD, stD, itV, itD, seqOf, List.getElem?_cons_zero, List.getElem?_cons_succ, List.getElem?_nil, List.set_cons_zero, List.set_cons_succ, Option.map_some, Option.map_none, Bool.false_eq_true, if_false, if_true, List.length_cons, List.length_nil, Nat.zero_add, Nat.reduceAdd, List.map_cons, List.map_nil, eq_self, decide_true, decide_false, Bool.not_true, Bool.not_false, beq_self_eq_true, Int.reduceToNat, List.replicate_succ, List.replicate_zero, List.cons_append, List.nil_append, brcB, brcX, brcIte, thenIte, finIte, toSIte, bindIte, finRt, finNx, finX, toSX, bindX, evl_eq, calmOk, lim0, lim1, lim2, lim3, lim4, lim_map, lim_ints, mapA_map, mapA_ints, mapA_pure, mapA_ite, same_d, same_s, same_n, andC, orC, ints_map, ints_id, ints_int, List.take_length, tf, ft, Tg.slots, wpE, Int.cast_ofNat_Int, Int.reduceEq, Int.reduceLT, Int.reduceLE, Nat.reduceLT, Nat.reduceLeDiff, Bool.and_true, Bool.true_and, Bool.false_and, Bool.and_false, Bool.or_true, Bool.true_or, Bool.or_false, Bool.false_or, ofInts_snoc, List.append_nil, isort_len, pf_add, pf_sub, pf_eqI, pf_neI, pf_ltI, pf_gtI, pf_leI, pf_geI, pf_lenL, pf_lenT, pf_int, pf_abs, pf_neg, pf_min, pf_max, ix0T, ix1T, ix2T, ix3T, ix0L, ix1L, ix2L, rngD_I, List.take_succ_cons, last_get, last_set, take_app, mid_get, mid_set, mid_get1, mid_set1, app_app1, lim_rows, ofRows_snoc, List.append_assoc, Int.zero_add, pf_in, pf_nin, pf_inL, pf_ninL, pf_eqRow, pf_neRow, pf_eqRows, pf_eqInts, pf_sumI, pf_tupT, pf_lst, pf_lstL, pf_rev, pf_isN, pf_notN, isNone, pf_isB, pf_notB, slT_T, slT_L, slF_T, slF_L, slT_last, ofInts_take, ofInts_drop, ofRows_take, ofRows_drop, pf_tupL, pf_srtT, pf_srtL, pf_addT, pf_addL, ofInts_len, ofRows_len, ofInts_app, pf_allP, pf_anyP, raF]) ?_
  clear em
  obtain ⟨m, bs, s, d1, e2, E'⟩ := law_election 17 (dx d 12) [] many 7 (by omega) (by omega) (by decide) (by decide)
  have e2 : R 19 17 [.r 0, .d (.int many), .d (.int 7)] [(dx d 12).mo] = .ok (.d (elOf m bs s)) [d1.mo] := e2
  have E := Elc_of E' (by omega) (by decide)
  have hm : m ≤ 6 := by have := E'.m2; omega
  have hl : bs.length ≤ 7 := by have := E'.l2; omega
  clear E'
  refine lstep (e1 := [some (.s ns), some (.r 0), some (.d (.int many)), some (.d (elOf m bs s)), none, none, none, none, none]) (h1 := [d1.mo]) (by simp (disch := (first | exact dv_nn _ _ | (exact dv_lt _ (by omega)) | ((try simp only [ofInts_len, ofRows_len, rngI_len, List.length_append, List.length_cons, List.length_nil, List.length_map, isort_len]); omega))) only [e2, bvN, bvC, svE, svS, svPr, svSt, svIf, svRe, svRn, svRa, svTr, evV, evK, evG, evP, evS3, evCh, evNt, evBo, evFi, evTu, evLi, evCa, evMe, evsN, evsC, evbN, evbC, bindOk, toSOk, thenNx, thenRt, thenEx, ttB, snaps, snap, mkR, Mn.fresh, setT, datas, pars, meD, stD, itV, itD, seqOf, List.getElem?_cons_zero, List.getElem?_cons_succ, List.getElem?_nil, List.set_cons_zero, List.set_cons_succ, Option.map_some, Option.map_none, Bool.false_eq_true, if_false, if_true, List.length_cons, List.length_nil, Nat.zero_add, Nat.reduceAdd, List.map_cons, List.map_nil, eq_self, decide_true, decide_false, Bool.not_true, Bool.not_false, beq_self_eq_true, Int.reduceToNat, List.replicate_succ, List.replicate_zero, List.cons_append, List.nil_append, brcB, brcX, brcIte, thenIte, finIte, toSIte, bindIte, finRt, finNx, finX, toSX, bindX, evl_eq, calmOk, lim0, lim1, lim2, lim3, lim4, lim_map, lim_ints, mapA_map, mapA_ints, mapA_pure, mapA_ite, same_d, same_s, same_n, andC, orC, ints_map, ints_id, ints_int, List.take_length, tf, ft, Tg.slots, wpE, Int.cast_ofNat_Int, Int.reduceEq, Int.reduceLT, Int.reduceLE, Nat.reduceLT, Nat.reduceLeDiff, Bool.and_true, Bool.true_and, Bool.false_and, Bool.and_false, Bool.or_true, Bool.true_or, Bool.or_false, Bool.false_or, ofInts_snoc, List.append_nil, isort_len, pf_add, pf_sub, pf_eqI, pf_neI, pf_ltI, pf_gtI, pf_leI, pf_geI, pf_lenL, pf_lenT, pf_int, pf_abs, pf_neg, pf_min, pf_max, ix0T, ix1T, ix2T, ix3T, ix0L, ix1L, ix2L, rngD_I, List.take_succ_cons, last_get, last_set, take_app, mid_get, mid_set, mid_get1, mid_set1, app_app1, lim_rows, ofRows_snoc, List.append_assoc, Int.zero_add, pf_in, pf_nin, pf_inL, pf_ninL, pf_eqRow, pf_neRow, pf_eqRows, pf_eqInts, pf_sumI, pf_tupT, pf_lst, pf_lstL, pf_rev, pf_isN, pf_notN, isNone, pf_isB, pf_notB, slT_T, slT_L, slF_T, slF_L, slT_last, ofInts_take, ofInts_drop, ofRows_take, ofRows_drop, pf_tupL, pf_srtT, pf_srtL, pf_addT, pf_addL, ofInts_len, ofRows_len, ofInts_app, pf_allP, pf_anyP, raF]) ?_
  obtain ⟨m2, b2, s2, d2, e3, E2, hl2, hm2⟩ := law_other 16 d1 [] E hm hl
  have e3 : R 19 23 [.r 0, .d (elOf m bs s)] [d1.mo] = .ok (.d (elOf m2 b2 s2)) [d2.mo] := e3
  refine lstep (e1 := [some (.s ns), some (.r 0), some (.d (.int many)), some (.d (elOf m bs s)), some (.d (elOf m2 b2 s2)), none, none, none, none]) (h1 := [d2.mo]) (by simp (disch := (first | exact dv_nn _ _ | (exact dv_lt _ (by omega)) | ((try simp only [ofInts_len, ofRows_len, rngI_len, List.length_append, List.length_cons, List.length_nil, List.length_map, isort_len]); omega))) only [e3, bvN, bvC, svE, svS, svPr, svSt, svIf, svRe, svRn, svRa, svTr, evV, evK, evG, evP, evS3, evCh, evNt, evBo, evFi, evTu, evLi, evCa, evMe, evsN, evsC, evbN, evbC, bindOk, toSOk, thenNx, thenRt, thenEx, ttB, snaps, snap, mkR, Mn.fresh, setT, datas, pars, meD, stD, itV, itD, seqOf, List.getElem?_cons_zero, List.getElem?_cons_succ, List.getElem?_nil, List.set_cons_zero, List.set_cons_succ, Option.map_some, Option.map_none, Bool.false_eq_true, if_false, if_true, List.length_cons, List.length_nil, Nat.zero_add, Nat.reduceAdd, List.map_cons, List.map_nil, eq_self, decide_true, decide_false, Bool.not_true, Bool.not_false, beq_self_eq_true, Int.reduceToNat, List.replicate_succ, List.replicate_zero, List.cons_append, List.nil_append, brcB, brcX, brcIte, thenIte, finIte, toSIte, bindIte, finRt, finNx, finX, toSX, bindX, evl_eq, calmOk, lim0, lim1, lim2, lim3, lim4, lim_map, lim_ints, mapA_map, mapA_ints, mapA_pure, mapA_ite, same_d, same_s, same_n, andC, orC, ints_map, ints_id, ints_int, List.take_length, tf, ft, Tg.slots, wpE, Int.cast_ofNat_Int, Int.reduceEq, Int.reduceLT, Int.reduceLE, Nat.reduceLT, Nat.reduceLeDiff, Bool.and_true, Bool.true_and, Bool.false_and, Bool.and_false, Bool.or_true, Bool.true_or, Bool.or_false, Bool.false_or, ofInts_snoc, List.append_nil, isort_len, pf_add, pf_sub, pf_eqI, pf_neI, pf_ltI, pf_gtI, pf_leI, pf_geI, pf_lenL, pf_lenT, pf_int, pf_abs, pf_neg, pf_min, pf_max, ix0T, ix1T, ix2T, ix3T, ix0L, ix1L, ix2L, rngD_I, List.take_succ_cons, last_get, last_set, take_app, mid_get, mid_set, mid_get1, mid_set1, app_app1, lim_rows, ofRows_snoc, List.append_assoc, Int.zero_add, pf_in, pf_nin, pf_inL, pf_ninL, pf_eqRow, pf_neRow, pf_eqRows, pf_eqInts, pf_sumI, pf_tupT, pf_lst, pf_lstL, pf_rev, pf_isN, pf_notN, isNone, pf_isB, pf_notB, slT_T, slT_L, slF_T, slF_L, slT_last, ofInts_take, ofInts_drop, ofRows_take, ofRows_drop, pf_tupL, pf_srtT, pf_srtL, pf_addT, pf_addL, ofInts_len, ofRows_len, ofInts_app, pf_allP, pf_anyP, raF]) ?_
  have e4 : ∀ h, R 19 21 [.d (elOf m bs s)] h = .ok (.d (elOf m (codeT m bs) s)) h := fun h => law_code 17 E hm h
  refine lstep (e1 := [some (.s ns), some (.r 0), some (.d (.int many)), some (.d (elOf m bs s)), some (.d (elOf m2 b2 s2)), some (.d (elOf m (codeT m bs) s)), none, none, none]) (h1 := [d2.mo]) (by simp (disch := (first | exact dv_nn _ _ | (exact dv_lt _ (by omega)) | ((try simp only [ofInts_len, ofRows_len, rngI_len, List.length_append, List.length_cons, List.length_nil, List.length_map, isort_len]); omega))) only [e4, bvN, bvC, svE, svS, svPr, svSt, svIf, svRe, svRn, svRa, svTr, evV, evK, evG, evP, evS3, evCh, evNt, evBo, evFi, evTu, evLi, evCa, evMe, evsN, evsC, evbN, evbC, bindOk, toSOk, thenNx, thenRt, thenEx, ttB, snaps, snap, mkR, Mn.fresh, setT, datas, pars, meD, stD, itV, itD, seqOf, List.getElem?_cons_zero, List.getElem?_cons_succ, List.getElem?_nil, List.set_cons_zero, List.set_cons_succ, Option.map_some, Option.map_none, Bool.false_eq_true, if_false, if_true, List.length_cons, List.length_nil, Nat.zero_add, Nat.reduceAdd, List.map_cons, List.map_nil, eq_self, decide_true, decide_false, Bool.not_true, Bool.not_false, beq_self_eq_true, Int.reduceToNat, List.replicate_succ, List.replicate_zero, List.cons_append, List.nil_append, brcB, brcX, brcIte, thenIte, finIte, toSIte, bindIte, finRt, finNx, finX, toSX, bindX, evl_eq, calmOk, lim0, lim1, lim2, lim3, lim4, lim_map, lim_ints, mapA_map, mapA_ints, mapA_pure, mapA_ite, same_d, same_s, same_n, andC, orC, ints_map, ints_id, ints_int, List.take_length, tf, ft, Tg.slots, wpE, Int.cast_ofNat_Int, Int.reduceEq, Int.reduceLT, Int.reduceLE, Nat.reduceLT, Nat.reduceLeDiff, Bool.and_true, Bool.true_and, Bool.false_and, Bool.and_false, Bool.or_true, Bool.true_or, Bool.or_false, Bool.false_or, ofInts_snoc, List.append_nil, isort_len, pf_add, pf_sub, pf_eqI, pf_neI, pf_ltI, pf_gtI, pf_leI, pf_geI, pf_lenL, pf_lenT, pf_int, pf_abs, pf_neg, pf_min, pf_max, ix0T, ix1T, ix2T, ix3T, ix0L, ix1L, ix2L, rngD_I, List.take_succ_cons, last_get, last_set, take_app, mid_get, mid_set, mid_get1, mid_set1, app_app1, lim_rows, ofRows_snoc, List.append_assoc, Int.zero_add, pf_in, pf_nin, pf_inL, pf_ninL, pf_eqRow, pf_neRow, pf_eqRows, pf_eqInts, pf_sumI, pf_tupT, pf_lst, pf_lstL, pf_rev, pf_isN, pf_notN, isNone, pf_isB, pf_notB, slT_T, slT_L, slF_T, slF_L, slT_last, ofInts_take, ofInts_drop, ofRows_take, ofRows_drop, pf_tupL, pf_srtT, pf_srtL, pf_addT, pf_addL, ofInts_len, ofRows_len, ofInts_app, pf_allP, pf_anyP, raF]) ?_
  have EC := E.code
  have cl := (codeT_ok (m := m) (by have := E.m1; omega) E.rows).2
  have t0 : ∀ v h, R 19 24 [.d (.int 0), .d (elOf m bs s), .d v] h = .ok (.d (elOf m (codeT m bs) s)) h := fun v h => told0 13 E hm v h
  have t0c : ∀ v h, R 19 24 [.d (.int 0), .d (elOf m (codeT m bs) s), .d v] h = .ok (.d (elOf m (codeT m bs) s)) h := fun v h => by
    have := told0 13 EC hm v h
    rw [codeT_code (by have := E.m1; omega) E.rows] at this
    exact this
  have rc := pf_repr (EC.gd (by omega)) (by decide) (by decide)
  refine lstep (e1 := [some (.s ns), some (.r 0), some (.d (.int many)), some (.d (elOf m bs s)), some (.d (elOf m2 b2 s2)), some (.d (elOf m (codeT m bs) s)), none, none, none]) (h1 := [d2.mo]) (by simp (disch := (first | exact dv_nn _ _ | (exact dv_lt _ (by omega)) | ((try simp only [ofInts_len, ofRows_len, rngI_len, List.length_append, List.length_cons, List.length_nil, List.length_map, isort_len]); omega))) only [t0, t0c, rc, pf_neS, bvN, bvC, svE, svS, svPr, svSt, svIf, svRe, svRn, svRa, svTr, evV, evK, evG, evP, evS3, evCh, evNt, evBo, evFi, evTu, evLi, evCa, evMe, evsN, evsC, evbN, evbC, bindOk, toSOk, thenNx, thenRt, thenEx, ttB, snaps, snap, mkR, Mn.fresh, setT, datas, pars, meD, stD, itV, itD, seqOf, List.getElem?_cons_zero, List.getElem?_cons_succ, List.getElem?_nil, List.set_cons_zero, List.set_cons_succ, Option.map_some, Option.map_none, Bool.false_eq_true, if_false, if_true, List.length_cons, List.length_nil, Nat.zero_add, Nat.reduceAdd, List.map_cons, List.map_nil, eq_self, decide_true, decide_false, Bool.not_true, Bool.not_false, beq_self_eq_true, Int.reduceToNat, List.replicate_succ, List.replicate_zero, List.cons_append, List.nil_append, brcB, brcX, brcIte, thenIte, finIte, toSIte, bindIte, finRt, finNx, finX, toSX, bindX, evl_eq, calmOk, lim0, lim1, lim2, lim3, lim4, lim_map, lim_ints, mapA_map, mapA_ints, mapA_pure, mapA_ite, same_d, same_s, same_n, andC, orC, ints_map, ints_id, ints_int, List.take_length, tf, ft, Tg.slots, wpE, Int.cast_ofNat_Int, Int.reduceEq, Int.reduceLT, Int.reduceLE, Nat.reduceLT, Nat.reduceLeDiff, Bool.and_true, Bool.true_and, Bool.false_and, Bool.and_false, Bool.or_true, Bool.true_or, Bool.or_false, Bool.false_or, ofInts_snoc, List.append_nil, isort_len, pf_add, pf_sub, pf_eqI, pf_neI, pf_ltI, pf_gtI, pf_leI, pf_geI, pf_lenL, pf_lenT, pf_int, pf_abs, pf_neg, pf_min, pf_max, ix0T, ix1T, ix2T, ix3T, ix0L, ix1L, ix2L, rngD_I, List.take_succ_cons, last_get, last_set, take_app, mid_get, mid_set, mid_get1, mid_set1, app_app1, lim_rows, ofRows_snoc, List.append_assoc, Int.zero_add, pf_in, pf_nin, pf_inL, pf_ninL, pf_eqRow, pf_neRow, pf_eqRows, pf_eqInts, pf_sumI, pf_tupT, pf_lst, pf_lstL, pf_rev, pf_isN, pf_notN, isNone, pf_isB, pf_notB, slT_T, slT_L, slF_T, slF_L, slT_last, ofInts_take, ofInts_drop, ofRows_take, ofRows_drop, pf_tupL, pf_srtT, pf_srtL, pf_addT, pf_addL, ofInts_len, ofRows_len, ofInts_app, pf_allP, pf_anyP, raF]) ?_
  have e5 : ∀ h, R 19 22 [.d (elOf m bs s), .d (elOf m2 b2 s2)] h = .ok (.d (alikeD m s bs m2 s2 b2)) h := fun h => law_alike 17 E E2 hm h
  refine lstep (e1 := [some (.s ns), some (.r 0), some (.d (.int many)), some (.d (elOf m bs s)), some (.d (elOf m2 b2 s2)), some (.d (elOf m (codeT m bs) s)), some (.d (alikeD m s bs m2 s2 b2)), none, none]) (h1 := [d2.mo]) (by simp (disch := (first | exact dv_nn _ _ | (exact dv_lt _ (by omega)) | ((try simp only [ofInts_len, ofRows_len, rngI_len, List.length_append, List.length_cons, List.length_nil, List.length_map, isort_len]); omega))) only [e5, bvN, bvC, svE, svS, svPr, svSt, svIf, svRe, svRn, svRa, svTr, evV, evK, evG, evP, evS3, evCh, evNt, evBo, evFi, evTu, evLi, evCa, evMe, evsN, evsC, evbN, evbC, bindOk, toSOk, thenNx, thenRt, thenEx, ttB, snaps, snap, mkR, Mn.fresh, setT, datas, pars, meD, stD, itV, itD, seqOf, List.getElem?_cons_zero, List.getElem?_cons_succ, List.getElem?_nil, List.set_cons_zero, List.set_cons_succ, Option.map_some, Option.map_none, Bool.false_eq_true, if_false, if_true, List.length_cons, List.length_nil, Nat.zero_add, Nat.reduceAdd, List.map_cons, List.map_nil, eq_self, decide_true, decide_false, Bool.not_true, Bool.not_false, beq_self_eq_true, Int.reduceToNat, List.replicate_succ, List.replicate_zero, List.cons_append, List.nil_append, brcB, brcX, brcIte, thenIte, finIte, toSIte, bindIte, finRt, finNx, finX, toSX, bindX, evl_eq, calmOk, lim0, lim1, lim2, lim3, lim4, lim_map, lim_ints, mapA_map, mapA_ints, mapA_pure, mapA_ite, same_d, same_s, same_n, andC, orC, ints_map, ints_id, ints_int, List.take_length, tf, ft, Tg.slots, wpE, Int.cast_ofNat_Int, Int.reduceEq, Int.reduceLT, Int.reduceLE, Nat.reduceLT, Nat.reduceLeDiff, Bool.and_true, Bool.true_and, Bool.false_and, Bool.and_false, Bool.or_true, Bool.true_or, Bool.or_false, Bool.false_or, ofInts_snoc, List.append_nil, isort_len, pf_add, pf_sub, pf_eqI, pf_neI, pf_ltI, pf_gtI, pf_leI, pf_geI, pf_lenL, pf_lenT, pf_int, pf_abs, pf_neg, pf_min, pf_max, ix0T, ix1T, ix2T, ix3T, ix0L, ix1L, ix2L, rngD_I, List.take_succ_cons, last_get, last_set, take_app, mid_get, mid_set, mid_get1, mid_set1, app_app1, lim_rows, ofRows_snoc, List.append_assoc, Int.zero_add, pf_in, pf_nin, pf_inL, pf_ninL, pf_eqRow, pf_neRow, pf_eqRows, pf_eqInts, pf_sumI, pf_tupT, pf_lst, pf_lstL, pf_rev, pf_isN, pf_notN, isNone, pf_isB, pf_notB, slT_T, slT_L, slF_T, slF_L, slT_last, ofInts_take, ofInts_drop, ofRows_take, ofRows_drop, pf_tupL, pf_srtT, pf_srtL, pf_addT, pf_addL, ofInts_len, ofRows_len, ofInts_app, pf_allP, pf_anyP, raF]) ?_
  have t1 : ∀ h, R 19 24 [.d (.int 1), .d (elOf m bs s), .d (elOf m2 b2 s2)] h = .ok (.d (alikeD m s bs m2 s2 b2)) h := fun h => told1 12 E E2 hm h
  have ra := pf_repr (gd_alikeD (m2 := m2) (s2 := s2) (b2 := b2) E) (by decide) (by decide)
  refine lstep (e1 := [some (.s ns), some (.r 0), some (.d (.int many)), some (.d (elOf m bs s)), some (.d (elOf m2 b2 s2)), some (.d (elOf m (codeT m bs) s)), some (.d (alikeD m s bs m2 s2 b2)), none, none]) (h1 := [d2.mo]) (by simp (disch := (first | exact dv_nn _ _ | (exact dv_lt _ (by omega)) | ((try simp only [ofInts_len, ofRows_len, rngI_len, List.length_append, List.length_cons, List.length_nil, List.length_map, isort_len]); omega))) only [t1, ra, pf_neS, bvN, bvC, svE, svS, svPr, svSt, svIf, svRe, svRn, svRa, svTr, evV, evK, evG, evP, evS3, evCh, evNt, evBo, evFi, evTu, evLi, evCa, evMe, evsN, evsC, evbN, evbC, bindOk, toSOk, thenNx, thenRt, thenEx, ttB, snaps, snap, mkR, Mn.fresh, setT, datas, pars, meD, stD, itV, itD, seqOf, List.getElem?_cons_zero, List.getElem?_cons_succ, List.getElem?_nil, List.set_cons_zero, List.set_cons_succ, Option.map_some, Option.map_none, Bool.false_eq_true, if_false, if_true, List.length_cons, List.length_nil, Nat.zero_add, Nat.reduceAdd, List.map_cons, List.map_nil, eq_self, decide_true, decide_false, Bool.not_true, Bool.not_false, beq_self_eq_true, Int.reduceToNat, List.replicate_succ, List.replicate_zero, List.cons_append, List.nil_append, brcB, brcX, brcIte, thenIte, finIte, toSIte, bindIte, finRt, finNx, finX, toSX, bindX, evl_eq, calmOk, lim0, lim1, lim2, lim3, lim4, lim_map, lim_ints, mapA_map, mapA_ints, mapA_pure, mapA_ite, same_d, same_s, same_n, andC, orC, ints_map, ints_id, ints_int, List.take_length, tf, ft, Tg.slots, wpE, Int.cast_ofNat_Int, Int.reduceEq, Int.reduceLT, Int.reduceLE, Nat.reduceLT, Nat.reduceLeDiff, Bool.and_true, Bool.true_and, Bool.false_and, Bool.and_false, Bool.or_true, Bool.true_or, Bool.or_false, Bool.false_or, ofInts_snoc, List.append_nil, isort_len, pf_add, pf_sub, pf_eqI, pf_neI, pf_ltI, pf_gtI, pf_leI, pf_geI, pf_lenL, pf_lenT, pf_int, pf_abs, pf_neg, pf_min, pf_max, ix0T, ix1T, ix2T, ix3T, ix0L, ix1L, ix2L, rngD_I, List.take_succ_cons, last_get, last_set, take_app, mid_get, mid_set, mid_get1, mid_set1, app_app1, lim_rows, ofRows_snoc, List.append_assoc, Int.zero_add, pf_in, pf_nin, pf_inL, pf_ninL, pf_eqRow, pf_neRow, pf_eqRows, pf_eqInts, pf_sumI, pf_tupT, pf_lst, pf_lstL, pf_rev, pf_isN, pf_notN, isNone, pf_isB, pf_notB, slT_T, slT_L, slF_T, slF_L, slT_last, ofInts_take, ofInts_drop, ofRows_take, ofRows_drop, pf_tupL, pf_srtT, pf_srtL, pf_addT, pf_addL, ofInts_len, ofRows_len, ofInts_app, pf_allP, pf_anyP, raF]) ?_
  have an := alikeD_none E E2
  refine lstep (e1 := [some (.s ns), some (.r 0), some (.d (.int many)), some (.d (elOf m bs s)), some (.d (elOf m2 b2 s2)), some (.d (elOf m (codeT m bs) s)), some (.d (alikeD m s bs m2 s2 b2)), none, none]) (h1 := [d2.mo]) (by
    by_cases hz : m2 ≤ 6
    · have t2 : ∀ v h, R 19 24 [.d (.int 0), .d (elOf m2 b2 s2), .d v] h = .ok (.d (elOf m2 (codeT m2 b2) s2)) h := fun v h => told0 13 E2 hz v h
      have cl2 := (codeT_ok (m := m2) (by have := E2.m1; omega) E2.rows).2
      have eq := pf_eqD (E2.code.gd (by omega)) (EC.gd (by omega)) (by decide) (by decide)
      rw [eqv_el] at eq
      have nb : ∀ b : Bool, pf .ne [.bool b, .bool b] = some (.bool false) := fun b => by cases b <;> rfl
      have an' : pf .notN [alikeD m s bs m2 s2 b2] = some (.bool (decide (m2 = m ∧ codeT m2 b2 = codeT m bs ∧ s2 = s))) := by rw [pf_notN, an, Bool.not_not]
      simp (disch := (first | exact dv_nn _ _ | (exact dv_lt _ (by omega)) | ((try simp only [ofInts_len, ofRows_len, rngI_len, List.length_append, List.length_cons, List.length_nil, List.length_map, isort_len]); omega))) only [hz, t2, eq, an', nb, bvN, bvC, svE, svS, svPr, svSt, svIf, svRe, svRn, svRa, svTr, evV, evK, evG, evP, evS3, evCh, evNt, evBo, evFi, evTu, evLi, evCa, evMe, evsN, evsC, evbN, evbC, bindOk, toSOk, thenNx, thenRt, thenEx, ttB, snaps, snap, mkR, Mn.fresh, setT, datas, pars, meD, stD, itV, itD, seqOf, List.getElem?_cons_zero, List.getElem?_cons_succ, List.getElem?_nil, List.set_cons_zero, List.set_cons_succ, Option.map_some, Option.map_none, Bool.false_eq_true, if_false, if_true, List.length_cons, List.length_nil, Nat.zero_add, Nat.reduceAdd, List.map_cons, List.map_nil, eq_self, decide_true, decide_false, Bool.not_true, Bool.not_false, beq_self_eq_true, Int.reduceToNat, List.replicate_succ, List.replicate_zero, List.cons_append, List.nil_append, brcB, brcX, brcIte, thenIte, finIte, toSIte, bindIte, finRt, finNx, finX, toSX, bindX, evl_eq, calmOk, lim0, lim1, lim2, lim3, lim4, lim_map, lim_ints, mapA_map, mapA_ints, mapA_pure, mapA_ite, same_d, same_s, same_n, andC, orC, ints_map, ints_id, ints_int, List.take_length, tf, ft, Tg.slots, wpE, Int.cast_ofNat_Int, Int.reduceEq, Int.reduceLT, Int.reduceLE, Nat.reduceLT, Nat.reduceLeDiff, Bool.and_true, Bool.true_and, Bool.false_and, Bool.and_false, Bool.or_true, Bool.true_or, Bool.or_false, Bool.false_or, ofInts_snoc, List.append_nil, isort_len, pf_add, pf_sub, pf_eqI, pf_neI, pf_ltI, pf_gtI, pf_leI, pf_geI, pf_lenL, pf_lenT, pf_int, pf_abs, pf_neg, pf_min, pf_max, ix0T, ix1T, ix2T, ix3T, ix0L, ix1L, ix2L, rngD_I, List.take_succ_cons, last_get, last_set, take_app, mid_get, mid_set, mid_get1, mid_set1, app_app1, lim_rows, ofRows_snoc, List.append_assoc, Int.zero_add, pf_in, pf_nin, pf_inL, pf_ninL, pf_eqRow, pf_neRow, pf_eqRows, pf_eqInts, pf_sumI, pf_tupT, pf_lst, pf_lstL, pf_rev, pf_isN, pf_notN, isNone, pf_isB, pf_notB, slT_T, slT_L, slF_T, slF_L, slT_last, ofInts_take, ofInts_drop, ofRows_take, ofRows_drop, pf_tupL, pf_srtT, pf_srtL, pf_addT, pf_addL, ofInts_len, ofRows_len, ofInts_app, pf_allP, pf_anyP, raF]
    · simp (disch := (first | exact dv_nn _ _ | (exact dv_lt _ (by omega)) | ((try simp only [ofInts_len, ofRows_len, rngI_len, List.length_append, List.length_cons, List.length_nil, List.length_map, isort_len]); omega))) only [hz, bvN, bvC, svE, svS, svPr, svSt, svIf, svRe, svRn, svRa, svTr, evV, evK, evG, evP, evS3, evCh, evNt, evBo, evFi, evTu, evLi, evCa, evMe, evsN, evsC, evbN, evbC, bindOk, toSOk, thenNx, thenRt, thenEx, ttB, snaps, snap, mkR, Mn.fresh, setT, datas, pars, meD, stD, itV, itD, seqOf, List.getElem?_cons_zero, List.getElem?_cons_succ, List.getElem?_nil, List.set_cons_zero, List.set_cons_succ, Option.map_some, Option.map_none, Bool.false_eq_true, if_false, if_true, List.length_cons, List.length_nil, Nat.zero_add, Nat.reduceAdd, List.map_cons, List.map_nil, eq_self, decide_true, decide_false, Bool.not_true, Bool.not_false, beq_self_eq_true, Int.reduceToNat, List.replicate_succ, List.replicate_zero, List.cons_append, List.nil_append, brcB, brcX, brcIte, thenIte, finIte, toSIte, bindIte, finRt, finNx, finX, toSX, bindX, evl_eq, calmOk, lim0, lim1, lim2, lim3, lim4, lim_map, lim_ints, mapA_map, mapA_ints, mapA_pure, mapA_ite, same_d, same_s, same_n, andC, orC, ints_map, ints_id, ints_int, List.take_length, tf, ft, Tg.slots, wpE, Int.cast_ofNat_Int, Int.reduceEq, Int.reduceLT, Int.reduceLE, Nat.reduceLT, Nat.reduceLeDiff, Bool.and_true, Bool.true_and, Bool.false_and, Bool.and_false, Bool.or_true, Bool.true_or, Bool.or_false, Bool.false_or, ofInts_snoc, List.append_nil, isort_len, pf_add, pf_sub, pf_eqI, pf_neI, pf_ltI, pf_gtI, pf_leI, pf_geI, pf_lenL, pf_lenT, pf_int, pf_abs, pf_neg, pf_min, pf_max, ix0T, ix1T, ix2T, ix3T, ix0L, ix1L, ix2L, rngD_I, List.take_succ_cons, last_get, last_set, take_app, mid_get, mid_set, mid_get1, mid_set1, app_app1, lim_rows, ofRows_snoc, List.append_assoc, Int.zero_add, pf_in, pf_nin, pf_inL, pf_ninL, pf_eqRow, pf_neRow, pf_eqRows, pf_eqInts, pf_sumI, pf_tupT, pf_lst, pf_lstL, pf_rev, pf_isN, pf_notN, isNone, pf_isB, pf_notB, slT_T, slT_L, slF_T, slF_L, slT_last, ofInts_take, ofInts_drop, ofRows_take, ofRows_drop, pf_tupL, pf_srtT, pf_srtL, pf_addT, pf_addL, ofInts_len, ofRows_len, ofInts_app, pf_allP, pf_anyP, raF]) ?_
  refine lstep (e1 := [some (.s ns), some (.r 0), some (.d (.int many)), some (.d (elOf m bs s)), some (.d (elOf m2 b2 s2)), some (.d (elOf m (codeT m bs) s)), some (.d (alikeD m s bs m2 s2 b2)), none, none]) (h1 := [d2.mo]) (by
    rcases alikeD_is m s m2 s2 bs b2 with ⟨ea, _⟩ | ⟨p, rfl, rfl, hp, ep, ea⟩
    · rw [ea]; simp (disch := (first | exact dv_nn _ _ | (exact dv_lt _ (by omega)) | ((try simp only [ofInts_len, ofRows_len, rngI_len, List.length_append, List.length_cons, List.length_nil, List.length_map, isort_len]); omega))) only [pf_notN, show isNone PyData.none = true from rfl, bvN, bvC, svE, svS, svPr, svSt, svIf, svRe, svRn, svRa, svTr, evV, evK, evG, evP, evS3, evCh, evNt, evBo, evFi, evTu, evLi, evCa, evMe, evsN, evsC, evbN, evbC, bindOk, toSOk, thenNx, thenRt, thenEx, ttB, snaps, snap, mkR, Mn.fresh, setT, datas, pars, meD, stD, itV, itD, seqOf, List.getElem?_cons_zero, List.getElem?_cons_succ, List.getElem?_nil, List.set_cons_zero, List.set_cons_succ, Option.map_some, Option.map_none, Bool.false_eq_true, if_false, if_true, List.length_cons, List.length_nil, Nat.zero_add, Nat.reduceAdd, List.map_cons, List.map_nil, eq_self, decide_true, decide_false, Bool.not_true, Bool.not_false, beq_self_eq_true, Int.reduceToNat, List.replicate_succ, List.replicate_zero, List.cons_append, List.nil_append, brcB, brcX, brcIte, thenIte, finIte, toSIte, bindIte, finRt, finNx, finX, toSX, bindX, evl_eq, calmOk, lim0, lim1, lim2, lim3, lim4, lim_map, lim_ints, mapA_map, mapA_ints, mapA_pure, mapA_ite, same_d, same_s, same_n, andC, orC, ints_map, ints_id, ints_int, List.take_length, tf, ft, Tg.slots, wpE, Int.cast_ofNat_Int, Int.reduceEq, Int.reduceLT, Int.reduceLE, Nat.reduceLT, Nat.reduceLeDiff, Bool.and_true, Bool.true_and, Bool.false_and, Bool.and_false, Bool.or_true, Bool.true_or, Bool.or_false, Bool.false_or, ofInts_snoc, List.append_nil, isort_len, pf_add, pf_sub, pf_eqI, pf_neI, pf_ltI, pf_gtI, pf_leI, pf_geI, pf_lenL, pf_lenT, pf_int, pf_abs, pf_neg, pf_min, pf_max, ix0T, ix1T, ix2T, ix3T, ix0L, ix1L, ix2L, rngD_I, List.take_succ_cons, last_get, last_set, take_app, mid_get, mid_set, mid_get1, mid_set1, app_app1, lim_rows, ofRows_snoc, List.append_assoc, Int.zero_add, pf_in, pf_nin, pf_inL, pf_ninL, pf_eqRow, pf_neRow, pf_eqRows, pf_eqInts, pf_sumI, pf_tupT, pf_lst, pf_lstL, pf_rev, pf_isN, pf_notN, isNone, pf_isB, pf_notB, slT_T, slT_L, slF_T, slF_L, slT_last, ofInts_take, ofInts_drop, ofRows_take, ofRows_drop, pf_tupL, pf_srtT, pf_srtL, pf_addT, pf_addL, ofInts_len, ofRows_len, ofInts_app, pf_allP, pf_anyP, raF]
    · have rn : ∀ h, R 19 9 [.d (elOf m bs s), .d (namesD bs b2 p)] h = .ok (.d (elOf m b2 s)) h := fun h => renamed_to E hp ep 13 h
      have ne := pf_neD (E2.gd (by omega)) (E2.gd (by omega)) (by decide) (by decide)
      rw [eqv_el, decide_eq_true ⟨rfl, rfl, rfl⟩] at ne
      rw [ea]; simp (disch := (first | exact dv_nn _ _ | (exact dv_lt _ (by omega)) | ((try simp only [ofInts_len, ofRows_len, rngI_len, List.length_append, List.length_cons, List.length_nil, List.length_map, isort_len]); omega))) only [pf_notN, show isNone (namesD bs b2 p) = false from rfl, rn, ne, bvN, bvC, svE, svS, svPr, svSt, svIf, svRe, svRn, svRa, svTr, evV, evK, evG, evP, evS3, evCh, evNt, evBo, evFi, evTu, evLi, evCa, evMe, evsN, evsC, evbN, evbC, bindOk, toSOk, thenNx, thenRt, thenEx, ttB, snaps, snap, mkR, Mn.fresh, setT, datas, pars, meD, stD, itV, itD, seqOf, List.getElem?_cons_zero, List.getElem?_cons_succ, List.getElem?_nil, List.set_cons_zero, List.set_cons_succ, Option.map_some, Option.map_none, Bool.false_eq_true, if_false, if_true, List.length_cons, List.length_nil, Nat.zero_add, Nat.reduceAdd, List.map_cons, List.map_nil, eq_self, decide_true, decide_false, Bool.not_true, Bool.not_false, beq_self_eq_true, Int.reduceToNat, List.replicate_succ, List.replicate_zero, List.cons_append, List.nil_append, brcB, brcX, brcIte, thenIte, finIte, toSIte, bindIte, finRt, finNx, finX, toSX, bindX, evl_eq, calmOk, lim0, lim1, lim2, lim3, lim4, lim_map, lim_ints, mapA_map, mapA_ints, mapA_pure, mapA_ite, same_d, same_s, same_n, andC, orC, ints_map, ints_id, ints_int, List.take_length, tf, ft, Tg.slots, wpE, Int.cast_ofNat_Int, Int.reduceEq, Int.reduceLT, Int.reduceLE, Nat.reduceLT, Nat.reduceLeDiff, Bool.and_true, Bool.true_and, Bool.false_and, Bool.and_false, Bool.or_true, Bool.true_or, Bool.or_false, Bool.false_or, ofInts_snoc, List.append_nil, isort_len, pf_add, pf_sub, pf_eqI, pf_neI, pf_ltI, pf_gtI, pf_leI, pf_geI, pf_lenL, pf_lenT, pf_int, pf_abs, pf_neg, pf_min, pf_max, ix0T, ix1T, ix2T, ix3T, ix0L, ix1L, ix2L, rngD_I, List.take_succ_cons, last_get, last_set, take_app, mid_get, mid_set, mid_get1, mid_set1, app_app1, lim_rows, ofRows_snoc, List.append_assoc, Int.zero_add, pf_in, pf_nin, pf_inL, pf_ninL, pf_eqRow, pf_neRow, pf_eqRows, pf_eqInts, pf_sumI, pf_tupT, pf_lst, pf_lstL, pf_rev, pf_isN, pf_notN, isNone, pf_isB, pf_notB, slT_T, slT_L, slF_T, slF_L, slT_last, ofInts_take, ofInts_drop, ofRows_take, ofRows_drop, pf_tupL, pf_srtT, pf_srtL, pf_addT, pf_addL, ofInts_len, ofRows_len, ofInts_app, pf_allP, pf_anyP, raF]) ?_
  have z0 := dv_nn d2 24
  have z1 := dv_lt d2 (many := 24) (by decide)
  have m1 := E.m1
  refine lstep (e1 := [some (.s ns), some (.r 0), some (.d (.int many)), some (.d (elOf m bs s)), some (.d (elOf m2 b2 s2)), some (.d (elOf m (codeT m bs) s)), some (.d (alikeD m s bs m2 s2 b2)), some (.d (elOf (7 + dv d2 24) bs s)), none]) (h1 := [(dx d2 24).mo]) (by simp (disch := (first | exact dv_nn _ _ | (exact dv_lt _ (by omega)) | ((try simp only [ofInts_len, ofRows_len, rngI_len, List.length_append, List.length_cons, List.length_nil, List.length_map, isort_len]); omega))) only [draw, bvN, bvC, svE, svS, svPr, svSt, svIf, svRe, svRn, svRa, svTr, evV, evK, evG, evP, evS3, evCh, evNt, evBo, evFi, evTu, evLi, evCa, evMe, evsN, evsC, evbN, evbC, bindOk, toSOk, thenNx, thenRt, thenEx, ttB, snaps, snap, mkR, Mn.fresh, setT, datas, pars, meD, stD, itV, itD, seqOf, List.getElem?_cons_zero, List.getElem?_cons_succ, List.getElem?_nil, List.set_cons_zero, List.set_cons_succ, Option.map_some, Option.map_none, Bool.false_eq_true, if_false, if_true, List.length_cons, List.length_nil, Nat.zero_add, Nat.reduceAdd, List.map_cons, List.map_nil, eq_self, decide_true, decide_false, Bool.not_true, Bool.not_false, beq_self_eq_true, Int.reduceToNat, List.replicate_succ, List.replicate_zero, List.cons_append, List.nil_append, brcB, brcX, brcIte, thenIte, finIte, toSIte, bindIte, finRt, finNx, finX, toSX, bindX, evl_eq, calmOk, lim0, lim1, lim2, lim3, lim4, lim_map, lim_ints, mapA_map, mapA_ints, mapA_pure, mapA_ite, same_d, same_s, same_n, andC, orC, ints_map, ints_id, ints_int, List.take_length, tf, ft, Tg.slots, wpE, Int.cast_ofNat_Int, Int.reduceEq, Int.reduceLT, Int.reduceLE, Nat.reduceLT, Nat.reduceLeDiff, Bool.and_true, Bool.true_and, Bool.false_and, Bool.and_false, Bool.or_true, Bool.true_or, Bool.or_false, Bool.false_or, ofInts_snoc, List.append_nil, isort_len, pf_add, pf_sub, pf_eqI, pf_neI, pf_ltI, pf_gtI, pf_leI, pf_geI, pf_lenL, pf_lenT, pf_int, pf_abs, pf_neg, pf_min, pf_max, ix0T, ix1T, ix2T, ix3T, ix0L, ix1L, ix2L, rngD_I, List.take_succ_cons, last_get, last_set, take_app, mid_get, mid_set, mid_get1, mid_set1, app_app1, lim_rows, ofRows_snoc, List.append_assoc, Int.zero_add, pf_in, pf_nin, pf_inL, pf_ninL, pf_eqRow, pf_neRow, pf_eqRows, pf_eqInts, pf_sumI, pf_tupT, pf_lst, pf_lstL, pf_rev, pf_isN, pf_notN, isNone, pf_isB, pf_notB, slT_T, slT_L, slF_T, slF_L, slT_last, ofInts_take, ofInts_drop, ofRows_take, ofRows_drop, pf_tupL, pf_srtT, pf_srtL, pf_addT, pf_addL, ofInts_len, ofRows_len, ofInts_app, pf_allP, pf_anyP, raF]) ?_
  have EL : Elc (7 + dv d2 24) bs s := ⟨by omega, by omega, E.s1, by have := E.s2; omega, E.l1, E.l2, fun b hb => ⟨(E.rows b hb).1, fun i hi => by have := (E.rows b hb).2 i hi; omega⟩⟩
  have ml : 6 < 7 + dv d2 24 := by omega
  generalize 7 + dv d2 24 = M at *
  have u0 : ∀ v h, R 19 24 [.d (.int 0), .d (elOf M bs s), .d v] h = .ok (.d (.str "large")) h := fun v h => told0L 13 EL ml v h
  have u1 : ∀ h, R 19 24 [.d (.int 1), .d (elOf M bs s), .d (elOf m bs s)] h = .ok (.d (.str "large")) h := fun h => told1L 12 EL E ml h
  have u2 : ∀ h, R 19 24 [.d (.int 1), .d (elOf m bs s), .d (elOf M bs s)] h = .ok (.d .none) h := fun h => by
    have := told1 12 E EL hm h
    rw [show alikeD m s bs M s bs = .none by unfold alikeD; rw [if_neg (by omega)]] at this
    exact this
  have ne3 : pf .ne [.list [.str "large", .str "large", .none], .list [.str "large", .str "large", .none]] = some (.bool false) := by
    have g : Gm 1 100 (.list [.str "large", .str "large", .none]) := ⟨by decide +kernel, by decide +kernel, by decide +kernel⟩
    rw [pf_neD g g (by decide) (by decide), eqv_self _ g.lf]; rfl
  refine lstep (e1 := [some (.s ns), some (.r 0), some (.d (.int many)), some (.d (elOf m bs s)), some (.d (elOf m2 b2 s2)), some (.d (elOf m (codeT m bs) s)), some (.d (alikeD m s bs m2 s2 b2)), some (.d (elOf M bs s)), none]) (h1 := [(dx d2 24).mo]) (by simp (disch := (first | exact dv_nn _ _ | (exact dv_lt _ (by omega)) | ((try simp only [ofInts_len, ofRows_len, rngI_len, List.length_append, List.length_cons, List.length_nil, List.length_map, isort_len]); omega))) only [u0, u1, u2, ne3, limC, bvN, bvC, svE, svS, svPr, svSt, svIf, svRe, svRn, svRa, svTr, evV, evK, evG, evP, evS3, evCh, evNt, evBo, evFi, evTu, evLi, evCa, evMe, evsN, evsC, evbN, evbC, bindOk, toSOk, thenNx, thenRt, thenEx, ttB, snaps, snap, mkR, Mn.fresh, setT, datas, pars, meD, stD, itV, itD, seqOf, List.getElem?_cons_zero, List.getElem?_cons_succ, List.getElem?_nil, List.set_cons_zero, List.set_cons_succ, Option.map_some, Option.map_none, Bool.false_eq_true, if_false, if_true, List.length_cons, List.length_nil, Nat.zero_add, Nat.reduceAdd, List.map_cons, List.map_nil, eq_self, decide_true, decide_false, Bool.not_true, Bool.not_false, beq_self_eq_true, Int.reduceToNat, List.replicate_succ, List.replicate_zero, List.cons_append, List.nil_append, brcB, brcX, brcIte, thenIte, finIte, toSIte, bindIte, finRt, finNx, finX, toSX, bindX, evl_eq, calmOk, lim0, lim1, lim2, lim3, lim4, lim_map, lim_ints, mapA_map, mapA_ints, mapA_pure, mapA_ite, same_d, same_s, same_n, andC, orC, ints_map, ints_id, ints_int, List.take_length, tf, ft, Tg.slots, wpE, Int.cast_ofNat_Int, Int.reduceEq, Int.reduceLT, Int.reduceLE, Nat.reduceLT, Nat.reduceLeDiff, Bool.and_true, Bool.true_and, Bool.false_and, Bool.and_false, Bool.or_true, Bool.true_or, Bool.or_false, Bool.false_or, ofInts_snoc, List.append_nil, isort_len, pf_add, pf_sub, pf_eqI, pf_neI, pf_ltI, pf_gtI, pf_leI, pf_geI, pf_lenL, pf_lenT, pf_int, pf_abs, pf_neg, pf_min, pf_max, ix0T, ix1T, ix2T, ix3T, ix0L, ix1L, ix2L, rngD_I, List.take_succ_cons, last_get, last_set, take_app, mid_get, mid_set, mid_get1, mid_set1, app_app1, lim_rows, ofRows_snoc, List.append_assoc, Int.zero_add, pf_in, pf_nin, pf_inL, pf_ninL, pf_eqRow, pf_neRow, pf_eqRows, pf_eqInts, pf_sumI, pf_tupT, pf_lst, pf_lstL, pf_rev, pf_isN, pf_notN, isNone, pf_isB, pf_notB, slT_T, slT_L, slF_T, slF_L, slT_last, ofInts_take, ofInts_drop, ofRows_take, ofRows_drop, pf_tupL, pf_srtT, pf_srtL, pf_addT, pf_addL, ofInts_len, ofRows_len, ofInts_app, pf_allP, pf_anyP, raF]) ?_
  have d0 := dv_nn (dx d2 24) 8
  have d8 := dv_lt (dx d2 24) (many := 8) (by decide)
  have ei : pf .ix [.list (oddL m s bs), .int (dv (dx d2 24) 8)] = some ((oddL m s bs).getD (dv (dx d2 24) 8).toNat .none) := ixLD _ _ d0 (by show _ < (8 : Int); exact d8)
  have on := oddL_no E (by omega) _ (getD_mem (xs := oddL m s bs) (dflt := .none) (i := (dv (dx d2 24) 8).toNat) (by simp only [oddL, List.length_cons, List.length_nil]; omega))
  unfold oddL at ei
  refine lstep (e1 := [some (.s ns), some (.r 0), some (.d (.int many)), some (.d (elOf m bs s)), some (.d (elOf m2 b2 s2)), some (.d (elOf m (codeT m bs) s)), some (.d (alikeD m s bs m2 s2 b2)), some (.d (elOf M bs s)), some (.d ((oddL m s bs).getD (dv (dx d2 24) 8).toNat .none))]) (h1 := [(dx (dx d2 24) 8).mo]) (by simp (disch := (first | exact dv_nn _ _ | (exact dv_lt _ (by omega)) | ((try simp only [ofInts_len, ofRows_len, rngI_len, List.length_append, List.length_cons, List.length_nil, List.length_map, isort_len]); omega))) only [draw, limC, pf_lst, ei, oddL, bvN, bvC, svE, svS, svPr, svSt, svIf, svRe, svRn, svRa, svTr, evV, evK, evG, evP, evS3, evCh, evNt, evBo, evFi, evTu, evLi, evCa, evMe, evsN, evsC, evbN, evbC, bindOk, toSOk, thenNx, thenRt, thenEx, ttB, snaps, snap, mkR, Mn.fresh, setT, datas, pars, meD, stD, itV, itD, seqOf, List.getElem?_cons_zero, List.getElem?_cons_succ, List.getElem?_nil, List.set_cons_zero, List.set_cons_succ, Option.map_some, Option.map_none, Bool.false_eq_true, if_false, if_true, List.length_cons, List.length_nil, Nat.zero_add, Nat.reduceAdd, List.map_cons, List.map_nil, eq_self, decide_true, decide_false, Bool.not_true, Bool.not_false, beq_self_eq_true, Int.reduceToNat, List.replicate_succ, List.replicate_zero, List.cons_append, List.nil_append, brcB, brcX, brcIte, thenIte, finIte, toSIte, bindIte, finRt, finNx, finX, toSX, bindX, evl_eq, calmOk, lim0, lim1, lim2, lim3, lim4, lim_map, lim_ints, mapA_map, mapA_ints, mapA_pure, mapA_ite, same_d, same_s, same_n, andC, orC, ints_map, ints_id, ints_int, List.take_length, tf, ft, Tg.slots, wpE, Int.cast_ofNat_Int, Int.reduceEq, Int.reduceLT, Int.reduceLE, Nat.reduceLT, Nat.reduceLeDiff, Bool.and_true, Bool.true_and, Bool.false_and, Bool.and_false, Bool.or_true, Bool.true_or, Bool.or_false, Bool.false_or, ofInts_snoc, List.append_nil, isort_len, pf_add, pf_sub, pf_eqI, pf_neI, pf_ltI, pf_gtI, pf_leI, pf_geI, pf_lenL, pf_lenT, pf_int, pf_abs, pf_neg, pf_min, pf_max, ix0T, ix1T, ix2T, ix3T, ix0L, ix1L, ix2L, rngD_I, List.take_succ_cons, last_get, last_set, take_app, mid_get, mid_set, mid_get1, mid_set1, app_app1, lim_rows, ofRows_snoc, List.append_assoc, Int.zero_add, pf_in, pf_nin, pf_inL, pf_ninL, pf_eqRow, pf_neRow, pf_eqRows, pf_eqInts, pf_sumI, pf_tupT, pf_lst, pf_lstL, pf_rev, pf_isN, pf_notN, isNone, pf_isB, pf_notB, slT_T, slT_L, slF_T, slF_L, slT_last, ofInts_take, ofInts_drop, ofRows_take, ofRows_drop, pf_tupL, pf_srtT, pf_srtL, pf_addT, pf_addL, ofInts_len, ofRows_len, ofInts_app, pf_allP, pf_anyP, raF]) ?_
  clear ei
  generalize (oddL m s bs).getD (dv (dx d2 24) 8).toNat .none = odd at *
  have w0 : ∀ v h, R 19 24 [.d (.int 0), .d odd, .d v] h = .ok (.d (.str "malformed")) h := fun v h => told0N 13 on.2 on.1 v h
  have w1 : ∀ v h, R 19 24 [.d (.int 1), .d odd, .d v] h = .ok (.d (.str "malformed")) h := fun v h => told1N 12 on.2 on.1 v h
  have w2 : ∀ h, R 19 24 [.d (.int 1), .d (elOf m bs s), .d odd] h = .ok (.d (.str "malformed")) h := fun h => told1N2 12 E on.2 on.1 h
  have w3 : ∀ h, R 19 24 [.d (.int 1), .d (elOf M bs s), .d odd] h = .ok (.d (.str "malformed")) h := fun h => told1N2 12 EL on.2 on.1 h
  have q9 : pf .mul [.list [.str "malformed"], .int 4] = some (.list [.str "malformed", .str "malformed", .str "malformed", .str "malformed"]) := rfl
  have q8 : pf .eq [.list [.str "malformed", .str "malformed", .str "malformed", .str "malformed"], .list [.str "malformed", .str "malformed", .str "malformed", .str "malformed"]] = some (.bool true) := by
    have g : Gm 1 100 (.list [.str "malformed", .str "malformed", .str "malformed", .str "malformed"]) := ⟨by decide +kernel, by decide +kernel, by decide +kernel⟩
    rw [pf_eqD g g (by decide) (by decide), eqv_self _ g.lf]
  refine lret (h1 := [(dx (dx d2 24) 8).mo]) ?_
  simp (disch := (first | exact dv_nn _ _ | (exact dv_lt _ (by omega)) | ((try simp only [ofInts_len, ofRows_len, rngI_len, List.length_append, List.length_cons, List.length_nil, List.length_map, isort_len]); omega))) only [w0, w1, w2, w3, q9, q8, limC, bvN, bvC, svE, svS, svPr, svSt, svIf, svRe, svRn, svRa, svTr, evV, evK, evG, evP, evS3, evCh, evNt, evBo, evFi, evTu, evLi, evCa, evMe, evsN, evsC, evbN, evbC, bindOk, toSOk, thenNx, thenRt, thenEx, ttB, snaps, snap, mkR, Mn.fresh, setT, datas, pars, meD, stD, itV, itD, seqOf, List.getElem?_cons_zero, List.getElem?_cons_succ, List.getElem?_nil, List.set_cons_zero, List.set_cons_succ, Option.map_some, Option.map_none, Bool.false_eq_true, if_false, if_true, List.length_cons, List.length_nil, Nat.zero_add, Nat.reduceAdd, List.map_cons, List.map_nil, eq_self, decide_true, decide_false, Bool.not_true, Bool.not_false, beq_self_eq_true, Int.reduceToNat, List.replicate_succ, List.replicate_zero, List.cons_append, List.nil_append, brcB, brcX, brcIte, thenIte, finIte, toSIte, bindIte, finRt, finNx, finX, toSX, bindX, evl_eq, calmOk, lim0, lim1, lim2, lim3, lim4, lim_map, lim_ints, mapA_map, mapA_ints, mapA_pure, mapA_ite, same_d, same_s, same_n, andC, orC, ints_map, ints_id, ints_int, List.take_length, tf, ft, Tg.slots, wpE, Int.cast_ofNat_Int, Int.reduceEq, Int.reduceLT, Int.reduceLE, Nat.reduceLT, Nat.reduceLeDiff, Bool.and_true, Bool.true_and, Bool.false_and, Bool.and_false, Bool.or_true, Bool.true_or, Bool.or_false, Bool.false_or, ofInts_snoc, List.append_nil, isort_len, pf_add, pf_sub, pf_eqI, pf_neI, pf_ltI, pf_gtI, pf_leI, pf_geI, pf_lenL, pf_lenT, pf_int, pf_abs, pf_neg, pf_min, pf_max, ix0T, ix1T, ix2T, ix3T, ix0L, ix1L, ix2L, rngD_I, List.take_succ_cons, last_get, last_set, take_app, mid_get, mid_set, mid_get1, mid_set1, app_app1, lim_rows, ofRows_snoc, List.append_assoc, Int.zero_add, pf_in, pf_nin, pf_inL, pf_ninL, pf_eqRow, pf_neRow, pf_eqRows, pf_eqInts, pf_sumI, pf_tupT, pf_lst, pf_lstL, pf_rev, pf_isN, pf_notN, isNone, pf_isB, pf_notB, slT_T, slT_L, slF_T, slF_L, slT_last, ofInts_take, ofInts_drop, ofRows_take, ofRows_drop, pf_tupL, pf_srtT, pf_srtL, pf_addT, pf_addL, ofInts_len, ofRows_len, ofInts_app, pf_allP, pf_anyP, raF]
end K61

namespace K61
open PySem Mn
/-- what Refused's __init__ hands on -/
def ea_Refused : Expr := match L2.defBody (L2.inClass (top 3) 0) with
  | .Expr (.Call _ [e] _ _) _ :: _ => e
  | _ => .Constant .none 0 ⟨0, 0, 0, 0⟩
abbrev sc_Refused : Scope := L2.defScope (L2.inClass (top 3) 0)
theorem ns_Refused : NdefX.nscB [("self" : Str), "reason", "__class__"] [("self" : Str), "reason"] ["__class__"] sc_Refused = true := by decide +kernel
theorem su_Refused : sc_Refused.names.lookup ("super" : Str) = some .globalImplicit := by decide +kernel
theorem t_Refused {cc cda : Addr} : XiT ⟨"__init__", "Refused.__init__", L2.defArgs (L2.inClass (top 3) 0), L2.defBody (L2.inClass (top 3) 0), sc_Refused, [("__class__", cc)], cda⟩ "reason" "reason" ea_Refused :=
  ⟨⟨_, _, _, _, _, _, _, _, _, rfl, fun env => ⟨_, rfl⟩⟩, ⟨_, rfl, rfl⟩, NdefX.nscope_by ns_Refused, su_Refused, rfl, by decide +kernel, by decide +kernel⟩
open L2 in
theorem ea_Refused_ok {Z : Cx} (h6 : Z.N = [("self" : Str), "reason", "__class__"]) (h7 : Z.env.scope = sc_Refused) : ∃ te : TE, PE Z ea_Refused te ∧ ∀ (a : Addr) (v : V) (H : Hp) (Q : VK), (false = true → ∃ i : Int, v = .int i ∧ i.natAbs.log2 < 1920) → (∀ x, Q x H) → te [some (.ref a), some v, none] H Q :=
  ⟨_, pe_var (i := 1) (by rw [h6]; rfl) (.inl (by rw [h7]; decide +kernel)) (by decide +kernel) (by decide +kernel), fun a v H Q _ h => ⟨v, rfl, h v⟩⟩
abbrev prg : Program := PySem.Challenge.pw_manyheard_k61_codes_and_alike_elections
theorem all_mk {w : World} {K : PySem.W.Frag} {h : Heap} {mg : Str → Option Value} {fa : Addr} {f0 : Addr} {od0 an0 : Option Addr} {sl0 : Array (Option Value)} {oc0 kV0 dc0 pm0 cd0 ct0 : Value} {f1 : Addr} {od1 an1 : Option Addr} {sl1 : Array (Option Value)} {oc1 kV1 dc1 pm1 cd1 ct1 : Value} {f2 : Addr} {od2 an2 : Option Addr} {sl2 : Array (Option Value)} {oc2 kV2 dc2 pm2 cd2 ct2 : Value} {f3 : Addr} {od3 an3 : Option Addr} {sl3 : Array (Option Value)} {oc3 kV3 dc3 pm3 cd3 ct3 : Value} {f4 : Addr} {od4 an4 : Option Addr} {sl4 : Array (Option Value)} {oc4 kV4 dc4 pm4 cd4 ct4 : Value} {f5 : Addr} {od5 an5 : Option Addr} {sl5 : Array (Option Value)} {oc5 kV5 dc5 pm5 cd5 ct5 : Value} {f6 : Addr} {od6 an6 : Option Addr} {sl6 : Array (Option Value)} {oc6 kV6 dc6 pm6 cd6 ct6 : Value} {f7 : Addr} {od7 an7 : Option Addr} {sl7 : Array (Option Value)} {oc7 kV7 dc7 pm7 cd7 ct7 : Value} {f8 : Addr} {od8 an8 : Option Addr} {sl8 : Array (Option Value)} {oc8 kV8 dc8 pm8 cd8 ct8 : Value} {f9 : Addr} {od9 an9 : Option Addr} {sl9 : Array (Option Value)} {oc9 kV9 dc9 pm9 cd9 ct9 : Value} {f10 : Addr} {od10 an10 : Option Addr} {sl10 : Array (Option Value)} {oc10 kV10 dc10 pm10 cd10 ct10 : Value} {f11 : Addr} {od11 an11 : Option Addr} {sl11 : Array (Option Value)} {oc11 kV11 dc11 pm11 cd11 ct11 : Value} {f12 : Addr} {od12 an12 : Option Addr} {sl12 : Array (Option Value)} {oc12 kV12 dc12 pm12 cd12 ct12 : Value} {f13 : Addr} {od13 an13 : Option Addr} {sl13 : Array (Option Value)} {oc13 kV13 dc13 pm13 cd13 ct13 : Value} {f14 : Addr} {od14 an14 : Option Addr} {sl14 : Array (Option Value)} {oc14 kV14 dc14 pm14 cd14 ct14 : Value} {f15 : Addr} {od15 an15 : Option Addr} {sl15 : Array (Option Value)} {oc15 kV15 dc15 pm15 cd15 ct15 : Value} {f16 : Addr} {od16 an16 : Option Addr} {sl16 : Array (Option Value)} {oc16 kV16 dc16 pm16 cd16 ct16 : Value} {f17 : Addr} {od17 an17 : Option Addr} {sl17 : Array (Option Value)} {oc17 kV17 dc17 pm17 cd17 ct17 : Value} {f18 : Addr} {od18 an18 : Option Addr} {sl18 : Array (Option Value)} {oc18 kV18 dc18 pm18 cd18 ct18 : Value} {f19 : Addr} {od19 an19 : Option Addr} {sl19 : Array (Option Value)} {oc19 kV19 dc19 pm19 cd19 ct19 : Value} {f20 : Addr} {od20 an20 : Option Addr} {sl20 : Array (Option Value)} {oc20 kV20 dc20 pm20 cd20 ct20 : Value} {f21 : Addr} {od21 an21 : Option Addr} {sl21 : Array (Option Value)} {oc21 kV21 dc21 pm21 cd21 ct21 : Value} {f22 : Addr} {od22 an22 : Option Addr} {sl22 : Array (Option Value)} {oc22 kV22 dc22 pm22 cd22 ct22 : Value} {f23 : Addr} {od23 an23 : Option Addr} {sl23 : Array (Option Value)} {oc23 kV23 dc23 pm23 cd23 ct23 : Value} {f24 : Addr} {od24 an24 : Option Addr} {sl24 : Array (Option Value)} {oc24 kV24 dc24 pm24 cd24 ct24 : Value} {f25 : Addr} {od25 an25 : Option Addr} {sl25 : Array (Option Value)} {oc25 kV25 dc25 pm25 cd25 ct25 : Value} {u0 : Value} {u1 : Value} {u2 : Value} {C0 : Addr} {C1 : Addr} {fI1 cc1 cda1 : Addr} {ocI1 dcI1 pmI1 ctI1 clv1 ccl1 : Value} {odI1 anI1 cld1 cdd1 : Option Addr} {slI1 csl1 ccs1 : Array (Option Value)} {vs1 : Array Value}
    (X : K.In h) (G : h.Ns mainGlobals mg) (hfa : mg "law" = some (.ref fa))
    (a0 : PySem.W.nsIn K mainGlobals "is_whole" = some (some (.ref f0)))
    (l0 : K.lookup f0 = some ⟨oc0, od0, .func (PySem.W.fnOf "is_whole" "is_whole" (L2.defArgs (top 5)) (L2.defBody (top 5)) (L2.defScope (top 5)) .none kV0 dc0 pm0 an0 cd0 ct0), sl0⟩)
    (c0 : PySem.W.codeIn K cd0 "is_whole" = true)
    (k0 : PySem.W.keepIn K (.ref f0) = true)
    (a1 : PySem.W.nsIn K mainGlobals "is_row" = some (some (.ref f1)))
    (l1 : K.lookup f1 = some ⟨oc1, od1, .func (PySem.W.fnOf "is_row" "is_row" (L2.defArgs (top 9)) (L2.defBody (top 9)) (L2.defScope (top 9)) .none kV1 dc1 pm1 an1 cd1 ct1), sl1⟩)
    (c1 : PySem.W.codeIn K cd1 "is_row" = true)
    (k1 : PySem.W.keepIn K (.ref f1) = true)
    (a2 : PySem.W.nsIn K mainGlobals "is_election" = some (some (.ref f2)))
    (l2 : K.lookup f2 = some ⟨oc2, od2, .func (PySem.W.fnOf "is_election" "is_election" (L2.defArgs (top 10)) (L2.defBody (top 10)) (L2.defScope (top 10)) .none kV2 dc2 pm2 an2 cd2 ct2), sl2⟩)
    (c2 : PySem.W.codeIn K cd2 "is_election" = true)
    (k2 : PySem.W.keepIn K (.ref f2) = true)
    (a3 : PySem.W.nsIn K mainGlobals "check_election" = some (some (.ref f3)))
    (l3 : K.lookup f3 = some ⟨oc3, od3, .func (PySem.W.fnOf "check_election" "check_election" (L2.defArgs (top 11)) (L2.defBody (top 11)) (L2.defScope (top 11)) .none kV3 dc3 pm3 an3 cd3 ct3), sl3⟩)
    (c3 : PySem.W.codeIn K cd3 "check_election" = true)
    (k3 : PySem.W.keepIn K (.ref f3) = true)
    (a4 : PySem.W.nsIn K mainGlobals "is_order" = some (some (.ref f4)))
    (l4 : K.lookup f4 = some ⟨oc4, od4, .func (PySem.W.fnOf "is_order" "is_order" (L2.defArgs (top 14)) (L2.defBody (top 14)) (L2.defScope (top 14)) .none kV4 dc4 pm4 an4 cd4 ct4), sl4⟩)
    (c4 : PySem.W.codeIn K cd4 "is_order" = true)
    (k4 : PySem.W.keepIn K (.ref f4) = true)
    (a5 : PySem.W.nsIn K mainGlobals "are_names" = some (some (.ref f5)))
    (l5 : K.lookup f5 = some ⟨oc5, od5, .func (PySem.W.fnOf "are_names" "are_names" (L2.defArgs (top 15)) (L2.defBody (top 15)) (L2.defScope (top 15)) .none kV5 dc5 pm5 an5 cd5 ct5), sl5⟩)
    (c5 : PySem.W.codeIn K cd5 "are_names" = true)
    (k5 : PySem.W.keepIn K (.ref f5) = true)
    (a6 : PySem.W.nsIn K mainGlobals "check_names" = some (some (.ref f6)))
    (l6 : K.lookup f6 = some ⟨oc6, od6, .func (PySem.W.fnOf "check_names" "check_names" (L2.defArgs (top 16)) (L2.defBody (top 16)) (L2.defScope (top 16)) .none kV6 dc6 pm6 an6 cd6 ct6), sl6⟩)
    (c6 : PySem.W.codeIn K cd6 "check_names" = true)
    (k6 : PySem.W.keepIn K (.ref f6) = true)
    (a7 : PySem.W.nsIn K mainGlobals "mapped" = some (some (.ref f7)))
    (l7 : K.lookup f7 = some ⟨oc7, od7, .func (PySem.W.fnOf "mapped" "mapped" (L2.defArgs (top 17)) (L2.defBody (top 17)) (L2.defScope (top 17)) .none kV7 dc7 pm7 an7 cd7 ct7), sl7⟩)
    (c7 : PySem.W.codeIn K cd7 "mapped" = true)
    (k7 : PySem.W.keepIn K (.ref f7) = true)
    (a8 : PySem.W.nsIn K mainGlobals "with_names" = some (some (.ref f8)))
    (l8 : K.lookup f8 = some ⟨oc8, od8, .func (PySem.W.fnOf "with_names" "with_names" (L2.defArgs (top 18)) (L2.defBody (top 18)) (L2.defScope (top 18)) .none kV8 dc8 pm8 an8 cd8 ct8), sl8⟩)
    (c8 : PySem.W.codeIn K cd8 "with_names" = true)
    (k8 : PySem.W.keepIn K (.ref f8) = true)
    (a9 : PySem.W.nsIn K mainGlobals "renamed" = some (some (.ref f9)))
    (l9 : K.lookup f9 = some ⟨oc9, od9, .func (PySem.W.fnOf "renamed" "renamed" (L2.defArgs (top 19)) (L2.defBody (top 19)) (L2.defScope (top 19)) .none kV9 dc9 pm9 an9 cd9 ct9), sl9⟩)
    (c9 : PySem.W.codeIn K cd9 "renamed" = true)
    (k9 : PySem.W.keepIn K (.ref f9) = true)
    (a10 : PySem.W.nsIn K mainGlobals "every_order" = some (some (.ref f10)))
    (l10 : K.lookup f10 = some ⟨oc10, od10, .func (PySem.W.fnOf "every_order" "every_order" (L2.defArgs (top 20)) (L2.defBody (top 20)) (L2.defScope (top 20)) .none kV10 dc10 pm10 an10 cd10 ct10), sl10⟩)
    (c10 : PySem.W.codeIn K cd10 "every_order" = true)
    (k10 : PySem.W.keepIn K (.ref f10) = true)
    (a11 : PySem.W.nsIn K mainGlobals "code" = some (some (.ref f11)))
    (l11 : K.lookup f11 = some ⟨oc11, od11, .func (PySem.W.fnOf "code" "code" (L2.defArgs (top 21)) (L2.defBody (top 21)) (L2.defScope (top 21)) .none kV11 dc11 pm11 an11 cd11 ct11), sl11⟩)
    (c11 : PySem.W.codeIn K cd11 "code" = true)
    (k11 : PySem.W.keepIn K (.ref f11) = true)
    (a12 : PySem.W.nsIn K mainGlobals "order_for" = some (some (.ref f12)))
    (l12 : K.lookup f12 = some ⟨oc12, od12, .func (PySem.W.fnOf "order_for" "order_for" (L2.defArgs (top 22)) (L2.defBody (top 22)) (L2.defScope (top 22)) .none kV12 dc12 pm12 an12 cd12 ct12), sl12⟩)
    (c12 : PySem.W.codeIn K cd12 "order_for" = true)
    (k12 : PySem.W.keepIn K (.ref f12) = true)
    (a13 : PySem.W.nsIn K mainGlobals "alike" = some (some (.ref f13)))
    (l13 : K.lookup f13 = some ⟨oc13, od13, .func (PySem.W.fnOf "alike" "alike" (L2.defArgs (top 23)) (L2.defBody (top 23)) (L2.defScope (top 23)) .none kV13 dc13 pm13 an13 cd13 ct13), sl13⟩)
    (c13 : PySem.W.codeIn K cd13 "alike" = true)
    (k13 : PySem.W.keepIn K (.ref f13) = true)
    (a14 : PySem.W.nsIn K mainGlobals "_law_draw" = some (some (.ref f14)))
    (l14 : K.lookup f14 = some ⟨oc14, od14, .func (PySem.W.fnOf "_law_draw" "_law_draw" (L2.defArgs (top 25)) (L2.defBody (top 25)) (L2.defScope (top 25)) .none kV14 dc14 pm14 an14 cd14 ct14), sl14⟩)
    (c14 : PySem.W.codeIn K cd14 "_law_draw" = true)
    (k14 : PySem.W.keepIn K (.ref f14) = true)
    (a15 : PySem.W.nsIn K mainGlobals "_law_take" = some (some (.ref f15)))
    (l15 : K.lookup f15 = some ⟨oc15, od15, .func (PySem.W.fnOf "_law_take" "_law_take" (L2.defArgs (top 26)) (L2.defBody (top 26)) (L2.defScope (top 26)) .none kV15 dc15 pm15 an15 cd15 ct15), sl15⟩)
    (c15 : PySem.W.codeIn K cd15 "_law_take" = true)
    (k15 : PySem.W.keepIn K (.ref f15) = true)
    (a16 : PySem.W.nsIn K mainGlobals "_law_turned" = some (some (.ref f16)))
    (l16 : K.lookup f16 = some ⟨oc16, od16, .func (PySem.W.fnOf "_law_turned" "_law_turned" (L2.defArgs (top 27)) (L2.defBody (top 27)) (L2.defScope (top 27)) .none kV16 dc16 pm16 an16 cd16 ct16), sl16⟩)
    (c16 : PySem.W.codeIn K cd16 "_law_turned" = true)
    (k16 : PySem.W.keepIn K (.ref f16) = true)
    (a17 : PySem.W.nsIn K mainGlobals "_law_election" = some (some (.ref f17)))
    (l17 : K.lookup f17 = some ⟨oc17, od17, .func (PySem.W.fnOf "_law_election" "_law_election" (L2.defArgs (top 28)) (L2.defBody (top 28)) (L2.defScope (top 28)) .none kV17 dc17 pm17 an17 cd17 ct17), sl17⟩)
    (c17 : PySem.W.codeIn K cd17 "_law_election" = true)
    (k17 : PySem.W.keepIn K (.ref f17) = true)
    (a18 : PySem.W.nsIn K mainGlobals "_law_order" = some (some (.ref f18)))
    (l18 : K.lookup f18 = some ⟨oc18, od18, .func (PySem.W.fnOf "_law_order" "_law_order" (L2.defArgs (top 29)) (L2.defBody (top 29)) (L2.defScope (top 29)) .none kV18 dc18 pm18 an18 cd18 ct18), sl18⟩)
    (c18 : PySem.W.codeIn K cd18 "_law_order" = true)
    (k18 : PySem.W.keepIn K (.ref f18) = true)
    (a19 : PySem.W.nsIn K mainGlobals "_law_perms" = some (some (.ref f19)))
    (l19 : K.lookup f19 = some ⟨oc19, od19, .func (PySem.W.fnOf "_law_perms" "_law_perms" (L2.defArgs (top 30)) (L2.defBody (top 30)) (L2.defScope (top 30)) .none kV19 dc19 pm19 an19 cd19 ct19), sl19⟩)
    (c19 : PySem.W.codeIn K cd19 "_law_perms" = true)
    (k19 : PySem.W.keepIn K (.ref f19) = true)
    (a20 : PySem.W.nsIn K mainGlobals "_law_mapped" = some (some (.ref f20)))
    (l20 : K.lookup f20 = some ⟨oc20, od20, .func (PySem.W.fnOf "_law_mapped" "_law_mapped" (L2.defArgs (top 31)) (L2.defBody (top 31)) (L2.defScope (top 31)) .none kV20 dc20 pm20 an20 cd20 ct20), sl20⟩)
    (c20 : PySem.W.codeIn K cd20 "_law_mapped" = true)
    (k20 : PySem.W.keepIn K (.ref f20) = true)
    (a21 : PySem.W.nsIn K mainGlobals "_law_code" = some (some (.ref f21)))
    (l21 : K.lookup f21 = some ⟨oc21, od21, .func (PySem.W.fnOf "_law_code" "_law_code" (L2.defArgs (top 32)) (L2.defBody (top 32)) (L2.defScope (top 32)) .none kV21 dc21 pm21 an21 cd21 ct21), sl21⟩)
    (c21 : PySem.W.codeIn K cd21 "_law_code" = true)
    (k21 : PySem.W.keepIn K (.ref f21) = true)
    (a22 : PySem.W.nsIn K mainGlobals "_law_alike" = some (some (.ref f22)))
    (l22 : K.lookup f22 = some ⟨oc22, od22, .func (PySem.W.fnOf "_law_alike" "_law_alike" (L2.defArgs (top 33)) (L2.defBody (top 33)) (L2.defScope (top 33)) .none kV22 dc22 pm22 an22 cd22 ct22), sl22⟩)
    (c22 : PySem.W.codeIn K cd22 "_law_alike" = true)
    (k22 : PySem.W.keepIn K (.ref f22) = true)
    (a23 : PySem.W.nsIn K mainGlobals "_law_other" = some (some (.ref f23)))
    (l23 : K.lookup f23 = some ⟨oc23, od23, .func (PySem.W.fnOf "_law_other" "_law_other" (L2.defArgs (top 34)) (L2.defBody (top 34)) (L2.defScope (top 34)) .none kV23 dc23 pm23 an23 cd23 ct23), sl23⟩)
    (c23 : PySem.W.codeIn K cd23 "_law_other" = true)
    (k23 : PySem.W.keepIn K (.ref f23) = true)
    (a24 : PySem.W.nsIn K mainGlobals "_law_told" = some (some (.ref f24)))
    (l24 : K.lookup f24 = some ⟨oc24, od24, .func (PySem.W.fnOf "_law_told" "_law_told" (L2.defArgs (top 35)) (L2.defBody (top 35)) (L2.defScope (top 35)) .none kV24 dc24 pm24 an24 cd24 ct24), sl24⟩)
    (c24 : PySem.W.codeIn K cd24 "_law_told" = true)
    (k24 : PySem.W.keepIn K (.ref f24) = true)
    (a25 : PySem.W.nsIn K mainGlobals "law" = some (some (.ref f25)))
    (l25 : K.lookup f25 = some ⟨oc25, od25, .func (PySem.W.fnOf "law" "law" (L2.defArgs (top 36)) (L2.defBody (top 36)) (L2.defScope (top 36)) .none kV25 dc25 pm25 an25 cd25 ct25), sl25⟩)
    (c25 : PySem.W.codeIn K cd25 "law" = true)
    (k25 : PySem.W.keepIn K (.ref f25) = true)
    (z0 : PySem.W.nsIn K mainGlobals "abs" = some none)
    (z1 : PySem.W.nsIn K mainGlobals "all" = some none)
    (z2 : PySem.W.nsIn K mainGlobals "bool" = some none)
    (z3 : PySem.W.nsIn K mainGlobals "int" = some none)
    (z4 : PySem.W.nsIn K mainGlobals "isinstance" = some none)
    (z5 : PySem.W.nsIn K mainGlobals "len" = some none)
    (z6 : PySem.W.nsIn K mainGlobals "list" = some none)
    (z7 : PySem.W.nsIn K mainGlobals "min" = some none)
    (z8 : PySem.W.nsIn K mainGlobals "range" = some none)
    (z9 : PySem.W.nsIn K mainGlobals "repr" = some none)
    (z10 : PySem.W.nsIn K mainGlobals "sorted" = some none)
    (z11 : PySem.W.nsIn K mainGlobals "tuple" = some none)
    (zs : PySem.W.nsIn K mainGlobals "super" = some none)
    (g0 : PySem.W.nsIn K mainGlobals "MOST_CANDIDATES" = some (some u0))
    (h0 : ∃ t : Tok, u0 = .int 30 t)
    (g1 : PySem.W.nsIn K mainGlobals "MOST_VOTERS" = some (some u1))
    (h1 : ∃ t : Tok, u1 = .int 60 t)
    (g2 : PySem.W.nsIn K mainGlobals "FEW" = some (some u2))
    (h2 : ∃ t : Tok, u2 = .int 6 t)
    (m0a : PySem.W.nsIn K mainGlobals "Malformed" = some (some (.ref C0)))
    (m0b : PySem.W.excIn K C0 [.type "ValueError", .type "Exception", .type "BaseException", .type "object"] "ValueError.__new__" = true)
    (m0c : PySem.W.keepIn K (.ref C0) = true)
    (m0d : PySem.W.subIn K (.ref C0) (.type "BaseException") = some true)
    (m0e : PySem.W.typeIn K (.ref C0) = some (.type "type"))
    (m1a : PySem.W.nsIn K mainGlobals "Refused" = some (some (.ref C1)))
    (m1b : PySem.W.keepIn K (.ref C1) = true)
    (m1c : PySem.W.subIn K (.ref C1) (.type "BaseException") = some true)
    (m1d : PySem.W.typeIn K (.ref C1) = some (.type "type"))
    (m1e : PySem.W.findIn K (.ref C1) "__setattr__" = some (some (.builtin "object.__setattr__")))
    (m1f : PySem.W.findIn K (.ref C1) "__init__" = some (some (.ref fI1)))
    (m1g : PySem.W.typeIn K (.ref fI1) = some (.type "function"))
    (m1h : K.lookup fI1 = some ⟨ocI1, odI1, .func (PySem.W.fnX "__init__" "Refused.__init__" (L2.defArgs (L2.inClass (top 3) 0)) (L2.defBody (L2.inClass (top 3) 0)) (L2.defScope (L2.inClass (top 3) 0)) [("__class__", cc1)] .none .none dcI1 pmI1 anI1 (.ref cda1) ctI1), slI1⟩)
    (m1i : PySem.W.codeIn K (.ref cda1) "Refused.__init__" = true)
    (m1j : K.lookup cc1 = some ⟨clv1, cld1, .cell (some (.ref C1)), csl1⟩)
    (m1k : K.lookup cda1 = some ⟨ccl1, cdd1, .fields vs1, ccs1⟩)
    (m1l : ∃ t : Tok, vs1[2]? = some (.str "/claim/cut.py" t))
    (m1m : PySem.W.ks_superIn K C1 C1 "__init__" = some (some (.builtin "ValueError.__init__")))
    (m1n : PySem.W.nsIn K cStatics "thirdparty.any" = some none)
    (m1o : PySem.W.subIn K (.ref C1) (.type "ValueError") = some true)
    (m1p : PySem.W.findIn K (.ref C1) "reason" = some none)
    (m1q : PySem.W.excInitIn K C1 [.type "ValueError", .type "Exception", .type "BaseException", .type "object"] "ValueError.__new__" = true)
    (m1r : PySem.W.findIn K (.ref C1) "__getattribute__" = some (some (.builtin "BaseException.__getattribute__")))
    (m1s : PySem.W.findIn K (.ref C1) "__getattr__" = some none)
    (m1t : PySem.W.hasDictIn K C1 = true)
    (e0_0 : PySem.W.exmOne K (.ref C0) (.ref C0) = some true)
    (e0_1 : PySem.W.exmOne K (.ref C0) (.ref C1) = some false)
    (e1_0 : PySem.W.exmOne K (.ref C1) (.ref C0) = some false)
    (e1_1 : PySem.W.exmOne K (.ref C1) (.ref C1) = some true)
    : ∃ (fd : FuncData) (xa : Xa), (∀ (s : Shared) (u : Value), BindsTo s fd ⟨[u], []⟩ [("script", u)]) ∧ ∀ base : Heap, K.In base → base.Ns mainGlobals mg → FnG PySem.Challenge.rw_manyheard_k61_codes_and_alike_elections.prog w K mg base (L2.CX PySem.Challenge.rw_manyheard_k61_codes_and_alike_elections.prog w) 23 fa fd ["script"] (spOf K xa (run 0 up (ds.map Di.df) 20 25) 1) := by
  have e := hfa.symm.trans (PySem.W.mg_of X G a25)
  cases e
  have fds : FDs K mg tt.fs ds := ⟨fd_mk (d := d_is_whole) X G a0 l0 c0 k0 (fun us hl => match us, hl with | [_], _ => rfl), fd_mk (d := d_is_row) X G a1 l1 c1 k1 (fun us hl => match us, hl with | [_, _], _ => rfl), fd_mk (d := d_is_election) X G a2 l2 c2 k2 (fun us hl => match us, hl with | [_], _ => rfl), fd_mk (d := d_check_election) X G a3 l3 c3 k3 (fun us hl => match us, hl with | [_], _ => rfl), fd_mk (d := d_is_order) X G a4 l4 c4 k4 (fun us hl => match us, hl with | [_, _], _ => rfl), fd_mk (d := d_are_names) X G a5 l5 c5 k5 (fun us hl => match us, hl with | [_, _], _ => rfl), fd_mk (d := d_check_names) X G a6 l6 c6 k6 (fun us hl => match us, hl with | [_, _], _ => rfl), fd_mk (d := d_mapped) X G a7 l7 c7 k7 (fun us hl => match us, hl with | [_, _], _ => rfl), fd_mk (d := d_with_names) X G a8 l8 c8 k8 (fun us hl => match us, hl with | [_, _, _], _ => rfl), fd_mk (d := d_renamed) X G a9 l9 c9 k9 (fun us hl => match us, hl with | [_, _], _ => rfl), fd_mk (d := d_every_order) X G a10 l10 c10 k10 (fun us hl => match us, hl with | [_], _ => rfl), fd_mk (d := d_code) X G a11 l11 c11 k11 (fun us hl => match us, hl with | [_], _ => rfl), fd_mk (d := d_order_for) X G a12 l12 c12 k12 (fun us hl => match us, hl with | [_, _], _ => rfl), fd_mk (d := d_alike) X G a13 l13 c13 k13 (fun us hl => match us, hl with | [_, _], _ => rfl), fd_mk (d := d__law_draw) X G a14 l14 c14 k14 (fun us hl => match us, hl with | [_], _ => rfl), fd_mk (d := d__law_take) X G a15 l15 c15 k15 (fun us hl => match us, hl with | [_, _], _ => rfl), fd_mk (d := d__law_turned) X G a16 l16 c16 k16 (fun us hl => match us, hl with | [_, _], _ => rfl), fd_mk (d := d__law_election) X G a17 l17 c17 k17 (fun us hl => match us, hl with | [_, _, _], _ => rfl), fd_mk (d := d__law_order) X G a18 l18 c18 k18 (fun us hl => match us, hl with | [_, _], _ => rfl), fd_mk (d := d__law_perms) X G a19 l19 c19 k19 (fun us hl => match us, hl with | [_], _ => rfl), fd_mk (d := d__law_mapped) X G a20 l20 c20 k20 (fun us hl => match us, hl with | [_, _], _ => rfl), fd_mk (d := d__law_code) X G a21 l21 c21 k21 (fun us hl => match us, hl with | [_], _ => rfl), fd_mk (d := d__law_alike) X G a22 l22 c22 k22 (fun us hl => match us, hl with | [_, _], _ => rfl), fd_mk (d := d__law_other) X G a23 l23 c23 k23 (fun us hl => match us, hl with | [_, _], _ => rfl), fd_mk (d := d__law_told) X G a24 l24 c24 k24 (fun us hl => match us, hl with | [_, _, _], _ => rfl), fd_mk (d := d_law) X G a25 l25 c25 k25 (fun us hl => match us, hl with | [_], _ => rfl), trivial⟩
  have hb : ∀ x ∈ tt.bn, mg x = none := Nones.at_ (K := K) X G (show Nones K tt.bn from ⟨z0, z1, z2, z3, z4, z5, z6, z7, z8, z9, z10, z11, trivial⟩)
  have hc := Consts.at_ (K := K) X G (show Consts K tt.cs from ⟨cInt g0 h0, cInt g1 h1, cInt g2 h2, trivial⟩)
  refine ⟨_, ⟨2, fun c => [C0, C1].getD c 0, fun c => ([none, some "reason"] : List (Option Str)).getD c none⟩, fun s v => .of_eq rfl, fun base _ _ => all_fn (P := prg) ⟨hb, hc, ?_, rfl, ?_⟩ c_all fds.at_ 20 25 "law" d_law rfl rfl fa _ (PySem.W.mg_of X G a25) (L2.fun_mk (st := top 36) l25 c25 k25)⟩
  · intro c nm an ib hc
    match c, hc with
    | 0, hc =>
      cases hc
      exact ⟨PySem.W.mg_of X G m0a, rfl, fun Y e1 e2 e3 e4 e5 e6 e7 e8 e9 e10 => mk_plain (by rw [e3]; exact m0b) (by rw [e4]; exact PySem.W.mg_of X G m0a) (by rw [e3]; exact m0c) (by rw [e3]; exact m0d) (by rw [e3]; exact m0e) e8 e10, fun f hf => by cases hf⟩
    | 1, hc =>
      cases hc
      have S := xif_mk (f := "reason") m1a m1b m1c m1d m1e m1f m1g m1h m1i m1j m1k m1l m1m m1n m1o m1p m1q m1r m1s m1t
      refine ⟨PySem.W.mg_of X G m1a, rfl, fun Y e1 e2 e3 e4 e5 e6 e7 e8 e9 e10 => ?_, fun f hf => ?_⟩
      · have S' := S
        rw [← e3] at S'
        refine mk_init (p := "reason") (ea := ea_Refused) S'.xi t_Refused S'.no (by rw [e4]; exact PySem.W.mg_none_of X G zs) (by rw [e1]; decide +kernel) (by rw [e1]; decide +kernel) (fun Z h1 h2 h3 h4 h5 h6 h7 => ?_) (fun doc pm an ct us hl => match us, hl with | [_, _], _ => rfl) e7 e8 (by rw [e4]; exact PySem.W.mg_of X G m1a) e10
        exact ea_Refused_ok h6 h7
      · cases hf
        exact ⟨S.xf, S.no⟩
    | c + 2, hc => exact absurd (show c + 2 < 2 from (List.getElem?_eq_some_iff.mp hc).1) (by omega)
  · intro c c' h1 h2
    have h1 : c < 2 := h1
    have h2 : c' < 2 := h2
    match c, c', h1, h2 with
    | 0, 0, _, _ => exact e0_0
    | 0, 1, _, _ => exact e0_1
    | 1, 0, _, _ => exact e1_0
    | 1, 1, _, _ => exact e1_1
end K61
open PySem PySem.W PyProof.Rows in
set_option maxRecDepth 100000 in
set_option maxHeartbeats 0 in
theorem PySem.Challenge.cw_manyheard_k61_codes_and_alike_elections_holds : PySem.Challenge.rw_manyheard_k61_codes_and_alike_elections.Holds := by
  w_on; o_law; k_head; (case hw => w_witness2)
  k_fill
  refine Mn.walkM (l := PySem.Challenge.rw_manyheard_k61_codes_and_alike_elections) (n := 63) (k := 23) (x := "script") (g := Mn.run 0 K61.up (K61.ds.map Mn.Di.df) 20 25) rfl (by decide) rfl ⟨rfl, by decide, by decide⟩ (fun w h Y => PySem.W.kIn_of Y) K61.plain ?F
  case F =>
    intro w mg fa h KX G hmg
    refine' K61.all_mk KX G hmg ?mn_a0 ?mn_l0 ?mn_c0 ?mn_k0 ?mn_a1 ?mn_l1 ?mn_c1 ?mn_k1 ?mn_a2 ?mn_l2 ?mn_c2 ?mn_k2 ?mn_a3 ?mn_l3 ?mn_c3 ?mn_k3 ?mn_a4 ?mn_l4 ?mn_c4 ?mn_k4 ?mn_a5 ?mn_l5 ?mn_c5 ?mn_k5 ?mn_a6 ?mn_l6 ?mn_c6 ?mn_k6 ?mn_a7 ?mn_l7 ?mn_c7 ?mn_k7 ?mn_a8 ?mn_l8 ?mn_c8 ?mn_k8 ?mn_a9 ?mn_l9 ?mn_c9 ?mn_k9 ?mn_a10 ?mn_l10 ?mn_c10 ?mn_k10 ?mn_a11 ?mn_l11 ?mn_c11 ?mn_k11 ?mn_a12 ?mn_l12 ?mn_c12 ?mn_k12 ?mn_a13 ?mn_l13 ?mn_c13 ?mn_k13 ?mn_a14 ?mn_l14 ?mn_c14 ?mn_k14 ?mn_a15 ?mn_l15 ?mn_c15 ?mn_k15 ?mn_a16 ?mn_l16 ?mn_c16 ?mn_k16 ?mn_a17 ?mn_l17 ?mn_c17 ?mn_k17 ?mn_a18 ?mn_l18 ?mn_c18 ?mn_k18 ?mn_a19 ?mn_l19 ?mn_c19 ?mn_k19 ?mn_a20 ?mn_l20 ?mn_c20 ?mn_k20 ?mn_a21 ?mn_l21 ?mn_c21 ?mn_k21 ?mn_a22 ?mn_l22 ?mn_c22 ?mn_k22 ?mn_a23 ?mn_l23 ?mn_c23 ?mn_k23 ?mn_a24 ?mn_l24 ?mn_c24 ?mn_k24 ?mn_a25 ?mn_l25 ?mn_c25 ?mn_k25 ?mn_z0 ?mn_z1 ?mn_z2 ?mn_z3 ?mn_z4 ?mn_z5 ?mn_z6 ?mn_z7 ?mn_z8 ?mn_z9 ?mn_z10 ?mn_z11 ?mn_zs ?mn_g0 ?mn_h0 ?mn_g1 ?mn_h1 ?mn_g2 ?mn_h2 ?mn_m0a ?mn_m0b ?mn_m0c ?mn_m0d ?mn_m0e ?mn_m1a ?mn_m1b ?mn_m1c ?mn_m1d ?mn_m1e ?mn_m1f ?mn_m1g ?mn_m1h ?mn_m1i ?mn_m1j ?mn_m1k ?mn_m1l ?mn_m1m ?mn_m1n ?mn_m1o ?mn_m1p ?mn_m1q ?mn_m1r ?mn_m1s ?mn_m1t ?mn_e0_0 ?mn_e0_1 ?mn_e1_0 ?mn_e1_1
    (case mn_a0 => k_is)
    (case mn_l0 => k_is)
    (case mn_c0 => k_is)
    (case mn_k0 => k_is)
    (case mn_a1 => k_is)
    (case mn_l1 => k_is)
    (case mn_c1 => k_is)
    (case mn_k1 => k_is)
    (case mn_a2 => k_is)
    (case mn_l2 => k_is)
    (case mn_c2 => k_is)
    (case mn_k2 => k_is)
    (case mn_a3 => k_is)
    (case mn_l3 => k_is)
    (case mn_c3 => k_is)
    (case mn_k3 => k_is)
    (case mn_a4 => k_is)
    (case mn_l4 => k_is)
    (case mn_c4 => k_is)
    (case mn_k4 => k_is)
    (case mn_a5 => k_is)
    (case mn_l5 => k_is)
    (case mn_c5 => k_is)
    (case mn_k5 => k_is)
    (case mn_a6 => k_is)
    (case mn_l6 => k_is)
    (case mn_c6 => k_is)
    (case mn_k6 => k_is)
    (case mn_a7 => k_is)
    (case mn_l7 => k_is)
    (case mn_c7 => k_is)
    (case mn_k7 => k_is)
    (case mn_a8 => k_is)
    (case mn_l8 => k_is)
    (case mn_c8 => k_is)
    (case mn_k8 => k_is)
    (case mn_a9 => k_is)
    (case mn_l9 => k_is)
    (case mn_c9 => k_is)
    (case mn_k9 => k_is)
    (case mn_a10 => k_is)
    (case mn_l10 => k_is)
    (case mn_c10 => k_is)
    (case mn_k10 => k_is)
    (case mn_a11 => k_is)
    (case mn_l11 => k_is)
    (case mn_c11 => k_is)
    (case mn_k11 => k_is)
    (case mn_a12 => k_is)
    (case mn_l12 => k_is)
    (case mn_c12 => k_is)
    (case mn_k12 => k_is)
    (case mn_a13 => k_is)
    (case mn_l13 => k_is)
    (case mn_c13 => k_is)
    (case mn_k13 => k_is)
    (case mn_a14 => k_is)
    (case mn_l14 => k_is)
    (case mn_c14 => k_is)
    (case mn_k14 => k_is)
    (case mn_a15 => k_is)
    (case mn_l15 => k_is)
    (case mn_c15 => k_is)
    (case mn_k15 => k_is)
    (case mn_a16 => k_is)
    (case mn_l16 => k_is)
    (case mn_c16 => k_is)
    (case mn_k16 => k_is)
    (case mn_a17 => k_is)
    (case mn_l17 => k_is)
    (case mn_c17 => k_is)
    (case mn_k17 => k_is)
    (case mn_a18 => k_is)
    (case mn_l18 => k_is)
    (case mn_c18 => k_is)
    (case mn_k18 => k_is)
    (case mn_a19 => k_is)
    (case mn_l19 => k_is)
    (case mn_c19 => k_is)
    (case mn_k19 => k_is)
    (case mn_a20 => k_is)
    (case mn_l20 => k_is)
    (case mn_c20 => k_is)
    (case mn_k20 => k_is)
    (case mn_a21 => k_is)
    (case mn_l21 => k_is)
    (case mn_c21 => k_is)
    (case mn_k21 => k_is)
    (case mn_a22 => k_is)
    (case mn_l22 => k_is)
    (case mn_c22 => k_is)
    (case mn_k22 => k_is)
    (case mn_a23 => k_is)
    (case mn_l23 => k_is)
    (case mn_c23 => k_is)
    (case mn_k23 => k_is)
    (case mn_a24 => k_is)
    (case mn_l24 => k_is)
    (case mn_c24 => k_is)
    (case mn_k24 => k_is)
    (case mn_a25 => k_is)
    (case mn_l25 => k_is)
    (case mn_c25 => k_is)
    (case mn_k25 => k_is)
    (case mn_z0 => k_is)
    (case mn_z1 => k_is)
    (case mn_z2 => k_is)
    (case mn_z3 => k_is)
    (case mn_z4 => k_is)
    (case mn_z5 => k_is)
    (case mn_z6 => k_is)
    (case mn_z7 => k_is)
    (case mn_z8 => k_is)
    (case mn_z9 => k_is)
    (case mn_z10 => k_is)
    (case mn_z11 => k_is)
    (case mn_zs => k_is)
    (case mn_g0 => k_is)
    (case mn_h0 => exact ⟨_, rfl⟩)
    (case mn_g1 => k_is)
    (case mn_h1 => exact ⟨_, rfl⟩)
    (case mn_g2 => k_is)
    (case mn_h2 => exact ⟨_, rfl⟩)
    (case mn_m0a => k_is)
    (case mn_m0b => k_exc)
    (case mn_m0c => k_is)
    (case mn_m0d => k_is)
    (case mn_m0e => k_is)
    (case mn_m1a => k_is)
    (case mn_m1b => k_is)
    (case mn_m1c => k_is)
    (case mn_m1d => k_is)
    (case mn_m1e => k_is)
    (case mn_m1f => k_is)
    (case mn_m1g => k_is)
    (case mn_m1h => k_is)
    (case mn_m1i => k_is)
    (case mn_m1j => k_is)
    (case mn_m1k => k_is)
    (case mn_m1l => exact ⟨_, rfl⟩)
    (case mn_m1m => ks_is)
    (case mn_m1n => k_is)
    (case mn_m1o => k_is)
    (case mn_m1p => k_is)
    (case mn_m1q => kx_is)
    (case mn_m1r => k_is)
    (case mn_m1s => k_is)
    (case mn_m1t => k_is)
    (case mn_e0_0 => kts_exm)
    (case mn_e0_1 => kts_exm)
    (case mn_e1_0 => kts_exm)
    (case mn_e1_1 => kts_exm)
