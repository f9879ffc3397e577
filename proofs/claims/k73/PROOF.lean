import PyProof.Rows.All
import Wide.All
import OpenK.AllK
import Wide.FinOn
import HandS.ForMost
import HandS.ForExc
import HandS.Walk
import HandS.Wide
import HandS.TupMul
import HandS.TupAny
import HandS.IsInst
import KE.DataEq
import KE.DataMinMax
import KE.SortData
import KE.KTupSum
import HandS.Conv
import HandS.Sort
import HandS.SortOrd
import HandS.Text
import HandS.Style
import HandS.Zip
import HandS.Iter
import PyProof.SeqIndex
import KE.KRevSl
import HandS.Exc
import HandS.ExcOwn
import HandS.TryMany
import HandS.WordsExc
import HandS.CallLocal
import HandS.Comp
import HandS.SetFor
import PyProof.Rows.SetFrom
import HandS.Zip0
import PyProof.Draws
import PyProof.EnumMake
import HandS.ExcField
import KE.KDictDisplayH
import PyProof.DictTable
import HandS.ExcInit
import KE.KExcSuper
import HandS.Defaults
import HandS.Head0
import HandS.Head1
import HandS.Head2
import HandS.HeadEnd
import HandS.HeadHook1
import HandS.HeadHook2
import PySem.Challenge.RW_patternroads_k73_whole_signed_permutatio
set_option Elab.async false
set_option linter.all false
set_option autoImplicit false
/-! An evaluator of a plain part of Python over value trees: lists are values, a slot owns its list or shares it. -/
namespace EV

/-- values -/
inductive PV where
  | non | bl (b : Bool) | int (i : Int) | str (s : List Nat) | tup (xs : List PV) | lst (xs : List PV)
  | dic (ks vs : List PV) | set (xs : List PV) | fn (f : Nat) | rng (lo hi : Int) | scr (ns : List Int)
deriving Inhabited

/-- a local name: nothing; a value; a list of its own; the same while something walks over it -/
inductive Slot where
  | n | s (v : PV) | o (v : PV) | b (v : PV)
deriving Inhabited
abbrev Env := List Slot

inductive Res (α : Type) where
  | ok (a : α) | exc (c : Nat) (a : PV) | bad
def Res.bind {α β : Type} : Res α → (α → Res β) → Res β
  | .ok a, f => f a
  | .exc c a, _ => .exc c a
  | .bad, _ => .bad
@[simp] theorem Res.bind_ok {α β : Type} (a : α) (f : α → Res β) : Res.bind (.ok a) f = f a := rfl
@[simp] theorem Res.bind_exc {α β : Type} (c : Nat) (a : PV) (f : α → Res β) : Res.bind (.exc c a) f = .exc c a := rfl
@[simp] theorem Res.bind_bad {α β : Type} (f : α → Res β) : Res.bind .bad f = .bad := rfl
theorem Res.bind_congr {α β : Type} {x y : Res α} {f : α → Res β} (h : x = y) : Res.bind x f = Res.bind y f := by rw [h]
theorem Res.bind_assoc {α β γ : Type} (x : Res α) (f : α → Res β) (g : β → Res γ) : (x.bind f).bind g = x.bind fun a => (f a).bind g := by cases x <;> rfl

/-! ### equality, data -/
mutual
@[simp] def PV.eqv : PV → PV → Bool
  | .non, .non => true
  | .bl a, .bl b => a == b
  | .bl a, .int j => (if a then 1 else 0) == j
  | .int i, .bl b => i == (if b then 1 else 0)
  | .int i, .int j => i == j
  | .str x, .str y => x == y
  | .lst xs, .lst ys => PV.eqvs xs ys
  | .tup xs, .tup ys => PV.eqvs xs ys
  | _, _ => false
@[simp] def PV.eqvs : List PV → List PV → Bool
  | [], [] => true
  | x :: xs, y :: ys => PV.eqv x y && PV.eqvs xs ys
  | _, _ => false
end
mutual
/-- plain data to a depth -/
@[simp] def PV.data : Nat → PV → Bool
  | _, .non => true
  | _, .bl _ => true
  | _, .int _ => true
  | _, .str _ => true
  | d + 1, .tup xs => PV.datas d xs
  | d + 1, .lst xs => PV.datas d xs
  | _, _ => false
@[simp] def PV.datas : Nat → List PV → Bool
  | _, [] => true
  | d, x :: xs => PV.data d x && PV.datas d xs
end
abbrev DD : Nat := 50

/-- the items of a list or tuple -/
def PV.seq? : PV → Option (List PV)
  | .tup xs => some xs
  | .lst xs => some xs
  | _ => none

abbrev szl : Nat := 16777216

/-! ### indexes, slices -/
def pixN (n : Nat) (i : Int) : Option Nat :=
  if 0 ≤ i then (if i < n then some i.toNat else none) else if -(n : Int) ≤ i then some (i + n).toNat else none
def pix {α : Type} (xs : List α) (i : Int) : Option α := (pixN xs.length i).bind fun j => xs[j]?
def clampN (n : Nat) (i : Int) : Nat := if i < 0 then (i + n).toNat else min i.toNat n
def slcL {α : Type} (xs : List α) (lo hi : Option Int) : List α :=
  let a := match lo with | some i => clampN xs.length i | none => 0
  let b := match hi with | some i => clampN xs.length i | none => xs.length
  (xs.drop a).take (b - a)

/-! ### operators -/
inductive Un where | neg | inv
inductive Bin where | add | sub | mul | fdiv | mod | shl | shr | and | or | pow
inductive Cm where | eq | ne | lt | le | gt | ge | is | isnot | «in» | notin
abbrev VO := PV × Bool

def okMul (i j : Int) : Bool := decide (-(2 ^ 64) < i ∧ i < 2 ^ 64) || decide (-(2 ^ 64) < j ∧ j < 2 ^ 64) || decide (i.natAbs.log2 + j.natAbs.log2 < 1000000)
def unV : Un → PV → Res VO
  | .neg, .int i => .ok (.int (-i), false)
  | .inv, .int i => .ok (.int (-i - 1), false)
  | _, _ => .bad
def repL {α : Type} (xs : List α) (k : Int) : List α := (List.replicate k.toNat xs).flatten
def binV : Bin → PV → PV → Res VO
  | .add, .int i, .int j => .ok (.int (i + j), false)
  | .sub, .int i, .int j => .ok (.int (i - j), false)
  | .mul, .int i, .int j => if okMul i j then .ok (.int (i * j), false) else .bad
  | .fdiv, .int i, .int j => if 0 < j ∧ j.natAbs.log2 < 9000 then .ok (.int (i / j), false) else .bad
  | .mod, .int i, .int j => if 0 < j then .ok (.int (i % j), false) else .bad
  | .add, .str x, .str y => if x.length + y.length ≤ szl then .ok (.str (x ++ y), false) else .bad
  | .add, .tup x, .tup y => if x.length + y.length ≤ szl then .ok (.tup (x ++ y), false) else .bad
  | .add, .lst x, .lst y => if x.length + y.length ≤ szl then .ok (.lst (x ++ y), true) else .bad
  | .mul, .lst x, .int k => if -(2 ^ 63) ≤ k ∧ k < 2 ^ 63 ∧ x.length * k.toNat ≤ szl then .ok (.lst (repL x k), true) else .bad
  | .mul, .tup x, .int k => if -1000 ≤ k ∧ k ≤ 1000 ∧ x.length ≤ 1000 then .ok (.tup (repL x k), false) else .bad
  | _, _, _ => .bad

/-! ### order -/
def strLt : List Nat → List Nat → Bool
  | [], [] => false
  | [], _ :: _ => true
  | _ :: _, [] => false
  | a :: x, b :: y => if a < b then true else if a = b then strLt x y else false
mutual
/-- Python's <, for things that can be compared -/
def PV.lt : PV → PV → Bool
  | .int i, .int j => decide (i < j)
  | .str x, .str y => strLt x y
  | .tup xs, .tup ys => PV.ltl xs ys
  | _, _ => false
def PV.ltl : List PV → List PV → Bool
  | [], [] => false
  | [], _ :: _ => true
  | _ :: _, [] => false
  | x :: xs, y :: ys => if PV.eqv x y then PV.ltl xs ys else PV.lt x y
end
mutual
/-- two things that < can compare -/
def PV.alike : PV → PV → Bool
  | .int _, .int _ => true
  | .str _, .str _ => true
  | .tup xs, .tup ys => PV.alikes xs ys
  | _, _ => false
def PV.alikes : List PV → List PV → Bool
  | x :: xs, y :: ys => PV.alike x y && PV.alikes xs ys
  | _, _ => true
end
def PV.isTup1 : PV → Bool | .tup (_ :: _) => true | _ => false
def PV.isAtom : PV → Bool | .int _ => true | .str _ => true | _ => false
/-- what sorted takes here -/
def sortable (xs : List PV) : Bool := (xs.all PV.isTup1 || xs.all PV.isAtom) && (xs.all fun x => xs.all fun y => PV.alike x y) && PV.datas DD xs
def ins (x : PV) : List PV → List PV
  | [] => [x]
  | y :: ys => if PV.lt y x then y :: ins x ys else x :: y :: ys
def sortP (xs : List PV) : List PV := xs.foldr ins []

@[simp] def ints? : List PV → Option (List Int)
  | [] => some []
  | .int i :: xs => (ints? xs).map (i :: ·)
  | _ :: _ => none
@[simp] def PV.isNon : PV → Bool
  | .non => true
  | _ => false
def cmpV : Cm → PV → PV → Res VO
  | .lt, .int i, .int j => .ok (.bl (decide (i < j)), false)
  | .le, .int i, .int j => .ok (.bl (decide (i ≤ j)), false)
  | .gt, .int i, .int j => .ok (.bl (decide (j < i)), false)
  | .ge, .int i, .int j => .ok (.bl (decide (j ≤ i)), false)
  | .lt, .str x, .str y => .ok (.bl (strLt x y), false)
  | .le, .str x, .str y => .ok (.bl (!strLt y x), false)
  | .is, a, .non => .ok (.bl a.isNon, false)
  | .isnot, a, .non => .ok (.bl (!a.isNon), false)
  | .eq, a, b => if PV.data DD a && PV.data DD b then .ok (.bl (PV.eqv a b), false) else .bad
  | .ne, a, b => if PV.data DD a && PV.data DD b then .ok (.bl (!PV.eqv a b), false) else .bad
  | .in, a, .lst xs => if PV.data DD a && PV.datas DD xs then .ok (.bl (xs.any fun z => PV.eqv z a), false) else .bad
  | .in, a, .tup xs => if PV.data DD a && PV.datas DD xs then .ok (.bl (xs.any fun z => PV.eqv z a), false) else .bad
  | .in, .str [c], .str y => .ok (.bl (decide (c ∈ y)), false)
  | .in, .tup a, .dic ks _ => if (ints? a).isSome = true then .ok (.bl (ks.any fun z => PV.eqv z (.tup a)), false) else .bad
  | .notin, a, .lst xs => if PV.data DD a && PV.datas DD xs then .ok (.bl (!xs.any fun z => PV.eqv z a), false) else .bad
  | .notin, a, .tup xs => if PV.data DD a && PV.datas DD xs then .ok (.bl (!xs.any fun z => PV.eqv z a), false) else .bad
  | .notin, .str [c], .str y => .ok (.bl (!decide (c ∈ y)), false)
  | .notin, .tup a, .dic ks _ => if (ints? a).isSome = true then .ok (.bl (!ks.any fun z => PV.eqv z (.tup a)), false) else .bad
  | _, _, _ => .bad

/-! ### built-ins -/
inductive Ty where | int | bool | str | tup | lst
inductive Bi where
  | lens | trg3 | len | abs | int | tuple | list | sorted | sum | max | min | max2 | min2 | all | any | isi (ts : List Ty) | range1 | range2
def tyIs : Ty → PV → Bool
  | .int, .int _ => true
  | .int, .bl _ => true
  | .bool, .bl _ => true
  | .str, .str _ => true
  | .tup, .tup _ => true
  | .lst, .lst _ => true
  | _, _ => false
def PV.typed : PV → Bool
  | .non => true | .bl _ => true | .int _ => true | .str _ => true | .tup _ => true | .lst _ => true | _ => false
def intOf : PV → Option Int | .int i => some i | _ => none
def boolOf : PV → Option Bool | .bl i => some i | _ => none
@[simp] def bools? : List PV → Option (List Bool)
  | [] => some []
  | .bl i :: xs => (bools? xs).map (i :: ·)
  | _ :: _ => none
def rngL (lo hi : Int) : List PV := (List.range (hi - lo).toNat).map fun k => .int (lo + (k : Nat))
/-- range(a, b, -1) -/
def dnL (a b : Int) : List PV := (List.range (a - b).toNat).map fun k => .int (a - (k : Nat))
def maxI : Int → List Int → Int
  | a, [] => a
  | a, b :: r => maxI (if b > a then b else a) r
def minI : Int → List Int → Int
  | a, [] => a
  | a, b :: r => minI (if b < a then b else a) r
def sumI : Int → List Int → Int
  | a, [] => a
  | a, b :: r => sumI (a + b) r
abbrev inR (i : Int) : Prop := -(2 ^ 62) ≤ i ∧ i < 2 ^ 62
/-- the first of each kind -/
def ddI (ns : List Int) : List Int := ns.foldl (fun acc x => if acc.any (· == x) = true then acc else acc ++ [x]) []
def biV : Bi → List PV → Res VO
  | .len, [.tup xs] => .ok (.int xs.length, false)
  | .len, [.lst xs] => .ok (.int xs.length, false)
  | .len, [.str s] => if s.length ≤ szl then .ok (.int s.length, false) else .bad
  | .abs, [.int i] => .ok (.int (if i < 0 then -i else i), false)
  | .int, [.int i] => .ok (.int i, false)
  | .tuple, [.tup xs] => .ok (.tup xs, false)
  | .tuple, [.lst xs] => .ok (.tup xs, false)
  | .tuple, [.rng a b] => if inR a ∧ inR b ∧ (b - a).toNat ≤ szl then .ok (.tup (rngL a b), false) else .bad
  | .list, [.tup xs] => .ok (.lst xs, true)
  | .list, [.lst xs] => .ok (.lst xs, true)
  | .list, [.rng a b] => if inR a ∧ inR b ∧ (b - a).toNat ≤ szl then .ok (.lst (rngL a b), true) else .bad
  | .sorted, [.tup xs] => if sortable xs then .ok (.lst (sortP xs), true) else .bad
  | .sorted, [.lst xs] => if decide (xs.length ≤ 1) || sortable xs then .ok (.lst (sortP xs), true) else .bad
  | .sum, [.lst xs] => match ints? xs with | some ns => .ok (.int (sumI 0 ns), false) | none => .bad
  | .sum, [.tup xs] => match ints? xs with | some ns => .ok (.int (sumI 0 ns), false) | none => .bad
  | .max, [.lst xs] => match ints? xs with | some (n :: ns) => .ok (.int (maxI n ns), false) | _ => .bad
  | .max, [.tup xs] => match ints? xs with | some (n :: ns) => .ok (.int (maxI n ns), false) | _ => .bad
  | .min, [.lst xs] => match ints? xs with | some (n :: ns) => .ok (.int (minI n ns), false) | _ => .bad
  | .min, [.tup xs] => match ints? xs with | some (n :: ns) => .ok (.int (minI n ns), false) | _ => .bad
  | .max2, [.int i, .int j] => .ok (.int (if j > i then j else i), false)
  | .min2, [.int i, .int j] => .ok (.int (if j < i then j else i), false)
  | .all, [.lst xs] => match bools? xs with | some bs => .ok (.bl (bs.all id), false) | none => .bad
  | .any, [.lst xs] => match bools? xs with | some bs => .ok (.bl (bs.any id), false) | none => .bad
  | .isi ts, [v] => if v.typed then .ok (.bl (ts.any fun t => tyIs t v), false) else .bad
  | .range1, [.int b] => .ok (.rng 0 b, false)
  | .range2, [.int a, .int b] => .ok (.rng a b, false)
  | .lens, [.tup xs] => match ints? xs with | some ns => if ns.length ≤ 1000 then .ok (.int (ddI ns).length, false) else .bad | none => .bad
  | .lens, [.lst xs] => match ints? xs with | some ns => if ns.length ≤ 1000 then .ok (.int (ddI ns).length, false) else .bad | none => .bad
  | .trg3, [.int a, .int b, .int c] => if c = -1 ∧ inR a ∧ inR b ∧ (a - b).toNat ≤ 1000 then .ok (.tup (dnL a b), false) else .bad
  | _, _ => .bad

def subV : PV → PV → Res PV
  | .tup xs, .int i => match pix xs i with | some v => .ok v | none => .bad
  | .lst xs, .int i => match pix xs i with | some v => .ok v | none => .bad
  | .str s, .int i => if s.length ≤ szl then (match pix s i with | some c => .ok (.str [c]) | none => .bad) else .bad
  | _, _ => .bad
def slcV : PV → Option Int → Option Int → Res VO
  | .tup xs, lo, hi => .ok (.tup (slcL xs lo hi), false)
  | .lst xs, lo, hi => .ok (.lst (slcL xs lo hi), true)
  | .str s, lo, hi => if s.length ≤ szl then .ok (.str (slcL s lo hi), false) else .bad
  | .scr ns, lo, hi => .ok (.lst ((slcL ns lo hi).map .int), true)
  | _, _, _ => .bad
def revV : PV → Res VO
  | .tup xs => .ok (.tup xs.reverse, false)
  | .lst xs => .ok (.lst xs.reverse, true)
  | .str s => if s.length ≤ szl then .ok (.str s.reverse, false) else .bad
  | _ => .bad

/-! ### what is walked -/
inductive IK where | seq | rng1 | rng2 | rng3 | enum | zip
def itemsOf : IK → List PV → Res (List PV)
  | .seq, [.tup xs] => .ok xs
  | .seq, [.lst xs] => .ok xs
  | .seq, [.str s] => .ok (s.map fun c => .str [c])
  | .rng1, [.int b] => if inR b then .ok (rngL 0 b) else .bad
  | .rng2, [.int a, .int b] => if inR a ∧ inR b then .ok (rngL a b) else .bad
  | .rng3, [.int a, .int b, .int c] => if c = -1 ∧ inR a ∧ inR b then .ok (dnL a b) else .bad
  | .enum, [v] => match v.seq? with | some xs => .ok (xs.zipIdx.map fun p => .tup [.int (p.2 : Nat), p.1]) | none => .bad
  | .zip, [.tup xs, .tup ys] => .ok ((xs.zip ys).map fun p => .tup [p.1, p.2])
  | .zip, [.lst xs, .lst ys] => .ok ((xs.zip ys).map fun p => .tup [p.1, p.2])
  | _, _ => .bad

/-- the kind of a value that has methods -/
def PV.kd : PV → Nat
  | .tup _ => 1 | .lst _ => 2 | .str _ => 3 | .dic _ _ => 4 | .set _ => 5 | _ => 0
/-! ### methods -/
inductive Me where | index
/-- the kinds that have it -/
@[simp] def Me.on : Me → Nat → Bool
  | .index, 1 => true | .index, 2 => true | _, _ => false
def meV : Me → PV → List PV → Res VO
  | .index, .tup xs, [v] => if PV.datas DD xs && PV.data DD v then (match xs.findIdx? fun z => PV.eqv z v with | some k => .ok (.int (k : Nat), false) | none => .bad) else .bad
  | .index, .lst xs, [v] => if PV.datas DD xs && PV.data DD v then (match xs.findIdx? fun z => PV.eqv z v with | some k => .ok (.int (k : Nat), false) | none => .bad) else .bad
  | _, _, _ => .bad
/-- a method that changes the list: its value, the list -/
inductive Mu where | append | extend | pop | popAt
def muV : Mu → PV → List PV → Res (PV × PV)
  | .append, .lst xs, [v] => if xs.length < szl then .ok (.non, .lst (xs ++ [v])) else .bad
  | .extend, .lst xs, [.lst ys] => if xs.length + ys.length ≤ szl then .ok (.non, .lst (xs ++ ys)) else .bad
  | .pop, .lst xs, [] => match xs.getLast? with | some v => .ok (v, .lst xs.dropLast) | none => .bad
  | .popAt, .lst xs, [.int i] => match pixN xs.length i with
    | some k => (match xs[k]? with | some v => .ok (v, .lst (xs.eraseIdx k)) | none => .bad)
    | none => .bad
  | _, _, _ => .bad
def setV : PV → PV → PV → Res PV
  | .lst xs, .int i, v => match pixN xs.length i with | some k => .ok (.lst (xs.set k v)) | none => .bad
  | .dic ks vs, .tup k, v => if ks.length < szl ∧ (ints? k).isSome = true ∧ (ks.any fun z => PV.eqv z (.tup k)) = false then .ok (.dic (ks ++ [.tup k]) (vs ++ [v])) else .bad
  | _, _, _ => .bad

/-- in place, ints alone -/
def augV : Bin → PV → PV → Res PV
  | .add, .int i, .int j => .ok (.int (i + j))
  | .sub, .int i, .int j => .ok (.int (i - j))
  | _, _, _ => .bad

/-! ### the syntax -/
inductive T where | v (i : Nat) | tup (ts : List T)
inductive E where
  | c (v : PV)
  | v (i : Nat)
  | mv (i : Nat)
  | and (a b : E) | or (a b : E) | not (a : E)
  | un (o : Un) (a : E)
  | bin (o : Bin) (a b : E)
  | cmp (o : Cm) (a b : E)
  | chain (o1 o2 : Cm) (a b c : E)
  | ite (t a b : E)
  | call (f : Nat) (args : List E)
  | callio (f : Nat) (i : Nat) (args : List E)
  | callv (i : Nat) (args : List E)
  | bi (b : Bi) (args : List E)
  | me (m : Me) (o : E) (args : List E)
  | mu (m : Mu) (i : Nat) (args : List E)
  | sub (a i : E)
  | slc (a : E) (lo hi : Option E)
  | rev (a : E)
  | tup (es : List E) | lst (es : List E)
  | lc (own : List Nat) (t : T) (k : IK) (src : List E) (ifs : List E) (elt : E)
  | lcx (own : List Nat) (t : T) (k : IK) (src : List E) (elt : E)
  | dic1 (k : E) (v : PV)
inductive S where
  | asg (t : T) (e : E)
  | par (ts : List Nat) (es : List E)
  | setI (i : Nat) (k e : E)
  | augI (i : Nat) (o : Bin) (k e : E)
  | ex (e : E)
  | ret (e : E)
  | ite (c : E) (a b : List S)
  | for (t : T) (k : IK) (src : List E) (body : List S)
  | while (c : E) (body : List S)
  | raise (c : Nat) (a : Option E)
  | brk | cont | pass
  | tr (body : List S) (hs : List (Nat × Option Nat × E))

/-! ### the run -/
abbrev VR := Res (VO × Env)
abbrev CallT := Nat → Bool → List PV → Res (VO × PV)

mutual
@[simp] def asgT : T → PV → Env → Res Env
  | .v i, v, ρ => .ok (ρ.set i (.s v))
  | .tup ts, .tup xs, ρ => asgTs ts xs ρ
  | .tup _, _, _ => .bad
@[simp] def asgTs : List T → List PV → Env → Res Env
  | [], [], ρ => .ok ρ
  | t :: ts, x :: xs, ρ => (asgT t x ρ).bind fun ρ1 => asgTs ts xs ρ1
  | _, _, _ => .bad
end
@[simp] def wipeE (own : List Nat) (ρ : Env) : Env := own.foldl (fun r i => r.set i .n) ρ
@[simp] def restE (ρ0 : Env) (own : List Nat) (ρ : Env) : Env := own.foldl (fun r i => r.set i (ρ0.getD i .n)) ρ
@[simp] def lockE : List E → Env → Env
  | [], ρ => ρ
  | .v i :: es, ρ => (match ρ[i]? with | some (.o v) => lockE es (ρ.set i (.b v)) | _ => lockE es ρ)
  | _ :: es, ρ => lockE es ρ
@[simp] def unlockE (ρ0 : Env) : List E → Env → Env
  | [], ρ => ρ
  | .v i :: es, ρ => (match ρ0[i]?, ρ[i]? with | some (.o _), some (.b v) => unlockE ρ0 es (ρ.set i (.o v)) | _, _ => unlockE ρ0 es ρ)
  | _ :: es, ρ => unlockE ρ0 es ρ
def lcLoop (own : List Nat) (f : PV → Env → Res (Option PV × Env)) : List PV → Env → Res (List PV × Env)
  | [], ρ => .ok ([], ρ)
  | x :: xs, ρ => (f x ρ).bind fun p => (lcLoop own f xs (wipeE own p.2)).bind fun q => .ok (p.1.toList ++ q.1, q.2)
/-- an operand: a value, or a slot that is read when the operation is done -/
inductive Opd where | val (v : PV) | sl (i : Nat)
@[simp] def opd (e : E) (run : Env → VR) (ρ : Env) : Res (Opd × Env) :=
  match e with
  | .v i => match ρ[i]? with
    | some (.s _) => .ok (.sl i, ρ)
    | some (.o _) => .ok (.sl i, ρ)
    | some (.b _) => .ok (.sl i, ρ)
    | _ => .bad
  | _ => (run ρ).bind fun r => .ok (.val r.1.1, r.2)
@[simp] def rdO : Opd → Env → Res PV
  | .val v, _ => .ok v
  | .sl i, ρ => match ρ[i]? with
    | some (.s v) => .ok v
    | some (.o v) => .ok v
    | some (.b v) => .ok v
    | _ => .bad
@[simp] def rdOs : List Opd → Env → Res (List PV)
  | [], _ => .ok []
  | o :: os, ρ => (rdO o ρ).bind fun v => (rdOs os ρ).bind fun vs => .ok (v :: vs)
def Res.noexc {α : Type} : Res α → Res α
  | .ok a => .ok a
  | _ => .bad
@[simp] theorem Res.noexc_ok {α : Type} (a : α) : Res.noexc (.ok a) = .ok a := rfl
@[simp] theorem Res.noexc_bad {α : Type} : Res.noexc (.bad : Res α) = .bad := rfl
@[simp] theorem Res.noexc_exc {α : Type} (c : Nat) (a : PV) : Res.noexc (.exc c a : Res α) = .bad := rfl
/-- what the first turn lets out -/
def fstX (f : PV → Env → Res (Option PV × Env)) : List PV → Env → Option (Nat × PV)
  | [], _ => none
  | x :: _, ρ => match f x ρ with
    | .exc c a => some (c, a)
    | _ => none
/-- own names hold no list of their own ahead of a walk -/
@[simp] def ownFree (own : List Nat) (ρ : Env) : Bool := own.all fun i => match ρ[i]? with
  | some (.o _) => false
  | some (.b _) => false
  | _ => true
section
variable (call : CallT)
mutual
@[simp] def evE : E → Env → VR
  | .c v, ρ => .ok ((v, false), ρ)
  | .v i, ρ => match ρ[i]? with
    | some (.s v) => .ok ((v, false), ρ)
    | some (.o v) => .ok ((v, false), ρ.set i (.s v))
    | _ => .bad
  | .mv i, ρ => match ρ[i]? with
    | some (.s v) => .ok ((v, false), ρ)
    | some (.o v) => .ok ((v, true), ρ.set i .n)
    | _ => .bad
  | .and a b, ρ => (evE a ρ).bind fun p => match p.1.1 with
    | .bl true => evE b p.2
    | .bl false => .ok ((.bl false, false), p.2)
    | _ => .bad
  | .or a b, ρ => (evE a ρ).bind fun p => match p.1.1 with
    | .bl true => .ok ((.bl true, false), p.2)
    | .bl false => evE b p.2
    | _ => .bad
  | .not a, ρ => (evE a ρ).bind fun p => match p.1.1 with
    | .bl b => .ok ((.bl (!b), false), p.2)
    | _ => .bad
  | .un o a, ρ => (opd a (evE a) ρ).bind fun p => (rdO p.1 p.2).bind fun x => (unV o x).bind fun r => .ok (r, p.2)
  | .bin o a b, ρ => (opd a (evE a) ρ).bind fun p => (opd b (evE b) p.2).bind fun q => (rdO p.1 q.2).bind fun x => (rdO q.1 q.2).bind fun y =>
      (binV o x y).bind fun r => .ok (r, q.2)
  | .cmp o a b, ρ => (opd a (evE a) ρ).bind fun p => (opd b (evE b) p.2).bind fun q => (rdO p.1 q.2).bind fun x => (rdO q.1 q.2).bind fun y =>
      (cmpV o x y).bind fun r => .ok (r, q.2)
  | .chain o1 o2 a b c, ρ => (evE a ρ).bind fun p => (evE b p.2).bind fun q => (cmpV o1 p.1.1 q.1.1).bind fun r => match r.1 with
    | .bl true => (evE c q.2).bind fun q' => (cmpV o2 q.1.1 q'.1.1).bind fun r => .ok (r, q'.2)
    | .bl false => .ok ((.bl false, false), q.2)
    | _ => .bad
  | .ite t a b, ρ => (evE t ρ).bind fun p => match p.1.1 with
    | .bl true => evE a p.2
    | .bl false => evE b p.2
    | _ => .bad
  | .call f args, ρ => (evEs args ρ).bind fun p => (call f false p.1).bind fun r => .ok (r.1, p.2)
  | .callio f i args, ρ => match ρ[i]? with
    | some (.o _) => (evEs args ρ).bind fun p => (match p.2[i]? with
      | some (.o v) => (call f true (v :: p.1)).bind fun r => .ok (r.1, p.2.set i (.o r.2))
      | _ => .bad)
    | _ => .bad
  | .callv i args, ρ => match ρ[i]? with
    | some (.s (.fn f)) => (evEs args ρ).bind fun p => (call f false p.1).bind fun r => .ok (r.1, p.2)
    | _ => .bad
  | .bi b args, ρ => (evBs args ρ).bind fun p => (rdOs p.1 p.2).bind fun xs => (biV b xs).bind fun r => .ok (r, p.2)
  | .me m o args, ρ => (opd o (evE o) ρ).bind fun p => (rdO p.1 p.2).bind fun x0 => if m.on x0.kd = true then (evBs args p.2).bind fun q => (rdO p.1 q.2).bind fun x => (rdOs q.1 q.2).bind fun xs =>
      if x0.kd = x.kd then (meV m x xs).bind fun r => .ok (r, q.2) else .bad else .bad
  | .mu m i args, ρ => match ρ[i]? with
    | some (.o (.lst _)) => (evEs args ρ).bind fun p => (match p.2[i]? with
      | some (.o v) => (muV m v p.1).bind fun r => .ok ((r.1, false), p.2.set i (.o r.2))
      | _ => .bad)
    | _ => .bad
  | .sub a i, ρ => (opd a (evE a) ρ).bind fun p => (opd i (evE i) p.2).bind fun q => (rdO p.1 q.2).bind fun x => (rdO q.1 q.2).bind fun y =>
      (subV x y).bind fun r => .ok ((r, false), q.2)
  | .slc a lo hi, ρ => (opd a (evE a) ρ).bind fun p => (evO lo p.2).bind fun q => (evO hi q.2).bind fun q' => (rdO p.1 q'.2).bind fun x =>
      (slcV x q.1 q'.1).bind fun r => .ok (r, q'.2)
  | .rev a, ρ => (opd a (evE a) ρ).bind fun p => (rdO p.1 p.2).bind fun x => (revV x).bind fun r => .ok (r, p.2)
  | .tup es, ρ => (evEs es ρ).bind fun p => if p.1.length ≤ szl then .ok ((.tup p.1, false), p.2) else .bad
  | .lst es, ρ => (evEs es ρ).bind fun p => if p.1.length ≤ szl then .ok ((.lst p.1, true), p.2) else .bad
  | .lc own t k src ifs elt, ρ => (evBs src ρ).bind fun p => (rdOs p.1 p.2).bind fun ss => (itemsOf k ss).bind fun xs =>
    if xs.length ≤ szl ∧ ownFree own p.2 = true then
      (lcLoop own (fun x ρ1 => (asgT t x ρ1).bind fun ρ2 => (evIfs ifs ρ2).bind fun q =>
        if q.1 then (evE elt q.2).bind fun r => .ok (some r.1.1, r.2) else .ok (none, q.2)) xs (wipeE own (lockE src p.2))).noexc.bind fun q =>
      .ok ((.lst q.1, true), unlockE p.2 src (restE p.2 own q.2))
    else .bad
  | .lcx own t k src elt, ρ => (evBs src ρ).bind fun p => (rdOs p.1 p.2).bind fun ss => (itemsOf k ss).bind fun xs =>
    if xs.length ≤ szl ∧ ownFree own p.2 = true then
      (match fstX (fun x ρ1 => (asgT t x ρ1).bind fun ρ2 => (evE elt ρ2).bind fun r => .ok (some r.1.1, r.2)) xs (wipeE own (lockE src p.2)) with
      | some ca => .exc ca.1 ca.2
      | none => (lcLoop own (fun x ρ1 => (asgT t x ρ1).bind fun ρ2 => (evE elt ρ2).bind fun r => .ok (some r.1.1, r.2)) xs (wipeE own (lockE src p.2))).noexc.bind fun q =>
        .ok ((.lst q.1, true), unlockE p.2 src (restE p.2 own q.2)))
    else .bad
  | .dic1 k v, ρ => (evE k ρ).bind fun p => match p.1.1 with
    | .tup xs => if (ints? xs).isSome = true then .ok ((.dic [.tup xs] [v], true), p.2) else .bad
    | _ => .bad
@[simp] def evEs : List E → Env → Res (List PV × Env)
  | [], ρ => .ok ([], ρ)
  | e :: es, ρ => (evE e ρ).bind fun r => (evEs es r.2).bind fun q => .ok (r.1.1 :: q.1, q.2)
@[simp] def evOs : List E → Env → Res (List VO × Env)
  | [], ρ => .ok ([], ρ)
  | e :: es, ρ => (evE e ρ).bind fun r => (evOs es r.2).bind fun q => .ok (r.1 :: q.1, q.2)
@[simp] def evBs : List E → Env → Res (List Opd × Env)
  | [], ρ => .ok ([], ρ)
  | e :: es, ρ => (opd e (evE e) ρ).bind fun r => (evBs es r.2).bind fun q => .ok (r.1 :: q.1, q.2)
@[simp] def evO : Option E → Env → Res (Option Int × Env)
  | none, ρ => .ok (none, ρ)
  | some e, ρ => (evE e ρ).bind fun r => match r.1.1 with
    | .int i => .ok (some i, r.2)
    | _ => .bad
@[simp] def evIfs : List E → Env → Res (Bool × Env)
  | [], ρ => .ok (true, ρ)
  | e :: es, ρ => (evE e ρ).bind fun r => match r.1.1 with
    | .bl true => evIfs es r.2
    | .bl false => .ok (false, r.2)
    | _ => .bad
end
/-! ### statements -/
inductive Fl where
  | nx (ρ : Env) | bk (ρ : Env) | ct (ρ : Env) | rt (r : VO) (ρ : Env)
@[simp] def stoV (i : Nat) (r : VO) (ρ : Env) : Env := ρ.set i (if r.2 then .o r.1 else .s r.1)
@[simp] def stoVs : List Nat → List VO → Env → Res Env
  | [], [], ρ => .ok ρ
  | i :: is, v :: vs, ρ => stoVs is vs (stoV i v ρ)
  | _, _, _ => .bad
def forL (f : PV → Env → Res Fl) : List PV → Env → Res Fl
  | [], ρ => .ok (.nx ρ)
  | x :: xs, ρ => (f x ρ).bind fun r => match r with
    | .nx ρ' => forL f xs ρ'
    | .ct ρ' => forL f xs ρ'
    | .bk ρ' => .ok (.nx ρ')
    | .rt v ρ' => .ok (.rt v ρ')
def whL (c : Env → Res (Bool × Env)) (f : Env → Res Fl) : Nat → Env → Res Fl
  | 0, _ => .bad
  | n + 1, ρ => (c ρ).bind fun p => if p.1 then (f p.2).bind fun r => (match r with
    | .nx ρ' => whL c f n ρ'
    | .ct ρ' => whL c f n ρ'
    | .bk ρ' => .ok (.nx ρ')
    | .rt v ρ' => .ok (.rt v ρ')) else .ok (.nx p.2)
abbrev WF : Nat := 100000000
@[simp] def tst (e : E) (ρ : Env) : Res (Bool × Env) := (evE call e ρ).bind fun p => match p.1.1 with
  | .bl b => .ok (b, p.2)
  | _ => .bad
/-- a handler's value: constants, the exception's attribute -/
@[simp] def evHa : E → PV → Option PV
  | .c v, _ => some v
  | .v _, .non => none
  | .v _, a => some a
  | _, _ => none
@[simp] def evHs : List E → PV → Option (List PV)
  | [], _ => some []
  | e :: es, a => (evHa e a).bind fun v => (evHs es a).map (v :: ·)
@[simp] def evH : E → PV → Option PV
  | .tup es, a => (evHs es a).map .tup
  | e, a => evHa e a
@[simp] def hndl (n : Nat) (r : Res Fl) : List (Nat × Option Nat × E) → Res Fl
  | [] => r
  | (c, _, e) :: hs => match r with
    | .exc c' a => if c = c' then (match evH e a with | some v => .ok (.rt (v, false) (List.replicate n Slot.n)) | none => .bad)
      else hndl n (.exc c' a) hs
    | r => r
mutual
@[simp] def exS : S → Env → Res Fl
  | .asg t e, ρ => (evE call e ρ).bind fun r => match t with
    | .v i => .ok (.nx (stoV i r.1 r.2))
    | t => (asgT t r.1.1 r.2).bind fun ρ' => .ok (.nx ρ')
  | .par ts es, ρ => (evOs call es ρ).bind fun p => (stoVs ts p.1 p.2).bind fun ρ' => .ok (.nx ρ')
  | .setI i k e, ρ => match ρ[i]? with
    | some (.o _) => (evE call e ρ).bind fun r => (evE call k r.2).bind fun q => (match q.2[i]? with
      | some (.o v) => (setV v q.1.1 r.1.1).bind fun v' => .ok (.nx (q.2.set i (.o v')))
      | _ => .bad)
    | _ => .bad
  | .augI i o k e, ρ => match ρ[i]? with
    | some (.o _) => (evE call k ρ).bind fun q => (match q.2[i]? with
      | some (.o v) => (subV v q.1.1).bind fun w => (evE call e q.2).bind fun r => (augV o w r.1.1).bind fun z => (match r.2[i]? with
        | some (.o v2) => (setV v2 q.1.1 z).bind fun v' => .ok (.nx (r.2.set i (.o v')))
        | _ => .bad)
      | _ => .bad)
    | _ => .bad
  | .ex e, ρ => (evE call e ρ).bind fun r => .ok (.nx r.2)
  | .ret e, ρ => (evE call e ρ).bind fun r => .ok (.rt r.1 r.2)
  | .ite c a b, ρ => (tst call c ρ).bind fun p => if p.1 then exSs a p.2 else exSs b p.2
  | .for t k src body, ρ => (evEs call src ρ).bind fun p => (itemsOf k p.1).bind fun xs =>
    forL (fun x ρ1 => (asgT t x ρ1).bind fun ρ2 => exSs body ρ2) xs p.2
  | .while c body, ρ => whL (tst call c) (fun ρ1 => exSs body ρ1) WF ρ
  | .raise c none, _ => .exc c .non
  | .raise c (some e), ρ => (evE call e ρ).bind fun r => .exc c r.1.1
  | .brk, ρ => .ok (.bk ρ)
  | .cont, ρ => .ok (.ct ρ)
  | .pass, ρ => .ok (.nx ρ)
  | .tr body hs, ρ => hndl ρ.length (exSs body ρ) hs
@[simp] def exSs : List S → Env → Res Fl
  | [], ρ => .ok (.nx ρ)
  | s :: ss, ρ => (exS s ρ).bind fun r => match r with
    | .nx ρ' => exSs ss ρ'
    | r => .ok r
end
end
/-! ### defs -/
structure FnD where
  np : Nat
  ns : Nat
  body : List S
  /-- its first parameter may be a list that it changes -/
  io : Bool := false
@[simp] def startE (io : Bool) (ns : Nat) : List PV → Env
  | [] => List.replicate ns .n
  | v :: vs => (if io then .o v else .s v) :: (vs.map Slot.s ++ List.replicate (ns - (vs.length + 1)) .n)
@[simp] def finF (io : Bool) : Fl → Res (VO × PV)
  | .nx ρ => if io then (match ρ[(0 : Nat)]? with | some (.o v) => .ok ((.non, false), v) | _ => .bad) else .ok ((.non, false), .non)
  | .rt r ρ => if io then (match ρ[(0 : Nat)]? with | some (.o v) => .ok (r, v) | _ => .bad) else .ok (r, .non)
  | _ => .bad
def callF (tab : Nat → Option FnD) : Nat → CallT
  | 0, _, _, _ => .bad
  | d + 1, f, io, vs => match tab f with
    | some fd => if (decide (vs.length = fd.np) && (!io || fd.io)) = true then (exSs (callF tab d) fd.body (startE io fd.ns vs)).bind (finF io) else .bad
    | none => .bad
end EV
set_option autoImplicit false
set_option linter.all false
/-! Slots: pointwise; what one's own lists may become in an expression. -/
namespace EV
def Slot.own : Slot → Bool
  | .o _ => true
  | .b _ => true
  | _ => false
def Slot.isB : Slot → Bool
  | .b _ => true
  | _ => false
def Slot.lock : Slot → Slot
  | .o v => .b v
  | x => x
def Slot.unlock (o : Option Slot) (x : Slot) : Slot := match o, x with
  | some (.o _), .b v => .o v
  | _, y => y
theorem unlock_n (o : Option Slot) : Slot.unlock o .n = .n := by
  cases o with
  | none => rfl
  | some x => cases x <;> rfl
theorem unlock_s (o : Option Slot) (v : PV) : Slot.unlock o (.s v) = .s v := by
  cases o with
  | none => rfl
  | some x => cases x <;> rfl
def hasV : List E → Nat → Bool
  | [], _ => false
  | .v j :: es, i => j == i || hasV es i
  | _ :: es, i => hasV es i
theorem getSet {ρ : Env} {j i : Nat} {x : Slot} : (ρ.set j x)[i]? = (ρ[i]?).map fun s => if j = i then x else s := by
  by_cases h : j = i
  · subst h
    by_cases hl : j < ρ.length
    · rw [List.getElem?_set_self hl, List.getElem?_eq_getElem hl]
      simp
    · rw [List.getElem?_eq_none (by simpa using hl), List.getElem?_eq_none (by simpa using hl)]
      rfl
  · rw [List.getElem?_set_ne h]
    simp [h]
theorem wipeE_get : ∀ (own : List Nat) (ρ : Env) (i : Nat), (wipeE own ρ)[i]? = (ρ[i]?).map fun s => if i ∈ own then .n else s
  | [], ρ, i => by simp [wipeE]
  | j :: own, ρ, i => by
    have h := wipeE_get own (ρ.set j .n) i
    simp only [wipeE, List.foldl_cons] at h ⊢
    rw [h, getSet, Option.map_map]
    congr 1
    funext s
    simp only [Function.comp, List.mem_cons]
    by_cases h1 : i ∈ own
    · simp [h1]
    · by_cases h2 : j = i
      · simp [h1, h2]
      · have h3 : ¬ i = j := fun z => h2 z.symm
        simp [h1, h2, h3]
theorem restE_get (ρ0 : Env) : ∀ (own : List Nat) (ρ : Env) (i : Nat), (restE ρ0 own ρ)[i]? = (ρ[i]?).map fun s => if i ∈ own then ρ0.getD i .n else s
  | [], ρ, i => by simp [restE]
  | j :: own, ρ, i => by
    have h := restE_get ρ0 own (ρ.set j (ρ0.getD j .n)) i
    simp only [restE, List.foldl_cons] at h ⊢
    rw [h, getSet, Option.map_map]
    congr 1
    funext s
    simp only [Function.comp, List.mem_cons]
    by_cases h1 : i ∈ own
    · simp [h1]
    · by_cases h2 : j = i
      · subst h2
        simp [h1]
      · have h3 : ¬ i = j := fun z => h2 z.symm
        simp [h1, h2, h3]
theorem lockE_get : ∀ (es : List E) (ρ : Env) (i : Nat), (lockE es ρ)[i]? = (ρ[i]?).map fun s => if hasV es i = true then s.lock else s
  | [], ρ, i => by simp [lockE, hasV]
  | e :: es, ρ, i => by
    have other : ∀ ρ', lockE (e :: es) ρ = lockE es ρ' → (hasV (e :: es) i = hasV es i) → ρ' = ρ → (lockE (e :: es) ρ)[i]? = (ρ[i]?).map fun s => if hasV (e :: es) i = true then s.lock else s := fun ρ' h1 h2 h3 => by
      rw [h1, h2, h3]
      exact lockE_get es ρ i
    cases e with
    | v j =>
      simp only [lockE, hasV]
      split
      · rename_i w hw
        rw [lockE_get es _ i, getSet, Option.map_map]
        by_cases hj : j = i
        · subst hj
          rw [hw]
          simp [Slot.lock]
        · congr 1
          funext s
          simp [hj]
      · rename_i hw
        rw [lockE_get es ρ i]
        by_cases hj : j = i
        · subst hj
          cases hs : ρ[j]? with
          | none => rfl
          | some sl =>
            cases sl with
            | o w => exact absurd hs (hw w)
            | _ => simp [Slot.lock]
        · simp [hj]
    | _ => exact other ρ (by simp [lockE]) (by simp [hasV]) rfl
theorem unlockE_get (ρ0 : Env) : ∀ (es : List E) (ρ : Env) (i : Nat), (unlockE ρ0 es ρ)[i]? = (ρ[i]?).map fun s => if hasV es i = true then s.unlock ρ0[i]? else s
  | [], ρ, i => by simp [unlockE, hasV]
  | e :: es, ρ, i => by
    have other : ∀ ρ', unlockE ρ0 (e :: es) ρ = unlockE ρ0 es ρ' → (hasV (e :: es) i = hasV es i) → ρ' = ρ → (unlockE ρ0 (e :: es) ρ)[i]? = (ρ[i]?).map fun s => if hasV (e :: es) i = true then s.unlock ρ0[i]? else s := fun ρ' h1 h2 h3 => by
      rw [h1, h2, h3]
      exact unlockE_get ρ0 es ρ i
    cases e with
    | v j =>
      simp only [unlockE, hasV]
      split
      · rename_i w0 w hw0 hw
        rw [unlockE_get ρ0 es _ i, getSet, Option.map_map]
        by_cases hj : j = i
        · subst hj
          rw [hw, hw0]
          simp [Slot.unlock]
        · congr 1
          funext s
          simp [hj]
      · rename_i hw
        rw [unlockE_get ρ0 es ρ i]
        by_cases hj : j = i
        · subst hj
          cases hs : ρ[j]? with
          | none => rfl
          | some sl =>
            cases h0 : ρ0[j]? with
            | none => simp [Slot.unlock]
            | some s0 =>
              cases s0 with
              | o w0 =>
                cases sl with
                | b w => exact absurd hs (hw w0 w h0)
                | _ => simp [Slot.unlock]
              | _ => simp [Slot.unlock]
        · simp [hj]
    | _ => exact other ρ (by simp [unlockE]) (by simp [hasV]) rfl
theorem wipeE_len (own : List Nat) (ρ : Env) : (wipeE own ρ).length = ρ.length := by
  induction own generalizing ρ with
  | nil => rfl
  | cons j own ih =>
    have := ih (ρ.set j .n)
    simp only [wipeE, List.foldl_cons] at this ⊢
    rw [this, List.length_set]
theorem restE_len (ρ0 : Env) (own : List Nat) (ρ : Env) : (restE ρ0 own ρ).length = ρ.length := by
  induction own generalizing ρ with
  | nil => rfl
  | cons j own ih =>
    have := ih (ρ.set j (ρ0.getD j .n))
    simp only [restE, List.foldl_cons] at this ⊢
    rw [this, List.length_set]
theorem lockE_len : ∀ (es : List E) (ρ : Env), (lockE es ρ).length = ρ.length
  | [], ρ => rfl
  | e :: es, ρ => by
    cases e with
    | v j =>
      simp only [lockE]
      split
      · rw [lockE_len, List.length_set]
      · rw [lockE_len]
    | _ => simp only [lockE, lockE_len]
theorem unlockE_len (ρ0 : Env) : ∀ (es : List E) (ρ : Env), (unlockE ρ0 es ρ).length = ρ.length
  | [], ρ => rfl
  | e :: es, ρ => by
    cases e with
    | v j =>
      simp only [unlockE]
      split
      · rw [unlockE_len, List.length_set]
      · rw [unlockE_len]
    | _ => simp only [unlockE, unlockE_len]
/-- what is one's own behind was so ahead -/
structure LeE (ρ ρ' : Env) : Prop where
  len : ρ'.length = ρ.length
  own : ∀ (i : Nat) (s' : Slot), ρ'[i]? = some s' → s'.own = true → ∃ s, ρ[i]? = some s ∧ s.own = true ∧ s.isB = s'.isB
theorem LeE.refl (ρ : Env) : LeE ρ ρ := ⟨rfl, fun i s h o => ⟨s, h, o, rfl⟩⟩
theorem LeE.trans {a b c : Env} (h : LeE a b) (k : LeE b c) : LeE a c := ⟨k.len.trans h.len, fun i s e o => by
  obtain ⟨s1, e1, o1, b1⟩ := k.own i s e o
  obtain ⟨s2, e2, o2, b2⟩ := h.own i s1 e1 o1
  exact ⟨s2, e2, o2, b2.trans b1⟩⟩
theorem LeE.set {ρ : Env} {i : Nat} {x : Slot} (h : ∀ s, ρ[i]? = some s → x.own = true → s.own = true ∧ s.isB = x.isB) : LeE ρ (ρ.set i x) := by
  refine ⟨by simp, fun j s e o => ?_⟩
  rw [getSet] at e
  cases hs : ρ[j]? with
  | none => rw [hs] at e; cases e
  | some s0 =>
    rw [hs] at e
    by_cases hj : i = j
    · subst hj
      simp at e
      subst e
      obtain ⟨h1, h2⟩ := h s0 hs o
      exact ⟨s0, rfl, h1, h2⟩
    · simp [hj] at e
      subst e
      exact ⟨s0, rfl, o, rfl⟩
theorem LeE.setS {ρ : Env} {i : Nat} {v : PV} : LeE ρ (ρ.set i (.s v)) := LeE.set fun _ _ o => by cases o
theorem LeE.setN {ρ : Env} {i : Nat} : LeE ρ (ρ.set i .n) := LeE.set fun _ _ o => by cases o
theorem LeE.setO {ρ : Env} {i : Nat} {v w : PV} (h : ρ[i]? = some (.o v)) : LeE ρ (ρ.set i (.o w)) := LeE.set fun s e _ => by
  rw [h] at e
  cases e
  exact ⟨rfl, rfl⟩
theorem LeE.wipe (own : List Nat) (ρ : Env) : LeE ρ (wipeE own ρ) := ⟨wipeE_len own ρ, fun i s e o => by
  rw [wipeE_get] at e
  cases hs : ρ[i]? with
  | none => rw [hs] at e; cases e
  | some s0 =>
    rw [hs] at e
    simp only [Option.map_some, Option.some.injEq] at e
    by_cases h : i ∈ own
    · rw [if_pos h] at e
      subst e
      cases o
    · rw [if_neg h] at e
      subst e
      exact ⟨s0, rfl, o, rfl⟩⟩
mutual
theorem asgT_le : ∀ (t : T) (v : PV) (ρ ρ' : Env), asgT t v ρ = .ok ρ' → LeE ρ ρ'
  | .v i, v, ρ, ρ', h => by
    cases h
    exact LeE.setS
  | .tup ts, .tup xs, ρ, ρ', h => by
    simp only [asgT] at h
    exact asgTs_le ts xs ρ ρ' h
  | .tup ts, .non, ρ, ρ', h | .tup ts, .bl _, ρ, ρ', h | .tup ts, .int _, ρ, ρ', h | .tup ts, .str _, ρ, ρ', h | .tup ts, .lst _, ρ, ρ', h | .tup ts, .dic _ _, ρ, ρ', h | .tup ts, .set _, ρ, ρ', h | .tup ts, .fn _, ρ, ρ', h | .tup ts, .rng _ _, ρ, ρ', h | .tup ts, .scr _, ρ, ρ', h => by simp [asgT] at h
theorem asgTs_le : ∀ (ts : List T) (vs : List PV) (ρ ρ' : Env), asgTs ts vs ρ = .ok ρ' → LeE ρ ρ'
  | [], [], ρ, ρ', h => by
    cases h
    exact LeE.refl ρ
  | [], _ :: _, ρ, ρ', h => by simp at h
  | _ :: _, [], ρ, ρ', h => by simp at h
  | t :: ts, v :: vs, ρ, ρ', h => by
    simp only [asgTs] at h
    cases h1 : asgT t v ρ with
    | ok ρ1 =>
      rw [h1, Res.bind_ok] at h
      exact (asgT_le t v ρ ρ1 h1).trans (asgTs_le ts vs ρ1 ρ' h)
    | exc _ _ => rw [h1] at h; cases h
    | bad => rw [h1] at h; cases h
end
theorem bind_ok {α β : Type} {x : Res α} {f : α → Res β} {b : β} (h : x.bind f = .ok b) : ∃ a, x = .ok a ∧ f a = .ok b := by
  cases x with
  | ok a => exact ⟨a, rfl, h⟩
  | exc _ _ => cases h
  | bad => cases h
theorem noexc_ok {α : Type} {x : Res α} {b : α} (h : x.noexc = .ok b) : x = .ok b := by
  cases x with
  | ok a => exact h
  | exc _ _ => cases h
  | bad => cases h
theorem lcLoop_le {own : List Nat} {f : PV → Env → Res (Option PV × Env)} (hf : ∀ x ρ r, f x ρ = .ok r → LeE ρ r.2) : ∀ (xs : List PV) (ρ : Env) (q : List PV × Env), lcLoop own f xs ρ = .ok q → LeE ρ q.2
  | [], ρ, q, h => by
    cases h
    exact LeE.refl ρ
  | x :: xs, ρ, q, h => by
    unfold lcLoop at h
    obtain ⟨p, h1, h2⟩ := bind_ok h
    obtain ⟨q', h3, h4⟩ := bind_ok h2
    cases h4
    exact ((hf x ρ p h1).trans (LeE.wipe own p.2)).trans (lcLoop_le hf xs _ q' h3)
theorem opd_le {e : E} {run : Env → VR} (hr : ∀ ρ r, run ρ = .ok r → LeE ρ r.2) {ρ : Env} {r : Opd × Env} (h : opd e run ρ = .ok r) : LeE ρ r.2 := by
  cases e with
  | v i =>
    simp only [opd] at h
    split at h
    · cases h; exact LeE.refl ρ
    · cases h; exact LeE.refl ρ
    · cases h; exact LeE.refl ρ
    · cases h
  | _ =>
    simp only [opd] at h
    obtain ⟨p, h1, h2⟩ := bind_ok h
    cases h2
    exact hr ρ p h1
theorem lc_le {own : List Nat} {src : List E} {ρ ρe : Env} (hf : ownFree own ρ = true) (h : LeE (wipeE own (lockE src ρ)) ρe) : LeE ρ (unlockE ρ src (restE ρ own ρe)) := by
  refine ⟨?_, fun i s e o => ?_⟩
  · rw [unlockE_len, restE_len, h.len, wipeE_len, lockE_len]
  · rw [unlockE_get, restE_get] at e
    cases hs : ρe[i]? with
    | none => rw [hs] at e; cases e
    | some se =>
      rw [hs] at e
      simp only [Option.map_some, Option.some.injEq] at e
      by_cases hi : i ∈ own
      · rw [if_pos hi] at e
        have hfi := List.all_eq_true.mp hf i hi
        have hl : i < ρ.length := by
          have h1 := (List.getElem?_eq_some_iff.mp hs).1
          have h2 := h.len
          rw [wipeE_len, lockE_len] at h2
          omega
        rw [List.getD_eq_getElem?_getD, List.getElem?_eq_getElem hl, Option.getD_some] at e
        rw [List.getElem?_eq_getElem hl] at hfi ⊢
        refine ⟨ρ[i], rfl, ?_⟩
        cases hw : ρ[i] with
        | n =>
          rw [hw] at e
          subst e
          split at o <;> cases o
        | s v =>
          rw [hw] at e
          subst e
          split at o <;> cases o
        | o v =>
          rw [hw] at hfi
          cases hfi
        | b v =>
          rw [hw] at hfi
          cases hfi
      · rw [if_neg hi] at e
        have ose : se.own = true := by
          by_cases hv : hasV src i = true
          · rw [if_pos hv] at e
            subst e
            cases se with
            | n =>
              rw [unlock_n] at o
              cases o
            | s v =>
              rw [unlock_s] at o
              cases o
            | o v => rfl
            | b v => rfl
          · rw [if_neg hv] at e
            subst e
            exact o
        obtain ⟨s1, e1, o1, b1⟩ := h.own i se hs ose
        rw [wipeE_get, lockE_get] at e1
        cases h0 : ρ[i]? with
        | none => rw [h0] at e1; cases e1
        | some s0 =>
          rw [h0] at e1 e
          simp only [Option.map_some, Option.some.injEq, if_neg hi] at e1
          refine ⟨s0, rfl, ?_⟩
          by_cases hv : hasV src i = true
          · rw [if_pos hv] at e1 e
            subst e1
            cases s0 with
            | n => cases o1
            | s v => cases o1
            | o v =>
              cases se with
              | b w =>
                subst e
                exact ⟨rfl, rfl⟩
              | o w => cases b1
              | n => cases ose
              | s w => cases ose
            | b v =>
              cases se with
              | b w =>
                subst e
                exact ⟨rfl, rfl⟩
              | o w => cases b1
              | n => cases ose
              | s w => cases ose
          · rw [if_neg hv] at e1 e
            subst e1 e
            exact ⟨o1, b1⟩
section
variable (c : CallT)
mutual
theorem evE_le : ∀ (e : E) (ρ : Env) (r : VO × Env), evE c e ρ = .ok r → LeE ρ r.2
  | .c v, ρ, r, h => by
    cases h
    exact LeE.refl ρ
  | .v i, ρ, r, h => by
    simp only [evE] at h
    split at h
    · cases h; exact LeE.refl ρ
    · cases h; exact LeE.setS
    · cases h
  | .mv i, ρ, r, h => by
    simp only [evE] at h
    split at h
    · cases h; exact LeE.refl ρ
    · cases h; exact LeE.setN
    · cases h
  | .and a b, ρ, r, h => by
    simp only [evE] at h
    obtain ⟨p, h1, h2⟩ := bind_ok h
    split at h2
    · exact (evE_le a ρ p h1).trans (evE_le b _ r h2)
    · cases h2; exact evE_le a ρ p h1
    · cases h2
  | .or a b, ρ, r, h => by
    simp only [evE] at h
    obtain ⟨p, h1, h2⟩ := bind_ok h
    split at h2
    · cases h2; exact evE_le a ρ p h1
    · exact (evE_le a ρ p h1).trans (evE_le b _ r h2)
    · cases h2
  | .not a, ρ, r, h => by
    simp only [evE] at h
    obtain ⟨p, h1, h2⟩ := bind_ok h
    split at h2
    · cases h2; exact evE_le a ρ p h1
    · cases h2
  | .un o a, ρ, r, h => by
    simp only [evE] at h
    obtain ⟨p, h1, h2⟩ := bind_ok h
    obtain ⟨x, _, h3⟩ := bind_ok h2
    obtain ⟨y, _, h4⟩ := bind_ok h3
    cases h4
    exact opd_le (evE_le a) h1
  | .bin o a b, ρ, r, h => by
    simp only [evE] at h
    obtain ⟨p, h1, h2⟩ := bind_ok h
    obtain ⟨q, h3, h4⟩ := bind_ok h2
    obtain ⟨x, _, h5⟩ := bind_ok h4
    obtain ⟨y, _, h6⟩ := bind_ok h5
    obtain ⟨z, _, h7⟩ := bind_ok h6
    cases h7
    exact (opd_le (evE_le a) h1).trans (opd_le (evE_le b) h3)
  | .cmp o a b, ρ, r, h => by
    simp only [evE] at h
    obtain ⟨p, h1, h2⟩ := bind_ok h
    obtain ⟨q, h3, h4⟩ := bind_ok h2
    obtain ⟨x, _, h5⟩ := bind_ok h4
    obtain ⟨y, _, h6⟩ := bind_ok h5
    obtain ⟨z, _, h7⟩ := bind_ok h6
    cases h7
    exact (opd_le (evE_le a) h1).trans (opd_le (evE_le b) h3)
  | .chain o1 o2 a b d, ρ, r, h => by
    simp only [evE] at h
    obtain ⟨p, h1, h2⟩ := bind_ok h
    obtain ⟨q, h3, h4⟩ := bind_ok h2
    obtain ⟨x, _, h5⟩ := bind_ok h4
    have l := (evE_le a ρ p h1).trans (evE_le b _ q h3)
    split at h5
    · obtain ⟨y, h6, h7⟩ := bind_ok h5
      obtain ⟨z, _, h8⟩ := bind_ok h7
      cases h8
      exact l.trans (evE_le d _ y h6)
    · cases h5; exact l
    · cases h5
  | .ite t a b, ρ, r, h => by
    simp only [evE] at h
    obtain ⟨p, h1, h2⟩ := bind_ok h
    split at h2
    · exact (evE_le t ρ p h1).trans (evE_le a _ r h2)
    · exact (evE_le t ρ p h1).trans (evE_le b _ r h2)
    · cases h2
  | .call f args, ρ, r, h => by
    simp only [evE] at h
    obtain ⟨p, h1, h2⟩ := bind_ok h
    obtain ⟨x, _, h3⟩ := bind_ok h2
    cases h3
    exact evEs_le args ρ p h1
  | .callio f i args, ρ, r, h => by
    simp only [evE] at h
    split at h
    · obtain ⟨p, h1, h2⟩ := bind_ok h
      split at h2
      · rename_i hv
        obtain ⟨x, _, h3⟩ := bind_ok h2
        cases h3
        exact (evEs_le args ρ p h1).trans (LeE.setO hv)
      · cases h2
    · cases h
  | .callv i args, ρ, r, h => by
    simp only [evE] at h
    split at h
    · obtain ⟨p, h1, h2⟩ := bind_ok h
      obtain ⟨x, _, h3⟩ := bind_ok h2
      cases h3
      exact evEs_le args ρ p h1
    · cases h
  | .bi b args, ρ, r, h => by
    simp only [evE] at h
    obtain ⟨p, h1, h2⟩ := bind_ok h
    obtain ⟨x, _, h3⟩ := bind_ok h2
    obtain ⟨y, _, h4⟩ := bind_ok h3
    cases h4
    exact evBs_le args ρ p h1
  | .me m o args, ρ, r, h => by
    simp only [evE] at h
    obtain ⟨p, h1, h2⟩ := bind_ok h
    obtain ⟨x, _, h3⟩ := bind_ok h2
    split at h3
    · obtain ⟨q, h4, h5⟩ := bind_ok h3
      obtain ⟨y, _, h6⟩ := bind_ok h5
      obtain ⟨z, _, h7⟩ := bind_ok h6
      split at h7
      · obtain ⟨w, _, h8⟩ := bind_ok h7
        cases h8
        exact (opd_le (evE_le o) h1).trans (evBs_le args _ q h4)
      · cases h7
    · cases h3
  | .mu m i args, ρ, r, h => by
    simp only [evE] at h
    split at h
    · obtain ⟨p, h1, h2⟩ := bind_ok h
      split at h2
      · rename_i hv
        obtain ⟨x, _, h3⟩ := bind_ok h2
        cases h3
        exact (evEs_le args ρ p h1).trans (LeE.setO hv)
      · cases h2
    · cases h
  | .sub a i, ρ, r, h => by
    simp only [evE] at h
    obtain ⟨p, h1, h2⟩ := bind_ok h
    obtain ⟨q, h3, h4⟩ := bind_ok h2
    obtain ⟨x, _, h5⟩ := bind_ok h4
    obtain ⟨y, _, h6⟩ := bind_ok h5
    obtain ⟨z, _, h7⟩ := bind_ok h6
    cases h7
    exact (opd_le (evE_le a) h1).trans (opd_le (evE_le i) h3)
  | .slc a lo hi, ρ, r, h => by
    simp only [evE] at h
    obtain ⟨p, h1, h2⟩ := bind_ok h
    obtain ⟨q, h3, h4⟩ := bind_ok h2
    obtain ⟨q', h5, h6⟩ := bind_ok h4
    obtain ⟨x, _, h7⟩ := bind_ok h6
    obtain ⟨y, _, h8⟩ := bind_ok h7
    cases h8
    exact (opd_le (evE_le a) h1).trans ((evO_le lo _ q h3).trans (evO_le hi _ q' h5))
  | .rev a, ρ, r, h => by
    simp only [evE] at h
    obtain ⟨p, h1, h2⟩ := bind_ok h
    obtain ⟨x, _, h3⟩ := bind_ok h2
    obtain ⟨y, _, h4⟩ := bind_ok h3
    cases h4
    exact opd_le (evE_le a) h1
  | .tup es, ρ, r, h => by
    simp only [evE] at h
    obtain ⟨p, h1, h2⟩ := bind_ok h
    split at h2
    · cases h2; exact evEs_le es ρ p h1
    · cases h2
  | .lst es, ρ, r, h => by
    simp only [evE] at h
    obtain ⟨p, h1, h2⟩ := bind_ok h
    split at h2
    · cases h2; exact evEs_le es ρ p h1
    · cases h2
  | .lc own t k src ifs elt, ρ, r, h => by
    simp only [evE] at h
    obtain ⟨p, h1, h2⟩ := bind_ok h
    obtain ⟨x, _, h3⟩ := bind_ok h2
    obtain ⟨y, _, h4⟩ := bind_ok h3
    split at h4
    · rename_i hc
      obtain ⟨q, h5, h6⟩ := bind_ok h4
      have h7 := noexc_ok h5
      cases h6
      refine (evBs_le src ρ p h1).trans (lc_le hc.2 (lcLoop_le (fun x ρ1 r1 g1 => ?_) _ _ q h7))
      obtain ⟨ρ2, g2, g3⟩ := bind_ok g1
      obtain ⟨w, g4, g5⟩ := bind_ok g3
      have l := (asgT_le t x ρ1 ρ2 g2).trans (evIfs_le ifs ρ2 w g4)
      split at g5
      · obtain ⟨z, g6, g7⟩ := bind_ok g5
        cases g7
        exact l.trans (evE_le elt _ z g6)
      · cases g5
        exact l
    · cases h4
  | .lcx own t k src elt, ρ, r, h => by
    simp only [evE] at h
    obtain ⟨p, h1, h2⟩ := bind_ok h
    obtain ⟨x, _, h3⟩ := bind_ok h2
    obtain ⟨y, _, h4⟩ := bind_ok h3
    split at h4
    · rename_i hc
      split at h4
      · cases h4
      · obtain ⟨q, h5, h6⟩ := bind_ok h4
        have h7 := noexc_ok h5
        cases h6
        refine (evBs_le src ρ p h1).trans (lc_le hc.2 (lcLoop_le (fun x ρ1 r1 g1 => ?_) _ _ q h7))
        obtain ⟨ρ2, g2, g3⟩ := bind_ok g1
        obtain ⟨z, g6, g7⟩ := bind_ok g3
        cases g7
        exact (asgT_le t x ρ1 ρ2 g2).trans (evE_le elt _ z g6)
    · cases h4
  | .dic1 k v, ρ, r, h => by
    simp only [evE] at h
    obtain ⟨p, h1, h2⟩ := bind_ok h
    split at h2
    · split at h2
      · cases h2
        exact evE_le k ρ p h1
      · cases h2
    · cases h2
theorem evEs_le : ∀ (es : List E) (ρ : Env) (r : List PV × Env), evEs c es ρ = .ok r → LeE ρ r.2
  | [], ρ, r, h => by
    cases h
    exact LeE.refl ρ
  | e :: es, ρ, r, h => by
    simp only [evEs] at h
    obtain ⟨p, h1, h2⟩ := bind_ok h
    obtain ⟨q, h3, h4⟩ := bind_ok h2
    cases h4
    exact (evE_le e ρ p h1).trans (evEs_le es _ q h3)
theorem evOs_le : ∀ (es : List E) (ρ : Env) (r : List VO × Env), evOs c es ρ = .ok r → LeE ρ r.2
  | [], ρ, r, h => by
    cases h
    exact LeE.refl ρ
  | e :: es, ρ, r, h => by
    simp only [evOs] at h
    obtain ⟨p, h1, h2⟩ := bind_ok h
    obtain ⟨q, h3, h4⟩ := bind_ok h2
    cases h4
    exact (evE_le e ρ p h1).trans (evOs_le es _ q h3)
theorem evBs_le : ∀ (es : List E) (ρ : Env) (r : List Opd × Env), evBs c es ρ = .ok r → LeE ρ r.2
  | [], ρ, r, h => by
    cases h
    exact LeE.refl ρ
  | e :: es, ρ, r, h => by
    simp only [evBs] at h
    obtain ⟨p, h1, h2⟩ := bind_ok h
    obtain ⟨q, h3, h4⟩ := bind_ok h2
    cases h4
    exact (opd_le (evE_le e) h1).trans (evBs_le es _ q h3)
theorem evO_le : ∀ (o : Option E) (ρ : Env) (r : Option Int × Env), evO c o ρ = .ok r → LeE ρ r.2
  | none, ρ, r, h => by
    cases h
    exact LeE.refl ρ
  | some e, ρ, r, h => by
    simp only [evO] at h
    obtain ⟨p, h1, h2⟩ := bind_ok h
    split at h2
    · cases h2; exact evE_le e ρ p h1
    · cases h2
theorem evIfs_le : ∀ (es : List E) (ρ : Env) (r : Bool × Env), evIfs c es ρ = .ok r → LeE ρ r.2
  | [], ρ, r, h => by
    cases h
    exact LeE.refl ρ
  | e :: es, ρ, r, h => by
    simp only [evIfs] at h
    obtain ⟨p, h1, h2⟩ := bind_ok h
    split at h2
    · exact (evE_le e ρ p h1).trans (evIfs_le es _ r h2)
    · cases h2; exact evE_le e ρ p h1
    · cases h2
end
end
end EV
set_option Elab.async false
set_option linter.all false
set_option autoImplicit false
/-! Soundness of the evaluator over the hand layer: the relation of its states to the abstract heap. -/
namespace EV
open PySem PySem.Spec PyProof.Rows L2

abbrev toS (s : List Nat) : Str := ⟨s.toArray⟩
/-- what is fixed: the program, the world, the written part, where the defs and the exceptions' classes stand -/
structure GE where
  P : Program
  w : World
  K : PySem.W.Frag
  mg : Str → Option Value
  base : Heap
  fa : Nat → Addr
  ca : Nat → Addr
  dm : Nat → Prop
  dc : Nat → Prop
abbrev AS := Addr → Prop

/-- a tuple whose object has no dict -/
def SqD (K : PySem.W.Frag) (H : Hp) (a : Addr) (xs : List V) : Prop :=
  (∃ o : Obj, H a = some (.frz o (.tup xs)) ∧ o.dict = none) ∨
    ∃ (o : Obj) (its : Array Value) (n : Nat), K.lookup a = some o ∧ o.cls = .type "tuple" ∧ o.dict = none ∧ o.data = .seq its n ∧ its.size ≤ sizeLine ∧ Vals xs its.toList
theorem SqD.sq {K : PySem.W.Frag} {H : Hp} {a : Addr} {xs : List V} (h : SqD K H a xs) : SqT K H a xs := by
  rcases h with ⟨o, h, _⟩ | ⟨o, its, n, h1, h2, _, h3, h4, h5⟩
  · exact .inl (.inr ⟨o, h⟩)
  · exact .inr ⟨o, its, n, h1, h2, h3, h4, h5⟩
/-- a list that nobody changes -/
def FzL (K : PySem.W.Frag) (H : Hp) (a : Addr) (xs : List V) : Prop := (∃ o, H a = some (.frz o (.lst xs))) ∨
    ∃ (o : Obj) (its : Array Value) (n : Nat), K.lookup a = some o ∧ o.cls = .type "list" ∧ o.dict = none ∧ o.data = .seq its n ∧ its.size ≤ sizeLine ∧ Vals xs its.toList
theorem FzL.sq {K : PySem.W.Frag} {H : Hp} {a : Addr} {xs : List V} (h : FzL K H a xs) : SqL K H a xs := h.imp .inr id
theorem FzL.of {K : PySem.W.Frag} {H : Hp} {a : Addr} {xs : List V} (hO : Only H) (h : SqL K H a xs) : FzL K H a xs := by
  rcases h with (h | h) | h
  · rcases hO a with z | ⟨o, ys, z⟩
    · rw [h] at z; cases z
    · rw [h] at z; cases z
  · exact .inl h
  · exact .inr h
/-- the entries of a dict whose keys are tuples of ints -/
abbrev KX : Type := List Int × Addr × Value
def kxK (x : KX) : List L2.Key × Addr × Value := (x.1.map Sum.inl, x.2)
def dicO (g : GE) (a : Addr) (xs : List KX) : HO := .ext fun h => (a == sysModules) = false ∧ ∃ o es ep, h.get? a = some o ∧ o.ExactDict ∧ o.data = .dict es ep ∧ es.toList = (xs.map kxK).map (entryOfKey (tupleKind (mixKind g.P g.w))) ∧ ((xs.map kxK).map (·.1)).Nodup
abbrev kxP (xs : List KX) : List PV := xs.map fun x => PV.tup (x.1.map PV.int)
abbrev kxV (xs : List KX) : List V := xs.map fun x => V.ref x.2.1
mutual
/-- the value v stands for the tree; its lists are shared ones -/
inductive RV (g : GE) (F : AS) (H : Hp) : PV → V → Prop
  | non : RV g F H .non .non
  | bl (b : Bool) : RV g F H (.bl b) (.bl b)
  | int (i : Int) : RV g F H (.int i) (.int i)
  | str (s : List Nat) : RV g F H (.str s) (.str (toS s))
  | tup {a : Addr} {xs : List PV} {vs : List V} : SqD g.K H a vs → RVs g F H xs vs → RV g F H (.tup xs) (.ref a)
  | lst {a : Addr} {xs : List PV} {vs : List V} : F a → H a = some (.lst vs) → RVs g F H xs vs → RV g F H (.lst xs) (.ref a)
  | fn {f : Nat} (h : g.dm f) : RV g F H (.fn f) (.ref (g.fa f))
  | rng {a : Addr} {lo hi : Int} : H a = some (.rng lo hi) → RV g F H (.rng lo hi) (.ref a)
  | scr {a : Addr} {ns : List Int} : FzL g.K H a (ns.map V.int) → RV g F H (.scr ns) (.ref a)
  | dic {a : Addr} {ks vs : List PV} {xs : List KX} : F a → H a = some (dicO g a xs) → ks = kxP xs → RVs g F H ks (kxV xs) → RV g F H (.dic ks vs) (.ref a)
inductive RVs (g : GE) (F : AS) (H : Hp) : List PV → List V → Prop
  | nil : RVs g F H [] []
  | cons {x : PV} {xs : List PV} {v : V} {vs : List V} : RV g F H x v → RVs g F H xs vs → RVs g F H (x :: xs) (v :: vs)
end

def Stat : HO → Prop
  | .tup _ => True
  | .frz _ _ => True
  | .rng _ _ => True
  | _ => False
/-- what may change: neither shared nor protected things; F grows by what is not protected -/
structure Step (P F : AS) (H : Hp) (F' : AS) (H' : Hp) : Prop where
  sub : ∀ a, F a → F' a
  kF : ∀ a o, F a → H a = some o → H' a = some o
  kP : ∀ a o, P a → H a = some o → H' a = some o
  kS : ∀ a o, Stat o → H a = some o → H' a = some o
  nF : ∀ a, F' a → F a ∨ ¬ P a
section
variable {g : GE} {P P' F F' F1 F2 : AS} {H H' H1 H2 : Hp} {v : PV} {x : V} {xs : List PV} {vs : List V} {a : Addr} {o : HO}
theorem Step.refl : Step P F H F H := ⟨fun _ h => h, fun _ _ _ h => h, fun _ _ _ h => h, fun _ _ _ h => h, fun _ h => .inl h⟩
theorem Step.trans (s : Step P F H F1 H1) (t : Step P F1 H1 F2 H2) : Step P F H F2 H2 :=
  ⟨fun a h => t.sub a (s.sub a h), fun a o f h => t.kF a o (s.sub a f) (s.kF a o f h), fun a o f h => t.kP a o f (s.kP a o f h),
   fun a o f h => t.kS a o f (s.kS a o f h), fun a h => (t.nF a h).elim (fun z => s.nF a z) .inr⟩
theorem Step.grow (h : ∀ a o, H a = some o → H' a = some o) : Step P F H F H' :=
  ⟨fun _ h => h, fun a o _ q => h a o q, fun a o _ q => h a o q, fun a o _ q => h a o q, fun _ h => .inl h⟩
theorem Step.weak (hp : ∀ a, P a → P' a) (s : Step P' F H F' H') : Step P F H F' H' :=
  ⟨s.sub, s.kF, fun a o p h => s.kP a o (hp a p) h, s.kS, fun a h => (s.nF a h).elim .inl fun z => .inr fun q => z (hp a q)⟩
theorem grow_upd (h : H a = none) : ∀ b u, H b = some u → upd H a o b = some u := fun b u e => by
  rw [upd_ne (ne_of_none e h)]
  exact e
theorem SqT.mono {K : PySem.W.Frag} (s : Step P F H F' H') (h : SqT K H a vs) : SqT K H' a vs := by
  rcases h with (h | ⟨o, h⟩) | h
  · exact .inl (.inl (s.kS a _ trivial h))
  · exact .inl (.inr ⟨o, s.kS a _ trivial h⟩)
  · exact .inr h
theorem SqD.mono {K : PySem.W.Frag} (s : Step P F H F' H') (h : SqD K H a vs) : SqD K H' a vs := by
  rcases h with ⟨o, h, hd⟩ | h
  · exact .inl ⟨o, s.kS a _ trivial h, hd⟩
  · exact .inr h
mutual
theorem RV.mono (s : Step P F H F' H') : ∀ {v : PV} {x : V}, RV g F H v x → RV g F' H' v x
  | _, _, .non => .non
  | _, _, .bl b => .bl b
  | _, _, .int i => .int i
  | _, _, .str t => .str t
  | _, _, .tup h r => .tup (SqD.mono s h) (RVs.mono s r)
  | _, _, .lst f h r => .lst (s.sub _ f) (s.kF _ _ f h) (RVs.mono s r)
  | _, _, .fn f => .fn f
  | _, _, .rng h => .rng (s.kS _ _ trivial h)
  | _, _, .scr h => .scr (h.imp (fun ⟨o, h⟩ => ⟨o, s.kS _ _ trivial h⟩) id)
  | _, _, .dic f h e r => .dic (s.sub _ f) (s.kF _ _ f h) e (RVs.mono s r)
theorem RVs.mono (s : Step P F H F' H') : ∀ {xs : List PV} {vs : List V}, RVs g F H xs vs → RVs g F' H' xs vs
  | _, _, .nil => .nil
  | _, _, .cons h r => .cons (RV.mono s h) (RVs.mono s r)
end
theorem RVs.length : ∀ {xs : List PV} {vs : List V}, RVs g F H xs vs → xs.length = vs.length
  | _, _, .nil => rfl
  | _, _, .cons _ r => congrArg (· + 1) (RVs.length r)
theorem RVs.get : ∀ {xs : List PV} {vs : List V} {i : Nat} {v : PV}, RVs g F H xs vs → xs[i]? = some v → ∃ x, vs[i]? = some x ∧ RV g F H v x
  | _, _, _, _, .nil, e => by simp at e
  | _, _, 0, _, .cons r _, e => by
    simp at e
    subst e
    exact ⟨_, rfl, r⟩
  | _, _, i + 1, v, .cons _ t, e => by
    obtain ⟨x, h1, h2⟩ := RVs.get (i := i) (v := v) t (by simpa using e)
    exact ⟨x, by simpa using h1, h2⟩
theorem RVs.append : ∀ {xs ys : List PV} {vs ws : List V}, RVs g F H xs vs → RVs g F H ys ws → RVs g F H (xs ++ ys) (vs ++ ws)
  | _, _, _, _, .nil, s => s
  | _, _, _, _, .cons r t, s => .cons r (RVs.append t s)
theorem RVs.set {v : PV} {x : V} (r : RV g F H v x) : ∀ {xs : List PV} {vs : List V} (i : Nat), RVs g F H xs vs → RVs g F H (xs.set i v) (vs.set i x)
  | _, _, _, .nil => .nil
  | _, _, 0, .cons _ t => .cons r t
  | _, _, i + 1, .cons q t => .cons q (RVs.set r i t)
theorem RVs.take : ∀ {xs : List PV} {vs : List V} (n : Nat), RVs g F H xs vs → RVs g F H (xs.take n) (vs.take n)
  | _, _, 0, _ => .nil
  | _, _, _ + 1, .nil => .nil
  | _, _, n + 1, .cons r t => .cons r (RVs.take n t)
theorem RVs.drop : ∀ {xs : List PV} {vs : List V} (n : Nat), RVs g F H xs vs → RVs g F H (xs.drop n) (vs.drop n)
  | _, _, 0, r => r
  | _, _, _ + 1, .nil => .nil
  | _, _, n + 1, .cons _ t => RVs.drop n t
theorem RVs.erase : ∀ {xs : List PV} {vs : List V} (n : Nat), RVs g F H xs vs → RVs g F H (xs.eraseIdx n) (vs.eraseIdx n)
  | _, _, _, .nil => .nil
  | _, _, 0, .cons _ t => t
  | _, _, n + 1, .cons r t => .cons r (RVs.erase n t)
theorem RVs.dropLast : ∀ {xs : List PV} {vs : List V}, RVs g F H xs vs → RVs g F H xs.dropLast vs.dropLast
  | _, _, .nil => .nil
  | _, _, .cons _ .nil => .nil
  | _, _, .cons r (.cons r2 t) => .cons r (RVs.dropLast (.cons r2 t))
theorem RVs.reverse {xs : List PV} {vs : List V} (h : RVs g F H xs vs) : RVs g F H xs.reverse vs.reverse := by
  induction xs generalizing vs with
  | nil => cases h; exact .nil
  | cons x xs ih =>
    cases h with
    | cons r t =>
      rw [List.reverse_cons, List.reverse_cons]
      exact RVs.append (ih t) (.cons r .nil)
theorem RVs.rep {xs : List PV} {vs : List V} (h : RVs g F H xs vs) : ∀ k : Nat, RVs g F H (List.replicate k xs).flatten (List.replicate k vs).flatten
  | 0 => .nil
  | k + 1 => by
    rw [List.replicate_succ, List.replicate_succ, List.flatten_cons, List.flatten_cons]
    exact RVs.append h (RVs.rep h k)
theorem RVs.ints : ∀ (ns : List Int), RVs g F H (ns.map PV.int) (ns.map V.int)
  | [] => .nil
  | n :: ns => .cons (.int n) (RVs.ints ns)
theorem RVs.get_none {i : Nat} (h : RVs g F H xs vs) (e : vs[i]? = none) : xs[i]? = none := by
  rw [List.getElem?_eq_none_iff] at e ⊢
  rw [h.length]
  exact e

/-- a list of one's own at a -/
def OAt (g : GE) (F : AS) (H : Hp) (v : PV) (a : Addr) : Prop := match v with
  | .lst xs => ∃ vs, H a = some (.lst vs) ∧ RVs g F H xs vs
  | .dic ks _ => ∃ xs, H a = some (dicO g a xs) ∧ ks = kxP xs ∧ RVs g F H ks (kxV xs)
  | _ => False
theorem OAt.mono (s : Step P F H F' H') (e : ∀ o, H a = some o → H' a = some o) (h : OAt g F H v a) : OAt g F' H' v a := by
  cases v with
  | lst xs =>
    obtain ⟨vs, h1, h2⟩ := h
    exact ⟨vs, e _ h1, h2.mono s⟩
  | dic ks vs =>
    obtain ⟨xs, h1, h2, h3⟩ := h
    exact ⟨xs, e _ h1, h2, h3.mono s⟩
  | _ => exact h.elim
theorem OAt.there (h : OAt g F H v a) : H a ≠ none := by
  cases v with
  | lst xs =>
    obtain ⟨vs, h1, h2⟩ := h
    rw [h1]
    simp
  | dic ks vs =>
    obtain ⟨xs, h1, h2, h3⟩ := h
    rw [h1]
    simp
  | _ => exact h.elim
/-- an operand: a shared value, or a list of one's own looked at -/
def RB (g : GE) (F : AS) (H : Hp) (v : PV) (x : V) : Prop := RV g F H v x ∨ ∃ a, x = .ref a ∧ OAt g F H v a
theorem RB.lst (h : RB g F H (.lst xs) x) : ∃ a vs, x = .ref a ∧ H a = some (.lst vs) ∧ RVs g F H xs vs := by
  rcases h with h | ⟨a, e, vs, h1, h2⟩
  · cases h with
    | lst f e r => exact ⟨_, _, rfl, e, r⟩
  · exact ⟨a, vs, e, h1, h2⟩
theorem RB.tup (h : RB g F H (.tup xs) x) : ∃ a vs, x = .ref a ∧ SqD g.K H a vs ∧ RVs g F H xs vs := by
  rcases h with h | ⟨a, e, h1⟩
  · cases h with
    | tup e r => exact ⟨_, _, rfl, e, r⟩
  · exact h1.elim
theorem RB.int {i : Int} (h : RB g F H (.int i) x) : x = .int i := by
  rcases h with h | ⟨a, e, h1⟩
  · cases h; rfl
  · exact h1.elim
theorem RB.bl {i : Bool} (h : RB g F H (.bl i) x) : x = .bl i := by
  rcases h with h | ⟨a, e, h1⟩
  · cases h; rfl
  · exact h1.elim
theorem RB.str {i : List Nat} (h : RB g F H (.str i) x) : x = .str (toS i) := by
  rcases h with h | ⟨a, e, h1⟩
  · cases h; rfl
  · exact h1.elim
theorem RB.non (h : RB g F H .non x) : x = .non := by
  rcases h with h | ⟨a, e, h1⟩
  · cases h; rfl
  · exact h1.elim
theorem RB.rng {lo hi : Int} (h : RB g F H (.rng lo hi) x) : ∃ a, x = .ref a ∧ H a = some (.rng lo hi) := by
  rcases h with h | ⟨a, e, h1⟩
  · cases h with
    | rng e => exact ⟨_, rfl, e⟩
  · exact h1.elim
theorem RB.scr {ns : List Int} (h : RB g F H (.scr ns) x) : ∃ a, x = .ref a ∧ SqL g.K H a (ns.map V.int) := by
  rcases h with h | ⟨a, e, h1⟩
  · cases h with
    | scr e => exact ⟨_, rfl, e.sq⟩
  · exact h1.elim
end

/-! ### slots -/
def SlR (g : GE) (P F : AS) (H : Hp) : Slot → Option V → Prop
  | .n, _ => True
  | .s v, o => ∃ x, o = some x ∧ RV g F H v x
  | .o v, o => ∃ a, o = some (.ref a) ∧ ¬ F a ∧ ¬ P a ∧ OAt g F H v a
  | .b v, o => ∃ a, o = some (.ref a) ∧ ¬ F a ∧ P a ∧ OAt g F H v a
structure REnv (g : GE) (P F : AS) (ρ : Env) (σ : L2.St) (H : Hp) : Prop where
  len : ρ.length = σ.length
  at_ : ∀ (i : Nat) (sl : Slot), ρ[i]? = some sl → ∃ o, σ[i]? = some o ∧ SlR g P F H sl o
  dis : ∀ (i j : Nat) (si sj : Slot) (a : Addr), i ≠ j → ρ[i]? = some si → ρ[j]? = some sj → si.own = true → sj.own = true → σ[i]? = some (some (.ref a)) → σ[j]? = some (some (.ref a)) → False
  dP : ∀ a, P a → H a ≠ none
  dF : ∀ a, F a → H a ≠ none
/-- a is in no slot of its own -/
def NotIn (ρ : Env) (σ : L2.St) (a : Addr) : Prop := ∀ (i : Nat) (sl : Slot), ρ[i]? = some sl → sl.own = true → σ[i]? ≠ some (some (.ref a))
/-- a result: shared, or a list of its own -/
def RRes (g : GE) (P : AS) (σ : L2.St) (F : AS) (ρ : Env) (H : Hp) (r : VO) (x : V) : Prop :=
  (r.2 = false ∧ RV g F H r.1 x) ∨ (r.2 = true ∧ ∃ a, x = .ref a ∧ ¬ F a ∧ ¬ P a ∧ OAt g F H r.1 a ∧ NotIn ρ σ a)
section
variable {g : GE} {P P' F F' : AS} {ρ ρ' : Env} {σ σ' : L2.St} {H H' : Hp} {v : PV} {x : V} {a : Addr} {i : Nat} {sl : Slot} {o : HO}
theorem REnv.slot (h : REnv g P F ρ σ H) (e : ρ[i]? = some sl) : ∃ o, σ[i]? = some o ∧ SlR g P F H sl o := h.at_ i sl e
theorem REnv.lt (h : REnv g P F ρ σ H) (e : ρ[i]? = some sl) : i < σ.length := by
  rw [← h.len]
  exact (List.getElem?_eq_some_iff.mp e).1
/-- a state that only grew, or changed what no slot holds -/
theorem REnv.mono (h : REnv g P F ρ σ H) (s : Step P F H F' H') (hn : ∀ a, F' a → F a ∨ NotIn ρ σ a) (hk : ∀ (i : Nat) (sl : Slot) (a : Addr) (o : HO), ρ[i]? = some sl → sl.own = true → σ[i]? = some (some (.ref a)) → H a = some o → H' a = some o)
    (hd : ∀ a, F' a → H' a ≠ none) : REnv g P F' ρ σ H' := by
  refine ⟨h.len, fun i sl e => ?_, h.dis, fun a p => ?_, hd⟩
  · obtain ⟨o, e1, r⟩ := h.at_ i sl e
    refine ⟨o, e1, ?_⟩
    cases sl with
    | n => trivial
    | s v => obtain ⟨x, e2, r⟩ := r; exact ⟨x, e2, r.mono s⟩
    | o v =>
      obtain ⟨a, e2, n1, n2, r⟩ := r
      subst e2
      exact ⟨a, rfl, fun z => (hn a z).elim n1 fun q => q i _ e rfl e1, n2, r.mono s fun o q => hk i _ a o e rfl e1 q⟩
    | b v =>
      obtain ⟨a, e2, n1, n2, r⟩ := r
      subst e2
      exact ⟨a, rfl, fun z => (hn a z).elim n1 fun q => q i _ e rfl e1, n2, r.mono s fun o q => hk i _ a o e rfl e1 q⟩
  · cases q : H a with
    | none => exact absurd q (h.dP a p)
    | some o => rw [s.kP a o p q]; simp
theorem REnv.grow (h : REnv g P F ρ σ H) (k : ∀ a o, H a = some o → H' a = some o) : REnv g P F ρ σ H' :=
  h.mono (Step.grow k) (fun a z => .inl z) (fun _ _ a o _ _ _ q => k a o q) fun a f => by
    cases q : H a with
    | none => exact absurd q (h.dF a f)
    | some o => rw [k a o q]; simp
/-- a result becomes a shared value -/
theorem RRes.freeze {r : VO} (env : REnv g P F ρ σ H) (h : RRes g P σ F ρ H r x) : ∃ F', Step P F H F' H ∧ REnv g P F' ρ σ H ∧ RV g F' H r.1 x := by
  rcases h with ⟨_, h⟩ | ⟨_, a, e, n1, n2, h, ni⟩
  · exact ⟨F, Step.refl, env, h⟩
  · have st : Step P F H (fun b => F b ∨ b = a) H :=
      ⟨fun _ q => .inl q, fun _ _ _ q => q, fun _ _ _ q => q, fun _ _ _ q => q, fun b q => q.elim .inl fun z => .inr (by rw [z]; exact n2)⟩
    refine ⟨fun b => F b ∨ b = a, st, ?_, ?_⟩
    · refine env.mono st (fun b q => q.elim .inl fun z => .inr (by rw [z]; exact ni)) (fun _ _ _ _ _ _ _ q => q) fun b q => ?_
      rcases q with q | rfl
      · exact env.dF b q
      · exact h.there
    · obtain ⟨rv, ro⟩ := r
      cases rv with
      | lst xs =>
        obtain ⟨vs, h1, h2⟩ := h
        subst e
        exact .lst (.inr rfl) h1 (h2.mono st)
      | dic ks vs =>
        obtain ⟨xs, h1, h2, h3⟩ := h
        subst e
        exact .dic (.inr rfl) h1 h2 (h3.mono st)
      | _ => exact h.elim
/-- a slot is set to a shared value -/
theorem REnv.setS (env : REnv g P F ρ σ H) (r : RV g F H v x) : REnv g P F (ρ.set i (.s v)) (σ.set i (some x)) H := by
  refine ⟨by simp [env.len], fun j sl e => ?_, fun j k sj sk a njk e1 e2 o1 o2 e3 e4 => ?_, env.dP, env.dF⟩
  · by_cases hj : i = j
    · subst hj
      have hl : i < ρ.length := by simpa using (List.getElem?_eq_some_iff.mp e).1
      rw [List.getElem?_set_self hl] at e
      cases e
      exact ⟨some x, List.getElem?_set_self (by rw [← env.len]; exact hl), x, rfl, r⟩
    · rw [List.getElem?_set_ne hj] at e ⊢
      exact env.at_ j sl e
  · have hj : i ≠ j := fun z => by
      subst z
      have hl : i < ρ.length := by simpa using (List.getElem?_eq_some_iff.mp e1).1
      rw [List.getElem?_set_self hl] at e1
      cases e1
      cases o1
    have hk : i ≠ k := fun z => by
      subst z
      have hl : i < ρ.length := by simpa using (List.getElem?_eq_some_iff.mp e2).1
      rw [List.getElem?_set_self hl] at e2
      cases e2
      cases o2
    rw [List.getElem?_set_ne hj] at e1 e3
    rw [List.getElem?_set_ne hk] at e2 e4
    exact env.dis j k sj sk a njk e1 e2 o1 o2 e3 e4
/-- a slot is set to a list of its own -/
theorem REnv.setO (env : REnv g P F ρ σ H) (n1 : ¬ F a) (n2 : ¬ P a) (h : OAt g F H v a) (ni : ∀ (j : Nat) (sl : Slot), j ≠ i → ρ[j]? = some sl → sl.own = true → σ[j]? ≠ some (some (.ref a))) : REnv g P F (ρ.set i (.o v)) (σ.set i (some (.ref a))) H := by
  refine ⟨by simp [env.len], fun j sl e => ?_, fun j k sj sk b njk e1 e2 o1 o2 e3 e4 => ?_, env.dP, env.dF⟩
  · by_cases hj : i = j
    · subst hj
      have hl : i < ρ.length := by simpa using (List.getElem?_eq_some_iff.mp e).1
      rw [List.getElem?_set_self hl] at e
      cases e
      exact ⟨_, List.getElem?_set_self (by rw [← env.len]; exact hl), a, rfl, n1, n2, h⟩
    · rw [List.getElem?_set_ne hj] at e ⊢
      exact env.at_ j sl e
  · by_cases hj : i = j
    · subst hj
      have hl : i < ρ.length := by simpa using (List.getElem?_eq_some_iff.mp e1).1
      rw [List.getElem?_set_ne njk] at e2 e4
      rw [List.getElem?_set_self (by rw [← env.len]; exact hl)] at e3
      cases e3
      exact ni k sk (Ne.symm njk) e2 o2 e4
    · rw [List.getElem?_set_ne hj] at e1 e3
      by_cases hk : i = k
      · subst hk
        have hl : i < ρ.length := by simpa using (List.getElem?_eq_some_iff.mp e2).1
        rw [List.getElem?_set_self (by rw [← env.len]; exact hl)] at e4
        cases e4
        exact ni j sj (Ne.symm hj) e1 o1 e3
      · rw [List.getElem?_set_ne hk] at e2 e4
        exact env.dis j k sj sk b njk e1 e2 o1 o2 e3 e4
/-- a slot is forgotten -/
theorem REnv.setN (env : REnv g P F ρ σ H) : REnv g P F (ρ.set i .n) σ H := by
  refine ⟨by simp [env.len], fun j sl e => ?_, fun j k sj sk b njk e1 e2 o1 o2 e3 e4 => ?_, env.dP, env.dF⟩
  · by_cases hj : i = j
    · subst hj
      have hl : i < ρ.length := by simpa using (List.getElem?_eq_some_iff.mp e).1
      rw [List.getElem?_set_self hl] at e
      cases e
      have hs : i < σ.length := by rw [← env.len]; exact hl
      exact ⟨σ[i], List.getElem?_eq_getElem hs, trivial⟩
    · rw [List.getElem?_set_ne hj] at e
      exact env.at_ j sl e
  · have hj : i ≠ j := fun z => by
      subst z
      have hl : i < ρ.length := by simpa using (List.getElem?_eq_some_iff.mp e1).1
      rw [List.getElem?_set_self hl] at e1
      cases e1
      cases o1
    have hk : i ≠ k := fun z => by
      subst z
      have hl : i < ρ.length := by simpa using (List.getElem?_eq_some_iff.mp e2).1
      rw [List.getElem?_set_self hl] at e2
      cases e2
      cases o2
    rw [List.getElem?_set_ne hj] at e1
    rw [List.getElem?_set_ne hk] at e2
    exact env.dis j k sj sk b njk e1 e2 o1 o2 e3 e4
/-- a slot's own list becomes a shared one -/
theorem REnv.share (env : REnv g P F ρ σ H) (e : ρ[i]? = some (.o v)) : ∃ F' x, Step P F H F' H ∧ REnv g P F' (ρ.set i (.s v)) σ H ∧ σ[i]? = some (some x) ∧ RV g F' H v x := by
  obtain ⟨o, e1, a, rfl, n1, n2, r⟩ := env.at_ i _ e
  have env1 : REnv g P F (ρ.set i .n) σ H := env.setN
  have ni : NotIn (ρ.set i .n) σ a := fun j sl e2 o2 e3 => by
    by_cases hj : i = j
    · subst hj
      have hl : i < ρ.length := by simpa using (List.getElem?_eq_some_iff.mp e2).1
      rw [List.getElem?_set_self hl] at e2
      cases e2
      cases o2
    · rw [List.getElem?_set_ne hj] at e2
      exact env.dis i j _ sl a hj e e2 rfl o2 e1 e3
  obtain ⟨F', st, env2, rv⟩ := RRes.freeze (r := (v, true)) (x := .ref a) env1 (.inr ⟨rfl, a, rfl, n1, n2, r, ni⟩)
  refine ⟨F', .ref a, st, ?_, e1, rv⟩
  have q := env2.setS (i := i) rv
  rw [List.set_set] at q
  have es : σ.set i (some (.ref a)) = σ := by
    apply List.ext_getElem? 
    intro j
    by_cases hj : i = j
    · subst hj
      rw [List.getElem?_set_self (env.lt e), e1]
    · rw [List.getElem?_set_ne hj]
  rw [es] at q
  exact q
end
end EV
set_option Elab.async false
set_option linter.all false
set_option autoImplicit false
set_option maxRecDepth 100000
/-! The operations on values. -/
namespace EV
open PySem PySem.Spec PyProof.Rows L2

/-- a new or an old thing, all else as it was -/
def NewR (g : GE) (F : AS) (H H' : Hp) (r : VO) (z : V) : Prop :=
  (∀ a o, H a = some o → H' a = some o) ∧ ((r.2 = false ∧ RV g F H' r.1 z) ∨ (r.2 = true ∧ ∃ a, z = .ref a ∧ H a = none ∧ OAt g F H' r.1 a))
section
variable {g : GE} {F : AS} {H : Hp} {v : PV} {z : V} {xs : List PV} {vs : List V} {p : Addr}
theorem NewR.old (h : RV g F H v z) : NewR g F H H (v, false) z := ⟨fun _ _ q => q, .inl ⟨rfl, h⟩⟩
theorem NewR.tup {o : Obj} (hd : o.dict = none) (hp : H p = none) (h : RVs g F H xs vs) : NewR g F H (upd H p (.frz o (.tup vs))) (.tup xs, false) (.ref p) :=
  ⟨grow_upd hp, .inl ⟨rfl, .tup (.inl ⟨o, upd_same, hd⟩) (h.mono (P := fun _ => False) (Step.grow (grow_upd hp)))⟩⟩
theorem NewR.lst (hp : H p = none) (h : RVs g F H xs vs) : NewR g F H (upd H p (.lst vs)) (.lst xs, true) (.ref p) :=
  ⟨grow_upd hp, .inr ⟨rfl, p, rfl, hp, vs, upd_same, h.mono (P := fun _ => False) (Step.grow (grow_upd hp))⟩⟩
end

/-- two operands by f -/
def rV2 (g : GE) (f : PV → PV → Res VO) : R2 := fun x y H Q => ∃ F u v w, RB g F H u x ∧ RB g F H v y ∧ f u v = .ok w ∧ ∀ H' z, NewR g F H H' w z → Q z H'
def rV1 (g : GE) (f : PV → Res VO) : V → Hp → VK → Prop := fun x H Q => ∃ F u w, RB g F H u x ∧ f u = .ok w ∧ ∀ H' z, NewR g F H H' w z → Q z H'
inductive RBs (g : GE) (F : AS) (H : Hp) : List PV → List V → Prop
  | nil : RBs g F H [] []
  | cons {x : PV} {xs : List PV} {v : V} {vs : List V} : RB g F H x v → RBs g F H xs vs → RBs g F H (x :: xs) (v :: vs)
def rVn (g : GE) (f : List PV → Res VO) : List V → Hp → VK → Prop := fun xs H Q => ∃ F us w, RBs g F H us xs ∧ f us = .ok w ∧ ∀ H' z, NewR g F H H' w z → Q z H'

section
variable {g : GE} {X : Cx}
theorem sz_le {n : Nat} (h : n ≤ szl) : n ≤ sizeLine := by rw [sizeLine_eq]; exact h
theorem sz_lt {n : Nat} (h : n < szl) : n < sizeLine := by rw [sizeLine_eq]; exact h
/-- a new tuple is laid -/
theorem tupEP {pins : List (Addr × Obj)} {σ : L2.St} {H : Hp} {s : Shared} {its : List Value} {vs : List V} {xs : List PV} {F : AS} {Q : VK} {h' : Heap} {t' : Nat} (I : Inv X pins σ H s) (kp : ∀ b o, s.heap.get? b = some o → h'.get? b = some o)
    (hv : Vals vs its) (hz : vs.length ≤ sizeLine) (h : RVs g F H xs vs) (q : ∀ H' z, NewR g F H H' (.tup xs, false) z → Q z H') :
    EP X pins σ Q (.ref h'.objs.size) { s with heap := h'.push { cls := .type "tuple", data := .seq its.toArray }, toks := t' } := by
  have I1 : Inv X pins σ H { s with heap := h', toks := t' } := I.kept kp
  have hp : H h'.objs.size = none := I1.hok.fresh (Nat.le_refl _)
  refine ⟨.ref h'.objs.size, _, I1.laid (t' := t') (o := .frz { cls := .type "tuple", data := .seq its.toArray } (.tup vs)) (fun b o e => Heap.get?_push_of_some _ e) (Nat.le_refl _) ?_, rfl, q _ _ (NewR.tup rfl hp h)⟩
  exact ⟨Heap.get?_push_size _ rfl, hz, its, hv, ⟨_, Heap.get?_push_size _ rfl, rfl, _, rfl⟩⟩
theorem tup_mul0 (l : Addr) (items : Array Value) (n : Nat) (dd : Option Addr) (sl : Array (Option Value)) (x : Int) (u : Tok)
    (c0 : (decide (x < -(2 ^ 63)) || decide (x ≥ 2 ^ 63)) = false) (c1 : (items.isEmpty || x == 1) = false) (c2 : (decide (x ≤ 0) || items.isEmpty) = true) :
    Meets (Builtin.«tuple.__mul__» ⟨[.ref l, .int x u], []⟩) fun _ R s => s.heap.get? l = some { cls := .type "tuple", dict := dd, data := .seq items n, slots := sl } ∧
      R (.ok (.ret (Value.ref s.heap.objs.size))) { s with heap := s.heap.push { cls := Value.type "tuple", data := Data.seq #[] }, toks := s.toks } := by
  refine .of_wp fun prog w A R s h => ?_
  obtain ⟨hp, g, d, tk, os⟩ := s
  obtain ⟨hl, h⟩ := h
  have ix := AutoSeq1.idx_int
  wp_walk using wpAny_loadPart' hl
  refine wpAny_ite_false (decide_eq_false (by rw [c0]; exact Bool.false_ne_true)) ?_
  wp_walk using wpAny_loadPart' hl
  exact ⟨_, rfl, h⟩
theorem tup_mul1 (l : Addr) (items : Array Value) (n : Nat) (dd : Option Addr) (sl : Array (Option Value)) (x : Int) (u : Tok)
    (c0 : (decide (x < -(2 ^ 63)) || decide (x ≥ 2 ^ 63)) = false) (c1 : (items.isEmpty || x == 1) = true) :
    Meets (Builtin.«tuple.__mul__» ⟨[.ref l, .int x u], []⟩) fun _ R s => s.heap.get? l = some { cls := .type "tuple", dict := dd, data := .seq items n, slots := sl } ∧
      R (.ok (.ret (Value.ref l))) s := by
  refine .of_wp fun prog w A R s h => ?_
  obtain ⟨hp, g, d, tk, os⟩ := s
  obtain ⟨hl, h⟩ := h
  have ix := AutoSeq1.idx_int
  wp_walk using wpAny_loadPart' hl
  refine wpAny_ite_false (decide_eq_false (by rw [c0]; exact Bool.false_ne_true)) ?_
  wp_walk using wpAny_loadPart' hl
  exact ⟨_, rfl, h⟩
/-- a tuple some times -/
theorem ep_repT {pins : List (Addr × Obj)} {σ : L2.St} {H : Hp} {s : Shared} {l : Addr} {k : Int} {t : Tok} {F1 : AS} {xs : List PV} {vs : List V} {Q : VK} (I : Inv X pins σ H s) (hT : SqT X.K H l vs) (hr : RVs g F1 H xs vs) (hne : vs ≠ []) (h1 : 2 ≤ k) (h2 : k ≤ 1000) (hz : vs.length ≤ 1000)
    (q : ∀ H' z, NewR g F1 H H' (.tup (repL xs k), false) z → Q z H') : wpAny (model X.prog X.w) X.A (binaryOp .Mult (.ref l) (.int k t)) (EP X pins σ Q) X.xe s := by
  obtain ⟨ys, rv, ⟨⟨c, dd, dt, sl⟩, look, ec, n, ed⟩, _⟩ := I.tuple hT
  simp only at ec ed
  subst ec ed
  have len : ys.length = vs.length := rv.length.symm
  have ne : ys ≠ [] := fun e => hne (by rw [e] at len; exact List.length_eq_zero_iff.mp len.symm)
  have b0 : ys.toArray.isEmpty = false := by cases ys <;> first | exact absurd rfl ne | rfl
  have bsz : ((ys.toArray.size : Nat) : Int) * k ≤ 1000000 := by
    have h3 : ((ys.toArray.size : Nat) : Int) ≤ 1000 := by simp; omega
    calc ((ys.toArray.size : Nat) : Int) * k ≤ 1000 * k := Int.mul_le_mul_of_nonneg_right h3 (by omega)
      _ ≤ 1000000 := by omega
  have fl : ∀ {α : Type} (zs : List α), zs.length = vs.length → (List.replicate k.toNat zs).flatten.length ≤ sizeLine := fun zs e => by
    rw [PyProof.Rows.lm_len_rep_flat, e, sizeLine_eq]
    exact Nat.le_trans (Nat.mul_le_mul (show k.toNat ≤ 1000 by omega) hz) (by omega)
  have q0 : (decide (k < -(2 ^ 63)) || decide (k ≥ 2 ^ 63)) = false := by
    rw [Bool.or_eq_false_iff]
    exact ⟨decide_eq_false (by omega), decide_eq_false (by omega)⟩
  have q1 : (ys.toArray.isEmpty || k == 1) = false := by rw [b0]; exact beq_eq_false_iff_ne.mpr (by omega)
  have q2 : (decide (k ≤ 0) || ys.toArray.isEmpty) = false := by rw [b0, decide_eq_false (show ¬ k ≤ 0 by omega)]; rfl
  have q4 : Builtin.Tuple.tupleTooMany (((ys.toArray.size : Nat) : Int) * k) = false := by
    show decide _ = false
    exact decide_eq_false (by rw [sizeLine_eq]; omega)
  have rep := size_rep ys k.toNat
  have m1 := tuple_mulW l ys.toArray n dd sl k t q0 q1 q2 (by omega) q4 (by rw [rep, List.size_toArray]; exact fl ys len)
  have tI := typeIs_int s k t
  refine wpAny_binaryOp_repeat_ref (T := "tuple") (U := "int") (by decide) ⟨_, look, rfl⟩ (fun z => typeIs_int z k t)
    noFill_tuple_mul PySem.F.fills_int_mul PySem.F.slot_int_rmul repeat_tuple
    PySem.F.slot_int_index.lookup (call_meets PySem.F.slot_int_rmul tI PySem.F.entry_int_rmul
      (PySem.F.args_int_rmul_2 _ _) (int_rmul_tuple k t l ys.toArray n dd sl) ⟨look, rfl, ⟨_, look, rfl⟩, ?_⟩)
  refine call_meets PySem.F.slot_tuple_mul ⟨_, look, rfl⟩ PySem.F.entry_tuple_mul
    (PySem.F.args_tuple_mul_2 _ _) m1 ⟨look, ?_⟩
  rw [rep]
  exact tupEP I (fun _ _ e => e) (rv.rep k.toNat) (fl vs rfl) (hr.rep k.toNat) q
theorem ep_rep01 {pins : List (Addr × Obj)} {σ : L2.St} {H : Hp} {s : Shared} {l : Addr} {k : Int} {t : Tok} {F1 : AS} {xs : List PV} {vs : List V} {Q : VK} (hK : X.K = g.K) (I : Inv X pins σ H s) (hT : SqD X.K H l vs) (hr : RVs g F1 H xs vs) (h0 : -1000 ≤ k) (h2 : k ≤ 1000) (hz : vs.length ≤ 1000)
    (q : ∀ H' z, NewR g F1 H H' (.tup (repL xs k), false) z → Q z H') : wpAny (model X.prog X.w) X.A (binaryOp .Mult (.ref l) (.int k t)) (EP X pins σ Q) X.xe s := by
  by_cases big : vs ≠ [] ∧ 2 ≤ k
  · exact ep_repT I hT.sq hr big.1 big.2 h2 hz q
  obtain ⟨ys, rv, ⟨⟨c, dd, dt, sl⟩, look, ec, n, ed⟩, _⟩ := I.tuple hT.sq
  simp only at ec ed
  subst ec ed
  have len : ys.length = vs.length := rv.length.symm
  have lenx : xs.length = vs.length := hr.length
  have q0 : (decide (k < -(2 ^ 63)) || decide (k ≥ 2 ^ 63)) = false := by
    rw [Bool.or_eq_false_iff]
    exact ⟨decide_eq_false (by omega), decide_eq_false (by omega)⟩
  have tI := typeIs_int s k t
  by_cases one : (ys.toArray.isEmpty || k == 1) = true
  · have m1 := tup_mul1 l ys.toArray n dd sl k t q0 one
    have e : repL xs k = xs := by
      unfold repL
      rcases Bool.or_eq_true_iff.mp one with h | h
      · have : ys = [] := by simpa using h
        rw [this] at len
        have hx : xs = [] := List.length_eq_zero_iff.mp (by rw [lenx, ← len]; rfl)
        rw [hx]
        simp
      · have : k = 1 := eq_of_beq h
        rw [this]
        simp
    rw [e] at q
    refine wpAny_binaryOp_repeat_ref (T := "tuple") (U := "int") (by decide) ⟨_, look, rfl⟩ (fun z => typeIs_int z k t)
      noFill_tuple_mul PySem.F.fills_int_mul PySem.F.slot_int_rmul repeat_tuple
      PySem.F.slot_int_index.lookup (call_meets PySem.F.slot_int_rmul tI PySem.F.entry_int_rmul
        (PySem.F.args_int_rmul_2 _ _) (int_rmul_tuple k t l ys.toArray n dd sl) ⟨look, rfl, ⟨_, look, rfl⟩, ?_⟩)
    refine call_meets PySem.F.slot_tuple_mul ⟨_, look, rfl⟩ PySem.F.entry_tuple_mul
      (PySem.F.args_tuple_mul_2 _ _) m1 ⟨look, ?_⟩
    exact ⟨.ref l, H, I, rfl, q _ _ (.old (.tup (by rw [← hK]; exact hT) hr))⟩
  · have one' : (ys.toArray.isEmpty || k == 1) = false := by simpa using one
    have hk : k ≤ 0 := by
      rw [Bool.or_eq_false_iff] at one'
      have h1 : ys ≠ [] := fun z => by rw [z] at one'; simp at one'
      have h3 : k ≠ 1 := fun z => by rw [z] at one'; simp at one'
      have h4 : vs ≠ [] := fun z => h1 (List.length_eq_zero_iff.mp (by rw [len, z]; rfl))
      have : ¬ 2 ≤ k := fun z => big ⟨h4, z⟩
      omega
    have m1 := tup_mul0 l ys.toArray n dd sl k t q0 one' (by rw [decide_eq_true hk]; rfl)
    have e : repL xs k = [] := by
      unfold repL
      rw [show k.toNat = 0 by omega]
      rfl
    rw [e] at q
    refine wpAny_binaryOp_repeat_ref (T := "tuple") (U := "int") (by decide) ⟨_, look, rfl⟩ (fun z => typeIs_int z k t)
      noFill_tuple_mul PySem.F.fills_int_mul PySem.F.slot_int_rmul repeat_tuple
      PySem.F.slot_int_index.lookup (call_meets PySem.F.slot_int_rmul tI PySem.F.entry_int_rmul
        (PySem.F.args_int_rmul_2 _ _) (int_rmul_tuple k t l ys.toArray n dd sl) ⟨look, rfl, ⟨_, look, rfl⟩, ?_⟩)
    refine call_meets PySem.F.slot_tuple_mul ⟨_, look, rfl⟩ PySem.F.entry_tuple_mul
      (PySem.F.args_tuple_mul_2 _ _) m1 ⟨look, ?_⟩
    exact tupEP (its := []) (vs := []) (xs := []) I (fun _ _ e => e) .nil (by simp) .nil q
/-! ### + - * // % -/
def bop : Bin → Operator
  | .add => .Add | .sub => .Sub | .mul => .Mult | .fdiv => .FloorDiv | .mod => .Mod | .shl => .LShift | .shr => .RShift | .and => .BitAnd | .or => .BitOr | .pow => .Pow
theorem bin_ok (hK : X.K = g.K) (o : Bin) : OpR X (binaryOp (bop o)) (rV2 g (binV o)) := by
  intro pins s σ H x y xv yv Q I rx ry h
  obtain ⟨F, u, v, w, hu, hv, e, q⟩ := h
  unfold binV at e
  split at e
  · cases hu.int; cases hv.int; cases e
    exact op_add pins s σ H _ _ xv yv Q I rx ry ⟨_, _, rfl, rfl, q _ _ (.old (.int _))⟩
  · cases hu.int; cases hv.int; cases e
    exact op_sub pins s σ H _ _ xv yv Q I rx ry ⟨_, _, rfl, rfl, q _ _ (.old (.int _))⟩
  · cases hu.int; cases hv.int
    split at e
    · rename_i hm
      cases e
      unfold okMul at hm
      simp only [Bool.or_eq_true, decide_eq_true_eq] at hm
      rcases hm with (hm | hm) | hm
      · exact op_mul pins s σ H _ _ xv yv Q I rx ry ⟨_, _, rfl, rfl, .inl hm, q _ _ (.old (.int _))⟩
      · exact op_mul pins s σ H _ _ xv yv Q I rx ry ⟨_, _, rfl, rfl, .inr hm, q _ _ (.old (.int _))⟩
      · exact op_mulW pins s σ H _ _ xv yv Q I rx ry ⟨_, _, rfl, rfl, hm, q _ _ (.old (.int _))⟩
    · cases e
  · cases hu.int; cases hv.int
    split at e
    · rename_i hm
      cases e
      exact op_fdivW pins s σ H _ _ xv yv Q I rx ry ⟨_, _, rfl, rfl, hm, q _ _ (.old (.int _))⟩
    · cases e
  · cases hu.int; cases hv.int
    split at e
    · rename_i hm
      cases e
      exact op_mod pins s σ H _ _ xv yv Q I rx ry ⟨_, _, rfl, rfl, hm, q _ _ (.old (.int _))⟩
    · cases e
  · cases hu.str; cases hv.str
    split at e
    · rename_i hm
      cases e
      refine op_add_str pins s σ H _ _ xv yv Q I rx ry ⟨_, _, rfl, rfl, ?_, ?_⟩
      · simp only [Str.length, List.size_toArray]
        exact sz_le hm
      · rename_i a b
        have e1 : (toS a ++ toS b : Str) = toS (a ++ b) := by
          show (⟨a.toArray ++ b.toArray⟩ : Str) = ⟨(a ++ b).toArray⟩
          rw [List.append_toArray]
        rw [e1]
        exact q _ _ (.old (.str _))
    · cases e
  · obtain ⟨a, vs, rfl, h1, r1⟩ := hu.tup
    obtain ⟨b, ws, rfl, h2, r2⟩ := hv.tup
    split at e
    · rename_i hm
      cases e
      rw [← hK] at h1 h2
      cases rx; cases ry
      have hz : vs.length + ws.length ≤ sizeLine := by rw [← r1.length, ← r2.length]; exact sz_le hm
      obtain ⟨its, v1, p1, _⟩ := I.tuple h1.sq
      obtain ⟨its2, v2, p2, _⟩ := I.tuple h2.sq
      by_cases hx : vs = []
      · subst hx
        cases v1
        cases r1
        rw [hK] at h2
        exact cat_tup0 p1 p2 ⟨.ref b, H, I, rfl, q _ _ (.old (.tup h2 r2))⟩
      · refine HT.cat_tup p1 p2 (fun z => hx (v1.nil_iff.mp z)) (fun z => ?_) (fun z => ?_) (by rw [← v1.length, ← v2.length]; exact hz)
        · have z' := v2.nil_iff.mp z
          subst z'
          cases r2
          rw [List.append_nil] at q
          rw [hK] at h1
          exact ⟨.ref a, H, I, rfl, q _ _ (.old (.tup h1 r1))⟩
        · exact tupEP I (fun _ _ e => e) (v1.append v2) (by rw [List.length_append]; exact hz) (r1.append r2) q
    · cases e
  · obtain ⟨a, vs, rfl, h1, r1⟩ := hu.lst
    obtain ⟨b, ws, rfl, h2, r2⟩ := hv.lst
    split at e
    · rename_i hm
      cases e
      refine op_cat pins s σ H _ _ xv yv Q I rx ry ⟨a, b, vs, ws, rfl, rfl, h1, h2, ?_, fun p hp => ?_⟩
      · rw [← r1.length, ← r2.length]; exact sz_le hm
      · exact q _ _ (.lst hp (r1.append r2))
    · cases e
  · obtain ⟨a, vs, rfl, h1, r1⟩ := hu.lst
    cases hv.int
    split at e
    · rename_i hm
      cases e
      refine op_rep pins s σ H _ _ xv yv Q I rx ry ⟨a, _, vs, rfl, rfl, h1, hm.1, hm.2.1, ?_, fun p hp => ?_⟩
      · rw [← r1.length]; exact sz_le hm.2.2
      · exact q _ _ (.lst hp (r1.rep _))
    · cases e
  · obtain ⟨a, vs, rfl, h1, r1⟩ := hu.tup
    cases hv.int
    split at e
    · rename_i hm
      cases e
      rw [← hK] at h1
      cases rx
      obtain ⟨t, rfl⟩ := ry
      exact ep_rep01 hK I h1 r1 hm.1 hm.2.1 (by rw [← r1.length]; exact hm.2.2) q
    · cases e
  · cases e
def uop : Un → UnaryOp
  | .neg => .USub | .inv => .Invert
theorem un_ok (o : Un) (ho : o = .neg) : UnR X (unaryOp (uop o)) (rV1 g (unV o)) := by
  intro pins s σ H x xv Q I rx h
  obtain ⟨F, u, w, hu, e, q⟩ := h
  subst ho
  unfold unV at e
  split at e
  · cases hu.int; cases e
    exact L2.un_neg pins s σ H _ xv Q I rx ⟨_, rfl, q _ _ (.old (.int _))⟩
  · rename_i h; cases h
  · cases e

/-! ### data -/
mutual
def toD : PV → PyData
  | .non => .none
  | .bl b => .bool b
  | .int i => .int i
  | .str s => .str (toS s)
  | .tup xs => .tuple (toDs xs)
  | .lst xs => .list (toDs xs)
  | _ => .none
def toDs : List PV → List PyData
  | [] => []
  | x :: xs => toD x :: toDs xs
end
theorem toDs_map : ∀ xs : List PV, toDs xs = xs.map toD
  | [] => by simp only [toDs, List.map_nil]
  | x :: xs => by simp only [toDs, List.map_cons, toDs_map xs]
theorem toS_beq (a b : List Nat) : (toS a == toS b) = (a == b) := by
  have e : (toS a = toS b) = (a = b) := by
    apply propext
    constructor
    · intro h
      have h2 := congrArg (fun z : Str => z.cps.toList) h
      simpa using h2
    · intro h; rw [h]
  rw [Bool.beq_eq_decide_eq, Bool.beq_eq_decide_eq]
  simp only [e]
mutual
theorem eqv_toD : ∀ (d e : Nat) (a b : PV), PV.data d a = true → PV.data e b = true → PyData.eqv (toD a) (toD b) = PV.eqv a b
  | d, e, a, b, ha, hb => by
    cases a <;> (try (cases d <;> simp [PV.data] at ha; done)) <;> cases b <;> (try (cases e <;> simp [PV.data] at hb; done)) <;>
      first
      | (simp only [toD, PyData.eqv, PV.eqv]; done)
      | (simp only [toD, PyData.eqv, PV.eqv, toS_beq]; done)
      | (cases d with
         | zero => simp [PV.data] at ha
         | succ d => cases e with
           | zero => simp [PV.data] at hb
           | succ e =>
             simp only [toD, PyData.eqv, PV.eqv]
             simp only [PV.data] at ha hb
             exact eqv_toDs d e _ _ ha hb)
theorem eqv_toDs : ∀ (d e : Nat) (a b : List PV), PV.datas d a = true → PV.datas e b = true → PyData.eqvAll (toDs a) (toDs b) = PV.eqvs a b
  | _, _, [], [], _, _ => by simp [toDs, PyData.eqvAll, PV.eqvs]
  | _, _, [], _ :: _, _, _ => by simp [toDs, PyData.eqvAll, PV.eqvs]
  | _, _, _ :: _, [], _, _ => by simp [toDs, PyData.eqvAll, PV.eqvs]
  | d, e, x :: xs, y :: ys, ha, hb => by
    simp only [PV.datas, Bool.and_eq_true] at ha hb
    simp only [toDs, PyData.eqvAll, PV.eqvs, eqv_toD d e x y ha.1 hb.1, eqv_toDs d e xs ys ha.2 hb.2]
end
mutual
theorem plain_toD : ∀ (d : Nat) (a : PV), PV.data d a = true → (toD a).plain = true ∧ (toD a).depth ≤ d
  | d, a, ha => by
    cases a with
    | tup xs =>
      cases d with
      | zero => simp [PV.data] at ha
      | succ d =>
        simp only [PV.data] at ha
        have h := plain_toDs d xs ha
        simp only [toD, PyData.plain, PyData.depth]
        exact ⟨h.1, by omega⟩
    | lst xs =>
      cases d with
      | zero => simp [PV.data] at ha
      | succ d =>
        simp only [PV.data] at ha
        have h := plain_toDs d xs ha
        simp only [toD, PyData.plain, PyData.depth]
        exact ⟨h.1, by omega⟩
    | non => simp [toD, PyData.plain, PyData.depth]
    | bl b => simp [toD, PyData.plain, PyData.depth]
    | int b => simp [toD, PyData.plain, PyData.depth]
    | str b => simp [toD, PyData.plain, PyData.depth]
    | _ => cases d <;> simp [PV.data] at ha
theorem plain_toDs : ∀ (d : Nat) (a : List PV), PV.datas d a = true → PyData.plainAll (toDs a) = true ∧ PyData.depthAll (toDs a) ≤ d
  | d, [], _ => by simp [toDs, PyData.plainAll, PyData.depthAll]
  | d, x :: xs, ha => by
    simp only [PV.datas, Bool.and_eq_true] at ha
    have h1 := plain_toD d x ha.1
    have h2 := plain_toDs d xs ha.2
    simp only [toDs, PyData.plainAll, PyData.depthAll, h1.1, h2.1, Bool.and_self, true_and]
    omega
end
variable {F : AS} {H : Hp}
mutual
theorem RV.dp : ∀ {d : Nat} {v : PV} {x : V}, PV.data d v = true → RV g F H v x → Dp g.K H x (toD v)
  | _, _, _, _, .non => by rw [toD]; exact .non
  | _, _, _, _, .bl b => by rw [toD]; exact .bl b
  | _, _, _, _, .int i => by rw [toD]; exact .int i
  | _, _, _, _, .str t => by rw [toD]; exact .str _
  | d, _, _, hd, .tup h r => by
    cases d with
    | zero => simp [PV.data] at hd
    | succ d =>
      simp only [PV.data] at hd
      rw [toD]
      exact .tup h.sq (RVs.dp hd r)
  | d, _, _, hd, .lst f h r => by
    cases d with
    | zero => simp [PV.data] at hd
    | succ d =>
      simp only [PV.data] at hd
      rw [toD]
      exact .lst (SqL.of h) (RVs.dp hd r)
  | d, _, _, hd, .fn _ => by cases d <;> simp [PV.data] at hd
  | d, _, _, hd, .rng _ => by cases d <;> simp [PV.data] at hd
  | d, _, _, hd, .scr _ => by cases d <;> simp [PV.data] at hd
theorem RVs.dp : ∀ {d : Nat} {v : List PV} {x : List V}, PV.datas d v = true → RVs g F H v x → DpAll g.K H x (toDs v)
  | _, _, _, _, .nil => by rw [toDs]; exact .nil
  | _, _, _, hd, .cons h r => by
    simp only [PV.datas, Bool.and_eq_true] at hd
    rw [toDs]
    exact .cons (RV.dp hd.1 h) (RVs.dp hd.2 r)
end
theorem RB.dp {d : Nat} {v : PV} {x : V} (hd : PV.data d v = true) (h : RB g F H v x) : Dp g.K H x (toD v) := by
  rcases h with h | ⟨a, e, h⟩
  · exact h.dp hd
  · cases v with
    | lst xs =>
      obtain ⟨vs, h1, h2⟩ := h
      subst e
      cases d with
      | zero => simp [PV.data] at hd
      | succ d =>
        simp only [PV.data] at hd
        rw [toD]
        exact .lst (SqL.of h1) (RVs.dp hd h2)
    | dic ks vs => cases d <;> simp [PV.data] at hd
    | _ => exact h.elim

theorem toS_lt (a b : List Nat) : decide ((toS a).cps.toList < (toS b).cps.toList) = strLt a b := by
  show decide (a < b) = strLt a b
  induction a generalizing b with
  | nil => cases b <;> simp [strLt]
  | cons x a ih =>
    cases b with
    | nil => simp [strLt]
    | cons y b =>
      unfold strLt
      rw [← ih b]
      by_cases h : x < y
      · simp [h, List.cons_lt_cons_iff]
      · by_cases h2 : x = y
        · subst h2; simp [List.cons_lt_cons_iff]
        · simp [h, h2, List.cons_lt_cons_iff]
theorem any_toD (d : Nat) (u : PV) (hu : PV.data d u = true) : ∀ (e : Nat) (xs : List PV), PV.datas e xs = true → ((toDs xs).any fun z => PyData.eqv z (toD u)) = xs.any fun z => PV.eqv z u
  | _, [], _ => by simp [toDs]
  | e, x :: xs, h => by
    simp only [PV.datas, Bool.and_eq_true] at h
    simp only [toDs, List.any_cons, any_toD d u hu e xs h.2, eqv_toD e d x u h.1 hu]

/-! ### dicts whose keys are tuples of ints -/
theorem rvsP_ints : ∀ {ns : List Int} {vs : List V}, RVs g F H (ns.map PV.int) vs → vs = ns.map V.int
  | [], _, .nil => rfl
  | n :: ns, _, .cons (.int _) r => by rw [rvsP_ints r]; rfl
theorem kv_ints : ∀ ns : List Int, ((ns.map Sum.inl : List L2.Key).map kV) = ns.map V.int
  | [] => rfl
  | n :: ns => by rw [List.map_cons, List.map_cons, kv_ints ns]; rfl
theorem intsP_some : ∀ {q : List PV}, (ints? q).isSome = true → ∃ ns : List Int, q = ns.map .int
  | [], _ => ⟨[], rfl⟩
  | x :: q, h => by
    cases x with
    | int i =>
      simp only [ints?, Option.isSome_map] at h
      obtain ⟨ns, rfl⟩ := intsP_some h
      exact ⟨i :: ns, rfl⟩
    | _ => simp [ints?] at h
theorem eqvs_ints : ∀ xs ys : List Int, PV.eqvs (xs.map PV.int) (ys.map PV.int) = decide (xs = ys)
  | [], [] => rfl
  | [], _ :: _ => rfl
  | _ :: _, [] => rfl
  | x :: xs, y :: ys => by
    show (PV.eqv (.int x) (.int y) && PV.eqvs (xs.map PV.int) (ys.map PV.int)) = _
    rw [eqvs_ints xs ys]
    simp [PV.eqv, Bool.beq_eq_decide_eq]
theorem key_rv {pins : List (Addr × Obj)} {σ : L2.St} {s : Shared} (I : L2.Inv X pins σ H s) (hK : X.K = g.K) {ns : List Int} {b : Addr} (h : RV g F H (.tup (ns.map .int)) (.ref b)) : (tupleKind (mixKind X.prog X.w)).is s.heap (ns.map Sum.inl : List L2.Key) b := by
  cases h with
  | tup h r =>
    have e := rvsP_ints r
    subst e
    obtain ⟨its, rv, ⟨o, h1, h2, n, h3⟩, _⟩ := I.tuple (by rw [hK]; exact h.sq)
    exact ⟨o, its.toArray, n, h1, h2, h3, by simpa using items_are (P := X.prog) (w := X.w) (by rw [kv_ints]; exact rv)⟩
theorem rvs_kx : ∀ {xs : List KX}, RVs g F H (kxP xs) (kxV xs) → ∀ x ∈ xs, RV g F H (.tup (x.1.map .int)) (.ref x.2.1)
  | [], _, x, hx => by cases hx
  | y :: xs, h, x, hx => by
    cases h with
    | cons r t =>
      rcases List.mem_cons.mp hx with rfl | hx
      · exact r
      · exact rvs_kx t x hx
theorem dic_at {pins : List (Addr × Obj)} {σ : L2.St} {s : Shared} {a : Addr} {xs : List KX} (I : L2.Inv X pins σ H s) (hK : X.K = g.K) (hP : X.prog = g.P) (hw : X.w = g.w) (hd : H a = some (dicO g a xs)) (hk : RVs g F H (kxP xs) (kxV xs)) : (a == sysModules) = false ∧ s.heap.DictOfH (tupleKind (mixKind X.prog X.w)) a (xs.map kxK) := by
  obtain ⟨⟨y, o, es, ep, h1, h2, h3, h4, h5⟩, _, _⟩ := I.hok a _ hd
  refine ⟨y, o, es, ep, h1, h2, h3, by rw [hP, hw]; exact h4, fun z hz => ?_, h5⟩
  obtain ⟨x, hx, rfl⟩ := List.mem_map.mp hz
  exact key_rv I hK (rvs_kx hk x hx)
theorem inl_inj : ∀ {x y : List Int}, (x.map Sum.inl : List L2.Key) = y.map Sum.inl → x = y
  | [], [], _ => rfl
  | [], _ :: _, h => by cases h
  | _ :: _, [], h => by cases h
  | a :: x, b :: y, h => by
    rw [List.map_cons, List.map_cons, List.cons.injEq] at h
    rw [Sum.inl.inj h.1, inl_inj h.2]
theorem atKey_kx (ns : List Int) : ∀ xs : List KX, (atKey (xs.map kxK) (ns.map Sum.inl : List L2.Key)).isSome = (kxP xs).any fun z => PV.eqv z (.tup (ns.map .int))
  | [] => rfl
  | x :: xs => by
    have ih := atKey_kx ns xs
    unfold atKey at ih ⊢
    rw [Option.isSome_map] at ih ⊢
    rw [List.map_cons, List.find?_cons]
    have e3 : ((kxP (x :: xs)).any fun z => PV.eqv z (.tup (ns.map .int))) = (PV.eqv (.tup (x.1.map PV.int)) (.tup (ns.map .int)) || (kxP xs).any fun z => PV.eqv z (.tup (ns.map .int))) := rfl
    have e : PV.eqv (.tup (x.1.map PV.int)) (.tup (ns.map .int)) = decide (x.1 = ns) := by rw [← eqvs_ints]; rfl
    have e2 : decide ((kxK x).1 = (ns.map Sum.inl : List L2.Key)) = decide (x.1 = ns) := decide_eq_decide.mpr ⟨fun h => inl_inj h, fun h => by rw [← h]; rfl⟩
    rw [e3, e, e2]
    cases decide (x.1 = ns) with
    | true => rfl
    | false => exact ih
theorem RB.dic {ks vs : List PV} {x : V} (h : RB g F H (.dic ks vs) x) : ∃ a xs, x = .ref a ∧ H a = some (dicO g a xs) ∧ ks = kxP xs ∧ RVs g F H ks (kxV xs) := by
  rcases h with h | ⟨a, e, xs, h1, h2, h3⟩
  · cases h with
    | dic f h e r => exact ⟨_, _, rfl, h, e, r⟩
  · exact ⟨a, xs, e, h1, h2, h3⟩
theorem RB.tupRV {q : List PV} {x : V} (h : RB g F H (.tup q) x) : ∃ b, x = .ref b ∧ RV g F H (.tup q) (.ref b) := by
  rcases h with h | ⟨a, e, h⟩
  · cases h with
    | tup h r => exact ⟨_, rfl, .tup h r⟩
  · exact h.elim
/-! ### comparisons -/
def cop : Cm → CmpOp
  | .eq => .Eq | .ne => .NotEq | .lt => .Lt | .le => .LtE | .gt => .Gt | .ge => .GtE | .is => .Is | .isnot => .IsNot | .in => .In | .notin => .NotIn
theorem cmp_ok (hK : X.K = g.K) (hP : X.prog = g.P) (hw : X.w = g.w) (hu : X.A.units + 64 < cLine) (o : Cm) : OpR X (compareOp (cop o)) (rV2 g (cmpV o)) := by
  intro pins s σ H x y xv yv Q I rx ry h
  obtain ⟨F, u, v, w, hx, hy, e, q⟩ := h
  have fin : ∀ {b : Bool}, Q (.bl b) H → EP X pins σ Q (.bool b) s := fun q => ⟨.bl _, H, I, rfl, q⟩
  unfold cmpV at e
  split at e
  · cases hx.int; cases hy.int; cases e
    exact op_lt pins s σ H _ _ xv yv Q I rx ry ⟨_, _, rfl, rfl, q _ _ (.old (.bl _))⟩
  · cases hx.int; cases hy.int; cases e
    exact op_le pins s σ H _ _ xv yv Q I rx ry ⟨_, _, rfl, rfl, q _ _ (.old (.bl _))⟩
  · cases hx.int; cases hy.int; cases e
    exact op_gt pins s σ H _ _ xv yv Q I rx ry ⟨_, _, rfl, rfl, q _ _ (.old (.bl _))⟩
  · cases hx.int; cases hy.int; cases e
    exact op_ge pins s σ H _ _ xv yv Q I rx ry ⟨_, _, rfl, rfl, q _ _ (.old (.bl _))⟩
  · cases hx.str; cases hy.str; cases e
    exact op_lt_str pins s σ H _ _ xv yv Q I rx ry ⟨_, _, rfl, rfl, by rw [toS_lt]; exact q _ _ (.old (.bl _))⟩
  · cases hx.str; cases hy.str; cases e
    exact op_le_str pins s σ H _ _ xv yv Q I rx ry ⟨_, _, rfl, rfl, by rw [toS_lt]; exact q _ _ (.old (.bl _))⟩
  · cases hy.non; cases e
    refine op_isN pins s σ H _ _ xv yv Q I rx ry ⟨rfl, ?_⟩
    have e2 : decide (x = .non) = u.isNon := by
      rcases hx with hx | ⟨a, rfl, hx⟩
      · cases hx <;> simp
      · cases u with
        | lst xs => simp
        | dic ks vs => simp
        | _ => exact hx.elim
    rw [e2]
    exact q _ _ (.old (.bl _))
  · cases hy.non; cases e
    refine op_notN pins s σ H _ _ xv yv Q I rx ry ⟨rfl, ?_⟩
    have e2 : (!decide (x = .non)) = (!u.isNon) := by
      rcases hx with hx | ⟨a, rfl, hx⟩
      · cases hx <;> simp
      · cases u with
        | lst xs => simp
        | dic ks vs => simp
        | _ => exact hx.elim
    rw [e2]
    exact q _ _ (.old (.bl _))
  · split at e
    · rename_i hd
      cases e
      rw [Bool.and_eq_true] at hd
      have p1 : _ ∧ _ ≤ 50 := plain_toD _ _ hd.1
      have p2 : _ ∧ _ ≤ 50 := plain_toD _ _ hd.2
      obtain ⟨as, r1⟩ := Dp.reads I _ x xv (by rw [hK]; exact hx.dp hd.1) rx
      obtain ⟨bs, r2⟩ := Dp.reads I _ y yv (by rw [hK]; exact hy.dp hd.2) ry
      refine SeqAt.eq_plain r1 r2 p1.1 p2.1 (by omega) (fin ?_)
      rw [eqv_toD _ _ _ _ hd.1 hd.2]
      exact q _ _ (.old (.bl _))
    · cases e
  · split at e
    · rename_i hd
      cases e
      rw [Bool.and_eq_true] at hd
      have p1 : _ ∧ _ ≤ 50 := plain_toD _ _ hd.1
      have p2 : _ ∧ _ ≤ 50 := plain_toD _ _ hd.2
      obtain ⟨as, r1⟩ := Dp.reads I _ x xv (by rw [hK]; exact hx.dp hd.1) rx
      obtain ⟨bs, r2⟩ := Dp.reads I _ y yv (by rw [hK]; exact hy.dp hd.2) ry
      refine SeqAt.ne_plain r1 r2 p1.1 p2.1 (by omega) (fin ?_)
      rw [eqv_toD _ _ _ _ hd.1 hd.2]
      exact q _ _ (.old (.bl _))
    · cases e
  · split at e
    · rename_i xs hd
      cases e
      rw [Bool.and_eq_true] at hd
      have p1 : _ ∧ _ ≤ 50 := plain_toD _ _ hd.1
      have hl : PV.data (DD + 1) (.lst xs) = true := by simpa [PV.data] using hd.2
      have p2 : _ ∧ _ ≤ 50 := plain_toDs _ _ hd.2
      obtain ⟨as, r1⟩ := Dp.reads I _ x xv (by rw [hK]; exact hx.dp hd.1) rx
      obtain ⟨bs, r2⟩ := Dp.reads I _ y yv (by rw [hK]; exact hy.dp hl) ry
      rw [toD] at r2
      refine SeqAt.in_list_data r2 r1 p2.1 p1.1 (by omega) (fin ?_)
      rw [any_toD _ _ hd.1 _ _ hd.2]
      exact q _ _ (.old (.bl _))
    · cases e
  · split at e
    · rename_i xs hd
      cases e
      rw [Bool.and_eq_true] at hd
      have p1 : _ ∧ _ ≤ 50 := plain_toD _ _ hd.1
      have hl : PV.data (DD + 1) (.tup xs) = true := by simpa [PV.data] using hd.2
      have p2 : _ ∧ _ ≤ 50 := plain_toDs _ _ hd.2
      obtain ⟨as, r1⟩ := Dp.reads I _ x xv (by rw [hK]; exact hx.dp hd.1) rx
      obtain ⟨bs, r2⟩ := Dp.reads I _ y yv (by rw [hK]; exact hy.dp hl) ry
      rw [toD] at r2
      refine SeqAt.in_tuple_data r2 r1 p2.1 p1.1 (by omega) (fin ?_)
      rw [any_toD _ _ hd.1 _ _ hd.2]
      exact q _ _ (.old (.bl _))
    · cases e
  · cases hx.str; cases hy.str; cases e
    exact op_in_sign pins s σ H _ _ xv yv Q I rx ry ⟨_, _, rfl, rfl, q _ _ (.old (.bl _))⟩
  · split at e
    · rename_i hi
      cases e
      obtain ⟨ns, rfl⟩ := intsP_some hi
      obtain ⟨b, rfl, hb⟩ := hx.tupRV
      obtain ⟨a, xs, rfl, h1, h2, h3⟩ := hy.dic
      subst h2
      obtain ⟨y1, y2⟩ := dic_at I hK hP hw h1 h3
      cases rx
      cases ry
      refine wpAny_in_heap (tupleKind_room_in1 (by omega)) (key_rv I hK hb) y1 y2 ?_
      rw [atKey_kx]
      exact ⟨.bl _, H, I.tok _, rfl, q _ _ (.old (.bl _))⟩
    · cases e
  · split at e
    · rename_i xs hd
      cases e
      rw [Bool.and_eq_true] at hd
      have p1 : _ ∧ _ ≤ 50 := plain_toD _ _ hd.1
      have hl : PV.data (DD + 1) (.lst xs) = true := by simpa [PV.data] using hd.2
      have p2 : _ ∧ _ ≤ 50 := plain_toDs _ _ hd.2
      obtain ⟨as, r1⟩ := Dp.reads I _ x xv (by rw [hK]; exact hx.dp hd.1) rx
      obtain ⟨bs, r2⟩ := Dp.reads I _ y yv (by rw [hK]; exact hy.dp hl) ry
      rw [toD] at r2
      refine SeqAt.notIn_list_data r2 r1 p2.1 p1.1 (by omega) (fin ?_)
      rw [any_toD _ _ hd.1 _ _ hd.2]
      exact q _ _ (.old (.bl _))
    · cases e
  · split at e
    · rename_i xs hd
      cases e
      rw [Bool.and_eq_true] at hd
      have p1 : _ ∧ _ ≤ 50 := plain_toD _ _ hd.1
      have hl : PV.data (DD + 1) (.tup xs) = true := by simpa [PV.data] using hd.2
      have p2 : _ ∧ _ ≤ 50 := plain_toDs _ _ hd.2
      obtain ⟨as, r1⟩ := Dp.reads I _ x xv (by rw [hK]; exact hx.dp hd.1) rx
      obtain ⟨bs, r2⟩ := Dp.reads I _ y yv (by rw [hK]; exact hy.dp hl) ry
      rw [toD] at r2
      refine SeqAt.notIn_tuple_data r2 r1 p2.1 p1.1 (by omega) (fin ?_)
      rw [any_toD _ _ hd.1 _ _ hd.2]
      exact q _ _ (.old (.bl _))
    · cases e
  · cases hx.str; cases hy.str; cases e
    exact op_notIn_sign pins s σ H _ _ xv yv Q I rx ry ⟨_, _, rfl, rfl, q _ _ (.old (.bl _))⟩
  · split at e
    · rename_i hi
      cases e
      obtain ⟨ns, rfl⟩ := intsP_some hi
      obtain ⟨b, rfl, hb⟩ := hx.tupRV
      obtain ⟨a, xs, rfl, h1, h2, h3⟩ := hy.dic
      subst h2
      obtain ⟨y1, y2⟩ := dic_at I hK hP hw h1 h3
      cases rx
      cases ry
      refine wpAny_notIn_heap (tupleKind_room_in1 (by omega)) (key_rv I hK hb) y1 y2 ?_
      rw [atKey_kx]
      exact ⟨.bl _, H, I.tok _, rfl, q _ _ (.old (.bl _))⟩
    · cases e
  · cases e
end
end EV
set_option Elab.async false
set_option linter.all false
set_option autoImplicit false
set_option maxRecDepth 100000
/-! Sorting; built-ins by values. -/
namespace EV
open PySem PySem.Spec PyProof.Rows L2

section
variable {prog : Program} {w : World} {A : Around} {E : Value → Shared → Prop} {s : Shared}
/-- collect of a tuple -/
theorem collectT {t : Addr} {us : List Value} {Q : List Value → Shared → Prop} (ht : s.heap.IsTuple t us.toArray) (hn : us.length ≤ sizeLine)
    (q : Q us { s with heap := (s.heap.push (seqObj "list" #[] 0)).update s.heap.objs.size (Obj.mapSeq (· ++ us.toArray)) }) :
    wpAny (model prog w) A (collect (.ref t)) Q E s := by
  obtain ⟨ob, h1, h2, k, h3⟩ := id ht
  unfold collect
  apply wpAny_bind
  apply wpAny_runValue
  apply codeAny_builtin entry_proto_collect'
  show wpAny _ _ (do again (.builtin "list.__iadd__" ⟨[← newList [], .ref t], []⟩)) _ _ s
  apply wpAny_bind
  apply wpAny_newList
  · apply wpAny_pure
    refine And.intro (Code.quiet_builtin _ (by decide +kernel)) ?_
    apply codeAny_builtin entry_list_iadd'
    show wpAny _ _ (Builtin.List.listExtendWith (.ref s.heap.objs.size) (.ref t) (.ref s.heap.objs.size)) _ _ { s with heap := s.heap.push (seqObj "list" #[] 0) }
    unfold Builtin.List.listExtendWith
    have h1' : (s.heap.push (seqObj "list" #[] 0)).get? t = some ob := Heap.get?_push_of_some _ h1
    apply wpAny_bind
    apply wpAny_typeOf (T := "tuple")
    · exact ⟨ob, h1', h2⟩
    · have hc : (Builtin.List.listSameRef (.ref s.heap.objs.size) (.ref t) || Value.type "tuple" == Value.type "list" || Value.type "tuple" == Value.type "tuple") = true := by simp
      rw [if_pos hc]
      apply wpAny_bind
      apply listItems_at h1' h3
      apply wpAny_bind
      apply listItems_at (xs := #[]) (n := 0) (Heap.get?_push_size _ rfl) rfl
      rw [if_neg (by simp)]
      apply wpAny_bind
      apply listUpdate_at (xs := #[]) (n := 0) (Heap.get?_push_size _ rfl) rfl
      · apply wpAny_pure
        show wpAny (model prog w) A (do
            let o ← load s.heap.objs.size
            match o.data with
            | .seq xs _ => pure xs.toList
            | _ => unsupported "internal:collect") Q E { s with heap := (s.heap.push (seqObj "list" #[] 0)).update s.heap.objs.size (Obj.mapSeq (· ++ us.toArray)) }
        apply wpAny_bind
        apply wpAny_load (get?_update_seq (Heap.get?_push_size _ rfl) _)
        have e : ((#[] : Array Value) ++ us.toArray).toList = us := by simp
        apply wpAny_pure
        rw [e]
        exact q
      all_goals first
        | exact Nat.zero_le _
        | (show (#[] ++ us.toArray).size ≤ sizeLine + 1
           simp only [Array.size_append, List.size_toArray, List.length_nil]
           omega)
  · exact Nat.zero_le _
open PySem.W in
/-- sorted of a tuple, by what list.sort does -/
theorem sortedT {t : Addr} {us : List Value} {Q : Value → Shared → Prop} (ht : s.heap.IsTuple t us.toArray) (hn : us.length ≤ sizeLine)
    (body : ∀ E' : Value → Shared → Prop, wpAny (model prog w) A.in1.in1 (Builtin.«list.sort» ⟨[.ref (s.heap.objs.size + 1)], []⟩) (fun f s' => f = .done (.ret .none) ∧ Q (.ref (s.heap.objs.size + 1)) s') E' { s with heap := copyHeap s.heap us }) :
    wpAny (model prog w) A (call (.builtin "sorted") [.ref t]) Q E s := by
  apply call_function_entry_kw kind_sorted plain_sorted entry_sorted (args_sorted1 _)
  unfold Builtin.«sorted»
  apply wpAny_bind (m := checkCount "sorted" 1 1 _)
  apply wpAny_pure
  apply wpAny_bind
  refine collectT ht hn ?_
  apply wpAny_bind
  refine wpAny_newList ?_ hn
  have hz : ((s.heap.push (seqObj "list" #[] 0)).update s.heap.objs.size (Obj.mapSeq (· ++ us.toArray))).objs.size = s.heap.objs.size + 1 := by
    simp [Heap.size_update, size_push']
  show wpAny _ _ _ _ _ { s with heap := copyHeap s.heap us }
  rw [hz]
  apply wpAny_bind
  apply wpAny_holding
  refine wpAny_call_entry_kw slot_list_sort ⟨_, copyHeap_at s.heap us, rfl⟩ entry_list_sort ?_ (args_list_sort _)
  refine wpAny_mono (body _) ?_ (fun _ _ z => z)
  rintro f s' ⟨rfl, hq⟩
  exact ⟨_, rfl, wpAny_pure ⟨_, rfl, hq⟩⟩
end
end EV

namespace EV
open PySem PySem.Spec PyProof.Rows L2
/-! ### the order of data -/
mutual
theorem alike_toD : ∀ (a b : PV), PV.alike a b = true → PySem.W.alike (toD a) (toD b) = true
  | .int _, .int _, _ => by simp [toD, PySem.W.alike]
  | .str _, .str _, _ => by simp [toD, PySem.W.alike]
  | .tup xs, .tup ys, h => by
    simp only [PV.alike] at h
    simp only [toD, PySem.W.alike]
    exact alike_toDs xs ys h
  | .non, b, h => by cases b <;> simp [PV.alike] at h
  | .bl _, b, h => by cases b <;> simp [PV.alike] at h
  | .lst _, b, h => by cases b <;> simp [PV.alike] at h
  | .dic _ _, b, h => by cases b <;> simp [PV.alike] at h
  | .set _, b, h => by cases b <;> simp [PV.alike] at h
  | .fn _, b, h => by cases b <;> simp [PV.alike] at h
  | .rng _ _, b, h => by cases b <;> simp [PV.alike] at h
  | .scr _, b, h => by cases b <;> simp [PV.alike] at h
  | .int _, .non, h | .int _, .bl _, h | .int _, .str _, h | .int _, .tup _, h | .int _, .lst _, h | .int _, .dic _ _, h | .int _, .set _, h | .int _, .fn _, h | .int _, .rng _ _, h | .int _, .scr _, h => by simp [PV.alike] at h
  | .str _, .non, h | .str _, .bl _, h | .str _, .int _, h | .str _, .tup _, h | .str _, .lst _, h | .str _, .dic _ _, h | .str _, .set _, h | .str _, .fn _, h | .str _, .rng _ _, h | .str _, .scr _, h => by simp [PV.alike] at h
  | .tup _, .non, h | .tup _, .bl _, h | .tup _, .int _, h | .tup _, .str _, h | .tup _, .lst _, h | .tup _, .dic _ _, h | .tup _, .set _, h | .tup _, .fn _, h | .tup _, .rng _ _, h | .tup _, .scr _, h => by simp [PV.alike] at h
theorem alike_toDs : ∀ (a b : List PV), PV.alikes a b = true → PySem.W.alikeAll (toDs a) (toDs b) = true
  | [], b, _ => by simp [toDs, PySem.W.alikeAll]
  | _ :: _, [], _ => by simp [toDs, PySem.W.alikeAll]
  | x :: xs, y :: ys, h => by
    simp only [PV.alikes, Bool.and_eq_true] at h
    simp only [toDs, PySem.W.alikeAll, alike_toD x y h.1, alike_toDs xs ys h.2, Bool.and_self]
end
mutual
theorem lt_toD : ∀ (d e : Nat) (a b : PV), PV.alike a b = true → PV.data d a = true → PV.data e b = true → PySem.W.dataLt (toD a) (toD b) = PV.lt a b
  | d, e, a, b, h, h1, h2 => by
    cases a <;> cases b <;> (try (simp [PV.alike] at h; done))
    · simp only [toD, PySem.W.dataLt_int, PV.lt]
    · simp only [toD, PySem.W.dataLt_str, PV.lt]
      exact toS_lt _ _
    · cases d with
      | zero => simp [PV.data] at h1
      | succ d =>
        cases e with
        | zero => simp [PV.data] at h2
        | succ e =>
          simp only [toD, PySem.W.dataLt_tuple, PV.lt]
          simp only [PV.alike] at h
          simp only [PV.data] at h1 h2
          exact lt_toDs d e _ _ h h1 h2
theorem lt_toDs : ∀ (d e : Nat) (a b : List PV), PV.alikes a b = true → PV.datas d a = true → PV.datas e b = true →
    PyProof.Rows.lexLt PyProof.Rows.itemOrd (PySem.W.keyToksAll (toDs a)) (PySem.W.keyToksAll (toDs b)) = PV.ltl a b
  | _, _, [], [], _, _, _ => by
    simp only [toDs, PV.ltl]
    exact PyProof.Rows.lex_irrefl _
  | _, _, [], y :: ys, _, _, _ => by
    simp only [toDs, PV.ltl, PySem.W.keyToksAll]
    rfl
  | _, _, x :: xs, [], _, _, _ => by
    simp only [toDs, PV.ltl, PySem.W.keyToksAll]
    rfl
  | d, e, x :: xs, y :: ys, h, h1, h2 => by
    simp only [PV.alikes, Bool.and_eq_true] at h
    simp only [PV.datas, Bool.and_eq_true] at h1 h2
    simp only [toDs, PV.ltl]
    rw [PySem.W.dataLt_cons (alike_toD x y h.1), eqv_toD d e x y h1.1 h2.1, lt_toD d e x y h.1 h1.1 h2.1, lt_toDs d e xs ys h.2 h1.2 h2.2]
end
/-! ### one sort -/
def insB {α : Type} (lt : α → α → Bool) (x : α) : List α → List α
  | [] => [x]
  | y :: ys => if lt y x = true then y :: insB lt x ys else x :: y :: ys
def srtB {α : Type} (lt : α → α → Bool) (xs : List α) : List α := xs.foldr (insB lt) []
theorem insB_mem {α : Type} {lt : α → α → Bool} {x z : α} : ∀ {l : List α}, z ∈ insB lt x l ↔ z = x ∨ z ∈ l
  | [] => by simp [insB]
  | y :: ys => by
    unfold insB
    split
    · rw [List.mem_cons, insB_mem, List.mem_cons]
      constructor
      · rintro (h | h | h)
        · exact .inr (.inl h)
        · exact .inl h
        · exact .inr (.inr h)
      · rintro (h | h | h)
        · exact .inr (.inl h)
        · exact .inl h
        · exact .inr (.inr h)
    · simp
theorem srtB_mem {α : Type} {lt : α → α → Bool} {z : α} : ∀ {l : List α}, z ∈ srtB lt l ↔ z ∈ l
  | [] => by simp [srtB]
  | y :: ys => by
    have := srtB_mem (lt := lt) (z := z) (l := ys)
    unfold srtB at this ⊢
    rw [List.foldr_cons, insB_mem, this, List.mem_cons]
theorem insB_len {α : Type} {lt : α → α → Bool} {x : α} : ∀ {l : List α}, (insB lt x l).length = l.length + 1
  | [] => rfl
  | y :: ys => by
    unfold insB
    split
    · rw [List.length_cons, insB_len, List.length_cons]
    · rfl
theorem srtB_len {α : Type} {lt : α → α → Bool} : ∀ {l : List α}, (srtB lt l).length = l.length
  | [] => rfl
  | y :: ys => by
    have := srtB_len (lt := lt) (l := ys)
    unfold srtB at this ⊢
    rw [List.foldr_cons, insB_len, this, List.length_cons]
theorem insB_congr {α : Type} {r s : α → α → Bool} {x : α} : ∀ {l : List α}, (∀ y ∈ l, r y x = s y x) → insB r x l = insB s x l
  | [], _ => rfl
  | y :: ys, h => by
    unfold insB
    rw [h y (by simp), insB_congr fun z hz => h z (by simp [hz])]
theorem srtB_congr {α : Type} {r s : α → α → Bool} : ∀ {l : List α}, (∀ x ∈ l, ∀ y ∈ l, r x y = s x y) → srtB r l = srtB s l
  | [], _ => rfl
  | y :: ys, h => by
    have := srtB_congr (r := r) (s := s) (l := ys) fun a ha b hb => h a (by simp [ha]) b (by simp [hb])
    unfold srtB at this ⊢
    rw [List.foldr_cons, List.foldr_cons, this]
    refine insB_congr fun z hz => h z ?_ y (by simp)
    have : z ∈ srtB s ys := hz
    rw [srtB_mem] at this
    simp [this]
theorem insB_map {α β : Type} {r : α → α → Bool} {s : β → β → Bool} (f : α → β) (h : ∀ a b, r a b = s (f a) (f b)) {x : α} : ∀ {l : List α}, (insB r x l).map f = insB s (f x) (l.map f)
  | [] => rfl
  | y :: ys => by
    unfold insB
    rw [h, List.map_cons]
    split
    · rename_i e
      simp only [List.map_cons, insB_map f h]
      rw [if_pos e]
    · rename_i e
      simp only [List.map_cons]
      rw [if_neg e]
theorem srtB_map {α β : Type} {r : α → α → Bool} {s : β → β → Bool} (f : α → β) (h : ∀ a b, r a b = s (f a) (f b)) : ∀ {l : List α}, (srtB r l).map f = srtB s (l.map f)
  | [] => rfl
  | y :: ys => by
    have := srtB_map f h (l := ys)
    unfold srtB at this ⊢
    rw [List.foldr_cons, insB_map f h, this, List.map_cons, List.foldr_cons]
section
open PySem.W
theorem insB_pw {α : Type} {le : α → α → Bool} (t : TotalLe le) {x : α} : ∀ {l : List α}, l.Pairwise (fun a b => le a b = true) → (insB (fun a b => !le b a) x l).Pairwise fun a b => le a b = true
  | [], _ => by simp [insB]
  | y :: ys, h => by
    rw [List.pairwise_cons] at h
    unfold insB
    split
    · rename_i e
      rw [List.pairwise_cons]
      refine ⟨fun z hz => ?_, insB_pw t h.2⟩
      rw [insB_mem] at hz
      rcases hz with rfl | hz
      · have e' : le z y = false := by simpa using e
        exact (t.total y z).elim id fun q => by rw [e'] at q; cases q
      · exact h.1 z hz
    · rename_i e
      have e' : le x y = true := by simpa using e
      rw [List.pairwise_cons, List.pairwise_cons]
      refine ⟨fun z hz => ?_, h⟩
      rcases List.mem_cons.mp hz with rfl | hz
      · exact e'
      · exact t.trans _ _ _ e' (h.1 z hz)
theorem insB_rank {α : Type} {le : α → α → Bool} (c x : α) (t : TotalLe le) : ∀ (l : List α), (insB (fun a b => !le b a) x l).filter (sameRank le c) = (x :: l).filter (sameRank le c)
  | [] => rfl
  | y :: ys => by
    unfold insB
    split
    · rename_i e
      have e' : le x y = false := by simpa using e
      rw [List.filter_cons, insB_rank c x t ys]
      by_cases hx : sameRank le c x = true
      · have hy : ¬ sameRank le c y = true := fun hy => by
          unfold sameRank at hx hy
          rw [Bool.and_eq_true] at hx hy
          have := t.trans _ _ _ hx.2 hy.1
          rw [e'] at this
          cases this
        simp only [List.filter_cons, hx, hy, if_true, if_false]
        simp
      · simp only [List.filter_cons, hx, if_false]
        simp
    · rfl
theorem srtB_merge {α : Type} {le : α → α → Bool} (t : TotalLe le) (l : List α) : srtB (fun a b => !le b a) l = l.mergeSort le := by
  refine sort_unique t ?_ fun c => ?_
  · induction l with
    | nil => exact .nil
    | cons y ys ih => exact insB_pw t ih
  · induction l with
    | nil => rfl
    | cons y ys ih =>
      have := insB_rank (le := le) c y t (srtB (fun a b => !le b a) ys)
      unfold srtB at this ih ⊢
      rw [List.foldr_cons, this, List.filter_cons, List.filter_cons, ih]
end
theorem ins_eq (x : PV) : ∀ l : List PV, ins x l = insB PV.lt x l
  | [] => rfl
  | y :: ys => by
    unfold ins insB
    rw [ins_eq x ys]
theorem sortP_eq (l : List PV) : sortP l = srtB PV.lt l := by
  unfold sortP srtB
  induction l with
  | nil => rfl
  | cons y ys ih => rw [List.foldr_cons, List.foldr_cons, ih, ins_eq]
/-! ### sorted -/
section
variable {g : GE} {X : Cx} {F : AS} {H : Hp}
theorem RVs.mem : ∀ {xs : List PV} {vs : List V} {p : PV × V}, RVs g F H xs vs → p ∈ xs.zip vs → RV g F H p.1 p.2 ∧ p.1 ∈ xs
  | _, _, _, .nil, h => by simp at h
  | _, _, _, .cons r t, h => by
    rw [List.zip_cons_cons, List.mem_cons] at h
    rcases h with rfl | h
    · exact ⟨r, by simp⟩
    · have := RVs.mem t h
      exact ⟨this.1, by simp [this.2]⟩
theorem RVs.of_pairs : ∀ {ps : List (PV × V)}, (∀ p ∈ ps, RV g F H p.1 p.2) → RVs g F H (ps.map Prod.fst) (ps.map Prod.snd)
  | [], _ => .nil
  | p :: ps, h => .cons (h p (by simp)) (RVs.of_pairs fun q hq => h q (by simp [hq]))
theorem datas_mem {d : Nat} {x : PV} : ∀ {xs : List PV}, PV.datas d xs = true → x ∈ xs → PV.data d x = true
  | [], _, h => by simp at h
  | y :: ys, hd, h => by
    simp only [PV.datas, Bool.and_eq_true] at hd
    rcases List.mem_cons.mp h with rfl | h
    · exact hd.1
    · exact datas_mem hd.2 h
/-- what sorted asks of the items -/
theorem sort_asks {pins : List (Addr × Obj)} {s : Shared} {σ : L2.St} {xs : List PV} {vs : List V} {us : List Value} (hK : X.K = g.K) (I : Inv X pins σ H s) (hs : sortable xs = true) (r : RVs g F H xs vs) (rv : Vals vs us) :
    PySem.W.EachIs (fun v (p : PV × V) => RelV p.2 v) us (xs.zip vs) ∧ PySem.W.EachIs (fun v (p : PV × V) => ∃ as, Reads s.heap v (toD p.1) as) us (xs.zip vs) ∧ PySem.W.AllAlike ((xs.zip vs).map fun p => toD p.1) ∧
    PySem.W.Sortable ((xs.zip vs).map fun p => toD p.1) ∧ (xs.zip vs).length = us.length ∧ (∀ p ∈ xs.zip vs, (toD p.1).depth ≤ 50) ∧ (xs.zip vs).map Prod.fst = xs ∧
    ((xs.zip vs).mergeSort (PySem.W.dataLe false fun p => toD p.1)).map Prod.fst = sortP xs := by
  unfold sortable at hs
  rw [Bool.and_eq_true, Bool.and_eq_true] at hs
  obtain ⟨⟨h1, h2⟩, h3⟩ := hs
  have hal : ∀ x ∈ xs, ∀ y ∈ xs, PV.alike x y = true := fun x hx y hy => by
    have := List.all_eq_true.mp h2 x hx
    exact List.all_eq_true.mp this y hy
  have hfst : (xs.zip vs).map Prod.fst = xs := List.map_fst_zip (Nat.le_of_eq r.length)
  have each : ∀ {xs : List PV} {vs : List V} {us : List Value}, PV.datas DD xs = true → RVs g F H xs vs → Vals vs us →
      PySem.W.EachIs (fun v (p : PV × V) => RelV p.2 v) us (xs.zip vs) ∧ PySem.W.EachIs (fun v (p : PV × V) => ∃ as, Reads s.heap v (toD p.1) as) us (xs.zip vs) := by
    intro xs
    induction xs with
    | nil => intro vs us _ r rv; cases r; cases rv; exact ⟨.nil, .nil⟩
    | cons x xs ih =>
      intro vs us hd r rv
      cases r with
      | cons r1 r2 =>
        cases rv with
        | cons q1 q2 =>
          simp only [PV.datas, Bool.and_eq_true] at hd
          have := ih hd.2 r2 q2
          exact ⟨.cons q1 this.1, .cons (Dp.reads I _ _ _ (by rw [hK]; exact r1.dp hd.1) q1) this.2⟩
  obtain ⟨e1, e2⟩ := each h3 r rv
  refine ⟨e1, e2, ?_, ?_, ?_, ?_, hfst, ?_⟩
  · intro d hd d' hd'
    obtain ⟨p, hp, rfl⟩ := List.mem_map.mp hd
    obtain ⟨p', hp', rfl⟩ := List.mem_map.mp hd'
    exact alike_toD _ _ (hal _ (r.mem hp).2 _ (r.mem hp').2)
  · rw [Bool.or_eq_true] at h1
    rcases h1 with h1 | h1
    · left
      intro d hd
      obtain ⟨p, hp, rfl⟩ := List.mem_map.mp hd
      have := List.all_eq_true.mp h1 _ (r.mem hp).2
      generalize p.1 = q at this ⊢
      cases q with
      | tup ys =>
        cases ys with
        | nil => simp [PV.isTup1] at this
        | cons y ys => exact ⟨_, _, by rw [toD, toDs]⟩
      | _ => simp [PV.isTup1] at this
    · right
      intro d hd
      obtain ⟨p, hp, rfl⟩ := List.mem_map.mp hd
      have := List.all_eq_true.mp h1 _ (r.mem hp).2
      generalize p.1 = q at this ⊢
      cases q with
      | int i => rw [toD]; exact ⟨by simp, by simp⟩
      | str i => rw [toD]; exact ⟨by simp, by simp⟩
      | _ => simp [PV.isAtom] at this
  · rw [List.length_zip, ← r.length, Nat.min_self, r.length, rv.length]
  · intro p hp
    exact (plain_toD DD _ (datas_mem h3 (r.mem hp).2)).2
  · unfold PySem.W.dataLe
    rw [← srtB_merge (PySem.W.sortLe_total _ _ _), sortP_eq, srtB_map (s := fun a b => PySem.W.dataLt (toD a) (toD b)) Prod.fst (fun a b => ?_), hfst]
    · exact srtB_congr fun x hx y hy => lt_toD DD DD x y (hal x hx y hy) (datas_mem h3 hx) (datas_mem h3 hy)
    · show (!(!PySem.W.dataLt (toD a.1) (toD b.1))) = _
      rw [Bool.not_not]
end
end EV
set_option Elab.async false
set_option linter.all false
set_option autoImplicit false
set_option maxRecDepth 100000
/-! Built-ins by values. -/
namespace EV
open PySem PySem.Spec PyProof.Rows L2
section
variable {g : GE} {X : Cx} {F : AS} {H : Hp}
theorem rgV_eq (a b : Int) : rgV a b = (rngL a b).map fun | .int i => V.int i | _ => V.non := by
  unfold rgV rngL
  rw [List.map_map]
  rfl
theorem rng_rvs (a b : Int) : RVs g F H (rngL a b) (rgV a b) := by
  unfold rgV rngL
  induction List.range (b - a).toNat with
  | nil => exact .nil
  | cons n ns ih => exact .cons (.int _) ih
theorem ints_vs : ∀ {xs : List PV} {vs : List V} {ns : List Int}, RVs g F H xs vs → ints? xs = some ns → vs = ns.map V.int ∧ xs = ns.map PV.int
  | _, _, ns, .nil, e => by
    simp [ints?] at e
    subst e
    exact ⟨rfl, rfl⟩
  | _, _, ns, .cons (x := x) r t, e => by
    cases r with
    | int i =>
      simp only [ints?, Option.map_eq_some_iff] at e
      obtain ⟨ms, e1, rfl⟩ := e
      obtain ⟨h1, h2⟩ := ints_vs t e1
      exact ⟨by rw [h1, List.map_cons], by rw [h2, List.map_cons]⟩
    | _ => simp [ints?] at e
theorem bools_vs : ∀ {xs : List PV} {vs : List V} {ns : List Bool}, RVs g F H xs vs → bools? xs = some ns → vs = ns.map V.bl
  | _, _, ns, .nil, e => by
    simp [bools?] at e
    subst e
    rfl
  | _, _, ns, .cons (x := x) r t, e => by
    cases r with
    | bl i =>
      simp only [bools?, Option.map_eq_some_iff] at e
      obtain ⟨ms, e1, rfl⟩ := e
      rw [bools_vs t e1, List.map_cons]
    | _ => simp [bools?] at e
theorem sumI_eq : ∀ (ns : List Int) (a : Int), sumI a ns = a + ns.sum
  | [], a => by simp [sumI]
  | n :: ns, a => by
    rw [sumI, sumI_eq ns, List.sum_cons]
    omega
theorem maxI_ge : ∀ (ns : List Int) (a : Int), a ≤ maxI a ns ∧ ∀ y ∈ ns, y ≤ maxI a ns
  | [], a => by simp [maxI]
  | n :: ns, a => by
    rw [maxI]
    by_cases hc : n > a
    · rw [if_pos hc]
      obtain ⟨h1, h2⟩ := maxI_ge ns n
      refine ⟨by omega, fun y hy => ?_⟩
      rcases List.mem_cons.mp hy with rfl | hy
      · omega
      · exact h2 y hy
    · rw [if_neg hc]
      obtain ⟨h1, h2⟩ := maxI_ge ns a
      refine ⟨by omega, fun y hy => ?_⟩
      rcases List.mem_cons.mp hy with rfl | hy
      · omega
      · exact h2 y hy
theorem maxI_mem : ∀ (ns : List Int) (a : Int), maxI a ns = a ∨ maxI a ns ∈ ns
  | [], a => by simp [maxI]
  | n :: ns, a => by
    rw [maxI]
    by_cases hc : n > a
    · rw [if_pos hc]
      rcases maxI_mem ns n with h | h
      · right; rw [h]; simp
      · right; simp [h]
    · rw [if_neg hc]
      rcases maxI_mem ns a with h | h
      · left; exact h
      · right; simp [h]
theorem minI_le : ∀ (ns : List Int) (a : Int), minI a ns ≤ a ∧ ∀ y ∈ ns, minI a ns ≤ y
  | [], a => by simp [minI]
  | n :: ns, a => by
    rw [minI]
    by_cases hc : n < a
    · rw [if_pos hc]
      obtain ⟨h1, h2⟩ := minI_le ns n
      refine ⟨by omega, fun y hy => ?_⟩
      rcases List.mem_cons.mp hy with rfl | hy
      · omega
      · exact h2 y hy
    · rw [if_neg hc]
      obtain ⟨h1, h2⟩ := minI_le ns a
      refine ⟨by omega, fun y hy => ?_⟩
      rcases List.mem_cons.mp hy with rfl | hy
      · omega
      · exact h2 y hy
theorem minI_mem : ∀ (ns : List Int) (a : Int), minI a ns = a ∨ minI a ns ∈ ns
  | [], a => by simp [minI]
  | n :: ns, a => by
    rw [minI]
    by_cases hc : n < a
    · rw [if_pos hc]
      rcases minI_mem ns n with h | h
      · right; rw [h]; simp
      · right; simp [h]
    · rw [if_neg hc]
      rcases minI_mem ns a with h | h
      · left; exact h
      · right; simp [h]
theorem RBs.one {u : PV} {xs : List V} (h : RBs g F H [u] xs) : ∃ x, xs = [x] ∧ RB g F H u x := by
  cases h with
  | cons r t => cases t; exact ⟨_, rfl, r⟩
theorem RBs.two {u v : PV} {xs : List V} (h : RBs g F H [u, v] xs) : ∃ x y, xs = [x, y] ∧ RB g F H u x ∧ RB g F H v y := by
  cases h with
  | cons r t =>
    obtain ⟨y, rfl, r2⟩ := t.one
    exact ⟨_, _, rfl, r, r2⟩
theorem fold_max : ∀ (ns : List Int) (a : Int), ns.foldl max a = maxI a ns
  | [], a => rfl
  | n :: ns, a => by
    rw [List.foldl_cons, maxI, fold_max ns]
    congr 1
    by_cases h : n > a
    · rw [if_pos h]; omega
    · rw [if_neg h]; omega
theorem fold_min : ∀ (ns : List Int) (a : Int), ns.foldl min a = minI a ns
  | [], a => rfl
  | n :: ns, a => by
    rw [List.foldl_cons, minI, fold_min ns]
    congr 1
    by_cases h : n < a
    · rw [if_pos h]; omega
    · rw [if_neg h]; omega
theorem reads_ints {h : Heap} : ∀ {us : List Value} {ns : List Int}, Vals (ns.map V.int) us → ∃ as, ReadsAll h us (ns.map PyData.int) as
  | us, [], r => by
    cases r
    exact ⟨_, .nil⟩
  | us, n :: ns, r => by
    cases r with
    | cons r1 r2 =>
      obtain ⟨t, rfl⟩ := r1
      obtain ⟨as, q⟩ := reads_ints (h := h) r2
      exact ⟨_, .cons (.int n t) q⟩
theorem alike_intsD (ns : List Int) : PySem.W.AlikeAll (ns.map PyData.int) := by
  refine ⟨fun x hx y hy => ?_, fun x hx => ?_⟩
  · obtain ⟨i, _, rfl⟩ := List.mem_map.mp hx
    obtain ⟨j, _, rfl⟩ := List.mem_map.mp hy
    simp [PySem.W.alike]
  · obtain ⟨i, _, rfl⟩ := List.mem_map.mp hx
    simp

/-- len, abs, max, min, .. of values -/
inductive BiK where | fn (n : String) | ty (n : String)
def bik : Bi → BiK
  | .lens => .fn "len" | .trg3 => .ty "tuple" | .len => .fn "len" | .abs => .fn "abs" | .int => .ty "int" | .tuple => .ty "tuple" | .list => .ty "list" | .sorted => .fn "sorted" | .sum => .fn "sum"
  | .max => .fn "max" | .min => .fn "min" | .max2 => .fn "max" | .min2 => .fn "min" | .all => .fn "all" | .any => .fn "any" | .isi _ => .fn "isinstance" | .range1 => .ty "range" | .range2 => .ty "range"
def bikV : BiK → Value
  | .fn n => .builtin n
  | .ty n => .type n
def notIsi : Bi → Bool | .isi _ => false | .lens => false | .trg3 => false | _ => true
theorem cr_range1 : CallR X (.type "range") (fun vs H Q => ∃ j : Int, vs = [V.int j] ∧ ∀ p, H p = none → Q (.ref p) (upd H p (.rng 0 j))) := by
  intro pins s σ H vs us Q I r h
  obtain ⟨j, rfl, q⟩ := h
  obtain ⟨u1, rfl, rj⟩ := vals1 r
  obtain ⟨t, rfl⟩ := rj
  have I2 : Inv X pins σ (upd H s.heap.objs.size (.rng 0 j)) { s with heap := s.heap.push { cls := .type "range", data := .fields #[.int 0 s.toks, .int j t, .int 1 (s.toks + 1)] }, toks := s.toks + 1 + 1 } :=
    I.laid (fun b o e => Heap.get?_push_of_some _ e) (Nat.le_refl _) ⟨s.toks, t, s.toks + 1, Heap.get?_push_size _ rfl⟩
  exact call_range_1 ⟨.ref _, _, I2, rfl, q _ (I.hok.fresh (Nat.le_refl _))⟩
theorem ints_here {xs : List PV} {vs : List V} {ns : List Int} {us : List Value} (r : RVs g F H xs vs) (e : ints? xs = some ns) (rv : Vals vs us) : Vals (ns.map V.int) us := by
  rw [← (ints_vs r e).1]
  exact rv
theorem EachIs_vals {us : List Value} {ps : List (PV × V)} (h : PySem.W.EachIs (fun v (p : PV × V) => RelV p.2 v) us ps) : Vals (ps.map Prod.snd) us := by
  induction h with
  | nil => exact .nil
  | cons r _ ih => exact .cons r ih
theorem sum_tup {prog : Program} {w : World} {A : Around} {E : Value → Shared → Prop} {s : Shared} {l : Addr} {its : List Value} {ns : List Int} {Q : Value → Shared → Prop} (hh : A.handled = none) (hl : s.heap.IsTuple l its.toArray) (hi : IntsAre its ns)
    (h : ∀ h' tk t', (∀ b o, s.heap.get? b = some o → h'.get? b = some o) → Q (.int ns.sum t') { s with heap := h', toks := tk }) : wpAny (model prog w) A (call (.builtin "sum") [.ref l]) Q E s := by
  obtain ⟨xs, e⟩ := hi.allInts.items
  have hn : numsOf (intItems xs).toList = ns := by
    rw [← e]
    exact hi.numsOf
  rw [nums_intItems] at hn
  rw [e] at hl
  refine PySem.W.ktm_sumG hh hl fun h' tk t' hk => ?_
  have := h h' tk t' hk
  rw [preSum_eq, List.take_of_length_le (by simp), hn]
  exact this
/-- the new list of a sort -/
theorem sorted_fin {pins : List (Addr × Obj)} {s : Shared} {σ : L2.St} {ys : List PV} {ws : List V} {us : List Value} {h' : Heap} {ee : Nat} {Q : VK} (I : Inv X pins σ H s) (hk : ∀ b o, s.heap.get? b = some o → h'.get? b = some o)
    (he : h'.get? (s.heap.objs.size + 1) = some (seqObj "list" us.toArray ee)) (ho : PySem.W.EachIs (fun v (p : PV × V) => RelV p.2 v) us ((ys.zip ws).mergeSort (PySem.W.dataLe false fun p => toD p.1))) (r : RVs g F H ys ws)
    (e8 : ((ys.zip ws).mergeSort (PySem.W.dataLe false fun p => toD p.1)).map Prod.fst = sortP ys) {n : Nat} (e5 : n = (ys.zip ws).length) (hz : (ys.zip ws).length ≤ sizeLine)
    (q : ∀ H' z, NewR g F H H' (.lst (sortP ys), true) z → Q z H') : EP X pins σ Q (.ref (s.heap.objs.size + 1)) { s with heap := h' } := by
  have hp : H (s.heap.objs.size + 1) = none := I.hok.fresh (Nat.le_succ _)
  refine ⟨.ref (s.heap.objs.size + 1), upd H (s.heap.objs.size + 1) (.lst (((ys.zip ws).mergeSort (PySem.W.dataLe false fun p => toD p.1)).map Prod.snd)), I.laid (t' := s.toks) hk (Nat.le_succ _) (show ObjOk X.prog X.w _ _ _ (.lst _) from ⟨?_, us, ee, EachIs_vals ho, he⟩), rfl, q _ _ ?_⟩
  · rw [List.length_map, List.length_mergeSort]; exact hz
  · rw [← e8]
    refine NewR.lst hp (RVs.of_pairs fun p hp => (r.mem ?_).1)
    exact (List.mergeSort_perm _ _).mem_iff.mp hp
theorem perm_short {α : Type} {l out : List α} (h : l.length ≤ 1) (p : out.Perm l) : out = l := by
  cases l with
  | nil => exact List.perm_nil.mp p
  | cons x l =>
    cases l with
    | nil => exact List.perm_singleton.mp p
    | cons y l => simp at h
theorem sortP_short : ∀ {l : List PV}, l.length ≤ 1 → sortP l = l
  | [], _ => rfl
  | [_], _ => rfl
  | _ :: _ :: _, h => by simp at h
theorem bi_ok (hK : X.K = g.K) (hc : X.calm = true) (hu : X.A.units + 64 < cLine) (b : Bi) (hb : notIsi b = true) : CallR X (bikV (bik b)) (rVn g (biV b)) := by
  intro pins s σ H vs us Q I rv h
  obtain ⟨F, xs, w, rs, e, q⟩ := h
  have hh : X.A.handled = none := I.ok.hd hc
  unfold biV at e
  split at e
  · -- len
    obtain ⟨x, rfl, rx⟩ := rs.one
    obtain ⟨a, ws, rfl, h1, r1⟩ := rx.tup
    cases e
    exact call_len pins s σ H _ us Q I rv ⟨_, _, rfl, .inr ⟨ws, by rw [hK]; exact h1.sq, r1.length⟩, q _ _ (.old (.int _))⟩
  · obtain ⟨x, rfl, rx⟩ := rs.one
    obtain ⟨a, ws, rfl, h1, r1⟩ := rx.lst
    cases e
    exact call_len pins s σ H _ us Q I rv ⟨_, _, rfl, .inl ⟨ws, SqL.of h1, r1.length⟩, q _ _ (.old (.int _))⟩
  · split at e
    · rename_i t hz
      obtain ⟨x, rfl, rx⟩ := rs.one
      cases rx.str
      cases e
      refine call_len pins s σ H _ us Q I rv ⟨.str (toS t), t.length, rfl, ⟨?_, ?_⟩, q _ _ (.old (.int _))⟩
      · simp only [Str.length, List.size_toArray]; exact sz_le hz
      · simp [Str.length]
    · cases e
  · obtain ⟨x, rfl, rx⟩ := rs.one
    cases rx.int
    cases e
    exact call_abs pins s σ H _ us Q I rv ⟨_, rfl, q _ _ (.old (.int _))⟩
  · obtain ⟨x, rfl, rx⟩ := rs.one
    cases rx.int
    cases e
    exact call_int1 pins s σ H _ us Q I rv (.inl ⟨_, rfl, q _ _ (.old (.int _))⟩)
  · obtain ⟨x, rfl, rx⟩ := rs.one
    obtain ⟨a, ws, rfl, h1, r1⟩ := rx.tup
    cases e
    exact call_tuple_of pins s σ H _ us Q I rv ⟨a, ws, rfl, .inr ⟨by rw [hK]; exact h1.sq, q _ _ (.old (.tup h1 r1))⟩⟩
  · obtain ⟨x, rfl, rx⟩ := rs.one
    obtain ⟨a, ws, rfl, h1, r1⟩ := rx.lst
    cases e
    obtain ⟨u, rfl, ru⟩ := vals1 rv
    cases ru
    obtain ⟨its, r2, hil, hz⟩ := I.list (SqL.of h1)
    refine call_tuple_list hil.isList (fun h' kp => ?_) (by simp only [List.size_toArray]; rw [← r2.length]; exact hz)
    exact tupEP I kp r2 hz r1 q
  · split at e
    · rename_i lo hi hz
      obtain ⟨⟨b1, b2⟩, ⟨b3, b4⟩, b5⟩ := hz
      obtain ⟨x, rfl, rx⟩ := rs.one
      obtain ⟨a, rfl, h1⟩ := rx.rng
      obtain ⟨u, rfl, ru⟩ := vals1 rv
      cases ru
      obtain ⟨t1, t2, t3, ho⟩ := I.hok a _ h1
      cases e
      refine call_tuple_range (n := (hi - lo).toNat) hh ho (small_one b1 b2 b3 b4) (rangeSize_nat lo hi) b5 fun h' tk acc hk hi' => ?_
      have I2 : Inv X pins σ H { s with heap := h', toks := tk } := I.kept hk
      have q3 := tupEP (t' := tk) (h' := h') (its := acc.toList) (Q := Q) I2 (fun _ _ e => e) (vals_rg hi') (by rw [rgV_length]; exact sz_le b5) (rng_rvs lo hi) q
      rw [Array.toArray_toList] at q3
      exact q3
    · cases e
  · obtain ⟨x, rfl, rx⟩ := rs.one
    obtain ⟨a, ws, rfl, h1, r1⟩ := rx.tup
    cases e
    exact call_list_of pins s σ H _ us Q I rv ⟨a, ws, rfl, .inr (by rw [hK]; exact h1.sq), fun l hl => q _ _ (.lst hl r1)⟩
  · obtain ⟨x, rfl, rx⟩ := rs.one
    obtain ⟨a, ws, rfl, h1, r1⟩ := rx.lst
    cases e
    exact call_list_of pins s σ H _ us Q I rv ⟨a, ws, rfl, .inl (SqL.of h1), fun l hl => q _ _ (.lst hl r1)⟩
  · split at e
    · rename_i lo hi hz
      obtain ⟨⟨b1, b2⟩, ⟨b3, b4⟩, b5⟩ := hz
      obtain ⟨x, rfl, rx⟩ := rs.one
      obtain ⟨a, rfl, h1⟩ := rx.rng
      obtain ⟨u, rfl, ru⟩ := vals1 rv
      cases ru
      obtain ⟨t1, t2, t3, ho⟩ := I.hok a _ h1
      cases e
      refine call_list_range (n := (hi - lo).toNat) hh ho (small_one b1 b2 b3 b4) (rangeSize_nat lo hi) b5 fun h' tk acc c' hk e' hi' => ?_
      refine ⟨.ref s.heap.objs.size, upd H s.heap.objs.size (.lst (rgV lo hi)), I.laid hk (Nat.le_refl _) (show ObjOk X.prog X.w _ _ _ (.lst (rgV lo hi)) from ⟨?_, acc.toList, c', vals_rg hi', ?_⟩), rfl, q _ _ (.lst (I.hok.fresh (Nat.le_refl _)) (rng_rvs _ _))⟩
      · rw [rgV_length]; exact sz_le b5
      · rw [Array.toArray_toList]; exact e'
    · cases e
  · -- sorted of a tuple
    split at e
    · rename_i ys hs
      obtain ⟨x, rfl, rx⟩ := rs.one
      obtain ⟨a, ws, rfl, h1, r1⟩ := rx.tup
      obtain ⟨u, rfl, ru⟩ := vals1 rv
      cases ru
      cases e
      obtain ⟨its, r2, ht, hz⟩ := I.tuple (by rw [hK]; exact h1.sq)
      obtain ⟨e1, e2, e3, e4, e5, e6, e7, e8⟩ := sort_asks hK I hs r1 r2
      have hl : its.length ≤ sizeLine := by rw [← r2.length]; exact hz
      refine sortedT (show s.heap.IsTuple a its.toArray from ht) hl fun E' => ?_
      have er' := e2.mono (R' := fun v (p : PV × V) => ∃ as, Reads (PySem.W.sortingHeap (PySem.W.copyHeap s.heap its) (s.heap.objs.size + 1) its) v (toD p.1) as) fun _ _ ⟨as, r⟩ => ⟨as, PyProof.Rows.Reads.keeps (fun _ _ => PySem.W.sorting_copy_old) r⟩
      refine PySem.W.list_sort_vals (s := { s with heap := PySem.W.copyHeap s.heap its }) (PySem.W.copyHeap_at s.heap its) (PySem.W.SortsAt.data (s := { s with heap := PySem.W.sortingHeap (PySem.W.copyHeap s.heap its) (s.heap.objs.size + 1) its }) (PySem.W.each_map (R := fun v d => ∃ as, Reads (PySem.W.sortingHeap (PySem.W.copyHeap s.heap its) (s.heap.objs.size + 1) its) v d as) (fun p : PV × V => toD p.1) er') e3 e4 (PySem.W.bound_map (enc := fun p : PV × V => toD p.1) fun p hp => ?_)) hl ⟨rfl, ?_⟩
      · have := e6 p hp
        show X.A.units + 1 + 1 + _ < _
        omega
      · have hout := PySem.W.sortVals_data (R := fun v (p : PV × V) => RelV p.2 v) (enc := fun p : PV × V => toD p.1) false e1 er' e3
        obtain ⟨ee, he⟩ := sortedAll_at s.heap its (PySem.W.sortVals (PySem.W.dataKind (PySem.W.sortingHeap (PySem.W.copyHeap s.heap its) (s.heap.objs.size + 1) its) ((ys.zip ws).map fun p => toD p.1)) false its its).toArray
        refine sorted_fin I (fun b o e => sortedAll_old e) he hout r1 e8 e5.symm (by rw [e5]; exact hl) q
    · cases e
  · -- sorted of a list
    split at e
    · rename_i ys hs
      obtain ⟨x, rfl, rx⟩ := rs.one
      obtain ⟨a, ws, rfl, h1, r1⟩ := rx.lst
      obtain ⟨u, rfl, ru⟩ := vals1 rv
      cases ru
      cases e
      obtain ⟨its, r2, hil, hz⟩ := I.list (SqL.of h1)
      have hl : its.length ≤ sizeLine := by rw [← r2.length]; exact hz
      by_cases h2 : ys.length ≤ 1
      · have hi1 : its.length ≤ 1 := by rw [← r2.length, ← r1.length]; exact h2
        have swo : SrtO.Swo (fun _ _ : Value => false) := ⟨fun _ _ h => (by cases h), fun _ _ _ _ _ => rfl⟩
        refine SrtO.sorted_ord swo hil.isList hl (fun h => absurd h (by omega)) fun out o1 o2 => ?_
        have eo : out = its := perm_short hi1 o2.perm
        subst eo
        obtain ⟨ee, he⟩ := sortedAll_at s.heap out out.toArray
        have hp : H (s.heap.objs.size + 1) = none := I.hok.fresh (Nat.le_succ _)
        have es : sortP ys = ys := sortP_short h2
        rw [es] at q
        have I2 : Inv X pins σ (upd H (s.heap.objs.size + 1) (.lst ws)) { s with heap := sortedAll s.heap out out.toArray } := I.laid (t' := s.toks) (fun b o e => sortedAll_old e) (Nat.le_succ _) (show ObjOk X.prog X.w _ _ _ (.lst _) from ⟨hz, out, ee, r2, he⟩)
        exact ⟨.ref (s.heap.objs.size + 1), _, I2, rfl, q _ _ (NewR.lst hp r1)⟩
      · rw [Bool.or_eq_true, decide_eq_true_eq] at hs
        have hs := hs.resolve_left h2
        obtain ⟨e1, e2, e3, e4, e5, e6, e7, e8⟩ := sort_asks hK I hs r1 r2
        refine PySem.W.sorted_data (R := fun v (p : PV × V) => RelV p.2 v) (enc := fun p : PV × V => toD p.1) hil.isList e1 e2 e3 e4 (by rw [e5]; exact hl) (fun p hp => ?_) fun out o1 o2 => ?_
        · have := e6 p hp
          show X.A.units + 2 + _ < _
          omega
        · obtain ⟨ee, he⟩ := sortedAll_at s.heap its out.toArray
          exact sorted_fin I (fun b o e => sortedAll_old e) he o2 r1 e8 o1 (by rw [e5]; exact hl) q
    · cases e
  · -- sum
    split at e
    · rename_i ys ns hn
      obtain ⟨x, rfl, rx⟩ := rs.one
      obtain ⟨a, ws, rfl, h1, r1⟩ := rx.lst
      cases e
      obtain ⟨rfl, -⟩ := ints_vs r1 hn
      refine cr_sum hc pins s σ H _ us Q I rv ⟨a, ns, rfl, SqL.of h1, ?_⟩
      have := sumI_eq ns 0
      rw [Int.zero_add] at this
      rw [← this]
      exact q _ _ (.old (.int _))
    · cases e
  · split at e
    · rename_i ys ns hn
      obtain ⟨x, rfl, rx⟩ := rs.one
      obtain ⟨a, ws, rfl, h1, r1⟩ := rx.tup
      obtain ⟨u, rfl, ru⟩ := vals1 rv
      cases ru
      cases e
      obtain ⟨its, r2, ht, hz⟩ := I.tuple (by rw [hK]; exact h1.sq)
      obtain ⟨rfl, -⟩ := ints_vs r1 hn
      refine sum_tup hh (show s.heap.IsTuple a its.toArray from ht) r2.ints fun h' tk t' hk => ?_
      have := sumI_eq ns 0
      rw [Int.zero_add] at this
      rw [← this]
      exact ⟨.int _, H, I.kept hk, ⟨_, rfl⟩, q _ _ (.old (.int _))⟩
    · cases e
  · -- max
    split at e
    · rename_i ys n ns hn
      obtain ⟨x, rfl, rx⟩ := rs.one
      obtain ⟨a, ws, rfl, h1, r1⟩ := rx.lst
      cases e
      obtain ⟨rfl, -⟩ := ints_vs r1 hn
      refine cr_max hc pins s σ H _ us Q I rv ⟨a, n :: ns, rfl, SqL.of h1, by simp, fun m hm hy => ?_⟩
      have e1 : m = maxI n ns := by
        have g1 := maxI_ge ns n
        have g2 := maxI_mem ns n
        have g3 : maxI n ns ≤ m := by
          rcases g2 with g2 | g2
          · rw [g2]; exact hy n (by simp)
          · exact hy _ (by simp [g2])
        rcases List.mem_cons.mp hm with rfl | hm
        · omega
        · have := g1.2 m hm
          omega
      rw [e1]
      exact q _ _ (.old (.int _))
    · cases e
  · split at e
    · rename_i ys n ns hn
      obtain ⟨x, rfl, rx⟩ := rs.one
      obtain ⟨a, ws, rfl, h1, r1⟩ := rx.tup
      obtain ⟨u, rfl, ru⟩ := vals1 rv
      cases ru
      cases e
      obtain ⟨its, r2, ht, hz⟩ := I.tuple (by rw [hK]; exact h1.sq)
      obtain ⟨rfl, -⟩ := ints_vs r1 hn
      obtain ⟨as, rr⟩ := reads_ints (h := s.heap) r2
      refine PySem.W.max_tuple_data (x := .int n) (xs := ns.map .int) hh (show s.heap.IsTuple a its.toArray from ht) (by simpa using rr) (by simpa using alike_intsD (n :: ns)) ?_ ?_
      · rw [← List.map_cons, PySem.W.depth_ints]
        omega
      · intro i v h' tk bs _ hr hk
        rw [PySem.W.maxD_ints, fold_max] at hr
        cases hr
        exact ⟨.int _, H, I.kept hk, ⟨_, rfl⟩, q _ _ (.old (.int _))⟩
    · cases e
  · -- min
    split at e
    · rename_i ys n ns hn
      obtain ⟨x, rfl, rx⟩ := rs.one
      obtain ⟨a, ws, rfl, h1, r1⟩ := rx.lst
      cases e
      obtain ⟨rfl, -⟩ := ints_vs r1 hn
      refine cr_min hc pins s σ H _ us Q I rv ⟨a, n :: ns, rfl, SqL.of h1, by simp, fun m hm hy => ?_⟩
      have e1 : m = minI n ns := by
        have g1 := minI_le ns n
        have g2 := minI_mem ns n
        have g3 : m ≤ minI n ns := by
          rcases g2 with g2 | g2
          · rw [g2]; exact hy n (by simp)
          · exact hy _ (by simp [g2])
        rcases List.mem_cons.mp hm with rfl | hm
        · omega
        · have := g1.2 m hm
          omega
      rw [e1]
      exact q _ _ (.old (.int _))
    · cases e
  · split at e
    · rename_i ys n ns hn
      obtain ⟨x, rfl, rx⟩ := rs.one
      obtain ⟨a, ws, rfl, h1, r1⟩ := rx.tup
      obtain ⟨u, rfl, ru⟩ := vals1 rv
      cases ru
      cases e
      obtain ⟨its, r2, ht, hz⟩ := I.tuple (by rw [hK]; exact h1.sq)
      obtain ⟨rfl, -⟩ := ints_vs r1 hn
      obtain ⟨as, rr⟩ := reads_ints (h := s.heap) r2
      refine PySem.W.min_tuple_data (x := .int n) (xs := ns.map .int) hh (show s.heap.IsTuple a its.toArray from ht) (by simpa using rr) (by simpa using alike_intsD (n :: ns)) ?_ ?_
      · rw [← List.map_cons, PySem.W.depth_ints]
        omega
      · intro i v h' tk bs _ hr hk
        rw [PySem.W.minD_ints, fold_min] at hr
        cases hr
        exact ⟨.int _, H, I.kept hk, ⟨_, rfl⟩, q _ _ (.old (.int _))⟩
    · cases e
  · obtain ⟨x, y, rfl, rx, ry⟩ := rs.two
    cases rx.int; cases ry.int
    cases e
    exact call_max2 hc pins s σ H _ us Q I rv ⟨_, _, rfl, q _ _ (.old (.int _))⟩
  · obtain ⟨x, y, rfl, rx, ry⟩ := rs.two
    cases rx.int; cases ry.int
    cases e
    exact call_min2 hc pins s σ H _ us Q I rv ⟨_, _, rfl, q _ _ (.old (.int _))⟩
  · split at e
    · rename_i ys ns hn
      obtain ⟨x, rfl, rx⟩ := rs.one
      obtain ⟨a, ws, rfl, h1, r1⟩ := rx.lst
      cases e
      obtain rfl := bools_vs r1 hn
      exact cr_all hc pins s σ H _ us Q I rv ⟨a, ns, rfl, SqL.of h1, q _ _ (.old (.bl _))⟩
    · cases e
  · split at e
    · rename_i ys ns hn
      obtain ⟨x, rfl, rx⟩ := rs.one
      obtain ⟨a, ws, rfl, h1, r1⟩ := rx.lst
      cases e
      obtain rfl := bools_vs r1 hn
      exact cr_any hc pins s σ H _ us Q I rv ⟨a, ns, rfl, SqL.of h1, q _ _ (.old (.bl _))⟩
    · cases e
  · cases hb
  · obtain ⟨x, rfl, rx⟩ := rs.one
    cases rx.int
    cases e
    exact cr_range1 pins s σ H _ us Q I rv ⟨_, rfl, fun p hp => q _ _ ⟨grow_upd hp, .inl ⟨rfl, .rng upd_same⟩⟩⟩
  · obtain ⟨x, y, rfl, rx, ry⟩ := rs.two
    cases rx.int; cases ry.int
    cases e
    exact cr_range2 pins s σ H _ us Q I rv ⟨_, _, rfl, fun p hp => q _ _ ⟨grow_upd hp, .inl ⟨rfl, .rng upd_same⟩⟩⟩
  · cases hb
  · cases hb
  · cases hb
  · cases e
end
end EV
set_option Elab.async false
set_option linter.all false
set_option autoImplicit false
set_option maxRecDepth 100000
/-! Subscripts, slices, methods by values. -/
namespace EV
open PySem PySem.Spec PyProof.Rows L2
section
variable {g : GE} {X : Cx} {F : AS} {H : Hp}
theorem atI_pix {xs : List PV} {vs : List V} {i : Int} {v : PV} (r : RVs g F H xs vs) (e : pix xs i = some v) : ∃ z, atI vs i = some z ∧ RV g F H v z := by
  have e1 : (ixN xs.length i).bind (fun j => xs[j]?) = some v := e
  cases h : ixN xs.length i with
  | none => rw [h] at e1; cases e1
  | some j =>
    rw [h, Option.bind_some] at e1
    obtain ⟨z, h2, h3⟩ := r.get e1
    refine ⟨z, ?_, h3⟩
    unfold atI
    rw [← r.length, h, Option.bind_some]
    exact h2
/-- what a subscript reads -/
def rSub (g : GE) : R2 := fun x y H Q => ∃ F u v w, RB g F H u x ∧ RB g F H v y ∧ subV u v = .ok w ∧ ∀ z, RV g F H w z → Q z H
/-- without dicts -/
def noDic : PV → Bool | .dic _ _ => false | _ => true
theorem ix_ok (hK : X.K = g.K) : IxR X (rSub g) := by
  intro value slice pins s σ H x y xv yv Q I rx ry h hs
  obtain ⟨F, u, v, w, hu, hv, e, q⟩ := h
  unfold subV at e
  split at e
  · cases hv.int
    obtain ⟨a, vs, rfl, h1, r1⟩ := hu.tup
    split at e
    · rename_i v2 hp
      cases e
      obtain ⟨z, h2, h3⟩ := atI_pix r1 hp
      exact ix_tup value slice pins s σ H _ _ xv yv Q I rx ry ⟨a, vs, _, z, rfl, rfl, by rw [hK]; exact h1.sq, h2, q _ h3⟩ hs
    · cases e
  · cases hv.int
    obtain ⟨a, vs, rfl, h1, r1⟩ := hu.lst
    split at e
    · rename_i v2 hp
      cases e
      obtain ⟨z, h2, h3⟩ := atI_pix r1 hp
      exact ix_list value slice pins s σ H _ _ xv yv Q I rx ry ⟨a, vs, _, z, rfl, rfl, SqL.of h1, h2, q _ h3⟩ hs
    · cases e
  · cases hv.int
    cases hu.str
    split at e
    · rename_i hz
      split at e
      · rename_i c hp
        cases e
        refine ix_str value slice pins s σ H _ _ xv yv Q I rx ry ⟨_, _, c, rfl, rfl, ?_, hp, q _ (.str [c])⟩ hs
        simp only [Str.length, List.size_toArray]
        exact sz_le hz
      · cases e
    · cases e
  · cases e
/-! ### slices -/
def sIxP (n d : Nat) : Option Int → Nat
  | none => d
  | some i => clampN n i
theorem sIx_eq (n d : Nat) (o : Option Int) : HT.sIx n d o = sIxP n d o := by
  cases o <;> rfl
theorem slcL_eq {α : Type} (xs : List α) (lo hi : Option Int) : slcL xs lo hi = (xs.drop (sIxP xs.length 0 lo)).take (sIxP xs.length xs.length hi - sIxP xs.length 0 lo) := by
  unfold slcL sIxP
  cases lo <;> cases hi <;> rfl
theorem cutV_eq (vs : List V) (lo hi : Option Int) : cutV vs lo hi = slcL vs lo hi := by
  unfold cutV
  rw [slcL_eq, sIx_eq, sIx_eq]
theorem RVs.slc {xs : List PV} {vs : List V} (r : RVs g F H xs vs) (lo hi : Option Int) : RVs g F H (slcL xs lo hi) (slcL vs lo hi) := by
  rw [slcL_eq, slcL_eq, r.length]
  exact (r.drop _).take _
theorem slcL_whole {α : Type} {xs : List α} {lo hi : Option Int} (h : sIxP xs.length 0 lo = 0 ∧ sIxP xs.length xs.length hi = xs.length) : slcL xs lo hi = xs := by
  rw [slcL_eq, h.1, h.2, List.drop_zero, Nat.sub_zero, List.take_length]
theorem slcL_map {α β : Type} (f : α → β) (xs : List α) (lo hi : Option Int) : slcL (xs.map f) lo hi = (slcL xs lo hi).map f := by
  rw [slcL_eq, slcL_eq, List.length_map, ← List.map_drop, ← List.map_take]
theorem slcL_len {α : Type} (xs : List α) (lo hi : Option Int) : (slcL xs lo hi).length ≤ xs.length := by
  rw [slcL_eq, List.length_take, List.length_drop]
  omega
def rSlc (g : GE) : V → Option Int → Option Int → Hp → VK → Prop := fun x lo hi H Q => ∃ F u w, RB g F H u x ∧ slcV u lo hi = .ok w ∧ ∀ H' z, NewR g F H H' w z → Q z H'
theorem slc_ok (hK : X.K = g.K) : L2.SlR X (rSlc g) := by
  intro pins s σ H x v vl vu lo hi sl Q I rx hs pl pu h
  obtain ⟨F, u, w, hu, e, q⟩ := h
  unfold slcV at e
  split at e
  · cases e
    obtain ⟨a, vs, rfl, h1, r1⟩ := hu.tup
    have h1' := h1.sq
    rw [← hK] at h1'
    obtain ⟨its, r, ht, hz⟩ := I.tuple h1'
    have hlen : its.toArray.size = vs.length := by rw [List.size_toArray]; exact r.length.symm
    cases rx
    by_cases hw : HT.sIx vs.length 0 lo = 0 ∧ HT.sIx vs.length vs.length hi = vs.length
    · have hw2 := hw
      rw [sIx_eq, sIx_eq, ← r1.length] at hw2
      rw [slcL_whole hw2] at q
      refine ⟨"tuple", _, PyProof.Rows.slot_tuple_getitem.lookup, ht.typeIs, ?_⟩
      refine getItem_tuple_whole ht hs pl pu (by rw [hlen]; exact hw) ⟨.ref a, H, I, rfl, ?_⟩
      exact q _ _ (.old (.tup h1 r1))
    · refine ⟨"tuple", _, PyProof.Rows.slot_tuple_getitem.lookup, ht.typeIs, ?_⟩
      refine HT.getItem_tuple_cut ht hs pl pu (by rw [hlen]; exact hw) ?_ (by rw [hlen]; exact hz)
      rw [hlen]
      have q2 := tupEP (t' := s.toks) (h' := s.heap) (Q := Q) I (fun _ _ e => e) ((r.drop (HT.sIx vs.length 0 lo)).take (HT.sIx vs.length vs.length hi - HT.sIx vs.length 0 lo))
        (Nat.le_trans (cutV_length vs lo hi) hz) (F := F) (xs := slcL _ lo hi) (by have := r1.slc lo hi; rw [slcL_eq vs, ← sIx_eq, ← sIx_eq] at this; exact this) q
      exact q2
  · cases e
    obtain ⟨a, vs, rfl, h1, r1⟩ := hu.lst
    refine sl_list pins s σ H _ v vl vu lo hi sl Q I rx hs pl pu ⟨a, vs, rfl, SqL.of h1, fun p hp => ?_⟩
    rw [cutV_eq]
    exact q _ _ (.lst hp (r1.slc lo hi))
  · cases hu.str
    split at e
    · rename_i t hz
      cases e
      refine sl_str pins s σ H _ v vl vu lo hi sl Q I rx hs pl pu ⟨toS t, rfl, ?_, ?_⟩
      · simp only [Str.length, List.size_toArray]
        exact sz_le hz
      · have e2 : cutS (toS t) lo hi = toS (slcL t lo hi) := by
          have hl : (toS t).length = t.length := by simp [Str.length]
          unfold cutS
          rw [slcL_eq, sIx_eq, sIx_eq, hl]
        rw [e2]
        exact q _ _ (.old (.str _))
    · cases e
  · rename_i ns
    cases e
    obtain ⟨a, rfl, h1⟩ := hu.scr
    refine sl_list pins s σ H _ v vl vu lo hi sl Q I rx hs pl pu ⟨a, ns.map V.int, rfl, by rw [hK]; exact h1, fun p hp => ?_⟩
    rw [cutV_eq, slcL_map]
    exact q _ _ (.lst hp (RVs.ints _))
  · cases e
theorem fm_congr {α β : Type} {f h : α → Option β} : ∀ {l : List α}, (∀ x ∈ l, f x = h x) → l.filterMap f = l.filterMap h
  | [], _ => rfl
  | x :: l, e => by
    rw [List.filterMap_cons, List.filterMap_cons, e x (by simp), fm_congr fun y hy => e y (by simp [hy])]
/-! ### [::-1] -/
theorem places_rev (n : Nat) : Builtin.Slice.slicePlaces ((n : Int) - 1) (-1) (-1) = n := by
  unfold Builtin.Slice.slicePlaces
  have h1 : ¬ ((-1 : Int) > 0) := by decide
  have h2 : (- -1 : Int) = 1 := by decide
  simp only [h1, if_false, h2, Int.ediv_one]
  split <;> omega
theorem pick_rev (xs : List Value) : ((List.range xs.length).filterMap fun (m : Nat) => xs.toArray[(((xs.length : Int) - 1) + (m : Int) * -1).toNat]?) = xs.reverse := by
  apply List.ext_getElem?
  intro i
  have e : (List.range xs.length).filterMap (fun (m : Nat) => xs.toArray[(((xs.length : Int) - 1) + (m : Int) * -1).toNat]?) = (List.range xs.length).map fun m => xs.getD (xs.length - 1 - m) Value.none := by
    rw [← List.filterMap_eq_map]
    apply fm_congr
    intro m hm
    have hm' := List.mem_range.mp hm
    have e2 : (((xs.length : Int) - 1) + (m : Int) * -1).toNat = xs.length - 1 - m := by omega
    rw [e2]
    simp only [List.getElem?_toArray, Function.comp]
    rw [List.getElem?_eq_getElem (by omega), List.getD_eq_getElem?_getD, List.getElem?_eq_getElem (by omega)]
    rfl
  rw [e]
  by_cases hi : i < xs.length
  · rw [List.getElem?_map, List.getElem?_range hi, List.getElem?_reverse hi, List.getElem?_eq_getElem (by omega), Option.map_some, List.getD_eq_getElem?_getD, List.getElem?_eq_getElem (by omega)]
    rfl
  · rw [List.getElem?_eq_none (by simpa using hi), List.getElem?_eq_none (by simpa using hi)]
open PySem.W in
theorem getItem_tupRev {prog : Program} {w : World} {A : Around} {E : Value → Shared → Prop} {s : Shared} {t sl : Addr} {its : List Value} {u : Tok} {Q : Value → Shared → Prop} (ht : IsTup s.heap t its.toArray) (hs : s.heap.IsSliceOf sl .none .none (.int (-1) u))
    (h : Q (.ref s.heap.objs.size) { s with heap := s.heap.push { cls := .type "tuple", data := .seq its.reverse.toArray } }) (hsz : its.length ≤ sizeLine) : wpAny (model prog w) A (getItem (.ref t) (.ref sl)) Q E s := by
  obtain ⟨os, hos, hcs, hds⟩ := id hs
  have hTs : s.TypeIs (.ref sl) "slice" := ⟨os, hos, hcs⟩
  have hrev : sizeOk (.seq its.reverse.toArray) := by
    show its.reverse.toArray.size ≤ sizeLine
    rw [List.size_toArray, List.length_reverse]
    exact hsz
  unfold getItem
  try with_reducible refine wpAny_holding ?_
  first
    | refine wpAny_bind (wpAny_pure ?_)
    | skip
  refine wpAny_bind (wpAny_sequenceKey ht.typeIs (by decide) ?_)
  refine wpAny_bind (wpAny_callSpecial?_slot (name := Str.ofString "__getitem__") ht.typeIs PyProof.Rows.slot_tuple_getitem (wpAny_call_entry PyProof.Rows.slot_tuple_getitem ht.typeIs entry_tuple_getitem ?_ (args_tuple_getitem _ _)))
  show wpAny _ _ (Builtin.Tuple.tupleItemsOf (.ref t) >>= _) _ _ s
  refine wpAny_bind (tupleItemsOf_ ht ?_)
  refine wpAny_bind (wpAny_typeOf hTs ?_)
  rw [if_pos (by decide)]
  have hap : ∀ {Q' : Int × Int × Nat → Shared → Prop} {E' : Value → Shared → Prop} {A' : Around}, Q' ((its.length : Int) - 1, -1, its.length) s → wpAny (model prog w) A' (Builtin.Slice.sliceApplied (.ref sl) (pure (its.toArray.size : Int))) Q' E' s := by
    intro Q' E' A' h'
    unfold Builtin.Slice.sliceApplied Builtin.Slice.sliceFields
    refine wpAny_bind (wpAny_bind (wpAny_field hos hds (x := .none) rfl (wpAny_bind (wpAny_field hos hds (x := .none) rfl (wpAny_bind (wpAny_field hos hds (x := .int (-1) u) rfl (wpAny_pure ?_)))))))
    refine wpAny_bind (slicePart_int ?_)
    show wpAny _ _ (if ((-1 : Int) == 0) = true then _ else _) _ _ s
    rw [if_neg (by decide)]
    refine wpAny_bind (slicePart_none (wpAny_bind (slicePart_none (wpAny_bind (wpAny_pure ?_)))))
    show wpAny _ _ (pure (((its.toArray.size : Int) - 1, (-1 : Int), Builtin.Slice.slicePlaces ((its.toArray.size : Int) - 1) (-1) (-1)))) _ _ s
    rw [List.size_toArray, places_rev]
    exact wpAny_pure h'
  refine wpAny_bind (hap ?_)
  have hno : ¬ (((its.length : Int) - 1 == 0 && (-1 : Int) == 1 && its.length == its.toArray.size) = true) := by
    simp
  show wpAny _ _ (if ((its.length : Int) - 1 == 0 && (-1 : Int) == 1 && its.length == its.toArray.size) = true then _ else _) _ _ s
  rw [if_neg hno]
  have hpk := congrArg List.toArray (pick_rev its)
  rw [hpk]
  first
    | exact wpAny_bind (m := Builtin.Tuple.tupleExact _) (wpAny_newObj_type (wpAny_pure ⟨_, rfl, wpAny_pure h⟩) hrev)
    | exact wpAny_bind (m := Builtin.Tuple.tupleExact _) (wpAny_newObj_type (wpAny_bind (wpAny_pure (wpAny_pure ⟨_, rfl, wpAny_pure h⟩))) hrev)
    | exact wpAny_bind (wpAny_bind (m := Builtin.Tuple.tupleExact _) (wpAny_newObj_type (wpAny_pure (wpAny_pure ⟨_, rfl, wpAny_pure h⟩)) hrev))
    | exact wpAny_bind (wpAny_bind (m := Builtin.Tuple.tupleExact _) (wpAny_newObj_type (wpAny_pure ⟨_, rfl, wpAny_pure h⟩) hrev))
theorem strRev (t : List Nat) : (⟨((Builtin.Str.strSliceIndices none none (-1) (toS t).length).filterMap ((toS t).cps[·]?)).toArray⟩ : Str) = toS t.reverse := by
  have hl : (toS t).length = t.length := by simp [Str.length]
  have e : Builtin.Str.strSliceIndices none none (-1) (toS t).length = (List.range t.length).reverse := by
    unfold Builtin.Str.strSliceIndices
    rw [hl, ← PySem.W.krv_range, ← PySem.W.krv_sliceRange]
    rfl
  rw [e, List.filterMap_reverse]
  have e2 := PySem.W.krv_all (toS t).cps
  have e3 : (toS t).cps.size = t.length := by simp
  rw [e3] at e2
  rw [e2]
def tRev (g : GE) (te : TE) : TE := fun σ H Q => te σ H fun x H1 => ∃ F u w, RB g F H1 u x ∧ revV u = .ok w ∧ ∀ H' z, NewR g F H1 H' w z → Q z H'
theorem pe_rev {e : Expr} {te : TE} {k : Nat} {p1 p2 p3 pos : Pos} (hK : X.K = g.K) (he : PE X e te) : PE X (.Subscript e (.Slice none none (some (.UnaryOp .USub (.Constant (.int 1) k p1) p2)) p3) pos) (tRev g te) := by
  refine ⟨fun pins s σ H Q I h => ?_⟩
  refine Subscript_ (thn (he.run pins s σ H _ I h) fun v s1 ⟨x, H1, I1, r1, F, u, w, hu, er, q⟩ => ?_)
  have hst : PO X (some (.UnaryOp .USub (.Constant (.int 1) k p1) p2)) (tPart (tUn (rU fun i => .int (-i)) (tC (.int 1)))) := po_some (pe_un un_neg pe_int)
  refine wpAny_Slice (thn (po_none.run pins s1 σ H1 (fun o H2 => o = none ∧ H2 = H1) I1 ⟨rfl, rfl⟩) fun vl s2 ⟨l, H2, I2, pl, el, e2⟩ => ?_)
  subst el e2
  refine thn (po_none.run pins s2 σ H2 (fun o H3 => o = none ∧ H3 = H2) I2 ⟨rfl, rfl⟩) fun vu s3 ⟨u2, H3, I3, pu, eu, e3⟩ => ?_
  subst eu e3
  refine thn (hst.run pins s3 σ H3 (fun o H4 => o = some (-1) ∧ H4 = H3) I3 ⟨1, rfl, -1, rfl, rfl, rfl⟩) fun vs s4 ⟨o, H4, I4, ps, eo, e4⟩ => ?_
  subst eo e4
  cases pl
  cases pu
  obtain ⟨tk, rfl⟩ : ∃ tk, vs = .int (-1) tk := by
    cases ps
    exact ⟨_, rfl⟩
  have I5 : Inv X pins σ H4 { s4 with heap := s4.heap.push { cls := .type "slice", data := .fields #[.none, .none, .int (-1) tk] } } := I4.kept (t' := s4.toks) fun b ob q => Heap.get?_push_of_some _ q
  unfold revV at er
  split at er
  · cases er
    obtain ⟨a, ws, rfl, h1, rs⟩ := hu.tup
    have h1' := h1.sq
    rw [← hK] at h1'
    cases r1
    obtain ⟨its, r, ht, hz⟩ := I5.tuple h1'
    show wpAny (model X.prog X.w) X.A (subscriptTail e (.Slice none none (some (.UnaryOp .USub (.Constant (.int 1) k p1) p2)) p3) (.ref a) (.ref s4.heap.objs.size)) (EP X pins σ Q) X.xe { s4 with heap := s4.heap.push { cls := .type "slice", data := .fields #[.none, .none, .int (-1) tk] } }
    refine tail_any (ops := [.ref a, .ref s4.heap.objs.size]) ht.typeIs (PyProof.Rows.slot_tuple_getitem.lookup) ?_ (by with_unfolding_all rfl)
    refine getItem_tupRev ht (Heap.IsSliceOf.new _ .none .none (.int (-1) tk)) ?_ (by rw [← r.length]; exact hz)
    exact tupEP (t' := s4.toks) I5 (fun _ _ z => z) r.reverse (by rw [List.length_reverse]; exact hz) rs.reverse q
  · cases er
    obtain ⟨a, ws, rfl, h1, rs⟩ := hu.lst
    cases r1
    obtain ⟨its, r, ht, hz⟩ := I5.list (SqL.of h1)
    have hlen := r.length
    show wpAny (model X.prog X.w) X.A (subscriptTail e (.Slice none none (some (.UnaryOp .USub (.Constant (.int 1) k p1) p2)) p3) (.ref a) (.ref s4.heap.objs.size)) (EP X pins σ Q) X.xe { s4 with heap := s4.heap.push { cls := .type "slice", data := .fields #[.none, .none, .int (-1) tk] } }
    refine tail_any (ops := [.ref a, .ref s4.heap.objs.size]) ht.isList.typeIs (PySem.slot_list_getitem.lookup) ?_ (by with_unfolding_all rfl)
    refine wpAny_getItem_list_slice ht.isList (Heap.IsSliceOf.new _ .none .none (.int (-1) tk)) .none .none (.int (-1) tk) (by decide) ?_ (by rw [List.size_toArray]; omega)
    rw [PySem.W.krv_pick]
    refine ⟨.ref _, _, I5.laid (t' := s4.toks) (o := .lst ws.reverse) (fun b ob q => Heap.get?_push_of_some _ q) (Nat.le_refl _) ?_, rfl, q _ _ (.lst (I5.hok.fresh (Nat.le_refl _)) rs.reverse)⟩
    exact ⟨by rw [List.length_reverse]; exact hz, _, 0, r.reverse, Heap.get?_push_size _ rfl⟩
  · split at er
    · rename_i t hz
      cases er
      cases hu.str
      obtain ⟨t0, rfl⟩ := r1
      show wpAny (model X.prog X.w) X.A (subscriptTail e (.Slice none none (some (.UnaryOp .USub (.Constant (.int 1) k p1) p2)) p3) (.str (toS t) t0) (.ref s4.heap.objs.size)) (EP X pins σ Q) X.xe { s4 with heap := s4.heap.push { cls := .type "slice", data := .fields #[.none, .none, .int (-1) tk] } }
      refine tail_any (ops := [.str (toS t) t0, .ref s4.heap.objs.size]) (typeIs_str _ _ _) (PySem.F.slot_str_getitem.lookup) ?_ (by with_unfolding_all rfl)
      refine wpAny_getItem_str_slice (l := none) (u := none) (st := some (-1, tk)) ⟨_, Heap.get?_push_size _ rfl, rfl, rfl⟩ rfl ?_
      have e5 : sliceMade (toS t) t0 none none (some (-1, tk)) = .str (toS t.reverse) := by
        rw [← strRev]
        rfl
      rw [e5]
      refine ⟨?_, .str _, H4, I5.tok _, ⟨_, rfl⟩, q _ _ (.old (.str _))⟩
      simp only [Str.length, List.size_toArray, List.length_reverse]
      exact sz_le hz
    · cases er
  · cases er
/-! ### l.index(x), t.index(x) -/
theorem findIdx_spec {f : PV → Bool} : ∀ {xs : List PV} {k : Nat}, xs.findIdx? f = some k → ∃ h : k < xs.length, f xs[k] = true ∧ ∀ m (hm : m < k), f (xs[m]'(by omega)) = false := by
  intro xs k h
  rw [List.findIdx?_eq_some_iff_getElem] at h
  obtain ⟨h1, h2, h3⟩ := h
  refine ⟨h1, h2, fun m hm => ?_⟩
  have := h3 m hm
  simpa using this
/-- place by place: == of data -/
theorem eqAt_each {pins : List (Addr × Obj)} {s : Shared} {σ : L2.St} {xs : List PV} {vs : List V} {its : List Value} {u : PV} {y : V} {yv : Value} {A : Around} (hK : X.K = g.K) (hu : A.units + 64 < cLine) (I : Inv X pins σ H s) (hd : PV.datas DD xs = true) (hd2 : PV.data DD u = true)
    (r : RVs g F H xs vs) (rv : Vals vs its) (hy : RB g F H u y) (ry : RelV y yv) : ∀ (j : Nat) (h1 : j < its.length) (h2 : j < xs.length), SeqAt.EqAt A s its[j] yv (PV.eqv xs[j] u) := by
  intro j h1 h2
  obtain ⟨z, e1, r1⟩ := r.get (List.getElem?_eq_getElem h2)
  obtain ⟨w, e2, r2⟩ := rv.get e1
  rw [List.getElem?_eq_getElem h1] at e2
  have e3 := Option.some.inj e2
  rw [e3]
  have hdj : PV.data DD xs[j] = true := datas_mem hd (List.getElem_mem h2)
  obtain ⟨as, q1⟩ := Dp.reads I _ z w (by rw [hK]; exact r1.dp hdj) r2
  obtain ⟨bs, q2⟩ := Dp.reads I _ y yv (by rw [hK]; exact hy.dp hd2) ry
  have p1 : _ ∧ _ ≤ 50 := plain_toD _ _ hdj
  have p2 : _ ∧ _ ≤ 50 := plain_toD _ _ hd2
  rw [← eqv_toD _ _ _ _ hdj hd2]
  exact SeqAt.eqAt_plain _ _ A s _ _ _ _ q1 q2 p1.1 p2.1 (by omega)
def kdT : Nat → String
  | 1 => "tuple" | 2 => "list" | 3 => "str" | _ => "dict"
def meN : Me → Str
  | .index => "index"
def meId : Me → Nat → String
  | .index, 1 => "tuple.index"
  | .index, 2 => "list.index"
  | _, _ => ""
/-- a method by values -/
def MeR (g : GE) (X : Cx) (k : Nat) (m : Me) : Prop := ∀ (pins : List (Addr × Obj)) (s : Shared) (σ : L2.St) (H : Hp) (x : V) (xs : List V) (v : Value) (us : List Value) (Q : VK) (F : AS) (u : PV) (ps : List PV) (w : VO), Inv X pins σ H s → RelV x v → Vals xs us →
  RB g F H u x → RBs g F H ps xs → u.kd = k → meV m u ps = .ok w → (∀ H' z, NewR g F H H' w z → Q z H') → wpAny (model X.prog X.w) X.A (call (.builtin (meId m k)) (v :: us)) (EP X pins σ Q) X.xe s
theorem me_tup (hK : X.K = g.K) (hu : X.A.units + 66 < cLine) (m : Me) : MeR g X 1 m := by
  intro pins s σ H x xs v us Q F u ps w I rx rv hx hps hk e q
  unfold meV at e
  split at e
  · rename_i xs' y
    split at e
    · rename_i hd
      rw [Bool.and_eq_true] at hd
      split at e
      · rename_i k hf
        cases e
        obtain ⟨y', rfl, hy⟩ := hps.one
        obtain ⟨a, ws, rfl, h1, r1⟩ := hx.tup
        obtain ⟨uy, rfl, ry⟩ := rv.one
        cases rx
        obtain ⟨its, r2, ⟨⟨cls, dd, data, sl⟩, ho, hc, n, hdt⟩, hz⟩ := I.tuple (by rw [hK]; exact h1.sq)
        simp only at hc hdt
        subst hc hdt
        obtain ⟨hk1, hk2, hk3⟩ := findIdx_spec hf
        have hl : xs'.length = its.length := by rw [r1.length, r2.length]
        refine call_meets PySem.F.slot_tuple_index ⟨_, ho, rfl⟩ PySem.F.entry_tuple_index (PySem.F.args_tuple_index_2 _ _)
          (SeqAt.tuple_index2_found a its.toArray n dd sl uy (fun j => (xs'[j]?.map fun z => PV.eqv z y).getD false) k (by simp; omega) (Nat.zero_le _) (by simp; omega) ?_ ?_) ⟨ho, fun j hj' => ?_, ?_⟩
        · simp only [List.getElem?_eq_getElem hk1, Option.map_some, Option.getD_some]
          exact hk2
        · intro m hm _ hlt
          have hm2 : m < xs'.length := by omega
          simp only [List.getElem?_eq_getElem hm2, Option.map_some, Option.getD_some]
          exact hk3 m hlt
        · have h1' : j < its.length := by simpa using hj'
          have h2' : j < xs'.length := by omega
          have := eqAt_each (A := X.A.in1) hK (show X.A.units + 1 + 64 < _ by omega) I hd.1 hd.2 r1 r2 hy ry j h1' h2'
          simpa [List.getElem?_eq_getElem h2'] using this
        · exact ⟨.int _, H, I.tok _, ⟨_, rfl⟩, q _ _ (.old (.int _))⟩
      · cases e
    · cases e
  · cases hk
  · cases e
theorem me_lst (hK : X.K = g.K) (hu : X.A.units + 66 < cLine) (m : Me) : MeR g X 2 m := by
  intro pins s σ H x xs v us Q F u ps w I rx rv hx hps hk e q
  unfold meV at e
  split at e
  · cases hk
  · rename_i xs' y
    split at e
    · rename_i hd
      rw [Bool.and_eq_true] at hd
      split at e
      · rename_i k hf
        cases e
        obtain ⟨y', rfl, hy⟩ := hps.one
        obtain ⟨a, ws, rfl, h1, r1⟩ := hx.lst
        obtain ⟨uy, rfl, ry⟩ := rv.one
        cases rx
        obtain ⟨its, r2, ⟨⟨cls, dd, data, sl⟩, n, ho, hc, hdn, hdt⟩, hz⟩ := I.list (SqL.of h1)
        simp only at hc hdt
        subst hc hdt
        obtain ⟨hk1, hk2, hk3⟩ := findIdx_spec hf
        have hl : xs'.length = its.length := by rw [r1.length, r2.length]
        have hsl := sizeLine_eq
        have hz2 := r2.length
        refine call_meets PySem.F.slot_list_index ⟨_, ho, rfl⟩ PySem.F.entry_list_index (PySem.F.args_list_index_2 _ _)
          (SeqAt.list_index2_found a its.toArray n dd sl uy (fun j => (xs'[j]?.map fun z => PV.eqv z y).getD false) k (by simp; omega) (Nat.zero_le _) (by omega) ?_ ?_) ⟨ho, fun j hj' => ?_, ?_⟩
        · simp only [List.getElem?_eq_getElem hk1, Option.map_some, Option.getD_some]
          exact hk2
        · intro m hm _ hlt
          have hm2 : m < xs'.length := by omega
          simp only [List.getElem?_eq_getElem hm2, Option.map_some, Option.getD_some]
          exact hk3 m hlt
        · have h1' : j < its.length := by simpa using hj'
          have h2' : j < xs'.length := by omega
          have := eqAt_each (A := X.A.in1) hK (show X.A.units + 1 + 64 < _ by omega) I hd.1 hd.2 r1 r2 hy ry j h1' h2'
          simpa [List.getElem?_eq_getElem h2'] using this
        · exact ⟨.int _, H, I.tok _, ⟨_, rfl⟩, q _ _ (.old (.int _))⟩
      · cases e
    · cases e
  · cases e
/-! ### methods that change the list -/
def muN : Mu → Str
  | .append => "append" | .extend => "extend" | .pop => "pop" | .popAt => "pop"
def muId : Mu → String
  | .append => "list.append" | .extend => "list.extend" | .pop => "list.pop" | .popAt => "list.pop"
def rMu (g : GE) (m : Mu) : V → List V → Hp → VK → Prop := fun x xs H Q => ∃ F a v ps w, x = .ref a ∧ OAt g F H v a ∧ ¬ F a ∧ RVs g F H ps xs ∧ muV m v ps = .ok w ∧ ∀ (ws : List PV × List V) z, RVs g F H ws.1 ws.2 → w.2 = .lst ws.1 → RV g F H w.1 z → Q z (upd H a (.lst ws.2))
theorem pixN_ix {n : Nat} {i : Int} {k : Nat} (h : pixN n i = some k) : seqIndex? i n = some k ∧ k < n ∧ -(n : Int) ≤ i ∧ i < n := ixN_seq h
theorem mu_ok (m : Mu) : MtM X (muId m) (rMu g m) := by
  intro pins s σ H x xs v us Q I rx rv h
  obtain ⟨F, a, pv, ps, w, rfl, ho, nF, hps, e, q⟩ := h
  cases pv with
  | lst ys =>
    obtain ⟨ws, h1, r1⟩ := ho
    have hw : ws.length ≤ sizeLine := by
      obtain ⟨z, _⟩ := I.hok a _ h1
      exact z
    unfold muV at e
    split at e
    · rename_i ys' y heq
      cases heq
      split at e
      · rename_i hz
        cases e
        cases hps with
        | cons r t =>
          cases t
          exact mt_append pins s σ H _ _ v us Q I rx rv ⟨a, ws, _, rfl, rfl, h1, by rw [← r1.length]; exact sz_lt hz, q (_, _) _ (r1.append (.cons r .nil)) rfl .non⟩
      · cases e
    · rename_i ys' zs heq
      cases heq
      split at e
      · rename_i hz
        cases e
        cases hps with
        | cons r t =>
          cases t
          cases r with
          | lst f e2 r2 =>
            exact mt_extend pins s σ H _ _ v us Q I rx rv ⟨a, _, ws, _, rfl, rfl, h1, e2, by rw [← r1.length, ← r2.length]; exact sz_le hz, q (_, _) _ (r1.append r2) rfl .non⟩
      · cases e
    · rename_i ys' heq
      cases heq
      split at e
      · rename_i y hy
        cases e
        cases hps
        rw [List.getLast?_eq_getElem?] at hy
        obtain ⟨z, e2, r2⟩ := r1.get hy
        exact mt_pop pins s σ H _ _ v us Q I rx rv ⟨a, ws, z, rfl, rfl, h1, by rw [← r1.length]; exact e2, q (_, _) _ r1.dropLast rfl r2⟩
      · cases e
    · rename_i ys' i heq
      cases heq
      split at e
      · rename_i k hk
        split at e
        · rename_i y hy
          cases e
          cases hps with
          | cons r t =>
            cases t
            cases r
            obtain ⟨z, e2, r2⟩ := r1.get hy
            obtain ⟨k1, k2, k3, k4⟩ := pixN_ix hk
            have hsl := sizeLine_eq
            have hl := r1.length
            exact mt_popAt pins s σ H _ _ v us Q I rx rv ⟨a, ws, i, k, z, rfl, rfl, h1, by omega, by omega, by rw [← hl]; exact k1, e2, q (_, _) _ (r1.erase k) rfl r2⟩
        · cases e
      · cases e
    · cases e
  | dic ks vs => cases m <;> simp [muV] at e
  | _ => exact ho.elim
/-! ### xs[i] = v -/
def rSetI (g : GE) : V → V → V → Hp → (Hp → Prop) → Prop := fun o i v H Q => ∃ F a pv k y w, o = .ref a ∧ OAt g F H pv a ∧ RV g F H k i ∧ RV g F H y v ∧ setV pv k y = .ok w ∧ (∀ ws : List PV × List V, RVs g F H ws.1 ws.2 → w = .lst ws.1 → Q (upd H a (.lst ws.2))) ∧
  ∀ (xs : List KX) (vs : List PV), RVs g F H (kxP xs) (kxV xs) → w = .dic (kxP xs) vs → Q (upd H a (dicO g a xs))
theorem ok_dicO {a : Addr} {xs : List KX} {P : Program} {w : World} {H : Hp} {h : Heap} (h1 : (a == sysModules) = false) (h2 : h.DictOfH (tupleKind (mixKind g.P g.w)) a (xs.map kxK)) : ObjOk P w H h a (dicO g a xs) := by
  obtain ⟨q, es, ep, hq, h2, h3, h4, _, h5⟩ := h2
  refine ⟨⟨h1, q, es, ep, hq, h2, h3, h4, h5⟩, ⟨q, hq⟩, ?_⟩
  rintro ha hb ⟨y, o, es, ep, e1, r⟩ k
  exact ⟨y, o, es, ep, k _ e1, r⟩
theorem setI_ok (hK : X.K = g.K) (hP : X.prog = g.P) (hw : X.w = g.w) (hu : X.A.units + 64 < cLine) : PSet X (rSetI g) := by
  intro pins s σ H o i v ov iv u Q I ro ri rv h
  obtain ⟨F, a, pv, k, y, w, rfl, ho, hk, hy, e, q, qd⟩ := h
  cases pv with
  | dic ks vs =>
    obtain ⟨xs, h1, h2, h3⟩ := ho
    subst h2
    cases k with
    | tup kk =>
      simp only [setV] at e
      split at e
      · rename_i hc
        obtain ⟨hlen, hi, hno⟩ := hc
        obtain ⟨ns, rfl⟩ := intsP_some hi
        cases e
        obtain ⟨b, rfl, hb⟩ : ∃ b, i = .ref b ∧ RV g F H (.tup (ns.map .int)) (.ref b) := by
          cases hk with
          | tup h r => exact ⟨_, rfl, .tup h r⟩
        obtain ⟨y1, y2⟩ := dic_at I hK hP hw h1 h3
        cases ro
        cases ri
        have hat : atKey (xs.map kxK) (ns.map Sum.inl : List L2.Key) = none := by
          have := atKey_kx ns xs
          rw [hno] at this
          cases hq : atKey (xs.map kxK) (ns.map Sum.inl : List L2.Key) with
          | none => rfl
          | some p => rw [hq] at this; cases this
        have hl : (xs.map kxK).length ≤ sizeLine := by
          rw [List.length_map] at hlen ⊢
          have h16 : xs.length < 16777216 := hlen
          rw [sizeLine_eq]
          omega
        refine wpAny_setItem_heap (hsz := hl) (tupleKind_room_in1 (by omega)) (key_rv I hK hb) y2 fun h' dd' hs => ?_
        rw [storedH_new hat] at dd'
        have e2 : xs.map kxK ++ [((ns.map Sum.inl : List L2.Key), b, u)] = (xs ++ [(ns, b, u)]).map kxK := by rw [List.map_append]; rfl
        rw [e2, hP, hw] at dd'
        obtain ⟨qo, es, ep, hq, _⟩ := id dd'
        refine ⟨_, d_write (ob := dicO g a (xs ++ [(ns, b, u)])) I (by rw [h1]; exact True.intro) hs ⟨qo, hq⟩ (ok_dicO y1 dd'), qd (xs ++ [(ns, b, u)]) (vs ++ [y]) ?_ (by simp [kxP])⟩
        have e3 : kxP (xs ++ [(ns, b, u)]) = kxP xs ++ [.tup (ns.map .int)] := by simp [kxP]
        have e4 : kxV (xs ++ [(ns, b, u)]) = kxV xs ++ [.ref b] := by simp [kxV]
        rw [e3, e4]
        exact RVs.append h3 (.cons hb .nil)
      · cases e
    | _ => simp [setV] at e
  | lst ys =>
    obtain ⟨ws, h1, r1⟩ := ho
    cases k with
    | int i0 =>
      change (match pixN ys.length i0 with | some k => Res.ok (PV.lst (ys.set k y)) | none => .bad) = .ok w at e
      split at e
      · rename_i j hj
        cases e
        cases hk
        refine set_list pins s σ H _ _ _ ov iv u Q I ro ri rv ⟨a, ws, _, j, rfl, rfl, h1, ?_, q (_, _) (r1.set hy j) rfl⟩
        rw [← r1.length]
        exact hj
      · cases e
    | _ => simp [setV] at e
  | _ => exact ho.elim
/-! ### isinstance -/
def tyN : Ty → String
  | .int => "int" | .bool => "bool" | .str => "str" | .tup => "tuple" | .lst => "list"
def pvTy : PV → Option Ty
  | .int _ => some .int | .bl _ => some .bool | .str _ => some .str | .tup _ => some .tup | .lst _ => some .lst | _ => none
def pvTn : PV → String
  | .int _ => "int" | .bl _ => "bool" | .str _ => "str" | .tup _ => "tuple" | .lst _ => "list" | _ => "NoneType"
theorem tyX_of {u : PV} {x : V} (h : RB g F H u x) (ht : u.typed = true) : TyX g.K H x (.type (pvTn u)) := by
  rcases h with h | ⟨a, rfl, h⟩
  · cases h with
    | non => exact .base .non
    | bl b => exact .base (.bl b)
    | int i => exact .base (.int i)
    | str t => exact .base (.str _)
    | tup h r =>
      rcases h with ⟨o, h, _⟩ | ⟨o, its, n, h1, h2, _⟩
      · exact .fTuple h
      · exact .kTuple h1 h2
    | lst f e r => exact .base (.lst e)
    | fn _ => cases ht
    | rng _ => cases ht
    | scr _ => cases ht
    | dic f h e r => cases ht
  · cases u with
    | lst xs =>
      obtain ⟨vs, h1, _⟩ := h
      exact .base (.lst h1)
    | dic ks vs => cases ht
    | _ => exact h.elim
theorem kit_ty (K : PySem.W.Frag) (u : PV) (hu : u.typed = true) (t : Ty) : PySem.W.kitOne K (.type (pvTn u)) (.type (tyN t)) = some (tyIs t u) := by
  cases u with
  | non => cases t <;> (show PySem.W.kitOne K (.type "NoneType") _ = some false) <;> kernel_rfl
  | bl b =>
    cases t with
    | int => show PySem.W.kitOne K (.type "bool") (.type "int") = some true; kernel_rfl
    | bool => show PySem.W.kitOne K (.type "bool") (.type "bool") = some true; kernel_rfl
    | _ => show PySem.W.kitOne K (.type "bool") _ = some false; kernel_rfl
  | int b =>
    cases t with
    | int => show PySem.W.kitOne K (.type "int") (.type "int") = some true; kernel_rfl
    | _ => show PySem.W.kitOne K (.type "int") _ = some false; kernel_rfl
  | str b =>
    cases t with
    | str => show PySem.W.kitOne K (.type "str") (.type "str") = some true; kernel_rfl
    | _ => show PySem.W.kitOne K (.type "str") _ = some false; kernel_rfl
  | tup b =>
    cases t with
    | tup => show PySem.W.kitOne K (.type "tuple") (.type "tuple") = some true; kernel_rfl
    | _ => show PySem.W.kitOne K (.type "tuple") _ = some false; kernel_rfl
  | lst b =>
    cases t with
    | lst => show PySem.W.kitOne K (.type "list") (.type "list") = some true; kernel_rfl
    | _ => show PySem.W.kitOne K (.type "list") _ = some false; kernel_rfl
  | _ => cases hu
theorem kit_tys (K : PySem.W.Frag) (u : PV) (hu : u.typed = true) : ∀ ts : List Ty, PySem.W.kitAny K (.type (pvTn u)) (ts.map fun t => .type (tyN t)) = some (ts.any fun t => tyIs t u)
  | [] => rfl
  | t :: ts => by
    rw [List.map_cons, List.any_cons]
    unfold PySem.W.kitAny
    rw [kit_ty K u hu t]
    cases tyIs t u with
    | true => rfl
    | false =>
      rw [kit_tys K u hu ts]
      rfl
end
end EV
set_option Elab.async false
set_option linter.all false
set_option autoImplicit false
set_option maxRecDepth 100000
/-! The judgements: an expression's readings by the evaluator. -/
namespace EV
open PySem PySem.Spec PyProof.Rows L2

/-- an exception of one's own class, with its attribute -/
def ExcR (g : GE) (c : Nat) (a : PV) (cls : Value) (d : Option Addr) (F : AS) (H : Hp) : Prop :=
  g.dc c ∧ cls = .ref (g.ca c) ∧ (a = .non ∨ ∃ (dx : Addr) (v : V), d = some dx ∧ H dx = some (.xd [("reason", v)]) ∧ RV g F H a v)
/-- what an outcome promises -/
def Ans {α : Type} (g : GE) (W : XK) (P F : AS) (H : Hp) (r : Res α) (K : α → AS → Hp → Prop) : Prop := match r with
  | .ok a => ∀ F' H', Step P F H F' H' → K a F' H'
  | .exc c a => ∀ F' H' cls d, Step P F H F' H' → (∀ b, F' b → H' b ≠ none) → ExcR g c a cls d F' H' → W cls d H'
  | .bad => False
section
variable {α β : Type} {g : GE} {W : XK} {P P' F F' F1 : AS} {H H' H1 : Hp} {r : Res α} {K K' : α → AS → Hp → Prop}
theorem Ans.bind {f : α → Res β} {K : β → AS → Hp → Prop} (h : Ans g W P F H (r.bind f) K) : Ans g W P F H r fun a F1 H1 => Ans g W P F1 H1 (f a) K := by
  cases r with
  | ok a =>
    intro F1 H1 st
    have h' : Ans g W P F H (f a) K := h
    unfold Ans at h' ⊢
    cases hf : f a with
    | ok b =>
      rw [hf] at h'
      exact fun F2 H2 st2 => h' F2 H2 (st.trans st2)
    | exc c v =>
      rw [hf] at h'
      exact fun F2 H2 cls d st2 => h' F2 H2 cls d (st.trans st2)
    | bad =>
      rw [hf] at h'
      exact h'
  | exc c v => exact h
  | bad => exact h
theorem Ans.mono (h : Ans g W P F H r K) (m : ∀ a F1 H1, Step P F H F1 H1 → (∀ F2 H2, Step P F1 H1 F2 H2 → K a F2 H2) → K' a F1 H1) : Ans g W P F H r K' := by
  cases r with
  | ok a => exact fun F1 H1 st => m a F1 H1 st fun F2 H2 st2 => h F2 H2 (st.trans st2)
  | exc c v => exact h
  | bad => exact h
theorem Ans.monoE (h : Ans g W P F H r K) (m : ∀ a F1 H1, r = .ok a → Step P F H F1 H1 → (∀ F2 H2, Step P F1 H1 F2 H2 → K a F2 H2) → K' a F1 H1) : Ans g W P F H r K' := by
  cases r with
  | ok a => exact fun F1 H1 st => m a F1 H1 rfl st fun F2 H2 st2 => h F2 H2 (st.trans st2)
  | exc c v => exact h
  | bad => exact h
theorem Ans.step (h : Ans g W P F H r K) (st : Step P F H F1 H1) : Ans g W P F1 H1 r K := by
  cases r with
  | ok a => exact fun F2 H2 st2 => h F2 H2 (st.trans st2)
  | exc c v => exact fun F2 H2 cls d st2 => h F2 H2 cls d (st.trans st2)
  | bad => exact h
theorem Ans.val {a : α} (h : Ans g W P F H (.ok a) K) : ∀ F1 H1, Step P F H F1 H1 → K a F1 H1 := h
theorem Ans.now {a : α} (h : Ans g W P F H (.ok a) K) : K a F H := h F H Step.refl
/-- a result that is no exception -/
theorem Ans.get {f : α → Res β} {K : β → AS → Hp → Prop} (h : Ans g W P F H (r.bind f) K) (ne : ∀ c a, r ≠ .exc c a) : ∃ v, r = .ok v ∧ Ans g W P F H (f v) K := by
  cases r with
  | ok a => exact ⟨a, rfl, h⟩
  | exc c v => exact absurd rfl (ne c v)
  | bad => exact h.elim
end

/-! ### outcomes that are no exceptions -/
theorem unV_ne (o : Un) (u : PV) (c : Nat) (a : PV) : unV o u ≠ .exc c a := by unfold unV; split <;> simp
theorem binV_ne (o : Bin) (u v : PV) (c : Nat) (a : PV) : binV o u v ≠ .exc c a := by unfold binV; split <;> (try split) <;> simp
theorem cmpV_ne (o : Cm) (u v : PV) (c : Nat) (a : PV) : cmpV o u v ≠ .exc c a := by unfold cmpV; split <;> (try split) <;> simp
theorem biV_ne (b : Bi) (us : List PV) (c : Nat) (a : PV) : biV b us ≠ .exc c a := by unfold biV; split <;> (try split) <;> (try split) <;> simp
theorem subV_ne (u v : PV) (c : Nat) (a : PV) : subV u v ≠ .exc c a := by unfold subV; split <;> (try split) <;> (try split) <;> simp
theorem slcV_ne (u : PV) (lo hi : Option Int) (c : Nat) (a : PV) : slcV u lo hi ≠ .exc c a := by unfold slcV; split <;> (try split) <;> simp
theorem revV_ne (u : PV) (c : Nat) (a : PV) : revV u ≠ .exc c a := by unfold revV; split <;> (try split) <;> simp
theorem meV_ne (m : Me) (u : PV) (vs : List PV) (c : Nat) (a : PV) : meV m u vs ≠ .exc c a := by unfold meV; split <;> (try split) <;> (try split) <;> simp
theorem muV_ne (m : Mu) (u : PV) (vs : List PV) (c : Nat) (a : PV) : muV m u vs ≠ .exc c a := by unfold muV; split <;> (try split) <;> (try split) <;> simp
theorem setV_ne (u v w : PV) (c : Nat) (a : PV) : setV u v w ≠ .exc c a := by unfold setV; split <;> (try split) <;> simp
theorem itemsOf_ne (k : IK) (us : List PV) (c : Nat) (a : PV) : itemsOf k us ≠ .exc c a := by unfold itemsOf; split <;> (try split) <;> simp
theorem rdO_ne (o : Opd) (ρ : Env) (c : Nat) (a : PV) : rdO o ρ ≠ .exc c a := by unfold rdO; split <;> (try split) <;> simp
theorem rdOs_ne : ∀ (os : List Opd) (ρ : Env) (c : Nat) (a : PV), rdOs os ρ ≠ .exc c a
  | [], _, _, _ => by simp
  | o :: os, ρ, c, a => by
    simp only [rdOs]
    cases h : rdO o ρ with
    | ok v =>
      cases h2 : rdOs os ρ with
      | ok w => simp
      | exc c' a' => exact absurd h2 (rdOs_ne os ρ c' a')
      | bad => simp
    | exc c' a' => exact absurd h (rdO_ne o ρ c' a')
    | bad => simp
mutual
theorem asgT_ne : ∀ (t : T) (v : PV) (ρ : Env) (c : Nat) (a : PV), asgT t v ρ ≠ .exc c a
  | .v i, v, ρ, c, a => by simp
  | .tup ts, .tup xs, ρ, c, a => by
    simp only [asgT]
    exact asgTs_ne ts xs ρ c a
  | .tup ts, .non, ρ, c, a | .tup ts, .bl _, ρ, c, a | .tup ts, .int _, ρ, c, a | .tup ts, .str _, ρ, c, a | .tup ts, .lst _, ρ, c, a | .tup ts, .dic _ _, ρ, c, a | .tup ts, .set _, ρ, c, a | .tup ts, .fn _, ρ, c, a | .tup ts, .rng _ _, ρ, c, a | .tup ts, .scr _, ρ, c, a => by simp [asgT]
theorem asgTs_ne : ∀ (ts : List T) (vs : List PV) (ρ : Env) (c : Nat) (a : PV), asgTs ts vs ρ ≠ .exc c a
  | [], [], ρ, c, a => by simp
  | [], _ :: _, ρ, c, a => by simp
  | _ :: _, [], ρ, c, a => by simp
  | t :: ts, v :: vs, ρ, c, a => by
    simp only [asgTs]
    cases h : asgT t v ρ with
    | ok ρ' => exact asgTs_ne ts vs ρ' c a
    | exc c' a' => exact absurd h (asgT_ne t v ρ c' a')
    | bad => simp
end

/-! ### states and results -/
section
variable {g : GE} {P P' F F' F1 : AS} {H H' H1 : Hp} {ρ ρ' : Env} {σ : L2.St} {v : PV} {x : V} {a : Addr} {i : Nat} {r : VO}
/-- a value read off an operand -/
def OR (g : GE) (F : AS) (σ : L2.St) (H : Hp) (o : Opd) (x : V) : Prop := match o with
  | .val v => RV g F H v x
  | .sl i => σ[i]? = some (some x)
theorem OR.mono {o : Opd} (h : OR g F σ H o x) (st : Step P F H F' H') : OR g F' σ H' o x := by
  cases o with
  | val v => exact RV.mono st h
  | sl i => exact h
theorem OR.rd {o : Opd} (h : OR g F σ H o x) (env : REnv g P F ρ σ H) (e : rdO o ρ = .ok v) : RB g F H v x := by
  cases o with
  | val w =>
    cases e
    exact .inl h
  | sl i =>
    simp only [rdO] at e
    have hx : σ[i]? = some (some x) := h
    split at e
    · rename_i w hw
      cases e
      obtain ⟨o, e1, y, e2, r⟩ := env.at_ i _ hw
      rw [hx] at e1
      cases e1
      cases e2
      exact .inl r
    · rename_i w hw
      cases e
      obtain ⟨o, e1, b, e2, _, _, r⟩ := env.at_ i _ hw
      rw [hx] at e1
      cases e1
      cases e2
      exact .inr ⟨b, rfl, r⟩
    · rename_i w hw
      cases e
      obtain ⟨o, e1, b, e2, _, _, r⟩ := env.at_ i _ hw
      rw [hx] at e1
      cases e1
      cases e2
      exact .inr ⟨b, rfl, r⟩
    · cases e
theorem OAt.inH (h : OAt g F H v a) : ∃ o, H a = some o := by
  cases q : H a with
  | none => exact absurd q h.there
  | some o => exact ⟨o, rfl⟩
theorem REnv.ownThere {sl : Slot} (env : REnv g P F ρ σ H) (e : ρ[i]? = some sl) (o : sl.own = true) (e2 : σ[i]? = some (some (.ref a))) : H a ≠ none ∧ ¬ F a := by
  obtain ⟨z, e3, r⟩ := env.at_ i sl e
  rw [e2] at e3
  cases e3
  cases sl with
  | n => cases o
  | s v => cases o
  | o v =>
    obtain ⟨b, e4, n1, n2, r⟩ := r
    cases e4
    exact ⟨r.there, n1⟩
  | b v =>
    obtain ⟨b, e4, n1, n2, r⟩ := r
    cases e4
    exact ⟨r.there, n1⟩
theorem REnv.freshNotIn (env : REnv g P F ρ σ H) (h : H a = none) : NotIn ρ σ a := fun i sl e o e2 => (env.ownThere e o e2).1 h
/-- a result of an operation -/
theorem NewR.res {z : V} (n : NewR g F H H' r z) (env : REnv g P F ρ σ H) : Step P F H F H' ∧ REnv g P F ρ σ H' ∧ RRes g P σ F ρ H' r z := by
  obtain ⟨k, n⟩ := n
  refine ⟨Step.grow k, env.grow k, ?_⟩
  rcases n with ⟨h1, h2⟩ | ⟨h1, a, rfl, h2, h3⟩
  · exact .inl ⟨h1, h2⟩
  · exact .inr ⟨h1, a, rfl, fun z => env.dF a z h2, fun z => env.dP a z h2, h3, env.freshNotIn h2⟩
/-- the addresses of one's own lists -/
def ownA (ρ : Env) (σ : L2.St) : AS := fun a => ∃ (i : Nat) (sl : Slot), ρ[i]? = some sl ∧ sl.own = true ∧ σ[i]? = some (some (.ref a))
theorem notIn_of (h : ¬ ownA ρ σ a) : NotIn ρ σ a := fun i sl e o e2 => h ⟨i, sl, e, o, e2⟩
/-- behind a call that leaves all lists of one's own -/
theorem REnv.behind (env : REnv g P F ρ σ H) (st : Step (fun a => P a ∨ ownA ρ σ a) F H F' H') (hd : ∀ a, F' a → H' a ≠ none) : REnv g P F' ρ σ H' := by
  refine env.mono (st.weak fun a h => .inl h) (fun a f => ?_) (fun i sl a o e ow e2 h => st.kP a o (.inr ⟨i, sl, e, ow, e2⟩) h) hd
  rcases st.nF a f with h | h
  · exact .inl h
  · exact .inr (notIn_of fun z => h (.inr z))
theorem REnv.dPo (env : REnv g P F ρ σ H) : ∀ a, P a ∨ ownA ρ σ a → H a ≠ none := fun a h => by
  rcases h with h | ⟨i, sl, e, o, e2⟩
  · exact env.dP a h
  · exact (env.ownThere e o e2).1
/-- a protected address more -/
theorem REnv.addP (env : REnv g P F ρ σ H) (hp : ∀ b, P' b → P b ∨ (NotIn ρ σ b ∧ H b ≠ none)) (hq : ∀ b, P b → P' b) : REnv g P' F ρ σ H := by
  refine ⟨env.len, fun i sl e => ?_, env.dis, fun b h => ?_, env.dF⟩
  · obtain ⟨o, e1, r⟩ := env.at_ i sl e
    refine ⟨o, e1, ?_⟩
    cases sl with
    | n => trivial
    | s v => exact r
    | o v =>
      obtain ⟨b, e2, n1, n2, r⟩ := r
      refine ⟨b, e2, n1, fun z => ?_, r⟩
      rcases hp b z with z | ⟨z, _⟩
      · exact n2 z
      · exact z i _ e rfl (by rw [e1, e2])
    | b v =>
      obtain ⟨b, e2, n1, n2, r⟩ := r
      exact ⟨b, e2, n1, hq b n2, r⟩
  · rcases hp b h with h | h
    · exact env.dP b h
    · exact h.2
/-- .. and less: only what no slot of one's own stands at -/
theorem REnv.lessP (env : REnv g P' F ρ σ H) (hq : ∀ b, P b → P' b) (hb : ∀ (i : Nat) (v : PV) (b : Addr), ρ[i]? = some (.b v) → σ[i]? = some (some (.ref b)) → P b) : REnv g P F ρ σ H := by
  refine ⟨env.len, fun i sl e => ?_, env.dis, fun b h => env.dP b (hq b h), env.dF⟩
  obtain ⟨o, e1, r⟩ := env.at_ i sl e
  refine ⟨o, e1, ?_⟩
  cases sl with
  | n => trivial
  | s v => exact r
  | o v =>
    obtain ⟨b, e2, n1, n2, r⟩ := r
    exact ⟨b, e2, n1, fun z => n2 (hq b z), r⟩
  | b v =>
    obtain ⟨b, e2, n1, n2, r⟩ := r
    exact ⟨b, e2, n1, hb i v b e (by rw [e1, e2]), r⟩
end
end EV
set_option Elab.async false
set_option linter.all false
set_option autoImplicit false
set_option maxRecDepth 100000
/-! Expressions. -/
namespace EV
open PySem PySem.Spec PyProof.Rows L2

structure SX where
  g : GE
  call : CallT
  W : XK
  np : Nat → Nat
  /-- the list that the first slot holds throughout -/
  k0 : Option Addr
/-- the readings -/
def TEv (s : SX) (t : E) : TE := fun σ H Q => ∃ P F ρ, REnv s.g P F ρ σ H ∧ Ans s.g s.W P F H (evE s.call t ρ) fun r F' H' => ∀ x, REnv s.g P F' r.2 σ H' → RRes s.g P σ F' r.2 H' r.1 x → Q x H'
def TFz (s : SX) (t : E) : TE := fun σ H Q => ∃ P F ρ, REnv s.g P F ρ σ H ∧ Ans s.g s.W P F H (evE s.call t ρ) fun r F' H' => ∀ x, REnv s.g P F' r.2 σ H' → RV s.g F' H' r.1.1 x → Q x H'
def TOv (s : SX) (t : E) : TE := fun σ H Q => ∃ P F ρ, REnv s.g P F ρ σ H ∧ Ans s.g s.W P F H (opd t (evE s.call t) ρ) fun r F' H' => ∀ x, REnv s.g P F' r.2 σ H' → OR s.g F' σ H' r.1 x → Q x H'
def TTv (s : SX) (t : E) : TT := fun σ H Q => ∃ P F ρ, REnv s.g P F ρ σ H ∧ Ans s.g s.W P F H (tst s.call t ρ) fun r F' H' => REnv s.g P F' r.2 σ H' → Q r.1 H'
def TAs (s : SX) (ts : List E) : TA := fun σ H Q => ∃ P F ρ, REnv s.g P F ρ σ H ∧ Ans s.g s.W P F H (evEs s.call ts ρ) fun r F' H' => ∀ xs, REnv s.g P F' r.2 σ H' → RVs s.g F' H' r.1 xs → Q xs H'
inductive ORs (g : GE) (F : AS) (σ : L2.St) (H : Hp) : List Opd → List V → Prop
  | nil : ORs g F σ H [] []
  | cons {o : Opd} {os : List Opd} {x : V} {xs : List V} : OR g F σ H o x → ORs g F σ H os xs → ORs g F σ H (o :: os) (x :: xs)
def TBs (s : SX) (ts : List E) : TA := fun σ H Q => ∃ P F ρ, REnv s.g P F ρ σ H ∧ Ans s.g s.W P F H (evBs s.call ts ρ) fun r F' H' => ∀ xs, REnv s.g P F' r.2 σ H' → ORs s.g F' σ H' r.1 xs → Q xs H'
/-- the code block, as text -/
structure SC where
  N : List Str
  sc : Scope
  consts : List (Str × PV)
  fns : List (Str × Nat)
  excs : List (Str × Nat)
  np : Nat → Nat
  fnb : Str → Bool
  io : Bool
  /-- a def's own body, no comprehension's block -/
  top : Bool := true
structure Ok (C : SC) (s : SX) (k : Nat) (X : Cx) : Prop where
  pr : X.prog = s.g.P
  w : X.w = s.g.w
  K : X.K = s.g.K
  mg : X.mg = s.g.mg
  base : X.base = s.g.base
  N : X.N = C.N
  sc : X.env.scope = C.sc
  nd : C.N.Nodup
  kd : C.sc.kind = .function
  calm : X.calm = true
  fnE : ∀ x, X.fn x = C.fnb x
  room : Room k X.A
  tk : Takes X (fun c d σ H => σ.length = X.N.length ∧ s.W c d H)
  k0 : C.io = true ∨ s.k0 = none
  fr : C.top = true → X.stack = X.env :: X.outer ∧ X.env.frame = some X.env.locals
theorem peI {X : Cx} {e : Expr} {t t' : TE} (h : PE X e t) (i : ∀ σ H Q, t' σ H Q → t σ H Q) : PE X e t' := ⟨fun pins s σ H Q I w => h.run pins s σ H Q I (i σ H Q w)⟩
theorem ptI {X : Cx} {e : Expr} {t t' : TT} (h : PT X e t) (i : ∀ σ H Q, t' σ H Q → t σ H Q) : PT X e t' := ⟨fun pins s σ H Q I w => h.run pins s σ H Q I (i σ H Q w)⟩
theorem pwI {X : Cx} {e : Expr} {t t' : TT} (h : PW X e t) (i : ∀ σ H Q, t' σ H Q → t σ H Q) : PW X e t' := ⟨fun wh pins s σ H Q I w => h.run wh pins s σ H Q I (i σ H Q w)⟩
theorem paI {X : Cx} {es : List Expr} {t t' : TA} (h : PA X es t) (i : ∀ σ H Q, t' σ H Q → t σ H Q) : PA X es t' := ⟨fun pos pins s σ H Q I w => h.run pos pins s σ H Q I (i σ H Q w)⟩
theorem psI {X : Cx} {st : Stmt} {t t' : TS} (h : PS X st t) (i : ∀ D σ H, t' D σ H → t D σ H) : PS X st t' := ⟨fun pins s σ H D I w => h.run pins s σ H D I (i D σ H w)⟩
theorem pssI {X : Cx} {st : List Stmt} {t t' : TS} (h : PSs X st t) (i : ∀ D σ H, t' D σ H → t D σ H) : PSs X st t' := ⟨fun pins s σ H D I w => h.run pins s σ H D I (i D σ H w)⟩
section
variable {C : SC} {s : SX} {k : Nat} {X : Cx} {e e1 e2 e3 : Expr} {t t1 t2 t3 : E} {pos : Pos}
/-- a value is shared -/
theorem fz_ev {t : E} : ∀ (σ : L2.St) (H : Hp) (Q : VK), TFz s t σ H Q → TEv s t σ H Q := fun σ H Q ⟨P, F, ρ, env, a⟩ =>
  ⟨P, F, ρ, env, a.mono fun r F1 H1 st k x env1 rr => by
    obtain ⟨F2, st2, env2, rv⟩ := RRes.freeze env1 rr
    exact k F2 H1 st2 x env2 rv⟩
theorem peFz (h : PE X e (TEv s t)) : PE X e (TFz s t) := peI h fz_ev
/-- an operand's reading of a value -/
theorem opd_val (hv : ∀ i, t ≠ .v i) (ρ : Env) : opd t (evE s.call t) ρ = (evE s.call t ρ).bind fun r => .ok (.val r.1.1, r.2) := by
  cases t <;> first
    | rfl
    | exact absurd rfl (hv _)
theorem peOpd (h : PE X e (TEv s t)) (hv : ∀ i, t ≠ .v i) : PE X e (TOv s t) := peI (peFz h) fun σ H Q ⟨P, F, ρ, env, a⟩ => by
  rw [opd_val hv] at a
  exact ⟨P, F, ρ, env, a.bind.mono fun r F1 H1 st k x env1 rv => (k F1 H1 Step.refl).now x env1 rv⟩
/-- a value's reading as a test -/
theorem peTst (h : PE X e (TEv s t)) (he : ∀ whole, isTrue e X.env whole = (do let v ← whole; standAt e.pos; holding [v] (truthy v))) : PT X e (TTv s t) := ptI (pt_val (peFz h) he) fun σ H Q ⟨P, F, ρ, env, a⟩ => by
  refine ⟨P, F, ρ, env, (Ans.bind (show Ans _ _ _ _ _ ((evE s.call t ρ).bind fun p => _) _ from a)).mono fun r F1 H1 st k x env1 rv => ?_⟩
  have k1 := k F1 H1 Step.refl
  split at k1
  · rename_i b hb
    rw [hb] at rv
    cases rv
    exact ⟨b, rfl, k1.now env1⟩
  · exact k1.elim

/-- what the derivation of an expression holds -/
structure DE (s : SX) (X : Cx) (e : Expr) (t : E) : Prop where
  val : PE X e (TEv s t)
  opr : PE X e (TOv s t)
  tst : PT X e (TTv s t)
  star : ∀ es env, starEach (e :: es) env = (false, eval e env) :: starEach es env
  pw : ∀ op es p, e = .BoolOp op es p → PW X e (TTv s t)
variable (ok : Ok C s k X)
include ok
theorem Ok.cl {u : Nat} (h : u ≤ 100) : X.A.units + u < cLine := by
  have := ok.room.un
  omega
omit ok
/-- a test's reading of a value -/
theorem ttv_ev : ∀ (σ : L2.St) (H : Hp) (Q : Bool → Hp → Prop), TTv s t σ H Q → TEv s t σ H fun x H1 => ∃ b, x = .bl b ∧ Q b H1 := fun σ H Q ⟨P, F, ρ, env, a⟩ => by
  refine ⟨P, F, ρ, env, (Ans.bind (show Ans _ _ _ _ _ ((evE s.call t ρ).bind fun p => _) _ from a)).mono fun r F1 H1 st k x env1 rr => ?_⟩
  have k1 := k F1 H1 Step.refl
  split at k1
  · rename_i b hb
    rcases rr with ⟨_, rv⟩ | ⟨_, _, _, _, _, oa, _⟩
    · rw [hb] at rv
      cases rv
      exact ⟨b, rfl, k1.now env1⟩
    · rw [hb] at oa
      exact oa.elim
  · exact k1.elim
/-! ### leaves -/
theorem isT_const {c : Const} {j : Nat} (whole : Sem Value) (env : PySem.Env) : isTrue (.Constant c j pos) env whole = (do let v ← whole; standAt pos; holding [v] (truthy v)) := rfl
theorem d_const {c : Const} {j : Nat} {v : PV} {x : V} (hp : PE X (.Constant c j pos) (tC x)) (hr : ∀ F H, RV s.g F H v x) : DE s X (.Constant c j pos) (.c v) := by
  have h : PE X (.Constant c j pos) (TEv s (.c v)) := peI hp fun σ H Q ⟨P, F, ρ, env, a⟩ => a.now x env (.inl ⟨rfl, hr F H⟩)
  exact ⟨h, peOpd h (by intros; simp), peTst h (fun _ => rfl), fun _ _ => rfl, fun _ _ _ z => by cases z⟩
theorem d_glob {x : Str} {v : PV} {z : V} {u : Value} (hg : Gl X x) (hm : X.mg x = some u) (r : RelV z u) (hr : ∀ F H, RV s.g F H v z) (hd : (x == ("__debug__" : Str)) = false) : DE s X (.Name x pos) (.c v) := by
  have h : PE X (.Name x pos) (TEv s (.c v)) := peI (pe_glob hg hm r hd) fun σ H Q ⟨P, F, ρ, env, a⟩ => a.now z env (.inl ⟨rfl, hr F H⟩)
  exact ⟨h, peOpd h (by intros; simp), peTst h (fun _ => rfl), fun _ _ => rfl, fun _ _ _ z => by cases z⟩
theorem d_var {i : Nat} {x : Str} (hN : X.N[i]? = some x) (hv : Vis X.env.scope x) (hd : (x == ("__debug__" : Str)) = false) (hcd : (x == ("__classdict__" : Str)) = false) : DE s X (.Name x pos) (.v i) := by
  have h : PE X (.Name x pos) (TEv s (.v i)) := peI (pe_var hN hv hd hcd) fun σ H Q ⟨P, F, ρ, env, a⟩ => by
    simp only [evE] at a
    split at a
    · rename_i v hs
      obtain ⟨o, e1, z, e2, rv⟩ := env.at_ i _ hs
      subst e2
      exact ⟨z, e1, a.now z env (.inl ⟨rfl, rv⟩)⟩
    · rename_i v hs
      obtain ⟨F', z, st, env', e1, rv⟩ := env.share hs
      exact ⟨z, e1, a.val F' H st z env' (.inl ⟨rfl, rv⟩)⟩
    · exact a.elim
  refine ⟨h, peI (pe_var hN hv hd hcd) fun σ H Q ⟨P, F, ρ, env, a⟩ => ?_, peTst h (fun _ => rfl), fun _ _ => rfl, fun _ _ _ z => by cases z⟩
  simp only [opd] at a
  split at a
  · rename_i v hs
    obtain ⟨o, e1, z, e2, _⟩ := env.at_ i _ hs
    subst e2
    exact ⟨z, e1, a.now z env e1⟩
  · rename_i v hs
    obtain ⟨o, e1, z, e2, _⟩ := env.at_ i _ hs
    subst e2
    exact ⟨.ref z, e1, a.now (.ref z) env e1⟩
  · rename_i v hs
    obtain ⟨o, e1, z, e2, _⟩ := env.at_ i _ hs
    subst e2
    exact ⟨.ref z, e1, a.now (.ref z) env e1⟩
  · exact a.elim
theorem getElem_set_n {ρ : Env} {i j : Nat} {sl : Slot} (e : (ρ.set i .n)[j]? = some sl) (o : sl.own = true) : j ≠ i ∧ ρ[j]? = some sl := by
  by_cases hj : i = j
  · subst hj
    have hl : i < ρ.length := by simpa using (List.getElem?_eq_some_iff.mp e).1
    rw [List.getElem?_set_self hl] at e
    cases e
    cases o
  · rw [List.getElem?_set_ne hj] at e
    exact ⟨fun z => hj z.symm, e⟩
theorem REnv.take {g : GE} {P F : AS} {ρ : Env} {σ : L2.St} {H : Hp} {i : Nat} {v : PV} (env : REnv g P F ρ σ H) (hs : ρ[i]? = some (.o v)) : ∃ a, σ[i]? = some (some (.ref a)) ∧ ¬ F a ∧ ¬ P a ∧ OAt g F H v a ∧ NotIn (ρ.set i .n) σ a := by
  obtain ⟨o, e1, a, e2, n1, n2, oa⟩ := env.at_ i _ hs
  subst e2
  refine ⟨a, e1, n1, n2, oa, fun j sl e o e3 => ?_⟩
  obtain ⟨hj, e4⟩ := getElem_set_n e o
  exact env.dis i j _ sl a (fun z => hj z.symm) hs e4 rfl o e1 e3
theorem d_mv {i : Nat} {x : Str} (hN : X.N[i]? = some x) (hv : Vis X.env.scope x) (hd : (x == ("__debug__" : Str)) = false) (hcd : (x == ("__classdict__" : Str)) = false) : DE s X (.Name x pos) (.mv i) := by
  have h : PE X (.Name x pos) (TEv s (.mv i)) := peI (pe_var hN hv hd hcd) fun σ H Q ⟨P, F, ρ, env, a⟩ => by
    simp only [evE] at a
    split at a
    · rename_i v hs
      obtain ⟨o, e1, z, e2, rv⟩ := env.at_ i _ hs
      subst e2
      exact ⟨z, e1, a.now z env (.inl ⟨rfl, rv⟩)⟩
    · rename_i v hs
      obtain ⟨z, e1, n1, n2, oa, ni⟩ := env.take hs
      exact ⟨.ref z, e1, a.now (.ref z) env.setN (.inr ⟨rfl, z, rfl, n1, n2, oa, ni⟩)⟩
    · exact a.elim
  exact ⟨h, peOpd h (by intros; simp), peTst h (fun _ => rfl), fun _ _ => rfl, fun _ _ _ z => by cases z⟩
/-! ### and, or, not -/
theorem tst_and {c : CallT} {a b : E} {ρ : EV.Env} : tst c (.and a b) ρ = (tst c a ρ).bind fun p => if p.1 = true then tst c b p.2 else .ok (false, p.2) := by
  simp only [tst, evE]
  cases evE c a ρ with
  | ok r =>
    obtain ⟨⟨v, o⟩, ρ1⟩ := r
    cases v with
    | bl b => cases b <;> simp
    | _ => simp
  | exc _ _ => rfl
  | bad => rfl
theorem tst_or {c : CallT} {a b : E} {ρ : EV.Env} : tst c (.or a b) ρ = (tst c a ρ).bind fun p => if p.1 = true then .ok (true, p.2) else tst c b p.2 := by
  simp only [tst, evE]
  cases evE c a ρ with
  | ok r =>
    obtain ⟨⟨v, o⟩, ρ1⟩ := r
    cases v with
    | bl b => cases b <;> simp
    | _ => simp
  | exc _ _ => rfl
  | bad => rfl
theorem tst_not {c : CallT} {a : E} {ρ : EV.Env} : tst c (.not a) ρ = (tst c a ρ).bind fun p => .ok (!p.1, p.2) := by
  simp only [tst, evE]
  cases evE c a ρ with
  | ok r =>
    obtain ⟨⟨v, o⟩, ρ1⟩ := r
    cases v with
    | bl b => cases b <;> simp
    | _ => simp
  | exc _ _ => rfl
  | bad => rfl
theorem tst_ite {c : CallT} {t a b : E} {ρ : EV.Env} : tst c (.ite t a b) ρ = (tst c t ρ).bind fun p => if p.1 = true then tst c a p.2 else tst c b p.2 := by
  simp only [tst, evE]
  cases evE c t ρ with
  | ok r =>
    obtain ⟨⟨v, o⟩, ρ1⟩ := r
    cases v with
    | bl b => cases b <;> simp
    | _ => simp
  | exc _ _ => rfl
  | bad => rfl
theorem ev_ite {c : CallT} {t a b : E} {ρ : EV.Env} : evE c (.ite t a b) ρ = (tst c t ρ).bind fun p => if p.1 = true then evE c a p.2 else evE c b p.2 := by
  simp only [tst, evE]
  cases evE c t ρ with
  | ok r =>
    obtain ⟨⟨v, o⟩, ρ1⟩ := r
    cases v with
    | bl b => cases b <;> simp
    | _ => simp
  | exc _ _ => rfl
  | bad => rfl
theorem ev_and (σ : L2.St) (H : Hp) (Q : VK) (h : TEv s (.and t1 t2) σ H Q) : tAndV (TFz s t1) (TEv s t2) σ H Q := by
  obtain ⟨P, F, ρ, env, a⟩ := h
  simp only [evE] at a
  refine ⟨P, F, ρ, env, a.bind.mono fun p F1 H1 st k x env1 rv => ?_⟩
  have k1 := k F1 H1 Step.refl
  split at k1
  · rename_i hb
    rw [hb] at rv
    cases rv
    exact ⟨true, rfl, P, F1, p.2, env1, k1⟩
  · rename_i hb
    rw [hb] at rv
    cases rv
    exact ⟨false, rfl, k1.now (.bl false) env1 (.inl ⟨rfl, .bl false⟩)⟩
  · exact k1.elim
theorem ev_or (σ : L2.St) (H : Hp) (Q : VK) (h : TEv s (.or t1 t2) σ H Q) : tOrV (TFz s t1) (TEv s t2) σ H Q := by
  obtain ⟨P, F, ρ, env, a⟩ := h
  simp only [evE] at a
  refine ⟨P, F, ρ, env, a.bind.mono fun p F1 H1 st k x env1 rv => ?_⟩
  have k1 := k F1 H1 Step.refl
  split at k1
  · rename_i hb
    rw [hb] at rv
    cases rv
    exact ⟨true, rfl, k1.now (.bl true) env1 (.inl ⟨rfl, .bl true⟩)⟩
  · rename_i hb
    rw [hb] at rv
    cases rv
    exact ⟨false, rfl, P, F1, p.2, env1, k1⟩
  · exact k1.elim
theorem tt_and (σ : L2.St) (H : Hp) (Q : Bool → Hp → Prop) (h : TTv s (.and t1 t2) σ H Q) : tAnd (TTv s t1) (TTv s t2) σ H Q := by
  obtain ⟨P, F, ρ, env, a⟩ := h
  rw [tst_and] at a
  refine ⟨P, F, ρ, env, a.bind.mono fun p F1 H1 st k env1 => ?_⟩
  have k1 := k F1 H1 Step.refl
  dsimp only
  by_cases hb : p.1 = true
  · rw [if_pos hb] at k1 ⊢
    exact ⟨P, F1, p.2, env1, k1⟩
  · rw [if_neg hb] at k1 ⊢
    exact k1.now env1
theorem tt_or (σ : L2.St) (H : Hp) (Q : Bool → Hp → Prop) (h : TTv s (.or t1 t2) σ H Q) : tOr (TTv s t1) (TTv s t2) σ H Q := by
  obtain ⟨P, F, ρ, env, a⟩ := h
  rw [tst_or] at a
  refine ⟨P, F, ρ, env, a.bind.mono fun p F1 H1 st k env1 => ?_⟩
  have k1 := k F1 H1 Step.refl
  dsimp only
  by_cases hb : p.1 = true
  · rw [if_pos hb] at k1 ⊢
    exact k1.now env1
  · rw [if_neg hb] at k1 ⊢
    exact ⟨P, F1, p.2, env1, k1⟩
theorem mk_de {op : BoolOp} {es : List Expr} (h : PE X (.BoolOp op es pos) (TEv s t)) (w : PW X (.BoolOp op es pos) (TTv s t)) (hv : ∀ i, t ≠ .v i) : DE s X (.BoolOp op es pos) t :=
  ⟨h, peOpd h hv, w.pt, fun _ _ => rfl, fun _ _ _ z => by cases z; exact w⟩
theorem d_and2 (h1 : DE s X e1 t1) (h2 : DE s X e2 t2) : DE s X (.BoolOp .And [e1, e2] pos) (.and t1 t2) :=
  mk_de (peI (pe_and (peFz h1.val) (pe_one h2.val)) ev_and) (pwI (pw_and h1.tst (pw_and1 h2.tst)) tt_and) (by intros; simp)
theorem d_and3 {es : List Expr} (h1 : DE s X e1 t1) (h2 : DE s X (.BoolOp .And (e2 :: es) pos) t2) : DE s X (.BoolOp .And (e1 :: e2 :: es) pos) (.and t1 t2) :=
  mk_de (peI (pe_and (peFz h1.val) h2.val) ev_and) (pwI (pw_and h1.tst (h2.pw _ _ _ rfl)) tt_and) (by intros; simp)
theorem d_or2 (h1 : DE s X e1 t1) (h2 : DE s X e2 t2) : DE s X (.BoolOp .Or [e1, e2] pos) (.or t1 t2) :=
  mk_de (peI (pe_or (peFz h1.val) (pe_one h2.val)) ev_or) (pwI (pw_or h1.tst (pw_or1 h2.tst)) tt_or) (by intros; simp)
theorem d_or3 {es : List Expr} (h1 : DE s X e1 t1) (h2 : DE s X (.BoolOp .Or (e2 :: es) pos) t2) : DE s X (.BoolOp .Or (e1 :: e2 :: es) pos) (.or t1 t2) :=
  mk_de (peI (pe_or (peFz h1.val) h2.val) ev_or) (pwI (pw_or h1.tst (h2.pw _ _ _ rfl)) tt_or) (by intros; simp)
theorem d_not (h1 : DE s X e1 t1) : DE s X (.UnaryOp .Not e1 pos) (.not t1) := by
  have h : PE X (.UnaryOp .Not e1 pos) (TEv s (.not t1)) := peI (pe_not (peFz h1.val)) fun σ H Q ⟨P, F, ρ, env, a⟩ => by
    simp only [evE] at a
    refine ⟨P, F, ρ, env, a.bind.mono fun p F1 H1 st k x env1 rv => ?_⟩
    have k1 := k F1 H1 Step.refl
    split at k1
    · rename_i b hb
      rw [hb] at rv
      cases rv
      exact ⟨b, rfl, k1.now (.bl (!b)) env1 (.inl ⟨rfl, .bl (!b)⟩)⟩
    · exact k1.elim
  refine ⟨h, peOpd h (by intros; simp), ptI (pt_not h1.tst) fun σ H Q ⟨P, F, ρ, env, a⟩ => ?_, fun _ _ => rfl, fun _ _ _ z => by cases z⟩
  rw [tst_not] at a
  exact ⟨P, F, ρ, env, a.bind.mono fun p F1 H1 st k env1 => (k F1 H1 Step.refl).now env1⟩
theorem d_ite (h1 : DE s X e1 t1) (h2 : DE s X e2 t2) (h3 : DE s X e3 t3) : DE s X (.IfExp e1 e2 e3 pos) (.ite t1 t2 t3) := by
  have h : PE X (.IfExp e1 e2 e3 pos) (TEv s (.ite t1 t2 t3)) := peI (pe_ifExp h1.tst h2.val h3.val) fun σ H Q ⟨P, F, ρ, env, a⟩ => by
    rw [ev_ite] at a
    refine ⟨P, F, ρ, env, a.bind.mono fun p F1 H1 st k env1 => ?_⟩
    have k1 := k F1 H1 Step.refl
    dsimp only
    by_cases hb : p.1 = true
    · rw [if_pos hb] at k1 ⊢
      exact ⟨P, F1, p.2, env1, k1⟩
    · rw [if_neg hb] at k1 ⊢
      exact ⟨P, F1, p.2, env1, k1⟩
  have ht : PT X (.IfExp e1 e2 e3 pos) (fun σ H Q => TTv s t1 σ H fun c H1 => if c = true then TTv s t2 σ H1 Q else TTv s t3 σ H1 Q) := by
    refine ⟨fun pins sh σ H Q I w => ?_⟩
    refine isTrue_IfExp (thn (h1.tst.run pins sh σ H _ I w) fun d s1 ⟨H1, I1, q1⟩ => ?_)
    cases d with
    | true => exact h2.tst.run pins s1 σ H1 Q I1 q1
    | false => exact h3.tst.run pins s1 σ H1 Q I1 q1
  refine ⟨h, peOpd h (by intros; simp), ptI ht fun σ H Q ⟨P, F, ρ, env, a⟩ => ?_, fun _ _ => rfl, fun _ _ _ z => by cases z⟩
  rw [tst_ite] at a
  refine ⟨P, F, ρ, env, a.bind.mono fun p F1 H1 st k env1 => ?_⟩
  have k1 := k F1 H1 Step.refl
  dsimp only
  by_cases hb : p.1 = true
  · rw [if_pos hb] at k1 ⊢
    exact ⟨P, F1, p.2, env1, k1⟩
  · rw [if_neg hb] at k1 ⊢
    exact ⟨P, F1, p.2, env1, k1⟩
end
end EV
set_option Elab.async false
set_option linter.all false
set_option autoImplicit false
set_option maxRecDepth 100000
/-! Expressions: operators, subscripts, displays, calls. -/
namespace EV
open PySem PySem.Spec PyProof.Rows L2
section
variable {C : SC} {s : SX} {k : Nat} {X : Cx} {e e1 e2 e3 : Expr} {t t1 t2 t3 : E} {pos : Pos}
/-- the last step of an operation -/
theorem fin_new {W : XK} {P F : AS} {σ : L2.St} {H : Hp} {ρ : EV.Env} {w : VO} {Q : VK} (a : Ans s.g W P F H (Res.ok (w, ρ)) fun r F' H' => ∀ x, REnv s.g P F' r.2 σ H' → RRes s.g P σ F' r.2 H' r.1 x → Q x H') (env : REnv s.g P F ρ σ H) :
    ∀ H' z, NewR s.g F H H' w z → Q z H' := fun H' z n => by
  obtain ⟨st, env', rr⟩ := n.res env
  exact a.val F H' st z env' rr
theorem ev_un (o : Un) (σ : L2.St) (H : Hp) (Q : VK) (h : TEv s (.un o t1) σ H Q) : tUn (rV1 s.g (unV o)) (TOv s t1) σ H Q := by
  obtain ⟨P, F, ρ, env, a⟩ := h
  simp only [evE] at a
  refine ⟨P, F, ρ, env, a.bind.mono fun p F1 H1 st k x env1 ox => ?_⟩
  obtain ⟨u, e1, k1⟩ := (k F1 H1 Step.refl).get (rdO_ne _ _)
  obtain ⟨w, e2, k2⟩ := k1.get (unV_ne _ _)
  exact ⟨F1, u, w, ox.rd env1 e1, e2, fin_new k2 env1⟩
theorem ev_bin2 {f : PV → PV → Res VO} (ne : ∀ u v c a, f u v ≠ .exc c a) (σ : L2.St) (H : Hp) (Q : VK)
    (h : ∃ P F ρ, REnv s.g P F ρ σ H ∧ Ans s.g s.W P F H ((opd t1 (evE s.call t1) ρ).bind fun p => (opd t2 (evE s.call t2) p.2).bind fun q => (rdO p.1 q.2).bind fun x => (rdO q.1 q.2).bind fun y => (f x y).bind fun r => .ok (r, q.2))
      fun r F' H' => ∀ x, REnv s.g P F' r.2 σ H' → RRes s.g P σ F' r.2 H' r.1 x → Q x H') : tOp (rV2 s.g f) (TOv s t1) (TOv s t2) σ H Q := by
  obtain ⟨P, F, ρ, env, a⟩ := h
  refine ⟨P, F, ρ, env, a.bind.mono fun p F1 H1 st k x env1 ox => ?_⟩
  refine ⟨P, F1, p.2, env1, (k F1 H1 Step.refl).bind.mono fun q F2 H2 st2 k2 y env2 oy => ?_⟩
  obtain ⟨u, g1, k3⟩ := (k2 F2 H2 Step.refl).get (rdO_ne _ _)
  obtain ⟨v, g2, k4⟩ := k3.get (rdO_ne _ _)
  obtain ⟨w, g3, k5⟩ := k4.get (ne _ _)
  exact ⟨F2, u, v, w, (ox.mono st2).rd env2 g1, oy.rd env2 g2, g3, fin_new k5 env2⟩
theorem ev_bin (o : Bin) (σ : L2.St) (H : Hp) (Q : VK) (h : TEv s (.bin o t1 t2) σ H Q) : tOp (rV2 s.g (binV o)) (TOv s t1) (TOv s t2) σ H Q := by
  obtain ⟨P, F, ρ, env, a⟩ := h
  simp only [evE] at a
  exact ev_bin2 (binV_ne o) σ H Q ⟨P, F, ρ, env, a⟩
theorem ev_cmp (o : Cm) (σ : L2.St) (H : Hp) (Q : VK) (h : TEv s (.cmp o t1 t2) σ H Q) : tOp (rV2 s.g (cmpV o)) (TOv s t1) (TOv s t2) σ H Q := by
  obtain ⟨P, F, ρ, env, a⟩ := h
  simp only [evE] at a
  exact ev_bin2 (cmpV_ne o) σ H Q ⟨P, F, ρ, env, a⟩
variable (ok : Ok C s k X)
include ok
theorem d_un {o : Un} (ho : o = .neg) (h1 : DE s X e1 t1) : DE s X (.UnaryOp (uop o) e1 pos) (.un o t1) := by
  have h : PE X (.UnaryOp (uop o) e1 pos) (TEv s (.un o t1)) := peI (pe_un (un_ok o ho) h1.opr) (ev_un o)
  subst ho
  exact ⟨h, peOpd h (by intros; simp), peTst h (fun _ => rfl), fun _ _ => rfl, fun _ _ _ z => by cases z⟩
theorem d_bin {o : Bin} (h1 : DE s X e1 t1) (h2 : DE s X e2 t2) : DE s X (.BinOp e1 (bop o) e2 pos) (.bin o t1 t2) := by
  have h : PE X (.BinOp e1 (bop o) e2 pos) (TEv s (.bin o t1 t2)) := peI (pe_op (bin_ok ok.K o) h1.opr h2.opr) (ev_bin o)
  exact ⟨h, peOpd h (by intros; simp), peTst h (fun _ => rfl), fun _ _ => rfl, fun _ _ _ z => by cases z⟩
theorem d_cmp {o : Cm} (h1 : DE s X e1 t1) (h2 : DE s X e2 t2) (hm : behindInMarks (cop o) e2 = false) : DE s X (.Compare e1 [cop o] [e2] pos) (.cmp o t1 t2) := by
  have hc := cmp_ok (g := s.g) (X := X) ok.K ok.pr ok.w (ok.cl (by omega)) o
  have h : PE X (.Compare e1 [cop o] [e2] pos) (TEv s (.cmp o t1 t2)) := peI (pe_cmpR hc h1.opr h2.opr hm) (ev_cmp o)
  exact ⟨h, peOpd h (by intros; simp), ptI (pt_cmpR hc h1.opr h2.opr hm) fun σ H Q w => ev_cmp o σ H _ (ttv_ev σ H Q w), fun _ _ => rfl, fun _ _ _ z => by cases z⟩
theorem RV.rb {g : GE} {F : AS} {H : Hp} {v : PV} {x : V} (h : RV g F H v x) : RB g F H v x := .inl h
omit ok in
theorem ev_chain {o o' : Cm} (σ : L2.St) (H : Hp) (Q : VK) (h : TEv s (.chain o o' t1 t2 t3) σ H Q) : tChain (rV2 s.g (cmpV o)) (rV2 s.g (cmpV o')) (TFz s t1) (TFz s t2) (TFz s t3) σ H Q := by
  obtain ⟨P, F, ρ, env, a⟩ := h
  simp only [evE] at a
  refine ⟨P, F, ρ, env, a.bind.mono fun p F1 H1 st k x env1 rx => ?_⟩
  refine ⟨P, F1, p.2, env1, (k F1 H1 Step.refl).bind.mono fun q F2 H2 st2 k2 y env2 ry => ?_⟩
  obtain ⟨w, g1, k3⟩ := (k2 F2 H2 Step.refl).get (cmpV_ne _ _ _)
  refine ⟨F2, p.1.1, q.1.1, w, .inl (RV.mono st2 rx), .inl ry, g1, fun H3 z n => ?_⟩
  obtain ⟨st3, env3, rr⟩ := n.res env2
  have k4 := k3.step st3
  split at k4
  · rename_i hb
    have hz : z = .bl true := by
      rcases rr with ⟨_, rv⟩ | ⟨_, _, _, _, _, oa, _⟩
      · rw [hb] at rv
        cases rv
        rfl
      · rw [hb] at oa
        exact oa.elim
    refine ⟨true, hz, ?_⟩
    rw [if_pos rfl]
    refine ⟨P, F2, q.2, env3, k4.bind.mono fun q' F4 H4 st4 k5 y' env4 ry' => ?_⟩
    obtain ⟨w', g2, k6⟩ := (k5 F4 H4 Step.refl).get (cmpV_ne _ _ _)
    exact ⟨F4, q.1.1, q'.1.1, w', .inl (RV.mono (st3.trans st4) ry), .inl ry', g2, fin_new k6 env4⟩
  · rename_i hb
    have hz : z = .bl false := by
      rcases rr with ⟨_, rv⟩ | ⟨_, _, _, _, _, oa, _⟩
      · rw [hb] at rv
        cases rv
        rfl
      · rw [hb] at oa
        exact oa.elim
    refine ⟨false, hz, ?_⟩
    rw [if_neg Bool.false_ne_true]
    exact k4.now (.bl false) env3 (.inl ⟨rfl, .bl false⟩)
  · exact k4.elim
theorem d_chain {o o' : Cm} (h1 : DE s X e1 t1) (h2 : DE s X e2 t2) (h3 : DE s X e3 t3) (hm : lastMarks [cop o, cop o'] [e2, e3] = false) : DE s X (.Compare e1 [cop o, cop o'] [e2, e3] pos) (.chain o o' t1 t2 t3) := by
  have hc := cmp_ok (g := s.g) (X := X) ok.K ok.pr ok.w (ok.cl (by omega)) o
  have hc' := cmp_ok (g := s.g) (X := X) ok.K ok.pr ok.w (ok.cl (by omega)) o'
  have h : PE X (.Compare e1 [cop o, cop o'] [e2, e3] pos) (TEv s (.chain o o' t1 t2 t3)) := peI (pe_chain hc hc' (peFz h1.val) (peFz h2.val) (peFz h3.val) hm) ev_chain
  exact ⟨h, peOpd h (by intros; simp), ptI (pt_chain hc hc' (peFz h1.val) (peFz h2.val) (peFz h3.val) hm) fun σ H Q w => ev_chain σ H _ (ttv_ev σ H Q w), fun _ _ => rfl, fun _ _ _ z => by cases z⟩
/-! ### subscripts -/
omit ok in
theorem ev_sub (σ : L2.St) (H : Hp) (Q : VK) (h : TEv s (.sub t1 t2) σ H Q) : tOp (rSub s.g) (TOv s t1) (TOv s t2) σ H Q := by
  obtain ⟨P, F, ρ, env, a⟩ := h
  simp only [evE] at a
  refine ⟨P, F, ρ, env, a.bind.mono fun p F1 H1 st k x env1 ox => ?_⟩
  refine ⟨P, F1, p.2, env1, (k F1 H1 Step.refl).bind.mono fun q F2 H2 st2 k2 y env2 oy => ?_⟩
  obtain ⟨u, g1, k3⟩ := (k2 F2 H2 Step.refl).get (rdO_ne _ _)
  obtain ⟨v, g2, k4⟩ := k3.get (rdO_ne _ _)
  obtain ⟨w, g3, k5⟩ := k4.get (subV_ne _ _)
  exact ⟨F2, u, v, w, (ox.mono st2).rd env2 g1, oy.rd env2 g2, g3, fun z rz => k5.now z env2 (.inl ⟨rfl, rz⟩)⟩
theorem d_sub (h1 : DE s X e1 t1) (h2 : DE s X e2 t2) (hs : PlainIx e2) : DE s X (.Subscript e1 e2 pos) (.sub t1 t2) := by
  have h : PE X (.Subscript e1 e2 pos) (TEv s (.sub t1 t2)) := peI (pe_ix (ix_ok ok.K) h1.opr h2.opr hs) ev_sub
  exact ⟨h, peOpd h (by intros; simp), peTst h (fun _ => rfl), fun _ _ => rfl, fun _ _ _ z => by cases z⟩
/-- a slice's part -/
def TPo (s : SX) (o : Option E) : TO := fun σ H Q => ∃ P F ρ, REnv s.g P F ρ σ H ∧ Ans s.g s.W P F H (evO s.call o ρ) fun r F' H' => REnv s.g P F' r.2 σ H' → Q r.1 H'
inductive DO (s : SX) (X : Cx) : Option Expr → Option E → Prop
  | none : DO s X none none
  | some {e : Expr} {t : E} (h : DE s X e t) : DO s X (some e) (some t)
omit ok in
theorem DO.po {oe : Option Expr} {ot : Option E} (h : DO s X oe ot) : PO X oe (TPo s ot) := by
  cases h with
  | none => exact ⟨fun pins sh σ H Q I ⟨P, F, ρ, env, a⟩ => po_none.run pins sh σ H Q I (a.now env)⟩
  | some h =>
    refine ⟨fun pins sh σ H Q I ⟨P, F, ρ, env, a⟩ => (po_some (peFz h.val)).run pins sh σ H Q I ⟨P, F, ρ, env, ?_⟩⟩
    simp only [evO] at a
    refine a.bind.mono fun p F1 H1 st k x env1 rv => ?_
    have k1 := k F1 H1 Step.refl
    split at k1
    · rename_i i hi
      rw [hi] at rv
      cases rv
      exact ⟨i, rfl, k1.now env1⟩
    · exact k1.elim
theorem evO_ne : True := trivial
omit ok in
theorem ev_slc {o1 o2 : Option E} (σ : L2.St) (H : Hp) (Q : VK) (h : TEv s (.slc t1 o1 o2) σ H Q) : tSl (rSlc s.g) (TOv s t1) (TPo s o1) (TPo s o2) σ H Q := by
  obtain ⟨P, F, ρ, env, a⟩ := h
  simp only [evE] at a
  refine ⟨P, F, ρ, env, a.bind.mono fun p F1 H1 st k x env1 ox => ?_⟩
  refine ⟨P, F1, p.2, env1, (k F1 H1 Step.refl).bind.mono fun q F2 H2 st2 k2 env2 => ?_⟩
  refine ⟨P, F2, q.2, env2, (k2 F2 H2 Step.refl).bind.mono fun q' F3 H3 st3 k3 env3 => ?_⟩
  obtain ⟨u, g1, k4⟩ := (k3 F3 H3 Step.refl).get (rdO_ne _ _)
  obtain ⟨w, g3, k5⟩ := k4.get (slcV_ne _ _ _)
  exact ⟨F3, u, w, (ox.mono (st2.trans st3)).rd env3 g1, g3, fin_new k5 env3⟩
theorem d_slc {oe1 oe2 : Option Expr} {o1 o2 : Option E} {p2 : Pos} (h1 : DE s X e1 t1) (h2 : DO s X oe1 o1) (h3 : DO s X oe2 o2) : DE s X (.Subscript e1 (.Slice oe1 oe2 none p2) pos) (.slc t1 o1 o2) := by
  have h : PE X (.Subscript e1 (.Slice oe1 oe2 none p2) pos) (TEv s (.slc t1 o1 o2)) := peI (pe_slice (slc_ok ok.K) h1.opr h2.po h3.po) ev_slc
  exact ⟨h, peOpd h (by intros; simp), peTst h (fun _ => rfl), fun _ _ => rfl, fun _ _ _ z => by cases z⟩
theorem d_rev {k : Nat} {p1 p2 p3 : Pos} (h1 : DE s X e1 t1) : DE s X (.Subscript e1 (.Slice none none (some (.UnaryOp .USub (.Constant (.int 1) k p1) p2)) p3) pos) (.rev t1) := by
  have h : PE X (.Subscript e1 (.Slice none none (some (.UnaryOp .USub (.Constant (.int 1) k p1) p2)) p3) pos) (TEv s (.rev t1)) := peI (pe_rev (g := s.g) ok.K h1.opr) fun σ H Q ⟨P, F, ρ, env, a⟩ => by
    simp only [evE] at a
    refine ⟨P, F, ρ, env, a.bind.mono fun p F1 H1 st k x env1 ox => ?_⟩
    obtain ⟨u, g1, k4⟩ := (k F1 H1 Step.refl).get (rdO_ne _ _)
    obtain ⟨w, g3, k5⟩ := k4.get (revV_ne _)
    exact ⟨F1, u, w, ox.rd env1 g1, g3, fin_new k5 env1⟩
  exact ⟨h, peOpd h (by intros; simp), peTst h (fun _ => rfl), fun _ _ => rfl, fun _ _ _ z => by cases z⟩
/-! ### lists of expressions -/
inductive DEs (s : SX) (X : Cx) : List Expr → List E → Prop
  | nil : DEs s X [] []
  | cons {e : Expr} {es : List Expr} {t : E} {ts : List E} (h : DE s X e t) (r : DEs s X es ts) : DEs s X (e :: es) (t :: ts)
omit ok in
theorem DEs.plain {es : List Expr} {ts : List E} (h : DEs s X es ts) (pos : Pos) (env : PySem.Env) : (backTo pos (starEach es env)).any (·.1) = false := by
  induction h with
  | nil => rfl
  | cons h r ih =>
    rw [h.star]
    show (false || (backTo pos (starEach _ env)).any (·.1)) = false
    rw [ih]
    rfl
omit ok in
theorem DEs.pa {es : List Expr} {ts : List E} (h : DEs s X es ts) : PA X es (TAs s ts) := by
  induction h with
  | nil => exact paI pa_nil fun σ H Q ⟨P, F, ρ, env, a⟩ => a.now [] env .nil
  | cons h r ih =>
    refine paI (pa_cons (peFz h.val) ih (h.star _ _)) fun σ H Q ⟨P, F, ρ, env, a⟩ => ?_
    simp only [evEs] at a
    refine ⟨P, F, ρ, env, a.bind.mono fun p F1 H1 st k x env1 rv => ?_⟩
    refine ⟨P, F1, p.2, env1, (k F1 H1 Step.refl).bind.mono fun q F2 H2 st2 k2 xs env2 rvs => ?_⟩
    exact (k2 F2 H2 Step.refl).now (x :: xs) env2 (.cons (RV.mono st2 rv) rvs)
omit ok in
theorem ORs.mono {g : GE} {P F F' : AS} {σ : L2.St} {H H' : Hp} {os : List Opd} {xs : List V} (h : ORs g F σ H os xs) (st : Step P F H F' H') : ORs g F' σ H' os xs := by
  induction h with
  | nil => exact .nil
  | cons o _ ih => exact .cons (o.mono st) ih
omit ok in
theorem ORs.rd {g : GE} {P F : AS} {σ : L2.St} {H : Hp} {ρ : EV.Env} {os : List Opd} {xs : List V} (h : ORs g F σ H os xs) (env : REnv g P F ρ σ H) : ∀ {vs : List PV}, rdOs os ρ = .ok vs → RBs g F H vs xs := by
  induction h with
  | nil =>
    intro vs e
    cases e
    exact .nil
  | cons o r ih =>
    intro vs e
    rename_i o' os' x xs'
    simp only [rdOs] at e
    cases e1 : rdO o' ρ with
    | ok v =>
      rw [e1] at e
      cases e2 : rdOs os' ρ with
      | ok ws =>
        rw [e2] at e
        cases e
        exact .cons (o.rd env e1) (ih e2)
      | exc c a =>
        rw [e2] at e
        cases e
      | bad =>
        rw [e2] at e
        cases e
    | exc c a =>
      rw [e1] at e
      cases e
    | bad =>
      rw [e1] at e
      cases e
omit ok in
theorem DEs.pb {es : List Expr} {ts : List E} (h : DEs s X es ts) : PA X es (TBs s ts) := by
  induction h with
  | nil => exact paI pa_nil fun σ H Q ⟨P, F, ρ, env, a⟩ => a.now [] env .nil
  | cons h r ih =>
    refine paI (pa_cons h.opr ih (h.star _ _)) fun σ H Q ⟨P, F, ρ, env, a⟩ => ?_
    simp only [evBs] at a
    refine ⟨P, F, ρ, env, a.bind.mono fun p F1 H1 st k x env1 rv => ?_⟩
    refine ⟨P, F1, p.2, env1, (k F1 H1 Step.refl).bind.mono fun q F2 H2 st2 k2 xs env2 rvs => ?_⟩
    exact (k2 F2 H2 Step.refl).now (x :: xs) env2 (.cons (rv.mono st2) rvs)
/-! ### displays -/
omit ok in
/-- a tuple's display: the object has no dict -/
theorem pe_tupD {es : List Expr} {x1 : Nat} {ta : TA} (h : PA X es ta) : PE X (.Tuple es x1 pos) (fun σ H Q => ta σ H fun xs H1 => xs.length ≤ sizeLine ∧ ∀ p o, H1 p = none → o.dict = none → Q (.ref p) (upd H1 p (.frz o (.tup xs)))) := by
  refine ⟨fun pins sh σ H Q I hq => ?_⟩
  refine wpAny_Tuple_spliced (thn (h.run pos pins sh σ H _ I hq) fun us s1 ⟨xs, H1, I1, r, z, q⟩ => ⟨by rw [← r.length]; exact z, ?_⟩)
  have hf : H1 s1.heap.objs.size = none := I1.hok.fresh (Nat.le_refl _)
  refine ⟨.ref s1.heap.objs.size, _, I1.laid (t' := s1.toks) (o := .frz { cls := .type "tuple", data := .seq us.toArray } (.tup xs)) (fun b u e => Heap.get?_push_of_some _ e) (Nat.le_refl _) ?_, rfl, q _ _ hf rfl⟩
  exact ⟨Heap.get?_push_size _ rfl, z, us, r, ⟨_, Heap.get?_push_size _ rfl, rfl, _, rfl⟩⟩
theorem d_tup {es : List Expr} {ts : List E} {x1 : Nat} (hs : DEs s X es ts) : DE s X (.Tuple es x1 pos) (.tup ts) := by
  have h : PE X (.Tuple es x1 pos) (TEv s (.tup ts)) := peI (pe_tupD hs.pa) fun σ H Q ⟨P, F, ρ, env, a⟩ => by
    simp only [evE] at a
    refine ⟨P, F, ρ, env, a.bind.mono fun p F1 H1 st k xs env1 rvs => ?_⟩
    have k1 := k F1 H1 Step.refl
    split at k1
    · rename_i hz
      exact ⟨by rw [← rvs.length]; exact sz_le hz, fun a o ha ho => fin_new k1 env1 _ _ (NewR.tup ho ha rvs)⟩
    · exact k1.elim
  exact ⟨h, peOpd h (by intros; simp), peTst h (fun _ => rfl), fun _ _ => rfl, fun _ _ _ z => by cases z⟩
theorem d_lst {es : List Expr} {ts : List E} (hs : DEs s X es ts) : DE s X (.List es pos) (.lst ts) := by
  have h : PE X (.List es pos) (TEv s (.lst ts)) := peI (pe_lst hs.pa) fun σ H Q ⟨P, F, ρ, env, a⟩ => by
    simp only [evE] at a
    refine ⟨P, F, ρ, env, a.bind.mono fun p F1 H1 st k xs env1 rvs => ?_⟩
    have k1 := k F1 H1 Step.refl
    split at k1
    · rename_i hz
      exact ⟨by rw [← rvs.length]; exact sz_le hz, fun a ha => fin_new k1 env1 _ _ (NewR.lst ha rvs)⟩
    · exact k1.elim
  exact ⟨h, peOpd h (by intros; simp), peTst h (fun _ => rfl), fun _ _ => rfl, fun _ _ _ z => by cases z⟩
/-! ### built-ins -/
theorem ev_bi {b : Bi} {ts : List E} (σ : L2.St) (H : Hp) (Q : VK) (h : TEv s (.bi b ts) σ H Q) : tCB (rVn s.g (biV b)) (TBs s ts) σ H Q := by
  obtain ⟨P, F, ρ, env, a⟩ := h
  simp only [evE] at a
  refine ⟨P, F, ρ, env, a.bind.mono fun p F1 H1 st k xs env1 os => ?_⟩
  obtain ⟨us, g1, k4⟩ := (k F1 H1 Step.refl).get (rdOs_ne _ _)
  obtain ⟨w, g3, k5⟩ := k4.get (biV_ne _ _)
  exact ⟨F1, us, w, os.rd env1 g1, g3, fin_new k5 env1⟩
def bikN : BiK → Str
  | .fn n => n
  | .ty n => n
theorem d_bi {b : Bi} {x : Str} {p : Pos} {es : List Expr} {ts : List E} (hb : notIsi b = true) (hs : DEs s X (e1 :: es) (t1 :: ts)) (hg : Gl X x) (hm : X.mg x = none) (hv : bootBuiltins x = some (bikV (bik b))) (hn : x ≠ "__name__") (hd : (x == ("__debug__" : Str)) = false) :
    DE s X (.Call (.Name x p) (e1 :: es) [] pos) (.bi b (t1 :: ts)) := by
  have hc := bi_ok (g := s.g) (X := X) ok.K ok.calm (ok.cl (by omega)) b hb
  have h : PE X (.Call (.Name x p) (e1 :: es) [] pos) (TEv s (.bi b (t1 :: ts))) := by
    cases hs with
    | cons h1 r =>
      cases hk : bik b with
      | fn n =>
        rw [hk] at hc hv
        exact peI (pe_callB hc hg hm hv (DEs.cons h1 r).pb hn hd (h1.star _ _) (r.plain _ _)) (ev_bi ok)
      | ty n =>
        rw [hk] at hc hv
        exact peI (pe_callTy hc hg hm hv (DEs.cons h1 r).pb hn hd (h1.star _ _) (r.plain _ _)) (ev_bi ok)
  exact ⟨h, peOpd h (by intros; simp), peTst h (fun _ => rfl), fun _ _ => rfl, fun _ _ _ z => by cases z⟩
end
end EV
set_option Elab.async false
set_option linter.all false
set_option autoImplicit false
set_option maxRecDepth 100000
/-! Calls. -/
namespace EV
open PySem PySem.Spec PyProof.Rows L2
/-- a def's arguments: io: the first is a list of the caller's own that goes in and out -/
def ArgsR (g : GE) (P F : AS) (H : Hp) (io : Bool) (us : List PV) (xs : List V) : Prop :=
  if io = true then ∃ v a us' xs', us = v :: us' ∧ xs = .ref a :: xs' ∧ OAt g F H v a ∧ ¬ F a ∧ ¬ P a ∧ RVs g F H us' xs' else RVs g F H us xs
/-- its result -/
def RetR (g : GE) (P F : AS) (H : Hp) (io : Bool) (xs : List V) (r : VO × PV) (x : V) : Prop :=
  ((r.1.2 = false ∧ RV g F H r.1.1 x) ∨ (r.1.2 = true ∧ ∃ b, x = .ref b ∧ ¬ F b ∧ ¬ P b ∧ OAt g F H r.1.1 b ∧ (io = true → xs.head? ≠ some (.ref b)))) ∧
  (io = true → ∃ a, xs.head? = some (.ref a) ∧ ¬ F a ∧ OAt g F H r.2 a)
def spF (g : GE) (call : CallT) (f np : Nat) : Sp := fun xs H Q E => xs.length = np ∧ ∃ (io : Bool) (P F : AS) (us : List PV),
  (∀ a, P a → H a ≠ none) ∧ (∀ a, F a → H a ≠ none) ∧ ArgsR g P F H io us xs ∧
  Ans g E P F H (call f io us) fun r F' H' => (∀ a, F' a → H' a ≠ none) → ∀ x, RetR g P F' H' io xs r x → Q x H'
/-- the def f, as one may call it -/
structure FOk (s : SX) (k f : Nat) : Prop where
  ex : ∃ (fd : FuncData) (ps : List Str), ps.length = s.np f ∧ FnOk s.g.P s.g.w s.g.K s.g.mg s.g.base (L2.CX s.g.P s.g.w) k (s.g.fa f) fd ps (spF s.g s.call f (s.np f)) ∧ PySem.W.keepIn s.g.K (.ref (s.g.fa f)) = true ∧ Binds s.g.K fd ps []
section
variable {C : SC} {s : SX} {k : Nat} {X : Cx} {e e1 e2 e3 : Expr} {t t1 t2 t3 : E} {pos : Pos}
theorem CX.mono {P : Program} {w : World} {outer : List PySem.Env} {H : Hp} {sh : Shared} {E E' : XK} {u : Value} {s' : Shared} (h : L2.CX P w outer H sh E u s') (i : ∀ c d H, E c d H → E' c d H) : L2.CX P w outer H sh E' u s' := by
  obtain ⟨a, B, H', cls, d, r1, r2, r3, r4, r5, r6, r7, r8⟩ := h
  exact ⟨a, B, H', cls, d, r1, r2, r3, r4, r5, r6, r7, i _ _ _ r8⟩
variable (ok : Ok C s k X)
include ok
/-- what a callee lets out is taken here -/
theorem Ok.pass (σ : L2.St) : PassesAt (L2.CX X.prog X.w) X σ s.W := fun pins H sh e s' I c => passAt ok.tk σ pins H sh e s' I (CX.mono c fun c d H w => ⟨I.len, w⟩)
theorem Ok.fn {f : Nat} (h : FOk s k f) : ∃ (fd : FuncData) (ps : List Str), ps.length = s.np f ∧ FnOk X.prog X.w X.K X.mg X.base (L2.CX X.prog X.w) k (s.g.fa f) fd ps (spF s.g s.call f (s.np f)) ∧ PySem.W.keepIn X.K (.ref (s.g.fa f)) = true ∧ Binds X.K fd ps [] := by
  rw [ok.pr, ok.w, ok.K, ok.mg, ok.base]
  exact h.ex
omit ok
section
variable {f : Nat} {fd : FuncData} {ps : List Str} {x : Str} {p : Pos} {es : List Expr} {ts : List E} {sp : Sp} {W : XK} {Rn : L2.St → Hp → Prop} {ta : TA}
/-- the name reads as the def -/
def NmR (X : Cx) (x : Str) (p : Pos) (f : Addr) (Rn : L2.St → Hp → Prop) : Prop :=
  ∀ (pins : List (Addr × Obj)) (sh : Shared) (σ : L2.St) (H : Hp), Inv X pins σ H sh → Rn σ H → wpAny (model X.prog X.w) X.A (eval (.Name x p) X.env) (fun u s1 => u = .ref f ∧ Inv X pins σ H s1) X.xe sh
theorem pe_callC (hs : DEs s X (e1 :: es) (t1 :: ts)) (F : FnOk X.prog X.w X.K X.mg X.base (L2.CX X.prog X.w) k (s.g.fa f) fd ps sp) (hk : PySem.W.keepIn X.K (.ref (s.g.fa f)) = true) (hb : Binds X.K fd ps [])
    (hr : Room k X.A) (hx : ∀ σ, PassesAt (L2.CX X.prog X.w) X σ W) (ha : PA X (e1 :: es) ta) (hn : NmR X x p (s.g.fa f) Rn) : PE X (.Call (.Name x p) (e1 :: es) [] pos) (fun σ H Q => Rn σ H ∧ ta σ H fun vs H1 => sp vs H1 Q W) := by
  refine ⟨fun pins sh σ H Q I h => ?_⟩
  obtain ⟨h1, h2⟩ := h
  refine wpAny_Call_Name_kw (thn (hn pins sh σ H I h1) fun u s1 ⟨eu, I1⟩ => ?_)
  subst eu
  cases hs with
  | cons h r =>
    refine PySem.W.callWith_K (h₀ := X.base) I1.ok.mod.kin hk (thn (ha.run pos pins s1 σ H _ I1 h2) fun us s2 ⟨vs, H2, I2, r2, q⟩ => ⟨I2.kIn, ?_⟩) (h.star _ _) (r.plain _ _)
    exact run_fnS (E := fun _ => W) F hr hb (hx σ) I2 r2 q
theorem pe_callC0 (F : FnOk X.prog X.w X.K X.mg X.base (L2.CX X.prog X.w) k (s.g.fa f) fd ps sp) (hk : PySem.W.keepIn X.K (.ref (s.g.fa f)) = true) (hb : Binds X.K fd ps [])
    (hr : Room k X.A) (hx : ∀ σ, PassesAt (L2.CX X.prog X.w) X σ W) (hn : NmR X x p (s.g.fa f) Rn) : PE X (.Call (.Name x p) [] [] pos) (fun σ H Q => Rn σ H ∧ sp [] H Q W) := by
  refine ⟨fun pins sh σ H Q I h => ?_⟩
  obtain ⟨h1, h2⟩ := h
  refine wpAny_Call_Name_kw (thn (hn pins sh σ H I h1) fun u s1 ⟨eu, I1⟩ => ?_)
  subst eu
  exact PySem.W.callWith_K0 I1.kIn hk (run_fnS (us := []) (E := fun _ => W) F hr hb (hx σ) I1 .nil h2)
theorem nm_glob (hg : Gl X x) (hm : X.mg x = some (.ref (s.g.fa f))) (hd : (x == ("__debug__" : Str)) = false) : NmR X x p (s.g.fa f) fun _ _ => True := fun pins sh σ H I _ => ld_glob I hg hm ⟨rfl, I⟩ hd
theorem nm_slot {i : Nat} {a : Addr} (hN : X.N[i]? = some x) (hv : Vis X.env.scope x) (hd : (x == ("__debug__" : Str)) = false) (hcd : (x == ("__classdict__" : Str)) = false) : NmR X x p a fun σ _ => σ[i]? = some (some (.ref a)) := fun pins sh σ H I h =>
  thn ((pe_var (pos := p) hN hv hd hcd).run pins sh σ H (fun v H1 => v = .ref a ∧ H1 = H) I ⟨.ref a, h, rfl, rfl⟩) fun u s1 ⟨v, H1, I1, r1, q1⟩ => by
    obtain ⟨rfl, rfl⟩ := q1
    cases r1
    exact ⟨rfl, I1⟩
end
/-- behind a call, as the caller sees it -/
theorem ret_ev {g : GE} {P F F' : AS} {ρ : EV.Env} {σ : L2.St} {H H' : Hp} {xs : List V} {r : VO × PV} {x : V} (env : REnv g P F ρ σ H) (st : Step (fun a => P a ∨ ownA ρ σ a) F H F' H') (hd : ∀ a, F' a → H' a ≠ none)
    (h : RetR g (fun a => P a ∨ ownA ρ σ a) F' H' false xs r x) : Step P F H F' H' ∧ REnv g P F' ρ σ H' ∧ RRes g P σ F' ρ H' r.1 x := by
  refine ⟨st.weak fun a h => .inl h, env.behind st hd, ?_⟩
  obtain ⟨h | ⟨h, b, e, n1, n2, oa, _⟩, _⟩ := h
  · exact .inl h
  · exact .inr ⟨h, b, e, n1, fun z => n2 (.inl z), oa, notIn_of fun z => n2 (.inr z)⟩
theorem Ans.weakP {α : Type} {g : GE} {W : XK} {P P' F : AS} {H : Hp} {r : Res α} {K : α → AS → Hp → Prop} (h : Ans g W P F H r K) (hp : ∀ a, P a → P' a) : Ans g W P' F H r fun a F' H' => Step P' F H F' H' ∧ K a F' H' := by
  cases r with
  | ok a => exact fun F' H' st => ⟨st, h F' H' (st.weak hp)⟩
  | exc c v => exact fun F' H' cls d st => h F' H' cls d (st.weak hp)
  | bad => exact h
theorem call_sp {f np : Nat} {P F : AS} {H : Hp} {ρ : EV.Env} {σ : L2.St} {us : List PV} {xs : List V} {Q : VK} (env : REnv s.g P F ρ σ H) (rs : RVs s.g F H us xs) (hl : xs.length = np)
    (a : Ans s.g s.W P F H ((s.call f false us).bind fun r => .ok (r.1, ρ)) fun r F' H' => ∀ x, REnv s.g P F' r.2 σ H' → RRes s.g P σ F' r.2 H' r.1 x → Q x H') : spF s.g s.call f np xs H Q s.W := by
  refine ⟨hl, false, fun a => P a ∨ ownA ρ σ a, F, us, env.dPo, env.dF, rs, ?_⟩
  refine ((a.bind).weakP (P' := fun a => P a ∨ ownA ρ σ a) fun a h => .inl h).mono fun r F1 H1 st k hd x rr => ?_
  obtain ⟨st1, k1⟩ := k F1 H1 Step.refl
  obtain ⟨st2, env2, res⟩ := ret_ev env st1 hd rr
  exact k1.now x env2 res
theorem evEs_len {c : CallT} : ∀ {ts : List E} {ρ : EV.Env} {r : List PV × EV.Env}, evEs c ts ρ = .ok r → r.1.length = ts.length
  | [], ρ, r, h => by
    cases h
    rfl
  | t :: ts, ρ, r, h => by
    simp only [evEs] at h
    cases h1 : evE c t ρ with
    | ok p =>
      rw [h1, Res.bind_ok] at h
      cases h2 : evEs c ts p.2 with
      | ok q =>
        rw [h2, Res.bind_ok] at h
        cases h
        simp [evEs_len h2]
      | exc _ _ =>
        rw [h2] at h
        cases h
      | bad =>
        rw [h2] at h
        cases h
    | exc _ _ =>
      rw [h1] at h
      cases h
    | bad =>
      rw [h1] at h
      cases h
/-- what is known of the defs -/
structure Gd (s : SX) (k : Nat) : Prop where
  fo : ∀ f, s.g.dm f → FOk s k f
  ln : ∀ f io us, us.length ≠ s.np f → s.call f io us = .bad
theorem d_call {f : Nat} {x : Str} {p : Pos} {es : List Expr} {ts : List E} (ok : Ok C s k X) (gd : Gd s k) (hf : s.g.dm f) (hg : Gl X x) (hm : X.mg x = some (.ref (s.g.fa f))) (hd : (x == ("__debug__" : Str)) = false) (hs : DEs s X es ts) (hl : ts.length = s.np f) :
    DE s X (.Call (.Name x p) es [] pos) (.call f ts) := by
  obtain ⟨fd, ps, hp, F, hk, hb⟩ := ok.fn (gd.fo f hf)
  have h : PE X (.Call (.Name x p) es [] pos) (TEv s (.call f ts)) := by
    cases hs with
    | nil =>
      refine peI (pe_callC0 (p := p) F hk hb ok.room (fun σ => ok.pass σ) (nm_glob hg hm hd)) fun σ H Q ⟨P, F, ρ, env, a⟩ => ⟨trivial, ?_⟩
      simp only [evE, evEs, Res.bind_ok] at a
      exact call_sp env .nil (by rw [← hl]; rfl) a
    | cons h r =>
      refine peI (pe_callC (p := p) (DEs.cons h r) F hk hb ok.room (fun σ => ok.pass σ) (DEs.cons h r).pa (nm_glob hg hm hd)) fun σ H Q ⟨P, F, ρ, env, a⟩ => ⟨trivial, ?_⟩
      simp only [evE] at a
      refine ⟨P, F, ρ, env, (Ans.bind a).monoE fun q F1 H1 eq st k1 xs env1 rs => ?_⟩
      have k2 := k1 F1 H1 Step.refl
      refine call_sp env1 rs ?_ k2
      rw [← rs.length, ← hl]
      exact evEs_len eq
  exact ⟨h, peOpd h (by intros; simp), peTst h (fun _ => rfl), fun _ _ => rfl, fun _ _ _ z => by cases z⟩
theorem d_callv {i : Nat} {x : Str} {p : Pos} {es : List Expr} {ts : List E} (ok : Ok C s k X) (gd : Gd s k) (hN : X.N[i]? = some x) (hv : Vis X.env.scope x) (hd : (x == ("__debug__" : Str)) = false) (hcd : (x == ("__classdict__" : Str)) = false) (hs : DEs s X (e1 :: es) (t1 :: ts)) :
    DE s X (.Call (.Name x p) (e1 :: es) [] pos) (.callv i (t1 :: ts)) := by
  have h : PE X (.Call (.Name x p) (e1 :: es) [] pos) (TEv s (.callv i (t1 :: ts))) := by
    refine ⟨fun pins sh σ H Q I ⟨P, F, ρ, env, a⟩ => ?_⟩
    simp only [evE] at a
    split at a
    · rename_i f hf
      obtain ⟨o, g1, z, g2, rv⟩ := env.at_ i _ hf
      subst g2
      cases rv with
      | fn hdm =>
        obtain ⟨fd, ps, hp, Fk, hk, hb⟩ := ok.fn (gd.fo f hdm)
        refine (pe_callC (p := p) hs Fk hk hb ok.room (fun σ => ok.pass σ) hs.pa (nm_slot hN hv hd hcd)).run pins sh σ H Q I ⟨g1, P, F, ρ, env, (Ans.bind a).mono fun q F1 H1 st k1 xs env1 rs => ?_⟩
        have k2 := k1 F1 H1 Step.refl
        by_cases hl : xs.length = s.np f
        · exact call_sp env1 rs hl k2
        · rw [gd.ln f false q.1 (by rw [rs.length]; exact hl)] at k2
          exact k2.elim
    · exact a.elim
  exact ⟨h, peOpd h (by intros; simp), peTst h (fun _ => rfl), fun _ _ => rfl, fun _ _ _ z => by cases z⟩
theorem set_same {σ : L2.St} {i : Nat} {o : Option V} (e : σ[i]? = some o) : σ.set i o = σ := by
  apply List.ext_getElem?
  intro j
  by_cases hj : i = j
  · subst hj
    rw [List.getElem?_set_self (List.getElem?_eq_some_iff.mp e).1, e]
  · rw [List.getElem?_set_ne hj]
/-- a slot's own list is changed -/
theorem REnv.putO {g : GE} {P F : AS} {ρ : EV.Env} {σ : L2.St} {H : Hp} {i : Nat} {v : PV} {a : Addr} (env : REnv g P F (ρ.set i .n) σ H) (e : σ[i]? = some (some (.ref a))) (n1 : ¬ F a) (n2 : ¬ P a) (oa : OAt g F H v a) (ni : NotIn (ρ.set i .n) σ a) : REnv g P F (ρ.set i (.o v)) σ H := by
  have q := env.setO (i := i) n1 n2 oa fun j sl hj e1 o => ni j sl e1 o
  rw [List.set_set, set_same e] at q
  exact q
/-- .. and a list of one's own apart from it stays apart -/
theorem NotIn.put {ρ : EV.Env} {σ : L2.St} {i : Nat} {v : PV} {a b : Addr} (ni : NotIn (ρ.set i .n) σ b) (e : σ[i]? = some (some (.ref a))) (hb : a ≠ b) : NotIn (ρ.set i (.o v)) σ b := fun j sl e1 o e2 => by
  by_cases hj : i = j
  · subst hj
    rw [e] at e2
    cases e2
    exact hb rfl
  · rw [List.getElem?_set_ne hj] at e1
    exact ni j sl (by rw [List.getElem?_set_ne hj]; exact e1) o e2
theorem d_callio {f i : Nat} {x y : Str} {p py : Pos} {es : List Expr} {ts : List E} (ok : Ok C s k X) (gd : Gd s k) (hf : s.g.dm f) (hg : Gl X x) (hm : X.mg x = some (.ref (s.g.fa f))) (hd : (x == ("__debug__" : Str)) = false)
    (hN : X.N[i]? = some y) (hv : Vis X.env.scope y) (hdy : (y == ("__debug__" : Str)) = false) (hcd : (y == ("__classdict__" : Str)) = false) (hs : DEs s X es ts) (hl : ts.length + 1 = s.np f) :
    DE s X (.Call (.Name x p) (.Name y py :: es) [] pos) (.callio f i ts) := by
  obtain ⟨fd, ps, hp, Fk, hk, hb⟩ := ok.fn (gd.fo f hf)
  have h : PE X (.Call (.Name x p) (.Name y py :: es) [] pos) (TEv s (.callio f i ts)) := by
    refine peI (pe_callC (p := p) (DEs.cons (d_var (s := s) hN hv hdy hcd) hs) Fk hk hb ok.room (fun σ => ok.pass σ) (pa_cons (pe_var hN hv hdy hcd) hs.pa) (nm_glob hg hm hd)) fun σ H Q ⟨P, F, ρ, env, a⟩ => ⟨trivial, ?_⟩
    simp only [evE] at a
    split at a
    · rename_i v0 h0
      obtain ⟨b, g1, _⟩ := env.take h0
      refine ⟨.ref b, g1, P, F, ρ, env, (Ans.bind a).monoE fun q F1 H1 eq st k1 xs env1 rs => ?_⟩
      have k2 := k1 F1 H1 Step.refl
      split at k2
      · rename_i v hv
        obtain ⟨b', g2, n1, n2, oa, ni⟩ := env1.take hv
        rw [g1] at g2
        cases g2
        have env2 : REnv s.g P F1 (q.2.set i .n) σ H1 := env1.setN
        refine ⟨?_, true, fun a => P a ∨ ownA (q.2.set i .n) σ a, F1, v :: q.1, env2.dPo, env2.dF, ?_, ?_⟩
        · rw [List.length_cons, ← rs.length, evEs_len eq, hl]
        · show if true = true then _ else _
          rw [if_pos rfl]
          exact ⟨v, b, q.1, xs, rfl, rfl, oa, n1, fun z => z.elim n2 fun ⟨j, sl, w1, w2, w3⟩ => ni j sl w1 w2 w3, rs⟩
        · refine ((Ans.bind k2).weakP (P' := fun a => P a ∨ ownA (q.2.set i .n) σ a) fun a h => .inl h).mono fun r F2 H2 st2 k3 hdd x rr => ?_
          obtain ⟨st3, k4⟩ := k3 F2 H2 Step.refl
          have env3 := env2.behind st3 hdd
          obtain ⟨hr, hio⟩ := rr
          obtain ⟨b2, w1, w2, w3⟩ := hio rfl
          cases w1
          have env4 : REnv s.g P F2 (q.2.set i (.o r.2)) σ H2 := env3.putO g1 w2 n2 w3 ni
          refine k4.now x env4 ?_
          rcases hr with hr | ⟨h1, b3, rfl, m1, m2, m3, m4⟩
          · exact .inl hr
          · refine .inr ⟨h1, b3, rfl, m1, fun z => m2 (.inl z), m3, NotIn.put (notIn_of fun z => m2 (.inr z)) g1 fun z => m4 rfl (by rw [z]; rfl)⟩
      · exact k2.elim
    · exact a.elim
  exact ⟨h, peOpd h (by intros; simp), peTst h (fun _ => rfl), fun _ _ => rfl, fun _ _ _ z => by cases z⟩
/-! ### isinstance -/
theorem isi_an {ts : List Ty} {P F : AS} {ρ : EV.Env} {σ : L2.St} {H : Hp} {K : VO × EV.Env → AS → Hp → Prop} {L' : Opd × EV.Env → AS → Hp → V → Prop} (a : Ans s.g s.W P F H (evE s.call (.bi (.isi ts) [t1]) ρ) K)
    (h : ∀ (q : Opd × EV.Env) F1 H1 (x : V), REnv s.g P F1 q.2 σ H1 → OR s.g F1 σ H1 q.1 x → ∀ u, RB s.g F1 H1 u x → u.typed = true → Ans s.g s.W P F1 H1 (.ok ((.bl (ts.any fun t => tyIs t u), false), q.2)) K → L' q F1 H1 x) :
    Ans s.g s.W P F H (opd t1 (evE s.call t1) ρ) fun q F1 H1 => ∀ x, REnv s.g P F1 q.2 σ H1 → OR s.g F1 σ H1 q.1 x → L' q F1 H1 x := by
  simp only [evE, evBs] at a
  refine (a.bind).bind.mono fun q F1 H1 st k1 x env1 ox => ?_
  obtain ⟨us, g1, k2⟩ := ((k1 F1 H1 Step.refl).now).get (rdOs_ne _ _)
  have hr := (ORs.cons ox .nil).rd env1 g1
  cases hr with
  | cons r1 r2 =>
    cases r2
    obtain ⟨w, g2, k3⟩ := k2.get (biV_ne _ _)
    simp only [biV] at g2
    split at g2
    · rename_i ht
      cases g2
      exact h q F1 H1 x env1 ox _ r1 ht k3
    · cases g2
theorem d_isi1 {x : Str} {p p2 : Pos} {ty : Ty} (ok : Ok C s k X) (hg : Gl X x) (hm : X.mg x = none) (hv : bootBuiltins x = some (.builtin "isinstance")) (hn : x ≠ "__name__") (hd : (x == ("__debug__" : Str)) = false) (h1 : DE s X e1 t1)
    {y : Str} (hg2 : Gl X y) (hm2 : X.mg y = none) (hv2 : bootBuiltins y = some (.type (tyN ty))) (hn2 : y ≠ "__name__") (hd2 : (y == ("__debug__" : Str)) = false) :
    DE s X (.Call (.Name x p) [e1, .Name y p2] [] pos) (.bi (.isi [ty]) [t1]) := by
  have h : PE X (.Call (.Name x p) [e1, .Name y p2] [] pos) (TEv s (.bi (.isi [ty]) [t1])) := by
    refine peI (pe_callB call_isi hg hm hv (pa_cons h1.opr (pa_cons (pe_bltn (v := .ty (tyN ty)) hg2 hm2 hv2 rfl hn2 hd2) pa_nil rfl) (h1.star _ _)) hn hd (h1.star _ _) rfl) fun σ H Q ⟨P, F, ρ, env, a⟩ => ?_
    refine ⟨P, F, ρ, env, isi_an a fun q F1 H1 x env1 ox u hu ht k2 => ?_⟩
    refine ⟨x, .ty (tyN ty), .type (pvTn u), .type (tyN ty), tyIs ty u, rfl, .ty _, ?_, kit_ty X.K u ht ty, ?_⟩
    · rw [ok.K]
      exact tyX_of hu ht
    · have e : ([ty].any fun t => tyIs t u) = tyIs ty u := by simp
      rw [e] at k2
      exact k2.now (.bl (tyIs ty u)) env1 (.inl ⟨rfl, .bl _⟩)
  exact ⟨h, peOpd h (by intros; simp), peTst h (fun _ => rfl), fun _ _ => rfl, fun _ _ _ z => by cases z⟩
/-- isinstance(x, (c1, c2, ..)) -/
inductive TyEs (X : Cx) : List Expr → List Ty → Prop
  | nil : TyEs X [] []
  | cons {y : Str} {p : Pos} {ty : Ty} {es : List Expr} {ts : List Ty} (hg2 : Gl X y) (hm2 : X.mg y = none) (hv2 : bootBuiltins y = some (.type (tyN ty))) (hn2 : y ≠ "__name__") (hd2 : (y == ("__debug__" : Str)) = false) (r : TyEs X es ts) : TyEs X (.Name y p :: es) (ty :: ts)
def tTys (ts : List Ty) : TA := fun _ H Q => Q (ts.map fun t => V.ty (tyN t)) H
theorem TyEs.pa {es : List Expr} {ts : List Ty} (h : TyEs X es ts) : PA X es (tTys ts) := by
  induction h with
  | nil => exact pa_nil
  | cons hg2 hm2 hv2 hn2 hd2 r ih => exact pa_cons (pe_bltn (v := .ty _) hg2 hm2 hv2 rfl hn2 hd2) ih rfl
theorem tys_paired : ∀ ts : List Ty, Paired ClsV (ts.map fun t => V.ty (tyN t)) (ts.map fun t => Value.type (tyN t))
  | [] => .nil
  | t :: ts => .cons (.ty _) (tys_paired ts)
theorem d_isiT {x : Str} {p p2 : Pos} {k2 : Nat} {ts : List Ty} {es : List Expr} (ok : Ok C s k X) (hg : Gl X x) (hm : X.mg x = none) (hv : bootBuiltins x = some (.builtin "isinstance")) (hn : x ≠ "__name__") (hd : (x == ("__debug__" : Str)) = false) (h1 : DE s X e1 t1)
    (hts : TyEs X es ts) (hz : ts.length ≤ 100) : DE s X (.Call (.Name x p) [e1, .Tuple es k2 p2] [] pos) (.bi (.isi ts) [t1]) := by
  have h : PE X (.Call (.Name x p) [e1, .Tuple es k2 p2] [] pos) (TEv s (.bi (.isi ts) [t1])) := by
    refine peI (pe_callB call_isiT hg hm hv (pa_cons h1.opr (pa_cons (L2.pe_tup hts.pa) pa_nil rfl) (h1.star _ _)) hn hd (h1.star _ _) rfl) fun σ H Q ⟨P, F, ρ, env, a⟩ => ?_
    refine ⟨P, F, ρ, env, isi_an a fun q F1 H1 x env1 ox u hu ht k2 => ⟨by rw [List.length_map, sizeLine_eq]; omega, fun tp htp => ?_⟩⟩
    have gr : ∀ b o, H1 b = some o → upd H1 tp (.tup (ts.map fun t => V.ty (tyN t))) b = some o := grow_upd htp
    refine ⟨x, tp, _, .type (pvTn u), _, ts.any fun t => tyIs t u, rfl, upd_same, tys_paired ts, ?_, kit_tys X.K u ht ts, ?_⟩
    · rw [ok.K]
      refine tyX_of (g := s.g) (F := F1) (u := u) ?_ ht
      rcases hu with hu | ⟨b, rfl, hu⟩
      · exact .inl (RV.mono (P := P) (Step.grow gr) hu)
      · exact .inr ⟨b, rfl, hu.mono (P := P) (Step.grow gr) fun o z => gr b o z⟩
    · exact k2.val F1 _ (Step.grow gr) (.bl _) (env1.grow gr) (.inl ⟨rfl, .bl _⟩)
  exact ⟨h, peOpd h (by intros; simp), peTst h (fun _ => rfl), fun _ _ => rfl, fun _ _ _ z => by cases z⟩
/-! ### len(set(x)) -/
theorem ddI_spec : ∀ (ns acc : List Int), acc.Nodup → (ns.foldl (fun acc x => if acc.any (· == x) = true then acc else acc ++ [x]) acc).Nodup ∧ ∀ k, k ∈ ns.foldl (fun acc x => if acc.any (· == x) = true then acc else acc ++ [x]) acc ↔ k ∈ acc ∨ k ∈ ns
  | [], acc, h => ⟨h, fun k => by simp⟩
  | x :: ns, acc, h => by
    rw [List.foldl_cons]
    by_cases hx : x ∈ acc
    · have e : acc.any (· == x) = true := List.any_eq_true.mpr ⟨x, hx, by simp⟩
      rw [if_pos e]
      obtain ⟨h1, h2⟩ := ddI_spec ns acc h
      refine ⟨h1, fun k => ?_⟩
      rw [h2, List.mem_cons]
      constructor
      · rintro (q | q)
        · exact .inl q
        · exact .inr (.inr q)
      · rintro (q | q | q)
        · exact .inl q
        · rw [q]; exact .inl hx
        · exact .inr q
    · have e : ¬ acc.any (· == x) = true := fun z => by
        obtain ⟨y, hy, e⟩ := List.any_eq_true.mp z
        rw [eq_of_beq e] at hy
        exact hx hy
      rw [if_neg e]
      obtain ⟨h1, h2⟩ := ddI_spec ns (acc ++ [x]) (by
        rw [List.nodup_append]
        refine ⟨h, by simp, fun a ha b hb e => ?_⟩
        have : b = x := by simpa using hb
        rw [this] at e
        rw [e] at ha
        exact hx ha)
      refine ⟨h1, fun k => ?_⟩
      rw [h2, List.mem_append, List.mem_singleton, List.mem_cons]
      constructor
      · rintro ((q | q) | q)
        · exact .inl q
        · exact .inr (.inl q)
        · exact .inr (.inr q)
      · rintro (q | q | q)
        · exact .inl (.inl q)
        · exact .inl (.inr q)
        · exact .inr q
theorem ddI_len {ns l : List Int} (nd : l.Nodup) (h : ∀ k, k ∈ l ↔ k ∈ ns) : (ddI ns).length = l.length := by
  obtain ⟨h1, h2⟩ := ddI_spec ns [] List.nodup_nil
  refine List.Perm.length_eq ((List.perm_ext_iff_of_nodup h1 nd).mpr fun k => ?_)
  rw [h2, h k]
  simp
theorem ints_some : ∀ {xs : List PV} {ns : List Int}, ints? xs = some ns → xs = ns.map PV.int
  | [], ns, h => by cases h; rfl
  | x :: xs, ns, h => by
    cases x with
    | int i =>
      simp only [ints?] at h
      cases e : ints? xs with
      | none => rw [e] at h; cases h
      | some m =>
        rw [e] at h
        cases h
        rw [ints_some e]
        rfl
    | _ => simp [ints?] at h
theorem rvs_ints {g : GE} {F : AS} {H : Hp} : ∀ {ns : List Int} {vs : List V}, RVs g F H (ns.map PV.int) vs → vs = ns.map V.int
  | [], _, h => by cases h; rfl
  | n :: ns, _, h => by
    cases h with
    | cons r t =>
      cases r
      rw [rvs_ints t]
      rfl
theorem lens_inv {u : PV} {z : VO} (h : biV .lens [u] = .ok z) : ∃ ns : List Int, (u = .tup (ns.map .int) ∨ u = .lst (ns.map .int)) ∧ ns.length ≤ 1000 ∧ z = (.int (ddI ns).length, false) := by
  cases u with
  | tup xs =>
    have h : (match ints? xs with | some ns => if ns.length ≤ 1000 then Res.ok (PV.int (ddI ns).length, false) else .bad | none => .bad) = .ok z := h
    cases e : ints? xs with
    | none => rw [e] at h; cases h
    | some ns =>
      rw [e] at h
      by_cases hl : ns.length ≤ 1000
      · simp only [hl, if_true] at h
        cases h
        exact ⟨ns, .inl (by rw [ints_some e]), hl, rfl⟩
      · simp only [hl, if_false] at h
        cases h
  | lst xs =>
    have h : (match ints? xs with | some ns => if ns.length ≤ 1000 then Res.ok (PV.int (ddI ns).length, false) else .bad | none => .bad) = .ok z := h
    cases e : ints? xs with
    | none => rw [e] at h; cases h
    | some ns =>
      rw [e] at h
      by_cases hl : ns.length ≤ 1000
      · simp only [hl, if_true] at h
        cases h
        exact ⟨ns, .inr (by rw [ints_some e]), hl, rfl⟩
      · simp only [hl, if_false] at h
        cases h
  | _ => cases h
theorem ints_are : ∀ {ns : List Int} {us : List Value}, Vals (ns.map V.int) us → IntsAre us ns
  | [], _, .nil => .nil
  | n :: ns, _, .cons r t => by
    obtain ⟨tk, rfl⟩ := r
    exact .cons n tk (ints_are t)
theorem trg3_inv {us : List PV} {z : VO} (h : biV .trg3 us = .ok z) : ∃ a b : Int, us = [.int a, .int b, .int (-1)] ∧ inR a ∧ inR b ∧ (a - b).toNat ≤ 1000 ∧ z = (.tup (dnL a b), false) := by
  unfold biV at h
  split at h
  all_goals first
    | (rename_i hh; cases hh; done)
    | skip
  · rename_i a b c _
    split at h
    · rename_i hb
      obtain ⟨rfl, h1, h2, h3⟩ := hb
      cases h
      exact ⟨a, b, rfl, h1, h2, h3, rfl⟩
    · cases h
  all_goals (cases h)
theorem dn_rvs {g : GE} {F : AS} {H : Hp} (a b : Int) : RVs g F H (dnL a b) ((List.range (a - b).toNat).map fun k => V.int (a - (k : Nat))) := by
  unfold dnL
  induction List.range (a - b).toNat with
  | nil => exact .nil
  | cons n ns ih => exact .cons (.int _) ih
theorem vals_dn {a b : Int} {acc : Array Value} (h : ItemsOf (fun i v => ∃ t, v = .int (a + i * (-1)) t) acc (a - b).toNat) : Vals ((List.range (a - b).toNat).map fun k => V.int (a - (k : Nat))) acc.toList := by
  have e : acc.toList.length = (a - b).toNat := by rw [Array.length_toList]; exact h.1
  rw [← e]
  refine vals_of_get acc.toList _ fun j u hj => ?_
  obtain ⟨t, rfl⟩ := h.2 j u (by rw [← hj, Array.getElem?_toList])
  exact ⟨t, by
    have e : a + (j : Int) * (-1) = a - (j : Nat) := by omega
    rw [e]⟩
theorem rbs_cons {g : GE} {F : AS} {H : Hp} {u : PV} {us : List PV} {xs : List V} (h : RBs g F H (u :: us) xs) : ∃ x : V × List V, RB g F H u x.1 ∧ RBs g F H us x.2 ∧ xs = x.1 :: x.2 := by
  cases h with
  | cons r t => exact ⟨(_, _), r, t, rfl⟩
theorem d_trg3 {p p2 q : Pos} (ok : Ok C s k X) (hg : Gl X "tuple") (hm : X.mg "tuple" = none) (hg2 : Gl X "range") (hm2 : X.mg "range" = none) (h1 : DE s X e1 t1) (h2 : DE s X e2 t2) (h3 : DE s X e3 t3) :
    DE s X (.Call (.Name "tuple" p) [.Call (.Name "range" p2) [e1, e2, e3] [] q] [] pos) (.bi .trg3 [t1, t2, t3]) := by
  have hd : DEs s X [e1, e2, e3] [t1, t2, t3] := .cons h1 (.cons h2 (.cons h3 .nil))
  have hd2 : DEs s X [e2, e3] [t2, t3] := .cons h2 (.cons h3 .nil)
  have h : PE X (.Call (.Name "tuple" p) [.Call (.Name "range" p2) [e1, e2, e3] [] q] [] pos) (TEv s (.bi .trg3 [t1, t2, t3])) := by
    refine ⟨fun pins sh σ H Q I w => ?_⟩
    have w2 := ev_bi ok σ H Q w
    refine Call_ (ld_blt I hg hm boot_tuple ?_)
    refine PyProof.Rows.callWith_type1 (PyProof.Rows.args_cons ?_ rfl) rfl rfl
    refine Call_ (ld_blt (I.tok _) hg2 hm2 boot_range ?_)
    refine PyProof.Rows.callWith_type1 (thn (hd.pb.run q pins _ σ H _ (I.tok _) w2) fun us s1 ⟨vs, H1, I1, r1, q1⟩ => ?_) (h1.star _ _) (hd2.plain _ _)
    obtain ⟨F, xs, z, rb, e, q2⟩ := q1
    obtain ⟨a, b, rfl, ha, hb, hl, rfl⟩ := trg3_inv e
    obtain ⟨⟨x, xs2⟩, rx, rb2, rfl⟩ := rbs_cons rb
    clear rb
    dsimp only at rb2 rx
    obtain ⟨y, z, rfl, ry, rz⟩ := rb2.two
    cases rx.int
    cases ry.int
    cases rz.int
    cases r1 with
    | cons r rr =>
      cases rr with
      | cons r' rr =>
        cases rr with
        | cons r'' rr =>
          cases rr
          obtain ⟨t, rfl⟩ := r
          obtain ⟨t', rfl⟩ := r'
          obtain ⟨t'', rfl⟩ := r''
          have rc := RgC.neg ha.1 ha.2 hb.1 hb.2
          refine call_range_3 rc.1 (PyProof.Rows.args_nil ?_) (.inl (PyProof.noPylong_small rc.2.1))
          have hh : X.A.handled = none := I1.ok.hd ok.calm
          have I2 : Inv X pins σ H1 { s1 with heap := s1.heap.push { cls := .type "range", data := .fields #[.int a t, .int b t', .int (-1) t''] } } := I1.kept (t' := s1.toks) fun b o e => Heap.get?_push_of_some _ e
          refine call_tuple_range (n := (a - b).toNat) hh (IsRange.new ..) rc.2.2.1 rc.2.2.2 (by omega) fun h' tk acc hk hi' => ?_
          have I3 := I2.kept (t' := tk) hk
          have q3 := tupEP (t' := tk) (h' := h') (its := acc.toList) (Q := Q) I3 (fun _ _ e => e) (vals_dn hi') (by rw [List.length_map, List.length_range, sizeLine_eq]; omega) (dn_rvs a b) q2
          rw [Array.toArray_toList] at q3
          exact q3
  exact ⟨h, peOpd h (by intros; simp), peTst h (fun _ => rfl), fun _ _ => rfl, fun _ _ _ z => by cases z⟩
theorem d_lens {p p2 q : Pos} (ok : Ok C s k X) (hg : Gl X "len") (hm : X.mg "len" = none) (hg2 : Gl X "set") (hm2 : X.mg "set" = none) (h1 : DE s X e1 t1) :
    DE s X (.Call (.Name "len" p) [.Call (.Name "set" p2) [e1] [] q] [] pos) (.bi .lens [t1]) := by
  have h : PE X (.Call (.Name "len" p) [.Call (.Name "set" p2) [e1] [] q] [] pos) (TEv s (.bi .lens [t1])) := by
    refine ⟨fun pins sh σ H Q I w => ?_⟩
    refine Call_ (ld_blt I hg hm boot_len ?_)
    refine PyProof.Rows.callWith_builtin1 (PyProof.Rows.args_cons ?_ rfl) rfl rfl
    refine Call_ (ld_blt I hg2 hm2 PyProof.Rows.boot_set ?_)
    have w' : TOv s t1 σ H fun x H1 => ∃ (ns : List Int) (a : Addr), x = .ref a ∧ (SqL s.g.K H1 a (ns.map V.int) ∨ SqT s.g.K H1 a (ns.map V.int)) ∧ ns.length ≤ 1000 ∧ Q (.int (ddI ns).length) H1 := by
      obtain ⟨P, F, ρ, env, a⟩ := w
      simp only [evE, evBs] at a
      refine ⟨P, F, ρ, env, (a.bind).bind.mono fun qq F1 H1 st k1 x env1 ox => ?_⟩
      obtain ⟨us, g1, k2⟩ := ((k1 F1 H1 Step.refl).now).get (rdOs_ne _ _)
      have hr := (ORs.cons ox .nil).rd env1 g1
      cases hr with
      | cons r1 r2 =>
        cases r2
        obtain ⟨z, g2, k3⟩ := k2.get (biV_ne _ _)
        obtain ⟨ns, hu, hz, rfl⟩ := lens_inv g2
        have k4 := k3.now (.int (ddI ns).length) env1 (.inl ⟨rfl, .int _⟩)
        rcases hu with rfl | rfl
        · obtain ⟨b, vs, rfl, h2, h3⟩ := r1.tup
          rw [rvs_ints h3] at h2
          exact ⟨ns, b, rfl, .inr h2.sq, hz, k4⟩
        · obtain ⟨b, vs, rfl, h2, h3⟩ := r1.lst
          rw [rvs_ints h3] at h2
          exact ⟨ns, b, rfl, .inl (SqL.of h2), hz, k4⟩
    refine PyProof.Rows.callWith_type1 (PyProof.Rows.args_cons (thn (h1.opr.run pins sh σ H _ I w') fun v s1 ⟨x, H1, I1, rv1, ns, a, ex, hq, hz, q1⟩ => PyProof.Rows.args_nil ?_) (h1.star _ _)) (h1.star _ _) rfl
    subst ex
    cases rv1
    have hh : X.A.handled = none := I1.ok.hd ok.calm
    rw [← ok.K] at hq
    rcases hq with hq | hq
    · obtain ⟨its, r, pl, _⟩ := I1.list hq
      have hlen : its.toArray.size = ns.length := by rw [List.size_toArray, ← r.length, List.length_map]
      refine call_set_list hh pl.isList (ns := ns) (by simpa using ints_are r) (by rw [hlen]; unfold scanBound; omega) fun h' tk hS hk => PyProof.Rows.args_nil ?_
      have er : (List.range ns.length).map (fun i => ns.getD i 0) = ns := by
        apply List.ext_getElem
        · simp
        · intro i h1 h2
          simp [h2]
      have hd1 : PyProof.Rows.firstMet (fun i => ns.getD i 0) its.toArray.size = ddI ns := by
        rw [hlen]
        show ((List.range ns.length).map fun i => ns.getD i 0).foldl PyProof.Rows.step_dedup [] = _
        rw [er]
        rfl
      rw [hd1] at hS
      obtain ⟨o, es, ep, t, ho, hex, hd, _, _, _, hf, hn⟩ := hS
      have I2 : Inv X pins σ H1 { s1 with heap := h', toks := tk } := I1.kept fun b o e => hk b o (Heap.lt_size e) e
      have hz2 : es.size ≤ 1000 := by
        rw [hn, ← hd1]
        exact Nat.le_trans (PyProof.Rows.firstMet_length_le _ _) (by rw [hlen]; exact hz)
      exact PySem.call_len_set ho hex hd hf (by omega) ⟨.int es.size, H1, I2.tok _, ⟨_, rfl⟩, by rw [hn]; exact q1⟩
    · obtain ⟨its, r, pl, _⟩ := I1.tuple hq
      have hlen : its.toArray.size = ns.length := by rw [List.size_toArray, ← r.length, List.length_map]
      refine call_set_tupI ns hh pl (by simpa using ints_are r) (by unfold scanBound; omega) fun h' tk c hS hc hk => PyProof.Rows.args_nil ?_
      obtain ⟨o, es, ep, t, ho, hex, hd, _, nd, mem, _, hf, hn, _⟩ := hS
      have I2 : Inv X pins σ H1 { s1 with heap := h', toks := tk } := I1.kept hk
      have el : (ddI ns).length = es.size := by
        rw [ddI_len nd fun k => ?_]
        · simp
        · rw [← mem k]
          simp
      exact PySem.call_len_set ho hex hd hf (by omega) ⟨.int es.size, H1, I2.tok _, ⟨_, rfl⟩, by rw [← el]; exact q1⟩
  exact ⟨h, peOpd h (by intros; simp), peTst h (fun _ => rfl), fun _ _ => rfl, fun _ _ _ z => by cases z⟩
end
end EV
set_option Elab.async false
set_option linter.all false
set_option autoImplicit false
set_option maxRecDepth 100000
/-! Methods. -/
namespace EV
open PySem PySem.Spec PyProof.Rows L2
section
variable {C : SC} {s : SX} {k : Nat} {X : Cx} {e e1 e2 e3 : Expr} {t t1 t2 t3 : E} {pos : Pos}
theorem DEs.all {es : List Expr} {ts : List E} (h : DEs s X es ts) (pos : Pos) (env : PySem.Env) : (backTo pos (starEach es env)).all (fun x => !x.1) = true := by
  induction h with
  | nil => rfl
  | cons h r ih =>
    rw [h.star]
    show (true && (backTo pos (starEach _ env)).all (fun x => !x.1)) = true
    rw [ih]
    rfl
theorem DEs.few {es : List Expr} {ts : List E} (h : DEs s X es ts) (hl : es.length < 29) (cpos : Pos) (env : PySem.Env) :
    ((backTo cpos (starEach es env)).all (fun x => !x.1) && (backToKw cpos (keywordEach [] env)).all (fun x => x.1.isSome) && decide (es.length + ([] : List Keyword).length + (if ([] : List Keyword).isEmpty then 0 else 1) < 30)) = true := by
  rw [h.all]
  have e : decide (es.length + ([] : List Keyword).length + (if ([] : List Keyword).isEmpty then 0 else 1) < 30) = true := by
    simp
    omega
  rw [e]
  rfl
/-- a call of a method of a built-in type, the type known at the receiver -/
theorem meth_run {es : List Expr} {ts : List E} {name : Str} {cpos : Pos} {T id : String} {pins : List (Addr × Obj)} {sh : Shared} {σ : L2.St} {H : Hp} {v : Value} {x : V} {Q : VK} {ta : TA} {R : V → List V → Hp → VK → Prop} (pa : PlainAttrs T) (slot : PySem.Slot T name id)
    (hty : typeOf (.builtin id) = pure (.type "method_descriptor")) (hs : DEs s X (e1 :: es) (t1 :: ts)) (ha : PA X (e1 :: es) ta) (I : Inv X pins σ H sh) (h1 : sh.TypeIs v T) (h2 : ∀ a, v = .ref a → ∃ ob, sh.heap.get? a = some ob ∧ ob.dict = none)
    (hq : ta σ H fun xs H2 => R x xs H2 Q) (hm : ∀ (s2 : Shared) (H2 : Hp) (xs : List V) (us : List Value), Inv X pins σ H2 s2 → Vals xs us → R x xs H2 Q → wpAny (model X.prog X.w) X.A (call (.builtin id) (v :: us)) (EP X pins σ Q) X.xe s2) :
    ∃ T id, PlainAttrs T ∧ PySem.Slot T name id ∧ typeOf (.builtin id) = pure (.type "method_descriptor") ∧ sh.TypeIs v T ∧ (∀ a, v = .ref a → ∃ ob, sh.heap.get? a = some ob ∧ ob.dict = none) ∧
      wpAny (model X.prog X.w) X.A (callWith cpos (.builtin id) [v] (backTo cpos (starEach (e1 :: es) X.env)) []) (EP X pins σ Q) X.xe sh := by
  refine ⟨T, id, pa, slot, hty, h1, h2, ?_⟩
  have hA := ha.run cpos pins sh σ H _ I hq
  cases hs with
  | cons h r =>
    rw [h.star] at hA ⊢
    refine Calls.callWith_builtin (by show (false || (backTo cpos (starEach es X.env)).any (·.1)) = false; rw [r.plain] <;> rfl) (Calls.evalArgs_plain ?_)
    exact thn hA fun us s2 ⟨vs, H2, I2, r2, q2⟩ => hm s2 H2 vs us I2 r2 q2
/-- the type of a list or tuple -/
theorem rb_type {g : GE} (hK : X.K = g.K) {F : AS} {H : Hp} {u : PV} {x : V} {v : Value} {pins : List (Addr × Obj)} {sh : Shared} {σ : L2.St} (h : RB g F H u x) (I : Inv X pins σ H sh) (r : RelV x v) (hk : u.kd = 1 ∨ u.kd = 2) :
    sh.TypeIs v (kdT u.kd) ∧ ∀ a, v = .ref a → ∃ ob, sh.heap.get? a = some ob ∧ ob.dict = none := by
  cases u with
  | tup xs =>
    obtain ⟨a, vs, rfl, h1, _⟩ := h.tup
    cases r
    rcases h1 with ⟨o, h1, hd⟩ | ⟨o, its, n, h1, hc, hd, _⟩
    · obtain ⟨ho, _, its, _, o', e1, hc, _⟩ := I.hok a _ h1
      rw [ho] at e1
      cases e1
      exact ⟨⟨o, ho, hc⟩, fun b e => by cases e; exact ⟨o, ho, hd⟩⟩
    · rw [← hK] at h1
      exact ⟨⟨o, I.kIn a o h1, hc⟩, fun b e => by cases e; exact ⟨o, I.kIn a o h1, hd⟩⟩
  | lst xs =>
    obtain ⟨a, vs, rfl, h1, _⟩ := h.lst
    cases r
    obtain ⟨its, n, _, ho, _⟩ := I.lst h1
    exact ⟨⟨_, ho, rfl⟩, fun b e => by cases e; exact ⟨_, ho, rfl⟩⟩
  | _ => rcases hk with hk | hk <;> cases hk
theorem d_me {m : Me} {name : Str} {apos : Pos} {es : List Expr} {ts : List E} (ok : Ok C s k X) (h0 : DE s X e t) (hs : DEs s X (e1 :: es) (t1 :: ts)) (hl : (e1 :: es).length < 29) (hbase : attributeBase e name X.env (eval e X.env) = eval e X.env) (hline : (apos.endLine == pos.line) = true) (hn : name = meN m) :
    DE s X (.Call (.Attribute e name apos) (e1 :: es) [] pos) (.me m t (t1 :: ts)) := by
  subst hn
  have h : PE X (.Call (.Attribute e (meN m) apos) (e1 :: es) [] pos) (TEv s (.me m t (t1 :: ts))) := by
    refine ⟨fun pins sh σ H Q I ⟨P, F, ρ, env, a⟩ => ?_⟩
    simp only [evE] at a
    refine wpAny_Call_method_late hbase (hs.few hl _ _) hline rfl (thn (h0.opr.run pins sh σ H (fun x H1 => ∃ (F1 : AS) (p : Opd × EV.Env) (u : PV), REnv s.g P F1 p.2 σ H1 ∧ OR s.g F1 σ H1 p.1 x ∧ rdO p.1 p.2 = .ok u ∧ RB s.g F1 H1 u x ∧ m.on u.kd = true ∧
      Ans s.g s.W P F1 H1 ((evBs s.call (t1 :: ts) p.2).bind fun q => (rdO p.1 q.2).bind fun x => (rdOs q.1 q.2).bind fun xs => if u.kd = x.kd then (meV m x xs).bind fun r => .ok (r, q.2) else .bad)
        fun r F' H' => ∀ x, REnv s.g P F' r.2 σ H' → RRes s.g P σ F' r.2 H' r.1 x → Q x H') I ⟨P, F, ρ, env, (Ans.bind a).mono fun p F1 H1 st k1 x env1 ox => ?_⟩) fun v s1 ⟨x, H1, I1, r1, F1, p, u, env1, ox, gu, hu, hon, k2⟩ => ?_)
    · obtain ⟨u, g1, k2⟩ := (k1 F1 H1 Step.refl).get (rdO_ne _ _)
      split at k2
      · rename_i hon
        exact ⟨F1, p, u, env1, ox, g1, ox.rd env1 g1, hon, k2⟩
      · exact k2.elim
    · have main : ∀ kk, u.kd = kk → (kk = 1 ∨ kk = 2) → MeR s.g X kk m → PlainAttrs (kdT kk) → PySem.Slot (kdT kk) (meN m) (meId m kk) → typeOf (.builtin (meId m kk)) = pure (.type "method_descriptor") →
          ∃ T id, PlainAttrs T ∧ PySem.Slot T (meN m) id ∧ typeOf (.builtin id) = pure (.type "method_descriptor") ∧ s1.TypeIs v T ∧ (∀ a, v = .ref a → ∃ ob, s1.heap.get? a = some ob ∧ ob.dict = none) ∧
            wpAny (model X.prog X.w) X.A (callWith pos (.builtin id) [v] (backTo pos (starEach (e1 :: es) X.env)) []) (EP X pins σ Q) X.xe s1 := by
        intro kk hkk hk12 hme hpa hsl hty
        obtain ⟨ty1, ty2⟩ := rb_type ok.K hu I1 r1 (by rw [hkk]; exact hk12)
        rw [hkk] at ty1
        refine meth_run (R := fun x xs H2 Q => ∃ F2 u2 ps w, RB s.g F2 H2 u2 x ∧ RBs s.g F2 H2 ps xs ∧ u2.kd = kk ∧ meV m u2 ps = .ok w ∧ ∀ H' z, NewR s.g F2 H2 H' w z → Q z H') (x := x) hpa hsl hty hs hs.pb I1 ty1 ty2 ?_ ?_
        · refine ⟨P, F1, p.2, env1, (Ans.bind k2).mono fun q F2 H2 st2 k3 xs env2 os => ?_⟩
          obtain ⟨u2, g2, k4⟩ := (k3 F2 H2 Step.refl).get (rdO_ne _ _)
          obtain ⟨ps, g3, k5⟩ := k4.get (rdOs_ne _ _)
          split at k5
          · rename_i hkd
            obtain ⟨w, g4, k6⟩ := k5.get (meV_ne _ _ _)
            exact ⟨F2, u2, ps, w, (ox.mono st2).rd env2 g2, os.rd env2 g3, by rw [← hkd, hkk], g4, fin_new k6 env2⟩
          · exact k5.elim
        · intro s2 H2 xs us I2 rv ⟨F2, u2, ps, w, hu2, hps, hkd, hw, q⟩
          exact hme pins s2 σ H2 x xs v us Q F2 u2 ps w I2 r1 rv hu2 hps hkd hw q
      have hkd : u.kd = 1 ∨ u.kd = 2 := by
        unfold Me.on at hon
        split at hon
        · exact .inl (by assumption)
        · exact .inr (by assumption)
        · cases hon
      rcases hkd with hkd | hkd
      · cases m with
        | index => exact main 1 hkd (.inl rfl) (me_tup ok.K (ok.cl (by omega)) _) PySem.F.plainAttrs_tuple PySem.F.slot_tuple_index PySem.F.type_tuple_index
      · cases m with
        | index => exact main 2 hkd (.inr rfl) (me_lst ok.K (ok.cl (by omega)) _) PySem.F.plainAttrs_list PySem.F.slot_list_index PySem.F.type_list_index
  exact ⟨h, peOpd h (by intros; simp), peTst h (fun _ => rfl), fun _ _ => rfl, fun _ _ _ z => by cases z⟩
/-! ### methods that change a list of one's own -/
theorem mu_fin {m : Mu} {i : Nat} {P F : AS} {σ : L2.St} {H : Hp} {ρ : EV.Env} {a : Addr} {v : PV} {ps : List PV} {xs : List V} {Q : VK} (g1 : σ[i]? = some (some (.ref a))) (env : REnv s.g P F ρ σ H) (hv : ρ[i]? = some (.o v)) (rs : RVs s.g F H ps xs)
    (an : Ans s.g s.W P F H ((muV m v ps).bind fun r => Res.ok ((r.1, false), ρ.set i (.o r.2))) fun r F' H' => ∀ x, REnv s.g P F' r.2 σ H' → RRes s.g P σ F' r.2 H' r.1 x → Q x H') : rMu s.g m (.ref a) xs H Q := by
  obtain ⟨b, g2, n1, n2, oa, ni⟩ := env.take hv
  rw [g1] at g2
  cases g2
  obtain ⟨w, e1, k1⟩ := an.get (muV_ne _ _ _)
  refine ⟨F, a, v, ps, w, rfl, oa, n1, rs, e1, fun ws z hw e2 rz => ?_⟩
  obtain ⟨w1, w2⟩ := w
  cases e2
  have hne : ∀ b o, b ≠ a → H b = some o → upd H a (.lst ws.2) b = some o := fun b o hb q => by
    rw [upd_ne hb]
    exact q
  have hl : ∃ vs, H a = some (.lst vs) := by
    cases v with
    | lst xs =>
      obtain ⟨vs, h1, _⟩ := oa
      exact ⟨vs, h1⟩
    | dic ks vs => cases m <;> simp [muV] at e1
    | _ => exact oa.elim
  obtain ⟨vs0, hl⟩ := hl
  have st : Step P F H F (upd H a (.lst ws.2)) := by
    refine ⟨fun _ q => q, fun b o f q => hne b o (fun z => n1 (z ▸ f)) q, fun b o p q => hne b o (fun z => n2 (z ▸ p)) q, fun b o so q => hne b o (fun z => ?_) q, fun _ q => .inl q⟩
    subst z
    rw [hl] at q
    cases q
    exact so
  have env2 : REnv s.g P F (ρ.set i .n) σ (upd H a (.lst ws.2)) := by
    refine (env.setN (i := i)).mono st (fun b f => .inl f) (fun j sl b o e ow e3 q => hne b o (fun z => ?_) q) fun b f => ?_
    · subst z
      exact ni j sl e ow e3
    · obtain ⟨o, ho⟩ : ∃ o, H b = some o := by
        cases q : H b with
        | none => exact absurd q (env.dF b f)
        | some o => exact ⟨o, rfl⟩
      rw [hne b o (fun z => n1 (z ▸ f)) ho]
      simp
  have oa2 : OAt s.g F (upd H a (.lst ws.2)) (.lst ws.1) a := ⟨ws.2, upd_same, hw.mono st⟩
  exact k1.val F _ st z (env2.putO g1 n1 n2 oa2 ni) (.inl ⟨rfl, RV.mono st rz⟩)
theorem d_mu {m : Mu} {i : Nat} {name x : Str} {apos p : Pos} {es : List Expr} {ts : List E} (ok : Ok C s k X) (hs : DEs s X (e1 :: es) (t1 :: ts)) (hl : (e1 :: es).length < 29) (hline : (apos.endLine == pos.line) = true) (hn : name = muN m)
    (hN : X.N[i]? = some x) (hv : Vis X.env.scope x) (hd : (x == ("__debug__" : Str)) = false) (hcd : (x == ("__classdict__" : Str)) = false) :
    DE s X (.Call (.Attribute (.Name x p) name apos) (e1 :: es) [] pos) (.mu m i (t1 :: ts)) := by
  subst hn
  have h : PE X (.Call (.Attribute (.Name x p) (muN m) apos) (e1 :: es) [] pos) (TEv s (.mu m i (t1 :: ts))) := by
    refine ⟨fun pins sh σ H Q I ⟨P, F, ρ, env, a⟩ => ?_⟩
    simp only [evE] at a
    split at a
    · rename_i xs0 h0
      obtain ⟨b, g1, _, _, oa, _⟩ := env.take h0
      refine wpAny_Call_method_late rfl (hs.few hl _ _) hline rfl (thn ((pe_var (pos := p) hN hv hd hcd).run pins sh σ H (fun v H1 => v = .ref b ∧ H1 = H) I ⟨.ref b, g1, rfl, rfl⟩) fun v s1 ⟨x1, H1, I1, r1, ex, eH⟩ => ?_)
      subst ex eH
      obtain ⟨vs, ho, _⟩ := oa
      obtain ⟨its, n, _, hob, _⟩ := I1.lst ho
      cases r1
      have main : PySem.Slot "list" (muN m) (muId m) → typeOf (.builtin (muId m)) = pure (.type "method_descriptor") → ∃ T id, PlainAttrs T ∧ PySem.Slot T (muN m) id ∧ typeOf (.builtin id) = pure (.type "method_descriptor") ∧ s1.TypeIs (.ref b) T ∧ (∀ a, Value.ref b = .ref a → ∃ ob, s1.heap.get? a = some ob ∧ ob.dict = none) ∧
            wpAny (model X.prog X.w) X.A (callWith pos (.builtin id) [.ref b] (backTo pos (starEach (e1 :: es) X.env)) []) (EP X pins σ Q) X.xe s1 := fun hsl hty => by
        refine meth_run (R := rMu s.g m) (x := .ref b) PySem.F.plainAttrs_list hsl hty hs hs.pa I1 ⟨_, hob, rfl⟩ (fun a e => by cases e; exact ⟨_, hob, rfl⟩) ?_ fun s2 H2 xs us I2 rv q => mu_ok m pins s2 σ H2 (.ref b) xs (.ref b) us Q I2 rfl rv q
        refine ⟨P, F, ρ, env, (Ans.bind a).mono fun q F2 H2 st2 k3 xs env2 rs => ?_⟩
        have k4 := k3 F2 H2 Step.refl
        split at k4
        · rename_i v hv2
          exact mu_fin g1 env2 hv2 rs k4
        · exact k4.elim
      cases m with
      | append => exact main PySem.F.slot_list_append PySem.F.type_list_append
      | extend => exact main PySem.F.slot_list_extend PySem.F.type_list_extend
      | pop => exact main PySem.F.slot_list_pop PySem.F.type_list_pop
      | popAt => exact main PySem.F.slot_list_pop PySem.F.type_list_pop
    · exact a.elim
  exact ⟨h, peOpd h (by intros; simp), peTst h (fun _ => rfl), fun _ _ => rfl, fun _ _ _ z => by cases z⟩
theorem d_mu0 {i : Nat} {x : Str} {apos p : Pos} (ok : Ok C s k X) (hline : (apos.endLine == pos.line) = true)
    (hN : X.N[i]? = some x) (hv : Vis X.env.scope x) (hd : (x == ("__debug__" : Str)) = false) (hcd : (x == ("__classdict__" : Str)) = false) :
    DE s X (.Call (.Attribute (.Name x p) "pop" apos) [] [] pos) (.mu .pop i []) := by
  have h : PE X (.Call (.Attribute (.Name x p) "pop" apos) [] [] pos) (TEv s (.mu .pop i [])) := by
    refine ⟨fun pins sh σ H Q I ⟨P, F, ρ, env, a⟩ => ?_⟩
    simp only [evE, evEs, Res.bind_ok] at a
    split at a
    · rename_i xs0 h0
      obtain ⟨b, g1, _, _, oa, _⟩ := env.take h0
      refine wpAny_Call_method0_late rfl hline (thn ((pe_var (pos := p) hN hv hd hcd).run pins sh σ H (fun v H1 => v = .ref b ∧ H1 = H) I ⟨.ref b, g1, rfl, rfl⟩) fun v s1 ⟨x1, H1, I1, r1, ex, eH⟩ => ?_)
      subst ex eH
      obtain ⟨vs, ho, _⟩ := oa
      obtain ⟨its, n, _, hob, _⟩ := I1.lst ho
      cases r1
      refine ⟨"list", "list.pop", PySem.F.plainAttrs_list, PySem.F.slot_list_pop, PySem.F.type_list_pop, ⟨_, hob, rfl⟩, (fun a e => by cases e; exact ⟨_, hob, rfl⟩), Calls.callWith_builtin rfl (PySem.evalArgs_none ?_)⟩
      split at a
      · rename_i v hv2
        exact mu_ok .pop pins s1 σ H1 (.ref b) [] (.ref b) [] Q I1 rfl .nil (mu_fin g1 env hv2 .nil a)
      · exact a.elim
    · exact a.elim
  exact ⟨h, peOpd h (by intros; simp), peTst h (fun _ => rfl), fun _ _ => rfl, fun _ _ _ z => by cases z⟩
end
end EV
set_option Elab.async false
set_option linter.all false
set_option autoImplicit false
set_option maxRecDepth 100000
/-! What loops and comprehensions walk. -/
namespace EV
open PySem PySem.Spec PyProof.Rows L2
open PySem.AutoSeq1 (wpAny_loadPart')
/-! ### enumerate of a tuple -/
theorem drawsTup {prog : Program} {w : World} {A : Around} (hh : A.handled = none) (it l : Addr) (hne : l ≠ it) (items : Array Value) :
    Draws prog w A it [it, l] items.size (fun i v => items[i]? = some v) (fun i h => h.IsTupleIter it l i ∧ h.IsTuple l items) where
  live := fun _ _ st => let ⟨o, ho, _⟩ := st.1; ⟨o, ho⟩
  frame := fun _ _ _ st hk => ⟨st.1.at fun o e => hk it (by simp) o e, st.2.at fun o e => hk l (by simp) o e⟩
  item := fun i s Q E hi st hQ => by
    refine RZ.nextOf_tuple_item st.1 st.2 (x := items[i]) (by simp [hi]) fun h2 hit2 hs2 => ?_
    exact hQ _ h2 s.toks (by simp [hi]) ⟨hit2, st.2.at fun o e => (hs2.2 l hne).trans e⟩ hs2
  done := fun s Q E st hE => RZ.nextOf_tuple_end hh st.1 st.2 (by simp) hE
theorem meets_enumT (l : Addr) (items : Array Value) (n : Nat) (dct : Option Addr) (sl : Array (Option Value)) :
    Meets (Builtin.«enumerate.__new__» ⟨[.type "enumerate", .ref l], []⟩) (fun _ R s => s.heap.get? l = some { cls := .type "tuple", dict := dct, data := .seq items n, slots := sl } ∧
      R (.ok (.ret (.ref (s.heap.push { cls := .type "tuple_iterator", data := .fields #[.ref l, .int 0 0] }).objs.size)))
        { s with heap := (s.heap.push { cls := .type "tuple_iterator", data := .fields #[.ref l, .int 0 0] }).push { cls := .type "enumerate", data := .fields #[.none, .bool false, .ref s.heap.objs.size, rawInt 0, .none, .none] } }) :=
  .of_wp fun prog w A R s h => by
    obtain ⟨hp, g, d, tk, os⟩ := s
    obtain ⟨hl, h⟩ := h
    have hsub := sub_enumerate
    have hT : Heap.IsTuple (Shared.heap ⟨hp, g, d, tk, os⟩) l items := ⟨_, hl, rfl, n, rfl⟩
    wp_walk using wpAny_loadPart' hl
    refine wpAny_stack_any fun st => wpAny_pure ?_
    split
    · rename_i c _ _ _ _ _
      cases (c == Value.type "enumerate")
      · wp_walk using wpAny_loadPart' hl, wpAny_pyIter_tuple hT
        exact ⟨_, rfl, h⟩
      · wp_walk using wpAny_loadPart' hl, wpAny_pyIter_tuple hT
        exact ⟨_, rfl, h⟩
    · wp_walk using wpAny_loadPart' hl, wpAny_pyIter_tuple hT
      exact ⟨_, rfl, h⟩
theorem call_enumT {prog : Program} {w : World} {A : Around} {E : Value → Shared → Prop} {s : Shared} {l : Addr} {items : Array Value} {Q : Value → Shared → Prop} (hL : s.heap.IsTuple l items)
    (h : ∀ h', IsEnum h' (s.heap.objs.size + 1) s.heap.objs.size 0 .none → h'.IsTupleIter s.heap.objs.size l 0 → h'.objs.size = s.heap.objs.size + 2 → (∀ b o, s.heap.get? b = some o → h'.get? b = some o) → Q (.ref (s.heap.objs.size + 1)) { s with heap := h' }) :
    wpAny (model prog w) A (call (.type "enumerate") [.ref l]) Q E s := by
  obtain ⟨⟨c, dct, dt, sl⟩, hl, hc, n, hd⟩ := hL
  simp only at hc hd
  subst hc hd
  refine callType_new F.called_enumerate (by decide) (F.typeCall_enumerate_1 _) (F.newCall_enumerate_1 _) (fun obj => F.args_object_init_2 obj _) F.entry_enumerate_new (meets_enumT l items n dct sl) ⟨hl, ?_⟩
  have hz : (s.heap.push { cls := .type "tuple_iterator", data := .fields #[.ref l, .int 0 0] }).objs.size = s.heap.objs.size + 1 := Heap.size_push ..
  show _ ∧ _
  rw [hz]
  have he : IsEnum ((s.heap.push { cls := .type "tuple_iterator", data := .fields #[.ref l, .int 0 0] }).push { cls := .type "enumerate", data := .fields #[.none, .bool false, .ref s.heap.objs.size, rawInt 0, .none, .none] }) (s.heap.objs.size + 1) s.heap.objs.size 0 .none := by
    have z := Heap.get?_push_size (s.heap.push { cls := .type "tuple_iterator", data := .fields #[.ref l, .int 0 0] }) (o := { cls := .type "enumerate", data := .fields #[.none, .bool false, .ref s.heap.objs.size, rawInt 0, .none, .none] }) rfl
    rw [hz] at z
    exact z
  exact ⟨⟨_, he, rfl⟩, h _ he ⟨_, Heap.get?_push_of_some _ (Heap.get?_push_size _ rfl), rfl, rfl⟩ (by rw [Heap.size_push, hz]) fun b o x => Heap.get?_push_of_some _ (Heap.get?_push_of_some _ x)⟩
/-- the tuple at a, each item in a new pair -/
def IteT (K : PySem.W.Frag) (a : Addr) : It :=
  ⟨fun i H => ∃ (xs : List V) (x : V), SqT K H a xs ∧ xs[i]? = some x, fun i H v H' => ∃ T x, v = .ref T ∧ H T = none ∧ H' = upd H T (.tup [.int (i : Nat), x]) ∧ ∀ xs, SqT K H a xs → xs[i]? = some x, fun i H => ∃ xs : List V, SqT K H a xs ∧ xs.length ≤ i⟩
theorem turn_enumT {P : Program} {w : World} {K : PySem.W.Frag} {elts : List Expr} {kk : Nat} {tpos : Pos} (a e it : Addr) (hae : a ≠ e) (hai : a ≠ it) :
    Turn P w K (.Tuple elts kk tpos) (IteT K a) [e, it] e (fun i h => (∃ old, IsEnum h e it ((i : Nat) : Int) old) ∧ h.IsTupleIter it a i ∧ e ≠ it) where
  mem := by simp
  obj := fun i h st b hb => by
    obtain ⟨⟨old, he⟩, ⟨o, ho, hc, hd⟩, _⟩ := st
    have e2 : b = e ∨ b = it := by simpa using hb
    rcases e2 with z | z
    · subst z
      exact ⟨_, he, fun v q => nomatch q⟩
    · subst z
      exact ⟨o, ho, fun v q => by rw [hd] at q; cases q⟩
  keep := fun i h h' st k => let ⟨⟨old, he⟩, hi, hne⟩ := st; ⟨⟨old, k e (by simp) _ he⟩, hi.at fun o q => k it (by simp) o q, hne⟩
  item := by
    intro X hP hw hK hc i pins s σ H E I hf st hg
    subst hP hw hK
    obtain ⟨⟨old, he⟩, hit, hne⟩ := st
    obtain ⟨xs, x, hq, hx⟩ := hg
    obtain ⟨its, rv, tp, hz⟩ := I.tuple hq
    obtain ⟨u, hu, ru⟩ := rv.get hx
    have hel : e < s.heap.objs.size := Heap.lt_size he
    have hil : it < s.heap.objs.size := by
      obtain ⟨_, q, _⟩ := hit
      exact Heap.lt_size q
    have hil2 : i < its.toArray.size := by
      have := (List.getElem?_eq_some_iff.mp hu).1
      simpa using this
    have hfp : e ∉ [it, a] := by simp only [List.mem_cons, List.not_mem_nil, or_false, not_or]; exact ⟨hne, fun z => hae z.symm⟩
    refine wpAny_pyNext_enum_itemD (drawsTup (A := X.A.in1) (I.ok.hd hc) it a hai its.toArray) he ⟨hit, tp⟩ hil2 hne hfp fun x2 h' tk hx2 ho hit2 hT hsz hk => ?_
    have ex : x2 = u := by
      have hu2 : its.toArray[i]? = some u := by simpa using hu
      rw [hu2] at hx2
      exact (Option.some.inj hx2).symm
    subst ex
    refine ⟨_, rfl, wpAny_letOwnedTupleGo_enum (s := { s with heap := h', toks := tk + 1 }) ho fun h'' he2 sb => ?_⟩
    have hT2 : h''.get? s.heap.objs.size = some { cls := .type "tuple", data := .seq #[.int i tk, x2] } := (sb.2 _ (Nat.ne_of_gt hel)).trans hT
    have new : ObjOk X.prog X.w (upd H s.heap.objs.size (.tup [.int (i : Nat), x])) h'' s.heap.objs.size (.tup [.int (i : Nat), x]) :=
      ⟨by show 2 ≤ sizeLine; decide, [.int i tk, x2], .cons ⟨_, rfl⟩ (.cons ru .nil), ⟨_, hT2, rfl, _, rfl⟩⟩
    have I1 : Inv X pins σ (upd H s.heap.objs.size (.tup [.int (i : Nat), x])) { s with heap := h'', toks := tk + 1 } :=
      I.turnedNew (ch := [e, it]) (fun b ob hb q => (sb.2 b (fun z => hb (by simp [z]))).trans (hk b ob (fun z => hb (by simp [z])) (fun z => hb (by simp [z])) q)) hf (Nat.le_refl _) new
    refine ⟨.ref s.heap.objs.size, _, I1, rfl, ⟨_, x, rfl, I.hok.fresh (Nat.le_refl _), rfl, fun ys hy => by rw [I.tuple_inj hy hq]; exact hx⟩, ⟨⟨x2, ?_⟩, hit2.1.at fun o q => (sb.2 it (Ne.symm hne)).trans q, hne⟩, fun b hb => ?_⟩
    · have e1 : ((i + 1 : Nat) : Int) = (i : Int) + 1 := by omega
      rw [e1]
      exact he2
    · have hb2 : b < s.heap.objs.size := by
        have e2 : b = e ∨ b = it := by simpa using hb
        rcases e2 with z | z
        · rw [z]; exact hel
        · rw [z]; exact hil
      rw [upd_ne (Nat.ne_of_lt hb2)]
      exact (hf b hb).1
  done := by
    intro X hP hw hK hc i pins s σ H E I hf st hg
    subst hP hw hK
    obtain ⟨⟨old, he⟩, hit, hne⟩ := st
    obtain ⟨xs, hq, hx⟩ := hg
    obtain ⟨its, rv, tp, hz⟩ := I.tuple hq
    obtain ⟨f0, f1, f2, f3, f4, f5⟩ := hf it (by simp)
    have hl := rv.length
    have hT : s.TypeIs (.ref e) "enumerate" := ⟨_, he, rfl⟩
    unfold pyNext
    refine wpAny_bind (wpAny_attempt (wpAny_callSpecial?_slot (name := Str.ofString "__next__") hT F.slot_enumerate_next (wpAny_call_entry F.slot_enumerate_next hT F.entry_enumerate_next ?_ (F.args_enumerate_next_1 _))))
    show wpAny _ _ (field (.ref e) 2 >>= _) _ _ _
    refine wpAny_bind (wpAny_field he rfl (x := .ref it) rfl ?_)
    refine wpAny_bind (RZ.nextOf_tuple_end (A := X.A.in1) (I.ok.hd hc) hit tp (by simp; omega) fun h' x1 he' hx' => ?_)
    obtain ⟨o, ho, hc'⟩ := hx'
    refine wpAny_bind (wpAny_isInstance (T := "StopIteration") (b := true) ⟨o, ho, hc'⟩ isSubtype_stop ?_)
    exact wpAny_pure ⟨rfl, I.turned (t' := s.toks) (fun b o hb q => he' b o hb q) f0 f1 f3 f4 f5⟩
  self := fun A i s Q E st h => let ⟨⟨_, he⟩, _⟩ := st; wpAny_pyIter_enum he h
/-! ### items -/
/-- an item that is walked: a shared value, or a pair laid for the turn -/
def RI (g : GE) (pr : Bool) (F : AS) (H : Hp) (v : PV) (x : V) : Prop := RV g F H v x ∨ pr = true ∧ ∃ xs a vs, v = .tup xs ∧ x = .ref a ∧ SqT g.K H a vs ∧ RVs g F H xs vs
/-- a source: shared, or a list of one's own that is protected -/
def SR (g : GE) (P F : AS) (H : Hp) (v : PV) (x : V) : Prop := RV g F H v x ∨ ∃ a, x = .ref a ∧ P a ∧ OAt g F H v a
inductive SRs (g : GE) (P F : AS) (H : Hp) : List PV → List V → Prop
  | nil : SRs g P F H [] []
  | cons {v : PV} {vs : List PV} {x : V} {xs : List V} : SR g P F H v x → SRs g P F H vs xs → SRs g P F H (v :: vs) (x :: xs)
section
variable {g : GE} {pr : Bool} {P F F' : AS} {H H' : Hp} {v : PV} {x : V} {us : List PV} {xs : List V} {ws : List PV} {a b : Addr}
theorem SR.mono (h : SR g P F H v x) (st : Step P F H F' H') : SR g P F' H' v x := by
  rcases h with h | ⟨a, e, p, h⟩
  · exact .inl (RV.mono st h)
  · exact .inr ⟨a, e, p, h.mono st fun o q => st.kP a o p q⟩
theorem SRs.mono (h : SRs g P F H us xs) (st : Step P F H F' H') : SRs g P F' H' us xs := by
  induction h with
  | nil => exact .nil
  | cons h _ ih => exact .cons (h.mono st) ih
theorem SR.rb (h : SR g P F H v x) : RB g F H v x := by
  rcases h with h | ⟨a, e, _, h⟩
  · exact .inl h
  · exact .inr ⟨a, e, h⟩
theorem SRs.one {u : PV} (h : SRs g P F H [u] xs) : ∃ x, xs = [x] ∧ SR g P F H u x := by
  cases h with
  | cons r t =>
    cases t
    exact ⟨_, rfl, r⟩
theorem SRs.two {u w : PV} (h : SRs g P F H [u, w] xs) : ∃ x y, xs = [x, y] ∧ SR g P F H u x ∧ SR g P F H w y := by
  cases h with
  | cons r t =>
    obtain ⟨y, rfl, r2⟩ := t.one
    exact ⟨_, _, rfl, r, r2⟩
theorem SRs.three {u w z : PV} (h : SRs g P F H [u, w, z] xs) : ∃ x y t, xs = [x, y, t] ∧ SR g P F H u x ∧ SR g P F H w y ∧ SR g P F H z t := by
  cases h with
  | cons r t =>
    obtain ⟨y, t, rfl, r2, r3⟩ := t.two
    exact ⟨_, _, _, rfl, r, r2, r3⟩
theorem RVs.back {vs : List V} {i : Nat} (h : RVs g F H us vs) (e : vs[i]? = some x) : ∃ v, us[i]? = some v ∧ RV g F H v x := by
  have hi : i < us.length := by
    rw [h.length]
    exact (List.getElem?_eq_some_iff.mp e).1
  obtain ⟨y, e2, r⟩ := h.get (List.getElem?_eq_getElem hi)
  rw [e] at e2
  cases e2
  exact ⟨_, List.getElem?_eq_getElem hi, r⟩
/-- what is walked, by the sources' facts G -/
structure Wk (g : GE) (pr : Bool) (J : It) (ws : List PV) (G : AS → Hp → Prop) : Prop where
  go : ∀ i F H, G F H → i < ws.length → J.go i H
  stop : ∀ F H, G F H → J.stop ws.length H
  yld : ∀ i F H x H', G F H → i < ws.length → J.yld i H x H' → ∃ v, ws[i]? = some v ∧ (∀ b o, H b = some o → H' b = some o) ∧ RI g pr F H' v x
theorem wk_list : Wk g pr (Itl g.K a) ws fun F H => SR g P F H (.lst ws) (.ref a) := by
  have at_ : ∀ {F H}, SR g P F H (.lst ws) (.ref a) → ∃ vs, H a = some (.lst vs) ∧ RVs g F H ws vs := fun h => by
    obtain ⟨a', vs, e, h1, r⟩ := h.rb.lst
    cases e
    exact ⟨vs, h1, r⟩
  refine ⟨fun i F H h hi => ?_, fun F H h => ?_, fun i F H x H' h hi y => ?_⟩
  · obtain ⟨vs, h1, r⟩ := at_ h
    obtain ⟨z, e, _⟩ := r.get (List.getElem?_eq_getElem hi)
    exact ⟨vs, z, SqL.of h1, e⟩
  · obtain ⟨vs, h1, r⟩ := at_ h
    exact ⟨vs, SqL.of h1, by rw [r.length]; exact Nat.le_refl _⟩
  · obtain ⟨vs, h1, r⟩ := at_ h
    obtain ⟨rfl, y⟩ := y
    obtain ⟨v, e, rv⟩ := r.back (y vs (SqL.of h1))
    exact ⟨v, e, fun _ _ q => q, .inl rv⟩
theorem wk_tup : Wk g pr (Itt g.K a) ws fun F H => SR g P F H (.tup ws) (.ref a) := by
  have at_ : ∀ {F H}, SR g P F H (.tup ws) (.ref a) → ∃ vs, SqT g.K H a vs ∧ RVs g F H ws vs := fun h => by
    obtain ⟨a', vs, e, h1, r⟩ := h.rb.tup
    cases e
    exact ⟨vs, h1.sq, r⟩
  refine ⟨fun i F H h hi => ?_, fun F H h => ?_, fun i F H x H' h hi y => ?_⟩
  · obtain ⟨vs, h1, r⟩ := at_ h
    obtain ⟨z, e, _⟩ := r.get (List.getElem?_eq_getElem hi)
    exact ⟨vs, z, h1, e⟩
  · obtain ⟨vs, h1, r⟩ := at_ h
    exact ⟨vs, h1, by rw [r.length]; exact Nat.le_refl _⟩
  · obtain ⟨vs, h1, r⟩ := at_ h
    obtain ⟨rfl, y⟩ := y
    obtain ⟨v, e, rv⟩ := r.back (y vs h1)
    exact ⟨v, e, fun _ _ q => q, .inl rv⟩
theorem wk_str {t : List Nat} {G : AS → Hp → Prop} : Wk g pr (Its (toS t)) (t.map fun c => PV.str [c]) G := by
  refine ⟨fun i F H h hi => ?_, fun F H h => ?_, fun i F H x H' h hi y => ?_⟩
  · show i < (toS t).cps.size
    simpa using hi
  · show (toS t).cps.size ≤ _
    simp
  · obtain ⟨rfl, c, e, rfl⟩ := y
    have e2 : t[i]? = some c := by simpa using e
    exact ⟨.str [c], by rw [List.getElem?_map, e2]; rfl, fun _ _ q => q, .inl (.str [c])⟩
theorem rngL_len (lo hi : Int) : (rngL lo hi).length = (hi - lo).toNat := by simp [rngL]
theorem wk_rng {lo hi : Int} {G : AS → Hp → Prop} : Wk g pr (Itr lo (hi - lo).toNat) (rngL lo hi) G := by
  refine ⟨fun i F H h hi => ?_, fun F H h => ?_, fun i F H x H' h hi y => ?_⟩
  · rw [rngL_len] at hi
    exact hi
  · rw [rngL_len]
    exact Nat.le_refl _
  · obtain ⟨rfl, rfl⟩ := y
    rw [rngL_len] at hi
    refine ⟨.int (lo + i), ?_, fun _ _ q => q, .inl (.int _)⟩
    unfold rngL
    rw [List.getElem?_map, List.getElem?_range hi]
    rfl
theorem dnL_len (lo hi : Int) : (dnL lo hi).length = (lo - hi).toNat := by simp [dnL]
theorem wk_dn {lo hi : Int} {G : AS → Hp → Prop} : Wk g pr (Itc lo (-1) (lo - hi).toNat) (dnL lo hi) G := by
  refine ⟨fun i F H h hi => ?_, fun F H h => ?_, fun i F H x H' h hi y => ?_⟩
  · rw [dnL_len] at hi
    exact hi
  · rw [dnL_len]
    exact Nat.le_refl _
  · obtain ⟨rfl, rfl⟩ := y
    rw [dnL_len] at hi
    refine ⟨.int (lo - i), ?_, fun _ _ q => q, .inl ?_⟩
    · unfold dnL
      rw [List.getElem?_map, List.getElem?_range hi]
      rfl
    · have e : lo + (i : Nat) * (-1 : Int) = lo - (i : Nat) := by omega
      rw [e]
      exact .int _
theorem RI.pair {T : Addr} {p q : PV} {y z : V} (h : H T = none) (r1 : RV g F H p y) (r2 : RV g F H q z) : (∀ b o, H b = some o → upd H T (.tup [y, z]) b = some o) ∧ RI g true F (upd H T (.tup [y, z])) (.tup [p, q]) (.ref T) := by
  have gr := grow_upd (o := .tup [y, z]) h
  have st : Step (fun _ => False) F H F (upd H T (.tup [y, z])) := Step.grow gr
  exact ⟨gr, .inr ⟨rfl, [p, q], T, [y, z], rfl, rfl, SqT.of upd_same, .cons (RV.mono st r1) (.cons (RV.mono st r2) .nil)⟩⟩
theorem enum_get {xs : List PV} {i : Nat} {v : PV} (h : xs[i]? = some v) : (xs.zipIdx.map fun p => PV.tup [.int (p.2 : Nat), p.1])[i]? = some (.tup [.int (i : Nat), v]) := by
  rw [List.getElem?_map, List.getElem?_zipIdx, h]
  simp
theorem wk_enumL : Wk g true (Ite g.K a) (ws.zipIdx.map fun p => PV.tup [.int (p.2 : Nat), p.1]) fun F H => SR g P F H (.lst ws) (.ref a) := by
  have at_ : ∀ {F H}, SR g P F H (.lst ws) (.ref a) → ∃ vs, H a = some (.lst vs) ∧ RVs g F H ws vs := fun h => by
    obtain ⟨a', vs, e, h1, r⟩ := h.rb.lst
    cases e
    exact ⟨vs, h1, r⟩
  refine ⟨fun i F H h hi => ?_, fun F H h => ?_, fun i F H x H' h hi y => ?_⟩
  · obtain ⟨vs, h1, r⟩ := at_ h
    have hi2 : i < ws.length := by simpa using hi
    obtain ⟨z, e, _⟩ := r.get (List.getElem?_eq_getElem hi2)
    exact ⟨vs, z, SqL.of h1, e⟩
  · obtain ⟨vs, h1, r⟩ := at_ h
    exact ⟨vs, SqL.of h1, by simp [r.length]⟩
  · obtain ⟨vs, h1, r⟩ := at_ h
    obtain ⟨T, z, rfl, hT, rfl, y⟩ := y
    obtain ⟨v, e, rv⟩ := r.back (y vs (SqL.of h1))
    obtain ⟨g1, g2⟩ := RI.pair hT (.int (i : Nat)) rv
    exact ⟨_, enum_get e, g1, g2⟩
theorem wk_enumT : Wk g true (IteT g.K a) (ws.zipIdx.map fun p => PV.tup [.int (p.2 : Nat), p.1]) fun F H => SR g P F H (.tup ws) (.ref a) := by
  have at_ : ∀ {F H}, SR g P F H (.tup ws) (.ref a) → ∃ vs, SqT g.K H a vs ∧ RVs g F H ws vs := fun h => by
    obtain ⟨a', vs, e, h1, r⟩ := h.rb.tup
    cases e
    exact ⟨vs, h1.sq, r⟩
  refine ⟨fun i F H h hi => ?_, fun F H h => ?_, fun i F H x H' h hi y => ?_⟩
  · obtain ⟨vs, h1, r⟩ := at_ h
    have hi2 : i < ws.length := by simpa using hi
    obtain ⟨z, e, _⟩ := r.get (List.getElem?_eq_getElem hi2)
    exact ⟨vs, z, h1, e⟩
  · obtain ⟨vs, h1, r⟩ := at_ h
    exact ⟨vs, h1, by simp [r.length]⟩
  · obtain ⟨vs, h1, r⟩ := at_ h
    obtain ⟨T, z, rfl, hT, rfl, y⟩ := y
    obtain ⟨v, e, rv⟩ := r.back (y vs h1)
    obtain ⟨g1, g2⟩ := RI.pair hT (.int (i : Nat)) rv
    exact ⟨_, enum_get e, g1, g2⟩
theorem zip_get {us ws : List PV} {i : Nat} {u v : PV} (h1 : us[i]? = some u) (h2 : ws[i]? = some v) : ((us.zip ws).map fun p => PV.tup [p.1, p.2])[i]? = some (.tup [u, v]) := by
  have e : (us.zip ws)[i]? = some (u, v) := List.getElem?_zip_eq_some.mpr ⟨h1, h2⟩
  rw [List.getElem?_map, e]
  rfl
theorem wk_zipL {us : List PV} : Wk g true (Itz g.K a b) ((us.zip ws).map fun p => PV.tup [p.1, p.2]) fun F H => SR g P F H (.lst us) (.ref a) ∧ SR g P F H (.lst ws) (.ref b) := by
  have at_ : ∀ {ws : List PV} {a : Addr} {F H}, SR g P F H (.lst ws) (.ref a) → ∃ vs, H a = some (.lst vs) ∧ RVs g F H ws vs := fun h => by
    obtain ⟨a', vs, e, h1, r⟩ := h.rb.lst
    cases e
    exact ⟨vs, h1, r⟩
  refine ⟨fun i F H h hi => ?_, fun F H h => ?_, fun i F H x H' h hi y => ?_⟩
  · obtain ⟨vs, h1, r⟩ := at_ h.1
    obtain ⟨vs2, h2, r2⟩ := at_ h.2
    have hi2 : i < us.length ∧ i < ws.length := by
      simp only [List.length_map, List.length_zip] at hi
      omega
    obtain ⟨z, e, _⟩ := r.get (List.getElem?_eq_getElem hi2.1)
    obtain ⟨z2, e2, _⟩ := r2.get (List.getElem?_eq_getElem hi2.2)
    exact ⟨vs, vs2, z, z2, SqL.of h1, SqL.of h2, e, e2⟩
  · obtain ⟨vs, h1, r⟩ := at_ h.1
    obtain ⟨vs2, h2, r2⟩ := at_ h.2
    refine ⟨vs, vs2, SqL.of h1, SqL.of h2, ?_⟩
    simp only [List.length_map, List.length_zip, r.length, r2.length]
    omega
  · obtain ⟨vs, h1, r⟩ := at_ h.1
    obtain ⟨vs2, h2, r2⟩ := at_ h.2
    obtain ⟨T, y1, y2, rfl, hT, rfl, q1, q2⟩ := y
    obtain ⟨v, e, rv⟩ := r.back (q1 vs (SqL.of h1))
    obtain ⟨v2, e2, rv2⟩ := r2.back (q2 vs2 (SqL.of h2))
    obtain ⟨g1, g2⟩ := RI.pair hT rv rv2
    exact ⟨_, zip_get e e2, g1, g2⟩
theorem wk_zipT {us : List PV} : Wk g true (RZ.ItzT g.K a b) ((us.zip ws).map fun p => PV.tup [p.1, p.2]) fun F H => SR g P F H (.tup us) (.ref a) ∧ SR g P F H (.tup ws) (.ref b) := by
  have at_ : ∀ {ws : List PV} {a : Addr} {F H}, SR g P F H (.tup ws) (.ref a) → ∃ vs, SqT g.K H a vs ∧ RVs g F H ws vs := fun h => by
    obtain ⟨a', vs, e, h1, r⟩ := h.rb.tup
    cases e
    exact ⟨vs, h1.sq, r⟩
  refine ⟨fun i F H h hi => ?_, fun F H h => ?_, fun i F H x H' h hi y => ?_⟩
  · obtain ⟨vs, h1, r⟩ := at_ h.1
    obtain ⟨vs2, h2, r2⟩ := at_ h.2
    have hi2 : i < us.length ∧ i < ws.length := by
      simp only [List.length_map, List.length_zip] at hi
      omega
    obtain ⟨z, e, _⟩ := r.get (List.getElem?_eq_getElem hi2.1)
    obtain ⟨z2, e2, _⟩ := r2.get (List.getElem?_eq_getElem hi2.2)
    exact ⟨vs, vs2, z, z2, h1, h2, e, e2⟩
  · obtain ⟨vs, h1, r⟩ := at_ h.1
    obtain ⟨vs2, h2, r2⟩ := at_ h.2
    refine ⟨vs, vs2, h1, h2, ?_⟩
    simp only [List.length_map, List.length_zip, r.length, r2.length]
    omega
  · obtain ⟨vs, h1, r⟩ := at_ h.1
    obtain ⟨vs2, h2, r2⟩ := at_ h.2
    obtain ⟨T, y1, y2, rfl, hT, rfl, q1, q2⟩ := y
    obtain ⟨v, e, rv⟩ := r.back (q1 vs h1)
    obtain ⟨v2, e2, rv2⟩ := r2.back (q2 vs2 h2)
    obtain ⟨g1, g2⟩ := RI.pair hT rv rv2
    exact ⟨_, zip_get e e2, g1, g2⟩
end
/-! ### the rules -/
/-- the kinds that give pairs -/
def IK.pr : IK → Bool
  | .enum => true
  | .zip => true
  | _ => false
def iKd (g : GE) (k : IK) (ta : TA) : TI := fun σ H R => ta σ H fun xs H1 => ∃ P F us ws, SRs g P F H1 us xs ∧ itemsOf k us = .ok ws ∧ ∀ J, Wk g k.pr J ws (fun F H => SRs g P F H us xs) → R J H1
def tOne (te : TE) : TA := fun σ H Q => te σ H fun x H1 => Q [x] H1
section
variable {g : GE} {X : Cx} {tg e e1 e2 e3 : Expr} {te : TE} {ta : TA} {pos p : Pos}
theorem Wk.imp {pr : Bool} {J : It} {ws : List PV} {G G' : AS → Hp → Prop} (w : Wk g pr J ws G) (h : ∀ F H, G' F H → G F H) : Wk g pr J ws G' :=
  ⟨fun i F H q hi => w.go i F H (h F H q) hi, fun F H q => w.stop F H (h F H q), fun i F H x H' q hi y => w.yld i F H x H' (h F H q) hi y⟩
theorem one_src {P : AS} {u : PV} {x : V} : ∀ F H, SRs g P F H [u] [x] → SR g P F H u x := fun F H h => by
  obtain ⟨y, e, r⟩ := h.one
  cases e
  exact r
theorem two_src {P : AS} {u v : PV} {x y : V} : ∀ F H, SRs g P F H [u, v] [x, y] → SR g P F H u x ∧ SR g P F H v y := fun F H h => by
  obtain ⟨a, b, e, r1, r2⟩ := h.two
  cases e
  exact ⟨r1, r2⟩
theorem pi_seq (hK : X.K = g.K) (he : PE X e te) : PI X tg e (iKd g .seq (tOne te)) := by
  refine ⟨fun pins s σ H R I h => ?_⟩
  refine thn (he.run pins s σ H _ I h) fun v s1 ⟨x, H1, I1, r1, P, F, us, ws, hs, hi, q⟩ => ?_
  unfold itemsOf at hi
  split at hi
  · cases hi
    obtain ⟨x', ex, sr⟩ := hs.one
    cases ex
    obtain ⟨a, vs, rfl, h1, rv⟩ := sr.rb.tup
    have q2 := q (Itt g.K a) (wk_tup.imp one_src)
    cases r1
    rw [← hK] at h1 q2
    obtain ⟨its, _, tp, _⟩ := I1.tuple h1.sq
    exact wpAny_pyIter_tuple (show s1.heap.IsTuple a its.toArray from tp) (pi_one (tk := s1.toks) I1 _ (turn_tuple a _) ⟨_, Heap.get?_push_size _ rfl, rfl, rfl⟩ q2)
  · cases hi
    obtain ⟨x', ex, sr⟩ := hs.one
    cases ex
    obtain ⟨a, vs, rfl, h1, rv⟩ := sr.rb.lst
    have q2 := q (Itl g.K a) (wk_list.imp one_src)
    cases r1
    rw [← hK] at q2
    obtain ⟨its, _, lp, _⟩ := I1.list (SqL.of h1)
    exact wpAny_pyIter_list lp.isList (pi_one (tk := s1.toks) I1 _ (turn_list a _) ⟨_, Heap.get?_push_size _ rfl, rfl, rfl⟩ q2)
  · rename_i t _
    cases hi
    obtain ⟨x', ex, sr⟩ := hs.one
    cases ex
    cases sr.rb.str
    have q2 := q (Its (toS t)) wk_str
    obtain ⟨tk, rfl⟩ := r1
    cases hall : (toS t).cps.all (· < 128)
    · exact wpAny_pyIter_wide hall (pi_one (tk := s1.toks) I1 _ (turn_str _ (toS t) tk "str_iterator" (.inr rfl)) ⟨_, Heap.get?_push_size _ rfl, rfl, rfl⟩ q2)
    · exact wpAny_pyIter_ascii hall (pi_one (tk := s1.toks) I1 _ (turn_str _ (toS t) tk "str_ascii_iterator" (.inl rfl)) ⟨_, Heap.get?_push_size _ rfl, rfl, rfl⟩ q2)
  all_goals first
    | (cases hi; done)
    | (rename_i hh; cases hh)
    | trivial
theorem piI {t t' : TI} (h : PI X tg e t) (i : ∀ σ H R, t' σ H R → t σ H R) : PI X tg e t' := ⟨fun pins s σ H R I w => h.run pins s σ H R I (i σ H R w)⟩
/-- a reading that only hands on -/
def MonoA (ta : TA) : Prop := ∀ σ H Q Q', (∀ xs H1, Q xs H1 → Q' xs H1) → ta σ H Q → ta σ H Q'
theorem tas_mono {s : SX} {ts : List E} : MonoA (TAs s ts) := fun σ H Q Q' h ⟨P, F, ρ, env, a⟩ => ⟨P, F, ρ, env, a.mono fun p F1 H1 st k xs env1 rs => h xs H1 (k F1 H1 Step.refl xs env1 rs)⟩
theorem tbs_mono {s : SX} {ts : List E} : MonoA (TBs s ts) := fun σ H Q Q' h ⟨P, F, ρ, env, a⟩ => ⟨P, F, ρ, env, a.mono fun p F1 H1 st k xs env1 rs => h xs H1 (k F1 H1 Step.refl xs env1 rs)⟩
theorem pi_rng1 (hm0 : MonoA ta) (hg : Gl X "range") (hm : X.mg "range" = none) (ha : PA X [e] ta) (hs : starEach [e] X.env = [(false, eval e X.env)]) : PI X tg (.Call (.Name "range" p) [e] [] pos) (iKd g .rng1 ta) :=
  piI (pi_range1 hg hm ha hs) fun σ H R h => hm0 σ H _ _ (fun xs H1 ⟨P, F, us, ws, hsr, hi, q⟩ => by
    unfold itemsOf at hi
    split at hi
    all_goals first
      | (cases hi; done)
      | (rename_i hh; cases hh; done)
      | skip
    rename_i b _
    split at hi
    · rename_i hb
      cases hi
      obtain ⟨x, rfl, sr⟩ := hsr.one
      cases sr.rb.int
      have w : Wk g false (Itr 0 (b - 0).toNat) (rngL 0 b) (fun F H => SRs g P F H [.int b] [.int b]) := wk_rng
      rw [Int.sub_zero] at w
      exact ⟨b, rfl, hb.1, hb.2, q _ w⟩
    · cases hi) h
theorem pi_rng2 (hm0 : MonoA ta) (hg : Gl X "range") (hm : X.mg "range" = none) (ha : PA X [e1, e2] ta) (hs : starEach [e1, e2] X.env = [(false, eval e1 X.env), (false, eval e2 X.env)]) (hs2 : starEach [e2] X.env = [(false, eval e2 X.env)]) :
    PI X tg (.Call (.Name "range" p) [e1, e2] [] pos) (iKd g .rng2 ta) :=
  piI (pi_range2 hg hm ha hs hs2) fun σ H R h => hm0 σ H _ _ (fun xs H1 ⟨P, F, us, ws, hsr, hi, q⟩ => by
    unfold itemsOf at hi
    split at hi
    all_goals first
      | (cases hi; done)
      | (rename_i hh; cases hh; done)
      | skip
    rename_i a b _
    split at hi
    · rename_i hb
      cases hi
      obtain ⟨x, y, rfl, sr, sr2⟩ := hsr.two
      cases sr.rb.int
      cases sr2.rb.int
      exact ⟨a, b, rfl, ⟨hb.1.1, hb.1.2, hb.2.1, hb.2.2⟩, q _ wk_rng⟩
    · cases hi) h
theorem pi_rng3 (hm0 : MonoA ta) (hg : Gl X "range") (hm : X.mg "range" = none) (ha : PA X [e1, e2, e3] ta) (hs : starEach [e1, e2, e3] X.env = (false, eval e1 X.env) :: starEach [e2, e3] X.env) (hpl : (backTo pos (starEach [e2, e3] X.env)).any (·.1) = false) :
    PI X tg (.Call (.Name "range" p) [e1, e2, e3] [] pos) (iKd g .rng3 ta) :=
  piI (pi_range3 hg hm ha hs hpl) fun σ H R h => hm0 σ H _ _ (fun xs H1 ⟨P, F, us, ws, hsr, hi, q⟩ => by
    unfold itemsOf at hi
    split at hi
    all_goals first
      | (cases hi; done)
      | (rename_i hh; cases hh; done)
      | skip
    rename_i a b c _
    split at hi
    · rename_i hb
      cases hi
      obtain ⟨rfl, hb⟩ := hb
      obtain ⟨x, y, z, rfl, sr, sr2, sr3⟩ := hsr.three
      cases sr.rb.int
      cases sr2.rb.int
      cases sr3.rb.int
      exact ⟨a, b, -1, _, rfl, RgC.neg hb.1.1 hb.1.2 hb.2.1 hb.2.2, q _ wk_dn⟩
    · cases hi) h
theorem seq_cases {v : PV} {xs : List PV} (h : v.seq? = some xs) : v = .tup xs ∨ v = .lst xs := by
  cases v <;> simp [PV.seq?] at h
  · exact .inl (by rw [h])
  · exact .inr (by rw [h])
theorem pi_enumA {elts : List Expr} {kk : Nat} {tpos : Pos} (hK : X.K = g.K) (hg : Gl X "enumerate") (hm : X.mg "enumerate" = none) (ha : PA X [e] ta) (hs : starEach [e] X.env = [(false, eval e X.env)]) :
    PI X (.Tuple elts kk tpos) (.Call (.Name "enumerate" p) [e] [] pos) (iKd g .enum ta) := by
  refine ⟨fun pins s σ H R I h => ?_⟩
  refine Call_ (ld_blt I hg hm boot_enumerate (PyProof.Rows.callWith_type1 (thn (ha.run pos pins s σ H _ I h) fun us s1 ⟨vs, H1, I1, r1, P, F, ps, ws, hsr, hi, q⟩ => ?_) hs rfl))
  unfold itemsOf at hi
  split at hi
  all_goals first
    | (cases hi; done)
    | (rename_i hh; cases hh; done)
    | skip
  rename_i v _
  split at hi
  · rename_i xs hv
    cases hi
    obtain ⟨x, rfl, sr⟩ := hsr.one
    obtain ⟨u, rfl, ru⟩ := vals1 r1
    have fresh : ∀ b, b ∈ [s1.heap.objs.size + 1, s1.heap.objs.size] → FpOk X pins H1 b := fun b hb => by
      have e2 : b = s1.heap.objs.size + 1 ∨ b = s1.heap.objs.size := by simpa using hb
      have hle : s1.heap.objs.size ≤ b := by rcases e2 with z | z <;> omega
      exact I1.fpOk hle (I1.hok.fresh hle)
    rcases seq_cases hv with rfl | rfl
    · obtain ⟨a, vs2, rfl, h1, rv⟩ := sr.rb.tup
      cases ru
      have q2 := q (IteT g.K a) (wk_enumT.imp one_src)
      rw [← hK] at h1 q2
      obtain ⟨its, _, tp, _⟩ := I1.tuple h1.sq
      have hla : a < s1.heap.objs.size := by
        obtain ⟨o, ho, _⟩ := id tp
        exact Heap.lt_size ho
      refine call_enumT (show s1.heap.IsTuple a its.toArray from tp) fun h' he hit hsz hk => wpAny_pyIter_enum he ?_
      have I2 : Inv X pins σ H1 { s1 with heap := h' } := I1.kept (t' := s1.toks) hk
      exact ⟨s1.heap.objs.size + 1, [s1.heap.objs.size + 1, s1.heap.objs.size], _, _, H1, rfl, I2, turn_enumT a (s1.heap.objs.size + 1) s1.heap.objs.size (Nat.ne_of_lt (Nat.lt_succ_of_lt hla)) (Nat.ne_of_lt hla), ⟨⟨.none, he⟩, hit, Nat.succ_ne_self _⟩, fresh, q2⟩
    · obtain ⟨a, vs2, rfl, h1, rv⟩ := sr.rb.lst
      cases ru
      have q2 := q (Ite g.K a) (wk_enumL.imp one_src)
      rw [← hK] at q2
      obtain ⟨its, _, lp, _⟩ := I1.list (SqL.of h1)
      refine call_enumerate_list lp.isList fun h' he hit hsz hk => wpAny_pyIter_enum he ?_
      have I2 : Inv X pins σ H1 { s1 with heap := h' } := I1.kept (t' := s1.toks) hk
      exact ⟨s1.heap.objs.size + 1, [s1.heap.objs.size + 1, s1.heap.objs.size], _, _, H1, rfl, I2, turn_enum a (s1.heap.objs.size + 1) s1.heap.objs.size, ⟨⟨.none, he⟩, hit, Nat.succ_ne_self _⟩, fresh, q2⟩
  · cases hi
theorem pi_zipK {elts : List Expr} {kk : Nat} {tpos : Pos} (hK : X.K = g.K) (hm0 : MonoA ta) (hg : Gl X "zip") (hm : X.mg "zip" = none) (ha : PA X [e1, e2] ta) (hs : starEach [e1, e2] X.env = (false, eval e1 X.env) :: starEach [e2] X.env) (hpl : (backTo pos (starEach [e2] X.env)).any (·.1) = false) :
    PI X (.Tuple elts kk tpos) (.Call (.Name "zip" p) [e1, e2] [] pos) (iKd g .zip ta) :=
  piI (RZ.pi_zipA hg hm ha hs hpl) fun σ H R h => hm0 σ H _ _ (fun xs H1 ⟨P, F, us, ws, hsr, hi, q⟩ => by
    unfold itemsOf at hi
    split at hi
    all_goals first
      | (cases hi; done)
      | (rename_i hh; cases hh; done)
      | skip
    · rename_i ys zs _
      obtain ⟨x, y, rfl, sr, sr2⟩ := hsr.two
      cases hi
      rw [hK]
      obtain ⟨a, vs, rfl, h1, _⟩ := sr.rb.tup
      obtain ⟨b, vs2, rfl, h2, _⟩ := sr2.rb.tup
      exact ⟨a, b, vs, vs2, rfl, .inr ⟨h1.sq, h2.sq, q _ (wk_zipT.imp two_src)⟩⟩
    · rename_i ys zs _
      obtain ⟨x, y, rfl, sr, sr2⟩ := hsr.two
      cases hi
      rw [hK]
      obtain ⟨a, vs, rfl, h1, _⟩ := sr.rb.lst
      obtain ⟨b, vs2, rfl, h2, _⟩ := sr2.rb.lst
      exact ⟨a, b, vs, vs2, rfl, .inl ⟨SqL.of h1, SqL.of h2, q _ (wk_zipL.imp two_src)⟩⟩) h
end
end EV
set_option Elab.async false
set_option linter.all false
set_option autoImplicit false
set_option maxRecDepth 100000
/-! Targets, comprehensions. -/
namespace EV
open PySem PySem.Spec PyProof.Rows L2
/-! ### targets -/
mutual
def T.slots : T → List Nat
  | .v i => [i]
  | .tup ts => T.slotss ts
def T.slotss : List T → List Nat
  | [] => []
  | t :: ts => T.slots t ++ T.slotss ts
end
def T.isTup : T → Bool
  | .tup _ => true
  | _ => false
/-- only these slots may differ -/
structure SameS (is : List Nat) (σ σ' : L2.St) : Prop where
  len : σ'.length = σ.length
  out : ∀ i, i ∉ is → σ'[i]? = σ[i]?
theorem SameS.refl {is : List Nat} {σ : L2.St} : SameS is σ σ := ⟨rfl, fun _ _ => rfl⟩
theorem SameS.trans {is : List Nat} {a b c : L2.St} (h : SameS is a b) (k : SameS is b c) : SameS is a c := ⟨k.len.trans h.len, fun i hi => (k.out i hi).trans (h.out i hi)⟩
theorem SameS.mono {is js : List Nat} {a b : L2.St} (h : SameS is a b) (k : ∀ i ∈ is, i ∈ js) : SameS js a b := ⟨h.len, fun i hi => h.out i fun z => hi (k i z)⟩
theorem SameS.set {σ : L2.St} {i : Nat} {x : Option V} : SameS [i] σ (σ.set i x) := ⟨by simp, fun j hj => List.getElem?_set_ne fun z => hj (by simp [z])⟩
section
variable {C : SC} {s : SX} {k : Nat} {X : Cx} {e e1 e2 e3 : Expr} {t t1 t2 t3 : E} {pos : Pos}
def TGv (s : SX) (t : T) (pr : Bool) : TG := fun x σ H Q => ∃ P F ρ v ρ', REnv s.g P F ρ σ H ∧ RI s.g pr F H v x ∧ (pr = true → t.isTup = true) ∧ asgT t v ρ = .ok ρ' ∧ ∀ σ', REnv s.g P F ρ' σ' H → SameS t.slots σ σ' → Q σ' H
def TGs (s : SX) (ts : List T) : TGs := fun xs σ H Q => ∃ P F ρ vs ρ', REnv s.g P F ρ σ H ∧ RVs s.g F H vs xs ∧ asgTs ts vs ρ = .ok ρ' ∧ ∀ σ', REnv s.g P F ρ' σ' H → SameS (T.slotss ts) σ σ' → Q σ' H
theorem pgI {tg : Expr} {t t' : TG} (h : PG X tg t) (i : ∀ x σ H Q, t' x σ H Q → t x σ H Q) : PG X tg t' := ⟨fun pins sh σ H v u Q I r w => h.run pins sh σ H v u Q I r (i _ _ _ _ w)⟩
theorem pgsI {ts : List Expr} {t t' : L2.TGs} (h : PGs X ts t) (i : ∀ x σ H Q, t' x σ H Q → t x σ H Q) : PGs X ts t' := ⟨fun pins sh σ H vs us Q I r w => h.run pins sh σ H vs us Q I r (i _ _ _ _ w)⟩
/-- the derivation of a target -/
structure DT (s : SX) (X : Cx) (tg : Expr) (t : T) : Prop where
  pg : ∀ pr, PG X tg (TGv s t pr)
  star : ∀ es env, assignEach (tg :: es) env = (false, assign tg env) :: assignEach es env
inductive DTs (s : SX) (X : Cx) : List Expr → List T → Prop
  | nil : DTs s X [] []
  | cons {e : Expr} {es : List Expr} {t : T} {ts : List T} (h : DT s X e t) (r : DTs s X es ts) : DTs s X (e :: es) (t :: ts)
theorem dt_name {i : Nat} {x : Str} (hnd : X.N.Nodup) (hi : X.N[i]? = some x) (hx : Loc X.env.scope x) (hf : X.fn x = true ∨ X.env.scope.names.lookup x = some .local) : DT s X (.Name x pos) (.v i) := by
  refine ⟨fun pr => pgI (pg_name hnd hi hx hf) fun x σ H Q ⟨P, F, ρ, v, ρ', env, rv, hp, e, q⟩ => ?_, fun _ _ => rfl⟩
  cases e
  rcases rv with rv | ⟨h, _⟩
  · exact q _ (env.setS rv) (by rw [T.slots]; exact SameS.set)
  · exact absurd (hp h) (by simp [T.isTup])
theorem DTs.len {es : List Expr} {ts : List T} (h : DTs s X es ts) (env : PySem.Env) : (assignEach es env).length = es.length ∧ (assignEach es env).findIdx? (·.1) = none := by
  induction h with
  | nil => exact ⟨rfl, rfl⟩
  | cons h r ih =>
    rw [h.star]
    refine ⟨by simp [ih.1], ?_⟩
    rw [List.findIdx?_cons]
    simp [ih.2]
theorem DTs.pgs {es : List Expr} {ts : List T} (h : DTs s X es ts) : PGs X es (TGs s ts) := by
  induction h with
  | nil =>
    refine pgsI pgs_nil fun xs σ H Q ⟨P, F, ρ, vs, ρ', env, rs, e, q⟩ => ?_
    cases vs with
    | nil =>
      cases e
      cases rs
      exact ⟨rfl, q σ env SameS.refl⟩
    | cons v vs => cases e
  | cons h r ih =>
    refine pgsI (pgs_cons (h.pg false) ih (by rw [h.star]; rfl)) fun xs σ H Q ⟨P, F, ρ, vs, ρ', env, rs, e, q⟩ => ?_
    cases vs with
    | nil => cases e
    | cons v vs =>
      simp only [asgTs] at e
      obtain ⟨ρ1, h1, h2⟩ := bind_ok e
      cases rs with
      | cons r1 r2 =>
        refine ⟨_, _, rfl, P, F, ρ, v, ρ1, env, .inl r1, (fun z => by cases z), h1, fun σ1 env1 ss1 => ?_⟩
        refine ⟨P, F, ρ1, vs, ρ', env1, r2, h2, fun σ2 env2 ss2 => q σ2 env2 ?_⟩
        rw [T.slotss]
        exact (ss1.mono fun i hi => List.mem_append_left _ hi).trans (ss2.mono fun i hi => List.mem_append_right _ hi)
theorem dt_tup {es : List Expr} {ts : List T} {kk : Nat} (hK : X.K = s.g.K) (hc : X.calm = true) (h : DTs s X es ts) (hl : es.length = ts.length) : DT s X (.Tuple es kk pos) (.tup ts) := by
  refine ⟨fun pr => pgI (pg_tup hc h.pgs (h.len X.env).1 (h.len X.env).2) fun x σ H Q ⟨P, F, ρ, v, ρ', env, rv, hp, e, q⟩ => ?_, fun _ _ => rfl⟩
  have hv : ∃ xs, v = .tup xs := by
    cases v with
    | tup xs => exact ⟨xs, rfl⟩
    | _ => cases e
  obtain ⟨xs, rfl⟩ := hv
  simp only [asgT] at e
  have hlen : ∀ (ts : List T) (xs : List PV) (ρ ρ' : EV.Env), asgTs ts xs ρ = .ok ρ' → xs.length = ts.length := by
    intro ts
    induction ts with
    | nil =>
      intro xs ρ ρ' e
      cases xs with
      | nil => rfl
      | cons _ _ => cases e
    | cons t ts ih =>
      intro xs ρ ρ' e
      cases xs with
      | nil => cases e
      | cons x xs =>
        simp only [asgTs] at e
        obtain ⟨ρ1, _, h2⟩ := bind_ok e
        simp [ih xs ρ1 ρ' h2]
  have sq : ∃ a vs, x = .ref a ∧ SqT s.g.K H a vs ∧ RVs s.g F H xs vs := by
    rcases rv with rv | ⟨_, ys, a, vs, e1, e2, h1, h2⟩
    · obtain ⟨a, vs, e1, h1, h2⟩ := (show RB s.g F H _ x from .inl rv).tup
      exact ⟨a, vs, e1, h1.sq, h2⟩
    · cases e1
      exact ⟨a, vs, e2, h1, h2⟩
  obtain ⟨a, vs, rfl, h1, h2⟩ := sq
  refine ⟨a, vs, rfl, by rw [hK]; exact h1, by rw [← h2.length, hlen ts xs ρ ρ' e, hl], P, F, ρ, xs, ρ', env, h2, e, fun σ' env' ss => q σ' env' ?_⟩
  rw [T.slots]
  exact ss
/-! ### a comprehension's state -/
def TTs (s : SX) (ifs : List E) : TT := fun σ H Q => ∃ P F ρ, REnv s.g P F ρ σ H ∧ Ans s.g s.W P F H (evIfs s.call ifs ρ) fun r F' H' => REnv s.g P F' r.2 σ H' → Q r.1 H'
/-- the locked addresses -/
def lockA (src : List E) (ρ : EV.Env) (σ : L2.St) : AS := fun a => ∃ (i : Nat) (v : PV), hasV src i = true ∧ ρ[i]? = some (.o v) ∧ σ[i]? = some (some (.ref a))
theorem REnv.lock {g : GE} {P F : AS} {ρ : EV.Env} {σ : L2.St} {H : Hp} (env : REnv g P F ρ σ H) (src : List E) : REnv g (fun a => P a ∨ lockA src ρ σ a) F (lockE src ρ) σ H := by
  have slotOf : ∀ {i : Nat} {sl : Slot}, (lockE src ρ)[i]? = some sl → ∃ s0, ρ[i]? = some s0 ∧ sl = if hasV src i = true then s0.lock else s0 := fun {i sl} e => by
    rw [lockE_get] at e
    cases h : ρ[i]? with
    | none => rw [h] at e; cases e
    | some s0 =>
      rw [h] at e
      exact ⟨s0, rfl, by simpa using e.symm⟩
  have ownOf : ∀ {i : Nat} {sl s0 : Slot}, sl = (if hasV src i = true then s0.lock else s0) → sl.own = true → s0.own = true := fun {i sl s0} e o => by
    subst e
    split at o
    · cases s0 with
      | n => cases o
      | s v => cases o
      | _ => rfl
    · exact o
  refine ⟨by rw [lockE_len]; exact env.len, fun i sl e => ?_, fun i j si sj a hij e1 e2 o1 o2 e3 e4 => ?_, fun a h => ?_, env.dF⟩
  · obtain ⟨s0, h0, rfl⟩ := slotOf e
    obtain ⟨o, e1, r⟩ := env.at_ i s0 h0
    refine ⟨o, e1, ?_⟩
    cases s0 with
    | n => split <;> trivial
    | s v => split <;> exact r
    | o v =>
      obtain ⟨a, e2, n1, n2, r⟩ := r
      by_cases hv : hasV src i = true
      · rw [if_pos hv]
        exact ⟨a, e2, n1, .inr ⟨i, v, hv, h0, by rw [e1, e2]⟩, r⟩
      · rw [if_neg hv]
        refine ⟨a, e2, n1, fun z => ?_, r⟩
        rcases z with z | ⟨j, w, h1, h2, h3⟩
        · exact n2 z
        · have hij : i ≠ j := fun z => hv (z ▸ h1)
          exact env.dis i j _ _ a hij h0 h2 rfl rfl (by rw [e1, e2]) h3
    | b v =>
      obtain ⟨a, e2, n1, n2, r⟩ := r
      have : SlR g (fun a => P a ∨ lockA src ρ σ a) F H (.b v) o := ⟨a, e2, n1, .inl n2, r⟩
      split <;> exact this
  · obtain ⟨s1, h1, q1⟩ := slotOf e1
    obtain ⟨s2, h2, q2⟩ := slotOf e2
    exact env.dis i j s1 s2 a hij h1 h2 (ownOf q1 o1) (ownOf q2 o2) e3 e4
  · rcases h with h | ⟨i, v, _, h2, h3⟩
    · exact env.dP a h
    · exact (env.ownThere h2 rfl h3).1
theorem wipe_get (own : List Nat) (σ : L2.St) (i : Nat) : (wipe σ own)[i]? = (σ[i]?).map fun o => if i ∈ own then none else o := by
  induction own generalizing σ with
  | nil => simp [wipe]
  | cons j own ih =>
    unfold wipe
    by_cases hj : j = i
    · subst hj
      by_cases hl : j < σ.length
      · rw [List.getElem?_set_self (by rw [wipe_length]; exact hl), List.getElem?_eq_getElem hl]
        simp
      · rw [List.getElem?_eq_none (by simp [wipe_length]; omega), List.getElem?_eq_none (by omega)]
        rfl
    · rw [List.getElem?_set_ne hj, ih]
      congr 1
      funext o
      have h3 : ¬ i = j := fun z => hj z.symm
      simp [List.mem_cons, h3]
theorem wipe_same {own : List Nat} {is : List Nat} {σ σ' : L2.St} (h : SameS is (wipe σ own) σ') (hs : ∀ i ∈ is, i ∈ own) : wipe σ' own = wipe σ own := by
  apply List.ext_getElem?
  intro i
  rw [wipe_get, wipe_get]
  by_cases hi : i ∈ own
  · have hl : σ'.length = σ.length := by rw [h.len, wipe_length]
    by_cases hb : i < σ.length
    · rw [List.getElem?_eq_getElem hb, List.getElem?_eq_getElem (by omega)]
      simp [hi]
    · rw [List.getElem?_eq_none (by omega), List.getElem?_eq_none (by omega)]
  · rw [h.out i fun z => hi (hs i z), wipe_get]
    simp [hi]
theorem REnv.wipe {g : GE} {P F : AS} {ρ : EV.Env} {σ : L2.St} {H : Hp} (env : REnv g P F ρ σ H) (own : List Nat) : REnv g P F (wipeE own ρ) (L2.wipe σ own) H := by
  have slotOf : ∀ {i : Nat} {sl : Slot}, (wipeE own ρ)[i]? = some sl → ∃ s0, ρ[i]? = some s0 ∧ sl = if i ∈ own then .n else s0 := fun {i sl} e => by
    rw [wipeE_get] at e
    cases h : ρ[i]? with
    | none => rw [h] at e; cases e
    | some s0 =>
      rw [h] at e
      exact ⟨s0, rfl, by simpa using e.symm⟩
  refine ⟨by rw [wipeE_len, wipe_length]; exact env.len, fun i sl e => ?_, fun i j si sj a hij e1 e2 o1 o2 e3 e4 => ?_, env.dP, env.dF⟩
  · obtain ⟨s0, h0, rfl⟩ := slotOf e
    obtain ⟨o, e1, r⟩ := env.at_ i s0 h0
    by_cases hi : i ∈ own
    · rw [if_pos hi]
      exact ⟨_, by rw [wipe_get, e1]; rfl, trivial⟩
    · rw [if_neg hi]
      exact ⟨o, by rw [wipe_get, e1]; simp [hi], r⟩
  · obtain ⟨s1, h1, q1⟩ := slotOf e1
    obtain ⟨s2, h2, q2⟩ := slotOf e2
    by_cases hi : i ∈ own
    · rw [if_pos hi] at q1
      subst q1
      cases o1
    · by_cases hj : j ∈ own
      · rw [if_pos hj] at q2
        subst q2
        cases o2
      · rw [if_neg hi] at q1
        rw [if_neg hj] at q2
        subst q1 q2
        rw [wipe_get] at e3 e4
        simp only [hi, if_false] at e3
        simp only [hj, if_false] at e4
        exact env.dis i j _ _ a hij h1 h2 o1 o2 (by simpa using e3) (by simpa using e4)
/-- behind a comprehension: the locked slots are open again, the own names as they were -/
theorem REnv.unlock {g : GE} {P F F1 : AS} {ρ ρe : EV.Env} {σ : L2.St} {H H1 : Hp} {own : List Nat} {src : List E} (env1 : REnv g P F1 ρ σ H1) (hf : ownFree own ρ = true) (le : LeE (wipeE own (lockE src ρ)) ρe) (st : Step P F1 H1 F H)
    (env : REnv g (fun a => P a ∨ lockA src ρ σ a) F ρe (L2.wipe σ own) H) : REnv g P F (unlockE ρ src (restE ρ own ρe)) σ H := by
  have hlen : ρe.length = ρ.length := by rw [le.len, wipeE_len, lockE_len]
  have slotOf : ∀ {i : Nat} {sl : Slot}, (unlockE ρ src (restE ρ own ρe))[i]? = some sl → (i ∈ own ∧ ∃ s0, ρ[i]? = some s0 ∧ s0.own = false ∧ sl = s0) ∨ (i ∉ own ∧ ∃ se, ρe[i]? = some se ∧ sl = if hasV src i = true then se.unlock ρ[i]? else se) := fun {i sl} e => by
    rw [unlockE_get, restE_get] at e
    cases h : ρe[i]? with
    | none => rw [h] at e; cases e
    | some se =>
      rw [h] at e
      simp only [Option.map_some, Option.some.injEq] at e
      by_cases hi : i ∈ own
      · refine .inl ⟨hi, ?_⟩
        rw [if_pos hi] at e
        have hl : i < ρ.length := by
          have := (List.getElem?_eq_some_iff.mp h).1
          omega
        have hfi := List.all_eq_true.mp hf i hi
        rw [List.getD_eq_getElem?_getD, List.getElem?_eq_getElem hl, Option.getD_some] at e
        rw [List.getElem?_eq_getElem hl] at hfi ⊢
        refine ⟨ρ[i], rfl, ?_⟩
        cases hw : ρ[i] with
        | n =>
          rw [hw, unlock_n] at e
          exact ⟨rfl, by simpa using e.symm⟩
        | s v =>
          rw [hw, unlock_s] at e
          exact ⟨rfl, by simpa using e.symm⟩
        | o v => rw [hw] at hfi; cases hfi
        | b v => rw [hw] at hfi; cases hfi
      · rw [if_neg hi] at e
        exact .inr ⟨hi, se, rfl, e.symm⟩
  have sw : ∀ {i : Nat} {o : Option V}, i ∉ own → (L2.wipe σ own)[i]? = some o → σ[i]? = some o := fun {i o} hi e => by
    rw [wipe_get] at e
    cases h : σ[i]? with
    | none => rw [h] at e; cases e
    | some o' =>
      rw [h] at e
      simpa [hi] using e
  have ownOf : ∀ {i : Nat} {sl se : Slot}, sl = (if hasV src i = true then se.unlock ρ[i]? else se) → sl.own = true → se.own = true := fun {i sl se} e o => by
    subst e
    split at o
    · cases se with
      | n => rw [unlock_n] at o; cases o
      | s v => rw [unlock_s] at o; cases o
      | _ => rfl
    · exact o
  refine ⟨by rw [unlockE_len, restE_len, hlen]; exact env1.len, fun i sl e => ?_, fun i j si sj a hij e1 e2 o1 o2 e3 e4 => ?_, fun a h => ?_, env.dF⟩
  · rcases slotOf e with ⟨hi, s0, h0, ho, rfl⟩ | ⟨hi, se, he, hs⟩
    · obtain ⟨o, e1, r⟩ := env1.at_ i _ h0
      refine ⟨o, e1, ?_⟩
      cases sl with
      | n => trivial
      | s v =>
        obtain ⟨x, e2, r⟩ := r
        exact ⟨x, e2, RV.mono st r⟩
      | o v => cases ho
      | b v => cases ho
    · obtain ⟨o, e1, r⟩ := env.at_ i se he
      have e1' := sw hi e1
      refine ⟨o, e1', ?_⟩
      cases se with
      | n =>
        rw [unlock_n] at hs
        have : sl = .n := by simpa using hs
        subst this
        trivial
      | s v =>
        rw [unlock_s] at hs
        have : sl = .s v := by simpa using hs
        subst this
        exact r
      | o v =>
        have : sl = .o v := by
          subst hs
          split
          · unfold Slot.unlock
            split
            · rename_i h1 h2; cases h2
            · rfl
          · rfl
        subst this
        obtain ⟨a, e2, n1, n2, r⟩ := r
        exact ⟨a, e2, n1, fun z => n2 (.inl z), r⟩
      | b v =>
        obtain ⟨a, e2, n1, n2, r⟩ := r
        obtain ⟨s1, g1, g2, g3⟩ := le.own i _ he rfl
        rw [wipeE_get, lockE_get] at g1
        cases h0 : ρ[i]? with
        | none => rw [h0] at g1; cases g1
        | some s0 =>
          rw [h0] at g1 hs
          simp only [Option.map_some, Option.some.injEq, if_neg hi] at g1
          obtain ⟨o', e3, r0⟩ := env1.at_ i s0 h0
          rw [e1'] at e3
          cases e3
          by_cases hv : hasV src i = true
          · rw [if_pos hv] at g1 hs
            subst g1
            cases s0 with
            | n => cases g2
            | s w => cases g2
            | o w =>
              have : sl = .o v := hs
              subst this
              obtain ⟨a', e4, m1, m2, _⟩ := r0
              rw [e2] at e4
              cases e4
              exact ⟨a, e2, n1, m2, r⟩
            | b w =>
              have : sl = .b v := hs
              subst this
              obtain ⟨a', e4, m1, m2, _⟩ := r0
              rw [e2] at e4
              cases e4
              exact ⟨a, e2, n1, m2, r⟩
          · rw [if_neg hv] at g1 hs
            subst g1 hs
            cases s0 with
            | n => cases g2
            | s w => cases g2
            | o w => cases g3
            | b w =>
              obtain ⟨a', e4, m1, m2, _⟩ := r0
              rw [e2] at e4
              cases e4
              exact ⟨a, e2, n1, m2, r⟩
  · rcases slotOf e1 with ⟨hi, s0, h0, ho, rfl⟩ | ⟨hi, se, he, hs⟩
    · rw [ho] at o1; cases o1
    · rcases slotOf e2 with ⟨hj, s0, h0, ho, rfl⟩ | ⟨hj, se2, he2, hs2⟩
      · rw [ho] at o2; cases o2
      · refine env.dis i j se se2 a hij he he2 (ownOf hs o1) (ownOf hs2 o2) ?_ ?_
        · rw [wipe_get, e3]; simp [hi]
        · rw [wipe_get, e4]; simp [hj]
  · exact env.dP a (.inl h)
end
end EV
set_option Elab.async false
set_option linter.all false
set_option autoImplicit false
set_option maxRecDepth 100000
/-! Comprehensions. -/
namespace EV
open PySem PySem.Spec PyProof.Rows L2
/-- no exception leaves -/
abbrev SX.nx (s : SX) : SX := { s with W := fun _ _ _ => False }
theorem evBs_sl {c : CallT} : ∀ {es : List E} {ρ : EV.Env} {r : List Opd × EV.Env} {i : Nat}, evBs c es ρ = .ok r → Opd.sl i ∈ r.1 → hasV es i = true
  | [], ρ, r, i, h, hm => by
    cases h
    cases hm
  | e :: es, ρ, r, i, h, hm => by
    simp only [evBs] at h
    obtain ⟨p, h1, h2⟩ := bind_ok h
    obtain ⟨q, h3, h4⟩ := bind_ok h2
    cases h4
    rcases List.mem_cons.mp hm with hm | hm
    · cases e with
      | v j =>
        simp only [opd] at h1
        split at h1 <;> first
          | (cases h1; cases hm; simp [hasV])
          | cases h1
      | _ =>
        simp only [opd] at h1
        obtain ⟨z, _, h5⟩ := bind_ok h1
        cases h5
        cases hm
    · have := evBs_sl h3 hm
      cases e <;> simp [hasV, this]
/-- the sources of a comprehension -/
theorem src_rs {g : GE} {P F : AS} {ρ : EV.Env} {σ : L2.St} {H : Hp} {src : List E} (env : REnv g P F ρ σ H) : ∀ {os : List Opd} {xs : List V} {ss : List PV}, ORs g F σ H os xs → rdOs os ρ = .ok ss → (∀ i, Opd.sl i ∈ os → hasV src i = true) → SRs g (fun a => P a ∨ lockA src ρ σ a) F H ss xs := by
  intro os xs ss h
  induction h generalizing ss with
  | nil =>
    intro e _
    cases e
    exact .nil
  | cons o r ih =>
    intro e hm
    rename_i o' os' x xs'
    simp only [rdOs] at e
    obtain ⟨v, e1, e2⟩ := bind_ok e
    obtain ⟨ws, e3, e4⟩ := bind_ok e2
    cases e4
    refine .cons ?_ (ih e3 fun i hi => hm i (List.mem_cons_of_mem _ hi))
    cases o' with
    | val w =>
      cases e1
      exact .inl o
    | sl i =>
      simp only [rdO] at e1
      have hx : σ[i]? = some (some x) := o
      split at e1
      · rename_i w hw
        cases e1
        obtain ⟨q, f1, y, f2, rv⟩ := env.at_ i _ hw
        rw [hx] at f1
        cases f1
        cases f2
        exact .inl rv
      · rename_i w hw
        cases e1
        obtain ⟨q, f1, b, f2, _, _, oa⟩ := env.at_ i _ hw
        rw [hx] at f1
        cases f1
        cases f2
        exact .inr ⟨b, rfl, .inr ⟨i, _, hm i (by simp), hw, hx⟩, oa⟩
      · rename_i w hw
        cases e1
        obtain ⟨q, f1, b, f2, _, n2, oa⟩ := env.at_ i _ hw
        rw [hx] at f1
        cases f1
        cases f2
        exact .inr ⟨b, rfl, .inl n2, oa⟩
      · cases e1
section
variable {C : SC} {s : SX} {k : Nat} {X : Cx} {e e1 e2 e3 : Expr} {t1 t2 t3 : E} {pos : Pos}
/-- the new list is changed -/
theorem step_own {g : GE} {P F : AS} {H : Hp} {D : Addr} {o : HO} {vs : List V} (hD : H D = some (.lst vs)) (nF : ¬ F D) (nP : ¬ P D) : Step P F H F (upd H D o) := by
  have hne : ∀ b o', b ≠ D → H b = some o' → upd H D o b = some o' := fun b o' hb q => by
    rw [upd_ne hb]
    exact q
  refine ⟨fun _ q => q, fun b o' f q => hne b o' (fun z => nF (z ▸ f)) q, fun b o' p q => hne b o' (fun z => nP (z ▸ p)) q, fun b o' so q => hne b o' (fun z => ?_) q, fun _ q => .inl q⟩
  subst z
  rw [hD] at q
  cases q
  exact so
theorem env_own {g : GE} {P F : AS} {ρ : EV.Env} {σ : L2.St} {H : Hp} {D : Addr} {o : HO} {vs : List V} (env : REnv g P F ρ σ H) (hD : H D = some (.lst vs)) (nF : ¬ F D) (nP : ¬ P D) (ni : NotIn ρ σ D) : REnv g P F ρ σ (upd H D o) := by
  have hne : ∀ b o', b ≠ D → H b = some o' → upd H D o b = some o' := fun b o' hb q => by
    rw [upd_ne hb]
    exact q
  refine env.mono (step_own (g := g) hD nF nP) (fun b f => .inl f) (fun i sl a o' e ow e2 q => hne a o' (fun z => ?_) q) fun b f => ?_
  · subst z
    exact ni i sl e ow e2
  · obtain ⟨o', ho⟩ : ∃ o', H b = some o' := by
      cases q : H b with
      | none => exact absurd q (env.dF b f)
      | some o' => exact ⟨o', rfl⟩
    rw [hne b o' (fun z => nF (z ▸ f)) ho]
    simp
theorem ev_lc {own : List Nat} {t : T} {kd : IK} {src ifs : List E} {elt : E} (hown : ∀ i ∈ t.slots, i ∈ own) (hpr : kd.pr = true → t.isTup = true) (σ : L2.St) (H : Hp) (Q : VK) (h : TEv s (.lc own t kd src ifs elt) σ H Q) :
    tLc (iKd s.g kd (TBs s src)) (TGv s.nx t kd.pr) (TTs s.nx ifs) (TFz s.nx elt) own σ H Q := by
  obtain ⟨P, F, ρ, env, a⟩ := h
  simp only [evE] at a
  refine ⟨P, F, ρ, env, (Ans.bind a).monoE fun p F1 H1 eqp st1 k1 xs env1 os => ?_⟩
  obtain ⟨ss, g1, k2⟩ := (k1 F1 H1 Step.refl).get (rdOs_ne _ _)
  obtain ⟨ws, g2, k3⟩ := k2.get (itemsOf_ne _ _)
  split at k3
  · rename_i hc
    obtain ⟨hsz, hfree⟩ := hc
    generalize hf : (fun (x : PV) (ρ1 : EV.Env) => (asgT t x ρ1).bind fun ρ2 => (evIfs s.call ifs ρ2).bind fun q => if q.1 = true then (evE s.call elt q.2).bind fun r => Res.ok (some r.1.1, r.2) else .ok (none, q.2)) = f at k3
    have hfle : ∀ x ρ r, f x ρ = .ok r → LeE ρ r.2 := fun x ρ1 r1 g1 => by
      subst hf
      obtain ⟨ρ2, g2, g3⟩ := bind_ok g1
      obtain ⟨w, g4, g5⟩ := bind_ok g3
      have l := (asgT_le t x ρ1 ρ2 g2).trans (evIfs_le _ ifs ρ2 w g4)
      split at g5
      · obtain ⟨z, g6, g7⟩ := bind_ok g5
        cases g7
        exact l.trans (evE_le _ elt _ z g6)
      · cases g5
        exact l
    cases hl : lcLoop own f ws (wipeE own (lockE src p.2)) with
    | exc _ _ =>
      rw [hl] at k3
      exact k3.elim
    | bad =>
      rw [hl] at k3
      exact k3.elim
    | ok q =>
      rw [hl, Res.noexc_ok, Res.bind_ok] at k3
      have hle := lcLoop_le hfle _ _ _ hl
      generalize hPL : (fun a => P a ∨ lockA src p.2 σ a) = PL
      have hP : ∀ a, P a → PL a := fun a h => by
        subst hPL
        exact .inl h
      have envL : REnv s.g PL F1 (wipeE own (lockE src p.2)) (wipe σ own) H1 := by
        have := (env1.lock src).wipe own
        rw [hPL] at this
        exact this
      have srs : SRs s.g PL F1 H1 ss xs := by
        have := src_rs (src := src) env1 os g1 fun i hi => evBs_sl eqp hi
        rw [hPL] at this
        exact this
      refine ⟨PL, F1, ss, ws, srs, g2, fun J wk D hD => ?_⟩
      have nPD : ¬ PL D := fun z => envL.dP D z hD
      have nFD : ¬ F1 D := fun z => envL.dF D z hD
      refine ⟨fun i m H => m = ws.length - i ∧ i ≤ ws.length ∧ ∃ (F2 : AS) (ρi : EV.Env) (acc rest : List PV) (av : List V), REnv s.g PL F2 ρi (wipe σ own) H ∧ NotIn ρi (wipe σ own) D ∧ ¬ F2 D ∧ H D = some (.lst av) ∧ RVs s.g F2 H acc av ∧ acc.length ≤ i ∧ Step PL F1 H1 F2 H ∧
        LeE (wipeE own (lockE src p.2)) ρi ∧ lcLoop own f (ws.drop i) ρi = .ok (rest, q.2) ∧ acc ++ rest = q.1, ⟨ws.length, by simp, Nat.zero_le _, ?_⟩, ?_⟩
      · have gr := grow_upd (o := .lst []) hD
        exact ⟨F1, _, [], q.1, [], envL.grow gr, envL.freshNotIn hD, nFD, upd_same, .nil, Nat.le_refl _, Step.grow gr, LeE.refl _, by rw [List.drop_zero, hl], rfl⟩
      · rintro i m H2 ⟨rfl, hi, F2, ρi, acc, rest, av, envi, ni, nF2, hD2, rva, hacc, st2, lei, hrun, hcat⟩
        have srs2 := srs.mono st2
        by_cases hlt : i < ws.length
        · refine .inr ⟨wk.go i F2 H2 srs2 hlt, fun H' => (ws.length - (i + 1)) = ws.length - (i + 1) ∧ i + 1 ≤ ws.length ∧ ∃ (F2 : AS) (ρi : EV.Env) (acc rest : List PV) (av : List V), REnv s.g PL F2 ρi (wipe σ own) H' ∧ NotIn ρi (wipe σ own) D ∧ ¬ F2 D ∧ H' D = some (.lst av) ∧ RVs s.g F2 H' acc av ∧ acc.length ≤ i + 1 ∧
            Step PL F1 H1 F2 H' ∧ LeE (wipeE own (lockE src p.2)) ρi ∧ lcLoop own f (ws.drop (i + 1)) ρi = .ok (rest, q.2) ∧ acc ++ rest = q.1, fun H' w => ⟨_, by omega, w⟩, fun x H3 hy => ?_⟩
          obtain ⟨v, hv, gr, ri⟩ := wk.yld i F2 H2 x H3 srs2 hlt hy
          have hdrop : ws.drop i = v :: ws.drop (i + 1) := by
            have e1 := List.drop_eq_getElem_cons hlt
            rw [List.getElem?_eq_getElem hlt] at hv
            cases hv
            exact e1
          rw [hdrop] at hrun
          unfold lcLoop at hrun
          obtain ⟨pr1, r1, r2⟩ := bind_ok hrun
          obtain ⟨qr, r3, r4⟩ := bind_ok r2
          have r4' := Res.ok.inj r4
          rw [Prod.mk.injEq] at r4'
          obtain ⟨r4a, r4b⟩ := r4'
          subst r4a
          have hle4 := hfle _ _ _ r1
          rw [← hf] at r1
          obtain ⟨ρ2, r5, r6⟩ := bind_ok r1
          obtain ⟨w, r7, r8⟩ := bind_ok r6
          have stg : Step PL F2 H2 F2 H3 := Step.grow gr
          have env3 : REnv s.g (fun b => PL b ∨ b = D) F2 ρi (wipe σ own) H3 := (envi.grow gr).addP (fun b hb => hb.elim .inl fun z => .inr ⟨z ▸ ni, by rw [z, gr D _ hD2]; simp⟩) fun b hb => .inl hb
          refine ⟨fun b => PL b ∨ b = D, F2, ρi, v, ρ2, env3, ri, hpr, r5, fun σ2 env4 ss2 => ?_⟩
          have hws : wipe σ2 own = wipe σ own := wipe_same ss2 hown
          refine ⟨hws, fun b => PL b ∨ b = D, F2, ρ2, env4, ?_⟩
          rw [show (SX.nx s).call = s.call from rfl, r7]
          intro F4 H4 st4 env5
          -- the state behind a turn
          have fin : ∀ (F5 : AS) (H5 : Hp) (ρ4 : EV.Env) (out : List PV) (ov : List V), Step (fun b => PL b ∨ b = D) F2 H3 F5 H5 → REnv s.g (fun b => PL b ∨ b = D) F5 ρ4 σ2 H5 → RVs s.g F5 H5 out ov → LeE ρi ρ4 → (acc ++ out).length ≤ i + 1 → pr1 = (pr1.1, ρ4) → pr1.1.toList = out →
              ∀ H6, (H6 = H5 ∧ ov = [] ∨ H6 = upd H5 D (.lst (av ++ ov))) → (ws.length - (i + 1)) = ws.length - (i + 1) ∧ i + 1 ≤ ws.length ∧ ∃ (F2 : AS) (ρi : EV.Env) (acc rest : List PV) (av : List V), REnv s.g PL F2 ρi (wipe σ own) H6 ∧ NotIn ρi (wipe σ own) D ∧ ¬ F2 D ∧ H6 D = some (.lst av) ∧
                RVs s.g F2 H6 acc av ∧ acc.length ≤ i + 1 ∧ Step PL F1 H1 F2 H6 ∧ LeE (wipeE own (lockE src p.2)) ρi ∧ lcLoop own f (ws.drop (i + 1)) ρi = .ok (rest, q.2) ∧ acc ++ rest = q.1 := by
            intro F5 H5 ρ4 out ov st5 env6 rvo hle5 hlen hp1 hp2 H6 hH6
            have nF5 : ¬ F5 D := fun z => (st5.nF D z).elim nF2 fun w => w (.inr rfl)
            have hD5 : H5 D = some (.lst av) := st5.kP D _ (.inr rfl) (gr D _ hD2)
            have envw := env6.wipe own
            rw [hws] at envw
            have niD : NotIn (wipeE own ρ4) (wipe σ own) D := fun j sl e o e2 => by
              obtain ⟨s0, e0, o0, _⟩ := (hle5.trans (LeE.wipe own ρ4)).own j sl e o
              exact ni j s0 e0 o0 e2
            have env7 : REnv s.g PL F5 (wipeE own ρ4) (wipe σ own) H5 := envw.lessP (fun b hb => .inl hb) fun j v b e1 e2 => by
              obtain ⟨o, e3, b', e4, _, n2, _⟩ := envw.at_ j _ e1
              rw [e2] at e3
              cases e3
              cases e4
              rcases n2 with n2 | n2
              · exact n2
              · subst n2
                exact absurd e2 (niD j _ e1 rfl)
            have st6 : Step PL F2 H2 F5 H5 := stg.trans (st5.weak fun b hb => .inl hb)
            have st7 : Step PL F5 H5 F5 H6 := by
              rcases hH6 with ⟨rfl, _⟩ | rfl
              · exact Step.refl
              · exact step_own (g := s.g) hD5 nF5 nPD
            have env8 : REnv s.g PL F5 (wipeE own ρ4) (wipe σ own) H6 := by
              rcases hH6 with ⟨rfl, _⟩ | rfl
              · exact env7
              · exact env_own env7 hD5 nF5 nPD niD
            refine ⟨rfl, hlt, F5, wipeE own ρ4, acc ++ out, qr.1, av ++ ov, env8, niD, nF5, ?_, ?_, hlen, (st2.trans st6).trans st7, (lei.trans hle5).trans (LeE.wipe own ρ4), ?_, ?_⟩
            · rcases hH6 with ⟨rfl, rfl⟩ | rfl
              · rw [List.append_nil]
                exact hD5
              · exact upd_same
            · exact (RVs.mono (st6.trans st7) rva).append (RVs.mono st7 rvo)
            · rw [hp1] at r3
              rw [r3, ← r4b]
            · rw [← hp2, List.append_assoc]
              exact hcat
          by_cases hb : w.1 = true
          · rw [if_pos hb] at r8 ⊢
            obtain ⟨z, r9, r10⟩ := bind_ok r8
            cases r10
            refine ⟨fun b => PL b ∨ b = D, F4, w.2, env5, ?_⟩
            rw [show (SX.nx s).call = s.call from rfl, r9]
            intro F5 H5 st5 y env6 rv
            have hD5 : H5 D = some (.lst av) := (st4.trans st5).kP D _ (.inr rfl) (gr D _ hD2)
            have hal : av.length ≤ i := by rw [← rva.length]; exact hacc
            refine ⟨av, hD5, ?_, fin F5 H5 z.2 [z.1.1] [y] (st4.trans st5) env6 (.cons rv .nil) hle4 (by simp; omega) rfl rfl _ (.inr rfl)⟩
            have := sz_le hsz
            omega
          · rw [if_neg hb] at r8 ⊢
            cases r8
            exact fin F4 H4 w.2 [] [] st4 env5 .nil hle4 (by simp; omega) rfl rfl H4 (.inl ⟨rfl, rfl⟩)
        · have hie : i = ws.length := by omega
          subst hie
          rw [List.drop_length] at hrun
          have hr := Res.ok.inj hrun
          rw [Prod.mk.injEq] at hr
          obtain ⟨hr1, hr2⟩ := hr
          subst hr1
          rw [hr2] at envi lei
          rw [List.append_nil] at hcat
          rw [hcat] at rva
          refine .inl ⟨wk.stop F2 H2 srs2, ?_⟩
          have stP : Step P F1 H1 F2 H2 := st2.weak hP
          have envE : REnv s.g (fun a => P a ∨ lockA src p.2 σ a) F2 q.2 (wipe σ own) H2 := by
            rw [hPL]
            exact envi
          have envF := env1.unlock hfree hle stP envE
          refine k3.val F2 H2 stP (.ref D) envF (.inr ⟨rfl, D, rfl, nF2, fun z => nPD (hP D z), ⟨av, hD2, rva⟩, fun j sl e o e2 => ?_⟩)
          -- D stands in no slot of one's own
          obtain ⟨s0, e0, o0, _⟩ := (lc_le hfree hle).own j sl e o
          exact absurd (env1.ownThere e0 o0 e2).1 (by simp [hD])
  · exact k3.elim
end
end EV
set_option Elab.async false
set_option linter.all false
set_option autoImplicit false
set_option maxRecDepth 100000
/-! A comprehension whose first turn lets an exception out. -/
namespace EV
open PySem PySem.Spec PyProof.Rows L2
/-- what is asked where the block lets an exception out -/
def ErrOk (M : Model) (A : Around) (E : Value → Shared → Prop) (ce : PySem.Env) (x : Value) (sh : Shared) : Prop :=
  ∃ nm, sh.heap.Ns ce.locals nm ∧ ∀ hq, Heap.SameBut ce.locals sh.heap hq → wpAny M A (passOn "comprehension.variables-let-go" x ce : Sem Value) (fun _ _ => False) E { sh with heap := hq }
def ErrPost (M : Model) (A : Around) (E : Value → Shared → Prop) (ce : PySem.Env) : Result → Shared → Prop
  | .ok _, _ => False
  | .error x, sh => ErrOk M A E ce x sh
section
variable {prog : Program} {w : World} {A : Around} {E : Value → Shared → Prop} {env : PySem.Env} {s : Shared}
theorem comp_exc {M : Model} {cpr : Expr} {scope : Scope} {pos : Pos} {mk first : Sem Value} {c0 : Comprehension} {cs : List Comprehension} {clo : List (Str × Addr)} {Q : Value → Shared → Prop}
    (hcl : clausesOf cpr = c0 :: cs) (hs : ∀ x, foldedSetIterable c0.iter env x = pure x) (hclo : closureFor scope env = pure clo) (hk : scope.kind = .function) (hnm : ∀ y ∈ scope.names, y.2 = .local → scope.names.lookup y.1 = some .local)
    (h : wpAny M A first (fun x sa => wpAny M A (pyIter x) (fun it sb => wpAny M A mk (fun acc sc => wpAny M A (newFunctionEnv scope env.globals clo [] env.qual none .none (some env)) (fun ce sd =>
      codeAny M A (.compStart cpr 0 it acc { ce with scope := relabel scope env }) (ErrPost M A E { ce with scope := relabel scope env }) sd) E sc) E sb) E sa) E s) :
    wpAny M A (comprehension cpr scope env pos mk false first none) Q E s := by
  unfold comprehension
  rw [hclo, hcl]
  refine wpAny_bind (wpAny_mono h (fun x sa ha => wpAny_bind (wpAny_standAt (wpAny_bind (wpAny_of_eq (hs x) (wpAny_bind (wpAny_holding (wpAny_mono ha (fun it sb hb => wpAny_standIf
    (wpAny_bind (wpAny_mono hb (fun acc sc hc => wpAny_bind (wpAny_pure (wpAny_bind (wpAny_mono hc (fun ce sd hd => ?_) fun _ _ z => z)))) fun _ _ z => z))) fun _ _ z => z))))))) fun _ _ z => z)
  dsimp only
  have hv : ∀ y ∈ (scope.names.filter fun y => (y.2 == .local || y.2 == .cell) && y.1 != (".0" : Str)).reverse, y.2 = .local → PySem.Env.kindOf { ce with scope := relabel scope env } y.1 = some .local :=
    fun y hy hl => lookup_relabel_local (hnm y (List.mem_filter.mp (List.mem_reverse.mp hy)).1 hl)
  refine wpAny_holding (wpAny_bind (wpAny_attempt (wpAny_holding (wpAny_run (codeAny_mono hd fun r sh hr => ?_)))))
  cases r with
  | ok f => exact hr.elim
  | error x =>
    obtain ⟨nm, hn, hr⟩ := hr
    refine wpAny_bind (wpAny_holding (wpAny_comp_letGo (cenv := { ce with scope := relabel scope env }) hk _ sh nm hv hn fun hq m2 _ hsb => ?_))
    exact wpAny_mono (hr hq hsb) (fun _ _ f => f.elim) fun _ _ y => y
/-- noted by another frame -/
theorem looks_held {M : Model} {Z : Obj → Prop} {base : Heap} {outer : List PySem.Env} {L Lb e : Addr} {Q : Unit → Shared → Prop} (hZ : HandSPX.Steady Z) (hfr : A.frames = some (env :: outer)) (hf : env.frame = some L) (hne : Lb ≠ L) (hh : HandSPX.HeldZ base (env :: outer) e Z Lb s.heap)
    (hQ : ∀ hq, HandSPX.HeldZ base (env :: outer) e Z L hq → s.heap.UpToSlots hq → Q () { s with heap := hq }) : wpAny M A (noteFrame (.ref e) env) Q E s := by
  obtain ⟨kb, en, fl, oe, vs, T, oT, ts, he, hz, hd, e1, nT, Te, hT, dT, e3⟩ := hh
  unfold noteFrame
  simp only [hf]
  refine wpAny_bind (wpAny_field he hd e1 ?_)
  rw [if_pos (by simp : (Value.ref T != Value.none) = true)]
  refine wpAny_bind (wpAny_field hT dT e3 ?_)
  rw [if_neg (show ¬ ((rawInt Lb == rawInt L) = true) from fun z => hne (Int.ofNat_inj.mp (by simpa [rawInt] using z)))]
  refine wpAny_bind (wpAny_setField hT dT (Array.getElem?_eq_some_iff.mp e3).1 ?_)
  have oth : ∀ b, b ≠ T → (s.heap.update T (Obj.mapFields (·.setIfInBounds 3 Value.none))).get? b = s.heap.get? b := fun b hb => Heap.get?_update_other _ _ (Ne.symm hb)
  have nrec : ∀ b o, s.heap.get? b = some o → (∀ vs, o.data ≠ .fields vs) → b ≠ T := fun b o hb hnf q => by
    rw [q, hT] at hb
    cases hb
    exact hnf ts dT
  refine HandSPX.wpAny_entryZ hZ hfr (fl.of_keeps fun b o hb hnf => ⟨o, (oth b (nrec b o hb hnf)).trans hb, rfl⟩) hf ((oth e (Ne.symm Te)).trans he) (fun b o hbo => (oth b fun q => ?_).trans (kb b o hbo)) en hd (Array.getElem?_eq_some_iff.mp e1).1 hz fun hq hN => ?_
  · rw [q, nT] at hbo
    cases hbo
  · obtain ⟨x1, x2, x3, x4⟩ := hN
    exact hQ hq ⟨x1, en, x2, x3⟩ fun b o hb hnf => x4 b o ((oth b (nrec b o hb hnf)).trans hb) hnf
end
/-- a block whose exceptions are told -/
abbrev blkX (X : Cx) (sh : Shared) (H : Hp) (scope : Scope) (ce : PySem.Env) (fp : List Addr) : Cx := { X.blk sh H scope ce fp with xe := notedBy (model X.prog X.w) X.A ce (ErrOk (model X.prog X.w) X.A X.xe ce) }
theorem blk_takes {X : Cx} {pins : List (Addr × Obj)} {σ : L2.St} {H : Hp} {sh : Shared} {scope : Scope} {ce : PySem.Env} {fp : List Addr} {W : WX} (I : Inv X pins σ H sh) (stk : X.stack = X.env :: X.outer) (fr : X.env.frame = some X.env.locals) (tk : Takes X W) (hW : ∀ c d σ' H', W c d σ' H' → W c d σ H')
    (cL : ce.locals = sh.heap.objs.size) (cF : ce.frame = X.env.frame) (f3 : ∀ b ∈ fp, FpOk X pins H b ∧ b < sh.heap.objs.size) : Takes (blkX X sh H scope ce fp) W := by
  rintro u s1 ⟨a, B, sI, pins', σ', H', cls, d, rfl, I', nb, up, sky, na, os, ag, w⟩
  have IO : Inv X pins σ H' sI := I.call' (ch := fp) I'.os I'.base I'.hok I'.bare fun b hb => ⟨(f3 b hb).1.2.2.2.1, (f3 b hb).1.2.1, (f3 b hb).1.2.2.2.2.1, (f3 b hb).1.2.2.2.2.2⟩
  have nC : H' ce.locals = none := I'.free
  have fC : FpOk X pins H' ce.locals := by
    rw [cL] at nC ⊢
    exact I.fpOk (Nat.le_refl _) nC
  obtain ⟨_, c1, c2, c3, c4, c5⟩ := id fC
  have Cnf : ce.locals ∉ frs X.stack := fun hm => by
    rcases List.mem_cons.mp (IO.stkSub _ hm) with z | z
    · exact c1 z
    · exact c2 z
  have IO2 : Inv X pins σ H' { sI with heap := PySem.W.hideAll sI.heap [ce.locals], toks := sI.toks } := IO.turned (fun b o hb e => PySem.W.hideAll_get _ e (by simpa using hb)) nC c1 c3 c4 c5
  have hfr : X.A.frames = some (X.env :: X.outer) := by rw [IO.ok.frames, stk]
  have key : ∀ h1, HandSPX.HeldZ B (X.env :: X.outer) a (Zc cls d) X.env.locals h1 → s1.heap.UpToSlots h1 → ErrOk (model X.prog X.w) X.A X.xe ce (.ref a) { s1 with heap := h1 } := by
    rintro h1 ⟨k1, k2, k3, oe, vs, T, oT, ts, he, hz, hd, e1, nT, Te, hT, dT, e3⟩ up1
    have J : Inv (blkX X sh H scope ce fp) pins' σ' H' { s1 with heap := h1 } := I'.landed nb (s' := { s1 with heap := h1 }) k1 (up.trans up1) os ag
    obtain ⟨nm, hn, _⟩ := J.loc
    have hn : h1.Ns ce.locals nm := hn
    refine ⟨nm, hn, fun hq sb => ?_⟩
    obtain ⟨oC, esC, epC, hoC, hdC, _⟩ := id hn
    have aC : a ≠ ce.locals := fun z => by
      rw [z, hoC] at he
      cases he
      rw [hdC] at hd
      cases hd
    have TC : T ≠ ce.locals := fun z => by
      rw [z, hoC] at hT
      cases hT
      rw [hdC] at dT
      cases dT
    have he' : hq.get? a = some oe := (sb.2 a aC).trans he
    have hT' : hq.get? T = some oT := (sb.2 T TC).trans hT
    unfold PySem.passOn PySem.setFlight
    refine wpAny_bind (wpAny_field he' hd e1 ?_)
    rw [if_neg (by simp : ¬ ((Value.ref T == Value.none) = true))]
    refine wpAny_bind (wpAny_bind (wpAny_field he' hd e1 ?_))
    rw [if_pos (by simp : (Value.ref T != Value.none) = true)]
    have hsz := (Array.getElem?_eq_some_iff.mp e3).1
    refine wpAny_setField hT' dT hsz (wpAny_throw (tk _ _ ?_))
    have oth : ∀ b, b ≠ T → (hq.update T (Obj.mapFields (·.setIfInBounds 3 (ce.frame.elim Value.none fun f => rawInt f)))).get? b = hq.get? b := fun b hb => Heap.get?_update_other _ _ (Ne.symm hb)
    have nrec : ∀ b o, hq.get? b = some o → (∀ vs, o.data ≠ .fields vs) → b ≠ T := fun b o hb hnf q => by
      rw [q, hT'] at hb
      cases hb
      exact hnf ts dT
    refine ⟨a, PySem.W.hideAll B [ce.locals], _, pins, σ, H', cls, d, rfl, IO2, fun b o e hb => ?_, fun b o e hnf => ?_, ?_, na, os, ag, hW _ _ _ _ w⟩
    · have e0 := PySem.W.of_hideAll _ e
      refine PySem.W.hideAll_get _ (nb b o e0 hb) fun hm => ?_
      rw [PySem.W.hideAll_none _ hm] at e
      cases e
    · have e0 := PySem.W.of_hideAll _ e
      have bC : b ≠ ce.locals := fun z => by
        rw [PySem.W.hideAll_none _ (by simp [z])] at e
        cases e
      obtain ⟨sl, e2⟩ := (up.trans up1) b o e0 hnf
      have e4 : hq.get? b = some { o with slots := sl } := (sb.2 b bC).trans e2
      exact ⟨sl, (oth b (nrec b _ e4 hnf)).trans e4⟩
    · rw [stk]
      refine .inr (.inr ⟨fun b o e => ?_, ?_, ?_, oe, vs, T, _, _, (oth a (Ne.symm Te)).trans he', hz, hd, e1, ?_, Te, Heap.get?_update_self _ hT' (Obj.isFreed_of_fields (Obj.data_mapFields dT _)), Obj.data_mapFields dT _, ?_⟩)
      · have e0 := PySem.W.of_hideAll _ e
        have bC : b ≠ ce.locals := fun z => by
          rw [PySem.W.hideAll_none _ (by simp [z])] at e
          cases e
        have bT : b ≠ T := fun z => by
          rw [z, nT] at e0
          cases e0
        exact (oth b bT).trans ((sb.2 b bC).trans (k1 b o e0))
      · cases q : (PySem.W.hideAll B [ce.locals]).get? a with
        | none => rfl
        | some o =>
          have z := PySem.W.of_hideAll _ q
          rw [k2] at z
          cases z
      · have gen : ∀ l : List PySem.Env, (∀ b ∈ frs l, b ≠ ce.locals) → h1.FunFrames B l → (hq.update T (Obj.mapFields (·.setIfInBounds 3 (ce.frame.elim Value.none fun f => rawInt f)))).FunFrames (PySem.W.hideAll B [ce.locals]) l := by
          intro l
          induction l with
          | nil => exact fun _ _ => trivial
          | cons ev l ih =>
            rintro hl ⟨g1, ⟨L, o, hL, hb, ho, hnf⟩, g3⟩
            have hLm : L ∈ frs (ev :: l) := List.mem_filterMap.mpr ⟨ev, List.mem_cons_self, hL⟩
            have ho2 : hq.get? L = some o := (sb.2 L (hl L hLm)).trans ho
            refine ⟨g1, ⟨L, o, hL, ?_, (oth L (nrec L o ho2 hnf)).trans ho2, hnf⟩, ih (fun b hb' => hl b ?_) g3⟩
            · cases q : (PySem.W.hideAll B [ce.locals]).get? L with
              | none => rfl
              | some o2 =>
                have z := PySem.W.of_hideAll _ q
                rw [hb] at z
                cases z
            · obtain ⟨e, he, hq'⟩ := List.mem_filterMap.mp hb'
              exact List.mem_filterMap.mpr ⟨e, List.mem_cons_of_mem _ he, hq'⟩
        exact gen _ (fun b hb z => Cnf (by rw [stk, ← z]; exact hb)) k3
      · cases q : (PySem.W.hideAll B [ce.locals]).get? T with
        | none => rfl
        | some o =>
          have z := PySem.W.of_hideAll _ q
          rw [nT] at z
          cases z
      · rw [cF, fr]
        simp [hsz]
  have sky : Sky B X.stack a (Zc cls d) ce.locals s1.heap := sky
  rw [stk] at sky
  have hnote : noteFrame (.ref a) ce = noteFrame (.ref a) X.env := by
    unfold noteFrame PySem.frameOf
    rw [cF]
  show wpAny (model X.prog X.w) X.A (noteFrame (.ref a) ce) (fun _ s2 => ErrOk (model X.prog X.w) X.A X.xe ce (.ref a) s2) _ s1
  rw [hnote]
  rcases sky with ⟨hB, hn, hl, oe, vs, he, hz, hd, h1⟩ | fl | hh
  · exact HandSPX.look_newZ Zc.steady hfr hl fr he hB hn hd h1 hz key
  · exact HandSPX.looks_onZ Zc.steady hfr fr fl key
  · exact looks_held Zc.steady hfr fr c1 hh key
/-- the first turn lets an exception out -/
def tFst (wi : TI) (g : TG) (te : TE) (vs : List Nat) (σ : L2.St) (H : Hp) : Prop := wi σ H fun J Ha => ∀ D, Ha D = none → J.go 0 (upd Ha D (.lst [])) ∧ ∀ x Hb, J.yld 0 (upd Ha D (.lst [])) x Hb → g x (wipe σ vs) Hb fun σ2 Hc => te σ2 Hc fun _ _ => False
theorem inv_blkX {X : Cx} {pins : List (Addr × Obj)} {σ : L2.St} {H Hs : Hp} {s sh : Shared} {scope : Scope} {ce : PySem.Env} {fp : List Addr} (I : Inv (X.blk sh Hs scope ce fp) pins σ H s) : Inv (blkX X sh Hs scope ce fp) pins σ H s :=
  ⟨⟨I.ok.mod, I.ok.kind, I.ok.glob, I.ok.blt, I.ok.above, I.ok.inj, I.ok.has, I.ok.cab, I.ok.hd, I.ok.frames, I.ok.stk, I.ok.exf, I.ok.bs, I.ok.bsz, I.ok.noex, I.ok.exfs, I.ok.funs, I.ok.frf⟩, I.os, I.bare, I.base, I.loc, I.cell, I.free, I.freeC, I.pin, I.hok, I.len⟩
theorem lc_first {X : Cx} {pins : List (Addr × Obj)} {s : Shared} {σ : L2.St} {H : Hp} {el tg iter : Expr} {scope : Scope} {own : List (Str × Nat)} {pos pos' : Pos} {wi : TI} {g : TG} {te : TE} {W : WX} {Qf : Value → Shared → Prop}
    (hc : X.calm = true) (hN : X.N.Nodup) (I : Inv X pins σ H s) (hi : PI X tg iter wi) (ok : BlkOk X.N X.env.scope scope own) (stk : X.stack = X.env :: X.outer) (fr : X.env.frame = some X.env.locals) (tk : Takes X W) (hW : ∀ c d σ' H', W c d σ' H' → W c d σ H')
    (hg : ∀ (sh : Shared) (H : Hp) (Cc : Addr) (cl : List (Str × Addr)) (fp : List Addr), Takes (blkX X sh H scope (compEnvC scope cl Cc X.env) fp) W → PG (blkX X sh H scope (compEnvC scope cl Cc X.env) fp) tg g)
    (he : ∀ (sh : Shared) (H : Hp) (Cc : Addr) (cl : List (Str × Addr)) (fp : List Addr), Takes (blkX X sh H scope (compEnvC scope cl Cc X.env) fp) W → PE (blkX X sh H scope (compEnvC scope cl Cc X.env) fp) el te)
    (hs : ∀ x, foldedSetIterable iter X.env x = pure x) (h : tFst wi g te (own.map (·.2)) σ H) :
    wpAny (model X.prog X.w) X.A (comprehension (.ListComp el [⟨tg, iter, [], 0⟩] scope pos) scope X.env pos' (newList []) false (eval iter X.env) none) Qf X.xe s := by
  have free_ok : ∀ y ∈ scope.names, y.2 = .free → ∃ c, X.env.cells.lookup y.1 = some c := by
    intro y hy e
    rcases ok.free y hy e with k | k
    · exact I.ok.has _ (.inl k)
    · exact I.ok.has _ (.inr k)
  refine comp_exc rfl hs (closure_ok free_ok) ok.kind (fun y hy e => (ok.uniq y hy).trans (congrArg some e)) (thn (hi.run pins s σ H _ I h) fun xv sa hx => thn hx fun itv sb hsb => ?_)
  obtain ⟨it, fp, tn, J, Hb, rfl, Ib, T, stb, fb, q⟩ := hsb
  refine wpAny_newObj_type (newEnv_comp ?_) (by show 0 ≤ sizeLine; decide)
  generalize hD : sb.heap.objs.size = D
  obtain ⟨go, step⟩ := q D (Ib.hok.fresh (Nat.le_of_eq hD))
  generalize hsc : ({ sb with heap := sb.heap.push { cls := .type "list", data := .seq ([] : List Value).toArray } } : Shared) = sc
  have hsc' : sc.heap = sb.heap.push { cls := .type "list", data := .seq ([] : List Value).toArray } := by rw [← hsc]
  have Ic : Inv X pins σ (upd Hb D (.lst [])) sc := by
    rw [← hsc]
    refine Ib.laid (t' := sb.toks) (fun b o e => Heap.get?_push_of_some _ e) (Nat.le_of_eq hD) ⟨Nat.zero_le _, [], 0, .nil, ?_⟩
    rw [← hD]
    exact Heap.get?_push_size _ rfl
  have fc : ∀ b ∈ fp, FpOk X pins (upd Hb D (.lst [])) b ∧ b < sc.heap.objs.size := by
    intro b hb
    obtain ⟨o, e, _⟩ := T.obj _ _ stb b hb
    have hlt := Heap.lt_size e
    refine ⟨⟨?_, (fb b hb).2⟩, by rw [hsc', Heap.size_push]; exact Nat.lt_succ_of_lt hlt⟩
    rw [upd_ne (by rw [← hD]; exact Nat.ne_of_lt hlt)]
    exact (fb b hb).1
  have stc : tn 0 sc.heap := T.keep _ _ _ stb fun b _ o e => by
    rw [hsc']
    exact Heap.get?_push_of_some _ e
  have Id := inv_blkX (block_start Ic ok hN fc)
  have tb : Takes (blkX X sc (upd Hb D (.lst [])) scope (compEnvC scope (cellsFrom (sc.heap.objs.size + 1) scope.names (cloFrom X.env.cells scope.names [])) sc.heap.objs.size X.env) fp) W := blk_takes Ic stk fr tk hW rfl rfl fc
  have pg := hg sc (upd Hb D (.lst [])) sc.heap.objs.size (cellsFrom (sc.heap.objs.size + 1) scope.names (cloFrom X.env.cells scope.names [])) fp tb
  have pe := he sc (upd Hb D (.lst [])) sc.heap.objs.size (cellsFrom (sc.heap.objs.size + 1) scope.names (cloFrom X.env.cells scope.names [])) fp tb
  show codeAny _ _ (.compStart (.ListComp el [⟨tg, iter, [], 0⟩] scope pos) 0 (.ref it) (.ref D) (compEnvC scope (cellsFrom (sc.heap.objs.size + 1) scope.names (cloFrom X.env.cells scope.names [])) sc.heap.objs.size X.env))
    (ErrPost (model X.prog X.w) X.A X.xe (compEnvC scope (cellsFrom (sc.heap.objs.size + 1) scope.names (cloFrom X.env.cells scope.names [])) sc.heap.objs.size X.env)) { sc with heap := pushCells (sc.heap.push { cls := .type "dict", data := .dict #[] }) scope.names }
  generalize compEnvC scope (cellsFrom (sc.heap.objs.size + 1) scope.names (cloFrom X.env.cells scope.names [])) sc.heap.objs.size X.env = ce at Id pg pe ⊢
  generalize hHc : upd Hb D (.lst []) = Hc at Id pg pe fc go step ⊢
  generalize hsd : ({ sc with heap := pushCells (sc.heap.push { cls := .type "dict", data := .dict #[] }) scope.names } : Shared) = sd at Id ⊢
  have std : tn 0 sd.heap := T.keep _ _ _ stc fun b _ o e => by
    rw [← hsd]
    exact pushCells_keeps _ _ _ _ (Heap.get?_push_of_some _ e)
  have stat : ∀ {σ' : L2.St} {H' : Hp} {s' : Shared}, Inv (blkX X sc Hc scope ce fp) [] σ' H' s' → (∀ b ∈ fp, H' b = none) → ∀ b ∈ fp, FpOk (blkX X sc Hc scope ce fp) [] H' b := by
    intro σ' H' s' I' hn b hb
    exact ⟨hn b hb, (I'.ok.exf b hb).1, I'.ok.exfs b hb, .inl hb, fun x c e => (I'.ok.exf b hb).2 x c e, fun p hp => by cases hp⟩
  have loop : codeAny (model X.prog X.w) X.A (.compLoop (.ListComp el [⟨tg, iter, [], 0⟩] scope pos) 0 (.ref it) (.ref D) ce) (ErrPost (model X.prog X.w) X.A X.xe ce) sd := by
    refine compLoop_any (fun _ s' => s' = sd) ?_ 0 rfl
    rintro n _ rfl
    have ti := T.item (blkX X sc Hc scope ce fp) rfl rfl rfl hc 0 [] _ _ Hc (fun _ _ => False) Id (stat Id fun b hb => (fc b hb).1.1) std go
    refine thnF ti fun r s6 ⟨u, hr, h6⟩ => ?_
    subst hr
    refine thnF h6 fun _ s7 ⟨x, H7, I7, r7, y7, st7, n7⟩ => ?_
    refine thn (pg.run _ s7 _ H7 x u _ I7 r7 (step x H7 y7)) fun _ s8 ⟨σ8, H8, I8, q8⟩ => ?_
    refine thn (wpAny_tests_nil (Q := fun b s' => b = true ∧ s' = s8) ⟨rfl, rfl⟩) fun b s9 ⟨hb, hs9⟩ => ?_
    subst hb hs9
    rw [if_pos rfl]
    exact thn (pe.run _ _ σ8 H8 _ I8 q8) fun z s10 ⟨_, _, _, _, f⟩ => f.elim
  exact codeAny_compStart_list loop (T.self X.A 0 _ _ _ std loop)
end EV
set_option Elab.async false
set_option linter.all false
set_option autoImplicit false
set_option maxRecDepth 100000
/-! Comprehensions as expressions; walks. -/
namespace EV
open PySem PySem.Spec PyProof.Rows L2
abbrev SC.blk (C : SC) (scope : Scope) : SC := { C with sc := relS scope C.sc, fnb := fun x => scope.names.lookup x == some .cell, top := false }
section
variable {C : SC} {s : SX} {k : Nat} {X : Cx} {e e1 e2 e3 : Expr} {t1 t2 t3 : E} {pos : Pos}
theorem Ok.blk (ok : Ok C s k X) {scope : Scope} (hs : scope.kind = .function) (sh : Shared) (H : Hp) (Cc : Addr) (cl : List (Str × Addr)) (fp : List Addr) : Ok (C.blk scope) s.nx k (X.blk sh H scope (compEnvC scope cl Cc X.env) fp) := by
  refine ⟨ok.pr, ok.w, ok.K, ok.mg, ok.base, ok.N, ?_, ok.nd, ?_, ok.calm, fun _ => rfl, ok.room, ?_, ok.k0, fun z => by cases z⟩
  · show relS scope X.env.scope = relS scope C.sc
    rw [ok.sc]
  · exact hs
  · exact takes0.imp fun c d σ H h => h.2
theorem evIfs_one {c : CallT} {t : E} {ρ : EV.Env} : evIfs c [t] ρ = tst c t ρ := by
  simp only [evIfs, tst]
  cases evE c t ρ with
  | ok r =>
    obtain ⟨⟨v, o⟩, ρ1⟩ := r
    cases v with
    | bl b => cases b <;> simp
    | _ => simp
  | exc _ _ => rfl
  | bad => rfl
/-- the tests of a clause -/
inductive DIfs (s : SX) (X : Cx) : List Expr → List E → Prop
  | nil : DIfs s X [] []
  | one {e : Expr} {t : E} (h : DE s X e t) : DIfs s X [e] [t]
theorem DIfs.pts {es : List Expr} {ts : List E} (h : DIfs s X es ts) : PTs X es (TTs s ts) := by
  cases h with
  | nil => exact ⟨fun pins sh σ H Q I ⟨P, F, ρ, env, a⟩ => pts_nil.run pins sh σ H Q I (a.now env)⟩
  | one h =>
    refine ⟨fun pins sh σ H Q I ⟨P, F, ρ, env, a⟩ => (pts_one h.tst).run pins sh σ H Q I ⟨P, F, ρ, env, ?_⟩⟩
    rw [evIfs_one] at a
    exact a
/-- the derivation of what is walked -/
structure DI (s : SX) (X : Cx) (tg iter : Expr) (k : IK) (src : List E) : Prop where
  pb : PI X tg iter (iKd s.g k (TBs s src))
  pa : PI X tg iter (iKd s.g k (TAs s src))
  set : ∀ env x, foldedSetIterable iter env x = pure x
theorem di_seq {tg : Expr} (ok : Ok C s k X) (h : DE s X e t1) (hset : ∀ env x, foldedSetIterable e env x = pure x) : DI s X tg e .seq [t1] := by
  refine ⟨piI (pi_seq ok.K h.opr) fun σ H R ⟨P, F, ρ, env, a⟩ => ?_, piI (pi_seq ok.K (peFz h.val)) fun σ H R ⟨P, F, ρ, env, a⟩ => ?_, hset⟩
  · simp only [evBs] at a
    refine ⟨P, F, ρ, env, (Ans.bind a).mono fun p F1 H1 st k1 x env1 o => ?_⟩
    exact (k1 F1 H1 Step.refl).now [x] env1 (.cons o .nil)
  · simp only [evEs] at a
    refine ⟨P, F, ρ, env, (Ans.bind a).mono fun p F1 H1 st k1 x env1 o => ?_⟩
    exact (k1 F1 H1 Step.refl).now [x] env1 (.cons o .nil)
theorem set_call {f : Expr} {es : List Expr} {kw : List Keyword} : ∀ env x, foldedSetIterable (.Call f es kw pos) env x = pure x := fun _ _ => rfl
theorem di_rng1 {tg : Expr} {p : Pos} (ok : Ok C s k X) (hg : Gl X "range") (hm : X.mg "range" = none) (h1 : DE s X e1 t1) : DI s X tg (.Call (.Name "range" p) [e1] [] pos) .rng1 [t1] := by
  have hd : DEs s X [e1] [t1] := .cons h1 .nil
  exact ⟨pi_rng1 tbs_mono hg hm hd.pb (h1.star _ _), pi_rng1 tas_mono hg hm hd.pa (h1.star _ _), set_call⟩
theorem di_rng2 {tg : Expr} {p : Pos} (ok : Ok C s k X) (hg : Gl X "range") (hm : X.mg "range" = none) (h1 : DE s X e1 t1) (h2 : DE s X e2 t2) : DI s X tg (.Call (.Name "range" p) [e1, e2] [] pos) .rng2 [t1, t2] := by
  have hd : DEs s X [e1, e2] [t1, t2] := .cons h1 (.cons h2 .nil)
  have q2 : starEach [e2] X.env = [(false, eval e2 X.env)] := h2.star _ _
  have q1 : starEach [e1, e2] X.env = [(false, eval e1 X.env), (false, eval e2 X.env)] := by rw [h1.star, q2]
  exact ⟨pi_rng2 tbs_mono hg hm hd.pb q1 q2, pi_rng2 tas_mono hg hm hd.pa q1 q2, set_call⟩
theorem di_rng3 {tg : Expr} {p : Pos} (ok : Ok C s k X) (hg : Gl X "range") (hm : X.mg "range" = none) (h1 : DE s X e1 t1) (h2 : DE s X e2 t2) (h3 : DE s X e3 t3) : DI s X tg (.Call (.Name "range" p) [e1, e2, e3] [] pos) .rng3 [t1, t2, t3] := by
  have hd : DEs s X [e1, e2, e3] [t1, t2, t3] := .cons h1 (.cons h2 (.cons h3 .nil))
  have hd2 : DEs s X [e2, e3] [t2, t3] := .cons h2 (.cons h3 .nil)
  exact ⟨pi_rng3 tbs_mono hg hm hd.pb (h1.star _ _) (hd2.plain _ _), pi_rng3 tas_mono hg hm hd.pa (h1.star _ _) (hd2.plain _ _), set_call⟩
theorem di_enum {elts : List Expr} {kk : Nat} {tpos p : Pos} (ok : Ok C s k X) (hg : Gl X "enumerate") (hm : X.mg "enumerate" = none) (h1 : DE s X e1 t1) : DI s X (.Tuple elts kk tpos) (.Call (.Name "enumerate" p) [e1] [] pos) .enum [t1] := by
  have hd : DEs s X [e1] [t1] := .cons h1 .nil
  exact ⟨pi_enumA ok.K hg hm hd.pb (h1.star _ _), pi_enumA ok.K hg hm hd.pa (h1.star _ _), set_call⟩
theorem di_zip {elts : List Expr} {kk : Nat} {tpos p : Pos} (ok : Ok C s k X) (hg : Gl X "zip") (hm : X.mg "zip" = none) (h1 : DE s X e1 t1) (h2 : DE s X e2 t2) : DI s X (.Tuple elts kk tpos) (.Call (.Name "zip" p) [e1, e2] [] pos) .zip [t1, t2] := by
  have hd : DEs s X [e1, e2] [t1, t2] := .cons h1 (.cons h2 .nil)
  have hd2 : DEs s X [e2] [t2] := .cons h2 .nil
  exact ⟨pi_zipK ok.K tbs_mono hg hm hd.pb (h1.star _ _) (hd2.plain _ _), pi_zipK ok.K tas_mono hg hm hd.pa (h1.star _ _) (hd2.plain _ _), set_call⟩
/-- what a comprehension asks of its parts -/
structure LcOk (s : SX) (X : Cx) (elt tg iter : Expr) (ifs : List Expr) (scope : Scope) (own : List (Str × Nat)) (t : T) (kd : IK) (src tifs : List E) (telt : E) : Prop where
  di : DI s X tg iter kd src
  blk : BlkOk X.N X.env.scope scope own
  hg : ∀ (sh : Shared) (H : Hp) (Cc : Addr) (cl : List (Str × Addr)) (fp : List Addr), DT s.nx (X.blk sh H scope (compEnvC scope cl Cc X.env) fp) tg t
  ht : ∀ (sh : Shared) (H : Hp) (Cc : Addr) (cl : List (Str × Addr)) (fp : List Addr), DIfs s.nx (X.blk sh H scope (compEnvC scope cl Cc X.env) fp) ifs tifs
  he : ∀ (sh : Shared) (H : Hp) (Cc : Addr) (cl : List (Str × Addr)) (fp : List Addr), DE s.nx (X.blk sh H scope (compEnvC scope cl Cc X.env) fp) elt telt
  own : ∀ i ∈ t.slots, i ∈ own.map (·.2)
  pr : kd.pr = true → t.isTup = true
theorem d_lc {elt tg iter : Expr} {ifs : List Expr} {scope : Scope} {own : List (Str × Nat)} {t : T} {kd : IK} {src tifs : List E} {telt : E} (ok : Ok C s k X) (h : LcOk s X elt tg iter ifs scope own t kd src tifs telt) :
    DE s X (.ListComp elt [⟨tg, iter, ifs, 0⟩] scope pos) (.lc (own.map (·.2)) t kd src tifs telt) := by
  have hp : PE X (.ListComp elt [⟨tg, iter, ifs, 0⟩] scope pos) (TEv s (.lc (own.map (·.2)) t kd src tifs telt)) :=
    peI (pe_lc ok.calm (by rw [ok.N]; exact ok.nd) h.di.pb h.blk (fun sh H Cc cl fp => (h.hg sh H Cc cl fp).pg kd.pr) (fun sh H Cc cl fp => (h.ht sh H Cc cl fp).pts) (fun sh H Cc cl fp => peFz (h.he sh H Cc cl fp).val) (h.di.set X.env)) (ev_lc h.own h.pr)
  exact ⟨hp, peOpd hp (by intros; simp), peTst hp (fun _ => rfl), fun _ _ => rfl, fun _ _ _ z => by cases z⟩
end
end EV
set_option Elab.async false
set_option linter.all false
set_option autoImplicit false
set_option maxRecDepth 100000
/-! A comprehension that may let an exception out of its first turn. -/
namespace EV
open PySem PySem.Spec PyProof.Rows L2
section
variable {C : SC} {s : SX} {k : Nat} {X : Cx} {pos : Pos}
theorem Ok.blkX (ok : Ok C s k X) {scope : Scope} (hs : scope.kind = .function) (sh : Shared) (H : Hp) (Cc : Addr) (cl : List (Str × Addr)) (fp : List Addr) (tb : Takes (EV.blkX X sh H scope (compEnvC scope cl Cc X.env) fp) (fun c d σ H => σ.length = X.N.length ∧ s.W c d H)) : Ok (C.blk scope) s k (EV.blkX X sh H scope (compEnvC scope cl Cc X.env) fp) := by
  refine ⟨ok.pr, ok.w, ok.K, ok.mg, ok.base, ok.N, ?_, ok.nd, hs, ok.calm, fun _ => rfl, ok.room, tb, ok.k0, fun z => by cases z⟩
  show relS scope X.env.scope = relS scope C.sc
  rw [ok.sc]
structure LxOk (s : SX) (X : Cx) (elt tg iter : Expr) (scope : Scope) (own : List (Str × Nat)) (t : T) (kd : IK) (src : List E) (telt : E) : Prop where
  lc : LcOk s X elt tg iter [] scope own t kd src [] telt
  hg : ∀ (sh : Shared) (H : Hp) (Cc : Addr) (cl : List (Str × Addr)) (fp : List Addr), Takes (EV.blkX X sh H scope (compEnvC scope cl Cc X.env) fp) (fun c d σ H => σ.length = X.N.length ∧ s.W c d H) → DT s (EV.blkX X sh H scope (compEnvC scope cl Cc X.env) fp) tg t
  he : ∀ (sh : Shared) (H : Hp) (Cc : Addr) (cl : List (Str × Addr)) (fp : List Addr), Takes (EV.blkX X sh H scope (compEnvC scope cl Cc X.env) fp) (fun c d σ H => σ.length = X.N.length ∧ s.W c d H) → DE s (EV.blkX X sh H scope (compEnvC scope cl Cc X.env) fp) elt telt
abbrev turnX (s : SX) (t : T) (elt : E) : PV → EV.Env → Res (Option PV × EV.Env) := fun x ρ1 => (asgT t x ρ1).bind fun ρ2 => (evE s.call elt ρ2).bind fun r => .ok (some r.1.1, r.2)
theorem ev_first {own : List Nat} {t : T} {kd : IK} {src : List E} {elt : E} (hpr : kd.pr = true → t.isTup = true) {σ : L2.St} {H : Hp} {P F : AS} {ρ : EV.Env} {p : List Opd × EV.Env} {ss ws : List PV} {c : Nat} {a : PV} {K : VO × EV.Env → AS → Hp → Prop} (env : REnv s.g P F ρ σ H) (hw : Ans s.g s.W P F H (.exc c a) K)
    (eqp : evBs s.call src ρ = .ok p) (g1 : rdOs p.1 p.2 = .ok ss) (g2 : itemsOf kd ss = .ok ws) (hf : fstX (turnX s t elt) ws (wipeE own (lockE src p.2)) = some (c, a)) : tFst (iKd s.g kd (TBs s src)) (TGv s t kd.pr) (TFz s elt) own σ H := by
  refine ⟨P, F, ρ, env, ?_⟩
  rw [eqp]
  intro F1 H1 st1 xs env1 os
  cases ws with
  | nil => cases hf
  | cons v ws =>
    have hv1 : turnX s t elt v (wipeE own (lockE src p.2)) = .exc c a := by
      simp only [fstX] at hf
      cases hv : turnX s t elt v (wipeE own (lockE src p.2)) with
      | exc c' a' =>
        rw [hv] at hf
        cases hf
        rfl
      | ok z => rw [hv] at hf; cases hf
      | bad => rw [hv] at hf; cases hf
    obtain ⟨ρ2, r5, r7⟩ : ∃ ρ2, asgT t v (wipeE own (lockE src p.2)) = .ok ρ2 ∧ evE s.call elt ρ2 = .exc c a := by
      unfold turnX at hv1
      cases h1 : asgT t v (wipeE own (lockE src p.2)) with
      | exc c' a' => exact absurd h1 (asgT_ne _ _ _ c' a')
      | bad => rw [h1] at hv1; cases hv1
      | ok ρ2 =>
        rw [h1, Res.bind_ok] at hv1
        refine ⟨ρ2, rfl, ?_⟩
        cases h2 : evE s.call elt ρ2 with
        | exc c' a' =>
          rw [h2] at hv1
          cases hv1
          rfl
        | bad => rw [h2] at hv1; cases hv1
        | ok r => rw [h2] at hv1; cases hv1
    generalize hPL : (fun a => P a ∨ lockA src p.2 σ a) = PL
    have hP : ∀ a, P a → PL a := fun a h => by
      subst hPL
      exact .inl h
    have envL : REnv s.g PL F1 (wipeE own (lockE src p.2)) (wipe σ own) H1 := by
      have := (env1.lock src).wipe own
      rw [hPL] at this
      exact this
    have srs : SRs s.g PL F1 H1 ss xs := by
      have := src_rs (src := src) env1 os g1 fun i hi => evBs_sl eqp hi
      rw [hPL] at this
      exact this
    refine ⟨PL, F1, ss, v :: ws, srs, g2, fun J wk D hD => ?_⟩
    have gr := grow_upd (o := .lst []) hD
    have srs1 := srs.mono (Step.grow gr)
    have hlt : 0 < (v :: ws).length := by simp
    refine ⟨wk.go 0 F1 _ srs1 hlt, fun x H3 hy => ?_⟩
    obtain ⟨v', hv, gr3, ri⟩ := wk.yld 0 F1 _ x H3 srs1 hlt hy
    have hv : v = v' := Option.some.inj hv
    subst hv
    refine ⟨PL, F1, wipeE own (lockE src p.2), v, ρ2, (envL.grow gr).grow gr3, ri, hpr, r5, fun σ2 env4 ss2 => ⟨PL, F1, ρ2, env4, ?_⟩⟩
    rw [r7]
    exact fun F5 H5 cls d st5 nn xr => hw F5 H5 cls d (st1.trans ((((Step.grow gr).trans (Step.grow gr3)).trans st5).weak hP)) nn xr
theorem lcx_lc {c : CallT} {own : List Nat} {t : T} {kd : IK} {src : List E} {elt : E} {ρ : EV.Env} (h : ∀ p ss ws ca, evBs c src ρ = .ok p → rdOs p.1 p.2 = .ok ss → itemsOf kd ss = .ok ws → (ws.length ≤ szl ∧ ownFree own p.2 = true) → fstX (fun x ρ1 => (asgT t x ρ1).bind fun ρ2 => (evE c elt ρ2).bind fun r => .ok (some r.1.1, r.2)) ws (wipeE own (lockE src p.2)) ≠ some ca) :
    evE c (.lcx own t kd src elt) ρ = evE c (.lc own t kd src [] elt) ρ := by
  simp only [evE]
  cases h1 : evBs c src ρ with
  | exc _ _ => rfl
  | bad => rfl
  | ok p =>
    simp only [Res.bind_ok]
    cases h2 : rdOs p.1 p.2 with
    | exc _ _ => rfl
    | bad => rfl
    | ok ss =>
      simp only [Res.bind_ok]
      cases h3 : itemsOf kd ss with
      | exc _ _ => rfl
      | bad => rfl
      | ok ws =>
        simp only [Res.bind_ok]
        by_cases hc : ws.length ≤ szl ∧ ownFree own p.2 = true
        · rw [if_pos hc, if_pos hc]
          cases h4 : fstX (fun x ρ1 => (asgT t x ρ1).bind fun ρ2 => (evE c elt ρ2).bind fun r => .ok (some r.1.1, r.2)) ws (wipeE own (lockE src p.2)) with
          | some ca => exact absurd h4 (h p ss ws ca h1 h2 h3 hc)
          | none => rfl
        · rw [if_neg hc, if_neg hc]
theorem d_lcx {elt tg iter : Expr} {scope : Scope} {own : List (Str × Nat)} {t : T} {kd : IK} {src : List E} {telt : E} (ok : Ok C s k X) (ht : C.top = true) (h : LxOk s X elt tg iter scope own t kd src telt) : DE s X (.ListComp elt [⟨tg, iter, [], 0⟩] scope pos) (.lcx (own.map (·.2)) t kd src telt) := by
  have hp : PE X (.ListComp elt [⟨tg, iter, [], 0⟩] scope pos) (TEv s (.lcx (own.map (·.2)) t kd src telt)) := ⟨fun pins sh σ H Q I ⟨P, F, ρ, env, a⟩ => by
    by_cases hx : ∃ p ss ws ca, evBs s.call src ρ = .ok p ∧ rdOs p.1 p.2 = .ok ss ∧ itemsOf kd ss = .ok ws ∧ (ws.length ≤ szl ∧ ownFree (own.map (·.2)) p.2 = true) ∧ fstX (turnX s t telt) ws (wipeE (own.map (·.2)) (lockE src p.2)) = some ca
    · obtain ⟨p, ss, ws, ca, h1, h2, h3, h4, h5⟩ := hx
      have ea : evE s.call (.lcx (own.map (·.2)) t kd src telt) ρ = .exc ca.1 ca.2 := by
        simp only [evE, h1, h2, h3, Res.bind_ok]
        rw [if_pos h4]
        unfold turnX at h5
        rw [h5]
      rw [ea] at a
      rw [eval_ListComp]
      exact lc_first ok.calm (by rw [ok.N]; exact ok.nd) I h.lc.di.pb h.lc.blk (ok.fr ht).1 (ok.fr ht).2 ok.tk (fun c d σ' H' w => ⟨I.len, w.2⟩) (fun sh H Cc cl fp tb => (h.hg sh H Cc cl fp tb).pg kd.pr) (fun sh H Cc cl fp tb => peFz (h.he sh H Cc cl fp tb).val) (h.lc.di.set X.env) (ev_first h.lc.pr env a h1 h2 h3 h5)
    · rw [lcx_lc fun p ss ws ca h1 h2 h3 h4 h5 => hx ⟨p, ss, ws, ca, h1, h2, h3, h4, h5⟩] at a
      exact (d_lc (pos := pos) ok h.lc).val.run pins sh σ H Q I ⟨P, F, ρ, env, a⟩⟩
  exact ⟨hp, peOpd hp (by intros; simp), peTst hp (fun _ => rfl), fun _ _ => rfl, fun _ _ _ z => by cases z⟩
end
end EV
set_option Elab.async false
set_option linter.all false
set_option autoImplicit false
set_option maxRecDepth 100000
/-! Statements. -/
namespace EV
open PySem PySem.Spec PyProof.Rows L2
/-- the first slot holds what it held -/
def KP (s : SX) (σ : L2.St) : Prop := ∀ a, s.k0 = some a → σ[0]? = some (some (.ref a))
theorem KP.same {s : SX} {is : List Nat} {σ σ' : L2.St} (k : KP s σ) (h : SameS is σ σ') (n : 0 ∉ is ∨ s.k0 = none) : KP s σ' := fun a e => by
  rcases n with n | n
  · rw [h.out 0 n]
    exact k a e
  · rw [n] at e
    cases e
theorem KP.set {s : SX} {i : Nat} {x : Option V} {σ : L2.St} (k : KP s σ) (n : i ≠ 0 ∨ s.k0 = none) : KP s (σ.set i x) := k.same SameS.set (n.imp (fun z => by simpa using fun e => z e.symm) id)
/-- where a statement leads -/
def FlK (s : SX) (P : AS) (D : Ends) (fl : Fl) (F : AS) (H : Hp) : Prop := match fl with
  | .nx ρ => ∀ σ, REnv s.g P F ρ σ H → KP s σ → D.nx σ H
  | .bk ρ => ∀ σ, REnv s.g P F ρ σ H → KP s σ → D.bk σ H
  | .ct ρ => ∀ σ, REnv s.g P F ρ σ H → KP s σ → D.ct σ H
  | .rt r ρ => ∀ σ x, REnv s.g P F ρ σ H → KP s σ → RRes s.g P σ F ρ H r x → D.rt x H
def TSv (s : SX) (S : S) : TS := fun D σ H => ∃ P F ρ, REnv s.g P F ρ σ H ∧ KP s σ ∧ Ans s.g s.W P F H (exS s.call S ρ) (FlK s P D)
def TSsv (s : SX) (Ss : List S) : TS := fun D σ H => ∃ P F ρ, REnv s.g P F ρ σ H ∧ KP s σ ∧ Ans s.g s.W P F H (exSs s.call Ss ρ) (FlK s P D)
/-- around statements -/
structure OkS (X : Cx) : Prop where
  own : PassesOwn (model X.prog X.w) X.A X.env X.xe
  stk : X.stack = X.env :: X.outer
  fr : X.env.frame = some X.env.locals
section
variable {C : SC} {s : SX} {k : Nat} {X : Cx} {e e1 e2 e3 : Expr} {t t1 t2 t3 : E} {pos : Pos}
/-! ### blocks -/
inductive DSs (s : SX) (X : Cx) : List Stmt → List S → Prop
  | nil : DSs s X [] []
  | cons {st : Stmt} {sts : List Stmt} {t : S} {ts : List S} (h : PS X st (TSv s t)) (r : DSs s X sts ts) : DSs s X (st :: sts) (t :: ts)
  /-- a text that stands alone -/
  | skip {st : Stmt} {sts : List Stmt} {ts : List S} (h : PS X st tNext) (r : DSs s X sts ts) : DSs s X (st :: sts) ts
theorem DSs.pss {sts : List Stmt} {ts : List S} (h : DSs s X sts ts) : PSs X sts (TSsv s ts) := by
  induction h with
  | nil => exact pssI pss_nil fun D σ H ⟨P, F, ρ, env, kp, a⟩ => a.now σ env kp
  | cons h r ih =>
    refine pssI (pss_cons h ih) fun D σ H ⟨P, F, ρ, env, kp, a⟩ => ?_
    simp only [exSs] at a
    refine ⟨P, F, ρ, env, kp, (Ans.bind a).mono fun fl F1 H1 st k1 => ?_⟩
    have k2 := k1 F1 H1 Step.refl
    cases fl with
    | nx ρ' => exact fun σ' env' kp' => ⟨P, F1, ρ', env', kp', k2⟩
    | bk ρ' => exact fun σ' env' kp' => k2.now σ' env' kp'
    | ct ρ' => exact fun σ' env' kp' => k2.now σ' env' kp'
    | rt r ρ' => exact fun σ' x env' kp' rr => k2.now σ' x env' kp' rr
  | skip h r ih => exact pssI (pss_cons h ih) fun D σ H w => w
/-! ### stores -/
theorem REnv.put {g : GE} {P F : AS} {ρ : EV.Env} {σ : L2.St} {H : Hp} {i : Nat} {r : VO} {x : V} (env : REnv g P F ρ σ H) (h : RRes g P σ F ρ H r x) : REnv g P F (stoV i r ρ) (σ.set i (some x)) H := by
  rcases h with ⟨h1, h⟩ | ⟨h1, a, rfl, n1, n2, oa, ni⟩
  · unfold stoV
    rw [h1]
    exact env.setS h
  · unfold stoV
    rw [h1]
    exact env.setO n1 n2 oa fun j sl hj e o => ni j sl e o
theorem ev_asg {i : Nat} {te : TE} {D : Ends} {σ : L2.St} {H : Hp} (h0 : i ≠ 0 ∨ s.k0 = none) (hv : ∀ Q, TEv s t σ H Q → te σ H Q) (h : TSv s (.asg (.v i) t) D σ H) : tAsg te (gName i) D σ H := by
  refine hv _ ?_
  obtain ⟨P, F, ρ, env, kp, a⟩ := h
  simp only [exS] at a
  exact ⟨P, F, ρ, env, (Ans.bind a).mono fun r F1 H1 st k1 x env1 rr => (k1 F1 H1 Step.refl).now _ (env1.put rr) (kp.set h0)⟩
theorem ps_asgN {i : Nat} {x : Str} {px : Pos} (ok : Ok C s k X) (h0 : i ≠ 0 ∨ s.k0 = none) (h : DE s X e t) (hi : X.N[i]? = some x) (hx : Loc X.env.scope x) (hf : X.fn x = true ∨ X.env.scope.names.lookup x = some .local) (hs : swapsWith e (some (.Name x px)) pos.line X.env = pure false) :
    PS X (.Assign [.Name x px] e pos) (TSv s (.asg (.v i) t)) := psI (ps_set (by rw [ok.N]; exact ok.nd) hi hx h.val hs hf) fun D σ H w => ev_asg h0 (fun Q q => q) w
theorem ps_asgLc {i : Nat} {x : Str} {px : Pos} {elt tg iter : Expr} {ifs : List Expr} {scope : Scope} {own : List (Str × Nat)} {tt : T} {kd : IK} {src tifs : List E} {telt : E} {lpos : Pos} (ok : Ok C s k X) (h0 : i ≠ 0 ∨ s.k0 = none) (h : LcOk s X elt tg iter ifs scope own tt kd src tifs telt) (hi : X.N[i]? = some x)
    (hx : X.env.scope.names.lookup x = some .local) (hs : swapsWith (.ListComp elt [⟨tg, iter, ifs, 0⟩] scope lpos) (some (.Name x px)) pos.line X.env = pure true) :
    PS X (.Assign [.Name x px] (.ListComp elt [⟨tg, iter, ifs, 0⟩] scope lpos) pos) (TSv s (.asg (.v i) (.lc (own.map (·.2)) tt kd src tifs telt))) :=
  psI (ps_setLc ok.calm (by rw [ok.N]; exact ok.nd) hi hx hs h.di.pb h.blk (fun sh H Cc cl fp => (h.hg sh H Cc cl fp).pg kd.pr) (fun sh H Cc cl fp => (h.ht sh H Cc cl fp).pts) (fun sh H Cc cl fp => peFz (h.he sh H Cc cl fp).val) (h.di.set X.env))
    fun D σ H w => ev_asg h0 (fun Q q => ev_lc h.own h.pr σ H Q q) w
/-- (a, b, ..) = e -/
theorem ps_asgT {es : List Expr} {ts : List T} {kk : Nat} {tp : Pos} (ok : Ok C s k X) (h0 : 0 ∉ (T.tup ts).slots ∨ s.k0 = none) (h : DE s X e t) (hg : DT s X (.Tuple es kk tp) (.tup ts)) (hs : swapsWithSole [.Tuple es kk tp] e pos.line X.env = pure false) (hw : swappedStores [.Tuple es kk tp] e X.env = pure none) :
    PS X (.Assign [.Tuple es kk tp] e pos) (TSv s (.asg (.tup ts) t)) := psI (ps_asg (peFz h.val) (hg.pg false) hs hw rfl) fun D σ H ⟨P, F, ρ, env, kp, a⟩ => by
  simp only [exS] at a
  refine ⟨P, F, ρ, env, (Ans.bind a).mono fun r F1 H1 st k1 x env1 rv => ?_⟩
  obtain ⟨ρ2, e1, k2⟩ := (k1 F1 H1 Step.refl).get (asgT_ne _ _ _)
  exact ⟨P, F1, r.2, r.1.1, ρ2, env1, .inl rv, (fun z => by cases z), e1, fun σ' env' sm => k2.now σ' env' (kp.same sm h0)⟩
/-! ### a, b = x, y -/
inductive ROs (g : GE) (P F : AS) (ρ : EV.Env) (σ : L2.St) (H : Hp) : List VO → List V → Prop
  | nil : ROs g P F ρ σ H [] []
  | cons {r : VO} {rs : List VO} {x : V} {xs : List V} (h : RRes g P σ F ρ H r x) (hd : ∀ (a : Addr), r.2 = true → x = .ref a → ∀ (j : Nat) (w : PV), rs[j]? = some (w, true) → xs[j]? ≠ some (.ref a)) (t : ROs g P F ρ σ H rs xs) : ROs g P F ρ σ H (r :: rs) (x :: xs)
def TOs (s : SX) (ts : List E) : TA := fun σ H Q => ∃ P F ρ, REnv s.g P F ρ σ H ∧ Ans s.g s.W P F H (evOs s.call ts ρ) fun r F' H' => ∀ xs, REnv s.g P F' r.2 σ H' → ROs s.g P F' r.2 σ H' r.1 xs → Q xs H'
theorem ROs.own_ne {g : GE} {P F : AS} {ρ : EV.Env} {σ : L2.St} {H : Hp} {rs : List VO} {xs : List V} (h : ROs g P F ρ σ H rs xs) : ∀ (j : Nat) (w : PV) (a : Addr), rs[j]? = some (w, true) → xs[j]? = some (.ref a) → ¬ P a ∧ ¬ F a := by
  induction h with
  | nil => intro j w a e; simp at e
  | cons h hd t ih =>
    intro j w a e1 e2
    cases j with
    | zero =>
      simp at e1 e2
      subst e1 e2
      rcases h with ⟨h, _⟩ | ⟨_, b, e, n1, n2, _⟩
      · cases h
      · cases e
        exact ⟨n2, n1⟩
    | succ j => exact ih j w a (by simpa using e1) (by simpa using e2)
theorem RRes.lessP {g : GE} {P P' F : AS} {ρ : EV.Env} {σ : L2.St} {H : Hp} {r : VO} {x : V} (h : RRes g P' σ F ρ H r x) (hp : ∀ a, P a → P' a) : RRes g P σ F ρ H r x := by
  rcases h with h | ⟨h1, a, e, n1, n2, oa, ni⟩
  · exact .inl h
  · exact .inr ⟨h1, a, e, n1, fun z => n2 (hp a z), oa, ni⟩
theorem ROs.lessP {g : GE} {P P' F : AS} {ρ : EV.Env} {σ : L2.St} {H : Hp} {rs : List VO} {xs : List V} (h : ROs g P' F ρ σ H rs xs) (hp : ∀ a, P a → P' a) : ROs g P F ρ σ H rs xs := by
  induction h with
  | nil => exact .nil
  | cons h hd t ih => exact .cons (RRes.lessP h hp) hd ih
theorem DEs.po {es : List Expr} {ts : List E} (h : DEs s X es ts) : PA X es (TOs s ts) := by
  induction h with
  | nil => exact paI pa_nil fun σ H Q ⟨P, F, ρ, env, a⟩ => a.now [] env .nil
  | cons h r ih =>
    refine paI (pa_cons h.val ih (h.star _ _)) fun σ H Q ⟨P, F, ρ, env, a⟩ => ?_
    simp only [evOs] at a
    refine ⟨P, F, ρ, env, (Ans.bind a).mono fun p F1 H1 st k1 x env1 rr => ?_⟩
    have k2 := k1 F1 H1 Step.refl
    rcases id rr with ⟨h1, rv⟩ | ⟨h1, a0, ex, n1, n2, oa, ni⟩
    · refine ⟨P, F1, p.2, env1, (Ans.bind k2).mono fun q F2 H2 st2 k3 xs env2 rs => ?_⟩
      exact (k3 F2 H2 Step.refl).now (x :: xs) env2 (.cons (.inl ⟨h1, RV.mono st2 rv⟩) (fun a z => by rw [h1] at z; cases z) rs)
    · subst ex
      have envA : REnv s.g (fun b => P b ∨ b = a0) F1 p.2 σ H1 := env1.addP (fun b hb => hb.elim .inl fun z => .inr ⟨z ▸ ni, z ▸ oa.there⟩) fun b hb => .inl hb
      have k2' := (Ans.bind k2).weakP (P' := fun b => P b ∨ b = a0) fun b hb => .inl hb
      refine ⟨fun b => P b ∨ b = a0, F1, p.2, envA, k2'.monoE fun q F2 H2 eq st2 k3 xs env2 rs => ?_⟩
      obtain ⟨st3, k4⟩ := k3 F2 H2 Step.refl
      have le := evOs_le s.call _ _ _ eq
      have nF2 : ¬ F2 a0 := fun z => (st3.nF a0 z).elim n1 fun w => w (.inr rfl)
      have ni2 : NotIn q.2 σ a0 := fun j sl e o e2 => by
        obtain ⟨s0, e0, o0, _⟩ := le.own j sl e o
        exact ni j s0 e0 o0 e2
      have oa2 : OAt s.g F2 H2 p.1.1 a0 := oa.mono st3 fun o z => st3.kP a0 o (.inr rfl) z
      have envB : REnv s.g P F2 q.2 σ H2 := env2.lessP (fun b hb => .inl hb) fun j v b e1 e2 => by
        obtain ⟨o, e3, b', e4, _, n2', _⟩ := env2.at_ j _ e1
        rw [e2] at e3
        cases e3
        cases e4
        rcases n2' with z | z
        · exact z
        · subst z
          exact absurd e2 (ni2 j _ e1 rfl)
      refine k4.now (.ref a0 :: xs) envB (.cons (.inr ⟨h1, a0, rfl, nF2, n2, oa2, ni2⟩) (fun a z ea j w e1 e2 => ?_) (rs.lessP fun b hb => .inl hb))
      cases ea
      exact (rs.own_ne j w a0 e1 e2).1 (.inr rfl)
/-- the stores, one after another -/
def setsV : List Nat → List V → L2.St → L2.St
  | i :: is, x :: xs, σ => setsV is xs (σ.set i (some x))
  | _, _, σ => σ
theorem stos {g : GE} {P F : AS} {H : Hp} : ∀ {is : List Nat} {rs : List VO} {xs : List V} {ρ ρ' : EV.Env} {σ : L2.St}, is.Nodup → REnv g P F ρ σ H → ROs g P F ρ σ H rs xs → stoVs is rs ρ = .ok ρ' → REnv g P F ρ' (setsV is xs σ) H ∧ xs.length = is.length
  | [], [], _, ρ, ρ', σ, _, env, .nil, e => by
    cases e
    exact ⟨env, rfl⟩
  | [], _ :: _, _, ρ, ρ', σ, _, env, _, e => by cases e
  | _ :: _, [], _, ρ, ρ', σ, _, env, _, e => by cases e
  | i :: is, r :: rs, _, ρ, ρ', σ, nd, env, .cons (x := x) (xs := xs) h hd t, e => by
    simp only [stoVs] at e
    have env1 := env.put (i := i) h
    have t' : ROs g P F (stoV i r ρ) (σ.set i (some x)) H rs xs := by
      have keep : ∀ (b : Addr), NotIn ρ σ b → (r.2 = true → x ≠ .ref b) → NotIn (stoV i r ρ) (σ.set i (some x)) b := fun b ni hx j sl e1 o e2 => by
        unfold stoV at e1
        by_cases hj : i = j
        · subst hj
          have hl : i < ρ.length := by simpa using (List.getElem?_eq_some_iff.mp e1).1
          rw [List.getElem?_set_self hl] at e1
          cases e1
          rw [List.getElem?_set_self (by rw [← env.len]; exact hl)] at e2
          cases hr : r.2 with
          | true =>
            cases e2
            exact hx hr rfl
          | false =>
            rw [hr] at o
            cases o
        · rw [List.getElem?_set_ne hj] at e1 e2
          exact ni j sl e1 o e2
      have go : ∀ {rs : List VO} {xs : List V}, ROs g P F ρ σ H rs xs → (∀ (a : Addr), r.2 = true → x = .ref a → ∀ (j : Nat) (w : PV), rs[j]? = some (w, true) → xs[j]? ≠ some (.ref a)) → ROs g P F (stoV i r ρ) (σ.set i (some x)) H rs xs := by
        intro rs xs h
        induction h with
        | nil => intro _; exact .nil
        | cons h hd' t ih =>
          intro hd
          refine .cons ?_ hd' (ih fun a z ea j w e1 => hd a z ea (j + 1) w (by simpa using e1) ∘ fun q => by simpa using q)
          rcases h with h | ⟨h1, b, rfl, n1, n2, oa, ni⟩
          · exact .inl h
          · rename_i r0 rs0 xs0
            exact .inr ⟨h1, b, rfl, n1, n2, oa, keep b ni fun z ex => hd b z ex 0 r0.1 (by simp; rw [← h1]) (by simp)⟩
      exact go t hd
    obtain ⟨e1, e2⟩ := stos (List.nodup_cons.mp nd).2 env1 t' e
    exact ⟨e1, by simp [e2]⟩
theorem setsV_same : ∀ {is : List Nat} {xs : List V} {σ : L2.St}, SameS is σ (setsV is xs σ)
  | [], _, _ => SameS.refl
  | _ :: _, [], _ => SameS.refl
  | i :: is, x :: xs, σ => ((SameS.set (i := i) (x := some x)).mono fun j hj => by simp at hj; simp [hj]).trans ((setsV_same (is := is) (xs := xs)).mono fun j hj => List.mem_cons_of_mem _ hj)
theorem stoVs_ne : ∀ (is : List Nat) (rs : List VO) (ρ : EV.Env) c v, stoVs is rs ρ ≠ .exc c v
  | [], [], _, _, _ => by simp
  | [], _ :: _, _, _, _ => by simp
  | _ :: _, [], _, _, _ => by simp
  | i :: is, r :: rs, ρ, c, v => stoVs_ne is rs _ c v
theorem ev_par {is : List Nat} {ts : List E} {D : Ends} {σ : L2.St} {H : Hp} (h0 : 0 ∉ is ∨ s.k0 = none) (nd : is.Nodup) (h : TSv s (.par is ts) D σ H) : TOs s ts σ H fun xs H1 => xs.length = is.length ∧ D.nx (setsV is xs σ) H1 := by
  obtain ⟨P, F, ρ, env, kp, a⟩ := h
  simp only [exS] at a
  refine ⟨P, F, ρ, env, (Ans.bind a).mono fun r F1 H1 st k1 xs env1 rs => ?_⟩
  have k2 := k1 F1 H1 Step.refl
  cases hs : stoVs is r.1 r.2 with
  | ok ρ' =>
    rw [hs] at k2
    obtain ⟨e1, e2⟩ := stos nd env1 rs hs
    exact ⟨e2, k2.now _ e1 (kp.same setsV_same h0)⟩
  | exc c v =>
    exact absurd hs (stoVs_ne _ _ _ _ _)
  | bad =>
    rw [hs] at k2
    exact k2.elim
end
end EV
set_option Elab.async false
set_option linter.all false
set_option autoImplicit false
set_option maxRecDepth 100000
/-! Statements: pairs of stores, items, returns, ifs, loops. -/
namespace EV
open PySem PySem.Spec PyProof.Rows L2
section
variable {C : SC} {s : SX} {k : Nat} {X : Cx} {e e1 e2 e3 : Expr} {t t1 t2 t3 : E} {pos : Pos}
theorem tos_mono {s : SX} {ts : List E} : MonoA (TOs s ts) := fun σ H Q Q' h ⟨P, F, ρ, env, a⟩ => ⟨P, F, ρ, env, a.mono fun p F1 H1 st k xs env1 rs => h xs H1 (k F1 H1 Step.refl xs env1 rs)⟩
/-- names as targets -/
inductive DNs (X : Cx) : List Expr → List Nat → Prop
  | nil : DNs X [] []
  | cons {x : Str} {p : Pos} {i : Nat} {es : List Expr} {is : List Nat} (hi : X.N[i]? = some x) (hx : Loc X.env.scope x) (hf : X.fn x = true ∨ X.env.scope.names.lookup x = some .local) (r : DNs X es is) : DNs X (.Name x p :: es) (i :: is)
theorem DNs.len {es : List Expr} {is : List Nat} (h : DNs X es is) (env : PySem.Env) : (assignEach es env).length = is.length ∧ (assignEach es env).findIdx? (·.1) = none := by
  induction h with
  | nil => exact ⟨rfl, rfl⟩
  | cons hi hx hf r ih =>
    refine ⟨congrArg (· + 1) ih.1, ?_⟩
    show List.findIdx? (·.1) ((false, _) :: assignEach _ env) = none
    rw [List.findIdx?_cons]
    simp [ih.2]
theorem DNs.pgs {es : List Expr} {is : List Nat} (hnd : X.N.Nodup) (h : DNs X es is) : PGs X es (fun xs σ H Q => xs.length = is.length ∧ Q (setsV is xs σ) H) := by
  induction h with
  | nil =>
    refine pgsI pgs_nil fun xs σ H Q h => ?_
    obtain ⟨hl, q⟩ := h
    have e := List.eq_nil_of_length_eq_zero hl
    subst e
    exact ⟨rfl, q⟩
  | cons hi hx hf r ih =>
    refine pgsI (pgs_cons (pg_name hnd hi hx hf) ih rfl) fun xs σ H Q ⟨hl, q⟩ => ?_
    cases xs with
    | nil => cases hl
    | cons x xs => exact ⟨x, xs, rfl, Nat.succ.inj hl, q⟩
theorem ps_parT {es vs : List Expr} {is : List Nat} {ts : List E} {kk k2 : Nat} {tp vp : Pos} (ok : Ok C s k X) (h0 : 0 ∉ is ∨ s.k0 = none) (hn : DNs X es is) (nd : is.Nodup) (hv : DEs s X vs ts) (hw : swappedStores [.Tuple es kk tp] (.Tuple vs k2 vp) X.env = pure none) (hz : is.length ≤ 100) :
    PS X (.Assign [.Tuple es kk tp] (.Tuple vs k2 vp) pos) (TSv s (.par is ts)) := by
  have hg : PG X (.Tuple es kk tp) (gTup X.K is.length fun xs σ H Q => xs.length = is.length ∧ Q (setsV is xs σ) H) := pg_tup ok.calm (hn.pgs (by rw [ok.N]; exact ok.nd)) (hn.len X.env).1 (hn.len X.env).2
  refine psI (ps_asg (pe_tupD hv.po) hg rfl hw rfl) fun D σ H w => ?_
  obtain ⟨P, F, ρ, env, kp, a⟩ := w
  simp only [exS] at a
  refine ⟨P, F, ρ, env, (Ans.bind a).mono fun r F1 H1 st k1 xs env1 rs => ?_⟩
  have k2 := k1 F1 H1 Step.refl
  cases hs : stoVs is r.1 r.2 with
  | ok ρ' =>
    rw [hs] at k2
    obtain ⟨e1, e2⟩ := stos nd env1 rs hs
    have hz : xs.length ≤ sizeLine := by
      rw [e2, sizeLine_eq]
      omega
    refine ⟨hz, fun p o hp ho => ?_⟩
    have gr := grow_upd (o := .frz o (.tup xs)) hp
    refine ⟨p, xs, rfl, .inl (.inr ⟨o, upd_same⟩), e2, e2, ?_⟩
    exact k2.val F1 _ (Step.grow gr) _ (e1.grow gr) (kp.same setsV_same h0)
  | exc c v => exact absurd hs (stoVs_ne _ _ _ _ _)
  | bad =>
    rw [hs] at k2
    exact k2.elim
theorem setsV2 {i j : Nat} {xs : List V} {σ : L2.St} (h : xs.length = 2) : ∃ v w, xs = [v, w] ∧ setsV [i, j] xs σ = (σ.set i (some v)).set j (some w) := by
  match xs, h with
  | [v, w], _ => exact ⟨v, w, rfl, rfl⟩
theorem ps_par2 {x y : Str} {px py tp vp : Pos} {kk k2 : Nat} {i j : Nat} {ts : List E} (ok : Ok C s k X) (h0 : 0 ∉ [i, j] ∨ s.k0 = none) (hi : X.N[i]? = some x) (hj : X.N[j]? = some y) (hij : i ≠ j) (hx : X.env.scope.names.lookup x = some .local) (hy : X.env.scope.names.lookup y = some .local) (hv : DEs s X [e1, e2] ts)
    (hw : swappedStores [.Tuple [.Name x px, .Name y py] kk tp] (.Tuple [e1, e2] k2 vp) X.env = pure (some [x, y])) : PS X (.Assign [.Tuple [.Name x px, .Name y py] kk tp] (.Tuple [e1, e2] k2 vp) pos) (TSv s (.par [i, j] ts)) :=
  psI (L2.ps_par ok.calm (by rw [ok.N]; exact ok.nd) hi hj hij hx hy hv.po hw rfl) fun D σ H w => tos_mono σ H _ _ (fun xs H1 ⟨hl, q⟩ => by
    obtain ⟨v, w, rfl, e⟩ := setsV2 (i := i) (j := j) (σ := σ) hl
    rw [e] at q
    exact ⟨v, w, rfl, q⟩) (ev_par h0 (by simp [hij]) w)
/-! ### small statements -/
theorem ps_ex (ok : Ok C s k X) (h : DE s X e t) (hs : swapsWith e none pos.line X.env = pure false) : PS X (.Expr e pos) (TSv s (.ex t)) := psI (ps_expr h.val hs) fun D σ H ⟨P, F, ρ, env, kp, a⟩ => by
  simp only [exS] at a
  refine ⟨P, F, ρ, env, (Ans.bind a).mono fun r F1 H1 st k1 x env1 rr => ?_⟩
  exact (k1 F1 H1 Step.refl).now σ env1 kp
theorem ps_rtn (ok : Ok C s k X) (h : DE s X e t) : PS X (.Return (some e) pos) (TSv s (.ret t)) := psI (ps_ret h.val) fun D σ H ⟨P, F, ρ, env, kp, a⟩ => by
  simp only [exS] at a
  refine ⟨P, F, ρ, env, (Ans.bind a).mono fun r F1 H1 st k1 x env1 rr => ?_⟩
  exact (k1 F1 H1 Step.refl).now σ x env1 kp rr
theorem ps_rtN : PS X (.Return none pos) (TSv s (.ret (.c .non))) := psI ps_retN fun D σ H ⟨P, F, ρ, env, kp, a⟩ => by
  simp only [exS, evE, Res.bind_ok] at a
  exact a.now σ .non env kp (.inl ⟨rfl, .non⟩)
theorem ps_brk : PS X (.Break pos) (TSv s .brk) := psI ps_break fun D σ H ⟨P, F, ρ, env, kp, a⟩ => a.now σ env kp
theorem ps_cnt : PS X (.Continue pos) (TSv s .cont) := psI ps_continue fun D σ H ⟨P, F, ρ, env, kp, a⟩ => a.now σ env kp
theorem ps_pss : PS X (.Pass pos) (TSv s .pass) := psI ps_pass fun D σ H ⟨P, F, ρ, env, kp, a⟩ => a.now σ env kp
theorem ps_ifS {a b : List Stmt} {ta tb : List S} (hc : DE s X e t) (ha : DSs s X a ta) (hb : DSs s X b tb) : PS X (.If e a b pos) (TSv s (.ite t ta tb)) := psI (ps_if hc.tst ha.pss hb.pss) fun D σ H ⟨P, F, ρ, env, kp, a⟩ => by
  simp only [exS] at a
  refine ⟨P, F, ρ, env, (Ans.bind a).mono fun r F1 H1 st k1 env1 => ?_⟩
  have k2 := k1 F1 H1 Step.refl
  dsimp only
  by_cases hb : r.1 = true
  · rw [if_pos hb] at k2 ⊢
    exact ⟨P, F1, r.2, env1, kp, k2⟩
  · rw [if_neg hb] at k2 ⊢
    exact ⟨P, F1, r.2, env1, kp, k2⟩
/-! ### xs[i] = e -/
theorem step_ownG {g : GE} {P F : AS} {H : Hp} {D : Addr} {o u : HO} (hD : H D = some u) (hu : ¬ Stat u) (nF : ¬ F D) (nP : ¬ P D) : Step P F H F (upd H D o) := by
  have hne : ∀ b o', b ≠ D → H b = some o' → upd H D o b = some o' := fun b o' hb q => by
    rw [upd_ne hb]
    exact q
  refine ⟨fun _ q => q, fun b o' f q => hne b o' (fun z => nF (z ▸ f)) q, fun b o' p q => hne b o' (fun z => nP (z ▸ p)) q, fun b o' so q => hne b o' (fun z => ?_) q, fun _ q => .inl q⟩
  subst z
  rw [hD] at q
  cases q
  exact hu so
theorem env_ownG {g : GE} {P F : AS} {ρ : EV.Env} {σ : L2.St} {H : Hp} {D : Addr} {o u : HO} (env : REnv g P F ρ σ H) (hD : H D = some u) (hu : ¬ Stat u) (nF : ¬ F D) (nP : ¬ P D) (ni : NotIn ρ σ D) : REnv g P F ρ σ (upd H D o) := by
  have hne : ∀ b o', b ≠ D → H b = some o' → upd H D o b = some o' := fun b o' hb q => by
    rw [upd_ne hb]
    exact q
  refine env.mono (step_ownG (g := g) hD hu nF nP) (fun b f => .inl f) (fun i sl a o' e ow e2 q => hne a o' (fun z => ?_) q) fun b f => ?_
  · subst z
    exact ni i sl e ow e2
  · obtain ⟨o', ho⟩ : ∃ o', H b = some o' := by
      cases q : H b with
      | none => exact absurd q (env.dF b f)
      | some o' => exact ⟨o', rfl⟩
    rw [hne b o' (fun z => nF (z ▸ f)) ho]
    simp
theorem oa_mut {g : GE} {F : AS} {H : Hp} {v : PV} {a : Addr} (h : OAt g F H v a) : ∃ u, H a = some u ∧ ¬ Stat u := by
  cases v with
  | lst xs =>
    obtain ⟨vs, h1, _⟩ := h
    exact ⟨_, h1, fun z => z⟩
  | dic ks vs =>
    obtain ⟨xs, h1, _⟩ := h
    exact ⟨_, h1, fun z => z⟩
  | _ => exact h.elim
theorem ps_sub {j : Nat} {x : Str} {px tp : Pos} (ok : Ok C s k X) (he : DE s X e t) (hi : DE s X e1 t1) (hj : X.N[j]? = some x) (hv : Vis X.env.scope x) (hd : (x == ("__debug__" : Str)) = false) (hcd : (x == ("__classdict__" : Str)) = false)
    (ha : ∀ v, assign (.Subscript (.Name x px) e1 tp) X.env v = (do
      let ov ← holding [v] (eval (.Name x px) X.env)
      let iv ← holding [v, ov] (eval e1 X.env)
      standAt tp
      holding [v, ov, iv] (setItem ov iv v)
      release [v, ov, iv] []))
    (hs : swapsWithSole [.Subscript (.Name x px) e1 tp] e pos.line X.env = pure false) (hw : swappedStores [.Subscript (.Name x px) e1 tp] e X.env = pure none) :
    PS X (.Assign [.Subscript (.Name x px) e1 tp] e pos) (TSv s (.setI j t1 t)) := by
  refine psI (ps_asg (peFz he.val) (pg_sub (pe_var hj hv hd hcd) (peFz hi.val) (setI_ok (g := s.g) ok.K ok.pr ok.w (ok.cl (by omega))) ha) hs hw rfl) fun D σ H ⟨P, F, ρ, env, kp, a⟩ => ?_
  simp only [exS] at a
  split at a
  · rename_i v0 h0
    obtain ⟨b, g1, _⟩ := env.take h0
    refine ⟨P, F, ρ, env, (Ans.bind a).mono fun r F1 H1 st k1 y env1 rv => ?_⟩
    refine ⟨.ref b, g1, P, F1, r.2, env1, (Ans.bind (k1 F1 H1 Step.refl)).mono fun q F2 H2 st2 k2 z env2 rz => ?_⟩
    have k3 := k2 F2 H2 Step.refl
    split at k3
    · rename_i v hv2
      obtain ⟨b', g2, n1, n2, oa, ni⟩ := env2.take hv2
      rw [g1] at g2
      cases g2
      obtain ⟨w, e1, k4⟩ := k3.get (setV_ne _ _ _)
      obtain ⟨u0, hl, hu0⟩ := oa_mut oa
      refine ⟨F2, b, v, q.1.1, r.1.1, w, rfl, oa, rz, RV.mono st2 rv, e1, fun ws hws ew => ?_, fun xs vs hxs ew => ?_⟩
      · subst ew
        have st3 : Step P F2 H2 F2 (upd H2 b (.lst ws.2)) := step_ownG (g := s.g) hl hu0 n1 n2
        have env3 : REnv s.g P F2 (q.2.set j .n) σ (upd H2 b (.lst ws.2)) := env_ownG env2.setN hl hu0 n1 n2 ni
        exact k4.val F2 _ st3 σ (env3.putO g1 n1 n2 ⟨ws.2, upd_same, RVs.mono st3 hws⟩ ni) kp
      · subst ew
        have st3 : Step P F2 H2 F2 (upd H2 b (dicO s.g b xs)) := step_ownG (g := s.g) hl hu0 n1 n2
        have env3 : REnv s.g P F2 (q.2.set j .n) σ (upd H2 b (dicO s.g b xs)) := env_ownG env2.setN hl hu0 n1 n2 ni
        exact k4.val F2 _ st3 σ (env3.putO g1 n1 n2 ⟨xs, upd_same, rfl, RVs.mono st3 hxs⟩ ni) kp
    · exact k3.elim
  · exact a.elim
/-! ### xs[i] += e -/
def rGetI (g : GE) : V → V → Hp → VK → Prop := fun o i H Q => ∃ F a pv k w, o = .ref a ∧ OAt g F H pv a ∧ RV g F H k i ∧ subV pv k = .ok w ∧ ∀ z, RV g F H w z → Q z H
theorem get_listP {X : Cx} : PGet X (rIxL X.K) := by
  intro pins s σ H x y v u Q I rx ry h
  obtain ⟨p, xs, i, z, rfl, rfl, hq, he, q⟩ := h
  cases rx
  obtain ⟨t, rfl⟩ := ry
  obtain ⟨its, r, pl, hz⟩ := I.list hq
  obtain ⟨j, h1, h2, h3, h4, h5⟩ := atI_get he
  obtain ⟨w, ew, rw'⟩ := r.get h2
  have hl := r.length
  have hn := line63
  have fin : EP X pins σ Q w s := ⟨z, H, I, rw', q⟩
  by_cases h0 : 0 ≤ i
  · have hj : i.toNat = j := by
      rw [seqIndex_of h0 h5] at h1
      exact Option.some.inj h1
    exact wpAny_getItem_list pl.isList h0 (by omega) (by rw [hj]; simpa using ew) fin
  · have hj : (i + (its.toArray.size : Int)).toNat = j := by
      rw [seqIndex_neg (by omega) h4] at h1
      rw [List.size_toArray, ← hl]
      exact Option.some.inj h1
    exact wpAny_getItem_list_neg pl.isList (by omega) (by rw [List.size_toArray] <;> omega) (by omega) (by rw [hj]; simpa using ew) fin
theorem getI_ok {X : Cx} {g : GE} (hK : X.K = g.K) : PGet X (rGetI g) := by
  intro pins s σ H o i ov iv Q I ro ri h
  obtain ⟨F, a, pv, k, w, rfl, ho, hk, e, q⟩ := h
  cases pv with
  | lst ys =>
    obtain ⟨ws, h1, r1⟩ := ho
    cases k with
    | int i0 =>
      cases hk
      change (match pix ys i0 with | some v => Res.ok v | none => .bad) = .ok w at e
      split at e
      · rename_i v2 hp
        cases e
        obtain ⟨z, h2, h3⟩ := atI_pix r1 hp
        exact get_listP pins s σ H _ _ ov iv Q I ro ri ⟨a, ws, _, z, rfl, rfl, SqL.of h1, h2, q _ h3⟩
      · cases e
    | _ => cases e
  | dic ks vs => cases e
  | _ => exact ho.elim
def opA : Bin → Operator → Bool
  | .add, .Add => true
  | .sub, .Sub => true
  | _, _ => false
def ipF : Bin → Int → Int → Int
  | .sub, i, j => i - j
  | _, i, j => i + j
theorem ip_okA {X : Cx} {o : Bin} {op : Operator} (h : opA o op = true) : PIp X op (ipI (ipF o)) := by
  unfold opA at h
  split at h
  · exact ip_add
  · exact ip_sub
  · cases h
theorem augV_ne (o : Bin) (u v : PV) (c : Nat) (a : PV) : augV o u v ≠ .exc c a := by unfold augV; split <;> simp
theorem augV_some {o : Bin} {u v w : PV} (h : augV o u v = .ok w) : ∃ i j, u = .int i ∧ v = .int j ∧ w = .int (ipF o i j) := by
  unfold augV at h
  split at h
  · cases h; exact ⟨_, _, rfl, rfl, rfl⟩
  · cases h; exact ⟨_, _, rfl, rfl, rfl⟩
  · cases h
theorem ps_augI {j : Nat} {x : Str} {px tp : Pos} {o : Bin} {op : Operator} (ok : Ok C s k X) (he : DE s X e t) (hi : DE s X e1 t1) (hj : X.N[j]? = some x) (hv : Vis X.env.scope x) (hd : (x == ("__debug__" : Str)) = false) (hcd : (x == ("__classdict__" : Str)) = false) (hop : opA o op = true)
    (hns : ∀ ov iv new, augStore e1 ov iv new = (do holding [new, ov, iv] (setItem ov iv new); release [new, ov, iv] []; pure .next)) : PS X (.AugAssign (.Subscript (.Name x px) e1 tp) op e pos) (TSv s (.augI j o t1 t)) := by
  refine psI (ps_augS (pe_var hj hv hd hcd) (peFz hi.val) (getI_ok (g := s.g) ok.K) (peFz he.val) (ip_okA hop) (setI_ok (g := s.g) ok.K ok.pr ok.w (ok.cl (by omega))) hns) fun D σ H ⟨P, F, ρ, env, kp, a⟩ => ?_
  simp only [exS] at a
  split at a
  · rename_i v0 h0
    obtain ⟨b, g1, _⟩ := env.take h0
    refine ⟨.ref b, g1, P, F, ρ, env, (Ans.bind a).mono fun q F1 H1 st k1 z env1 rz => ?_⟩
    have k2 := k1 F1 H1 Step.refl
    split at k2
    · rename_i v hv2
      obtain ⟨b', g2, n1, n2, oa, ni⟩ := env1.take hv2
      rw [g1] at g2
      cases g2
      obtain ⟨w, ew, k3⟩ := k2.get (fun c a => subV_ne _ _ c a)
      refine ⟨F1, b, v, q.1.1, w, rfl, oa, rz, ew, fun y ry => ?_⟩
      refine ⟨P, F1, q.2, env1, (Ans.bind k3).mono fun r F2 H2 st2 k4 y2 env2 ry2 => ?_⟩
      obtain ⟨zz, e2, k6⟩ := (k4 F2 H2 Step.refl).get (fun c a => augV_ne _ _ _ c a)
      obtain ⟨i, j2, w1, w2, w3⟩ := augV_some e2
      rw [w1] at ry
      rw [w2] at ry2
      cases ry
      cases ry2
      refine ⟨i, j2, rfl, rfl, ?_⟩
      split at k6
      · rename_i v2 hv3
        obtain ⟨b', g3, n3, n4, oa2, ni2⟩ := env2.take hv3
        rw [g1] at g3
        cases g3
        obtain ⟨w', e3, k7⟩ := k6.get (setV_ne _ _ _)
        rw [w3] at e3
        obtain ⟨u0, hl, hu0⟩ := oa_mut oa2
        refine ⟨F2, b, v2, q.1.1, .int (ipF o i j2), w', rfl, oa2, RV.mono st2 rz, .int _, e3, fun ws hws ew => ?_, fun xs vs hxs ew => ?_⟩
        · subst ew
          have st3 : Step P F2 H2 F2 (upd H2 b (.lst ws.2)) := step_ownG (g := s.g) hl hu0 n3 n4
          have env3 : REnv s.g P F2 (r.2.set j .n) σ (upd H2 b (.lst ws.2)) := env_ownG env2.setN hl hu0 n3 n4 ni2
          exact k7.val F2 _ st3 σ (env3.putO g1 n3 n4 ⟨ws.2, upd_same, RVs.mono st3 hws⟩ ni2) kp
        · subst ew
          have st3 : Step P F2 H2 F2 (upd H2 b (dicO s.g b xs)) := step_ownG (g := s.g) hl hu0 n3 n4
          have env3 : REnv s.g P F2 (r.2.set j .n) σ (upd H2 b (dicO s.g b xs)) := env_ownG env2.setN hl hu0 n3 n4 ni2
          exact k7.val F2 _ st3 σ (env3.putO g1 n3 n4 ⟨xs, upd_same, rfl, RVs.mono st3 hxs⟩ ni2) kp
      · exact k6.elim
    · exact k2.elim
  · exact a.elim
/-! ### loops -/
theorem RVs.srs {g : GE} {P F : AS} {H : Hp} : ∀ {us : List PV} {xs : List V}, RVs g F H us xs → SRs g P F H us xs
  | _, _, .nil => .nil
  | _, _, .cons r t => .cons (.inl r) (RVs.srs t)
theorem ps_forS {tg iter : Expr} {body : List Stmt} {tt : T} {kd : IK} {src : List E} {tb : List S} (ok : Ok C s k X) (h0 : 0 ∉ tt.slots ∨ s.k0 = none) (okS : OkS X) (hi : DI s X tg iter kd src) (hg : DT s X tg tt) (hpr : kd.pr = true → tt.isTup = true) (hb : DSs s X body tb) : PS X (.For tg iter body [] pos) (TSv s (.for tt kd src tb)) := by
  refine psI (ps_for okS.own ok.calm hi.pa (hg.pg kd.pr) hb.pss (hi.set X.env)) fun D σ H ⟨P, F, ρ, env, kp, a⟩ => ?_
  simp only [exS] at a
  refine ⟨P, F, ρ, env, (Ans.bind a).mono fun p F1 H1 st k1 xs env1 rs => ?_⟩
  obtain ⟨ws, g2, k3⟩ := (k1 F1 H1 Step.refl).get (itemsOf_ne _ _)
  have srs : SRs s.g P F1 H1 p.1 xs := rs.srs
  generalize hf : (fun (x : PV) (ρ1 : EV.Env) => (asgT tt x ρ1).bind fun ρ2 => exSs s.call tb ρ2) = f at k3
  refine ⟨P, F1, p.1, ws, srs, g2, fun J wk => ?_⟩
  refine ⟨fun i m σ H => m = ws.length - i ∧ i ≤ ws.length ∧ ∃ (F2 : AS) (ρi : EV.Env), REnv s.g P F2 ρi σ H ∧ KP s σ ∧ Step P F1 H1 F2 H ∧ Ans s.g s.W P F2 H (forL f (ws.drop i) ρi) (FlK s P D), ⟨ws.length, by simp, Nat.zero_le _, F1, p.2, env1, kp, Step.refl, by rw [List.drop_zero]; exact k3⟩, ?_⟩
  rintro i m σ2 H2 ⟨rfl, hi2, F2, ρi, envi, kp2, st2, an⟩
  have srs2 := srs.mono st2
  by_cases hlt : i < ws.length
  · refine .inr ⟨wk.go i F2 H2 srs2 hlt, fun σ' H' => i + 1 ≤ ws.length ∧ ∃ (F2 : AS) (ρi : EV.Env), REnv s.g P F2 ρi σ' H' ∧ KP s σ' ∧ Step P F1 H1 F2 H' ∧ Ans s.g s.W P F2 H' (forL f (ws.drop (i + 1)) ρi) (FlK s P D), fun σ' H' w => ⟨ws.length - (i + 1), by omega, rfl, w⟩, fun x H3 hy => ?_⟩
    obtain ⟨v, hv, gr, ri⟩ := wk.yld i F2 H2 x H3 srs2 hlt hy
    have hdrop : ws.drop i = v :: ws.drop (i + 1) := by
      have e1 := List.drop_eq_getElem_cons hlt
      rw [List.getElem?_eq_getElem hlt] at hv
      cases hv
      exact e1
    rw [hdrop] at an
    unfold forL at an
    have stg : Step P F2 H2 F2 H3 := Step.grow gr
    have an3 := (Ans.bind an).step stg
    rw [← hf] at an3
    obtain ⟨ρ2, e2, an4⟩ := an3.get (asgT_ne _ _ _)
    refine ⟨P, F2, ρi, v, ρ2, envi.grow gr, ri, hpr, e2, fun σ3 env3 sm => ⟨P, F2, ρ2, env3, kp2.same sm h0, an4.mono fun fl F4 H4 st4 k4 => ?_⟩⟩
    have k5 := k4 F4 H4 Step.refl
    have stA : Step P F1 H1 F4 H4 := (st2.trans stg).trans st4
    rw [hf] at k5
    cases fl with
    | nx ρ' => exact fun σ' env' kp' => ⟨hlt, F4, ρ', env', kp', stA, k5⟩
    | ct ρ' => exact fun σ' env' kp' => ⟨hlt, F4, ρ', env', kp', stA, k5⟩
    | bk ρ' => exact fun σ' env' kp' => k5.now σ' env' kp'
    | rt r ρ' => exact fun σ' x env' kp' rr => k5.now σ' x env' kp' rr
  · have hie : i = ws.length := by omega
    subst hie
    rw [List.drop_length] at an
    exact .inl ⟨wk.stop F2 H2 srs2, an.now σ2 envi kp2⟩
theorem ps_whileS {body : List Stmt} {tb : List S} (ok : Ok C s k X) (okS : OkS X) (hc : DE s X e t) (hb : DSs s X body tb) : PS X (.While e body [] pos) (TSv s (.while t tb)) := by
  refine psI (ps_while okS.own hc.tst hb.pss) fun D σ H ⟨P, F, ρ, env, kp, a⟩ => ?_
  simp only [exS] at a
  refine ⟨fun m σ H => ∃ (F2 : AS) (ρi : EV.Env), REnv s.g P F2 ρi σ H ∧ KP s σ ∧ Ans s.g s.W P F2 H (whL (tst s.call t) (fun ρ1 => exSs s.call tb ρ1) m ρi) (FlK s P D), ⟨WF, F, ρ, env, kp, a⟩, ?_⟩
  rintro m σ2 H2 ⟨F2, ρi, envi, kp2, an⟩
  cases m with
  | zero => exact an.elim
  | succ m =>
    unfold whL at an
    refine ⟨P, F2, ρi, envi, (Ans.bind an).mono fun r F3 H3 st3 k3 env3 => ?_⟩
    have k4 := k3 F3 H3 Step.refl
    dsimp only
    by_cases hb : r.1 = true
    · rw [if_pos hb] at k4 ⊢
      refine ⟨fun σ' H' => ∃ (F2 : AS) (ρi : EV.Env), REnv s.g P F2 ρi σ' H' ∧ KP s σ' ∧ Ans s.g s.W P F2 H' (whL (tst s.call t) (fun ρ1 => exSs s.call tb ρ1) m ρi) (FlK s P D), fun σ' H' w => ⟨m, Nat.lt_succ_self m, w⟩, P, F3, r.2, env3, kp2, (Ans.bind k4).mono fun fl F4 H4 st4 k5 => ?_⟩
      have k6 := k5 F4 H4 Step.refl
      cases fl with
      | nx ρ' => exact fun σ' env' kp' => ⟨F4, ρ', env', kp', k6⟩
      | ct ρ' => exact fun σ' env' kp' => ⟨F4, ρ', env', kp', k6⟩
      | bk ρ' => exact fun σ' env' kp' => k6.now σ' env' kp'
      | rt r ρ' => exact fun σ' x env' kp' rr => k6.now σ' x env' kp' rr
    · rw [if_neg hb] at k4 ⊢
      exact k4.now σ2 env3 kp2
end
end EV
set_option Elab.async false
set_option linter.all false
set_option autoImplicit false
set_option maxRecDepth 100000
/-! try with several clauses, each with a name or without. -/
namespace EV
open PySem PySem.Spec PyProof.Rows L2
abbrev HdL := List (Value × Option Nat × (Addr → Value → Option Addr → TS))
/-- the ends, the name i gone -/
abbrev EndsW (D : Ends) (i : Nat) : Ends := { nx := fun σ H => D.nx (σ.set i none) H, rt := D.rt, bk := fun σ H => D.bk (σ.set i none) H, ct := fun σ H => D.ct (σ.set i none) H }
def suiteW (D : Ends) (ts : Addr → Value → Option Addr → TS) (cls : Value) (d : Option Addr) (σ : L2.St) (H : Hp) (a : Addr) : Option Nat → Prop
  | none => ts a cls d D σ H
  | some i => ts a cls d (EndsW D i) (σ.set i (some (.ref a))) H
def wTry (K : PySem.W.Frag) (Wout : WX) (D : Ends) : HdL → WX
  | [] => Wout
  | (c, oi, ts) :: r => fun cls d σ H => ∃ b, PySem.W.exmOne K cls c = some b ∧ (b = true → ∀ a, H a = none → suiteW D ts cls d σ H a oi) ∧ (b = false → wTry K Wout D r cls d σ H)
inductive HdOk (X : Cx) : List ExceptHandler → HdL → Prop
  | nil : HdOk X [] []
  | plain {x : Str} {c : Value} {ts : Addr → Value → Option Addr → TS} {st : Stmt} {sts : List Stmt} {np hp : Pos} {hds : List ExceptHandler} {l : HdL} (hc : Names X x c)
      (hsu : ∀ (a : Addr) (oe : Obj) (cls : Value) (d : Option Addr) (pn : List (Addr × Obj)), Zc cls d oe → (∃ vs, oe.data = .fields vs) → PSs (X.suite a ((a, oe) :: pn)) (st :: sts) (ts a cls d)) (r : HdOk X hds l) :
      HdOk X (.ExceptHandler (some (.Name x np)) none (st :: sts) hp :: hds) ((c, none, ts) :: l)
  | named {x n : Str} {i : Nat} {c : Value} {ts : Addr → Value → Option Addr → TS} {st : Stmt} {sts : List Stmt} {np hp : Pos} {hds : List ExceptHandler} {l : HdL} (hc : Names X x c) (hi : X.N[i]? = some n) (hl : X.env.kindOf n = some .local)
      (hsu : ∀ (a : Addr) (oe : Obj) (cls : Value) (d : Option Addr) (pn : List (Addr × Obj)), Zc cls d oe → (∃ vs, oe.data = .fields vs) → PSs (X.suite a ((a, oe) :: pn)) (st :: sts) (ts a cls d)) (r : HdOk X hds l) :
      HdOk X (.ExceptHandler (some (.Name x np)) (some n) (st :: sts) hp :: hds) ((c, some i, ts) :: l)
section
variable {X : Cx} {body : List Stmt} {hd0 : ExceptHandler} {hds : List ExceptHandler} {l : HdL} {pos : Pos} {tb : WX → TS} {Wout : WX}
theorem ps_tryA (stk : X.stack = X.env :: X.outer) (fr : X.env.frame = some X.env.locals) (nd : X.N.Nodup) (tk : Takes X Wout)
    (hb : ∀ (W : WX) (pn : List (Addr × Obj)) (xe : Value → Shared → Prop), Takes (X.tr pn xe) W → PassesOwn (model X.prog X.w) X.A X.env xe → PSs (X.tr pn xe) body (tb W))
    (hh : HdOk X (hd0 :: hds) l) : PS X (.Try body (hd0 :: hds) [] [] pos) (fun D σ H => tb (wTry X.K Wout D l) D σ H) := by
  refine ⟨fun pins sh σ H D I ht => ?_⟩
  have okX := I.ok
  have frs0 : X.A.frames = some (X.env :: X.outer) := by
    rw [okX.frames, stk]
  refine wpAny_Try_except ?_
  refine wpAny_mono ((hb (wTry X.K Wout D l) (X.pn ++ pins) (fun u sa => wpAny (model X.prog X.w) X.A (noteFrame u X.env) (fun _ sb => wpAny (model X.prog X.w) X.A (setFlight u none) (fun _ sc => wpAny (model X.prog X.w) X.A (handleBy u X.env (hd0 :: hds)) (SP X pins D) X.xe sc) X.xe sb) X.xe sa)
    (fun u sx air => ?_) PassesOwn.looking).run [] sh σ H D (I.toTry _) ht) (fun fl sf hsp => ?_) (fun u su hu => hu)
  · obtain ⟨a, Bg, sI, pins1, σ1, H1, cls, d, rfl, J0, grd, ups, sky, nota, oss, bar, wish⟩ := air
    have J : Inv X pins σ1 H1 sI := J0.ofTry okX
    have skyX : Sky Bg (X.env :: X.outer) a (Zc cls d) X.env.locals sx.heap := by
      rw [← stk]
      exact sky
    show wpAny (model X.prog X.w) X.A (noteFrame (.ref a) X.env) _ _ _
    refine Sky.land Zc.steady frs0 fr skyX fun hA flyA upA => ?_
    have JA : Inv X pins σ1 H1 { sx with heap := hA } := J.landed grd flyA.1 (ups.trans upA) oss bar
    obtain ⟨oA, vA, getA, zA, datA⟩ := flyA.there
    have noFrame : a ∉ frs (X.env :: X.outer) := fun hm => by
      obtain ⟨_, oB, getB, hnf⟩ := flyA.2.2.1.mem hm
      rw [getA] at getB
      cases getB
      exact hnf _ datA
    have neL : a ≠ X.env.locals := fun z => noFrame (List.mem_filterMap.mpr ⟨X.env, List.mem_cons_self, by rw [fr, z]⟩)
    have neF : a ∉ X.fs := fun hm => by
      obtain ⟨en, hen, q⟩ := List.mem_filterMap.mp hm
      exact noFrame (List.mem_filterMap.mpr ⟨en, List.mem_cons_of_mem _ hen, q⟩)
    have SA := JA.suite getA datA nota neL neF
    have passed : Wout cls d σ1 H1 → wpAny (model X.prog X.w) X.A (handleBy (.ref a) X.env []) (SP X pins D) X.xe { sx with heap := hA } := fun wo => by
      refine wpAny_handleBy_nil ?_
      obtain ⟨k1, k2, k3, oC, vC, T, oT, tsT, getC, zC, datC, one, rest⟩ := id flyA
      unfold PySem.passOn
      refine wpAny_bind (wpAny_field getC datC one ?_)
      rw [if_neg (show ¬ ((Value.ref T == Value.none) = true) from by simp)]
      have done : wpAny (model X.prog X.w) X.A (setFlight (.ref a) X.env.frame) (fun _ sd => wpAny (model X.prog X.w) X.A (throw (.ref a) : Sem Flow) (SP X pins D) X.xe sd) X.xe { sx with heap := hA } := by
        rw [fr]
        refine HandSPX.setFlight_upZ flyA fun hB heldB upB => wpAny_throw (tk _ _ ?_)
        exact ⟨a, Bg, sI, pins, σ1, H1, cls, d, rfl, J, grd, (ups.trans upA).trans upB, .inr (.inr (by rw [stk]; exact heldB)), nota, oss, bar, wo⟩
      first
        | exact wpAny_bind (wpAny_pure (wpAny_bind done))
        | exact wpAny_bind done
    have named : ∀ {x : Str} {c : Value} {np : Pos} {Q : Value → Shared → Prop} {E : Value → Shared → Prop}, Names X x c → Q c { sx with heap := hA } → wpAny (model X.prog X.w) (X.A.mark (some (.ref a))) (eval (.Name x np) X.env) Q E { sx with heap := hA } := fun {x c np Q E} hc q => by
      obtain ⟨hg, hdbg, hm | ⟨hm, hv, hnn⟩⟩ := hc
      · exact ld_glob (X := X.suite a ((a, oA) :: (X.pn ++ pins))) SA hg hm q hdbg
      · exact ld_blt (X := X.suite a ((a, oA) :: (X.pn ++ pins))) SA hg hm hv q hnn hdbg
    have LT : PySem.W.Looks (model X.prog X.w) hA (typeOf (.ref a)) cls := fun A Q E s0 k q => wpAny_typeOf_ref (k _ _ getA) (by rw [zA.1]; exact q)
    have go : ∀ {hs1 : List ExceptHandler} {l1 : HdL}, HdOk X hs1 l1 → wTry X.K Wout D l1 cls d σ1 H1 → wpAny (model X.prog X.w) X.A (handleBy (.ref a) X.env hs1) (SP X pins D) X.xe { sx with heap := hA } := by
      intro hs1 l1 hk
      induction hk with
      | nil => exact passed
      | plain hc hsu r ih =>
        rintro ⟨b, hbm, yes, no⟩
        refine wpAny_handleBy_cons (codeAny_handlers_test ?_) (by intro q; cases q)
        refine named hc ((PySem.W.exm_one (M := model X.prog X.w) (JA.kIn) LT hbm).here ?_)
        cases b with
        | false => exact ih (no rfl)
        | true =>
          refine codeAny_handlers_suite ?_
          refine HandSPX.lands_againZ flyA fun hB flyB upB => ?_
          have JB : Inv X pins σ1 H1 { sx with heap := hB } := J.landed grd flyB.1 ((ups.trans upA).trans upB) oss bar
          obtain ⟨oB, vB, getB, zB, datB⟩ := flyB.there
          have SB := JB.suite getB datB nota neL neF
          refine wpAny_mono ((hsu a oB cls d (X.pn ++ pins) zB ⟨_, datB⟩).run [] _ _ H1 _ SB (yes rfl a nota)) (fun fl sg hsp => ?_) (fun _ _ z => False.elim z)
          cases fl with
          | next =>
            obtain ⟨σ6, H6, S6, q6⟩ := hsp
            exact ⟨σ6, H6, S6.unsuite okX, q6⟩
          | brk =>
            obtain ⟨σ6, H6, S6, q6⟩ := hsp
            exact ⟨σ6, H6, S6.unsuite okX, q6⟩
          | cont =>
            obtain ⟨σ6, H6, S6, q6⟩ := hsp
            exact ⟨σ6, H6, S6.unsuite okX, q6⟩
          | ret u =>
            obtain ⟨v6, σ6, H6, S6, r6, q6⟩ := hsp
            exact ⟨v6, σ6, H6, S6.unsuite okX, r6, q6⟩
      | @named x n i c ts st sts np hp hds2 l2 hc hi hln hsu r ih =>
        rintro ⟨b, hbm, yes, no⟩
        refine wpAny_handleBy_cons (codeAny_handlers_test ?_) (by intro q; cases q)
        refine named hc ((PySem.W.exm_one (M := model X.prog X.w) (JA.kIn) LT hbm).here ?_)
        cases b with
        | false => exact ih (no rfl)
        | true =>
          refine codeAny_handlers_suite_as ?_
          refine HandSPX.lands_againZ flyA fun hB flyB upB => ?_
          have JB : Inv X pins σ1 H1 { sx with heap := hB } := J.landed grd flyB.1 ((ups.trans upA).trans upB) oss bar
          obtain ⟨oB, vB, getB, zB, datB⟩ := flyB.there
          have SB := JB.suite getB datB nota neL neF
          refine store_ok (X := X.suite a ((a, oB) :: (X.pn ++ pins))) (v := .ref a) SB nd hi (.inl hln) rfl (fun s5 S5 => ?_) (.inr hln)
          refine wpAny_mono ((hsu a oB cls d (X.pn ++ pins) zB ⟨_, datB⟩).run [] s5 _ H1 _ S5 (yes rfl a nota)) (fun fl sg hsp => ?_) (fun _ _ z => False.elim z)
          have shut : ∀ {σ6 : L2.St} {H6 : Hp} {Q : Shared → Prop}, Inv (X.suite a ((a, oB) :: (X.pn ++ pins))) [] σ6 H6 sg → (∀ s7, Inv X pins (σ6.set i none) H6 s7 → Q s7) →
              wpAny (model X.prog X.w) X.A (do bindName X.env n .none; unbindBehindTheSuite X.env n hp) (fun _ s7 => Q s7) X.xe sg := fun {σ6 H6 Q} S6 hq => gone_ok (S6.unsuite okX) nd hi hln hq
          cases fl with
          | next =>
            obtain ⟨σ6, H6, S6, q6⟩ := hsp
            exact shut S6 fun s7 J7 => ⟨_, H6, J7, q6⟩
          | brk =>
            obtain ⟨σ6, H6, S6, q6⟩ := hsp
            exact shut S6 fun s7 J7 => ⟨_, H6, J7, q6⟩
          | cont =>
            obtain ⟨σ6, H6, S6, q6⟩ := hsp
            exact shut S6 fun s7 J7 => ⟨_, H6, J7, q6⟩
          | ret u =>
            obtain ⟨v6, σ6, H6, S6, r6, q6⟩ := hsp
            exact shut S6 fun s7 J7 => ⟨v6, _, H6, J7, r6, q6⟩
    exact go hh wish
  · cases fl with
    | next =>
      obtain ⟨σ6, H6, J6, q⟩ := hsp
      exact wpAny_execs_nil ⟨σ6, H6, J6.ofTry okX, q⟩
    | brk =>
      obtain ⟨σ6, H6, J6, q⟩ := hsp
      exact ⟨σ6, H6, J6.ofTry okX, q⟩
    | cont =>
      obtain ⟨σ6, H6, J6, q⟩ := hsp
      exact ⟨σ6, H6, J6.ofTry okX, q⟩
    | ret u =>
      obtain ⟨v, σ6, H6, J6, r, q⟩ := hsp
      exact ⟨v, σ6, H6, J6.ofTry okX, r, q⟩
end
end EV
set_option Elab.async false
set_option linter.all false
set_option autoImplicit false
set_option maxRecDepth 100000
/-! raise, try. -/
namespace EV
open PySem PySem.Spec PyProof.Rows L2
theorem psII {X : Cx} {st : Stmt} {t t' : TS} (h : PS X st t) (i : ∀ pins sh D σ H, Inv X pins σ H sh → t' D σ H → t D σ H) : PS X st t' := ⟨fun pins sh σ H D I w => h.run pins sh σ H D I (i pins sh D σ H I w)⟩
/-- an exception class that is made by its message alone -/
structure ExM (g : GE) (c : Nat) : Prop where
  q : ∃ bmB, ExcBaseFacts "ValueError" "ValueError.__new__" "ValueError.__init__" bmB ∧ PySem.W.excIn g.K (g.ca c) bmB "ValueError.__new__" = true
  keep : PySem.W.keepIn g.K (.ref (g.ca c)) = true
  sub : PySem.W.subIn g.K (.ref (g.ca c)) (.type "BaseException") = some true
  typ : PySem.W.typeIn g.K (.ref (g.ca c)) = some (.type "type")
section
variable {C : SC} {s : SX} {k : Nat} {X : Cx} {e e1 e2 e3 : Expr} {t t1 t2 t3 : E} {pos : Pos}
theorem ps_raiseM {c : Nat} {x m : Str} {j : Nat} {p p2 p3 : Pos} (ok : Ok C s k X) (hc : s.g.dc c) (F : ExM s.g c) (hg : Gl X x) (hm : X.mg x = some (.ref (s.g.ca c))) (hd : (x == ("__debug__" : Str)) = false) :
    PS X (.Raise (some (.Call (.Name x p) [.Constant (.str m) j p2] [] p3)) none pos) (TSv s (.raise c none)) := by
  obtain ⟨bmB, fb, hq⟩ := F.q
  have hK := ok.K
  refine psII (ps_raise ok.calm ok.tk (pmk_own (C := s.g.ca c) fb (by rw [hK]; exact hq) hm (by rw [hK]; exact F.keep) (raises_own (by rw [hK]; exact F.sub) (by rw [hK]; exact F.typ)) hg hd)) fun pins sh D σ H I ⟨P, F', ρ, env, kp, a⟩ => ?_
  exact ⟨I.len, a F' H _ none Step.refl env.dF ⟨hc, rfl, .inl rfl⟩⟩
/-! ### handlers -/
theorem evHa_v {j : Nat} {a v : PV} (h : evHa (.v j) a = some v) : a ≠ .non ∧ v = a := by
  cases a <;> simp [evHa] at h <;> exact ⟨by simp, h.symm⟩

/-- the caught exception's attribute, as the suite sees it -/
def AtR (s : SX) (c : Nat) (a0 : Addr) (cls : Value) (d : Option Addr) (i : Nat) (a : PV) (F : AS) (σ : L2.St) (H : Hp) : Prop := σ[i]? = some (some (.ref a0)) ∧ cls = .ref (s.g.ca c) ∧ ∃ (dd : Addr) (x : V), d = some dd ∧ H dd = some (.xd [("reason", x)]) ∧ RV s.g F H a x
inductive DHa (s : SX) (Y : Cx) (c : Nat) (a0 : Addr) (cls : Value) (d : Option Addr) (i : Nat) : Expr → E → Prop
  | const {e : Expr} {v : PV} {x : V} (hp : PE Y e (tC x)) (hr : ∀ F H, RV s.g F H v x) (hs : ∀ es env, starEach (e :: es) env = (false, eval e env) :: starEach es env) : DHa s Y c a0 cls d i e (.c v)
  | attr {e : Expr} {j : Nat} (hp : PE Y e (fun σ H Q => σ[i]? = some (some (.ref a0)) ∧ cls = .ref (s.g.ca c) ∧ ∃ (dd : Addr) (x : V), d = some dd ∧ H dd = some (.xd [("reason", x)]) ∧ Q x H)) (hs : ∀ es env, starEach (e :: es) env = (false, eval e env) :: starEach es env) : DHa s Y c a0 cls d i e (.v j)
inductive DHs (s : SX) (Y : Cx) (c : Nat) (a0 : Addr) (cls : Value) (d : Option Addr) (i : Nat) : List Expr → List E → Prop
  | nil : DHs s Y c a0 cls d i [] []
  | cons {e : Expr} {es : List Expr} {t : E} {ts : List E} (h : DHa s Y c a0 cls d i e t) (r : DHs s Y c a0 cls d i es ts) : DHs s Y c a0 cls d i (e :: es) (t :: ts)
inductive DH (s : SX) (Y : Cx) (c : Nat) (a0 : Addr) (cls : Value) (d : Option Addr) (i : Nat) : Expr → E → Prop
  | atom {e : Expr} {t : E} (h : DHa s Y c a0 cls d i e t) : DH s Y c a0 cls d i e t
  | tup {es : List Expr} {ts : List E} {kk : Nat} {p : Pos} (h : DHs s Y c a0 cls d i es ts) (hl : ts.length ≤ 100) : DH s Y c a0 cls d i (.Tuple es kk p) (.tup ts)
def usesA : E → Bool
  | .v _ => true
  | .tup es => es.any fun | .v _ => true | _ => false
  | _ => false
theorem DHa.pe {Y : Cx} {c : Nat} {a0 : Addr} {cls : Value} {d : Option Addr} {i : Nat} {e : Expr} {t : E} (h : DHa s Y c a0 cls d i e t) : PE Y e (fun σ H Q => ∃ F a v, ((∃ j, t = .v j) → AtR s c a0 cls d i a F σ H) ∧ evHa t a = some v ∧ ∀ x, RV s.g F H v x → Q x H) := by
  cases h with
  | const hp hr hs =>
    refine peI hp fun σ H Q ⟨F, a, v, _, e, q⟩ => ?_
    cases e
    exact q _ (hr F H)
  | attr hp hs =>
    refine peI hp fun σ H Q ⟨F, a, v, ha, e, q⟩ => ?_
    obtain ⟨_, ev⟩ := evHa_v e
    subst ev
    obtain ⟨h1, hcl, dd, x, h2, h3, h4⟩ := ha ⟨_, rfl⟩
    exact ⟨h1, hcl, dd, x, h2, h3, q x h4⟩
theorem DHa.star {Y : Cx} {c : Nat} {a0 : Addr} {cls : Value} {d : Option Addr} {i : Nat} {e : Expr} {t : E} (h : DHa s Y c a0 cls d i e t) : ∀ es env, starEach (e :: es) env = (false, eval e env) :: starEach es env := by
  cases h with
  | const _ _ hs => exact hs
  | attr _ hs => exact hs
theorem DHs.pa {Y : Cx} {c : Nat} {a0 : Addr} {cls : Value} {d : Option Addr} {i : Nat} {es : List Expr} {ts : List E} (h : DHs s Y c a0 cls d i es ts) : PA Y es (fun σ H Q => ∃ F a vs, ((∃ j, .v j ∈ ts) → AtR s c a0 cls d i a F σ H) ∧ evHs ts a = some vs ∧ ∀ xs, RVs s.g F H vs xs → Q xs H) := by
  induction h with
  | nil =>
    refine paI pa_nil fun σ H Q ⟨F, a, vs, _, e, q⟩ => ?_
    cases e
    exact q [] .nil
  | cons h r ih =>
    refine paI (pa_cons h.pe ih (h.star _ _)) fun σ H Q ⟨F, a, vs, ha, e, q⟩ => ?_
    simp only [evHs, Option.bind_eq_some_iff, Option.map_eq_some_iff] at e
    obtain ⟨v, e1, ws, e2, e3⟩ := e
    subst e3
    refine ⟨F, a, v, fun ⟨j, hj⟩ => ha ⟨j, by simp [hj]⟩, e1, fun x rx => ⟨F, a, ws, fun ⟨j, hj⟩ => ha ⟨j, by simp [hj]⟩, e2, fun xs rxs => q _ (.cons rx rxs)⟩⟩
/-- what a handler's suite asks -/
def THs (s : SX) (c i : Nat) (t : E) (a0 : Addr) (cls : Value) (d : Option Addr) : TS := fun D σ H => ∃ (P F : AS) (a v : PV), (∀ b, F b → H b ≠ none) ∧ (usesA t = true → AtR s c a0 cls d i a F σ H) ∧ evH t a = some v ∧ ∀ F' H' x, Step P F H F' H' → (∀ b, F' b → H' b ≠ none) → RV s.g F' H' v x → D.rt x H'
theorem evHs_len : ∀ {ts : List E} {a : PV} {vs : List PV}, evHs ts a = some vs → vs.length = ts.length
  | [], a, vs, e => by cases e; rfl
  | t :: ts, a, vs, e => by
    simp only [evHs, Option.bind_eq_some_iff, Option.map_eq_some_iff] at e
    obtain ⟨v, e1, ws, e2, e3⟩ := e
    subst e3
    simp [evHs_len e2]
theorem DH.pss {Y : Cx} {c : Nat} {a0 : Addr} {cls : Value} {d : Option Addr} {i : Nat} {e : Expr} {t : E} (h : DH s Y c a0 cls d i e t) : PSs Y [.Return (some e) pos] (THs s c i t a0 cls d) := by
  refine pssI (pss_one (ps_ret (te := fun σ H Q => ∃ (P F : AS) (a v : PV), (∀ b, F b → H b ≠ none) ∧ (usesA t = true → AtR s c a0 cls d i a F σ H) ∧ evH t a = some v ∧ ∀ F' H' x, Step P F H F' H' → (∀ b, F' b → H' b ≠ none) → RV s.g F' H' v x → Q x H') ?_)) fun D σ H w => w
  cases h with
  | atom h =>
    refine peI h.pe fun σ H Q ⟨P, F, a, v, hd, ha, e, q⟩ => ?_
    cases h with
    | const hp hr hs => exact ⟨F, a, v, (fun ⟨j, z⟩ => by cases z), e, fun x rx => q F H x Step.refl hd rx⟩
    | attr hp hs => exact ⟨F, a, v, fun _ => ha rfl, e, fun x rx => q F H x Step.refl hd rx⟩
  | tup h hl =>
    refine peI (pe_tupD h.pa) fun σ H Q ⟨P, F, a, v, hd, ha, e, q⟩ => ?_
    simp only [evH, Option.map_eq_some_iff] at e
    obtain ⟨vs, e1, e2⟩ := e
    subst e2
    refine ⟨F, a, vs, fun ⟨j, hj⟩ => ha ?_, e1, fun xs rxs => ⟨by rw [← rxs.length, evHs_len e1, sizeLine_eq]; omega, fun b o hb ho => ?_⟩⟩
    · unfold usesA
      rw [List.any_eq_true]
      exact ⟨_, hj, rfl⟩
    · have gr := grow_upd (o := .frz o (.tup xs)) hb
      refine q F _ (.ref b) (Step.grow gr) (fun c hc => ?_) (.tup (.inl ⟨o, upd_same, ho⟩) (RVs.mono (P := P) (Step.grow gr) rxs))
      cases hh : H c with
      | none => exact absurd hh (hd c hc)
      | some o' =>
        rw [gr c o' hh]
        simp
/-! ### try -/
/-- the classes apart -/
structure ExA (g : GE) : Prop where
  ap : ∀ c c', g.dc c → g.dc c' → PySem.W.exmOne g.K (.ref (g.ca c)) (.ref (g.ca c')) = some (decide (c' = c))
inductive DHd (s : SX) (X : Cx) : List ExceptHandler → List (Nat × Option Nat × E) → Prop
  | nil : DHd s X [] []
  | plain {er : Expr} {rp : Pos} {x : Str} {c : Nat} {np hp : Pos} {t : E} {hds : List ExceptHandler} {l : List (Nat × Option Nat × E)} (hc : Names X x (.ref (s.g.ca c))) (dc : s.g.dc c) (hu : usesA t = false)
      (hsu : ∀ (a : Addr) (oe : Obj) (cls : Value) (d : Option Addr) (pn : List (Addr × Obj)), Zc cls d oe → (∃ vs, oe.data = .fields vs) → DH s (X.suite a ((a, oe) :: pn)) c a cls d 0 er t) (r : DHd s X hds l) :
      DHd s X (.ExceptHandler (some (.Name x np)) none [.Return (some er) rp] hp :: hds) ((c, none, t) :: l)
  | named {er : Expr} {rp : Pos} {x n : Str} {c i : Nat} {np hp : Pos} {t : E} {hds : List ExceptHandler} {l : List (Nat × Option Nat × E)} (hc : Names X x (.ref (s.g.ca c))) (dc : s.g.dc c) (hi : X.N[i]? = some n) (hl : X.env.kindOf n = some .local)
      (hsu : ∀ (a : Addr) (oe : Obj) (cls : Value) (d : Option Addr) (pn : List (Addr × Obj)), Zc cls d oe → (∃ vs, oe.data = .fields vs) → DH s (X.suite a ((a, oe) :: pn)) c a cls d i er t) (r : DHd s X hds l) :
      DHd s X (.ExceptHandler (some (.Name x np)) (some n) [.Return (some er) rp] hp :: hds) ((c, some i, t) :: l)
/-- the clauses, as the rule has them -/
def hdl (s : SX) : List (Nat × Option Nat × E) → HdL
  | [] => []
  | (c, oi, t) :: l => (.ref (s.g.ca c), oi, THs s c (oi.getD 0) t) :: hdl s l
theorem DHd.ok {hds : List ExceptHandler} {l : List (Nat × Option Nat × E)} (h : DHd s X hds l) : HdOk X hds (hdl s l) := by
  induction h with
  | nil => exact .nil
  | plain hc dc hu hsu r ih => exact .plain hc (fun a oe cls d pn hz hf => (hsu a oe cls d pn hz hf).pss) ih
  | named hc dc hi hl hsu r ih => exact .named hc hi hl (fun a oe cls d pn hz hf => (hsu a oe cls d pn hz hf).pss) ih
theorem DHd.facts {hds : List ExceptHandler} {l : List (Nat × Option Nat × E)} (h : DHd s X hds l) : ∀ p ∈ l, s.g.dc p.1 ∧ (p.2.1 = none → usesA p.2.2 = false) ∧ ∀ i, p.2.1 = some i → i < X.N.length := by
  induction h with
  | nil => intro p hp; cases hp
  | plain hc dc hu hsu r ih =>
    intro p hp
    rcases List.mem_cons.mp hp with rfl | hp
    · exact ⟨dc, (fun _ => hu), (fun i z => by cases z)⟩
    · exact ih p hp
  | named hc dc hi hl hsu r ih =>
    intro p hp
    rcases List.mem_cons.mp hp with rfl | hp
    · exact ⟨dc, (fun z => by cases z), (fun i z => by cases z; exact (List.getElem?_eq_some_iff.mp hi).1)⟩
    · exact ih p hp
theorem hndl_ok {n : Nat} {fl : Fl} : ∀ l, hndl n (.ok fl) l = .ok fl
  | [] => rfl
  | _ :: _ => rfl
theorem hndl_bad {n : Nat} : ∀ l, hndl n .bad l = .bad
  | [] => rfl
  | _ :: _ => rfl
theorem evHs_uses {j : Nat} : ∀ {ts : List E} {a : PV} {vs : List PV}, evHs ts a = some vs → .v j ∈ ts → a ≠ .non
  | [], _, _, _, h => by cases h
  | t :: ts, a, vs, e, h => by
    simp only [evHs, Option.bind_eq_some_iff, Option.map_eq_some_iff] at e
    obtain ⟨v, e1, ws, e2, e3⟩ := e
    rcases List.mem_cons.mp h with h | h
    · subst h
      exact (evHa_v e1).1
    · exact evHs_uses e2 h
theorem evH_uses {t : E} {a v : PV} (h : evH t a = some v) (u : usesA t = true) : a ≠ .non := by
  cases t with
  | v j => exact (evHa_v h).1
  | tup es =>
    unfold usesA at u
    rw [List.any_eq_true] at u
    obtain ⟨x, hx, hu⟩ := u
    simp only [evH, Option.map_eq_some_iff] at h
    obtain ⟨vs, e1, _⟩ := h
    cases x with
    | v j => exact evHs_uses e1 hx
    | _ => cases hu
  | _ => cases u
/-- the wish behind the clauses -/
theorem wtry_of (hk : s.k0 = none) {D : Ends} {P F' : AS} {H' : Hp} {c : Nat} {a : PV} {cls : Value} {d : Option Addr} {n : Nat} (ea : ExA s.g) (hdF : ∀ b, F' b → H' b ≠ none) (hdP : ∀ b, P b → H' b ≠ none) (hx : ExcR s.g c a cls d F' H') :
    ∀ (l : List (Nat × Option Nat × E)), (∀ p ∈ l, s.g.dc p.1 ∧ (p.2.1 = none → usesA p.2.2 = false) ∧ ∀ i, p.2.1 = some i → i < n) → Ans s.g s.W P F' H' (hndl n (.exc c a) l) (FlK s P D) → ∀ σ : L2.St, σ.length = n → wTry s.g.K (fun c d σ H => σ.length = n ∧ s.W c d H) D (hdl s l) cls d σ H'
  | [], _, an, σ, hl => ⟨hl, an F' H' cls d Step.refl hdF hx⟩
  | (c', oi, t) :: l, hf, an, σ, hl => by
    obtain ⟨dc1, ec, hat⟩ := id hx
    obtain ⟨dc2, hu, hi⟩ := hf _ (List.mem_cons_self ..)
    refine ⟨decide (c' = c), ?_, fun hb a0 ha0 => ?_, fun hb => ?_⟩
    · rw [ec]
      exact ea.ap c c' dc1 dc2
    · have hcc : c' = c := of_decide_eq_true hb
      subst hcc
      simp only [hndl, if_pos rfl] at an
      cases hv : evH t a with
      | none =>
        rw [hv] at an
        exact an.elim
      | some v =>
        rw [hv] at an
        have fin : ∀ (D' : Ends), D'.rt = D.rt → ∀ σ1 : L2.St, (usesA t = true → AtR s c' a0 cls d (oi.getD 0) a F' σ1 H') → THs s c' (oi.getD 0) t a0 cls d D' σ1 H' := fun D' hD σ1 hat1 => by
          refine ⟨P, F', a, v, hdF, hat1, hv, fun F2 H2 x st hd2 rv => ?_⟩
          rw [hD]
          have env : REnv s.g P F2 (List.replicate n Slot.n) σ H2 := by
            refine ⟨by simp [hl], fun i sl e => ?_, fun i j si sj b _ e1 _ o1 => ?_, fun b hb => ?_, hd2⟩
            · rw [List.getElem?_replicate] at e
              split at e
              · rename_i hlt
                cases e
                exact ⟨_, List.getElem?_eq_getElem (by omega), trivial⟩
              · cases e
            · rw [List.getElem?_replicate] at e1
              split at e1
              · cases e1
                cases o1
              · cases e1
            · cases hh : H' b with
              | none => exact absurd hh (hdP b hb)
              | some o =>
                rw [st.kP b o hb hh]
                simp
          exact an F2 H2 st σ x env (fun a e => by rw [hk] at e; cases e) (.inl ⟨rfl, rv⟩)
        cases oi with
        | none =>
          refine fin D rfl σ fun z => ?_
          rw [hu rfl] at z
          cases z
        | some i =>
          refine fin (EndsW D i) rfl (σ.set i (some (.ref a0))) fun z => ⟨?_, ec, ?_⟩
          · show (σ.set i (some (.ref a0)))[i]? = _
            rw [List.getElem?_set_self (by rw [hl]; exact hi i rfl)]
          · rcases hat with hat | ⟨dx, y, h1, h2, h3⟩
            · exact absurd hat (evH_uses hv z)
            · exact ⟨dx, y, h1, h2, h3⟩
    · have hcc : ¬ c' = c := of_decide_eq_false hb
      simp only [hndl, if_neg (fun z => hcc z)] at an
      exact wtry_of hk ea hdF hdP hx l (fun p hp => hf p (List.mem_cons_of_mem _ hp)) an σ hl
theorem ps_tryS {body : List Stmt} {hd0 : ExceptHandler} {hds : List ExceptHandler} {tb : List S} {l : List (Nat × Option Nat × E)} (ok : Ok C s k X) (hk : s.k0 = none) (okS : OkS X) (ea : ExA s.g)
    (hb : ∀ (s' : SX) (X' : Cx), s'.g = s.g → s'.call = s.call → s'.np = s.np → s'.k0 = s.k0 → Ok C s' k X' → OkS X' → DSs s' X' body tb) (hh : DHd s X (hd0 :: hds) l) : PS X (.Try body (hd0 :: hds) [] [] pos) (TSv s (.tr tb l)) := by
  refine psII (ps_tryA (tb := fun W => TSsv { s with W := fun c d H => ∀ σ : L2.St, σ.length = X.N.length → W c d σ H } tb) okS.stk okS.fr (by rw [ok.N]; exact ok.nd) ok.tk (fun W pn xe tk own => ?_) hh.ok) fun pins sh D σ H I ⟨P, F, ρ, env, kp, a⟩ => ?_
  · refine (hb { s with W := fun c d H => ∀ σ : L2.St, σ.length = X.N.length → W c d σ H } (X.tr pn xe) rfl rfl rfl rfl ?_ ?_).pss
    · exact ⟨ok.pr, ok.w, ok.K, ok.mg, ok.base, ok.N, ok.sc, ok.nd, ok.kd, ok.calm, ok.fnE, ok.room, tk.imp fun c d σ H h => h.2 σ h.1, ok.k0, ok.fr⟩
    · exact ⟨own, okS.stk, okS.fr⟩
  · have hn : ρ.length = X.N.length := env.len.trans I.len
    refine ⟨P, F, ρ, env, kp, ?_⟩
    simp only [exS] at a
    show Ans s.g _ P F H (exSs s.call tb ρ) _
    cases hr : exSs s.call tb ρ with
    | ok fl =>
      rw [hr, hndl_ok] at a
      intro F' H' st
      have h1 := a F' H' st
      cases fl <;> exact h1
    | bad =>
      rw [hr, hndl_bad] at a
      exact a.elim
    | exc c v =>
      rw [hr] at a
      intro F' H' cls d st hdF hx σ' hl'
      rw [hn] at a
      have hdP : ∀ b, P b → H' b ≠ none := fun b hb => by
        cases hh2 : H b with
        | none => exact absurd hh2 (env.dP b hb)
        | some o =>
          rw [st.kP b o hb hh2]
          simp
      have := wtry_of hk ea hdF hdP hx l hh.facts (Ans.step a st) σ' hl'
      rw [ok.K]
      exact this
end
end EV
set_option Elab.async false
set_option linter.all false
set_option autoImplicit false
set_option maxRecDepth 100000
/-! A dict displayed with one key, a tuple of ints. -/
namespace EV
open PySem PySem.Spec PyProof.Rows L2
section
variable {C : SC} {s : SX} {k : Nat} {X : Cx} {e1 : Expr} {t1 : E} {pos : Pos}
theorem d_dic1 {b : Bool} {j : Nat} {cp : Pos} (ok : Ok C s k X) (h : DE s X e1 t1) : DE s X (.Dict [some e1] [.Constant (.bool b) j cp] pos) (.dic1 t1 (.bl b)) := by
  have hp : PE X (.Dict [some e1] [.Constant (.bool b) j cp] pos) (TEv s (.dic1 t1 (.bl b))) := ⟨fun pins sh σ H Q I ⟨P, F, ρ, env, a⟩ => by
    simp only [evE] at a
    obtain ⟨p, hp0⟩ : ∃ p, p = sh.heap.objs.size := ⟨_, rfl⟩
    have hn : H p = none := I.hok.fresh (Nat.le_of_eq hp0.symm)
    have gr := grow_upd (o := dicO s.g p []) hn
    have envP : REnv s.g (fun b => P b ∨ b = p) F ρ σ (upd H p (dicO s.g p [])) := (env.grow gr).addP (fun b hb => hb.elim .inl fun z => .inr ⟨z ▸ env.freshNotIn hn, by rw [z, upd_same]; simp⟩) fun b hb => .inl hb
    have hbig := I.big
    have I1 : Inv X pins σ (upd H p (dicO s.g p [])) { sh with heap := sh.heap.push { cls := .type "dict", data := .dict #[] } } := by
      refine I.laid (a := p) (o := dicO s.g p []) (t' := sh.toks) (fun _ _ q => Heap.get?_push_of_some _ q) (Nat.le_of_eq hp0.symm) (ok_dicO (beq_eq_false_iff_ne.mpr fun z => ?_) ⟨{ cls := .type "dict", data := .dict #[] }, #[], 0, ?_, ⟨rfl, rfl, rfl⟩, rfl, rfl, fun x hx => ?_, List.nodup_nil⟩)
      · rw [hp0] at z
        exact absurd hbig (by rw [z]; exact Nat.lt_irrefl _)
      · rw [hp0]
        exact Heap.get?_push_size _ rfl
      · cases hx
    rw [arm_eval_Dict, zip_pairTrees [some e1] [.Constant (.bool b) j cp] X.env pos rfl rfl, dictDisplay_pairs _ (by simp [pairTrees]) (by simp [pairTrees])]
    refine wpAny_bind (wpAny_standAt (wpAny_bind (wpAny_subDictH (knd := tupleKind (mixKind X.prog X.w)) (Q := fun d s' => wpAny (model X.prog X.w) X.A (pure (Value.ref d)) (EP X pins σ Q) X.xe s') (show X.A.units < cLine from by have := ok.cl (u := 0) (by omega); omega) (by simp [pairTrees]) ?_)))
    refine pairTrees_cons_walk (thn ((peFz h.val).run pins _ σ _ (fun x H1 => ∃ (F1 : AS) (ρ1 : EV.Env) (ns : List Int), RV s.g F1 H1 (.tup (ns.map .int)) x ∧ H1 p = some (dicO s.g p []) ∧ REnv s.g P F1 ρ1 σ H1 ∧ ¬ F1 p ∧ ¬ P p ∧ NotIn ρ1 σ p ∧
      ∀ F2 H2 z, Step P F1 H1 F2 H2 → REnv s.g P F2 ρ1 σ H2 → RRes s.g P σ F2 ρ1 H2 (.dic [.tup (ns.map .int)] [.bl b], true) z → Q z H2) I1 ?_) fun u s1 ⟨x, H1, I1', r1, q1⟩ => ?_)
    · refine ⟨fun b => P b ∨ b = p, F, ρ, envP, (Ans.weakP ((Ans.bind a).step (Step.grow gr)) (P' := fun b => P b ∨ b = p) fun _ z => .inl z).monoE fun r F1 H1 eqr st k0 x env1 rv => ?_⟩
      obtain ⟨st1, k1⟩ := k0 F1 H1 Step.refl
      split at k1
      · rename_i xs hxs
        split at k1
        · rename_i hi
          obtain ⟨ns, rfl⟩ := intsP_some hi
          rw [hxs] at rv
          have ni : NotIn r.2 σ p := fun j sl e o e2 => by
            obtain ⟨s0, e0, o0, _⟩ := (evE_le _ t1 ρ r eqr).own j sl e o
            exact absurd (env.ownThere e0 o0 e2).1 (by simp [hn])
          have nP : ¬ P p := fun z => env.dP p z hn
          have nF : ¬ F1 p := fun z => (st1.nF p z).elim (fun f => env.dF p f hn) fun w => w (.inr rfl)
          refine ⟨F1, r.2, ns, rv, st1.kP p _ (.inr rfl) upd_same, env1.lessP (fun b hb => .inl hb) (fun i v b0 e e2 => ?_), nF, nP, ni, fun F2 H2 z st2 env2 rr => k1 F2 H2 st2 z env2 rr⟩
          obtain ⟨o, e3, b', e4, _, n2, _⟩ := env1.at_ i _ e
          rw [e2] at e3
          cases e3
          cases e4
          rcases n2 with n2 | n2
          · exact n2
          · subst n2
            exact absurd e2 (ni i _ e rfl)
        · exact k1.elim
      · exact k1.elim
    · obtain ⟨F1, ρ1, ns, rv, hD, env1, nF, nP, ni, fin⟩ := q1
      obtain ⟨bb, rfl⟩ : ∃ bb, x = .ref bb := by
        cases rv with
        | tup h r => exact ⟨_, rfl⟩
      cases r1
      refine thn ((pe_bl (b := b)).run pins s1 σ H1 (fun _ H' => H' = H1) I1' rfl) fun vv s2 ⟨y, H2, I2, ry, e2⟩ => ?_
      subst e2
      refine pairTrees_nil_walk ⟨[((ns.map Sum.inl : List L2.Key), bb, vv)], ⟨rfl, rfl, key_rv I2 ok.K rv, trivial⟩, ?_, fun h' tk dd hs => wpAny_pure ?_⟩
      · have := (dic_at (F := F1) (xs := []) I2 ok.K ok.pr ok.w hD .nil).2
        rw [← hp0]
        exact this
      · rw [← hp0] at dd hs ⊢
        have e4 : storedAllH ([] : List (List L2.Key × Addr × Value)) [((ns.map Sum.inl : List L2.Key), bb, vv)] = ([(ns, bb, vv)] : List KX).map kxK := by simp [storedAllH, storedH, atKey, kxK]
        rw [e4] at dd
        obtain ⟨y1, _⟩ := dic_at (F := F1) (xs := []) I2 ok.K ok.pr ok.w hD .nil
        obtain ⟨qo, es, ep, hq, _⟩ := id dd
        rw [ok.pr, ok.w] at dd
        have st : Step P F1 H2 F1 (upd H2 p (dicO s.g p [(ns, bb, vv)])) := step_ownG (g := s.g) hD (fun z => z) nF nP
        refine ⟨.ref p, upd H2 p (dicO s.g p [(ns, bb, vv)]), d_write I2 (by rw [hD]; exact True.intro) hs ⟨qo, hq⟩ (ok_dicO y1 dd), rfl, fin F1 _ _ st (env_ownG env1 hD (fun z => z) nF nP ni) (.inr ⟨rfl, p, rfl, nF, nP, ⟨[(ns, bb, vv)], upd_same, rfl, .cons (RV.mono st rv) .nil⟩, ni⟩)⟩⟩
  exact ⟨hp, peOpd hp (by intros; simp), peTst hp (fun _ => rfl), fun _ _ => rfl, fun _ _ _ z => by cases z⟩
end
end EV
set_option Elab.async false
set_option linter.all false
set_option autoImplicit false
set_option maxRecDepth 100000
set_option maxHeartbeats 2000000
/-! an own exception below ValueError whose __init__ says super().__init__(x); self.f = x. -/
namespace EV
open PySem PySem.Spec PyProof.Rows L2 PySem.W PySem.Calls
section
variable {prog : Program} {w : World} {A : Around} {E : Value → Shared → Prop} {h : Heap} {g : Array GenState} {d : Drawn} {t : Nat} {os : OsState}
variable {nm q : Str} {C N : Addr} {bs bm : List Value} {hdct : Bool} {sn : List Str} {sub : List Value} {ab : Bool} {col : Option Bool} {dd : Option Addr} {k0 k1 k2 k3 k5 : Option Value}
theorem mw_call {u x t0 : Addr} {rest : List Value} {Q : Value → Shared → Prop}
    (hC : h.get? C = some (excClassObj nm q C N bs bm hdct sn sub ab col dd k0 k1 k2 k3 k5 "ValueError.__new__")) (he : h.get? x = some (PySem.HandSPX.excO C t0)) (hu : h.get? u = some (kxs_mw "ValueError.__init__" x)) (hrest : rest.length ≤ sizeLine)
    (hq : ∀ h' t1, (∀ b o, b ≠ x → h.get? b = some o → h'.get? b = some o) → h'.get? x = some (PySem.HandSPX.excO C t1) → Q .none ⟨h', g, d, t, os⟩) :
    wpAny (model prog w) A (call (.ref u) rest) Q E ⟨h, g, d, t, os⟩ := by
  have FB := PySem.F.excBase_ValueError
  refine wpAny_call (codeAny_of_tree ?_)
  show wpAny _ A.in1 (callAny (.ref u) ⟨rest, []⟩) _ _ _
  simp only [callAny]
  refine wpAny_bind (wpAny_load hu ?_)
  simp only [kxs_mw, show (Value.type "method-wrapper" == Value.type "method" || Value.type "method-wrapper" == Value.type "builtin_function_or_method" || Value.type "method-wrapper" == Value.type "method-wrapper") = true by decide, if_true]
  refine PySem.W.KFB.if_so (by decide) ?_
  refine wpAny_bind (check_bound_init FB.toExcCallFacts hC he rfl ?_)
  refine wpAny_bind (wpAny_pure (wpAny_pure ?_))
  refine ⟨plainId_quiet FB.init.plain _, codeAny_builtin FB.initEntry ?_⟩
  exact exc_init_tree (cls := .ref C) (t0 := t0) (dv := none) (c2 := .none) (c3 := .none) (b4 := .bool false) he hrest fun h' k e' _ => hq h' _ k e'
end
/-- what it keeps: self's field -/
def spSup (C : Addr) (fld : Str) : Sp := fun xs H Q _ => ∃ (a : Addr) (y : V), xs = [.ref a, y] ∧ H a = some (exo a C none) ∧ ∀ dx, H dx = none → dx ≠ a → Q .non (upd (upd H dx (exd dx [(fld, y)])) a (exo a C (some dx)))
theorem fn_sup {CX : CXT} {P : Program} {w : World} {K : Frag} {mg : Str → Option Value} {base : Heap} {k : Nat} {f cc C cda : Addr} {name qual self r fld : Str} {params : Arguments} {scope : Scope} {dV kV doc pm ct oc cl ccl : Value} {an od cld cdd : Option Addr} {osl csl ccs : Array (Option Value)}
    {p0 p1 p2 p3 p4 p5 p6 p7 p8 p9 : Pos} {ar : Arg} {vs : Array Value} {file : Str} {tf : Tok} {pl : Sem Bool}
    (lk : K.lookup f = some ⟨oc, od, .func (ksFn name qual params [.Expr (.Call (.Attribute (.Call (.Name "super" p0) [] [] p1) "__init__" p2) [.Name r p3] [] p4) p5, .Assign [.Attribute (.Name self p6) fld p7] (.Name r p8) p9] scope dV kV doc pm an (.ref cda) ct cc), osl⟩)
    (he : ∀ env : PySem.Env, eval (.Call (.Attribute (.Call (.Name "super" p0) [] [] p1) "__init__" p2) [.Name r p3] [] p4) env = (do
        let ov ← attributeBase (.Call (.Name "super" p0) [] [] p1) "__init__" env (eval (.Call (.Name "super" p0) [] [] p1) env)
        standAt p2.atName
        let (f, first) ← holding [ov] (getMethod ov "__init__" pl)
        callWith p4 f first (backTo p4 (starEach [.Name r p3] env)) []))
    (hcd : codeIn K (.ref cda) qual = true) (T : OexC K C) (hno : findIn K (.ref C) fld = some none)
    (hp : (params.posonlyargs ++ params.args).head? = some ar) (har : ar.arg = self) (hne : self ≠ r)
    (hcode : K.lookup cda = some ⟨ccl, cdd, .fields vs, ccs⟩) (hvs : vs[2]? = some (.str file tf)) (hfile : ((P.main.file : Str) == file) = true)
    (hcellO : K.lookup cc = some ⟨cl, cld, .cell (some (.ref C)), csl⟩) (hsub : mroIn K C (.ref C) = some true) (hsuper : mg "super" = none)
    (hm : ks_superIn K C C "__init__" = some (some (.builtin "ValueError.__init__"))) (hB : subIn K (.ref C) (.type "ValueError") = some true) (ho : nsIn K cStatics "thirdparty.any" = some none)
    (hks : scope.names.lookup ("super" : Str) = some .globalImplicit) (hkc : scope.names.lookup ("__class__" : Str) = some .free) (hka : scope.names.lookup self = some .local) (hkr : scope.names.lookup r = some .local)
    (hk : scope.kind = .function) (hco : scope.isCoroutine = false) (hgen : scope.isGenerator = false) (hcell : ∀ x ∈ scope.names, x.2 ≠ .cell)
    (hds : (self == ("__debug__" : Str)) = false) (hdr : (r == ("__debug__" : Str)) = false)
    (htop : (P.main.scope.names.lookup ("super" : Str)).isSome = false) (hCX : True) :
    FnOk P w K mg base CX (k + 1) f (ksFn name qual params [.Expr (.Call (.Attribute (.Call (.Name "super" p0) [] [] p1) "__init__" p2) [.Name r p3] [] p4) p5, .Assign [.Attribute (.Name self p6) fld p7] (.Name r p8) p9] scope dV kV doc pm an (.ref cda) ct cc) [self, r] (spSup C fld) := by
  refine ⟨fun vs H Q E ⟨a, y, e, _⟩ => by rw [e]; rfl, fun A outer s H args us vs Q E hr e0 hb rv hsp => ?_⟩
  obtain ⟨a, y, rfl, ea, q⟩ := hsp
  obtain ⟨u0, u, rfl, ra, ru⟩ : ∃ u0 u, us = [u0, u] ∧ RelV (.ref a) u0 ∧ RelV y u := by
    cases rv with
    | cons r1 t => cases t with
      | cons r2 t2 => cases t2; exact ⟨_, _, rfl, r1, r2⟩
  obtain rfl : u0 = Value.ref a := ra
  have KX : K.In s.heap := e0.mod.kin.keeps fun b o e => (e0.bs b o e).1
  have lim : s.heap.NoLimit := e0.mod.nolimit.keeps fun b o e => (e0.bs b o e).1
  obtain ⟨t0, hx⟩ := exo_at e0.hok ea
  obtain ⟨nm, qn, N, bs, bm, sn, sub, ab, col, dd, k0, k1, k2, k3, k5, hC, hbm⟩ := T.cls
  have hcl : clsIn K C = some { name := nm, bases := bs, mro := .ref C :: bm, ns := N, qualname := qn, hasDict := true, slotNames := sn, subclasses := sub, abstract := ab, collection := col, hasDel := false } := by unfold clsIn; rw [hC] <;> rfl
  obtain ⟨mb, hmb, hmb2⟩ := e0.mod.blt
  have hbs : ∀ b o, base.get? b = some o → s.heap.get? b = some o := fun b o e => (e0.bs b o e).1
  obtain ⟨hp0, gg, dr, tk, os⟩ := s
  refine ks_codeAny_call_defAt hr.depth (KX _ _ lk) rfl lim (codeRec_of KX hcd) rfl hb hcell (fun x hx => ?_) (fun h₀ hns hkp => ?_) hco hgen hk
  · have hx : x ∈ [(self, Value.ref a), (r, u)] := hx
    rcases List.mem_cons.mp hx with rfl | hx
    · exact hka
    · have : x = (r, u) := by simpa using hx
      rw [this]; exact hkr
  have KX0 : K.In h₀ := KX.keeps hkp
  have v1 : ([(self, Value.ref a), (r, u)].reverse).lookup self = some (.ref a) := by
    have e : (self == r) = false := by simpa using hne
    simp [List.lookup, e]
  have v2 : ([(self, Value.ref a), (r, u)].reverse).lookup r = some u := by simp [List.lookup]
  have hint : ∀ {env : PySem.Env}, env.scope = scope → interactive env = false := fun {env} e => by simp [interactive, e, hk]
  refine ks_wpAt_execs_cons (ks_wpAt_Expr_any (ks_wpAt_MethodCall (ks_wpAt_super_base hks hkc rfl rfl (KX0 _ _ lk) rfl hp rfl (KX0 _ _ hcode) rfl hvs hfile htop ?_) (he _)) (hint rfl) rfl)
  refine ks_loadName_global hk hks (loadGlobal_builtin (mg := mg) (mb := mb) ((e0.mod.glob.keeps hbs).keeps hkp) hsuper ((hmb.keeps hbs).keeps hkp) ((hmb2 _ (by decide)).trans (show bootBuiltins "super" = some (.type "super") by kernel_rfl)) ⟨rfl, ?_⟩)
  refine wpAny_loadName_free hk hkc rfl ⟨_, KX0 _ _ hcellO, rfl⟩ ?_
  refine wpAny_loadName_local hk (by rw [har]; exact hka) hns (by rw [har]; exact v1) ?_
  have hxC : a ≠ C := fun e => by
    have := KX _ _ hC
    rw [← e, hx] at this
    cases this
  have hC0 : h₀.get? C = _ := KX0 _ _ hC
  have hx0 : h₀.get? a = some (PySem.HandSPX.excO C t0) := hkp _ _ hx
  refine ks_wpAny_isType_cls hC0 rfl ⟨rfl, ?_⟩
  refine ks_wpAny_call_super hC0 rfl hx0 rfl (fun c z => by cases z) (looks_mroIn KX0 hsub) (fun h1 e1 k1 => ?_)
  have KX1 : K.In h1 := KX0.keeps k1
  have hx1 : h1.get? a = some (PySem.HandSPX.excO C t0) := k1 _ _ hx0
  have I1 : InstAt h1 a (PySem.HandSPX.excO C t0) C none := ⟨hx1, rfl, rfl, trivial⟩
  have hI : Looks (model P w) h1 (isInstance (.ref a) (.type "ValueError")) true := I1.type.andThen (looks_subIn KX1 hB)
  unfold ks_superIn at hm
  rw [hcl] at hm
  refine kxs_getMethod kxs_ValueError e1 (looks_opaque KX1 ho) ((looks_clsIn KX1 hcl).andThen .now) rfl KX1 hm hI hxC rfl ?_
  have hns2 : (h1.push (kxs_mw "ValueError.__init__" a)).Ns hp0.objs.size (fun x => ([(self, Value.ref a), (r, u)].reverse).lookup x) := (hns.keeps k1).keeps fun b o e => Heap.get?_push_of_some _ e
  have hu2 : (h1.push (kxs_mw "ValueError.__init__" a)).get? h1.objs.size = some (kxs_mw "ValueError.__init__" a) := Heap.get?_push_size _ rfl
  refine kxs_callWith (i := "ValueError.__init__") (x := a) rfl (evalArgs_plain (PyProof.Rows.args_cons (wpAny_Name ?_ hdr) rfl))
  refine wpAny_loadName_local hk hkr hns2 v2 (PyProof.Rows.args_nil ?_)
  refine ⟨hu2, ?_⟩
  refine mw_call (Heap.get?_push_of_some _ (k1 _ _ hC0)) (Heap.get?_push_of_some _ hx1) hu2 (by simp [sizeLine_eq]) fun h2 t1 k2 hx2 => ?_
  have lL : a < hp0.objs.size := Heap.lt_size hx
  have nL : hp0.objs.size ≠ a := Nat.ne_of_gt lL
  have hns3 : h2.Ns hp0.objs.size (fun x => ([(self, Value.ref a), (r, u)].reverse).lookup x) := by
    obtain ⟨o, es, ep, e, rr⟩ := hns2
    exact ⟨o, es, ep, k2 _ _ nL e, rr⟩
  have KX3 : K.In h2 := fun b o e => k2 b o (fun z => by
    have := (e0.bs b o (e0.mod.kin b o e)).2
    rw [z, ea] at this
    cases this) (Heap.get?_push_of_some _ (KX1 b o e))
  refine wpAt_of_wpAny (wpAny_execs_cons (plainObj_wpAny_Assign_Attribute ?_ rfl))
  refine wpAny_Name ?_ hdr
  refine wpAny_loadName_local hk hkr hns3 v2 ?_
  refine wpAny_Name ?_ hds
  refine wpAny_loadName_local hk hka hns3 v1 ?_
  refine PySem.W.set_plain KX3 (ox := PySem.HandSPX.excO C t1) (od := none) ⟨hx2, rfl, rfl, trivial⟩ T.sa ?_
  refine PySem.HandSPX.exc_osa KX3 hx2 hcl (show PySem.HandSPX.refsVE (.ref C :: bm) = true from hbm) rfl hno (fun h' tk' dx k dn dne hx' hn => ?_)
  refine wpAny_execs_nil ?_
  have hsz : hp0.objs.size ≤ h2.objs.size := by
    obtain ⟨o, es, ep, e, rr⟩ := hns3
    exact Nat.le_of_lt (Heap.lt_size e)
  have hnd : H dx = none := e0.hok.fresh (Nat.le_trans hsz dn)
  have kk : ∀ b o, b ≠ a → hp0.get? b = some o → h'.get? b = some o := fun b o n e => k b o n (k2 b o n (Heap.get?_push_of_some _ (k1 _ _ (hkp _ _ e))))
  have nd : ∀ {b : Addr} {o : Obj}, hp0.get? b = some o → b ≠ dx := fun {b o} q => Nat.ne_of_lt (Nat.lt_of_lt_of_le (Heap.lt_size q) (Nat.le_trans hsz dn))
  have na : ∀ {b : Addr}, H b = none → b ≠ a := fun {b} n z => by
    rw [z, ea] at n
    cases n
  show CE outer P w H _ Q .none _
  refine ⟨.non, upd (upd H dx (exd dx [(fld, y)])) a (exo a C (some dx)), rfl, e0.bare, ?_, fun b o q => ?_, rfl, q dx hnd dne⟩
  · exact {
      keep := fun b o q n _ _ => kk b o (na n) q
      slot := fun b o q n _ _ => ⟨o.slots, kk b o (na n) q⟩
      free := fun b o q n _ => by rw [upd_ne (na n), upd_ne (nd q)]; exact n
      there := fun b o q _ => by
        by_cases hb : b = a
        · exact ⟨_, by rw [hb]; exact hx'⟩
        · exact ⟨o, kk b o hb q⟩
      tups := fun b xs q => by rw [upd_ne (at_ne ea q exo_tup), upd_ne (ne_of_none q hnd)]; exact q
      frzs := fun b o v q => by rw [upd_ne (at_ne ea q exo_frz), upd_ne (ne_of_none q hnd)]; exact q
      tbls := fun b ps q => ⟨#[], by rw [upd_ne (at_ne ea q exo_tbl), upd_ne (ne_of_none q hnd), q]; simp⟩ }
  · by_cases hb : b = a
    · subst hb
      rw [upd_same] at q
      cases q
      exact exo_ok hx'
    · rw [upd_ne hb] at q
      by_cases hd : b = dx
      · subst hd
        rw [upd_same] at q
        cases q
        exact exd_ok hn (relO_put (fs := []) ru fun g => True.intro)
      · rw [upd_ne hd] at q
        exact (e0.hok b o q).stay (fun c v hc z => kk c v (by
            rcases hc with hc | hc
            · rw [hc]
              exact hb
            · exact at_ne ea hc exo_own) z)
          (fun c hc => by rw [upd_ne (at_ne ea hc exo_own), upd_ne (ne_of_none hc hnd)]; exact hc) (fun c xs hc => by rw [upd_ne (at_ne ea hc exo_tup), upd_ne (ne_of_none hc hnd)]; exact hc)
/-- what is known of an exception class whose instances bear their reason -/
structure ExS (g : GE) (c : Nat) : Prop where
  ex : ∃ (fI : Addr) (fdv : FuncData) (ps : List Str), OexC g.K (g.ca c) ∧ findIn g.K (.ref (g.ca c)) "__init__" = some (some (.ref fI)) ∧ typeIn g.K (.ref fI) = some (.type "function") ∧
    FnOk g.P g.w g.K g.mg g.base (L2.CX g.P g.w) 1 fI fdv ps (spSup (g.ca c) "reason") ∧ Binds g.K fdv ps []
theorem evs1 {call : CallT} {t1 : E} {ρ : EV.Env} : evEs call [t1] ρ = (evE call t1 ρ).bind fun r => .ok ([r.1.1], r.2) := by
  simp only [evEs]
  rfl
theorem sup_heap {H : Hp} {a dx C : Addr} {fs : List (Str × V)} (ha : H a = none) (hne : dx ≠ a) : upd (del (upd (upd (upd H a (exo a C none)) dx (exd dx fs)) a (exo a C (some dx))) a) dx (.xd fs) = upd H dx (.xd fs) := by
  funext b
  by_cases h1 : b = dx
  · subst h1
    rw [upd_same, upd_same]
  · rw [upd_ne h1, upd_ne h1]
    by_cases h2 : b = a
    · subst h2
      rw [del_same, ha]
    · rw [del_ne h2, upd_ne h2, upd_ne h1, upd_ne h2]
section
variable {C : SC} {s : SX} {k : Nat} {X : Cx} {e1 : Expr} {t1 : E} {pos : Pos}
theorem ps_raiseX {c : Nat} {x : Str} {p p3 : Pos} (ok : Ok C s k X) (hk2 : 2 ≤ k) (hc : s.g.dc c) (F : ExS s.g c) (hg : Gl X x) (hm : X.mg x = some (.ref (s.g.ca c))) (hd : (x == ("__debug__" : Str)) = false) (h1 : DE s X e1 t1) :
    PS X (.Raise (some (.Call (.Name x p) [e1] [] p3)) none pos) (TSv s (.raise c (some t1))) := by
  obtain ⟨fI, fdv, ps, T, iC, tI, F1, hb⟩ := F.ex
  have hK := ok.K
  have hs : DEs s X [e1] [t1] := .cons h1 .nil
  refine psII (ps_raise ok.calm ok.tk (pmk_oex (CX := L2.CX s.g.P s.g.w) (C := s.g.ca c) (fI := fI) (k := 1) (fd := fdv) (ps := ps) (sp := spSup (s.g.ca c) "reason") (ds := []) (dvs := []) (by rw [hK]; exact T) (by rw [hK]; exact iC) (by rw [hK]; exact tI)
    (by rw [ok.pr, ok.w, ok.K, ok.mg, ok.base]; exact F1) (ok.room.mono hk2) (by rw [hK]; exact hb) .nil ?_ hg hm hs.pa hd (h1.star _ _) rfl)) fun pins sh D σ H I ⟨P, F', ρ, env, kp, a⟩ => ?_
  · intro pins σ H E e s' I hc
    obtain ⟨a, B, H', cls, dd, _, _, _, _, _, _, _, h⟩ := hc
    exact h.elim
  · refine ⟨P, F', ρ, env, ?_⟩
    rw [evs1]
    simp only [exS] at a
    cases hv : evE s.call t1 ρ with
    | bad => rw [hv] at a; exact a.elim
    | exc c' a' => rw [hv] at a; exact a
    | ok r =>
      rw [hv] at a
      simp only [Res.bind_ok] at a ⊢
      intro F1 H1 st xs env1 rs
      refine ⟨by rw [← rs.length]; simp, fun b hb => ?_⟩
      cases rs with
      | cons r1 rt =>
        cases rt
        refine ⟨b, _, rfl, upd_same, fun dx hdx hne => ⟨rfl, dx, [("reason", _)], upd_same, by rw [upd_ne hne, upd_same], ?_, ?_⟩⟩
        · rwa [upd_ne hne] at hdx
        · rw [upd_ne hne] at hdx
          rw [sup_heap hb hne]
          refine ⟨I.len, a _ _ _ _ (st.trans (Step.grow (grow_upd hdx))) ?_ ⟨hc, rfl, ?_⟩⟩
          · intro b2 hb2
            have := env1.dF b2 hb2
            by_cases h2 : b2 = dx
            · rw [h2, upd_same]
              simp
            · rw [upd_ne h2]
              exact this
          · exact .inr ⟨dx, _, rfl, upd_same, RV.mono (Step.grow (grow_upd hdx) : Step (fun _ => False) F1 H1 F1 _) r1⟩
end
end EV
set_option Elab.async false
set_option linter.all false
set_option autoImplicit false
set_option maxRecDepth 100000
/-! The text against the evaluator's syntax: a check, and what it gives. -/
namespace EV
open PySem PySem.Spec PyProof.Rows L2
/-! ### checks -/
mutual
def pvEq : PV → PV → Bool
  | .non, .non => true
  | .bl a, .bl b => a == b
  | .int a, .int b => decide (a = b)
  | .str a, .str b => decide (a = b)
  | .tup a, .tup b => pvEqs a b
  | .fn a, .fn b => decide (a = b)
  | _, _ => false
def pvEqs : List PV → List PV → Bool
  | [], [] => true
  | a :: as, b :: bs => pvEq a b && pvEqs as bs
  | _, _ => false
end
mutual
theorem pvEq_ok : ∀ (a b : PV), pvEq a b = true → a = b
  | a, b, h => by
    cases a <;> cases b <;> first
      | rfl
      | (simp [pvEq] at h; done)
      | (simp only [pvEq, decide_eq_true_eq, beq_iff_eq] at h; rw [h])
      | (simp only [pvEq] at h; rw [pvEqs_ok _ _ h])
theorem pvEqs_ok : ∀ (a b : List PV), pvEqs a b = true → a = b
  | [], [], _ => rfl
  | [], _ :: _, h => by simp [pvEqs] at h
  | _ :: _, [], h => by simp [pvEqs] at h
  | a :: as, b :: bs, h => by
    simp only [pvEqs, Bool.and_eq_true] at h
    rw [pvEq_ok a b h.1, pvEqs_ok as bs h.2]
end
def slotB (C : SC) (i : Nat) (x : Str) : Bool := decide (C.N[i]? = some x)
def visB (C : SC) (x : Str) : Bool := match C.sc.names.lookup x with
  | some .local => true
  | some .cell => true
  | some .free => true
  | _ => false
def locB (C : SC) (x : Str) : Bool := match C.sc.names.lookup x with
  | some .local => true
  | some .cell => C.fnb x
  | _ => false
def lclB (C : SC) (x : Str) : Bool := match C.sc.names.lookup x with
  | some .local => true
  | _ => false
def glB (C : SC) (x : Str) : Bool := match C.sc.names.lookup x with
  | some .globalImplicit => true
  | _ => false
def dbB (x : Str) : Bool := !(x == ("__debug__" : Str)) && !(x == ("__classdict__" : Str))
def nmB (C : SC) (i : Nat) (x : Str) : Bool := slotB C i x && visB C x && dbB x
def constB : PV → Const → Bool
  | .non, .none => true
  | .bl a, .bool b => a == b
  | .int a, .int b => decide (a = b)
  | .str a, .str b => decide (toS a = b)
  | _, _ => false
def notSlice : Expr → Bool
  | .Slice _ _ _ _ => false
  | _ => true
def notCall : Expr → Bool
  | .Call _ _ _ _ => false
  | _ => true
def notSetE : Expr → Bool
  | .Set _ _ _ => false
  | _ => true
def notComp : Expr → Bool
  | .ListComp _ _ _ _ => false
  | .SetComp _ _ _ _ => false
  | .DictComp _ _ _ _ _ => false
  | _ => true
def notTup : Expr → Bool
  | .Tuple _ _ _ => false
  | _ => true
/-- the built-in names -/
def bltns : List Str := ["len", "abs", "int", "tuple", "list", "sorted", "sum", "max", "min", "all", "any", "isinstance", "range", "enumerate", "zip", "bool", "str", "set", "dict", "super", "ValueError"]
def bltB (C : SC) (x : Str) : Bool := glB C x && bltns.contains x && dbB x && !(x == ("__name__" : Str))
/-- what is known of the program -/
structure Gb (C : SC) (s : SX) (k : Nat) : Prop where
  gd : Gd s k
  bn : ∀ x ∈ bltns, s.g.mg x = none
  cs : ∀ x v, (x, v) ∈ C.consts → ∃ u z, s.g.mg x = some u ∧ RelV z u ∧ ∀ F H, RV s.g F H v z
  fn : ∀ x f, (x, f) ∈ C.fns → s.g.mg x = some (.ref (s.g.fa f)) ∧ s.g.dm f
  ex : ∀ x c, (x, c) ∈ C.excs → s.g.mg x = some (.ref (s.g.ca c)) ∧ s.g.dc c ∧ (c < 100 → ExM s.g c)
  ea : ExA s.g
  np : ∀ f, s.np f = C.np f
def tyB : Ty → Str → Bool
  | .int, x => decide (x = "int") | .bool, x => decide (x = "bool") | .str, x => decide (x = "str") | .tup, x => decide (x = "tuple") | .lst, x => decide (x = "list")
def tysB (C : SC) : List Ty → List Expr → Bool
  | [], [] => true
  | t :: ts, .Name x _ :: es => bltB C x && tyB t x && tysB C ts es
  | _, _ => false
mutual
def chT : T → SC → Expr → Bool
  | .v i, C, .Name x _ => slotB C i x && locB C x
  | .tup ts, C, .Tuple es _ _ => chTs ts C es
  | _, _, _ => false
def chTs : List T → SC → List Expr → Bool
  | [], _, [] => true
  | t :: ts, C, e :: es => chT t C e && chTs ts C es
  | _, _, _ => false
end
def all2 {α β : Type} (f : α → β → Bool) : List α → List β → Bool
  | [], [] => true
  | a :: as, b :: bs => f a b && all2 f as bs
  | _, _ => false
def ownP (C : SC) (own : List Nat) : List (Str × Nat) := own.map fun i => ((C.N[i]?).getD "", i)
/-- what is walked -/
def chI (ch : E → Expr → Bool) (C : SC) (k : IK) (src : List E) (tg iter : Expr) : Bool := match k, src, tg, iter with
  | .seq, [t], _, e => ch t e && notSetE e
  | .rng1, [t], _, .Call (.Name x _) [e] [] _ => bltB C x && decide (x = "range") && ch t e
  | .rng2, [t1, t2], _, .Call (.Name x _) [e1, e2] [] _ => bltB C x && decide (x = "range") && ch t1 e1 && ch t2 e2
  | .rng3, [t1, t2, t3], _, .Call (.Name x _) [e1, e2, e3] [] _ => bltB C x && decide (x = "range") && ch t1 e1 && ch t2 e2 && ch t3 e3
  | .enum, [t], .Tuple _ _ _, .Call (.Name x _) [e] [] _ => bltB C x && decide (x = "enumerate") && ch t e
  | .zip, [t1, t2], .Tuple _ _ _, .Call (.Name x _) [e1, e2] [] _ => bltB C x && decide (x = "zip") && ch t1 e1 && ch t2 e2
  | _, _, _, _ => false
def chIfs (ch : E → Expr → Bool) : List E → List Expr → Bool
  | [], [] => true
  | [t], [e] => ch t e
  | _, _ => false
def opB (a b : Operator) : Bool := decide (a = b)
def chE : Nat → SC → E → Expr → Bool
  | 0, _, _, _ => false
  | n + 1, C, t, e => match t with
    | .c v => (match e with
      | .Constant c _ _ => constB v c
      | .Name x _ => glB C x && dbB x && C.consts.any fun p => decide (p.1 = x) && pvEq p.2 v
      | _ => false)
    | .v i => (match e with
      | .Name x _ => nmB C i x
      | _ => false)
    | .mv i => (match e with
      | .Name x _ => nmB C i x
      | _ => false)
    | .and a b => (match e with
      | .BoolOp .And [x, y] _ => chE n C a x && chE n C b y
      | .BoolOp .And (x :: y :: z :: r) p => chE n C a x && chE n C b (.BoolOp .And (y :: z :: r) p)
      | _ => false)
    | .or a b => (match e with
      | .BoolOp .Or [x, y] _ => chE n C a x && chE n C b y
      | .BoolOp .Or (x :: y :: z :: r) p => chE n C a x && chE n C b (.BoolOp .Or (y :: z :: r) p)
      | _ => false)
    | .not a => (match e with
      | .UnaryOp .Not x _ => chE n C a x
      | _ => false)
    | .un .neg a => (match e with
      | .UnaryOp .USub x _ => chE n C a x
      | _ => false)
    | .un .inv _ => false
    | .bin o a b => (match e with
      | .BinOp x op y _ => decide (op = bop o) && chE n C a x && chE n C b y
      | _ => false)
    | .cmp o a b => (match e with
      | .Compare x [op] [y] _ => decide (op = cop o) && !(behindInMarks op y) && chE n C a x && chE n C b y
      | _ => false)
    | .chain o o' a b c => (match e with
      | .Compare x [op, op'] [y, z] _ => decide (op = cop o) && decide (op' = cop o') && !(lastMarks [op, op'] [y, z]) && chE n C a x && chE n C b y && chE n C c z
      | _ => false)
    | .ite a b c => (match e with
      | .IfExp x y z _ => chE n C a x && chE n C b y && chE n C c z
      | _ => false)
    | .call f ts => (match e with
      | .Call (.Name x _) es [] _ => glB C x && dbB x && (C.fns.any fun p => decide (p.1 = x) && decide (p.2 = f)) && decide (ts.length = C.np f) && all2 (chE n C) ts es
      | _ => false)
    | .callio f i ts => (match e with
      | .Call (.Name x _) (.Name y _ :: es) [] _ => glB C x && dbB x && (C.fns.any fun p => decide (p.1 = x) && decide (p.2 = f)) && decide (ts.length + 1 = C.np f) && nmB C i y && all2 (chE n C) ts es
      | _ => false)
    | .callv i ts => (match ts, e with
      | t1 :: ts, .Call (.Name x _) (e1 :: es) [] _ => nmB C i x && chE n C t1 e1 && all2 (chE n C) ts es
      | _, _ => false)
    | .bi b ts => (match b, ts, e with
      | .isi tys, [t1], .Call (.Name x _) [e1, .Name y _] [] _ => (match tys with
        | [ty] => bltB C x && decide (x = "isinstance") && bltB C y && tyB ty y && chE n C t1 e1
        | _ => false)
      | .isi tys, [t1], .Call (.Name x _) [e1, .Tuple es _ _] [] _ => bltB C x && decide (x = "isinstance") && tysB C tys es && decide (tys.length ≤ 100) && chE n C t1 e1
      | .isi _, _, _ => false
      | .lens, [t1], .Call (.Name x _) [.Call (.Name y _) [e1] [] _] [] _ => bltB C x && decide (x = "len") && bltB C y && decide (y = "set") && chE n C t1 e1
      | .lens, _, _ => false
      | .trg3, [t1, t2, t3], .Call (.Name x _) [.Call (.Name y _) [e1, e2, e3] [] _] [] _ => bltB C x && decide (x = "tuple") && bltB C y && decide (y = "range") && chE n C t1 e1 && chE n C t2 e2 && chE n C t3 e3
      | .trg3, _, _ => false
      | b, t1 :: ts, .Call (.Name x _) (e1 :: es) [] _ => bltB C x && decide (x = bikN (bik b)) && chE n C t1 e1 && all2 (chE n C) ts es
      | _, _, _ => false)
    | .me m o ts => (match ts, e with
      | t1 :: ts, .Call (.Attribute ob name apos) (e1 :: es) [] pos => decide (name = meN m) && notCall ob && (apos.endLine == pos.line) && decide ((e1 :: es).length < 29) && chE n C o ob && chE n C t1 e1 && all2 (chE n C) ts es
      | _, _ => false)
    | .mu m i ts => (match m, ts, e with
      | .pop, [], .Call (.Attribute (.Name x _) name apos) [] [] pos => decide (name = "pop") && (apos.endLine == pos.line) && nmB C i x
      | m, t1 :: ts, .Call (.Attribute (.Name x _) name apos) (e1 :: es) [] pos => decide (name = muN m) && (apos.endLine == pos.line) && decide ((e1 :: es).length < 29) && nmB C i x && chE n C t1 e1 && all2 (chE n C) ts es
      | _, _, _ => false)
    | .sub a i => (match e with
      | .Subscript x y _ => notSlice y && chE n C a x && chE n C i y
      | _ => false)
    | .slc a lo hi => (match e with
      | .Subscript x (.Slice l h none _) _ => chE n C a x && (match lo, l with
          | none, none => true
          | some t, some e => chE n C t e
          | _, _ => false) && (match hi, h with
          | none, none => true
          | some t, some e => chE n C t e
          | _, _ => false)
      | _ => false)
    | .rev a => (match e with
      | .Subscript x (.Slice none none (some (.UnaryOp .USub (.Constant (.int 1) _ _) _)) _) _ => chE n C a x
      | _ => false)
    | .tup ts => (match e with
      | .Tuple es _ _ => all2 (chE n C) ts es
      | _ => false)
    | .lst ts => (match e with
      | .List es _ => all2 (chE n C) ts es
      | _ => false)
    | .lc own t k src ifs elt => (match e with
      | .ListComp el [⟨tg, iter, es, 0⟩] scope _ => chI (chE n C) C k src tg iter && blkC C.N C.sc scope (ownP C own) && chT t (C.blk scope) tg && chIfs (chE n (C.blk scope)) ifs es && chE n (C.blk scope) elt el &&
          (t.slots.all fun i => own.contains i) && (!k.pr || t.isTup)
      | _ => false)
    | .lcx own t k src elt => (match e with
      | .ListComp el [⟨tg, iter, [], 0⟩] scope _ => C.top && (chI (chE n C) C k src tg iter && blkC C.N C.sc scope (ownP C own) && chT t (C.blk scope) tg && chE n (C.blk scope) elt el &&
          (t.slots.all fun i => own.contains i) && (!k.pr || t.isTup))
      | _ => false)
    | .dic1 a v => (match v, e with
      | .bl b, .Dict [some x] [.Constant (.bool b') _ _] _ => decide (b = b') && chE n C a x
      | _, _ => false)
end EV
set_option Elab.async false
set_option linter.all false
set_option autoImplicit false
set_option maxRecDepth 100000
/-! The check of expressions is sound. -/
namespace EV
open PySem PySem.Spec PyProof.Rows L2
section
variable {C : SC} {s : SX} {k : Nat} {X : Cx} {e : Expr} {t : E} {pos : Pos} {x : Str} {i : Nat}
theorem slot_of (ok : Ok C s k X) (h : slotB C i x = true) : X.N[i]? = some x := by
  rw [ok.N]
  exact of_decide_eq_true h
theorem vis_of (ok : Ok C s k X) (h : visB C x = true) : Vis X.env.scope x := by
  unfold visB at h
  unfold Vis
  rw [ok.sc]
  split at h
  · rename_i q; exact .inl q
  · rename_i q; exact .inr (.inl q)
  · rename_i q; exact .inr (.inr q)
  · cases h
theorem gl_of (ok : Ok C s k X) (h : glB C x = true) : Gl X x := by
  unfold glB at h
  show X.env.scope.names.lookup x = some .globalImplicit
  rw [ok.sc]
  split at h
  · assumption
  · cases h
theorem lcl_of (ok : Ok C s k X) (h : lclB C x = true) : X.env.scope.names.lookup x = some .local := by
  unfold lclB at h
  rw [ok.sc]
  split at h
  · assumption
  · cases h
theorem loc_of (ok : Ok C s k X) (h : locB C x = true) : Loc X.env.scope x ∧ (X.fn x = true ∨ X.env.scope.names.lookup x = some .local) := by
  unfold locB at h
  unfold L2.Loc
  rw [ok.sc, ok.fnE]
  split at h
  · rename_i q; exact ⟨.inl q, .inr q⟩
  · rename_i q; exact ⟨.inr q, .inl h⟩
  · cases h
theorem db_of (h : dbB x = true) : (x == ("__debug__" : Str)) = false ∧ (x == ("__classdict__" : Str)) = false := by
  unfold dbB at h
  rw [Bool.and_eq_true] at h
  exact ⟨by simpa using h.1, by simpa using h.2⟩
theorem nm_of (ok : Ok C s k X) (h : nmB C i x = true) : X.N[i]? = some x ∧ Vis X.env.scope x ∧ (x == ("__debug__" : Str)) = false ∧ (x == ("__classdict__" : Str)) = false := by
  unfold nmB at h
  rw [Bool.and_eq_true, Bool.and_eq_true] at h
  exact ⟨slot_of ok h.1.1, vis_of ok h.1.2, db_of h.2⟩
theorem blt_of (ok : Ok C s k X) (gb : Gb C s k) (h : bltB C x = true) : Gl X x ∧ X.mg x = none ∧ x ≠ "__name__" ∧ (x == ("__debug__" : Str)) = false := by
  unfold bltB at h
  rw [Bool.and_eq_true, Bool.and_eq_true, Bool.and_eq_true] at h
  refine ⟨gl_of ok h.1.1.1, ?_, ?_, (db_of h.1.2).1⟩
  · rw [ok.mg]
    exact gb.bn x (List.contains_iff_mem.mp h.1.1.2)
  · intro z
    rw [z] at h
    simp at h
theorem Gb.blk (gb : Gb C s k) (scope : Scope) : Gb (C.blk scope) s.nx k := ⟨⟨fun f h => ⟨(gb.gd.fo f h).ex⟩, gb.gd.ln⟩, gb.bn, gb.cs, gb.fn, gb.ex, gb.ea, gb.np⟩
theorem boot_of (b : Bi) (h : notIsi b = true) : bootBuiltins (bikN (bik b)) = some (bikV (bik b)) := by
  cases b with
  | isi ts => cases h
  | lens => cases h
  | trg3 => cases h
  | _ => show bootBuiltins _ = some _; kernel_rfl
theorem boot_ty (ty : Ty) (h : tyB ty x = true) : bootBuiltins x = some (.type (tyN ty)) := by
  cases ty <;> (simp only [tyB, decide_eq_true_eq] at h; subst h; show bootBuiltins _ = some _; kernel_rfl)
theorem const_of {v : PV} {c : Const} {j : Nat} (h : constB v c = true) : DE s X (.Constant c j pos) (.c v) := by
  unfold constB at h
  split at h
  · exact d_const pe_non fun _ _ => .non
  · rw [eq_of_beq h]
    exact d_const pe_bl fun _ _ => .bl _
  · rw [of_decide_eq_true h]
    exact d_const pe_int fun _ _ => .int _
  · rw [← of_decide_eq_true h]
    exact d_const pe_str fun _ _ => .str _
  · cases h
theorem tys_of (ok : Ok C s k X) (gb : Gb C s k) : ∀ {ts : List Ty} {es : List Expr}, tysB C ts es = true → TyEs X es ts
  | [], [], _ => .nil
  | [], _ :: _, h => by simp [tysB] at h
  | t :: ts, [], h => by simp [tysB] at h
  | t :: ts, e :: es, h => by
    cases e with
    | Name y p =>
      simp only [tysB, Bool.and_eq_true] at h
      obtain ⟨h1, h2, h3, h4⟩ := blt_of ok gb h.1.1
      exact .cons h1 h2 (boot_ty t h.1.2) h3 h4 (tys_of ok gb h.2)
    | _ => simp [tysB] at h
theorem des_of {n : Nat} (ih : ∀ (t : E) (e : Expr), chE n C t e = true → DE s X e t) : ∀ {ts : List E} {es : List Expr}, all2 (chE n C) ts es = true → DEs s X es ts
  | [], [], _ => .nil
  | [], _ :: _, h => by simp [all2] at h
  | _ :: _, [], h => by simp [all2] at h
  | t :: ts, e :: es, h => by
    simp only [all2, Bool.and_eq_true] at h
    exact .cons (ih t e h.1) (des_of ih h.2)
mutual
theorem dt_of (hC : ∀ x i, slotB C i x = true → X.N[i]? = some x) (hL : ∀ x, locB C x = true → Loc X.env.scope x ∧ (X.fn x = true ∨ X.env.scope.names.lookup x = some .local)) (hnd : X.N.Nodup) (hK : X.K = s.g.K) (hc : X.calm = true) : ∀ (t : T) (e : Expr), chT t C e = true → DT s X e t
  | .v i, e, h => by
    cases e with
    | Name x p =>
      simp only [chT, Bool.and_eq_true] at h
      obtain ⟨h1, h2⟩ := hL x h.2
      exact dt_name hnd (hC x i h.1) h1 h2
    | _ => simp [chT] at h
  | .tup ts, e, h => by
    cases e with
    | Tuple es kk p =>
      simp only [chT] at h
      obtain ⟨h1, h2⟩ := dts_of hC hL hnd hK hc ts es h
      exact dt_tup hK hc h1 h2
    | _ => simp [chT] at h
theorem dts_of (hC : ∀ x i, slotB C i x = true → X.N[i]? = some x) (hL : ∀ x, locB C x = true → Loc X.env.scope x ∧ (X.fn x = true ∨ X.env.scope.names.lookup x = some .local)) (hnd : X.N.Nodup) (hK : X.K = s.g.K) (hc : X.calm = true) : ∀ (ts : List T) (es : List Expr), chTs ts C es = true → DTs s X es ts ∧ es.length = ts.length
  | [], [], _ => ⟨.nil, rfl⟩
  | [], _ :: _, h => by simp [chTs] at h
  | _ :: _, [], h => by simp [chTs] at h
  | t :: ts, e :: es, h => by
    simp only [chTs, Bool.and_eq_true] at h
    obtain ⟨h1, h2⟩ := dts_of hC hL hnd hK hc ts es h.2
    exact ⟨.cons (dt_of hC hL hnd hK hc t e h.1) h1, by simp [h2]⟩
end
theorem dtO (ok : Ok C s k X) {t : T} {e : Expr} (h : chT t C e = true) : DT s X e t := dt_of (fun x i h => slot_of ok h) (fun x h => loc_of ok h) (by rw [ok.N]; exact ok.nd) ok.K ok.calm t e h
theorem notSet_of (h : notSetE e = true) : ∀ env v, foldedSetIterable e env v = pure v := fun env v => by
  cases e <;> first
    | rfl
    | cases h
theorem di_of (ok : Ok C s k X) (gb : Gb C s k) {ch : E → Expr → Bool} (ih : ∀ (t : E) (e : Expr), ch t e = true → DE s X e t) {kd : IK} {src : List E} {tg iter : Expr} (h : chI ch C kd src tg iter = true) : DI s X tg iter kd src := by
  unfold chI at h
  split at h
  · rw [Bool.and_eq_true] at h
    exact di_seq ok (ih _ _ h.1) (notSet_of h.2)
  · simp only [Bool.and_eq_true, decide_eq_true_eq] at h
    obtain ⟨⟨h1, rfl⟩, h3⟩ := h
    obtain ⟨q1, q2, _⟩ := blt_of ok gb h1
    exact di_rng1 ok q1 q2 (ih _ _ h3)
  · simp only [Bool.and_eq_true, decide_eq_true_eq] at h
    obtain ⟨⟨⟨h1, rfl⟩, h3⟩, h4⟩ := h
    obtain ⟨q1, q2, _⟩ := blt_of ok gb h1
    exact di_rng2 ok q1 q2 (ih _ _ h3) (ih _ _ h4)
  · simp only [Bool.and_eq_true, decide_eq_true_eq] at h
    obtain ⟨⟨⟨⟨h1, rfl⟩, h3⟩, h4⟩, h5⟩ := h
    obtain ⟨q1, q2, _⟩ := blt_of ok gb h1
    exact di_rng3 ok q1 q2 (ih _ _ h3) (ih _ _ h4) (ih _ _ h5)
  · simp only [Bool.and_eq_true, decide_eq_true_eq] at h
    obtain ⟨⟨h1, rfl⟩, h3⟩ := h
    obtain ⟨q1, q2, _⟩ := blt_of ok gb h1
    exact di_enum ok q1 q2 (ih _ _ h3)
  · simp only [Bool.and_eq_true, decide_eq_true_eq] at h
    obtain ⟨⟨⟨h1, rfl⟩, h3⟩, h4⟩ := h
    obtain ⟨q1, q2, _⟩ := blt_of ok gb h1
    exact di_zip ok q1 q2 (ih _ _ h3) (ih _ _ h4)
  · cases h
theorem difs_of {ch : E → Expr → Bool} (ih : ∀ (t : E) (e : Expr), ch t e = true → DE s X e t) {ifs : List E} {es : List Expr} (h : chIfs ch ifs es = true) : DIfs s X es ifs := by
  unfold chIfs at h
  split at h
  · exact .nil
  · exact .one (ih _ _ h)
  · cases h
theorem ownP_map (C : SC) (own : List Nat) : (ownP C own).map (·.2) = own := by
  unfold ownP
  rw [List.map_map]
  induction own with
  | nil => rfl
  | cons i own ih => rw [List.map_cons, ih]; rfl
theorem abase {o : Expr} (h : notCall o = true) (name : Str) (env : PySem.Env) : attributeBase o name env (eval o env) = eval o env := by
  cases o <;> first
    | rfl
    | cases h
theorem plainIx_of {b : Expr} (h : notSlice b = true) : PlainIx b := fun o i => by
  cases b <;> first
    | rfl
    | cases h
/-- a comprehension's parts -/
theorem lc_of {n : Nat} (ok : Ok C s k X) (gb : Gb C s k) (ih : ∀ (C : SC) (s : SX) (X : Cx), Ok C s k X → Gb C s k → ∀ (t : E) (e : Expr), chE n C t e = true → DE s X e t) {own : List Nat} {tt : T} {kd : IK} {src ifs : List E} {elt : E} {el tg iter : Expr} {es : List Expr} {scope : Scope}
    (h : chE (n + 1) C (.lc own tt kd src ifs elt) (.ListComp el [⟨tg, iter, es, 0⟩] scope pos) = true) : LcOk s X el tg iter es scope (ownP C own) tt kd src ifs elt := by
  simp only [chE, Bool.and_eq_true, Bool.or_eq_true] at h
  obtain ⟨⟨⟨⟨⟨⟨h1, h2⟩, h3⟩, h4⟩, h5⟩, h6⟩, h7⟩ := h
  have hb := blkOk_by h2
  have okb := fun sh H Cc cl fp => ok.blk (scope := scope) hb.kind sh H Cc cl fp
  refine ⟨di_of ok gb (ih C s X ok gb) h1, by rw [ok.N, ok.sc]; exact hb, fun sh H Cc cl fp => dtO (okb sh H Cc cl fp) h3, fun sh H Cc cl fp => difs_of (ih _ _ _ (okb sh H Cc cl fp) (gb.blk scope)) h4, fun sh H Cc cl fp => ih _ _ _ (okb sh H Cc cl fp) (gb.blk scope) _ _ h5, fun i hi => ?_, fun hp => ?_⟩
  · rw [ownP_map]
    exact List.contains_iff_mem.mp (List.all_eq_true.mp h6 i hi)
  · rcases h7 with h7 | h7
    · rw [hp] at h7
      cases h7
    · exact h7
theorem Gb.blkX (gb : Gb C s k) (scope : Scope) : Gb (C.blk scope) s k := ⟨gb.gd, gb.bn, gb.cs, gb.fn, gb.ex, gb.ea, gb.np⟩
theorem lx_of {n : Nat} (ok : Ok C s k X) (gb : Gb C s k) (ih : ∀ (C : SC) (s : SX) (X : Cx), Ok C s k X → Gb C s k → ∀ (t : E) (e : Expr), chE n C t e = true → DE s X e t) {own : List Nat} {tt : T} {kd : IK} {src : List E} {elt : E} {el tg iter : Expr} {scope : Scope}
    (h : chE (n + 1) C (.lcx own tt kd src elt) (.ListComp el [⟨tg, iter, [], 0⟩] scope pos) = true) : C.top = true ∧ LxOk s X el tg iter scope (ownP C own) tt kd src elt := by
  simp only [chE, Bool.and_eq_true, Bool.or_eq_true] at h
  obtain ⟨h0, ⟨⟨⟨⟨h1, h2⟩, h3⟩, h5⟩, h6⟩, h7⟩ := h
  have hb := blkOk_by h2
  refine ⟨h0, lc_of (pos := pos) ok gb ih ?_, fun sh H Cc cl fp tb => dtO (ok.blkX hb.kind sh H Cc cl fp tb) h3, fun sh H Cc cl fp tb => ih _ _ _ (ok.blkX hb.kind sh H Cc cl fp tb) (gb.blkX scope) _ _ h5⟩
  simp only [chE, chIfs, Bool.and_eq_true, Bool.or_eq_true]
  exact ⟨⟨⟨⟨⟨⟨h1, h2⟩, h3⟩, trivial⟩, h5⟩, h6⟩, h7⟩
theorem fns_of (gb : Gb C s k) {f : Nat} (h : (C.fns.any fun p => decide (p.1 = x) && decide (p.2 = f)) = true) : s.g.mg x = some (.ref (s.g.fa f)) ∧ s.g.dm f := by
  rw [List.any_eq_true] at h
  obtain ⟨p, hp, h⟩ := h
  rw [Bool.and_eq_true, decide_eq_true_eq, decide_eq_true_eq] at h
  obtain ⟨rfl, rfl⟩ := h
  exact gb.fn _ _ hp
set_option maxHeartbeats 4000000 in
theorem chE_ok : ∀ (n : Nat) (C : SC) (s : SX) (X : Cx), Ok C s k X → Gb C s k → ∀ (t : E) (e : Expr), chE n C t e = true → DE s X e t
  | 0, _, _, _, _, _, _, _, h => by simp [chE] at h
  | n + 1, C, s, X, ok, gb, t, e, h => by
    have ih := chE_ok n
    have ihc := ih C s X ok gb
    cases t with
    | c v =>
      simp only [chE] at h
      split at h
      · exact const_of h
      · rename_i x p
        simp only [Bool.and_eq_true, List.any_eq_true, decide_eq_true_eq] at h
        obtain ⟨⟨h1, h2⟩, ⟨y, w⟩, hp, rfl, hw⟩ := h
        rw [← pvEq_ok _ _ hw]
        obtain ⟨u, z, e1, e2, e3⟩ := gb.cs _ _ hp
        exact d_glob (gl_of ok h1) (by rw [ok.mg]; exact e1) e2 e3 (db_of h2).1
      · cases h
    | v i =>
      simp only [chE] at h
      split at h
      · obtain ⟨h1, h2, h3, h4⟩ := nm_of ok h
        exact d_var h1 h2 h3 h4
      · cases h
    | mv i =>
      simp only [chE] at h
      split at h
      · obtain ⟨h1, h2, h3, h4⟩ := nm_of ok h
        exact d_mv h1 h2 h3 h4
      · cases h
    | and a b =>
      simp only [chE] at h
      split at h
      · rw [Bool.and_eq_true] at h
        exact d_and2 (ihc _ _ h.1) (ihc _ _ h.2)
      · rw [Bool.and_eq_true] at h
        exact d_and3 (ihc _ _ h.1) (ihc _ _ h.2)
      · cases h
    | or a b =>
      simp only [chE] at h
      split at h
      · rw [Bool.and_eq_true] at h
        exact d_or2 (ihc _ _ h.1) (ihc _ _ h.2)
      · rw [Bool.and_eq_true] at h
        exact d_or3 (ihc _ _ h.1) (ihc _ _ h.2)
      · cases h
    | not a =>
      simp only [chE] at h
      split at h
      · exact d_not (ihc _ _ h)
      · cases h
    | un o a =>
      cases o with
      | neg =>
        simp only [chE] at h
        split at h
        · exact d_un ok rfl (ihc _ _ h)
        · cases h
      | inv => simp [chE] at h
    | bin o a b =>
      simp only [chE] at h
      split at h
      · simp only [Bool.and_eq_true, decide_eq_true_eq] at h
        obtain ⟨⟨rfl, h2⟩, h3⟩ := h
        exact d_bin ok (ihc _ _ h2) (ihc _ _ h3)
      · cases h
    | cmp o a b =>
      simp only [chE] at h
      split at h
      · simp only [Bool.and_eq_true, decide_eq_true_eq, Bool.not_eq_true'] at h
        obtain ⟨⟨⟨rfl, h1⟩, h2⟩, h3⟩ := h
        exact d_cmp ok (ihc _ _ h2) (ihc _ _ h3) h1
      · cases h
    | chain o o' a b c =>
      simp only [chE] at h
      split at h
      · simp only [Bool.and_eq_true, decide_eq_true_eq, Bool.not_eq_true'] at h
        obtain ⟨⟨⟨⟨⟨rfl, rfl⟩, h1⟩, h2⟩, h3⟩, h4⟩ := h
        exact d_chain ok (ihc _ _ h2) (ihc _ _ h3) (ihc _ _ h4) h1
      · cases h
    | ite a b c =>
      simp only [chE] at h
      split at h
      · simp only [Bool.and_eq_true] at h
        exact d_ite (ihc _ _ h.1.1) (ihc _ _ h.1.2) (ihc _ _ h.2)
      · cases h
    | call f ts =>
      simp only [chE] at h
      split at h
      · simp only [Bool.and_eq_true, decide_eq_true_eq] at h
        obtain ⟨⟨⟨⟨h1, h2⟩, h3⟩, h4⟩, h5⟩ := h
        obtain ⟨q1, q2⟩ := fns_of gb h3
        exact d_call ok gb.gd q2 (gl_of ok h1) (by rw [ok.mg]; exact q1) (db_of h2).1 (des_of ihc h5) (by rw [gb.np]; exact h4)
      · cases h
    | callio f i ts =>
      simp only [chE] at h
      split at h
      · simp only [Bool.and_eq_true, decide_eq_true_eq] at h
        obtain ⟨⟨⟨⟨⟨h1, h2⟩, h3⟩, h4⟩, h6⟩, h5⟩ := h
        obtain ⟨q1, q2⟩ := fns_of gb h3
        obtain ⟨p1, p2, p3, p4⟩ := nm_of ok h6
        exact d_callio ok gb.gd q2 (gl_of ok h1) (by rw [ok.mg]; exact q1) (db_of h2).1 p1 p2 p3 p4 (des_of ihc h5) (by rw [gb.np]; exact h4)
      · cases h
    | callv i ts =>
      simp only [chE] at h
      split at h
      · simp only [Bool.and_eq_true] at h
        obtain ⟨⟨h1, h2⟩, h3⟩ := h
        obtain ⟨p1, p2, p3, p4⟩ := nm_of ok h1
        exact d_callv ok gb.gd p1 p2 p3 p4 (.cons (ihc _ _ h2) (des_of ihc h3))
      · cases h
    | bi b ts =>
      simp only [chE] at h
      split at h
      · split at h
        · simp only [Bool.and_eq_true, decide_eq_true_eq] at h
          obtain ⟨⟨⟨⟨h1, rfl⟩, h2⟩, h3⟩, h4⟩ := h
          obtain ⟨q1, q2, q3, q4⟩ := blt_of ok gb h1
          obtain ⟨r1, r2, r3, r4⟩ := blt_of ok gb h2
          exact d_isi1 ok q1 q2 (by kernel_rfl) q3 q4 (ihc _ _ h4) r1 r2 (boot_ty _ h3) r3 r4
        · cases h
      · simp only [Bool.and_eq_true, decide_eq_true_eq] at h
        obtain ⟨⟨⟨⟨h1, rfl⟩, h2⟩, h3⟩, h4⟩ := h
        obtain ⟨q1, q2, q3, q4⟩ := blt_of ok gb h1
        exact d_isiT ok q1 q2 (by kernel_rfl) q3 q4 (ihc _ _ h4) (tys_of ok gb h2) h3
      · cases h
      · simp only [Bool.and_eq_true, decide_eq_true_eq] at h
        obtain ⟨⟨⟨⟨h1, rfl⟩, h2⟩, rfl⟩, h3⟩ := h
        obtain ⟨q1, q2, q3, q4⟩ := blt_of ok gb h1
        obtain ⟨r1, r2, r3, r4⟩ := blt_of ok gb h2
        exact d_lens ok q1 q2 r1 r2 (ihc _ _ h3)
      · cases h
      · simp only [Bool.and_eq_true, decide_eq_true_eq] at h
        obtain ⟨⟨⟨⟨⟨⟨h1, rfl⟩, h2⟩, rfl⟩, h3⟩, h4⟩, h5⟩ := h
        obtain ⟨q1, q2, q3, q4⟩ := blt_of ok gb h1
        obtain ⟨r1, r2, r3, r4⟩ := blt_of ok gb h2
        exact d_trg3 ok q1 q2 r1 r2 (ihc _ _ h3) (ihc _ _ h4) (ihc _ _ h5)
      · cases h
      · rename_i hne
        simp only [Bool.and_eq_true, decide_eq_true_eq] at h
        obtain ⟨⟨⟨h1, rfl⟩, h2⟩, h3⟩ := h
        obtain ⟨q1, q2, q3, q4⟩ := blt_of ok gb h1
        have hb : notIsi b = true := by
          cases b <;> first
            | rfl
            | exact absurd rfl (by assumption)
            | (exfalso; simp_all)
        exact d_bi ok hb (.cons (ihc _ _ h2) (des_of ihc h3)) q1 q2 (boot_of b hb) q3 q4
      · cases h
    | me m o ts =>
      simp only [chE] at h
      split at h
      · simp only [Bool.and_eq_true, decide_eq_true_eq] at h
        obtain ⟨⟨⟨⟨⟨⟨h1, h2⟩, h3⟩, h4⟩, h5⟩, h6⟩, h7⟩ := h
        exact d_me ok (ihc _ _ h5) (.cons (ihc _ _ h6) (des_of ihc h7)) h4 (abase h2 _ _) h3 h1
      · cases h
    | mu m i ts =>
      simp only [chE] at h
      split at h
      · simp only [Bool.and_eq_true, decide_eq_true_eq] at h
        obtain ⟨⟨rfl, h2⟩, h3⟩ := h
        obtain ⟨p1, p2, p3, p4⟩ := nm_of ok h3
        exact d_mu0 ok h2 p1 p2 p3 p4
      · simp only [Bool.and_eq_true, decide_eq_true_eq] at h
        obtain ⟨⟨⟨⟨⟨h1, h2⟩, h3⟩, h4⟩, h5⟩, h6⟩ := h
        obtain ⟨p1, p2, p3, p4⟩ := nm_of ok h4
        exact d_mu ok (.cons (ihc _ _ h5) (des_of ihc h6)) h3 h2 h1 p1 p2 p3 p4
      · cases h
    | sub a i =>
      simp only [chE] at h
      split at h
      · simp only [Bool.and_eq_true] at h
        exact d_sub ok (ihc _ _ h.1.2) (ihc _ _ h.2) (plainIx_of h.1.1)
      · cases h
    | slc a lo hi =>
      simp only [chE] at h
      split at h
      · simp only [Bool.and_eq_true] at h
        obtain ⟨⟨h1, h2⟩, h3⟩ := h
        refine d_slc ok (ihc _ _ h1) ?_ ?_
        · split at h2
          · exact .none
          · exact .some (ihc _ _ h2)
          · cases h2
        · split at h3
          · exact .none
          · exact .some (ihc _ _ h3)
          · cases h3
      · cases h
    | rev a =>
      simp only [chE] at h
      split at h
      · exact d_rev ok (ihc _ _ h)
      · cases h
    | tup ts =>
      simp only [chE] at h
      split at h
      · exact d_tup ok (des_of ihc h)
      · cases h
    | lst ts =>
      simp only [chE] at h
      split at h
      · exact d_lst ok (des_of ihc h)
      · cases h
    | lc own tt kd src ifs elt =>
      have h0 := h
      simp only [chE] at h
      split at h
      · have := d_lc (pos := by assumption) ok (lc_of ok gb ih h0)
        rw [ownP_map] at this
        exact this
      · cases h
    | lcx own tt kd src elt =>
      have h0 := h
      simp only [chE] at h
      split at h
      · obtain ⟨q1, q2⟩ := lx_of ok gb ih h0
        have := d_lcx (pos := by assumption) ok q1 q2
        rw [ownP_map] at this
        exact this
      · cases h
    | dic1 a v =>
      simp only [chE] at h
      split at h
      · rw [Bool.and_eq_true, decide_eq_true_eq] at h
        obtain ⟨rfl, h⟩ := h
        exact d_dic1 ok (ihc _ _ h)
      · cases h
end
end EV
set_option Elab.async false
set_option linter.all false
set_option autoImplicit false
set_option maxRecDepth 100000
/-! The check of statements, and that it is sound. -/
namespace EV
open PySem PySem.Spec PyProof.Rows L2
theorem bk_fun {env : PySem.Env} (h : env.scope.kind = .function) : env.blockKind = .function := by
  unfold Env.blockKind
  rw [h]
  rfl
def parNs (sc : Scope) (line : Nat) (ts : List Expr) : List Str := ts.filterMap fun
    | .Name id pos => if sc.names.lookup id == some .local && pos.line == line then some id else none
    | _ => none
def lineOf (ts : List Expr) : Nat := (ts.head?.map (·.pos.line)).getD 0
def notStar : Expr → Bool
  | .Starred _ _ => false
  | _ => true
theorem swp_eq {ts vs : List Expr} {k k2 : Nat} {p p2 : Pos} {env : PySem.Env} (hk : env.scope.kind = .function) (hs : ∀ v ∈ vs, notStar v = true) :
    swappedStores [.Tuple ts k p] (.Tuple vs k2 p2) env = if (!(ts.length == 2 || ts.length == 3) || vs.length != ts.length) = true then pure none else
      if ((parNs env.scope (lineOf ts) ts).length != ts.length || (parNs env.scope (lineOf ts) ts).eraseDups.length != (parNs env.scope (lineOf ts) ts).length) = true then pure none else
      if vs.all (foldedForSure 8) = true then pure none else if vs.all (constantsAlone 8) = true then unsupported "assign.tuple-of-constant-expressions:order-of-the-stores" else pure (some (parNs env.scope (lineOf ts) ts)) := by
  unfold swappedStores
  simp only [bk_fun hk]
  have e : (ScopeKind.function != ScopeKind.function) = false := by decide
  simp only [e, Bool.or_false]
  by_cases h1 : (!(ts.length == 2 || ts.length == 3) || vs.length != ts.length) = true
  · rw [if_pos h1, if_pos h1]
  · rw [if_neg h1, if_neg h1, if_neg]
    · rfl
    · intro h
      rw [List.any_eq_true] at h
      obtain ⟨v, hv, hh⟩ := h
      have := hs v hv
      cases v <;> first
        | (cases this; done)
        | (cases hh; done)
/-- what that comes to -/
def swpB (sc : Scope) (ts vs : List Expr) : Option (Option (List Str)) := if (!(ts.length == 2 || ts.length == 3) || vs.length != ts.length) = true then some none else
      if ((parNs sc (lineOf ts) ts).length != ts.length || (parNs sc (lineOf ts) ts).eraseDups.length != (parNs sc (lineOf ts) ts).length) = true then some none else
      if vs.all (foldedForSure 8) = true then some none else if vs.all (constantsAlone 8) = true then none else some (some (parNs sc (lineOf ts) ts))
theorem swpB_ok {ts vs : List Expr} {k k2 : Nat} {p p2 : Pos} {env : PySem.Env} {r : Option (List Str)} (hk : env.scope.kind = .function) (hs : vs.all notStar = true) (h : swpB env.scope ts vs = some r) : swappedStores [.Tuple ts k p] (.Tuple vs k2 p2) env = pure r := by
  rw [swp_eq hk (List.all_eq_true.mp hs)]
  unfold swpB at h
  repeat' split at h
  all_goals first
    | (cases h; done)
    | (cases h; rw [if_pos (by assumption)]; done)
    | (cases h; rw [if_neg (by assumption), if_pos (by assumption)]; done)
    | (cases h; rw [if_neg (by assumption), if_neg (by assumption), if_pos (by assumption)]; done)
    | (cases h; rw [if_neg (by assumption), if_neg (by assumption), if_neg (by assumption), if_neg (by assumption)]; done)
def cmpS : Expr → Option Scope
  | .ListComp _ _ s _ => some s
  | .SetComp _ _ s _ => some s
  | .DictComp _ _ _ s _ => some s
  | _ => none
def swB (C : SC) (e : Expr) (x : Str) (px : Pos) : Bool := match cmpS e with
  | some s => lclB C x && px.line == e.pos.line && !(s.names.any fun (n, k) => n == x && (k == .local || k == .cell))
  | none => false
theorem lcl_eq {C : SC} {env : PySem.Env} {x : Str} (hs : env.scope = C.sc) : (env.kindOf x == some .local) = lclB C x := by
  show (env.scope.names.lookup x == some .local) = _
  rw [hs]
  unfold lclB
  cases C.sc.names.lookup x with
  | none => rfl
  | some k => cases k <;> rfl
theorem sw_name {C : SC} {env : PySem.Env} {x : Str} {px : Pos} {e : Expr} {l : Nat} (hs : env.scope = C.sc) (hk : C.sc.kind = .function) : swapsWith e (some (.Name x px)) l env = pure (swB C e x px) := by
  have hb : env.blockKind = .function := bk_fun (by rw [hs]; exact hk)
  have b2 : (ScopeKind.function == ScopeKind.function) = true := by decide
  cases e <;> first
    | rfl
    | (unfold swapsWith swB cmpS
       simp only [hb, b2, lcl_eq hs, Bool.true_and])
theorem sw_tup {e : Expr} {es : List Expr} {kk l : Nat} {tp : Pos} {env : PySem.Env} : swapsWithSole [.Tuple es kk tp] e l env = pure false := by
  cases e <;> rfl
theorem sw_sub {e a b : Expr} {l : Nat} {tp : Pos} {env : PySem.Env} : swapsWithSole [.Subscript a b tp] e l env = pure false := by
  cases e <;> rfl
theorem sw_non {e : Expr} {l : Nat} {env : PySem.Env} (h : notComp e = true) : swapsWith e none l env = pure false := by
  cases e <;> first
    | rfl
    | cases h
theorem sp_tup {e : Expr} {es : List Expr} {kk : Nat} {tp : Pos} {env : PySem.Env} (h : notTup e = true) : swappedStores [.Tuple es kk tp] e env = pure none := by
  cases e <;> first
    | rfl
    | cases h
theorem sp_sub {e a b : Expr} {tp : Pos} {env : PySem.Env} : swappedStores [.Subscript a b tp] e env = pure none := by
  cases e <;> rfl
theorem as_sub {x : Str} {px tp : Pos} {b : Expr} {env : PySem.Env} (h : notSlice b = true) : ∀ v, assign (.Subscript (.Name x px) b tp) env v = (do
      let ov ← holding [v] (eval (.Name x px) env)
      let iv ← holding [v, ov] (eval b env)
      standAt tp
      holding [v, ov, iv] (setItem ov iv v)
      release [v, ov, iv] []) := fun v => by
  cases b <;> first
    | rfl
    | cases h
theorem ag_sub {b : Expr} (h : notSlice b = true) : ∀ ov iv new, augStore b ov iv new = (do holding [new, ov, iv] (setItem ov iv new); release [new, ov, iv] []; pure .next) := fun ov iv new => by
  cases b <;> first
    | rfl
    | cases h
/-! ### three at once -/
theorem setsV3 {i j l : Nat} {xs : List V} {σ : L2.St} (h : xs.length = 3) : ∃ u v w, xs = [u, v, w] ∧ setsV [i, j, l] xs σ = ((σ.set i (some u)).set j (some v)).set l (some w) := by
  match xs, h with
  | [u, v, w], _ => exact ⟨u, v, w, rfl, rfl⟩
section
variable {C : SC} {s : SX} {k : Nat} {X : Cx} {e e1 e2 e3 : Expr} {t t1 t2 t3 : E} {pos : Pos}
theorem ps_par3 {x y z : Str} {px py pz tp vp : Pos} {kk k2 : Nat} {i j l : Nat} {ts : List E} (ok : Ok C s k X) (h0 : 0 ∉ [i, j, l] ∨ s.k0 = none) (hi : X.N[i]? = some x) (hj : X.N[j]? = some y) (hl : X.N[l]? = some z) (hij : i ≠ j) (hil : i ≠ l) (hjl : j ≠ l) (hx : X.env.scope.names.lookup x = some .local) (hy : X.env.scope.names.lookup y = some .local) (hz : X.env.scope.names.lookup z = some .local) (hv : DEs s X [e1, e2, e3] ts)
    (hw : swappedStores [.Tuple [.Name x px, .Name y py, .Name z pz] kk tp] (.Tuple [e1, e2, e3] k2 vp) X.env = pure (some [x, y, z])) : PS X (.Assign [.Tuple [.Name x px, .Name y py, .Name z pz] kk tp] (.Tuple [e1, e2, e3] k2 vp) pos) (TSv s (.par [i, j, l] ts)) :=
  psI (L2.ps_par3 ok.calm (by rw [ok.N]; exact ok.nd) hi hj hl hij hil hjl hx hy hz hv.po hw rfl) fun D σ H w => tos_mono σ H _ _ (fun xs H1 ⟨hl, q⟩ => by
    obtain ⟨u, v, w, rfl, e⟩ := setsV3 (i := i) (j := j) (l := l) (σ := σ) hl
    rw [e] at q
    exact ⟨u, v, w, rfl, q⟩) (ev_par h0 (by simp [hij, hil, hjl]) w)
end
/-! ### the check -/
def chN (C : SC) : List Nat → List Expr → Bool
  | [], [] => true
  | i :: is, .Name x _ :: es => slotB C i x && locB C x && chN C is es
  | _, _ => false
def chNl (C : SC) : List Nat → List Expr → Bool
  | [], [] => true
  | i :: is, .Name x _ :: es => slotB C i x && lclB C x && chNl C is es
  | _, _ => false
/-- a handler's value -/
def chHa (C : SC) (on : Option (Nat × Str)) : E → Expr → Bool
  | .c v, .Constant c _ _ => constB v c
  | .v i, .Attribute (.Name n _) f _ => (match on with
    | some (j, m) => decide (i = j) && decide (n = m) && decide (f = "reason") && nmB C i n
    | none => false)
  | _, _ => false
def chH (C : SC) (on : Option (Nat × Str)) : E → Expr → Bool
  | .tup ts, .Tuple es _ _ => all2 (chHa C on) ts es && decide (ts.length ≤ 100)
  | t, e => chHa C on t e
def chHd (C : SC) : List (Nat × Option Nat × E) → List ExceptHandler → Bool
  | [], [] => true
  | (c, none, t) :: l, .ExceptHandler (some (.Name x _)) none [.Return (some er) _] _ :: hds => glB C x && dbB x && (C.excs.any fun p => decide (p.1 = x) && decide (p.2 = c)) && !(usesA t) && chH C none t er && chHd C l hds
  | (c, some i, t) :: l, .ExceptHandler (some (.Name x _)) (some n) [.Return (some er) _] _ :: hds => glB C x && dbB x && (C.excs.any fun p => decide (p.1 = x) && decide (p.2 = c)) && slotB C i n && lclB C n && (!(usesA t) || decide (100 ≤ c)) && chH C (some (i, n)) t er && chHd C l hds
  | _, _ => false
/-- the first slot is let alone, where it must be -/
def free0 (C : SC) (is : List Nat) : Bool := !C.io || !(is.contains 0)
theorem free0_ok {C : SC} {s : SX} {k : Nat} {X : Cx} {is : List Nat} (ok : Ok C s k X) (h : free0 C is = true) : 0 ∉ is ∨ s.k0 = none := by
  rcases ok.k0 with h0 | h0
  · unfold free0 at h
    rw [h0] at h
    exact .inl (by simpa using h)
  · exact .inr h0
mutual
def chS : Nat → SC → S → Stmt → Bool
  | 0, _, _, _ => false
  | n + 1, C, t, st => match t, st with
    | .asg (.v i) t, .Assign [.Name x px] e _ => free0 C [i] && slotB C i x && chE (n + 1) C t e && (match swB C e x px with
      | false => locB C x
      | true => lclB C x && (match t, e with
        | .lc _ _ _ _ _ _, .ListComp _ [⟨_, _, _, 0⟩] _ _ => true
        | _, _ => false))
    | .asg (.tup ts) t, .Assign [.Tuple es kk tp] e _ => free0 C (T.tup ts).slots && chT (.tup ts) C (.Tuple es kk tp) && notTup e && chE n C t e
    | .par is ts, .Assign [.Tuple es _ _] (.Tuple vs _ _) _ => free0 C is && vs.all notStar && all2 (chE n C) ts vs && decide is.Nodup && (match swpB C.sc es vs with
      | some none => chN C is es && decide (is.length ≤ 100)
      | some (some ns) => chNl C is es && decide ((es.map fun | .Name x _ => x | _ => "") = ns)
      | none => false)
    | .setI j t1 t, .Assign [.Subscript (.Name x _) e1 _] e _ => notSlice e1 && nmB C j x && chE n C t1 e1 && chE n C t e
    | .augI j o t1 t, .AugAssign (.Subscript (.Name x _) e1 _) op e _ => opA o op && notSlice e1 && nmB C j x && chE n C t1 e1 && chE n C t e
    | .ex t, .Expr e _ => notComp e && chE n C t e
    | .ret t, .Return (some e) _ => chE n C t e
    | .ret (.c .non), .Return none _ => true
    | .ite t a b, .If e x y _ => chE n C t e && chSs n C a x && chSs n C b y
    | .for tt kd src b, .For tg iter body [] _ => free0 C tt.slots && chI (chE n C) C kd src tg iter && chT tt C tg && (!kd.pr || tt.isTup) && chSs n C b body
    | .while t b, .While e body [] _ => chE n C t e && chSs n C b body
    | .raise c none, .Raise (some (.Call (.Name x _) [.Constant (.str _) _ _] [] _)) none _ => glB C x && dbB x && (C.excs.any fun p => decide (p.1 = x) && decide (p.2 = c)) && decide (c < 100)
    | .raise c (some t), .Raise (some (.Call (.Name x _) [e] [] _)) none _ => glB C x && dbB x && (C.excs.any fun p => decide (p.1 = x) && decide (p.2 = c)) && decide (100 ≤ c) && chE n C t e
    | .par (_ :: _) [], .Raise _ _ _ => true
    | .brk, .Break _ => true
    | .cont, .Continue _ => true
    | .pass, .Pass _ => true
    | .tr b l, .Try body (h0 :: hs) [] [] _ => !C.io && chSs n C b body && chHd C l (h0 :: hs)
    | _, _ => false
def chSs : Nat → SC → List S → List Stmt → Bool
  | 0, _, _, _ => false
  | n + 1, C, ts, sts => match sts with
    | [] => (match ts with
      | [] => true
      | _ => false)
    | .Expr (.Constant (.str _) _ _) _ :: sts => chSs n C ts sts
    | st :: sts => (match ts with
      | t :: ts => chS n C t st && chSs n C ts sts
      | [] => false)
end
/-- what is known of classes whose attribute is read -/
structure Gx (C : SC) (s : SX) (k : Nat) : Prop where
  k2 : 2 ≤ k
  xs : ∀ x c, (x, c) ∈ C.excs → 100 ≤ c → ExS s.g c
  xf : ∀ x c, (x, c) ∈ C.excs → 100 ≤ c → XfC s.g.K (s.g.ca c) ∧ PySem.W.findIn s.g.K (.ref (s.g.ca c)) "reason" = some none
section
variable {C : SC} {s : SX} {k : Nat} {X : Cx} {e e1 e2 e3 : Expr} {t t1 t2 t3 : E} {pos : Pos} {x : Str}
theorem excs_of (gb : Gb C s k) {c : Nat} (h : (C.excs.any fun p => decide (p.1 = x) && decide (p.2 = c)) = true) : (x, c) ∈ C.excs := by
  rw [List.any_eq_true] at h
  obtain ⟨p, hp, h⟩ := h
  rw [Bool.and_eq_true, decide_eq_true_eq, decide_eq_true_eq] at h
  obtain ⟨rfl, rfl⟩ := h
  exact hp
theorem dns_of (ok : Ok C s k X) : ∀ {is : List Nat} {es : List Expr}, chN C is es = true → DNs X es is
  | [], [], _ => .nil
  | [], _ :: _, h => by simp [chN] at h
  | _ :: _, [], h => by simp [chN] at h
  | i :: is, e :: es, h => by
    cases e with
    | Name y p =>
      simp only [chN, Bool.and_eq_true] at h
      obtain ⟨h1, h2⟩ := loc_of ok h.1.2
      exact .cons (slot_of ok h.1.1) h1 h2 (dns_of ok h.2)
    | _ => simp [chN] at h
theorem cst_star {c : Const} {j : Nat} {p : Pos} (es : List Expr) (env : PySem.Env) : starEach (.Constant c j p :: es) env = (false, eval (.Constant c j p) env) :: starEach es env := rfl
theorem att_star {o : Expr} {n : Str} {p : Pos} (es : List Expr) (env : PySem.Env) : starEach (.Attribute o n p :: es) env = (false, eval (.Attribute o n p) env) :: starEach es env := rfl
theorem dha_c {Y : Cx} {c : Nat} {a0 : Addr} {cls : Value} {d : Option Addr} {i j : Nat} {v : PV} {cc : Const} (h : constB v cc = true) : DHa s Y c a0 cls d i (.Constant cc j pos) (.c v) := by
  unfold constB at h
  split at h
  · exact .const pe_non (fun _ _ => .non) cst_star
  · rw [eq_of_beq h]
    exact .const pe_bl (fun _ _ => .bl _) cst_star
  · rw [of_decide_eq_true h]
    exact .const pe_int (fun _ _ => .int _) cst_star
  · rw [← of_decide_eq_true h]
    exact .const pe_str (fun _ _ => .str _) cst_star
  · cases h
theorem dha_a {c i : Nat} {a0 : Addr} {cls : Value} {d : Option Addr} {oe : Obj} {pn : List (Addr × Obj)} {n : Str} {p p2 : Pos} (ok : Ok C s k X) (hxf : XfC s.g.K (s.g.ca c) ∧ PySem.W.findIn s.g.K (.ref (s.g.ca c)) "reason" = some none) (hz : Zc cls d oe) (hf : ∃ vs, oe.data = .fields vs) (hn : nmB C i n = true) :
    DHa s (X.suite a0 ((a0, oe) :: pn)) c a0 cls d i (.Attribute (.Name n p) "reason" p2) (.v i) := by
  obtain ⟨h1, h2, h3, h4⟩ := nm_of ok hn
  refine .attr (peI (pe_xf (C := s.g.ca c) (by rw [ok.K]; exact hxf.1) (by rw [ok.K]; exact hxf.2) hz hf (pe_var (X := X.suite a0 ((a0, oe) :: pn)) h1 h2 h3 h4)) fun σ H Q ⟨e1, e2, dd, x, e3, e4, q⟩ => ?_) att_star
  exact ⟨_, e1, rfl, e2, dd, _, x, e3, e4, rfl, q⟩
theorem dha_of {c i : Nat} {a0 : Addr} {cls : Value} {d : Option Addr} {oe : Obj} {pn : List (Addr × Obj)} {on : Option (Nat × Str)} (ok : Ok C s k X) (hon : ∀ j m, on = some (j, m) → j = i) (hxf : (∃ j, t = .v j) → XfC s.g.K (s.g.ca c) ∧ PySem.W.findIn s.g.K (.ref (s.g.ca c)) "reason" = some none)
    (hz : Zc cls d oe) (hf : ∃ vs, oe.data = .fields vs) (h : chHa C on t e = true) : DHa s (X.suite a0 ((a0, oe) :: pn)) c a0 cls d i e t := by
  unfold chHa at h
  split at h
  · exact dha_c h
  · split at h
    · rename_i j m
      simp only [Bool.and_eq_true, decide_eq_true_eq] at h
      obtain ⟨⟨⟨rfl, rfl⟩, rfl⟩, h4⟩ := h
      have := hon _ _ rfl
      subst this
      exact dha_a ok (hxf ⟨_, rfl⟩) hz hf h4
    · cases h
  · cases h
theorem dhs_of {c i : Nat} {a0 : Addr} {cls : Value} {d : Option Addr} {oe : Obj} {pn : List (Addr × Obj)} {on : Option (Nat × Str)} (ok : Ok C s k X) (hon : ∀ j m, on = some (j, m) → j = i) (hz : Zc cls d oe) (hf : ∃ vs, oe.data = .fields vs) :
    ∀ {ts : List E} {es : List Expr}, ((∃ j, .v j ∈ ts) → XfC s.g.K (s.g.ca c) ∧ PySem.W.findIn s.g.K (.ref (s.g.ca c)) "reason" = some none) → all2 (chHa C on) ts es = true → DHs s (X.suite a0 ((a0, oe) :: pn)) c a0 cls d i es ts
  | [], [], _, _ => .nil
  | [], _ :: _, _, h => by simp [all2] at h
  | _ :: _, [], _, h => by simp [all2] at h
  | t :: ts, e :: es, hx, h => by
    simp only [all2, Bool.and_eq_true] at h
    exact .cons (dha_of ok hon (fun ⟨j, hj⟩ => hx ⟨j, by simp [hj]⟩) hz hf h.1) (dhs_of ok hon hz hf (fun ⟨j, hj⟩ => hx ⟨j, by simp [hj]⟩) h.2)
theorem dh_of {c i : Nat} {a0 : Addr} {cls : Value} {d : Option Addr} {oe : Obj} {pn : List (Addr × Obj)} {on : Option (Nat × Str)} (ok : Ok C s k X) (hon : ∀ j m, on = some (j, m) → j = i) (hz : Zc cls d oe) (hf : ∃ vs, oe.data = .fields vs)
    (hx : usesA t = true → XfC s.g.K (s.g.ca c) ∧ PySem.W.findIn s.g.K (.ref (s.g.ca c)) "reason" = some none) (h : chH C on t e = true) : DH s (X.suite a0 ((a0, oe) :: pn)) c a0 cls d i e t := by
  unfold chH at h
  split at h
  · rename_i ts es kk p
    rw [Bool.and_eq_true, decide_eq_true_eq] at h
    refine .tup (dhs_of ok hon hz hf (fun ⟨j, hj⟩ => hx ?_) h.1) h.2
    unfold usesA
    rw [List.any_eq_true]
    exact ⟨_, hj, rfl⟩
  · refine .atom (dha_of ok hon (fun ⟨j, hj⟩ => hx ?_) hz hf h)
    subst hj
    rfl
theorem dhd_of (ok : Ok C s k X) (gb : Gb C s k) (gx : Gx C s k) : ∀ {l : List (Nat × Option Nat × E)} {hds : List ExceptHandler}, chHd C l hds = true → DHd s X hds l
  | [], [], _ => .nil
  | [], _ :: _, h => by simp [chHd] at h
  | (c, none, t) :: l, hds, h => by
    unfold chHd at h
    split at h
    · rename_i heq; cases heq
    · rename_i heq
      cases heq
      simp only [Bool.and_eq_true, Bool.not_eq_true'] at h
      obtain ⟨⟨⟨⟨⟨h1, h2⟩, h3⟩, h4⟩, h5⟩, h6⟩ := h
      obtain ⟨q1, q2, _⟩ := gb.ex _ _ (excs_of gb h3)
      exact .plain ⟨gl_of ok h1, (db_of h2).1, .inl (by rw [ok.mg]; exact q1)⟩ q2 h4 (fun a oe cls d pn hz hf => dh_of ok (fun _ _ z => by cases z) hz hf (fun z => by rw [h4] at z; cases z) h5) (dhd_of ok gb gx h6)
    · rename_i heq; cases heq
    · cases h
  | (c, some i, t) :: l, hds, h => by
    unfold chHd at h
    split at h
    · rename_i heq; cases heq
    · rename_i heq; cases heq
    · rename_i heq
      cases heq
      simp only [Bool.and_eq_true, Bool.or_eq_true, decide_eq_true_eq, Bool.not_eq_true'] at h
      obtain ⟨⟨⟨⟨⟨⟨⟨h1, h2⟩, h3⟩, h4⟩, h5⟩, h6⟩, h7⟩, h8⟩ := h
      obtain ⟨q1, q2, _⟩ := gb.ex _ _ (excs_of gb h3)
      exact .named ⟨gl_of ok h1, (db_of h2).1, .inl (by rw [ok.mg]; exact q1)⟩ q2 (slot_of ok h4) (lcl_of ok h5) (fun a oe cls d pn hz hf => dh_of ok (fun _ _ z => by cases z; rfl) hz hf (fun z => by
        rcases h6 with h6 | h6
        · rw [h6] at z; cases z
        · exact gx.xf _ _ (excs_of gb h3) h6) h7) (dhd_of ok gb gx h8)
    · cases h
end
end EV
set_option Elab.async false
set_option linter.all false
set_option autoImplicit false
set_option maxRecDepth 100000
/-! The check of statements is sound. -/
namespace EV
open PySem PySem.Spec PyProof.Rows L2
section
variable {C : SC} {s : SX} {k : Nat} {X : Cx} {e e1 e2 e3 : Expr} {t t1 t2 t3 : E} {pos : Pos} {x : Str}
/-- a statement that is never met -/
theorem ps_stop {i : Nat} {is : List Nat} {st : Stmt} : PS X st (TSv s (.par (i :: is) [])) := ⟨fun pins sh σ H D I ⟨P, F, ρ, env, kp, a⟩ => by
  simp only [exS, evOs, Res.bind_ok, stoVs, Res.bind_bad] at a
  exact a.elim⟩
theorem par_of {is : List Nat} {es vs : List Expr} {kk k2 : Nat} {tp vp : Pos} {ts : List E} {ns : List Str} (ok : Ok C s k X) (h0 : 0 ∉ is ∨ s.k0 = none) (hv : DEs s X vs ts) (nd : is.Nodup) (hn : chNl C is es = true) (he : (es.map fun | .Name x _ => x | _ => "") = ns) (hl : es.length = 2 ∨ es.length = 3) (hl2 : vs.length = es.length)
    (hw : swappedStores [.Tuple es kk tp] (.Tuple vs k2 vp) X.env = pure (some ns)) : PS X (.Assign [.Tuple es kk tp] (.Tuple vs k2 vp) pos) (TSv s (.par is ts)) := by
  subst he
  rcases hl with hl | hl
  · match es, hl, is, hn, vs, hl2 with
    | [a, b], _, [i, j], hn, [v, w], _ =>
      cases a <;> first
        | (simp [chNl] at hn; done)
        | skip
      cases b <;> first
        | (simp [chNl] at hn; done)
        | skip
      simp only [chNl, Bool.and_eq_true, and_true] at hn
      obtain ⟨⟨h1, h2⟩, h3, h4⟩ := hn
      exact ps_par2 ok h0 (slot_of ok h1) (slot_of ok h3) (by simpa using nd) (lcl_of ok h2) (lcl_of ok h4) hv hw
    | [a, b], _, [], hn, _, _ => simp [chNl] at hn
    | [a, b], _, [_], hn, _, _ => cases a <;> simp [chNl] at hn
    | [a, b], _, _ :: _ :: _ :: _, hn, _, _ => cases a <;> (try (simp [chNl] at hn; done)); cases b <;> simp [chNl] at hn
  · match es, hl, is, hn, vs, hl2 with
    | [a, b, c], _, [i, j, l], hn, [u, v, w], _ =>
      cases a <;> first
        | (simp [chNl] at hn; done)
        | skip
      cases b <;> first
        | (simp [chNl] at hn; done)
        | skip
      cases c <;> first
        | (simp [chNl] at hn; done)
        | skip
      simp only [chNl, Bool.and_eq_true, and_true] at hn
      obtain ⟨⟨h1, h2⟩, ⟨h3, h4⟩, h5, h6⟩ := hn
      have nd' : (i ≠ j ∧ i ≠ l) ∧ j ≠ l := by simpa using nd
      exact EV.ps_par3 ok h0 (slot_of ok h1) (slot_of ok h3) (slot_of ok h5) nd'.1.1 nd'.1.2 nd'.2 (lcl_of ok h2) (lcl_of ok h4) (lcl_of ok h6) hv hw
    | [a, b, c], _, [], hn, _, _ => simp [chNl] at hn
    | [a, b, c], _, [_], hn, _, _ => cases a <;> simp [chNl] at hn
    | [a, b, c], _, [_, _], hn, _, _ => cases a <;> (try (simp [chNl] at hn; done)); cases b <;> simp [chNl] at hn
    | [a, b, c], _, _ :: _ :: _ :: _ :: _, hn, _, _ => cases a <;> (try (simp [chNl] at hn; done)); cases b <;> (try (simp [chNl] at hn; done)); cases c <;> simp [chNl] at hn
theorem swpB_len {sc : Scope} {ts vs : List Expr} {ns : List Str} (h : swpB sc ts vs = some (some ns)) : (ts.length = 2 ∨ ts.length = 3) ∧ vs.length = ts.length := by
  unfold swpB at h
  split at h
  · cases h
  · rename_i h1
    simp at h1
    exact ⟨by omega, by omega⟩
set_option maxHeartbeats 4000000 in
mutual
theorem chS_ok : ∀ (n : Nat) (C : SC) (s : SX) (X : Cx), Ok C s k X → OkS X → Gb C s k → Gx C s k → ∀ (t : S) (st : Stmt), chS n C t st = true → PS X st (TSv s t)
  | 0, _, _, _, _, _, _, _, _, _, h => by simp [chS] at h
  | n + 1, C, s, X, ok, okS, gb, gx, t, st, h => by
    have ihe := fun t e h => chE_ok n C s X ok gb t e h
    unfold chS at h
    split at h
    · rename_i i t x px e ps
      simp only [Bool.and_eq_true] at h
      obtain ⟨⟨⟨h0, h1⟩, h2⟩, h3⟩ := h
      have h0 : i ≠ 0 ∨ s.k0 = none := (free0_ok ok h0).imp (fun z e => z (by simp [e])) id
      split at h3
      · rename_i hsw
        obtain ⟨q1, q2⟩ := loc_of ok h3
        exact ps_asgN ok h0 (chE_ok (n + 1) C s X ok gb _ _ h2) (slot_of ok h1) q1 q2 (by rw [sw_name ok.sc ok.kd, hsw])
      · rename_i hsw
        rw [Bool.and_eq_true] at h3
        obtain ⟨h3, h4⟩ := h3
        split at h4
        · have := ps_asgLc (pos := ps) (lpos := by assumption) ok h0 (lc_of ok gb (fun C s X ok gb t e h => chE_ok n C s X ok gb t e h) h2) (slot_of ok h1) (lcl_of ok h3) (by rw [sw_name ok.sc ok.kd, hsw])
          rw [ownP_map] at this
          exact this
        · cases h4
    · simp only [Bool.and_eq_true] at h
      obtain ⟨⟨⟨h0, h1⟩, h2⟩, h3⟩ := h
      exact ps_asgT ok (free0_ok ok h0) (ihe _ _ h3) (dtO ok h1) sw_tup (sp_tup h2)
    · simp only [Bool.and_eq_true, decide_eq_true_eq] at h
      obtain ⟨⟨⟨⟨h0, h1⟩, h2⟩, h3⟩, h4⟩ := h
      have h0 := free0_ok ok h0
      have hv := des_of ihe h2
      have hkd : X.env.scope.kind = .function := by rw [ok.sc]; exact ok.kd
      split at h4
      · rename_i hsp
        rw [Bool.and_eq_true, decide_eq_true_eq] at h4
        exact ps_parT ok h0 (dns_of ok h4.1) h3 hv (swpB_ok hkd h1 (by rw [ok.sc]; exact hsp)) h4.2
      · rename_i ns hsp
        rw [Bool.and_eq_true, decide_eq_true_eq] at h4
        obtain ⟨q1, q2⟩ := swpB_len hsp
        exact par_of ok h0 hv h3 h4.1 h4.2 q1 q2 (swpB_ok hkd h1 (by rw [ok.sc]; exact hsp))
      · cases h4
    · simp only [Bool.and_eq_true] at h
      obtain ⟨⟨⟨h1, h2⟩, h3⟩, h4⟩ := h
      obtain ⟨p1, p2, p3, p4⟩ := nm_of ok h2
      exact ps_sub ok (ihe _ _ h4) (ihe _ _ h3) p1 p2 p3 p4 (as_sub h1) sw_sub sp_sub
    · simp only [Bool.and_eq_true] at h
      obtain ⟨⟨⟨⟨h0, h1⟩, h2⟩, h3⟩, h4⟩ := h
      obtain ⟨p1, p2, p3, p4⟩ := nm_of ok h2
      exact ps_augI ok (ihe _ _ h4) (ihe _ _ h3) p1 p2 p3 p4 h0 (ag_sub h1)
    · rw [Bool.and_eq_true] at h
      exact ps_ex ok (ihe _ _ h.2) (sw_non h.1)
    · exact ps_rtn ok (ihe _ _ h)
    · exact ps_rtN
    · simp only [Bool.and_eq_true] at h
      exact ps_ifS (ihe _ _ h.1.1) (chSs_ok n C s X ok okS gb gx _ _ h.1.2) (chSs_ok n C s X ok okS gb gx _ _ h.2)
    · simp only [Bool.and_eq_true, Bool.or_eq_true] at h
      obtain ⟨⟨⟨⟨h0, h1⟩, h2⟩, h3⟩, h4⟩ := h
      refine ps_forS ok (free0_ok ok h0) okS (di_of ok gb ihe h1) (dtO ok h2) (fun hp => ?_) (chSs_ok n C s X ok okS gb gx _ _ h4)
      rcases h3 with h3 | h3
      · rw [hp] at h3
        cases h3
      · exact h3
    · simp only [Bool.and_eq_true] at h
      exact ps_whileS ok okS (ihe _ _ h.1) (chSs_ok n C s X ok okS gb gx _ _ h.2)
    · simp only [Bool.and_eq_true, decide_eq_true_eq] at h
      obtain ⟨⟨⟨h1, h2⟩, h3⟩, h4⟩ := h
      obtain ⟨q1, q2, q3⟩ := gb.ex _ _ (excs_of gb h3)
      exact ps_raiseM ok q2 (q3 h4) (gl_of ok h1) (by rw [ok.mg]; exact q1) (db_of h2).1
    · simp only [Bool.and_eq_true, decide_eq_true_eq] at h
      obtain ⟨⟨⟨⟨h1, h2⟩, h3⟩, h4⟩, h5⟩ := h
      obtain ⟨q1, q2, q3⟩ := gb.ex _ _ (excs_of gb h3)
      exact ps_raiseX ok gx.k2 q2 (gx.xs _ _ (excs_of gb h3) h4) (gl_of ok h1) (by rw [ok.mg]; exact q1) (db_of h2).1 (ihe _ _ h5)
    · exact ps_stop
    · exact ps_brk
    · exact ps_cnt
    · exact ps_pss
    · simp only [Bool.and_eq_true, Bool.not_eq_true'] at h
      obtain ⟨⟨h0, h1⟩, h2⟩ := h
      have hk : s.k0 = none := by
        rcases ok.k0 with z | z
        · rw [h0] at z; cases z
        · exact z
      refine ps_tryS ok hk okS gb.ea (fun s' X' hg hc hn hk' ok' okS' => ?_) (dhd_of ok gb gx h2)
      refine chSs_ok n C s' X' ok' okS' ?_ ?_ _ _ h1
      · cases s
        cases s'
        cases hg
        cases hc
        cases hn
        exact ⟨⟨fun f h => ⟨(gb.gd.fo f h).ex⟩, gb.gd.ln⟩, gb.bn, gb.cs, gb.fn, gb.ex, gb.ea, gb.np⟩
      · exact ⟨gx.k2, by rw [hg]; exact gx.xs, by rw [hg]; exact gx.xf⟩
    · cases h
theorem chSs_ok : ∀ (n : Nat) (C : SC) (s : SX) (X : Cx), Ok C s k X → OkS X → Gb C s k → Gx C s k → ∀ (ts : List S) (sts : List Stmt), chSs n C ts sts = true → DSs s X sts ts
  | 0, _, _, _, _, _, _, _, _, _, h => by simp [chSs] at h
  | n + 1, C, s, X, ok, okS, gb, gx, ts, sts, h => by
    unfold chSs at h
    split at h
    · split at h
      · exact .nil
      · cases h
    · exact .skip ps_doc (chSs_ok n C s X ok okS gb gx _ _ h)
    · split at h
      · rw [Bool.and_eq_true] at h
        exact .cons (chS_ok n C s X ok okS gb gx _ _ h.1) (chSs_ok n C s X ok okS gb gx _ _ h.2)
      · cases h
end
end
end EV
set_option Elab.async false
set_option linter.all false
set_option autoImplicit false
set_option maxRecDepth 100000
/-! A def of the table, as the program runs it. -/
namespace EV
open PySem PySem.Spec PyProof.Rows L2
section
variable {g : GE} {P F : AS} {H : Hp}
theorem at_list {m : Nat} : ∀ {us : List PV} {xs : List V}, RVs g F H us xs → ∀ (i : Nat) (sl : Slot), (us.map Slot.s ++ List.replicate m Slot.n)[i]? = some sl → ∃ o, (xs.map some ++ List.replicate m none)[i]? = some o ∧ SlR g P F H sl o ∧ sl.own = false
  | _, _, .nil, i, sl, e => by
    simp only [List.map_nil, List.nil_append] at e ⊢
    rw [List.getElem?_replicate] at e ⊢
    split at e
    · rename_i h
      cases e
      exact ⟨none, by rw [if_pos h], trivial, rfl⟩
    · cases e
  | _, _, .cons r t, 0, sl, e => by
    simp at e
    subst e
    exact ⟨some _, by simp, ⟨_, rfl, r⟩, rfl⟩
  | _, _, .cons r t, i + 1, sl, e => by
    obtain ⟨o, h1, h2, h3⟩ := at_list t i sl (by simpa using e)
    exact ⟨o, by simpa using h1, h2, h3⟩
theorem startE_cons {io : Bool} {ns : Nat} {v : PV} {us : List PV} : startE io ns (v :: us) = (if io then .o v else .s v) :: (us.map Slot.s ++ List.replicate (ns - (us.length + 1)) .n) := rfl
theorem startE_f {ns : Nat} {us : List PV} : startE false ns us = us.map Slot.s ++ List.replicate (ns - us.length) .n := by
  cases us with
  | nil => simp [startE]
  | cons v us => rfl
theorem start_env {io : Bool} {us : List PV} {xs : List V} {N : List Str} (hP : ∀ a, P a → H a ≠ none) (hF : ∀ a, F a → H a ≠ none) (ar : ArgsR g P F H io us xs) (hl : xs.length ≤ N.length) : REnv g P F (startE io N.length us) (L2.start N xs) H := by
  cases io with
  | false =>
    have rs : RVs g F H us xs := by simpa [ArgsR] using ar
    have len := rs.length
    rw [startE_f]
    unfold L2.start
    rw [← len]
    refine ⟨by simp [len], fun i sl e => ?_, fun i j si sj a _ e1 _ o1 _ _ _ => ?_, hP, hF⟩
    · obtain ⟨o, h1, h2, _⟩ := at_list rs i sl e
      exact ⟨o, h1, h2⟩
    · obtain ⟨o, _, _, h3⟩ := at_list (P := P) rs i si e1
      rw [h3] at o1
      cases o1
  | true =>
    have ar : ∃ v a us' xs', us = v :: us' ∧ xs = .ref a :: xs' ∧ OAt g F H v a ∧ ¬ F a ∧ ¬ P a ∧ RVs g F H us' xs' := by simpa [ArgsR] using ar
    obtain ⟨v, a, us, xs, rfl, rfl, oa, n1, n2, rs⟩ := ar
    have len := rs.length
    rw [startE_cons]
    unfold L2.start
    simp only [if_true, List.map_cons, List.length_cons, List.cons_append]
    rw [← len]
    have nown : ∀ (i : Nat) (sl : Slot), (us.map Slot.s ++ List.replicate (N.length - (us.length + 1)) Slot.n)[i]? = some sl → sl.own = true → False := fun i sl e o => by
      obtain ⟨_, _, _, h3⟩ := at_list (P := P) rs i sl e
      rw [h3] at o
      cases o
    refine ⟨by simp [len], fun i sl e => ?_, fun i j si sj b hij e1 e2 o1 o2 e3 e4 => ?_, hP, hF⟩
    · cases i with
      | zero =>
        cases e
        exact ⟨_, rfl, a, rfl, n1, n2, oa⟩
      | succ i =>
        obtain ⟨o, h1, h2, _⟩ := at_list rs i sl (by simpa using e)
        exact ⟨o, by simpa using h1, h2⟩
    · cases i with
      | succ i => exact nown i si (by simpa using e1) o1
      | zero =>
        cases j with
        | zero => exact hij rfl
        | succ j => exact nown j sj (by simpa using e2) o2
/-- the body's end is the call's -/
theorem ans_fin {s : SX} {io : Bool} {fl : Fl} {xs : List V} {Q : VK} (hk : io = true → ∃ a, s.k0 = some a ∧ xs.head? = some (.ref a))
    (h : Ans s.g s.W P F H (finF io fl) fun r F' H' => (∀ a, F' a → H' a ≠ none) → ∀ x, RetR s.g P F' H' io xs r x → Q x H') : FlK s P { nx := fun _ H' => Q .non H', rt := Q } fl F H := by
  have slot0 : ∀ {ρ : EV.Env} {σ : L2.St} {v : PV}, io = true → REnv s.g P F ρ σ H → KP s σ → ρ[(0 : Nat)]? = some (.o v) → ∃ a, xs.head? = some (.ref a) ∧ σ[0]? = some (some (.ref a)) ∧ ¬ F a ∧ OAt s.g F H v a := fun hi env kp e => by
    obtain ⟨a, h1, h2⟩ := hk hi
    obtain ⟨o, e1, b, rfl, n1, n2, oa⟩ := env.at_ 0 _ e
    have := kp a h1
    rw [e1] at this
    cases this
    exact ⟨a, h2, e1, n1, oa⟩
  cases fl with
  | nx ρ =>
    intro σ env kp
    cases io with
    | false => exact (Ans.now h) env.dF .non ⟨.inl ⟨rfl, .non⟩, fun z => by cases z⟩
    | true =>
      simp only [finF, if_true] at h
      split at h
      · rename_i v hv
        obtain ⟨a, h1, _, h2, h3⟩ := slot0 rfl env kp hv
        exact (Ans.now h) env.dF .non ⟨.inl ⟨rfl, .non⟩, fun _ => ⟨a, h1, h2, h3⟩⟩
      · exact h.elim
  | rt r ρ =>
    intro σ x env kp rr
    cases io with
    | false =>
      refine (Ans.now h) env.dF x ⟨?_, fun z => by cases z⟩
      rcases rr with rr | ⟨h1, b, e, n1, n2, oa, _⟩
      · exact .inl rr
      · exact .inr ⟨h1, b, e, n1, n2, oa, fun z => by cases z⟩
    | true =>
      simp only [finF, if_true] at h
      split at h
      · rename_i v hv
        obtain ⟨a, h1, h0, h2, h3⟩ := slot0 rfl env kp hv
        refine (Ans.now h) env.dF x ⟨?_, fun _ => ⟨a, h1, h2, h3⟩⟩
        rcases rr with rr | ⟨q1, b, e, n1, n2, oa, ni⟩
        · exact .inl rr
        · refine .inr ⟨q1, b, e, n1, n2, oa, fun _ z => ?_⟩
          rw [h1] at z
          cases z
          exact ni 0 _ hv rfl h0
      · exact h.elim
  | bk ρ => exact h.elim
  | ct ρ => exact h.elim
end
/-- what ties a table of defs to the program -/
structure TabOk (g : GE) (C0 : SC) (tab : Nat → Option FnD) : Prop where
  def_ : ∀ f, g.dm f → ∃ (x qual : Str) (params : Arguments) (body : List Stmt) (scope : Scope) (dvs : List V) (kws : List (Str × V)) (N ps : List Str) (fd : FnD) (fdv : FuncData) (n : Nat), tab f = some fd ∧ L2.FunD g.K x qual params body scope dvs kws (g.fa f) fdv ∧ FnScope N ps scope ∧ ps.length = fd.np ∧ N.length = fd.ns ∧ fd.np ≤ fd.ns ∧ Binds g.K fdv ps [] ∧
    chSs n { C0 with N := N, sc := scope, io := fd.io } fd.body body = true
  np : ∀ f, C0.np f = ((tab f).map FnD.np).getD 0
  fnb : C0.fnb = fun _ => true
  bn : ∀ x ∈ bltns, g.mg x = none
  cs : ∀ x v, (x, v) ∈ C0.consts → ∃ u z, g.mg x = some u ∧ RelV z u ∧ ∀ F H, RV g F H v z
  fn : ∀ x f, (x, f) ∈ C0.fns → g.mg x = some (.ref (g.fa f)) ∧ g.dm f
  ex : ∀ x c, (x, c) ∈ C0.excs → g.mg x = some (.ref (g.ca c)) ∧ g.dc c ∧ (c < 100 → ExM g c)
  ea : ExA g
  xs : ∀ x c, (x, c) ∈ C0.excs → 100 ≤ c → ExS g c
  xf : ∀ x c, (x, c) ∈ C0.excs → 100 ≤ c → XfC g.K (g.ca c) ∧ PySem.W.findIn g.K (.ref (g.ca c)) "reason" = some none
theorem callF_len {tab : Nat → Option FnD} {f : Nat} {io : Bool} {us : List PV} : ∀ (d : Nat), us.length ≠ ((tab f).map FnD.np).getD 0 → callF tab d f io us = .bad
  | 0, _ => rfl
  | d + 1, h => by
    simp only [callF]
    cases ht : tab f with
    | none => rfl
    | some fd =>
      rw [ht] at h
      have h : us.length ≠ fd.np := h
      simp [h]
/-- one def, over those that it calls -/
theorem tab_step {g : GE} {C0 : SC} {tab : Nat → Option FnD} (T : TabOk g C0 tab) (d f : Nat) (ih : ∀ (f : Nat) (W : XK) (k0 : Option Addr), g.dm f → FOk ⟨g, callF tab d, W, C0.np, k0⟩ (d + 2) f)
    {x qual : Str} {params : Arguments} {body : List Stmt} {scope : Scope} {dvs : List V} {kws : List (Str × V)} {N ps : List Str} {fd : FnD} {fdv : FuncData} {n : Nat} (h1 : tab f = some fd) (h2 : L2.FunD g.K x qual params body scope dvs kws (g.fa f) fdv) (h3 : FnScope N ps scope) (h4 : ps.length = fd.np)
    (h5 : N.length = fd.ns) (h6 : fd.np ≤ fd.ns) (h8 : chSs n { C0 with N := N, sc := scope, io := fd.io } fd.body body = true) : FnOk g.P g.w g.K g.mg g.base (L2.CX g.P g.w) (d + 3) (g.fa f) fdv ps (spF g (callF tab (d + 1)) f (C0.np f)) := by
    have hnp : C0.np f = fd.np := by rw [T.np, h1]; rfl
    refine h2.ok h3 (fun vs H Q E ⟨hl, _⟩ => by rw [hl, h4]; exact hnp) fun cdv A outer sh H xs Q E hr ⟨hl, io, P, F, us, hP, hF, ar, an⟩ => ?_
    have hl2 : xs.length = fd.np := by rw [hl]; exact hnp
    simp only [callF, h1] at an
    split at an
    · rename_i hc
      rw [Bool.and_eq_true, decide_eq_true_eq, Bool.or_eq_true, Bool.not_eq_true'] at hc
      obtain ⟨hc1, hc2⟩ := hc
      obtain ⟨k1, hk1, hk3, hk2⟩ : ∃ k1 : Option Addr, (io = true → ∃ a, k1 = some a ∧ xs.head? = some (.ref a)) ∧ (∀ a, k1 = some a → xs.head? = some (.ref a)) ∧ (fd.io = true ∨ k1 = none) := by
        cases io with
        | false => exact ⟨none, (fun z => by cases z), (fun a z => by cases z), .inr rfl⟩
        | true =>
          have ar : ∃ v a us' xs', us = v :: us' ∧ xs = .ref a :: xs' ∧ OAt g F H v a ∧ ¬ F a ∧ ¬ P a ∧ RVs g F H us' xs' := by simpa [ArgsR] using ar
          obtain ⟨v, a, _, _, _, e, _⟩ := ar
          exact ⟨some a, (fun _ => ⟨a, rfl, by rw [e]; rfl⟩), (fun b z => by cases z; rw [e]; rfl), .inl (hc2.resolve_left (by simp))⟩
      let s : SX := ⟨g, callF tab d, E, C0.np, k1⟩
      let C : SC := { C0 with N := N, sc := scope, io := fd.io }
      let X := cxOf (L2.CX g.P g.w) g.P g.w g.K g.mg g.base N qual scope (g.fa f) cdv A outer sh H E
      have ok : Ok C s (d + 2) X := ⟨rfl, rfl, rfl, rfl, rfl, rfl, rfl, h3.nd, h3.kind, rfl, fun y => by show true = C0.fnb y; rw [T.fnb], hr, (takes_of (X := X) rfl rfl rfl rfl).imp fun c d σ H h => h.2, hk2, fun _ => ⟨rfl, rfl⟩⟩
      have okS : OkS X := ⟨passes_of (X := X) rfl, rfl, rfl⟩
      have gb : Gb C s (d + 2) := ⟨⟨fun f' hf' => ih f' E k1 hf', fun f' io' us' hne => callF_len d (by rw [← T.np]; exact hne)⟩, T.bn, T.cs, T.fn, T.ex, T.ea, fun _ => rfl⟩
      have gx : Gx C s (d + 2) := ⟨by omega, T.xs, T.xf⟩
      refine ⟨_, (chSs_ok n C s X ok okS gb gx _ _ h8).pss, P, F, startE io fd.ns us, ?_, ?_, ?_⟩
      · rw [← h5]
        exact start_env hP hF ar (by rw [h5, hl2]; exact h6)
      · intro a ea
        have h := hk3 a ea
        cases xs with
        | nil => cases h
        | cons y ys =>
          cases h
          rfl
      · exact (Ans.bind an).mono fun fl F1 H1 st k2 => ans_fin (s := s) hk1 (k2 F1 H1 Step.refl)
    · exact an.elim
theorem tab_ok {g : GE} {C0 : SC} {tab : Nat → Option FnD} (T : TabOk g C0 tab) : ∀ (d f : Nat) (W : XK) (k0 : Option Addr), g.dm f → FOk ⟨g, callF tab d, W, C0.np, k0⟩ (d + 2) f
  | 0, f, W, k0, hf => by
    obtain ⟨x, qual, params, body, scope, dvs, kws, N, ps, fd, fdv, n, h1, h2, h3, h4, h5, h6, h7, h8⟩ := T.def_ f hf
    have hnp : C0.np f = fd.np := by rw [T.np, h1]; rfl
    refine ⟨fdv, ps, h4.trans hnp.symm, ⟨fun vs H Q E ⟨hl, _⟩ => by rw [hl, h4]; exact hnp, fun A outer s H args us vs Q E hr e0 hb r ⟨hl, io, P, F, us', _, _, _, an⟩ => ?_⟩, h2.kp, h7⟩
    exact an.elim
  | d + 1, f, W, k0, hf => by
    obtain ⟨x, qual, params, body, scope, dvs, kws, N, ps, fd, fdv, n, h1, h2, h3, h4, h5, h6, h7, h8⟩ := T.def_ f hf
    have hnp : C0.np f = fd.np := by rw [T.np, h1]; rfl
    exact ⟨fdv, ps, h4.trans hnp.symm, tab_step T d f (fun f' W k0 hf' => tab_ok T d f' W k0 hf') h1 h2 h3 h4 h5 h6 h8, h2.kp, h7⟩
end EV
set_option Elab.async false
set_option linter.all false
set_option autoImplicit false
set_option maxRecDepth 100000
set_option maxHeartbeats 2000000
/-! what is asked of an exception class with a reason, as a test of the written part. -/
namespace EV
open PySem PySem.Spec PyProof.Rows L2 PySem.W PySem.Calls
def clsB (K : Frag) (C : Addr) : Bool := match K.lookup C with
  | some ⟨.type "type", _, .cls cd, sl⟩ => (match cd.mro, sl.toList with
    | .ref C' :: bm, [_, _, _, _, some (.builtin n), _] => decide (C' = C) && (decide (n = "ValueError.__new__") && (!cd.hasDel && (cd.hasDict && PySem.HandSPX.refsVE bm)))
    | _, _ => false)
  | _ => false
def oexB (K : Frag) (C : Addr) : Bool := clsB K C && (decide (findIn K (.ref C) "__setattr__" = some (some (.builtin "object.__setattr__"))) && (decide (subIn K (.ref C) (.type "BaseException") = some true) && (decide (typeIn K (.ref C) = some (.type "type")) && keepIn K (.ref C))))
theorem oexB_ok {K : Frag} {C : Addr} (h : oexB K C = true) : OexC K C := by
  unfold oexB at h
  simp only [Bool.and_eq_true, decide_eq_true_eq] at h
  obtain ⟨h1, h2, h3, h4, h5⟩ := h
  refine ⟨?_, h2, h3, h4, h5⟩
  unfold clsB at h1
  split at h1
  · rename_i dd cd sl ho
    split at h1
    · rename_i C' bm k0 k1 k2 k3 n k5 hm hs
      simp only [Bool.and_eq_true, decide_eq_true_eq, Bool.not_eq_true'] at h1
      obtain ⟨rfl, rfl, hdel, hdi, hre⟩ := h1
      obtain ⟨nm, bs, mro, ns, qn, hd, sn, sub, ab, col, del⟩ := cd
      dsimp only at hm hdel hdi
      subst hm hdel hdi
      have hsl : sl = #[k0, k1, k2, k3, some (.builtin "ValueError.__new__"), k5] := by
        obtain ⟨l⟩ := sl
        simp only at hs
        rw [hs]
      subst hsl
      exact ⟨nm, qn, ns, bs, bm, sn, sub, ab, col, dd, k0, k1, k2, k3, k5, ho, hre⟩
    · cases h1
  · cases h1
theorem he_sup {x0 m r : Str} {p0 p1 p2 p3 p4 : Pos} (hline : (p2.endLine == p4.line) = true) : ∃ pl : Sem Bool, ∀ env : PySem.Env, eval (.Call (.Attribute (.Call (.Name x0 p0) [] [] p1) m p2) [.Name r p3] [] p4) env = (do
        let ov ← attributeBase (.Call (.Name x0 p0) [] [] p1) m env (eval (.Call (.Name x0 p0) [] [] p1) env)
        standAt p2.atName
        let (f, first) ← holding [ov] (getMethod ov m pl)
        callWith p4 f first (backTo p4 (starEach [.Name r p3] env)) []) := by
  refine ⟨(do return (← (pure (some false) : Sem (Option Bool))).getD true), fun env => ?_⟩
  rw [arm_eval_Call]
  have hform : methodCallForm ([Expr.Name r p3].length + ([] : List Keyword).length) (backTo p4 (starEach [.Name r p3] env)) (backToKw p4 (keywordEach [] env)) = true := rfl
  have hpos : methodCallPos true (.Call (.Name x0 p0) [] [] p1) env p2 p4 = pure p4 := by unfold methodCallPos; simp [hline]
  unfold methodCall
  rw [hform]
  simp only [hpos, pure_bind]
  rfl
/-- self, the reason's name, the positions of the call, of a body as it must be -/
def supBody (fld : Str) : FuncBody → Option (Str × Str × Pos × Pos)
  | .stmts [.Expr (.Call (.Attribute (.Call (.Name x0 _) [] [] _) m p2) [.Name r _] [] p4) _, .Assign [.Attribute (.Name self _) f _] (.Name r2 _) _] =>
    if x0 = "super" ∧ m = "__init__" ∧ r2 = r ∧ f = fld then some (self, r, p2, p4) else none
  | _ => none
theorem supBody_some {fld self r : Str} {p2 p4 : Pos} {b : FuncBody} (h : supBody fld b = some (self, r, p2, p4)) : ∃ p0 p1 p3 p5 p6 p7 p8 p9, b = .stmts [.Expr (.Call (.Attribute (.Call (.Name "super" p0) [] [] p1) "__init__" p2) [.Name r p3] [] p4) p5, .Assign [.Attribute (.Name self p6) fld p7] (.Name r p8) p9] := by
  unfold supBody at h
  split at h
  · split at h
    · rename_i hc
      obtain ⟨rfl, rfl, rfl, rfl⟩ := hc
      cases h
      exact ⟨_, _, _, _, _, _, _, _, rfl⟩
    · cases h
  · cases h
def supPar (self r : Str) : Arguments → Bool
  | ⟨[], [⟨b1, _, _⟩, ⟨b2, _, _⟩], none, [], [], none, []⟩ => decide (b1 = "self") && (decide (b2 = "reason") && (decide (self = "self") && decide (r = "reason")))
  | _ => false
def supScope (self r : Str) (sc : Scope) : Bool := decide (sc.names.lookup ("super" : Str) = some .globalImplicit) && (decide (sc.names.lookup ("__class__" : Str) = some .free) && (decide (sc.names.lookup self = some .local) && (decide (sc.names.lookup r = some .local) &&
  ((match sc.kind with | .function => true | _ => false) && (!sc.isCoroutine && (!sc.isGenerator && sc.names.all fun x => decide (x.2 ≠ .cell)))))))
def cellB (K : Frag) (cc C : Addr) : Bool := match K.lookup cc with
  | some ⟨_, _, .cell (some (.ref D)), _⟩ => decide (D = C)
  | _ => false
theorem cellB_ok {K : Frag} {cc C : Addr} (h : cellB K cc C = true) : ∃ cl cld csl, K.lookup cc = some ⟨cl, cld, .cell (some (.ref C)), csl⟩ := by
  unfold cellB at h
  split at h
  · rename_i cl cld D csl e
    have := of_decide_eq_true h
    subst this
    exact ⟨_, _, _, e⟩
  · cases h
def fileB (file : Str) : Option Value → Bool
  | some (.str f2 _) => file == f2
  | _ => false
theorem fileB_ok {file : Str} {o : Option Value} (h : fileB file o = true) : ∃ f2 tf, o = some (.str f2 tf) ∧ (file == f2) = true := by
  unfold fileB at h
  split at h
  · exact ⟨_, _, rfl, h⟩
  · cases h
def codeB (K : Frag) (cda : Addr) (file : Str) : Bool := match K.lookup cda with
  | some ⟨_, _, .fields vs, _⟩ => fileB file vs[2]?
  | _ => false
theorem codeB_ok {K : Frag} {cda : Addr} {file : Str} (h : codeB K cda file = true) : ∃ ccl cdd vs ccs f2 tf, K.lookup cda = some ⟨ccl, cdd, .fields vs, ccs⟩ ∧ vs[2]? = some (.str f2 tf) ∧ (file == f2) = true := by
  unfold codeB at h
  split at h
  · rename_i ccl cdd vs ccs e
    obtain ⟨f2, tf, h1, h2⟩ := fileB_ok h
    exact ⟨_, _, _, _, f2, tf, e, h1, h2⟩
  · cases h
def supClos (K : Frag) (C : Addr) : List (Str × Addr) → Bool
  | [(cn, cc)] => decide (cn = "__class__") && cellB K cc C
  | _ => false
theorem supClos_ok {K : Frag} {C : Addr} {l : List (Str × Addr)} (h : supClos K C l = true) : ∃ cc : Addr, l = [(("__class__" : Str), cc)] ∧ cellB K cc C = true := by
  unfold supClos at h
  split at h
  · rename_i cn cc
    rw [Bool.and_eq_true, decide_eq_true_eq] at h
    obtain ⟨rfl, h⟩ := h
    exact ⟨cc, rfl, h⟩
  · cases h
def supCode (K : Frag) (file : Str) (qual : Str) : Value → Bool
  | .ref cda => codeIn K (.ref cda) qual && codeB K cda file
  | _ => false
theorem supCode_ok {K : Frag} {file qual : Str} {v : Value} (h : supCode K file qual v = true) : ∃ cda, v = .ref cda ∧ codeIn K (.ref cda) qual = true ∧ codeB K cda file = true := by
  unfold supCode at h
  split at h
  · rename_i cda
    rw [Bool.and_eq_true] at h
    exact ⟨cda, rfl, h.1, h.2⟩
  · cases h
def noneB : Value → Bool
  | .none => true
  | _ => false
theorem noneB_ok {v : Value} (h : noneB v = true) : v = .none := by
  unfold noneB at h
  split at h
  · rfl
  · cases h
def supFd (K : Frag) (file : Str) (C : Addr) (fld : Str) (fd : FuncData) : Bool := match supBody fld fd.body with
  | some (self, r, p2, p4) => (p2.endLine == p4.line) && (supPar self r fd.params && (supScope self r fd.scope && (supClos K C fd.closure && (supCode K file fd.qualname fd.code && (decide (self ≠ r) &&
      (!(self == ("__debug__" : Str)) && (!(r == ("__debug__" : Str)) && (decide (fd.globals = mainGlobals) && (decide (fd.builtins = builtinsNs) && noneB fd.defaults)))))))))
  | none => false
def supB (K : Frag) (file : Str) (C : Addr) (fld : Str) : Bool := oexB K C && (decide (findIn K (.ref C) fld = some none) && (decide (mroIn K C (.ref C) = some true) && (decide (ks_superIn K C C "__init__" = some (some (.builtin "ValueError.__init__"))) &&
  (decide (subIn K (.ref C) (.type "ValueError") = some true) && (decide (nsIn K cStatics "thirdparty.any" = some none) && (match findIn K (.ref C) "__init__" with
    | some (some (.ref fI)) => decide (typeIn K (.ref fI) = some (.type "function")) && (match K.lookup fI with
      | some ⟨_, _, .func fd, _⟩ => supFd K file C fld fd
      | _ => false)
    | _ => false))))))
theorem supB_ok {g : GE} {c : Nat} (h : supB g.K g.P.main.file (g.ca c) "reason" = true) (hsuper : g.mg "super" = none) (htop : (g.P.main.scope.names.lookup ("super" : Str)).isSome = false) : ExS g c := by
  unfold supB at h
  simp only [Bool.and_eq_true, decide_eq_true_eq] at h
  obtain ⟨h1, h2, h3, h4, h5, h6, h7⟩ := h
  have T := oexB_ok h1
  split at h7
  · rename_i fI iC
    simp only [Bool.and_eq_true, decide_eq_true_eq] at h7
    obtain ⟨tI, h8⟩ := h7
    split at h8
    · rename_i oc od fd osl lk
      unfold supFd at h8
      split at h8
      · rename_i self r p2 p4 hbd
        simp only [Bool.and_eq_true, decide_eq_true_eq, Bool.not_eq_true'] at h8
        obtain ⟨hline, hpar, hsc, hcl, hco, hne, hds, hdr, hgl, hbl, hdv⟩ := h8
        obtain ⟨p0, p1, p3, p5, p6, p7, p8, p9, hbody⟩ := supBody_some hbd
        obtain ⟨name, qual, params, body, scope, gl, clo, dV, kV, doc, pm, an, code, ct, bl⟩ := fd
        dsimp only at hbody hpar hsc hcl hco hgl hbl
        subst hbody hgl hbl
        obtain rfl : dV = .none := noneB_ok hdv
        unfold supScope at hsc
        simp only [Bool.and_eq_true, decide_eq_true_eq, Bool.not_eq_true', List.all_eq_true] at hsc
        obtain ⟨s1, s2, s3, s4, s5, s6, s7, s8⟩ := hsc
        have hk : scope.kind = .function := by
          split at s5
          · assumption
          · cases s5
        obtain ⟨cc, rfl, hcb⟩ := supClos_ok hcl
        obtain ⟨cda, rfl, hcd, hcf⟩ := supCode_ok hco
        obtain ⟨cl, cld, csl, hcell⟩ := cellB_ok hcb
        obtain ⟨ccl, cdd, vs, ccs, f2, tf, hcode, hvs, hfile⟩ := codeB_ok hcf
        unfold supPar at hpar
        split at hpar
        · rename_i b1 an1 ps1 b2 an2 ps2
          simp only [Bool.and_eq_true, decide_eq_true_eq] at hpar
          obtain ⟨e1, e2, e3, e4⟩ := hpar
          subst e1 e2 e3 e4
          obtain ⟨pl, he⟩ := he_sup (x0 := "super") (m := "__init__") (r := "reason") (p0 := p0) (p1 := p1) (p2 := p2) (p3 := p3) (p4 := p4) hline
          have F1 := fn_sup (CX := L2.CX g.P g.w) (P := g.P) (w := g.w) (K := g.K) (mg := g.mg) (base := g.base) (k := 0) (fld := "reason") lk he hcd T h2 rfl rfl hne hcode hvs hfile hcell h3 hsuper h4 h5 h6 s1 s2 s3 s4 hk s6 s7 s8 hds hdr htop trivial
          refine ⟨fI, _, _, T, iC, tI, F1, .all fun us hl => ?_⟩
          match us, hl with
          | [u, v], _ => rfl
        · cases hpar
      · cases h8
    · cases h8
  · cases h7
end EV
set_option Elab.async false
set_option linter.all false
set_option autoImplicit false
set_option maxRecDepth 100000
/-! The head: from a Hook's facts to the table, from the table to the law. -/
namespace EV
open PySem PySem.Spec PyProof.Rows L2
/-- the part that is looked at -/
def kx (n : Nat) (g : Addr → Option Obj) : PySem.W.Frag := He.frG g (cStatics :: He.asD g n)
/-- what the Hook looks at: facts of my own, then those of He -/
def obsX (n : Nat) (fa : List He.Fa) (fn : List He.DefD) (ex : PySem.W.Frag → Bool) (g : Addr → Option Obj) : Bool × He.AlD := (ex (kx n g), He.obsD fa fn (kx n g))
def hookX (n : Nat) (fa : List He.Fa) (fn : List He.DefD) (ex : PySem.W.Frag → Bool) : PySem.W.Hook where
  α := Bool × He.AlD
  obs := fun s => obsX n fa fn ex s.heap.get?
  val := fun _ => (true, He.valD fn)
  says := fun _ h => ∃ K : PySem.W.Frag, K.In h ∧ ex K = true ∧ He.SaysD fa fn K
  of := fun _ _ e => ⟨_, He.frG_in, congrArg Prod.fst e, congrArg Prod.snd e⟩
  keeps := fun _ _ _ ⟨K, hK, c⟩ k => ⟨K, PySem.W.Frag.In.keeps hK k, c⟩
theorem obsX_eq {n : Nat} {fa : List He.Fa} {fn : List He.DefD} {ex : PySem.W.Frag → Bool} {g : Addr → Option Obj} {s : Shared} (h : ∀ a, g a = s.heap.get? a) : obsX n fa fn ex g = (hookX n fa fn ex).obs s := by
  have e : g = s.heap.get? := funext h
  rw [e]
  rfl
/-- a program's names: its defs (by number), its classes (number, name) -/
structure Nms where
  defs : List Str
  excs : List (Nat × Str)
def Nms.cn (M : Nms) (c : Nat) : Str := (M.excs.lookup c).getD ""
def geOf (P : Program) (w : World) (K : PySem.W.Frag) (mg : Str → Option Value) (base : Heap) (M : Nms) : GE :=
  { P := P, w := w, K := K, mg := mg, base := base, fa := fun f => He.ga K (M.defs.getD f ""), ca := fun c => He.ga K (M.cn c), dm := fun f => f < M.defs.length, dc := fun c => (M.excs.lookup c).isSome = true }
/-- the facts that are asked for beyond He's -/
def exB (file : Str) (M : Nms) (consts : List (Str × PV)) (K : PySem.W.Frag) : Bool :=
  (M.excs.all fun p => if p.1 < 100 then PySem.W.excIn K (He.ga K p.2) He.veBase "ValueError.__new__" && (PySem.W.keepIn K (.ref (He.ga K p.2)) && (decide (PySem.W.subIn K (.ref (He.ga K p.2)) (.type "BaseException") = some true) && decide (PySem.W.typeIn K (.ref (He.ga K p.2)) = some (.type "type")))) else
    xfB K (He.ga K p.2) && (decide (PySem.W.findIn K (.ref (He.ga K p.2)) "reason" = some none) && supB K file (He.ga K p.2) "reason")) &&
  ((M.excs.all fun p => M.excs.all fun q => decide (PySem.W.exmOne K (.ref (He.ga K p.2)) (.ref (He.ga K q.2)) = some (decide (q.1 = p.1)))) &&
  ((M.defs.all fun x => decide (PySem.W.nsIn K mainGlobals x = some (some (.ref (He.ga K x))))) &&
  ((M.excs.all fun p => decide (PySem.W.nsIn K mainGlobals p.2 = some (some (.ref (He.ga K p.2))))) &&
  (((("super" : Str) :: bltns).all fun x => decide (PySem.W.nsIn K mainGlobals x = some none)) &&
  consts.all fun p => cstB K p.1 p.2))))
where
  cstB (K : PySem.W.Frag) (x : Str) : PV → Bool
    | .int i => (match PySem.W.nsIn K mainGlobals x with
      | some (some (.int j _)) => decide (j = i)
      | _ => false)
    | .str s => (match PySem.W.nsIn K mainGlobals x with
      | some (some (.str z _)) => decide (z = toS s)
      | _ => false)
    | _ => false
end EV
set_option Elab.async false
set_option linter.all false
set_option autoImplicit false
set_option maxRecDepth 100000
/-! The end: from the head's facts to the law. -/
namespace EV
open PySem PySem.Spec PyProof.Rows L2
/-! ### one def, as the text has it -/
def dD (x : Str) (st : Stmt) : He.DefD := ⟨(x, none), x, x, defArgs st, defBody st, defScope st, [], []⟩
def fnScB (N P : List Str) (sc : Scope) : Bool := (match sc.kind with | .function => true | _ => false) && (!sc.isCoroutine && (!sc.isGenerator && (decide N.Nodup && (decide (N.take P.length = P) &&
  ((P.all fun x => decide (sc.names.lookup x = some .local) || decide (sc.names.lookup x = some .cell)) && sc.names.all fun y => decide (y.2 ≠ .free))))))
theorem fnScB_ok {N P : List Str} {sc : Scope} (h : fnScB N P sc = true) : FnScope N P sc := by
  unfold fnScB at h
  simp only [Bool.and_eq_true, Bool.not_eq_true', decide_eq_true_eq, List.all_eq_true, Bool.or_eq_true] at h
  obtain ⟨h1, h2, h3, h4, h5, h6, h7⟩ := h
  refine ⟨?_, h2, h3, h4, h5, h6, h7⟩
  split at h1
  · assumption
  · cases h1
def defB (C0 : SC) (st : Stmt) (N : List Str) (fd : FnD) (n : Nat) : Bool := fnScB N (N.take fd.np) (defScope st) && (decide ((N.take fd.np).length = fd.np) && (decide (N.length = fd.ns) && (decide (fd.np ≤ fd.ns) &&
  chSs n { C0 with N := N, sc := defScope st, io := fd.io } fd.body (defBody st))))
/-- what is known of a def, by the written part alone -/
structure DefK (K : PySem.W.Frag) (C0 : SC) (tab : Nat → Option FnD) (i : Nat) (f : Addr) (x : Str) (st : Stmt) (N : List Str) (fd : FnD) (n : Nat) (fdv : FuncData) : Prop where
  t : tab i = some fd
  F : L2.FunD K x x (defArgs st) (defBody st) (defScope st) [] [] f fdv
  sc : FnScope N (N.take fd.np) (defScope st)
  lp : (N.take fd.np).length = fd.np
  ln : N.length = fd.ns
  le : fd.np ≤ fd.ns
  bd : Binds K fdv (N.take fd.np) []
  ch : chSs n { C0 with N := N, sc := defScope st, io := fd.io } fd.body (defBody st) = true
theorem DefK.of {K : PySem.W.Frag} {fa : List He.Fa} {fn : List He.DefD} {C0 : SC} {tab : Nat → Option FnD} {i : Nat} {x : Str} {st : Stmt} {N : List Str} {fd : FnD} {n : Nat} (c : He.SaysD fa fn K) (hi : fn[i]? = some (dD x st)) (ht : tab i = some fd) (hb : defB C0 st N fd n = true)
    (h : ∀ (kV doc pm : Value) (an : Option Addr) (cdv ct : Value) (us : List Value), us.length = (N.take fd.np).length → bindArgs (PySem.W.fnOf x x (defArgs st) (defBody st) (defScope st) .none kV doc pm an cdv ct) ⟨us, []⟩ = pure ((N.take fd.np).zip us)) : ∃ fdv, DefK K C0 tab i (He.ga K x) x st N fd n fdv := by
  obtain ⟨fdv, F⟩ := c.def_ i hi
  have F : L2.FunD K x x (defArgs st) (defBody st) (defScope st) [] [] (He.ga K x) fdv := F
  unfold defB at hb
  simp only [Bool.and_eq_true, decide_eq_true_eq] at hb
  obtain ⟨h1, h2, h3, h4, h5⟩ := hb
  exact ⟨fdv, ht, F, fnScB_ok h1, h2, h3, h4, F.bindsN h, h5⟩
/-! ### the table -/
theorem tabOk_of {P : Program} {w : World} {K : PySem.W.Frag} {mg : Str → Option Value} {base : Heap} {h : Heap} {M : Nms} {consts : List (Str × PV)} {tab : Nat → Option FnD} {C0 : SC} (X : K.In h) (G : h.Ns mainGlobals mg) (hx : exB P.main.file M consts K = true) (htop : (P.main.scope.names.lookup ("super" : Str)).isSome = false)
    (D : ∀ f, f < M.defs.length → ∃ x st N fd n fdv, DefK K C0 tab f (He.ga K (M.defs.getD f "")) x st N fd n fdv)
    (hnp : ∀ f, C0.np f = ((tab f).map FnD.np).getD 0) (hfb : C0.fnb = fun _ => true) (hcs : C0.consts = consts ++ M.defs.zipIdx.map fun p => (p.1, PV.fn p.2)) (hfn : C0.fns = M.defs.zipIdx) (hex : C0.excs = M.excs.map fun p => (p.2, p.1)) (hnd : (M.excs.map Prod.fst).Nodup) : TabOk (geOf P w K mg base M) C0 tab := by
  unfold exB at hx
  simp only [Bool.and_eq_true, List.all_eq_true] at hx
  obtain ⟨x1, x2, x3, x4, x5, x6⟩ := hx
  have cn_of : ∀ p ∈ M.excs, M.cn p.1 = p.2 := fun p hp => by
    unfold Nms.cn
    have : ∀ (l : List (Nat × Str)), (l.map Prod.fst).Nodup → p ∈ l → l.lookup p.1 = some p.2 := by
      intro l
      induction l with
      | nil => intro _ h; cases h
      | cons q l ih =>
        intro hn hm
        rw [List.map_cons, List.nodup_cons] at hn
        rcases List.mem_cons.mp hm with rfl | hm
        · simp [List.lookup]
        · have : (p.1 == q.1) = false := by
            rw [beq_eq_false_iff_ne]
            intro e
            exact hn.1 (List.mem_map.mpr ⟨p, hm, e⟩)
          rw [List.lookup, this]
          exact ih hn.2 hm
    rw [this M.excs hnd hp]; rfl
  have lk_of : ∀ p ∈ M.excs, (M.excs.lookup p.1).isSome = true := fun p hp => by
    cases e : M.excs.lookup p.1 with
    | some v => rfl
    | none =>
      have := List.lookup_eq_none_iff.mp e p hp
      simp at this
  have in_of : ∀ c, (M.excs.lookup c).isSome = true → ∃ p ∈ M.excs, p.1 = c := fun c hc => by
    obtain ⟨v, hv⟩ := Option.isSome_iff_exists.mp hc
    have : ∀ (l : List (Nat × Str)), l.lookup c = some v → ∃ p ∈ l, p.1 = c := by
      intro l
      induction l with
      | nil => intro h; cases h
      | cons q l ih =>
        intro h
        rw [List.lookup] at h
        split at h
        · rename_i e
          exact ⟨q, List.mem_cons_self .., (eq_of_beq e).symm⟩
        · obtain ⟨p, hp, e⟩ := ih h
          exact ⟨p, List.mem_cons_of_mem _ hp, e⟩
    exact this _ hv
  have fn_mem : ∀ x f, (x, f) ∈ M.defs.zipIdx → f < M.defs.length ∧ M.defs.getD f "" = x ∧ x ∈ M.defs := fun x f hm => by
    obtain ⟨i, hi, e⟩ := List.mem_iff_getElem.mp hm
    rw [List.getElem_zipIdx] at e
    have hi' : i < M.defs.length := by simpa using hi
    have e1 : M.defs[i] = x := congrArg Prod.fst e
    have e2 : 0 + i = f := congrArg Prod.snd e
    have e3 : i = f := by omega
    subst e3
    refine ⟨hi', ?_, ?_⟩
    · rw [List.getD_eq_getElem?_getD, List.getElem?_eq_getElem hi', e1]; rfl
    · rw [← e1]; exact List.getElem_mem hi'
  have fnr : ∀ x f, (x, f) ∈ M.defs.zipIdx → mg x = some (.ref (He.ga K (M.defs.getD f ""))) ∧ f < M.defs.length := fun x f hm => by
    obtain ⟨h1, h2, h3⟩ := fn_mem x f hm
    rw [h2]
    exact ⟨PySem.W.mg_of X G (of_decide_eq_true (x3 x h3)), h1⟩
  have sub_ok : ∀ p ∈ M.excs, ((if p.1 < 100 then PySem.W.excIn K (He.ga K p.2) He.veBase "ValueError.__new__" && (PySem.W.keepIn K (.ref (He.ga K p.2)) && (decide (PySem.W.subIn K (.ref (He.ga K p.2)) (.type "BaseException") = some true) && decide (PySem.W.typeIn K (.ref (He.ga K p.2)) = some (.type "type")))) else
    xfB K (He.ga K p.2) && (decide (PySem.W.findIn K (.ref (He.ga K p.2)) "reason" = some none) && supB K P.main.file (He.ga K p.2) "reason")) = true) := x1
  refine { def_ := fun f hf => ?_, np := hnp, fnb := hfb, bn := fun x hx => ?_, cs := fun x v hm => ?_, fn := fun x f hm => ?_, ex := fun x c hm => ?_, ea := ⟨fun c c' hc hc' => ?_⟩, xs := fun x c hm hc => ?_, xf := fun x c hm hc => ?_ }
  · obtain ⟨x, st, N, fd, n, fdv, k⟩ := D f hf
    exact ⟨x, x, _, _, _, [], [], N, _, fd, fdv, n, k.t, k.F, k.sc, k.lp, k.ln, k.le, k.bd, k.ch⟩
  · exact PySem.W.mg_none_of X G (of_decide_eq_true (x5 x (List.mem_cons_of_mem _ hx)))
  · rw [hcs, List.mem_append] at hm
    rcases hm with hm | hm
    · have := x6 _ hm
      unfold exB.cstB at this
      split at this
      · rename_i i hv
        have hv : v = PV.int i := hv
        subst hv
        split at this
        · rename_i j t e
          have ej := of_decide_eq_true this
          subst ej
          exact ⟨_, .int j, PySem.W.mg_of X G e, ⟨t, rfl⟩, fun F H => .int j⟩
        · cases this
      · rename_i sx hv
        have hv : v = PV.str sx := hv
        subst hv
        split at this
        · rename_i z t e
          have ej := of_decide_eq_true this
          subst ej
          exact ⟨_, .str (toS sx), PySem.W.mg_of X G e, ⟨t, rfl⟩, fun F H => .str sx⟩
        · cases this
      · cases this
    · obtain ⟨q, hq, e⟩ := List.mem_map.mp hm
      obtain ⟨y, f⟩ := q
      cases e
      obtain ⟨h1, h2⟩ := fnr _ _ hq
      exact ⟨_, .ref (He.ga K (M.defs.getD f "")), h1, rfl, fun F H => RV.fn (g := geOf P w K mg base M) h2⟩
  · rw [hfn] at hm
    exact fnr x f hm
  · rw [hex] at hm
    obtain ⟨p, hp, e⟩ := List.mem_map.mp hm
    cases e
    have h1 := sub_ok p hp
    have e1 : M.cn p.1 = p.2 := cn_of p hp
    refine ⟨?_, lk_of p hp, fun hc => ?_⟩
    · show mg p.2 = some (.ref (He.ga K (M.cn p.1)))
      rw [e1]
      exact PySem.W.mg_of X G (of_decide_eq_true (x4 p hp))
    · rw [if_pos hc] at h1
      simp only [Bool.and_eq_true, decide_eq_true_eq] at h1
      obtain ⟨q1, q2, q3, q4⟩ := h1
      have e2 : (geOf P w K mg base M).ca p.1 = He.ga K p.2 := by show He.ga K (M.cn p.1) = _; rw [e1]
      refine ⟨⟨_, ?_, by rw [e2]; exact q1⟩, by rw [e2]; exact q2, by rw [e2]; exact q3, by rw [e2]; exact q4⟩
      exact PySem.F.excBase_ValueError
  · obtain ⟨p, hp, rfl⟩ := in_of c hc
    obtain ⟨q, hq, rfl⟩ := in_of c' hc'
    show PySem.W.exmOne K (.ref (He.ga K (M.cn p.1))) (.ref (He.ga K (M.cn q.1))) = _
    rw [cn_of p hp, cn_of q hq]
    exact of_decide_eq_true (x2 p hp q hq)
  · rw [hex] at hm
    obtain ⟨p, hp, e⟩ := List.mem_map.mp hm
    cases e
    have h1 := sub_ok p hp
    rw [if_neg (by omega)] at h1
    simp only [Bool.and_eq_true, decide_eq_true_eq] at h1
    have e2 : (geOf P w K mg base M).ca p.1 = He.ga K p.2 := by show He.ga K (M.cn p.1) = _; rw [cn_of p hp]
    exact supB_ok (by rw [e2]; exact h1.2.2) (PySem.W.mg_none_of X G (of_decide_eq_true (x5 _ (List.mem_cons_self ..)))) htop
  · rw [hex] at hm
    obtain ⟨p, hp, e⟩ := List.mem_map.mp hm
    cases e
    have h1 := sub_ok p hp
    rw [if_neg (by omega)] at h1
    simp only [Bool.and_eq_true, decide_eq_true_eq] at h1
    have e2 : (geOf P w K mg base M).ca p.1 = He.ga K p.2 := by show He.ga K (M.cn p.1) = _; rw [cn_of p hp]
    rw [e2]
    exact ⟨xfB_ok h1.1, h1.2.1⟩
/-! ### the law -/
theorem law_sp {g : GE} {call : CallT} {f : Nat} {H : Hp} {a : Addr} {ns : List Int} (hO : Only H) (hS : SqL g.K H a (ns.map V.int)) (h : call f false [.scr ns] = .ok ((.bl true, false), .non)) : spF g call f 1 [.ref a] H (fun v _ => v = .bl true) (fun _ _ _ => False) := by
  refine ⟨rfl, false, fun _ => False, fun _ => False, [.scr ns], fun _ h => h.elim, fun _ h => h.elim, ?_, ?_⟩
  · show RVs g _ H [.scr ns] [.ref a]
    exact .cons (.scr (FzL.of hO hS)) .nil
  · rw [h]
    intro F' H' st _ x r
    rcases r.1 with ⟨_, r⟩ | ⟨h, _⟩
    · cases r
      rfl
    · cases h
/-- the end: every def of the table, the law among them -/
theorem law_walk {l : PySem.W.OpenLaw} {q : Program} {loose : List Str} {XP : (Str → Option Value) → Heap → Prop} {d : DefRec} {n : Nat} {fa : List He.Fa} {fn : List He.DefD} {M : Nms} {consts : List (Str × PV)} {tab : Nat → Option FnD} {C0 : SC} {dep : Nat} {iL : Nat} {st : Stmt} {N : List Str} {fd : FnD} {m : Nat}
    (hn : l.most = some n) (hn2 : n ≤ sizeLine) (hdf : d.params.defaults = []) (hr : Room (dep + 3) callerA) (htop : (l.prog.main.scope.names.lookup ("super" : Str)).isSome = false) (hname : d.name = ("law" : Str)) (hiL : iL < M.defs.length) (hL : M.defs.getD iL "" = ("law" : Str))
    (D : ∀ K : PySem.W.Frag, He.SaysD fa fn K → ∀ f, f < M.defs.length → ∃ x st N fd n fdv, DefK K C0 tab f (He.ga K (M.defs.getD f "")) x st N fd n fdv)
    (DL : ∀ K : PySem.W.Frag, He.SaysD fa fn K → ∃ fdv, DefK K C0 tab iL (He.ga K "law") "law" st N fd m fdv) (hps : N.take fd.np = [("script" : Str)])
    (hb : ∀ (kV doc pm : Value) (an : Option Addr) (cdv ct : Value) (us : List Value), us.length = 1 → bindArgs (PySem.W.fnOf "law" "law" (defArgs st) (defBody st) (defScope st) .none kV doc pm an cdv ct) ⟨us, []⟩ = pure ([("script" : Str)].zip us))
    (hnp : ∀ f, C0.np f = ((tab f).map FnD.np).getD 0) (hfb : C0.fnb = fun _ => true) (hcs : C0.consts = consts ++ M.defs.zipIdx.map fun p => (p.1, PV.fn p.2)) (hfn : C0.fns = M.defs.zipIdx) (hex : C0.excs = M.excs.map fun p => (p.2, p.1)) (hnd : (M.excs.map Prod.fst).Nodup)
    (law : ∀ ns : List Int, callF tab (dep + 1) iL false [.scr ns] = .ok ((.bl true, false), .non)) :
    PySem.W.WalkO q loose XP (fun _ h => ∃ K : PySem.W.Frag, K.In h ∧ exB l.prog.main.file M consts K = true ∧ He.SaysD fa fn K) l.row.toRowW d [] (fun f vs => PySem.call f vs) := by
  refine Att.attach_call hn hdf fun w s₀ s₁ mg mb fa' o pm cd doc a vs ns G Y ho hd hcd hmg hobj hints hlen hg => ?_
  obtain ⟨K, KX, hx, c⟩ := Y
  have T : ∀ base, TabOk (geOf l.prog w K mg base M) C0 tab := fun base => tabOk_of KX G.T.g hx htop (D K c) hnp hfb hcs hfn hex hnd
  obtain ⟨fdv, k⟩ := DL K c
  have efa : fa' = He.ga K "law" := by
    have h1 := (T s₁.heap).fn "law" iL (by
      rw [hfn, ← hL, List.getD_eq_getElem?_getD, List.getElem?_eq_getElem hiL]
      exact List.mem_iff_getElem.mpr ⟨iL, by simpa using hiL, by rw [List.getElem_zipIdx]; simp⟩)
    have h2 : mg "law" = some (.ref (He.ga K (M.defs.getD iL ""))) := h1.1
    rw [hL] at h2
    rw [hname] at hmg
    rw [h2] at hmg
    cases hmg
    rfl
  subst efa
  have k1 : C0.np iL = 1 := by
    rw [hnp, k.t]
    have := k.lp
    rw [hps] at this
    exact this.symm
  refine law_call (x := "script") (k := dep + 3) (fd := fdv) (CX := L2.CX l.prog w) (sp := fun vs H Q E => ∀ base, spF (geOf l.prog w K mg base M) (callF tab (dep + 1)) iL 1 vs H Q E) KX G.T.g G.T.b G.T.builtins G.T.nolimit hg hobj hints (Nat.le_trans hlen hn2) hr (fun base hb1 hb2 => ?_) (fun s u => ?_) (fun H hO hS base => law_sp hO hS (law ns)) (fun H e s' hc => ?_)
  · have kF : L2.FunD (geOf l.prog w K mg base M).K "law" "law" (defArgs st) (defBody st) (defScope st) [] [] ((geOf l.prog w K mg base M).fa iL) fdv := by
      show L2.FunD K "law" "law" (defArgs st) (defBody st) (defScope st) [] [] (He.ga K (M.defs.getD iL "")) fdv
      rw [hL]
      exact k.F
    have h1 := tab_step (T base) dep iL (fun f W k0 hf => tab_ok (T base) dep f W k0 hf) k.t kF k.sc k.lp k.ln k.le k.ch
    rw [hps, k1] at h1
    have e : (geOf l.prog w K mg base M).fa iL = He.ga K "law" := by show He.ga K (M.defs.getD iL "") = _; rw [hL]
    rw [e] at h1
    exact FnOk.imp h1 fun vs H Q E h => h base
  · exact FunD.bindsA (ps := [("script" : Str)]) k.F hb s [u] rfl
  · obtain ⟨a, B, H', cls, dd, _, _, _, _, _, _, _, h⟩ := hc
    exact h
end EV
set_option autoImplicit false
namespace EV
section
variable (i j k : Int) (x y : List PV) (s t : List Nat) (a b v u : PV) (lo hi : Option Int)
@[simp] theorem szl_eq : szl = 16777216 := rfl
@[simp] theorem un_neg : unV .neg (.int i) = .ok (.int (-i), false) := rfl
@[simp] theorem un_inv : unV .inv (.int i) = .ok (.int (-i - 1), false) := rfl
@[simp] theorem bin_add : binV .add (.int i) (.int j) = .ok (.int (i + j), false) := rfl
@[simp] theorem bin_sub : binV .sub (.int i) (.int j) = .ok (.int (i - j), false) := rfl
@[simp] theorem bin_mul : binV .mul (.int i) (.int j) = if okMul i j then .ok (.int (i * j), false) else .bad := rfl
@[simp] theorem bin_fdiv : binV .fdiv (.int i) (.int j) = if 0 < j ∧ j.natAbs.log2 < 9000 then .ok (.int (i / j), false) else .bad := rfl
@[simp] theorem bin_mod : binV .mod (.int i) (.int j) = if 0 < j then .ok (.int (i % j), false) else .bad := rfl
@[simp] theorem bin_adds : binV .add (.str s) (.str t) = if s.length + t.length ≤ szl then .ok (.str (s ++ t), false) else .bad := rfl
@[simp] theorem bin_addt : binV .add (.tup x) (.tup y) = if x.length + y.length ≤ szl then .ok (.tup (x ++ y), false) else .bad := rfl
@[simp] theorem bin_addl : binV .add (.lst x) (.lst y) = if x.length + y.length ≤ szl then .ok (.lst (x ++ y), true) else .bad := rfl
@[simp] theorem bin_mull : binV .mul (.lst x) (.int k) = if -(2 ^ 63) ≤ k ∧ k < 2 ^ 63 ∧ x.length * k.toNat ≤ szl then .ok (.lst (repL x k), true) else .bad := rfl
@[simp] theorem cm_lt : cmpV .lt (.int i) (.int j) = .ok (.bl (decide (i < j)), false) := rfl
@[simp] theorem cm_le : cmpV .le (.int i) (.int j) = .ok (.bl (decide (i ≤ j)), false) := rfl
@[simp] theorem cm_gt : cmpV .gt (.int i) (.int j) = .ok (.bl (decide (j < i)), false) := rfl
@[simp] theorem cm_ge : cmpV .ge (.int i) (.int j) = .ok (.bl (decide (j ≤ i)), false) := rfl
@[simp] theorem cm_lts : cmpV .lt (.str s) (.str t) = .ok (.bl (strLt s t), false) := rfl
@[simp] theorem cm_les : cmpV .le (.str s) (.str t) = .ok (.bl (!strLt t s), false) := rfl
@[simp] theorem cm_is : cmpV .is a .non = .ok (.bl a.isNon, false) := by cases a <;> rfl
@[simp] theorem cm_isnot : cmpV .isnot a .non = .ok (.bl (!a.isNon), false) := by cases a <;> rfl
@[simp] theorem cm_eq : cmpV .eq a b = if PV.data DD a && PV.data DD b then .ok (.bl (PV.eqv a b), false) else .bad := by cases a <;> rfl
@[simp] theorem cm_ne : cmpV .ne a b = if PV.data DD a && PV.data DD b then .ok (.bl (!PV.eqv a b), false) else .bad := by cases a <;> rfl
@[simp] theorem cm_inl : cmpV .in a (.lst x) = if PV.data DD a && PV.datas DD x then .ok (.bl (x.any fun z => PV.eqv z a), false) else .bad := by cases a <;> rfl
@[simp] theorem cm_int : cmpV .in a (.tup x) = if PV.data DD a && PV.datas DD x then .ok (.bl (x.any fun z => PV.eqv z a), false) else .bad := by cases a <;> rfl
@[simp] theorem cm_ind (q : List PV) : cmpV .in (.tup q) (.dic x y) = if (ints? q).isSome = true then .ok (.bl (x.any fun z => PV.eqv z (.tup q)), false) else .bad := rfl
@[simp] theorem cm_nil : cmpV .notin a (.lst x) = if PV.data DD a && PV.datas DD x then .ok (.bl (!x.any fun z => PV.eqv z a), false) else .bad := by cases a <;> rfl
@[simp] theorem cm_nit : cmpV .notin a (.tup x) = if PV.data DD a && PV.datas DD x then .ok (.bl (!x.any fun z => PV.eqv z a), false) else .bad := by cases a <;> rfl
@[simp] theorem cm_nid (q : List PV) : cmpV .notin (.tup q) (.dic x y) = if (ints? q).isSome = true then .ok (.bl (!x.any fun z => PV.eqv z (.tup q)), false) else .bad := rfl
@[simp] theorem cm_ins (c : Nat) : cmpV .in (.str [c]) (.str s) = .ok (.bl (decide (c ∈ s)), false) := rfl
@[simp] theorem cm_nis (c : Nat) : cmpV .notin (.str [c]) (.str s) = .ok (.bl (!decide (c ∈ s)), false) := rfl
@[simp] theorem bi_lent : biV .len [.tup x] = .ok (.int x.length, false) := rfl
@[simp] theorem bi_lenl : biV .len [.lst x] = .ok (.int x.length, false) := rfl
@[simp] theorem bi_lens : biV .len [.str s] = if s.length ≤ szl then .ok (.int s.length, false) else .bad := rfl
@[simp] theorem bi_abs : biV .abs [.int i] = .ok (.int (if i < 0 then -i else i), false) := rfl
@[simp] theorem bi_int : biV .int [.int i] = .ok (.int i, false) := rfl
@[simp] theorem bi_tupt : biV .tuple [.tup x] = .ok (.tup x, false) := rfl
@[simp] theorem bi_tupl : biV .tuple [.lst x] = .ok (.tup x, false) := rfl
@[simp] theorem bi_tupr : biV .tuple [.rng i j] = if inR i ∧ inR j ∧ (j - i).toNat ≤ szl then .ok (.tup (rngL i j), false) else .bad := rfl
@[simp] theorem bi_listt : biV .list [.tup x] = .ok (.lst x, true) := rfl
@[simp] theorem bi_listl : biV .list [.lst x] = .ok (.lst x, true) := rfl
@[simp] theorem bi_listr : biV .list [.rng i j] = if inR i ∧ inR j ∧ (j - i).toNat ≤ szl then .ok (.lst (rngL i j), true) else .bad := rfl
@[simp] theorem bi_sortt : biV .sorted [.tup x] = if sortable x then .ok (.lst (sortP x), true) else .bad := rfl
@[simp] theorem bi_sortl : biV .sorted [.lst x] = if decide (x.length ≤ 1) || sortable x then .ok (.lst (sortP x), true) else .bad := rfl
@[simp] theorem bi_suml (ns : List Int) : biV .sum [.lst (ns.map .int)] = .ok (.int (sumI 0 ns), false) := by
  have : ints? (ns.map .int) = some ns := by induction ns with | nil => rfl | cons n ns ih => simp [ints?, ih]
  simp [biV, this]
theorem ints_map (ns : List Int) : ints? (ns.map .int) = some ns := by induction ns with | nil => rfl | cons n ns ih => simp [ints?, ih]
@[simp] theorem bi_sumt (ns : List Int) : biV .sum [.tup (ns.map .int)] = .ok (.int (sumI 0 ns), false) := by simp [biV, ints_map]
@[simp] theorem bi_max2 : biV .max2 [.int i, .int j] = .ok (.int (if j > i then j else i), false) := rfl
@[simp] theorem bi_min2 : biV .min2 [.int i, .int j] = .ok (.int (if j < i then j else i), false) := rfl
theorem bools_map (ns : List Bool) : bools? (ns.map .bl) = some ns := by induction ns with | nil => rfl | cons n ns ih => simp [bools?, ih]
@[simp] theorem bi_all (ns : List Bool) : biV .all [.lst (ns.map .bl)] = .ok (.bl (ns.all id), false) := by simp [biV, bools_map]
@[simp] theorem bi_any (ns : List Bool) : biV .any [.lst (ns.map .bl)] = .ok (.bl (ns.any id), false) := by simp [biV, bools_map]
@[simp] theorem bi_isi (ts : List Ty) : biV (.isi ts) [v] = if v.typed then .ok (.bl (ts.any fun t => tyIs t v), false) else .bad := by cases v <;> rfl
@[simp] theorem bi_rng1 : biV .range1 [.int j] = .ok (.rng 0 j, false) := rfl
@[simp] theorem bi_rng2 : biV .range2 [.int i, .int j] = .ok (.rng i j, false) := rfl
@[simp] theorem ty_non : PV.typed .non = true := rfl
@[simp] theorem ty_bl (c : Bool) : PV.typed (.bl c) = true := rfl
@[simp] theorem ty_int : PV.typed (.int i) = true := rfl
@[simp] theorem ty_str : PV.typed (.str s) = true := rfl
@[simp] theorem ty_tup : PV.typed (.tup x) = true := rfl
@[simp] theorem ty_lst : PV.typed (.lst x) = true := rfl
@[simp] theorem tyi1 : tyIs .int (.int i) = true := rfl
@[simp] theorem tyi2 (c : Bool) : tyIs .int (.bl c) = true := rfl
@[simp] theorem tyi3 : tyIs .int (.tup x) = false := rfl
@[simp] theorem tyi4 : tyIs .int (.lst x) = false := rfl
@[simp] theorem tyi5 : tyIs .int (.str s) = false := rfl
@[simp] theorem tyi6 : tyIs .int .non = false := rfl
@[simp] theorem tyb1 : tyIs .bool (.int i) = false := rfl
@[simp] theorem tyb2 (c : Bool) : tyIs .bool (.bl c) = true := rfl
@[simp] theorem tyb3 : tyIs .bool (.tup x) = false := rfl
@[simp] theorem tyb4 : tyIs .bool (.lst x) = false := rfl
@[simp] theorem tyb5 : tyIs .bool (.str s) = false := rfl
@[simp] theorem tyb6 : tyIs .bool .non = false := rfl
@[simp] theorem tys1 : tyIs .str (.int i) = false := rfl
@[simp] theorem tys2 (c : Bool) : tyIs .str (.bl c) = false := rfl
@[simp] theorem tys3 : tyIs .str (.tup x) = false := rfl
@[simp] theorem tys4 : tyIs .str (.lst x) = false := rfl
@[simp] theorem tys5 : tyIs .str (.str s) = true := rfl
@[simp] theorem tys6 : tyIs .str .non = false := rfl
@[simp] theorem tyt1 : tyIs .tup (.int i) = false := rfl
@[simp] theorem tyt2 (c : Bool) : tyIs .tup (.bl c) = false := rfl
@[simp] theorem tyt3 : tyIs .tup (.tup x) = true := rfl
@[simp] theorem tyt4 : tyIs .tup (.lst x) = false := rfl
@[simp] theorem tyt5 : tyIs .tup (.str s) = false := rfl
@[simp] theorem tyt6 : tyIs .tup .non = false := rfl
@[simp] theorem tyl1 : tyIs .lst (.int i) = false := rfl
@[simp] theorem tyl2 (c : Bool) : tyIs .lst (.bl c) = false := rfl
@[simp] theorem tyl3 : tyIs .lst (.tup x) = false := rfl
@[simp] theorem tyl4 : tyIs .lst (.lst x) = true := rfl
@[simp] theorem tyl5 : tyIs .lst (.str s) = false := rfl
@[simp] theorem tyl6 : tyIs .lst .non = false := rfl
@[simp] theorem su_tup : subV (.tup x) (.int i) = match pix x i with | some v => .ok v | none => .bad := rfl
@[simp] theorem su_lst : subV (.lst x) (.int i) = match pix x i with | some v => .ok v | none => .bad := rfl
@[simp] theorem su_str : subV (.str s) (.int i) = if s.length ≤ szl then (match pix s i with | some c => .ok (.str [c]) | none => .bad) else .bad := rfl
@[simp] theorem sl_tup : slcV (.tup x) lo hi = .ok (.tup (slcL x lo hi), false) := rfl
@[simp] theorem sl_lst : slcV (.lst x) lo hi = .ok (.lst (slcL x lo hi), true) := rfl
@[simp] theorem sl_str : slcV (.str s) lo hi = if s.length ≤ szl then .ok (.str (slcL s lo hi), false) else .bad := rfl
@[simp] theorem rv_tup : revV (.tup x) = .ok (.tup x.reverse, false) := rfl
@[simp] theorem rv_lst : revV (.lst x) = .ok (.lst x.reverse, true) := rfl
@[simp] theorem revV_str (s : List Nat) : revV (.str s) = if s.length ≤ szl then .ok (.str s.reverse, false) else .bad := rfl
@[simp] theorem it_tup : itemsOf .seq [.tup x] = .ok x := rfl
@[simp] theorem it_lst : itemsOf .seq [.lst x] = .ok x := rfl
@[simp] theorem it_str : itemsOf .seq [.str s] = .ok (s.map fun c => .str [c]) := rfl
@[simp] theorem it_rng1 : itemsOf .rng1 [.int j] = if inR j then .ok (rngL 0 j) else .bad := rfl
@[simp] theorem it_rng2 : itemsOf .rng2 [.int i, .int j] = if inR i ∧ inR j then .ok (rngL i j) else .bad := rfl
@[simp] theorem it_enumt : itemsOf .enum [.tup x] = .ok (x.zipIdx.map fun p => .tup [.int (p.2 : Nat), p.1]) := rfl
@[simp] theorem it_enuml : itemsOf .enum [.lst x] = .ok (x.zipIdx.map fun p => .tup [.int (p.2 : Nat), p.1]) := rfl
@[simp] theorem it_ziptt : itemsOf .zip [.tup x, .tup y] = .ok ((x.zip y).map fun p => .tup [p.1, p.2]) := rfl
@[simp] theorem it_zipll : itemsOf .zip [.lst x, .lst y] = .ok ((x.zip y).map fun p => .tup [p.1, p.2]) := rfl
@[simp] theorem mu_app : muV .append (.lst x) [v] = if x.length < szl then .ok (.non, .lst (x ++ [v])) else .bad := rfl
@[simp] theorem mu_ext : muV .extend (.lst x) [.lst y] = if x.length + y.length ≤ szl then .ok (.non, .lst (x ++ y)) else .bad := rfl
@[simp] theorem mu_pop : muV .pop (.lst x) [] = match x.getLast? with | some v => .ok (v, .lst x.dropLast) | none => .bad := rfl
@[simp] theorem mu_popAt : muV .popAt (.lst x) [.int i] = match pixN x.length i with
    | some k => (match x[k]? with | some v => .ok (v, .lst (x.eraseIdx k)) | none => .bad)
    | none => .bad := rfl
@[simp] theorem set_lst : setV (.lst x) (.int i) v = match pixN x.length i with | some k => .ok (.lst (x.set k v)) | none => .bad := rfl
@[simp] theorem datas_int (d : Nat) (ns : List Int) : PV.datas d (ns.map PV.int) = true := by induction ns with | nil => rfl | cons n ns ih => simp [ih]
@[simp] theorem eqvs_int (xs ys : List Int) : PV.eqvs (xs.map PV.int) (ys.map PV.int) = decide (xs = ys) := by
  induction xs generalizing ys with
  | nil => cases ys <;> simp
  | cons x xs ih => cases ys with
    | nil => simp
    | cons y ys => simp [ih, Bool.beq_eq_decide_eq]
end
end EV
set_option autoImplicit false
set_option linter.all false
/-! Rules for reading runs of the evaluator. -/
namespace EV.R
/-! ### congruences: nothing is rewritten under a binder that waits -/
theorem forL_congr {f : PV → Env → Res Fl} {xs ys : List PV} {ρ ρ' : Env} (h : xs = ys) (h2 : ρ = ρ') : forL f xs ρ = forL f ys ρ' := by rw [h, h2]
theorem whL_congr {c : Env → Res (Bool × Env)} {f : Env → Res Fl} {n m : Nat} {ρ ρ' : Env} (h2 : ρ = ρ') : whL c f n ρ = whL c f n ρ' := by rw [h2]
theorem lcLoop_congr {own : List Nat} {f : PV → Env → Res (Option PV × Env)} {xs ys : List PV} {ρ ρ' : Env} (h : xs = ys) (h2 : ρ = ρ') : lcLoop own f xs ρ = lcLoop own f ys ρ' := by rw [h, h2]
/-! ### bounds, as marks -/
noncomputable def lenOkP : {f : Nat → Bool // ∀ (n : Nat), f n = decide (n ≤ szl)} := Classical.choice ⟨⟨fun (n : Nat) => decide (n ≤ szl), fun _ => rfl⟩⟩
noncomputable def lenOk (n : Nat) : Bool := lenOkP.1 n
theorem lenOk_eq (n : Nat) : lenOk n = decide (n ≤ szl) := lenOkP.2 n
theorem lenOk_of {n : Nat} (h : n ≤ 16777216) : lenOk n = true := by rw [lenOk_eq]; exact decide_eq_true h
theorem lenOk_iff {n : Nat} : (lenOk n = true) = (n ≤ szl) := by rw [lenOk_eq, decide_eq_true_eq]
noncomputable def rng1OkP : {f : Int → Bool // ∀ (j : Int), f j = decide (inR j)} := Classical.choice ⟨⟨fun (j : Int) => decide (inR j), fun _ => rfl⟩⟩
noncomputable def rng1Ok (j : Int) : Bool := rng1OkP.1 j
theorem rng1Ok_eq (j : Int) : rng1Ok j = decide (inR j) := rng1OkP.2 j
theorem rng1Ok_of {j : Int} (h : -(2 ^ 62) ≤ j) (h2 : j < 2 ^ 62) : rng1Ok j = true := by rw [rng1Ok_eq]; exact decide_eq_true ⟨h, h2⟩
noncomputable def rng2OkP : {f : Int → Int → Bool // ∀ (i j : Int), f i j = decide (inR i ∧ inR j)} := Classical.choice ⟨⟨fun (i j : Int) => decide (inR i ∧ inR j), fun _ _ => rfl⟩⟩
noncomputable def rng2Ok (i j : Int) : Bool := rng2OkP.1 i j
theorem rng2Ok_eq (i j : Int) : rng2Ok i j = decide (inR i ∧ inR j) := rng2OkP.2 i j
theorem rng2Ok_of {i j : Int} (h : -(2 ^ 62) ≤ i) (h2 : i < 2 ^ 62) (h3 : -(2 ^ 62) ≤ j) (h4 : j < 2 ^ 62) : rng2Ok i j = true := by rw [rng2Ok_eq]; exact decide_eq_true ⟨⟨h, h2⟩, h3, h4⟩
noncomputable def rngOkP : {f : Int → Int → Bool // ∀ (i j : Int), f i j = decide (inR i ∧ inR j ∧ (j - i).toNat ≤ szl)} := Classical.choice ⟨⟨fun (i j : Int) => decide (inR i ∧ inR j ∧ (j - i).toNat ≤ szl), fun _ _ => rfl⟩⟩
noncomputable def rngOk (i j : Int) : Bool := rngOkP.1 i j
theorem rngOk_eq (i j : Int) : rngOk i j = decide (inR i ∧ inR j ∧ (j - i).toNat ≤ szl) := rngOkP.2 i j
theorem rngOk_of {i j : Int} (h : -(2 ^ 62) ≤ i) (h2 : i < 2 ^ 62) (h3 : -(2 ^ 62) ≤ j) (h4 : j < 2 ^ 62) (h5 : (j - i).toNat ≤ 16777216) : rngOk i j = true := by rw [rngOk_eq]; exact decide_eq_true ⟨⟨h, h2⟩, ⟨h3, h4⟩, h5⟩
noncomputable def fdOkP : {f : Int → Bool // ∀ (j : Int), f j = decide (0 < j ∧ j.natAbs.log2 < 9000)} := Classical.choice ⟨⟨fun (j : Int) => decide (0 < j ∧ j.natAbs.log2 < 9000), fun _ => rfl⟩⟩
noncomputable def fdOk (j : Int) : Bool := fdOkP.1 j
theorem fdOk_eq (j : Int) : fdOk j = decide (0 < j ∧ j.natAbs.log2 < 9000) := fdOkP.2 j
theorem fdOk_of {j : Int} (h : 0 < j) (h2 : j < 2 ^ 64) : fdOk j = true := by
  rw [fdOk_eq]
  refine decide_eq_true ⟨h, ?_⟩
  have : j.natAbs.log2 < 64 := (Nat.log2_lt (by omega)).mpr (by omega)
  omega
noncomputable def repOkP : {f : Nat → Int → Bool // ∀ (n : Nat) (k : Int), f n k = decide (-(2 ^ 63) ≤ k ∧ k < 2 ^ 63 ∧ n * k.toNat ≤ szl)} := Classical.choice ⟨⟨fun (n : Nat) (k : Int) => decide (-(2 ^ 63) ≤ k ∧ k < 2 ^ 63 ∧ n * k.toNat ≤ szl), fun _ _ => rfl⟩⟩
noncomputable def repOk (n : Nat) (k : Int) : Bool := repOkP.1 n k
theorem repOk_eq (n : Nat) (k : Int) : repOk n k = decide (-(2 ^ 63) ≤ k ∧ k < 2 ^ 63 ∧ n * k.toNat ≤ szl) := repOkP.2 n k
theorem repOk_of {n : Nat} {k : Int} (h : -(2 ^ 63) ≤ k) (h2 : k < 2 ^ 63) (h3 : n * k.toNat ≤ 16777216) : repOk n k = true := by rw [repOk_eq]; exact decide_eq_true ⟨h, h2, h3⟩
theorem lenOk_0 : lenOk 0 = true := lenOk_of (by decide)
theorem lenOk_1 : lenOk 1 = true := lenOk_of (by decide)
theorem lenOk_2 : lenOk 2 = true := lenOk_of (by decide)
theorem lenOk_3 : lenOk 3 = true := lenOk_of (by decide)
theorem lenOk_4 : lenOk 4 = true := lenOk_of (by decide)
theorem lenOk_5 : lenOk 5 = true := lenOk_of (by decide)
theorem lenOk_6 : lenOk 6 = true := lenOk_of (by decide)
theorem lenOk_7 : lenOk 7 = true := lenOk_of (by decide)
theorem lenOk_8 : lenOk 8 = true := lenOk_of (by decide)
theorem lenOk_9 : lenOk 9 = true := lenOk_of (by decide)
theorem lenOk_10 : lenOk 10 = true := lenOk_of (by decide)
theorem lenOk_11 : lenOk 11 = true := lenOk_of (by decide)
theorem lenOk_12 : lenOk 12 = true := lenOk_of (by decide)
theorem lenOk_13 : lenOk 13 = true := lenOk_of (by decide)
theorem lenOk_14 : lenOk 14 = true := lenOk_of (by decide)
theorem lenOk_15 : lenOk 15 = true := lenOk_of (by decide)
theorem lenOk_16 : lenOk 16 = true := lenOk_of (by decide)
section
variable (i j k : Int) (x y : List PV) (s t : List Nat) (v : PV)
theorem r_add_s : binV .add (.str s) (.str t) = if lenOk (s.length + t.length) = true then .ok (.str (s ++ t), false) else .bad := by simp only [lenOk_iff]; rfl
theorem r_add_t : binV .add (.tup x) (.tup y) = if lenOk (x.length + y.length) = true then .ok (.tup (x ++ y), false) else .bad := by simp only [lenOk_iff]; rfl
theorem r_add_l : binV .add (.lst x) (.lst y) = if lenOk (x.length + y.length) = true then .ok (.lst (x ++ y), true) else .bad := by simp only [lenOk_iff]; rfl
theorem r_mul_l : binV .mul (.lst x) (.int k) = if repOk x.length k = true then .ok (.lst (repL x k), true) else .bad := by simp only [repOk_eq, decide_eq_true_eq]; rfl
theorem r_mul_t : binV .mul (.tup x) (.int k) = if (decide (-1000 ≤ k) && (decide (k ≤ 1000) && decide (x.length ≤ 1000))) = true then .ok (.tup (repL x k), false) else .bad := by
  simp only [Bool.and_eq_true, decide_eq_true_eq]; rfl
theorem r_lens_t (ns : List Int) : biV .lens [.tup (ns.map .int)] = if decide (ns.length ≤ 1000) = true then .ok (.int (ddI ns).length, false) else .bad := by
  show (match ints? (ns.map PV.int) with | some ns => if ns.length ≤ 1000 then Res.ok (PV.int (ddI ns).length, false) else .bad | none => .bad) = _
  rw [ints_map]; simp only [decide_eq_true_eq]
theorem r_lens_l (ns : List Int) : biV .lens [.lst (ns.map .int)] = if decide (ns.length ≤ 1000) = true then .ok (.int (ddI ns).length, false) else .bad := by
  show (match ints? (ns.map PV.int) with | some ns => if ns.length ≤ 1000 then Res.ok (PV.int (ddI ns).length, false) else .bad | none => .bad) = _
  rw [ints_map]; simp only [decide_eq_true_eq]
theorem r_fdiv : binV .fdiv (.int i) (.int j) = if fdOk j = true then .ok (.int (i / j), false) else .bad := by simp only [fdOk_eq, decide_eq_true_eq]; rfl
theorem r_len_s : biV .len [.str s] = if lenOk s.length = true then .ok (.int s.length, false) else .bad := by simp only [lenOk_iff]; rfl
theorem r_tup_r : biV .tuple [.rng i j] = if rngOk i j = true then .ok (.tup (rngL i j), false) else .bad := by simp only [rngOk_eq, decide_eq_true_eq]; rfl
theorem r_list_r : biV .list [.rng i j] = if rngOk i j = true then .ok (.lst (rngL i j), true) else .bad := by simp only [rngOk_eq, decide_eq_true_eq]; rfl
theorem r_rng1 : itemsOf .rng1 [.int j] = if rng1Ok j = true then .ok (rngL 0 j) else .bad := by simp only [rng1Ok_eq, decide_eq_true_eq]; rfl
theorem r_rng2 : itemsOf .rng2 [.int i, .int j] = if rng2Ok i j = true then .ok (rngL i j) else .bad := by simp only [rng2Ok_eq, decide_eq_true_eq]; rfl
theorem r_rng3 : itemsOf .rng3 [.int i, .int j, .int (-1)] = if rng2Ok i j = true then .ok (dnL i j) else .bad := by
  simp only [rng2Ok_eq, decide_eq_true_eq]
  show (if (-1 : Int) = -1 ∧ inR i ∧ inR j then Res.ok (dnL i j) else .bad) = _
  simp only [true_and]
theorem r_trg3 : biV .trg3 [.int i, .int j, .int (-1)] = if (rng2Ok i j && decide ((i - j).toNat ≤ 1000)) = true then .ok (.tup (dnL i j), false) else .bad := by
  simp only [rng2Ok_eq, Bool.and_eq_true, decide_eq_true_eq]
  show (if (-1 : Int) = -1 ∧ inR i ∧ inR j ∧ (i - j).toNat ≤ 1000 then Res.ok (PV.tup (dnL i j), false) else .bad) = _
  simp only [true_and, and_assoc]
theorem r_app : muV .append (.lst x) [v] = if lenOk (x.length + 1) = true then .ok (.non, .lst (x ++ [v])) else .bad := by simp only [lenOk_iff]; rfl
theorem r_ext : muV .extend (.lst x) [.lst y] = if lenOk (x.length + y.length) = true then .ok (.non, .lst (x ++ y)) else .bad := by simp only [lenOk_iff]; rfl
theorem r_sub_s : subV (.str s) (.int i) = if lenOk s.length = true then (match pix s i with | some c => .ok (.str [c]) | none => .bad) else .bad := by simp only [lenOk_iff]; rfl
theorem r_rev_s : revV (.str s) = if lenOk s.length = true then .ok (.str s.reverse, false) else .bad := by simp only [lenOk_iff]; rfl
theorem r_slc_s (lo hi : Option Int) : slcV (.str s) lo hi = if lenOk s.length = true then .ok (.str (slcL s lo hi), false) else .bad := by simp only [lenOk_iff]; rfl
end
/-! ### operands -/
section
variable (run : Env → VR) (ρ : Env)
theorem o_v (i : Nat) : opd (.v i) run ρ = match ρ[i]? with
    | some (.s _) => .ok (.sl i, ρ)
    | some (.o _) => .ok (.sl i, ρ)
    | some (.b _) => .ok (.sl i, ρ)
    | _ => .bad := by first | (simp only [opd]; done) | (simp only [opd]; rfl)
theorem o_c (v : PV) : opd (.c v) run ρ = (run ρ).bind fun r => .ok (.val r.1.1, r.2) := by simp only [opd]
theorem o_mv (i : Nat) : opd (.mv i) run ρ = (run ρ).bind fun r => .ok (.val r.1.1, r.2) := by simp only [opd]
theorem o_and (a b : E) : opd (.and a b) run ρ = (run ρ).bind fun r => .ok (.val r.1.1, r.2) := by simp only [opd]
theorem o_or (a b : E) : opd (.or a b) run ρ = (run ρ).bind fun r => .ok (.val r.1.1, r.2) := by simp only [opd]
theorem o_not (a : E) : opd (.not a) run ρ = (run ρ).bind fun r => .ok (.val r.1.1, r.2) := by simp only [opd]
theorem o_un (o : Un) (a : E) : opd (.un o a) run ρ = (run ρ).bind fun r => .ok (.val r.1.1, r.2) := by simp only [opd]
theorem o_bin (o : Bin) (a b : E) : opd (.bin o a b) run ρ = (run ρ).bind fun r => .ok (.val r.1.1, r.2) := by simp only [opd]
theorem o_cmp (o : Cm) (a b : E) : opd (.cmp o a b) run ρ = (run ρ).bind fun r => .ok (.val r.1.1, r.2) := by simp only [opd]
theorem o_chain (o1 o2 : Cm) (a b c : E) : opd (.chain o1 o2 a b c) run ρ = (run ρ).bind fun r => .ok (.val r.1.1, r.2) := by simp only [opd]
theorem o_ite (t a b : E) : opd (.ite t a b) run ρ = (run ρ).bind fun r => .ok (.val r.1.1, r.2) := by simp only [opd]
theorem o_call (f : Nat) (es : List E) : opd (.call f es) run ρ = (run ρ).bind fun r => .ok (.val r.1.1, r.2) := by simp only [opd]
theorem o_callio (f i : Nat) (es : List E) : opd (.callio f i es) run ρ = (run ρ).bind fun r => .ok (.val r.1.1, r.2) := by simp only [opd]
theorem o_callv (i : Nat) (es : List E) : opd (.callv i es) run ρ = (run ρ).bind fun r => .ok (.val r.1.1, r.2) := by simp only [opd]
theorem o_bi (b : Bi) (es : List E) : opd (.bi b es) run ρ = (run ρ).bind fun r => .ok (.val r.1.1, r.2) := by simp only [opd]
theorem o_me (m : Me) (o : E) (es : List E) : opd (.me m o es) run ρ = (run ρ).bind fun r => .ok (.val r.1.1, r.2) := by simp only [opd]
theorem o_mu (m : Mu) (i : Nat) (es : List E) : opd (.mu m i es) run ρ = (run ρ).bind fun r => .ok (.val r.1.1, r.2) := by simp only [opd]
theorem o_sub (a i : E) : opd (.sub a i) run ρ = (run ρ).bind fun r => .ok (.val r.1.1, r.2) := by simp only [opd]
theorem o_slc (a : E) (lo hi : Option E) : opd (.slc a lo hi) run ρ = (run ρ).bind fun r => .ok (.val r.1.1, r.2) := by simp only [opd]
theorem o_rev (a : E) : opd (.rev a) run ρ = (run ρ).bind fun r => .ok (.val r.1.1, r.2) := by simp only [opd]
theorem o_tup (es : List E) : opd (.tup es) run ρ = (run ρ).bind fun r => .ok (.val r.1.1, r.2) := by simp only [opd]
theorem o_lst (es : List E) : opd (.lst es) run ρ = (run ρ).bind fun r => .ok (.val r.1.1, r.2) := by simp only [opd]
theorem o_dic1 (a : E) (v : PV) : opd (.dic1 a v) run ρ = (run ρ).bind fun r => .ok (.val r.1.1, r.2) := by simp only [opd]
theorem o_lcx (own : List Nat) (t : T) (k : IK) (src : List E) (elt : E) : opd (.lcx own t k src elt) run ρ = (run ρ).bind fun r => .ok (.val r.1.1, r.2) := by simp only [opd]
theorem o_lc (own : List Nat) (t : T) (k : IK) (src ifs : List E) (elt : E) : opd (.lc own t k src ifs elt) run ρ = (run ρ).bind fun r => .ok (.val r.1.1, r.2) := by simp only [opd]
end
theorem rd_val (v : PV) (ρ : Env) : rdO (.val v) ρ = .ok v := by simp only [rdO]
theorem rd_sl (i : Nat) (ρ : Env) : rdO (.sl i) ρ = match ρ[i]? with
    | some (.s v) => .ok v
    | some (.o v) => .ok v
    | some (.b v) => .ok v
    | _ => .bad := by first | (simp only [rdO]; done) | (simp only [rdO]; rfl)
theorem rds_nil (ρ : Env) : rdOs [] ρ = .ok [] := by simp only [rdOs]
theorem rds_cons (o : Opd) (os : List Opd) (ρ : Env) : rdOs (o :: os) ρ = (rdO o ρ).bind fun v => (rdOs os ρ).bind fun vs => .ok (v :: vs) := by simp only [rdOs]
theorem a_v (i : Nat) (v : PV) (ρ : Env) : asgT (.v i) v ρ = .ok (ρ.set i (.s v)) := by simp only [asgT]
theorem a_tup (ts : List T) (xs : List PV) (ρ : Env) : asgT (.tup ts) (.tup xs) ρ = asgTs ts xs ρ := by simp only [asgT]
theorem as_nil (ρ : Env) : asgTs [] [] ρ = .ok ρ := by simp only [asgTs]
theorem as_cons (t : T) (ts : List T) (x : PV) (xs : List PV) (ρ : Env) : asgTs (t :: ts) (x :: xs) ρ = (asgT t x ρ).bind fun ρ1 => asgTs ts xs ρ1 := by simp only [asgTs]
/-! ### equality and data, by constructors -/
section
variable (d : Nat) (x y : List PV) (s t : List Nat) (i j : Int) (a b : Bool) (u v : PV)
theorem q_nn : PV.eqv .non .non = true := by simp only [PV.eqv]
theorem q_bb : PV.eqv (.bl a) (.bl b) = (a == b) := by simp only [PV.eqv]
theorem q_bi : PV.eqv (.bl a) (.int j) = ((if a then 1 else 0) == j) := by simp only [PV.eqv]
theorem q_ib : PV.eqv (.int i) (.bl b) = (i == (if b then 1 else 0)) := by simp only [PV.eqv]
theorem q_ii : PV.eqv (.int i) (.int j) = decide (i = j) := by simp only [PV.eqv]; rfl
theorem q_ss : PV.eqv (.str s) (.str t) = decide (s = t) := by simp only [PV.eqv, Bool.beq_eq_decide_eq]
theorem q_ll : PV.eqv (.lst x) (.lst y) = PV.eqvs x y := by simp only [PV.eqv]
theorem q_tt : PV.eqv (.tup x) (.tup y) = PV.eqvs x y := by simp only [PV.eqv]
theorem q_nil : PV.eqvs [] [] = true := by simp only [PV.eqvs]
theorem q_cons : PV.eqvs (u :: x) (v :: y) = (PV.eqv u v && PV.eqvs x y) := by simp only [PV.eqvs]
theorem q_nc : PV.eqvs [] (v :: y) = false := by simp only [PV.eqvs]
theorem q_cn : PV.eqvs (v :: y) [] = false := by simp only [PV.eqvs]

theorem q_nb : PV.eqv .non (.bl b) = false := by simp only [PV.eqv]
theorem q_ni : PV.eqv .non (.int j) = false := by simp only [PV.eqv]
theorem q_ns : PV.eqv .non (.str t) = false := by simp only [PV.eqv]
theorem q_nt : PV.eqv .non (.tup y) = false := by simp only [PV.eqv]
theorem q_nl : PV.eqv .non (.lst y) = false := by simp only [PV.eqv]
theorem q_bn : PV.eqv (.bl a) .non = false := by simp only [PV.eqv]
theorem q_bs : PV.eqv (.bl a) (.str t) = false := by simp only [PV.eqv]
theorem q_bt : PV.eqv (.bl a) (.tup y) = false := by simp only [PV.eqv]
theorem q_bl : PV.eqv (.bl a) (.lst y) = false := by simp only [PV.eqv]
theorem q_in : PV.eqv (.int i) .non = false := by simp only [PV.eqv]
theorem q_is : PV.eqv (.int i) (.str t) = false := by simp only [PV.eqv]
theorem q_it : PV.eqv (.int i) (.tup y) = false := by simp only [PV.eqv]
theorem q_il : PV.eqv (.int i) (.lst y) = false := by simp only [PV.eqv]
theorem q_sn : PV.eqv (.str s) .non = false := by simp only [PV.eqv]
theorem q_sb : PV.eqv (.str s) (.bl b) = false := by simp only [PV.eqv]
theorem q_si : PV.eqv (.str s) (.int j) = false := by simp only [PV.eqv]
theorem q_st : PV.eqv (.str s) (.tup y) = false := by simp only [PV.eqv]
theorem q_sl : PV.eqv (.str s) (.lst y) = false := by simp only [PV.eqv]
theorem q_tn : PV.eqv (.tup x) .non = false := by simp only [PV.eqv]
theorem q_tb : PV.eqv (.tup x) (.bl b) = false := by simp only [PV.eqv]
theorem q_ti : PV.eqv (.tup x) (.int j) = false := by simp only [PV.eqv]
theorem q_ts : PV.eqv (.tup x) (.str t) = false := by simp only [PV.eqv]
theorem q_tl : PV.eqv (.tup x) (.lst y) = false := by simp only [PV.eqv]
theorem q_ln : PV.eqv (.lst x) .non = false := by simp only [PV.eqv]
theorem q_lb : PV.eqv (.lst x) (.bl b) = false := by simp only [PV.eqv]
theorem q_li : PV.eqv (.lst x) (.int j) = false := by simp only [PV.eqv]
theorem q_ls : PV.eqv (.lst x) (.str t) = false := by simp only [PV.eqv]
theorem q_lt : PV.eqv (.lst x) (.tup y) = false := by simp only [PV.eqv]
theorem da_n : PV.data d .non = true := by cases d <;> simp only [PV.data]
theorem da_b : PV.data d (.bl a) = true := by cases d <;> simp only [PV.data]
theorem da_i : PV.data d (.int i) = true := by cases d <;> simp only [PV.data]
theorem da_s : PV.data d (.str s) = true := by cases d <;> simp only [PV.data]
theorem da_t : PV.data (d + 1) (.tup x) = PV.datas d x := by simp only [PV.data]
theorem da_l : PV.data (d + 1) (.lst x) = PV.datas d x := by simp only [PV.data]
theorem ds_nil : PV.datas d [] = true := by simp only [PV.datas]
theorem ds_cons : PV.datas d (v :: x) = (PV.data d v && PV.datas d x) := by simp only [PV.datas]
theorem nn_n : PV.isNon .non = true := rfl
theorem nn_b : PV.isNon (.bl a) = false := rfl
theorem nn_i : PV.isNon (.int i) = false := rfl
theorem nn_s : PV.isNon (.str s) = false := rfl
theorem nn_t : PV.isNon (.tup x) = false := rfl
theorem nn_l : PV.isNon (.lst x) = false := rfl
end
/-! ### data of a depth, no list too long -/
def nice : Nat → PV → Prop
  | _, .non => True
  | _, .bl _ => True
  | _, .int _ => True
  | _, .str _ => True
  | n + 1, .tup xs => xs.length ≤ 1000000 ∧ ∀ x ∈ xs, nice n x
  | n + 1, .lst xs => xs.length ≤ 1000000 ∧ ∀ x ∈ xs, nice n x
  | _, _ => False
theorem datas_of {n : Nat} : ∀ {xs : List PV}, (∀ x ∈ xs, PV.data n x = true) → PV.datas n xs = true
  | [], _ => by rw [PV.datas]
  | x :: xs, h => by rw [PV.datas, h x (List.mem_cons_self ..), datas_of fun y hy => h y (List.mem_cons_of_mem _ hy)]; rfl
theorem datas_mem {d : Nat} : ∀ {xs : List PV} {x : PV}, PV.datas d xs = true → x ∈ xs → PV.data d x = true
  | y :: ys, x, h, hm => by
    rw [PV.datas, Bool.and_eq_true] at h
    rcases List.mem_cons.mp hm with rfl | hm
    · exact h.1
    · exact datas_mem h.2 hm
  | [], x, h, hm => by cases hm
theorem nice_up : ∀ {n m : Nat} {v : PV}, nice n v → n ≤ m → nice m v
  | 0, 0, v, h, _ => h
  | 0, m + 1, v, h, _ => by cases v <;> first | trivial | exact h.elim
  | n + 1, m + 1, v, h, hm => by
    cases v with
    | tup xs => exact ⟨h.1, fun x hx => nice_up (h.2 x hx) (by omega)⟩
    | lst xs => exact ⟨h.1, fun x hx => nice_up (h.2 x hx) (by omega)⟩
    | _ => first | trivial | exact h.elim
theorem nice_data : ∀ {n m : Nat} {v : PV}, nice n v → n ≤ m → PV.data m v = true
  | 0, m, v, h, _ => by cases v <;> first | (cases m <;> rfl) | exact h.elim
  | n + 1, m + 1, v, h, hm => by
    cases v with
    | tup xs => exact datas_of fun x hx => nice_data (h.2 x hx) (by omega)
    | lst xs => exact datas_of fun x hx => nice_data (h.2 x hx) (by omega)
    | _ => first | rfl | exact h.elim
theorem nice_typed {n : Nat} {v : PV} (h : nice n v) : v.typed = true := by cases n <;> cases v <;> first | rfl | exact h.elim
mutual
theorem eqv_refl : ∀ {n : Nat} {v : PV}, PV.data n v = true → PV.eqv v v = true
  | _, .non, _ => by simp only [PV.eqv]
  | _, .bl _, _ => by simp only [PV.eqv, beq_self_eq_true]
  | _, .int _, _ => by simp only [PV.eqv, beq_self_eq_true]
  | _, .str _, _ => by simp only [PV.eqv, beq_self_eq_true]
  | n + 1, .tup xs, h => by simp only [PV.eqv]; exact eqvs_refl (n := n) h
  | n + 1, .lst xs, h => by simp only [PV.eqv]; exact eqvs_refl (n := n) h
  | 0, .tup xs, h => by cases h
  | 0, .lst xs, h => by cases h
  | 0, .dic _ _, h => by cases h
  | 0, .set _, h => by cases h
  | 0, .fn _, h => by cases h
  | 0, .rng _ _, h => by cases h
  | 0, .scr _, h => by cases h
  | _ + 1, .dic _ _, h => by cases h
  | _ + 1, .set _, h => by cases h
  | _ + 1, .fn _, h => by cases h
  | _ + 1, .rng _ _, h => by cases h
  | _ + 1, .scr _, h => by cases h
theorem eqvs_refl : ∀ {n : Nat} {v : List PV}, PV.datas n v = true → PV.eqvs v v = true
  | _, [], _ => by simp only [PV.eqvs]
  | n, x :: xs, h => by
    rw [PV.datas, Bool.and_eq_true] at h
    rw [PV.eqvs, eqv_refl h.1, eqvs_refl h.2]; rfl
end
def isInt : PV → Bool
  | .int _ => true
  | _ => false
theorem isi_i (i : Int) : isInt (.int i) = true := rfl
theorem isi_n : isInt .non = false := rfl
theorem isi_b (b : Bool) : isInt (.bl b) = false := rfl
theorem isi_s (b : List Nat) : isInt (.str b) = false := rfl
theorem isi_t (b : List PV) : isInt (.tup b) = false := rfl
theorem isi_l (b : List PV) : isInt (.lst b) = false := rfl
/-! ### tests -/
def pvIf {α : Type} : PV → Res α → Res α → Res α
  | .bl true, x, _ => x
  | .bl false, _, y => y
  | _, _, _ => .bad
theorem pvIf_bl {α : Type} (b : Bool) (x y : Res α) : pvIf (.bl b) x y = if b = true then x else y := by cases b <;> rfl
theorem pvIf_t {α : Type} (x y : Res α) : pvIf (.bl true) x y = x := rfl
theorem pvIf_f {α : Type} (x y : Res α) : pvIf (.bl false) x y = y := rfl
theorem pvIf_congr {α : Type} {a b : PV} {x y : Res α} (h : a = b) : pvIf a x y = pvIf b x y := by rw [h]
section
variable (call : CallT) (ρ : Env)
theorem e_and (a b : E) : evE call (.and a b) ρ = (evE call a ρ).bind fun p => pvIf p.1.1 (evE call b p.2) (.ok ((.bl false, false), p.2)) := by
  simp only [evE]; congr 1; funext ⟨⟨z, o⟩, ρ'⟩; cases z <;> first | rfl | (rename_i b; cases b <;> rfl)
theorem e_or (a b : E) : evE call (.or a b) ρ = (evE call a ρ).bind fun p => pvIf p.1.1 (.ok ((.bl true, false), p.2)) (evE call b p.2) := by
  simp only [evE]; congr 1; funext ⟨⟨z, o⟩, ρ'⟩; cases z <;> first | rfl | (rename_i b; cases b <;> rfl)
theorem e_ite (t a b : E) : evE call (.ite t a b) ρ = (evE call t ρ).bind fun p => pvIf p.1.1 (evE call a p.2) (evE call b p.2) := by
  simp only [evE]; congr 1; funext ⟨⟨z, o⟩, ρ'⟩; cases z <;> first | rfl | (rename_i b; cases b <;> rfl)
theorem e_chain (o1 o2 : Cm) (a b c : E) : evE call (.chain o1 o2 a b c) ρ = (evE call a ρ).bind fun p => (evE call b p.2).bind fun q => (cmpV o1 p.1.1 q.1.1).bind fun r =>
    pvIf r.1 ((evE call c q.2).bind fun q' => (cmpV o2 q.1.1 q'.1.1).bind fun r => .ok (r, q'.2)) (.ok ((.bl false, false), q.2)) := by
  simp only [evE]; congr 1; funext p; congr 1; funext q; congr 1; funext ⟨z, o⟩; cases z <;> first | rfl | (rename_i b; cases b <;> rfl)
theorem e_ifs (e : E) (es : List E) : evIfs call (e :: es) ρ = (evE call e ρ).bind fun r => pvIf r.1.1 (evIfs call es r.2) (.ok (false, r.2)) := by
  simp only [evIfs]; congr 1; funext ⟨⟨z, o⟩, ρ'⟩; cases z <;> first | rfl | (rename_i b; cases b <;> rfl)
/-! the others -/
theorem e_c (v : PV) : evE call (.c v) ρ = (.ok ((v, false), ρ)) := by
  first | (simp only [evE]; done) | (simp only [evE]; rfl)
theorem e_v (i : Nat) : evE call (.v i) ρ = (match ρ[i]? with
    | some (.s v) => .ok ((v, false), ρ)
    | some (.o v) => .ok ((v, false), ρ.set i (.s v))
    | _ => .bad) := by
  first | (simp only [evE]; done) | (simp only [evE]; rfl)
theorem e_mv (i : Nat) : evE call (.mv i) ρ = (match ρ[i]? with
    | some (.s v) => .ok ((v, false), ρ)
    | some (.o v) => .ok ((v, true), ρ.set i .n)
    | _ => .bad) := by
  first | (simp only [evE]; done) | (simp only [evE]; rfl)
theorem e_not (a : E) : evE call (.not a) ρ = ((evE call a ρ).bind fun p => match p.1.1 with
    | .bl b => .ok ((.bl (!b), false), p.2)
    | _ => .bad) := by
  first | (simp only [evE]; done) | (simp only [evE]; rfl)
theorem e_un (o : Un) (a : E) : evE call (.un o a) ρ = ((opd a (evE call a) ρ).bind fun p => (rdO p.1 p.2).bind fun x => (unV o x).bind fun r => .ok (r, p.2)) := by
  first | (simp only [evE]; done) | (simp only [evE]; rfl)
theorem e_bin (o : Bin) (a b : E) : evE call (.bin o a b) ρ = ((opd a (evE call a) ρ).bind fun p => (opd b (evE call b) p.2).bind fun q => (rdO p.1 q.2).bind fun x => (rdO q.1 q.2).bind fun y =>
      (binV o x y).bind fun r => .ok (r, q.2)) := by
  first | (simp only [evE]; done) | (simp only [evE]; rfl)
theorem e_cmp (o : Cm) (a b : E) : evE call (.cmp o a b) ρ = ((opd a (evE call a) ρ).bind fun p => (opd b (evE call b) p.2).bind fun q => (rdO p.1 q.2).bind fun x => (rdO q.1 q.2).bind fun y =>
      (cmpV o x y).bind fun r => .ok (r, q.2)) := by
  first | (simp only [evE]; done) | (simp only [evE]; rfl)
theorem e_call (f : Nat) (args : List E) : evE call (.call f args) ρ = ((evEs call args ρ).bind fun p => (call f false p.1).bind fun r => .ok (r.1, p.2)) := by
  first | (simp only [evE]; done) | (simp only [evE]; rfl)
theorem e_callio (f i : Nat) (args : List E) : evE call (.callio f i args) ρ = (match ρ[i]? with
    | some (.o _) => (evEs call args ρ).bind fun p => (match p.2[i]? with
      | some (.o v) => (call f true (v :: p.1)).bind fun r => .ok (r.1, p.2.set i (.o r.2))
      | _ => .bad)
    | _ => .bad) := by
  first | (simp only [evE]; done) | (simp only [evE]; rfl)
theorem e_callv (i : Nat) (args : List E) : evE call (.callv i args) ρ = (match ρ[i]? with
    | some (.s (.fn f)) => (evEs call args ρ).bind fun p => (call f false p.1).bind fun r => .ok (r.1, p.2)
    | _ => .bad) := by
  first | (simp only [evE]; done) | (simp only [evE]; rfl)
theorem e_bi (b : Bi) (args : List E) : evE call (.bi b args) ρ = ((evBs call args ρ).bind fun p => (rdOs p.1 p.2).bind fun xs => (biV b xs).bind fun r => .ok (r, p.2)) := by
  first | (simp only [evE]; done) | (simp only [evE]; rfl)
theorem e_me (m : Me) (o : E) (args : List E) : evE call (.me m o args) ρ = ((opd o (evE call o) ρ).bind fun p => (rdO p.1 p.2).bind fun x0 => if m.on x0.kd = true then (evBs call args p.2).bind fun q => (rdO p.1 q.2).bind fun x => (rdOs q.1 q.2).bind fun xs =>
      if x0.kd = x.kd then (meV m x xs).bind fun r => .ok (r, q.2) else .bad else .bad) := by
  first | (simp only [evE]; done) | (simp only [evE]; rfl)
theorem e_mu (m : Mu) (i : Nat) (args : List E) : evE call (.mu m i args) ρ = (match ρ[i]? with
    | some (.o (.lst _)) => (evEs call args ρ).bind fun p => (match p.2[i]? with
      | some (.o v) => (muV m v p.1).bind fun r => .ok ((r.1, false), p.2.set i (.o r.2))
      | _ => .bad)
    | _ => .bad) := by
  first | (simp only [evE]; done) | (simp only [evE]; rfl)
theorem e_sub (a i : E) : evE call (.sub a i) ρ = ((opd a (evE call a) ρ).bind fun p => (opd i (evE call i) p.2).bind fun q => (rdO p.1 q.2).bind fun x => (rdO q.1 q.2).bind fun y =>
      (subV x y).bind fun r => .ok ((r, false), q.2)) := by
  first | (simp only [evE]; done) | (simp only [evE]; rfl)
theorem e_slc (a : E) (lo hi : Option E) : evE call (.slc a lo hi) ρ = ((opd a (evE call a) ρ).bind fun p => (evO call lo p.2).bind fun q => (evO call hi q.2).bind fun q' => (rdO p.1 q'.2).bind fun x =>
      (slcV x q.1 q'.1).bind fun r => .ok (r, q'.2)) := by
  first | (simp only [evE]; done) | (simp only [evE]; rfl)
theorem e_rev (a : E) : evE call (.rev a) ρ = ((opd a (evE call a) ρ).bind fun p => (rdO p.1 p.2).bind fun x => (revV x).bind fun r => .ok (r, p.2)) := by
  first | (simp only [evE]; done) | (simp only [evE]; rfl)
theorem e_tup (es : List E) : evE call (.tup es) ρ = ((evEs call es ρ).bind fun p => if lenOk p.1.length = true then .ok ((.tup p.1, false), p.2) else .bad) := by
  simp only [evE, lenOk_iff]
theorem e_lst (es : List E) : evE call (.lst es) ρ = ((evEs call es ρ).bind fun p => if lenOk p.1.length = true then .ok ((.lst p.1, true), p.2) else .bad) := by
  simp only [evE, lenOk_iff]
theorem e_lc (own : List Nat) (t : T) (k : IK) (src ifs : List E) (elt : E) : evE call (.lc own t k src ifs elt) ρ = ((evBs call src ρ).bind fun p => (rdOs p.1 p.2).bind fun ss => (itemsOf k ss).bind fun xs =>
    if lenOk xs.length = true ∧ ownFree own p.2 = true then
      (lcLoop own (fun x ρ1 => (asgT t x ρ1).bind fun ρ2 => (evIfs call ifs ρ2).bind fun q =>
        if q.1 then (evE call elt q.2).bind fun r => .ok (some r.1.1, r.2) else .ok (none, q.2)) xs (wipeE own (lockE src p.2))).noexc.bind fun q =>
      .ok ((.lst q.1, true), unlockE p.2 src (restE p.2 own q.2))
    else .bad) := by
  simp only [evE, lenOk_iff]
/-- the walk, where the first turn may let an exception out -/
def lcX (own : List Nat) (f : PV → Env → Res (Option PV × Env)) (xs : List PV) (ρ : Env) : Res (List PV × Env) := match fstX f xs ρ with
  | some ca => .exc ca.1 ca.2
  | none => (lcLoop own f xs ρ).noexc
theorem lcX_ok {own : List Nat} {f : PV → Env → Res (Option PV × Env)} {xs : List PV} {ρ : Env} {r : List PV × Env} (h : lcLoop own f xs ρ = .ok r) : lcX own f xs ρ = .ok r := by
  unfold lcX
  cases xs with
  | nil => simp only [fstX, h, Res.noexc_ok]
  | cons x xs =>
    have h2 := h
    unfold lcLoop at h2
    cases hf : f x ρ with
    | ok z =>
      have e : fstX f (x :: xs) ρ = none := by simp only [fstX, hf]
      rw [e]
      simp only [h, Res.noexc_ok]
    | exc c a => rw [hf] at h2; cases h2
    | bad => rw [hf] at h2; cases h2
theorem lcX_exc {own : List Nat} {f : PV → Env → Res (Option PV × Env)} {x : PV} {xs : List PV} {ρ : Env} {c : Nat} {a : PV} (h : f x ρ = .exc c a) : lcX own f (x :: xs) ρ = .exc c a := by
  have e : fstX f (x :: xs) ρ = some (c, a) := by simp only [fstX, h]
  unfold lcX
  rw [e]
theorem e_lcx (own : List Nat) (t : T) (k : IK) (src : List E) (elt : E) : evE call (.lcx own t k src elt) ρ = ((evBs call src ρ).bind fun p => (rdOs p.1 p.2).bind fun ss => (itemsOf k ss).bind fun xs =>
    if lenOk xs.length = true ∧ ownFree own p.2 = true then
      (lcX own (fun x ρ1 => (asgT t x ρ1).bind fun ρ2 => (evE call elt ρ2).bind fun r => .ok (some r.1.1, r.2)) xs (wipeE own (lockE src p.2))).bind fun q =>
      .ok ((.lst q.1, true), unlockE p.2 src (restE p.2 own q.2))
    else .bad) := by
  simp only [evE, lcX]
  simp only [← lenOk_iff]
  congr 1
  funext p
  congr 1
  funext ss
  congr 1
  funext xs
  by_cases hc : lenOk xs.length = true ∧ ownFree own p.2 = true
  · rw [if_pos hc, if_pos hc]
    generalize fstX (fun x ρ1 => (asgT t x ρ1).bind fun ρ2 => (evE call elt ρ2).bind fun r => .ok (some r.1.1, r.2)) xs (wipeE own (lockE src p.2)) = q
    cases q <;> rfl
  · rw [if_neg hc, if_neg hc]
theorem e_dic1 (a : E) (v : PV) : evE call (.dic1 a v) ρ = ((evE call a ρ).bind fun p => match p.1.1 with
    | .tup xs => if (ints? xs).isSome = true then .ok ((.dic [.tup xs] [v], true), p.2) else .bad
    | _ => .bad) := by
  first
    | (simp only [evE]; done)
    | (simp only [evE]; rfl)
/-! others end -/
theorem e_ifs0 : evIfs call [] ρ = .ok (true, ρ) := rfl
end
/-- two ways that hand on a Boolean -/
theorem join_and {ρ : Env} {b c : Bool} : (if b = true then Res.ok ((PV.bl c, false), ρ) else .ok ((.bl false, false), ρ)) = .ok ((.bl (b && c), false), ρ) := by cases b <;> rfl
theorem join_or {ρ : Env} {b c : Bool} : (if b = true then Res.ok ((PV.bl true, false), ρ) else .ok ((.bl c, false), ρ)) = .ok ((.bl (b || c), false), ρ) := by cases b <;> rfl
theorem join_ifs {ρ : Env} {b c : Bool} : (if b = true then Res.ok (c, ρ) else .ok (false, ρ)) = .ok ((b && c), ρ) := by cases b <;> rfl
theorem join_opt {ρ : Env} {c : Bool} {a b : Option PV} : (if c = true then Res.ok (a, ρ) else .ok (b, ρ)) = .ok (if c = true then a else b, ρ) := by cases c <;> rfl
theorem ite_bind {α β : Type} {c : Prop} [Decidable c] {x y : Res α} {f : α → Res β} : Res.bind (if c then x else y) f = if c then Res.bind x f else Res.bind y f := by split <;> rfl
/-! ### calls -/
theorem call_eq {tab : Nat → Option FnD} {d f : Nat} {io : Bool} {fd : FnD} {vs : List PV} (h : tab f = some fd) (hl : (decide (vs.length = fd.np) && (!io || fd.io)) = true) :
    callF tab (d + 1) f io vs = (exSs (callF tab d) fd.body (startE io fd.ns vs)).bind (finF io) := by
  simp only [callF, h, hl, if_true]
theorem fin_rt {r : VO} {ρ : Env} : finF false (.rt r ρ) = .ok (r, .non) := rfl
theorem fin_nx {ρ : Env} : finF false (.nx ρ) = .ok ((.non, false), .non) := rfl
theorem ss_nil {call : CallT} {ρ : Env} : exSs call [] ρ = .ok (.nx ρ) := by simp only [exSs]
/-- what follows a statement -/
def Fl.seq (k : Env → Res Fl) : Fl → Res Fl
  | .nx ρ => k ρ
  | r => .ok r
theorem seq_nx {k : Env → Res Fl} {ρ : Env} : Fl.seq k (.nx ρ) = k ρ := rfl
theorem seq_bk {k : Env → Res Fl} {ρ : Env} : Fl.seq k (.bk ρ) = .ok (.bk ρ) := rfl
theorem seq_ct {k : Env → Res Fl} {ρ : Env} : Fl.seq k (.ct ρ) = .ok (.ct ρ) := rfl
theorem seq_rt {k : Env → Res Fl} {v : VO} {ρ : Env} : Fl.seq k (.rt v ρ) = .ok (.rt v ρ) := rfl
theorem ss_cons {call : CallT} {s : S} {ss : List S} {ρ : Env} : exSs call (s :: ss) ρ = (exS call s ρ).bind (Fl.seq (exSs call ss)) := by
  simp only [exSs]; congr 1
/-! ### slots of no list of their own -/
def notOwn : Slot → Bool
  | .o _ => false
  | .b _ => false
  | _ => true
theorem no_n : notOwn .n = true := rfl
theorem no_s (v : PV) : notOwn (.s v) = true := rfl
theorem ownFree_eq (own : List Nat) (ρ : Env) : ownFree own ρ = own.all fun i => ((ρ[i]?).map notOwn).getD true := by
  unfold ownFree
  congr 1
  funext i
  cases ρ[i]? with
  | none => rfl
  | some sl => cases sl <;> rfl
/-! ### loops -/
/-- a walk: I of what is left and the slots -/
theorem forL_rule {f : PV → Env → Res Fl} (I : List PV → Env → Prop) (Post : Res Fl → Prop)
    (hnil : ∀ ρ, I [] ρ → Post (.ok (.nx ρ)))
    (hcons : ∀ x r ρ, I (x :: r) ρ → (∃ ρ', (f x ρ = .ok (.nx ρ') ∨ f x ρ = .ok (.ct ρ')) ∧ I r ρ') ∨ (∃ ρ', f x ρ = .ok (.bk ρ') ∧ Post (.ok (.nx ρ'))) ∨ (∃ v ρ', f x ρ = .ok (.rt v ρ') ∧ Post (.ok (.rt v ρ'))) ∨ (∃ c a, f x ρ = .exc c a ∧ Post (.exc c a))) :
    ∀ (xs : List PV) (ρ : Env), I xs ρ → Post (forL f xs ρ)
  | [], ρ, h => hnil ρ h
  | x :: r, ρ, h => by
    simp only [forL]
    rcases hcons x r ρ h with ⟨ρ', h1, h2⟩ | ⟨ρ', h1, h2⟩ | ⟨v, ρ', h1, h2⟩ | ⟨c, a, h1, h2⟩
    · rcases h1 with h1 | h1 <;> (rw [h1]; exact forL_rule I Post hnil hcons r ρ' h2)
    · rw [h1]; exact h2
    · rw [h1]; exact h2
    · rw [h1]; exact h2
/-- a walk that only goes on: a state folded, the slots related to it -/
theorem forL_fold {σ : Type} {f : PV → Env → Res Fl} (R : σ → Env → Prop) (step : σ → PV → σ)
    : ∀ (xs : List PV) (s : σ) (ρ : Env), R s ρ → (∀ x ∈ xs, ∀ s ρ, R s ρ → ∃ ρ', (f x ρ = .ok (.nx ρ') ∨ f x ρ = .ok (.ct ρ')) ∧ R (step s x) ρ') → ∃ ρ', forL f xs ρ = .ok (.nx ρ') ∧ R (xs.foldl step s) ρ'
  | [], s, ρ, h, _ => ⟨ρ, rfl, h⟩
  | x :: r, s, ρ, h, hs => by
    obtain ⟨ρ', h1, h2⟩ := hs x (List.mem_cons_self ..) s ρ h
    obtain ⟨ρ2, h3, h4⟩ := forL_fold R step r _ ρ' h2 fun y hy => hs y (List.mem_cons_of_mem _ hy)
    refine ⟨ρ2, ?_, h4⟩
    simp only [forL]
    rcases h1 with h1 | h1 <;> (rw [h1]; exact h3)
theorem forL_then {σ β : Type} {f : PV → Env → Res Fl} {xs : List PV} {ρ : Env} {k : Fl → Res β} {y : Res β} (R : σ → Env → Prop) (step : σ → PV → σ) (s : σ) (h0 : R s ρ)
    (hs : ∀ x ∈ xs, ∀ s ρ, R s ρ → ∃ ρ', (f x ρ = .ok (.nx ρ') ∨ f x ρ = .ok (.ct ρ')) ∧ R (step s x) ρ') (hk : ∀ ρ', R (xs.foldl step s) ρ' → k (.nx ρ') = y) : (forL f xs ρ).bind k = y := by
  obtain ⟨ρ', h1, h2⟩ := forL_fold R step xs s ρ h0 hs
  rw [h1]
  exact hk ρ' h2
theorem foldl_map' {α β γ : Type} (f : α → β) (g : γ → β → γ) : ∀ (l : List α) (x : γ), (l.map f).foldl g x = l.foldl (fun a b => g a (f b)) x
  | [], _ => rfl
  | y :: l, x => foldl_map' f g l _
theorem forL_foldD {σ α : Type} {f : PV → Env → Res Fl} (v : α → PV) (R : σ → Env → Prop) (step : σ → α → σ)
    : ∀ (l : List α) (s : σ) (ρ : Env), R s ρ → (∀ x ∈ l, ∀ s ρ, R s ρ → ∃ ρ', (f (v x) ρ = .ok (.nx ρ') ∨ f (v x) ρ = .ok (.ct ρ')) ∧ R (step s x) ρ') → ∃ ρ', forL f (l.map v) ρ = .ok (.nx ρ') ∧ R (l.foldl step s) ρ'
  | [], s, ρ, h, _ => ⟨ρ, rfl, h⟩
  | x :: r, s, ρ, h, hs => by
    obtain ⟨ρ', h1, h2⟩ := hs x (List.mem_cons_self ..) s ρ h
    obtain ⟨ρ2, h3, h4⟩ := forL_foldD v R step r _ ρ' h2 fun y hy => hs y (List.mem_cons_of_mem _ hy)
    refine ⟨ρ2, ?_, h4⟩
    simp only [forL, List.map_cons]
    rcases h1 with h1 | h1 <;> (rw [h1]; exact h3)
theorem forL_thenD {σ α β : Type} {f : PV → Env → Res Fl} {l : List α} {ρ : Env} {k : Fl → Res β} {y : Res β} (v : α → PV) (R : σ → Env → Prop) (step : σ → α → σ) (s : σ) (h0 : R s ρ)
    (hs : ∀ x ∈ l, ∀ s ρ, R s ρ → ∃ ρ', (f (v x) ρ = .ok (.nx ρ') ∨ f (v x) ρ = .ok (.ct ρ')) ∧ R (step s x) ρ') (hk : ∀ ρ', R (l.foldl step s) ρ' → k (.nx ρ') = y) : (forL f (l.map v) ρ).bind k = y := by
  obtain ⟨ρ', h1, h2⟩ := forL_foldD v R step l s ρ h0 hs
  rw [h1]
  exact hk ρ' h2
/-- by an invariant of what is left: goes on, or ends as it shall -/
theorem forL_inv {α β : Type} {f : PV → Env → Res Fl} {k : Fl → Res β} {y : Res β} (v : α → PV) (I : List α → Env → Prop) (hnil : ∀ ρ, I [] ρ → k (.nx ρ) = y)
    (hcons : ∀ x r ρ, I (x :: r) ρ → (∃ ρ', (f (v x) ρ = .ok (.nx ρ') ∨ f (v x) ρ = .ok (.ct ρ')) ∧ I r ρ') ∨ ((f (v x) ρ).bind (fun r => match r with | .bk ρ' => k (.nx ρ') | .rt z ρ' => k (.rt z ρ') | _ => .bad) = y ∧ (∀ ρ', f (v x) ρ ≠ .ok (.nx ρ') ∧ f (v x) ρ ≠ .ok (.ct ρ')))) :
    ∀ (l : List α) (ρ : Env), I l ρ → (forL f (l.map v) ρ).bind k = y
  | [], ρ, h => hnil ρ h
  | x :: r, ρ, h => by
    simp only [forL, List.map_cons]
    rcases hcons x r ρ h with ⟨ρ', h1, h2⟩ | ⟨h1, h2⟩
    · rcases h1 with h1 | h1 <;> (rw [h1]; exact forL_inv v I hnil hcons r ρ' h2)
    · rw [Res.bind_assoc, ← h1]
      cases h3 : f (v x) ρ with
      | bad => rfl
      | exc c a => rfl
      | ok z =>
        cases z with
        | nx ρ' => exact absurd h3 (h2 ρ').1
        | ct ρ' => exact absurd h3 (h2 ρ').2
        | bk ρ' => rfl
        | rt w ρ' => rfl
theorem forL_run {α : Type} {f : PV → Env → Res Fl} (v : α → PV) (I : List α → Env → Prop) (hc : ∀ x r ρ, I (x :: r) ρ → ∃ ρ', (f (v x) ρ = .ok (.nx ρ') ∨ f (v x) ρ = .ok (.ct ρ')) ∧ I r ρ') :
    ∀ (l : List α) (ρ : Env), I l ρ → ∃ ρ', forL f (l.map v) ρ = .ok (.nx ρ') ∧ I [] ρ'
  | [], ρ, h => ⟨ρ, rfl, h⟩
  | x :: r, ρ, h => by
    obtain ⟨ρ', h1, h2⟩ := hc x r ρ h
    obtain ⟨ρ2, h3, h4⟩ := forL_run v I hc r ρ' h2
    refine ⟨ρ2, ?_, h4⟩
    simp only [forL, List.map_cons]
    rcases h1 with h1 | h1 <;> (rw [h1]; exact h3)
theorem forL_post {α β : Type} {f : PV → Env → Res Fl} {k : Fl → Res β} {l : List α} {ρ : Env} (Post : Res β → Prop) (v : α → PV) (I : List α → Env → Prop) (h0 : I l ρ)
    (hc : ∀ x r ρ, I (x :: r) ρ → ∃ ρ', (f (v x) ρ = .ok (.nx ρ') ∨ f (v x) ρ = .ok (.ct ρ')) ∧ I r ρ') (hn : ∀ ρ, I [] ρ → Post (k (.nx ρ))) : Post ((forL f (l.map v) ρ).bind k) := by
  obtain ⟨ρ', h1, h2⟩ := forL_run v I hc l ρ h0
  rw [h1]
  exact hn ρ' h2
/-- a walk that makes a list longer -/
theorem forL_grow0 {α : Type} {f : PV → Env → Res Fl} (v : α → PV) (G : α → List PV) (R : List PV → Env → Prop) (B : Nat)
    : ∀ (l : List α) (F : List PV) (ρ : Env), R F ρ → F.length + (l.flatMap G).length ≤ B → (∀ x ∈ l, ∀ F ρ, F.length + (G x).length ≤ B → R F ρ → ∃ ρ', (f (v x) ρ = .ok (.nx ρ') ∨ f (v x) ρ = .ok (.ct ρ')) ∧ R (F ++ G x) ρ') → ∃ ρ', forL f (l.map v) ρ = .ok (.nx ρ') ∧ R (F ++ l.flatMap G) ρ'
  | [], F, ρ, h, _, _ => ⟨ρ, rfl, by simpa using h⟩
  | x :: r, F, ρ, h, hb, hs => by
    rw [List.flatMap_cons, List.length_append] at hb
    obtain ⟨ρ', h1, h2⟩ := hs x (List.mem_cons_self ..) F ρ (by omega) h
    obtain ⟨ρ2, h3, h4⟩ := forL_grow0 v G R B r _ ρ' h2 (by rw [List.length_append]; omega) fun y hy => hs y (List.mem_cons_of_mem _ hy)
    refine ⟨ρ2, ?_, by rw [List.flatMap_cons, ← List.append_assoc]; exact h4⟩
    simp only [forL, List.map_cons]
    rcases h1 with h1 | h1 <;> (rw [h1]; exact h3)
theorem forL_grow {α β : Type} {f : PV → Env → Res Fl} {l : List α} {ρ : Env} {k : Fl → Res β} {y : Res β} (v : α → PV) (G : α → List PV) (R : List PV → Env → Prop) (B : Nat) (F : List PV) (h0 : R F ρ) (hb : F.length + (l.flatMap G).length ≤ B)
    (hs : ∀ x ∈ l, ∀ F ρ, F.length + (G x).length ≤ B → R F ρ → ∃ ρ', (f (v x) ρ = .ok (.nx ρ') ∨ f (v x) ρ = .ok (.ct ρ')) ∧ R (F ++ G x) ρ') (hk : ∀ ρ', R (F ++ l.flatMap G) ρ' → k (.nx ρ') = y) : (forL f (l.map v) ρ).bind k = y := by
  obtain ⟨ρ', h1, h2⟩ := forL_grow0 v G R B l F ρ h0 hb hs
  rw [h1]
  exact hk ρ' h2
theorem forL_growP {α β : Type} {f : PV → Env → Res Fl} {l : List α} {ρ : Env} {k : Fl → Res β} (Post : Res β → Prop) (v : α → PV) (G : α → List PV) (R : List PV → Env → Prop) (B : Nat) (F : List PV) (h0 : R F ρ) (hb : F.length + (l.flatMap G).length ≤ B)
    (hs : ∀ x ∈ l, ∀ F ρ, F.length + (G x).length ≤ B → R F ρ → ∃ ρ', (f (v x) ρ = .ok (.nx ρ') ∨ f (v x) ρ = .ok (.ct ρ')) ∧ R (F ++ G x) ρ') (hk : ∀ ρ', R (F ++ l.flatMap G) ρ' → Post (k (.nx ρ'))) : Post ((forL f (l.map v) ρ).bind k) := by
  obtain ⟨ρ', h1, h2⟩ := forL_grow0 v G R B l F ρ h0 hb hs
  rw [h1]
  exact hk ρ' h2
/-- a turn that goes on -/
def goesOn (R : Env → Prop) (z : Res Fl) : Prop := ∃ ρ', (z = .ok (.nx ρ') ∨ z = .ok (.ct ρ')) ∧ R ρ'
/-- a walk that ends at the first of a kind -/
theorem forL_find0 {f : PV → Env → Res Fl} (Post : Res Fl → Prop) (P : PV → Bool) (R : Env → Prop) :
    ∀ (l : List PV) (ρ : Env), R ρ → (∀ x ∈ l, ∀ ρ, R ρ → P x = false → ∃ ρ', (f x ρ = .ok (.nx ρ') ∨ f x ρ = .ok (.ct ρ')) ∧ R ρ') → (∀ x ∈ l, ∀ ρ, R ρ → P x = true → ∃ w ρ', f x ρ = .ok (.rt w ρ') ∧ Post (.ok (.rt w ρ'))) →
      ((∀ x ∈ l, P x = false) → ∀ ρ, R ρ → Post (.ok (.nx ρ))) → Post (forL f l ρ)
  | [], ρ, h0, _, _, hn => hn (fun x hx => by cases hx) ρ h0
  | x :: l, ρ, h0, hs, hr, hn => by
    simp only [forL]
    cases hp : P x with
    | true =>
      obtain ⟨w, ρ', h1, h2⟩ := hr x (List.mem_cons_self ..) ρ h0 hp
      rw [h1]; exact h2
    | false =>
      obtain ⟨ρ', h1, h2⟩ := hs x (List.mem_cons_self ..) ρ h0 hp
      have := forL_find0 Post P R l ρ' h2 (fun y hy => hs y (List.mem_cons_of_mem _ hy)) (fun y hy => hr y (List.mem_cons_of_mem _ hy)) (fun h => hn fun y hy => by
        rcases List.mem_cons.mp hy with rfl | hy
        · exact hp
        · exact h y hy)
      rcases h1 with h1 | h1 <;> (rw [h1]; exact this)
theorem forL_find {β : Type} {f : PV → Env → Res Fl} {k : Fl → Res β} {l : List PV} {ρ : Env} (Post : Res β → Prop) (P : PV → Bool) (R : Env → Prop) (h0 : R ρ) (hs : ∀ x ∈ l, ∀ ρ, R ρ → P x = false → ∃ ρ', (f x ρ = .ok (.nx ρ') ∨ f x ρ = .ok (.ct ρ')) ∧ R ρ') (hr : ∀ x ∈ l, ∀ ρ, R ρ → P x = true → ∃ w ρ', f x ρ = .ok (.rt w ρ') ∧ Post (k (.rt w ρ')))
    (hn : (∀ x ∈ l, P x = false) → ∀ ρ, R ρ → Post (k (.nx ρ))) : Post ((forL f l ρ).bind k) :=
  forL_find0 (fun z => Post (z.bind k)) P R l ρ h0 hs hr hn
theorem flatMap_if {α : Type} (P : α → Bool) (g : α → PV) : ∀ l : List α, (l.flatMap fun x => if P x = true then [g x] else []) = (l.filter P).map g
  | [] => rfl
  | x :: l => by
    rw [List.flatMap_cons, flatMap_if P g l]
    by_cases h : P x = true
    · rw [if_pos h, List.filter_cons_of_pos h]; rfl
    · rw [if_neg h, List.filter_cons_of_neg h]; rfl
/-- a walk that keeps some -/
theorem forL_filter {α β : Type} {f : PV → Env → Res Fl} {l : List α} {ρ : Env} {k : Fl → Res β} {y : Res β} (v : α → PV) (P : α → Bool) (g : α → PV) (R : List PV → Env → Prop) (h0 : R [] ρ)
    (hs : ∀ x ∈ l, ∀ F ρ, F.length ≤ l.length → R F ρ → ∃ ρ', (f (v x) ρ = .ok (.nx ρ') ∨ f (v x) ρ = .ok (.ct ρ')) ∧ R (F ++ if P x = true then [g x] else []) ρ') (hk : ∀ ρ', R ((l.filter P).map g) ρ' → k (.nx ρ') = y) : (forL f (l.map v) ρ).bind k = y :=
  forL_grow v (fun x => if P x = true then [g x] else []) R l.length [] h0 (by rw [flatMap_if]; simpa using List.length_filter_le P l) (fun x hx F ρ hF h => hs x hx F ρ (by omega) h) (fun ρ' h => hk ρ' (by rw [flatMap_if, List.nil_append] at h; exact h))
/-- enumerate -/
theorem enum_map {α : Type} (v : α → PV) (l : List α) : ((l.map v).zipIdx.map fun q => PV.tup [.int (q.2 : Nat), q.1]) = l.zipIdx.map fun q => PV.tup [.int (q.2 : Nat), v q.1] := by
  rw [List.zipIdx_map, List.map_map]
  rfl
theorem enum_rng {α β : Type} (f : α × Nat → β) (z : α) (l : List α) : l.zipIdx.map f = (List.range l.length).map fun k => f (l.getD k z, k) := by
  apply List.ext_getElem
  · simp
  · intro k h1 h2
    have hk : k < l.length := by simpa using h1
    simp [hk]
/-- a comprehension whose turns leave the slots as they are -/
theorem lc_map {own : List Nat} {f : PV → Env → Res (Option PV × Env)} {ρ : Env} (g : PV → Option PV) : ∀ (xs : List PV), (∀ x ∈ xs, ∃ ρ', f x ρ = .ok (g x, ρ') ∧ wipeE own ρ' = ρ) → ∃ ρ', lcLoop own f xs ρ = .ok (xs.filterMap g, ρ') ∧ ρ' = ρ
  | [], _ => ⟨ρ, rfl, rfl⟩
  | x :: xs, h => by
    obtain ⟨ρ1, h1, h2⟩ := h x (List.mem_cons_self ..)
    obtain ⟨ρ2, h3, h4⟩ := lc_map g xs fun y hy => h y (List.mem_cons_of_mem _ hy)
    refine ⟨ρ2, ?_, h4⟩
    simp only [lcLoop, h1, Res.bind_ok, h2, h3]
    congr 2
    rw [List.filterMap_cons]
    cases g x <;> rfl
theorem lc_eq {own : List Nat} {f : PV → Env → Res (Option PV × Env)} {ρ : Env} (g : PV → Option PV) {xs : List PV} (h : ∀ x ∈ xs, ∃ ρ', f x ρ = .ok (g x, ρ') ∧ wipeE own ρ' = ρ) : lcLoop own f xs ρ = .ok (xs.filterMap g, ρ) := by
  obtain ⟨ρ', h1, rfl⟩ := lc_map g xs h
  exact h1
/-- the same, the items and what is made of them by a list of data -/
theorem lc_mapD {α : Type} {own : List Nat} {f : PV → Env → Res (Option PV × Env)} {ρ : Env} (v : α → PV) (g : α → Option PV) : ∀ (xs : List α), (∀ x ∈ xs, ∃ ρ', f (v x) ρ = .ok (g x, ρ') ∧ wipeE own ρ' = ρ) → lcLoop own f (xs.map v) ρ = .ok (xs.filterMap g, ρ)
  | [], _ => rfl
  | x :: xs, h => by
    obtain ⟨ρ1, h1, h2⟩ := h x (List.mem_cons_self ..)
    have h3 := lc_mapD v g xs fun y hy => h y (List.mem_cons_of_mem _ hy)
    rw [List.map_cons]
    simp only [lcLoop, h1, Res.bind_ok, h2, h3]
    congr 2
    rw [List.filterMap_cons]
    cases g x <;> rfl
theorem lc_thenD {α β : Type} {own : List Nat} {f : PV → Env → Res (Option PV × Env)} {ρ : Env} {l : List α} {k : List PV × Env → Res β} {y : Res β} (v : α → PV) (g : α → Option PV)
    (h : ∀ x ∈ l, ∃ ρ', f (v x) ρ = .ok (g x, ρ') ∧ wipeE own ρ' = ρ) (hk : k (l.filterMap g, ρ) = y) : (lcLoop own f (l.map v) ρ).noexc.bind k = y := by
  rw [lc_mapD v g l h]
  exact hk
/-- each item gives one -/
theorem lc_elD {α β : Type} {own : List Nat} {f : PV → Env → Res (Option PV × Env)} {ρ : Env} {l : List α} {k : List PV × Env → Res β} {y : Res β} (v : α → PV) (g : α → PV)
    (h : ∀ x ∈ l, ∃ ρ', f (v x) ρ = .ok (some (g x), ρ') ∧ wipeE own ρ' = ρ) (hk : k (l.map g, ρ) = y) : (lcLoop own f (l.map v) ρ).noexc.bind k = y :=
  lc_thenD v (fun x => some (g x)) h (by rw [List.filterMap_eq_map']; exact hk)
/-- .. a Boolean -/
theorem lc_blD {α β : Type} {own : List Nat} {f : PV → Env → Res (Option PV × Env)} {ρ : Env} {l : List α} {k : List PV × Env → Res β} {y : Res β} (v : α → PV) (p : α → Bool)
    (h : ∀ x ∈ l, ∃ ρ', f (v x) ρ = .ok (some (.bl (p x)), ρ') ∧ wipeE own ρ' = ρ) (hk : k ((l.map p).map .bl, ρ) = y) : (lcLoop own f (l.map v) ρ).noexc.bind k = y :=
  lc_elD v (fun x => .bl (p x)) h (by rw [List.map_map] at hk; exact hk)
/-- .. an integer -/
theorem lc_intD {α β : Type} {own : List Nat} {f : PV → Env → Res (Option PV × Env)} {ρ : Env} {l : List α} {k : List PV × Env → Res β} {y : Res β} (v : α → PV) (p : α → Int)
    (h : ∀ x ∈ l, ∃ ρ', f (v x) ρ = .ok (some (.int (p x)), ρ') ∧ wipeE own ρ' = ρ) (hk : k ((l.map p).map .int, ρ) = y) : (lcLoop own f (l.map v) ρ).noexc.bind k = y :=
  lc_elD v (fun x => .int (p x)) h (by rw [List.map_map] at hk; exact hk)
/-- .. or none -/
theorem fm_if {α : Type} (p : α → Bool) (g : α → PV) : ∀ (l : List α), l.filterMap (fun x => if p x = true then some (g x) else none) = (l.filter p).map g
  | [] => rfl
  | a :: l => by
    have ih := fm_if p g l
    by_cases hp : p a = true
    · rw [List.filterMap_cons, if_pos hp, List.filter_cons_of_pos hp, List.map_cons, ← ih]
    · rw [List.filterMap_cons, if_neg hp, List.filter_cons_of_neg hp, ← ih]
theorem lc_ifD {α β : Type} {own : List Nat} {f : PV → Env → Res (Option PV × Env)} {ρ : Env} {l : List α} {k : List PV × Env → Res β} {y : Res β} (v : α → PV) (p : α → Bool) (g : α → PV)
    (h : ∀ x ∈ l, ∃ ρ', f (v x) ρ = .ok (if p x = true then some (g x) else none, ρ') ∧ wipeE own ρ' = ρ) (hk : k ((l.filter p).map g, ρ) = y) : (lcLoop own f (l.map v) ρ).noexc.bind k = y :=
  lc_thenD v (fun x => if p x = true then some (g x) else none) h (by rw [fm_if]; exact hk)
/-! ### ranges, indexes -/
theorem rngL_0 (n : Nat) : rngL 0 (n : Int) = (List.range n).map fun k : Nat => PV.int (k : Int) := by
  unfold rngL
  have : ((n : Int) - 0).toNat = n := by omega
  rw [this]
  apply List.map_congr_left
  intro k _
  congr 1
  omega
theorem rngL_n (a b : Nat) : rngL (a : Int) (b : Int) = (List.range' a (b - a)).map fun k : Nat => PV.int (k : Int) := by
  unfold rngL
  have : ((b : Int) - a).toNat = b - a := by omega
  rw [this, List.range'_eq_map_range, List.map_map]
  apply List.map_congr_left
  intro k _
  show PV.int _ = PV.int _
  congr 1
theorem rngL_length (a b : Int) : (rngL a b).length = (b - a).toNat := by simp [rngL]
theorem pixN_nat (n k : Nat) : pixN n (k : Int) = if k < n then some k else none := by
  unfold pixN
  rw [if_pos (by omega)]
  by_cases h : k < n
  · rw [if_pos (by omega), if_pos h]; simp
  · rw [if_neg (by omega), if_neg h]
theorem pix_nat {α : Type} (xs : List α) (k : Nat) : pix xs (k : Int) = xs[k]? := by
  unfold pix
  rw [pixN_nat]
  by_cases h : k < xs.length
  · rw [if_pos h]; rfl
  · rw [if_neg h, List.getElem?_eq_none (by omega)]; rfl
theorem pix_last {α : Type} (xs : List α) : pix xs (-1) = xs.getLast? := by
  unfold pix pixN
  rw [if_neg (by omega), List.getLast?_eq_getElem?]
  by_cases h : xs.length = 0
  · rw [if_neg (by omega)]
    rw [List.getElem?_eq_none (by omega)]; rfl
  · rw [if_pos (by omega)]
    simp only [Option.bind_some]
    congr 1
    omega
/-- a comprehension that carries a state in the slots -/
theorem lc_stD {σ α : Type} {own : List Nat} {f : PV → Env → Res (Option PV × Env)} (v : α → PV) (enc : σ → Env) (g : σ → α → PV) (step : σ → α → σ) (Inv : σ → Prop) : ∀ (xs : List α) (s : σ), Inv s → (∀ x ∈ xs, ∀ s, Inv s → (∃ ρ', f (v x) (enc s) = .ok (some (g s x), ρ') ∧ wipeE own ρ' = enc (step s x)) ∧ Inv (step s x)) →
    ∃ ys : List PV, ys.length = xs.length ∧ lcLoop own f (xs.map v) (enc s) = .ok (ys, enc (xs.foldl step s)) ∧ Inv (xs.foldl step s) ∧ ∀ y ∈ ys, ∃ x ∈ xs, ∃ s, Inv s ∧ y = g s x
  | [], s, hi, _ => ⟨[], rfl, rfl, hi, fun y hy => by cases hy⟩
  | x :: xs, s, hi, h => by
    obtain ⟨⟨ρ1, h1, h2⟩, h3⟩ := h x (List.mem_cons_self ..) s hi
    obtain ⟨ys, h4, h5, h6, h7⟩ := lc_stD v enc g step Inv xs (step s x) h3 fun y hy => h y (List.mem_cons_of_mem _ hy)
    refine ⟨g s x :: ys, by simp [h4], ?_, h6, fun y hy => ?_⟩
    · rw [List.map_cons]
      simp only [lcLoop, h1, Res.bind_ok, h2, h5]
      rfl
    · rcases List.mem_cons.mp hy with rfl | hy
      · exact ⟨x, List.mem_cons_self .., s, hi, rfl⟩
      · obtain ⟨x', hx', r⟩ := h7 y hy
        exact ⟨x', List.mem_cons_of_mem _ hx', r⟩
/-- a while: a measure that falls, or an end -/
theorem whL_rule {c : Env → Res (Bool × Env)} {f : Env → Res Fl} (I : Nat → Env → Prop) (Post : Res Fl → Prop)
    (h : ∀ m ρ, I m ρ → ∃ b ρ1, c ρ = .ok (b, ρ1) ∧ (if b = true then (∃ ρ' m', (f ρ1 = .ok (.nx ρ') ∨ f ρ1 = .ok (.ct ρ')) ∧ m' < m ∧ I m' ρ') ∨ (∃ ρ', f ρ1 = .ok (.bk ρ') ∧ Post (.ok (.nx ρ'))) ∨ (∃ v ρ', f ρ1 = .ok (.rt v ρ') ∧ Post (.ok (.rt v ρ'))) ∨ (∃ c a, f ρ1 = .exc c a ∧ Post (.exc c a)) else Post (.ok (.nx ρ1)))) :
    ∀ (n m : Nat) (ρ : Env), m < n → I m ρ → Post (whL c f n ρ)
  | 0, m, ρ, hm, _ => by omega
  | n + 1, m, ρ, hm, hI => by
    obtain ⟨b, ρ1, h1, h2⟩ := h m ρ hI
    simp only [whL, h1, Res.bind_ok]
    cases b with
    | false => exact h2
    | true =>
      simp only [if_true] at h2 ⊢
      rcases h2 with ⟨ρ', m', h3, h4, h5⟩ | ⟨ρ', h3, h4⟩ | ⟨v, ρ', h3, h4⟩ | ⟨e, a, h3, h4⟩
      · rcases h3 with h3 | h3 <;> (rw [h3]; exact whL_rule I Post h n m' ρ' (by omega) h5)
      · rw [h3]; exact h4
      · rw [h3]; exact h4
      · rw [h3]; exact h4
theorem whL_post {β : Type} {c : Env → Res (Bool × Env)} {f : Env → Res Fl} {k : Fl → Res β} {n m : Nat} {ρ : Env} (Post : Res β → Prop) (I : Nat → Env → Prop) (hmn : m < n) (hI : I m ρ)
    (h : ∀ m ρ, I m ρ → ∃ b ρ1, c ρ = .ok (b, ρ1) ∧ (if b = true then (∃ ρ' m', (f ρ1 = .ok (.nx ρ') ∨ f ρ1 = .ok (.ct ρ')) ∧ m' < m ∧ I m' ρ') ∨ (∃ v ρ', f ρ1 = .ok (.rt v ρ') ∧ Post (k (.rt v ρ'))) ∨ (∃ ρ', f ρ1 = .ok (.bk ρ') ∧ Post (k (.nx ρ'))) else Post (k (.nx ρ1)))) : Post ((whL c f n ρ).bind k) := by
  refine whL_rule I (fun r => Post (r.bind k)) (fun m ρ hi => ?_) n m ρ hmn hI
  obtain ⟨b, ρ1, h1, h2⟩ := h m ρ hi
  refine ⟨b, ρ1, h1, ?_⟩
  cases b with
  | false => exact h2
  | true =>
    rcases h2 with h2 | ⟨v, ρ', h2, h3⟩ | ⟨ρ', h2, h3⟩
    · exact .inl h2
    · exact .inr (.inr (.inl ⟨v, ρ', h2, h3⟩))
    · exact .inr (.inl ⟨ρ', h2, h3⟩)
/-! ### comprehensions, as equations -/
section
variable {α : Type} {own : List Nat} {f : PV → Env → Res (Option PV × Env)} {ρ : Env}
theorem lcE_if {l : List α} (v : α → PV) (p : α → Bool) (g : α → PV) (h : ∀ x ∈ l, ∃ ρ', f (v x) ρ = .ok (if p x = true then some (g x) else none, ρ') ∧ wipeE own ρ' = ρ) : lcLoop own f (l.map v) ρ = .ok ((l.filter p).map g, ρ) := by
  rw [lc_mapD v (fun x => if p x = true then some (g x) else none) l h, fm_if]
theorem lcE_el {l : List α} (v : α → PV) (g : α → PV) (h : ∀ x ∈ l, ∃ ρ', f (v x) ρ = .ok (some (g x), ρ') ∧ wipeE own ρ' = ρ) : lcLoop own f (l.map v) ρ = .ok (l.map g, ρ) := by
  rw [lc_mapD v (fun x => some (g x)) l h, List.filterMap_eq_map']
theorem lcE_bl {l : List α} (v : α → PV) (p : α → Bool) (h : ∀ x ∈ l, ∃ ρ', f (v x) ρ = .ok (some (.bl (p x)), ρ') ∧ wipeE own ρ' = ρ) : lcLoop own f (l.map v) ρ = .ok ((l.map p).map .bl, ρ) := by
  rw [lcE_el v (fun x => .bl (p x)) h, List.map_map]; rfl
theorem lcE_int {l : List α} (v : α → PV) (p : α → Int) (h : ∀ x ∈ l, ∃ ρ', f (v x) ρ = .ok (some (.int (p x)), ρ') ∧ wipeE own ρ' = ρ) : lcLoop own f (l.map v) ρ = .ok ((l.map p).map .int, ρ) := by
  rw [lcE_el v (fun x => .int (p x)) h, List.map_map]; rfl
theorem lcP_if {l : List PV} (p : PV → Bool) (g : PV → PV) (h : ∀ x ∈ l, ∃ ρ', f x ρ = .ok (if p x = true then some (g x) else none, ρ') ∧ wipeE own ρ' = ρ) : lcLoop own f l ρ = .ok ((l.filter p).map g, ρ) := by
  have := lcE_if (l := l) id p g h
  rwa [List.map_id] at this
theorem lcP_el {l : List PV} (g : PV → PV) (h : ∀ x ∈ l, ∃ ρ', f x ρ = .ok (some (g x), ρ') ∧ wipeE own ρ' = ρ) : lcLoop own f l ρ = .ok (l.map g, ρ) := by
  have := lcE_el (l := l) id g h
  rwa [List.map_id] at this
theorem lcP_bl {l : List PV} (p : PV → Bool) (h : ∀ x ∈ l, ∃ ρ', f x ρ = .ok (some (.bl (p x)), ρ') ∧ wipeE own ρ' = ρ) : lcLoop own f l ρ = .ok ((l.map p).map .bl, ρ) := by
  have := lcE_bl (l := l) id p h
  rwa [List.map_id] at this
/-- a comprehension that draws -/
theorem lc_run {l : List α} (v : α → PV) (R : Env → Prop) (Q : PV → Prop) (hs : ∀ x ∈ l, ∀ ρ, R ρ → ∃ y ρ', f (v x) ρ = .ok (some y, ρ') ∧ Q y ∧ R (wipeE own ρ')) : ∀ {ρ : Env}, R ρ → ∃ ys ρ', lcLoop own f (l.map v) ρ = .ok (ys, ρ') ∧ ys.length = l.length ∧ (∀ y ∈ ys, Q y) ∧ R ρ' := by
  induction l with
  | nil => exact fun h => ⟨[], _, rfl, rfl, (fun y hy => by cases hy), h⟩
  | cons x l ih =>
    intro ρ h
    obtain ⟨y, ρ1, h1, h2, h3⟩ := hs x (List.mem_cons_self ..) ρ h
    obtain ⟨ys, ρ2, h4, h5, h6, h7⟩ := ih (fun z hz => hs z (List.mem_cons_of_mem _ hz)) h3
    refine ⟨y :: ys, ρ2, ?_, by simp [h5], fun z hz => ?_, h7⟩
    · rw [List.map_cons]
      simp only [lcLoop, h1, Res.bind_ok, h4]
      rfl
    · rcases List.mem_cons.mp hz with rfl | hz
      · exact h2
      · exact h6 z hz
theorem lc_post {β : Type} {l : List α} {k : List PV × Env → Res β} (Post : Res β → Prop) (v : α → PV) (R : Env → Prop) (Q : PV → Prop) (h0 : R ρ) (hs : ∀ x ∈ l, ∀ ρ, R ρ → ∃ y ρ', f (v x) ρ = .ok (some y, ρ') ∧ Q y ∧ R (wipeE own ρ'))
    (hk : ∀ ys ρ', ys.length = l.length → (∀ y ∈ ys, Q y) → R ρ' → Post (k (ys, ρ'))) : Post ((lcLoop own f (l.map v) ρ).noexc.bind k) := by
  obtain ⟨ys, ρ', h1, h2, h3, h4⟩ := lc_run v R Q hs h0
  rw [h1]
  exact hk ys ρ' h2 h3 h4
end
theorem nats_of {n : Nat} : ∀ {ys : List PV}, (∀ y ∈ ys, ∃ k : Nat, k < n ∧ y = .int (k : Int)) → ∃ ks : List Nat, ys = ks.map (fun k : Nat => PV.int (k : Int)) ∧ ∀ k ∈ ks, k < n
  | [], _ => ⟨[], rfl, fun k hk => by cases hk⟩
  | y :: ys, h => by
    obtain ⟨k, hk, rfl⟩ := h y (List.mem_cons_self ..)
    obtain ⟨ks, rfl, h2⟩ := nats_of fun z hz => h z (List.mem_cons_of_mem _ hz)
    exact ⟨k :: ks, rfl, fun i hi => by
      rcases List.mem_cons.mp hi with rfl | hi
      · exact hk
      · exact h2 i hi⟩
/-! ### slices -/
theorem clampN_nat' (n k : Nat) : clampN n (k : Int) = min k n := by
  unfold clampN
  rw [if_neg (by omega)]
  rfl
theorem slcL_from {α : Type} (xs : List α) (a : Nat) : slcL xs (some (a : Int)) none = xs.drop a := by
  unfold slcL
  simp only [clampN_nat']
  by_cases h : a ≤ xs.length
  · rw [Nat.min_eq_left h, List.take_of_length_le (by rw [List.length_drop]; omega)]
  · rw [Nat.min_eq_right (by omega), List.drop_eq_nil_of_le (by omega), List.drop_eq_nil_of_le (by omega)]
    simp
theorem slcL_m1 {α : Type} (xs : List α) : slcL xs none (some (-1)) = xs.dropLast := by
  unfold slcL
  have : clampN xs.length (-1) = xs.length - 1 := by
    unfold clampN
    rw [if_pos (by omega)]
    omega
  simp only [this, List.drop_zero, Nat.sub_zero]
  rw [List.dropLast_eq_take]
/-- a walk that keeps R -/
theorem forL_keep0 {f : PV → Env → Res Fl} (R : Env → Prop) : ∀ (l : List PV) (ρ : Env), R ρ → (∀ x ∈ l, ∀ ρ, R ρ → goesOn R (f x ρ)) → ∃ ρ', forL f l ρ = .ok (.nx ρ') ∧ R ρ'
  | [], ρ, h, _ => ⟨ρ, rfl, h⟩
  | x :: l, ρ, h, hs => by
    obtain ⟨ρ1, h1, h2⟩ := hs x (List.mem_cons_self ..) ρ h
    obtain ⟨ρ2, h3, h4⟩ := forL_keep0 R l ρ1 h2 fun y hy => hs y (List.mem_cons_of_mem _ hy)
    refine ⟨ρ2, ?_, h4⟩
    simp only [forL]
    rcases h1 with h1 | h1 <;> (rw [h1]; exact h3)
theorem forL_keep {β : Type} {f : PV → Env → Res Fl} {k : Fl → Res β} {l : List PV} {ρ : Env} (Post : Res β → Prop) (R : Env → Prop) (h0 : R ρ) (hs : ∀ x ∈ l, ∀ ρ, R ρ → goesOn R (f x ρ)) (hk : ∀ ρ', R ρ' → Post (k (.nx ρ'))) : Post ((forL f l ρ).bind k) := by
  obtain ⟨ρ', h1, h2⟩ := forL_keep0 R l ρ h0 hs
  rw [h1]
  exact hk ρ' h2
theorem set_dic (ks vs q : List PV) (v : PV) : setV (.dic ks vs) (.tup q) v = if ks.length < szl ∧ (ints? q).isSome = true ∧ (ks.any fun z => PV.eqv z (.tup q)) = false then .ok (.dic (ks ++ [.tup q]) (vs ++ [v])) else .bad := rfl
theorem ints_is (l : List Int) : (ints? (l.map PV.int)).isSome = true := by rw [ints_map]; rfl
theorem le1 : ((1 : Nat) ≤ 1000) = True := by simp
set_option autoImplicit false
abbrev X_Malformed : Nat := 0
abbrev X_Refused : Nat := 101
def F_is_integer : Nat := 0
def F_check_from : Nat := 1
def F_factorial : Nat := 2
def F_raised : Nat := 3
def F_counted : Nat := 4
def F_is_signed : Nat := 5
def F_check_signed : Nat := 6
def F_signed_of : Nat := 7
def F_raised_size : Nat := 8
def F_signed_flat : Nat := 9
def F_signed_inverse : Nat := 10
def F_signed_product : Nat := 11
def F_signed_descents : Nat := 12
def F_signed_descent_row : Nat := 13
def F_signed_descents_listed : Nat := 14
def F_signed_number : Nat := 15
def F_is_signed_image : Nat := 16
def F_law_state : Nat := 17
def F_law_take : Nat := 18
def F_law_same : Nat := 19
def F_law_told : Nat := 20
def F_law_is_told : Nat := 21
def F_law_is_raised : Nat := 22
def F_law_tells : Nat := 23
def F_law_raises : Nat := 24
def F_law_plain : Nat := 25
def F_law_value : Nat := 26
def F_law_bads : Nat := 27
def F_law_perm : Nat := 28
def F_law_perms : Nat := 29
def F_law_counted : Nat := 30
def F_law_signed : Nat := 31
def F_law_signed_all : Nat := 32
def F_law_inverse : Nat := 33
def F_law_images : Nat := 34
def F_law_signed_descents : Nat := 35
def F_law : Nat := 36
/-- is_integer(value): 0 value -/
def D_is_integer : FnD := { np := 1, ns := 1, io := false, body := [
    .ret (.and (.bi (.isi [.int]) [.v 0]) (.not (.bi (.isi [.bool]) [.v 0])))] }
/-- check_from(value, low, high): 0 value, 1 low, 2 high -/
def D_check_from : FnD := { np := 3, ns := 3, io := false, body := [
    .ite (.or (.not (.call F_is_integer [.v 0])) (.not (.chain .le .le (.v 1) (.v 0) (.v 2)))) [.raise X_Malformed none] []] }
/-- factorial(n): 0 n, 1 found, 2 k -/
def D_factorial : FnD := { np := 1, ns := 3, io := false, body := [
    .asg (.v 1) (.c (.int 1)),
    .for (.v 2) .rng2 [.c (.int 2), .bin .add (.v 0) (.c (.int 1))] [.asg (.v 1) (.bin .mul (.v 1) (.v 2))],
    .ret (.mv 1)] }
/-- raised(a, k): 0 a, 1 k, 2 found, 3 _ -/
def D_raised : FnD := { np := 2, ns := 4, io := false, body := [
    .asg (.v 2) (.c (.int 1)),
    .for (.v 3) .rng1 [.v 1] [.asg (.v 2) (.bin .mul (.v 2) (.v 0))],
    .ret (.mv 2)] }
/-- counted(numbers): 0 numbers, 1 found, 2 k -/
def D_counted : FnD := { np := 1, ns := 3, io := false, body := [
    .asg (.v 1) (.bin .mul (.lst [.c (.int 0)]) (.ite (.cmp .gt (.bi .len [.v 0]) (.c (.int 0))) (.bin .add (.bi .max [.v 0]) (.c (.int 1))) (.c (.int 0)))),
    .for (.v 2) .seq [.v 0] [.augI 1 .add (.v 2) (.c (.int 1))],
    .ret (.bi .tuple [.v 1])] }
/-- is_signed(value): 0 value, 1 x -/
def D_is_signed : FnD := { np := 1, ns := 2, io := false, body := [
    .ite (.or (.not (.bi (.isi [.tup]) [.v 0])) (.or (.cmp .gt (.bi .len [.v 0]) (.c (.int 9))) (.not (.bi .all [.lc [1] (.v 1) .seq [.v 0] [] (.call F_is_integer [.v 1])])))) [.ret (.c (.bl false))] [],
    .ret (.cmp .eq (.bi .sorted [.lc [1] (.v 1) .seq [.v 0] [] (.bi .abs [.v 1])]) (.bi .list [.bi .range2 [.c (.int 1), .bin .add (.bi .len [.v 0]) (.c (.int 1))]]))] }
/-- check_signed(value): 0 value -/
def D_check_signed : FnD := { np := 1, ns := 1, io := false, body := [
    .ite (.not (.call F_is_signed [.v 0])) [.raise X_Malformed none] []] }
/-- signed_of(n): 0 n, 1 found, 2 size, 3 longer, 4 own, 5 x, 6 moved, 7 y -/
def D_signed_of : FnD := { np := 1, ns := 8, io := false, body := [
    .ex (.call F_check_from [.v 0, .c (.int 0), .c (.int 5)]),
    .asg (.v 1) (.lst [.tup []]),
    .for (.v 2) .rng2 [.c (.int 1), .bin .add (.v 0) (.c (.int 1))] [.asg (.v 3) (.lst []), .for (.v 4) .seq [.v 1] [.for (.v 5) .rng2 [.c (.int 1), .bin .add (.v 2) (.c (.int 1))] [.asg (.v 6) (.bi .tuple [.lc [7] (.v 7) .seq [.v 4] [] (.call F_raised_size [.v 7, .v 5])]), .ex (.mu .extend 3 [.lst [.bin .add (.v 6) (.tup [.v 5]), .bin .add (.v 6) (.tup [.un .neg (.v 5)])]])]], .asg (.v 1) (.mv 3)],
    .ret (.bi .tuple [.bi .sorted [.v 1]])] }
/-- raised_size(y, x): 0 y, 1 x -/
def D_raised_size : FnD := { np := 2, ns := 2, io := false, body := [
    .ret (.ite (.cmp .ge (.v 0) (.v 1)) (.bin .add (.v 0) (.c (.int 1))) (.ite (.cmp .ge (.un .neg (.v 0)) (.v 1)) (.bin .sub (.v 0) (.c (.int 1))) (.v 0)))] }
/-- signed_flat(row): 0 row, 1 order, 2 x -/
def D_signed_flat : FnD := { np := 1, ns := 3, io := false, body := [
    .ite (.or (.not (.bi (.isi [.tup]) [.v 0])) (.or (.cmp .gt (.bi .len [.v 0]) (.c (.int 9))) (.not (.bi .all [.lc [2] (.v 2) .seq [.v 0] [] (.and (.call F_is_integer [.v 2]) (.cmp .ne (.v 2) (.c (.int 0))))])))) [.raise X_Malformed none] [],
    .asg (.v 1) (.bi .sorted [.lc [2] (.v 2) .seq [.v 0] [] (.bi .abs [.v 2])]),
    .ite (.cmp .ne (.bi .lens [.v 1]) (.bi .len [.v 1])) [.raise X_Malformed none] [],
    .ret (.bi .tuple [.lc [2] (.v 2) .seq [.v 0] [] (.bin .mul (.bin .add (.me .index (.v 1) [.bi .abs [.v 2]]) (.c (.int 1))) (.ite (.cmp .gt (.v 2) (.c (.int 0))) (.c (.int 1)) (.un .neg (.c (.int 1)))))])] }
/-- signed_inverse(p): 0 p, 1 found, 2 k, 3 x -/
def D_signed_inverse : FnD := { np := 1, ns := 4, io := false, body := [
    .ex (.call F_check_signed [.v 0]),
    .asg (.v 1) (.bin .mul (.lst [.c (.int 0)]) (.bi .len [.v 0])),
    .for (.tup [.v 2, .v 3]) .enum [.v 0] [.setI 1 (.bin .sub (.bi .abs [.v 3]) (.c (.int 1))) (.ite (.cmp .gt (.v 3) (.c (.int 0))) (.bin .add (.v 2) (.c (.int 1))) (.bin .sub (.un .neg (.v 2)) (.c (.int 1))))],
    .ret (.bi .tuple [.v 1])] }
/-- signed_product(p, q): 0 p, 1 q, 2 x -/
def D_signed_product : FnD := { np := 2, ns := 3, io := false, body := [
    .ex (.call F_check_signed [.v 0]),
    .ex (.call F_check_signed [.v 1]),
    .ite (.cmp .ne (.bi .len [.v 0]) (.bi .len [.v 1])) [.raise X_Malformed none] [],
    .ret (.bi .tuple [.lc [2] (.v 2) .seq [.v 1] [] (.ite (.cmp .gt (.v 2) (.c (.int 0))) (.sub (.v 0) (.bin .sub (.v 2) (.c (.int 1)))) (.un .neg (.sub (.v 0) (.bin .sub (.un .neg (.v 2)) (.c (.int 1))))))])] }
/-- signed_descents(p): 0 p, 1 row, 2 k -/
def D_signed_descents : FnD := { np := 1, ns := 3, io := false, body := [
    .ex (.call F_check_signed [.v 0]),
    .asg (.v 1) (.bin .add (.tup [.c (.int 0)]) (.v 0)),
    .ret (.bi .len [.lc [2] (.v 2) .rng2 [.c (.int 1), .bi .len [.v 1]] [.cmp .gt (.sub (.v 1) (.bin .sub (.v 2) (.c (.int 1)))) (.sub (.v 1) (.v 2))] (.v 2)])] }
/-- signed_descent_row(n): 0 n, 1 found, 2 size, 3 longer, 4 k -/
def D_signed_descent_row : FnD := { np := 1, ns := 5, io := false, body := [
    .ex (.call F_check_from [.v 0, .c (.int 0), .c (.int 30)]),
    .asg (.v 1) (.lst [.c (.int 1)]),
    .for (.v 2) .rng2 [.c (.int 1), .bin .add (.v 0) (.c (.int 1))] [.asg (.v 3) (.bin .mul (.lst [.c (.int 0)]) (.bin .add (.v 2) (.c (.int 1)))), .for (.v 4) .rng1 [.bin .add (.v 2) (.c (.int 1))] [.ite (.cmp .lt (.v 4) (.bi .len [.v 1])) [.augI 3 .add (.v 4) (.bin .mul (.bin .add (.bin .mul (.c (.int 2)) (.v 4)) (.c (.int 1))) (.sub (.v 1) (.v 4)))] [], .ite (.cmp .gt (.v 4) (.c (.int 0))) [.augI 3 .add (.v 4) (.bin .mul (.bin .add (.bin .mul (.c (.int 2)) (.bin .sub (.v 2) (.v 4))) (.c (.int 1))) (.sub (.v 1) (.bin .sub (.v 4) (.c (.int 1)))))] []], .asg (.v 1) (.mv 3)],
    .ret (.bi .tuple [.v 1])] }
/-- signed_descents_listed(n): 0 n, 1 p -/
def D_signed_descents_listed : FnD := { np := 1, ns := 2, io := false, body := [
    .ret (.call F_counted [.lc [1] (.v 1) .seq [.call F_signed_of [.v 0]] [] (.call F_signed_descents [.v 1])])] }
/-- signed_number(n): 0 n -/
def D_signed_number : FnD := { np := 1, ns := 1, io := false, body := [
    .ex (.call F_check_from [.v 0, .c (.int 0), .c (.int 40)]),
    .ret (.bin .mul (.call F_raised [.c (.int 2), .v 0]) (.call F_factorial [.v 0]))] }
/-- is_signed_image(p, q): 0 p, 1 q, 2 seen, 3 line, 4 own, 5 one, 6 x -/
def D_is_signed_image : FnD := { np := 2, ns := 7, io := false, body := [
    .ex (.call F_check_signed [.v 0]),
    .ex (.call F_check_signed [.v 1]),
    .ite (.cmp .ne (.bi .len [.v 0]) (.bi .len [.v 1])) [.raise X_Refused (some (.c (.str [108, 101, 110, 103, 116, 104, 115])))] [],
    .par [2, 3] [.dic1 (.v 0) (.bl true), .lst [.v 0]],
    .while (.cmp .gt (.bi .len [.v 3]) (.c (.int 0))) [.asg (.v 4) (.mu .pop 3 []), .for (.v 5) .seq [.tup [.bi .tuple [.lc [6] (.v 6) .seq [.v 4] [] (.un .neg (.v 6))], .rev (.v 4), .call F_signed_inverse [.v 4]]] [.ite (.cmp .notin (.v 5) (.v 2)) [.setI 2 (.v 5) (.c (.bl true)), .ex (.mu .append 3 [.v 5])] []]],
    .ret (.cmp .in (.v 1) (.v 2))] }
/-- _law_state(script): 0 script, 1 seed, 2 total, 3 cell -/
def D_law_state : FnD := { np := 1, ns := 4, io := false, body := [
    .asg (.v 1) (.c (.int 0)),
    .asg (.v 2) (.c (.int 1)),
    .for (.v 3) .seq [.slc (.v 0) none (some (.c (.int 63)))] [.asg (.v 1) (.bin .add (.bin .mul (.v 1) (.c (.int 1000003))) (.bi .abs [.v 3])), .asg (.v 2) (.bin .mod (.bi .int [.bin .add (.bin .mul (.v 2) (.c (.int 48271))) (.v 3)]) (.c (.int 2147483647)))],
    .ret (.lst [.v 1, .ite (.cmp .ne (.v 2) (.c (.int 1973665155))) (.v 2) (.c (.int 7))])] }
/-- _law_take(state, m): 0 state, 1 m, 2 value -/
def D_law_take : FnD := { np := 2, ns := 3, io := true, body := [
    .ite (.cmp .gt (.sub (.v 0) (.c (.int 0))) (.c (.int 0))) [.asg (.v 2) (.bin .mod (.bi .int [.sub (.v 0) (.c (.int 0))]) (.v 1)), .setI 0 (.c (.int 0)) (.bin .fdiv (.sub (.v 0) (.c (.int 0))) (.v 1)), .ret (.mv 2)] [],
    .setI 0 (.c (.int 1)) (.bin .mod (.bi .int [.bin .add (.bin .mul (.sub (.v 0) (.c (.int 1))) (.c (.int 48271))) (.c (.int 11))]) (.c (.int 2147483647))),
    .ret (.bin .mod (.bi .int [.bin .fdiv (.sub (.v 0) (.c (.int 1))) (.c (.int 7))]) (.v 1))] }
/-- _law_same(value, due): 0 value, 1 due, 2 k -/
def D_law_same : FnD := { np := 2, ns := 3, io := false, body := [
    .ite (.bi (.isi [.lst]) [.v 1]) [.ret (.and (.bi (.isi [.lst]) [.v 0]) (.call F_law_same [.bi .tuple [.v 0], .bi .tuple [.v 1]]))] [],
    .ite (.bi (.isi [.tup]) [.v 1]) [.ret (.and (.bi (.isi [.tup]) [.v 0]) (.and (.cmp .eq (.bi .len [.v 0]) (.bi .len [.v 1])) (.bi .all [.lc [2] (.v 2) .rng1 [.bi .len [.v 1]] [] (.call F_law_same [.sub (.v 0) (.v 2), .sub (.v 1) (.v 2)])])))] [],
    .ite (.cmp .is (.v 1) (.c .non)) [.ret (.cmp .is (.v 0) (.c .non))] [],
    .ite (.bi (.isi [.bool]) [.v 1]) [.ret (.and (.bi (.isi [.bool]) [.v 0]) (.cmp .eq (.v 0) (.v 1)))] [],
    .ite (.bi (.isi [.str]) [.v 1]) [.ret (.and (.bi (.isi [.str]) [.v 0]) (.cmp .eq (.v 0) (.v 1)))] [],
    .ret (.and (.bi (.isi [.int]) [.v 0]) (.and (.not (.bi (.isi [.bool]) [.v 0])) (.cmp .eq (.v 0) (.v 1))))] }
/-- _law_told(f, given): 0 f, 1 given, 2 error -/
def D_law_told : FnD := { np := 2, ns := 3, io := false, body := [
    .tr [.ite (.cmp .eq (.bi .len [.v 1]) (.c (.int 1))) [.ret (.tup [.c (.str [116, 111, 108, 100]), .callv 0 [.sub (.v 1) (.c (.int 0))]])] [], .ite (.cmp .eq (.bi .len [.v 1]) (.c (.int 2))) [.ret (.tup [.c (.str [116, 111, 108, 100]), .callv 0 [.sub (.v 1) (.c (.int 0)), .sub (.v 1) (.c (.int 1))]])] [], .ite (.cmp .eq (.bi .len [.v 1]) (.c (.int 3))) [.ret (.tup [.c (.str [116, 111, 108, 100]), .callv 0 [.sub (.v 1) (.c (.int 0)), .sub (.v 1) (.c (.int 1)), .sub (.v 1) (.c (.int 2))]])] [], .ite (.cmp .eq (.bi .len [.v 1]) (.c (.int 4))) [.ret (.tup [.c (.str [116, 111, 108, 100]), .callv 0 [.sub (.v 1) (.c (.int 0)), .sub (.v 1) (.c (.int 1)), .sub (.v 1) (.c (.int 2)), .sub (.v 1) (.c (.int 3))]])] [], .ret (.tup [.c (.str [116, 111, 108, 100]), .callv 0 [.sub (.v 1) (.c (.int 0)), .sub (.v 1) (.c (.int 1)), .sub (.v 1) (.c (.int 2)), .sub (.v 1) (.c (.int 3)), .sub (.v 1) (.c (.int 4))]])] [(X_Malformed, none, .tup [.c (.str [109, 97, 108, 102, 111, 114, 109, 101, 100]), .c .non]), (X_Refused, some 2, .tup [.c (.str [114, 97, 105, 115, 101, 100]), .v 2])]] }
/-- _law_is_told(pair, due): 0 pair, 1 due -/
def D_law_is_told : FnD := { np := 2, ns := 2, io := false, body := [
    .ret (.and (.cmp .eq (.sub (.v 0) (.c (.int 0))) (.c (.str [116, 111, 108, 100]))) (.call F_law_same [.sub (.v 0) (.c (.int 1)), .v 1]))] }
/-- _law_is_raised(pair, reason): 0 pair, 1 reason -/
def D_law_is_raised : FnD := { np := 2, ns := 2, io := false, body := [
    .ite (.cmp .eq (.v 1) (.c (.str [109, 97, 108, 102, 111, 114, 109, 101, 100]))) [.ret (.cmp .eq (.sub (.v 0) (.c (.int 0))) (.c (.str [109, 97, 108, 102, 111, 114, 109, 101, 100])))] [],
    .ret (.and (.cmp .eq (.sub (.v 0) (.c (.int 0))) (.c (.str [114, 97, 105, 115, 101, 100]))) (.call F_law_same [.sub (.v 0) (.c (.int 1)), .v 1]))] }
/-- _law_tells(f, given, due): 0 f, 1 given, 2 due -/
def D_law_tells : FnD := { np := 3, ns := 3, io := false, body := [
    .ret (.call F_law_is_told [.call F_law_told [.v 0, .v 1], .v 2])] }
/-- _law_raises(f, given, reason): 0 f, 1 given, 2 reason -/
def D_law_raises : FnD := { np := 3, ns := 3, io := false, body := [
    .ret (.call F_law_is_raised [.call F_law_told [.v 0, .v 1], .v 2])] }
/-- _law_plain(x): 0 x -/
def D_law_plain : FnD := { np := 1, ns := 1, io := false, body := [
    .ret (.and (.bi (.isi [.int]) [.v 0]) (.not (.bi (.isi [.bool]) [.v 0])))] }
/-- _law_value(f, given): 0 f, 1 given, 2 told -/
def D_law_value : FnD := { np := 2, ns := 3, io := false, body := [
    .asg (.v 2) (.call F_law_told [.v 0, .v 1]),
    .ret (.ite (.cmp .eq (.sub (.v 2) (.c (.int 0))) (.c (.str [116, 111, 108, 100]))) (.sub (.v 2) (.c (.int 1))) (.v 2))] }
/-- _law_bads(f, given, at, bads): 0 f, 1 given, 2 at, 3 bads, 4 bad, 5 own -/
def D_law_bads : FnD := { np := 4, ns := 6, io := false, body := [
    .for (.v 4) .seq [.v 3] [.asg (.v 5) (.bi .list [.v 1]), .setI 5 (.v 2) (.v 4), .ite (.cmp .ne (.call F_law_told [.v 0, .bi .tuple [.v 5]]) (.tup [.c (.str [109, 97, 108, 102, 111, 114, 109, 101, 100]), .c .non])) [.ret (.c (.bl false))] []],
    .ret (.c (.bl true))] }
/-- _law_perm(state, n): 0 state, 1 n, 2 t, 3 left, 4 found -/
def D_law_perm : FnD := { np := 2, ns := 5, io := true, body := [
    .par [3, 4] [.bi .list [.bi .range2 [.c (.int 1), .bin .add (.v 1) (.c (.int 1))]], .lst []],
    .for (.v 2) .rng1 [.v 1] [.ex (.mu .append 4 [.mu .popAt 3 [.callio F_law_take 0 [.bi .len [.v 3]]]])],
    .ret (.bi .tuple [.v 4])] }
/-- _law_perms(n): 0 n, 1 found, 2 t, 3 longer, 4 own, 5 x -/
def D_law_perms : FnD := { np := 1, ns := 6, io := false, body := [
    .asg (.v 1) (.lst [.tup []]),
    .for (.v 2) .rng1 [.v 0] [.asg (.v 3) (.lst []), .for (.v 4) .seq [.v 1] [.asg (.v 3) (.bin .add (.v 3) (.lc [5] (.v 5) .rng2 [.c (.int 1), .bin .add (.v 0) (.c (.int 1))] [.cmp .notin (.v 5) (.v 4)] (.bin .add (.v 4) (.tup [.v 5]))))], .asg (.v 1) (.bi .list [.v 3])],
    .ret (.mv 1)] }
/-- _law_counted(numbers): 0 numbers, 1 found, 2 x -/
def D_law_counted : FnD := { np := 1, ns := 3, io := false, body := [
    .asg (.v 1) (.bin .mul (.lst [.c (.int 0)]) (.ite (.cmp .gt (.bi .len [.v 0]) (.c (.int 0))) (.bin .add (.bi .max [.v 0]) (.c (.int 1))) (.c (.int 0)))),
    .for (.v 2) .seq [.v 0] [.setI 1 (.v 2) (.bin .add (.sub (.v 1) (.v 2)) (.c (.int 1)))],
    .ret (.bi .tuple [.v 1])] }
/-- _law_signed(state, n): 0 state, 1 n, 2 x -/
def D_law_signed : FnD := { np := 2, ns := 3, io := true, body := [
    .ret (.bi .tuple [.lc [2] (.v 2) .seq [.callio F_law_perm 0 [.v 1]] [] (.ite (.cmp .eq (.callio F_law_take 0 [.c (.int 2)]) (.c (.int 0))) (.v 2) (.un .neg (.v 2)))])] }
/-- _law_signed_all(n): 0 n, 1 found, 2 p, 3 rows, 4 x, 5 row -/
def D_law_signed_all : FnD := { np := 1, ns := 6, io := false, body := [
    .asg (.v 1) (.lst []),
    .for (.v 2) .seq [.call F_law_perms [.v 0]] [.asg (.v 3) (.lst [.tup []]), .for (.v 4) .seq [.v 2] [.asg (.v 3) (.bin .add (.lc [5] (.v 5) .seq [.v 3] [] (.bin .add (.v 5) (.tup [.v 4]))) (.lc [5] (.v 5) .seq [.v 3] [] (.bin .add (.v 5) (.tup [.un .neg (.v 4)]))))], .asg (.v 1) (.bin .add (.v 1) (.v 3))],
    .ret (.bi .sorted [.v 1])] }
/-- _law_inverse(p): 0 p, 1 found, 2 k -/
def D_law_inverse : FnD := { np := 1, ns := 3, io := false, body := [
    .asg (.v 1) (.bin .mul (.lst [.c (.int 0)]) (.bi .len [.v 0])),
    .for (.v 2) .rng1 [.bi .len [.v 0]] [.setI 1 (.bin .sub (.bi .abs [.sub (.v 0) (.v 2)]) (.c (.int 1))) (.ite (.cmp .gt (.sub (.v 0) (.v 2)) (.c (.int 0))) (.bin .add (.v 2) (.c (.int 1))) (.bin .sub (.un .neg (.v 2)) (.c (.int 1))))],
    .ret (.bi .tuple [.v 1])] }
/-- _law_images(p): 0 p, 1 found, 2 line, 3 own, 4 other, 5 x -/
def D_law_images : FnD := { np := 1, ns := 6, io := false, body := [
    .par [1, 2] [.lst [.v 0], .lst [.v 0]],
    .while (.cmp .gt (.bi .len [.v 2]) (.c (.int 0))) [.asg (.v 3) (.mu .pop 2 []), .for (.v 4) .seq [.tup [.bi .tuple [.lc [5] (.v 5) .seq [.v 3] [] (.un .neg (.v 5))], .rev (.v 3), .call F_law_inverse [.v 3]]] [.ite (.cmp .notin (.v 4) (.v 1)) [.ex (.mu .append 1 [.v 4]), .ex (.mu .append 2 [.v 4])] []]],
    .ret (.mv 1)] }
/-- _law_signed_descents(p): 0 p, 1 wide, 2 k -/
def D_law_signed_descents : FnD := { np := 1, ns := 3, io := false, body := [
    .asg (.v 1) (.bin .add (.tup [.c (.int 0)]) (.v 0)),
    .ret (.bi .len [.lc [2] (.v 2) .rng2 [.c (.int 1), .bi .len [.v 1]] [.cmp .gt (.sub (.v 1) (.bin .sub (.v 2) (.c (.int 1)))) (.sub (.v 1) (.v 2))] (.v 2)])] }
def B_law_1 : List S := [
    .asg (.v 15) (.and (.bi (.isi [.tup]) [.v 10]) (.and (.cmp .lt (.bi .len [.v 10]) (.c (.int 10))) (.and (.bi .all [.lc [16] (.v 16) .seq [.v 10] [] (.call F_law_plain [.v 16])]) (.cmp .eq (.bi .sorted [.lc [16] (.v 16) .seq [.v 10] [] (.bi .abs [.v 16])]) (.bi .list [.bi .range2 [.c (.int 1), .bin .add (.bi .len [.v 10]) (.c (.int 1))]]))))),
    .ite (.not (.call F_law_tells [.c (.fn F_is_signed), .tup [.v 10], .v 15])) [.ret (.c (.bl false))] [],
    .ite (.and (.not (.v 15)) (.not (.and (.call F_law_bads [.c (.fn F_signed_inverse), .tup [.v 13], .c (.int 0), .lst [.v 10]]) (.and (.call F_law_bads [.c (.fn F_signed_product), .tup [.v 13, .v 14], .c (.int 0), .lst [.v 10]]) (.and (.call F_law_bads [.c (.fn F_signed_product), .tup [.v 13, .v 14], .c (.int 1), .lst [.v 10]]) (.and (.call F_law_bads [.c (.fn F_signed_descents), .tup [.v 13], .c (.int 0), .lst [.v 10]]) (.call F_law_bads [.c (.fn F_is_signed_image), .tup [.v 13, .v 14], .c (.int 1), .lst [.v 10]]))))))) [.ret (.c (.bl false))] []]
def B_law_2 : List S := [
    .asg (.v 3) (.callio F_law_take 1 [.c (.int 7)]),
    .par [13, 14] [.callio F_law_signed 1 [.v 3], .callio F_law_signed 1 [.v 3]],
    .ite (.or (.not (.call F_law_tells [.c (.fn F_signed_inverse), .tup [.v 13], .call F_law_inverse [.v 13]])) (.or (.not (.call F_law_tells [.c (.fn F_signed_product), .tup [.v 13, .v 14], .bi .tuple [.lc [16] (.v 16) .seq [.v 14] [] (.ite (.cmp .gt (.v 16) (.c (.int 0))) (.sub (.v 13) (.bin .sub (.v 16) (.c (.int 1)))) (.un .neg (.sub (.v 13) (.bin .sub (.un .neg (.v 16)) (.c (.int 1))))))]])) (.not (.call F_law_tells [.c (.fn F_signed_product), .tup [.v 13, .call F_law_inverse [.v 13]], .bi .tuple [.bi .range2 [.c (.int 1), .bin .add (.v 3) (.c (.int 1))]]])))) [.ret (.c (.bl false))] [],
    .ite (.not (.call F_law_tells [.c (.fn F_signed_descents), .tup [.v 13], .call F_law_signed_descents [.v 13]])) [.ret (.c (.bl false))] [],
    .asg (.v 8) (.call F_law_images [.v 13]),
    .ite (.or (.not (.call F_law_tells [.c (.fn F_is_signed_image), .tup [.v 13, .v 14], .cmp .in (.v 14) (.v 8)])) (.or (.not (.call F_law_tells [.c (.fn F_is_signed_image), .tup [.v 13, .sub (.v 8) (.callio F_law_take 1 [.bi .len [.v 8]])], .c (.bl true)])) (.not (.call F_law_raises [.c (.fn F_is_signed_image), .tup [.v 13, .bin .add (.v 13) (.tup [.bin .add (.v 3) (.c (.int 1))])], .c (.str [108, 101, 110, 103, 116, 104, 115])])))) [.ret (.c (.bl false))] [],
    .asg (.v 9) (.bi .tuple [.lc [16] (.v 16) .seq [.v 13] [] (.bin .add (.bin .mul (.v 16) (.c (.int 2))) (.ite (.cmp .gt (.v 16) (.c (.int 0))) (.c (.int 1)) (.un .neg (.c (.int 1)))))]),
    .ite (.not (.call F_law_tells [.c (.fn F_signed_flat), .tup [.v 9], .v 13])) [.ret (.c (.bl false))] [],
    .for (.v 10) .seq [.tup [.v 13, .bi .list [.v 13], .bin .add (.v 13) (.tup [.c (.int 0)]), .bin .add (.bin .add (.v 13) (.v 13)) (.tup [.c (.int 1)]), .tup [.c (.int 2)], .tup [.c (.int 1), .un .neg (.c (.int 1))], .tup [.c (.bl true)], .c .non, .c (.int 0), .tup [.c (.str [49])], .tup [], .bi .tuple [.bi .range2 [.c (.int 1), .c (.int 11)]]]] B_law_1,
    .ite (.or (.not (.call F_law_bads [.c (.fn F_signed_product), .tup [.v 13, .v 14], .c (.int 1), .lst [.bin .add (.v 14) (.tup [.bin .add (.v 3) (.c (.int 1))])]])) (.not (.call F_law_bads [.c (.fn F_signed_flat), .tup [.v 9], .c (.int 0), .lst [.c .non, .tup [.c (.int 0)], .tup [.c (.int 1), .un .neg (.c (.int 1))], .lst [.c (.int 1)], .tup [.c (.bl true)], .tup [.c (.str [49])], .bi .tuple [.bi .range2 [.c (.int 1), .c (.int 11)]]]]))) [.ret (.c (.bl false))] []]
def B_law_3 : List S := [
    .ite (.cmp .ne (.sub (.v 11) (.v 7)) (.bin .add (.bin .mul (.bin .add (.bin .mul (.c (.int 2)) (.v 7)) (.c (.int 1))) (.ite (.cmp .lt (.v 7) (.v 6)) (.sub (.v 12) (.v 7)) (.c (.int 0)))) (.bin .mul (.bin .add (.bin .sub (.bin .mul (.c (.int 2)) (.v 6)) (.bin .mul (.c (.int 2)) (.v 7))) (.c (.int 1))) (.ite (.cmp .gt (.v 7) (.c (.int 0))) (.sub (.v 12) (.bin .sub (.v 7) (.c (.int 1)))) (.c (.int 0)))))) [.ret (.c (.bl false))] []]
/-- law(script): 0 script, 1 state, 2 turn, 3 n, 4 every, 5 row, 6 high, 7 k, 8 lot, 9 wide, 10 value, 11 one, 12 two, 13 p, 14 q, 15 good, 16 x, 17 f, 18 most -/
def D_law : FnD := { np := 1, ns := 19, io := false, body := [
    .asg (.v 1) (.call F_law_state [.v 0]),
    .for (.v 2) .rng1 [.c (.int 3)] B_law_2,
    .asg (.v 3) (.callio F_law_take 1 [.c (.int 5)]),
    .asg (.v 4) (.call F_law_signed_all [.v 3]),
    .asg (.v 5) (.call F_law_counted [.lc [13] (.v 13) .seq [.v 4] [] (.call F_law_signed_descents [.v 13])]),
    .ite (.or (.not (.call F_law_tells [.c (.fn F_signed_of), .tup [.v 3], .bi .tuple [.v 4]])) (.or (.not (.call F_law_tells [.c (.fn F_signed_number), .tup [.v 3], .bi .len [.v 4]])) (.or (.not (.call F_law_tells [.c (.fn F_signed_descent_row), .tup [.v 3], .v 5])) (.not (.call F_law_tells [.c (.fn F_signed_descents_listed), .tup [.v 3], .v 5]))))) [.ret (.c (.bl false))] [],
    .asg (.v 6) (.bin .add (.c (.int 1)) (.callio F_law_take 1 [.c (.int 30)])),
    .par [11, 12] [.call F_law_value [.c (.fn F_signed_descent_row), .tup [.v 6]], .call F_law_value [.c (.fn F_signed_descent_row), .tup [.bin .sub (.v 6) (.c (.int 1))]]],
    .for (.v 7) .rng1 [.bin .add (.v 6) (.c (.int 1))] B_law_3,
    .ite (.or (.cmp .ne (.bi .sum [.v 11]) (.call F_law_value [.c (.fn F_signed_number), .tup [.v 6]])) (.cmp .ne (.v 11) (.rev (.v 11)))) [.ret (.c (.bl false))] [],
    .ret (.bi .all [.lc [17, 18] (.tup [.v 17, .v 18]) .seq [.tup [.tup [.c (.fn F_signed_of), .c (.int 6)], .tup [.c (.fn F_signed_number), .c (.int 41)], .tup [.c (.fn F_signed_descent_row), .c (.int 31)], .tup [.c (.fn F_signed_descents_listed), .c (.int 6)]]] [] (.call F_law_bads [.v 17, .tup [.c (.int 1)], .c (.int 0), .lst [.un .neg (.c (.int 1)), .v 18, .c .non, .c (.bl true)]])])] }
def tab : Nat → Option FnD
  | 0 => some D_is_integer
  | 1 => some D_check_from
  | 2 => some D_factorial
  | 3 => some D_raised
  | 4 => some D_counted
  | 5 => some D_is_signed
  | 6 => some D_check_signed
  | 7 => some D_signed_of
  | 8 => some D_raised_size
  | 9 => some D_signed_flat
  | 10 => some D_signed_inverse
  | 11 => some D_signed_product
  | 12 => some D_signed_descents
  | 13 => some D_signed_descent_row
  | 14 => some D_signed_descents_listed
  | 15 => some D_signed_number
  | 16 => some D_is_signed_image
  | 17 => some D_law_state
  | 18 => some D_law_take
  | 19 => some D_law_same
  | 20 => some D_law_told
  | 21 => some D_law_is_told
  | 22 => some D_law_is_raised
  | 23 => some D_law_tells
  | 24 => some D_law_raises
  | 25 => some D_law_plain
  | 26 => some D_law_value
  | 27 => some D_law_bads
  | 28 => some D_law_perm
  | 29 => some D_law_perms
  | 30 => some D_law_counted
  | 31 => some D_law_signed
  | 32 => some D_law_signed_all
  | 33 => some D_law_inverse
  | 34 => some D_law_images
  | 35 => some D_law_signed_descents
  | 36 => some D_law
  | _ => none
theorem t_is_integer : tab F_is_integer = some D_is_integer := rfl
theorem t_check_from : tab F_check_from = some D_check_from := rfl
theorem t_factorial : tab F_factorial = some D_factorial := rfl
theorem t_raised : tab F_raised = some D_raised := rfl
theorem t_counted : tab F_counted = some D_counted := rfl
theorem t_is_signed : tab F_is_signed = some D_is_signed := rfl
theorem t_check_signed : tab F_check_signed = some D_check_signed := rfl
theorem t_signed_of : tab F_signed_of = some D_signed_of := rfl
theorem t_raised_size : tab F_raised_size = some D_raised_size := rfl
theorem t_signed_flat : tab F_signed_flat = some D_signed_flat := rfl
theorem t_signed_inverse : tab F_signed_inverse = some D_signed_inverse := rfl
theorem t_signed_product : tab F_signed_product = some D_signed_product := rfl
theorem t_signed_descents : tab F_signed_descents = some D_signed_descents := rfl
theorem t_signed_descent_row : tab F_signed_descent_row = some D_signed_descent_row := rfl
theorem t_signed_descents_listed : tab F_signed_descents_listed = some D_signed_descents_listed := rfl
theorem t_signed_number : tab F_signed_number = some D_signed_number := rfl
theorem t_is_signed_image : tab F_is_signed_image = some D_is_signed_image := rfl
theorem t_law_state : tab F_law_state = some D_law_state := rfl
theorem t_law_take : tab F_law_take = some D_law_take := rfl
theorem t_law_same : tab F_law_same = some D_law_same := rfl
theorem t_law_told : tab F_law_told = some D_law_told := rfl
theorem t_law_is_told : tab F_law_is_told = some D_law_is_told := rfl
theorem t_law_is_raised : tab F_law_is_raised = some D_law_is_raised := rfl
theorem t_law_tells : tab F_law_tells = some D_law_tells := rfl
theorem t_law_raises : tab F_law_raises = some D_law_raises := rfl
theorem t_law_plain : tab F_law_plain = some D_law_plain := rfl
theorem t_law_value : tab F_law_value = some D_law_value := rfl
theorem t_law_bads : tab F_law_bads = some D_law_bads := rfl
theorem t_law_perm : tab F_law_perm = some D_law_perm := rfl
theorem t_law_perms : tab F_law_perms = some D_law_perms := rfl
theorem t_law_counted : tab F_law_counted = some D_law_counted := rfl
theorem t_law_signed : tab F_law_signed = some D_law_signed := rfl
theorem t_law_signed_all : tab F_law_signed_all = some D_law_signed_all := rfl
theorem t_law_inverse : tab F_law_inverse = some D_law_inverse := rfl
theorem t_law_images : tab F_law_images = some D_law_images := rfl
theorem t_law_signed_descents : tab F_law_signed_descents = some D_law_signed_descents := rfl
theorem t_law : tab F_law = some D_law := rfl
set_option autoImplicit false
set_option linter.all false
set_option maxRecDepth 20000
local macro_rules | `(tactic| k_search [$xs,*]) => `(tactic| simp -implicitDefEqProofs (maxSteps := 2000000) only [e_and, e_or, e_ite, e_chain, e_ifs, e_ifs0, pvIf_bl, pvIf_t, pvIf_f, join_and, join_or, join_ifs, join_opt, ite_bind, fin_rt, fin_nx, ss_nil, ss_cons, seq_nx, seq_bk, seq_ct, seq_rt, e_c, e_v, e_mv, e_not, e_un, e_bin, e_cmp, e_call, e_callio, e_callv, e_bi, e_me, e_mu, e_sub, e_slc, e_rev, e_tup, e_lst, e_lc, e_lcx, e_dic1, evEs, evOs, evBs, evO, exS, tst, o_v, o_c, o_mv, o_and, o_or, o_not, o_un, o_bin, o_cmp, o_chain, o_ite, o_call, o_callio, o_callv, o_bi, o_me, o_mu, o_sub, o_slc, o_rev, o_tup, o_lst, o_lc, o_lcx, o_dic1, rd_val, rd_sl, rds_nil, rds_cons, a_v, a_tup, as_nil, as_cons, wipeE, restE, lockE, unlockE, ownFree_eq, no_n, no_s, Option.map_some, Option.getD_some, stoV, stoVs, hndl, evH, evHs, evHa, startE, finF, Res.bind_assoc, Res.bind_ok, Res.bind_exc, Res.bind_bad, Res.noexc_ok, List.getElem?_cons_zero, List.getElem?_cons_succ, List.set_cons_zero, List.set_cons_succ, List.length_map, List.length_range, List.length_cons, List.length_nil, List.replicate, List.map_cons, List.map_nil, List.cons_append, List.nil_append, List.foldl_cons, List.foldl_nil, List.getD_cons_zero, List.getD_cons_succ, List.all_cons, List.all_nil, un_neg, bin_add, bin_sub, bin_mul, r_fdiv, bin_mod, r_add_s, r_add_t, r_add_l, r_mul_l, r_mul_t, r_lens_t, r_lens_l, cm_lt, cm_le, cm_gt, cm_ge, cm_lts, cm_les, cm_is, cm_isnot, cm_eq, cm_ne, cm_inl, cm_int, cm_nil, cm_nit, cm_ins, cm_nis, cm_ind, cm_nid, bi_lent, bi_lenl, r_len_s, bi_abs, bi_int, bi_tupt, bi_tupl, r_tup_r, bi_listt, bi_listl, r_list_r, bi_max2, bi_min2, bi_rng1, bi_rng2, bi_isi, ty_non, ty_bl, ty_int, ty_str, ty_tup, ty_lst, tyi1, tyi2, tyi3, tyi4, tyi5, tyi6, tyb1, tyb2, tyb3, tyb4, tyb5, tyb6, tys1, tys2, tys3, tys4, tys5, tys6, tyt1, tyt2, tyt3, tyt4, tyt5, tyt6, tyl1, tyl2, tyl3, tyl4, tyl5, tyl6, su_tup, su_lst, sl_tup, sl_lst, rv_tup, rv_lst, it_tup, it_lst, r_rng1, r_rng2, r_rng3, r_trg3, it_enumt, it_enuml, it_ziptt, it_zipll, r_app, r_ext, mu_pop, mu_popAt, set_lst, bi_sortt, bi_sortl, bi_all, bi_any, bi_suml, bi_sumt, q_nn, q_bb, q_bi, q_ib, q_ii, q_ss, q_ll, q_tt, q_nil, q_cons, q_nc, q_cn, q_nb, q_ni, q_ns, q_nt, q_nl, q_bn, q_bs, q_bt, q_bl, q_in, q_is, q_it, q_il, q_sn, q_sb, q_si, q_st, q_sl, q_tn, q_tb, q_ti, q_ts, q_tl, q_ln, q_lb, q_li, q_ls, q_lt, da_n, da_b, da_i, da_s, da_t, da_l, ds_nil, ds_cons, nn_n, nn_b, nn_i, nn_s, nn_t, nn_l, isi_i, isi_n, isi_b, isi_s, isi_t, isi_l, if_true, if_false, ite_true, ite_false, Bool.not_true, Bool.not_false, Bool.true_and, Bool.and_true, Bool.false_and, Bool.and_false, Bool.or_true, Bool.true_or, Bool.or_false, Bool.false_or, decide_true, decide_false, List.any_cons, List.any_nil, Bool.false_eq_true, eq_self, beq_self_eq_true, Nat.reduceAdd, Nat.reduceSub, Int.reduceAdd, Int.reduceSub, Int.reduceNeg, Int.reduceLT, Int.reduceLE, Int.reduceMul, Nat.zero_add, Int.cast_ofNat_Int, r_sub_s, r_rev_s, r_slc_s, lenOk_0, lenOk_1, lenOk_2, lenOk_3, lenOk_4, lenOk_5, lenOk_6, lenOk_7, lenOk_8, lenOk_9, lenOk_10, lenOk_11, lenOk_12, lenOk_13, lenOk_14, lenOk_15, lenOk_16, $[$xs:term],*])
theorem l_is_integer (d : Nat) (v : PV) (hv : v.typed = true) (hd : 1 ≤ d) : callF tab d F_is_integer false [v] = .ok ((.bl (isInt v), false), .non) := by
  obtain ⟨d, rfl⟩ : ∃ e, d = e + 1 := ⟨d - 1, by omega⟩
  rw [call_eq t_is_integer rfl]
  cases v <;> first | (k_search [D_is_integer]; done) | cases hv
/-- values of the kinds that are data -/
theorem typed_of_data {d : Nat} {v : PV} (h : PV.data d v = true) : v.typed = true := by
  cases v <;> first | rfl | (cases d <;> cases h)
theorem lc_all {own : List Nat} {f : PV → Env → Res (Option PV × Env)} {ρ : Env} (p : PV → Bool) {xs : List PV} (h : ∀ x ∈ xs, ∃ ρ', f x ρ = .ok (some (.bl (p x)), ρ') ∧ wipeE own ρ' = ρ) : lcLoop own f xs ρ = .ok ((xs.map p).map .bl, ρ) := by
  rw [lc_eq (fun x => some (.bl (p x))) h]
  congr 2
  rw [List.filterMap_eq_map', List.map_map]
  rfl
set_option maxHeartbeats 1000000 in
theorem ints_all : ∀ {xs : List PV}, xs.all isInt = true → ∃ l : List Int, xs = l.map .int
  | [], _ => ⟨[], rfl⟩
  | x :: xs, h => by
    rw [List.all_cons, Bool.and_eq_true] at h
    obtain ⟨l, rfl⟩ := ints_all h.2
    cases x <;> first | exact ⟨_ :: l, rfl⟩ | cases h.1
theorem datas_all {d : Nat} {xs : List PV} (h : ∀ x ∈ xs, PV.data d x = true) : PV.datas d xs = true := by
  induction xs with
  | nil => rfl
  | cons x xs ih => rw [PV.datas, h x (List.mem_cons_self ..), ih fun y hy => h y (List.mem_cons_of_mem _ hy)]; rfl
theorem mem_ins {x y : PV} : ∀ {xs : List PV}, y ∈ ins x xs → y = x ∨ y ∈ xs
  | [], h => by simpa [ins] using h
  | z :: zs, h => by
    unfold ins at h
    split at h
    · rcases List.mem_cons.mp h with h | h
      · exact .inr (by simp [h])
      · rcases mem_ins h with h | h
        · exact .inl h
        · exact .inr (by simp [h])
    · simpa using h
theorem mem_sortP {y : PV} : ∀ {xs : List PV}, y ∈ sortP xs → y ∈ xs
  | [], h => h
  | x :: xs, h => by
    have h : y ∈ ins x (sortP xs) := h
    rcases mem_ins h with h | h
    · simp [h]
    · exact List.mem_cons_of_mem _ (mem_sortP h)
theorem sortable_ints (l : List Int) : sortable (l.map .int) = true := by
  unfold sortable
  rw [datas_int, Bool.and_true, Bool.and_eq_true]
  refine ⟨?_, ?_⟩
  · rw [Bool.or_eq_true]
    exact .inr (List.all_eq_true.mpr fun x hx => by obtain ⟨i, _, rfl⟩ := List.mem_map.mp hx; rfl)
  · refine List.all_eq_true.mpr fun x hx => List.all_eq_true.mpr fun y hy => ?_
    obtain ⟨i, _, rfl⟩ := List.mem_map.mp hx
    obtain ⟨j, _, rfl⟩ := List.mem_map.mp hy
    rfl
theorem datas_rngL (d : Nat) (a b : Int) : PV.datas d (rngL a b) = true := datas_all fun x hx => by
  obtain ⟨k, _, rfl⟩ := List.mem_map.mp hx
  cases d <;> rfl
set_option autoImplicit false
set_option linter.all false
set_option maxRecDepth 20000
/-! ### the law's own defs -/
/-- the state of draws -/
abbrev DS : Type := Int × Int
def stV (s : DS) : PV := .lst [.int s.1, .int s.2]
def tk (s : DS) (m : Int) : Int × DS := if 0 < s.1 then (s.1 % m, (s.1 / m, s.2)) else (((s.2 * 48271 + 11) % 2147483647 / 7) % m, (s.1, (s.2 * 48271 + 11) % 2147483647))
theorem tk_lo {s : DS} {m : Int} (h : 0 < m) : 0 ≤ (tk s m).1 := by
  unfold tk; split
  · exact Int.emod_nonneg _ (by omega)
  · exact Int.emod_nonneg _ (by omega)
theorem tk_hi {s : DS} {m : Int} (h : 0 < m) : (tk s m).1 < m := by
  unfold tk; split
  · exact Int.emod_lt_of_pos _ h
  · exact Int.emod_lt_of_pos _ h
theorem okMul_r (i j : Int) (h : -(2 ^ 64) < j) (h2 : j < 2 ^ 64) : okMul i j = true := by
  unfold okMul
  rw [Bool.or_eq_true, Bool.or_eq_true]
  exact .inl (.inr (decide_eq_true ⟨h, h2⟩))
theorem okMul_a (i : Int) : okMul i 1000003 = true := okMul_r _ _ (by decide) (by decide)
theorem okMul_b (i : Int) : okMul i 48271 = true := okMul_r _ _ (by decide) (by decide)
theorem pix0 {α : Type} (x : α) (xs : List α) : pix (x :: xs) 0 = some x := by
  simp only [pix, pixN, List.length_cons]
  rw [if_pos (by omega), if_pos (by omega)]; rfl
theorem pix1 {α : Type} (x y : α) (xs : List α) : pix (x :: y :: xs) 1 = some y := by
  simp only [pix, pixN, List.length_cons]
  rw [if_pos (by omega), if_pos (by omega)]; rfl
theorem pixN0 (n : Nat) : pixN (n + 1) 0 = some 0 := by
  unfold pixN; rw [if_pos (by omega), if_pos (by omega)]; rfl
theorem pixN1 (n : Nat) : pixN (n + 1 + 1) 1 = some 1 := by
  unfold pixN; rw [if_pos (by omega), if_pos (by omega)]; rfl
theorem l_take (d : Nat) (s : DS) (m : Int) (hm : 0 < m) (hm2 : m < 2 ^ 64) (hd : 1 ≤ d) : callF tab d F_law_take true [stV s, .int m] = .ok ((.int (tk s m).1, false), stV (tk s m).2) := by
  obtain ⟨d, rfl⟩ : ∃ e, d = e + 1 := ⟨d - 1, by omega⟩
  rw [call_eq t_law_take rfl]
  obtain ⟨a, b⟩ := s
  have h1 : fdOk m = true := fdOk_of hm hm2
  have h2 : fdOk 7 = true := fdOk_of (by decide) (by decide)
  have p7 : (0 : Int) < 2147483647 := by decide
  by_cases h : 0 < a
  · k_search [D_law_take, stV, pix0, pix1, pixN0, pixN1, h, h1, hm, tk]
  · k_search [D_law_take, stV, pix0, pix1, pixN0, pixN1, h, h1, h2, hm, p7, okMul_b, tk]
theorem sl_scr (ns : List Int) (lo hi : Option Int) : slcV (.scr ns) lo hi = .ok (.lst ((slcL ns lo hi).map .int), true) := rfl
def stStep (s : DS) (c : Int) : DS := (s.1 * 1000003 + (if c < 0 then -c else c), (s.2 * 48271 + c) % 2147483647)
def lawSt (ns : List Int) : DS :=
  let s := (slcL ns none (some 63)).foldl stStep (0, 1)
  (s.1, if s.2 = 1973665155 then 7 else s.2)
theorem l_state (d : Nat) (ns : List Int) (hd : 1 ≤ d) : callF tab d F_law_state false [.scr ns] = .ok ((stV (lawSt ns), true), .non) := by
  obtain ⟨d, rfl⟩ : ∃ e, d = e + 1 := ⟨d - 1, by omega⟩
  rw [call_eq t_law_state rfl]
  have p7 : (0 : Int) < 2147483647 := by decide
  k_search [D_law_state, sl_scr]
  refine forL_thenD (σ := DS) PV.int (fun s ρ => ∃ sl, ρ = [.s (.scr ns), .s (.int s.1), .s (.int s.2), sl]) stStep (0, 1) ⟨_, rfl⟩ ?_ ?_
  · rintro c _ s _ ⟨sl, rfl⟩
    k_search [okMul_a, okMul_b, p7]
    exact ⟨_, .inl rfl, _, rfl⟩
  · rintro _ ⟨sl, rfl⟩
    generalize hs : (slcL ns none (some 63)).foldl stStep (0, 1) = s
    by_cases h : s.2 = 1973665155
    · k_search [h, lawSt, hs, stV]
    · k_search [h, lawSt, hs, stV]
set_option autoImplicit false
set_option linter.all false
set_option maxRecDepth 20000
theorem mem_some {xs : List PV} {k : Nat} (h : k < xs.length) : ∃ x, xs[k]? = some x ∧ x ∈ xs := ⟨xs[k], List.getElem?_eq_getElem h, List.getElem_mem h⟩
theorem all_trues {α : Type} (l : List α) : (l.map fun _ => true).all id = true := by simp
theorem l_same : ∀ (n : Nat) (v : PV) (d : Nat), nice n v → n ≤ 40 → 2 * n + 2 ≤ d → callF tab d F_law_same false [v, v] = .ok ((.bl true, false), .non) := by
  intro n
  induction n with
  | zero =>
    intro v d hv hn hd
    obtain ⟨d, rfl⟩ : ∃ e, d = e + 1 := ⟨d - 1, by omega⟩
    rw [call_eq t_law_same rfl]
    cases v <;> first | exact hv.elim | k_search [D_law_same]
  | succ n ih =>
    have key : ∀ (xs : List PV) (d : Nat), nice (n + 1) (.tup xs) → n + 1 ≤ 40 → 2 * n + 3 ≤ d → callF tab d F_law_same false [.tup xs, .tup xs] = .ok ((.bl true, false), .non) := by
      intro xs d hv hn hd
      obtain ⟨d, rfl⟩ : ∃ e, d = e + 1 := ⟨d - 1, by omega⟩
      obtain ⟨h1, h2⟩ := hv
      rw [call_eq t_law_same rfl]
      have c1 : rng1Ok (xs.length : Int) = true := rng1Ok_of (by omega) (by omega)
      have c2 : lenOk xs.length = true := lenOk_of (by omega)
      k_search [D_law_same, c1, rngL_0, List.length_map, List.length_range, c2, and_self]
      refine lc_blD (fun k : Nat => PV.int (k : Int)) (fun _ => true) (fun k hk => ?_) ?_
      · obtain ⟨x, hx, hm⟩ := mem_some (List.mem_range.mp hk)
        k_search [pix_nat, hx, ih x d (h2 x hm) (by omega) (by omega)]
        exact ⟨_, rfl, rfl⟩
      · k_search [all_trues]
    intro v d hv hn hd
    cases v with
    | tup xs => exact key xs d hv hn (by omega)
    | lst xs =>
      obtain ⟨d, rfl⟩ : ∃ e, d = e + 1 := ⟨d - 1, by omega⟩
      rw [call_eq t_law_same rfl]
      k_search [D_law_same, key xs d hv hn (by omega)]
    | fn | rng | scr | dic | set => exact hv.elim
    | _ =>
      obtain ⟨d, rfl⟩ : ∃ e, d = e + 1 := ⟨d - 1, by omega⟩
      rw [call_eq t_law_same rfl]
      k_search [D_law_same]
set_option autoImplicit false
set_option linter.all false
set_option maxRecDepth 20000
abbrev told : PV := .str [116, 111, 108, 100]
abbrev malf : PV := .str [109, 97, 108, 102, 111, 114, 109, 101, 100]
theorem pix2 {α : Type} (x y z : α) (xs : List α) : pix (x :: y :: z :: xs) 2 = some z := by
  rw [show (2 : Int) = ((2 : Nat) : Int) from rfl, pix_nat]; rfl
theorem pix3 {α : Type} (x y z w : α) (xs : List α) : pix (x :: y :: z :: w :: xs) 3 = some w := by
  rw [show (3 : Int) = ((3 : Nat) : Int) from rfl, pix_nat]; rfl
theorem pix4 {α : Type} (x y z w u : α) (xs : List α) : pix (x :: y :: z :: w :: u :: xs) 4 = some u := by
  rw [show (4 : Int) = ((4 : Nat) : Int) from rfl, pix_nat]; rfl
def argn (vs : List PV) : Prop := 1 ≤ vs.length ∧ vs.length ≤ 5
theorem n12 : ((2 : Int) = 1) = False := by simp
theorem n31 : ((3 : Int) = 1) = False := by simp
theorem n32 : ((3 : Int) = 2) = False := by simp
theorem n41 : ((4 : Int) = 1) = False := by simp
theorem n42 : ((4 : Int) = 2) = False := by simp
theorem n43 : ((4 : Int) = 3) = False := by simp
theorem n51 : ((5 : Int) = 1) = False := by simp
theorem n52 : ((5 : Int) = 2) = False := by simp
theorem n53 : ((5 : Int) = 3) = False := by simp
theorem n54 : ((5 : Int) = 4) = False := by simp
theorem nc1 : ((1 : Nat) : Int) = 1 := rfl
set_option maxHeartbeats 1000000 in
theorem l_told_ok (d f : Nat) (vs : List PV) (hv : argn vs) {v : PV} {o : Bool} (hr : callF tab d f false vs = .ok ((v, o), .non)) : callF tab (d + 1) F_law_told false [.fn f, .tup vs] = .ok ((.tup [told, v], false), .non) := by
  rw [call_eq t_law_told rfl]
  obtain ⟨h1, h2⟩ := hv
  match vs, h1, h2 with
  | [a], _, _ => k_search [D_law_told, pix0, hr, nc1]
  | [a, b], _, _ => k_search [D_law_told, pix0, pix1, hr, n12]
  | [a, b, c], _, _ => k_search [D_law_told, pix0, pix1, pix2, hr, n31, n32]
  | [a, b, c, e], _, _ => k_search [D_law_told, pix0, pix1, pix2, pix3, hr, n41, n42, n43]
  | [a, b, c, e, g], _, _ => k_search [D_law_told, pix0, pix1, pix2, pix3, pix4, hr, n51, n52, n53, n54]
theorem l_told_mal (d f : Nat) (vs : List PV) (hv : argn vs) {v : PV} (hr : callF tab d f false vs = .exc X_Malformed v) : callF tab (d + 1) F_law_told false [.fn f, .tup vs] = .ok ((.tup [malf, .non], false), .non) := by
  rw [call_eq t_law_told rfl]
  obtain ⟨h1, h2⟩ := hv
  match vs, h1, h2 with
  | [a], _, _ => k_search [D_law_told, pix0, hr, nc1, Option.map_some, Option.bind_some]
  | [a, b], _, _ => k_search [D_law_told, pix0, pix1, hr, n12, Option.map_some, Option.bind_some]
  | [a, b, c], _, _ => k_search [D_law_told, pix0, pix1, pix2, hr, n31, n32, Option.map_some, Option.bind_some]
  | [a, b, c, e], _, _ => k_search [D_law_told, pix0, pix1, pix2, pix3, hr, n41, n42, n43, Option.map_some, Option.bind_some]
  | [a, b, c, e, g], _, _ => k_search [D_law_told, pix0, pix1, pix2, pix3, pix4, hr, n51, n52, n53, n54, Option.map_some, Option.bind_some]
/-- told as it is due -/
theorem l_tells (d f n : Nat) (vs : List PV) (hv : argn vs) {v : PV} {o : Bool} (hr : callF tab d f false vs = .ok ((v, o), .non)) (hn : nice n v) (hn2 : n ≤ 40) (hd : 2 * n + 2 ≤ d) : callF tab (d + 2) F_law_tells false [.fn f, .tup vs, v] = .ok ((.bl true, false), .non) := by
  rw [call_eq t_law_tells rfl]
  k_search [D_law_tells, l_told_ok d f vs hv hr]
  rw [call_eq t_law_is_told rfl]
  k_search [D_law_is_told, pix0, pix1, l_same n v d hn hn2 hd]
/-- a bad argument in its place -/
theorem l_bads (d f : Nat) (vs : List PV) (hv : argn vs) (at_ : Nat) (hat : at_ < vs.length) (bads : List PV) (h : ∀ b ∈ bads, ∃ v, callF tab d f false (vs.set at_ b) = .exc X_Malformed v) : callF tab (d + 2) F_law_bads false [.fn f, .tup vs, .int at_, .lst bads] = .ok ((.bl true, false), .non) := by
  rw [call_eq t_law_bads rfl]
  k_search [D_law_bads]
  refine forL_then (σ := Unit) (fun _ ρ => ∃ s4 s5, ρ = [.s (.fn f), .s (.tup vs), .s (.int at_), .s (.lst bads), s4, s5]) (fun s _ => s) () ⟨_, _, rfl⟩ ?_ ?_
  · rintro b hb _ _ ⟨s4, s5, rfl⟩
    obtain ⟨v, hb⟩ := h b hb
    have hv' : argn (vs.set at_ b) := by unfold argn at hv ⊢; rw [List.length_set]; exact hv
    k_search [pixN_nat, hat, l_told_mal d f _ hv' hb]
    exact ⟨_, .inl rfl, _, _, rfl⟩
  · rintro _ ⟨s4, s5, rfl⟩
    k_search []
set_option autoImplicit false
set_option linter.all false
set_option maxRecDepth 20000
abbrev raisd : PV := .str [114, 97, 105, 115, 101, 100]
theorem l_told_ref (d f : Nat) (vs : List PV) (hv : argn vs) {t : List Nat} (hr : callF tab d f false vs = .exc X_Refused (.str t)) : callF tab (d + 1) F_law_told false [.fn f, .tup vs] = .ok ((.tup [raisd, .str t], false), .non) := by
  rw [call_eq t_law_told rfl]
  obtain ⟨h1, h2⟩ := hv
  have e1 : ¬ (X_Malformed = X_Refused) := by decide
  match vs, h1, h2 with
  | [a], _, _ => k_search [D_law_told, pix0, hr, nc1, Option.map_some, Option.bind_some, e1, Option.bind]
  | [a, b], _, _ => k_search [D_law_told, pix0, pix1, hr, n12, Option.map_some, Option.bind_some, e1, Option.bind]
  | [a, b, c], _, _ => k_search [D_law_told, pix0, pix1, pix2, hr, n31, n32, Option.map_some, Option.bind_some, e1, Option.bind]
  | [a, b, c, e], _, _ => k_search [D_law_told, pix0, pix1, pix2, pix3, hr, n41, n42, n43, Option.map_some, Option.bind_some, e1, Option.bind]
  | [a, b, c, e, g], _, _ => k_search [D_law_told, pix0, pix1, pix2, pix3, pix4, hr, n51, n52, n53, n54, Option.map_some, Option.bind_some, e1, Option.bind]
/-- refused as it is due -/
theorem l_raises_long (d f : Nat) (vs : List PV) (hv : argn vs) (hr : callF tab d f false vs = .exc X_Refused (.str [108, 111, 110, 103])) (hd : 2 ≤ d) : callF tab (d + 2) F_law_raises false [.fn f, .tup vs, .str [108, 111, 110, 103]] = .ok ((.bl true, false), .non) := by
  rw [call_eq t_law_raises rfl]
  k_search [D_law_raises, l_told_ref d f vs hv hr]
  rw [call_eq t_law_is_raised rfl]
  k_search [D_law_is_raised, pix0, pix1, l_same 0 (.str [108, 111, 110, 103]) d trivial (by omega) (by omega)]
  rfl
set_option autoImplicit false
set_option linter.all false
set_option maxRecDepth 20000
def idP (n : Nat) : List Int := (List.range n).map fun k : Nat => (k : Int) + 1
theorem rngL_1 (n : Nat) : rngL 1 ((n : Int) + 1) = (idP n).map .int := by
  unfold rngL idP
  have : ((n : Int) + 1 - 1).toNat = n := by omega
  rw [this, List.map_map]
  apply List.map_congr_left
  intro k _
  show PV.int _ = PV.int _
  congr 1
  show (1 : Int) + (k : Int) = (k : Int) + 1
  omega
theorem idP_length (n : Nat) : (idP n).length = n := by simp [idP]
theorem perm_erase {α : Type} (L F : List α) (k : Nat) (x : α) (h : L[k]? = some x) : (F ++ [x] ++ L.eraseIdx k).Perm (F ++ L) := by
  obtain ⟨hk, rfl⟩ := List.getElem?_eq_some_iff.mp h
  rw [List.append_assoc]
  refine List.Perm.append_left F ?_
  clear F
  induction L generalizing k with
  | nil => simp at hk
  | cons y L ih =>
    cases k with
    | zero => exact List.Perm.refl _
    | succ k =>
      have hk' : k < L.length := by simpa using hk
      exact (List.Perm.swap y _ _).trans ((ih k hk' (List.getElem?_eq_getElem hk')).cons y)
theorem eraseIdx_map' {α β : Type} (f : α → β) : ∀ (L : List α) (k : Nat), (L.map f).eraseIdx k = (L.eraseIdx k).map f
  | [], _ => rfl
  | _ :: _, 0 => rfl
  | x :: L, k + 1 => by simp [eraseIdx_map' f L k]
set_option autoImplicit false
set_option linter.all false
set_option maxRecDepth 20000
theorem l_perm (d : Nat) (s : DS) (n : Nat) (hn : n ≤ 1000) (hd : 2 ≤ d) : ∃ (p : List Int) (s' : DS), callF tab d F_law_perm true [stV s, .int n] = .ok ((.tup (p.map .int), false), stV s') ∧ p.Perm (idP n) := by
  obtain ⟨d, rfl⟩ : ∃ e, d = e + 1 := ⟨d - 1, by omega⟩
  rw [call_eq t_law_perm rfl]
  have c1 : rngOk 1 ((n : Int) + 1) = true := rngOk_of (by omega) (by omega) (by omega) (by omega) (by omega)
  have c2 : rng1Ok (n : Int) = true := rng1Ok_of (by omega) (by omega)
  k_search [D_law_perm, stV, c1, c2, rngL_1, rngL_0]
  refine forL_post (Post := fun z => ∃ (p : List Int) (s' : DS), z = Res.ok ((PV.tup (p.map .int), false), stV s') ∧ p.Perm (idP n)) (fun k : Nat => PV.int (k : Int))
    (fun r ρ => ∃ (s : DS) (L F : List Int) (sl : Slot), ρ = [.o (stV s), .s (.int n), sl, .o (.lst (L.map .int)), .o (.lst (F.map .int))] ∧ L.length = r.length ∧ (F ++ L).Perm (idP n)) ⟨s, idP n, [], .n, rfl, by simp [idP_length], by simp⟩ ?_ ?_
  · rintro x r _ ⟨s, L, F, sl, rfl, hL, hp⟩
    have hl : L.length = r.length + 1 := by simpa using hL
    have hlen : F.length + L.length = n := by simpa [idP_length] using hp.length_eq
    have lo := tk_lo (s := s) (m := (L.length : Int)) (by omega)
    have hi := tk_hi (s := s) (m := (L.length : Int)) (by omega)
    obtain ⟨j, hj⟩ : ∃ j : Nat, (tk s (L.length : Int)).1 = j := ⟨(tk s (L.length : Int)).1.toNat, by omega⟩
    have hjl : j < L.length := by omega
    have c3 : lenOk (F.length + 1) = true := lenOk_of (by omega)
    have e1 : (L.map PV.int)[j]? = some (.int L[j]) := by rw [List.getElem?_map, List.getElem?_eq_getElem hjl]; rfl
    k_search [List.length_map, l_take d s (L.length : Int) (by omega) (by omega) (by omega), hj, pixN_nat, hjl, e1, c3]
    refine ⟨_, .inl rfl, (tk s (L.length : Int)).2, L.eraseIdx j, F ++ [L[j]], .s (.int (x : Int)), ?_, ?_, ?_⟩
    · simp [eraseIdx_map']
    · rw [List.length_eraseIdx_of_lt hjl]; omega
    · exact (perm_erase L F j _ (List.getElem?_eq_getElem hjl)).trans hp
  · rintro _ ⟨s, L, F, sl, rfl, hL, hp⟩
    have hL : L = [] := by simpa using hL
    subst hL
    k_search []
    exact ⟨F, s, rfl, by simpa using hp⟩
set_option autoImplicit false
set_option linter.all false
set_option maxRecDepth 20000
/-! ### least and greatest -/
def mnL : List Int → Int
  | [] => 0
  | n :: ns => minI n ns
def mxL : List Int → Int
  | [] => 0
  | n :: ns => maxI n ns
theorem minI_le : ∀ (l : List Int) (a : Int), minI a l ≤ a ∧ (∀ x ∈ l, minI a l ≤ x) ∧ (minI a l = a ∨ minI a l ∈ l)
  | [], a => ⟨Int.le_refl _, (fun x hx => by cases hx), .inl rfl⟩
  | b :: l, a => by
    unfold minI
    by_cases h : b < a
    · rw [if_pos h]
      obtain ⟨h1, h2, h3⟩ := minI_le l b
      refine ⟨by omega, fun x hx => ?_, ?_⟩
      · rcases List.mem_cons.mp hx with rfl | hx
        · exact h1
        · exact h2 x hx
      · rcases h3 with h3 | h3
        · exact .inr (by rw [h3]; simp)
        · exact .inr (List.mem_cons_of_mem _ h3)
    · rw [if_neg h]
      obtain ⟨h1, h2, h3⟩ := minI_le l a
      refine ⟨h1, fun x hx => ?_, ?_⟩
      · rcases List.mem_cons.mp hx with rfl | hx
        · omega
        · exact h2 x hx
      · rcases h3 with h3 | h3
        · exact .inl h3
        · exact .inr (List.mem_cons_of_mem _ h3)
theorem maxI_le : ∀ (l : List Int) (a : Int), a ≤ maxI a l ∧ (∀ x ∈ l, x ≤ maxI a l) ∧ (maxI a l = a ∨ maxI a l ∈ l)
  | [], a => ⟨Int.le_refl _, (fun x hx => by cases hx), .inl rfl⟩
  | b :: l, a => by
    unfold maxI
    by_cases h : b > a
    · rw [if_pos h]
      obtain ⟨h1, h2, h3⟩ := maxI_le l b
      refine ⟨by omega, fun x hx => ?_, ?_⟩
      · rcases List.mem_cons.mp hx with rfl | hx
        · exact h1
        · exact h2 x hx
      · rcases h3 with h3 | h3
        · exact .inr (by rw [h3]; simp)
        · exact .inr (List.mem_cons_of_mem _ h3)
    · rw [if_neg h]
      obtain ⟨h1, h2, h3⟩ := maxI_le l a
      refine ⟨h1, fun x hx => ?_, ?_⟩
      · rcases List.mem_cons.mp hx with rfl | hx
        · omega
        · exact h2 x hx
      · rcases h3 with h3 | h3
        · exact .inl h3
        · exact .inr (List.mem_cons_of_mem _ h3)
theorem mnL_le {l : List Int} {x : Int} (h : x ∈ l) : mnL l ≤ x := by
  cases l with
  | nil => cases h
  | cons a l =>
    rcases List.mem_cons.mp h with rfl | h
    · exact (minI_le l _).1
    · exact (minI_le l a).2.1 x h
theorem mnL_mem {l : List Int} (h : l ≠ []) : mnL l ∈ l := by
  cases l with
  | nil => exact absurd rfl h
  | cons a l =>
    rcases (minI_le l a).2.2 with h | h
    · exact List.mem_cons.mpr (.inl h)
    · exact List.mem_cons_of_mem _ h
theorem mxL_ge {l : List Int} {x : Int} (h : x ∈ l) : x ≤ mxL l := by
  cases l with
  | nil => cases h
  | cons a l =>
    rcases List.mem_cons.mp h with rfl | h
    · exact (maxI_le l _).1
    · exact (maxI_le l a).2.1 x h
theorem mxL_mem {l : List Int} (h : l ≠ []) : mxL l ∈ l := by
  cases l with
  | nil => exact absurd rfl h
  | cons a l =>
    rcases (maxI_le l a).2.2 with h | h
    · exact List.mem_cons.mpr (.inl h)
    · exact List.mem_cons_of_mem _ h
theorem minI_app : ∀ (l : List Int) (a x : Int), minI a (l ++ [x]) = if x < minI a l then x else minI a l
  | [], a, x => rfl
  | b :: l, a, x => by
    show minI _ (l ++ [x]) = _
    rw [minI_app l]
    rfl
theorem maxI_app : ∀ (l : List Int) (a x : Int), maxI a (l ++ [x]) = if x > maxI a l then x else maxI a l
  | [], a, x => rfl
  | b :: l, a, x => by
    show maxI _ (l ++ [x]) = _
    rw [maxI_app l]
    rfl
theorem bi_min_t {l : List Int} (h : l ≠ []) : biV .min [.tup (l.map .int)] = .ok (.int (mnL l), false) := by
  cases l with
  | nil => exact absurd rfl h
  | cons a l => simp only [biV, ints_map]; rfl
theorem bi_max_t {l : List Int} (h : l ≠ []) : biV .max [.tup (l.map .int)] = .ok (.int (mxL l), false) := by
  cases l with
  | nil => exact absurd rfl h
  | cons a l => simp only [biV, ints_map]; rfl
theorem bi_min_l {l : List Int} (h : l ≠ []) : biV .min [.lst (l.map .int)] = .ok (.int (mnL l), false) := by
  cases l with
  | nil => exact absurd rfl h
  | cons a l => simp only [biV, ints_map]; rfl
theorem bi_max_l {l : List Int} (h : l ≠ []) : biV .max [.lst (l.map .int)] = .ok (.int (mxL l), false) := by
  cases l with
  | nil => exact absurd rfl h
  | cons a l => simp only [biV, ints_map]; rfl
set_option autoImplicit false
set_option linter.all false
set_option maxRecDepth 20000
/-! ### sorted integers -/
def insI (x : Int) : List Int → List Int
  | [] => [x]
  | y :: ys => if y < x then y :: insI x ys else x :: y :: ys
def sortI (xs : List Int) : List Int := xs.foldr insI []
theorem ins_int (x : Int) : ∀ (l : List Int), ins (.int x) (l.map .int) = (insI x l).map .int
  | [] => rfl
  | y :: ys => by
    rw [List.map_cons, ins, insI]
    have e : PV.lt (.int y) (.int x) = decide (y < x) := by rw [PV.lt]
    rw [e]
    by_cases h : y < x
    · simp [h, ins_int x ys]
    · simp [h]
theorem sortP_int : ∀ (l : List Int), sortP (l.map .int) = (sortI l).map .int
  | [] => rfl
  | x :: l => by
    show ins (.int x) (sortP (l.map .int)) = (insI x (sortI l)).map .int
    rw [sortP_int l, ins_int]
theorem insI_perm (x : Int) : ∀ (l : List Int), (insI x l).Perm (x :: l)
  | [] => List.Perm.refl _
  | y :: ys => by
    unfold insI
    split
    · exact ((insI_perm x ys).cons y).trans (List.Perm.swap x y ys)
    · exact List.Perm.refl _
theorem sortI_perm : ∀ (l : List Int), (sortI l).Perm l
  | [] => List.Perm.refl _
  | x :: l => (insI_perm x _).trans ((sortI_perm l).cons x)
theorem insI_sorted (x : Int) : ∀ {l : List Int}, l.Pairwise (· ≤ ·) → (insI x l).Pairwise (· ≤ ·)
  | [], _ => List.pairwise_singleton _ _
  | y :: ys, h => by
    unfold insI
    have h' := List.pairwise_cons.mp h
    split
    · rename_i hy
      refine List.pairwise_cons.mpr ⟨fun z hz => ?_, insI_sorted x h'.2⟩
      rcases List.mem_cons.mp ((insI_perm x ys).mem_iff.mp hz) with rfl | hz
      · omega
      · exact h'.1 z hz
    · rename_i hy
      refine List.pairwise_cons.mpr ⟨fun z hz => ?_, h⟩
      rcases List.mem_cons.mp hz with rfl | hz
      · omega
      · have := h'.1 z hz
        omega
theorem sortI_sorted : ∀ (l : List Int), (sortI l).Pairwise (· ≤ ·)
  | [] => List.Pairwise.nil
  | x :: l => insI_sorted x (sortI_sorted l)
theorem idP_sorted (n : Nat) : (idP n).Pairwise (· ≤ ·) := by
  unfold idP
  rw [List.pairwise_map]
  exact List.Pairwise.imp (fun h => by omega) (List.pairwise_lt_range (n := n))
theorem sortI_idP {p : List Int} {n : Nat} (hp : p.Perm (idP n)) : sortI p = idP n :=
  List.Perm.eq_of_pairwise (le := (· ≤ ·)) (fun a b _ _ h1 h2 => Int.le_antisymm h1 h2) (sortI_sorted p) (idP_sorted n) ((sortI_perm p).trans hp)
theorem nodup_map {α β : Type} {f : α → β} {l : List α} (hf : ∀ a b, a ∈ l → b ∈ l → f a = f b → a = b) (h : l.Nodup) : (l.map f).Nodup := by
  rw [List.Nodup, List.pairwise_map]
  refine List.Pairwise.imp_of_mem (R := (· ≠ ·)) (fun ha hb hab e => hab (hf _ _ ha hb e)) h
/-! ### permutations -/
section
variable {p : List Int} {n : Nat} (hp : p.Perm (idP n))
include hp
theorem pm_len : p.length = n := by rw [hp.length_eq, idP_length]
theorem pm_nodup : p.Nodup := by
  rw [hp.nodup_iff]
  unfold idP
  exact nodup_map (fun a b _ _ h => by omega) List.nodup_range
theorem pm_mem {x : Int} : x ∈ p ↔ 1 ≤ x ∧ x ≤ n := by
  rw [hp.mem_iff]
  unfold idP
  rw [List.mem_map]
  constructor
  · rintro ⟨k, hk, rfl⟩
    have := List.mem_range.mp hk
    omega
  · intro ⟨h1, h2⟩
    exact ⟨(x - 1).toNat, List.mem_range.mpr (by omega), by omega⟩
end
set_option autoImplicit false
set_option linter.all false
set_option maxRecDepth 20000
/-- a number from lo to hi -/
def fromOk (lo hi : Int) : PV → Bool
  | .int i => decide (lo ≤ i) && decide (i ≤ hi)
  | _ => false
theorem l_check_from (d : Nat) (v : PV) (lo hi : Int) (hv : v.typed = true) (hd : 2 ≤ d) : callF tab d F_check_from false [v, .int lo, .int hi] = if fromOk lo hi v = true then .ok ((.non, false), .non) else .exc X_Malformed .non := by
  obtain ⟨d, rfl⟩ : ∃ e, d = e + 1 := ⟨d - 1, by omega⟩
  rw [call_eq t_check_from rfl]
  cases v with
  | int i =>
    by_cases h1 : lo ≤ i <;> by_cases h2 : i ≤ hi <;> k_search [D_check_from, l_is_integer d (.int i) rfl (by omega), h1, h2, fromOk]
  | non | bl | str | tup | lst => k_search [D_check_from, l_is_integer d _ hv (by omega)]; rfl
  | _ => cases hv
theorem l_check_from_ok (d : Nat) (i lo hi : Int) (h1 : lo ≤ i) (h2 : i ≤ hi) (hd : 2 ≤ d) : callF tab d F_check_from false [.int i, .int lo, .int hi] = .ok ((.non, false), .non) := by
  rw [l_check_from d _ lo hi rfl hd]
  simp [fromOk, h1, h2]
set_option autoImplicit false
set_option linter.all false
set_option maxRecDepth 20000
/-! ### rows of integers, of indexes; rows of rows -/
abbrev pV (p : List Int) : PV := .tup (p.map .int)
abbrev nV (own : List Nat) : PV := .tup (own.map fun k : Nat => PV.int (k : Int))
abbrev av (p : List Int) (k : Nat) : Int := p.getD k 0
theorem get_pm {p : List Int} {k : Nat} (h : k < p.length) : (p.map PV.int)[k]? = some (.int (av p k)) := by
  rw [List.getElem?_map, List.getElem?_eq_getElem h, av, List.getD_eq_getElem?_getD, List.getElem?_eq_getElem h]
  rfl
theorem get_nm {p : List Nat} {k : Nat} (h : k < p.length) : (p.map fun k : Nat => PV.int (k : Int))[k]? = some (.int (p.getD k 0 : Nat)) := by
  rw [List.getElem?_map, List.getElem?_eq_getElem h, List.getD_eq_getElem?_getD, List.getElem?_eq_getElem h]
  rfl
theorem nice_pV (p : List Int) (h : p.length ≤ 1000000) : nice 1 (pV p) := ⟨by rw [List.length_map]; omega, fun x hx => by obtain ⟨i, _, rfl⟩ := List.mem_map.mp hx; trivial⟩
theorem nice_nV (p : List Nat) (h : p.length ≤ 1000000) : nice 1 (nV p) := ⟨by rw [List.length_map]; omega, fun x hx => by obtain ⟨i, _, rfl⟩ := List.mem_map.mp hx; trivial⟩
theorem nice_pVs (L : List (List Int)) (h : L.length ≤ 1000000) (h2 : ∀ p ∈ L, p.length ≤ 1000000) : nice 2 (.tup (L.map pV)) := ⟨by rw [List.length_map]; omega, fun x hx => by obtain ⟨p, hp, rfl⟩ := List.mem_map.mp hx; exact nice_pV p (h2 p hp)⟩
theorem nice_nVs (L : List (List Nat)) (h : L.length ≤ 1000000) (h2 : ∀ p ∈ L, p.length ≤ 1000000) : nice 2 (.tup (L.map nV)) := ⟨by rw [List.length_map]; omega, fun x hx => by obtain ⟨p, hp, rfl⟩ := List.mem_map.mp hx; exact nice_nV p (h2 p hp)⟩
theorem data_pV (d : Nat) (p : List Int) : PV.data (d + 1) (pV p) = true := datas_int d p
theorem data_nV (d : Nat) (p : List Nat) : PV.data (d + 1) (nV p) = true := datas_of fun x hx => by obtain ⟨i, _, rfl⟩ := List.mem_map.mp hx; cases d <;> rfl
theorem flatMap_len {α β : Type} (G : α → List β) (c : Nat) : ∀ (l : List α), (∀ x ∈ l, (G x).length ≤ c) → (l.flatMap G).length ≤ l.length * c
  | [], _ => by simp
  | x :: l, h => by
    rw [List.flatMap_cons, List.length_append, List.length_cons, Nat.succ_mul]
    have h1 := h x (List.mem_cons_self ..)
    have h2 := flatMap_len G c l fun y hy => h y (List.mem_cons_of_mem _ hy)
    omega
/-! ### sorted rows -/
def ltI : List Int → List Int → Bool
  | [], [] => false
  | [], _ :: _ => true
  | _ :: _, [] => false
  | x :: xs, y :: ys => if x = y then ltI xs ys else decide (x < y)
theorem ltl_pV : ∀ (x y : List Int), PV.ltl (x.map .int) (y.map .int) = ltI x y
  | [], [] => by simp [PV.ltl, ltI]
  | [], _ :: _ => by simp [PV.ltl, ltI]
  | _ :: _, [] => by simp [PV.ltl, ltI]
  | x :: xs, y :: ys => by
    rw [List.map_cons, List.map_cons, PV.ltl, ltI, q_ii, PV.lt, ltl_pV xs ys]
    by_cases h : x = y <;> simp [h]
theorem lt_pV (x y : List Int) : PV.lt (pV x) (pV y) = ltI x y := by rw [PV.lt]; exact ltl_pV x y
def insT (x : List Int) : List (List Int) → List (List Int)
  | [] => [x]
  | y :: ys => if ltI y x = true then y :: insT x ys else x :: y :: ys
def sortT (xs : List (List Int)) : List (List Int) := xs.foldr insT []
theorem ins_pV (x : List Int) : ∀ (l : List (List Int)), ins (pV x) (l.map pV) = (insT x l).map pV
  | [] => rfl
  | y :: ys => by
    rw [List.map_cons, ins, insT, lt_pV]
    by_cases h : ltI y x = true
    · simp [h, ins_pV x ys]
    · simp [h]
theorem sortP_pV : ∀ (l : List (List Int)), sortP (l.map pV) = (sortT l).map pV
  | [] => rfl
  | x :: l => by
    show ins (pV x) (sortP (l.map pV)) = (insT x (sortT l)).map pV
    rw [sortP_pV l, ins_pV]
theorem insT_perm (x : List Int) : ∀ (l : List (List Int)), (insT x l).Perm (x :: l)
  | [] => List.Perm.refl _
  | y :: ys => by
    unfold insT
    split
    · exact ((insT_perm x ys).cons y).trans (List.Perm.swap x y ys)
    · exact List.Perm.refl _
theorem sortT_perm : ∀ (l : List (List Int)), (sortT l).Perm l
  | [] => List.Perm.refl _
  | x :: l => (insT_perm x _).trans ((sortT_perm l).cons x)
theorem alikes_int : ∀ (x y : List Int), PV.alikes (x.map .int) (y.map .int) = true
  | [], _ => by simp [PV.alikes]
  | _ :: _, [] => by simp [PV.alikes]
  | x :: xs, y :: ys => by simp [PV.alikes, PV.alike, alikes_int xs ys]
theorem sortable_pV (L : List (List Int)) (h : ∀ p ∈ L, p ≠ []) : sortable (L.map pV) = true := by
  unfold sortable
  rw [Bool.and_eq_true, Bool.and_eq_true]
  refine ⟨⟨?_, ?_⟩, datas_of fun x hx => ?_⟩
  · rw [Bool.or_eq_true]
    refine .inl (List.all_eq_true.mpr fun x hx => ?_)
    obtain ⟨p, hp, rfl⟩ := List.mem_map.mp hx
    cases p with
    | nil => exact absurd rfl (h _ hp)
    | cons a p => rfl
  · refine List.all_eq_true.mpr fun x hx => List.all_eq_true.mpr fun y hy => ?_
    obtain ⟨p, _, rfl⟩ := List.mem_map.mp hx
    obtain ⟨q, _, rfl⟩ := List.mem_map.mp hy
    show PV.alike (.tup _) (.tup _) = true
    rw [PV.alike]
    exact alikes_int p q
  · obtain ⟨p, _, rfl⟩ := List.mem_map.mp hx
    exact data_pV 49 p
theorem sort_ok (L : List (List Int)) (h : L.length ≤ 1 ∨ ∀ p ∈ L, p ≠ []) : (decide (L.length ≤ 1) || sortable (L.map pV)) = true := by
  rcases h with h | h
  · rw [decide_eq_true h]; rfl
  · rw [sortable_pV L h, Bool.or_true]
set_option autoImplicit false
set_option linter.all false
set_option maxRecDepth 20000
/-! ### signed permutations -/
def absI (i : Int) : Int := if i < 0 then -i else i
def absV : PV → PV
  | .int i => .int (absI i)
  | _ => .non
def isSgn : PV → Bool
  | .tup xs => decide (xs.length ≤ 9) && (xs.all isInt && PV.eqvs (sortP (xs.map absV)) (rngL 1 (xs.length + 1)))
  | _ => false
def sgnL (p : List Int) : Bool := decide (p.length ≤ 9) && decide (sortI (p.map absI) = idP p.length)
theorem isSgn_pV (p : List Int) : isSgn (pV p) = sgnL p := by
  show (decide ((p.map PV.int).length ≤ 9) && ((p.map PV.int).all isInt && PV.eqvs (sortP ((p.map PV.int).map absV)) (rngL 1 (((p.map PV.int).length : Int) + 1)))) = _
  have e : (p.map PV.int).map absV = (p.map absI).map PV.int := by rw [List.map_map, List.map_map]; rfl
  rw [List.length_map, e, sortP_int, rngL_1, eqvs_int]
  have : (p.map PV.int).all isInt = true := by simp [isInt]
  rw [this, Bool.true_and]
  rfl
theorem l_is_signed (d : Nat) (v : PV) (hv : PV.data 40 v = true) (hd : 2 ≤ d) : callF tab d F_is_signed false [v] = .ok ((.bl (isSgn v), false), .non) := by
  obtain ⟨d, rfl⟩ : ∃ e, d = e + 1 := ⟨d - 1, by omega⟩
  rw [call_eq t_is_signed rfl]
  cases v with
  | tup xs =>
    by_cases h : xs.length ≤ 9
    · have hh : ¬ ((9 : Int) < (xs.length : Int)) := by omega
      have hds : PV.datas 39 xs = true := hv
      have c0 : lenOk xs.length = true := lenOk_of (by omega)
      k_search [D_is_signed, hh, c0, and_self]
      rw [lc_all isInt]
      · k_search [List.all_map, Function.id_comp]
        cases ha : xs.all isInt with
        | false => simp [isSgn, ha]
        | true =>
          obtain ⟨l, rfl⟩ := ints_all ha
          have hl : l.length ≤ 9 := by simpa using h
          have c2 : rngOk 1 ((l.length : Int) + 1) = true := rngOk_of (by omega) (by omega) (by omega) (by omega) (by omega)
          have c3 : lenOk l.length = true := lenOk_of (by omega)
          k_search [c3, and_self]
          rw [lcE_int PV.int absI]
          · k_search [sortable_ints, c2, sortP_int, datas_int, datas_rngL, and_self]
            have := isSgn_pV l
            show Res.ok _ = _
            rw [this]
            simp [sgnL, hl, rngL_1]
          · intro i hi
            k_search [absI]
            exact ⟨_, rfl, rfl⟩
      · intro x hx
        have ht : x.typed = true := typed_of_data (datas_mem hds hx)
        k_search [l_is_integer d x ht (by omega)]
        exact ⟨_, rfl, rfl⟩
    · have hh : (9 : Int) < (xs.length : Int) := by omega
      k_search [D_is_signed, hh]
      simp [isSgn, h]
  | fn | rng | scr | dic | set => cases hv
  | _ => k_search [D_is_signed]; rfl
theorem l_check_signed (d : Nat) (v : PV) (hv : PV.data 40 v = true) (hd : 3 ≤ d) : callF tab d F_check_signed false [v] = if isSgn v = true then .ok ((.non, false), .non) else .exc X_Malformed .non := by
  obtain ⟨d, rfl⟩ : ∃ e, d = e + 1 := ⟨d - 1, by omega⟩
  rw [call_eq t_check_signed rfl]
  k_search [D_check_signed, l_is_signed d v hv (by omega)]
  cases isSgn v <;> k_search []
theorem l_check_signed_ok (d : Nat) (p : List Int) (h : sgnL p = true) (hd : 3 ≤ d) : callF tab d F_check_signed false [pV p] = .ok ((.non, false), .non) := by
  rw [l_check_signed d _ (data_pV 39 p) hd, isSgn_pV, h]
  rfl
set_option autoImplicit false
set_option linter.all false
set_option maxRecDepth 20000
/-! ### fillings -/
def fstep (w : Int) (own : List Int) : List (List Int) := (((List.range' 1 (w.toNat + 1 - 1)).map fun k : Nat => (k : Int)).filter fun x => !own.any fun z => decide (z = x)).map fun x => own ++ [x]
def filF (L : List (List Int)) (w : Int) : List (List Int) := L.flatMap (fstep w)
def fil (b : List Int) : List (List Int) := b.foldl filF [[]]
theorem any_pV (own : List Int) (x : Int) : ((own.map PV.int).any fun z => PV.eqv z (.int x)) = own.any fun z => decide (z = x) := by
  rw [List.any_map]
  congr 1
theorem fstep_len (w : Int) (own : List Int) : (fstep w own).length ≤ w.toNat := by
  unfold fstep
  rw [List.length_map]
  refine Nat.le_trans (List.length_filter_le _ _) ?_
  rw [List.length_map, List.length_range']
  omega
theorem pV_app (own : List Int) (x : Int) : (own.map PV.int) ++ [PV.int x] = (own ++ [x]).map PV.int := by simp
theorem rngL_w (w : Int) (hw : 0 ≤ w) : rngL 1 (w + 1) = ((List.range' 1 (w.toNat + 1 - 1)).map fun k : Nat => (k : Int)).map PV.int := by
  have := rngL_n 1 (w.toNat + 1)
  rw [show ((w.toNat + 1 : Nat) : Int) = w + 1 by omega] at this
  rw [List.map_map]
  exact this
/-- rows of at most seven boxes, at most seven rows -/
def small (b : List Int) : Prop := ∀ w ∈ b, 0 ≤ w ∧ w ≤ 7
theorem filF_len {L : List (List Int)} {w : Int} (hw : w ≤ 7) : (filF L w).length ≤ L.length * 7 :=
  flatMap_len (fstep w) 7 L fun own _ => Nat.le_trans (fstep_len w own) (by omega)
theorem fold_len : ∀ (b : List Int) (L : List (List Int)), small b → (b.foldl filF L).length ≤ L.length * 7 ^ b.length
  | [], L, _ => by simp
  | w :: b, L, h => by
    have h1 := filF_len (L := L) (h w (List.mem_cons_self ..)).2
    have h2 := fold_len b (filF L w) fun x hx => h x (List.mem_cons_of_mem _ hx)
    rw [List.foldl_cons, List.length_cons, Nat.pow_succ]
    calc (b.foldl filF (filF L w)).length ≤ (filF L w).length * 7 ^ b.length := h2
      _ ≤ (L.length * 7) * 7 ^ b.length := Nat.mul_le_mul_right _ h1
      _ = L.length * (7 ^ b.length * 7) := by rw [Nat.mul_assoc, Nat.mul_comm 7]
set_option autoImplicit false
set_option linter.all false
set_option maxRecDepth 20000
/-- the square board -/
abbrev sqB (n : Nat) : List Int := List.replicate n (n : Int)
theorem l_law_perms (d n : Nat) (hn : n ≤ 7) (hd : 4 ≤ d) : callF tab d F_law_perms false [.int (n : Int)] = .ok ((.lst ((fil (sqB n)).map pV), true), .non) := by
  obtain ⟨d, rfl⟩ : ∃ e, d = e + 1 := ⟨d - 1, by omega⟩
  rw [call_eq t_law_perms rfl]
  have c0 : rng1Ok (n : Int) = true := rng1Ok_of (by omega) (by omega)
  k_search [D_law_perms, c0, rngL_0]
  refine forL_post (Post := fun z => z = Res.ok ((PV.lst ((fil (sqB n)).map pV), true), PV.non)) (fun k : Nat => PV.int (k : Int))
    (fun r ρ => ∃ (L : List (List Int)) (s2 s3 s4 s5 : Slot), ρ = [.s (.int (n : Int)), .o (.lst (L.map pV)), s2, s3, s4, s5] ∧ notOwn s5 = true ∧ L.length * 7 ^ r.length ≤ 7 ^ 7 ∧ (List.replicate r.length (n : Int)).foldl filF L = fil (sqB n) ∧ ∀ own ∈ L, own.length + r.length ≤ 7) ⟨[[]], .n, .n, .n, .n, rfl, rfl, by simpa using Nat.pow_le_pow_right (n := 7) (by omega) hn, by rw [List.length_range]; rfl, (fun own ho => by rw [show own = [] by simpa using ho]; simpa using hn)⟩ ?_ ?_
  · rintro w0 r _ ⟨L, s2, s3, s4, s5, rfl, n5, hB, hf, hlen⟩
    obtain ⟨w, hw⟩ : ∃ w : Int, w = (n : Int) := ⟨_, rfl⟩
    have hw0 : 0 ≤ w := by omega
    have hw7 : w ≤ 7 := by omega
    rw [← hw] at hf ⊢
    k_search []
    change goesOn _ _
    have hB' : (filF L w).length ≤ 7 ^ 7 := by
      have h1 := filF_len (L := L) hw7
      rw [List.length_cons, Nat.pow_succ] at hB
      have : L.length * 7 ≤ L.length * (7 ^ r.length * 7) := Nat.mul_le_mul_left _ (by have : 0 < 7 ^ r.length := Nat.pow_pos (by omega); omega)
      omega
    refine forL_growP (Post := goesOn _) pV (fun own => (fstep w own).map pV) (fun F ρ => ∃ (s4 s5 : Slot), ρ = [.s (.int w), .s (.lst (L.map pV)), .s (.int (w0 : Int)), .o (.lst F), s4, s5] ∧ notOwn s5 = true) (filF L w).length [] ⟨s4, s5, rfl, n5⟩ ?_ ?_ ?_
    · rw [← List.map_flatMap, List.length_map]
      exact Nat.le_of_eq (Nat.zero_add _)
    · rintro own ho F _ hF ⟨s4, s5, rfl, n5⟩
      have c1 : rng2Ok 1 (w + 1) = true := rng2Ok_of (by omega) (by omega) (by omega) (by omega)
      have c2 : lenOk (w.toNat + 1 - 1) = true := lenOk_of (by omega)
      have c3 : lenOk (F.length + (fstep w own).length) = true := lenOk_of (by rw [List.length_map] at hF; omega)
      k_search [c1, rngL_w w hw0, List.length_range', c2, n5, and_self]
      rw [lcE_if PV.int (fun x => !own.any fun z => decide (z = x)) (fun x => pV (own ++ [x]))]
      · have e : (((List.range' 1 (w.toNat + 1 - 1)).map fun k : Nat => (k : Int)).filter fun x => !own.any fun z => decide (z = x)).map (fun x => pV (own ++ [x])) = (fstep w own).map pV := by unfold fstep; rw [List.map_map]; rfl
        k_search [e, c3]
        exact ⟨_, .inl rfl, _, _, rfl, n5⟩
      · intro x hx
        have c4 : lenOk (own.length + 1) = true := lenOk_of (by have := hlen own ho; rw [List.length_cons] at this; omega)
        k_search [datas_int, any_pV, c4, pV_app]
        exact ⟨_, rfl, rfl⟩
    · rintro _ ⟨s4, s5, rfl, n5⟩
      have e : L.flatMap (fun own => (fstep w own).map pV) = (filF L w).map pV := by rw [filF, List.map_flatMap]
      k_search [e]
      refine ⟨_, .inl rfl, filF L w, _, _, _, _, rfl, n5, ?_, hf, ?_⟩
      · have h1 := filF_len (L := L) hw7
        calc (filF L w).length * 7 ^ r.length ≤ (L.length * 7) * 7 ^ r.length := Nat.mul_le_mul_right _ h1
          _ = L.length * 7 ^ (r.length + 1) := by rw [Nat.pow_succ, Nat.mul_assoc, Nat.mul_comm 7]
          _ ≤ 7 ^ 7 := hB
      · intro o2 ho2
        obtain ⟨own, ho, h2⟩ := List.mem_flatMap.mp ho2
        obtain ⟨x, _, rfl⟩ := List.mem_map.mp h2
        have := hlen own ho
        rw [List.length_cons] at this
        rw [List.length_append, List.length_singleton]
        omega
  · rintro _ ⟨L, s2, s3, s4, s5, rfl, n5, hB, hf, hlen⟩
    have : L = fil (sqB n) := hf
    subst this
    k_search []
set_option autoImplicit false
set_option linter.all false
set_option maxRecDepth 20000
/-! ### all signed permutations -/
def rz (x y : Int) : Int := if x ≤ y then y + 1 else if x ≤ -y then y - 1 else y
theorem l_raised_size (d : Nat) (y x : Int) (hd : 1 ≤ d) : callF tab d F_raised_size false [.int y, .int x] = .ok ((.int (rz x y), false), .non) := by
  obtain ⟨d, rfl⟩ : ∃ e, d = e + 1 := ⟨d - 1, by omega⟩
  rw [call_eq t_raised_size rfl]
  by_cases h1 : x ≤ y
  · have e : rz x y = y + 1 := by unfold rz; rw [if_pos h1]
    k_search [D_raised_size, h1, e]
  · by_cases h2 : x ≤ -y
    · have e : rz x y = y - 1 := by unfold rz; rw [if_neg h1, if_pos h2]
      k_search [D_raised_size, h1, h2, e]
    · have e : rz x y = y := by unfold rz; rw [if_neg h1, if_neg h2]
      k_search [D_raised_size, h1, h2, e]
def sgTwo (own : List Int) (x : Nat) : List (List Int) := [own.map (rz (x : Int)) ++ [(x : Int)], own.map (rz (x : Int)) ++ [-(x : Int)]]
def sgStep (k : Nat) (own : List Int) : List (List Int) := (List.range' 1 k).flatMap (sgTwo own)
def sgRow : Nat → List (List Int)
  | 0 => [[]]
  | k + 1 => (sgRow k).flatMap (sgStep (k + 1))
def sgO (n : Nat) : List (List Int) := sortT (sgRow n)
theorem sgRow_ok : ((List.range 5).all fun n => decide ((sgRow n).length ≤ 400) && (sgRow n).all fun own => decide (own.length = n)) = true := by decide +kernel
theorem sgRow_of {n : Nat} (hn : n ≤ 4) : (sgRow n).length ≤ 400 ∧ ∀ own ∈ sgRow n, own.length = n := by
  have := List.all_eq_true.mp sgRow_ok n (List.mem_range.mpr (by omega))
  rw [Bool.and_eq_true, decide_eq_true_eq, List.all_eq_true] at this
  exact ⟨this.1, fun own ho => of_decide_eq_true (this.2 own ho)⟩
theorem sgO_of {n : Nat} (hn : n ≤ 4) : (sgO n).length ≤ 400 ∧ ∀ own ∈ sgO n, own.length = n := by
  obtain ⟨h1, h2⟩ := sgRow_of hn
  have hp := sortT_perm (sgRow n)
  exact ⟨by unfold sgO; rw [hp.length_eq]; exact h1, fun own ho => h2 own (hp.mem_iff.mp ho)⟩
theorem sg_sort {n : Nat} (hn : n ≤ 4) : (decide ((sgRow n).length ≤ 1) || sortable ((sgRow n).map pV)) = true := by
  refine sort_ok _ ?_
  by_cases h0 : n = 0
  · subst h0
    exact .inl (by decide +kernel)
  · refine .inr fun p hp e => ?_
    have := (sgRow_of hn).2 p hp
    rw [e] at this
    simp at this
    omega
theorem l_signed_of (d n : Nat) (hn : n ≤ 4) (hd : 4 ≤ d) : callF tab d F_signed_of false [.int (n : Int)] = .ok ((.tup ((sgO n).map pV), false), .non) := by
  obtain ⟨d, rfl⟩ : ∃ e, d = e + 1 := ⟨d - 1, by omega⟩
  rw [call_eq t_signed_of rfl]
  have c1 : rng2Ok 1 ((n : Int) + 1) = true := rng2Ok_of (by omega) (by omega) (by omega) (by omega)
  have r1 : rngL 1 ((n : Int) + 1) = (List.range' 1 (n + 1 - 1)).map fun k : Nat => PV.int (k : Int) := rngL_n 1 (n + 1)
  k_search [D_signed_of, l_check_from_ok d (n : Int) 0 5 (by omega) (by omega) (by omega), c1, r1]
  refine forL_post (Post := fun z => z = Res.ok ((PV.tup ((sgO n).map pV), false), PV.non)) (fun k : Nat => PV.int (k : Int)) (fun r ρ => ∃ (k : Nat) (s2 s3 s4 s5 s6 s7 : Slot), r = List.range' (k + 1) (n - k) ∧ k ≤ n ∧ ρ = [.s (.int (n : Int)), .o (.lst ((sgRow k).map pV)), s2, s3, s4, s5, s6, s7] ∧ notOwn s7 = true) ⟨0, .n, .n, .n, .n, .n, .n, rfl, by omega, rfl, rfl⟩ ?_ ?_
  · rintro x r _ ⟨k, s2, s3, s4, s5, s6, s7, hr, hk, rfl, n7⟩
    have hkl : k < n := by
      apply Classical.byContradiction
      intro h
      rw [show n - k = 0 by omega] at hr
      cases hr
    rw [show n - k = (n - (k + 1)) + 1 by omega, List.range'_succ] at hr
    obtain ⟨rfl, rfl⟩ : x = k + 1 ∧ r = List.range' (k + 1 + 1) (n - (k + 1)) := by simpa using hr
    obtain ⟨h1, h2⟩ := sgRow_of (n := k) (by omega)
    obtain ⟨h3, h4⟩ := sgRow_of (n := k + 1) (by omega)
    k_search []
    change goesOn _ _
    refine forL_growP (Post := goesOn _) pV (fun own => (sgStep (k + 1) own).map pV) (fun F ρ => ∃ (s4 s5 s6 s7 : Slot), ρ = [.s (.int (n : Int)), .s (.lst ((sgRow k).map pV)), .s (.int ((k + 1 : Nat) : Int)), .o (.lst F), s4, s5, s6, s7] ∧ notOwn s7 = true) (sgRow (k + 1)).length [] ⟨s4, s5, s6, s7, rfl, n7⟩ ?_ ?_ ?_
    · rw [← List.map_flatMap, List.length_map]
      exact Nat.le_of_eq (Nat.zero_add _)
    · rintro own ho F _ hF ⟨s4, s5, s6, s7, rfl, n7⟩
      have hol := h2 own ho
      have c2 : rng2Ok 1 (((k + 1 : Nat) : Int) + 1) = true := rng2Ok_of (by omega) (by omega) (by omega) (by omega)
      have r2 : rngL 1 (((k + 1 : Nat) : Int) + 1) = (List.range' 1 (k + 1 + 1 - 1)).map fun k : Nat => PV.int (k : Int) := rngL_n 1 (k + 1 + 1)
      k_search [c2, r2]
      change goesOn _ _
      rw [List.length_map] at hF
      refine forL_growP (Post := goesOn _) (fun k : Nat => PV.int (k : Int)) (fun y => (sgTwo own y).map pV) (fun F ρ => ∃ (s5 s6 s7 : Slot), ρ = [.s (.int (n : Int)), .s (.lst ((sgRow k).map pV)), .s (.int ((k + 1 : Nat) : Int)), .o (.lst F), .s (pV own), s5, s6, s7] ∧ notOwn s7 = true) (F.length + (sgStep (k + 1) own).length) F ⟨s5, s6, s7, rfl, n7⟩ ?_ ?_ ?_
      · rw [← List.map_flatMap, List.length_map]
        exact Nat.le_refl _
      · rintro y hy F' _ hF' ⟨s5, s6, s7, rfl, n7⟩
        have c3 : lenOk own.length = true := lenOk_of (by omega)
        have c4 : lenOk (own.length + 1) = true := lenOk_of (by omega)
        have c5 : lenOk (F'.length + 2) = true := lenOk_of (by have : (List.map pV (sgTwo own y)).length = 2 := rfl; rw [this] at hF'; omega)
        k_search [c3, n7, and_self]
        rw [lcE_int PV.int (rz (y : Int))]
        · k_search [List.length_map, c4, pV_app, c5]
          exact ⟨_, .inl rfl, _, _, _, rfl, n7⟩
        · intro z hz
          k_search [l_raised_size d z y (by omega)]
          exact ⟨_, rfl, rfl⟩
      · rintro _ ⟨s5, s6, s7, rfl, n7⟩
        have e : (List.range' 1 (k + 1 + 1 - 1)).flatMap (fun y => (sgTwo own y).map pV) = (sgStep (k + 1) own).map pV := by rw [sgStep, List.map_flatMap]; rfl
        k_search [e]
        exact ⟨_, .inl rfl, _, _, _, _, rfl, n7⟩
    · rintro _ ⟨s4, s5, s6, s7, rfl, n7⟩
      have e : (sgRow k).flatMap (fun own => (sgStep (k + 1) own).map pV) = (sgRow (k + 1)).map pV := by rw [sgRow, List.map_flatMap]
      k_search [e]
      exact ⟨_, .inl rfl, k + 1, _, _, _, _, _, _, rfl, by omega, rfl, n7⟩
  · rintro _ ⟨k, s2, s3, s4, s5, s6, s7, hr, hk, rfl, n7⟩
    have : k = n := by
      have := congrArg List.length hr
      simp at this
      omega
    subst this
    k_search [sg_sort hn, sortP_pV, sgO]
/-! ### by the law -/
def sgR (R : List (List Int)) (x : Int) : List (List Int) := (R.map fun r => r ++ [x]) ++ R.map fun r => r ++ [-x]
def sgRows (p : List Int) : List (List Int) := p.foldl sgR [[]]
def sgAll (n : Nat) : List (List Int) := (fil (sqB n)).flatMap sgRows
theorem sgA_ok : ((List.range 5).all fun n => decide (sortT (sgAll n) = sgO n) && (decide ((sgAll n).length ≤ 400) && ((sgAll n).all fun p => decide (p.length = n)) && (fil (sqB n)).all fun p => decide (p.length = n))) = true := by decide +kernel
structure Sa (n : Nat) : Prop where
  eq : sortT (sgAll n) = sgO n
  few : (sgAll n).length ≤ 400
  len : ∀ p ∈ sgAll n, p.length = n
  pl : ∀ p ∈ fil (sqB n), p.length = n
theorem sa_of {n : Nat} (hn : n ≤ 4) : Sa n := by
  have := List.all_eq_true.mp sgA_ok n (List.mem_range.mpr (by omega))
  simp only [Bool.and_eq_true, decide_eq_true_eq, List.all_eq_true] at this
  exact ⟨this.1, this.2.1.1, this.2.1.2, this.2.2⟩
theorem sgR_len (R : List (List Int)) (x : Int) : (sgR R x).length = R.length * 2 := by
  unfold sgR
  rw [List.length_append, List.length_map, List.length_map]
  omega
theorem l_law_signed_all (d n : Nat) (hn : n ≤ 4) (hd : 5 ≤ d) : callF tab d F_law_signed_all false [.int (n : Int)] = .ok ((.lst ((sgO n).map pV), true), .non) := by
  obtain ⟨d, rfl⟩ : ∃ e, d = e + 1 := ⟨d - 1, by omega⟩
  rw [call_eq t_law_signed_all rfl]
  have A := sa_of hn
  k_search [D_law_signed_all, l_law_perms d n (by omega) (by omega)]
  refine forL_growP (Post := fun z => z = Res.ok ((PV.lst ((sgO n).map pV), true), PV.non)) pV (fun p => (sgRows p).map pV) (fun F ρ => ∃ (s2 s3 s4 s5 : Slot), ρ = [.s (.int (n : Int)), .o (.lst F), s2, s3, s4, s5] ∧ notOwn s5 = true) 400 [] ⟨.n, .n, .n, .n, rfl, rfl⟩ ?_ ?_ ?_
  · rw [← List.map_flatMap, List.length_map]
    have := A.few
    unfold sgAll at this
    simpa using this
  · rintro p hp F _ hF ⟨s2, s3, s4, s5, rfl, n5⟩
    have hpl := A.pl p hp
    have e0 : ([.tup []] : List PV) = ([[]] : List (List Int)).map pV := rfl
    k_search []
    rw [e0]
    rw [List.length_map] at hF
    change goesOn _ _
    refine forL_post (Post := goesOn _) PV.int (fun r ρ => ∃ (R : List (List Int)) (s4 s5 : Slot), ρ = [.s (.int (n : Int)), .o (.lst F), .s (pV p), .o (.lst (R.map pV)), s4, s5] ∧ notOwn s5 = true ∧ R.length * 2 ^ r.length = 2 ^ n ∧ (∀ o ∈ R, o.length + r.length = n) ∧ r.foldl sgR R = sgRows p) ⟨[[]], s4, s5, rfl, n5, by rw [hpl]; simp, (fun o ho => by rw [show o = [] by simpa using ho]; simpa using hpl), rfl⟩ ?_ ?_
    · rintro x r _ ⟨R, s4, s5, rfl, n5, hR, hl, hf⟩
      have hRl : R.length ≤ 16 := by
        have h1 : 2 ^ n ≤ 2 ^ 4 := Nat.pow_le_pow_right (by omega) hn
        have h2 : R.length * 1 ≤ R.length * 2 ^ (x :: r).length := Nat.mul_le_mul_left _ (Nat.pow_pos (by omega))
        omega
      have c1 : lenOk R.length = true := lenOk_of (by omega)
      have c2 : lenOk (R.length + R.length) = true := lenOk_of (by omega)
      k_search [c1, n5, and_self]
      rw [lcE_el pV (fun r => pV (r ++ [x]))]
      · k_search [c1, n5, and_self]
        rw [lcE_el pV (fun r => pV (r ++ [-x]))]
        · have e1 : R.map (fun r => pV (r ++ [x])) ++ R.map (fun r => pV (r ++ [-x])) = (sgR R x).map pV := by unfold sgR; rw [List.map_append, List.map_map, List.map_map]; rfl
          k_search [c2, e1]
          refine ⟨_, .inl rfl, sgR R x, _, _, rfl, n5, ?_, ?_, hf⟩
          · rw [sgR_len, ← hR, List.length_cons, Nat.pow_succ, Nat.mul_assoc, Nat.mul_comm 2]
          · intro o ho
            unfold sgR at ho
            rcases List.mem_append.mp ho with ho | ho
            · obtain ⟨o2, h2, rfl⟩ := List.mem_map.mp ho
              have := hl o2 h2
              rw [List.length_cons] at this
              rw [List.length_append, List.length_singleton]
              omega
            · obtain ⟨o2, h2, rfl⟩ := List.mem_map.mp ho
              have := hl o2 h2
              rw [List.length_cons] at this
              rw [List.length_append, List.length_singleton]
              omega
        · intro o ho
          have c4 : lenOk (o.length + 1) = true := lenOk_of (by have := hl o ho; omega)
          k_search [c4, pV_app]
          exact ⟨_, rfl, rfl⟩
      · intro o ho
        have c4 : lenOk (o.length + 1) = true := lenOk_of (by have := hl o ho; omega)
        k_search [c4, pV_app]
        exact ⟨_, rfl, rfl⟩
    · rintro _ ⟨R, s4, s5, rfl, n5, hR, hl, hf⟩
      have hf : R = sgRows p := hf
      subst hf
      have c3 : lenOk (F.length + (sgRows p).length) = true := lenOk_of (by omega)
      k_search [c3]
      exact ⟨_, .inl rfl, _, _, _, _, rfl, n5⟩
  · rintro _ ⟨s2, s3, s4, s5, rfl, n5⟩
    have e : (fil (sqB n)).flatMap (fun p => (sgRows p).map pV) = (sgAll n).map pV := by rw [sgAll, List.map_flatMap]
    have so : (decide ((sgAll n).length ≤ 1) || sortable ((sgAll n).map pV)) = true := by
      refine sort_ok _ ?_
      by_cases h0 : n = 0
      · subst h0
        exact .inl (by decide +kernel)
      · refine .inr fun p hp e => ?_
        have := A.len p hp
        rw [e] at this
        simp at this
        omega
    k_search [e, so, sortP_pV, A.eq]
set_option autoImplicit false
set_option linter.all false
set_option maxRecDepth 20000
/-! ### a signed permutation drawn -/
theorem draw (s : DS) (m : Nat) (h : 0 < m) : ∃ k : Nat, (tk s (m : Int)).1 = k ∧ k < m := ⟨(tk s (m : Int)).1.toNat, by have := tk_lo (s := s) (m := (m : Int)) (by omega); omega, by have := tk_lo (s := s) (m := (m : Int)) (by omega); have := tk_hi (s := s) (m := (m : Int)) (by omega); omega⟩
def sgn1 (s : DS) (x : Int) : Int := if (tk s 2).1 = 0 then x else -x
def sgD : DS → List Int → List Int × DS
  | s, [] => ([], s)
  | s, x :: l => (sgn1 s x :: (sgD (tk s 2).2 l).1, (sgD (tk s 2).2 l).2)
theorem lc_sgD {own : List Nat} {f : PV → Env → Res (Option PV × Env)} (enc : DS → Env) (hf : ∀ s x, ∃ ρ', f (.int x) (enc s) = .ok (some (.int (sgn1 s x)), ρ') ∧ wipeE own ρ' = enc (tk s 2).2) : ∀ (l : List Int) (s : DS), lcLoop own f (l.map .int) (enc s) = .ok ((sgD s l).1.map .int, enc (sgD s l).2)
  | [], s => rfl
  | x :: l, s => by
    obtain ⟨ρ', h1, h2⟩ := hf s x
    rw [List.map_cons]
    simp only [lcLoop, h1, Res.bind_ok, h2, lc_sgD enc hf l]
    rfl
theorem sgD_abs : ∀ (l : List Int) (s : DS), (∀ x ∈ l, 0 ≤ x) → (sgD s l).1.map absI = l
  | [], s, _ => rfl
  | x :: l, s, h => by
    have hx := h x (List.mem_cons_self ..)
    show absI (sgn1 s x) :: (sgD (tk s 2).2 l).1.map absI = x :: l
    rw [sgD_abs l _ fun y hy => h y (List.mem_cons_of_mem _ hy)]
    congr 1
    unfold sgn1 absI
    split <;> split <;> omega
theorem l_signed (d : Nat) (s : DS) (n : Nat) (hn : n ≤ 9) (hd : 3 ≤ d) : ∃ (p : List Int) (s' : DS), callF tab d F_law_signed true [stV s, .int (n : Int)] = .ok ((pV p, false), stV s') ∧ (p.map absI).Perm (idP n) ∧ sgnL p = true ∧ p.length = n := by
  obtain ⟨d, rfl⟩ : ∃ e, d = e + 1 := ⟨d - 1, by omega⟩
  rw [call_eq t_law_signed rfl]
  obtain ⟨p, s1, hp, pp⟩ := l_perm d s n (by omega) (by omega)
  have hpos : ∀ x ∈ p, 0 ≤ x := fun x hx => by
    have := pp.mem_iff.mp hx
    unfold idP at this
    obtain ⟨k, _, rfl⟩ := List.mem_map.mp this
    omega
  have hl : p.length = n := by rw [pp.length_eq, idP_length]
  have c1 : lenOk p.length = true := lenOk_of (by omega)
  refine ⟨(sgD s1 p).1, (sgD s1 p).2, ?_, ?_, ?_, ?_⟩
  · have t2 := fun s => l_take d s 2 (by decide) (by decide) (by omega)
    k_search [D_law_signed, hp, c1, no_n, and_self]
    rw [lc_sgD (fun s => [.o (stV s), .s (.int (n : Int)), .n])]
    · k_search []
    · intro s x
      by_cases h : (tk s 2).1 = 0
      · have e : sgn1 s x = x := by unfold sgn1; rw [if_pos h]
        k_search [t2 s, h, e]
        exact ⟨_, rfl, rfl⟩
      · have e : sgn1 s x = -x := by unfold sgn1; rw [if_neg h]
        k_search [t2 s, h, e]
        exact ⟨_, rfl, rfl⟩
  · rw [sgD_abs p s1 hpos]
    exact pp
  · have e : (sgD s1 p).1.length = n := by
      have := congrArg List.length (sgD_abs p s1 hpos)
      rw [List.length_map] at this
      omega
    unfold sgnL
    rw [sgD_abs p s1 hpos, sortI_idP pp, e, Bool.and_eq_true, decide_eq_true_eq, decide_eq_true_eq]
    exact ⟨hn, rfl⟩
  · have := congrArg List.length (sgD_abs p s1 hpos)
    rw [List.length_map] at this
    omega
set_option autoImplicit false
set_option linter.all false
set_option maxRecDepth 20000
/-! ### signed permutations, as lists -/
theorem abs_fold (i : Int) : (if i < 0 then -i else i) = absI i := rfl
theorem r_set_dic (ks vs q : List PV) (v : PV) : setV (.dic ks vs) (.tup q) v = if (lenOk (ks.length + 1) && ((ints? q).isSome && !(ks.any fun z => PV.eqv z (.tup q)))) = true then .ok (.dic (ks ++ [.tup q]) (vs ++ [v])) else .bad := by
  have e : (ks.length < szl ∧ (ints? q).isSome = true ∧ (ks.any fun z => PV.eqv z (.tup q)) = false) = ((lenOk (ks.length + 1) && ((ints? q).isSome && !(ks.any fun z => PV.eqv z (.tup q)))) = true) := by
    rw [Bool.and_eq_true, Bool.and_eq_true, lenOk_iff, Bool.not_eq_true']
    rfl
  rw [set_dic]
  simp only [e]
theorem set_map (f : List Int) (k : Nat) (x : Int) : (f.map PV.int).set k (.int x) = (f.set k x).map PV.int := by rw [List.map_set]
theorem enum_pV' (p : List Int) : ((p.map PV.int).zipIdx.map fun q => PV.tup [.int (q.2 : Nat), q.1]) = (List.range p.length).map fun k : Nat => PV.tup [.int (k : Int), .int (av p k)] := by
  rw [enum_map, enum_rng _ 0]
theorem av_mem {p : List Int} {k : Nat} (h : k < p.length) : av p k ∈ p := by
  unfold av
  rw [List.getD_eq_getElem?_getD, List.getElem?_eq_getElem h]
  exact List.getElem_mem h
theorem av_set {g : List Int} {i k : Nat} {x : Int} (h : i < g.length) : av (g.set i x) k = if i = k then x else av g k := by
  unfold av
  rw [List.getD_eq_getElem?_getD, List.getD_eq_getElem?_getD, List.getElem?_set]
  by_cases e : i = k
  · subst e
    rw [if_pos rfl, if_pos h, if_pos rfl]
    rfl
  · rw [if_neg e, if_neg e]
theorem ext_av {f g : List Int} (hl : f.length = g.length) (h : ∀ k, k < f.length → av f k = av g k) : f = g := by
  apply List.ext_getElem hl
  intro k h1 h2
  have := h k h1
  unfold av at this
  rw [List.getD_eq_getElem?_getD, List.getD_eq_getElem?_getD, List.getElem?_eq_getElem h1, List.getElem?_eq_getElem h2] at this
  exact this
theorem av_map (f : Int → Int) {p : List Int} {k : Nat} (h : k < p.length) : av (p.map f) k = f (av p k) := by
  unfold av
  rw [List.getD_eq_getElem?_getD, List.getD_eq_getElem?_getD, List.getElem?_map, List.getElem?_eq_getElem h]
  rfl
theorem sub_len {α : Type} : ∀ {l m : List α}, l.Nodup → (∀ x ∈ l, x ∈ m) → l.length ≤ m.length
  | [], _, _, _ => Nat.zero_le _
  | x :: l, m, hn, hs => by
    classical
    obtain ⟨h1, h2⟩ := List.nodup_cons.mp hn
    obtain ⟨a, b, rfl⟩ := List.append_of_mem (hs x (List.mem_cons_self ..))
    have := sub_len (m := a ++ b) h2 fun y hy => by
      have := hs y (List.mem_cons_of_mem _ hy)
      rcases List.mem_append.mp this with z | z
      · exact List.mem_append.mpr (.inl z)
      · rcases List.mem_cons.mp z with rfl | z
        · exact absurd hy h1
        · exact List.mem_append.mpr (.inr z)
    simp only [List.length_append, List.length_cons] at this ⊢
    omega
theorem sub_perm {α : Type} : ∀ {l m : List α}, l.Nodup → (∀ x ∈ l, x ∈ m) → m.length ≤ l.length → l.Perm m
  | [], m, _, _, h => by
    have : m = [] := List.eq_nil_of_length_eq_zero (by simpa using h)
    subst this
    exact List.Perm.refl _
  | x :: l, m, hn, hs, h => by
    classical
    obtain ⟨h1, h2⟩ := List.nodup_cons.mp hn
    obtain ⟨a, b, rfl⟩ := List.append_of_mem (hs x (List.mem_cons_self ..))
    have := sub_perm (m := a ++ b) h2 (fun y hy => by
      have := hs y (List.mem_cons_of_mem _ hy)
      rcases List.mem_append.mp this with z | z
      · exact List.mem_append.mpr (.inl z)
      · rcases List.mem_cons.mp z with rfl | z
        · exact absurd hy h1
        · exact List.mem_append.mpr (.inr z)) (by simp only [List.length_append, List.length_cons] at h ⊢; omega)
    exact (this.cons x).trans List.perm_middle.symm
/-- a signed permutation of n items -/
structure Sg (n : Nat) (p : List Int) : Prop where
  len : p.length = n
  pm : (p.map absI).Perm (idP n)
theorem Sg.of {p : List Int} (h : sgnL p = true) : Sg p.length p := by
  unfold sgnL at h
  rw [Bool.and_eq_true, decide_eq_true_eq, decide_eq_true_eq] at h
  refine ⟨rfl, ?_⟩
  rw [← h.2]
  exact (sortI_perm _).symm
theorem Sg.ok {n : Nat} {p : List Int} (h : Sg n p) (hn : n ≤ 9) : sgnL p = true := by
  unfold sgnL
  rw [sortI_idP h.pm, h.len, Bool.and_eq_true, decide_eq_true_eq, decide_eq_true_eq]
  exact ⟨hn, rfl⟩
theorem mem_idP {n : Nat} {x : Int} : x ∈ idP n ↔ 1 ≤ x ∧ x ≤ n := by
  unfold idP
  rw [List.mem_map]
  constructor
  · rintro ⟨k, hk, rfl⟩
    have := List.mem_range.mp hk
    omega
  · intro h
    exact ⟨(x - 1).toNat, List.mem_range.mpr (by omega), by omega⟩
theorem idP_nd (n : Nat) : (idP n).Nodup := by
  unfold idP
  refine List.Pairwise.map _ (fun a b h => ?_) List.nodup_range
  intro e
  exact h (by omega)
theorem Sg.rng {n : Nat} {p : List Int} (h : Sg n p) {k : Nat} (hk : k < n) : 1 ≤ absI (av p k) ∧ absI (av p k) ≤ n := by
  have := h.len
  exact mem_idP.mp (h.pm.mem_iff.mp (List.mem_map.mpr ⟨_, av_mem (by omega), rfl⟩))
theorem Sg.inj {n : Nat} {p : List Int} (h : Sg n p) {i k : Nat} (hi : i < n) (hk : k < n) (e : absI (av p i) = absI (av p k)) : i = k := by
  have hl := h.len
  have nd : (p.map absI).Nodup := h.pm.nodup_iff.mpr (idP_nd n)
  have pw := List.pairwise_iff_getElem.mp nd
  apply Classical.byContradiction
  intro hne
  have g : ∀ z (hz : z < (p.map absI).length), (p.map absI)[z] = absI (av p z) := by
    intro z hz
    rw [List.length_map] at hz
    unfold av
    rw [List.getElem_map, List.getD_eq_getElem?_getD, List.getElem?_eq_getElem hz]
    rfl
  have h1 : i < (p.map absI).length := by rw [List.length_map]; omega
  have h2 : k < (p.map absI).length := by rw [List.length_map]; omega
  rcases Nat.lt_or_gt_of_ne hne with z | z
  · exact pw i k h1 h2 z (by rw [g i h1, g k h2, e])
  · exact pw k i h2 h1 z (by rw [g i h1, g k h2, e])
theorem Sg.surj {n : Nat} {p : List Int} (h : Sg n p) {j : Nat} (hj : j < n) : ∃ k, k < n ∧ absI (av p k) = (j : Int) + 1 := by
  have hm : (j : Int) + 1 ∈ p.map absI := h.pm.mem_iff.mpr (mem_idP.mpr (by omega))
  obtain ⟨x, hx, e⟩ := List.mem_map.mp hm
  obtain ⟨k, hk, rfl⟩ := List.mem_iff_getElem.mp hx
  refine ⟨k, by have := h.len; omega, ?_⟩
  have : av p k = p[k] := by unfold av; rw [List.getD_eq_getElem?_getD, List.getElem?_eq_getElem hk]; rfl
  rw [this]
  exact e
/-! ### inverses -/
def ivV (p : List Int) (k : Nat) : Int := if 0 < av p k then (k : Int) + 1 else -(k : Int) - 1
def ivS (p f : List Int) (k : Nat) : List Int := f.set (absI (av p k) - 1).toNat (ivV p k)
def sinv (p : List Int) : List Int := (List.range p.length).foldl (ivS p) (List.replicate p.length 0)
theorem sinv_at {n : Nat} {p : List Int} (h : Sg n p) : (sinv p).length = n ∧ ∀ k, k < n → av (sinv p) (absI (av p k) - 1).toNat = ivV p k := by
  have gen : ∀ m, m ≤ n → ((List.range m).foldl (ivS p) (List.replicate n 0)).length = n ∧ ∀ k, k < m → av ((List.range m).foldl (ivS p) (List.replicate n 0)) (absI (av p k) - 1).toNat = ivV p k := by
    intro m
    induction m with
    | zero => exact fun _ => ⟨by simp, fun k hk => by omega⟩
    | succ m ih =>
      intro hm
      obtain ⟨i1, i2⟩ := ih (by omega)
      rw [List.range_succ, List.foldl_append]
      generalize (List.range m).foldl (ivS p) (List.replicate n 0) = G at i1 i2 ⊢
      have hr := h.rng (k := m) (by omega)
      refine ⟨by show (G.set _ _).length = n; rw [List.length_set, i1], fun k hk => ?_⟩
      show av (G.set (absI (av p m) - 1).toNat (ivV p m)) _ = _
      rw [av_set (by omega)]
      by_cases e : m = k
      · subst e
        rw [if_pos rfl]
      · have hk' := h.rng (k := k) (by omega)
        rw [if_neg (fun z => e (h.inj (by omega) (by omega) (by omega)))]
        exact i2 k (by omega)
  have := gen n (Nat.le_refl _)
  unfold sinv
  rw [h.len]
  exact this
theorem Sg.inv {n : Nat} {p : List Int} (h : Sg n p) : Sg n (sinv p) := by
  obtain ⟨h1, h2⟩ := sinv_at h
  refine ⟨h1, List.Perm.symm (sub_perm (idP_nd n) (fun x hx => ?_) (by rw [List.length_map, h1, idP_length]; exact Nat.le_refl _))⟩
  obtain ⟨g1, g2⟩ := mem_idP.mp hx
  obtain ⟨k, rfl⟩ : ∃ k : Nat, x = (k : Int) + 1 := ⟨(x - 1).toNat, by omega⟩
  have hr := h.rng (k := k) (by omega)
  have e := h2 k (by omega)
  refine List.mem_map.mpr ⟨av (sinv p) (absI (av p k) - 1).toNat, av_mem (by omega), ?_⟩
  rw [e]
  unfold ivV absI
  split <;> split <;> omega
theorem Sg.neg {n : Nat} {p : List Int} (h : Sg n p) : Sg n (p.map fun x => -x) := by
  refine ⟨by rw [List.length_map, h.len], ?_⟩
  rw [List.map_map]
  have : (absI ∘ fun x => -x) = absI := by
    funext x
    show absI (-x) = absI x
    unfold absI
    split <;> split <;> omega
  rw [this]
  exact h.pm
theorem Sg.rev {n : Nat} {p : List Int} (h : Sg n p) : Sg n p.reverse := ⟨by rw [List.length_reverse, h.len], by rw [List.map_reverse]; exact (List.reverse_perm _).trans h.pm⟩
def spr (p q : List Int) : List Int := q.map fun x => if 0 < x then av p (x - 1).toNat else -av p (-x - 1).toNat
theorem spr_inv {n : Nat} {p : List Int} (h : Sg n p) : spr p (sinv p) = idP n := by
  obtain ⟨h1, h2⟩ := sinv_at h
  refine ext_av (by unfold spr; rw [List.length_map, h1, idP_length]) fun j hj => ?_
  unfold spr at hj ⊢
  rw [List.length_map, h1] at hj
  obtain ⟨k, hk, e⟩ := h.surj hj
  rw [av_map _ (by omega)]
  have e2 := h2 k hk
  rw [e, show ((j : Int) + 1 - 1).toNat = j by omega] at e2
  rw [e2]
  have e3 : av (idP n) j = (j : Int) + 1 := by
    unfold av idP
    rw [List.getD_eq_getElem?_getD, List.getElem?_map, List.getElem?_range hj]
    rfl
  rw [e3]
  unfold ivV
  by_cases hp : 0 < av p k
  · rw [if_pos hp, if_pos (by omega), show ((k : Int) + 1 - 1).toNat = k by omega, ← e]
    unfold absI
    rw [if_neg (by omega)]
  · rw [if_neg hp, if_neg (by omega), show (-(-(k : Int) - 1) - 1).toNat = k by omega, ← e]
    unfold absI
    split <;> omega
set_option autoImplicit false
set_option linter.all false
set_option maxRecDepth 20000
theorem a1 (v : PV) : argn [v] := ⟨by simp, by simp⟩
theorem a2 (v w : PV) : argn [v, w] := ⟨by simp, by simp⟩
theorem l_value (d f : Nat) (vs : List PV) (hv : argn vs) {v : PV} {o : Bool} (hr : callF tab d f false vs = .ok ((v, o), .non)) : callF tab (d + 2) F_law_value false [.fn f, .tup vs] = .ok ((v, false), .non) := by
  rw [call_eq t_law_value rfl]
  k_search [D_law_value, l_told_ok d f vs hv hr, pix0, pix1]
theorem rep0 (n : Nat) : repL [PV.int 0] (n : Int) = (List.replicate n 0).map PV.int := by
  unfold repL
  simp
theorem l_signed_inverse (d n : Nat) (p : List Int) (h : Sg n p) (hn : n ≤ 9) (hd : 4 ≤ d) : callF tab d F_signed_inverse false [pV p] = .ok ((pV (sinv p), false), .non) := by
  obtain ⟨d, rfl⟩ : ∃ e, d = e + 1 := ⟨d - 1, by omega⟩
  rw [call_eq t_signed_inverse rfl]
  have hl := h.len
  have c1 : repOk 1 (p.length : Int) = true := repOk_of (by omega) (by omega) (by omega)
  k_search [D_signed_inverse, l_check_signed_ok d p (h.ok hn) (by omega), c1, rep0]
  rw [enum_pV']
  refine forL_post (Post := fun z => z = Res.ok ((pV (sinv p), false), PV.non)) (fun k : Nat => PV.tup [.int (k : Int), .int (av p k)]) (fun r ρ => ∃ (f : List Int) (s2 s3 : Slot), ρ = [.s (pV p), .o (.lst (f.map .int)), s2, s3] ∧ f.length = n ∧ (∀ k ∈ r, k < n) ∧ r.foldl (ivS p) f = sinv p) ⟨_, .n, .n, rfl, by simp [hl], (fun k hk => by have := List.mem_range.mp hk; omega), rfl⟩ ?_ ?_
  · rintro k r _ ⟨f, s2, s3, rfl, hf, hk, hr⟩
    have hk0 := hk k (List.mem_cons_self ..)
    have hg := h.rng hk0
    obtain ⟨j, hj⟩ : ∃ j : Nat, absI (av p k) - 1 = (j : Int) := ⟨(absI (av p k) - 1).toNat, by omega⟩
    have hjn : j < n := by omega
    have e1 : ivS p f k = f.set j (ivV p k) := by unfold ivS; rw [hj]; rfl
    by_cases hp : 0 < av p k
    · have ev : ivV p k = (k : Int) + 1 := by unfold ivV; rw [if_pos hp]
      k_search [hp, abs_fold, hj, pixN_nat, hf, hjn, set_map]
      exact ⟨_, .inl rfl, _, _, _, by rw [← ev, ← e1], by rw [e1, List.length_set]; exact hf, (fun k hk' => hk k (List.mem_cons_of_mem _ hk')), hr⟩
    · have ev : ivV p k = -(k : Int) - 1 := by unfold ivV; rw [if_neg hp]
      k_search [hp, abs_fold, hj, pixN_nat, hf, hjn, set_map]
      exact ⟨_, .inl rfl, _, _, _, by rw [← ev, ← e1], by rw [e1, List.length_set]; exact hf, (fun k hk' => hk k (List.mem_cons_of_mem _ hk')), hr⟩
  · rintro _ ⟨f, s2, s3, rfl, hf, _, hr⟩
    have hr : f = sinv p := hr
    subst hr
    k_search []
theorem l_law_inverse (d n : Nat) (p : List Int) (h : Sg n p) (hn : n ≤ 9) (hd : 1 ≤ d) : callF tab d F_law_inverse false [pV p] = .ok ((pV (sinv p), false), .non) := by
  obtain ⟨d, rfl⟩ : ∃ e, d = e + 1 := ⟨d - 1, by omega⟩
  rw [call_eq t_law_inverse rfl]
  have hl := h.len
  have c1 : repOk 1 (p.length : Int) = true := repOk_of (by omega) (by omega) (by omega)
  have c2 : rng1Ok (p.length : Int) = true := rng1Ok_of (by omega) (by omega)
  k_search [D_law_inverse, c1, rep0, c2, rngL_0]
  refine forL_post (Post := fun z => z = Res.ok ((pV (sinv p), false), PV.non)) (fun k : Nat => PV.int (k : Int)) (fun r ρ => ∃ (f : List Int) (s2 : Slot), ρ = [.s (pV p), .o (.lst (f.map .int)), s2] ∧ f.length = n ∧ (∀ k ∈ r, k < n) ∧ r.foldl (ivS p) f = sinv p) ⟨_, .n, rfl, by simp [hl], (fun k hk => by have := List.mem_range.mp hk; omega), rfl⟩ ?_ ?_
  · rintro k r _ ⟨f, s2, rfl, hf, hk, hr⟩
    have hk0 := hk k (List.mem_cons_self ..)
    have hg := h.rng hk0
    have g1 : (p.map PV.int)[k]? = some (.int (av p k)) := get_pm (by omega)
    obtain ⟨j, hj⟩ : ∃ j : Nat, absI (av p k) - 1 = (j : Int) := ⟨(absI (av p k) - 1).toNat, by omega⟩
    have hjn : j < n := by omega
    have e1 : ivS p f k = f.set j (ivV p k) := by unfold ivS; rw [hj]; rfl
    by_cases hp : 0 < av p k
    · have ev : ivV p k = (k : Int) + 1 := by unfold ivV; rw [if_pos hp]
      k_search [pix_nat, g1, hp, abs_fold, hj, pixN_nat, hf, hjn, set_map]
      exact ⟨_, .inl rfl, _, _, by rw [← ev, ← e1], by rw [e1, List.length_set]; exact hf, (fun k hk' => hk k (List.mem_cons_of_mem _ hk')), hr⟩
    · have ev : ivV p k = -(k : Int) - 1 := by unfold ivV; rw [if_neg hp]
      k_search [pix_nat, g1, hp, abs_fold, hj, pixN_nat, hf, hjn, set_map]
      exact ⟨_, .inl rfl, _, _, by rw [← ev, ← e1], by rw [e1, List.length_set]; exact hf, (fun k hk' => hk k (List.mem_cons_of_mem _ hk')), hr⟩
  · rintro _ ⟨f, s2, rfl, hf, _, hr⟩
    have hr : f = sinv p := hr
    subst hr
    k_search []
/-! ### products -/
theorem Sg.mem {n : Nat} {p : List Int} (h : Sg n p) {x : Int} (hx : x ∈ p) : 1 ≤ absI x ∧ absI x ≤ n := mem_idP.mp (h.pm.mem_iff.mp (List.mem_map.mpr ⟨x, hx, rfl⟩))
theorem l_signed_product (d n : Nat) (p q : List Int) (h : Sg n p) (hq : Sg n q) (hn : n ≤ 9) (hd : 4 ≤ d) : callF tab d F_signed_product false [pV p, pV q] = .ok ((pV (spr p q), false), .non) := by
  obtain ⟨d, rfl⟩ : ∃ e, d = e + 1 := ⟨d - 1, by omega⟩
  rw [call_eq t_signed_product rfl]
  have hl := h.len
  have hql := hq.len
  have e1 : ((p.length : Int) = (q.length : Int)) = True := eq_true (by omega)
  have c1 : lenOk q.length = true := lenOk_of (by omega)
  k_search [D_signed_product, l_check_signed_ok d p (h.ok hn) (by omega), l_check_signed_ok d q (hq.ok hn) (by omega), e1, c1, and_self]
  rw [lcE_int PV.int (fun x => if 0 < x then av p (x - 1).toNat else -av p (-x - 1).toNat)]
  · k_search [spr]
  · intro x hx
    have hr := hq.mem hx
    unfold absI at hr
    by_cases hp : 0 < x
    · rw [if_neg (by omega)] at hr
      obtain ⟨j, hj⟩ : ∃ j : Nat, x - 1 = (j : Int) := ⟨(x - 1).toNat, by omega⟩
      have g1 : (p.map PV.int)[j]? = some (.int (av p j)) := get_pm (by omega)
      have e2 : (if 0 < x then av p (x - 1).toNat else -av p (-x - 1).toNat) = av p j := by rw [if_pos hp, hj]; rfl
      rw [e2]
      k_search [hp, hj, pix_nat, g1]
      exact ⟨_, rfl, rfl⟩
    · rw [if_pos (by split at hr <;> omega)] at hr
      obtain ⟨j, hj⟩ : ∃ j : Nat, -x - 1 = (j : Int) := ⟨(-x - 1).toNat, by omega⟩
      have g1 : (p.map PV.int)[j]? = some (.int (av p j)) := get_pm (by omega)
      have e2 : (if 0 < x then av p (x - 1).toNat else -av p (-x - 1).toNat) = -av p j := by rw [if_neg hp, hj]; rfl
      rw [e2]
      k_search [hp, hj, pix_nat, g1]
      exact ⟨_, rfl, rfl⟩
/-! ### descents -/
def dscL (p : List Int) : List Nat := (List.range' 1 (p.length + 1 - 1)).filter fun k => decide (av (0 :: p) k < av (0 :: p) (k - 1))
def dsc (p : List Int) : Nat := (dscL p).length
theorem dsc_le (p : List Int) : dsc p ≤ p.length := by
  unfold dsc dscL
  refine Nat.le_trans (List.length_filter_le _ _) ?_
  rw [List.length_range']
  omega
theorem l_signed_descents (d n : Nat) (p : List Int) (h : Sg n p) (hn : n ≤ 9) (hd : 4 ≤ d) : callF tab d F_signed_descents false [pV p] = .ok ((.int (dsc p : Int), false), .non) := by
  obtain ⟨d, rfl⟩ : ∃ e, d = e + 1 := ⟨d - 1, by omega⟩
  rw [call_eq t_signed_descents rfl]
  have hl := h.len
  have c1 : lenOk (1 + p.length) = true := lenOk_of (by omega)
  have c2 : rng2Ok 1 ((p.length + 1 : Nat) : Int) = true := rng2Ok_of (by omega) (by omega) (by omega) (by omega)
  have r2 : rngL 1 ((p.length + 1 : Nat) : Int) = (List.range' 1 (p.length + 1 - 1)).map fun k : Nat => PV.int (k : Int) := rngL_n 1 (p.length + 1)
  have c3 : lenOk (p.length + 1 - 1) = true := lenOk_of (by omega)
  obtain ⟨w, hw⟩ : ∃ w, w = 0 :: p := ⟨_, rfl⟩
  have hwl : w.length = p.length + 1 := by rw [hw]; rfl
  have e0 : PV.int 0 :: p.map PV.int = w.map PV.int := by rw [hw]; rfl
  k_search [D_signed_descents, l_check_signed_ok d p (h.ok hn) (by omega), c1, e0, hwl, c2, r2, List.length_range', c3, and_self]
  rw [lcE_if (fun k : Nat => PV.int (k : Int)) (fun k => decide (av w k < av w (k - 1))) (fun k : Nat => PV.int (k : Int))]
  · have e1 : (((List.range' 1 (p.length + 1 - 1)).filter fun k => decide (av w k < av w (k - 1))).length : Int) = (dsc p : Int) := by rw [hw]; rfl
    k_search [e1]
  · intro k hk
    have hk := List.mem_range'_1.mp hk
    obtain ⟨m, rfl⟩ : ∃ m, k = m + 1 := ⟨k - 1, by omega⟩
    have e2 : ((m + 1 : Nat) : Int) - 1 = (m : Int) := by omega
    have g1 : (w.map PV.int)[m]? = some (.int (av w m)) := get_pm (by omega)
    have g2 : (w.map PV.int)[m + 1]? = some (.int (av w (m + 1))) := get_pm (by omega)
    have e3 : m + 1 - 1 = m := rfl
    k_search [e2, pix_nat, g1, g2, e3]
    exact ⟨_, rfl, rfl⟩
set_option autoImplicit false
set_option linter.all false
set_option maxRecDepth 20000
/-! ### numbers -/
theorem ag_add (i j : Int) : augV .add (.int i) (.int j) = .ok (.int (i + j)) := rfl
theorem okMul_l (i j : Int) (h : -(2 ^ 64) < i) (h2 : i < 2 ^ 64) : okMul i j = true := by
  unfold okMul
  rw [decide_eq_true (⟨h, h2⟩ : -(2 ^ 64) < i ∧ i < 2 ^ 64)]
  rfl
def fct (m : Nat) : Int := (List.range' 2 (m + 1 - 2)).foldl (fun (f : Int) (i : Nat) => f * (i : Int)) 1
theorem l_factorial (d n : Nat) (hn : n ≤ 100) (hd : 1 ≤ d) : callF tab d F_factorial false [.int (n : Int)] = .ok ((.int (fct n), false), .non) := by
  obtain ⟨d, rfl⟩ : ∃ e, d = e + 1 := ⟨d - 1, by omega⟩
  rw [call_eq t_factorial rfl]
  have c4 : rng2Ok 2 ((n : Int) + 1) = true := rng2Ok_of (by omega) (by omega) (by omega) (by omega)
  have r4 : rngL 2 ((n : Int) + 1) = (List.range' 2 (n + 1 - 2)).map fun i : Nat => PV.int (i : Int) := rngL_n 2 (n + 1)
  k_search [D_factorial, c4, r4]
  refine forL_post (Post := fun z => z = Res.ok ((PV.int (fct n), false), PV.non)) (fun i : Nat => PV.int (i : Int)) (fun q ρ => ∃ (f : Int) (s2 : Slot), ρ = [.s (.int (n : Int)), .s (.int f), s2] ∧ (∀ i ∈ q, i < 200) ∧ q.foldl (fun (f : Int) (i : Nat) => f * (i : Int)) f = fct n) ⟨1, .n, rfl, (fun i hi => by have := List.mem_range'_1.mp hi; omega), rfl⟩ ?_ ?_
  · rintro i q _ ⟨f, s2, rfl, hi, hq⟩
    have hi0 := hi i (List.mem_cons_self ..)
    k_search [okMul_r f (i : Int) (by omega) (by omega)]
    exact ⟨_, .inl rfl, _, _, rfl, (fun j hj => hi j (List.mem_cons_of_mem _ hj)), hq⟩
  · rintro _ ⟨f, s2, rfl, _, hq⟩
    have hq : f = fct n := hq
    subst hq
    k_search []
def pw (a : Int) : Nat → Int
  | 0 => 1
  | k + 1 => pw a k * a
theorem l_raised (d : Nat) (a : Int) (k : Nat) (ha : -(2 ^ 60) < a) (ha2 : a < 2 ^ 60) (hk : k ≤ 1000) (hd : 1 ≤ d) : callF tab d F_raised false [.int a, .int (k : Int)] = .ok ((.int (pw a k), false), .non) := by
  obtain ⟨d, rfl⟩ : ∃ e, d = e + 1 := ⟨d - 1, by omega⟩
  rw [call_eq t_raised rfl]
  have c4 : rng1Ok (k : Int) = true := rng1Ok_of (by omega) (by omega)
  k_search [D_raised, c4, rngL_0]
  refine forL_post (Post := fun z => z = Res.ok ((PV.int (pw a k), false), PV.non)) (l := List.range k) (fun i : Nat => PV.int (i : Int)) (fun q ρ => ∃ (t : Nat) (s2 : Slot), ρ = [.s (.int a), .s (.int (k : Int)), .s (.int (pw a t)), s2] ∧ t + q.length = k) ⟨0, .n, rfl, by simp⟩ ?_ ?_
  · rintro i q _ ⟨t, s2, rfl, ht⟩
    rw [List.length_cons] at ht
    k_search [okMul_r (pw a t) a (by omega) (by omega)]
    exact ⟨_, .inl rfl, t + 1, _, rfl, by omega⟩
  · rintro _ ⟨t, s2, rfl, ht⟩
    simp at ht
    subst ht
    k_search []
def snm (n : Nat) : Int := pw 2 n * fct n
theorem snm_ok : ((List.range 41).all fun n => okMul (pw 2 n) (fct n)) = true := by decide +kernel
theorem l_signed_number (d n : Nat) (hn : n ≤ 40) (hd : 3 ≤ d) : callF tab d F_signed_number false [.int (n : Int)] = .ok ((.int (snm n), false), .non) := by
  obtain ⟨d, rfl⟩ : ∃ e, d = e + 1 := ⟨d - 1, by omega⟩
  rw [call_eq t_signed_number rfl]
  have o := List.all_eq_true.mp snm_ok n (List.mem_range.mpr (by omega))
  k_search [D_signed_number, l_check_from_ok d (n : Int) 0 40 (by omega) (by omega) (by omega), l_raised d 2 n (by decide) (by decide) (by omega) (by omega), l_factorial d n (by omega) (by omega), o, snm]
/-! ### how often -/
abbrev nI (l : List Nat) : List Int := l.map fun k : Nat => (k : Int)
def mxT (l : List Nat) : Nat := if l = [] then 0 else (mxL (nI l)).toNat + 1
def cntL (l : List Nat) : List Int := l.foldl (fun (g : List Int) (x : Nat) => g.set x (av g x + 1)) (List.replicate (mxT l) 0)
theorem mxT_lt {l : List Nat} {x : Nat} (h : x ∈ l) : x < mxT l := by
  unfold mxT
  rw [if_neg (fun e => by rw [e] at h; cases h)]
  have := mxL_ge (l := nI l) (x := (x : Int)) (List.mem_map.mpr ⟨x, h, rfl⟩)
  omega
theorem cnt_walk {l : List Nat} {f : PV → Env → Res Fl} {k : Fl → Res (VO × PV)} (Z : List Int) (hZ : Z = List.replicate (mxT l) 0)
    (hf : ∀ (x : Nat) (g : List Int) (s2 : Slot), x < g.length → f (.int (x : Int)) [.s (.lst ((nI l).map .int)), .o (.lst (g.map .int)), s2] = .ok (.nx [.s (.lst ((nI l).map .int)), .o (.lst ((g.set x (av g x + 1)).map .int)), .s (.int (x : Int))]))
    (hk : ∀ (g : List Int) (s2 : Slot), k (.nx [.s (.lst ((nI l).map .int)), .o (.lst (g.map .int)), s2]) = .ok ((pV g, false), .non)) :
    (forL f ((nI l).map .int) [.s (.lst ((nI l).map .int)), .o (.lst (Z.map .int)), .n]).bind k = .ok ((pV (cntL l), false), .non) := by
  have e1 : (nI l).map PV.int = l.map fun k : Nat => PV.int (k : Int) := by rw [List.map_map]; rfl
  rw [show forL f ((nI l).map .int) = forL f (l.map fun k : Nat => PV.int (k : Int)) by rw [e1]]
  refine forL_post (Post := fun z => z = Res.ok ((pV (cntL l), false), PV.non)) (fun i : Nat => PV.int (i : Int)) (fun q ρ => ∃ (g : List Int) (s2 : Slot), ρ = [.s (.lst ((nI l).map .int)), .o (.lst (g.map .int)), s2] ∧ (∀ x ∈ q, x < g.length) ∧ q.foldl (fun (g : List Int) (x : Nat) => g.set x (av g x + 1)) g = cntL l) ⟨Z, .n, rfl, (fun x hx => by rw [hZ, List.length_replicate]; exact mxT_lt hx), by rw [hZ]; rfl⟩ ?_ ?_
  · rintro x q _ ⟨g, s2, rfl, hx, hq⟩
    exact ⟨_, .inl (hf x g s2 (hx x (List.mem_cons_self ..))), _, _, rfl, (fun y hy => by rw [List.length_set]; exact hx y (List.mem_cons_of_mem _ hy)), hq⟩
  · rintro _ ⟨g, s2, rfl, _, hq⟩
    have hq : g = cntL l := hq
    subst hq
    exact hk _ _
theorem l_law_counted (d : Nat) (l : List Nat) (hl : ∀ x ∈ l, x < 1000) (hd : 1 ≤ d) : callF tab d F_law_counted false [.lst ((nI l).map .int)] = .ok ((pV (cntL l), false), .non) ∧ callF tab d F_counted false [.lst ((nI l).map .int)] = .ok ((pV (cntL l), false), .non) := by
  obtain ⟨d, rfl⟩ : ∃ e, d = e + 1 := ⟨d - 1, by omega⟩
  rw [call_eq t_law_counted rfl, call_eq t_counted rfl]
  have turn : ∀ (x : Nat) (g : List Int), x < g.length → (g.map PV.int)[x]? = some (.int (av g x)) := fun x g h => get_pm h
  by_cases hne : l = []
  · have h0 : ((0 : Int) < (l.length : Int)) = False := eq_false (by rw [hne]; simp)
    have c1 : repOk 1 0 = true := repOk_of (by omega) (by omega) (by omega)
    have r0 : repL [PV.int 0] 0 = ([] : List Int).map PV.int := rep0 0
    constructor
    · k_search [D_law_counted, h0, c1, r0]
      refine cnt_walk [] (by unfold mxT; rw [if_pos hne]; rfl) ?_ ?_
      · intro x g s2 hx
        k_search [pix_nat, turn x g hx, pixN_nat, hx, set_map]
      · intro g s2
        k_search []
    · k_search [D_counted, h0, c1, r0]
      refine cnt_walk [] (by unfold mxT; rw [if_pos hne]; rfl) ?_ ?_
      · intro x g s2 hx
        k_search [pix_nat, turn x g hx, pixN_nat, hx, set_map, ag_add]
      · intro g s2
        k_search []
  · obtain ⟨M, hM⟩ : ∃ M : Nat, mxL (nI l) = (M : Int) ∧ M < 1000 := by
      have hm := mxL_mem (l := nI l) (by simpa using hne)
      obtain ⟨k, hk, e⟩ := List.mem_map.mp hm
      exact ⟨k, e.symm, hl k hk⟩
    have hpos : 0 < l.length := List.length_pos_iff.mpr hne
    have h0 : ((0 : Int) < (l.length : Int)) = True := eq_true (by omega)
    have c1 : repOk 1 ((M : Int) + 1) = true := repOk_of (by omega) (by omega) (by omega)
    obtain ⟨Z, hZ⟩ : ∃ Z : List Int, Z = List.replicate (M + 1) 0 := ⟨_, rfl⟩
    have r0 : repL [PV.int 0] ((M : Int) + 1) = Z.map PV.int := by rw [hZ]; exact rep0 (M + 1)
    constructor
    · k_search [D_law_counted, h0, bi_max_l (l := nI l) (by simpa using hne), hM.1, c1, r0]
      refine cnt_walk Z (by rw [hZ]; unfold mxT; rw [if_neg hne, hM.1]; rfl) ?_ ?_
      · intro x g s2 hx
        k_search [pix_nat, turn x g hx, pixN_nat, hx, set_map]
      · intro g s2
        k_search []
    · k_search [D_counted, h0, bi_max_l (l := nI l) (by simpa using hne), hM.1, c1, r0]
      refine cnt_walk Z (by rw [hZ]; unfold mxT; rw [if_neg hne, hM.1]; rfl) ?_ ?_
      · intro x g s2 hx
        k_search [pix_nat, turn x g hx, pixN_nat, hx, set_map, ag_add]
      · intro g s2
        k_search []
theorem sgO_sgn : ((List.range 5).all fun n => (sgO n).all fun p => sgnL p) = true := by decide +kernel
theorem sgO_sg {n : Nat} (hn : n ≤ 4) {p : List Int} (hp : p ∈ sgO n) : Sg n p := by
  have h1 := Sg.of (List.all_eq_true.mp (List.all_eq_true.mp sgO_sgn n (List.mem_range.mpr (by omega))) p hp)
  rw [(sgO_of hn).2 p hp] at h1
  exact h1
theorem dscs_lt {n : Nat} (hn : n ≤ 4) : ∀ x ∈ (sgO n).map dsc, x < 1000 := fun x hx => by
  obtain ⟨p, hp, rfl⟩ := List.mem_map.mp hx
  have := dsc_le p
  have := (sgO_of hn).2 p hp
  omega
theorem l_listed (d n : Nat) (hn : n ≤ 4) (hd : 6 ≤ d) : callF tab d F_signed_descents_listed false [.int (n : Int)] = .ok ((pV (cntL ((sgO n).map dsc)), false), .non) := by
  obtain ⟨d, rfl⟩ : ∃ e, d = e + 1 := ⟨d - 1, by omega⟩
  rw [call_eq t_signed_descents_listed rfl]
  have c2 : lenOk (sgO n).length = true := lenOk_of (by have := (sgO_of hn).1; omega)
  k_search [D_signed_descents_listed, l_signed_of d n hn (by omega), c2, and_self]
  rw [lcE_int pV (fun p => (dsc p : Int))]
  · have e1 : (sgO n).map (fun p => (dsc p : Int)) = nI ((sgO n).map dsc) := by rw [nI, List.map_map]; rfl
    rw [e1]
    k_search [(l_law_counted d ((sgO n).map dsc) (dscs_lt hn) (by omega)).2]
  · intro p hp
    k_search [l_signed_descents d n p (sgO_sg hn hp) (by omega) (by omega)]
    exact ⟨_, rfl, rfl⟩
/-! ### the row of descents by the rule -/
def drA (f g : List Int) (k : Nat) : List Int := if k < f.length then g.set k (av g k + (2 * (k : Int) + 1) * av f k) else g
def drB (s : Nat) (f g : List Int) (k : Nat) : List Int := if 0 < k then g.set k (av g k + (2 * ((s : Int) - (k : Int)) + 1) * av f (k - 1)) else g
def drS (s : Nat) (f g : List Int) (k : Nat) : List Int := drB s f (drA f g k) k
def drT (f : List Int) (s : Nat) : List Int := (List.range (s + 1)).foldl (drS s f) (List.replicate (s + 1) 0)
def drw (n : Nat) : List Int := (List.range' 1 n).foldl drT [1]
theorem drA_len (f g : List Int) (k : Nat) : (drA f g k).length = g.length := by unfold drA; split <;> simp
theorem drB_len (s : Nat) (f g : List Int) (k : Nat) : (drB s f g k).length = g.length := by unfold drB; split <;> simp
theorem drS_fold (s : Nat) (f : List Int) : ∀ (r : List Nat) (g : List Int), (r.foldl (drS s f) g).length = g.length
  | [], g => rfl
  | k :: r, g => by rw [List.foldl_cons, drS_fold s f r]; unfold drS; rw [drB_len, drA_len]
theorem drT_len (f : List Int) (s : Nat) : (drT f s).length = s + 1 := by unfold drT; rw [drS_fold]; simp
theorem l_row (d n : Nat) (hn : n ≤ 30) (hd : 3 ≤ d) : callF tab d F_signed_descent_row false [.int (n : Int)] = .ok ((pV (drw n), false), .non) := by
  obtain ⟨d, rfl⟩ : ∃ e, d = e + 1 := ⟨d - 1, by omega⟩
  rw [call_eq t_signed_descent_row rfl]
  have c1 : rng2Ok 1 ((n : Int) + 1) = true := rng2Ok_of (by omega) (by omega) (by omega) (by omega)
  have r1 : rngL 1 ((n : Int) + 1) = (List.range' 1 (n + 1 - 1)).map fun k : Nat => PV.int (k : Int) := rngL_n 1 (n + 1)
  have e0 : [PV.int 1] = ([1] : List Int).map PV.int := rfl
  k_search [D_signed_descent_row, l_check_from_ok d (n : Int) 0 30 (by omega) (by omega) (by omega), c1, r1]
  rw [e0]
  refine forL_post (Post := fun z => z = Res.ok ((pV (drw n), false), PV.non)) (fun k : Nat => PV.int (k : Int)) (fun r ρ => ∃ (k : Nat) (f : List Int) (s2 s3 s4 : Slot), r = List.range' (k + 1) (n - k) ∧ k ≤ n ∧ ρ = [.s (.int (n : Int)), .o (.lst (f.map .int)), s2, s3, s4] ∧ f.length = k + 1 ∧ r.foldl drT f = drw n) ⟨0, [1], .n, .n, .n, rfl, by omega, rfl, rfl, rfl⟩ ?_ ?_
  · rintro x r _ ⟨k, f, s2, s3, s4, hr, hk, rfl, hf, hq⟩
    have hkl : k < n := by
      apply Classical.byContradiction
      intro h
      rw [show n - k = 0 by omega] at hr
      cases hr
    rw [show n - k = (n - (k + 1)) + 1 by omega, List.range'_succ] at hr
    obtain ⟨rfl, rfl⟩ : x = k + 1 ∧ r = List.range' (k + 1 + 1) (n - (k + 1)) := by simpa using hr
    obtain ⟨x, hx⟩ : ∃ x, x = k + 1 := ⟨_, rfl⟩
    rw [← hx] at hf hq ⊢
    have c2 : repOk 1 ((x : Int) + 1) = true := repOk_of (by omega) (by omega) (by omega)
    have c3 : rng1Ok ((x : Int) + 1) = true := rng1Ok_of (by omega) (by omega)
    have r3 : rngL 0 ((x : Int) + 1) = (List.range (x + 1)).map fun k : Nat => PV.int (k : Int) := rngL_0 (x + 1)
    obtain ⟨Z, hZ⟩ : ∃ Z : List Int, Z = List.replicate (x + 1) 0 := ⟨_, rfl⟩
    have z0 : repL [PV.int 0] ((x : Int) + 1) = Z.map PV.int := by rw [hZ]; exact rep0 (x + 1)
    k_search [c2, c3, r3, z0]
    change goesOn _ _
    refine forL_post (Post := goesOn _) (fun k : Nat => PV.int (k : Int)) (fun q ρ => ∃ (g : List Int) (s4 : Slot), ρ = [.s (.int (n : Int)), .o (.lst (f.map .int)), .s (.int (x : Int)), .o (.lst (g.map .int)), s4] ∧ g.length = x + 1 ∧ (∀ k ∈ q, k < x + 1) ∧ q.foldl (drS x f) g = drT f x) ⟨Z, s4, rfl, by rw [hZ]; simp, (fun k hk => List.mem_range.mp hk), by rw [hZ]; rfl⟩ ?_ ?_
    · rintro m q _ ⟨g, s4, rfl, hg, hm, hq2⟩
      have hm0 := hm m (List.mem_cons_self ..)
      have o1 := okMul_r 2 (m : Int) (by omega) (by omega)
      have o2 := okMul_r 2 ((x : Int) - (m : Int)) (by omega) (by omega)
      have lt1 : m < x + 1 := hm0
      have A : ∃ ρA, ρA = [Slot.s (.int (n : Int)), .o (.lst (f.map .int)), .s (.int (x : Int)), .o (.lst ((drA f g m).map .int)), .s (.int (m : Int))] := ⟨_, rfl⟩
      have gA : (drA f g m).length = x + 1 := by rw [drA_len]; exact hg
      have fin : ∀ ρ' : Env, ρ' = [.s (.int (n : Int)), .o (.lst (f.map .int)), .s (.int (x : Int)), .o (.lst ((drS x f g m).map .int)), .s (.int (m : Int))] → ∃ (g : List Int) (s4 : Slot), ρ' = [.s (.int (n : Int)), .o (.lst (f.map .int)), .s (.int (x : Int)), .o (.lst (g.map .int)), s4] ∧ g.length = x + 1 ∧ (∀ k ∈ q, k < x + 1) ∧ q.foldl (drS x f) g = drT f x := fun ρ' e => ⟨_, _, e, by unfold drS; rw [drB_len]; exact gA, (fun k hk => hm k (List.mem_cons_of_mem _ hk)), hq2⟩
      have gm : (g.map PV.int)[m]? = some (.int (av g m)) := get_pm (by omega)
      have gAm : ((drA f g m).map PV.int)[m]? = some (.int (av (drA f g m) m)) := get_pm (by omega)
      have o4 := okMul_l (2 * ((x : Int) - (m : Int)) + 1) (av f (m - 1)) (by omega) (by omega)
      by_cases h1 : m < f.length
      · have h1' : ((m : Int) < (f.length : Int)) = True := eq_true (by omega)
        have o3 := okMul_l (2 * (m : Int) + 1) (av f m) (by omega) (by omega)
        have gf : (f.map PV.int)[m]? = some (.int (av f m)) := get_pm h1
        have eA : g.set m (av g m + (2 * (m : Int) + 1) * av f m) = drA f g m := by unfold drA; rw [if_pos h1]
        by_cases h2 : 0 < m
        · have h2' : ((0 : Int) < (m : Int)) = True := eq_true (by omega)
          have e1 : (m : Int) - 1 = ((m - 1 : Nat) : Int) := by omega
          have gf2 : (f.map PV.int)[m - 1]? = some (.int (av f (m - 1))) := get_pm (by omega)
          have eB : (drA f g m).set m (av (drA f g m) m + (2 * ((x : Int) - (m : Int)) + 1) * av f (m - 1)) = drS x f g m := by unfold drS drB; rw [if_pos h2]
          k_search [h1', o1, pix_nat, gf, gm, o3, ag_add, pixN_nat, hg, lt1, set_map, eA, h2', o2, e1, gf2, o4, gAm, gA, eB]
          exact ⟨_, .inl rfl, fin _ rfl⟩
        · have h2' : ((0 : Int) < (m : Int)) = False := eq_false (by omega)
          have eB : drA f g m = drS x f g m := by unfold drS drB; rw [if_neg h2]
          k_search [h1', o1, pix_nat, gf, gm, o3, ag_add, pixN_nat, hg, lt1, set_map, eA, h2']
          rw [eB]
          exact ⟨_, .inl rfl, fin _ rfl⟩
      · have h1' : ((m : Int) < (f.length : Int)) = False := eq_false (by omega)
        have eA : g = drA f g m := by unfold drA; rw [if_neg h1]
        have h2 : 0 < m := by omega
        have h2' : ((0 : Int) < (m : Int)) = True := eq_true (by omega)
        have e1 : (m : Int) - 1 = ((m - 1 : Nat) : Int) := by omega
        have gf2 : (f.map PV.int)[m - 1]? = some (.int (av f (m - 1))) := get_pm (by omega)
        have eB : g.set m (av g m + (2 * ((x : Int) - (m : Int)) + 1) * av f (m - 1)) = drS x f g m := by unfold drS drB; rw [if_pos h2, ← eA]
        k_search [h1', pix_nat, gm, ag_add, pixN_nat, hg, lt1, set_map, h2', o2, e1, gf2, o4, eB]
        exact ⟨_, .inl rfl, fin _ rfl⟩
    · rintro _ ⟨g, s4, rfl, hg, _, hq2⟩
      have hq2 : g = drT f x := hq2
      subst hq2
      k_search []
      exact ⟨_, .inl rfl, x, drT f x, _, _, _, by rw [hx], by omega, rfl, drT_len f x, hq⟩
  · rintro _ ⟨k, f, s2, s3, s4, hr, hk, rfl, hf, hq⟩
    have hq : f = drw n := hq
    subst hq
    k_search []
/-! ### facts of numbers -/
theorem N1_ok : ((List.range 5).all fun n => decide (cntL ((sgO n).map dsc) = drw n) && decide (((sgO n).length : Int) = snm n)) = true := by decide +kernel
theorem N1_of {n : Nat} (hn : n ≤ 4) : cntL ((sgO n).map dsc) = drw n ∧ ((sgO n).length : Int) = snm n := by
  have := List.all_eq_true.mp N1_ok n (List.mem_range.mpr (by omega))
  rw [Bool.and_eq_true, decide_eq_true_eq, decide_eq_true_eq] at this
  exact this
def rhs (h k : Nat) : Int := (2 * (k : Int) + 1) * (if k < h then av (drw (h - 1)) k else 0) + (2 * (h : Int) - 2 * (k : Int) + 1) * (if 0 < k then av (drw (h - 1)) (k - 1) else 0)
theorem N2_ok : ((List.range 30).all fun m => decide ((drw (m + 1)).length = m + 2) && (decide (sumI 0 (drw (m + 1)) = snm (m + 1)) && (decide ((drw (m + 1)).reverse = drw (m + 1)) && (List.range (m + 2)).all fun k => decide (av (drw (m + 1)) k = rhs (m + 1) k)))) = true := by decide +kernel
structure Nh (m : Nat) : Prop where
  len : (drw (m + 1)).length = m + 2
  sum : sumI 0 (drw (m + 1)) = snm (m + 1)
  rev : (drw (m + 1)).reverse = drw (m + 1)
  eq : ∀ k, k < m + 2 → av (drw (m + 1)) k = rhs (m + 1) k
theorem nh_of {m : Nat} (hm : m < 30) : Nh m := by
  have := List.all_eq_true.mp N2_ok m (List.mem_range.mpr hm)
  simp only [Bool.and_eq_true, decide_eq_true_eq, List.all_eq_true] at this
  exact ⟨this.1, this.2.1, this.2.2.1, fun k hk => this.2.2.2 k (List.mem_range.mpr hk)⟩
theorem drw_len0 : (drw 0).length = 1 := rfl
theorem drw_len : ((List.range 31).all fun n => decide ((drw n).length = n + 1)) = true := by decide +kernel
theorem drw_ln {n : Nat} (hn : n ≤ 30) : (drw n).length = n + 1 := of_decide_eq_true (List.all_eq_true.mp drw_len n (List.mem_range.mpr (by omega)))
set_option autoImplicit false
set_option linter.all false
set_option maxRecDepth 20000
theorem mem_any (L : List (List Int)) (l : List Int) : ((L.map pV).any fun z => PV.eqv z (pV l)) = decide (l ∈ L) := by
  rw [List.any_map, Bool.eq_iff_iff, List.any_eq_true, decide_eq_true_eq]
  constructor
  · rintro ⟨p, hp, h⟩
    have h : PV.eqv (pV p) (pV l) = true := h
    rw [q_tt, eqvs_int] at h
    rw [← of_decide_eq_true h]
    exact hp
  · intro h
    refine ⟨l, h, ?_⟩
    show PV.eqv (pV l) (pV l) = true
    rw [q_tt, eqvs_int]
    simp
theorem datas_pVs (d : Nat) (L : List (List Int)) : PV.datas (d + 1) (L.map pV) = true := datas_of fun x hx => by
  obtain ⟨p, _, rfl⟩ := List.mem_map.mp hx
  exact data_pV d p
theorem datas_pVD (L : List (List Int)) : PV.datas DD (L.map pV) = true := datas_pVs 49 L
/-! ### images -/
def add1 (s : List (List Int) × List (List Int)) (q : List Int) : List (List Int) × List (List Int) := if q ∈ s.1 then s else (s.1 ++ [q], s.2 ++ [q])
def three (own : List Int) : List (List Int) := [own.map fun x => -x, own.reverse, sinv own]
def stp (s : List (List Int) × List (List Int)) : List (List Int) × List (List Int) := match s.2.getLast? with
  | none => s
  | some own => (three own).foldl add1 (s.1, s.2.dropLast)
def itr : Nat → List (List Int) × List (List Int) → List (List Int) × List (List Int)
  | 0, s => s
  | k + 1, s => itr k (stp s)
theorem itr_nil (F : List (List Int)) : ∀ k, itr k (F, []) = (F, [])
  | 0 => rfl
  | k + 1 => itr_nil F k
theorem stp_app (F L : List (List Int)) (own : List Int) : stp (F, L ++ [own]) = (three own).foldl add1 (F, L) := by
  simp only [stp, List.getLast?_concat, List.dropLast_concat]
def zs : List Int := (List.range 13).map fun k : Nat => (k : Int) - 6
def allZ : Nat → List (List Int)
  | 0 => [[]]
  | n + 1 => (allZ n).flatMap fun l => zs.map fun x => x :: l
theorem allZ_len : ∀ n, (allZ n).length ≤ 13 ^ n
  | 0 => Nat.le_refl _
  | n + 1 => by
    have h := flatMap_len (fun l => zs.map fun x => x :: l) 13 (allZ n) (fun x _ => by simp [zs])
    have h2 := allZ_len n
    rw [Nat.pow_succ]
    exact Nat.le_trans h (Nat.mul_le_mul_right _ h2)
theorem mem_allZ : ∀ l : List Int, (∀ x ∈ l, -6 ≤ x ∧ x ≤ 6) → l ∈ allZ l.length
  | [], _ => List.mem_cons_self ..
  | x :: l, h => by
    have hx := h x (List.mem_cons_self ..)
    refine List.mem_flatMap.mpr ⟨l, mem_allZ l fun y hy => h y (List.mem_cons_of_mem _ hy), List.mem_map.mpr ⟨x, ?_, rfl⟩⟩
    exact List.mem_map.mpr ⟨(x + 6).toNat, List.mem_range.mpr (by omega), by omega⟩
structure Img (n : Nat) (F L : List (List Int)) : Prop where
  nd : F.Nodup
  sg : ∀ o ∈ F, Sg n o
  sl : ∀ o ∈ L, Sg n o
  le : L.length ≤ F.length
theorem Img.few {n : Nat} {F L : List (List Int)} (h : Img n F L) (hn : n ≤ 6) : F.length ≤ 4826809 := by
  have h1 := sub_len (m := allZ n) h.nd fun o ho => by
    have s := h.sg o ho
    have := mem_allZ o fun x hx => by
      have := s.mem hx
      unfold absI at this
      split at this <;> omega
    rw [s.len] at this
    exact this
  have h2 := allZ_len n
  have h3 : 13 ^ n ≤ 13 ^ 6 := Nat.pow_le_pow_right (by omega) hn
  have h4 : (13 : Nat) ^ 6 = 4826809 := by decide
  omega
theorem Img.add {n : Nat} {F L : List (List Int)} (h : Img n F L) {q : List Int} (hq : Sg n q) (hm : q ∉ F) : Img n (F ++ [q]) (L ++ [q]) := by
  refine ⟨?_, ?_, ?_, ?_⟩
  · rw [List.nodup_append]
    refine ⟨h.nd, List.nodup_cons.mpr ⟨by simp, List.nodup_nil⟩, fun a ha b hb e => ?_⟩
    have : b = q := by simpa using hb
    subst this
    subst e
    exact hm ha
  · intro o ho
    rcases List.mem_append.mp ho with ho | ho
    · exact h.sg o ho
    · rw [List.mem_singleton.mp ho]; exact hq
  · intro o ho
    rcases List.mem_append.mp ho with ho | ho
    · exact h.sl o ho
    · rw [List.mem_singleton.mp ho]; exact hq
  · have := h.le
    rw [List.length_append, List.length_append]
    exact Nat.add_le_add_right this _
def mu_ (F L : List (List Int)) : Nat := 2 * (4826809 - F.length) + L.length
theorem three_sg {n : Nat} {own : List Int} (h : Sg n own) : ∀ o ∈ three own, Sg n o := by
  intro o ho
  unfold three at ho
  rcases List.mem_cons.mp ho with rfl | ho
  · exact h.neg
  rcases List.mem_cons.mp ho with rfl | ho
  · exact h.rev
  rw [List.mem_singleton.mp ho]
  exact h.inv
theorem three_pV (own : List Int) : [PV.tup ((own.map fun x => -x).map PV.int), .tup (own.map PV.int).reverse, pV (sinv own)] = (three own).map pV := by
  rw [← List.map_reverse]
  rfl
/-- what the walk over three keeps -/
def Kp (n : Nat) (X : List (List Int) × List (List Int)) (p : List Int) (m : Nat) (r : List (List Int)) (F L : List (List Int)) : Prop :=
  Img n F L ∧ p ∈ F ∧ (∀ o ∈ r, Sg n o) ∧ mu_ F L + 1 ≤ m ∧ ∃ t, m ≤ t + 1 ∧ itr t (r.foldl add1 (F, L)) = X
theorem Kp.step {n : Nat} {X : List (List Int) × List (List Int)} {p q : List Int} {m : Nat} {r F L : List (List Int)} (h : Kp n X p m (q :: r) F L) (hn : n ≤ 6) : Kp n X p m r (add1 (F, L) q).1 (add1 (F, L) q).2 := by
  obtain ⟨h1, h2, h3, h4, t, h5, h6⟩ := h
  have hr : ∀ o ∈ r, Sg n o := fun o ho => h3 o (List.mem_cons_of_mem _ ho)
  unfold add1
  by_cases e : q ∈ F
  · rw [if_pos e]
    refine ⟨h1, h2, hr, h4, t, h5, ?_⟩
    rw [List.foldl_cons] at h6
    unfold add1 at h6
    rw [if_pos e] at h6
    exact h6
  · rw [if_neg e]
    have ha := h1.add (h3 q (List.mem_cons_self ..)) e
    have hf := ha.few hn
    refine ⟨ha, List.mem_append.mpr (.inl h2), hr, ?_, t, h5, ?_⟩
    · unfold mu_ at h4 ⊢
      simp only [List.length_append, List.length_singleton] at hf ⊢
      omega
    · rw [List.foldl_cons] at h6
      unfold add1 at h6
      rw [if_neg e] at h6
      exact h6
/-- what the walk keeps -/
def Kw (n : Nat) (X : List (List Int) × List (List Int)) (p : List Int) (m : Nat) (F L : List (List Int)) : Prop :=
  Img n F L ∧ p ∈ F ∧ m = mu_ F L ∧ ∃ t, m ≤ t ∧ itr t (F, L) = X
theorem Kw.pop {n : Nat} {X : List (List Int) × List (List Int)} {p own : List Int} {m : Nat} {F L : List (List Int)} (h : Kw n X p m F (L ++ [own])) : Kp n X p m (three own) F L := by
  obtain ⟨h1, h2, h3, t, h4, h5⟩ := h
  have hm : m = mu_ F L + 1 := by
    rw [h3]
    unfold mu_
    rw [List.length_append, List.length_singleton]
    omega
  obtain ⟨t, rfl⟩ : ∃ u, t = u + 1 := ⟨t - 1, by omega⟩
  have hle := h1.le
  rw [List.length_append] at hle
  refine ⟨⟨h1.nd, h1.sg, fun o ho => h1.sl o (List.mem_append.mpr (.inl ho)), by omega⟩, h2, three_sg (h1.sl own (by simp)), by omega, t, h4, ?_⟩
  have h5 : itr t (stp (F, L ++ [own])) = X := h5
  rw [stp_app] at h5
  exact h5
theorem Kp.done {n : Nat} {X : List (List Int) × List (List Int)} {p : List Int} {m : Nat} {F L : List (List Int)} (h : Kp n X p m [] F L) : mu_ F L < m ∧ Kw n X p (mu_ F L) F L := by
  obtain ⟨h1, h2, h3, h4, t, h5, h6⟩ := h
  exact ⟨by omega, h1, h2, rfl, t, by omega, h6⟩
theorem Kw.fin {n : Nat} {X : List (List Int) × List (List Int)} {p : List Int} {m : Nat} {F : List (List Int)} (h : Kw n X p m F []) : X = (F, []) ∧ Img n F [] ∧ p ∈ F := by
  obtain ⟨h1, h2, h3, t, h4, h5⟩ := h
  rw [itr_nil] at h5
  exact ⟨h5.symm, h1, h2⟩
theorem Kw.init {n : Nat} {p : List Int} (h : Sg n p) (K : Nat) (hK : 9653618 ≤ K) : Kw n (itr K ([p], [p])) p (mu_ [p] [p]) [p] [p] := by
  refine ⟨⟨List.nodup_cons.mpr ⟨by simp, List.nodup_nil⟩, fun o ho => ?_, fun o ho => ?_, Nat.le_refl _⟩, by simp, rfl, K, ?_, rfl⟩
  · rw [List.mem_singleton.mp ho]; exact h
  · rw [List.mem_singleton.mp ho]; exact h
  · unfold mu_
    simp only [List.length_cons, List.length_nil]
    omega
theorem mu_wf (p : List Int) : mu_ [p] [p] < WF := by
  unfold mu_ WF
  simp only [List.length_cons, List.length_nil]
  omega
def gm (R : Nat → Env → Prop) (m : Nat) (z : Res Fl) : Prop := ∃ ρ' m', (z = .ok (.nx ρ') ∨ z = .ok (.ct ρ')) ∧ m' < m ∧ R m' ρ'
theorem l_law_images (d n K : Nat) (p : List Int) (h : Sg n p) (hn : n ≤ 6) (hK : 9653618 ≤ K) (hd : 2 ≤ d) : ∃ F, callF tab d F_law_images false [pV p] = .ok ((.lst (F.map pV), true), .non) ∧ itr K ([p], [p]) = (F, []) ∧ Img n F [] ∧ p ∈ F := by
  obtain ⟨d, rfl⟩ : ∃ e, d = e + 1 := ⟨d - 1, by omega⟩
  rw [call_eq t_law_images rfl]
  k_search [D_law_images]
  refine whL_post (Post := fun z => ∃ F, z = Res.ok ((PV.lst (F.map pV), true), PV.non) ∧ itr K ([p], [p]) = (F, []) ∧ Img n F [] ∧ p ∈ F) (fun m ρ => ∃ (F L : List (List Int)) (s3 s4 s5 : Slot), ρ = [.s (pV p), .o (.lst (F.map pV)), .o (.lst (L.map pV)), s3, s4, s5] ∧ notOwn s5 = true ∧ Kw n (itr K ([p], [p])) p m F L) (mu_wf p) ⟨[p], [p], .n, .n, .n, rfl, rfl, Kw.init h K hK⟩ ?_
  rintro m _ ⟨F, L, s3, s4, s5, rfl, n5, hk⟩
  rcases List.eq_nil_or_concat L with rfl | ⟨L, own, rfl⟩
  · refine ⟨false, _, by k_search []; rfl, ?_⟩
    rw [if_neg Bool.false_ne_true]
    obtain ⟨e1, e2, e3⟩ := hk.fin
    exact ⟨F, by k_search [], e1, e2, e3⟩
  · rw [List.concat_eq_append] at hk ⊢
    have hp := hk.pop
    have so : Sg n own := hk.1.sl own (by simp)
    have hol := so.len
    have g0 : ((0 : Int) < ((L ++ [own]).length : Int)) = True := eq_true (by rw [List.length_append, List.length_singleton]; omega)
    have g1 : ((L ++ [own]).map pV).getLast? = some (pV own) := by rw [List.map_append]; exact List.getLast?_concat ..
    have g2 : ((L ++ [own]).map pV).dropLast = L.map pV := by rw [List.map_append]; exact List.dropLast_concat
    have c1 : lenOk own.length = true := lenOk_of (by omega)
    refine ⟨true, _, by k_search [g0]; rfl, ?_⟩
    rw [if_pos rfl]
    refine .inl ?_
    k_search [g1, g2, c1, n5, and_self]
    rw [lcE_int PV.int (fun x => -x)]
    · k_search [l_law_inverse d n own so (by omega) (by omega)]
      rw [three_pV]
      change gm _ _ _
      refine forL_post (Post := gm (fun m' ρ' => ∃ (F L : List (List Int)) (s3 s4 s5 : Slot), ρ' = [.s (pV p), .o (.lst (F.map pV)), .o (.lst (L.map pV)), s3, s4, s5] ∧ notOwn s5 = true ∧ Kw n (itr K ([p], [p])) p m' F L) m) pV (fun r ρ => ∃ (F L : List (List Int)) (s4 s5 : Slot), ρ = [.s (pV p), .o (.lst (F.map pV)), .o (.lst (L.map pV)), .s (pV own), s4, s5] ∧ notOwn s5 = true ∧ Kp n (itr K ([p], [p])) p m r F L) ⟨F, L, s4, _, rfl, n5, hp⟩ ?_ ?_
      · rintro q r _ ⟨F, L, s4, s5, rfl, n5, hk⟩
        have hs := hk.step hn
        have few := hs.1.few hn
        have le := hs.1.le
        unfold add1 at hs few le
        by_cases e : q ∈ F
        · rw [if_pos e] at hs
          k_search [datas_int, datas_pVD, mem_any, e]
          exact ⟨_, .inl rfl, _, _, _, _, rfl, n5, hs⟩
        · rw [if_neg e] at hs few le
          simp only [List.length_append, List.length_singleton] at few le
          have c2 : lenOk (F.length + 1) = true := lenOk_of (by omega)
          have c3 : lenOk (L.length + 1) = true := lenOk_of (by omega)
          k_search [datas_int, datas_pVD, mem_any, e, c2, c3]
          exact ⟨_, .inl rfl, F ++ [q], L ++ [q], _, _, by rw [List.map_append, List.map_append]; first | done | rfl, n5, hs⟩
      · rintro _ ⟨F, L, s4, s5, rfl, n5, hk⟩
        obtain ⟨h1, h2⟩ := hk.done
        k_search []
        exact ⟨_, _, .inl rfl, h1, F, L, _, _, _, rfl, n5, h2⟩
    · intro x hx
      k_search []
      exact ⟨_, rfl, rfl⟩
theorem l_is_signed_image (d n K : Nat) (p q : List Int) (h : Sg n p) (hq : Sg n q) (hn : n ≤ 6) (hK : 9653618 ≤ K) (hd : 5 ≤ d) : ∃ F, callF tab d F_is_signed_image false [pV p, pV q] = .ok ((.bl (decide (q ∈ F)), false), .non) ∧ itr K ([p], [p]) = (F, []) ∧ Img n F [] ∧ p ∈ F := by
  obtain ⟨d, rfl⟩ : ∃ e, d = e + 1 := ⟨d - 1, by omega⟩
  rw [call_eq t_is_signed_image rfl]
  have hl := h.len
  have hql := hq.len
  have e1 : ((p.length : Int) = (q.length : Int)) = True := eq_true (by omega)
  k_search [D_is_signed_image, l_check_signed_ok d p (h.ok (by omega)) (by omega), l_check_signed_ok d q (hq.ok (by omega)) (by omega), e1, ints_is]
  refine whL_post (Post := fun z => ∃ F, z = Res.ok ((PV.bl (decide (q ∈ F)), false), PV.non) ∧ itr K ([p], [p]) = (F, []) ∧ Img n F [] ∧ p ∈ F) (fun m ρ => ∃ (F L : List (List Int)) (s3 s4 s5 : Slot), ρ = [.s (pV p), .s (pV q), .o (.dic (F.map pV) (F.map fun _ => PV.bl true)), .o (.lst (L.map pV)), s3, s4, s5] ∧ notOwn s5 = true ∧ Kw n (itr K ([p], [p])) p m F L) (mu_wf p) ⟨[p], [p], .n, .n, .n, rfl, rfl, Kw.init h K hK⟩ ?_
  rintro m _ ⟨F, L, s3, s4, s5, rfl, n5, hk⟩
  rcases List.eq_nil_or_concat L with rfl | ⟨L, own, rfl⟩
  · refine ⟨false, _, by k_search []; rfl, ?_⟩
    rw [if_neg Bool.false_ne_true]
    obtain ⟨e1, e2, e3⟩ := hk.fin
    exact ⟨F, by k_search [ints_is, mem_any], e1, e2, e3⟩
  · rw [List.concat_eq_append] at hk ⊢
    have hp := hk.pop
    have so : Sg n own := hk.1.sl own (by simp)
    have hol := so.len
    have g0 : ((0 : Int) < ((L ++ [own]).length : Int)) = True := eq_true (by rw [List.length_append, List.length_singleton]; omega)
    have g1 : ((L ++ [own]).map pV).getLast? = some (pV own) := by rw [List.map_append]; exact List.getLast?_concat ..
    have g2 : ((L ++ [own]).map pV).dropLast = L.map pV := by rw [List.map_append]; exact List.dropLast_concat
    have c1 : lenOk own.length = true := lenOk_of (by omega)
    refine ⟨true, _, by k_search [g0]; rfl, ?_⟩
    rw [if_pos rfl]
    refine .inl ?_
    k_search [g1, g2, c1, n5, and_self]
    rw [lcE_int PV.int (fun x => -x)]
    · k_search [l_signed_inverse d n own so (by omega) (by omega)]
      rw [three_pV]
      change gm _ _ _
      refine forL_post (Post := gm (fun m' ρ' => ∃ (F L : List (List Int)) (s3 s4 s5 : Slot), ρ' = [.s (pV p), .s (pV q), .o (.dic (F.map pV) (F.map fun _ => PV.bl true)), .o (.lst (L.map pV)), s3, s4, s5] ∧ notOwn s5 = true ∧ Kw n (itr K ([p], [p])) p m' F L) m) pV (fun r ρ => ∃ (F L : List (List Int)) (s4 s5 : Slot), ρ = [.s (pV p), .s (pV q), .o (.dic (F.map pV) (F.map fun _ => PV.bl true)), .o (.lst (L.map pV)), .s (pV own), s4, s5] ∧ notOwn s5 = true ∧ Kp n (itr K ([p], [p])) p m r F L) ⟨F, L, s4, _, rfl, n5, hp⟩ ?_ ?_
      · rintro w r _ ⟨F, L, s4, s5, rfl, n5, hk⟩
        have hs := hk.step hn
        have few := hs.1.few hn
        have le := hs.1.le
        unfold add1 at hs few le
        by_cases e : w ∈ F
        · rw [if_pos e] at hs
          k_search [ints_is, mem_any, e]
          exact ⟨_, .inl rfl, _, _, _, _, rfl, n5, hs⟩
        · rw [if_neg e] at hs few le
          simp only [List.length_append, List.length_singleton] at few le
          have c2 : lenOk (F.length + 1) = true := lenOk_of (by omega)
          have c3 : lenOk (L.length + 1) = true := lenOk_of (by omega)
          k_search [ints_is, mem_any, e, r_set_dic, c2, c3]
          exact ⟨_, .inl rfl, F ++ [w], L ++ [w], _, _, by rw [List.map_append, List.map_append, List.map_append]; rfl, n5, hs⟩
      · rintro _ ⟨F, L, s4, s5, rfl, n5, hk⟩
        obtain ⟨h1, h2⟩ := hk.done
        k_search []
        exact ⟨_, _, .inl rfl, h1, F, L, _, _, _, rfl, n5, h2⟩
    · intro x hx
      k_search []
      exact ⟨_, rfl, rfl⟩
/-- both say the same -/
theorem l_images (n : Nat) (p : List Int) (h : Sg n p) (hn : n ≤ 6) : ∃ F : List (List Int), (∀ o ∈ F, Sg n o) ∧ p ∈ F ∧ F.length ≤ 4826809 ∧ (∀ d, 2 ≤ d → callF tab d F_law_images false [pV p] = .ok ((.lst (F.map pV), true), .non)) ∧ ∀ d q, Sg n q → 5 ≤ d → callF tab d F_is_signed_image false [pV p, pV q] = .ok ((.bl (decide (q ∈ F)), false), .non) := by
  obtain ⟨K, hK⟩ : ∃ K : Nat, 9653618 ≤ K := ⟨_, Nat.le_refl _⟩
  obtain ⟨F, _, h2, h3, h4⟩ := l_law_images 2 n K p h hn hK (by omega)
  refine ⟨F, h3.sg, h4, h3.few hn, fun d hd => ?_, fun d q hq hd => ?_⟩
  · obtain ⟨G, g1, g2, _⟩ := l_law_images d n K p h hn hK hd
    rw [h2] at g2
    rw [g1, ← (Prod.mk.inj g2).1]
  · obtain ⟨G, g1, g2, _⟩ := l_is_signed_image d n K p q h hq hn hK hd
    rw [h2] at g2
    rw [g1, ← (Prod.mk.inj g2).1]
set_option autoImplicit false
set_option linter.all false
set_option maxRecDepth 20000
set_option maxHeartbeats 2000000
/-! ### what is refused -/
theorem l_check_bad (d : Nat) (v : PV) (hv : PV.data 40 v = true) (h : isSgn v = false) (hd : 3 ≤ d) : callF tab d F_check_signed false [v] = .exc X_Malformed .non := by
  rw [l_check_signed d v hv hd, h]
  rfl
theorem inv_bad (d : Nat) (v : PV) (hv : PV.data 40 v = true) (h : isSgn v = false) (hd : 4 ≤ d) : callF tab d F_signed_inverse false [v] = .exc X_Malformed .non := by
  obtain ⟨d, rfl⟩ : ∃ e, d = e + 1 := ⟨d - 1, by omega⟩
  rw [call_eq t_signed_inverse rfl]
  k_search [D_signed_inverse, l_check_bad d v hv h (by omega)]
theorem desc_bad (d : Nat) (v : PV) (hv : PV.data 40 v = true) (h : isSgn v = false) (hd : 4 ≤ d) : callF tab d F_signed_descents false [v] = .exc X_Malformed .non := by
  obtain ⟨d, rfl⟩ : ∃ e, d = e + 1 := ⟨d - 1, by omega⟩
  rw [call_eq t_signed_descents rfl]
  k_search [D_signed_descents, l_check_bad d v hv h (by omega)]
theorem prod_bad0 (d : Nat) (v w : PV) (hv : PV.data 40 v = true) (h : isSgn v = false) (hd : 4 ≤ d) : callF tab d F_signed_product false [v, w] = .exc X_Malformed .non := by
  obtain ⟨d, rfl⟩ : ∃ e, d = e + 1 := ⟨d - 1, by omega⟩
  rw [call_eq t_signed_product rfl]
  k_search [D_signed_product, l_check_bad d v hv h (by omega)]
theorem prod_bad1 (d : Nat) (p : List Int) (v : PV) (hp : sgnL p = true) (hv : PV.data 40 v = true) (h : isSgn v = false) (hd : 4 ≤ d) : callF tab d F_signed_product false [pV p, v] = .exc X_Malformed .non := by
  obtain ⟨d, rfl⟩ : ∃ e, d = e + 1 := ⟨d - 1, by omega⟩
  rw [call_eq t_signed_product rfl]
  k_search [D_signed_product, l_check_signed_ok d p hp (by omega), l_check_bad d v hv h (by omega)]
theorem img_bad1 (d : Nat) (p : List Int) (v : PV) (hp : sgnL p = true) (hv : PV.data 40 v = true) (h : isSgn v = false) (hd : 4 ≤ d) : callF tab d F_is_signed_image false [pV p, v] = .exc X_Malformed .non := by
  obtain ⟨d, rfl⟩ : ∃ e, d = e + 1 := ⟨d - 1, by omega⟩
  rw [call_eq t_is_signed_image rfl]
  k_search [D_is_signed_image, l_check_signed_ok d p hp (by omega), l_check_bad d v hv h (by omega)]
theorem idP_succ (n : Nat) : idP (n + 1) = idP n ++ [(n : Int) + 1] := by
  unfold idP
  rw [List.range_succ, List.map_append]
  rfl
theorem Sg.ext {n : Nat} {p : List Int} (h : Sg n p) : Sg (n + 1) (p ++ [(n : Int) + 1]) := by
  refine ⟨by rw [List.length_append, h.len]; rfl, ?_⟩
  rw [List.map_append, idP_succ]
  have e : [(n : Int) + 1].map absI = [(n : Int) + 1] := by
    show [absI ((n : Int) + 1)] = _
    unfold absI
    rw [if_neg (by omega)]
  rw [e]
  exact h.pm.append_right _
theorem prod_len (d n : Nat) (p q : List Int) (h : Sg n p) (hq : Sg (n + 1) q) (hn : n ≤ 8) (hd : 4 ≤ d) : callF tab d F_signed_product false [pV p, pV q] = .exc X_Malformed .non := by
  obtain ⟨d, rfl⟩ : ∃ e, d = e + 1 := ⟨d - 1, by omega⟩
  rw [call_eq t_signed_product rfl]
  have hl := h.len
  have hql := hq.len
  have e1 : ((p.length : Int) = (q.length : Int)) = False := eq_false (by omega)
  k_search [D_signed_product, l_check_signed_ok d p (h.ok (by omega)) (by omega), l_check_signed_ok d q (hq.ok (by omega)) (by omega), e1]
theorem img_len (d n : Nat) (p q : List Int) (h : Sg n p) (hq : Sg (n + 1) q) (hn : n ≤ 8) (hd : 4 ≤ d) : callF tab d F_is_signed_image false [pV p, pV q] = .exc X_Refused (.str [108, 101, 110, 103, 116, 104, 115]) := by
  obtain ⟨d, rfl⟩ : ∃ e, d = e + 1 := ⟨d - 1, by omega⟩
  rw [call_eq t_is_signed_image rfl]
  have hl := h.len
  have hql := hq.len
  have e1 : ((p.length : Int) = (q.length : Int)) = False := eq_false (by omega)
  k_search [D_is_signed_image, l_check_signed_ok d p (h.ok (by omega)) (by omega), l_check_signed_ok d q (hq.ok (by omega)) (by omega), e1]
theorem l_raises_len (d f : Nat) (vs : List PV) (hv : argn vs) (hr : callF tab d f false vs = .exc X_Refused (.str [108, 101, 110, 103, 116, 104, 115])) (hd : 2 ≤ d) : callF tab (d + 2) F_law_raises false [.fn f, .tup vs, .str [108, 101, 110, 103, 116, 104, 115]] = .ok ((.bl true, false), .non) := by
  rw [call_eq t_law_raises rfl]
  k_search [D_law_raises, l_told_ref d f vs hv hr]
  rw [call_eq t_law_is_raised rfl]
  k_search [D_law_is_raised, pix0, pix1, l_same 0 (.str [108, 101, 110, 103, 116, 104, 115]) d trivial (by omega) (by omega)]
  rfl
/-! ### descents by the law -/
theorem l_law_signed_descents (d n : Nat) (p : List Int) (h : Sg n p) (hn : n ≤ 9) (hd : 1 ≤ d) : callF tab d F_law_signed_descents false [pV p] = .ok ((.int (dsc p : Int), false), .non) := by
  obtain ⟨d, rfl⟩ : ∃ e, d = e + 1 := ⟨d - 1, by omega⟩
  rw [call_eq t_law_signed_descents rfl]
  have hl := h.len
  have c1 : lenOk (1 + p.length) = true := lenOk_of (by omega)
  have c2 : rng2Ok 1 ((p.length + 1 : Nat) : Int) = true := rng2Ok_of (by omega) (by omega) (by omega) (by omega)
  have r2 : rngL 1 ((p.length + 1 : Nat) : Int) = (List.range' 1 (p.length + 1 - 1)).map fun k : Nat => PV.int (k : Int) := rngL_n 1 (p.length + 1)
  have c3 : lenOk (p.length + 1 - 1) = true := lenOk_of (by omega)
  obtain ⟨w, hw⟩ : ∃ w, w = 0 :: p := ⟨_, rfl⟩
  have hwl : w.length = p.length + 1 := by rw [hw]; rfl
  have e0 : PV.int 0 :: p.map PV.int = w.map PV.int := by rw [hw]; rfl
  k_search [D_law_signed_descents, c1, e0, hwl, c2, r2, List.length_range', c3, and_self]
  rw [lcE_if (fun k : Nat => PV.int (k : Int)) (fun k => decide (av w k < av w (k - 1))) (fun k : Nat => PV.int (k : Int))]
  · have e1 : (((List.range' 1 (p.length + 1 - 1)).filter fun k => decide (av w k < av w (k - 1))).length : Int) = (dsc p : Int) := by rw [hw]; rfl
    k_search [e1]
  · intro k hk
    have hk := List.mem_range'_1.mp hk
    obtain ⟨m, rfl⟩ : ∃ m, k = m + 1 := ⟨k - 1, by omega⟩
    have e2 : ((m + 1 : Nat) : Int) - 1 = (m : Int) := by omega
    have g1 : (w.map PV.int)[m]? = some (.int (av w m)) := get_pm (by omega)
    have g2 : (w.map PV.int)[m + 1]? = some (.int (av w (m + 1))) := get_pm (by omega)
    have e3 : m + 1 - 1 = m := rfl
    k_search [e2, pix_nat, g1, g2, e3]
    exact ⟨_, rfl, rfl⟩
/-! ### flattened rows -/
def wdx (x : Int) : Int := x * 2 + (if 0 < x then 1 else -1)
def wd (p : List Int) : List Int := p.map wdx
def od (n : Nat) : List Int := (idP n).map fun x => 2 * x + 1
def fidx (own : List Int) (x : Int) : Option Nat := own.findIdx? fun z => decide (z = x)
theorem od_ok : ((List.range 10).all fun n => decide ((ddI (od n)).length = n) && (List.range n).all fun k => decide (fidx (od n) (2 * ((k : Int) + 1) + 1) = some k)) = true := by decide +kernel
theorem od_of {n : Nat} (hn : n ≤ 9) : (ddI (od n)).length = n ∧ ∀ k, k < n → fidx (od n) (2 * ((k : Int) + 1) + 1) = some k := by
  have := List.all_eq_true.mp od_ok n (List.mem_range.mpr (by omega))
  rw [Bool.and_eq_true, decide_eq_true_eq, List.all_eq_true] at this
  exact ⟨this.1, fun k hk => of_decide_eq_true (this.2 k (List.mem_range.mpr hk))⟩
theorem absI_wdx (x : Int) (h : 1 ≤ absI x) : absI (wdx x) = 2 * absI x + 1 := by
  unfold absI at h
  unfold wdx absI
  split at h <;> split <;> split <;> omega
theorem wd_sort {n : Nat} {p : List Int} (h : Sg n p) : sortI ((wd p).map absI) = od n := by
  have e : (wd p).map absI = (p.map absI).map fun x => 2 * x + 1 := by
    unfold wd
    rw [List.map_map, List.map_map]
    exact List.map_congr_left fun x hx => absI_wdx x (h.mem hx).1
  have hp : ((wd p).map absI).Perm (od n) := by rw [e]; exact h.pm.map _
  refine List.Perm.eq_of_pairwise (fun a b _ _ h1 h2 => Int.le_antisymm h1 h2) (sortI_sorted _) ?_ ((sortI_perm _).trans hp)
  unfold od
  rw [List.pairwise_map]
  exact (idP_sorted n).imp fun h => by omega
theorem kd_l (x : List PV) : PV.kd (.lst x) = 2 := rfl
theorem on_ixl : Me.on .index 2 = true := rfl
theorem me_ixl (own : List Int) (x : Int) {k : Nat} (h : fidx own x = some k) : meV .index (.lst (own.map .int)) [.int x] = .ok (.int (k : Int), false) := by
  show (if PV.datas DD (own.map .int) && PV.data DD (.int x) then (match (own.map PV.int).findIdx? fun z => PV.eqv z (.int x) with | some k => Res.ok (PV.int (k : Nat), false) | none => .bad) else .bad) = _
  rw [datas_int, da_i]
  have e : (own.map PV.int).findIdx? (fun z => PV.eqv z (.int x)) = fidx own x := by
    rw [List.findIdx?_map]
    rfl
  rw [e, h]
  rfl
theorem od_len (n : Nat) : (od n).length = n := by unfold od; rw [List.length_map, idP_length]
theorem l_signed_flat (d n : Nat) (p : List Int) (h : Sg n p) (hn : n ≤ 9) (hd : 2 ≤ d) : callF tab d F_signed_flat false [pV (wd p)] = .ok ((pV p, false), .non) := by
  obtain ⟨d, rfl⟩ : ∃ e, d = e + 1 := ⟨d - 1, by omega⟩
  rw [call_eq t_signed_flat rfl]
  have hl : (wd p).length = n := by unfold wd; rw [List.length_map, h.len]
  obtain ⟨w, hw⟩ : ∃ w, w = wd p := ⟨_, rfl⟩
  have hs := wd_sort h
  have back : w.map (fun x => ((absI x - 1) / 2) * (if 0 < x then 1 else -1)) = p := by
    rw [hw]
    unfold wd
    rw [List.map_map]
    refine Eq.trans (List.map_congr_left fun x hx => ?_) (List.map_id p)
    have := (h.mem hx).1
    show ((absI (wdx x) - 1) / 2) * (if 0 < wdx x then 1 else -1) = x
    rw [absI_wdx x this]
    unfold absI wdx at *
    by_cases h0 : 0 < x
    · rw [if_pos h0] at *
      rw [if_neg (by omega), if_pos (by omega)]
      omega
    · rw [if_neg h0] at *
      rw [if_pos (by split at this <;> omega), if_neg (by omega)]
      omega
  have hmem : ∀ x ∈ w, x ≠ 0 ∧ ∃ k : Nat, k < n ∧ absI x = 2 * ((k : Int) + 1) + 1 := by
    rw [hw]
    intro x hx
    obtain ⟨y, hy, rfl⟩ := List.mem_map.mp hx
    have hy := h.mem hy
    refine ⟨?_, (absI y - 1).toNat, by omega, ?_⟩
    · unfold wdx
      split <;> omega
    · rw [absI_wdx y hy.1]
      omega
  rw [← hw] at hl hs ⊢
  have c1n : lenOk n = true := lenOk_of (by omega)
  have c1 : lenOk w.length = true := lenOk_of (by omega)
  have c0 : ¬ ((9 : Int) < (w.length : Int)) := by omega
  obtain ⟨o1, o2⟩ := od_of hn
  have c2 : (n ≤ 1000) = True := eq_true (by omega)
  k_search [D_signed_flat, c0, c1, and_self]
  rw [lcE_bl PV.int (fun _ => true)]
  · k_search [all_trues, c1, and_self]
    rw [lcE_int PV.int absI]
    · k_search [sortable_ints, sortP_int, hs, od_len, c2, o1, hl]
      rw [lcE_int PV.int (fun x => ((absI x - 1) / 2) * (if 0 < x then 1 else -1))]
      · k_search [back, c1n, and_self]
      · intro x hx
        obtain ⟨_, k, hk, e⟩ := hmem x hx
        have ek := me_ixl (od n) (2 * ((k : Int) + 1) + 1) (o2 k hk)
        have e3 : (absI x - 1) / 2 = (k : Int) + 1 := by omega
        rw [e3]
        by_cases h0 : 0 < x
        · k_search [h0, abs_fold, e, kd_l, on_ixl, ek, okMul_r _ 1 (by decide) (by decide)]
          exact ⟨_, rfl, rfl⟩
        · k_search [h0, abs_fold, e, kd_l, on_ixl, ek, okMul_r _ (-1) (by decide) (by decide)]
          exact ⟨_, rfl, rfl⟩
    · intro x hx
      k_search [absI]
      exact ⟨_, rfl, rfl⟩
  · intro x hx
    have := (hmem x hx).1
    k_search [l_is_integer d (.int x) rfl (by omega), isInt, this]
    exact ⟨_, rfl, rfl⟩
def nzI : PV → Bool
  | .int i => decide (i ≠ 0)
  | _ => false
def fl0 : PV → Bool
  | .tup xs => decide (xs.length ≤ 9) && xs.all nzI
  | _ => false
theorem flat_bad (d : Nat) (v : PV) (hv : PV.data 40 v = true) (h : fl0 v = false) (hd : 2 ≤ d) : callF tab d F_signed_flat false [v] = .exc X_Malformed .non := by
  obtain ⟨d, rfl⟩ : ∃ e, d = e + 1 := ⟨d - 1, by omega⟩
  rw [call_eq t_signed_flat rfl]
  cases v with
  | tup xs =>
    by_cases h9 : xs.length ≤ 9
    · have hh : ¬ ((9 : Int) < (xs.length : Int)) := by omega
      have hds : PV.datas 39 xs = true := hv
      have c0 : lenOk xs.length = true := lenOk_of (by omega)
      have ha : xs.all nzI = false := by
        simpa only [fl0, decide_eq_true h9, Bool.true_and] using h
      k_search [D_signed_flat, hh, c0, and_self]
      rw [lc_all nzI]
      · k_search [List.all_map, Function.id_comp, ha]
      · intro x hx
        have ht : x.typed = true := typed_of_data (datas_mem hds hx)
        cases x with
        | int i =>
          by_cases h0 : i = 0
          · subst h0
            k_search [l_is_integer d (.int 0) ht (by omega), isInt, nzI, ne_eq, not_true]
            exact ⟨_, rfl, rfl⟩
          · k_search [l_is_integer d _ ht (by omega), isInt, nzI, h0, ne_eq, not_false_eq_true]
            exact ⟨_, rfl, rfl⟩
        | fn | rng | scr | dic | set => cases ht
        | _ =>
          k_search [l_is_integer d _ ht (by omega), isInt, nzI]
          exact ⟨_, rfl, rfl⟩
    · have hh : (9 : Int) < (xs.length : Int) := by omega
      k_search [D_signed_flat, hh]
  | fn | rng | scr | dic | set => cases hv
  | _ => k_search [D_signed_flat]
theorem flat_two (d : Nat) (hd : 2 ≤ d) : callF tab d F_signed_flat false [.tup [.int 1, .int (-1)]] = .exc X_Malformed .non := by
  obtain ⟨d, rfl⟩ : ∃ e, d = e + 1 := ⟨d - 1, by omega⟩
  rw [call_eq t_signed_flat rfl]
  have e0 : [PV.int 1, PV.int (-1)] = ([1, -1] : List Int).map PV.int := rfl
  obtain ⟨w, hw⟩ : ∃ w : List Int, w = [1, -1] := ⟨_, rfl⟩
  rw [e0, ← hw]
  have hl : w.length = 2 := by rw [hw]; rfl
  have hs : sortI (w.map absI) = [1, 1] := by rw [hw]; decide +kernel
  have c1 : lenOk w.length = true := lenOk_of (by omega)
  have c0 : ¬ ((9 : Int) < (w.length : Int)) := by omega
  have c2 : ((2 : Nat) ≤ 1000) = True := by simp
  have o1 : (ddI [1, 1]).length = 1 := by decide +kernel
  have e2 : [PV.int 1, PV.int 1] = ([1, 1] : List Int).map PV.int := rfl
  have rl : biV .lens [.lst [PV.int 1, PV.int 1]] = .ok (.int 1, false) := by rw [e2, r_lens_l, o1]; rfl
  k_search [D_signed_flat, c0, c1, and_self]
  rw [lcE_bl PV.int (fun _ => true)]
  · k_search [all_trues, c1, and_self]
    rw [lcE_int PV.int absI]
    · k_search [sortable_ints, sortP_int, hs, rl]
      rfl
    · intro x hx
      k_search [absI]
      exact ⟨_, rfl, rfl⟩
  · intro x hx
    have : x ≠ 0 := by
      rw [hw] at hx
      simp at hx
      omega
    k_search [l_is_integer d (.int x) rfl (by omega), isInt, this]
    exact ⟨_, rfl, rfl⟩
set_option autoImplicit false
set_option linter.all false
set_option maxRecDepth 20000
set_option maxHeartbeats 4000000
theorem l_law_plain (d : Nat) (v : PV) (hv : v.typed = true) (hd : 1 ≤ d) : callF tab d F_law_plain false [v] = .ok ((.bl (isInt v), false), .non) := by
  obtain ⟨d, rfl⟩ : ∃ e, d = e + 1 := ⟨d - 1, by omega⟩
  rw [call_eq t_law_plain rfl]
  cases v <;> first | (k_search [D_law_plain]; done) | cases hv
/-- what the law asks of a value -/
def GOOD : E := (.and (.bi (.isi [.tup]) [.v 10]) (.and (.cmp .lt (.bi .len [.v 10]) (.c (.int 10))) (.and (.bi .all [.lc [16] (.v 16) .seq [.v 10] [] (.call F_law_plain [.v 16])]) (.cmp .eq (.bi .sorted [.lc [16] (.v 16) .seq [.v 10] [] (.bi .abs [.v 16])]) (.bi .list [.bi .range2 [.c (.int 1), .bin .add (.bi .len [.v 10]) (.c (.int 1))]])))))
def REST : List S := [    .ite (.not (.call F_law_tells [.c (.fn F_is_signed), .tup [.v 10], .v 15])) [.ret (.c (.bl false))] [],
    .ite (.and (.not (.v 15)) (.not (.and (.call F_law_bads [.c (.fn F_signed_inverse), .tup [.v 13], .c (.int 0), .lst [.v 10]]) (.and (.call F_law_bads [.c (.fn F_signed_product), .tup [.v 13, .v 14], .c (.int 0), .lst [.v 10]]) (.and (.call F_law_bads [.c (.fn F_signed_product), .tup [.v 13, .v 14], .c (.int 1), .lst [.v 10]]) (.and (.call F_law_bads [.c (.fn F_signed_descents), .tup [.v 13], .c (.int 0), .lst [.v 10]]) (.call F_law_bads [.c (.fn F_is_signed_image), .tup [.v 13, .v 14], .c (.int 1), .lst [.v 10]]))))))) [.ret (.c (.bl false))] []]
theorem b1_eq : B_law_1 = .asg (.v 15) GOOD :: REST := rfl
theorem lt10 (l : Nat) : ((l : Int) < 10) = (l ≤ 9) := propext (by omega)
theorem l_good (d : Nat) (v : PV) (s0 s1 s2 s3 s4 s5 s6 s7 s8 s9 s11 s12 s13 s14 s15 s16 s17 s18 : Slot) (n16 : notOwn s16 = true) (hv : PV.data 40 v = true) (hd : 2 ≤ d) :
    evE (callF tab d) GOOD [s0, s1, s2, s3, s4, s5, s6, s7, s8, s9, .s v, s11, s12, s13, s14, s15, s16, s17, s18] = .ok ((.bl (isSgn v), false), [s0, s1, s2, s3, s4, s5, s6, s7, s8, s9, .s v, s11, s12, s13, s14, s15, s16, s17, s18]) := by
  cases v with
  | tup xs =>
    by_cases h : xs.length ≤ 9
    · have hh : ((xs.length : Int) < 10) = True := eq_true (by omega)
      have hds : PV.datas 39 xs = true := hv
      have c0 : lenOk xs.length = true := lenOk_of (by omega)
      k_search [GOOD, hh, c0, n16, and_self]
      rw [lc_all isInt]
      · k_search [List.all_map, Function.id_comp]
        cases ha : xs.all isInt with
        | false =>
          have e : isSgn (.tup xs) = false := by simp [isSgn, ha]
          rw [e]
          k_search []
        | true =>
          obtain ⟨l, rfl⟩ := ints_all ha
          have hl : l.length ≤ 9 := by simpa using h
          have c2 : rngOk 1 ((l.length : Int) + 1) = true := rngOk_of (by omega) (by omega) (by omega) (by omega) (by omega)
          have c3 : lenOk l.length = true := lenOk_of (by omega)
          have e : isSgn (.tup (l.map PV.int)) = sgnL l := isSgn_pV l
          have e2 : sgnL l = decide (sortI (l.map absI) = idP l.length) := by simp [sgnL, hl]
          rw [e, e2]
          k_search [c3, n16, and_self]
          rw [lcE_int PV.int absI]
          · k_search [sortable_ints, c2, sortP_int, datas_int, datas_rngL, rngL_1, eqvs_int, and_self]
          · intro i hi
            k_search [absI]
            exact ⟨_, rfl, rfl⟩
      · intro x hx
        have ht : x.typed = true := typed_of_data (datas_mem hds hx)
        k_search [l_law_plain d x ht (by omega)]
        exact ⟨_, rfl, rfl⟩
    · have hh : ((xs.length : Int) < 10) = False := eq_false (by omega)
      have e : isSgn (.tup xs) = false := by simp [isSgn, h]
      rw [e]
      k_search [GOOD, hh]
  | fn | rng | scr | dic | set => cases hv
  | _ => k_search [GOOD]; rfl
/-! ### the calls -/
theorem T1 (d : Nat) (v : PV) (hv : PV.data 40 v = true) (hd : 20 ≤ d) : callF tab d F_law_tells false [.fn F_is_signed, .tup [v], .bl (isSgn v)] = .ok ((.bl true, false), .non) := by
  obtain ⟨d, rfl⟩ : ∃ e, d = e + 2 := ⟨d - 2, by omega⟩
  exact l_tells d F_is_signed 0 [v] (a1 v) (l_is_signed d v hv (by omega)) trivial (by omega) (by omega)
theorem T2 (d : Nat) (p : List Int) (w v : PV) (hp : sgnL p = true) (hv : PV.data 40 v = true) (h : isSgn v = false) (hd : 20 ≤ d) :
    callF tab d F_law_bads false [.fn F_signed_inverse, .tup [pV p], .int 0, .lst [v]] = .ok ((.bl true, false), .non) ∧
    callF tab d F_law_bads false [.fn F_signed_product, .tup [pV p, w], .int 0, .lst [v]] = .ok ((.bl true, false), .non) ∧
    callF tab d F_law_bads false [.fn F_signed_product, .tup [pV p, w], .int 1, .lst [v]] = .ok ((.bl true, false), .non) ∧
    callF tab d F_law_bads false [.fn F_signed_descents, .tup [pV p], .int 0, .lst [v]] = .ok ((.bl true, false), .non) ∧
    callF tab d F_law_bads false [.fn F_is_signed_image, .tup [pV p, w], .int 1, .lst [v]] = .ok ((.bl true, false), .non) := by
  obtain ⟨d, rfl⟩ : ∃ e, d = e + 2 := ⟨d - 2, by omega⟩
  refine ⟨l_bads d F_signed_inverse [pV p] (a1 _) 0 (by simp) _ fun b hb => ⟨.non, ?_⟩, l_bads d F_signed_product [pV p, w] (a2 _ _) 0 (by simp) _ fun b hb => ⟨.non, ?_⟩, l_bads d F_signed_product [pV p, w] (a2 _ _) 1 (by simp) _ fun b hb => ⟨.non, ?_⟩, l_bads d F_signed_descents [pV p] (a1 _) 0 (by simp) _ fun b hb => ⟨.non, ?_⟩, l_bads d F_is_signed_image [pV p, w] (a2 _ _) 1 (by simp) _ fun b hb => ⟨.non, ?_⟩⟩ <;> rw [show b = v by simpa using hb]
  · exact inv_bad d v hv h (by omega)
  · exact prod_bad0 d v w hv h (by omega)
  · exact prod_bad1 d p v hp hv h (by omega)
  · exact desc_bad d v hv h (by omega)
  · exact img_bad1 d p v hp hv h (by omega)
/-- one value -/
theorem l_val (d : Nat) (p : List Int) (v w : PV) (hp : sgnL p = true) (hv : PV.data 40 v = true) (hd : 20 ≤ d) (s0 s1 s2 s3 s4 s5 s6 s7 s8 s9 s11 s12 s15 s16 s17 s18 : Slot) (n16 : notOwn s16 = true) :
    exSs (callF tab d) B_law_1 [s0, s1, s2, s3, s4, s5, s6, s7, s8, s9, .s v, s11, s12, .s (pV p), .s w, s15, s16, s17, s18] = .ok (.nx [s0, s1, s2, s3, s4, s5, s6, s7, s8, s9, .s v, s11, s12, .s (pV p), .s w, .s (.bl (isSgn v)), s16, s17, s18]) := by
  have t1 := T1 d v hv hd
  cases h : isSgn v with
  | true =>
    rw [h] at t1
    k_search [b1_eq, l_good d v _ _ _ _ _ _ _ _ _ _ _ _ _ _ _ _ _ _ n16 hv (by omega), h, REST, t1]
  | false =>
    rw [h] at t1
    obtain ⟨u1, u2, u3, u4, u5⟩ := T2 d p w v hp hv h hd
    k_search [b1_eq, l_good d v _ _ _ _ _ _ _ _ _ _ _ _ _ _ _ _ _ _ n16 hv (by omega), h, REST, t1, u1, u2, u3, u4, u5]
def VS (p : List Int) : List PV := [pV p, .lst (p.map PV.int), .tup (p.map PV.int ++ [.int 0]), .tup (p.map PV.int ++ p.map PV.int ++ [.int 1]), .tup [.int 2], .tup [.int 1, .int (-1)], .tup [.bl true], .non, .int 0, .tup [.str [49]], .tup [], .tup (rngL 1 11)]
theorem vs_data (p : List Int) : ∀ v ∈ VS p, PV.data 40 v = true := by
  intro v hv
  simp only [VS, List.mem_cons, List.not_mem_nil, or_false] at hv
  rcases hv with rfl | rfl | rfl | rfl | rfl | rfl | rfl | rfl | rfl | rfl | rfl | rfl
  · exact data_pV 39 p
  · exact datas_int 39 p
  · rw [pV_app]; exact datas_int 39 _
  · rw [← List.map_append, pV_app]; exact datas_int 39 _
  all_goals decide +kernel
theorem T3 (d n : Nat) (p q : List Int) (h : Sg n p) (hq : Sg n q) (hn : n ≤ 6) (hd : 20 ≤ d) :
    callF tab d F_law_tells false [.fn F_signed_inverse, .tup [pV p], pV (sinv p)] = .ok ((.bl true, false), .non) ∧
    callF tab d F_law_tells false [.fn F_signed_product, .tup [pV p, pV q], pV (spr p q)] = .ok ((.bl true, false), .non) ∧
    callF tab d F_law_tells false [.fn F_signed_product, .tup [pV p, pV (sinv p)], pV (idP n)] = .ok ((.bl true, false), .non) ∧
    callF tab d F_law_tells false [.fn F_signed_descents, .tup [pV p], .int (dsc p : Int)] = .ok ((.bl true, false), .non) ∧
    callF tab d F_law_tells false [.fn F_signed_flat, .tup [pV (wd p)], pV p] = .ok ((.bl true, false), .non) := by
  obtain ⟨d, rfl⟩ : ∃ e, d = e + 2 := ⟨d - 2, by omega⟩
  have e3 := l_signed_product d n p (sinv p) h h.inv (by omega) (by omega)
  rw [spr_inv h] at e3
  have hl := h.len
  have hql := hq.len
  have hil := h.inv.len
  refine ⟨l_tells d _ 1 [_] (a1 _) (l_signed_inverse d n p h (by omega) (by omega)) (nice_pV _ (by omega)) (by omega) (by omega), l_tells d _ 1 [_, _] (a2 _ _) (l_signed_product d n p q h hq (by omega) (by omega)) (nice_pV _ (by unfold spr; rw [List.length_map]; omega)) (by omega) (by omega), l_tells d _ 1 [_, _] (a2 _ _) e3 (nice_pV _ (by rw [idP_length]; omega)) (by omega) (by omega), l_tells d _ 0 [_] (a1 _) (l_signed_descents d n p h (by omega) (by omega)) trivial (by omega) (by omega), l_tells d _ 1 [_] (a1 _) (l_signed_flat d n p h (by omega) (by omega)) (nice_pV _ (by omega)) (by omega) (by omega)⟩
def FB : List PV := [.non, .tup [.int 0], .tup [.int 1, .int (-1)], .lst [.int 1], .tup [.bl true], .tup [.str [49]], .tup (rngL 1 11)]
theorem T4 (d n : Nat) (p q : List Int) (w : PV) (h : Sg n p) (hq : Sg n q) (hn : n ≤ 6) (hd : 20 ≤ d) :
    callF tab d F_law_raises false [.fn F_is_signed_image, .tup [pV p, pV (p ++ [(n : Int) + 1])], .str [108, 101, 110, 103, 116, 104, 115]] = .ok ((.bl true, false), .non) ∧
    callF tab d F_law_bads false [.fn F_signed_product, .tup [pV p, pV q], .int 1, .lst [pV (q ++ [(n : Int) + 1])]] = .ok ((.bl true, false), .non) ∧
    callF tab d F_law_bads false [.fn F_signed_flat, .tup [w], .int 0, .lst FB] = .ok ((.bl true, false), .non) := by
  obtain ⟨d, rfl⟩ : ∃ e, d = e + 2 := ⟨d - 2, by omega⟩
  refine ⟨l_raises_len d _ [_, _] (a2 _ _) (img_len d n p _ h h.ext (by omega) (by omega)) (by omega), l_bads d F_signed_product [pV p, pV q] (a2 _ _) 1 (by simp) _ fun b hb => ⟨.non, ?_⟩, l_bads d F_signed_flat [w] (a1 _) 0 (by simp) _ fun b hb => ⟨.non, ?_⟩⟩
  · rw [show b = pV (q ++ [(n : Int) + 1]) by simpa using hb]
    exact prod_len d n p _ h hq.ext (by omega) (by omega)
  · simp only [FB, List.mem_cons, List.not_mem_nil, or_false] at hb
    rcases hb with rfl | rfl | rfl | rfl | rfl | rfl | rfl
    · exact flat_bad d _ (by decide +kernel) (by decide +kernel) (by omega)
    · exact flat_bad d _ (by decide +kernel) (by decide +kernel) (by omega)
    · exact flat_two d (by omega)
    all_goals exact flat_bad d _ (by decide +kernel) (by decide +kernel) (by omega)
theorem T5 (d n : Nat) (p q : List Int) (h : Sg n p) (hn : n ≤ 6) (F : List (List Int)) (b : Bool) (hr : ∀ d, 5 ≤ d → callF tab d F_is_signed_image false [pV p, pV q] = .ok ((.bl b, false), .non)) (hd : 20 ≤ d) :
    callF tab d F_law_tells false [.fn F_is_signed_image, .tup [pV p, pV q], .bl b] = .ok ((.bl true, false), .non) := by
  obtain ⟨d, rfl⟩ : ∃ e, d = e + 2 := ⟨d - 2, by omega⟩
  exact l_tells d _ 0 [_, _] (a2 _ _) (hr d (by omega)) trivial (by omega) (by omega)
set_option autoImplicit false
set_option linter.all false
set_option maxRecDepth 20000
set_option maxHeartbeats 4000000
def LI (ns : List Int) (ρ : Env) : Prop := ∃ (s : DS) (s2 s3 s4 s5 s6 s7 s8 s9 s10 s11 s12 s13 s14 s15 s16 s17 s18 : Slot), ρ = [.s (.scr ns), .o (stV s), s2, s3, s4, s5, s6, s7, s8, s9, s10, s11, s12, s13, s14, s15, s16, s17, s18] ∧ notOwn s13 = true ∧ notOwn s16 = true ∧ notOwn s17 = true ∧ notOwn s18 = true
theorem l_turn {d : Nat} (hd : 35 ≤ d) {ns : List Int} {s : DS} {s2 s3 s4 s5 s6 s7 s8 s9 s10 s11 s12 s13 s14 s15 s16 s17 s18 : Slot} (n13 : notOwn s13 = true) (n16 : notOwn s16 = true) (n17 : notOwn s17 = true) (n18 : notOwn s18 = true) :
    goesOn (LI ns) (exSs (callF tab d) B_law_2 [.s (.scr ns), .o (stV s), s2, s3, s4, s5, s6, s7, s8, s9, s10, s11, s12, s13, s14, s15, s16, s17, s18]) := by
  obtain ⟨n, h7, h7'⟩ := draw s 7 (by omega)
  have h7 : (tk s 7).1 = (n : Int) := h7
  have t7 := l_take d s 7 (by decide) (by decide) (by omega)
  obtain ⟨p, s1, hp1, hp2, hp3, hp4⟩ := l_signed d (tk s 7).2 n (by omega) (by omega)
  obtain ⟨q, s2', hq1, hq2, hq3, hq4⟩ := l_signed d s1 n (by omega) (by omega)
  have sp : Sg n p := ⟨hp4, hp2⟩
  have sq : Sg n q := ⟨hq4, hq2⟩
  obtain ⟨a1, a2, a3, a4, a5⟩ := T3 d n p q sp sq (by omega) (by omega)
  obtain ⟨F, f1, f2, f3, f4, f5⟩ := l_images n p sp (by omega)
  have b1 := T5 d n p q sp (by omega) F (decide (q ∈ F)) (fun d hd => f5 d q sq hd) (by omega)
  obtain ⟨k, hk, hk'⟩ := draw s2' F.length (List.length_pos_iff.mpr (fun e => by rw [e] at f2; cases f2))
  have tk' := l_take d s2' (F.length : Int) (by omega) (by omega) (by omega)
  obtain ⟨o, ho⟩ : ∃ o, F[k]? = some o := ⟨F[k], List.getElem?_eq_getElem hk'⟩
  have ho2 : o ∈ F := List.mem_of_getElem? ho
  have gk : (F.map pV)[k]? = some (pV o) := by rw [List.getElem?_map, ho]; rfl
  have b2 := T5 d n p o sp (by omega) F true (fun d hd => by have := f5 d o (f1 o ho2) hd; rwa [decide_eq_true ho2] at this) (by omega)
  obtain ⟨c1, c2, c3⟩ := T4 d n p q (pV (wd p)) sp sq (by omega) (by omega)
  have i1 := l_law_inverse d n p sp (by omega) (by omega)
  have i2 := l_law_signed_descents d n p sp (by omega) (by omega)
  have l1 : lenOk p.length = true := lenOk_of (by omega)
  have l2 : lenOk q.length = true := lenOk_of (by omega)
  have l3 : lenOk (p.length + 1) = true := lenOk_of (by omega)
  have l4 : lenOk (q.length + 1) = true := lenOk_of (by omega)
  have l5 : lenOk (p.length + p.length) = true := lenOk_of (by omega)
  have l6 : lenOk (p.length + p.length + 1) = true := lenOk_of (by omega)
  have r1 : rngOk 1 ((n : Int) + 1) = true := rngOk_of (by omega) (by omega) (by omega) (by omega) (by omega)
  have r2 : rngOk 1 11 = true := rngOk_of (by decide) (by decide) (by decide) (by decide) (by decide)
  k_search [B_law_2, t7, h7, hp1, hq1, i1, a1, l2, n16, and_self]
  rw [lcE_int PV.int (fun x => if 0 < x then av p (x - 1).toNat else -av p (-x - 1).toNat)]
  · have e1 : (q.map fun x => if 0 < x then av p (x - 1).toNat else -av p (-x - 1).toNat).map PV.int = (spr p q).map PV.int := rfl
    k_search [e1, a2, i1, r1, rngL_1, a3, i2, a4, f4 d (by omega), datas_int, datas_pVD, mem_any, b1, tk', hk, pix_nat, gk, b2, l3, pV_app, c1, l1, n16, and_self]
    rw [lcE_int PV.int wdx]
    · have e2 : (p.map wdx).map PV.int = (wd p).map PV.int := rfl
      k_search [e2, a5, l3, l5, l6, r2, List.length_append, List.length_map]
      unfold FB at c3
      refine forL_keep (l := VS p) (Post := goesOn (LI ns)) (fun ρ => ∃ s10 s15 : Slot, ρ = [.s (.scr ns), .o (stV (tk s2' (F.length : Int)).2), s2, .s (.int (n : Int)), s4, s5, s6, s7, .o (.lst (F.map pV)), .s (pV (wd p)), s10, s11, s12, .s (pV p), .s (pV q), s15, s16, s17, s18]) ⟨s10, s15, rfl⟩ ?_ ?_
      · rintro v hv _ ⟨s10, s15, rfl⟩
        have lv := l_val d p v (pV q) hp3 (vs_data p v hv) (by omega) (.s (.scr ns)) (.o (stV (tk s2' (F.length : Int)).2)) s2 (.s (.int (n : Int))) s4 s5 s6 s7 (.o (.lst (F.map pV))) (.s (pV (wd p))) s11 s12 s15 s16 s17 s18 n16
        k_search [lv]
        exact ⟨_, .inl rfl, _, _, rfl⟩
      · rintro _ ⟨s10, s15, rfl⟩
        k_search [l4, pV_app, c2, r2, c3]
        exact ⟨_, .inl rfl, _, _, _, _, _, _, _, _, _, _, _, _, _, _, _, _, _, _, rfl, rfl, n16, n17, n18⟩
    · intro x hx
      by_cases h0 : 0 < x
      · have e : wdx x = x * 2 + 1 := by unfold wdx; rw [if_pos h0]
        k_search [h0, okMul_r x 2 (by decide) (by decide), e]
        exact ⟨_, rfl, rfl⟩
      · have e : wdx x = x * 2 + -1 := by unfold wdx; rw [if_neg h0]
        k_search [h0, okMul_r x 2 (by decide) (by decide), e]
        exact ⟨_, rfl, rfl⟩
  · intro x hx
    have hr := sq.mem hx
    unfold absI at hr
    by_cases h0 : 0 < x
    · rw [if_neg (by omega)] at hr
      obtain ⟨j, hj⟩ : ∃ j : Nat, x - 1 = (j : Int) := ⟨(x - 1).toNat, by omega⟩
      have g1 : (p.map PV.int)[j]? = some (.int (av p j)) := get_pm (by omega)
      have e2 : (if 0 < x then av p (x - 1).toNat else -av p (-x - 1).toNat) = av p j := by rw [if_pos h0, hj]; rfl
      rw [e2]
      k_search [h0, hj, pix_nat, g1]
      exact ⟨_, rfl, rfl⟩
    · rw [if_pos (by split at hr <;> omega)] at hr
      obtain ⟨j, hj⟩ : ∃ j : Nat, -x - 1 = (j : Int) := ⟨(-x - 1).toNat, by omega⟩
      have g1 : (p.map PV.int)[j]? = some (.int (av p j)) := get_pm (by omega)
      have e2 : (if 0 < x then av p (x - 1).toNat else -av p (-x - 1).toNat) = -av p j := by rw [if_neg h0, hj]; rfl
      rw [e2]
      k_search [h0, hj, pix_nat, g1]
      exact ⟨_, rfl, rfl⟩
set_option autoImplicit false
set_option linter.all false
set_option maxRecDepth 20000
set_option maxHeartbeats 4000000
theorem l_from_bad (d : Nat) (v : PV) (lo hi : Int) (hv : v.typed = true) (h : fromOk lo hi v = false) (hd : 2 ≤ d) : callF tab d F_check_from false [v, .int lo, .int hi] = .exc X_Malformed .non := by
  rw [l_check_from d v lo hi hv hd, h]
  rfl
theorem of_bad (d : Nat) (v : PV) (hv : v.typed = true) (h : fromOk 0 5 v = false) (hd : 3 ≤ d) : callF tab d F_signed_of false [v] = .exc X_Malformed .non := by
  obtain ⟨d, rfl⟩ : ∃ e, d = e + 1 := ⟨d - 1, by omega⟩
  rw [call_eq t_signed_of rfl]
  k_search [D_signed_of, l_from_bad d v 0 5 hv h (by omega)]
theorem num_bad (d : Nat) (v : PV) (hv : v.typed = true) (h : fromOk 0 40 v = false) (hd : 3 ≤ d) : callF tab d F_signed_number false [v] = .exc X_Malformed .non := by
  obtain ⟨d, rfl⟩ : ∃ e, d = e + 1 := ⟨d - 1, by omega⟩
  rw [call_eq t_signed_number rfl]
  k_search [D_signed_number, l_from_bad d v 0 40 hv h (by omega)]
theorem row_bad (d : Nat) (v : PV) (hv : v.typed = true) (h : fromOk 0 30 v = false) (hd : 3 ≤ d) : callF tab d F_signed_descent_row false [v] = .exc X_Malformed .non := by
  obtain ⟨d, rfl⟩ : ∃ e, d = e + 1 := ⟨d - 1, by omega⟩
  rw [call_eq t_signed_descent_row rfl]
  k_search [D_signed_descent_row, l_from_bad d v 0 30 hv h (by omega)]
theorem listed_bad (d : Nat) (v : PV) (hv : v.typed = true) (h : fromOk 0 5 v = false) (hd : 4 ≤ d) : callF tab d F_signed_descents_listed false [v] = .exc X_Malformed .non := by
  obtain ⟨d, rfl⟩ : ∃ e, d = e + 1 := ⟨d - 1, by omega⟩
  rw [call_eq t_signed_descents_listed rfl]
  k_search [D_signed_descents_listed, of_bad d v hv h (by omega)]
theorem T6 (d : Nat) (f : Nat) (m : Int) (h : ∀ (d : Nat) (v : PV), v.typed = true → fromOk 0 (m - 1) v = false → 10 ≤ d → callF tab d f false [v] = .exc X_Malformed .non) (hm : 1 ≤ m) (hd : 20 ≤ d) : callF tab d F_law_bads false [.fn f, .tup [.int 1], .int 0, .lst [.int (-1), .int m, .non, .bl true]] = .ok ((.bl true, false), .non) := by
  obtain ⟨d, rfl⟩ : ∃ e, d = e + 2 := ⟨d - 2, by omega⟩
  refine l_bads d f [.int 1] (a1 _) 0 (by simp) _ fun v hv => ⟨.non, ?_⟩
  simp only [List.mem_cons, List.not_mem_nil, or_false] at hv
  rcases hv with rfl | rfl | rfl | rfl
  · exact h d _ rfl (by simp [fromOk]) (by omega)
  · exact h d _ rfl (by simp [fromOk]; omega) (by omega)
  · exact h d _ rfl (by simp [fromOk]) (by omega)
  · exact h d _ rfl (by simp [fromOk]) (by omega)
theorem T7 (d : Nat) (hd : 20 ≤ d) : ∀ x ∈ [PV.tup [.fn F_signed_of, .int 6], .tup [.fn F_signed_number, .int 41], .tup [.fn F_signed_descent_row, .int 31], .tup [.fn F_signed_descents_listed, .int 6]], ∃ (f : Nat) (m : Int), x = .tup [.fn f, .int m] ∧ callF tab d F_law_bads false [.fn f, .tup [.int 1], .int 0, .lst [.int (-1), .int m, .non, .bl true]] = .ok ((.bl true, false), .non) := by
  intro x hx
  simp only [List.mem_cons, List.not_mem_nil, or_false] at hx
  rcases hx with rfl | rfl | rfl | rfl
  · exact ⟨_, _, rfl, T6 d _ 6 (fun d v h1 h2 hd => of_bad d v h1 h2 (by omega)) (by decide) hd⟩
  · exact ⟨_, _, rfl, T6 d _ 41 (fun d v h1 h2 hd => num_bad d v h1 h2 (by omega)) (by decide) hd⟩
  · exact ⟨_, _, rfl, T6 d _ 31 (fun d v h1 h2 hd => row_bad d v h1 h2 (by omega)) (by decide) hd⟩
  · exact ⟨_, _, rfl, T6 d _ 6 (fun d v h1 h2 hd => listed_bad d v h1 h2 (by omega)) (by decide) hd⟩
theorem T8 (d n : Nat) (hn : n ≤ 4) (hd : 20 ≤ d) :
    callF tab d F_law_tells false [.fn F_signed_of, .tup [.int (n : Int)], .tup ((sgO n).map pV)] = .ok ((.bl true, false), .non) ∧
    callF tab d F_law_tells false [.fn F_signed_number, .tup [.int (n : Int)], .int ((sgO n).length : Int)] = .ok ((.bl true, false), .non) ∧
    callF tab d F_law_tells false [.fn F_signed_descent_row, .tup [.int (n : Int)], pV (cntL ((sgO n).map dsc))] = .ok ((.bl true, false), .non) ∧
    callF tab d F_law_tells false [.fn F_signed_descents_listed, .tup [.int (n : Int)], pV (cntL ((sgO n).map dsc))] = .ok ((.bl true, false), .non) := by
  obtain ⟨d, rfl⟩ : ∃ e, d = e + 2 := ⟨d - 2, by omega⟩
  obtain ⟨e1, e2⟩ := N1_of hn
  have hl := drw_ln (n := n) (by omega)
  refine ⟨l_tells d _ 2 [_] (a1 _) (l_signed_of d n hn (by omega)) (nice_pVs _ (by have := (sgO_of hn).1; omega) fun p hp => by have := (sgO_of hn).2 p hp; omega) (by omega) (by omega), ?_, ?_, l_tells d _ 1 [_] (a1 _) (l_listed d n hn (by omega)) (nice_pV _ (by rw [e1]; omega)) (by omega) (by omega)⟩
  · rw [e2]
    exact l_tells d _ 0 [_] (a1 _) (l_signed_number d n (by omega) (by omega)) trivial (by omega) (by omega)
  · rw [e1]
    exact l_tells d _ 1 [_] (a1 _) (l_row d n (by omega) (by omega)) (nice_pV _ (by omega)) (by omega) (by omega)
theorem T9 (d n : Nat) (hn : n ≤ 30) (hd : 20 ≤ d) : callF tab d F_law_value false [.fn F_signed_descent_row, .tup [.int (n : Int)]] = .ok ((pV (drw n), false), .non) ∧ callF tab d F_law_value false [.fn F_signed_number, .tup [.int (n : Int)]] = .ok ((.int (snm n), false), .non) := by
  obtain ⟨d, rfl⟩ : ∃ e, d = e + 2 := ⟨d - 2, by omega⟩
  exact ⟨l_value d _ _ (a1 _) (l_row d n hn (by omega)), l_value d _ _ (a1 _) (l_signed_number d n (by omega) (by omega))⟩
theorem l_law (d : Nat) (ns : List Int) (hd : 40 ≤ d) : callF tab d F_law false [.scr ns] = .ok ((.bl true, false), .non) := by
  obtain ⟨d, rfl⟩ : ∃ e, d = e + 1 := ⟨d - 1, by omega⟩
  rw [call_eq t_law rfl]
  have c4 : rng1Ok 3 = true := rng1Ok_of (by decide) (by decide)
  have r4 : rngL 0 3 = (List.range 3).map fun k : Nat => PV.int (k : Int) := rngL_0 3
  k_search [D_law, l_state d ns (by omega), c4, r4]
  refine forL_post (Post := fun z => z = Res.ok ((PV.bl true, false), PV.non)) (fun k : Nat => PV.int (k : Int)) (fun _ ρ => LI ns ρ) ⟨lawSt ns, .n, .n, .n, .n, .n, .n, .n, .n, .n, .n, .n, .n, .n, .n, .n, .n, .n, rfl, rfl, rfl, rfl, rfl⟩ ?_ ?_
  · rintro x r _ ⟨s, s2, s3, s4, s5, s6, s7, s8, s9, s10, s11, s12, s13, s14, s15, s16, s17, s18, rfl, n13, n16, n17, n18⟩
    change goesOn (LI ns) _
    k_search []
    exact l_turn (by omega) n13 n16 n17 n18
  · rintro _ ⟨s, s2, s3, s4, s5, s6, s7, s8, s9, s10, s11, s12, s13, s14, s15, s16, s17, s18, rfl, n13, n16, n17, n18⟩
    obtain ⟨n, hn, hn'⟩ := draw s 5 (by omega)
    have hn : (tk s 5).1 = (n : Int) := hn
    have t5 := l_take d s 5 (by decide) (by decide) (by omega)
    have c1 : lenOk (sgO n).length = true := lenOk_of (by have := (sgO_of (n := n) (by omega)).1; omega)
    k_search [t5, hn, l_law_signed_all d n (by omega) (by omega), c1, n13, and_self]
    rw [lcE_int pV (fun p => (dsc p : Int))]
    · have e1 : (sgO n).map (fun p => (dsc p : Int)) = nI ((sgO n).map dsc) := by rw [nI, List.map_map]; rfl
      obtain ⟨u1, u2, u3, u4⟩ := T8 d n (by omega) (by omega)
      rw [e1]
      obtain ⟨m, hm, hm'⟩ := draw (tk s 5).2 30 (by omega)
      have hm : (tk (tk s 5).2 30).1 = (m : Int) := hm
      have t30 := l_take d (tk s 5).2 30 (by decide) (by decide) (by omega)
      have e2 : (1 : Int) + (m : Int) = ((m + 1 : Nat) : Int) := by omega
      have e3 : ((m + 1 : Nat) : Int) - 1 = (m : Int) := by omega
      have H := nh_of hm'
      have hl0 := drw_ln (n := m) (by omega)
      obtain ⟨w1, w2⟩ := T9 d (m + 1) (by omega) (by omega)
      obtain ⟨w3, _⟩ := T9 d m (by omega) (by omega)
      have c5 : rng1Ok (((m + 1 : Nat) : Int) + 1) = true := rng1Ok_of (by omega) (by omega)
      have r5 : rngL 0 (((m + 1 : Nat) : Int) + 1) = (List.range (m + 1 + 1)).map fun k : Nat => PV.int (k : Int) := rngL_0 (m + 1 + 1)
      k_search [(l_law_counted d ((sgO n).map dsc) (dscs_lt (by omega)) (by omega)).1, u1, u2, u3, u4, t30, hm, e2, e3, w1, w3, c5, r5]
      refine forL_post (l := List.range (m + 1 + 1)) (Post := fun z => z = Res.ok ((PV.bl true, false), PV.non)) (fun k : Nat => PV.int (k : Int)) (fun r ρ => ∃ s7 : Slot, ρ = [Slot.s (PV.scr ns), Slot.o (stV (tk (tk s 5).snd 30).snd), s2, Slot.s (PV.int (n : Int)), Slot.o (PV.lst (List.map pV (sgO n))), Slot.s (pV (cntL (List.map dsc (sgO n)))), Slot.s (PV.int ((m + 1 : Nat) : Int)), s7, s8, s9, s10, Slot.s (pV (drw (m + 1))), Slot.s (pV (drw m)), s13, s14, s15, s16, s17, s18] ∧ ∀ k ∈ r, k < m + 2) ⟨s7, rfl, fun k hk => by have := List.mem_range.mp hk; omega⟩ ?_ ?_
      · rintro k r _ ⟨s7, rfl, hk⟩
        have hk0 := hk k (List.mem_cons_self ..)
        have g1 : ((drw (m + 1)).map PV.int)[k]? = some (.int (av (drw (m + 1)) k)) := get_pm (by rw [H.len]; omega)
        have E := H.eq k hk0
        unfold rhs at E
        have o1 := okMul_r 2 (k : Int) (by omega) (by omega)
        have o2 := okMul_r 2 (((m + 1 : Nat) : Int)) (by omega) (by omega)
        have em : m + 1 - 1 = m := rfl
        rw [em] at E
        by_cases h1 : k < m + 1
        · have h1' : ((k : Int) < ((m + 1 : Nat) : Int)) = True := eq_true (by omega)
          have g2 : ((drw m).map PV.int)[k]? = some (.int (av (drw m) k)) := get_pm (by omega)
          have o3 := okMul_l (2 * (k : Int) + 1) (av (drw m) k) (by omega) (by omega)
          rw [if_pos h1] at E
          by_cases h2 : 0 < k
          · have h2' : ((0 : Int) < (k : Int)) = True := eq_true (by omega)
            have e4 : (k : Int) - 1 = ((k - 1 : Nat) : Int) := by omega
            have g3 : ((drw m).map PV.int)[k - 1]? = some (.int (av (drw m) (k - 1))) := get_pm (by omega)
            have o4 := okMul_l (2 * ((m + 1 : Nat) : Int) - 2 * (k : Int) + 1) (av (drw m) (k - 1)) (by omega) (by omega)
            rw [if_pos h2] at E
            k_search [B_law_3, pix_nat, g1, o1, o2, h1', g2, o3, h2', e4, g3, o4, E]
            exact ⟨_, .inl rfl, _, rfl, fun j hj => hk j (List.mem_cons_of_mem _ hj)⟩
          · have h2' : ((0 : Int) < (k : Int)) = False := eq_false (by omega)
            have o4 := okMul_r (2 * ((m + 1 : Nat) : Int) - 2 * (k : Int) + 1) 0 (by decide) (by decide)
            rw [if_neg h2] at E
            k_search [B_law_3, pix_nat, g1, o1, o2, h1', g2, o3, h2', o4, E]
            exact ⟨_, .inl rfl, _, rfl, fun j hj => hk j (List.mem_cons_of_mem _ hj)⟩
        · have h1' : ((k : Int) < ((m + 1 : Nat) : Int)) = False := eq_false (by omega)
          have h2 : 0 < k := by omega
          have o3 := okMul_r (2 * (k : Int) + 1) 0 (by decide) (by decide)
          have h2' : ((0 : Int) < (k : Int)) = True := eq_true (by omega)
          have e4 : (k : Int) - 1 = ((k - 1 : Nat) : Int) := by omega
          have g3 : ((drw m).map PV.int)[k - 1]? = some (.int (av (drw m) (k - 1))) := get_pm (by omega)
          have o4 := okMul_l (2 * ((m + 1 : Nat) : Int) - 2 * (k : Int) + 1) (av (drw m) (k - 1)) (by omega) (by omega)
          rw [if_neg h1, if_pos h2] at E
          k_search [B_law_3, pix_nat, g1, o1, o2, h1', o3, h2', e4, g3, o4, E]
          exact ⟨_, .inl rfl, _, rfl, fun j hj => hk j (List.mem_cons_of_mem _ hj)⟩
      · rintro _ ⟨s7, rfl, _⟩
        have e5 : ((drw (m + 1)).map PV.int).reverse = (drw (m + 1)).map PV.int := by rw [← List.map_reverse, H.rev]
        k_search [w2, H.sum, e5, datas_int, eqvs_int, n17, n18, and_self]
        rw [lc_all (fun _ => true)]
        · k_search []
          rfl
        · intro x hx
          obtain ⟨f, y, rfl, hb⟩ := T7 d (by omega) x hx
          k_search [hb]
          exact ⟨_, rfl, rfl⟩
    · intro p hp
      k_search [l_law_signed_descents d n p (sgO_sg (by omega) hp) (by omega) (by omega)]
      exact ⟨_, rfl, rfl⟩
set_option Elab.async false
set_option linter.all false
set_option autoImplicit false
set_option maxRecDepth 100000
set_option maxHeartbeats 0
open PySem PySem.Spec PyProof.Rows L2
abbrev PRG : Program := PySem.Challenge.pw_patternroads_k73_whole_signed_permutatio
def topS (i : Nat) : Stmt := PRG.main.body.getD i (.Pass ⟨0, 0, 0, 0⟩)
def NM : Nms := { defs := ("is_integer" : Str) :: ("check_from" : Str) :: ("factorial" : Str) :: ("raised" : Str) :: ("counted" : Str) :: ("is_signed" : Str) :: ("check_signed" : Str) :: ("signed_of" : Str) :: ("raised_size" : Str) :: ("signed_flat" : Str) :: ("signed_inverse" : Str) :: ("signed_product" : Str) :: ("signed_descents" : Str) :: ("signed_descent_row" : Str) :: ("signed_descents_listed" : Str) :: ("signed_number" : Str) :: ("is_signed_image" : Str) :: ("_law_state" : Str) :: ("_law_take" : Str) :: ("_law_same" : Str) :: ("_law_told" : Str) :: ("_law_is_told" : Str) :: ("_law_is_raised" : Str) :: ("_law_tells" : Str) :: ("_law_raises" : Str) :: ("_law_plain" : Str) :: ("_law_value" : Str) :: ("_law_bads" : Str) :: ("_law_perm" : Str) :: ("_law_perms" : Str) :: ("_law_counted" : Str) :: ("_law_signed" : Str) :: ("_law_signed_all" : Str) :: ("_law_inverse" : Str) :: ("_law_images" : Str) :: ("_law_signed_descents" : Str) :: ("law" : Str) :: [], excs := [(0, "Malformed"), (101, "Refused")] }
def consts0 : List (Str × PV) := []
def C0 : SC := { N := [], sc := { kind := .function, names := [], isGenerator := false, isCoroutine := false, more := [] }, consts := consts0 ++ NM.defs.zipIdx.map fun p => (p.1, PV.fn p.2), fns := NM.defs.zipIdx, excs := NM.excs.map fun p => (p.2, p.1), np := fun f => ((tab f).map FnD.np).getD 0, fnb := fun _ => true, io := false }
def fa0 : List He.Fa := []
def fn0 : List He.DefD := [dD "is_integer" (topS 5), dD "check_from" (topS 6), dD "factorial" (topS 7), dD "raised" (topS 8), dD "counted" (topS 9), dD "is_signed" (topS 11), dD "check_signed" (topS 12), dD "signed_of" (topS 13), dD "raised_size" (topS 14), dD "signed_flat" (topS 15), dD "signed_inverse" (topS 16), dD "signed_product" (topS 17), dD "signed_descents" (topS 18), dD "signed_descent_row" (topS 19), dD "signed_descents_listed" (topS 20), dD "signed_number" (topS 21), dD "is_signed_image" (topS 22), dD "_law_state" (topS 24), dD "_law_take" (topS 25), dD "_law_same" (topS 26), dD "_law_told" (topS 27), dD "_law_is_told" (topS 28), dD "_law_is_raised" (topS 29), dD "_law_tells" (topS 30), dD "_law_raises" (topS 31), dD "_law_plain" (topS 32), dD "_law_value" (topS 33), dD "_law_bads" (topS 34), dD "_law_perm" (topS 35), dD "_law_perms" (topS 36), dD "_law_counted" (topS 37), dD "_law_signed" (topS 38), dD "_law_signed_all" (topS 39), dD "_law_inverse" (topS 40), dD "_law_images" (topS 41), dD "_law_signed_descents" (topS 42), dD "law" (topS 43)]
abbrev N_is_integer : List Str := ["value"]
theorem b_is_integer : defB C0 (topS 5) N_is_integer D_is_integer 60 = true := by decide +kernel
theorem k_is_integer (K : PySem.W.Frag) (c : He.SaysD fa0 fn0 K) : ∃ fdv, DefK K C0 tab 0 (He.ga K "is_integer") "is_integer" (topS 5) N_is_integer D_is_integer 60 fdv := DefK.of c (i := 0) rfl rfl b_is_integer fun _ _ _ _ _ _ us hl => match us, hl with | [_], _ => rfl
abbrev N_check_from : List Str := ["value", "low", "high"]
theorem b_check_from : defB C0 (topS 6) N_check_from D_check_from 60 = true := by decide +kernel
theorem k_check_from (K : PySem.W.Frag) (c : He.SaysD fa0 fn0 K) : ∃ fdv, DefK K C0 tab 1 (He.ga K "check_from") "check_from" (topS 6) N_check_from D_check_from 60 fdv := DefK.of c (i := 1) rfl rfl b_check_from fun _ _ _ _ _ _ us hl => match us, hl with | [_, _, _], _ => rfl
abbrev N_factorial : List Str := ["n", "found", "k"]
theorem b_factorial : defB C0 (topS 7) N_factorial D_factorial 60 = true := by decide +kernel
theorem k_factorial (K : PySem.W.Frag) (c : He.SaysD fa0 fn0 K) : ∃ fdv, DefK K C0 tab 2 (He.ga K "factorial") "factorial" (topS 7) N_factorial D_factorial 60 fdv := DefK.of c (i := 2) rfl rfl b_factorial fun _ _ _ _ _ _ us hl => match us, hl with | [_], _ => rfl
abbrev N_raised : List Str := ["a", "k", "found", "_"]
theorem b_raised : defB C0 (topS 8) N_raised D_raised 60 = true := by decide +kernel
theorem k_raised (K : PySem.W.Frag) (c : He.SaysD fa0 fn0 K) : ∃ fdv, DefK K C0 tab 3 (He.ga K "raised") "raised" (topS 8) N_raised D_raised 60 fdv := DefK.of c (i := 3) rfl rfl b_raised fun _ _ _ _ _ _ us hl => match us, hl with | [_, _], _ => rfl
abbrev N_counted : List Str := ["numbers", "found", "k"]
theorem b_counted : defB C0 (topS 9) N_counted D_counted 60 = true := by decide +kernel
theorem k_counted (K : PySem.W.Frag) (c : He.SaysD fa0 fn0 K) : ∃ fdv, DefK K C0 tab 4 (He.ga K "counted") "counted" (topS 9) N_counted D_counted 60 fdv := DefK.of c (i := 4) rfl rfl b_counted fun _ _ _ _ _ _ us hl => match us, hl with | [_], _ => rfl
abbrev N_is_signed : List Str := ["value", "x"]
theorem b_is_signed : defB C0 (topS 11) N_is_signed D_is_signed 60 = true := by decide +kernel
theorem k_is_signed (K : PySem.W.Frag) (c : He.SaysD fa0 fn0 K) : ∃ fdv, DefK K C0 tab 5 (He.ga K "is_signed") "is_signed" (topS 11) N_is_signed D_is_signed 60 fdv := DefK.of c (i := 5) rfl rfl b_is_signed fun _ _ _ _ _ _ us hl => match us, hl with | [_], _ => rfl
abbrev N_check_signed : List Str := ["value"]
theorem b_check_signed : defB C0 (topS 12) N_check_signed D_check_signed 60 = true := by decide +kernel
theorem k_check_signed (K : PySem.W.Frag) (c : He.SaysD fa0 fn0 K) : ∃ fdv, DefK K C0 tab 6 (He.ga K "check_signed") "check_signed" (topS 12) N_check_signed D_check_signed 60 fdv := DefK.of c (i := 6) rfl rfl b_check_signed fun _ _ _ _ _ _ us hl => match us, hl with | [_], _ => rfl
abbrev N_signed_of : List Str := ["n", "found", "size", "longer", "own", "x", "moved", "y"]
theorem b_signed_of : defB C0 (topS 13) N_signed_of D_signed_of 60 = true := by decide +kernel
theorem k_signed_of (K : PySem.W.Frag) (c : He.SaysD fa0 fn0 K) : ∃ fdv, DefK K C0 tab 7 (He.ga K "signed_of") "signed_of" (topS 13) N_signed_of D_signed_of 60 fdv := DefK.of c (i := 7) rfl rfl b_signed_of fun _ _ _ _ _ _ us hl => match us, hl with | [_], _ => rfl
abbrev N_raised_size : List Str := ["y", "x"]
theorem b_raised_size : defB C0 (topS 14) N_raised_size D_raised_size 60 = true := by decide +kernel
theorem k_raised_size (K : PySem.W.Frag) (c : He.SaysD fa0 fn0 K) : ∃ fdv, DefK K C0 tab 8 (He.ga K "raised_size") "raised_size" (topS 14) N_raised_size D_raised_size 60 fdv := DefK.of c (i := 8) rfl rfl b_raised_size fun _ _ _ _ _ _ us hl => match us, hl with | [_, _], _ => rfl
abbrev N_signed_flat : List Str := ["row", "order", "x"]
theorem b_signed_flat : defB C0 (topS 15) N_signed_flat D_signed_flat 60 = true := by decide +kernel
theorem k_signed_flat (K : PySem.W.Frag) (c : He.SaysD fa0 fn0 K) : ∃ fdv, DefK K C0 tab 9 (He.ga K "signed_flat") "signed_flat" (topS 15) N_signed_flat D_signed_flat 60 fdv := DefK.of c (i := 9) rfl rfl b_signed_flat fun _ _ _ _ _ _ us hl => match us, hl with | [_], _ => rfl
abbrev N_signed_inverse : List Str := ["p", "found", "k", "x"]
theorem b_signed_inverse : defB C0 (topS 16) N_signed_inverse D_signed_inverse 60 = true := by decide +kernel
theorem k_signed_inverse (K : PySem.W.Frag) (c : He.SaysD fa0 fn0 K) : ∃ fdv, DefK K C0 tab 10 (He.ga K "signed_inverse") "signed_inverse" (topS 16) N_signed_inverse D_signed_inverse 60 fdv := DefK.of c (i := 10) rfl rfl b_signed_inverse fun _ _ _ _ _ _ us hl => match us, hl with | [_], _ => rfl
abbrev N_signed_product : List Str := ["p", "q", "x"]
theorem b_signed_product : defB C0 (topS 17) N_signed_product D_signed_product 60 = true := by decide +kernel
theorem k_signed_product (K : PySem.W.Frag) (c : He.SaysD fa0 fn0 K) : ∃ fdv, DefK K C0 tab 11 (He.ga K "signed_product") "signed_product" (topS 17) N_signed_product D_signed_product 60 fdv := DefK.of c (i := 11) rfl rfl b_signed_product fun _ _ _ _ _ _ us hl => match us, hl with | [_, _], _ => rfl
abbrev N_signed_descents : List Str := ["p", "row", "k"]
theorem b_signed_descents : defB C0 (topS 18) N_signed_descents D_signed_descents 60 = true := by decide +kernel
theorem k_signed_descents (K : PySem.W.Frag) (c : He.SaysD fa0 fn0 K) : ∃ fdv, DefK K C0 tab 12 (He.ga K "signed_descents") "signed_descents" (topS 18) N_signed_descents D_signed_descents 60 fdv := DefK.of c (i := 12) rfl rfl b_signed_descents fun _ _ _ _ _ _ us hl => match us, hl with | [_], _ => rfl
abbrev N_signed_descent_row : List Str := ["n", "found", "size", "longer", "k"]
theorem b_signed_descent_row : defB C0 (topS 19) N_signed_descent_row D_signed_descent_row 60 = true := by decide +kernel
theorem k_signed_descent_row (K : PySem.W.Frag) (c : He.SaysD fa0 fn0 K) : ∃ fdv, DefK K C0 tab 13 (He.ga K "signed_descent_row") "signed_descent_row" (topS 19) N_signed_descent_row D_signed_descent_row 60 fdv := DefK.of c (i := 13) rfl rfl b_signed_descent_row fun _ _ _ _ _ _ us hl => match us, hl with | [_], _ => rfl
abbrev N_signed_descents_listed : List Str := ["n", "p"]
theorem b_signed_descents_listed : defB C0 (topS 20) N_signed_descents_listed D_signed_descents_listed 60 = true := by decide +kernel
theorem k_signed_descents_listed (K : PySem.W.Frag) (c : He.SaysD fa0 fn0 K) : ∃ fdv, DefK K C0 tab 14 (He.ga K "signed_descents_listed") "signed_descents_listed" (topS 20) N_signed_descents_listed D_signed_descents_listed 60 fdv := DefK.of c (i := 14) rfl rfl b_signed_descents_listed fun _ _ _ _ _ _ us hl => match us, hl with | [_], _ => rfl
abbrev N_signed_number : List Str := ["n"]
theorem b_signed_number : defB C0 (topS 21) N_signed_number D_signed_number 60 = true := by decide +kernel
theorem k_signed_number (K : PySem.W.Frag) (c : He.SaysD fa0 fn0 K) : ∃ fdv, DefK K C0 tab 15 (He.ga K "signed_number") "signed_number" (topS 21) N_signed_number D_signed_number 60 fdv := DefK.of c (i := 15) rfl rfl b_signed_number fun _ _ _ _ _ _ us hl => match us, hl with | [_], _ => rfl
abbrev N_is_signed_image : List Str := ["p", "q", "seen", "line", "own", "one", "x"]
theorem b_is_signed_image : defB C0 (topS 22) N_is_signed_image D_is_signed_image 60 = true := by decide +kernel
theorem k_is_signed_image (K : PySem.W.Frag) (c : He.SaysD fa0 fn0 K) : ∃ fdv, DefK K C0 tab 16 (He.ga K "is_signed_image") "is_signed_image" (topS 22) N_is_signed_image D_is_signed_image 60 fdv := DefK.of c (i := 16) rfl rfl b_is_signed_image fun _ _ _ _ _ _ us hl => match us, hl with | [_, _], _ => rfl
abbrev N_law_state : List Str := ["script", "seed", "total", "cell"]
theorem b_law_state : defB C0 (topS 24) N_law_state D_law_state 60 = true := by decide +kernel
theorem k_law_state (K : PySem.W.Frag) (c : He.SaysD fa0 fn0 K) : ∃ fdv, DefK K C0 tab 17 (He.ga K "_law_state") "_law_state" (topS 24) N_law_state D_law_state 60 fdv := DefK.of c (i := 17) rfl rfl b_law_state fun _ _ _ _ _ _ us hl => match us, hl with | [_], _ => rfl
abbrev N_law_take : List Str := ["state", "m", "value"]
theorem b_law_take : defB C0 (topS 25) N_law_take D_law_take 60 = true := by decide +kernel
theorem k_law_take (K : PySem.W.Frag) (c : He.SaysD fa0 fn0 K) : ∃ fdv, DefK K C0 tab 18 (He.ga K "_law_take") "_law_take" (topS 25) N_law_take D_law_take 60 fdv := DefK.of c (i := 18) rfl rfl b_law_take fun _ _ _ _ _ _ us hl => match us, hl with | [_, _], _ => rfl
abbrev N_law_same : List Str := ["value", "due", "k"]
theorem b_law_same : defB C0 (topS 26) N_law_same D_law_same 60 = true := by decide +kernel
theorem k_law_same (K : PySem.W.Frag) (c : He.SaysD fa0 fn0 K) : ∃ fdv, DefK K C0 tab 19 (He.ga K "_law_same") "_law_same" (topS 26) N_law_same D_law_same 60 fdv := DefK.of c (i := 19) rfl rfl b_law_same fun _ _ _ _ _ _ us hl => match us, hl with | [_, _], _ => rfl
abbrev N_law_told : List Str := ["f", "given", "error"]
theorem b_law_told : defB C0 (topS 27) N_law_told D_law_told 60 = true := by decide +kernel
theorem k_law_told (K : PySem.W.Frag) (c : He.SaysD fa0 fn0 K) : ∃ fdv, DefK K C0 tab 20 (He.ga K "_law_told") "_law_told" (topS 27) N_law_told D_law_told 60 fdv := DefK.of c (i := 20) rfl rfl b_law_told fun _ _ _ _ _ _ us hl => match us, hl with | [_, _], _ => rfl
abbrev N_law_is_told : List Str := ["pair", "due"]
theorem b_law_is_told : defB C0 (topS 28) N_law_is_told D_law_is_told 60 = true := by decide +kernel
theorem k_law_is_told (K : PySem.W.Frag) (c : He.SaysD fa0 fn0 K) : ∃ fdv, DefK K C0 tab 21 (He.ga K "_law_is_told") "_law_is_told" (topS 28) N_law_is_told D_law_is_told 60 fdv := DefK.of c (i := 21) rfl rfl b_law_is_told fun _ _ _ _ _ _ us hl => match us, hl with | [_, _], _ => rfl
abbrev N_law_is_raised : List Str := ["pair", "reason"]
theorem b_law_is_raised : defB C0 (topS 29) N_law_is_raised D_law_is_raised 60 = true := by decide +kernel
theorem k_law_is_raised (K : PySem.W.Frag) (c : He.SaysD fa0 fn0 K) : ∃ fdv, DefK K C0 tab 22 (He.ga K "_law_is_raised") "_law_is_raised" (topS 29) N_law_is_raised D_law_is_raised 60 fdv := DefK.of c (i := 22) rfl rfl b_law_is_raised fun _ _ _ _ _ _ us hl => match us, hl with | [_, _], _ => rfl
abbrev N_law_tells : List Str := ["f", "given", "due"]
theorem b_law_tells : defB C0 (topS 30) N_law_tells D_law_tells 60 = true := by decide +kernel
theorem k_law_tells (K : PySem.W.Frag) (c : He.SaysD fa0 fn0 K) : ∃ fdv, DefK K C0 tab 23 (He.ga K "_law_tells") "_law_tells" (topS 30) N_law_tells D_law_tells 60 fdv := DefK.of c (i := 23) rfl rfl b_law_tells fun _ _ _ _ _ _ us hl => match us, hl with | [_, _, _], _ => rfl
abbrev N_law_raises : List Str := ["f", "given", "reason"]
theorem b_law_raises : defB C0 (topS 31) N_law_raises D_law_raises 60 = true := by decide +kernel
theorem k_law_raises (K : PySem.W.Frag) (c : He.SaysD fa0 fn0 K) : ∃ fdv, DefK K C0 tab 24 (He.ga K "_law_raises") "_law_raises" (topS 31) N_law_raises D_law_raises 60 fdv := DefK.of c (i := 24) rfl rfl b_law_raises fun _ _ _ _ _ _ us hl => match us, hl with | [_, _, _], _ => rfl
abbrev N_law_plain : List Str := ["x"]
theorem b_law_plain : defB C0 (topS 32) N_law_plain D_law_plain 60 = true := by decide +kernel
theorem k_law_plain (K : PySem.W.Frag) (c : He.SaysD fa0 fn0 K) : ∃ fdv, DefK K C0 tab 25 (He.ga K "_law_plain") "_law_plain" (topS 32) N_law_plain D_law_plain 60 fdv := DefK.of c (i := 25) rfl rfl b_law_plain fun _ _ _ _ _ _ us hl => match us, hl with | [_], _ => rfl
abbrev N_law_value : List Str := ["f", "given", "told"]
theorem b_law_value : defB C0 (topS 33) N_law_value D_law_value 60 = true := by decide +kernel
theorem k_law_value (K : PySem.W.Frag) (c : He.SaysD fa0 fn0 K) : ∃ fdv, DefK K C0 tab 26 (He.ga K "_law_value") "_law_value" (topS 33) N_law_value D_law_value 60 fdv := DefK.of c (i := 26) rfl rfl b_law_value fun _ _ _ _ _ _ us hl => match us, hl with | [_, _], _ => rfl
abbrev N_law_bads : List Str := ["f", "given", "at", "bads", "bad", "own"]
theorem b_law_bads : defB C0 (topS 34) N_law_bads D_law_bads 60 = true := by decide +kernel
theorem k_law_bads (K : PySem.W.Frag) (c : He.SaysD fa0 fn0 K) : ∃ fdv, DefK K C0 tab 27 (He.ga K "_law_bads") "_law_bads" (topS 34) N_law_bads D_law_bads 60 fdv := DefK.of c (i := 27) rfl rfl b_law_bads fun _ _ _ _ _ _ us hl => match us, hl with | [_, _, _, _], _ => rfl
abbrev N_law_perm : List Str := ["state", "n", "t", "left", "found"]
theorem b_law_perm : defB C0 (topS 35) N_law_perm D_law_perm 60 = true := by decide +kernel
theorem k_law_perm (K : PySem.W.Frag) (c : He.SaysD fa0 fn0 K) : ∃ fdv, DefK K C0 tab 28 (He.ga K "_law_perm") "_law_perm" (topS 35) N_law_perm D_law_perm 60 fdv := DefK.of c (i := 28) rfl rfl b_law_perm fun _ _ _ _ _ _ us hl => match us, hl with | [_, _], _ => rfl
abbrev N_law_perms : List Str := ["n", "found", "t", "longer", "own", "x"]
theorem b_law_perms : defB C0 (topS 36) N_law_perms D_law_perms 60 = true := by decide +kernel
theorem k_law_perms (K : PySem.W.Frag) (c : He.SaysD fa0 fn0 K) : ∃ fdv, DefK K C0 tab 29 (He.ga K "_law_perms") "_law_perms" (topS 36) N_law_perms D_law_perms 60 fdv := DefK.of c (i := 29) rfl rfl b_law_perms fun _ _ _ _ _ _ us hl => match us, hl with | [_], _ => rfl
abbrev N_law_counted : List Str := ["numbers", "found", "x"]
theorem b_law_counted : defB C0 (topS 37) N_law_counted D_law_counted 60 = true := by decide +kernel
theorem k_law_counted (K : PySem.W.Frag) (c : He.SaysD fa0 fn0 K) : ∃ fdv, DefK K C0 tab 30 (He.ga K "_law_counted") "_law_counted" (topS 37) N_law_counted D_law_counted 60 fdv := DefK.of c (i := 30) rfl rfl b_law_counted fun _ _ _ _ _ _ us hl => match us, hl with | [_], _ => rfl
abbrev N_law_signed : List Str := ["state", "n", "x"]
theorem b_law_signed : defB C0 (topS 38) N_law_signed D_law_signed 60 = true := by decide +kernel
theorem k_law_signed (K : PySem.W.Frag) (c : He.SaysD fa0 fn0 K) : ∃ fdv, DefK K C0 tab 31 (He.ga K "_law_signed") "_law_signed" (topS 38) N_law_signed D_law_signed 60 fdv := DefK.of c (i := 31) rfl rfl b_law_signed fun _ _ _ _ _ _ us hl => match us, hl with | [_, _], _ => rfl
abbrev N_law_signed_all : List Str := ["n", "found", "p", "rows", "x", "row"]
theorem b_law_signed_all : defB C0 (topS 39) N_law_signed_all D_law_signed_all 60 = true := by decide +kernel
theorem k_law_signed_all (K : PySem.W.Frag) (c : He.SaysD fa0 fn0 K) : ∃ fdv, DefK K C0 tab 32 (He.ga K "_law_signed_all") "_law_signed_all" (topS 39) N_law_signed_all D_law_signed_all 60 fdv := DefK.of c (i := 32) rfl rfl b_law_signed_all fun _ _ _ _ _ _ us hl => match us, hl with | [_], _ => rfl
abbrev N_law_inverse : List Str := ["p", "found", "k"]
theorem b_law_inverse : defB C0 (topS 40) N_law_inverse D_law_inverse 60 = true := by decide +kernel
theorem k_law_inverse (K : PySem.W.Frag) (c : He.SaysD fa0 fn0 K) : ∃ fdv, DefK K C0 tab 33 (He.ga K "_law_inverse") "_law_inverse" (topS 40) N_law_inverse D_law_inverse 60 fdv := DefK.of c (i := 33) rfl rfl b_law_inverse fun _ _ _ _ _ _ us hl => match us, hl with | [_], _ => rfl
abbrev N_law_images : List Str := ["p", "found", "line", "own", "other", "x"]
theorem b_law_images : defB C0 (topS 41) N_law_images D_law_images 60 = true := by decide +kernel
theorem k_law_images (K : PySem.W.Frag) (c : He.SaysD fa0 fn0 K) : ∃ fdv, DefK K C0 tab 34 (He.ga K "_law_images") "_law_images" (topS 41) N_law_images D_law_images 60 fdv := DefK.of c (i := 34) rfl rfl b_law_images fun _ _ _ _ _ _ us hl => match us, hl with | [_], _ => rfl
abbrev N_law_signed_descents : List Str := ["p", "wide", "k"]
theorem b_law_signed_descents : defB C0 (topS 42) N_law_signed_descents D_law_signed_descents 60 = true := by decide +kernel
theorem k_law_signed_descents (K : PySem.W.Frag) (c : He.SaysD fa0 fn0 K) : ∃ fdv, DefK K C0 tab 35 (He.ga K "_law_signed_descents") "_law_signed_descents" (topS 42) N_law_signed_descents D_law_signed_descents 60 fdv := DefK.of c (i := 35) rfl rfl b_law_signed_descents fun _ _ _ _ _ _ us hl => match us, hl with | [_], _ => rfl
abbrev N_law : List Str := ["script", "state", "turn", "n", "every", "row", "high", "k", "lot", "wide", "value", "one", "two", "p", "q", "good", "x", "f", "most"]
theorem b_law : defB C0 (topS 43) N_law D_law 60 = true := by decide +kernel
theorem k_law (K : PySem.W.Frag) (c : He.SaysD fa0 fn0 K) : ∃ fdv, DefK K C0 tab 36 (He.ga K "law") "law" (topS 43) N_law D_law 60 fdv := DefK.of c (i := 36) rfl rfl b_law fun _ _ _ _ _ _ us hl => match us, hl with | [_], _ => rfl
theorem defs_ok (K : PySem.W.Frag) (c : He.SaysD fa0 fn0 K) : ∀ f, f < NM.defs.length → ∃ x st N fd n fdv, DefK K C0 tab f (He.ga K (NM.defs.getD f "")) x st N fd n fdv
  | 0, _ => ⟨_, _, _, _, _, k_is_integer K c⟩
  | 1, _ => ⟨_, _, _, _, _, k_check_from K c⟩
  | 2, _ => ⟨_, _, _, _, _, k_factorial K c⟩
  | 3, _ => ⟨_, _, _, _, _, k_raised K c⟩
  | 4, _ => ⟨_, _, _, _, _, k_counted K c⟩
  | 5, _ => ⟨_, _, _, _, _, k_is_signed K c⟩
  | 6, _ => ⟨_, _, _, _, _, k_check_signed K c⟩
  | 7, _ => ⟨_, _, _, _, _, k_signed_of K c⟩
  | 8, _ => ⟨_, _, _, _, _, k_raised_size K c⟩
  | 9, _ => ⟨_, _, _, _, _, k_signed_flat K c⟩
  | 10, _ => ⟨_, _, _, _, _, k_signed_inverse K c⟩
  | 11, _ => ⟨_, _, _, _, _, k_signed_product K c⟩
  | 12, _ => ⟨_, _, _, _, _, k_signed_descents K c⟩
  | 13, _ => ⟨_, _, _, _, _, k_signed_descent_row K c⟩
  | 14, _ => ⟨_, _, _, _, _, k_signed_descents_listed K c⟩
  | 15, _ => ⟨_, _, _, _, _, k_signed_number K c⟩
  | 16, _ => ⟨_, _, _, _, _, k_is_signed_image K c⟩
  | 17, _ => ⟨_, _, _, _, _, k_law_state K c⟩
  | 18, _ => ⟨_, _, _, _, _, k_law_take K c⟩
  | 19, _ => ⟨_, _, _, _, _, k_law_same K c⟩
  | 20, _ => ⟨_, _, _, _, _, k_law_told K c⟩
  | 21, _ => ⟨_, _, _, _, _, k_law_is_told K c⟩
  | 22, _ => ⟨_, _, _, _, _, k_law_is_raised K c⟩
  | 23, _ => ⟨_, _, _, _, _, k_law_tells K c⟩
  | 24, _ => ⟨_, _, _, _, _, k_law_raises K c⟩
  | 25, _ => ⟨_, _, _, _, _, k_law_plain K c⟩
  | 26, _ => ⟨_, _, _, _, _, k_law_value K c⟩
  | 27, _ => ⟨_, _, _, _, _, k_law_bads K c⟩
  | 28, _ => ⟨_, _, _, _, _, k_law_perm K c⟩
  | 29, _ => ⟨_, _, _, _, _, k_law_perms K c⟩
  | 30, _ => ⟨_, _, _, _, _, k_law_counted K c⟩
  | 31, _ => ⟨_, _, _, _, _, k_law_signed K c⟩
  | 32, _ => ⟨_, _, _, _, _, k_law_signed_all K c⟩
  | 33, _ => ⟨_, _, _, _, _, k_law_inverse K c⟩
  | 34, _ => ⟨_, _, _, _, _, k_law_images K c⟩
  | 35, _ => ⟨_, _, _, _, _, k_law_signed_descents K c⟩
  | 36, _ => ⟨_, _, _, _, _, k_law K c⟩
  | _ + 37, h => absurd h (by simp [NM])
def loose0 : List PySem.Str := ["__name__", "Fault", "Malformed", "Refused", "is_integer", "check_from", "factorial", "raised", "counted", "is_signed", "check_signed", "signed_of", "raised_size", "signed_flat", "signed_inverse", "signed_product", "signed_descents", "signed_descent_row", "signed_descents_listed", "signed_number", "is_signed_image", "_law_state", "_law_take", "_law_same", "_law_told"]
def loose1 : List PySem.Str := ["_law_is_told", "_law_is_raised", "_law_tells", "_law_raises", "_law_plain", "_law_value", "_law_bads", "_law_perm", "_law_perms", "_law_counted", "_law_signed", "_law_signed_all", "_law_inverse", "_law_images", "_law_signed_descents"]
def loose0s : List PySem.Str := loose0 ++ loose1
abbrev R0 : PySem.W.OpenRow := PySem.W.OpenLaw.row PySem.Challenge.rw_patternroads_k73_whole_signed_permutatio
abbrev hk0 : PySem.W.Hook := hookX 4 fa0 fn0 (exB PRG.main.file NM consts0)
def ob0 (s : PySem.W.SharedT) : Bool × He.AlD := obsX 4 fa0 fn0 (exB PRG.main.file NM consts0) (HandSHeadRun.getT s)
theorem ob0_eq (s : PySem.W.SharedT) : ob0 s = hk0.obs s.abs := obsX_eq (HandSHeadRun.getT_eq s)
theorem run0 (w : World) : HandSHeadRun.RunEq R0 (PySem.W.view R0.prog [43]) hk0 ob0 6000 loose0s w := by
  intro os
  kernel_rfl
end EV.R
open PySem PySem.W PySem.Calls PyProof.Rows
theorem PySem.Challenge.cw_patternroads_k73_whole_signed_permutatio_holds : PySem.Challenge.rw_patternroads_k73_whole_signed_permutatio.Holds := by
  w_on; o_law
  refine HandSHeadRun.head_any (r := EV.R.R0) (q := view EV.R.R0.prog [43]) (H := EV.R.hk0) (ob := EV.R.ob0) (M := 6000) (loose := EV.R.loose0s) (d := HandSHeadRun.topDef EV.R.R0.prog 43) (kwd := []) EV.R.ob0_eq
    (by kernel_rfl) (fun s => by kernel_rfl) EV.R.run0 (by kernel_rfl) (by kernel_rfl) (by kernel_rfl) (by rfl) (by first | assumption | decide +kernel) (by decide +kernel) ⟨rfl, rfl, rfl, rfl, rfl, by decide +kernel⟩ ?hw ?hc
  case hw => w_witness2
  case hc =>
    exact EV.law_walk (l := PySem.Challenge.rw_patternroads_k73_whole_signed_permutatio) (n := 63) (M := EV.R.NM) (consts := EV.R.consts0) (tab := EV.R.tab) (C0 := EV.R.C0) (dep := 60) (iL := 36) (st := EV.R.topS 43) (N := EV.R.N_law) (fd := EV.R.D_law) (m := 60) rfl (by decide) (by kernel_rfl) ⟨rfl, by decide, by decide⟩ (by kernel_rfl) (by kernel_rfl) (by decide) rfl
      EV.R.defs_ok EV.R.k_law rfl (fun _ _ _ _ _ _ us hl => match us, hl with | [_], _ => rfl) (fun _ => rfl) rfl rfl rfl rfl (by decide) fun ns => EV.R.l_law _ ns (by decide)
