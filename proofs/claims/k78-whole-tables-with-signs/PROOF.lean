import PyProof.Rows.All
import Wide.All
import OpenK.AllK
import Wide.FinOn
import HandS.ForMost
import HandS.Deep
import HandS.Wide
import HandS.Gcd
import HandS.IsInst
import HandS.Zip
import HandS.Flow
import HandS.Style
import HandS.More
import HandS.NoneIn
import HandS.TupMul
import HandS.SortInts
import HandS.TupSets
import KE.GoesMore
import KE.GoesEnum
import HandS.Conv
import HandS.Iter
import HandS.Zip0
import HandS.Rev
import PySem.Challenge.RW_fourfolds_k78_whole_tables_with_signs
set_option Elab.async false
set_option linter.all false
set_option maxRecDepth 100000
set_option maxHeartbeats 4000000
/-! Tv0: plain data (D), the small syntax (C, S), its evaluator (ev, ex), programs (callN). No heap here. -/
namespace Tv
open PySem

/-- plain data: st is the law's drawing state, scr the script: both handed on as they are -/
inductive D where
  | non | bl (b : Bool) | int (i : Int) | str (x : Str) | st | scr (ns : List Int)
  | tup (xs : List D) | lst (xs : List D)
  | dic (kvs : List (D × D)) | set (xs : List D)
  deriving Inhabited

/-- what a name holds: nothing, data, or a list of its own that may be changed -/
inductive SV where
  | no | val (d : D) | own (xs : List D)
  deriving Inhabited
abbrev Env := List SV

/-- the drawing state -/
inductive GS where
  | none | one (cells : List Int) (seed : Int) | two (k v : Int)
  deriving DecidableEq, Inhabited

mutual
def eqD : D → D → Bool
  | .non, .non => true
  | .bl a, .bl b => a == b
  | .bl a, .int b => (if a = true then 1 else 0) == b
  | .int a, .bl b => a == (if b = true then 1 else 0)
  | .int a, .int b => a == b
  | .str a, .str b => a == b
  | .tup xs, .tup ys => eqDs xs ys
  | .lst xs, .lst ys => eqDs xs ys
  | _, _ => false
def eqDs : List D → List D → Bool
  | [], [] => true
  | x :: xs, y :: ys => eqD x y && eqDs xs ys
  | _, _ => false
end
mutual
/-- data that == serves: None, bools, ints, texts, tuples, lists of these, at most n deep -/
def okD : Nat → D → Bool
  | _, .non => true
  | _, .bl _ => true
  | _, .int _ => true
  | _, .str x => x.cps.all (· < 1114112)
  | n, .tup xs => match n with | 0 => false | n + 1 => okDs n xs
  | n, .lst xs => match n with | 0 => false | n + 1 => okDs n xs
  | _, _ => false
def okDs : Nat → List D → Bool
  | _, [] => true
  | n, x :: xs => okD n x && okDs n xs
end
def scal : D → Bool
  | .non => true
  | .bl _ => true
  | .int _ => true
  | .str _ => true
  | _ => false

/-- both factors: one below 2 ^ 64, or both below 2 ^ 400000 -/
def mulOk (a b : Int) : Bool := Nat.blt a.natAbs 18446744073709551616 || Nat.blt b.natAbs 18446744073709551616 || (Nat.blt a.natAbs (2 ^ 400000) && Nat.blt b.natAbs (2 ^ 400000))

inductive Op where
  | add | sub | mul | fdiv | mod | pow | shl | shr | band | bxor
  deriving DecidableEq, Inhabited
inductive Cp where
  | eq | ne | lt | le | gt | ge | isn | nisn | isin | notin
  deriving DecidableEq, Inhabited
inductive Bi where
  | len | abs | sum | tuple | list | sorted | max | min | all | any | int | range1 | range2 | range3 | zip | enum | rev | gcd | isqrt | isin (ks : List Nat) | set | max2 | min2 | lrng | trng | trng3
  deriving DecidableEq, Inhabited

/-- targets -/
inductive G where
  | var (i : Nat) | tup (gs : List G)
  deriving Inhabited

/-- expressions -/
inductive C where
  | lit (d : D)
  | var (i : Nat)
  | bvar (i : Nat)
  | tup (es : List C)
  | lst (es : List C)
  | bin (op : Op) (a b : C)
  | neg (a : C)
  | cmp (op : Cp) (a b : C)
  | not (a : C)
  | and (a b : C)
  | or (a b : C)
  | ite (t a b : C)
  | idx (a i : C)
  | cut (a lo hi : C)
  | back (a : C)
  | nop
  | st2
  | call (f : Nat) (es : List C)
  | bi (b : Bi) (es : List C)
  | comp (own : List Nat) (tg : G) (it cond elt : C)
  | comp2 (own own2 : List Nat) (tg : G) (it cond : C) (tg2 : G) (it2 cond2 elt : C)
  deriving Inhabited

/-- a slice's part that is left out -/
def isNop : C → Bool
  | .nop => true
  | _ => false

/-- bind -/
def bnd {α β : Type} (x : Option (α × GS)) (f : α → GS → Option β) : Option β := match x with
  | none => none
  | some (a, g) => f a g
theorem bnd_some {α β : Type} (a : α) (g : GS) (f : α → GS → Option β) : bnd (some (a, g)) f = f a g := rfl
theorem bnd_eq {α β : Type} {x : Option (α × GS)} {f : α → GS → Option β} {b : β} (h : bnd x f = some b) : ∃ a g, x = some (a, g) ∧ f a g = some b := by
  cases x with
  | none => cases h
  | some p => exact ⟨p.1, p.2, rfl, h⟩

def truth : D → Option Bool
  | .non => some false
  | .bl b => some b
  | .int i => some (i != 0)
  | .str x => if x.length ≤ sizeLine then some ((x.length : Int) != 0) else none
  | .tup xs => some (!xs.isEmpty)
  | .lst xs => some (!xs.isEmpty)
  | _ => none

def addD (x y : D) : Option D := match x, y with
  | .int a, .int b => some (.int (a + b))
  | .tup xs, .tup ys => if xs.length + ys.length ≤ sizeLine then some (.tup (xs ++ ys)) else none
  | .lst xs, .lst ys => if xs.length + ys.length ≤ sizeLine then some (.lst (xs ++ ys)) else none
  | .str x, .str y => if x.length + y.length ≤ sizeLine then some (.str (x ++ y)) else none
  | _, _ => none
def mulD (x y : D) : Option D := match x, y with
  | .int a, .int b => if mulOk a b = true then some (.int (a * b)) else none
  | .lst xs, .int k => if -(2 ^ 63) ≤ k ∧ k < 2 ^ 63 ∧ xs.length * k.toNat ≤ sizeLine then some (.lst (List.replicate k.toNat xs).flatten) else none
  | .tup xs, .int k => if 0 < xs.length ∧ xs.length ≤ 1000 ∧ 0 ≤ k ∧ k ≤ 1000 then some (.tup (List.replicate k.toNat xs).flatten) else none
  | _, _ => none
/-- two ints -/
def intD (ok : Int → Int → Bool) (f : Int → Int → Int) (x y : D) : Option D := match x, y with
  | .int a, .int b => if ok a b = true then some (.int (f a b)) else none
  | _, _ => none
def divOk (a b : Int) : Bool := (Nat.blt b.natAbs 1073741824 && b != 0) || (decide (0 < b) && Nat.blt b.natAbs (2 ^ 9000))
def powOk (a b : Int) : Bool := decide (0 ≤ b) && decide (b ≤ 1000000) && Nat.blt a.natAbs 18446744073709551616
def binD : Op → D → D → Option D
  | .add => addD
  | .sub => intD (fun _ _ => true) fun a b => a - b
  | .mul => mulD
  | .fdiv => intD divOk Int.fdiv
  | .mod => intD (fun _ b => b != 0) Int.fmod
  | .pow => intD powOk fun a b => a ^ b.toNat
  | .shl => intD powOk fun a b => a * 2 ^ b.toNat
  | .shr => intD (fun _ b => decide (0 ≤ b)) fun a b => a / 2 ^ b.toNat
  | .band => intD (fun _ _ => true) Builtin.bitAnd
  | .bxor => intD (fun _ _ => true) Builtin.bitXor

def intsOf : List D → Option (List Int)
  | [] => some []
  | .int i :: r => (intsOf r).map (i :: ·)
  | _ => none
def bools : List D → Option (List Bool)
  | [] => some []
  | .bl i :: r => (bools r).map (i :: ·)
  | _ => none
def isinD (d : D) : List D → Bool
  | [] => false
  | x :: r => eqD x d || isinD d r

def eqOk (a b : D) : Bool := okD 60 a && okD 60 b
/-- two ints compared -/
def relD (f : Int → Int → Bool) (x y : D) : Option D := match x, y with
  | .int a, .int b => some (.bl (f a b))
  | _, _ => none
def ltD (x y : D) : Option D := match x, y with
  | .int a, .int b => some (.bl (decide (a < b)))
  | .tup a, .tup b => match intsOf a, intsOf b with
    | some x, some y => some (.bl (HT.lexLt x y))
    | _, _ => none
  | _, _ => none
/-- is None, is True, is False -/
def isNon : D → Bool
  | .non => true
  | _ => false
def isD (neg : Bool) (x y : D) : Option D := match y, x with
  | .non, x => some (.bl (if neg = true then !isNon x else isNon x))
  | .bl b, .bl a => some (.bl (if neg = true then !decide (a = b) else decide (a = b)))
  | _, _ => none
def inD (neg : Bool) (x y : D) : Option D := match y with
  | .lst xs => if okD 60 x = true ∧ okDs 60 xs = true then some (.bl (if neg = true then !isinD x xs else isinD x xs)) else none
  | .tup xs => if okD 60 x = true ∧ okDs 60 xs = true then some (.bl (if neg = true then !isinD x xs else isinD x xs)) else none
  | _ => none
def cmpD : Cp → D → D → Option D
  | .eq => fun a b => if eqOk a b = true then some (.bl (eqD a b)) else none
  | .ne => fun a b => if eqOk a b = true then some (.bl (!eqD a b)) else none
  | .lt => ltD
  | .le => relD fun a b => decide (a ≤ b)
  | .gt => relD fun a b => decide (b < a)
  | .ge => relD fun a b => decide (b ≤ a)
  | .isn => isD false
  | .nisn => isD true
  | .isin => inD false
  | .notin => inD true

def atD (xs : List D) (i : Int) : Option D := L2.atI xs i
def idxD (x y : D) : Option D := match x, y with
  | .tup xs, .int i => atD xs i
  | .lst xs, .int i => atD xs i
  | _, _ => none
def partI (x : D) : Option (Option Int) := match x with
  | .int i => some (some i)
  | _ => none
def cutL (xs : List D) (a b : Option Int) : List D := (xs.drop (HT.sIx xs.length 0 a)).take (HT.sIx xs.length xs.length b - HT.sIx xs.length 0 a)
def cutD (x : D) (lo hi : Option Int) : Option D := match x with
  | .lst xs => some (.lst (cutL xs lo hi))
  | .tup xs => some (.tup (cutL xs lo hi))
  | _ => none
def backD : D → Option D
  | .lst xs => some (.lst xs.reverse)
  | .tup xs => some (.tup xs.reverse)
  | _ => none

def rangeD (lo : Int) : Nat → List D
  | 0 => []
  | n + 1 => .int lo :: rangeD (lo + 1) n
/-- from lo on, in steps of c -/
def stepD (lo c : Int) : Nat → List D
  | 0 => []
  | n + 1 => .int lo :: stepD (lo + c) c n
def zipD : List D → List D → List D
  | x :: xs, y :: ys => .tup [x, y] :: zipD xs ys
  | _, _ => []
def enumD (k : Int) : List D → List D
  | [] => []
  | x :: xs => .tup [.int k, x] :: enumD (k + 1) xs
def insertI (x : Int) : List Int → List Int
  | [] => [x]
  | y :: r => if x ≤ y then x :: y :: r else y :: insertI x r
def sortI : List Int → List Int
  | [] => []
  | x :: r => insertI x (sortI r)
def items : D → Option (List D)
  | .lst xs => some xs
  | .tup xs => some xs
  | _ => none
def small62 (i : Int) : Bool := decide (-(2 ^ 62) ≤ i) && decide (i < 2 ^ 62)

/-- one argument -/
def un (f : D → Option D) (ds : List D) : Option D := match ds with
  | [d] => f d
  | _ => none
def lenD (d : D) : Option D := match d with
  | .lst xs => some (.int xs.length)
  | .tup xs => some (.int xs.length)
  | _ => none
def absD (d : D) : Option D := match d with
  | .int i => some (.int (if i < 0 then -i else i))
  | _ => none
def toInt (d : D) : Option D := match d with
  | .int i => some (.int i)
  | .bl b => some (.int (if b = true then 1 else 0))
  | _ => none
def sumD (d : D) : Option D := match d with
  | .lst xs => (intsOf xs).map fun ns => .int ns.sum
  | _ => none
def tupleD (d : D) : Option D := match d with
  | .lst xs => some (.tup xs)
  | .tup xs => some (.tup xs)
  | _ => none
def listD (d : D) : Option D := match d with
  | .lst xs => some (.lst xs)
  | .tup xs => some (.lst xs)
  | _ => none
def minI : Int → List Int → Int
  | m, [] => m
  | m, x :: r => minI (if x < m then x else m) r
def maxI : Int → List Int → Int
  | m, [] => m
  | m, x :: r => maxI (if m < x then x else m) r
/-- the least or greatest of a list of ints -/
def bestD (f : Int → List Int → Int) (d : D) : Option D := match d with
  | .lst xs => match intsOf xs with
    | some (n :: r) => some (.int (f n r))
    | _ => none
  | _ => none
def allD (neg : Bool) (d : D) : Option D := match d with
  | .lst xs => (bools xs).map fun bs => .bl (if neg = true then bs.any id else bs.all id)
  | _ => none
def lexL : List Int → List Int → Bool
  | [], [] => false
  | [], _ :: _ => true
  | _ :: _, [] => false
  | x :: r, y :: s => if x = y then lexL r s else decide (x < y)
def insertT (x : List Int) : List (List Int) → List (List Int)
  | [] => [x]
  | y :: r => if lexL y x = true then y :: insertT x r else x :: y :: r
def sortT : List (List Int) → List (List Int)
  | [] => []
  | x :: r => insertT x (sortT r)
def rowsD : List D → Option (List (List Int))
  | [] => some []
  | .tup xs :: r => match intsOf xs with
    | some (n :: ns) => (rowsD r).map ((n :: ns) :: ·)
    | _ => none
  | _ => none
def sortedD (d : D) : Option D := match d with
  | .lst xs => match intsOf xs with
    | some ns => some (.lst ((sortI ns).map .int))
    | none => match rowsD xs with
      | some rows => some (.lst ((sortT rows).map fun r => .tup (r.map .int)))
      | none => none
  | _ => none
def kind : D → Option Nat
  | .int _ => some 0
  | .bl _ => some 1
  | .non => some 2
  | .str _ => some 3
  | .tup _ => some 4
  | .lst _ => some 5
  | _ => none
/-- is the value's kind among these (a bool is an int) -/
def isK (ks : List Nat) (d : D) : Option D := (kind d).map fun k => .bl (ks.contains k || (k == 1 && ks.contains 0))
def two (f : Int → Int → D) (ds : List D) : Option D := match ds with
  | [.int a, .int b] => some (f a b)
  | _ => none
def range1D (d : D) : Option D := match d with
  | .int j => if small62 j = true then some (.lst (rangeD 0 j.toNat)) else none
  | _ => none
def range2D (ds : List D) : Option D := match ds with
  | [.int i, .int j] => if small62 i = true ∧ small62 j = true then some (.lst (rangeD i (j - i).toNat)) else none
  | _ => none
def range3D (ds : List D) : Option D := match ds with
  | [.int i, .int j, .int c] => if c ≠ 0 ∧ c.natAbs < 1073741824 ∧ Builtin.Range.small i j c = true ∧ 0 ≤ Builtin.Range.rangeSize i j c then some (.lst (stepD i c (Builtin.Range.rangeSize i j c).toNat)) else none
  | _ => none
def trng3D (ds : List D) : Option D := match range3D ds with
  | some (.lst xs) => if xs.length ≤ sizeLine then some (.tup xs) else none
  | _ => none
def zip2D (ds : List D) : Option D := match ds with
  | [.lst xs, .lst ys] => some (.lst (zipD xs ys))
  | [.tup xs, .tup ys] => some (.lst (zipD xs ys))
  | [.lst xs, .tup ys] => some (.lst (zipD xs ys))
  | [.tup xs, .lst ys] => some (.lst (zipD xs ys))
  | _ => none
def enumsD (d : D) : Option D := match d with
  | .lst xs => some (.lst (enumD 0 xs))
  | .tup xs => some (.lst (enumD 0 xs))
  | _ => none
def revD (d : D) : Option D := match d with
  | .lst xs => some (.lst xs.reverse)
  | .tup xs => some (.lst xs.reverse)
  | _ => none
def isqrtD (d : D) : Option D := match d with
  | .int i => if 0 ≤ i ∧ i < 2 ^ 64 then some (.int ((Float64.isqrt i.toNat : Nat) : Int)) else none
  | _ => none
/-- a range's ends -/
def rngE (ds : List D) : Option (Int × Int) := match ds with
  | [.int j] => if small62 j = true ∧ j.toNat ≤ sizeLine then some (0, j) else none
  | [.int i, .int j] => if small62 i = true ∧ small62 j = true ∧ (j - i).toNat ≤ sizeLine then some (i, j) else none
  | _ => none
/-- how many unlike ones -/
def unlike (ns : List Int) : Nat := (PyProof.Rows.firstMet (fun i => ns.getD i 0) ns.length).length
/-- len(set(xs)), of ints -/
def lensD (d : D) : Option D := match d with
  | .lst xs => match intsOf xs with
    | some ns => if ns.length ≤ 4000 then some (.int (unlike ns : Nat)) else none
    | none => none
  | _ => none
def biD : Bi → List D → Option D
  | .len => un lenD
  | .abs => un absD
  | .int => un toInt
  | .sum => un sumD
  | .tuple => un tupleD
  | .list => un listD
  | .all => un (allD false)
  | .any => un (allD true)
  | .range1 => un range1D
  | .range2 => range2D
  | .range3 => range3D
  | .zip => zip2D
  | .enum => un enumsD
  | .max => un (bestD maxI)
  | .min => un (bestD minI)
  | .max2 => two fun i j => .int (if j > i then j else i)
  | .min2 => two fun i j => .int (if j < i then j else i)
  | .sorted => un sortedD
  | .isin ks => un (isK ks)
  | .isqrt => un isqrtD
  | .set => un lensD
  | .lrng => fun ds => (rngE ds).map fun p => .lst (rangeD p.1 (p.2 - p.1).toNat)
  | .trng => fun ds => (rngE ds).map fun p => .tup (rangeD p.1 (p.2 - p.1).toNat)
  | .trng3 => trng3D
  | .rev => un revD
  | .gcd => two fun a b => .int ((Nat.gcd a.natAbs b.natAbs : Nat) : Int)

mutual
def asg : G → D → Env → Option Env
  | .var i, d, ρ => some (ρ.set i (.val d))
  | .tup gs, d, ρ => match d with
    | .tup xs => asgs gs xs ρ
    | .lst xs => asgs gs xs ρ
    | _ => none
def asgs : List G → List D → Env → Option Env
  | [], [], ρ => some ρ
  | g :: gs, x :: xs, ρ => match asg g x ρ with
    | some ρ' => asgs gs xs ρ'
    | none => none
  | _, _, _ => none
end
def wipeE (ρ : Env) : List Nat → Env
  | [] => ρ
  | v :: vs => (wipeE ρ vs).set v .no

abbrev Calls := Nat → List D → GS → Option (D × GS)

/-- a walk that gathers -/
def gather (f : D → GS → Option (Option D × GS)) : List D → GS → Option (List D × GS)
  | [], g => some ([], g)
  | x :: xs, g => bnd (f x g) fun y g => bnd (gather f xs g) fun ys g => some (match y with | some y => y :: ys | none => ys, g)
/-- a walk that gathers lists -/
def gatherL (f : D → GS → Option (List D × GS)) : List D → GS → Option (List D × GS)
  | [], g => some ([], g)
  | x :: xs, g => bnd (f x g) fun y g => bnd (gatherL f xs g) fun ys g => some (y ++ ys, g)

mutual
def ev (call : Calls) : C → Env → GS → Option (D × GS)
  | .lit d, _, g => some (d, g)
  | .var i, ρ, g => match ρ[i]? with
    | some (.val d) => some (d, g)
    | _ => none
  | .bvar i, ρ, g => match ρ[i]? with
    | some (.val d) => some (d, g)
    | some (.own xs) => some (.lst xs, g)
    | _ => none
  | .tup es, ρ, g => bnd (evs call es ρ g) fun ds g => some (.tup ds, g)
  | .lst es, ρ, g => bnd (evs call es ρ g) fun ds g => some (.lst ds, g)
  | .bin op a b, ρ, g => bnd (ev call a ρ g) fun x g => bnd (ev call b ρ g) fun y g => (binD op x y).map (·, g)
  | .neg a, ρ, g => bnd (ev call a ρ g) fun x g => match x with
    | .int i => some (.int (-i), g)
    | _ => none
  | .cmp op a b, ρ, g => bnd (ev call a ρ g) fun x g => bnd (ev call b ρ g) fun y g => (cmpD op x y).map (·, g)
  | .not a, ρ, g => bnd (ev call a ρ g) fun x g => (truth x).map fun k => (.bl (!k), g)
  | .and a b, ρ, g => bnd (ev call a ρ g) fun x g => match truth x with
    | some true => ev call b ρ g
    | some false => some (x, g)
    | none => none
  | .or a b, ρ, g => bnd (ev call a ρ g) fun x g => match truth x with
    | some true => some (x, g)
    | some false => ev call b ρ g
    | none => none
  | .ite t a b, ρ, g => bnd (ev call t ρ g) fun x g => match truth x with
    | some true => ev call a ρ g
    | some false => ev call b ρ g
    | none => none
  | .idx a i, ρ, g => bnd (ev call a ρ g) fun x g => bnd (ev call i ρ g) fun y g => (idxD x y).map (·, g)
  | .nop, _, _ => none
  | .st2, _, g => match g with
    | .none => some (.st, .two 0 0)
    | _ => none
  | .cut a lo hi, ρ, g => bnd (ev call a ρ g) fun x g => bnd (if isNop lo = true then some (none, g) else bnd (ev call lo ρ g) fun l g => (partI l).map (·, g)) fun l g =>
    bnd (if isNop hi = true then some (none, g) else bnd (ev call hi ρ g) fun l g => (partI l).map (·, g)) fun h g => (cutD x l h).map (·, g)
  | .back a, ρ, g => bnd (ev call a ρ g) fun x g => (backD x).map (·, g)
  | .call f es, ρ, g => bnd (evs call es ρ g) fun ds g => call f ds g
  | .bi b es, ρ, g => bnd (evs call es ρ g) fun ds g => (biD b ds).map (·, g)
  | .comp own tg it cond elt, ρ, g => bnd (ev call it ρ g) fun s g => match items s with
    | some xs => bnd (gather (fun x g => match asg tg x (wipeE ρ own) with
        | some ρ' => bnd (ev call cond ρ' g) fun k g => match truth k with
          | some true => bnd (ev call elt ρ' g) fun y g => some (some y, g)
          | some false => some (none, g)
          | none => none
        | none => none) xs g) fun ys g => if ys.length ≤ sizeLine then some (.lst ys, g) else none
    | none => none
  | .comp2 own own2 tg it cond tg2 it2 cond2 elt, ρ, g => bnd (ev call it ρ g) fun s g => match items s with
    | some xs => bnd (gatherL (fun x g => match asg tg x (wipeE ρ own) with
        | some ρ' => bnd (ev call cond ρ' g) fun k g => match truth k with
          | some true => bnd (ev call it2 ρ' g) fun s2 g => match items s2 with
            | some xs2 => gather (fun x2 g => match asg tg2 x2 (wipeE ρ' own2) with
                | some ρ2 => bnd (ev call cond2 ρ2 g) fun k g => match truth k with
                  | some true => bnd (ev call elt ρ2 g) fun y g => some (some y, g)
                  | some false => some (none, g)
                  | none => none
                | none => none) xs2 g
            | none => none
          | some false => some ([], g)
          | none => none
        | none => none) xs g) fun ys g => if ys.length ≤ sizeLine then some (.lst ys, g) else none
    | none => none
def evs (call : Calls) : List C → Env → GS → Option (List D × GS)
  | [], _, g => some ([], g)
  | e :: es, ρ, g => bnd (ev call e ρ g) fun d g => bnd (evs call es ρ g) fun ds g => some (d :: ds, g)
end

/-- a slice's part -/
def evP (call : Calls) (c : C) (ρ : Env) (g : GS) : Option (Option Int × GS) := if isNop c = true then some (none, g) else bnd (ev call c ρ g) fun l g => (partI l).map (·, g)

/-- statements; fz: the names whose own lists are given away (they may not be changed any more) -/
inductive S where
  | asg (fz : List Nat) (g : G) (c : C)
  | own (fz : List Nat) (i : Nat) (c : C)
  | par (fz : List Nat) (is : List Nat) (cs : List C)
  | paro (fz : List Nat) (i j : Nat) (c c2 : C)
  | seti (fz : List Nat) (i : Nat) (ix c : C)
  | seti2 (fz : List Nat) (i : Nat) (ix : C) (j : Nat) (jx : C) (c : C)
  | augx (i : Nat) (ix : C) (op : Op) (c : C)
  | aug (i : Nat) (op : Op) (c : C)
  | app (fz : List Nat) (i : Nat) (c : C)
  | ins (fz : List Nat) (i : Nat) (ix c : C)
  | pop (g : Option G) (i : Nat) (ix : Option C)
  | expr (c : C)
  | ifs (t : C) (a b : List S)
  | ifz (fz : List Nat) (t : C) (a b : List S)
  | whl (t : C) (b : List S)
  | for (fz : List Nat) (g : G) (it : C) (b : List S)
  | ret (fz : List Nat) (c : C)
  | retN | brk | cnt | pass
  deriving Inhabited

inductive R where
  | nx (ρ : Env) | rt (d : D) | bk (ρ : Env) | ct (ρ : Env)
  deriving Inhabited

def fz1 (ρ : Env) (i : Nat) : Env := match ρ[i]? with
  | some (.own xs) => ρ.set i (.val (.lst xs))
  | _ => ρ
def freeze (ρ : Env) : List Nat → Env
  | [] => ρ
  | i :: r => fz1 (freeze ρ r) i
/-- behind an expression that was asked with the names at fz given away -/
def keepF (ρ : Env) (fz : List Nat) (d : D) : Env := match fz with
  | [] => ρ
  | _ => if scal d = true then ρ else freeze ρ fz

def forL (b : D → Env → GS → Option (R × GS)) : List D → Env → GS → Option (R × GS)
  | [], ρ, g => some (.nx ρ, g)
  | x :: xs, ρ, g => bnd (b x ρ g) fun r g => match r with
    | .nx ρ => forL b xs ρ g
    | .ct ρ => forL b xs ρ g
    | .bk ρ => some (.nx ρ, g)
    | .rt d => some (.rt d, g)
def whlL (t : Env → GS → Option (D × GS)) (b : Env → GS → Option (R × GS)) : Nat → Env → GS → Option (R × GS)
  | 0, _, _ => none
  | n + 1, ρ, g => bnd (t ρ g) fun x g => match truth x with
    | some true => bnd (b ρ g) fun r g => match r with
      | .nx ρ => whlL t b n ρ g
      | .ct ρ => whlL t b n ρ g
      | .bk ρ => some (.nx ρ, g)
      | .rt d => some (.rt d, g)
    | some false => some (.nx ρ, g)
    | none => none
def FUEL : Nat := 2 ^ 40

/-- d stored at the place k of the list at i -/
def put1 (ρ : Env) (i : Nat) (k d : D) : Option Env := match ρ[i]?, k with
  | some (.own xs), .int k => match L2.ixN xs.length k with
    | some j => some (ρ.set i (.own (xs.set j d)))
    | none => none
  | _, _ => none
def parE : List Nat → List D → Env → Option Env
  | [], [], ρ => some ρ
  | i :: is, d :: ds, ρ => parE is ds (ρ.set i (.val d))
  | _, _, _ => none

mutual
def ex (call : Calls) : S → Env → GS → Option (R × GS)
  | .asg fz tg c, ρ, g => bnd (ev call c (freeze ρ fz) g) fun d g => match asg tg d (keepF ρ fz d) with
    | some ρ' => some (.nx ρ', g)
    | none => none
  | .own fz i c, ρ, g => bnd (ev call c (freeze ρ fz) g) fun d g => match d with
    | .lst xs => some (.nx ((freeze ρ fz).set i (.own xs)), g)
    | _ => none
  | .par fz is cs, ρ, g => bnd (evs call cs (freeze ρ fz) g) fun ds g => match parE is ds (freeze ρ fz) with
    | some ρ' => some (.nx ρ', g)
    | none => none
  | .paro fz i j c c2, ρ, g => bnd (ev call c (freeze ρ fz) g) fun d g => bnd (ev call c2 (freeze ρ fz) g) fun d2 g => match d2 with
    | .lst xs => some (.nx (((freeze ρ fz).set i (.val d)).set j (.own xs)), g)
    | _ => none
  | .seti fz i ix c, ρ, g => bnd (ev call c (freeze ρ fz) g) fun d g => bnd (ev call ix (keepF ρ fz d) g) fun k g => match (keepF ρ fz d)[i]?, k with
    | some (.own xs), .int k => match L2.ixN xs.length k with
      | some j => some (.nx ((keepF ρ fz d).set i (.own (xs.set j d))), g)
      | none => none
    | _, _ => none
  | .seti2 fz i ix j jx c, ρ, g => bnd (ev call c (freeze ρ fz) g) fun d g => match d with
    | .tup [d1, d2] => bnd (ev call ix (keepF ρ fz d) g) fun k1 g => match put1 (keepF ρ fz d) i k1 d1 with
      | some ρ1 => bnd (ev call jx ρ1 g) fun k2 g => match put1 ρ1 j k2 d2 with
        | some ρ2 => some (.nx ρ2, g)
        | none => none
      | none => none
    | _ => none
  | .augx i ix op c, ρ, g => bnd (ev call ix ρ g) fun k g => match ρ[i]?, k with
    | some (.own xs), .int k => match L2.ixN xs.length k with
      | some j => match xs[j]? with
        | some (.int a) => bnd (ev call c ρ g) fun d g => match d with
          | .int b => match binD op (.int a) (.int b) with
            | some z => some (.nx (ρ.set i (.own (xs.set j z))), g)
            | none => none
          | _ => none
        | _ => none
      | none => none
    | _, _ => none
  | .aug i op c, ρ, g => match ρ[i]? with
    | some (.val (.int a)) => bnd (ev call c ρ g) fun d g => match d with
      | .int b => match binD op (.int a) (.int b) with
        | some z => some (.nx (ρ.set i (.val z)), g)
        | none => none
      | _ => none
    | _ => none
  | .app fz i c, ρ, g => bnd (ev call c (freeze ρ fz) g) fun d g => match (keepF ρ fz d)[i]? with
    | some (.own xs) => if xs.length < sizeLine then some (.nx ((keepF ρ fz d).set i (.own (xs ++ [d]))), g) else none
    | _ => none
  | .ins fz i ix c, ρ, g => bnd (ev call ix (freeze ρ fz) g) fun k g => bnd (ev call c (freeze ρ fz) g) fun d g => match (keepF ρ fz d)[i]?, k with
    | some (.own xs), .int k => if xs.length < sizeLine ∧ 0 ≤ k ∧ k < 2 ^ 63 then some (.nx ((keepF ρ fz d).set i (.own (xs.take k.toNat ++ [d] ++ xs.drop k.toNat))), g) else none
    | _, _ => none
  | .pop _ _ _, _, _ => none
  | .expr c, ρ, g => bnd (ev call c ρ g) fun _ g => some (.nx ρ, g)
  | .ifs t a b, ρ, g => bnd (ev call t ρ g) fun x g => match truth x with
    | some true => exs call a ρ g
    | some false => exs call b ρ g
    | none => none
  | .ifz fz t a b, ρ, g => bnd (ev call t (freeze ρ fz) g) fun x g => match truth x with
    | some true => exs call a (freeze ρ fz) g
    | some false => exs call b (freeze ρ fz) g
    | none => none
  | .whl t b, ρ, g => whlL (fun ρ g => ev call t ρ g) (fun ρ g => exs call b ρ g) FUEL ρ g
  | .for fz tg it b, ρ, g => bnd (ev call it (freeze ρ fz) g) fun s g => match items s with
    | some xs => forL (fun x ρ g => match asg tg x ρ with
        | some ρ' => exs call b ρ' g
        | none => none) xs (freeze ρ fz) g
    | none => none
  | .ret fz c, ρ, g => bnd (ev call c (freeze ρ fz) g) fun d g => some (.rt d, g)
  | .retN, _, g => some (.rt .non, g)
  | .brk, ρ, g => some (.bk ρ, g)
  | .cnt, ρ, g => some (.ct ρ, g)
  | .pass, ρ, g => some (.nx ρ, g)
def exs (call : Calls) : List S → Env → GS → Option (R × GS)
  | [], ρ, g => some (.nx ρ, g)
  | s :: ss, ρ, g => bnd (ex call s ρ g) fun r g => match r with
    | .nx ρ => exs call ss ρ g
    | r => some (r, g)
end

/-- a def: its number of parameters, of names, its body; or a def by what it does -/
inductive Df where
  | body (np n : Nat) (b : List S)
  | prim (f : List D → GS → Option (D × GS))
  | prim2 (f : List D → GS → Option (D × GS))
def startE (n : Nat) (args : List D) : Env := args.map .val ++ List.replicate (n - args.length) .no
def fin : R → Option D
  | .nx _ => some .non
  | .rt d => some d
  | _ => none
def runD (call : Calls) (np n : Nat) (b : List S) (args : List D) (g : GS) : Option (D × GS) :=
  if args.length = np then bnd (exs call b (startE n args) g) fun r g => (fin r).map (·, g) else none
def callN (tbl : List Df) : Nat → Calls
  | 0 => fun _ _ _ => none
  | n + 1 => fun f args g => match tbl[f]? with
    | some (.body np k b) => runD (callN tbl n) np k b args g
    | some (.prim p) => p args g
    | some (.prim2 p) => match n with
      | 0 => none
      | _ + 1 => p args g
    | none => none
end Tv

/-! Tv1: data in the abstract heap; the judgements; the first expressions. -/
namespace Tv
open PySem L2
abbrev Frag := PySem.W.Frag

/-- F: what never changes any more; st: the drawing state's objects -/
structure W where
  F : Hp
  st : List Addr

mutual
def Rep (K : Frag) (w : W) : D → V → Prop
  | .non, v => v = .non
  | .bl b, v => v = .bl b
  | .int i, v => v = .int i
  | .str x, v => v = .str x
  | .st, v => ∃ a, w.st.head? = some a ∧ v = .ref a
  | .tup xs, v => ∃ a vs, v = .ref a ∧ SqT K w.F a vs ∧ Reps K w xs vs
  | .scr ns, v => ∃ a, v = .ref a ∧ SqL K w.F a (ns.map V.int)
  | .lst xs, v => ∃ a vs, v = .ref a ∧ w.F a = some (.lst vs) ∧ Reps K w xs vs
  | .dic _, _ => False
  | .set _, _ => False
def Reps (K : Frag) (w : W) : List D → List V → Prop
  | [], [] => True
  | d :: ds, v :: vs => Rep K w d v ∧ Reps K w ds vs
  | _, _ => False
end

def StR (w : W) (H : Hp) : GS → Prop
  | .none => w.st = []
  | .one cells seed => ∃ a c, w.st = [a, c] ∧ a ≠ c ∧ H a = some (.lst [.ref c, .int seed]) ∧ H c = some (.lst (cells.map V.int)) ∧ cells.length ≤ 64
  | .two k v => ∃ a, w.st = [a] ∧ H a = some (.lst [.int k, .int v])
structure Ok (w : W) (H : Hp) (g : GS) : Prop where
  same : Same w.F H
  st : StR w H g
  out : ∀ a ∈ w.st, w.F a = none
structure Ext (w : W) (H : Hp) (w' : W) (H' : Hp) : Prop where
  F : Same w.F w'.F
  st : w.st = [] ∨ w'.st = w.st
  keep : ∀ a o, H a = some o → a ∉ w.st → H' a = some o
  new : ∀ a o, w'.F a = some o → w.F a = some o ∨ H a = none
  snew : ∀ a ∈ w'.st, a ∈ w.st ∨ H a = none
  there : ∀ a, H' a = none → H a = none

theorem Ext.refl (w : W) (H : Hp) : Ext w H w H := ⟨Same.refl _, .inr rfl, fun _ _ h _ => h, fun _ _ h => .inl h, fun _ h => .inl h, fun _ h => h⟩
theorem Ext.trans {w w1 w2 : W} {H H1 H2 : Hp} (a : Ext w H w1 H1) (b : Ext w1 H1 w2 H2) : Ext w H w2 H2 where
  F := a.F.trans b.F
  st := by
    rcases a.st with h | h
    · exact .inl h
    · rcases b.st with k | k
      · exact .inl (h ▸ k)
      · exact .inr (k.trans h)
  keep := fun c o h hn => by
    refine b.keep c o (a.keep c o h hn) fun hm => ?_
    rcases a.snew c hm with k | k
    · exact hn k
    · rw [k] at h; cases h
  new := fun c o h => by
    rcases b.new c o h with k | k
    · exact a.new c o k
    · exact .inr (a.there c k)
  snew := fun c h => by
    rcases b.snew c h with k | k
    · exact a.snew c k
    · exact .inr (a.there c k)
  there := fun c h => a.there c (b.there c h)

theorem SqT.same {K : Frag} {H H' : Hp} {a : Addr} {xs : List V} (e : Same H H') (h : SqT K H a xs) : SqT K H' a xs := by
  rcases h with (h | ⟨o, h⟩) | h
  · exact .inl (.inl (e _ _ h))
  · exact .inl (.inr ⟨o, e _ _ h⟩)
  · exact .inr h

/-- w grows to w' -/
structure Le (w w' : W) : Prop where
  F : Same w.F w'.F
  st : w.st = [] ∨ w'.st = w.st
theorem Ext.le {w w' : W} {H H' : Hp} (e : Ext w H w' H') : Le w w' := ⟨e.F, e.st⟩
theorem Le.refl (w : W) : Le w w := ⟨Same.refl _, .inr rfl⟩
mutual
theorem Rep.mono {K : Frag} {w w' : W} (e : Le w w') : ∀ {d : D} {v : V}, Rep K w d v → Rep K w' d v
  | .non, _, h => h
  | .bl _, _, h => h
  | .int _, _, h => h
  | .str _, _, h => h
  | .st, _, h => by
    obtain ⟨a, h1, h2⟩ := h
    refine ⟨a, ?_, h2⟩
    rcases e.st with k | k
    · rw [k] at h1; cases h1
    · rw [k]; exact h1
  | .tup xs, _, h => by
    obtain ⟨a, vs, h1, h2, h3⟩ := h
    exact ⟨a, vs, h1, SqT.same e.F h2, Reps.mono e h3⟩
  | .lst xs, _, h => by
    obtain ⟨a, vs, h1, h2, h3⟩ := h
    exact ⟨a, vs, h1, e.F _ _ h2, Reps.mono e h3⟩
  | .scr ns, _, h => by
    obtain ⟨a, h1, h2⟩ := h
    exact ⟨a, h1, e.F.seq h2⟩
  | .dic _, _, h => h.elim
  | .set _, _, h => h.elim
theorem Reps.mono {K : Frag} {w w' : W} (e : Le w w') : ∀ {ds : List D} {vs : List V}, Reps K w ds vs → Reps K w' ds vs
  | [], [], _ => trivial
  | _ :: _, _ :: _, h => ⟨Rep.mono e h.1, Reps.mono e h.2⟩
  | [], _ :: _, h => h
  | _ :: _, [], h => h
end
theorem Reps.len {K : Frag} {w : W} : ∀ {ds : List D} {vs : List V}, Reps K w ds vs → ds.length = vs.length
  | [], [], _ => rfl
  | _ :: _, _ :: _, h => by simp [Reps.len h.2]
  | [], _ :: _, h => h.elim
  | _ :: _, [], h => h.elim
theorem Reps.get {K : Frag} {w : W} : ∀ {ds : List D} {vs : List V} {i : Nat} {d : D}, Reps K w ds vs → ds[i]? = some d → ∃ v, vs[i]? = some v ∧ Rep K w d v
  | [], [], _, _, _, h => by simp at h
  | d :: _, v :: _, 0, _, r, h => by
    simp at h; subst h; exact ⟨v, rfl, r.1⟩
  | _ :: _, _ :: _, i + 1, _, r, h => by
    obtain ⟨v, h1, h2⟩ := Reps.get (i := i) r.2 (by simpa using h)
    exact ⟨v, by simpa using h1, h2⟩
  | [], _ :: _, _, _, h, _ => h.elim
  | _ :: _, [], _, _, h, _ => h.elim
theorem Reps.set {K : Frag} {w : W} {d : D} {v : V} (r : Rep K w d v) : ∀ {ds : List D} {vs : List V} (i : Nat), Reps K w ds vs → Reps K w (ds.set i d) (vs.set i v)
  | [], [], _, _ => trivial
  | _ :: _, _ :: _, 0, h => ⟨r, h.2⟩
  | _ :: _, _ :: _, i + 1, h => ⟨h.1, Reps.set r i h.2⟩
  | [], _ :: _, _, h => h.elim
  | _ :: _, [], _, h => h.elim
theorem Reps.app {K : Frag} {w : W} : ∀ {ds es : List D} {vs us : List V}, Reps K w ds vs → Reps K w es us → Reps K w (ds ++ es) (vs ++ us)
  | [], _, [], _, _, h => h
  | _ :: _, _, _ :: _, _, h, k => ⟨h.1, Reps.app h.2 k⟩
  | [], _, _ :: _, _, h, _ => h.elim
  | _ :: _, _, [], _, h, _ => h.elim
theorem Reps.drop {K : Frag} {w : W} : ∀ {ds : List D} {vs : List V} (n : Nat), Reps K w ds vs → Reps K w (ds.drop n) (vs.drop n)
  | _, _, 0, h => h
  | [], [], _ + 1, h => h
  | _ :: _, _ :: _, n + 1, h => Reps.drop n h.2
  | [], _ :: _, _ + 1, h => h.elim
  | _ :: _, [], _ + 1, h => h.elim
theorem Reps.take {K : Frag} {w : W} : ∀ {ds : List D} {vs : List V} (n : Nat), Reps K w ds vs → Reps K w (ds.take n) (vs.take n)
  | [], [], 0, _ => trivial
  | _ :: _, _ :: _, 0, _ => trivial
  | [], [], _ + 1, h => h
  | _ :: _, _ :: _, n + 1, h => ⟨h.1, Reps.take n h.2⟩
  | [], _ :: _, _, h => h.elim
  | _ :: _, [], _, h => h.elim
theorem Reps.rep {K : Frag} {w : W} {ds : List D} {vs : List V} (h : Reps K w ds vs) : ∀ k : Nat, Reps K w (List.replicate k ds).flatten (List.replicate k vs).flatten
  | 0 => trivial
  | k + 1 => by
    rw [List.replicate_succ, List.replicate_succ, List.flatten_cons, List.flatten_cons]
    exact h.app (Reps.rep h k)
theorem Reps.reverse {K : Frag} {w : W} : ∀ {ds : List D} {vs : List V}, Reps K w ds vs → Reps K w ds.reverse vs.reverse
  | [], [], h => h
  | _ :: _, _ :: _, h => by
    rw [List.reverse_cons, List.reverse_cons]
    exact (Reps.reverse h.2).app ⟨h.1, trivial⟩
  | [], _ :: _, h => h.elim
  | _ :: _, [], h => h.elim
theorem Reps.ints {K : Frag} {w : W} : ∀ {ds : List D} {vs : List V} {ns : List Int}, Reps K w ds vs → intsOf ds = some ns → vs = ns.map V.int
  | [], [], ns, _, h => by
    cases h; rfl
  | d :: ds, v :: vs, ns, r, h => by
    cases d with
    | int i =>
      simp only [intsOf, Option.map_eq_some_iff] at h
      obtain ⟨ms, h1, rfl⟩ := h
      have e : v = .int i := r.1
      rw [e, Reps.ints r.2 h1]; rfl
    | _ => cases h
  | [], _ :: _, _, h, _ => h.elim
  | _ :: _, [], _, h, _ => h.elim
theorem Reps.bools {K : Frag} {w : W} : ∀ {ds : List D} {vs : List V} {ns : List Bool}, Reps K w ds vs → Tv.bools ds = some ns → vs = ns.map V.bl
  | [], [], ns, _, h => by
    cases h; rfl
  | d :: ds, v :: vs, ns, r, h => by
    cases d with
    | bl i =>
      simp only [Tv.bools, Option.map_eq_some_iff] at h
      obtain ⟨ms, h1, rfl⟩ := h
      have e : v = .bl i := r.1
      rw [e, Reps.bools r.2 h1]; rfl
    | _ => cases h
  | [], _ :: _, _, h, _ => h.elim
  | _ :: _, [], _, h, _ => h.elim
theorem Rep.scal {K : Frag} {w w' : W} {d : D} {v : V} (h : Rep K w d v) (s : scal d = true) : Rep K w' d v := by
  cases d <;> first | exact h | (cases s)

/-! ### growing -/
theorem Ok.addr_st {w : W} {H : Hp} {g : GS} (h : Ok w H g) {a : Addr} (m : a ∈ w.st) : H a ≠ none := by
  have s := h.st
  cases g with
  | none => rw [show w.st = [] from s] at m; cases m
  | one cells seed =>
    obtain ⟨b, c, e, _, h1, h2, _⟩ := s
    rw [e] at m
    rcases List.mem_cons.mp m with rfl | m
    · rw [h1]; exact fun z => nomatch z
    · rcases List.mem_cons.mp m with rfl | m
      · rw [h2]; exact fun z => nomatch z
      · cases m
  | two k v =>
    obtain ⟨b, e, h1⟩ := s
    rw [e] at m
    rcases List.mem_cons.mp m with rfl | m
    · rw [h1]; exact fun z => nomatch z
    · cases m
theorem StR.keep {w w' : W} {H H' : Hp} {g : GS} (h : StR w H g) (e : w'.st = w.st) (k : ∀ a ∈ w.st, H' a = H a) : StR w' H' g := by
  cases g with
  | none => exact e.trans h
  | one cells seed =>
    obtain ⟨a, c, e1, ne, h1, h2, h3⟩ := h
    exact ⟨a, c, e.trans e1, ne, (k a (by rw [e1]; simp)).trans h1, (k c (by rw [e1]; simp)).trans h2, h3⟩
  | two k' v =>
    obtain ⟨a, e1, h1⟩ := h
    exact ⟨a, e.trans e1, (k a (by rw [e1]; simp)).trans h1⟩
/-- a new object, not given away -/
theorem Ok.put {w : W} {H : Hp} {g : GS} {p : Addr} {o : HO} (h : Ok w H g) (n : H p = none) : Ok w (upd H p o) g := by
  have ne : ∀ a o', H a = some o' → a ≠ p := fun a o' e => ne_of_none e n
  refine ⟨fun a u e => ?_, h.st.keep rfl fun a m => upd_ne fun z => h.addr_st m (by rw [z]; exact n), h.out⟩
  rw [upd_ne (ne a u (h.same a u e))]
  exact h.same a u e
theorem Ext.put {w : W} {H : Hp} {p : Addr} {o : HO} (n : H p = none) : Ext w H w (upd H p o) := by
  refine ⟨Same.refl _, .inr rfl, fun a u e _ => ?_, fun _ _ h => .inl h, fun _ h => .inl h, fun a h => ?_⟩
  · rw [upd_ne (ne_of_none e n)]; exact e
  · by_cases e : a = p
    · subst e; exact n
    · rw [upd_ne e] at h; exact h
/-- .. given away at once -/
def W.add (w : W) (p : Addr) (o : HO) : W := ⟨upd w.F p o, w.st⟩
theorem Le.add {w : W} {p : Addr} {o : HO} (n : w.F p = none) : Le w (w.add p o) := ⟨fun a u e => by
  show upd w.F p o a = some u
  rw [upd_ne (ne_of_none e n)]; exact e, .inr rfl⟩
theorem Ok.free {w : W} {H : Hp} {g : GS} {p : Addr} (h : Ok w H g) (n : H p = none) : w.F p = none := h.same.free n
theorem Ok.nst {w : W} {H : Hp} {g : GS} {p : Addr} (h : Ok w H g) (n : H p = none) : p ∉ w.st := fun m => h.addr_st m n
theorem Ok.add {w : W} {H : Hp} {g : GS} {p : Addr} {o : HO} (h : Ok w H g) (n : H p = none) : Ok (w.add p o) (upd H p o) g := by
  have q := h.put (o := o) n
  refine ⟨fun a u e => ?_, q.st, fun a m => ?_⟩
  · by_cases ea : a = p
    · subst ea
      have e' : upd w.F a o a = some u := e
      rw [upd_same] at e' ⊢; exact e'
    · have e' : upd w.F p o a = some u := e
      rw [upd_ne ea] at e'
      rw [upd_ne ea]; exact h.same a u e'
  · show upd w.F p o a = none
    rw [upd_ne fun z => h.nst n (by rw [← z]; exact m)]
    exact h.out a m
theorem Ext.add {w : W} {H : Hp} {g : GS} {p : Addr} {o : HO} (h : Ok w H g) (n : H p = none) : Ext w H (w.add p o) (upd H p o) := by
  have q := Ext.put (w := w) (o := o) n
  refine ⟨(Le.add (h.free n)).F, .inr rfl, q.keep, fun a u e => ?_, q.snew, q.there⟩
  by_cases ea : a = p
  · subst ea; exact .inr n
  · have e' : upd w.F p o a = some u := e
    rw [upd_ne ea] at e'
    exact .inl e'

/-! ### names -/
def SlotR (K : Frag) (w : W) (H : Hp) : SV → Option V → Prop
  | .no, _ => True
  | .val d, ov => ∃ v, ov = some v ∧ Rep K w d v
  | .own xs, ov => ∃ a vs, ov = some (.ref a) ∧ H a = some (.lst vs) ∧ w.F a = none ∧ a ∉ w.st ∧ Reps K w xs vs
structure Rel (K : Frag) (w : W) (H : Hp) (ρ : Env) (σ : St) : Prop where
  len : ρ.length = σ.length
  at_ : ∀ (i : Nat) (sv : SV), ρ[i]? = some sv → ∃ ov : Option V, σ[i]? = some ov ∧ SlotR K w H sv ov
  two : ∀ (i j : Nat) (a : Addr) (xs ys : List D), i ≠ j → ρ[i]? = some (.own xs) → ρ[j]? = some (.own ys) → σ[i]? = some (some (.ref a)) → σ[j]? = some (some (.ref a)) → False
theorem SlotR.ext {K : Frag} {w w' : W} {H H' : Hp} (e : Ext w H w' H') : ∀ {sv : SV} {ov : Option V}, SlotR K w H sv ov → SlotR K w' H' sv ov
  | .no, _, h => h
  | .val d, _, h => by
    obtain ⟨v, h1, h2⟩ := h
    exact ⟨v, h1, h2.mono e.le⟩
  | .own xs, _, h => by
    obtain ⟨a, vs, h1, h2, h3, h4, h5⟩ := h
    refine ⟨a, vs, h1, e.keep a _ h2 h4, ?_, fun m => ?_, h5.mono e.le⟩
    · cases q : w'.F a with
      | none => rfl
      | some o =>
        rcases e.new a o q with k | k
        · rw [h3] at k; cases k
        · rw [h2] at k; cases k
    · rcases e.snew a m with k | k
      · exact h4 k
      · rw [h2] at k; cases k
theorem Rel.ext {K : Frag} {w w' : W} {H H' : Hp} {ρ : Env} {σ : St} (r : Rel K w H ρ σ) (e : Ext w H w' H') : Rel K w' H' ρ σ :=
  ⟨r.len, fun i sv h => let ⟨ov, h1, h2⟩ := r.at_ i sv h; ⟨ov, h1, h2.ext e⟩, r.two⟩
theorem Rel.set {K : Frag} {w : W} {H : Hp} {ρ : Env} {σ : St} {i : Nat} {d : D} {v : V} (r : Rel K w H ρ σ) (h : Rep K w d v) : Rel K w H (ρ.set i (.val d)) (σ.set i (some v)) := by
  refine ⟨by simp [r.len], fun j sv hj => ?_, fun j k a xs ys ne hj hk h1 h2 => ?_⟩
  · by_cases e : i = j
    · subst e
      by_cases hi : i < ρ.length
      · rw [List.getElem?_set_self hi] at hj
        cases hj
        exact ⟨some v, by rw [List.getElem?_set_self (r.len ▸ hi)], v, rfl, h⟩
      · rw [List.getElem?_eq_none (by simpa using hi)] at hj; cases hj
    · rw [List.getElem?_set_ne e] at hj ⊢
      exact r.at_ j sv hj
  · have own : ∀ {m : Nat} {zs : List D}, (ρ.set i (.val d))[m]? = some (.own zs) → i ≠ m ∧ ρ[m]? = some (.own zs) := fun {m zs} hm => by
      by_cases e : i = m
      · subst e
        by_cases hi : i < ρ.length
        · rw [List.getElem?_set_self hi] at hm; cases hm
        · rw [List.getElem?_eq_none (by simpa using hi)] at hm; cases hm
      · rw [List.getElem?_set_ne e] at hm; exact ⟨e, hm⟩
    obtain ⟨n1, e1⟩ := own hj
    obtain ⟨n2, e2⟩ := own hk
    rw [List.getElem?_set_ne n1] at h1
    rw [List.getElem?_set_ne n2] at h2
    exact r.two j k a xs ys ne e1 e2 h1 h2
/-- a slot holds a list of its own from now on -/
theorem Rel.setOwn {K : Frag} {w : W} {H : Hp} {ρ : Env} {σ : St} {i : Nat} {xs : List D} {vs : List V} {p : Addr} (r : Rel K w H ρ σ) (h : H p = some (.lst vs)) (hF : w.F p = none) (hs : p ∉ w.st) (q : Reps K w xs vs)
    (nw : ∀ (j : Nat) (ys : List D) (a : Addr), j ≠ i → ρ[j]? = some (.own ys) → σ[j]? = some (some (.ref a)) → a ≠ p) : Rel K w H (ρ.set i (.own xs)) (σ.set i (some (.ref p))) := by
  have own : ∀ {m : Nat} {zs : List D}, (ρ.set i (.own xs))[m]? = some (.own zs) → i = m ∨ (i ≠ m ∧ ρ[m]? = some (.own zs)) := fun {m zs} hm => by
    by_cases e : i = m
    · exact .inl e
    · rw [List.getElem?_set_ne e] at hm; exact .inr ⟨e, hm⟩
  have sml : ∀ {m : Nat} {zs : List D}, (ρ.set i (.own xs))[m]? = some (.own zs) → m < σ.length := fun {m zs} hm => by
    have h1 : m < (ρ.set i (.own xs)).length := (List.getElem?_eq_some_iff.mp hm).1
    have h2 := r.len
    rw [List.length_set] at h1
    omega
  refine ⟨by simp [r.len], fun j sv hj => ?_, fun j k a xs' ys ne hj hk h1 h2 => ?_⟩
  · by_cases e : i = j
    · subst e
      by_cases hi : i < ρ.length
      · rw [List.getElem?_set_self hi] at hj
        cases hj
        exact ⟨some (.ref p), by rw [List.getElem?_set_self (r.len ▸ hi)], p, vs, rfl, h, hF, hs, q⟩
      · rw [List.getElem?_eq_none (by simpa using hi)] at hj; cases hj
    · rw [List.getElem?_set_ne e] at hj ⊢
      exact r.at_ j sv hj
  · rcases own hj with e1 | ⟨n1, e1⟩
    · subst e1
      rcases own hk with e2 | ⟨n2, e2⟩
      · exact ne e2
      · rw [List.getElem?_set_self (sml hj)] at h1
        rw [List.getElem?_set_ne n2] at h2
        have ea : a = p := by injection h1 with h1; injection h1 with h1; injection h1 with h1; exact h1.symm
        exact nw k ys a n2.symm e2 h2 ea
    · rcases own hk with e2 | ⟨n2, e2⟩
      · subst e2
        rw [List.getElem?_set_self (sml hk)] at h2
        rw [List.getElem?_set_ne n1] at h1
        have ea : a = p := by injection h2 with h2; injection h2 with h2; injection h2 with h2; exact h2.symm
        exact nw j xs' a n1.symm e1 h1 ea
      · rw [List.getElem?_set_ne n1] at h1
        rw [List.getElem?_set_ne n2] at h2
        exact r.two j k a xs' ys ne e1 e2 h1 h2

/-! ### judgements -/
/-- what is read at once: its items are data -/
def RepQ (K : Frag) (w : W) (H : Hp) : D → V → Prop
  | .lst xs, v => ∃ a vs, v = .ref a ∧ H a = some (.lst vs) ∧ a ∉ w.st ∧ Reps K w xs vs
  | d, v => Rep K w d v
theorem Rep.q {K : Frag} {w : W} {H : Hp} {g : GS} {d : D} {v : V} (o : Ok w H g) (h : Rep K w d v) : RepQ K w H d v := by
  cases d with
  | lst xs =>
    obtain ⟨a, vs, h1, h2, h3⟩ := h
    refine ⟨a, vs, h1, o.same _ _ h2, fun m => ?_, h3⟩
    have z := o.out a m
    rw [h2] at z; cases z
  | _ => exact h
theorem RepQ.ext {K : Frag} {w w' : W} {H H' : Hp} {d : D} {v : V} (h : RepQ K w H d v) (e : Ext w H w' H') : RepQ K w' H' d v := by
  cases d with
  | lst xs =>
    obtain ⟨a, vs, h1, h2, h3, h4⟩ := h
    refine ⟨a, vs, h1, e.keep a _ h2 h3, fun m => ?_, h4.mono e.le⟩
    rcases e.snew a m with k | k
    · exact h3 k
    · rw [h2] at k; cases k
  | _ => exact Rep.mono e.le h

def tV (K : Frag) (call : Calls) (c : C) : TE := fun σ H Q => ∃ w ρ g d g', Ok w H g ∧ Rel K w H ρ σ ∧ ev call c ρ g = some (d, g') ∧ ∀ w' H' v, Ok w' H' g' → Ext w H w' H' → Rep K w' d v → Q v H'
def tQ (K : Frag) (call : Calls) (c : C) : TE := fun σ H Q => ∃ w ρ g d g', Ok w H g ∧ Rel K w H ρ σ ∧ ev call c ρ g = some (d, g') ∧ ∀ w' H' v, Ok w' H' g' → Ext w H w' H' → RepQ K w' H' d v → Q v H'
/-- a new list of one's own -/
def tF (K : Frag) (call : Calls) (c : C) : TE := fun σ H Q => ∃ w ρ g xs g', Ok w H g ∧ Rel K w H ρ σ ∧ ev call c ρ g = some (.lst xs, g') ∧
  ∀ w' H' p vs, Ok w' H' g' → Ext w H w' H' → H' p = none → Reps K w' xs vs → Q (.ref p) (upd H' p (.lst vs))
def tT (K : Frag) (call : Calls) (c : C) : TT := fun σ H Q => ∃ w ρ g d b g', Ok w H g ∧ Rel K w H ρ σ ∧ ev call c ρ g = some (d, g') ∧ truth d = some b ∧ ∀ w' H', Ok w' H' g' → Ext w H w' H' → Q b H'
def tA (K : Frag) (call : Calls) (cs : List C) : TA := fun σ H Q => ∃ w ρ g ds g', Ok w H g ∧ Rel K w H ρ σ ∧ evs call cs ρ g = some (ds, g') ∧ ∀ w' H' vs, Ok w' H' g' → Ext w H w' H' → Reps K w' ds vs → Q vs H'
/-- one argument that is read at once -/
def tA1 (K : Frag) (call : Calls) (c : C) : TA := fun σ H Q => ∃ w ρ g d g', Ok w H g ∧ Rel K w H ρ σ ∧ ev call c ρ g = some (d, g') ∧ ∀ w' H' v, Ok w' H' g' → Ext w H w' H' → RepQ K w' H' d v → Q [v] H'

section
variable {X : Cx} {call : Calls}
theorem _root_.L2.PE.imp {e : Expr} {t t' : TE} (h : PE X e t) (i : ∀ σ H Q, t' σ H Q → t σ H Q) : PE X e t' := ⟨fun pins s σ H Q I q => h.run pins s σ H Q I (i σ H Q q)⟩
theorem _root_.L2.PT.imp {e : Expr} {t t' : TT} (h : PT X e t) (i : ∀ σ H Q, t' σ H Q → t σ H Q) : PT X e t' := ⟨fun pins s σ H Q I q => h.run pins s σ H Q I (i σ H Q q)⟩
theorem _root_.L2.PA.imp {es : List Expr} {t t' : TA} (h : PA X es t) (i : ∀ σ H Q, t' σ H Q → t σ H Q) : PA X es t' := ⟨fun pos pins s σ H Q I q => h.run pos pins s σ H Q I (i σ H Q q)⟩
theorem _root_.L2.PS.imp {s : Stmt} {t t' : TS} (h : PS X s t) (i : ∀ D σ H, t' D σ H → t D σ H) : PS X s t' := ⟨fun pins s σ H D I q => h.run pins s σ H D I (i D σ H q)⟩
theorem _root_.L2.PSs.imp {s : List Stmt} {t t' : TS} (h : PSs X s t) (i : ∀ D σ H, t' D σ H → t D σ H) : PSs X s t' := ⟨fun pins s σ H D I q => h.run pins s σ H D I (i D σ H q)⟩

/-! ### the first expressions -/
theorem v_lit {d : D} {v : V} {e : Expr} (h : PE X e (tC v)) (r : ∀ w, Rep X.K w d v) : PE X e (tV X.K call (.lit d)) :=
  h.imp fun σ H Q ⟨w, ρ, g, d', g', o, _, he, q⟩ => by
    simp only [ev] at he
    cases he
    exact q w H v o (Ext.refl _ _) (r w)
theorem v_var {i : Nat} {e : Expr} (h : PE X e (tVar i)) : PE X e (tV X.K call (.var i)) :=
  h.imp fun σ H Q ⟨w, ρ, g, d', g', o, r, he, q⟩ => by
    simp only [ev] at he
    split at he
    · rename_i d hd
      cases he
      obtain ⟨ov, h1, v, rfl, h2⟩ := r.at_ i _ hd
      exact ⟨v, h1, q w H v o (Ext.refl _ _) h2⟩
    · cases he
theorem q_of {c : C} {e : Expr} (h : PE X e (tV X.K call c)) : PE X e (tQ X.K call c) :=
  h.imp fun σ H Q ⟨w, ρ, g, d, g', o, r, he, q⟩ => ⟨w, ρ, g, d, g', o, r, he, fun w' H' v o' x y => q w' H' v o' x (y.q o')⟩
theorem q_bvar {i : Nat} {e : Expr} (h : PE X e (tVar i)) : PE X e (tQ X.K call (.bvar i)) :=
  h.imp fun σ H Q ⟨w, ρ, g, d', g', o, r, he, q⟩ => by
    simp only [ev] at he
    split at he
    · rename_i d hd
      cases he
      obtain ⟨ov, h1, v, rfl, h2⟩ := r.at_ i _ hd
      exact ⟨v, h1, q w H v o (Ext.refl _ _) (h2.q o)⟩
    · rename_i xs hd
      cases he
      obtain ⟨ov, h1, a, vs, rfl, h2, h3, h4, h5⟩ := r.at_ i _ hd
      exact ⟨.ref a, h1, q w H (.ref a) o (Ext.refl _ _) ⟨a, vs, rfl, h2, h4, h5⟩⟩
    · cases he
/-- a new list, given away -/
theorem v_of_f {c : C} {e : Expr} (h : PE X e (tF X.K call c)) (hl : ∀ ρ g d g', ev call c ρ g = some (d, g') → ∃ xs, d = .lst xs) : PE X e (tV X.K call c) :=
  h.imp fun σ H Q ⟨w, ρ, g, d, g', o, r, he, q⟩ => by
    obtain ⟨xs, rfl⟩ := hl _ _ _ _ he
    exact ⟨w, ρ, g, xs, g', o, r, he, fun w' H' p vs o' x n y => q _ _ _ (o'.add n) (x.trans (Ext.add o' n)) ⟨p, vs, rfl, upd_same, y.mono (Le.add (o'.free n))⟩⟩
/-- a new list, read at once -/
theorem q_of_f {c : C} {e : Expr} (h : PE X e (tF X.K call c)) (hl : ∀ ρ g d g', ev call c ρ g = some (d, g') → ∃ xs, d = .lst xs) : PE X e (tQ X.K call c) := q_of (v_of_f h hl)

/-! ### two operands -/
/-- the reading of two expressions in a row -/
theorem two_run {K : Frag} {a b : C} {w : W} {ρ : Env} {g : GS} {σ : St} {H : Hp} {Q : V → V → Hp → Prop} {α : Type} {z : α} {g' : GS} {f : D → D → Option α} (o : Ok w H g) (r : Rel K w H ρ σ)
    (he : (bnd (ev call a ρ g) fun x g => bnd (ev call b ρ g) fun y g => (f x y).map (·, g)) = some (z, g'))
    (q : ∀ x y w' H' v u, f x y = some z → Ok w' H' g' → Ext w H w' H' → RepQ K w' H' x v → RepQ K w' H' y u → Q v u H') :
    tQ K call a σ H fun v H1 => tQ K call b σ H1 fun u H2 => Q v u H2 := by
  obtain ⟨x, g1, e1, he⟩ := bnd_eq he
  obtain ⟨y, g2, e2, he⟩ := bnd_eq he
  rw [Option.map_eq_some_iff] at he
  obtain ⟨z', e3, e4⟩ := he
  cases e4
  exact ⟨w, ρ, g, x, g1, o, r, e1, fun w1 H1 v o1 x1 y1 => ⟨w1, ρ, g1, y, _, o1, r.ext x1, e2, fun w2 H2 u o2 x2 y2 => q x y w2 H2 v u e3 o2 (x1.trans x2) (y1.ext x2) y2⟩⟩

/-- a binary operator, from its rule -/
theorem v_bin {op : Operator} {op' : Op} {a b : Expr} {ca cb : C} {pos : Pos} {rr : R2} (ho : OpR X (binaryOp op) rr) (ha : PE X a (tQ X.K call ca)) (hb : PE X b (tQ X.K call cb))
    (hr : ∀ x y z w H g v u (Q : VK), binD op' x y = some z → Ok w H g → RepQ X.K w H x v → RepQ X.K w H y u → (∀ w' H' v, Ok w' H' g → Ext w H w' H' → Rep X.K w' z v → Q v H') → rr v u H Q) :
    PE X (.BinOp a op b pos) (tV X.K call (.bin op' ca cb)) :=
  (pe_op ho ha hb).imp fun σ H Q ⟨w, ρ, g, z, g', o, r, he, q⟩ =>
    two_run o r (by simp only [ev] at he; exact he) fun x y w' H' v u e o' x' y1 y2 => hr x y z w' H' g' v u Q e o' y1 y2 fun w2 H2 v2 o2 x2 r2 => q w2 H2 v2 o2 (x'.trans x2) r2
/-- .. that gives a new list -/
theorem f_bin {op : Operator} {op' : Op} {a b : Expr} {ca cb : C} {pos : Pos} {rr : R2} (ho : OpR X (binaryOp op) rr) (ha : PE X a (tQ X.K call ca)) (hb : PE X b (tQ X.K call cb))
    (hr : ∀ x y xs w H g v u (Q : VK), binD op' x y = some (.lst xs) → Ok w H g → RepQ X.K w H x v → RepQ X.K w H y u → (∀ p vs, H p = none → Reps X.K w xs vs → Q (.ref p) (upd H p (.lst vs))) → rr v u H Q) :
    PE X (.BinOp a op b pos) (tF X.K call (.bin op' ca cb)) :=
  (pe_op ho ha hb).imp fun σ H Q ⟨w, ρ, g, z, g', o, r, he, q⟩ =>
    two_run o r (by simp only [ev] at he; exact he) fun x y w' H' v u e o' x' y1 y2 => hr x y z w' H' g' v u Q e o' y1 y2 fun p vs n r2 => q w' H' p vs o' x' n r2
end
end Tv

/-! Tv2: operators, comparisons, built-ins, subscripts, tests. -/
namespace Tv
open PySem L2

/-! ### data as the library's own data -/
mutual
def toPy : D → PyData
  | .non => .none
  | .bl b => .bool b
  | .int i => .int i
  | .str x => .str x
  | .tup xs => .tuple (toPys xs)
  | .lst xs => .list (toPys xs)
  | _ => .none
def toPys : List D → List PyData
  | [] => []
  | x :: xs => toPy x :: toPys xs
end
mutual
theorem eqv_toPy : ∀ {n m : Nat} (a b : D), okD n a = true → okD m b = true → PyData.eqv (toPy a) (toPy b) = eqD a b
  | _, _, .non, b, _, h => by cases b <;> first | (simp [toPy, PyData.eqv, eqD]; done) | (simp [okD] at h; done)
  | _, _, .bl x, b, _, h => by cases b <;> first | (simp [toPy, PyData.eqv, eqD]; done) | (simp [okD] at h; done)
  | _, _, .int x, b, _, h => by cases b <;> first | (simp [toPy, PyData.eqv, eqD]; done) | (simp [okD] at h; done)
  | _, _, .str x, b, _, h => by cases b <;> first | (simp [toPy, PyData.eqv, eqD]; done) | (simp [okD] at h; done)
  | 0, _, .tup xs, _, h, _ => by simp [okD] at h
  | 0, _, .lst xs, _, h, _ => by simp [okD] at h
  | n + 1, 0, .tup xs, b, h1, h => by cases b <;> first | (simp [toPy, PyData.eqv, eqD]; done) | (simp [okD] at h; done)
  | n + 1, 0, .lst xs, b, h1, h => by cases b <;> first | (simp [toPy, PyData.eqv, eqD]; done) | (simp [okD] at h; done)
  | n + 1, m + 1, .tup xs, b, h1, h => by
    cases b with
    | tup ys =>
      simp only [toPy, PyData.eqv, eqD]
      exact eqv_toPys xs ys (by simpa [okD] using h1) (by simpa [okD] using h)
    | _ => first | (simp [toPy, PyData.eqv, eqD]; done) | (simp [okD] at h; done)
  | n + 1, m + 1, .lst xs, b, h1, h => by
    cases b with
    | lst ys =>
      simp only [toPy, PyData.eqv, eqD]
      exact eqv_toPys xs ys (by simpa [okD] using h1) (by simpa [okD] using h)
    | _ => first | (simp [toPy, PyData.eqv, eqD]; done) | (simp [okD] at h; done)
  | _, _, .st, _, h, _ => by simp [okD] at h
  | _, _, .scr _, _, h, _ => by simp [okD] at h
  | _, _, .dic _, _, h, _ => by simp [okD] at h
  | _, _, .set _, _, h, _ => by simp [okD] at h
theorem eqv_toPys : ∀ {n m : Nat} (a b : List D), okDs n a = true → okDs m b = true → PyData.eqvAll (toPys a) (toPys b) = eqDs a b
  | _, _, [], [], _, _ => rfl
  | _, _, [], _ :: _, _, _ => rfl
  | _, _, _ :: _, [], _, _ => rfl
  | _, _, x :: xs, y :: ys, h1, h2 => by
    simp only [okDs, Bool.and_eq_true] at h1 h2
    simp only [toPys, PyData.eqvAll, eqDs]
    rw [eqv_toPy x y h1.1 h2.1, eqv_toPys xs ys h1.2 h2.2]
end
mutual
theorem lay_toPy : ∀ {n : Nat} (a : D), okD n a = true → (toPy a).canLay0 = true ∧ (toPy a).depth ≤ n
  | _, .non, _ => ⟨by simp [toPy, PyData.canLay0], by simp [toPy, PyData.depth]⟩
  | _, .bl _, _ => ⟨by simp [toPy, PyData.canLay0], by simp [toPy, PyData.depth]⟩
  | _, .int _, _ => ⟨by simp [toPy, PyData.canLay0], by simp [toPy, PyData.depth]⟩
  | _, .str x, h => ⟨by
      simp only [okD] at h
      simp only [toPy, PyData.canLay0, PyData.strOk]
      exact h, by simp [toPy, PyData.depth]⟩
  | 0, .tup _, h => by simp [okD] at h
  | 0, .lst _, h => by simp [okD] at h
  | n + 1, .tup xs, h => by
    obtain ⟨h1, h2⟩ := lay_toPys (n := n) xs (by simpa [okD] using h)
    exact ⟨by simp only [toPy, PyData.canLay0]; exact h1, by simp only [toPy, PyData.depth]; omega⟩
  | n + 1, .lst xs, h => by
    obtain ⟨h1, h2⟩ := lay_toPys (n := n) xs (by simpa [okD] using h)
    exact ⟨by simp only [toPy, PyData.canLay0]; exact h1, by simp only [toPy, PyData.depth]; omega⟩
  | _, .st, h => by simp [okD] at h
  | _, .scr _, h => by simp [okD] at h
  | _, .dic _, h => by simp [okD] at h
  | _, .set _, h => by simp [okD] at h
theorem lay_toPys : ∀ {n : Nat} (a : List D), okDs n a = true → PyData.canLayAll0 (toPys a) = true ∧ PyData.depthAll (toPys a) ≤ n
  | _, [], _ => ⟨rfl, Nat.zero_le _⟩
  | n, x :: xs, h => by
    simp only [okDs, Bool.and_eq_true] at h
    obtain ⟨a1, a2⟩ := lay_toPy x h.1
    obtain ⟨b1, b2⟩ := lay_toPys xs h.2
    exact ⟨by simp only [toPys, PyData.canLayAll0, a1, b1, Bool.and_self], by simp only [toPys, PyData.depthAll]; omega⟩
end
theorem shaped_toPy {n : Nat} {a : D} (h : okD n a = true) (hn : n ≤ 64) : SeqAt.shaped (toPy a) = true := by
  obtain ⟨h1, h2⟩ := lay_toPy a h
  unfold SeqAt.shaped
  rw [h1, decide_eq_true (show (toPy a).depth ≤ 64 by omega)]; rfl
mutual
theorem dp_of {K : Frag} {w : W} {H : Hp} (e : Same w.F H) : ∀ {n : Nat} (a : D) (v : V), okD n a = true → Rep K w a v → Dp K H v (toPy a)
  | _, .non, _, _, r => by cases (show _ = _ from r); exact .non
  | _, .bl _, _, _, r => by cases (show _ = _ from r); exact .bl _
  | _, .int _, _, _, r => by cases (show _ = _ from r); exact .int _
  | _, .str _, _, _, r => by cases (show _ = _ from r); exact .str _
  | 0, .tup _, _, h, _ => by simp [okD] at h
  | 0, .lst _, _, h, _ => by simp [okD] at h
  | n + 1, .tup xs, _, h, r => by
    obtain ⟨a, vs, rfl, h2, h3⟩ := r
    exact .tup (SqT.same e h2) (dp_ofs e (n := n) xs vs (by simpa [okD] using h) h3)
  | n + 1, .lst xs, _, h, r => by
    obtain ⟨a, vs, rfl, h2, h3⟩ := r
    exact .lst (.inl (.inl (e _ _ h2))) (dp_ofs e (n := n) xs vs (by simpa [okD] using h) h3)
  | _, .st, _, h, _ => by simp [okD] at h
  | _, .scr _, _, h, _ => by simp [okD] at h
  | _, .dic _, _, h, _ => by simp [okD] at h
  | _, .set _, _, h, _ => by simp [okD] at h
theorem dp_ofs {K : Frag} {w : W} {H : Hp} (e : Same w.F H) : ∀ {n : Nat} (a : List D) (v : List V), okDs n a = true → Reps K w a v → DpAll K H v (toPys a)
  | _, [], [], _, _ => .nil
  | _, x :: xs, v :: vs, h, r => by
    simp only [okDs, Bool.and_eq_true] at h
    exact .cons (dp_of e x v h.1 r.1) (dp_ofs e xs vs h.2 r.2)
  | _, [], _ :: _, _, r => r.elim
  | _, _ :: _, [], _, r => r.elim
end
theorem dp_q {K : Frag} {w : W} {H : Hp} {g : GS} {n : Nat} {a : D} {v : V} (o : Ok w H g) (h : okD n a = true) (r : RepQ K w H a v) : Dp K H v (toPy a) := by
  cases a with
  | lst xs =>
    obtain ⟨a, vs, rfl, h2, _, h3⟩ := r
    cases n with
    | zero => simp [okD] at h
    | succ n => exact .lst (.inl (.inl h2)) (dp_ofs o.same xs vs (n := n) (by simpa [okD] using h) h3)
  | _ => exact dp_of o.same _ _ h r
end Tv

/-! Tv2t: a tuple by 0 and by 1; x in a tuple. -/
namespace Tv
open PySem PySem.Spec PyProof.Rows L2
open AutoSeq1 (wpAny_loadPart')
theorem tupBy1 (l : Addr) (items : Array Value) (n : Nat) (dd : Option Addr) (sl : Array (Option Value)) (x : Int) (u : Tok) (c0 : (decide (x < -(2 ^ 63)) || decide (x ≥ 2 ^ 63)) = false) (c1 : (items.isEmpty || x == 1) = true) :
    Meets (Builtin.«tuple.__mul__» ⟨[.ref l, .int x u], []⟩) (fun _ R s => s.heap.get? l = some { cls := .type "tuple", dict := dd, data := .seq items n, slots := sl } ∧ R (.ok (.ret (Value.ref l))) s) :=
  .of_wp fun prog w A R s hyp => by
    obtain ⟨hp0, g0, d0, tk0, os0⟩ := s; obtain ⟨hl, hR⟩ := hyp
    have ixi := AutoSeq1.idx_int
    wp_walk using wpAny_loadPart' hl
    repeat (first
      | (refine wpAny_ite_false (decide_eq_false (by rw [c0]; exact Bool.false_ne_true)) ?_; wp_walk using wpAny_loadPart' hl)
      | (refine wpAny_ite_true (decide_eq_true c1) ?_; wp_walk using wpAny_loadPart' hl))
    exact ⟨_, rfl, hR⟩
theorem tupBy0 (l : Addr) (items : Array Value) (n : Nat) (dd : Option Addr) (sl : Array (Option Value)) (x : Int) (u : Tok) (c0 : (decide (x < -(2 ^ 63)) || decide (x ≥ 2 ^ 63)) = false) (c1 : (items.isEmpty || x == 1) = false) (c2 : (decide (x ≤ 0) || items.isEmpty) = true) :
    Meets (Builtin.«tuple.__mul__» ⟨[.ref l, .int x u], []⟩) (fun _ R s => s.heap.get? l = some { cls := .type "tuple", dict := dd, data := .seq items n, slots := sl } ∧
      R (.ok (.ret (Value.ref s.heap.objs.size))) { s with heap := s.heap.push { cls := Value.type "tuple", data := Data.seq #[] }, toks := s.toks }) :=
  .of_wp fun prog w A R s hyp => by
    obtain ⟨hp0, g0, d0, tk0, os0⟩ := s; obtain ⟨hl, hR⟩ := hyp
    have ixi := AutoSeq1.idx_int
    wp_walk using wpAny_loadPart' hl
    repeat (first
      | (refine wpAny_ite_false (decide_eq_false (by rw [c0]; exact Bool.false_ne_true)) ?_; wp_walk using wpAny_loadPart' hl)
      | (refine wpAny_ite_false (decide_eq_false (by rw [c1]; exact Bool.false_ne_true)) ?_; wp_walk using wpAny_loadPart' hl)
      | (refine wpAny_ite_true (decide_eq_true c2) ?_; wp_walk using wpAny_loadPart' hl))
    exact ⟨_, rfl, hR⟩
/-- a tuple taken once or no time -/
def rTup01 (K : Frag) : R2 := fun x y H Q => ∃ l k xs, x = .ref l ∧ y = .int k ∧ SqT K H l xs ∧ xs ≠ [] ∧ ((k = 1 ∧ Q (.ref l) H) ∨ (k = 0 ∧ ∀ p, H p = none → Q (.ref p) (upd H p (.tup []))))
theorem op_tup01 {X : Cx} : OpR X (binaryOp .Mult) (rTup01 X.K) := by
  rintro pins s σ H x y v u Q I rx ry ⟨l, k, xs, rfl, rfl, hT, hne, hk⟩
  cases rx
  obtain ⟨t, rfl⟩ := ry
  obtain ⟨its, rvs, ⟨⟨cls, dd, data, sl⟩, ho, hc, n, hd⟩, _⟩ := I.tuple hT
  simp only at hc hd
  subst hc hd
  have hi : its.toArray.isEmpty = false := by
    cases its with
    | nil => exact absurd (List.eq_nil_of_length_eq_zero rvs.length) hne
    | cons a b => rfl
  have c0 : (decide (k < -(2 ^ 63)) || decide (k ≥ 2 ^ 63)) = false := by
    rcases hk with ⟨rfl, _⟩ | ⟨rfl, _⟩ <;> decide
  rcases hk with ⟨rfl, q⟩ | ⟨rfl, q⟩
  · have m := tupBy1 l its.toArray n dd sl 1 t c0 (by rw [hi]; rfl)
    exact wpAny_binaryOp_repeat_ref (T := "tuple") (U := "int") (by decide) ⟨_, ho, rfl⟩ (fun s' => typeIs_int s' 1 t) noFill_tuple_mul F.fills_int_mul F.slot_int_rmul repeat_tuple F.slot_int_index.lookup (call_meets F.slot_int_rmul (typeIs_int s 1 t) F.entry_int_rmul (F.args_int_rmul_2 _ _) (int_rmul_tuple 1 t l its.toArray n dd sl) ⟨ho, rfl, ⟨_, ho, rfl⟩, call_meets F.slot_tuple_mul ⟨_, ho, rfl⟩ F.entry_tuple_mul (F.args_tuple_mul_2 _ _) m ⟨ho, .ref l, H, I, rfl, q⟩⟩)
  · have m := tupBy0 l its.toArray n dd sl 0 t c0 (by rw [hi]; rfl) (by rw [hi]; rfl)
    refine wpAny_binaryOp_repeat_ref (T := "tuple") (U := "int") (by decide) ⟨_, ho, rfl⟩ (fun s' => typeIs_int s' 0 t) noFill_tuple_mul F.fills_int_mul F.slot_int_rmul repeat_tuple F.slot_int_index.lookup (call_meets F.slot_int_rmul (typeIs_int s 0 t) F.entry_int_rmul (F.args_int_rmul_2 _ _) (int_rmul_tuple 0 t l its.toArray n dd sl) ⟨ho, rfl, ⟨_, ho, rfl⟩, call_meets F.slot_tuple_mul ⟨_, ho, rfl⟩ F.entry_tuple_mul (F.args_tuple_mul_2 _ _) m ⟨ho, ?_⟩⟩)
    exact ⟨.ref s.heap.objs.size, _, I.laid (t' := s.toks) (o := .tup []) (fun b ob q => Heap.get?_push_of_some _ q) (Nat.le_refl _) ⟨Nat.zero_le _, [], .nil, IsTup.new _ _⟩, rfl, q _ (I.hok.fresh (Nat.le_refl _))⟩
/-- x in a tuple, data of any depth -/
def rInT (neg : Bool) (K : Frag) : R2 := fun x y H Q => ∃ d ds, Dp K H x d ∧ Dp K H y (.tuple ds) ∧ SeqAt.shaped d = true ∧ SeqAt.shaped (.tuple ds) = true ∧ Q (.bl (if neg = true then !(ds.any fun z => PyData.eqv z d) else ds.any fun z => PyData.eqv z d)) H
theorem op_inT {X : Cx} (hu : X.A.units + 65 < cLine) : OpR X (compareOp .In) (rInT false X.K) := by
  rintro pins s σ H x y v u Q I rx ry ⟨d, ds, hd, he, sd, se, q⟩
  obtain ⟨as, r1⟩ := Dp.reads I d x v hd rx
  obtain ⟨bs, r2⟩ := Dp.reads I (.tuple ds) y u he ry
  exact SeqAt.in_tuple_reads r2 r1 (SeqAt.canLay_of_shaped se) (SeqAt.canLay_of_shaped sd) (room_in_shaped sd hu) ⟨.bl _, H, I, rfl, q⟩
theorem op_notInT {X : Cx} (hu : X.A.units + 65 < cLine) : OpR X (compareOp .NotIn) (rInT true X.K) := by
  rintro pins s σ H x y v u Q I rx ry ⟨d, ds, hd, he, sd, se, q⟩
  obtain ⟨as, r1⟩ := Dp.reads I d x v hd rx
  obtain ⟨bs, r2⟩ := Dp.reads I (.tuple ds) y u he ry
  exact SeqAt.notIn_tuple_reads r2 r1 (SeqAt.canLay_of_shaped se) (SeqAt.canLay_of_shaped sd) (room_in_shaped sd hu) ⟨.bl _, H, I, rfl, q⟩
end Tv

/-! Tv3: operators, comparisons, built-ins, subscripts. -/
namespace Tv
open PySem L2
section
variable {X : Cx} {call : Calls}

/-! ### operators of ints -/
theorem intD_eq {ok : Int → Int → Bool} {f : Int → Int → Int} {x y z : D} (h : intD ok f x y = some z) : ∃ i j, x = .int i ∧ y = .int j ∧ ok i j = true ∧ z = .int (f i j) := by
  unfold intD at h
  split at h
  · split at h
    · cases h; exact ⟨_, _, rfl, rfl, by assumption, rfl⟩
    · cases h
  · cases h
theorem v_int2 {op : Operator} {op' : Op} {a b : Expr} {ca cb : C} {pos : Pos} {Cc : Int → Int → Prop} {ok : Int → Int → Bool} {f : Int → Int → Int} (ho : OpR X (binaryOp op) (rI Cc fun i j => .int (f i j))) (hd : binD op' = intD ok f) (hc : ∀ i j, ok i j = true → Cc i j)
    (ha : PE X a (tQ X.K call ca)) (hb : PE X b (tQ X.K call cb)) : PE X (.BinOp a op b pos) (tV X.K call (.bin op' ca cb)) :=
  v_bin ho ha hb fun x y z w H g v u Q e o rx ry k => by
    rw [hd] at e
    obtain ⟨i, j, rfl, rfl, hok, rfl⟩ := intD_eq e
    exact ⟨i, j, rx, ry, hc i j hok, k w H _ o (Ext.refl _ _) rfl⟩
theorem OpR.rI0 {f : Value → Value → Sem Value} {g : Int → Int → V} (h : OpR X f (rI0 g)) : OpR X f (rI (fun _ _ => True) g) := by
  intro pins s σ H x y v u Q I r1 r2 ⟨i, j, e1, e2, _, q⟩
  exact h pins s σ H x y v u Q I r1 r2 ⟨i, j, e1, e2, q⟩
theorem mulOk_W {a b : Int} (h : mulOk a b = true) : CMul a b ∨ CMulW a b := by
  unfold mulOk at h
  simp only [Bool.or_eq_true, Bool.and_eq_true, Nat.blt_eq] at h
  rcases h with (h | h) | ⟨h1, h2⟩
  · exact .inl (.inl ⟨by omega, by omega⟩)
  · exact .inl (.inr ⟨by omega, by omega⟩)
  · exact .inr (wide_mul h1 h2 (by decide) (by decide) (by decide))
theorem op_mulAny : OpR X (binaryOp .Mult) (rI (fun i j => CMul i j ∨ CMulW i j) fun i j => .int (i * j)) := by
  intro pins s σ H x y v u Q I r1 r2 ⟨i, j, e1, e2, hc, q⟩
  rcases hc with hc | hc
  · exact op_mul pins s σ H x y v u Q I r1 r2 ⟨i, j, e1, e2, hc, q⟩
  · exact op_mulW pins s σ H x y v u Q I r1 r2 ⟨i, j, e1, e2, hc, q⟩
theorem op_fdivAny : OpR X (binaryOp .FloorDiv) (rI (fun i j => CDivN i j ∨ CDivW i j) fun i j => .int (i.fdiv j)) := by
  intro pins s σ H x y v u Q I r1 r2 ⟨i, j, e1, e2, hc, q⟩
  rcases hc with hc | hc
  · exact op_fdivN pins s σ H x y v u Q I r1 r2 ⟨i, j, e1, e2, hc, q⟩
  · refine op_fdivW pins s σ H x y v u Q I r1 r2 ⟨i, j, e1, e2, hc, ?_⟩
    have h1 : (0 : Int) < j := hc.1
    have h2 : i.fdiv j = i / j := Int.fdiv_eq_ediv_of_nonneg i (by omega)
    show Q (.int (i / j)) H
    rw [← h2]; exact q
theorem divOk_W {a b : Int} (h : divOk a b = true) : CDivN a b ∨ CDivW a b := by
  unfold divOk at h
  simp only [Bool.or_eq_true, Bool.and_eq_true, Nat.blt_eq, decide_eq_true_eq, bne_iff_ne] at h
  rcases h with ⟨h1, h2⟩ | ⟨h1, h2⟩
  · exact .inl ⟨h2, h1⟩
  · exact .inr (wide_div h1 h2 (by decide) (by decide))
theorem powOk_W {a b : Int} (h : powOk a b = true) : CPow a b := by
  unfold powOk at h
  simp only [Bool.and_eq_true, Nat.blt_eq, decide_eq_true_eq] at h
  exact ⟨h.1.1, h.1.2, h.2⟩
section
variable {a b : Expr} {ca cb : C} {pos : Pos} (ha : PE X a (tQ X.K call ca)) (hb : PE X b (tQ X.K call cb))
include ha hb
theorem v_sub : PE X (.BinOp a .Sub b pos) (tV X.K call (.bin .sub ca cb)) := v_int2 (OpR.rI0 op_sub) rfl (fun _ _ _ => trivial) ha hb
theorem v_fdiv : PE X (.BinOp a .FloorDiv b pos) (tV X.K call (.bin .fdiv ca cb)) := v_int2 op_fdivAny rfl (fun _ _ h => divOk_W h) ha hb
theorem v_mod : PE X (.BinOp a .Mod b pos) (tV X.K call (.bin .mod ca cb)) := v_int2 op_modN rfl (fun _ _ h => by simpa using h) ha hb
theorem v_pow : PE X (.BinOp a .Pow b pos) (tV X.K call (.bin .pow ca cb)) := v_int2 (f := fun a b => a ^ b.toNat) op_pow rfl (fun _ _ h => powOk_W h) ha hb
theorem v_shl : PE X (.BinOp a .LShift b pos) (tV X.K call (.bin .shl ca cb)) := v_int2 (f := fun a b => a * 2 ^ b.toNat) op_shl rfl (fun _ _ h => powOk_W h) ha hb
theorem v_shr : PE X (.BinOp a .RShift b pos) (tV X.K call (.bin .shr ca cb)) := v_int2 (f := fun a b => a / 2 ^ b.toNat) op_shr rfl (fun _ _ h => by simpa using h) ha hb
theorem v_band : PE X (.BinOp a .BitAnd b pos) (tV X.K call (.bin .band ca cb)) := v_int2 (OpR.rI0 op_and) rfl (fun _ _ _ => trivial) ha hb
theorem v_bxor : PE X (.BinOp a .BitXor b pos) (tV X.K call (.bin .bxor ca cb)) := v_int2 (OpR.rI0 op_xor) rfl (fun _ _ _ => trivial) ha hb
end

/-! ### + and *: ints, texts, tuples; lists make new ones -/
theorem addD_eq {x y z : D} (h : addD x y = some z) : (∃ i j, x = .int i ∧ y = .int j ∧ z = .int (i + j)) ∨ (∃ a b, x = .tup a ∧ y = .tup b ∧ a.length + b.length ≤ sizeLine ∧ z = .tup (a ++ b)) ∨
    (∃ a b, x = .lst a ∧ y = .lst b ∧ a.length + b.length ≤ sizeLine ∧ z = .lst (a ++ b)) ∨ (∃ a b, x = .str a ∧ y = .str b ∧ a.length + b.length ≤ sizeLine ∧ z = .str (a ++ b)) := by
  unfold addD at h
  split at h
  · cases h; exact .inl ⟨_, _, rfl, rfl, rfl⟩
  · split at h
    · cases h; exact .inr (.inl ⟨_, _, rfl, rfl, by assumption, rfl⟩)
    · cases h
  · split at h
    · cases h; exact .inr (.inr (.inl ⟨_, _, rfl, rfl, by assumption, rfl⟩))
    · cases h
  · split at h
    · cases h; exact .inr (.inr (.inr ⟨_, _, rfl, rfl, by assumption, rfl⟩))
    · cases h
  · cases h
theorem mulD_eq {x y z : D} (h : mulD x y = some z) : (∃ i j, x = .int i ∧ y = .int j ∧ mulOk i j = true ∧ z = .int (i * j)) ∨
    (∃ a k, x = .lst a ∧ y = .int k ∧ -(2 ^ 63) ≤ k ∧ k < 2 ^ 63 ∧ a.length * k.toNat ≤ sizeLine ∧ z = .lst (List.replicate k.toNat a).flatten) ∨
    (∃ a k, x = .tup a ∧ y = .int k ∧ 0 < a.length ∧ a.length ≤ 1000 ∧ 0 ≤ k ∧ k ≤ 1000 ∧ z = .tup (List.replicate k.toNat a).flatten) := by
  unfold mulD at h
  split at h
  · split at h
    · cases h; exact .inl ⟨_, _, rfl, rfl, by assumption, rfl⟩
    · cases h
  · split at h
    · rename_i hk
      cases h; exact .inr (.inl ⟨_, _, rfl, rfl, hk.1, hk.2.1, hk.2.2, rfl⟩)
    · cases h
  · split at h
    · rename_i hk
      cases h; exact .inr (.inr ⟨_, _, rfl, rfl, hk.1, hk.2.1, hk.2.2.1, hk.2.2.2, rfl⟩)
    · cases h
  · cases h
/-- a tuple's sum with an empty one at the left is the right one itself -/
theorem op_catNil : OpR X (binaryOp .Add) (fun x y H Q => ∃ a b ys, x = .ref a ∧ y = .ref b ∧ SqT X.K H a [] ∧ SqT X.K H b ys ∧ Q (.ref b) H) := by
  intro pins s σ H x y v u Q I rx ry h
  obtain ⟨a, b, ys, rfl, rfl, ha, hb, q⟩ := h
  cases rx
  cases ry
  obtain ⟨its, r1, p1, _⟩ := I.tuple ha
  obtain ⟨its2, r2, p2, _⟩ := I.tuple hb
  cases r1
  obtain ⟨⟨cls, dd, data, sl⟩, ho, hc, n, hd⟩ := id p1
  obtain ⟨⟨cls2, dd2, data2, sl2⟩, ho2, hc2, n2, hd2⟩ := id p2
  simp only at hc hd hc2 hd2
  subst hc hd hc2 hd2
  exact concat_meets ⟨_, ho, rfl⟩ ⟨_, ho2, rfl⟩ noFill_tuple_add seq_tuple_add PySem.F.slot_tuple_add PySem.F.entry_tuple_add (PySem.F.args_tuple_add_2 _ _)
      (PyProof.Rows.tuple_addW0 a b _ its2.toArray n n2 dd dd2 sl sl2 (by rfl)) ⟨ho, ho2, ⟨.ref b, H, I, rfl, q⟩⟩
theorem v_add {a b : Expr} {ca cb : C} {pos : Pos} (ha : PE X a (tQ X.K call ca)) (hb : PE X b (tQ X.K call cb)) : PE X (.BinOp a .Add b pos) (tV X.K call (.bin .add ca cb)) :=
  v_bin (OpR.or (OpR.rI0 op_add) (OpR.or (OpR.or op_catT op_catNil) (OpR.or op_cat op_add_str))) ha hb fun x y z w H g v u Q e o rx ry k => by
    rcases addD_eq e with ⟨i, j, rfl, rfl, rfl⟩ | ⟨p, q, rfl, rfl, hz, rfl⟩ | ⟨p, q, rfl, rfl, hz, rfl⟩ | ⟨p, q, rfl, rfl, hz, rfl⟩
    · exact .inl ⟨i, j, rx, ry, trivial, k w H _ o (Ext.refl _ _) rfl⟩
    · have rx' := rx
      have ry' := ry
      obtain ⟨l, vs, rfl, h1, h2⟩ := rx
      obtain ⟨m, us, rfl, h3, h4⟩ := ry
      refine .inr (.inl ?_)
      by_cases e1 : p = []
      · subst e1
        have e2 : vs = [] := List.eq_nil_of_length_eq_zero h2.len.symm
        subst e2
        refine .inr ⟨l, m, us, rfl, rfl, SqT.same o.same h1, SqT.same o.same h3, ?_⟩
        exact k w H _ o (Ext.refl _ _) ry'
      · refine .inl ⟨l, m, vs, us, rfl, rfl, SqT.same o.same h1, SqT.same o.same h3, fun z => e1 (List.eq_nil_of_length_eq_zero (by rw [h2.len, z]; rfl)), by rw [← h2.len, ← h4.len]; exact hz, fun z => ?_, fun _ p np => ?_⟩
        · have e2 : q = [] := List.eq_nil_of_length_eq_zero (by rw [h4.len, z]; rfl)
          subst e2
          rw [List.append_nil] at k
          exact k w H _ o (Ext.refl _ _) rx'
        · exact k _ _ _ (o.add np) (Ext.add o np) ⟨p, _, rfl, .inl (.inl upd_same), (h2.app h4).mono (Le.add (o.free np))⟩
    · obtain ⟨l, vs, rfl, h1, _, h2⟩ := rx
      obtain ⟨m, us, rfl, h3, _, h4⟩ := ry
      refine .inr (.inr (.inl ⟨l, m, vs, us, rfl, rfl, h1, h3, by rw [← h2.len, ← h4.len]; exact hz, fun p np => ?_⟩))
      exact k _ _ _ (o.add np) (Ext.add o np) ⟨p, _, rfl, upd_same, (h2.app h4).mono (Le.add (o.free np))⟩
    · exact .inr (.inr (.inr ⟨p, q, rx, ry, hz, k w H _ o (Ext.refl _ _) rfl⟩))
theorem f_add {a b : Expr} {ca cb : C} {pos : Pos} (ha : PE X a (tQ X.K call ca)) (hb : PE X b (tQ X.K call cb)) : PE X (.BinOp a .Add b pos) (tF X.K call (.bin .add ca cb)) :=
  f_bin op_cat ha hb fun x y xs w H g v u Q e o rx ry k => by
    rcases addD_eq e with ⟨i, j, rfl, rfl, e⟩ | ⟨p, q, rfl, rfl, hz, e⟩ | ⟨p, q, rfl, rfl, hz, e⟩ | ⟨p, q, rfl, rfl, hz, e⟩ <;> cases e
    obtain ⟨l, vs, rfl, h1, _, h2⟩ := rx
    obtain ⟨m, us, rfl, h3, _, h4⟩ := ry
    exact ⟨l, m, vs, us, rfl, rfl, h1, h3, by rw [← h2.len, ← h4.len]; exact hz, fun p np => k p _ np (h2.app h4)⟩
theorem v_mul {a b : Expr} {ca cb : C} {pos : Pos} (ha : PE X a (tQ X.K call ca)) (hb : PE X b (tQ X.K call cb)) : PE X (.BinOp a .Mult b pos) (tV X.K call (.bin .mul ca cb)) :=
  v_bin (OpR.or (OpR.or op_mulAny op_rep) (OpR.or op_repT op_tup01)) ha hb fun x y z w H g v u Q e o rx ry k => by
    rcases mulD_eq e with ⟨i, j, rfl, rfl, hm, rfl⟩ | ⟨p, j, rfl, rfl, h1, h2, h3, rfl⟩ | ⟨p, j, rfl, rfl, h1, h2, h3, h3', rfl⟩
    · exact .inl (.inl ⟨i, j, rx, ry, mulOk_W hm, k w H _ o (Ext.refl _ _) rfl⟩)
    rotate_left
    · have rx' := rx
      obtain ⟨l, vs, rfl, h4, h5⟩ := rx
      have hT := SqT.same o.same h4
      have hne : vs ≠ [] := fun z => by rw [h5.len, z] at h1; exact absurd h1 (Nat.lt_irrefl 0)
      refine .inr ?_
      by_cases hj : 2 ≤ j
      · exact .inl ⟨l, j, vs, rfl, ry, hT, hne, hj, h3', by rw [← h5.len]; exact h2, fun p np => k _ _ _ (o.add np) (Ext.add o np) ⟨p, _, rfl, .inl (.inl upd_same), (h5.rep _).mono (Le.add (o.free np))⟩⟩
      · refine .inr ⟨l, j, vs, rfl, ry, hT, hne, ?_⟩
        by_cases h0 : j = 0
        · subst h0
          exact .inr ⟨rfl, fun p np => k _ _ _ (o.add np) (Ext.add o np) ⟨p, [], rfl, .inl (.inl upd_same), trivial⟩⟩
        · have h01 : j = 1 := by omega
          subst h01
          have e1 : (List.replicate (1 : Int).toNat p).flatten = p := by simp
          rw [e1] at k
          exact .inl ⟨rfl, k w H _ o (Ext.refl _ _) rx'⟩
    · obtain ⟨l, vs, rfl, h4, _, h5⟩ := rx
      exact .inl (.inr ⟨l, j, vs, rfl, ry, h4, h1, h2, by rw [← h5.len]; exact h3, fun p np => k _ _ _ (o.add np) (Ext.add o np) ⟨p, _, rfl, upd_same, (h5.rep _).mono (Le.add (o.free np))⟩⟩)
theorem f_mul {a b : Expr} {ca cb : C} {pos : Pos} (ha : PE X a (tQ X.K call ca)) (hb : PE X b (tQ X.K call cb)) : PE X (.BinOp a .Mult b pos) (tF X.K call (.bin .mul ca cb)) :=
  f_bin op_rep ha hb fun x y xs w H g v u Q e o rx ry k => by
    rcases mulD_eq e with ⟨i, j, rfl, rfl, hm, e⟩ | ⟨p, j, rfl, rfl, h1, h2, h3, e⟩ | ⟨p, j, rfl, rfl, h1, h2, h3, h3', e⟩ <;> cases e
    obtain ⟨l, vs, rfl, h4, _, h5⟩ := rx
    exact ⟨l, j, vs, rfl, ry, h4, h1, h2, by rw [← h5.len]; exact h3, fun p np => k p _ np (h5.rep _)⟩
theorem v_neg {a : Expr} {ca : C} {pos : Pos} (ha : PE X a (tQ X.K call ca)) : PE X (.UnaryOp .USub a pos) (tV X.K call (.neg ca)) :=
  (pe_un un_neg ha).imp fun σ H Q ⟨w, ρ, g, z, g', o, r, he, q⟩ => by
    simp only [ev] at he
    obtain ⟨x, g1, e1, he⟩ := bnd_eq he
    split at he
    · cases he
      exact ⟨w, ρ, g, _, _, o, r, e1, fun w1 H1 v o1 x1 y1 => ⟨_, y1, q w1 H1 _ o1 x1 rfl⟩⟩
    · cases he

/-! ### comparisons -/
theorem q_cmp {op : CmpOp} {op' : Cp} {a b : Expr} {ca cb : C} {pos : Pos} {rr : R2} (ho : OpR X (compareOp op) rr) (ha : PE X a (tQ X.K call ca)) (hb : PE X b (tQ X.K call cb)) (hm : behindInMarks op b = false)
    (hr : ∀ x y z w H g v u (Q : VK), cmpD op' x y = some z → Ok w H g → RepQ X.K w H x v → RepQ X.K w H y u → (∀ c, z = .bl c → Q (.bl c) H) → rr v u H Q) (hz : ∀ x y z, cmpD op' x y = some z → ∃ c, z = .bl c) :
    PE X (.Compare a [op] [b] pos) (tV X.K call (.cmp op' ca cb)) ∧ PT X (.Compare a [op] [b] pos) (tT X.K call (.cmp op' ca cb)) := by
  constructor
  · exact (pe_cmpR ho ha hb hm).imp fun σ H Q ⟨w, ρ, g, z, g', o, r, he, q⟩ =>
      two_run o r (by simp only [ev] at he; exact he) fun x y w' H' v u e o' x' y1 y2 => hr x y z w' H' g' v u Q e o' y1 y2 fun c ec => q w' H' _ o' x' (by rw [ec]; rfl)
  · exact (pt_cmpR ho ha hb hm).imp fun σ H Q ⟨w, ρ, g, z, k, g', o, r, he, ht, q⟩ =>
      two_run o r (by simp only [ev] at he; exact he) fun x y w' H' v u e o' x' y1 y2 => hr x y z w' H' g' v u _ e o' y1 y2 fun c ec => ⟨c, rfl, by
        rw [ec] at ht; cases ht; exact q w' H' o' x'⟩
theorem relD_eq {f : Int → Int → Bool} {x y z : D} (h : relD f x y = some z) : ∃ i j, x = .int i ∧ y = .int j ∧ z = .bl (f i j) := by
  unfold relD at h
  split at h
  · cases h; exact ⟨_, _, rfl, rfl, rfl⟩
  · cases h
theorem ltD_eq {x y z : D} (h : ltD x y = some z) : (∃ i j, x = .int i ∧ y = .int j ∧ z = .bl (decide (i < j))) ∨ (∃ a b ns ms, x = .tup a ∧ y = .tup b ∧ intsOf a = some ns ∧ intsOf b = some ms ∧ z = .bl (HT.lexLt ns ms)) := by
  unfold ltD at h
  split at h
  · cases h; exact .inl ⟨_, _, rfl, rfl, rfl⟩
  · split at h
    · cases h; exact .inr ⟨_, _, _, _, rfl, rfl, by assumption, by assumption, rfl⟩
    · cases h
  · cases h
section
variable {a b : Expr} {ca cb : C} {pos : Pos} (ha : PE X a (tQ X.K call ca)) (hb : PE X b (tQ X.K call cb))
include ha hb
theorem c_rel {op : CmpOp} {op' : Cp} {f : Int → Int → Bool} (ho : OpR X (compareOp op) (rI0 fun i j => .bl (f i j))) (hm : behindInMarks op b = false) (hd : cmpD op' = relD f) :
    PE X (.Compare a [op] [b] pos) (tV X.K call (.cmp op' ca cb)) ∧ PT X (.Compare a [op] [b] pos) (tT X.K call (.cmp op' ca cb)) :=
  q_cmp ho ha hb hm (fun x y z w H g v u Q e o rx ry k => by
    rw [hd] at e
    obtain ⟨i, j, rfl, rfl, rfl⟩ := relD_eq e
    exact ⟨i, j, rx, ry, k _ rfl⟩) fun x y z e => by
    rw [hd] at e
    obtain ⟨i, j, _, _, rfl⟩ := relD_eq e
    exact ⟨_, rfl⟩
theorem c_le : PE X (.Compare a [.LtE] [b] pos) (tV X.K call (.cmp .le ca cb)) ∧ PT X (.Compare a [.LtE] [b] pos) (tT X.K call (.cmp .le ca cb)) := c_rel ha hb op_le (nomark _) rfl
theorem c_gt : PE X (.Compare a [.Gt] [b] pos) (tV X.K call (.cmp .gt ca cb)) ∧ PT X (.Compare a [.Gt] [b] pos) (tT X.K call (.cmp .gt ca cb)) := c_rel ha hb op_gt (nomark _) rfl
theorem c_ge : PE X (.Compare a [.GtE] [b] pos) (tV X.K call (.cmp .ge ca cb)) ∧ PT X (.Compare a [.GtE] [b] pos) (tT X.K call (.cmp .ge ca cb)) := c_rel ha hb op_ge (nomark _) rfl
theorem c_lt (hu : X.A.units + 64 < cLine) : PE X (.Compare a [.Lt] [b] pos) (tV X.K call (.cmp .lt ca cb)) ∧ PT X (.Compare a [.Lt] [b] pos) (tT X.K call (.cmp .lt ca cb)) :=
  q_cmp (OpR.or (OpR.rI0 op_lt) (op_ltT (by omega))) ha hb (nomark _) (fun x y z w H g v u Q e o rx ry k => by
    rcases ltD_eq e with ⟨i, j, rfl, rfl, rfl⟩ | ⟨p, q, ns, ms, rfl, rfl, h1, h2, rfl⟩
    · exact .inl ⟨i, j, rx, ry, trivial, k _ rfl⟩
    · obtain ⟨l, vs, rfl, h3, h4⟩ := rx
      obtain ⟨m, us, rfl, h5, h6⟩ := ry
      rw [h4.ints h1] at h3
      rw [h6.ints h2] at h5
      exact .inr ⟨l, m, ns, ms, rfl, rfl, SqT.same o.same h3, SqT.same o.same h5, k _ rfl⟩) fun x y z e => by
    rcases ltD_eq e with ⟨i, j, _, _, rfl⟩ | ⟨p, q, ns, ms, _, _, _, _, rfl⟩
    · exact ⟨_, rfl⟩
    · exact ⟨_, rfl⟩
theorem c_eq (hu : X.A.units + 64 < cLine) : PE X (.Compare a [.Eq] [b] pos) (tV X.K call (.cmp .eq ca cb)) ∧ PT X (.Compare a [.Eq] [b] pos) (tT X.K call (.cmp .eq ca cb)) :=
  q_cmp (op_eqD hu) ha hb (nomark _) (fun x y z w H g v u Q e o rx ry k => by
    simp only [cmpD] at e
    split at e
    · rename_i h
      cases e
      simp only [eqOk, Bool.and_eq_true] at h
      exact ⟨toPy x, toPy y, dp_q o h.1 rx, dp_q o h.2 ry, shaped_toPy h.1 (by decide), shaped_toPy h.2 (by decide), by rw [eqv_toPy x y h.1 h.2]; exact k _ rfl⟩
    · cases e) fun x y z e => by
    simp only [cmpD] at e
    split at e
    · cases e; exact ⟨_, rfl⟩
    · cases e
theorem c_ne (hu : X.A.units + 64 < cLine) : PE X (.Compare a [.NotEq] [b] pos) (tV X.K call (.cmp .ne ca cb)) ∧ PT X (.Compare a [.NotEq] [b] pos) (tT X.K call (.cmp .ne ca cb)) :=
  q_cmp (op_neD hu) ha hb (nomark _) (fun x y z w H g v u Q e o rx ry k => by
    simp only [cmpD] at e
    split at e
    · rename_i h
      cases e
      simp only [eqOk, Bool.and_eq_true] at h
      exact ⟨toPy x, toPy y, dp_q o h.1 rx, dp_q o h.2 ry, shaped_toPy h.1 (by decide), shaped_toPy h.2 (by decide), by rw [eqv_toPy x y h.1 h.2]; exact k _ rfl⟩
    · cases e) fun x y z e => by
    simp only [cmpD] at e
    split at e
    · cases e; exact ⟨_, rfl⟩
    · cases e
omit ha hb in
theorem isD_eq {neg : Bool} {x y z : D} (h : isD neg x y = some z) : (y = .non ∧ z = .bl (if neg = true then !isNon x else isNon x)) ∨
    (∃ p q, x = .bl p ∧ y = .bl q ∧ z = .bl (if neg = true then !decide (p = q) else decide (p = q))) := by
  unfold isD at h
  split at h
  · cases h; exact .inl ⟨rfl, rfl⟩
  · cases h; exact .inr ⟨_, _, rfl, rfl, rfl⟩
  · cases h
omit ha hb in
theorem non_iff {K : Frag} {w : W} {H : Hp} {x : D} {v : V} (r : RepQ K w H x v) : decide (v = .non) = isNon x := by
  cases x with
  | non => cases (show v = .non from r); rfl
  | bl b => cases (show v = .bl b from r); rfl
  | int b => cases (show v = .int b from r); rfl
  | str b => cases (show v = .str b from r); rfl
  | st => obtain ⟨a, _, rfl⟩ := r; rfl
  | scr _ => obtain ⟨a, rfl, _⟩ := r; rfl
  | tup _ => obtain ⟨a, vs, rfl, _⟩ := r; rfl
  | lst _ => obtain ⟨a, vs, rfl, _⟩ := r; rfl
  | dic _ => exact r.elim
  | set _ => exact r.elim
theorem c_is : PE X (.Compare a [.Is] [b] pos) (tV X.K call (.cmp .isn ca cb)) ∧ PT X (.Compare a [.Is] [b] pos) (tT X.K call (.cmp .isn ca cb)) :=
  q_cmp (OpR.or op_isN op_isBl) ha hb (nomark _) (fun x y z w H g v u Q e o rx ry k => by
    rcases isD_eq e with ⟨rfl, rfl⟩ | ⟨p, q, rfl, rfl, rfl⟩
    · exact .inl ⟨ry, by rw [non_iff rx]; exact k _ rfl⟩
    · exact .inr ⟨p, q, rx, ry, k _ rfl⟩) fun x y z e => by
    rcases isD_eq e with ⟨_, rfl⟩ | ⟨p, q, _, _, rfl⟩ <;> exact ⟨_, rfl⟩
theorem c_isnot : PE X (.Compare a [.IsNot] [b] pos) (tV X.K call (.cmp .nisn ca cb)) ∧ PT X (.Compare a [.IsNot] [b] pos) (tT X.K call (.cmp .nisn ca cb)) :=
  q_cmp (OpR.or op_notN op_notBl) ha hb (nomark _) (fun x y z w H g v u Q e o rx ry k => by
    rcases isD_eq e with ⟨rfl, rfl⟩ | ⟨p, q, rfl, rfl, rfl⟩
    · exact .inl ⟨ry, by rw [non_iff rx]; exact k _ rfl⟩
    · exact .inr ⟨p, q, rx, ry, k _ rfl⟩) fun x y z e => by
    rcases isD_eq e with ⟨_, rfl⟩ | ⟨p, q, _, _, rfl⟩ <;> exact ⟨_, rfl⟩
omit ha hb in
theorem inD_eq {neg : Bool} {x y z : D} (h : inD neg x y = some z) : ∃ xs, (y = .lst xs ∨ y = .tup xs) ∧ okD 60 x = true ∧ okDs 60 xs = true ∧ z = .bl (if neg = true then !isinD x xs else isinD x xs) := by
  unfold inD at h
  split at h
  · split at h
    · rename_i k
      cases h; exact ⟨_, .inl rfl, k.1, k.2, rfl⟩
    · cases h
  · split at h
    · rename_i k
      cases h; exact ⟨_, .inr rfl, k.1, k.2, rfl⟩
    · cases h
  · cases h
omit ha hb in
theorem any_isin {d : D} (hd : okD 60 d = true) : ∀ {xs : List D}, okDs 60 xs = true → ((toPys xs).any fun z => PyData.eqv z (toPy d)) = isinD d xs
  | [], _ => rfl
  | x :: xs, h => by
    simp only [okDs, Bool.and_eq_true] at h
    simp only [toPys, List.any_cons, isinD]
    rw [eqv_toPy x d h.1 hd, any_isin hd h.2]
theorem c_in (hu : X.A.units + 65 < cLine) (hm : behindInMarks .In b = false) : PE X (.Compare a [.In] [b] pos) (tV X.K call (.cmp .isin ca cb)) ∧ PT X (.Compare a [.In] [b] pos) (tT X.K call (.cmp .isin ca cb)) :=
  q_cmp (OpR.or (op_inD hu) (op_inT hu)) ha hb hm (fun x y z w H g v u Q e o rx ry k => by
    obtain ⟨xs, hy, h1, h2, rfl⟩ := inD_eq e
    rcases hy with rfl | rfl
    · have h3 : okD 61 (.lst xs) = true := by simpa [okD] using h2
      exact .inl ⟨toPy x, toPys xs, dp_q o h1 rx, dp_q (a := .lst xs) o h3 ry, shaped_toPy h1 (by decide), shaped_toPy (a := .lst xs) h3 (by decide), by rw [any_isin h1 h2]; exact k _ rfl⟩
    · have h3 : okD 61 (.tup xs) = true := by simpa [okD] using h2
      exact .inr ⟨toPy x, toPys xs, dp_q o h1 rx, dp_q (a := .tup xs) o h3 ry, shaped_toPy h1 (by decide), shaped_toPy (a := .tup xs) h3 (by decide), by rw [any_isin h1 h2]; exact k _ rfl⟩) fun x y z e => by
    obtain ⟨xs, _, _, _, rfl⟩ := inD_eq e; exact ⟨_, rfl⟩
theorem c_notin (hu : X.A.units + 65 < cLine) (hm : behindInMarks .NotIn b = false) : PE X (.Compare a [.NotIn] [b] pos) (tV X.K call (.cmp .notin ca cb)) ∧ PT X (.Compare a [.NotIn] [b] pos) (tT X.K call (.cmp .notin ca cb)) :=
  q_cmp (OpR.or (op_notInD hu) (op_notInT hu)) ha hb hm (fun x y z w H g v u Q e o rx ry k => by
    obtain ⟨xs, hy, h1, h2, rfl⟩ := inD_eq e
    rcases hy with rfl | rfl
    · have h3 : okD 61 (.lst xs) = true := by simpa [okD] using h2
      exact .inl ⟨toPy x, toPys xs, dp_q o h1 rx, dp_q (a := .lst xs) o h3 ry, shaped_toPy h1 (by decide), shaped_toPy (a := .lst xs) h3 (by decide), by rw [any_isin h1 h2]; exact k _ rfl⟩
    · have h3 : okD 61 (.tup xs) = true := by simpa [okD] using h2
      exact .inr ⟨toPy x, toPys xs, dp_q o h1 rx, dp_q (a := .tup xs) o h3 ry, shaped_toPy h1 (by decide), shaped_toPy (a := .tup xs) h3 (by decide), by rw [any_isin h1 h2]; exact k _ rfl⟩) fun x y z e => by
    obtain ⟨xs, _, _, _, rfl⟩ := inD_eq e; exact ⟨_, rfl⟩
end

/-! ### subscripts -/
theorem atI_map {xs : List D} {vs : List V} {K : Frag} {w : W} {i : Int} {d : D} (q : Reps K w xs vs) (h : L2.atI xs i = some d) : ∃ v, L2.atI vs i = some v ∧ Rep K w d v := by
  unfold L2.atI at h ⊢
  rw [← q.len]
  cases e : L2.ixN xs.length i with
  | none => rw [e] at h; cases h
  | some j =>
    rw [e] at h
    exact q.get h
theorem v_idx {a b : Expr} {ca cb : C} {pos : Pos} (ha : PE X a (tQ X.K call ca)) (hb : PE X b (tQ X.K call cb)) (hs : PlainIx b) : PE X (.Subscript a b pos) (tV X.K call (.idx ca cb)) :=
  (pe_ix (ix_list.or ix_tup) ha hb hs).imp fun σ H Q ⟨w, ρ, g, z, g', o, r, he, q⟩ =>
    two_run o r (by simp only [ev] at he; exact he) fun x y w' H' v u e o' x' rx ry => by
      unfold idxD at e
      split at e
      · obtain ⟨l, vs, rfl, h1, h2⟩ := rx
        obtain ⟨v, h3, h4⟩ := atI_map h2 e
        exact .inr ⟨l, vs, _, v, rfl, ry, SqT.same o'.same h1, h3, q w' H' v o' x' h4⟩
      · obtain ⟨l, vs, rfl, h1, _, h2⟩ := rx
        obtain ⟨v, h3, h4⟩ := atI_map h2 e
        exact .inl ⟨l, vs, _, v, rfl, ry, .inl (.inl h1), h3, q w' H' v o' x' h4⟩
      · cases e
end
/-! a chain of two comparisons: a op b op' c, b a name -/
structure OpS (X : Cx) (op : CmpOp) (op' : Cp) (rr : R2) : Prop where
  op : OpR X (compareOp op) rr
  run : ∀ x y z w H g v u (Q : VK), cmpD op' x y = some z → Ok w H g → RepQ X.K w H x v → RepQ X.K w H y u → (∀ c, z = .bl c → Q (.bl c) H) → rr v u H Q
  bl : ∀ x y z, cmpD op' x y = some z → ∃ c, z = .bl c
section
variable {X : Cx} {call : Calls}
theorem opS_le : OpS X .LtE .le (rI0 fun i j => .bl (decide (i ≤ j))) := ⟨op_le, fun x y z w H g v u Q e o rx ry k => by
    obtain ⟨i, j, rfl, rfl, rfl⟩ := relD_eq (f := fun a b => decide (a ≤ b)) e
    exact ⟨i, j, rx, ry, k _ rfl⟩, fun x y z e => by
    obtain ⟨i, j, _, _, rfl⟩ := relD_eq (f := fun a b => decide (a ≤ b)) e
    exact ⟨_, rfl⟩⟩
theorem opS_lt (hu : X.A.units + 64 < cLine) : ∃ rr, OpS X .Lt .lt rr := ⟨_, OpR.or (OpR.rI0 op_lt) (op_ltT (by omega)), fun x y z w H g v u Q e o rx ry k => by
    rcases ltD_eq e with ⟨i, j, rfl, rfl, rfl⟩ | ⟨p, q, ns, ms, rfl, rfl, h1, h2, rfl⟩
    · exact .inl ⟨i, j, rx, ry, trivial, k _ rfl⟩
    · obtain ⟨l, vs, rfl, h3, h4⟩ := rx
      obtain ⟨m, us, rfl, h5, h6⟩ := ry
      rw [h4.ints h1] at h3
      rw [h6.ints h2] at h5
      exact .inr ⟨l, m, ns, ms, rfl, rfl, SqT.same o.same h3, SqT.same o.same h5, k _ rfl⟩, fun x y z e => by
    rcases ltD_eq e with ⟨i, j, _, _, rfl⟩ | ⟨p, q, ns, ms, _, _, _, _, rfl⟩ <;> exact ⟨_, rfl⟩⟩
theorem chain_run {K : Frag} {p1 p2 : Cp} {rr1 rr2 : R2} {ca cc : C} {i : Nat} {w : W} {ρ : Env} {g g' : GS} {d : D} {σ : St} {H : Hp} {Q : VK}
    (h1 : ∀ x y z w H g v u (Q : VK), cmpD p1 x y = some z → Ok w H g → RepQ K w H x v → RepQ K w H y u → (∀ c, z = .bl c → Q (.bl c) H) → rr1 v u H Q) (b1 : ∀ x y z, cmpD p1 x y = some z → ∃ c, z = .bl c)
    (h2 : ∀ x y z w H g v u (Q : VK), cmpD p2 x y = some z → Ok w H g → RepQ K w H x v → RepQ K w H y u → (∀ c, z = .bl c → Q (.bl c) H) → rr2 v u H Q) (b2 : ∀ x y z, cmpD p2 x y = some z → ∃ c, z = .bl c)
    (o : Ok w H g) (r : Rel K w H ρ σ) (he : ev call (.and (.cmp p1 ca (.bvar i)) (.cmp p2 (.bvar i) cc)) ρ g = some (d, g'))
    (q : ∀ k, d = .bl k → ∀ w' H', Ok w' H' g' → Ext w H w' H' → Q (.bl k) H') : tChain rr1 rr2 (tQ K call ca) (tQ K call (.bvar i)) (tQ K call cc) σ H Q := by
  simp only [ev] at he
  obtain ⟨z, g1, e1, he⟩ := bnd_eq he
  obtain ⟨x, g2, e2, e1⟩ := bnd_eq e1
  obtain ⟨y, g3, e3, e1⟩ := bnd_eq e1
  rw [Option.map_eq_some_iff] at e1
  obtain ⟨z', e4, e5⟩ := e1
  cases e5
  obtain ⟨k, rfl⟩ := b1 _ _ _ e4
  refine ⟨w, ρ, g, x, g2, o, r, e2, fun w1 H1 v o1 x1 y1 => ⟨w1, ρ, g2, y, _, o1, r.ext x1, by simp only [ev]; exact e3, fun w2 H2 u o2 x2 y2 => h1 x y _ w2 H2 g1 v u _ e4 o2 (y1.ext x2) y2 fun c ec => ⟨c, rfl, ?_⟩⟩⟩
  cases ec
  cases k with
  | false =>
    simp only [truth] at he
    cases he
    exact q _ rfl _ _ o2 (x1.trans x2)
  | true =>
    simp only [truth] at he
    obtain ⟨y', g4, e6, he⟩ := bnd_eq he
    obtain ⟨t, g5, e7, he⟩ := bnd_eq he
    rw [Option.map_eq_some_iff] at he
    obtain ⟨z2, e8, e9⟩ := he
    cases e9
    have hyy : y' = y ∧ g4 = g1 := by
      split at e3
      · rename_i d0 hd0
        rw [hd0] at e6
        cases e3; cases e6; exact ⟨rfl, rfl⟩
      · rename_i d0 hd0
        rw [hd0] at e6
        cases e3; cases e6; exact ⟨rfl, rfl⟩
      · cases e3
    obtain ⟨rfl, rfl⟩ := hyy
    obtain ⟨k2, rfl⟩ := b2 _ _ _ e8
    show tQ K call cc σ H2 _
    exact ⟨w2, ρ, _, t, _, o2, (r.ext x1).ext x2, e7, fun w3 H3 v3 o3 x3 y3 => h2 _ t _ w3 H3 _ u v3 Q e8 o3 (y2.ext x3) y3 fun c ec => by cases ec; exact q _ rfl _ _ o3 ((x1.trans x2).trans x3)⟩
theorem q_chain {op1 op2 : CmpOp} {p1 p2 : Cp} {rr1 rr2 : R2} {a b c : Expr} {ca cc : C} {i : Nat} {pos : Pos} (s1 : OpS X op1 p1 rr1) (s2 : OpS X op2 p2 rr2) (ha : PE X a (tQ X.K call ca)) (hb : PE X b (tQ X.K call (.bvar i))) (hc : PE X c (tQ X.K call cc)) (hm : lastMarks [op1, op2] [b, c] = false) :
    PE X (.Compare a [op1, op2] [b, c] pos) (tV X.K call (.and (.cmp p1 ca (.bvar i)) (.cmp p2 (.bvar i) cc))) ∧ PT X (.Compare a [op1, op2] [b, c] pos) (tT X.K call (.and (.cmp p1 ca (.bvar i)) (.cmp p2 (.bvar i) cc))) := by
  constructor
  · exact (pe_chain s1.op s2.op ha hb hc hm).imp fun σ H Q ⟨w, ρ, g, d, g', o, r, he, q⟩ =>
      chain_run s1.run s1.bl s2.run s2.bl o r he fun k ek w' H' o' x' => q w' H' _ o' x' (by rw [ek]; rfl)
  · exact (pt_chain s1.op s2.op ha hb hc hm).imp fun σ H Q ⟨w, ρ, g, d, k, g', o, r, he, ht, q⟩ =>
      chain_run s1.run s1.bl s2.run s2.bl o r he fun k' ek w' H' o' x' => ⟨k', rfl, by
        rw [ek] at ht; cases ht; exact q w' H' o' x'⟩
end
end Tv

/-! Tv3s: sorted of any number of rows of ints. -/
namespace Tv
open PySem
/-! the order of rows -/
theorem lexL_irr : ∀ x : List Int, lexL x x = false
  | [] => rfl
  | a :: r => by rw [lexL, if_pos rfl, lexL_irr r]
theorem lexL_asym : ∀ x y : List Int, lexL x y = true → lexL y x = false
  | [], [], h => by cases h
  | [], _ :: _, _ => rfl
  | _ :: _, [], h => by cases h
  | a :: r, b :: q, h => by
    rw [lexL] at h ⊢
    by_cases e : a = b
    · rw [if_pos e] at h
      rw [if_pos e.symm]
      exact lexL_asym r q h
    · rw [if_neg e, decide_eq_true_eq] at h
      rw [if_neg fun z => e z.symm]
      exact decide_eq_false (by omega)
theorem lexL_tr : ∀ x y z : List Int, lexL y x = false → lexL z y = false → lexL z x = false
  | [], _, [], _, _ => rfl
  | [], [], _ :: _, _, _ => rfl
  | [], _ :: _, _ :: _, _, _ => rfl
  | _ :: _, [], _, h, _ => by cases h
  | _ :: _, _ :: _, [], _, h => by cases h
  | a :: r, b :: q, c :: p, h1, h2 => by
    rw [lexL] at h1 h2 ⊢
    by_cases e1 : b = a
    · subst e1
      rw [if_pos rfl] at h1
      by_cases e2 : c = b
      · rw [if_pos e2] at h2 ⊢
        exact lexL_tr r q p h1 h2
      · rw [if_neg e2] at h2 ⊢
        exact h2
    · rw [if_neg e1, decide_eq_false_iff_not] at h1
      by_cases e2 : c = b
      · subst e2
        rw [if_neg e1]
        exact decide_eq_false h1
      · rw [if_neg e2, decide_eq_false_iff_not] at h2
        have : c ≠ a := by omega
        rw [if_neg this]
        exact decide_eq_false (by omega)
theorem lexL_anti : ∀ x y : List Int, lexL x y = false → lexL y x = false → x = y
  | [], [], _, _ => rfl
  | [], _ :: _, h, _ => by cases h
  | _ :: _, [], _, h => by cases h
  | a :: r, b :: q, h1, h2 => by
    rw [lexL] at h1 h2
    by_cases e : a = b
    · subst e
      rw [if_pos rfl] at h1 h2
      rw [lexL_anti r q h1 h2]
    · rw [if_neg e, decide_eq_false_iff_not] at h1
      rw [if_neg fun z => e z.symm, decide_eq_false_iff_not] at h2
      exact absurd (by omega) e
theorem perm_insertT (x : List Int) : ∀ l, (insertT x l).Perm (x :: l)
  | [] => .refl _
  | y :: r => by
    rw [insertT]
    split
    · exact ((perm_insertT x r).cons y).trans (.swap x y r)
    · exact .refl _
theorem perm_sortT : ∀ l, (sortT l).Perm l
  | [] => .refl _
  | x :: r => (perm_insertT x (sortT r)).trans ((perm_sortT r).cons x)
def LeT (x y : List Int) : Prop := lexL y x = false
theorem insertT_up (x : List Int) : ∀ {l : List (List Int)}, l.Pairwise LeT → (insertT x l).Pairwise LeT
  | [], _ => List.pairwise_singleton _ _
  | y :: r, h => by
    obtain ⟨h1, h2⟩ := List.pairwise_cons.mp h
    rw [insertT]
    split
    · rename_i hy
      refine List.pairwise_cons.mpr ⟨fun z hz => ?_, insertT_up x h2⟩
      rcases List.mem_cons.mp ((perm_insertT x r).mem_iff.mp hz) with rfl | hz
      · exact lexL_asym _ _ hy
      · exact h1 z hz
    · rename_i hy
      have hy' : lexL y x = false := Bool.eq_false_iff.mpr hy
      refine List.pairwise_cons.mpr ⟨fun z hz => ?_, h⟩
      rcases List.mem_cons.mp hz with rfl | hz
      · exact hy'
      · exact lexL_tr _ _ _ hy' (h1 z hz)
theorem sortT_up : ∀ l, (sortT l).Pairwise LeT
  | [] => .nil
  | x :: r => insertT_up x (sortT_up r)
theorem up_one : ∀ {l m : List (List Int)}, l.Perm m → l.Pairwise LeT → m.Pairwise LeT → l = m := fun {l m} p h1 h2 =>
  List.Perm.eq_of_pairwise (le := LeT) (fun x y _ _ a b => lexL_anti x y b a) h1 h2 p
end Tv

namespace L2
open PySem PySem.Spec PyProof.Rows
section
variable {prog : Program} {w : World} {A : Around} {s : Shared}
theorem rows_swo (f : Value → List Int) : SrtO.Swo fun v u => Tv.lexL (f v) (f u) :=
  ⟨fun x y h => Tv.lexL_asym _ _ h, fun x y z h1 h2 => Tv.lexL_tr _ _ _ h1 h2⟩
/-- two rows are compared -/
theorem rows_walk {b fin : Bool} {P : Bool → Shared → Prop} : ∀ {xs : List Value} {ns : List Int} (hx : IntsAre xs ns) {ys : List Value} {ms : List Int} (i : Nat) (hy : IntsAre ys ms) (hf : fin = decide (ns.length < ms.length)) (h : P (Tv.lexL ns ms) s), PySem.W.KatLex prog w A b fin P (xs.zip ys) i s := by
  intro xs ns hx
  induction hx with
  | nil =>
    intro ys ms i hy hf h
    cases hy with
    | nil =>
      refine PySem.W.kat_nil ?_
      subst hf
      exact h
    | cons q u hy =>
      refine PySem.W.kat_nil ?_
      subst hf
      simpa [Tv.lexL] using h
  | @cons p t xs ns hx ih =>
    intro ys ms i hy hf h
    cases hy with
    | nil =>
      refine PySem.W.kat_nil ?_
      subst hf
      simpa [Tv.lexL] using h
    | @cons q u ys ms hy =>
      have hf' : fin = decide (ns.length < ms.length) := by
        subst hf
        simp
      rw [Tv.lexL] at h
      rw [List.zip_cons_cons]
      refine PySem.W.kat_cons (wpAny_eqBool_int ?_)
      by_cases e : p = q
      · rw [if_pos e] at h
        subst e
        rw [beq_self_eq_true]
        exact PySem.W.kat_yes (ih (i + 1) hy hf' h)
      · rw [if_neg e] at h
        have e' : (p == q) = false := beq_eq_false_iff_ne.mpr e
        rw [e']
        exact PySem.W.kat_no (TS.oneLt_ints _ h)
/-- every row has a first number -/
def RowsIn (h : Heap) (vs : List Value) : Prop := ∀ v ∈ vs, ∃ ns, TS.TupInts h v ns ∧ ns ≠ []
theorem rows_first {h : Heap} : ∀ vs : List Value, RowsIn h vs → ∃ fs, PySem.W.KatTups h vs fs ∧ fs.length = vs.length ∧ ∀ f ∈ fs, ∃ n t, f = Value.int n t
  | [], _ => ⟨[], .nil, rfl, fun f hf => (List.not_mem_nil hf).elim⟩
  | v :: vs, x => by
    obtain ⟨fs, k, hl, hi⟩ := rows_first vs fun u hu => x u (List.mem_cons_of_mem _ hu)
    obtain ⟨ns, ⟨a, xs, rfl, ⟨o, ho, hc, n, hd⟩, i⟩, hn⟩ := x v List.mem_cons_self
    have : ∃ y ys m t, xs.toList = y :: ys ∧ y = Value.int m t := by
      generalize xs.toList = L at i
      cases i with
      | nil => exact absurd rfl hn
      | cons m t r => exact ⟨_, _, m, t, rfl, rfl⟩
    obtain ⟨y, ys, m, t, e, rfl⟩ := this
    have e0 : xs[0]? = some (Value.int m t) := by
      have z : xs.toList[0]? = some (Value.int m t) := by rw [e]; rfl
      rwa [Array.getElem?_toList] at z
    refine ⟨Value.int m t :: fs, PySem.W.KatTups.cons ho hc hd e0 k, by rw [List.length_cons, List.length_cons, hl], fun f hf => ?_⟩
    rcases List.mem_cons.mp hf with rfl | hf
    · exact ⟨m, t, rfl⟩
    · exact hi f hf
theorem RowsIn.keeps {h h' : Heap} {vs : List Value} (x : RowsIn h vs) (k : ∀ b o, h.get? b = some o → o.cls = .type "tuple" → h'.get? b = some o) : RowsIn h' vs := fun v hv =>
  let ⟨ns, t, r⟩ := x v hv
  ⟨ns, t.keeps k, r⟩
theorem rows_cmp {vs : List Value} {f : Value → List Int} (hp : ∀ v ∈ vs, TS.TupInts s.heap v (f v)) : SrtO.Cmp prog w A s (tuples' true) (fun p => p.1 ∈ vs) (SrtO.lt2 fun v u => Tv.lexL (f v) (f u)) := by
  intro p q hm hm'
  obtain ⟨a, xs, e1, ⟨o, ho, hc, n, hd⟩, i⟩ := hp _ hm
  obtain ⟨b, ys, e2, ⟨o', ho', hc', n', hd'⟩, j⟩ := hp _ hm'
  show wpAny (model prog w) A (keyLt' (tuples' true) p.1 q.1) (fun r s' => s' = s ∧ r = Tv.lexL (f p.1) (f q.1)) (fun _ _ => False) s
  generalize f p.1 = ns at i
  generalize f q.1 = ms at j
  rw [e1, e2]
  refine PySem.W.kat_lt ho hd ho' hd' (rows_walk i 0 j ?_ ⟨rfl, rfl⟩)
  have l1 := i.length
  have l2 := j.length
  rw [Array.length_toList] at l1 l2
  rw [l1, l2]
theorem rows_sortable {a : Addr} {vs : List Value} {f : Value → List Int} (h0 : 0 < vs.length) (hp : ∀ v ∈ vs, TS.TupInts s.heap v (f v) ∧ f v ≠ []) (ha : ∀ o, s.heap.get? a = some o → o.cls ≠ .type "tuple") : SrtO.SortableO prog w A s a vs fun v u => Tv.lexL (f v) (f u) := by
  intro h' keep
  have kt : ∀ b o, s.heap.get? b = some o → o.cls = .type "tuple" → h'.get? b = some o := fun b o e c => keep b o (fun z => ha o (z ▸ e) c) e
  obtain ⟨fs, h1, h2, h3⟩ := rows_first (h := h') vs fun v hv => ⟨f v, (hp v hv).1.keeps kt, (hp v hv).2⟩
  refine ⟨tuples' true, fun Q E hq => ?_, rows_cmp fun v hv => (hp v hv).1.keeps kt⟩
  refine PySem.W.kat_kind (T := .type "int") h1 (by omega) (fun u hm => ?_) (by rfl) ?_
  · obtain ⟨x, t, rfl⟩ := h3 u hm
    exact PySem.W.Looks.now
  · rw [show (Value.type "int" != Value.type "tuple") = true by first | rfl | decide +kernel]
    exact hq
end
/-- sorted(xs), xs a list of any number of rows of ints -/
def rSortRows (K : PySem.W.Frag) : List V → Hp → VK → Prop := fun vs H Q => ∃ (a : Addr) (xs : List V), vs = [V.ref a] ∧ SqL K H a xs ∧ (∀ x ∈ xs, ∃ ns, TupI K H x ns ∧ ns ≠ []) ∧
  ∀ (ys : List V) (p : Addr), ys.Perm xs → (∃ f : V → List Int, (∀ x ∈ xs, ∀ ns, TupI K H x ns → f x = ns) ∧ (ys.map f).Pairwise Tv.LeT) → H p = none → Q (.ref p) (upd H p (.lst ys))
section
variable {X : Cx}
def bkR : V → Value
  | .ref a => .ref a
  | _ => .none
theorem cr_sortRows : CallR X (.builtin "sorted") (rSortRows X.K) := by
  intro pins s σ H vs us Q I r h
  obtain ⟨a, xs, rfl, hs, hx, q⟩ := h
  obtain ⟨its, rv, hl, hz⟩ := I.list hs
  rw [Vals.ref1 r]
  obtain ⟨e1, e2⟩ := bkV_refs rv fun x m => by
    obtain ⟨ns, ⟨t, e, _⟩, _⟩ := hx x m
    exact ⟨t, e⟩
  have key : ∀ v ∈ its, TS.TupInts s.heap v (TS.intsOf s.heap v) ∧ TS.intsOf s.heap v ≠ [] := fun v hv => by
    obtain ⟨t, rfl⟩ := e2 v hv
    have hm : V.ref t ∈ xs := by
      rw [e1]
      exact List.mem_map.mpr ⟨_, hv, rfl⟩
    obtain ⟨ns, ⟨t', e, ht⟩, hn⟩ := hx _ hm
    cases e
    have k := tupI_raw I ht
    rw [k.ints]
    exact ⟨k, hn⟩
  refine SrtO.sorted_ord (rows_swo (TS.intsOf s.heap)) hl.isList (by rw [← rv.length]; exact hz) (fun h2 h₁ a' ha kk => ?_) fun out h1 h2 => ?_
  · refine rows_sortable (s := { s with heap := h₁ }) (by omega) (fun v hv => ⟨(key v hv).1.keeps fun b o e _ => (kk b o e).2, (key v hv).2⟩) fun o e => ?_
    rw [ha] at e
    cases e
    exact fun c => absurd (Value.type.inj c) (by decide)
  · obtain ⟨ep, he'⟩ := PyProof.Rows.sortedAll_at s.heap its out.toArray
    have h3 : ∀ u ∈ out, ∃ a, u = Value.ref a := fun u hu => e2 u (h2.perm.mem_iff.mp hu)
    have hp : (out.map bkV).Perm xs := by
      rw [e1]
      exact h2.perm.map bkV
    have hlen : (out.map bkV).length ≤ sizeLine := by rw [hp.length_eq]; exact hz
    refine ⟨.ref _, upd H (s.heap.objs.size + 1) (.lst (out.map bkV)), I.laid (t' := s.toks) (fun _ _ => PyProof.Rows.sortedAll_old) (Nat.le_succ _) ⟨hlen, out, ep, bkV_vals h3, he'⟩, rfl, q _ _ hp ⟨fun x => TS.intsOf s.heap (bkR x), fun x m ns ⟨t, ex, ht⟩ => ?_, ?_⟩ (I.hok.fresh (Nat.le_succ _))⟩
    · subst ex
      exact (tupI_raw I ht).ints
    · rw [List.map_map, List.pairwise_map]
      refine List.Pairwise.imp_of_mem (fun {u v} hu hv huv => ?_) h1
      obtain ⟨c, rfl⟩ := h3 u hu
      obtain ⟨d, rfl⟩ := h3 v hv
      exact huv
end
end L2

/-! Tv4: arguments, displays, calls, built-ins, tests, slices, walks, targets, comprehensions. -/
namespace Tv
open PySem L2
def RepQs (K : Frag) (w : W) (H : Hp) : List D → List V → Prop
  | [], [] => True
  | d :: ds, v :: vs => RepQ K w H d v ∧ RepQs K w H ds vs
  | _, _ => False
theorem RepQs.ext {K : Frag} {w w' : W} {H H' : Hp} (e : Ext w H w' H') : ∀ {ds : List D} {vs : List V}, RepQs K w H ds vs → RepQs K w' H' ds vs
  | [], [], h => h
  | _ :: _, _ :: _, h => ⟨h.1.ext e, RepQs.ext e h.2⟩
  | [], _ :: _, h => h.elim
  | _ :: _, [], h => h.elim
def tAQ (K : Frag) (call : Calls) (cs : List C) : TA := fun σ H Q => ∃ w ρ g ds g', Ok w H g ∧ Rel K w H ρ σ ∧ evs call cs ρ g = some (ds, g') ∧ ∀ w' H' vs, Ok w' H' g' → Ext w H w' H' → RepQs K w' H' ds vs → Q vs H'
section
variable {X : Cx} {call : Calls}

/-! ### arguments -/
theorem a_nil : PA X [] (tA X.K call []) := pa_nil.imp fun σ H Q ⟨w, ρ, g, ds, g', o, r, he, q⟩ => by
  simp only [evs] at he; cases he
  exact q w H [] o (Ext.refl _ _) trivial
theorem a_cons {e : Expr} {es : List Expr} {c : C} {cs : List C} (ha : PE X e (tV X.K call c)) (hr : PA X es (tA X.K call cs)) (hs : starEach (e :: es) X.env = (false, eval e X.env) :: starEach es X.env) : PA X (e :: es) (tA X.K call (c :: cs)) :=
  (pa_cons ha hr hs).imp fun σ H Q ⟨w, ρ, g, ds, g', o, r, he, q⟩ => by
    simp only [evs] at he
    obtain ⟨d, g1, e1, he⟩ := bnd_eq he
    obtain ⟨ds', g2, e2, he⟩ := bnd_eq he
    cases he
    exact ⟨w, ρ, g, d, g1, o, r, e1, fun w1 H1 v o1 x1 y1 => ⟨w1, ρ, g1, ds', _, o1, r.ext x1, e2, fun w2 H2 vs o2 x2 y2 => q w2 H2 (v :: vs) o2 (x1.trans x2) ⟨y1.mono x2.le, y2⟩⟩⟩
theorem aq_nil : PA X [] (tAQ X.K call []) := pa_nil.imp fun σ H Q ⟨w, ρ, g, ds, g', o, r, he, q⟩ => by
  simp only [evs] at he; cases he
  exact q w H [] o (Ext.refl _ _) trivial
theorem aq_cons {e : Expr} {es : List Expr} {c : C} {cs : List C} (ha : PE X e (tQ X.K call c)) (hr : PA X es (tAQ X.K call cs)) (hs : starEach (e :: es) X.env = (false, eval e X.env) :: starEach es X.env) : PA X (e :: es) (tAQ X.K call (c :: cs)) :=
  (pa_cons ha hr hs).imp fun σ H Q ⟨w, ρ, g, ds, g', o, r, he, q⟩ => by
    simp only [evs] at he
    obtain ⟨d, g1, e1, he⟩ := bnd_eq he
    obtain ⟨ds', g2, e2, he⟩ := bnd_eq he
    cases he
    exact ⟨w, ρ, g, d, g1, o, r, e1, fun w1 H1 v o1 x1 y1 => ⟨w1, ρ, g1, ds', _, o1, r.ext x1, e2, fun w2 H2 vs o2 x2 y2 => q w2 H2 (v :: vs) o2 (x1.trans x2) ⟨y1.ext x2, y2⟩⟩⟩
theorem evs_len : ∀ {cs : List C} {ρ : Env} {g g' : GS} {ds : List D}, evs call cs ρ g = some (ds, g') → ds.length = cs.length
  | [], _, _, _, _, h => by simp only [evs] at h; cases h; rfl
  | c :: cs, ρ, g, g', ds, h => by
    simp only [evs] at h
    obtain ⟨d, g1, e1, h⟩ := bnd_eq h
    obtain ⟨ds', g2, e2, h⟩ := bnd_eq h
    cases h
    simp [evs_len e2]

/-! ### displays -/
theorem v_tup {es : List Expr} {cs : List C} {x1 : Nat} {pos : Pos} (h : PA X es (tA X.K call cs)) (hl : cs.length ≤ sizeLine) : PE X (.Tuple es x1 pos) (tV X.K call (.tup cs)) :=
  (pe_tup h).imp fun σ H Q ⟨w, ρ, g, z, g', o, r, he, q⟩ => by
    simp only [ev] at he
    obtain ⟨ds, g1, e1, he⟩ := bnd_eq he
    cases he
    refine ⟨w, ρ, g, ds, g', o, r, e1, fun w1 H1 vs o1 x1 y1 => ⟨by rw [← y1.len, evs_len e1]; exact hl, fun p np => ?_⟩⟩
    exact q _ _ _ (o1.add np) (x1.trans (Ext.add o1 np)) ⟨p, vs, rfl, .inl (.inl upd_same), y1.mono (Le.add (o1.free np))⟩
theorem f_lst {es : List Expr} {cs : List C} {pos : Pos} (h : PA X es (tA X.K call cs)) (hl : cs.length ≤ sizeLine) : PE X (.List es pos) (tF X.K call (.lst cs)) :=
  (pe_lst h).imp fun σ H Q ⟨w, ρ, g, z, g', o, r, he, q⟩ => by
    simp only [ev] at he
    obtain ⟨ds, g1, e1, he⟩ := bnd_eq he
    cases he
    exact ⟨w, ρ, g, _, g', o, r, e1, fun w1 H1 vs o1 x1 y1 => ⟨by rw [← y1.len, evs_len e1]; exact hl, fun p np => q w1 H1 p vs o1 x1 np y1⟩⟩

/-- the drawing state of the second kind is made -/
theorem two_new {w : W} {H : Hp} {p : Addr} (o : Ok w H .none) (n : H p = none) :
    Ok ⟨w.F, [p]⟩ (upd H p (.lst [.int 0, .int 0])) (.two 0 0) ∧ Ext w H ⟨w.F, [p]⟩ (upd H p (.lst [.int 0, .int 0])) := by
  have hst : w.st = [] := o.st
  refine ⟨⟨fun b u e => ?_, ⟨p, rfl, upd_same⟩, fun b m => ?_⟩, ⟨Same.refl _, .inl hst, fun b u h m => ?_, fun b u h => .inl h, fun b m => ?_, fun b h => ?_⟩⟩
  · have hb := o.same b u e
    rw [upd_ne (ne_of_none hb n)]
    exact hb
  · have m' : b ∈ [p] := m
    simp only [List.mem_cons, List.not_mem_nil, or_false] at m'
    subst m'
    exact o.free n
  · rw [upd_ne (ne_of_none h n)]; exact h
  · have m' : b ∈ [p] := m
    simp only [List.mem_cons, List.not_mem_nil, or_false] at m'
    subst m'
    exact .inr n
  · by_cases e1 : b = p
    · subst e1; exact n
    · rw [upd_ne e1] at h
      exact h
theorem e_st2 {i j : Nat} {p q pos : Pos} : PE X (.List [.Constant (.int 0) i p, .Constant (.int 0) j q] pos) (tV X.K call .st2) :=
  (pe_lst (pa_cons pe_int (pa_cons pe_int pa_nil))).imp fun σ H Q ⟨w, ρ, g, d, g', o, r, he, k⟩ => by
    cases g with
    | none =>
      cases he
      refine ⟨by unfold sizeLine; decide, fun p hp => ?_⟩
      obtain ⟨o', x'⟩ := two_new o hp
      exact k _ _ _ o' x' ⟨p, rfl, rfl⟩
    | one _ _ => cases he
    | two _ _ => cases he

/-! ### calls of the text's defs -/
def spT (K : Frag) (call : Calls) (f : Nat) : Sp := fun vs H Q _ => ∃ w ds g d g', Ok w H g ∧ Reps K w ds vs ∧ call f ds g = some (d, g') ∧ ∀ w' H' v, Ok w' H' g' → Ext w H w' H' → Rep K w' d v → Q v H'
/-- the def number f, by its name x, may be called here -/
structure CallOk (X : Cx) (call : Calls) (f : Nat) (x : Str) : Prop where
  ex : ∃ (fa : Addr) (fd : FuncData) (ps : List Str) (k : Nat), FnOk X.prog X.w X.K X.mg X.base CX0 k fa fd ps (spT X.K call f) ∧ Room k X.A ∧ X.mg x = some (.ref fa) ∧ PySem.W.keepIn X.K (.ref fa) = true ∧ Binds X.K fd ps []
theorem v_call {f : Nat} {x : Str} {p pos : Pos} {e : Expr} {es : List Expr} {cs : List C} (F : CallOk X call f x) (hg : Gl X x) (ha : PA X (e :: es) (tA X.K call cs)) (hdb : (x == ("__debug__" : Str)) = false)
    (he : starEach (e :: es) X.env = (false, eval e X.env) :: starEach es X.env) (hpl : (backTo pos (starEach es X.env)).any (·.1) = false) : PE X (.Call (.Name x p) (e :: es) [] pos) (tV X.K call (.call f cs)) := by
  obtain ⟨fa, fd, ps, k, F, hr, hm, hk, hb⟩ := F.ex
  refine (pe_call F hr hg hm hk hb .nil (pass0 (X := X)) ha hdb he hpl).imp fun σ H Q ⟨w, ρ, g, z, g', o, r, hev, q⟩ => ?_
  simp only [ev] at hev
  obtain ⟨ds, g1, e1, hev⟩ := bnd_eq hev
  exact ⟨w, ρ, g, ds, g1, o, r, e1, fun w1 H1 vs o1 x1 y1 => ⟨w1, ds, g1, z, g', o1, by rw [List.append_nil]; exact y1, hev, fun w2 H2 v o2 x2 y2 => q w2 H2 v o2 (x1.trans x2) y2⟩⟩
theorem v_call0 {f : Nat} {x : Str} {p pos : Pos} (F : CallOk X call f x) (hg : Gl X x) (hdb : (x == ("__debug__" : Str)) = false) : PE X (.Call (.Name x p) [] [] pos) (tV X.K call (.call f [])) := by
  obtain ⟨fa, fd, ps, k, F, hr, hm, hk, hb⟩ := F.ex
  refine (pe_call0 F hr hg hm hk hb .nil (pass0 (X := X)) hdb).imp fun σ H Q ⟨w, ρ, g, z, g', o, r, hev, q⟩ => ?_
  simp only [ev, evs, bnd_some] at hev
  exact ⟨w, [], g, z, g', o, trivial, hev, q⟩

/-! ### built-ins -/
theorem bi_v {b : Bi} {cs : List C} {e : Expr} {rr : List V → Hp → VK → Prop} (h : PE X e (tCB rr (tAQ X.K call cs)))
    (hr : ∀ ds z w H g vs (Q : VK), biD b ds = some z → Ok w H g → RepQs X.K w H ds vs → (∀ w' H' v, Ok w' H' g → Ext w H w' H' → Rep X.K w' z v → Q v H') → rr vs H Q) : PE X e (tV X.K call (.bi b cs)) :=
  h.imp fun σ H Q ⟨w, ρ, g, z, g', o, r, he, q⟩ => by
    simp only [ev] at he
    obtain ⟨ds, g1, e1, he⟩ := bnd_eq he
    rw [Option.map_eq_some_iff] at he
    obtain ⟨z', e2, e3⟩ := he
    cases e3
    exact ⟨w, ρ, g, ds, _, o, r, e1, fun w1 H1 vs o1 x1 y1 => hr ds z w1 H1 _ vs Q e2 o1 y1 fun w2 H2 v o2 x2 y2 => q w2 H2 v o2 (x1.trans x2) y2⟩
theorem bi_f {b : Bi} {cs : List C} {e : Expr} {rr : List V → Hp → VK → Prop} (h : PE X e (tCB rr (tAQ X.K call cs)))
    (hr : ∀ ds xs w H g vs (Q : VK), biD b ds = some (.lst xs) → Ok w H g → RepQs X.K w H ds vs → (∀ p us, H p = none → Reps X.K w xs us → Q (.ref p) (upd H p (.lst us))) → rr vs H Q) : PE X e (tF X.K call (.bi b cs)) :=
  h.imp fun σ H Q ⟨w, ρ, g, z, g', o, r, he, q⟩ => by
    simp only [ev] at he
    obtain ⟨ds, g1, e1, he⟩ := bnd_eq he
    rw [Option.map_eq_some_iff] at he
    obtain ⟨z', e2, e3⟩ := he
    cases e3
    exact ⟨w, ρ, g, ds, _, o, r, e1, fun w1 H1 vs o1 x1 y1 => hr ds z w1 H1 _ vs Q e2 o1 y1 fun p us n k => q w1 H1 p us o1 x1 n k⟩
theorem un_eq {f : D → Option D} {ds : List D} {z : D} (h : un f ds = some z) : ∃ d, ds = [d] ∧ f d = some z := by
  unfold un at h
  split at h
  · exact ⟨_, rfl, h⟩
  · cases h
theorem two_eq {f : Int → Int → D} {ds : List D} {z : D} (h : two f ds = some z) : ∃ i j, ds = [.int i, .int j] ∧ z = f i j := by
  unfold two at h
  split at h
  · cases h; exact ⟨_, _, rfl, rfl⟩
  · cases h
theorem RepQs.one {K : Frag} {w : W} {H : Hp} {d : D} {vs : List V} (h : RepQs K w H [d] vs) : ∃ v, vs = [v] ∧ RepQ K w H d v := by
  cases vs with
  | nil => exact h.elim
  | cons v vs =>
    cases vs with
    | nil => exact ⟨v, rfl, h.1⟩
    | cons _ _ => exact h.2.elim
theorem RepQs.two {K : Frag} {w : W} {H : Hp} {d e : D} {vs : List V} (h : RepQs K w H [d, e] vs) : ∃ v u, vs = [v, u] ∧ RepQ K w H d v ∧ RepQ K w H e u := by
  cases vs with
  | nil => exact h.elim
  | cons v vs =>
    obtain ⟨u, rfl, h2⟩ := RepQs.one h.2
    exact ⟨v, u, rfl, h.1, h2⟩
section
variable {e : Expr} {x : Str} {cs : List C} {T : Value}
/-- how a call of a built-in is asked: by its name's value -/
def ByB (X : Cx) (call : Calls) (e : Expr) (f : Value) (cs : List C) : Prop := ∀ r : List V → Hp → VK → Prop, CallR X f r → PE X e (tCB r (tAQ X.K call cs))
theorem b_len (h : ByB X call e (.builtin "len") cs) : PE X e (tV X.K call (.bi .len cs)) :=
  bi_v (h _ call_len_seq) fun ds z w H g vs Q e0 o r0 k => by
    obtain ⟨d, rfl, ez⟩ := un_eq e0
    obtain ⟨v, rfl, r⟩ := r0.one
    unfold lenD at ez
    split at ez
    · cases ez
      obtain ⟨a, us, rfl, h1, _, h2⟩ := r
      exact ⟨a, us, rfl, .inl (.inl (.inl h1)), k w H _ o (Ext.refl _ _) (by rw [h2.len]; rfl)⟩
    · cases ez
      obtain ⟨a, us, rfl, h1, h2⟩ := r
      exact ⟨a, us, rfl, .inr (SqT.same o.same h1), k w H _ o (Ext.refl _ _) (by rw [h2.len]; rfl)⟩
    · cases ez
theorem b_abs (h : ByB X call e (.builtin "abs") cs) : PE X e (tV X.K call (.bi .abs cs)) :=
  bi_v (h _ call_abs) fun ds z w H g vs Q e0 o r0 k => by
    obtain ⟨d, rfl, ez⟩ := un_eq e0
    obtain ⟨v, rfl, r⟩ := r0.one
    unfold absD at ez
    split at ez
    · cases ez
      exact ⟨_, by rw [show v = .int _ from r], k w H _ o (Ext.refl _ _) rfl⟩
    · cases ez
theorem b_int (h : ByB X call e (.type "int") cs) : PE X e (tV X.K call (.bi .int cs)) :=
  bi_v (h _ call_int1) fun ds z w H g vs Q e0 o r0 k => by
    obtain ⟨d, rfl, ez⟩ := un_eq e0
    obtain ⟨v, rfl, r⟩ := r0.one
    unfold toInt at ez
    split at ez
    · cases ez
      exact .inl ⟨_, by rw [show v = .int _ from r], k w H _ o (Ext.refl _ _) rfl⟩
    · cases ez
      exact .inr ⟨_, by rw [show v = .bl _ from r], k w H _ o (Ext.refl _ _) rfl⟩
    · cases ez
theorem b_sum (hc : X.calm = true) (h : ByB X call e (.builtin "sum") cs) : PE X e (tV X.K call (.bi .sum cs)) :=
  bi_v (h _ (cr_sum hc)) fun ds z w H g vs Q e0 o r0 k => by
    obtain ⟨d, rfl, ez⟩ := un_eq e0
    obtain ⟨v, rfl, r⟩ := r0.one
    unfold sumD at ez
    split at ez
    · rw [Option.map_eq_some_iff] at ez
      obtain ⟨ns, e1, e2⟩ := ez
      cases e2
      obtain ⟨a, us, rfl, h1, _, h2⟩ := r
      rw [h2.ints e1] at h1
      exact ⟨a, ns, rfl, .inl (.inl h1), k w H _ o (Ext.refl _ _) rfl⟩
    · cases ez
theorem b_all (hc : X.calm = true) (h : ByB X call e (.builtin "all") cs) : PE X e (tV X.K call (.bi .all cs)) :=
  bi_v (h _ (cr_all hc)) fun ds z w H g vs Q e0 o r0 k => by
    obtain ⟨d, rfl, ez⟩ := un_eq e0
    obtain ⟨v, rfl, r⟩ := r0.one
    unfold allD at ez
    split at ez
    · rw [Option.map_eq_some_iff] at ez
      obtain ⟨ns, e1, e2⟩ := ez
      cases e2
      obtain ⟨a, us, rfl, h1, _, h2⟩ := r
      rw [h2.bools e1] at h1
      exact ⟨a, ns, rfl, .inl (.inl h1), k w H _ o (Ext.refl _ _) rfl⟩
    · cases ez
theorem b_any (hc : X.calm = true) (h : ByB X call e (.builtin "any") cs) : PE X e (tV X.K call (.bi .any cs)) :=
  bi_v (h _ (cr_any hc)) fun ds z w H g vs Q e0 o r0 k => by
    obtain ⟨d, rfl, ez⟩ := un_eq e0
    obtain ⟨v, rfl, r⟩ := r0.one
    unfold allD at ez
    split at ez
    · rw [Option.map_eq_some_iff] at ez
      obtain ⟨ns, e1, e2⟩ := ez
      cases e2
      obtain ⟨a, us, rfl, h1, _, h2⟩ := r
      rw [h2.bools e1] at h1
      exact ⟨a, ns, rfl, .inl (.inl h1), k w H _ o (Ext.refl _ _) rfl⟩
    · cases ez
theorem minI_le : ∀ (m : Int) (r : List Int), minI m r ≤ m ∧ (∀ y ∈ r, minI m r ≤ y) ∧ (minI m r = m ∨ minI m r ∈ r)
  | m, [] => ⟨Int.le_refl _, fun _ h => (by cases h), .inl rfl⟩
  | m, x :: r => by
    obtain ⟨h1, h2, h3⟩ := minI_le (if x < m then x else m) r
    show minI (if x < m then x else m) r ≤ m ∧ _
    by_cases hx : x < m
    · rw [if_pos hx] at h1 h2 h3
      refine ⟨by rw [if_pos hx]; omega, fun y hy => ?_, .inr ?_⟩
      · rw [minI, if_pos hx]
        rcases List.mem_cons.mp hy with e | e
        · rw [e]; exact h1
        · exact h2 y e
      · rw [minI, if_pos hx]
        rcases h3 with e | e
        · rw [e]; exact List.mem_cons_self ..
        · exact List.mem_cons_of_mem _ e
    · rw [if_neg hx] at h1 h2 h3
      refine ⟨by rw [if_neg hx]; exact h1, fun y hy => ?_, ?_⟩
      · rw [minI, if_neg hx]
        rcases List.mem_cons.mp hy with e | e
        · rw [e]; omega
        · exact h2 y e
      · rw [minI, if_neg hx]
        rcases h3 with e | e
        · exact .inl e
        · exact .inr (List.mem_cons_of_mem _ e)
theorem maxI_le : ∀ (m : Int) (r : List Int), m ≤ maxI m r ∧ (∀ y ∈ r, y ≤ maxI m r) ∧ (maxI m r = m ∨ maxI m r ∈ r)
  | m, [] => ⟨Int.le_refl _, fun _ h => (by cases h), .inl rfl⟩
  | m, x :: r => by
    obtain ⟨h1, h2, h3⟩ := maxI_le (if m < x then x else m) r
    show m ≤ maxI (if m < x then x else m) r ∧ _
    by_cases hx : m < x
    · rw [if_pos hx] at h1 h2 h3
      refine ⟨by rw [if_pos hx]; omega, fun y hy => ?_, .inr ?_⟩
      · rw [maxI, if_pos hx]
        rcases List.mem_cons.mp hy with e | e
        · rw [e]; exact h1
        · exact h2 y e
      · rw [maxI, if_pos hx]
        rcases h3 with e | e
        · rw [e]; exact List.mem_cons_self ..
        · exact List.mem_cons_of_mem _ e
    · rw [if_neg hx] at h1 h2 h3
      refine ⟨by rw [if_neg hx]; exact h1, fun y hy => ?_, ?_⟩
      · rw [maxI, if_neg hx]
        rcases List.mem_cons.mp hy with e | e
        · rw [e]; omega
        · exact h2 y e
      · rw [maxI, if_neg hx]
        rcases h3 with e | e
        · exact .inl e
        · exact .inr (List.mem_cons_of_mem _ e)
theorem bestD_eq {f : Int → List Int → Int} {d z : D} (h : bestD f d = some z) : ∃ xs n r, d = .lst xs ∧ intsOf xs = some (n :: r) ∧ z = .int (f n r) := by
  unfold bestD at h
  split at h
  · split at h
    · rename_i hx; cases h; exact ⟨_, _, _, rfl, hx, rfl⟩
    · cases h
  · cases h
theorem b_max (hc : X.calm = true) (h : ByB X call e (.builtin "max") cs) : PE X e (tV X.K call (.bi .max cs)) :=
  bi_v (h _ (cr_max hc)) fun ds z w H g vs Q e0 o r0 k => by
    obtain ⟨d, rfl, ez⟩ := un_eq e0
    obtain ⟨v, rfl, r⟩ := r0.one
    obtain ⟨xs, n, r', rfl, e1, rfl⟩ := bestD_eq ez
    obtain ⟨a, us, rfl, h1, _, h2⟩ := r
    rw [h2.ints e1] at h1
    refine ⟨a, n :: r', rfl, .inl (.inl h1), Nat.succ_pos _, fun m hm hb => ?_⟩
    obtain ⟨k1, k2, k3⟩ := maxI_le n r'
    have em : m = maxI n r' := by
      have m1 : m ≤ maxI n r' := by
        rcases List.mem_cons.mp hm with e | e
        · rw [e]; exact k1
        · exact k2 m e
      have m2 : maxI n r' ≤ m := by
        rcases k3 with e | e
        · rw [e]; exact hb n (List.mem_cons_self ..)
        · exact hb _ (List.mem_cons_of_mem _ e)
      omega
    rw [em]
    exact k w H _ o (Ext.refl _ _) rfl
theorem b_min (hc : X.calm = true) (h : ByB X call e (.builtin "min") cs) : PE X e (tV X.K call (.bi .min cs)) :=
  bi_v (h _ (cr_min hc)) fun ds z w H g vs Q e0 o r0 k => by
    obtain ⟨d, rfl, ez⟩ := un_eq e0
    obtain ⟨v, rfl, r⟩ := r0.one
    obtain ⟨xs, n, r', rfl, e1, rfl⟩ := bestD_eq ez
    obtain ⟨a, us, rfl, h1, _, h2⟩ := r
    rw [h2.ints e1] at h1
    refine ⟨a, n :: r', rfl, .inl (.inl h1), Nat.succ_pos _, fun m hm hb => ?_⟩
    obtain ⟨k1, k2, k3⟩ := minI_le n r'
    have em : m = minI n r' := by
      have m1 : minI n r' ≤ m := by
        rcases List.mem_cons.mp hm with e | e
        · rw [e]; exact k1
        · exact k2 m e
      have m2 : m ≤ minI n r' := by
        rcases k3 with e | e
        · rw [e]; exact hb n (List.mem_cons_self ..)
        · exact hb _ (List.mem_cons_of_mem _ e)
      omega
    rw [em]
    exact k w H _ o (Ext.refl _ _) rfl
theorem b_max2 (hc : X.calm = true) (h : ByB X call e (.builtin "max") cs) : PE X e (tV X.K call (.bi .max2 cs)) :=
  bi_v (h _ (call_max2 hc)) fun ds z w H g vs Q e0 o r0 k => by
    obtain ⟨i, j, rfl, rfl⟩ := two_eq e0
    obtain ⟨v, u, rfl, r1, r2⟩ := r0.two
    exact ⟨i, j, by rw [show v = .int _ from r1, show u = .int _ from r2], k w H _ o (Ext.refl _ _) rfl⟩
theorem b_min2 (hc : X.calm = true) (h : ByB X call e (.builtin "min") cs) : PE X e (tV X.K call (.bi .min2 cs)) :=
  bi_v (h _ (call_min2 hc)) fun ds z w H g vs Q e0 o r0 k => by
    obtain ⟨i, j, rfl, rfl⟩ := two_eq e0
    obtain ⟨v, u, rfl, r1, r2⟩ := r0.two
    exact ⟨i, j, by rw [show v = .int _ from r1, show u = .int _ from r2], k w H _ o (Ext.refl _ _) rfl⟩
theorem b_gcd (h : ByB X call e (.builtin "math.gcd") cs) : PE X e (tV X.K call (.bi .gcd cs)) :=
  bi_v (h _ cr_gcd) fun ds z w H g vs Q e0 o r0 k => by
    obtain ⟨i, j, rfl, rfl⟩ := two_eq e0
    obtain ⟨v, u, rfl, r1, r2⟩ := r0.two
    exact ⟨i, j, by rw [show v = .int _ from r1, show u = .int _ from r2], k w H _ o (Ext.refl _ _) rfl⟩
theorem cr_isqrt : CallR X (.builtin "math.isqrt") (fun vs H Q => ∃ a : Int, vs = [.int a] ∧ 0 ≤ a ∧ a < 2 ^ 64 ∧ Q (.int ((Float64.isqrt a.toNat : Nat) : Int)) H) := by
  intro pins s σ H vs us Q I r h
  obtain ⟨a, rfl, h0, h1, q⟩ := h
  obtain ⟨u, rfl, ru⟩ := r.one
  obtain ⟨t, rfl⟩ := ru
  exact PySem.W.mg_isqrt h0 h1 ⟨.int _, H, I.tok _, ⟨_, rfl⟩, q⟩
theorem b_isqrt (h : ByB X call e (.builtin "math.isqrt") cs) : PE X e (tV X.K call (.bi .isqrt cs)) :=
  bi_v (h _ cr_isqrt) fun ds z w H g vs Q e0 o r0 k => by
    obtain ⟨d, rfl, ez⟩ := un_eq e0
    obtain ⟨v, rfl, r⟩ := r0.one
    unfold isqrtD at ez
    split at ez
    · split at ez
      · rename_i i hi
        cases ez
        exact ⟨i, by rw [show v = .int _ from r], hi.1, hi.2, k w H _ o (Ext.refl _ _) rfl⟩
      · cases ez
    · cases ez
/-! isinstance -/
def tyS : Nat → String
  | 0 => "int"
  | 1 => "bool"
  | 2 => "NoneType"
  | 3 => "str"
  | 4 => "tuple"
  | _ => "list"
theorem kit_all : ∀ i < 6, ∀ j < 6, kitB (tyS i) (tyS j) = some (i == j || (i == 1 && j == 0)) := by decide +kernel
theorem kind_lt {d : D} {i : Nat} (h : kind d = some i) : i < 6 := by
  unfold kind at h
  split at h <;> first | (cases h; decide) | cases h
theorem kind_ty {K : Frag} {w : W} {H : Hp} {g : GS} {d : D} {v : V} {i : Nat} (o : Ok w H g) (r : RepQ K w H d v) (h : kind d = some i) : TyX K H v (.type (tyS i)) := by
  unfold kind at h
  split at h
  · cases h; rw [show v = .int _ from r]; exact .base (.int _)
  · cases h; rw [show v = .bl _ from r]; exact .base (.bl _)
  · cases h; rw [show v = .non from r]; exact .base .non
  · cases h; rw [show v = .str _ from r]; exact .base (.str _)
  · cases h
    obtain ⟨a, vs, rfl, h1, _⟩ := r
    rcases SqT.same o.same h1 with (z | ⟨oo, z⟩) | ⟨oo, its, n, z1, z2, _⟩
    · exact .base (.tup z)
    · exact .fTuple z
    · exact .kTuple z1 z2
  · cases h
    obtain ⟨a, vs, rfl, h1, _, _⟩ := r
    exact .base (.lst h1)
  · cases h
theorem v_isi {e0 : Expr} {ce : C} {j : Nat} (hj : j < 6) (h : PE X e0 (tCB (rIsi X.K) (tCons (tQ X.K call ce) (tCons (tC (.ty (tyS j))) tNil)))) : PE X e0 (tV X.K call (.bi (.isin [j]) [ce])) :=
  h.imp fun σ H Q ⟨w, ρ, g, z, g', o, r, he, q⟩ => by
    simp only [ev] at he
    obtain ⟨ds, g1, e1, he⟩ := bnd_eq he
    simp only [evs] at e1
    obtain ⟨d, g2, e2, e1⟩ := bnd_eq e1
    cases e1
    rw [Option.map_eq_some_iff] at he
    obtain ⟨z', e3, e4⟩ := he
    cases e4
    replace e3 : isK _ d = some z := e3
    unfold isK at e3
    rw [Option.map_eq_some_iff] at e3
    obtain ⟨i, hi, rfl⟩ := e3
    refine ⟨w, ρ, g, d, _, o, r, e2, fun w1 H1 v o1 x1 y1 => ⟨v, .ty (tyS j), .type (tyS i), .type (tyS j), _, rfl, .ty _, kind_ty o1 y1 hi, kit_ty (kit_all i (kind_lt hi) j hj), q w1 H1 _ o1 x1 ?_⟩⟩
    show V.bl _ = V.bl _
    congr 1
    have : ([j] : List Nat).contains i = (i == j) := by simp [List.contains_cons]; rfl
    have h0 : ([j] : List Nat).contains 0 = (j == 0) := by
      simp only [List.contains_cons, List.contains_nil, Bool.or_false]
      exact Bool.eq_iff_iff.mpr ⟨fun z => by simp at z; simp [z], fun z => by simp at z; simp [z]⟩
    rw [this, h0]
theorem v_isi2 {e0 : Expr} {ce : C} {j l : Nat} (hj : j < 6) (hl : l < 6) (h : PE X e0 (tCB (rIsiT X.K) (tCons (tQ X.K call ce) (tCons (tTup (tCons (tC (.ty (tyS j))) (tCons (tC (.ty (tyS l))) tNil))) tNil)))) : PE X e0 (tV X.K call (.bi (.isin [j, l]) [ce])) :=
  h.imp fun σ H Q ⟨w, ρ, g, z, g', o, r, he, q⟩ => by
    simp only [ev] at he
    obtain ⟨ds, g1, e1, he⟩ := bnd_eq he
    simp only [evs] at e1
    obtain ⟨d, g2, e2, e1⟩ := bnd_eq e1
    cases e1
    rw [Option.map_eq_some_iff] at he
    obtain ⟨z', e3, e4⟩ := he
    cases e4
    replace e3 : isK _ d = some z := e3
    unfold isK at e3
    rw [Option.map_eq_some_iff] at e3
    obtain ⟨i, hi, rfl⟩ := e3
    refine ⟨w, ρ, g, d, _, o, r, e2, fun w1 H1 v o1 x1 y1 => ⟨by show 2 ≤ sizeLine; unfold sizeLine; decide, fun p np => ?_⟩⟩
    have o2 := o1.add np (o := .tup [.ty (tyS j), .ty (tyS l)])
    have y2 : RepQ X.K (w1.add p (.tup [.ty (tyS j), .ty (tyS l)])) (upd H1 p (.tup [.ty (tyS j), .ty (tyS l)])) d v := y1.ext (Ext.add o1 np)
    refine ⟨v, p, _, .type (tyS i), [.type (tyS j), .type (tyS l)], _, rfl, upd_same, .cons (.ty _) (.cons (.ty _) .nil), kind_ty o2 y2 hi, ?_, q _ _ _ o2 (x1.trans (Ext.add o1 np)) rfl⟩
    have k1 := kit_ty (K := X.K) (kit_all i (kind_lt hi) j hj)
    have k2 := kit_ty (K := X.K) (kit_all i (kind_lt hi) l hl)
    have h1 : ([j, l] : List Nat).contains i = (i == j || i == l) := by simp [List.contains_cons]; rfl
    have h0 : ([j, l] : List Nat).contains 0 = (j == 0 || l == 0) := by
      simp only [List.contains_cons, List.contains_nil, Bool.or_false]
      exact Bool.eq_iff_iff.mpr ⟨fun z => by simp at z; rcases z with z | z <;> simp [z], fun z => by simp at z; rcases z with z | z <;> simp [z]⟩
    rw [h1, h0]
    refine kitAny_cons k1 (fun e => kitAny_cons k2 (fun e2 => ?_) (fun e2 => ?_)) (fun e => ?_)
    · rw [kitAny_nil]
      congr 1
      simp only [Bool.or_eq_false_iff] at e e2
      rw [e.1, e2.1]
      cases hi1 : (i == 1) with
      | false => rfl
      | true =>
        have a := e.2
        have b := e2.2
        rw [hi1] at a b
        simp only [Bool.true_and] at a b
        rw [a, b]; rfl
    · rw [Bool.or_eq_true] at e2
      rcases e2 with e2 | e2
      · rw [e2]; simp
      · rw [Bool.and_eq_true] at e2
        rw [e2.1, e2.2]; simp
    · rw [Bool.or_eq_true] at e
      rcases e with e2 | e2
      · rw [e2]; simp
      · rw [Bool.and_eq_true] at e2
        rw [e2.1, e2.2]; simp
theorem b_tuple (h : ByB X call e (.type "tuple") cs) : PE X e (tV X.K call (.bi .tuple cs)) :=
  bi_v (h _ call_tuple_of) fun ds z w H g vs Q e0 o r0 k => by
    obtain ⟨d, rfl, ez⟩ := un_eq e0
    obtain ⟨v, rfl, r⟩ := r0.one
    unfold tupleD at ez
    split at ez
    · cases ez
      obtain ⟨a, us, rfl, h1, _, h2⟩ := r
      exact ⟨a, us, rfl, .inl ⟨.inl (.inl h1), fun p np => k _ _ _ (o.add np) (Ext.add o np) ⟨p, us, rfl, .inl (.inl upd_same), h2.mono (Le.add (o.free np))⟩⟩⟩
    · cases ez
      have r' := r
      obtain ⟨a, us, rfl, h1, h2⟩ := r
      exact ⟨a, us, rfl, .inr ⟨SqT.same o.same h1, k w H _ o (Ext.refl _ _) r'⟩⟩
    · cases ez
theorem b_list (h : ByB X call e (.type "list") cs) : PE X e (tF X.K call (.bi .list cs)) :=
  bi_f (h _ call_list_of) fun ds z w H g vs Q e0 o r0 k => by
    obtain ⟨d, rfl, ez⟩ := un_eq e0
    obtain ⟨v, rfl, r⟩ := r0.one
    unfold listD at ez
    split at ez
    · cases ez
      obtain ⟨a, us, rfl, h1, _, h2⟩ := r
      exact ⟨a, us, rfl, .inl (.inl (.inl h1)), fun p np => k p us np h2⟩
    · cases ez
      obtain ⟨a, us, rfl, h1, h2⟩ := r
      exact ⟨a, us, rfl, .inr (SqT.same o.same h1), fun p np => k p us np h2⟩
    · cases ez
theorem perm_insertI (x : Int) : ∀ l : List Int, (insertI x l).Perm (x :: l)
  | [] => .refl _
  | y :: r => by
    unfold insertI
    split
    · exact .refl _
    · exact ((perm_insertI x r).cons y).trans (.swap x y r)
theorem perm_sortI : ∀ l : List Int, (sortI l).Perm l
  | [] => .refl _
  | x :: r => (perm_insertI x (sortI r)).trans ((perm_sortI r).cons x)
theorem sorted_insertI (x : Int) : ∀ {l : List Int}, l.Pairwise (· ≤ ·) → (insertI x l).Pairwise (· ≤ ·)
  | [], _ => by simp [insertI]
  | y :: r, h => by
    unfold insertI
    rw [List.pairwise_cons] at h
    split
    · rename_i hx
      refine List.pairwise_cons.mpr ⟨fun z hz => ?_, List.pairwise_cons.mpr h⟩
      rcases List.mem_cons.mp hz with rfl | hz
      · exact hx
      · exact Int.le_trans hx (h.1 z hz)
    · rename_i hx
      refine List.pairwise_cons.mpr ⟨fun z hz => ?_, sorted_insertI x h.2⟩
      rcases List.mem_cons.mp ((perm_insertI x r).subset hz) with rfl | hz
      · omega
      · exact h.1 z hz
theorem sorted_sortI : ∀ l : List Int, (sortI l).Pairwise (· ≤ ·)
  | [] => .nil
  | x :: r => sorted_insertI x (sorted_sortI r)
theorem sorted_one : ∀ {l m : List Int}, l.Perm m → l.Pairwise (· ≤ ·) → m.Pairwise (· ≤ ·) → l = m
  | [], m, p, _, _ => (List.nil_perm.mp p).symm
  | x :: r, [], p, _, _ => absurd p.length_eq (by simp)
  | x :: r, y :: s, p, h1, h2 => by
    rw [List.pairwise_cons] at h1 h2
    have e : x = y := by
      have m1 : x ∈ y :: s := p.subset List.mem_cons_self
      have m2 : y ∈ x :: r := p.symm.subset List.mem_cons_self
      rcases List.mem_cons.mp m1 with e | m1
      · exact e
      · rcases List.mem_cons.mp m2 with e | m2
        · exact e.symm
        · have := h2.1 x m1
          have := h1.1 y m2
          omega
    subst e
    rw [sorted_one (List.Perm.cons_inv p) h1.2 h2.2]
theorem reps_ints {K : Frag} {w : W} : ∀ ns : List Int, Reps K w (ns.map .int) (ns.map V.int)
  | [] => trivial
  | _ :: ns => ⟨rfl, reps_ints ns⟩
theorem rowsD_reps {K : Frag} {w : W} {H : Hp} (e : Same w.F H) : ∀ {xs : List D} {vs : List V} {rows : List (List Int)}, Reps K w xs vs → rowsD xs = some rows →
    (∀ v ∈ vs, ∃ ns, TupI K H v ns ∧ ns ≠ []) ∧ rows.length = vs.length ∧ (∀ f : V → List Int, (∀ v ∈ vs, ∀ ns, TupI K H v ns → f v = ns) → vs.map f = rows) ∧ (∀ v ∈ vs, ∃ ns, ∃ t, v = .ref t ∧ SqT K w.F t (ns.map V.int) ∧ TupI K H v ns)
  | [], [], rows, _, h => by
    cases h
    exact ⟨fun v hv => (List.not_mem_nil hv).elim, rfl, fun f _ => rfl, fun v hv => (List.not_mem_nil hv).elim⟩
  | .tup xs :: r, v :: vs, rows, hr, h => by
    rw [rowsD] at h
    split at h
    · rename_i n ns hn
      rw [Option.map_eq_some_iff] at h
      obtain ⟨l, hl, rfl⟩ := h
      obtain ⟨⟨a, us, rfl, h1, h2⟩, hr2⟩ := hr
      obtain ⟨i1, i2, i3, i4⟩ := rowsD_reps e hr2 hl
      rw [h2.ints hn] at h1
      have tv : TupI K H (.ref a) (n :: ns) := ⟨a, rfl, SqT.same e h1⟩
      refine ⟨fun v hv => ?_, by rw [List.length_cons, List.length_cons, i2], fun f hf => ?_, fun v hv => ?_⟩
      · rcases List.mem_cons.mp hv with rfl | hv
        · exact ⟨_, tv, by simp⟩
        · exact i1 v hv
      · rw [List.map_cons, i3 f fun v hv => hf v (List.mem_cons_of_mem _ hv)]
        congr 1
        exact hf _ List.mem_cons_self _ tv
      · rcases List.mem_cons.mp hv with rfl | hv
        · exact ⟨_, a, rfl, h1, tv⟩
        · exact i4 v hv
    · cases h
  | [], _ :: _, _, hr, _ => hr.elim
  | .tup _ :: _, [], _, hr, _ => hr.elim
  | .non :: _, _, _, _, h => by cases h
  | .bl _ :: _, _, _, _, h => by cases h
  | .int _ :: _, _, _, _, h => by cases h
  | .str _ :: _, _, _, _, h => by cases h
  | .st :: _, _, _, _, h => by cases h
  | .scr _ :: _, _, _, _, h => by cases h
  | .lst _ :: _, _, _, _, h => by cases h
  | .dic _ :: _, _, _, _, h => by cases h
  | .set _ :: _, _, _, _, h => by cases h
theorem reps_rows {K : Frag} {w : W} {f : V → List Int} : ∀ {ys : List V}, (∀ y ∈ ys, ∃ t, y = .ref t ∧ SqT K w.F t ((f y).map V.int)) → Reps K w ((ys.map f).map fun r => .tup (r.map .int)) ys
  | [], _ => trivial
  | y :: ys, h => by
    obtain ⟨t, e, ht⟩ := h y List.mem_cons_self
    exact ⟨⟨t, _, e, ht, reps_ints _⟩, reps_rows fun z hz => h z (List.mem_cons_of_mem _ hz)⟩
theorem b_sorted (h : ByB X call e (.builtin "sorted") cs) : PE X e (tF X.K call (.bi .sorted cs)) :=
  bi_f (h _ (CallR.or cr_sortedI cr_sortRows)) fun ds z w H g vs Q e0 o r0 k => by
    obtain ⟨d, rfl, ez⟩ := un_eq e0
    obtain ⟨v, rfl, r⟩ := r0.one
    unfold sortedD at ez
    split at ez
    · split at ez
      · rename_i ns hn
        cases ez
        obtain ⟨a, us, rfl, h1, _, h2⟩ := r
        rw [h2.ints hn] at h1
        refine .inl ⟨a, ns, rfl, .inl (.inl h1), fun ns' p hp hs np => ?_⟩
        have e2 : ns' = sortI ns := sorted_one (hp.trans (perm_sortI ns).symm) hs (sorted_sortI ns)
        rw [e2]
        exact k p _ np (reps_ints _)
      · split at ez
        · rename_i rows hn
          cases ez
          obtain ⟨a, us, rfl, h1, _, h2⟩ := r
          obtain ⟨i1, _, i3, i4⟩ := rowsD_reps o.same h2 hn
          refine .inr ⟨a, us, rfl, .inl (.inl h1), i1, fun ys p hp ⟨f, hf, hu⟩ np => ?_⟩
          have e2 : ys.map f = sortT rows := by
            refine up_one ?_ hu (sortT_up rows)
            rw [← i3 f hf]
            exact (hp.map f).trans (perm_sortT _).symm
          refine k p _ np ?_
          rw [← e2]
          refine reps_rows fun y hy => ?_
          have hy' := hp.mem_iff.mp hy
          obtain ⟨ns, t, rfl, ht, tv⟩ := i4 y hy'
          rw [hf _ hy' _ tv]
          exact ⟨t, rfl, ht⟩
        · cases ez
    · cases ez
end

/-! ### tests -/
theorem emp_len {α β : Type} {xs : List α} {ys : List β} (h : xs.length = ys.length) : (!xs.isEmpty) = !ys.isEmpty := by
  cases xs <;> cases ys <;> first | rfl | simp at h
theorem tru_q {w : W} {H : Hp} {g : GS} {d : D} {v : V} {b : Bool} (o : Ok w H g) (r : RepQ X.K w H d v) (h : truth d = some b) : TruV X.K v H b := by
  unfold truth at h
  split at h
  · cases h; cases (show _ = _ from r); rfl
  · cases h; cases (show _ = _ from r); rfl
  · cases h; cases (show _ = _ from r); rfl
  · split at h
    · rename_i hl
      cases h; cases (show _ = _ from r); exact ⟨hl, rfl⟩
    · cases h
  · cases h
    rename_i xs
    obtain ⟨a, vs, rfl, h1, h2⟩ := r
    refine .inr (.inl ⟨vs, SqT.same o.same h1, ?_⟩)
    exact emp_len h2.len
  · cases h
    obtain ⟨a, vs, rfl, h1, _, h2⟩ := r
    exact .inl ⟨vs, .inl (.inl h1), emp_len h2.len⟩
  · cases h
theorem t_val {e : Expr} {c : C} (h : PE X e (tQ X.K call c)) (he : ∀ whole, isTrue e X.env whole = (do let v ← whole; standAt e.pos; holding [v] (truthy v))) : PT X e (tT X.K call c) :=
  (pt_truth h he).imp fun σ H Q ⟨w, ρ, g, d, b, g', o, r, hev, ht, q⟩ => ⟨w, ρ, g, d, g', o, r, hev, fun w1 H1 v o1 x1 y1 => ⟨b, tru_q o1 y1 ht, q w1 H1 o1 x1⟩⟩
theorem t_not {e : Expr} {c : C} {pos : Pos} (h : PT X e (tT X.K call c)) : PT X (.UnaryOp .Not e pos) (tT X.K call (.not c)) :=
  (pt_not h).imp fun σ H Q ⟨w, ρ, g, d, b, g', o, r, hev, ht, q⟩ => by
    simp only [ev] at hev
    obtain ⟨x, g1, e1, hev⟩ := bnd_eq hev
    rw [Option.map_eq_some_iff] at hev
    obtain ⟨k, e2, e3⟩ := hev
    cases e3
    cases ht
    exact ⟨w, ρ, g, x, k, g', o, r, e1, e2, q⟩
theorem PWimp {e : Expr} {t t' : TT} (h : PW X e t) (i : ∀ σ H Q, t' σ H Q → t σ H Q) : PW X e t' := ⟨fun wh pins s σ H Q I q => h.run wh pins s σ H Q I (i σ H Q q)⟩
theorem w_and1 {a : Expr} {ca : C} {pos : Pos} (h : PT X a (tT X.K call ca)) : PW X (.BoolOp .And [a] pos) (tT X.K call ca) := pw_and1 h
theorem w_or1 {a : Expr} {ca : C} {pos : Pos} (h : PT X a (tT X.K call ca)) : PW X (.BoolOp .Or [a] pos) (tT X.K call ca) := pw_or1 h
theorem w_and {a b : Expr} {rest : List Expr} {ca cb : C} {pos : Pos} (ha : PT X a (tT X.K call ca)) (hb : PW X (.BoolOp .And (b :: rest) pos) (tT X.K call cb)) : PW X (.BoolOp .And (a :: b :: rest) pos) (tT X.K call (.and ca cb)) :=
  PWimp (pw_and ha hb) fun σ H Q ⟨w, ρ, g, d, k, g', o, r, hev, ht, q⟩ => by
    simp only [ev] at hev
    obtain ⟨x, g1, e1, hev⟩ := bnd_eq hev
    split at hev
    · rename_i e2
      exact ⟨w, ρ, g, x, true, g1, o, r, e1, e2, fun w1 H1 o1 x1 => iteT ⟨w1, ρ, g1, d, k, g', o1, r.ext x1, hev, ht, fun w2 H2 o2 x2 => q w2 H2 o2 (x1.trans x2)⟩⟩
    · rename_i e2
      cases hev
      rw [e2] at ht; cases ht
      exact ⟨w, ρ, g, _, false, _, o, r, e1, e2, fun w1 H1 o1 x1 => iteF (q w1 H1 o1 x1)⟩
    · cases hev
theorem w_or {a b : Expr} {rest : List Expr} {ca cb : C} {pos : Pos} (ha : PT X a (tT X.K call ca)) (hb : PW X (.BoolOp .Or (b :: rest) pos) (tT X.K call cb)) : PW X (.BoolOp .Or (a :: b :: rest) pos) (tT X.K call (.or ca cb)) :=
  PWimp (pw_or ha hb) fun σ H Q ⟨w, ρ, g, d, k, g', o, r, hev, ht, q⟩ => by
    simp only [ev] at hev
    obtain ⟨x, g1, e1, hev⟩ := bnd_eq hev
    split at hev
    · rename_i e2
      cases hev
      rw [e2] at ht; cases ht
      exact ⟨w, ρ, g, _, true, _, o, r, e1, e2, fun w1 H1 o1 x1 => iteT (q w1 H1 o1 x1)⟩
    · rename_i e2
      exact ⟨w, ρ, g, x, false, g1, o, r, e1, e2, fun w1 H1 o1 x1 => iteF ⟨w1, ρ, g1, d, k, g', o1, r.ext x1, hev, ht, fun w2 H2 o2 x2 => q w2 H2 o2 (x1.trans x2)⟩⟩
    · cases hev

/-! ### and, or, not, if as values -/
theorem v_one {a : Expr} {op : BoolOp} {ca : C} {pos : Pos} (h : PE X a (tV X.K call ca)) : PE X (.BoolOp op [a] pos) (tV X.K call ca) := pe_one h
theorem v_and {a b : Expr} {rest : List Expr} {ca cb : C} {pos : Pos} (ha : PE X a (tV X.K call ca)) (hb : PE X (.BoolOp .And (b :: rest) pos) (tV X.K call cb)) : PE X (.BoolOp .And (a :: b :: rest) pos) (tV X.K call (.and ca cb)) :=
  (pe_andT ha hb).imp fun σ H Q ⟨w, ρ, g, d, g', o, r, hev, q⟩ => by
    simp only [ev] at hev
    obtain ⟨x, g1, e1, hev⟩ := bnd_eq hev
    split at hev
    · rename_i e2
      exact ⟨w, ρ, g, x, g1, o, r, e1, fun w1 H1 v o1 x1 y1 => ⟨true, tru_q o1 (y1.q o1) e2, iteT ⟨w1, ρ, g1, d, g', o1, r.ext x1, hev, fun w2 H2 v o2 x2 y2 => q w2 H2 v o2 (x1.trans x2) y2⟩⟩⟩
    · rename_i e2
      cases hev
      exact ⟨w, ρ, g, _, _, o, r, e1, fun w1 H1 v o1 x1 y1 => ⟨false, tru_q o1 (y1.q o1) e2, iteF (q w1 H1 v o1 x1 y1)⟩⟩
    · cases hev
theorem v_or {a b : Expr} {rest : List Expr} {ca cb : C} {pos : Pos} (ha : PE X a (tV X.K call ca)) (hb : PE X (.BoolOp .Or (b :: rest) pos) (tV X.K call cb)) : PE X (.BoolOp .Or (a :: b :: rest) pos) (tV X.K call (.or ca cb)) :=
  (pe_orT ha hb).imp fun σ H Q ⟨w, ρ, g, d, g', o, r, hev, q⟩ => by
    simp only [ev] at hev
    obtain ⟨x, g1, e1, hev⟩ := bnd_eq hev
    split at hev
    · rename_i e2
      cases hev
      exact ⟨w, ρ, g, _, _, o, r, e1, fun w1 H1 v o1 x1 y1 => ⟨true, tru_q o1 (y1.q o1) e2, iteT (q w1 H1 v o1 x1 y1)⟩⟩
    · rename_i e2
      exact ⟨w, ρ, g, x, g1, o, r, e1, fun w1 H1 v o1 x1 y1 => ⟨false, tru_q o1 (y1.q o1) e2, iteF ⟨w1, ρ, g1, d, g', o1, r.ext x1, hev, fun w2 H2 v o2 x2 y2 => q w2 H2 v o2 (x1.trans x2) y2⟩⟩⟩
    · cases hev
theorem v_not {e : Expr} {c : C} {pos : Pos} (h : PE X e (tQ X.K call c)) : PE X (.UnaryOp .Not e pos) (tV X.K call (.not c)) :=
  (pe_notT h).imp fun σ H Q ⟨w, ρ, g, d, g', o, r, hev, q⟩ => by
    simp only [ev] at hev
    obtain ⟨x, g1, e1, hev⟩ := bnd_eq hev
    rw [Option.map_eq_some_iff] at hev
    obtain ⟨k, e2, e3⟩ := hev
    cases e3
    exact ⟨w, ρ, g, x, _, o, r, e1, fun w1 H1 v o1 x1 y1 => ⟨k, tru_q o1 y1 e2, q w1 H1 _ o1 x1 rfl⟩⟩
theorem v_ite {t a b : Expr} {ct ca cb : C} {pos : Pos} (ht : PT X t (tT X.K call ct)) (ha : PE X a (tV X.K call ca)) (hb : PE X b (tV X.K call cb)) : PE X (.IfExp t a b pos) (tV X.K call (.ite ct ca cb)) :=
  (pe_ifExp ht ha hb).imp fun σ H Q ⟨w, ρ, g, d, g', o, r, hev, q⟩ => by
    simp only [ev] at hev
    obtain ⟨x, g1, e1, hev⟩ := bnd_eq hev
    split at hev
    · rename_i e2
      exact ⟨w, ρ, g, x, true, g1, o, r, e1, e2, fun w1 H1 o1 x1 => iteT ⟨w1, ρ, g1, d, g', o1, r.ext x1, hev, fun w2 H2 v o2 x2 y2 => q w2 H2 v o2 (x1.trans x2) y2⟩⟩
    · rename_i e2
      exact ⟨w, ρ, g, x, false, g1, o, r, e1, e2, fun w1 H1 o1 x1 => iteF ⟨w1, ρ, g1, d, g', o1, r.ext x1, hev, fun w2 H2 v o2 x2 y2 => q w2 H2 v o2 (x1.trans x2) y2⟩⟩
    · cases hev
theorem f_ite {t a b : Expr} {ct ca cb : C} {pos : Pos} (ht : PT X t (tT X.K call ct)) (ha : PE X a (tF X.K call ca)) (hb : PE X b (tF X.K call cb)) : PE X (.IfExp t a b pos) (tF X.K call (.ite ct ca cb)) :=
  (pe_ifExp ht ha hb).imp fun σ H Q ⟨w, ρ, g, d, g', o, r, hev, q⟩ => by
    simp only [ev] at hev
    obtain ⟨x, g1, e1, hev⟩ := bnd_eq hev
    split at hev
    · rename_i e2
      exact ⟨w, ρ, g, x, true, g1, o, r, e1, e2, fun w1 H1 o1 x1 => iteT ⟨w1, ρ, g1, d, g', o1, r.ext x1, hev, fun w2 H2 p vs o2 x2 n y2 => q w2 H2 p vs o2 (x1.trans x2) n y2⟩⟩
    · rename_i e2
      exact ⟨w, ρ, g, x, false, g1, o, r, e1, e2, fun w1 H1 o1 x1 => iteF ⟨w1, ρ, g1, d, g', o1, r.ext x1, hev, fun w2 H2 p vs o2 x2 n y2 => q w2 H2 p vs o2 (x1.trans x2) n y2⟩⟩
    · cases hev

/-! ### slices -/
def tP (K : Frag) (call : Calls) (c : C) : TO := fun σ H Q => ∃ w ρ g p g', Ok w H g ∧ Rel K w H ρ σ ∧ evP call c ρ g = some (p, g') ∧ ∀ w' H', Ok w' H' g' → Ext w H w' H' → Q p H'
theorem POimp {e : Option Expr} {t t' : TO} (h : PO X e t) (i : ∀ σ H Q, t' σ H Q → t σ H Q) : PO X e t' := ⟨fun pins s σ H Q I q => h.run pins s σ H Q I (i σ H Q q)⟩
theorem o_none : PO X none (tP X.K call .nop) := POimp po_none fun σ H Q ⟨w, ρ, g, p, g', o, r, hev, q⟩ => by
  have hev' : some ((none : Option Int), g) = some (p, g') := hev
  cases hev'
  exact q w H o (Ext.refl _ _)
theorem o_some {e : Expr} {c : C} (h : PE X e (tQ X.K call c)) (hn : isNop c = false) : PO X (some e) (tP X.K call c) := POimp (po_some h) fun σ H Q ⟨w, ρ, g, p, g', o, r, hev, q⟩ => by
  unfold evP at hev
  rw [hn, if_neg Bool.false_ne_true] at hev
  obtain ⟨d, g1, e1, hev⟩ := bnd_eq hev
  rw [Option.map_eq_some_iff] at hev
  obtain ⟨i, e2, e3⟩ := hev
  cases e3
  refine ⟨w, ρ, g, d, _, o, r, e1, fun w1 H1 v o1 x1 y1 => ?_⟩
  unfold partI at e2
  split at e2
  · cases e2
    exact ⟨_, y1, q w1 H1 o1 x1⟩
  · cases e2
theorem cut_read {c lo hi : C} {w : W} {ρ : Env} {g g' : GS} {z : D} {σ : St} {H : Hp} {R : V → Option Int → Option Int → Hp → Prop} (o : Ok w H g) (r : Rel X.K w H ρ σ) (hev : ev call (.cut c lo hi) ρ g = some (z, g'))
    (q : ∀ x a b w' H' v, cutD x a b = some z → Ok w' H' g' → Ext w H w' H' → RepQ X.K w' H' x v → R v a b H') :
    tQ X.K call c σ H fun x H1 => tP X.K call lo σ H1 fun l H2 => tP X.K call hi σ H2 fun u H3 => R x l u H3 := by
  simp only [ev] at hev
  obtain ⟨x, g1, e1, hev⟩ := bnd_eq hev
  obtain ⟨l, g2, e2, hev⟩ := bnd_eq hev
  obtain ⟨h, g3, e3, hev⟩ := bnd_eq hev
  rw [Option.map_eq_some_iff] at hev
  obtain ⟨z', e4, e5⟩ := hev
  cases e5
  exact ⟨w, ρ, g, x, g1, o, r, e1, fun w1 H1 v o1 x1 y1 => ⟨w1, ρ, g1, l, g2, o1, r.ext x1, e2, fun w2 H2 o2 x2 => ⟨w2, ρ, g2, h, _, o2, (r.ext x1).ext x2, e3, fun w3 H3 o3 x3 =>
    q x l h w3 H3 v e4 o3 ((x1.trans x2).trans x3) ((y1.ext x2).ext x3)⟩⟩⟩
theorem f_cut {e : Expr} {lo hi : Option Expr} {c cl ch : C} {pos p2 : Pos} (he : PE X e (tQ X.K call c)) (hl : PO X lo (tP X.K call cl)) (hh : PO X hi (tP X.K call ch)) : PE X (.Subscript e (.Slice lo hi none p2) pos) (tF X.K call (.cut c cl ch)) :=
  (pe_slice sl_list he hl hh).imp fun σ H Q ⟨w, ρ, g, z, g', o, r, hev, q⟩ => cut_read o r hev fun x a b w1 H1 v e4 o1 x1 y1 => by
    unfold cutD at e4
    split at e4
    · cases e4
      obtain ⟨t, vs, rfl, h1, _, h2⟩ := y1
      refine ⟨t, vs, rfl, .inl (.inl h1), fun p np => q w1 H1 p _ o1 x1 np ?_⟩
      unfold cutV cutL
      rw [← h2.len]
      exact (h2.drop _).take _
    · cases e4
    · cases e4
/-- a tuple's slice that is not the whole -/
theorem v_cut {e : Expr} {lo hi : Option Expr} {c cl ch : C} {pos p2 : Pos} (he : PE X e (tQ X.K call c)) (hl : PO X lo (tP X.K call cl)) (hh : PO X hi (tP X.K call ch))
    (whole : SlR X fun x lo hi H Q => ∃ a xs, x = .ref a ∧ SqT X.K H a xs ∧ HT.sIx xs.length 0 lo = 0 ∧ HT.sIx xs.length xs.length hi = xs.length ∧ Q x H) : PE X (.Subscript e (.Slice lo hi none p2) pos) (tV X.K call (.cut c cl ch)) :=
  (pe_slice (SlR.or sl_list (SlR.or sl_tup whole)) he hl hh).imp fun σ H Q ⟨w, ρ, g, z, g', o, r, hev, q⟩ => cut_read o r hev fun x a b w1 H1 v e4 o1 x1 y1 => by
    unfold cutD at e4
    split at e4
    · cases e4
      obtain ⟨t, vs, rfl, h1, _, h2⟩ := y1
      refine .inl ⟨t, vs, rfl, .inl (.inl h1), fun p np => q _ _ _ (o1.add np) (x1.trans (Ext.add o1 np)) ⟨p, _, rfl, upd_same, ?_⟩⟩
      unfold cutV cutL
      rw [← h2.len]
      exact ((h2.drop _).take _).mono (Le.add (o1.free np))
    · cases e4
      have y1' := y1
      rename_i xs
      obtain ⟨t, vs, rfl, h1, h2⟩ := y1
      by_cases hw : HT.sIx vs.length 0 a = 0 ∧ HT.sIx vs.length vs.length b = vs.length
      · refine .inr (.inr ⟨t, vs, rfl, SqT.same o1.same h1, hw.1, hw.2, q w1 H1 _ o1 x1 ?_⟩)
        have hw1 := hw.1
        have hw2 := hw.2
        rw [← h2.len] at hw1 hw2
        unfold cutL
        rw [hw1, hw2, List.drop_zero, Nat.sub_zero, List.take_length]
        exact y1'
      · refine .inr (.inl ⟨t, vs, rfl, SqT.same o1.same h1, hw, fun p np => q _ _ _ (o1.add np) (x1.trans (Ext.add o1 np)) ⟨p, _, rfl, .inl (.inl upd_same), ?_⟩⟩)
        unfold cutV cutL
        rw [← h2.len]
        exact ((h2.drop _).take _).mono (Le.add (o1.free np))
    · cases e4
theorem f_back {e : Expr} {c : C} {k : Nat} {p1 p2 p3 pos : Pos} (he : PE X e (tQ X.K call c)) : PE X (.Subscript e (.Slice none none (some (.UnaryOp .USub (.Constant (.int 1) k p1) p2)) p3) pos) (tF X.K call (.back c)) :=
  (pe_revL he).imp fun σ H Q ⟨w, ρ, g, z, g', o, r, hev, q⟩ => by
    simp only [ev] at hev
    obtain ⟨x, g1, e1, hev⟩ := bnd_eq hev
    rw [Option.map_eq_some_iff] at hev
    obtain ⟨z', e4, e5⟩ := hev
    cases e5
    refine ⟨w, ρ, g, x, _, o, r, e1, fun w1 H1 v o1 x1 y1 => ?_⟩
    unfold backD at e4
    split at e4
    · cases e4
      obtain ⟨t, vs, rfl, h1, _, h2⟩ := y1
      exact ⟨t, vs, rfl, .inl (.inl h1), fun p np => q w1 H1 p _ o1 x1 np h2.reverse⟩
    · cases e4
    · cases e4
end
end Tv

/-! Tv4w: a tuple's slice that is the whole tuple. -/
namespace Tv
open PySem PySem.Spec PyProof.Rows L2
section
variable {prog : Program} {w : World} {A : Around} {E : Value → Shared → Prop} {s : Shared}
theorem getItem_tuple_whole {t sl : Addr} {items : Array Value} {vl vu : Value} {lo hi : Option Int} {Q : Value → Shared → Prop} (ht : IsTup s.heap t items) (hs : s.heap.IsSliceOf sl vl vu .none) (pl : IsPart vl lo) (pu : IsPart vu hi)
    (h1 : HT.sIx items.size 0 lo = 0) (h2 : HT.sIx items.size items.size hi = items.size) (h : Q (.ref t) s) (hsz : items.size ≤ sizeLine) : wpAny (model prog w) A (getItem (.ref t) (.ref sl)) Q E s := by
  obtain ⟨os, hos, hcs, hds⟩ := id hs
  have hTs : s.TypeIs (.ref sl) "slice" := ⟨os, hos, hcs⟩
  unfold getItem
  try with_reducible refine wpAny_holding ?_
  first | refine wpAny_bind (wpAny_pure ?_) | skip
  refine wpAny_bind (wpAny_sequenceKey ht.typeIs (by decide) ?_)
  refine wpAny_bind (wpAny_callSpecial?_slot (name := Str.ofString "__getitem__") ht.typeIs PyProof.Rows.slot_tuple_getitem
    (wpAny_call_entry PyProof.Rows.slot_tuple_getitem ht.typeIs entry_tuple_getitem ?_ (args_tuple_getitem _ _)))
  show wpAny _ _ (Builtin.Tuple.tupleItemsOf (.ref t) >>= _) _ _ s
  refine wpAny_bind (tupleItemsOf_ ht ?_)
  refine wpAny_bind (wpAny_typeOf hTs ?_)
  rw [if_pos (by decide)]
  refine wpAny_bind (HT.sliceApplied_gen hs pl pu ?_)
  have hyes : (((HT.sIx items.size 0 lo : Nat) : Int) == 0 && (1 : Int) == 1 && (HT.sIx items.size items.size hi - HT.sIx items.size 0 lo) == items.size) = true := by
    rw [h1, h2]; simp
  show wpAny _ _ (if (((HT.sIx items.size 0 lo : Nat) : Int) == 0 && (1 : Int) == 1 && (HT.sIx items.size items.size hi - HT.sIx items.size 0 lo) == items.size) = true then _ else _) _ _ s
  rw [if_pos hyes]
  refine wpAny_bind ?_
  unfold Builtin.Tuple.tupleIsExact
  refine wpAny_bind (wpAny_typeOf ht.typeIs (wpAny_pure ?_))
  rw [if_pos (by decide)]
  exact wpAny_bind (wpAny_rule (wpAny_pure ⟨_, rfl, wpAny_pure h⟩))
end
section
variable {X : Cx}
theorem sl_whole : SlR X fun x lo hi H Q => ∃ a xs, x = .ref a ∧ SqT X.K H a xs ∧ HT.sIx xs.length 0 lo = 0 ∧ HT.sIx xs.length xs.length hi = xs.length ∧ Q x H := by
  intro pins s σ H x v vl vu lo hi sl Q I rx hs pl pu h
  obtain ⟨a, xs, rfl, hx, h1, h2, q⟩ := h
  cases rx
  obtain ⟨its, r, ht, hz⟩ := I.tuple hx
  have hlen : its.toArray.size = xs.length := by rw [List.size_toArray]; exact r.length.symm
  refine ⟨"tuple", _, PyProof.Rows.slot_tuple_getitem.lookup, ht.typeIs, ?_⟩
  exact getItem_tuple_whole ht hs pl pu (by rw [hlen]; exact h1) (by rw [hlen]; exact h2) ⟨.ref a, H, I, rfl, q⟩ (by rw [hlen]; exact hz)
end
end Tv

/-! Tv4e: enumerate of a tuple. -/
namespace PySem
open Sem (wp)
theorem enumOne_meets {v0 : Value} {ob : Obj} {HP : Heap → Prop} (Bg : Begins v0 ob HP) :
    Meets (Builtin.«enumerate.__new__» ⟨[.type "enumerate", v0], []⟩) (fun _ R s => HP s.heap ∧ R (.ok (.ret (.ref (s.heap.push ob).objs.size)))
      { s with heap := (s.heap.push ob).push { cls := .type "enumerate", data := .fields #[.none, .bool false, .ref s.heap.objs.size, rawInt 0, .none, .none] } }) :=
  .of_wp fun prog w A R s hyp => by
    obtain ⟨hp0, g0, d0, tk0, os0⟩ := s; obtain ⟨hP, hR⟩ := hyp; have hsub0 := sub_enumerate
    have itr : ∀ {A' : Around} {E : Value → Shared → Prop} {Q : Value → Shared → Prop}, Q (.ref hp0.objs.size) ⟨hp0.push ob, g0, d0, tk0, os0⟩ → wpAny (model prog w) A' (pyIter v0) Q E ⟨hp0, g0, d0, tk0, os0⟩ := fun q => Bg.iter prog w _ _ ⟨hp0, g0, d0, tk0, os0⟩ _ hP q
    wp_walk using itr; refine wpAny_stack_any fun st0 => wpAny_pure ?_
    split
    · rename_i cc _ _ _ _ _; cases (cc == Value.type "enumerate") <;> (wp_walk using itr; exact ⟨_, rfl, hR⟩)
    · wp_walk using itr; exact ⟨_, rfl, hR⟩
section
variable {prog : Program} {w : World} {A : Around} {E : Value → Shared → Prop} {s : Shared}
theorem enumOne_call {v0 : Value} {ob : Obj} {HP : Heap → Prop} {Q : Value → Shared → Prop} (Bg : Begins v0 ob HP) (hP : HP s.heap)
    (fin : ∀ hh, IsEnum hh (s.heap.objs.size + 1) s.heap.objs.size 0 .none → hh.get? s.heap.objs.size = some ob → (∀ b o, s.heap.get? b = some o → hh.get? b = some o) → Q (.ref (s.heap.objs.size + 1)) { s with heap := hh }) :
    wpAny (model prog w) A (call (.type "enumerate") [v0]) Q E s := by
  refine callType_new F.called_enumerate (by decide) (F.typeCall_enumerate_1 _) (F.newCall_enumerate_1 _) (fun ob' => F.args_object_init_2 ob' _) F.entry_enumerate_new (enumOne_meets Bg) ⟨hP, ?_⟩
  have sz1 : (s.heap.push ob).objs.size = s.heap.objs.size + 1 := Heap.size_push ..
  show _ ∧ _; rw [sz1]
  have hE1 : IsEnum ((s.heap.push ob).push { cls := .type "enumerate", data := .fields #[.none, .bool false, .ref s.heap.objs.size, rawInt 0, .none, .none] }) (s.heap.objs.size + 1) s.heap.objs.size 0 .none := by
    have got := Heap.get?_push_size (s.heap.push ob) (o := { cls := .type "enumerate", data := .fields #[.none, .bool false, .ref s.heap.objs.size, rawInt 0, .none, .none] }) rfl
    rw [sz1] at got; exact got
  exact ⟨⟨_, hE1, rfl⟩, fin _ hE1 (Heap.get?_push_of_some _ (Heap.get?_push_size _ Bg.free)) fun b o kx => Heap.get?_push_of_some _ (Heap.get?_push_of_some _ kx)⟩
end
end PySem
namespace Tv
open PySem L2 PyProof.Rows
/-- the tuple at a, each item in a new pair with its place -/
def ItN (K : Frag) (a : Addr) : It :=
  ⟨fun i H => ∃ (xs : List V) (x : V), SqT K H a xs ∧ xs[i]? = some x, fun i H v H' => ∃ T x, v = .ref T ∧ H T = none ∧ H' = upd H T (.tup [.int (i : Nat), x]) ∧ ∀ xs, SqT K H a xs → xs[i]? = some x, fun i H => ∃ xs : List V, SqT K H a xs ∧ xs.length ≤ i⟩
theorem turn_enumN {P : Program} {w : World} {K : Frag} {elts : List Expr} {kk : Nat} {tpos : Pos} (a e it : Addr) :
    Turn P w K (.Tuple elts kk tpos) (ItN K a) [e, it] e (fun i h => (∃ old, IsEnum h e it ((i : Nat) : Int) old) ∧ h.IsTupleIter it a i ∧ e ≠ it ∧ a ≠ it ∧ a ≠ e) where
  mem := by simp
  obj := fun i h ⟨⟨old, hen⟩, ⟨o, ho, hcl, hdt⟩, _⟩ b hb => by
    rcases (show b = e ∨ b = it by simpa using hb) with rfl | rfl
    · exact ⟨_, hen, fun v q => nomatch q⟩
    · exact ⟨o, ho, fun v q => by rw [hdt] at q; cases q⟩
  keep := fun i h h' ⟨⟨old, hen⟩, hti, r⟩ k => ⟨⟨old, k e (by simp) _ hen⟩, hti.at fun o q => k it (by simp) o q, r⟩
  item := fun X hP hw hK hcalm i pins s σ H E I fps stn go => by
    subst hP hw hK
    obtain ⟨⟨old, hen⟩, hti, dif, dai, dae⟩ := stn
    obtain ⟨xs, x, hsq, hxi⟩ := go
    obtain ⟨its, rvs, tup, _⟩ := I.tuple hsq
    obtain ⟨u, hui, rux⟩ := rvs.get hxi
    have lte : e < s.heap.objs.size := Heap.lt_size hen
    have lti : it < s.heap.objs.size := by obtain ⟨_, q, _⟩ := hti; exact Heap.lt_size q
    have lta : a < s.heap.objs.size := by obtain ⟨_, q, _⟩ := tup; exact Heap.lt_size q
    have hsz : i < its.toArray.size := by
      have : i < its.length := by
        rcases Nat.lt_or_ge i its.length with q | q
        · exact q
        · rw [List.getElem?_eq_none q] at hui; cases hui
      simpa using this
    refine wpAny_pyNext_enum_itemD (Draws.tuple (A := X.A.in1) (I.ok.hd hcalm) it a dai its.toArray) hen ⟨hti, (show s.heap.IsTuple a its.toArray from tup)⟩ hsz dif (by simp; exact ⟨dif, Ne.symm dae⟩) fun x' h1 tk hx' out1 st1 pair1 sz1 oth1 => ?_
    have exu : x' = u := by
      have q : its.toArray[i]? = some x' := hx'
      rw [List.getElem?_toArray, hui] at q
      cases q; rfl
    subst exu
    refine ⟨_, rfl, wpAny_letOwnedTupleGo_enum (s := { s with heap := h1, toks := tk + 1 }) out1 fun h2 en2 but2 => ?_⟩
    have pair2 : h2.get? s.heap.objs.size = some { cls := .type "tuple", data := .seq #[.int i tk, x'] } := (but2.2 _ (Nat.ne_of_gt lte)).trans pair1
    have fresh : ObjOk X.prog X.w (upd H s.heap.objs.size (.tup [.int (i : Nat), x])) h2 s.heap.objs.size (.tup [.int (i : Nat), x]) := ⟨by show 2 ≤ sizeLine; decide, [.int i tk, x'], .cons ⟨_, rfl⟩ (.cons rux .nil), ⟨_, pair2, rfl, _, rfl⟩⟩
    have I2 : Inv X pins σ (upd H s.heap.objs.size (.tup [.int (i : Nat), x])) { s with heap := h2, toks := tk + 1 } := I.turnedNew (ch := [e, it]) (fun b ob hb q => (but2.2 b (fun z => hb (by simp [z]))).trans (oth1 b ob (fun z => hb (by simp [z])) (fun z => hb (by simp [z])) q)) fps (Nat.le_refl _) fresh
    refine ⟨.ref s.heap.objs.size, _, I2, rfl, ⟨_, x, rfl, I.hok.fresh (Nat.le_refl _), rfl, fun ys hys => by rw [I.tuple_inj hys hsq]; exact hxi⟩, ⟨⟨x', ?_⟩, st1.1.at fun o q => (but2.2 it (Ne.symm dif)).trans q, dif, dai, dae⟩, fun b hb => ?_⟩
    · rw [show ((i + 1 : Nat) : Int) = (i : Int) + 1 by omega]; exact en2
    · have hlt : b < s.heap.objs.size := by
        rcases (show b = e ∨ b = it by simpa using hb) with rfl | rfl
        · exact lte
        · exact lti
      rw [upd_ne (Nat.ne_of_lt hlt)]; exact (fps b hb).1
  done := fun X hP hw hK hcalm i pins s σ H E I fps stn stp => by
    subst hP hw hK
    obtain ⟨⟨old, hen⟩, hti, dif, dai, dae⟩ := stn
    obtain ⟨xs, hsq, hle⟩ := stp
    obtain ⟨its, rvs, tup, _⟩ := I.tuple hsq
    obtain ⟨f0, f1, f2, f3, f4, f5⟩ := fps it (by simp)
    have hl := rvs.length
    have hti' : s.heap.IsTupleIter it a i := hti
    have D0 : Draws X.prog X.w X.A.in1 it [it, a] 0 (fun _ _ => False) (fun _ h => h.IsTupleIter it a i ∧ h.IsTuple a its.toArray) := {
      live := fun _ _ st => let ⟨o, ho, _⟩ := st.1; ⟨o, ho⟩
      frame := fun _ _ _ st k => ⟨st.1.at fun o q => k it (by simp) o q, st.2.at fun o q => k a (by simp) o q⟩
      item := fun j s Q E hj => absurd hj (Nat.not_lt_zero j)
      done := fun s Q E st hE => RZ.nextOf_tuple_end (I.ok.hd hcalm) st.1 st.2 (by simp; omega) hE }
    exact wpAny_pyNext_enum_endD D0 hen ⟨hti', (show s.heap.IsTuple a its.toArray from tup)⟩ fun h' eb => ⟨rfl, I.turned (t' := s.toks) (fun b o hb q => eb b o hb q) f0 f1 f3 f4 f5⟩
  self := fun A i s Q E st h => let ⟨⟨_, hen⟩, _⟩ := st; wpAny_pyIter_enum hen h
def iEnumN (K : Frag) (ta : TA) : TI := fun σ H R => ta σ H fun vs H1 => ∃ a xs, vs = [.ref a] ∧ ((SqL K H1 a xs ∧ R (Ite K a) H1) ∨ (SqT K H1 a xs ∧ R (ItN K a) H1))
theorem pi_enumN {X : Cx} {e : Expr} {ta : TA} {p pos tpos : Pos} {elts : List Expr} {kk : Nat} (hg : Gl X "enumerate") (hm : X.mg "enumerate" = none) (ha : PA X [e] ta) (hs : starEach [e] X.env = [(false, eval e X.env)]) :
    PI X (.Tuple elts kk tpos) (.Call (.Name "enumerate" p) [e] [] pos) (iEnumN X.K ta) := by
  refine ⟨fun pins s σ H R I h => Call_ (ld_blt I hg hm boot_enumerate (callWith_type1 (thn (ha.run pos pins s σ H _ I h) fun us s1 ⟨vs, H1, I1, r1, a, xs, ex, q⟩ => ?_) hs rfl))⟩
  subst ex
  cases r1 with
  | cons r rr =>
    cases rr
    cases r
    have two : ∀ b ∈ [s1.heap.objs.size + 1, s1.heap.objs.size], FpOk X pins H1 b := fun b hb => by
      have le1 : s1.heap.objs.size ≤ b := by
        rcases (show b = s1.heap.objs.size + 1 ∨ b = s1.heap.objs.size by simpa using hb) with z | z
        · rw [z]; exact Nat.le_add_right _ _
        · rw [z]; exact Nat.le_refl _
      exact I1.fpOk le1 (I1.hok.fresh le1)
    rcases q with ⟨hq, q⟩ | ⟨hq, q⟩
    · obtain ⟨its, rv, lst, _⟩ := I1.list hq
      refine call_enumerate_list lst.isList fun h' he hit hsz hk => wpAny_pyIter_enum he ?_
      exact ⟨s1.heap.objs.size + 1, [s1.heap.objs.size + 1, s1.heap.objs.size], _, _, H1, rfl, I1.kept (t' := s1.toks) hk, turn_enum a (s1.heap.objs.size + 1) s1.heap.objs.size, ⟨⟨.none, he⟩, hit, Nat.succ_ne_self _⟩, two, q⟩
    · obtain ⟨its, rv, tup, _⟩ := I1.tuple hq
      have lta : a < s1.heap.objs.size := by obtain ⟨_, z, _⟩ := tup; exact Heap.lt_size z
      refine enumOne_call (begins_tuple a its.toArray) (show s1.heap.IsTuple a its.toArray from tup) fun h' he hit hk => wpAny_pyIter_enum he ?_
      exact ⟨s1.heap.objs.size + 1, [s1.heap.objs.size + 1, s1.heap.objs.size], _, _, H1, rfl, I1.kept (t' := s1.toks) hk, turn_enumN a (s1.heap.objs.size + 1) s1.heap.objs.size, ⟨⟨.none, he⟩, ⟨_, hit, rfl, rfl⟩, Nat.succ_ne_self _, Nat.ne_of_lt lta, Nat.ne_of_lt (Nat.lt_succ_of_lt lta)⟩, two, q⟩
end Tv

/-! Tv4s: len(set(xs)) of a list of ints. -/
namespace Tv
open PySem PySem.Spec PyProof.Rows L2
theorem pe_lenSetD {X : Cx} {e : Expr} {te : TE} {p1 p2 p3 p4 : Pos} (calm : X.calm = true) (gl1 : Gl X "len") (m1 : X.mg "len" = none) (gl2 : Gl X "set") (m2 : X.mg "set" = none) (he : PE X e te) (st : starEach [e] X.env = (false, eval e X.env) :: starEach [] X.env) :
    PE X (.Call (.Name "len" p1) [.Call (.Name "set" p2) [e] [] p3] [] p4) (fun σ H Q => te σ H fun x H1 => ∃ (l : Addr) (ns : List Int), x = .ref l ∧ SqL X.K H1 l (ns.map V.int) ∧ ns.length ≤ 4000 ∧ Q (.int (unlike ns : Nat)) H1) := by
  constructor
  intro pins s σ H Q I h
  refine Call_ (ld_blt I gl1 m1 boot_len (PyProof.Rows.callWith_builtin1 (PyProof.Rows.args_cons (Call_ (ld_blt I gl2 m2 boot_set (PyProof.Rows.callWith_type1 (PyProof.Rows.args_cons ?_ st) st rfl))) rfl) rfl rfl))
  refine thn (he.run pins s σ H _ I h) fun v s1 hv => ?_
  obtain ⟨x, H1, I1, r1, l, ns, rfl, hq, hl, q1⟩ := hv
  refine PyProof.Rows.args_nil ?_
  cases r1
  obtain ⟨its, r, pl, hz⟩ := I1.list hq
  have hn : its.toArray.size = ns.length := by
    have := r.length
    rw [List.length_map] at this
    rw [List.size_toArray, this]
  refine call_set_list (I1.ok.hd calm) pl.isList (by simpa using RZ.intsAre_vals r) (by rw [hn]; unfold scanBound; omega) fun h' tk hS hk => PyProof.Rows.args_nil ?_
  rw [hn] at hS
  obtain ⟨o, es, ep, t, ho, hex, hd, _, _, _, hf, hnn⟩ := hS
  have hb : unlike ns ≤ ns.length := PyProof.Rows.firstMet_length_le _ _
  have I2 := I1.kept (t' := tk) fun b o e => hk b o (Heap.lt_size e) e
  exact call_len_set ho hex hd hf (by rw [hnn]; show ((unlike ns : Nat) : Int) < 2 ^ 63; omega) ⟨.int (unlike ns : Nat), H1, I2.tok _, ⟨_, by rw [hnn]; rfl⟩, q1⟩
section
variable {X : Cx} {call : Calls}
theorem v_lens {e0 : Expr} {ca : C} (h : PE X e0 (fun σ H Q => tQ X.K call ca σ H fun x H1 => ∃ (l : Addr) (ns : List Int), x = .ref l ∧ SqL X.K H1 l (ns.map V.int) ∧ ns.length ≤ 4000 ∧ Q (.int (unlike ns : Nat)) H1)) : PE X e0 (tV X.K call (.bi .set [ca])) :=
  h.imp fun σ H Q ⟨w, ρ, g, z, g', o, r, he, q⟩ => by
    simp only [ev] at he
    obtain ⟨ds, g1, e1, he⟩ := bnd_eq he
    simp only [evs] at e1
    obtain ⟨d, g2, e2, e1⟩ := bnd_eq e1
    cases e1
    rw [Option.map_eq_some_iff] at he
    obtain ⟨z', e3, e4⟩ := he
    cases e4
    replace e3 : lensD d = some z := e3
    unfold lensD at e3
    split at e3
    · rename_i xs
      split at e3
      · rename_i ns hns
        split at e3
        · rename_i hl
          cases e3
          refine ⟨w, ρ, g, .lst xs, _, o, r, e2, fun w1 H1 v o1 x1 y1 => ?_⟩
          obtain ⟨a, us, rfl, h1, _, h2⟩ := y1
          rw [h2.ints hns] at h1
          exact ⟨a, ns, rfl, .inl (.inl h1), hl, q w1 H1 _ o1 x1 rfl⟩
        · cases e3
      · cases e3
    · cases e3
end
end Tv

/-! Tv4r: list(range(..)), tuple(range(..)). -/
namespace Tv
open PySem PySem.Spec PyProof.Rows L2
theorem reps_rng {K : Frag} {w : W} : ∀ (n : Nat) (lo : Int) (f : Nat → V), (∀ i, f i = .int (lo + (i : Int))) → Reps K w (rangeD lo n) ((List.range n).map f)
  | 0, _, _, _ => trivial
  | n + 1, lo, f, h => by
    rw [List.range_succ_eq_map, List.map_cons, List.map_map, rangeD]
    refine ⟨?_, reps_rng n (lo + 1) _ fun i => ?_⟩
    · rw [h 0]
      show _ = _
      congr 1
      omega
    · show f (i + 1) = _
      rw [h (i + 1)]
      congr 1
      omega
theorem rng_reps {K : Frag} {w : W} {a b : Int} : Reps K w (rangeD a (b - a).toNat) (rgV a b) := reps_rng _ _ _ fun _ => rfl
theorem rng_ok {a b : Int} (h1 : small62 a = true) (h2 : small62 b = true) (h3 : (b - a).toNat ≤ sizeLine) : RgOk a b := by
  simp only [small62, Bool.and_eq_true, decide_eq_true_eq] at h1 h2
  exact ⟨h1.1, h1.2, h2.1, h2.2, h3⟩
section
variable {X : Cx} {call : Calls}
theorem lr_eq {ds : List D} {a b : Int} (h : rngE ds = some (a, b)) : ds = [.int b] ∧ a = 0 ∧ small62 0 = true ∧ small62 b = true ∧ (b - 0).toNat ≤ sizeLine ∨ ds = [.int a, .int b] ∧ small62 a = true ∧ small62 b = true ∧ (b - a).toNat ≤ sizeLine := by
  unfold rngE at h
  split at h
  · split at h
    · rename_i k
      cases h
      exact .inl ⟨rfl, rfl, by decide, k.1, by have := k.2; omega⟩
    · cases h
  · split at h
    · rename_i k
      cases h
      exact .inr ⟨rfl, k.1, k.2.1, k.2.2⟩
    · cases h
  · cases h
/-- the ends of a range, read -/
theorem rg_read1 {ca : C} {σ : L2.St} {H : Hp} {Q : Int → Int → Hp → Prop} {w : W} {ρ : Env} {g g' : GS} {ds : List D} {a b : Int} (o : Ok w H g) (r : Rel X.K w H ρ σ) (he : evs call [ca] ρ g = some (ds, g')) (hr : rngE ds = some (a, b)) (q : ∀ w1 H1, Ok w1 H1 g' → Ext w H w1 H1 → RgOk a b → Q a b H1) : tRg1 (tQ X.K call ca) σ H Q := by
  simp only [evs] at he
  obtain ⟨d, g2, e2, he⟩ := bnd_eq he
  cases he
  rcases lr_eq hr with ⟨h1, rfl, h2, h3, h4⟩ | ⟨h1, _⟩
  · cases h1
    exact ⟨w, ρ, g, _, _, o, r, e2, fun w1 H1 v o1 x1 y1 => ⟨b, y1, q w1 H1 o1 x1 (rng_ok h2 h3 h4)⟩⟩
  · cases h1
theorem rg_read2 {ca cb : C} {σ : L2.St} {H : Hp} {Q : Int → Int → Hp → Prop} {w : W} {ρ : Env} {g g' : GS} {ds : List D} {a b : Int} (o : Ok w H g) (r : Rel X.K w H ρ σ) (he : evs call [ca, cb] ρ g = some (ds, g')) (hr : rngE ds = some (a, b)) (q : ∀ w1 H1, Ok w1 H1 g' → Ext w H w1 H1 → RgOk a b → Q a b H1) : tRg2 (tQ X.K call ca) (tQ X.K call cb) σ H Q := by
  simp only [evs] at he
  obtain ⟨d, g2, e2, he⟩ := bnd_eq he
  obtain ⟨ds2, g3, e3, he⟩ := bnd_eq he
  cases he
  obtain ⟨d2, g4, e4, e3⟩ := bnd_eq e3
  cases e3
  rcases lr_eq hr with ⟨h1, _⟩ | ⟨h1, h2, h3, h4⟩
  · cases h1
  · cases h1
    exact ⟨w, ρ, g, _, _, o, r, e2, fun w1 H1 v o1 x1 y1 => ⟨w1, ρ, g2, _, _, o1, r.ext x1, e4, fun w2 H2 u o2 x2 y2 => ⟨a, b, y1, y2, q w2 H2 o2 (x1.trans x2) (rng_ok h2 h3 h4)⟩⟩⟩
theorem f_lrng {e0 : Expr} {cs : List C} {te : L2.St → Hp → (Int → Int → Hp → Prop) → Prop} (h : PE X e0 (tLstRg te)) (hr : ∀ {σ : L2.St} {H : Hp} {Q : Int → Int → Hp → Prop} {w : W} {ρ : Env} {g g' : GS} {ds : List D} {a b : Int}, Ok w H g → Rel X.K w H ρ σ → evs call cs ρ g = some (ds, g') → rngE ds = some (a, b) → (∀ w1 H1, Ok w1 H1 g' → Ext w H w1 H1 → RgOk a b → Q a b H1) → te σ H Q) : PE X e0 (tF X.K call (.bi .lrng cs)) :=
  h.imp fun σ H Q ⟨w, ρ, g, xs, g', o, r, he, q⟩ => by
    simp only [ev] at he
    obtain ⟨ds, g1, e1, he⟩ := bnd_eq he
    rw [Option.map_eq_some_iff] at he
    obtain ⟨z', e3, e4⟩ := he
    cases e4
    have e5 : (rngE ds).map (fun p => D.lst (rangeD p.1 (p.2 - p.1).toNat)) = some (.lst xs) := e3
    rw [Option.map_eq_some_iff] at e5
    obtain ⟨⟨a, b⟩, e6, e7⟩ := e5
    cases e7
    exact hr o r e1 e6 fun w1 H1 o1 x1 k => ⟨k, fun p np => q w1 H1 p _ o1 x1 np rng_reps⟩
theorem v_trng {e0 : Expr} {cs : List C} {te : L2.St → Hp → (Int → Int → Hp → Prop) → Prop} (h : PE X e0 (tTupRg te)) (hr : ∀ {σ : L2.St} {H : Hp} {Q : Int → Int → Hp → Prop} {w : W} {ρ : Env} {g g' : GS} {ds : List D} {a b : Int}, Ok w H g → Rel X.K w H ρ σ → evs call cs ρ g = some (ds, g') → rngE ds = some (a, b) → (∀ w1 H1, Ok w1 H1 g' → Ext w H w1 H1 → RgOk a b → Q a b H1) → te σ H Q) : PE X e0 (tV X.K call (.bi .trng cs)) :=
  h.imp fun σ H Q ⟨w, ρ, g, z, g', o, r, he, q⟩ => by
    simp only [ev] at he
    obtain ⟨ds, g1, e1, he⟩ := bnd_eq he
    rw [Option.map_eq_some_iff] at he
    obtain ⟨z', e3, e4⟩ := he
    cases e4
    have e5 : (rngE ds).map (fun p => D.tup (rangeD p.1 (p.2 - p.1).toNat)) = some z := e3
    rw [Option.map_eq_some_iff] at e5
    obtain ⟨⟨a, b⟩, e6, e7⟩ := e5
    cases e7
    exact hr o r e1 e6 fun w1 H1 o1 x1 k => ⟨k, fun p np => q _ _ _ (o1.add np) (x1.trans (Ext.add o1 np)) ⟨p, _, rfl, .inl (.inl upd_same), rng_reps⟩⟩
end
end Tv

/-! Tv5: targets, what is walked, comprehensions. -/
namespace Tv
open PySem L2

/-! ### targets -/
mutual
def gvars : G → List Nat
  | .var i => [i]
  | .tup gs => gvarss gs
def gvarss : List G → List Nat
  | [] => []
  | g :: gs => gvars g ++ gvarss gs
end
/-- σ' is σ but for the places at vs -/
structure But (vs : List Nat) (σ σ' : St) : Prop where
  len : σ'.length = σ.length
  out : ∀ i, i ∉ vs → σ'[i]? = σ[i]?
theorem But.refl (vs : List Nat) (σ : St) : But vs σ σ := ⟨rfl, fun _ _ => rfl⟩
theorem But.trans {vs us : List Nat} {σ σ1 σ2 : St} (a : But vs σ σ1) (b : But us σ1 σ2) : But (vs ++ us) σ σ2 :=
  ⟨b.len.trans a.len, fun i h => (b.out i fun m => h (List.mem_append_right _ m)).trans (a.out i fun m => h (List.mem_append_left _ m))⟩
def tGt (K : Frag) (gt : G) : TG := fun v σ H Q => ∃ w ρ g d ρ', Ok w H g ∧ Rel K w H ρ σ ∧ Rep K w d v ∧ asg gt d ρ = some ρ' ∧ ∀ σ', Rel K w H ρ' σ' → But (gvars gt) σ σ' → Q σ' H
def tGts (K : Frag) (gs : List G) : TGs := fun vs σ H Q => ∃ w ρ g ds ρ', Ok w H g ∧ Rel K w H ρ σ ∧ Reps K w ds vs ∧ asgs gs ds ρ = some ρ' ∧ ∀ σ', Rel K w H ρ' σ' → But (gvarss gs) σ σ' → Q σ' H
section
variable {X : Cx} {call : Calls}
theorem PGimp {e : Expr} {t t' : TG} (h : PG X e t) (i : ∀ v σ H Q, t' v σ H Q → t v σ H Q) : PG X e t' := ⟨fun pins s σ H v u Q I r q => h.run pins s σ H v u Q I r (i v σ H Q q)⟩
theorem PGsimp {es : List Expr} {t t' : TGs} (h : PGs X es t) (i : ∀ v σ H Q, t' v σ H Q → t v σ H Q) : PGs X es t' := ⟨fun pins s σ H v u Q I r q => h.run pins s σ H v u Q I r (i v σ H Q q)⟩
theorem g_var {i : Nat} {e : Expr} (h : PG X e (gName i)) : PG X e (tGt X.K (.var i)) :=
  PGimp h fun v σ H Q ⟨w, ρ, g, d, ρ', o, r, y, ha, q⟩ => by
    simp only [asg] at ha
    cases ha
    refine q _ (r.set y) ⟨by simp, fun j hj => ?_⟩
    rw [List.getElem?_set_ne]
    exact fun z => hj (by simp [gvars, z])
theorem g_nil : PGs X [] (tGts X.K []) := PGsimp pgs_nil fun v σ H Q ⟨w, ρ, g, ds, ρ', o, r, y, ha, q⟩ => by
  cases ds with
  | nil =>
    simp only [asgs] at ha
    cases ha
    cases v with
    | nil => exact ⟨rfl, q σ r (But.refl _ _)⟩
    | cons _ _ => exact y.elim
  | cons _ _ => simp only [asgs] at ha; cases ha
theorem g_cons {e : Expr} {es : List Expr} {gt : G} {gs : List G} (h1 : PG X e (tGt X.K gt)) (h2 : PGs X es (tGts X.K gs)) (hs : (assignEach (e :: es) X.env).map (·.2) = assign e X.env :: (assignEach es X.env).map (·.2)) : PGs X (e :: es) (tGts X.K (gt :: gs)) :=
  PGsimp (pgs_cons h1 h2 hs) fun v σ H Q ⟨w, ρ, g, ds, ρ', o, r, y, ha, q⟩ => by
    cases ds with
    | nil => simp only [asgs] at ha; cases ha
    | cons d ds =>
      simp only [asgs] at ha
      split at ha
      · rename_i ρ1 e1
        cases v with
        | nil => exact y.elim
        | cons v vs => exact ⟨v, vs, rfl, w, ρ, g, d, ρ1, o, r, y.1, e1, fun σ1 r1 b1 => ⟨w, ρ1, g, ds, ρ', o, r1, y.2, ha, fun σ2 r2 b2 => q σ2 r2 (by
            show But (gvarss (gt :: gs)) σ σ2
            simp only [gvarss]
            exact b1.trans b2)⟩⟩
      · cases ha
theorem asgs_len : ∀ {gs : List G} {ds : List D} {ρ ρ' : Env}, asgs gs ds ρ = some ρ' → ds.length = gs.length
  | [], [], _, _, _ => rfl
  | g :: gs, d :: ds, ρ, ρ', h => by
    simp only [asgs] at h
    split at h
    · simp [asgs_len h]
    · cases h
  | [], _ :: _, _, _, h => by simp only [asgs] at h; cases h
  | _ :: _, [], _, _, h => by simp only [asgs] at h; cases h
theorem pg_or {e : Expr} {t t' : TG} (h : PG X e t) (h' : PG X e t') : PG X e (fun v σ H Q => t v σ H Q ∨ t' v σ H Q) := ⟨fun pins s σ H v u Q I r q => by
  rcases q with q | q
  · exact h.run pins s σ H v u Q I r q
  · exact h'.run pins s σ H v u Q I r q⟩
theorem g_tup {es : List Expr} {k : Nat} {gs : List G} {pos : Pos} (hc : X.calm = true) (h : PGs X es (tGts X.K gs)) (hn : (assignEach es X.env).length = gs.length) (hst : (assignEach es X.env).findIdx? (·.1) = none) : PG X (.Tuple es k pos) (tGt X.K (.tup gs)) :=
  PGimp (pg_or (pg_tup hc h hn hst) (pg_unl hc h hn hst)) fun v σ H Q ⟨w, ρ, g, d, ρ', o, r, y, ha, q⟩ => by
    simp only [asg] at ha
    split at ha
    · obtain ⟨a, vs, rfl, h1, h2⟩ := y
      exact .inl ⟨a, vs, rfl, SqT.same o.same h1, by rw [← h2.len]; exact asgs_len ha, w, ρ, g, _, ρ', o, r, h2, ha, fun σ' r' b => q σ' r' (by simp only [gvars]; exact b)⟩
    · obtain ⟨a, vs, rfl, h1, h2⟩ := y
      exact .inr ⟨a, vs, rfl, .inl (.inl (o.same _ _ h1)), by rw [← h2.len]; exact asgs_len ha, w, ρ, g, _, ρ', o, r, h2, ha, fun σ' r' b => q σ' r' (by simp only [gvars]; exact b)⟩
    · cases ha

/-! ### what is walked -/
/-- J yields the items xs as long as what never changes stands -/
def Walks (K : Frag) (w : W) (J : It) (xs : List D) : Prop := ∀ w2 H2 g2, Ok w2 H2 g2 → Le w w2 →
  (∀ (i : Nat) d, xs[i]? = some d → J.go i H2 ∧ ∀ x H3, J.yld i H2 x H3 → ∃ w3, Ok w3 H3 g2 ∧ Ext w2 H2 w3 H3 ∧ Rep K w3 d x) ∧ J.stop xs.length H2
/-- .. as long as nothing of one's own is changed -/
def WalksQ (K : Frag) (w : W) (H : Hp) (J : It) (xs : List D) : Prop := ∀ w2 H2 g2, Ok w2 H2 g2 → Ext w H w2 H2 →
  (∀ (i : Nat) d, xs[i]? = some d → J.go i H2 ∧ ∀ x H3, J.yld i H2 x H3 → ∃ w3, Ok w3 H3 g2 ∧ Ext w2 H2 w3 H3 ∧ Rep K w3 d x) ∧ J.stop xs.length H2
theorem Walks.q {K : Frag} {w : W} {H : Hp} {J : It} {xs : List D} (h : Walks K w J xs) : WalksQ K w H J xs := fun w2 H2 g2 o e => h w2 H2 g2 o e.le
def tI (K : Frag) (call : Calls) (c : C) : TI := fun σ H R => ∃ w ρ g s xs g', Ok w H g ∧ Rel K w H ρ σ ∧ ev call c ρ g = some (s, g') ∧ items s = some xs ∧ ∀ w' H' J, Ok w' H' g' → Ext w H w' H' → Walks K w' J xs → R J H'
def tIQ (K : Frag) (call : Calls) (c : C) : TI := fun σ H R => ∃ w ρ g s xs g', Ok w H g ∧ Rel K w H ρ σ ∧ ev call c ρ g = some (s, g') ∧ items s = some xs ∧ ∀ w' H' J, Ok w' H' g' → Ext w H w' H' → WalksQ K w' H' J xs → R J H'
theorem PIimp {tg e : Expr} {t t' : TI} (h : PI X tg e t) (i : ∀ σ H R, t' σ H R → t σ H R) : PI X tg e t' := ⟨fun pins s σ H R I q => h.run pins s σ H R I (i σ H R q)⟩
theorem iq_of {tg e : Expr} {c : C} (h : PI X tg e (tI X.K call c)) : PI X tg e (tIQ X.K call c) :=
  PIimp h fun σ H R ⟨w, ρ, g, s, xs, g', o, r, e1, e2, q⟩ => ⟨w, ρ, g, s, xs, g', o, r, e1, e2, fun w' H' J o' x k => q w' H' J o' x k.q⟩

/-- a list or a tuple, whichever it is -/
def iSeq (K : Frag) (tl : TE) : TI := fun σ H R => tl σ H fun x H1 => ∃ a, x = .ref a ∧ ((∃ xs, SqL K H1 a xs ∧ R (Itl K a) H1) ∨ ∃ xs, SqT K H1 a xs ∧ R (Itt K a) H1)
theorem pi_seq {tg l : Expr} {tl : TE} (hl : PE X l tl) : PI X tg l (iSeq X.K tl) := by
  refine ⟨fun pins s σ H R I h => ?_⟩
  refine thn (hl.run pins s σ H _ I h) fun v s1 ⟨x, H1, I1, r1, q1⟩ => ?_
  obtain ⟨a, e, q⟩ := q1
  subst e
  cases r1
  rcases q with ⟨xs, hq, q⟩ | ⟨xs, hq, q⟩
  · obtain ⟨its, rv, p, hz⟩ := I1.list hq
    refine wpAny_pyIter_list p.isList ?_
    refine ⟨s1.heap.objs.size, [s1.heap.objs.size], _, _, H1, rfl, I1.kept (t' := s1.toks) fun b o e => Heap.get?_push_of_some _ e, turn_list a _, ⟨_, Heap.get?_push_size _ rfl, rfl, rfl⟩, fun b hb => ?_, q⟩
    have e : b = s1.heap.objs.size := by simpa using hb
    subst e
    exact I1.fpOk (Nat.le_refl _) (I1.hok.fresh (Nat.le_refl _))
  · obtain ⟨its, rv, p, hz⟩ := I1.tuple hq
    refine wpAny_pyIter_tuple (show s1.heap.IsTuple a its.toArray from p) ?_
    refine ⟨s1.heap.objs.size, [s1.heap.objs.size], _, _, H1, rfl, I1.kept (t' := s1.toks) fun b o e => Heap.get?_push_of_some _ e, turn_tuple a _, ⟨_, Heap.get?_push_size _ rfl, rfl, rfl⟩, fun b hb => ?_, q⟩
    have e : b = s1.heap.objs.size := by simpa using hb
    subst e
    exact I1.fpOk (Nat.le_refl _) (I1.hok.fresh (Nat.le_refl _))
theorem walks_list {K : Frag} {w : W} {a : Addr} {vs : List V} {xs : List D} (h : w.F a = some (.lst vs)) (q : Reps K w xs vs) : Walks K w (Itl K a) xs := fun w2 H2 g2 o e => by
  have h2 : SqL K H2 a vs := .inl (.inl (o.same _ _ (e.F _ _ h)))
  refine ⟨fun i d hd => ?_, vs, h2, by rw [q.len]; exact Nat.le_refl _⟩
  obtain ⟨v, h3, h4⟩ := q.get hd
  exact ⟨⟨vs, v, h2, h3⟩, fun x H3 ⟨e1, y⟩ => by
    subst e1
    have := y vs h2
    rw [h3] at this; cases this
    exact ⟨w2, o, Ext.refl _ _, h4.mono e⟩⟩
theorem walksQ_list {K : Frag} {w : W} {H : Hp} {a : Addr} {vs : List V} {xs : List D} (h : H a = some (.lst vs)) (hn : a ∉ w.st) (q : Reps K w xs vs) : WalksQ K w H (Itl K a) xs := fun w2 H2 g2 o e => by
  have h2 : SqL K H2 a vs := .inl (.inl (e.keep a _ h hn))
  refine ⟨fun i d hd => ?_, vs, h2, by rw [q.len]; exact Nat.le_refl _⟩
  obtain ⟨v, h3, h4⟩ := q.get hd
  exact ⟨⟨vs, v, h2, h3⟩, fun x H3 ⟨e1, y⟩ => by
    subst e1
    have := y vs h2
    rw [h3] at this; cases this
    exact ⟨w2, o, Ext.refl _ _, h4.mono e.le⟩⟩
theorem walks_tup {K : Frag} {w : W} {a : Addr} {vs : List V} {xs : List D} (h : SqT K w.F a vs) (q : Reps K w xs vs) : Walks K w (Itt K a) xs := fun w2 H2 g2 o e => by
  have h2 : SqT K H2 a vs := SqT.same o.same (SqT.same e.F h)
  refine ⟨fun i d hd => ?_, vs, h2, by rw [q.len]; exact Nat.le_refl _⟩
  obtain ⟨v, h3, h4⟩ := q.get hd
  exact ⟨⟨vs, v, h2, h3⟩, fun x H3 ⟨e1, y⟩ => by
    subst e1
    have := y vs h2
    rw [h3] at this; cases this
    exact ⟨w2, o, Ext.refl _ _, h4.mono e⟩⟩
theorem i_seq {tg e : Expr} {c : C} (h : PE X e (tV X.K call c)) : PI X tg e (tI X.K call c) :=
  PIimp (pi_seq h) fun σ H R ⟨w, ρ, g, s, xs, g', o, r, e1, e2, q⟩ => ⟨w, ρ, g, s, g', o, r, e1, fun w1 H1 v o1 x1 y1 => by
    unfold items at e2
    split at e2
    · cases e2
      obtain ⟨a, vs, rfl, h1, h2⟩ := y1
      exact ⟨a, rfl, .inl ⟨vs, .inl (.inl (o1.same _ _ h1)), q w1 H1 _ o1 x1 (walks_list h1 h2)⟩⟩
    · cases e2
      obtain ⟨a, vs, rfl, h1, h2⟩ := y1
      exact ⟨a, rfl, .inr ⟨vs, SqT.same o1.same h1, q w1 H1 _ o1 x1 (walks_tup h1 h2)⟩⟩
    · cases e2⟩
theorem iq_seq {tg e : Expr} {c : C} (h : PE X e (tQ X.K call c)) : PI X tg e (tIQ X.K call c) :=
  PIimp (pi_seq h) fun σ H R ⟨w, ρ, g, s, xs, g', o, r, e1, e2, q⟩ => ⟨w, ρ, g, s, g', o, r, e1, fun w1 H1 v o1 x1 y1 => by
    unfold items at e2
    split at e2
    · cases e2
      obtain ⟨a, vs, rfl, h1, hn, h2⟩ := y1
      exact ⟨a, rfl, .inl ⟨vs, .inl (.inl h1), q w1 H1 _ o1 x1 (walksQ_list h1 hn h2)⟩⟩
    · cases e2
      obtain ⟨a, vs, rfl, h1, h2⟩ := y1
      exact ⟨a, rfl, .inr ⟨vs, SqT.same o1.same h1, q w1 H1 _ o1 x1 (walks_tup h1 h2).q⟩⟩
    · cases e2⟩
/-! range -/
theorem rangeD_len : ∀ (n : Nat) (lo : Int), (rangeD lo n).length = n
  | 0, _ => rfl
  | n + 1, lo => by simp [rangeD, rangeD_len n]
theorem rangeD_get : ∀ (n : Nat) (lo : Int) (i : Nat) (d : D), (rangeD lo n)[i]? = some d → i < n ∧ d = .int (lo + i)
  | 0, _, i, d, h => by simp [rangeD] at h
  | n + 1, lo, 0, d, h => by
    simp [rangeD] at h
    exact ⟨by omega, by rw [← h]; simp⟩
  | n + 1, lo, i + 1, d, h => by
    have h' : (rangeD (lo + 1) n)[i]? = some d := by simpa [rangeD] using h
    obtain ⟨h1, h2⟩ := rangeD_get n (lo + 1) i d h'
    refine ⟨by omega, ?_⟩
    rw [h2]
    congr 1
    omega
theorem walks_range {K : Frag} {w : W} {lo : Int} {n : Nat} : Walks K w (Itr lo n) (rangeD lo n) := fun w2 H2 g2 o e => by
  refine ⟨fun i d hd => ?_, by rw [rangeD_len]; exact Nat.le_refl _⟩
  obtain ⟨h1, rfl⟩ := rangeD_get n lo i d hd
  exact ⟨h1, fun x H3 ⟨e1, e2⟩ => by subst e1 e2; exact ⟨w2, o, Ext.refl _ _, rfl⟩⟩
theorem i_range1 {tg a : Expr} {c : C} {p pos : Pos} (hg : Gl X "range") (hm : X.mg "range" = none) (ha : PA X [a] (tAQ X.K call [c])) (hs : starEach [a] X.env = [(false, eval a X.env)]) : PI X tg (.Call (.Name "range" p) [a] [] pos) (tI X.K call (.bi .range1 [c])) :=
  PIimp (pi_range1 hg hm ha hs) fun σ H R ⟨w, ρ, g, s, xs, g', o, r, e1, e2, q⟩ => by
    simp only [ev] at e1
    obtain ⟨ds, g1, e3, e1⟩ := bnd_eq e1
    rw [Option.map_eq_some_iff] at e1
    obtain ⟨z, e4, e5⟩ := e1
    cases e5
    obtain ⟨d, rfl, ez⟩ := un_eq e4
    refine ⟨w, ρ, g, [d], _, o, r, e3, fun w1 H1 vs o1 x1 y1 => ?_⟩
    obtain ⟨v, rfl, y⟩ := y1.one
    unfold range1D at ez
    split at ez
    · split at ez
      · rename_i hk
        cases ez
        cases e2
        simp only [small62, Bool.and_eq_true, decide_eq_true_eq] at hk
        exact ⟨_, by rw [show v = .int _ from y], hk.1, hk.2, q w1 H1 _ o1 x1 walks_range⟩
      · cases ez
    · cases ez
theorem i_range2 {tg a b : Expr} {cs : List C} {p pos : Pos} (hg : Gl X "range") (hm : X.mg "range" = none) (ha : PA X [a, b] (tAQ X.K call cs)) (hs : starEach [a, b] X.env = [(false, eval a X.env), (false, eval b X.env)]) (hs2 : starEach [b] X.env = [(false, eval b X.env)]) :
    PI X tg (.Call (.Name "range" p) [a, b] [] pos) (tI X.K call (.bi .range2 cs)) :=
  PIimp (pi_range2 hg hm ha hs hs2) fun σ H R ⟨w, ρ, g, s, xs, g', o, r, e1, e2, q⟩ => by
    simp only [ev] at e1
    obtain ⟨ds, g1, e3, e1⟩ := bnd_eq e1
    rw [Option.map_eq_some_iff] at e1
    obtain ⟨z, e4, e5⟩ := e1
    cases e5
    refine ⟨w, ρ, g, ds, _, o, r, e3, fun w1 H1 vs o1 x1 y1 => ?_⟩
    have e4 : range2D ds = some s := e4
    unfold range2D at e4
    split at e4
    · obtain ⟨v, u, rfl, y1, y2⟩ := y1.two
      split at e4
      · rename_i hk
        cases e4
        cases e2
        simp only [small62, Bool.and_eq_true, decide_eq_true_eq] at hk
        exact ⟨_, _, by rw [show v = .int _ from y1, show u = .int _ from y2], ⟨hk.1.1, hk.1.2, hk.2.1, hk.2.2⟩, q w1 H1 _ o1 x1 walks_range⟩
      · cases e4
    · cases e4
/-! zip, enumerate -/
theorem zipD_get : ∀ (xs ys : List D) (i : Nat) (d : D), (zipD xs ys)[i]? = some d → ∃ x y, xs[i]? = some x ∧ ys[i]? = some y ∧ d = .tup [x, y]
  | [], _, i, d, h => by simp [zipD] at h
  | _ :: _, [], i, d, h => by simp [zipD] at h
  | x :: xs, y :: ys, 0, d, h => by
    simp [zipD] at h
    exact ⟨x, y, rfl, rfl, h.symm⟩
  | x :: xs, y :: ys, i + 1, d, h => by
    obtain ⟨a, b, h1, h2, h3⟩ := zipD_get xs ys i d (by simpa [zipD] using h)
    exact ⟨a, b, by simpa using h1, by simpa using h2, h3⟩
theorem zipD_len : ∀ (xs ys : List D), (zipD xs ys).length = min xs.length ys.length
  | [], _ => by simp [zipD]
  | _ :: _, [] => by simp [zipD]
  | _ :: xs, _ :: ys => by simp [zipD, zipD_len xs ys]
theorem enumD_get : ∀ (xs : List D) (k : Int) (i : Nat) (d : D), (enumD k xs)[i]? = some d → ∃ x, xs[i]? = some x ∧ d = .tup [.int (k + i), x]
  | [], _, i, d, h => by simp [enumD] at h
  | x :: xs, k, 0, d, h => by
    simp [enumD] at h
    exact ⟨x, rfl, by rw [← h]; simp⟩
  | x :: xs, k, i + 1, d, h => by
    obtain ⟨a, h1, h2⟩ := enumD_get xs (k + 1) i d (by simpa [enumD] using h)
    refine ⟨a, by simpa using h1, ?_⟩
    rw [h2]
    congr 3
    omega
theorem enumD_len : ∀ (xs : List D) (k : Int), (enumD k xs).length = xs.length
  | [], _ => rfl
  | _ :: xs, k => by simp [enumD, enumD_len xs]
/-- a new pair at T -/
theorem pair_new {K : Frag} {w : W} {H : Hp} {g : GS} {T : Addr} {x y : V} {d e : D} (o : Ok w H g) (n : H T = none) (h1 : Rep K w d x) (h2 : Rep K w e y) : ∃ w3, Ok w3 (upd H T (.tup [x, y])) g ∧ Ext w H w3 (upd H T (.tup [x, y])) ∧ Rep K w3 (.tup [d, e]) (.ref T) :=
  ⟨w.add T (.tup [x, y]), o.add n, Ext.add o n, T, [x, y], rfl, .inl (.inl upd_same), h1.mono (Le.add (o.free n)), h2.mono (Le.add (o.free n)), trivial⟩
theorem walks_zipL {K : Frag} {w : W} {a b : Addr} {vs us : List V} {xs ys : List D} (h : w.F a = some (.lst vs)) (q : Reps K w xs vs) (h' : w.F b = some (.lst us)) (q' : Reps K w ys us) : Walks K w (Itz K a b) (zipD xs ys) := fun w2 H2 g2 o e => by
  have h2 : SqL K H2 a vs := .inl (.inl (o.same _ _ (e.F _ _ h)))
  have h3 : SqL K H2 b us := .inl (.inl (o.same _ _ (e.F _ _ h')))
  refine ⟨fun i d hd => ?_, vs, us, h2, h3, ?_⟩
  · obtain ⟨x, y, hx, hy, rfl⟩ := zipD_get _ _ _ _ hd
    obtain ⟨v, k1, k2⟩ := q.get hx
    obtain ⟨u, k3, k4⟩ := q'.get hy
    refine ⟨⟨vs, us, v, u, h2, h3, k1, k3⟩, fun z H3 ⟨T, x', y', e1, n, e2, f1, f2⟩ => ?_⟩
    subst e1 e2
    have g1 := f1 vs h2
    have g2' := f2 us h3
    rw [k1] at g1; cases g1
    rw [k3] at g2'; cases g2'
    exact pair_new o n (k2.mono e) (k4.mono e)
  · rw [zipD_len, q.len, q'.len]; omega
theorem walks_zipT {K : Frag} {w : W} {a b : Addr} {vs us : List V} {xs ys : List D} (h : SqT K w.F a vs) (q : Reps K w xs vs) (h' : SqT K w.F b us) (q' : Reps K w ys us) : Walks K w (RZ.ItzT K a b) (zipD xs ys) := fun w2 H2 g2 o e => by
  have h2 : SqT K H2 a vs := SqT.same o.same (SqT.same e.F h)
  have h3 : SqT K H2 b us := SqT.same o.same (SqT.same e.F h')
  refine ⟨fun i d hd => ?_, vs, us, h2, h3, ?_⟩
  · obtain ⟨x, y, hx, hy, rfl⟩ := zipD_get _ _ _ _ hd
    obtain ⟨v, k1, k2⟩ := q.get hx
    obtain ⟨u, k3, k4⟩ := q'.get hy
    refine ⟨⟨vs, us, v, u, h2, h3, k1, k3⟩, fun z H3 ⟨T, x', y', e1, n, e2, f1, f2⟩ => ?_⟩
    subst e1 e2
    have g1 := f1 vs h2
    have g2' := f2 us h3
    rw [k1] at g1; cases g1
    rw [k3] at g2'; cases g2'
    exact pair_new o n (k2.mono e) (k4.mono e)
  · rw [zipD_len, q.len, q'.len]; omega
theorem walks_enum {K : Frag} {w : W} {a : Addr} {vs : List V} {xs : List D} (h : w.F a = some (.lst vs)) (q : Reps K w xs vs) : Walks K w (Ite K a) (enumD 0 xs) := fun w2 H2 g2 o e => by
  have h2 : SqL K H2 a vs := .inl (.inl (o.same _ _ (e.F _ _ h)))
  refine ⟨fun i d hd => ?_, vs, h2, ?_⟩
  · obtain ⟨x, hx, rfl⟩ := enumD_get _ _ _ _ hd
    obtain ⟨v, k1, k2⟩ := q.get hx
    refine ⟨⟨vs, v, h2, k1⟩, fun z H3 ⟨T, x', e1, n, e2, f1⟩ => ?_⟩
    subst e1 e2
    have g1 := f1 vs h2
    rw [k1] at g1; cases g1
    exact pair_new o n (by rw [Int.zero_add]; rfl) (k2.mono e)
  · rw [enumD_len, q.len]; exact Nat.le_refl _
theorem walks_enumT {K : Frag} {w : W} {a : Addr} {vs : List V} {xs : List D} (h : SqT K w.F a vs) (q : Reps K w xs vs) : Walks K w (ItN K a) (enumD 0 xs) := fun w2 H2 g2 o e => by
  have h2 : SqT K H2 a vs := SqT.same o.same (SqT.same e.F h)
  refine ⟨fun i d hd => ?_, vs, h2, ?_⟩
  · obtain ⟨x, hx, rfl⟩ := enumD_get _ _ _ _ hd
    obtain ⟨v, k1, k2⟩ := q.get hx
    refine ⟨⟨vs, v, h2, k1⟩, fun z H3 ⟨T, x', e1, n, e2, f1⟩ => ?_⟩
    subst e1 e2
    have g1 := f1 vs h2
    rw [k1] at g1; cases g1
    exact pair_new o n (by rw [Int.zero_add]; rfl) (k2.mono e)
  · rw [enumD_len, q.len]; exact Nat.le_refl _
theorem i_enum {es : List Expr} {kk : Nat} {tp : Pos} {a : Expr} {c : C} {p pos : Pos} (hg : Gl X "enumerate") (hm : X.mg "enumerate" = none) (ha : PA X [a] (tA X.K call [c])) (hs : starEach [a] X.env = [(false, eval a X.env)]) :
    PI X (.Tuple es kk tp) (.Call (.Name "enumerate" p) [a] [] pos) (tI X.K call (.bi .enum [c])) :=
  PIimp (pi_enumN hg hm ha hs) fun σ H R ⟨w, ρ, g, s, xs, g', o, r, e1, e2, q⟩ => by
    simp only [ev] at e1
    obtain ⟨ds, g1, e3, e1⟩ := bnd_eq e1
    rw [Option.map_eq_some_iff] at e1
    obtain ⟨z, e4, e5⟩ := e1
    cases e5
    obtain ⟨d, rfl, ez⟩ := un_eq e4
    refine ⟨w, ρ, g, [d], _, o, r, e3, fun w1 H1 vs o1 x1 y1 => ?_⟩
    unfold enumsD at ez
    split at ez
    · cases ez
      cases e2
      cases vs with
      | nil => exact y1.elim
      | cons v vs =>
        cases vs with
        | cons _ _ => exact y1.2.elim
        | nil =>
          obtain ⟨⟨a, vs, rfl, k1, k2⟩, _⟩ := y1
          exact ⟨a, vs, rfl, .inl ⟨.inl (.inl (o1.same _ _ k1)), q w1 H1 _ o1 x1 (walks_enum k1 k2)⟩⟩
    · cases ez
      cases e2
      cases vs with
      | nil => exact y1.elim
      | cons v vs =>
        cases vs with
        | cons _ _ => exact y1.2.elim
        | nil =>
          obtain ⟨⟨a, vs, rfl, k1, k2⟩, _⟩ := y1
          exact ⟨a, vs, rfl, .inr ⟨SqT.same o1.same k1, q w1 H1 _ o1 x1 (walks_enumT k1 k2)⟩⟩
    · cases ez
end
end Tv

/-! Tv5r: ranges with a step, walked. -/
namespace Tv
open PySem L2
section
variable {X : Cx} {call : Calls}
theorem RepQs.three {K : Frag} {w : W} {H : Hp} {d e f : D} {vs : List V} (h : RepQs K w H [d, e, f] vs) : ∃ v u t, vs = [v, u, t] ∧ RepQ K w H d v ∧ RepQ K w H e u ∧ RepQ K w H f t := by
  match vs, h with
  | [v, u, t], h => exact ⟨v, u, t, rfl, h.1, h.2.1, h.2.2.1⟩
theorem stepD_len : ∀ (n : Nat) (lo c : Int), (stepD lo c n).length = n
  | 0, _, _ => rfl
  | n + 1, lo, c => by rw [stepD, List.length_cons, stepD_len]
theorem stepD_get : ∀ (n : Nat) (lo c : Int) (i : Nat) (d : D), (stepD lo c n)[i]? = some d → i < n ∧ d = .int (lo + (i : Int) * c)
  | 0, _, _, i, d, h => by simp [stepD] at h
  | n + 1, lo, c, 0, d, h => by
    simp [stepD] at h
    exact ⟨by omega, by rw [← h]; simp⟩
  | n + 1, lo, c, i + 1, d, h => by
    have h' : (stepD (lo + c) c n)[i]? = some d := by simpa [stepD] using h
    obtain ⟨h1, h2⟩ := stepD_get n (lo + c) c i d h'
    refine ⟨by omega, ?_⟩
    rw [h2]
    congr 1
    rw [Int.natCast_add, Int.add_mul]
    simp
    omega
theorem walks_step {K : Frag} {w : W} {lo c : Int} {n : Nat} : Walks K w (Itc lo c n) (stepD lo c n) := fun w2 H2 g2 o e => by
  refine ⟨fun i d hd => ?_, by rw [stepD_len]; exact Nat.le_refl _⟩
  obtain ⟨h1, rfl⟩ := stepD_get n lo c i d hd
  exact ⟨h1, fun x H3 ⟨e1, e2⟩ => by subst e1 e2; exact ⟨w2, o, Ext.refl _ _, rfl⟩⟩
theorem i_range3 {tg a b c : Expr} {cs : List C} {p pos : Pos} (hg : Gl X "range") (hm : X.mg "range" = none) (ha : PA X [a, b, c] (tAQ X.K call cs)) (hs : starEach [a, b, c] X.env = (false, eval a X.env) :: starEach [b, c] X.env) (hs2 : ((backTo pos (starEach [b, c] X.env)).any fun x => x.fst) = false) :
    PI X tg (.Call (.Name "range" p) [a, b, c] [] pos) (tI X.K call (.bi .range3 cs)) :=
  PIimp (pi_range3 hg hm ha hs hs2) fun σ H R ⟨w, ρ, g, s, xs, g', o, r, e1, e2, q⟩ => by
    simp only [ev] at e1
    obtain ⟨ds, g1, e3, e1⟩ := bnd_eq e1
    rw [Option.map_eq_some_iff] at e1
    obtain ⟨z, e4, e5⟩ := e1
    cases e5
    refine ⟨w, ρ, g, ds, _, o, r, e3, fun w1 H1 vs o1 x1 y1 => ?_⟩
    have e4 : range3D ds = some s := e4
    unfold range3D at e4
    split at e4
    · obtain ⟨v, u, t, rfl, y1, y2, y3⟩ := y1.three
      split at e4
      · rename_i hk
        cases e4
        cases e2
        exact ⟨_, _, _, _, by rw [show v = .int _ from y1, show u = .int _ from y2, show t = .int _ from y3], ⟨hk.1, hk.2.1, hk.2.2.1, by omega⟩, q w1 H1 _ o1 x1 walks_step⟩
      · cases e4
    · cases e4
end
end Tv

/-! Tv5t: tuple(range(a, b, c)). -/
namespace L2
open PySem PySem.Spec PyProof.Rows
def stV (i c : Int) (n : Nat) : List V := (List.range n).map fun k => V.int (i + (k : Nat) * c)
def tTup3 (ta : TA) : TE := fun σ H Q => ta σ H fun vs H1 => ∃ (i j c : Int) (n : Nat), vs = [.int i, .int j, .int c] ∧ RgC i j c n ∧ n ≤ 16777216 ∧ ∀ q, H1 q = none → Q (.ref q) (upd H1 q (.tup (stV i c n)))
section
variable {X : Cx}
theorem vals_st {i c : Int} {n : Nat} {acc : Array Value} (h : ItemsOf (fun k v => ∃ t, v = .int (i + k * c) t) acc n) : Vals (stV i c n) acc.toList := by
  have e : acc.toList.length = n := by rw [Array.length_toList]; exact h.1
  unfold stV
  rw [← e]
  refine vals_of_get acc.toList _ fun j u hj => ?_
  obtain ⟨t, rfl⟩ := h.2 j u (by rw [← hj, Array.getElem?_toList])
  exact ⟨t, rfl⟩
theorem pe_tup3 {a b c : Expr} {ta : TA} {p p2 pos pos2 : Pos} (hcalm : X.calm = true) (hg2 : Gl X "tuple") (hm2 : X.mg "tuple" = none) (hg : Gl X "range") (hm : X.mg "range" = none) (ha : PA X [a, b, c] ta)
    (hs : starEach [a, b, c] X.env = (false, eval a X.env) :: starEach [b, c] X.env) (hp : (backTo pos2 (starEach [b, c] X.env)).any (·.1) = false)
    (na : starEach [.Call (.Name "range" p2) [a, b, c] [] pos2] X.env = (false, eval (.Call (.Name "range" p2) [a, b, c] [] pos2) X.env) :: starEach [] X.env := by rfl) :
    PE X (.Call (.Name "tuple" p) [.Call (.Name "range" p2) [a, b, c] [] pos2] [] pos) (tTup3 ta) := by
  refine ⟨fun pins s σ H Q I h => ?_⟩
  refine Call_ (ld_blt I hg2 hm2 boot_tuple (PyProof.Rows.callWith_type1 (args_cons ?_ na) na))
  refine Call_ (ld_blt I hg hm boot_range (PyProof.Rows.callWith_type1 (thn (ha.run pos2 pins s σ H _ I h) fun us s1 ⟨vs, H1, I1, r1, q1⟩ => ?_) hs hp))
  obtain ⟨i, j, k, n, e, ⟨c0, c1, c2, c3⟩, hn, q⟩ := q1
  subst e
  cases r1 with
  | cons r rr =>
    cases rr with
    | cons r' rr =>
      cases rr with
      | cons r'' rr =>
        cases rr
        obtain ⟨t, rfl⟩ := r
        obtain ⟨t', rfl⟩ := r'
        obtain ⟨t'', rfl⟩ := r''
        refine call_range_3 c0 ?_ (.inl (PyProof.noPylong_small c1))
        refine args_nil ?_
        have I2 : Inv X pins σ H1 { s1 with heap := s1.heap.push { cls := .type "range", data := .fields #[.int i t, .int j t', .int k t''] } } := I1.kept (t' := s1.toks) fun b o e => Heap.get?_push_of_some _ e
        refine call_tuple_range (n := n) (I2.ok.hd hcalm) (IsRange.new ..) c2 c3 hn fun h' tk acc hk hi => ?_
        have I3 := I2.kept (t' := tk) hk
        refine ⟨.ref h'.objs.size, upd H1 h'.objs.size (.tup (stV i k n)), I3.laid (t' := tk) (fun c o e => Heap.get?_push_of_some _ e) (Nat.le_refl _) (show ObjOk X.prog X.w _ _ _ (.tup (stV i k n)) from ⟨?_, acc.toList, vals_st hi, ?_⟩), rfl, q _ (I3.hok.fresh (Nat.le_refl _))⟩
        · unfold stV
          rw [List.length_map, List.length_range, sizeLine_eq]
          exact hn
        · rw [Array.toArray_toList]
          exact IsTup.new _ _
end
end L2
namespace Tv
open PySem L2
section
variable {X : Cx} {call : Calls}
theorem reps_step {K : Frag} {w : W} : ∀ (n : Nat) (lo c : Int) (f : Nat → V), (∀ i, f i = .int (lo + (i : Int) * c)) → Reps K w (stepD lo c n) ((List.range n).map f)
  | 0, _, _, _, _ => trivial
  | n + 1, lo, c, f, h => by
    rw [List.range_succ_eq_map, List.map_cons, List.map_map, stepD]
    refine ⟨?_, reps_step n (lo + c) c _ fun i => ?_⟩
    · rw [h 0]
      show _ = _
      congr 1
      simp
    · show f (i + 1) = _
      rw [h (i + 1)]
      congr 1
      rw [Int.natCast_add, Int.add_mul]
      simp
      omega
theorem v_tup3 {a b d : Expr} {cs : List C} {p p2 pos pos2 : Pos} (hcalm : X.calm = true) (hg2 : Gl X "tuple") (hm2 : X.mg "tuple" = none) (hg : Gl X "range") (hm : X.mg "range" = none) (ha : PA X [a, b, d] (tAQ X.K call cs))
    (hs : starEach [a, b, d] X.env = (false, eval a X.env) :: starEach [b, d] X.env) (hp : (backTo pos2 (starEach [b, d] X.env)).any (·.1) = false) :
    PE X (.Call (.Name "tuple" p) [.Call (.Name "range" p2) [a, b, d] [] pos2] [] pos) (tV X.K call (.bi .trng3 cs)) :=
  (pe_tup3 hcalm hg2 hm2 hg hm ha hs hp).imp fun σ H Q ⟨w, ρ, g, z, g', o, r, he, q⟩ => by
    simp only [ev] at he
    obtain ⟨ds, g1, e3, he⟩ := bnd_eq he
    rw [Option.map_eq_some_iff] at he
    obtain ⟨z', e4, e5⟩ := he
    cases e5
    refine ⟨w, ρ, g, ds, _, o, r, e3, fun w1 H1 vs o1 x1 y1 => ?_⟩
    have e4 : trng3D ds = some z := e4
    unfold trng3D range3D at e4
    split at e4
    · rename_i xs hx
      split at hx
      · obtain ⟨v, u, t, rfl, y1, y2, y3⟩ := y1.three
        split at hx
        · rename_i hk
          cases hx
          split at e4
          · rename_i hl
            cases e4
            rw [stepD_len] at hl
            exact ⟨_, _, _, _, by rw [show v = .int _ from y1, show u = .int _ from y2, show t = .int _ from y3], ⟨hk.1, hk.2.1, hk.2.2.1, by omega⟩, by rw [sizeLine_eq] at hl; exact hl, fun p np => q _ _ _ (o1.add np) (x1.trans (Ext.add o1 np)) ⟨p, _, rfl, .inl (.inl upd_same), reps_step _ _ _ _ fun _ => rfl⟩⟩
          · cases e4
        · cases hx
      · cases hx
    · cases e4
end
end Tv

/-! Tv5u: a tuple the other way around. -/
namespace Tv
open PySem PySem.Spec PyProof.Rows L2
section
variable {prog : Program} {w : World} {A : Around} {E : Value → Shared → Prop} {s : Shared}
theorem slice_back {sl : Addr} {vs : Value} {n : Nat} {Q : Int × Int × Nat → Shared → Prop} (hs : s.heap.IsSliceOf sl .none .none vs) (ps : IsPart vs (some (-1)))
    (h : Q ((n : Int) - 1, -1, n) s) : wpAny (model prog w) A (Builtin.Slice.sliceApplied (.ref sl) (pure (n : Int))) Q E s := by
  obtain ⟨os, hos, hcs, hds⟩ := id hs
  unfold Builtin.Slice.sliceApplied Builtin.Slice.sliceFields
  refine wpAny_bind (wpAny_bind (wpAny_field hos hds (x := .none) rfl (wpAny_bind (wpAny_field hos hds (x := .none) rfl (wpAny_bind (wpAny_field hos hds (x := vs) rfl (wpAny_pure ?_)))))))
  refine wpAny_bind (HT.slicePart_ ps ?_)
  show wpAny _ _ (if ((-1 : Int) == 0) = true then _ else _) _ _ s
  rw [if_neg (by decide)]
  refine wpAny_bind (HT.slicePart_ .none (wpAny_bind (HT.slicePart_ .none (wpAny_bind (wpAny_pure ?_)))))
  show wpAny _ _ (pure ((n : Int) - 1, (-1 : Int), Builtin.Slice.slicePlaces ((n : Int) - 1) (-1) (-1))) _ _ s
  have : Builtin.Slice.slicePlaces ((n : Int) - 1) (-1) (-1) = n := by
    unfold Builtin.Slice.slicePlaces
    rw [if_neg (by decide)]
    by_cases z : n = 0
    · subst z; rfl
    · rw [if_pos (by omega)]
      have : (- (-1) : Int) = 1 := rfl
      rw [this, Int.ediv_one]
      omega
  rw [this]
  exact wpAny_pure h
theorem pick_back (xs : Array Value) : ((List.range xs.size).filterMap fun (m : Nat) => xs[(((xs.size : Int) - 1) + (m : Int) * -1).toNat]?).toArray = xs.toList.reverse.toArray := by
  congr 1
  apply List.ext_getElem?
  intro i
  have e : ∀ (l : List Nat), (∀ m ∈ l, m < xs.size) → (l.filterMap fun (m : Nat) => xs[(((xs.size : Int) - 1) + (m : Int) * -1).toNat]?) = l.map fun m => (xs.toList.reverse)[m]?.getD default := by
    intro l hl
    induction l with
    | nil => rfl
    | cons m l ih =>
      have hm := hl m (List.mem_cons_self ..)
      have e1 : (((xs.size : Int) - 1) + (m : Int) * -1).toNat = xs.size - 1 - m := by omega
      have e2 : xs[(((xs.size : Int) - 1) + (m : Int) * -1).toNat]? = some (xs[xs.size - 1 - m]'(by omega)) := by
        rw [e1]
        exact Array.getElem?_eq_getElem (by omega)
      have e3 : (xs.toList.reverse)[m]?.getD default = xs[xs.size - 1 - m]'(by omega) := by
        rw [List.getElem?_reverse (by simpa using hm)]
        rw [Array.length_toList, Array.getElem?_toList, Array.getElem?_eq_getElem (by omega)]
        rfl
      rw [List.filterMap_cons, e2, List.map_cons, e3]
      dsimp only
      rw [ih fun z hz => hl z (List.mem_cons_of_mem _ hz)]
  rw [e _ fun m hm => List.mem_range.mp hm]
  by_cases h : i < xs.size
  · rw [List.getElem?_map, List.getElem?_range h, Option.map_some]
    have : (xs.toList.reverse)[i]? = some ((xs.toList.reverse)[i]'(by simpa using h)) := List.getElem?_eq_getElem _
    rw [this]
    rfl
  · rw [List.getElem?_eq_none (by simpa using h), List.getElem?_eq_none (by simpa using h)]
theorem getItem_tuple_back {t sl : Addr} {items : Array Value} {vs : Value} {Q : Value → Shared → Prop} (ht : IsTup s.heap t items) (hs : s.heap.IsSliceOf sl .none .none vs) (ps : IsPart vs (some (-1)))
    (h : Q (.ref s.heap.objs.size) { s with heap := s.heap.push { cls := .type "tuple", data := .seq items.toList.reverse.toArray } })
    (hsz : items.size ≤ sizeLine) : wpAny (model prog w) A (getItem (.ref t) (.ref sl)) Q E s := by
  have htake : sizeOk (.seq items.toList.reverse.toArray) := by
    show items.toList.reverse.toArray.size ≤ sizeLine
    rw [List.size_toArray, List.length_reverse, Array.length_toList]
    exact hsz
  obtain ⟨os, hos, hcs, hds⟩ := id hs
  have hTs : s.TypeIs (.ref sl) "slice" := ⟨os, hos, hcs⟩
  unfold getItem
  try with_reducible refine wpAny_holding ?_
  first | refine wpAny_bind (wpAny_pure ?_) | skip
  refine wpAny_bind (wpAny_sequenceKey ht.typeIs (by decide) ?_)
  refine wpAny_bind (wpAny_callSpecial?_slot (name := Str.ofString "__getitem__") ht.typeIs PyProof.Rows.slot_tuple_getitem
    (wpAny_call_entry PyProof.Rows.slot_tuple_getitem ht.typeIs entry_tuple_getitem ?_ (args_tuple_getitem _ _)))
  show wpAny _ _ (Builtin.Tuple.tupleItemsOf (.ref t) >>= _) _ _ s
  refine wpAny_bind (tupleItemsOf_ ht ?_)
  refine wpAny_bind (wpAny_typeOf hTs ?_)
  rw [if_pos (by decide)]
  refine wpAny_bind (slice_back (n := items.size) hs ps ?_)
  have hno : ¬ ((((items.size : Int) - 1) == 0 && (-1 : Int) == 1 && items.size == items.size) = true) := by
    intro q
    rw [Bool.and_eq_true, Bool.and_eq_true] at q
    exact absurd q.1.2 (by decide)
  show wpAny _ _ (if (((items.size : Int) - 1) == 0 && (-1 : Int) == 1 && items.size == items.size) = true then _ else _) _ _ s
  rw [if_neg hno, pick_back]
  first
    | exact wpAny_bind (m := Builtin.Tuple.tupleExact _) (wpAny_newObj_type (wpAny_pure ⟨_, rfl, wpAny_pure h⟩) htake)
    | exact wpAny_bind (m := Builtin.Tuple.tupleExact _) (wpAny_newObj_type (wpAny_bind (wpAny_pure (wpAny_pure ⟨_, rfl, wpAny_pure h⟩))) htake)
    | exact wpAny_bind (wpAny_bind (m := Builtin.Tuple.tupleExact _) (wpAny_newObj_type (wpAny_pure (wpAny_pure ⟨_, rfl, wpAny_pure h⟩)) htake))
    | exact wpAny_bind (wpAny_bind (m := Builtin.Tuple.tupleExact _) (wpAny_newObj_type (wpAny_pure ⟨_, rfl, wpAny_pure h⟩) htake))
end
section
variable {X : Cx} {call : Calls}
def tRev2 (K : PySem.W.Frag) (te : TE) : TE := fun σ H Q => te σ H fun x H1 => ∃ a xs, x = .ref a ∧ ((SqL K H1 a xs ∧ ∀ p, H1 p = none → Q (.ref p) (upd H1 p (.lst xs.reverse))) ∨ (SqT K H1 a xs ∧ ∀ p, H1 p = none → Q (.ref p) (upd H1 p (.tup xs.reverse))))
theorem pe_rev2 {e : Expr} {te : TE} {k : Nat} {p1 p2 p3 pos : Pos} (he : PE X e te) : PE X (.Subscript e (.Slice none none (some (.UnaryOp .USub (.Constant (.int 1) k p1) p2)) p3) pos) (tRev2 X.K te) := by
  refine ⟨fun pins s σ H Q I h => ?_⟩
  refine Subscript_ (thn (he.run pins s σ H _ I h) fun v s1 ⟨x, H1, I1, r1, q1⟩ => ?_)
  obtain ⟨a, xs, ex, q1⟩ := q1
  subst ex
  cases r1
  have hst : PO X (some (.UnaryOp .USub (.Constant (.int 1) k p1) p2)) (tPart (tUn (rU fun i => .int (-i)) (tC (.int 1)))) := po_some (pe_un un_neg pe_int)
  refine wpAny_Slice (thn (po_none.run pins s1 σ H1 (fun o H2 => o = none ∧ H2 = H1) I1 ⟨rfl, rfl⟩) fun vl s2 ⟨l, H2, I2, pl, el, e2⟩ => ?_)
  subst el e2
  refine thn (po_none.run pins s2 σ H2 (fun o H3 => o = none ∧ H3 = H2) I2 ⟨rfl, rfl⟩) fun vu s3 ⟨u, H3, I3, pu, eu, e3⟩ => ?_
  subst eu e3
  refine thn (hst.run pins s3 σ H3 (fun o H4 => o = some (-1) ∧ H4 = H3) I3 ⟨1, rfl, -1, rfl, rfl, rfl⟩) fun vs s4 ⟨o, H4, I4, ps, eo, e4⟩ => ?_
  subst eo e4
  have I5 : Inv X pins σ H4 { s4 with heap := s4.heap.push { cls := .type "slice", data := .fields #[vl, vu, vs] } } := I4.kept (t' := s4.toks) fun b ob q => Heap.get?_push_of_some _ q
  show wpAny (model X.prog X.w) X.A (subscriptTail e (.Slice none none (some (.UnaryOp .USub (.Constant (.int 1) k p1) p2)) p3) (.ref a) (.ref s4.heap.objs.size)) (EP X pins σ Q) X.xe { s4 with heap := s4.heap.push { cls := .type "slice", data := .fields #[vl, vu, vs] } }
  rcases q1 with ⟨hx, q⟩ | ⟨hx, q⟩
  · obtain ⟨its, r, ht, hz⟩ := I5.list hx
    have hlen := r.length
    refine tail_any (ops := [.ref a, .ref s4.heap.objs.size]) ht.isList.typeIs (PySem.slot_list_getitem.lookup) ?_ (by with_unfolding_all rfl)
    refine wpAny_getItem_list_slice ht.isList (Heap.IsSliceOf.new _ vl vu vs) pl pu ps (by decide) ?_ (by rw [List.size_toArray]; omega)
    rw [PySem.W.krv_pick]
    refine ⟨.ref _, _, I5.laid (t' := s4.toks) (o := .lst xs.reverse) (fun b ob q => Heap.get?_push_of_some _ q) (Nat.le_refl _) ?_, rfl, q _ (I5.hok.fresh (Nat.le_refl _))⟩
    exact ⟨by rw [List.length_reverse]; exact hz, _, 0, r.reverse, Heap.get?_push_size _ rfl⟩
  · obtain ⟨its, r, ht, hz⟩ := I5.tuple hx
    have hlen := r.length
    cases pl
    cases pu
    refine tail_any (ops := [.ref a, .ref s4.heap.objs.size]) ht.typeIs PyProof.Rows.slot_tuple_getitem.lookup ?_ (by with_unfolding_all rfl)
    refine getItem_tuple_back ht (Heap.IsSliceOf.new _ .none .none vs) ps ?_ (by rw [List.size_toArray]; omega)
    refine ⟨.ref _, _, I5.laid (t' := s4.toks) (o := .tup xs.reverse) (fun b ob q => Heap.get?_push_of_some _ q) (Nat.le_refl _) ?_, rfl, q _ (I5.hok.fresh (Nat.le_refl _))⟩
    exact ⟨by rw [List.length_reverse]; exact hz, _, r.reverse, IsTup.new _ _⟩
theorem v_back {e : Expr} {c : C} {k : Nat} {p1 p2 p3 pos : Pos} (he : PE X e (tQ X.K call c)) : PE X (.Subscript e (.Slice none none (some (.UnaryOp .USub (.Constant (.int 1) k p1) p2)) p3) pos) (tV X.K call (.back c)) :=
  (pe_rev2 he).imp fun σ H Q ⟨w, ρ, g, z, g', o, r, hev, q⟩ => by
    simp only [ev] at hev
    obtain ⟨x, g1, e1, hev⟩ := bnd_eq hev
    rw [Option.map_eq_some_iff] at hev
    obtain ⟨z', e4, e5⟩ := hev
    cases e5
    refine ⟨w, ρ, g, x, _, o, r, e1, fun w1 H1 v o1 x1 y1 => ?_⟩
    unfold backD at e4
    split at e4
    · cases e4
      obtain ⟨t, vs, rfl, h1, _, h2⟩ := y1
      exact ⟨t, vs, rfl, .inl ⟨.inl (.inl h1), fun p np => q _ _ _ (o1.add np) (x1.trans (Ext.add o1 np)) ⟨p, _, rfl, upd_same, h2.reverse.mono (Le.add (o1.free np))⟩⟩⟩
    · cases e4
      obtain ⟨t, vs, rfl, h1, h2⟩ := y1
      exact ⟨t, vs, rfl, .inr ⟨SqT.same o1.same h1, fun p np => q _ _ _ (o1.add np) (x1.trans (Ext.add o1 np)) ⟨p, _, rfl, .inl (.inl upd_same), h2.reverse.mono (Le.add (o1.free np))⟩⟩⟩
    · cases e4
end
end Tv

/-! Tv5z: zip of a list and a tuple (after the kit's two kinds: the turn told once for any two of them). -/
namespace Tv
open PySem PySem.Spec PyProof.Rows L2
/-- a walk's kind: of a list, of a tuple -/
def ItK (t : Bool) (h : Heap) (i l : Addr) (k : Nat) : Prop := if t = true then h.IsTupleIter i l k else h.IsListIter i l k
def SqK (t : Bool) (h : Heap) (l : Addr) (xs : Array Value) : Prop := if t = true then h.IsTuple l xs else h.IsList l xs
theorem ItK.ext {t : Bool} {h h' : Heap} {a b l : Addr} {i : Nat} (x : ItK t h a l i) (hs : Heap.ExtBut b h h') (hab : a ≠ b) : ItK t h' a l i := by
  cases t with
  | false => exact Heap.IsListIter.extBut x hs hab
  | true => exact Heap.IsTupleIter.extBut x hs hab
theorem SqK.ext {t : Bool} {h h' : Heap} {b l : Addr} {xs : Array Value} (x : SqK t h l xs) (hs : Heap.ExtBut b h h') (hab : l ≠ b) : SqK t h' l xs := by
  cases t with
  | false => exact Heap.IsList.extBut x hs hab
  | true => exact Heap.IsTuple.extBut x hs hab
theorem ItK.at {t : Bool} {h h' : Heap} {a l : Addr} {i : Nat} (x : ItK t h a l i) (e : ∀ o, h.get? a = some o → h'.get? a = some o) : ItK t h' a l i := by
  cases t with
  | false => exact Heap.IsListIter.at x e
  | true => exact Heap.IsTupleIter.at x e
theorem ItK.here {t : Bool} {h : Heap} {a l : Addr} {i : Nat} (x : ItK t h a l i) : ∃ o, h.get? a = some o ∧ ∀ xs, o.data ≠ .seq xs := by
  cases t with
  | false =>
    obtain ⟨o, e, _, d⟩ := (show h.IsListIter a l i from x)
    exact ⟨o, e, fun v q => by rw [d] at q; cases q⟩
  | true =>
    obtain ⟨o, e, _, d⟩ := (show h.IsTupleIter a l i from x)
    exact ⟨o, e, fun v q => by rw [d] at q; cases q⟩
section
variable {prog : Program} {w : World} {A : Around} {E : Value → Shared → Prop} {s : Shared}
theorem nextK_item {t : Bool} {it l : Addr} {i : Nat} {items : Array Value} {x : Value} {Q : Value → Shared → Prop} (hit : ItK t s.heap it l i) (hl : SqK t s.heap l items) (hx : items[i]? = some x)
    (hQ : ∀ h', ItK t h' it l (i + 1) → Heap.SameBut it s.heap h' → Q x { s with heap := h' }) : wpAny (model prog w) A (Builtin.SmallTypes.nextOf (.ref it)) Q E s := by
  cases t with
  | false => exact wpAny_nextOf_list_item hit hl hx hQ
  | true => exact RZ.nextOf_tuple_item hit hl hx hQ
theorem nextK_end {t : Bool} {it l : Addr} {i : Nat} {items : Array Value} {Q : Value → Shared → Prop} (hh : A.handled = none) (hit : ItK t s.heap it l i) (hl : SqK t s.heap l items) (hx : items[i]? = none)
    (hE : ∀ h' e, Heap.ExtBut it s.heap h' → (∃ o, h'.get? e = some o ∧ o.cls = .type "StopIteration") → E (.ref e) { s with heap := h' }) : wpAny (model prog w) A (Builtin.SmallTypes.nextOf (.ref it)) Q E s := by
  cases t with
  | false => exact wpAny_nextOf_list_end hh hit hl hx hE
  | true => exact RZ.nextOf_tuple_end hh hit hl hx hE
/-- zip's beginning: up to the walk over its iterators -/
theorem zipK_item {t1 t2 : Bool} {z TI TO i1 i2 l1 l2 : Addr} {k1 k2 : Nat} {xs ys : Array Value} {x y a b : Value} {Q : Value → Shared → Prop} (D : ZipApart z TI TO i1 i2 l1 l2)
    (hz : IsZip s.heap z TI TO .none) (hTI : IsPair s.heap TI (.ref i1) (.ref i2)) (hTO : IsPair s.heap TO a b)
    (h1 : ItK t1 s.heap i1 l1 k1) (h2 : ItK t2 s.heap i2 l2 k2) (hl1 : SqK t1 s.heap l1 xs) (hl2 : SqK t2 s.heap l2 ys) (hx : xs[k1]? = some x) (hy : ys[k2]? = some y)
    (hQ : ∀ h', IsZip h' z TI TO (rawInt s.heap.objs.size) → IsPair h' TO x y → ItK t1 h' i1 l1 (k1 + 1) → ItK t2 h' i2 l2 (k2 + 1) → IsPair h' s.heap.objs.size x y → h'.objs.size = s.heap.objs.size + 1 →
      (∀ c o, c ≠ z → c ≠ TO → c ≠ i1 → c ≠ i2 → s.heap.get? c = some o → h'.get? c = some o) → Q (.ref s.heap.objs.size) { s with heap := h' }) :
    wpAny (model prog w) A (Builtin.«zip.__next__» ⟨[.ref z], []⟩) (fun fin s' => ∃ v, fin = .done (.ret v) ∧ Q v s') E s := by
  show wpAny _ _ (field (.ref z) 2 >>= _) _ _ _
  refine wpAny_bind (wpAny_field hz rfl (x := .bool false) rfl ?_)
  show wpAny _ _ (field (.ref z) 3 >>= _) _ _ _
  refine wpAny_bind (wpAny_field hz rfl (x := .ref TI) rfl ?_)
  refine wpAny_bind (wpAny_seqItems hTI rfl ?_)
  show wpAny _ _ (Builtin.SmallTypes.ownedTupleIsFree (.ref z) >>= _) _ _ _
  refine wpAny_bind ?_
  unfold Builtin.SmallTypes.ownedTupleIsFree
  refine wpAny_bind (wpAny_field hz rfl (x := .none) rfl (wpAny_pure ?_))
  simp only [if_true]
  refine wpAny_bind (wpAny_rule ?_)
  refine wpAny_bind (wpAny_field hz rfl (x := .ref TO) rfl ?_)
  refine wpAny_bind (wpAny_setField_rec hz (by simp) fun h₁ hz₁ hs₁ => ?_)
  replace hz₁ : IsZip h₁ z TI TO .ellipsis := hz₁
  refine wpAny_bind ?_
  simp only [List.zipIdx_cons, List.zipIdx_nil, List.forIn_cons, List.forIn_nil]
  refine wpAny_bind (wpAny_bind (wpAny_onRaise ?_))
  show wpAny _ _ (Builtin.SmallTypes.nextOf (.ref i1) >>= _) _ _ _
  refine wpAny_bind (nextK_item (h1.ext hs₁.extBut D.i1z) (hl1.ext hs₁.extBut D.l1z) hx fun h₂ h1₂ hs₂ => wpAny_pure ?_)
  have hTO₂ : IsPair h₂ TO a b := hs₂.extBut _ _ D.TOi1 (hs₁.extBut _ _ D.TOz hTO)
  refine wpAny_bind (wpAny_seqItems hTO₂ rfl ?_)
  refine wpAny_bind (wpAny_updateSeq_pair hTO₂ fun h₃ hTO₃ hs₃ => ?_)
  replace hTO₃ : IsPair h₃ TO x b := hTO₃
  refine wpAny_bind (wpAny_letGo (wpAny_pure ?_))
  refine wpAny_bind (wpAny_bind (wpAny_onRaise ?_))
  show wpAny _ _ (Builtin.SmallTypes.nextOf (.ref i2) >>= _) _ _ _
  refine wpAny_bind (nextK_item (((h2.ext hs₁.extBut D.i2z).ext hs₂.extBut D.i12.symm).ext hs₃.extBut D.TOi2.symm)
    (((hl2.ext hs₁.extBut D.l2z).ext hs₂.extBut D.l2i1).ext hs₃.extBut D.l2TO) hy fun h₄ h2₄ hs₄ => wpAny_pure ?_)
  have hTO₄ : IsPair h₄ TO x b := hs₄.extBut _ _ D.TOi2 hTO₃
  refine wpAny_bind (wpAny_seqItems hTO₄ rfl ?_)
  refine wpAny_bind (wpAny_updateSeq_pair hTO₄ fun h₅ hTO₅ hs₅ => ?_)
  replace hTO₅ : IsPair h₅ TO x y := hTO₅
  refine wpAny_bind (wpAny_letGo (wpAny_pure (wpAny_pure ?_)))
  refine wpAny_bind (wpAny_seqItems hTO₅ rfl ?_)
  refine wpAny_bind (wpAny_newTuple ?_)
  have hsz : h₅.objs.size = s.heap.objs.size := by rw [hs₅.1, hs₄.1, hs₃.1, hs₂.1, hs₁.1]
  have hz₅ : IsZip h₅ z TI TO .ellipsis := hs₅.extBut _ _ D.TOz.symm (hs₄.extBut _ _ D.i2z.symm (hs₃.extBut _ _ D.TOz.symm (hs₂.extBut _ _ D.i1z.symm hz₁)))
  have hk₅ : ∀ c o, c ≠ z → c ≠ TO → c ≠ i1 → c ≠ i2 → s.heap.get? c = some o → h₅.get? c = some o := fun c o c1 c2 c3 c4 e =>
    hs₅.extBut _ _ c2 (hs₄.extBut _ _ c4 (hs₃.extBut _ _ c2 (hs₂.extBut _ _ c3 (hs₁.extBut _ _ c1 e))))
  have h1₅ : ItK t1 h₅ i1 l1 (k1 + 1) := ((h1₂.ext hs₃.extBut D.TOi1.symm).ext hs₄.extBut D.i12).ext hs₅.extBut D.TOi1.symm
  have h2₅ : ItK t2 h₅ i2 l2 (k2 + 1) := h2₄.ext hs₅.extBut D.TOi2.symm
  have hzlt : z < h₅.objs.size := Heap.lt_size hz₅
  have hTOlt : TO < h₅.objs.size := Heap.lt_size hTO₅
  show wpAny _ _ (Builtin.SmallTypes.ownedTupleHandOut (.ref z) (.ref h₅.objs.size) >>= _) _ _ _
  refine wpAny_bind ?_
  unfold Builtin.SmallTypes.ownedTupleHandOut
  have hz₆ : IsZip (h₅.push { cls := .type "tuple", data := .seq #[x, y] }) z TI TO .ellipsis := Heap.get?_push_of_some _ hz₅
  refine wpAny_bind (wpAny_setField_rec hz₆ (by simp) fun h₇ hz₇ hs₇ => ?_)
  replace hz₇ : IsZip h₇ z TI TO (rawInt h₅.objs.size) := hz₇
  refine wpAny_setField_rec hz₇ (by simp) fun h₈ hz₈ hs₈ => ?_
  replace hz₈ : IsZip h₈ z TI TO (rawInt h₅.objs.size) := hz₈
  have up : ∀ c o, c ≠ z → h₅.get? c = some o → h₈.get? c = some o := fun c o c1 e => hs₈.extBut _ _ c1 (hs₇.extBut _ _ c1 (Heap.get?_push_of_some _ e))
  have hT₈ : IsPair h₈ h₅.objs.size x y := hs₈.extBut _ _ (Nat.ne_of_gt hzlt) (hs₇.extBut _ _ (Nat.ne_of_gt hzlt) (Heap.get?_push_size _ rfl))
  have hz8 : h₈.objs.size = h₅.objs.size + 1 := by rw [hs₈.1, hs₇.1, Heap.size_push]
  rw [hsz] at hz₈ hT₈ hz8
  refine wpAny_pure ⟨_, rfl, ?_⟩
  show Q (.ref h₅.objs.size) _
  rw [hsz]
  exact hQ h₈ hz₈ (up _ _ D.TOz hTO₅) (h1₅.at fun o e => up _ o D.i1z e) (h2₅.at fun o e => up _ o D.i2z e) hT₈ hz8 fun c o c1 c2 c3 c4 e => up c o c1 (hk₅ c o c1 c2 c3 c4 e)
theorem zipK_end {t1 t2 : Bool} {z TI TO i1 i2 l1 l2 : Addr} {k1 k2 : Nat} {xs ys : Array Value} {a b : Value} {Q : Fin → Shared → Prop} (hh : A.handled = none) (D : ZipApart z TI TO i1 i2 l1 l2)
    (hz : IsZip s.heap z TI TO .none) (hTI : IsPair s.heap TI (.ref i1) (.ref i2)) (hTO : IsPair s.heap TO a b)
    (h1 : ItK t1 s.heap i1 l1 k1) (h2 : ItK t2 s.heap i2 l2 k2) (hl1 : SqK t1 s.heap l1 xs) (hl2 : SqK t2 s.heap l2 ys) (hend : xs[k1]? = none ∨ ys[k2]? = none)
    (hE : ∀ h' e, (∀ c o, c ≠ z → c ≠ TO → c ≠ i1 → c ≠ i2 → s.heap.get? c = some o → h'.get? c = some o) → (∃ o, h'.get? e = some o ∧ o.cls = .type "StopIteration") → E (.ref e) { s with heap := h' }) :
    wpAny (model prog w) A (Builtin.«zip.__next__» ⟨[.ref z], []⟩) Q E s := by
  show wpAny _ _ (field (.ref z) 2 >>= _) _ _ _
  refine wpAny_bind (wpAny_field hz rfl (x := .bool false) rfl ?_)
  show wpAny _ _ (field (.ref z) 3 >>= _) _ _ _
  refine wpAny_bind (wpAny_field hz rfl (x := .ref TI) rfl ?_)
  refine wpAny_bind (wpAny_seqItems hTI rfl ?_)
  show wpAny _ _ (Builtin.SmallTypes.ownedTupleIsFree (.ref z) >>= _) _ _ _
  refine wpAny_bind ?_
  unfold Builtin.SmallTypes.ownedTupleIsFree
  refine wpAny_bind (wpAny_field hz rfl (x := .none) rfl (wpAny_pure ?_))
  simp only [if_true]
  refine wpAny_bind (wpAny_rule ?_)
  refine wpAny_bind (wpAny_field hz rfl (x := .ref TO) rfl ?_)
  refine wpAny_bind (wpAny_setField_rec hz (by simp) fun h₁ hz₁ hs₁ => ?_)
  replace hz₁ : IsZip h₁ z TI TO .ellipsis := hz₁
  refine wpAny_bind ?_
  simp only [List.zipIdx_cons, List.zipIdx_nil, List.forIn_cons, List.forIn_nil]
  refine wpAny_bind (wpAny_bind (wpAny_onRaise ?_))
  show wpAny _ _ (Builtin.SmallTypes.nextOf (.ref i1) >>= _) _ _ _
  cases hx : xs[k1]? with
  | none =>
    refine wpAny_bind (nextK_end hh (h1.ext hs₁.extBut D.i1z) (hl1.ext hs₁.extBut D.l1z) hx fun h₂ e hs₂ he => ?_)
    obtain ⟨oe, hoe, hce⟩ := he
    have hz₂ : IsZip h₂ z TI TO .ellipsis := hs₂ _ _ D.i1z.symm hz₁
    have hez : e ≠ z := fun x => by subst x; rw [hz₂] at hoe; cases hoe; simp at hce
    refine wpAny_setField_rec hz₂ (by simp) fun h₃ _ hs₃ => hE h₃ e (fun c o c1 _ c3 _ x => hs₃.extBut _ _ c1 (hs₂ _ _ c3 (hs₁.extBut _ _ c1 x))) ⟨oe, hs₃.extBut _ _ hez hoe, hce⟩
  | some x =>
    have hy : ys[k2]? = none := by rcases hend with h | h; rw [hx] at h; cases h; exact h
    refine wpAny_bind (nextK_item (h1.ext hs₁.extBut D.i1z) (hl1.ext hs₁.extBut D.l1z) hx fun h₂ h1₂ hs₂ => wpAny_pure ?_)
    have hTO₂ : IsPair h₂ TO a b := hs₂.extBut _ _ D.TOi1 (hs₁.extBut _ _ D.TOz hTO)
    refine wpAny_bind (wpAny_seqItems hTO₂ rfl ?_)
    refine wpAny_bind (wpAny_updateSeq_pair hTO₂ fun h₃ hTO₃ hs₃ => ?_)
    refine wpAny_bind (wpAny_letGo (wpAny_pure ?_))
    refine wpAny_bind (wpAny_bind (wpAny_onRaise ?_))
    show wpAny _ _ (Builtin.SmallTypes.nextOf (.ref i2) >>= _) _ _ _
    refine wpAny_bind (nextK_end hh (((h2.ext hs₁.extBut D.i2z).ext hs₂.extBut D.i12.symm).ext hs₃.extBut D.TOi2.symm)
      (((hl2.ext hs₁.extBut D.l2z).ext hs₂.extBut D.l2i1).ext hs₃.extBut D.l2TO) hy fun h₄ e hs₄ he => ?_)
    obtain ⟨oe, hoe, hce⟩ := he
    have hz₄ : IsZip h₄ z TI TO .ellipsis := hs₄ _ _ D.i2z.symm (hs₃.extBut _ _ D.TOz.symm (hs₂.extBut _ _ D.i1z.symm hz₁))
    have hez : e ≠ z := fun x => by subst x; rw [hz₄] at hoe; cases hoe; simp at hce
    refine wpAny_setField_rec hz₄ (by simp) fun h₅ _ hs₅ => hE h₅ e (fun c o c1 c2 c3 c4 x => hs₅.extBut _ _ c1 (hs₄ _ _ c4 (hs₃.extBut _ _ c2 (hs₂.extBut _ _ c3 (hs₁.extBut _ _ c1 x))))) ⟨oe, hs₅.extBut _ _ hez hoe, hce⟩
theorem pyNext_zipK_item {t1 t2 : Bool} {z TI TO i1 i2 l1 l2 : Addr} {k1 k2 : Nat} {xs ys : Array Value} {x y a b : Value} {Q : Option Value → Shared → Prop} (D : ZipApart z TI TO i1 i2 l1 l2)
    (hz : IsZip s.heap z TI TO .none) (hTI : IsPair s.heap TI (.ref i1) (.ref i2)) (hTO : IsPair s.heap TO a b)
    (h1 : ItK t1 s.heap i1 l1 k1) (h2 : ItK t2 s.heap i2 l2 k2) (hl1 : SqK t1 s.heap l1 xs) (hl2 : SqK t2 s.heap l2 ys) (hx : xs[k1]? = some x) (hy : ys[k2]? = some y)
    (hQ : ∀ h', IsZip h' z TI TO (rawInt s.heap.objs.size) → IsPair h' TO x y → ItK t1 h' i1 l1 (k1 + 1) → ItK t2 h' i2 l2 (k2 + 1) → IsPair h' s.heap.objs.size x y → h'.objs.size = s.heap.objs.size + 1 →
      (∀ c o, c ≠ z → c ≠ TO → c ≠ i1 → c ≠ i2 → s.heap.get? c = some o → h'.get? c = some o) → Q (some (.ref s.heap.objs.size)) { s with heap := h' }) :
    wpAny (model prog w) A (pyNext (.ref z)) Q E s := by
  have hT : s.TypeIs (.ref z) "zip" := ⟨_, hz, rfl⟩
  unfold pyNext
  exact wpAny_bind (wpAny_attempt (wpAny_callSpecial?_slot (name := Str.ofString "__next__") hT F.slot_zip_next
    (wpAny_call_entry F.slot_zip_next hT F.entry_zip_next
      (zipK_item D hz hTI hTO h1 h2 hl1 hl2 hx hy fun h' a1 a2 a3 a4 a5 a6 a7 => wpAny_pure (hQ h' a1 a2 a3 a4 a5 a6 a7)) (F.args_zip_next_1 _))))
theorem pyNext_zipK_end {t1 t2 : Bool} {z TI TO i1 i2 l1 l2 : Addr} {k1 k2 : Nat} {xs ys : Array Value} {a b : Value} {Q : Option Value → Shared → Prop} (hh : A.handled = none) (D : ZipApart z TI TO i1 i2 l1 l2)
    (hz : IsZip s.heap z TI TO .none) (hTI : IsPair s.heap TI (.ref i1) (.ref i2)) (hTO : IsPair s.heap TO a b)
    (h1 : ItK t1 s.heap i1 l1 k1) (h2 : ItK t2 s.heap i2 l2 k2) (hl1 : SqK t1 s.heap l1 xs) (hl2 : SqK t2 s.heap l2 ys) (hend : xs[k1]? = none ∨ ys[k2]? = none)
    (hQ : ∀ h', (∀ c o, c ≠ z → c ≠ TO → c ≠ i1 → c ≠ i2 → s.heap.get? c = some o → h'.get? c = some o) → Q none { s with heap := h' }) : wpAny (model prog w) A (pyNext (.ref z)) Q E s := by
  have hT : s.TypeIs (.ref z) "zip" := ⟨_, hz, rfl⟩
  unfold pyNext
  refine wpAny_bind (wpAny_attempt (wpAny_callSpecial?_slot (name := Str.ofString "__next__") hT F.slot_zip_next
    (wpAny_call_entry F.slot_zip_next hT F.entry_zip_next (zipK_end hh D hz hTI hTO h1 h2 hl1 hl2 hend fun h' e hk he => ?_) (F.args_zip_next_1 _))))
  obtain ⟨o, ho, hc⟩ := he
  refine wpAny_bind (wpAny_isInstance (T := "StopIteration") (b := true) ⟨o, ho, hc⟩ isSubtype_stop ?_)
  exact wpAny_pure (hQ _ hk)
end
abbrev zipMH1 (h : Heap) (l1 : Addr) : Heap := h.push { cls := .type "list_iterator", data := .fields #[.ref l1, .int 0 0] }
abbrev zipMH2 (h : Heap) (l1 l2 : Addr) : Heap := (zipMH1 h l1).push { cls := .type "tuple_iterator", data := .fields #[.ref l2, .int 0 0] }
abbrev zipMH3 (h : Heap) (l1 l2 : Addr) : Heap := (zipMH2 h l1 l2).push { cls := .type "tuple", data := .seq #[.ref h.objs.size, .ref (zipMH1 h l1).objs.size] }
abbrev zipMH4 (h : Heap) (l1 l2 : Addr) : Heap := (zipMH3 h l1 l2).push { cls := .type "tuple", data := .seq #[.none, .none] }
abbrev zipMH5 (h : Heap) (l1 l2 : Addr) : Heap := (zipMH4 h l1 l2).push { cls := .type "zip", data := .fields #[.none, .bool false, .bool false, .ref (zipMH2 h l1 l2).objs.size, .ref (zipMH3 h l1 l2).objs.size] }
theorem meets_zipM_new (l1 l2 : Addr) (xs ys : Array Value) :
    Meets (Builtin.«zip.__new__» ⟨[.type "zip", .ref l1, .ref l2], []⟩) (fun _ R s => s.heap.IsList l1 xs ∧ s.heap.IsTuple l2 ys ∧
      R (.ok (.ret (.ref (zipMH4 s.heap l1 l2).objs.size))) { s with heap := zipMH5 s.heap l1 l2 }) :=
  .of_wp fun prog w A R s h => by
    obtain ⟨hp, g, d, tk, os⟩ := s; obtain ⟨hl1, hl2, h⟩ := h
    have hsub := PySem.sub_zip
    have hL1 : Heap.IsList (Shared.heap ⟨hp, g, d, tk, os⟩) l1 xs := hl1
    have hL2 : Heap.IsTuple (Shared.heap ⟨hp.push { cls := .type "list_iterator", data := .fields #[.ref l1, .int 0 0] }, g, d, tk, os⟩) l2 ys := Heap.IsTuple.push hl2 _
    wp_walk using wpAny_pyIter_list hL1, wpAny_pyIter_tuple hL2
    exact ⟨_, rfl, h⟩
section
variable {prog : Program} {w : World} {A : Around} {E : Value → Shared → Prop} {s : Shared}
theorem call_zipM {l1 l2 : Addr} {xs ys : Array Value} {Q : Value → Shared → Prop} (hl1 : s.heap.IsList l1 xs) (hl2 : s.heap.IsTuple l2 ys)
    (h : ∀ h', IsZip h' (s.heap.objs.size + 4) (s.heap.objs.size + 2) (s.heap.objs.size + 3) .none → IsPair h' (s.heap.objs.size + 2) (.ref s.heap.objs.size) (.ref (s.heap.objs.size + 1)) →
      IsPair h' (s.heap.objs.size + 3) .none .none → ItK false h' s.heap.objs.size l1 0 → ItK true h' (s.heap.objs.size + 1) l2 0 → h'.objs.size = s.heap.objs.size + 5 →
      (∀ c o, s.heap.get? c = some o → h'.get? c = some o) → Q (.ref (s.heap.objs.size + 4)) { s with heap := h' }) :
    wpAny (model prog w) A (PySem.call (.type "zip") [.ref l1, .ref l2]) Q E s := by
  refine callType_new F.called_zip (by decide) (F.typeCall_zip_2 _ _) (F.newCall_zip_2 _ _) (fun obj => F.args_object_init_3 obj _ _) F.entry_zip_new
    (meets_zipM_new l1 l2 xs ys) ⟨hl1, hl2, ?_⟩
  have z1 : (zipMH1 s.heap l1).objs.size = s.heap.objs.size + 1 := Heap.size_push ..
  have z2 : (zipMH2 s.heap l1 l2).objs.size = s.heap.objs.size + 2 := by rw [Heap.size_push, z1]
  have z3 : (zipMH3 s.heap l1 l2).objs.size = s.heap.objs.size + 3 := by rw [Heap.size_push, z2]
  have z4 : (zipMH4 s.heap l1 l2).objs.size = s.heap.objs.size + 4 := by rw [Heap.size_push, z3]
  have z5 : (zipMH5 s.heap l1 l2).objs.size = s.heap.objs.size + 5 := by rw [Heap.size_push, z4]
  have g5 : (zipMH5 s.heap l1 l2).get? (zipMH4 s.heap l1 l2).objs.size = some _ := Heap.get?_push_size _ rfl
  have g4 : (zipMH5 s.heap l1 l2).get? (zipMH3 s.heap l1 l2).objs.size = some _ := Heap.get?_push_of_some _ (Heap.get?_push_size _ rfl)
  have g3 : (zipMH5 s.heap l1 l2).get? (zipMH2 s.heap l1 l2).objs.size = some _ := Heap.get?_push_of_some _ (Heap.get?_push_of_some _ (Heap.get?_push_size _ rfl))
  have g2 : (zipMH5 s.heap l1 l2).get? (zipMH1 s.heap l1).objs.size = some _ := Heap.get?_push_of_some _ (Heap.get?_push_of_some _ (Heap.get?_push_of_some _ (Heap.get?_push_size _ rfl)))
  have g1 : (zipMH5 s.heap l1 l2).get? s.heap.objs.size = some _ := Heap.get?_push_of_some _ (Heap.get?_push_of_some _ (Heap.get?_push_of_some _ (Heap.get?_push_of_some _ (Heap.get?_push_size _ rfl))))
  show _ ∧ _
  rw [z2, z3, z4] at g5
  rw [z1, z2] at g3
  rw [z3] at g4
  rw [z1] at g2
  rw [z4]
  exact ⟨⟨_, g5, rfl⟩, h _ g5 g3 g4 ⟨_, g1, rfl, rfl⟩ ⟨_, g2, rfl, rfl⟩ z5 fun c o x =>
    Heap.get?_push_of_some _ (Heap.get?_push_of_some _ (Heap.get?_push_of_some _ (Heap.get?_push_of_some _ (Heap.get?_push_of_some _ x))))⟩
end
/-- the list at a and the tuple at b as they stand at each turn, the items in new pairs -/
def ItzM (K : PySem.W.Frag) (a b : Addr) : It :=
  ⟨fun i H => ∃ (xs ys : List V) (x y : V), SqL K H a xs ∧ SqT K H b ys ∧ xs[i]? = some x ∧ ys[i]? = some y,
    fun i H v H' => ∃ T x y, v = .ref T ∧ H T = none ∧ H' = upd H T (.tup [x, y]) ∧ (∀ xs, SqL K H a xs → xs[i]? = some x) ∧ ∀ ys, SqT K H b ys → ys[i]? = some y,
    fun i H => ∃ xs ys : List V, SqL K H a xs ∧ SqT K H b ys ∧ (xs.length ≤ i ∨ ys.length ≤ i)⟩
theorem turn_zipM {P : Program} {w : World} {K : PySem.W.Frag} {elts : List Expr} {kk : Nat} {tpos : Pos} {a b z TI TO i1 i2 : Addr} (D : ZipApart z TI TO i1 i2 a b) :
    Turn P w K (.Tuple elts kk tpos) (ItzM K a b) [z, TI, TO, i1, i2] z (fun i h => IsZip h z TI TO .none ∧ IsPair h TI (.ref i1) (.ref i2) ∧ (∃ x y, IsPair h TO x y) ∧ ItK false h i1 a i ∧ ItK true h i2 b i) where
  mem := by simp
  obj := fun i h st c hc => by
    obtain ⟨hz, hTI, ⟨x, y, hTO⟩, h1, h2⟩ := st
    obtain ⟨o1, e1, d1⟩ := h1.here
    obtain ⟨o2, e2, d2⟩ := h2.here
    have e' : c = z ∨ c = TI ∨ c = TO ∨ c = i1 ∨ c = i2 := by simpa using hc
    rcases e' with q | q | q | q | q
    · rw [q]; exact ⟨_, hz, fun v q => nomatch q⟩
    · rw [q]; exact ⟨_, hTI, fun v q => nomatch q⟩
    · rw [q]; exact ⟨_, hTO, fun v q => nomatch q⟩
    · rw [q]
      obtain ⟨o, e, _, d⟩ := (show h.IsListIter i1 a i from h1)
      exact ⟨o, e, fun v q => by rw [d] at q; cases q⟩
    · rw [q]
      obtain ⟨o, e, _, d⟩ := (show h.IsTupleIter i2 b i from h2)
      exact ⟨o, e, fun v q => by rw [d] at q; cases q⟩
  keep := fun i h h' st k => by
    obtain ⟨hz, hTI, ⟨x, y, hTO⟩, h1, h2⟩ := st
    exact ⟨k z (by simp) _ hz, k TI (by simp) _ hTI, ⟨x, y, k TO (by simp) _ hTO⟩, h1.at fun o q => k i1 (by simp) o q, h2.at fun o q => k i2 (by simp) o q⟩
  item := by
    intro X hP hw hK hc i pins s σ H E I hf st hg
    subst hP hw hK
    obtain ⟨hz, hTI, ⟨x0, y0, hTO⟩, h1, h2⟩ := st
    obtain ⟨xs, ys, x, y, hqx, hqy, hx, hy⟩ := hg
    obtain ⟨its, rv, p, _⟩ := I.list hqx
    obtain ⟨its2, rv2, p2, _⟩ := I.tuple hqy
    obtain ⟨u, hu, ru⟩ := rv.get hx
    obtain ⟨u2, hu2, ru2⟩ := rv2.get hy
    have hzl : z < s.heap.objs.size := Heap.lt_size hz
    refine pyNext_zipK_item D hz hTI hTO h1 h2 (show SqK false _ _ _ from p.isList) (show SqK true _ _ _ from p2) (x := u) (y := u2) (by simpa using hu) (by simpa using hu2) fun h' z' TO' h1' h2' hT hsz hk => ?_
    refine ⟨_, rfl, wpAny_letOwnedTupleGo_zip (s := { s with heap := h' }) z' fun h'' z'' sb => ?_⟩
    have hT2 : h''.get? s.heap.objs.size = some { cls := .type "tuple", data := .seq #[u, u2] } := (sb.2 _ (Nat.ne_of_gt hzl)).trans hT
    have new : ObjOk X.prog X.w (upd H s.heap.objs.size (.tup [x, y])) h'' s.heap.objs.size (.tup [x, y]) :=
      ⟨by show 2 ≤ sizeLine; decide, [u, u2], .cons ru (.cons ru2 .nil), ⟨_, hT2, rfl, _, rfl⟩⟩
    have I1 : Inv X pins σ (upd H s.heap.objs.size (.tup [x, y])) { s with heap := h'' } :=
      I.turnedNew (t' := s.toks) (ch := [z, TI, TO, i1, i2]) (fun c o hb q => (sb.2 c (fun q' => hb (by simp [q']))).trans (hk c o (fun q' => hb (by simp [q'])) (fun q' => hb (by simp [q'])) (fun q' => hb (by simp [q'])) (fun q' => hb (by simp [q'])) q)) hf (Nat.le_refl _) new
    refine ⟨.ref s.heap.objs.size, _, I1, rfl, ⟨_, x, y, rfl, I.hok.fresh (Nat.le_refl _), rfl, fun l hl => by rw [I.list_inj hl hqx]; exact hx, fun l hl => by rw [I.tuple_inj hl hqy]; exact hy⟩, ⟨z'', ?_, ⟨u, u2, ?_⟩, ?_, ?_⟩, fun c hcm => ?_⟩
    · exact (sb.2 _ D.TIz).trans (hk _ _ D.TIz D.TITO D.TIi1 D.TIi2 hTI)
    · exact (sb.2 _ D.TOz).trans TO'
    · exact h1'.at fun o q => (sb.2 _ D.i1z).trans q
    · exact h2'.at fun o q => (sb.2 _ D.i2z).trans q
    · have hlt : c < s.heap.objs.size := by
        have e' : c = z ∨ c = TI ∨ c = TO ∨ c = i1 ∨ c = i2 := by simpa using hcm
        rcases e' with q | q | q | q | q
        · rw [q]; exact hzl
        · rw [q]; exact Heap.lt_size hTI
        · rw [q]; exact Heap.lt_size hTO
        · rw [q]; obtain ⟨_, e1, _⟩ := h1.here; exact Heap.lt_size e1
        · rw [q]; obtain ⟨_, e2, _⟩ := h2.here; exact Heap.lt_size e2
      rw [upd_ne (Nat.ne_of_lt hlt)]
      exact (hf c hcm).1
  done := by
    intro X hP hw hK hc i pins s σ H E I hf st hg
    subst hP hw hK
    obtain ⟨hz, hTI, ⟨x0, y0, hTO⟩, h1, h2⟩ := st
    obtain ⟨xs, ys, hqx, hqy, hend⟩ := hg
    obtain ⟨its, rv, p, _⟩ := I.list hqx
    obtain ⟨its2, rv2, p2, _⟩ := I.tuple hqy
    have l1 := rv.length
    have l2 := rv2.length
    have he : its.toArray[i]? = none ∨ its2.toArray[i]? = none := by
      rcases hend with q | q
      · exact .inl (by simp; omega)
      · exact .inr (by simp; omega)
    exact pyNext_zipK_end (I.ok.hd hc) D hz hTI hTO h1 h2 (show SqK false _ _ _ from p.isList) (show SqK true _ _ _ from p2) he fun h' hk => ⟨rfl, I.turnedL (t' := s.toks) (ch := [z, TI, TO, i1, i2]) (fun c o hb q =>
      hk c o (fun q' => hb (by simp [q'])) (fun q' => hb (by simp [q'])) (fun q' => hb (by simp [q'])) (fun q' => hb (by simp [q'])) q) hf⟩
  self := fun A i s Q E st h => wpAny_pyIter_zip st.1 h
abbrev zipNH1 (h : Heap) (l1 : Addr) : Heap := h.push { cls := .type "tuple_iterator", data := .fields #[.ref l1, .int 0 0] }
abbrev zipNH2 (h : Heap) (l1 l2 : Addr) : Heap := (zipNH1 h l1).push { cls := .type "list_iterator", data := .fields #[.ref l2, .int 0 0] }
abbrev zipNH3 (h : Heap) (l1 l2 : Addr) : Heap := (zipNH2 h l1 l2).push { cls := .type "tuple", data := .seq #[.ref h.objs.size, .ref (zipNH1 h l1).objs.size] }
abbrev zipNH4 (h : Heap) (l1 l2 : Addr) : Heap := (zipNH3 h l1 l2).push { cls := .type "tuple", data := .seq #[.none, .none] }
abbrev zipNH5 (h : Heap) (l1 l2 : Addr) : Heap := (zipNH4 h l1 l2).push { cls := .type "zip", data := .fields #[.none, .bool false, .bool false, .ref (zipNH2 h l1 l2).objs.size, .ref (zipNH3 h l1 l2).objs.size] }
theorem meets_zipN_new (l1 l2 : Addr) (xs ys : Array Value) :
    Meets (Builtin.«zip.__new__» ⟨[.type "zip", .ref l1, .ref l2], []⟩) (fun _ R s => s.heap.IsTuple l1 xs ∧ s.heap.IsList l2 ys ∧
      R (.ok (.ret (.ref (zipNH4 s.heap l1 l2).objs.size))) { s with heap := zipNH5 s.heap l1 l2 }) :=
  .of_wp fun prog w A R s h => by
    obtain ⟨hp, g, d, tk, os⟩ := s; obtain ⟨hl1, hl2, h⟩ := h
    have hsub := PySem.sub_zip
    have hL1 : Heap.IsTuple (Shared.heap ⟨hp, g, d, tk, os⟩) l1 xs := hl1
    have hL2 : Heap.IsList (Shared.heap ⟨hp.push { cls := .type "tuple_iterator", data := .fields #[.ref l1, .int 0 0] }, g, d, tk, os⟩) l2 ys := Heap.IsList.push hl2 _
    wp_walk using wpAny_pyIter_tuple hL1, wpAny_pyIter_list hL2
    exact ⟨_, rfl, h⟩
section
variable {prog : Program} {w : World} {A : Around} {E : Value → Shared → Prop} {s : Shared}
theorem call_zipN {l1 l2 : Addr} {xs ys : Array Value} {Q : Value → Shared → Prop} (hl1 : s.heap.IsTuple l1 xs) (hl2 : s.heap.IsList l2 ys)
    (h : ∀ h', IsZip h' (s.heap.objs.size + 4) (s.heap.objs.size + 2) (s.heap.objs.size + 3) .none → IsPair h' (s.heap.objs.size + 2) (.ref s.heap.objs.size) (.ref (s.heap.objs.size + 1)) →
      IsPair h' (s.heap.objs.size + 3) .none .none → ItK true h' s.heap.objs.size l1 0 → ItK false h' (s.heap.objs.size + 1) l2 0 → h'.objs.size = s.heap.objs.size + 5 →
      (∀ c o, s.heap.get? c = some o → h'.get? c = some o) → Q (.ref (s.heap.objs.size + 4)) { s with heap := h' }) :
    wpAny (model prog w) A (PySem.call (.type "zip") [.ref l1, .ref l2]) Q E s := by
  refine callType_new F.called_zip (by decide) (F.typeCall_zip_2 _ _) (F.newCall_zip_2 _ _) (fun obj => F.args_object_init_3 obj _ _) F.entry_zip_new
    (meets_zipN_new l1 l2 xs ys) ⟨hl1, hl2, ?_⟩
  have z1 : (zipNH1 s.heap l1).objs.size = s.heap.objs.size + 1 := Heap.size_push ..
  have z2 : (zipNH2 s.heap l1 l2).objs.size = s.heap.objs.size + 2 := by rw [Heap.size_push, z1]
  have z3 : (zipNH3 s.heap l1 l2).objs.size = s.heap.objs.size + 3 := by rw [Heap.size_push, z2]
  have z4 : (zipNH4 s.heap l1 l2).objs.size = s.heap.objs.size + 4 := by rw [Heap.size_push, z3]
  have z5 : (zipNH5 s.heap l1 l2).objs.size = s.heap.objs.size + 5 := by rw [Heap.size_push, z4]
  have g5 : (zipNH5 s.heap l1 l2).get? (zipNH4 s.heap l1 l2).objs.size = some _ := Heap.get?_push_size _ rfl
  have g4 : (zipNH5 s.heap l1 l2).get? (zipNH3 s.heap l1 l2).objs.size = some _ := Heap.get?_push_of_some _ (Heap.get?_push_size _ rfl)
  have g3 : (zipNH5 s.heap l1 l2).get? (zipNH2 s.heap l1 l2).objs.size = some _ := Heap.get?_push_of_some _ (Heap.get?_push_of_some _ (Heap.get?_push_size _ rfl))
  have g2 : (zipNH5 s.heap l1 l2).get? (zipNH1 s.heap l1).objs.size = some _ := Heap.get?_push_of_some _ (Heap.get?_push_of_some _ (Heap.get?_push_of_some _ (Heap.get?_push_size _ rfl)))
  have g1 : (zipNH5 s.heap l1 l2).get? s.heap.objs.size = some _ := Heap.get?_push_of_some _ (Heap.get?_push_of_some _ (Heap.get?_push_of_some _ (Heap.get?_push_of_some _ (Heap.get?_push_size _ rfl))))
  show _ ∧ _
  rw [z2, z3, z4] at g5
  rw [z1, z2] at g3
  rw [z3] at g4
  rw [z1] at g2
  rw [z4]
  exact ⟨⟨_, g5, rfl⟩, h _ g5 g3 g4 ⟨_, g1, rfl, rfl⟩ ⟨_, g2, rfl, rfl⟩ z5 fun c o x =>
    Heap.get?_push_of_some _ (Heap.get?_push_of_some _ (Heap.get?_push_of_some _ (Heap.get?_push_of_some _ (Heap.get?_push_of_some _ x))))⟩
end
/-- the tuple at a and the list at b as they stand at each turn, the items in new pairs -/
def ItzN (K : PySem.W.Frag) (a b : Addr) : It :=
  ⟨fun i H => ∃ (xs ys : List V) (x y : V), SqT K H a xs ∧ SqL K H b ys ∧ xs[i]? = some x ∧ ys[i]? = some y,
    fun i H v H' => ∃ T x y, v = .ref T ∧ H T = none ∧ H' = upd H T (.tup [x, y]) ∧ (∀ xs, SqT K H a xs → xs[i]? = some x) ∧ ∀ ys, SqL K H b ys → ys[i]? = some y,
    fun i H => ∃ xs ys : List V, SqT K H a xs ∧ SqL K H b ys ∧ (xs.length ≤ i ∨ ys.length ≤ i)⟩
theorem turn_zipN {P : Program} {w : World} {K : PySem.W.Frag} {elts : List Expr} {kk : Nat} {tpos : Pos} {a b z TI TO i1 i2 : Addr} (D : ZipApart z TI TO i1 i2 a b) :
    Turn P w K (.Tuple elts kk tpos) (ItzN K a b) [z, TI, TO, i1, i2] z (fun i h => IsZip h z TI TO .none ∧ IsPair h TI (.ref i1) (.ref i2) ∧ (∃ x y, IsPair h TO x y) ∧ ItK true h i1 a i ∧ ItK false h i2 b i) where
  mem := by simp
  obj := fun i h st c hc => by
    obtain ⟨hz, hTI, ⟨x, y, hTO⟩, h1, h2⟩ := st
    obtain ⟨o1, e1, d1⟩ := h1.here
    obtain ⟨o2, e2, d2⟩ := h2.here
    have e' : c = z ∨ c = TI ∨ c = TO ∨ c = i1 ∨ c = i2 := by simpa using hc
    rcases e' with q | q | q | q | q
    · rw [q]; exact ⟨_, hz, fun v q => nomatch q⟩
    · rw [q]; exact ⟨_, hTI, fun v q => nomatch q⟩
    · rw [q]; exact ⟨_, hTO, fun v q => nomatch q⟩
    · rw [q]
      obtain ⟨o, e, _, d⟩ := (show h.IsTupleIter i1 a i from h1)
      exact ⟨o, e, fun v q => by rw [d] at q; cases q⟩
    · rw [q]
      obtain ⟨o, e, _, d⟩ := (show h.IsListIter i2 b i from h2)
      exact ⟨o, e, fun v q => by rw [d] at q; cases q⟩
  keep := fun i h h' st k => by
    obtain ⟨hz, hTI, ⟨x, y, hTO⟩, h1, h2⟩ := st
    exact ⟨k z (by simp) _ hz, k TI (by simp) _ hTI, ⟨x, y, k TO (by simp) _ hTO⟩, h1.at fun o q => k i1 (by simp) o q, h2.at fun o q => k i2 (by simp) o q⟩
  item := by
    intro X hP hw hK hc i pins s σ H E I hf st hg
    subst hP hw hK
    obtain ⟨hz, hTI, ⟨x0, y0, hTO⟩, h1, h2⟩ := st
    obtain ⟨xs, ys, x, y, hqx, hqy, hx, hy⟩ := hg
    obtain ⟨its, rv, p, _⟩ := I.tuple hqx
    obtain ⟨its2, rv2, p2, _⟩ := I.list hqy
    obtain ⟨u, hu, ru⟩ := rv.get hx
    obtain ⟨u2, hu2, ru2⟩ := rv2.get hy
    have hzl : z < s.heap.objs.size := Heap.lt_size hz
    refine pyNext_zipK_item D hz hTI hTO h1 h2 (show SqK true _ _ _ from p) (show SqK false _ _ _ from p2.isList) (x := u) (y := u2) (by simpa using hu) (by simpa using hu2) fun h' z' TO' h1' h2' hT hsz hk => ?_
    refine ⟨_, rfl, wpAny_letOwnedTupleGo_zip (s := { s with heap := h' }) z' fun h'' z'' sb => ?_⟩
    have hT2 : h''.get? s.heap.objs.size = some { cls := .type "tuple", data := .seq #[u, u2] } := (sb.2 _ (Nat.ne_of_gt hzl)).trans hT
    have new : ObjOk X.prog X.w (upd H s.heap.objs.size (.tup [x, y])) h'' s.heap.objs.size (.tup [x, y]) :=
      ⟨by show 2 ≤ sizeLine; decide, [u, u2], .cons ru (.cons ru2 .nil), ⟨_, hT2, rfl, _, rfl⟩⟩
    have I1 : Inv X pins σ (upd H s.heap.objs.size (.tup [x, y])) { s with heap := h'' } :=
      I.turnedNew (t' := s.toks) (ch := [z, TI, TO, i1, i2]) (fun c o hb q => (sb.2 c (fun q' => hb (by simp [q']))).trans (hk c o (fun q' => hb (by simp [q'])) (fun q' => hb (by simp [q'])) (fun q' => hb (by simp [q'])) (fun q' => hb (by simp [q'])) q)) hf (Nat.le_refl _) new
    refine ⟨.ref s.heap.objs.size, _, I1, rfl, ⟨_, x, y, rfl, I.hok.fresh (Nat.le_refl _), rfl, fun l hl => by rw [I.tuple_inj hl hqx]; exact hx, fun l hl => by rw [I.list_inj hl hqy]; exact hy⟩, ⟨z'', ?_, ⟨u, u2, ?_⟩, ?_, ?_⟩, fun c hcm => ?_⟩
    · exact (sb.2 _ D.TIz).trans (hk _ _ D.TIz D.TITO D.TIi1 D.TIi2 hTI)
    · exact (sb.2 _ D.TOz).trans TO'
    · exact h1'.at fun o q => (sb.2 _ D.i1z).trans q
    · exact h2'.at fun o q => (sb.2 _ D.i2z).trans q
    · have hlt : c < s.heap.objs.size := by
        have e' : c = z ∨ c = TI ∨ c = TO ∨ c = i1 ∨ c = i2 := by simpa using hcm
        rcases e' with q | q | q | q | q
        · rw [q]; exact hzl
        · rw [q]; exact Heap.lt_size hTI
        · rw [q]; exact Heap.lt_size hTO
        · rw [q]; obtain ⟨_, e1, _⟩ := h1.here; exact Heap.lt_size e1
        · rw [q]; obtain ⟨_, e2, _⟩ := h2.here; exact Heap.lt_size e2
      rw [upd_ne (Nat.ne_of_lt hlt)]
      exact (hf c hcm).1
  done := by
    intro X hP hw hK hc i pins s σ H E I hf st hg
    subst hP hw hK
    obtain ⟨hz, hTI, ⟨x0, y0, hTO⟩, h1, h2⟩ := st
    obtain ⟨xs, ys, hqx, hqy, hend⟩ := hg
    obtain ⟨its, rv, p, _⟩ := I.tuple hqx
    obtain ⟨its2, rv2, p2, _⟩ := I.list hqy
    have l1 := rv.length
    have l2 := rv2.length
    have he : its.toArray[i]? = none ∨ its2.toArray[i]? = none := by
      rcases hend with q | q
      · exact .inl (by simp; omega)
      · exact .inr (by simp; omega)
    exact pyNext_zipK_end (I.ok.hd hc) D hz hTI hTO h1 h2 (show SqK true _ _ _ from p) (show SqK false _ _ _ from p2.isList) he fun h' hk => ⟨rfl, I.turnedL (t' := s.toks) (ch := [z, TI, TO, i1, i2]) (fun c o hb q =>
      hk c o (fun q' => hb (by simp [q'])) (fun q' => hb (by simp [q'])) (fun q' => hb (by simp [q'])) (fun q' => hb (by simp [q'])) q) hf⟩
  self := fun A i s Q E st h => wpAny_pyIter_zip st.1 h
/-- zip of two lists, of two tuples, of a list and a tuple -/
def iZipM (K : PySem.W.Frag) (ta : TA) : TI := fun σ H R => ta σ H fun vs H1 => ∃ a b xs ys, vs = [.ref a, .ref b] ∧ ((SqL K H1 a xs ∧ SqL K H1 b ys ∧ R (Itz K a b) H1) ∨ (SqT K H1 a xs ∧ SqT K H1 b ys ∧ R (RZ.ItzT K a b) H1) ∨ (SqL K H1 a xs ∧ SqT K H1 b ys ∧ R (ItzM K a b) H1) ∨ (SqT K H1 a xs ∧ SqL K H1 b ys ∧ R (ItzN K a b) H1))
theorem pi_zipM {X : Cx} {e e2 : Expr} {ta : TA} {p pos tpos : Pos} {elts : List Expr} {kk : Nat} (hg : Gl X "zip") (hm : X.mg "zip" = none) (ha : PA X [e, e2] ta)
    (hs : starEach [e, e2] X.env = (false, eval e X.env) :: starEach [e2] X.env := by rfl) (hpl : (backTo pos (starEach [e2] X.env)).any (·.1) = false := by rfl) :
    PI X (.Tuple elts kk tpos) (.Call (.Name "zip" p) [e, e2] [] pos) (iZipM X.K ta) := by
  refine ⟨fun pins s σ H R I h => ?_⟩
  refine Call_ (ld_blt I hg hm PyProof.Rows.boot_zip (PyProof.Rows.callWith_type1 (thn (ha.run pos pins s σ H _ I h) fun us s1 ⟨vs, H1, I1, r1, q1⟩ => ?_) hs hpl))
  obtain ⟨a, b, xs, ys, ex, q1⟩ := q1
  subst ex
  cases r1 with
  | cons r rr =>
    cases rr with
    | cons r' rr =>
      cases rr
      cases r
      cases r'
      have fresh5 : ∀ c, c ∈ [s1.heap.objs.size + 4, s1.heap.objs.size + 2, s1.heap.objs.size + 3, s1.heap.objs.size, s1.heap.objs.size + 1] → FpOk X pins H1 c := fun c hcm => by
        have e' : c = s1.heap.objs.size + 4 ∨ c = s1.heap.objs.size + 2 ∨ c = s1.heap.objs.size + 3 ∨ c = s1.heap.objs.size ∨ c = s1.heap.objs.size + 1 := by simpa using hcm
        have hle : s1.heap.objs.size ≤ c := by
          rcases e' with z | z | z | z | z
          · rw [z]; exact Nat.le_add_right _ _
          · rw [z]; exact Nat.le_add_right _ _
          · rw [z]; exact Nat.le_add_right _ _
          · rw [z]; exact Nat.le_refl _
          · rw [z]; exact Nat.le_add_right _ _
        exact I1.fpOk hle (I1.hok.fresh hle)
      rcases q1 with ⟨hqx, hqy, q⟩ | ⟨hqx, hqy, q⟩ | ⟨hqx, hqy, q⟩ | ⟨hqx, hqy, q⟩
      · obtain ⟨its, rv, p1, _⟩ := I1.list hqx
        obtain ⟨its2, rv2, p2, _⟩ := I1.list hqy
        refine call_zip_2 p1.isList p2.isList fun h' hz hTI hTO h1 h2 hsz hk => wpAny_pyIter_zip hz ?_
        have I2 : Inv X pins σ H1 { s1 with heap := h' } := I1.kept (t' := s1.toks) hk
        exact ⟨s1.heap.objs.size + 4, [s1.heap.objs.size + 4, s1.heap.objs.size + 2, s1.heap.objs.size + 3, s1.heap.objs.size, s1.heap.objs.size + 1], _, _, H1, rfl, I2, turn_zip (PySem.W.ktu_apart s1.heap.objs.size a b p1.lt p2.lt), ⟨hz, hTI, ⟨_, _, hTO⟩, h1, h2⟩, fresh5, q⟩
      · obtain ⟨its, rv, p1, _⟩ := I1.tuple hqx
        obtain ⟨its2, rv2, p2, _⟩ := I1.tuple hqy
        obtain ⟨o1, ho1, _⟩ := id p1
        obtain ⟨o2, ho2, _⟩ := id p2
        refine RZ.call_zipT (show s1.heap.IsTuple a its.toArray from p1) (show s1.heap.IsTuple b its2.toArray from p2) fun h' hz hTI hTO h1 h2 hsz hk => wpAny_pyIter_zip hz ?_
        have I2 : Inv X pins σ H1 { s1 with heap := h' } := I1.kept (t' := s1.toks) hk
        exact ⟨s1.heap.objs.size + 4, [s1.heap.objs.size + 4, s1.heap.objs.size + 2, s1.heap.objs.size + 3, s1.heap.objs.size, s1.heap.objs.size + 1], _, _, H1, rfl, I2, RZ.turn_zipT (PySem.W.ktu_apart s1.heap.objs.size a b (Heap.lt_size ho1) (Heap.lt_size ho2)), ⟨hz, hTI, ⟨_, _, hTO⟩, h1, h2⟩, fresh5, q⟩
      · obtain ⟨its, rv, p1, _⟩ := I1.list hqx
        obtain ⟨its2, rv2, p2, _⟩ := I1.tuple hqy
        obtain ⟨o2, ho2, _⟩ := id p2
        refine call_zipM p1.isList (show s1.heap.IsTuple b its2.toArray from p2) fun h' hz hTI hTO h1 h2 hsz hk => wpAny_pyIter_zip hz ?_
        have I2 : Inv X pins σ H1 { s1 with heap := h' } := I1.kept (t' := s1.toks) hk
        exact ⟨s1.heap.objs.size + 4, [s1.heap.objs.size + 4, s1.heap.objs.size + 2, s1.heap.objs.size + 3, s1.heap.objs.size, s1.heap.objs.size + 1], _, _, H1, rfl, I2, turn_zipM (PySem.W.ktu_apart s1.heap.objs.size a b p1.lt (Heap.lt_size ho2)), ⟨hz, hTI, ⟨_, _, hTO⟩, h1, h2⟩, fresh5, q⟩
      · obtain ⟨its, rv, p1, _⟩ := I1.tuple hqx
        obtain ⟨its2, rv2, p2, _⟩ := I1.list hqy
        obtain ⟨o1, ho1, _⟩ := id p1
        refine call_zipN (show s1.heap.IsTuple a its.toArray from p1) p2.isList fun h' hz hTI hTO h1 h2 hsz hk => wpAny_pyIter_zip hz ?_
        have I2 : Inv X pins σ H1 { s1 with heap := h' } := I1.kept (t' := s1.toks) hk
        exact ⟨s1.heap.objs.size + 4, [s1.heap.objs.size + 4, s1.heap.objs.size + 2, s1.heap.objs.size + 3, s1.heap.objs.size, s1.heap.objs.size + 1], _, _, H1, rfl, I2, turn_zipN (PySem.W.ktu_apart s1.heap.objs.size a b (Heap.lt_size ho1) p2.lt), ⟨hz, hTI, ⟨_, _, hTO⟩, h1, h2⟩, fresh5, q⟩
theorem walks_zipM {K : Frag} {w : W} {a b : Addr} {vs us : List V} {xs ys : List D} (h : w.F a = some (.lst vs)) (q : Reps K w xs vs) (h' : SqT K w.F b us) (q' : Reps K w ys us) : Walks K w (ItzM K a b) (zipD xs ys) := fun w2 H2 g2 o e => by
  have h2 : SqL K H2 a vs := .inl (.inl (o.same _ _ (e.F _ _ h)))
  have h3 : SqT K H2 b us := SqT.same o.same (SqT.same e.F h')
  refine ⟨fun i d hd => ?_, vs, us, h2, h3, ?_⟩
  · obtain ⟨x, y, hx, hy, rfl⟩ := zipD_get _ _ _ _ hd
    obtain ⟨v, k1, k2⟩ := q.get hx
    obtain ⟨u, k3, k4⟩ := q'.get hy
    refine ⟨⟨vs, us, v, u, h2, h3, k1, k3⟩, fun z H3 ⟨T, x', y', e1, n, e2, f1, f2⟩ => ?_⟩
    subst e1 e2
    have g1 := f1 vs h2
    have g2' := f2 us h3
    rw [k1] at g1; cases g1
    rw [k3] at g2'; cases g2'
    exact pair_new o n (k2.mono e) (k4.mono e)
  · rw [zipD_len, q.len, q'.len]; omega
theorem walks_zipN {K : Frag} {w : W} {a b : Addr} {vs us : List V} {xs ys : List D} (h : SqT K w.F a vs) (q : Reps K w xs vs) (h' : w.F b = some (.lst us)) (q' : Reps K w ys us) : Walks K w (ItzN K a b) (zipD xs ys) := fun w2 H2 g2 o e => by
  have h2 : SqT K H2 a vs := SqT.same o.same (SqT.same e.F h)
  have h3 : SqL K H2 b us := .inl (.inl (o.same _ _ (e.F _ _ h')))
  refine ⟨fun i d hd => ?_, vs, us, h2, h3, ?_⟩
  · obtain ⟨x, y, hx, hy, rfl⟩ := zipD_get _ _ _ _ hd
    obtain ⟨v, k1, k2⟩ := q.get hx
    obtain ⟨u, k3, k4⟩ := q'.get hy
    refine ⟨⟨vs, us, v, u, h2, h3, k1, k3⟩, fun z H3 ⟨T, x', y', e1, n, e2, f1, f2⟩ => ?_⟩
    subst e1 e2
    have g1 := f1 vs h2
    have g2' := f2 us h3
    rw [k1] at g1; cases g1
    rw [k3] at g2'; cases g2'
    exact pair_new o n (k2.mono e) (k4.mono e)
  · rw [zipD_len, q.len, q'.len]; omega
section
variable {X : Cx} {call : Calls}
theorem i_zip {es : List Expr} {kk : Nat} {tp : Pos} {a b : Expr} {cs : List C} {p pos : Pos} (hg : Gl X "zip") (hm : X.mg "zip" = none) (ha : PA X [a, b] (tA X.K call cs)) (hs : starEach [a, b] X.env = (false, eval a X.env) :: starEach [b] X.env) (hpl : (backTo pos (starEach [b] X.env)).any (·.1) = false) :
    PI X (.Tuple es kk tp) (.Call (.Name "zip" p) [a, b] [] pos) (tI X.K call (.bi .zip cs)) :=
  PIimp (pi_zipM hg hm ha hs hpl) fun σ H R ⟨w, ρ, g, s, xs, g', o, r, e1, e2, q⟩ => by
    simp only [ev] at e1
    obtain ⟨ds, g1, e3, e1⟩ := bnd_eq e1
    rw [Option.map_eq_some_iff] at e1
    obtain ⟨z, e4, e5⟩ := e1
    cases e5
    refine ⟨w, ρ, g, ds, _, o, r, e3, fun w1 H1 vs o1 x1 y1 => ?_⟩
    have e4 : zip2D ds = some s := e4
    unfold zip2D at e4
    split at e4
    · cases e4
      cases e2
      cases vs with
      | nil => exact y1.elim
      | cons v vs =>
        cases vs with
        | nil => exact y1.2.elim
        | cons u vs =>
          cases vs with
          | cons _ _ => exact y1.2.2.elim
          | nil =>
            obtain ⟨⟨a, vs, rfl, k1, k2⟩, ⟨b, us, rfl, k3, k4⟩, _⟩ := y1
            exact ⟨a, b, vs, us, rfl, .inl ⟨.inl (.inl (o1.same _ _ k1)), .inl (.inl (o1.same _ _ k3)), q w1 H1 _ o1 x1 (walks_zipL k1 k2 k3 k4)⟩⟩
    · cases e4
      cases e2
      cases vs with
      | nil => exact y1.elim
      | cons v vs =>
        cases vs with
        | nil => exact y1.2.elim
        | cons u vs =>
          cases vs with
          | cons _ _ => exact y1.2.2.elim
          | nil =>
            obtain ⟨⟨a, vs, rfl, k1, k2⟩, ⟨b, us, rfl, k3, k4⟩, _⟩ := y1
            exact ⟨a, b, vs, us, rfl, .inr (.inl ⟨SqT.same o1.same k1, SqT.same o1.same k3, q w1 H1 _ o1 x1 (walks_zipT k1 k2 k3 k4)⟩)⟩
    · cases e4
      cases e2
      cases vs with
      | nil => exact y1.elim
      | cons v vs =>
        cases vs with
        | nil => exact y1.2.elim
        | cons u vs =>
          cases vs with
          | cons _ _ => exact y1.2.2.elim
          | nil =>
            obtain ⟨⟨a, vs, rfl, k1, k2⟩, ⟨b, us, rfl, k3, k4⟩, _⟩ := y1
            exact ⟨a, b, vs, us, rfl, .inr (.inr (.inl ⟨.inl (.inl (o1.same _ _ k1)), SqT.same o1.same k3, q w1 H1 _ o1 x1 (walks_zipM k1 k2 k3 k4)⟩))⟩
    · cases e4
      cases e2
      cases vs with
      | nil => exact y1.elim
      | cons v vs =>
        cases vs with
        | nil => exact y1.2.elim
        | cons u vs =>
          cases vs with
          | cons _ _ => exact y1.2.2.elim
          | nil =>
            obtain ⟨⟨a, vs, rfl, k1, k2⟩, ⟨b, us, rfl, k3, k4⟩, _⟩ := y1
            exact ⟨a, b, vs, us, rfl, .inr (.inr (.inr ⟨SqT.same o1.same k1, .inl (.inl (o1.same _ _ k3)), q w1 H1 _ o1 x1 (walks_zipN k1 k2 k3 k4)⟩))⟩
    · cases e4
end
end Tv

/-! Tv5y: reversed(list or tuple), walked. -/
namespace Tv
open PySem PySem.Spec PyProof.Rows L2
theorem rev_get {α : Type} {xs : List α} {i : Nat} {d : α} (h : xs.reverse[i]? = some d) : i < xs.length ∧ xs[xs.length - 1 - i]? = some d := by
  have hi : i < xs.length := by
    rcases Nat.lt_or_ge i xs.length with z | z
    · exact z
    · rw [List.getElem?_eq_none (by rw [List.length_reverse]; exact z)] at h
      cases h
  rw [List.getElem?_reverse hi] at h
  exact ⟨hi, h⟩
theorem walks_revL {K : Frag} {w : W} {a : Addr} {vs : List V} {xs : List D} (h : w.F a = some (.lst vs)) (q : Reps K w xs vs) : Walks K w (Itv K a vs.length) xs.reverse := fun w2 H2 g2 o e => by
  have h2 : SqL K H2 a vs := .inl (.inl (o.same _ _ (e.F _ _ h)))
  refine ⟨fun i d hd => ?_, ?_⟩
  · obtain ⟨hi, hd⟩ := rev_get hd
    rw [q.len] at hi hd
    obtain ⟨v, h3, h4⟩ := q.get hd
    exact ⟨⟨hi, vs, v, h2, h3⟩, fun x H3 ⟨e1, y⟩ => by
      subst e1
      have := y vs h2
      rw [h3] at this; cases this
      exact ⟨w2, o, Ext.refl _ _, h4.mono e⟩⟩
  · show vs.length ≤ xs.reverse.length
    rw [List.length_reverse, q.len]
    exact Nat.le_refl _
theorem walks_revT {K : Frag} {w : W} {a : Addr} {vs : List V} {xs : List D} (h : SqT K w.F a vs) (q : Reps K w xs vs) : Walks K w (RT.ItvT K a vs.length) xs.reverse := fun w2 H2 g2 o e => by
  have h2 : SqT K H2 a vs := SqT.same o.same (SqT.same e.F h)
  refine ⟨fun i d hd => ?_, ?_⟩
  · obtain ⟨hi, hd⟩ := rev_get hd
    rw [q.len] at hi hd
    obtain ⟨v, h3, h4⟩ := q.get hd
    exact ⟨⟨hi, vs, v, h2, h3⟩, fun x H3 ⟨e1, y⟩ => by
      subst e1
      have := y vs h2
      rw [h3] at this; cases this
      exact ⟨w2, o, Ext.refl _ _, h4.mono e⟩⟩
  · show vs.length ≤ xs.reverse.length
    rw [List.length_reverse, q.len]
    exact Nat.le_refl _
section
variable {X : Cx} {call : Calls}
theorem i_rev {tg a : Expr} {c : C} {p pos : Pos} (hg : Gl X "reversed") (hm : X.mg "reversed" = none) (ha : PE X a (tV X.K call c)) (hs : starEach [a] X.env = (false, eval a X.env) :: starEach [] X.env) :
    PI X tg (.Call (.Name "reversed" p) [a] [] pos) (tI X.K call (.bi .rev [c])) :=
  PIimp (RT.pi_revA hg hm ha hs) fun σ H R ⟨w, ρ, g, s, xs, g', o, r, e1, e2, q⟩ => by
    simp only [ev] at e1
    obtain ⟨ds, g1, e3, e1⟩ := bnd_eq e1
    rw [Option.map_eq_some_iff] at e1
    obtain ⟨z, e4, e5⟩ := e1
    cases e5
    obtain ⟨d, rfl, ez⟩ := un_eq e4
    rw [evs] at e3
    obtain ⟨d', g2, k1, k2⟩ := bnd_eq e3
    rw [evs] at k2
    cases k2
    refine ⟨w, ρ, g, d, _, o, r, k1, fun w1 H1 v o1 x1 y1 => ?_⟩
    unfold revD at ez
    split at ez
    · cases ez
      cases e2
      obtain ⟨a, vs, rfl, k1, k2⟩ := y1
      exact ⟨a, vs, rfl, .inl ⟨.inl (.inl (o1.same _ _ k1)), q w1 H1 _ o1 x1 (walks_revL k1 k2)⟩⟩
    · cases ez
      cases e2
      obtain ⟨a, vs, rfl, k1, k2⟩ := y1
      exact ⟨a, vs, rfl, .inr ⟨SqT.same o1.same k1, q w1 H1 _ o1 x1 (walks_revT k1 k2)⟩⟩
    · cases ez
end
end Tv

/-! Tv6: comprehensions. -/
namespace Tv
open PySem L2
theorem Rel.setS {K : Frag} {w : W} {H : Hp} {ρ : Env} {σ : St} {i : Nat} {sv : SV} {ov : Option V} (r : Rel K w H ρ σ) (h : SlotR K w H sv ov) (hn : ∀ xs, sv ≠ .own xs) : Rel K w H (ρ.set i sv) (σ.set i ov) := by
  refine ⟨by simp [r.len], fun j sv' hj => ?_, fun j k a xs ys ne hj hk h1 h2 => ?_⟩
  · by_cases e : i = j
    · subst e
      by_cases hi : i < ρ.length
      · rw [List.getElem?_set_self hi] at hj
        cases hj
        exact ⟨ov, by rw [List.getElem?_set_self (r.len ▸ hi)], h⟩
      · rw [List.getElem?_eq_none (by simpa using hi)] at hj; cases hj
    · rw [List.getElem?_set_ne e] at hj ⊢
      exact r.at_ j sv' hj
  · have own : ∀ {m : Nat} {zs : List D}, (ρ.set i sv)[m]? = some (.own zs) → i ≠ m ∧ ρ[m]? = some (.own zs) := fun {m zs} hm => by
      by_cases e : i = m
      · subst e
        by_cases hi : i < ρ.length
        · rw [List.getElem?_set_self hi] at hm; cases hm; exact absurd rfl (hn zs)
        · rw [List.getElem?_eq_none (by simpa using hi)] at hm; cases hm
      · rw [List.getElem?_set_ne e] at hm; exact ⟨e, hm⟩
    obtain ⟨n1, e1⟩ := own hj
    obtain ⟨n2, e2⟩ := own hk
    rw [List.getElem?_set_ne n1] at h1
    rw [List.getElem?_set_ne n2] at h2
    exact r.two j k a xs ys ne e1 e2 h1 h2
theorem Rel.wipe {K : Frag} {w : W} {H : Hp} {ρ : Env} {σ : St} (r : Rel K w H ρ σ) : ∀ vs : List Nat, Rel K w H (wipeE ρ vs) (L2.wipe σ vs)
  | [] => r
  | v :: vs => (Rel.wipe r vs).setS (sv := .no) (ov := none) trivial fun _ z => nomatch z
theorem wipe_in {σ : St} {i : Nat} : ∀ {vs : List Nat}, i ∈ vs → (L2.wipe σ vs)[i]? = if i < σ.length then some none else none
  | [], h => by cases h
  | v :: vs, h => by
    unfold L2.wipe
    by_cases e : v = i
    · subst e
      by_cases hl : v < σ.length
      · rw [List.getElem?_set_self (by rw [wipe_length]; exact hl), if_pos hl]
      · rw [List.getElem?_eq_none (by rw [List.length_set, wipe_length]; omega), if_neg hl]
    · rw [List.getElem?_set_ne e]
      exact wipe_in ((List.mem_cons.mp h).resolve_left fun z => e z.symm)
theorem wipe_but {σ σ2 : St} {vs us : List Nat} (b : But us (L2.wipe σ vs) σ2) (h : ∀ i ∈ us, i ∈ vs) : L2.wipe σ2 vs = L2.wipe σ vs := by
  have hl : σ2.length = σ.length := by rw [b.len, wipe_length]
  refine List.ext_getElem? fun i => ?_
  by_cases hi : i ∈ vs
  · rw [wipe_in hi, wipe_in hi, hl]
  · rw [wipe_out hi, b.out i fun m => hi (h i m)]
theorem Ok.own {w : W} {H : Hp} {g : GS} {p : Addr} {o : HO} (h : Ok w H g) (hF : w.F p = none) (hs : p ∉ w.st) : Ok w (upd H p o) g := by
  refine ⟨fun a u e => ?_, h.st.keep rfl fun a m => upd_ne fun z => hs (by rw [← z]; exact m), h.out⟩
  rw [upd_ne (ne_of_none e hF)]
  exact h.same a u e
theorem Ext.own {w w' : W} {H H' : Hp} {p : Addr} {o : HO} (e : Ext w H w' H') (n : H p = none) : Ext w H w' (upd H' p o) := by
  refine ⟨e.F, e.st, fun a u h m => ?_, e.new, e.snew, fun a h => ?_⟩
  · rw [upd_ne (ne_of_none h n)]; exact e.keep a u h m
  · by_cases ea : a = p
    · subst ea; exact n
    · rw [upd_ne ea] at h; exact e.there a h
/-- what stood at p stands behind an expression -/
theorem Ext.stay {w w' : W} {H H' : Hp} {p : Addr} {o : HO} (e : Ext w H w' H') (h : H p = some o) (hF : w.F p = none) (hs : p ∉ w.st) : H' p = some o ∧ w'.F p = none ∧ p ∉ w'.st := by
  refine ⟨e.keep p o h hs, ?_, fun m => ?_⟩
  · cases q : w'.F p with
    | none => rfl
    | some u =>
      rcases e.new p u q with k | k
      · rw [hF] at k; cases k
      · rw [h] at k; cases k
  · rcases e.snew p m with k | k
    · exact hs k
    · rw [h] at k; cases k
/-- without p -/
def del (H : Hp) (p : Addr) : Hp := fun b => if b = p then none else H b
theorem upd_del {H : Hp} {p : Addr} {o : HO} (h : H p = some o) : upd (del H p) p o = H := by
  funext b
  unfold upd del
  by_cases e : b = p
  · subst e; rw [if_pos rfl, h]
  · rw [if_neg e, if_neg e]
theorem del_ne {H : Hp} {a p : Addr} (h : a ≠ p) : del H p a = H a := if_neg h
theorem Ok.del {w : W} {H : Hp} {g : GS} {p : Addr} (h : Ok w H g) (hF : w.F p = none) (hs : p ∉ w.st) : Ok w (Tv.del H p) g := by
  refine ⟨fun a u e => ?_, h.st.keep rfl fun a m => del_ne fun z => hs (by rw [← z]; exact m), h.out⟩
  rw [del_ne (ne_of_none e hF)]
  exact h.same a u e
theorem Ext.del {w w' : W} {H H' : Hp} {p : Addr} (e : Ext w H w' H') (n : H p = none) : Ext w H w' (Tv.del H' p) := by
  refine ⟨e.F, e.st, fun a u h m => ?_, e.new, e.snew, fun a h => ?_⟩
  · rw [del_ne (ne_of_none h n)]; exact e.keep a u h m
  · by_cases ea : a = p
    · subst ea; exact n
    · rw [del_ne ea] at h; exact e.there a h

mutual
theorem asg_own : ∀ {gt : G} {d : D} {ρ ρ' : Env} {j : Nat} {ys : List D}, asg gt d ρ = some ρ' → ρ'[j]? = some (.own ys) → ρ[j]? = some (.own ys) ∧ j ∉ gvars gt
  | .var i, d, ρ, ρ', j, ys, h, hj => by
    simp only [asg] at h
    cases h
    by_cases e : i = j
    · subst e
      by_cases hi : i < ρ.length
      · rw [List.getElem?_set_self hi] at hj; cases hj
      · rw [List.getElem?_eq_none (by simpa using hi)] at hj; cases hj
    · rw [List.getElem?_set_ne e] at hj
      exact ⟨hj, by simp only [gvars, List.mem_singleton]; exact fun z => e z.symm⟩
  | .tup gs, d, ρ, ρ', j, ys, h, hj => by
    simp only [asg] at h
    split at h
    · simp only [gvars]
      exact asgs_own h hj
    · simp only [gvars]
      exact asgs_own h hj
    · cases h
theorem asgs_own : ∀ {gs : List G} {ds : List D} {ρ ρ' : Env} {j : Nat} {ys : List D}, asgs gs ds ρ = some ρ' → ρ'[j]? = some (.own ys) → ρ[j]? = some (.own ys) ∧ j ∉ gvarss gs
  | [], [], ρ, ρ', j, ys, h, hj => by
    simp only [asgs] at h
    cases h
    exact ⟨hj, by simp [gvarss]⟩
  | g :: gs, d :: ds, ρ, ρ', j, ys, h, hj => by
    simp only [asgs] at h
    split at h
    · rename_i ρ1 e1
      obtain ⟨h1, h2⟩ := asgs_own h hj
      obtain ⟨h3, h4⟩ := asg_own e1 h1
      exact ⟨h3, by simp only [gvarss, List.mem_append, not_or]; exact ⟨h4, h2⟩⟩
    · cases h
  | [], _ :: _, _, _, _, _, h, _ => by simp only [asgs] at h; cases h
  | _ :: _, [], _, _, _, _, h, _ => by simp only [asgs] at h; cases h
end
theorem Rel.del {K : Frag} {w : W} {H : Hp} {ρ : Env} {σ : St} {D : Addr} (r : Rel K w H ρ σ) (ne : ∀ (j : Nat) (ys : List Tv.D) (a : Addr), ρ[j]? = some (.own ys) → σ[j]? = some (some (.ref a)) → a ≠ D) : Rel K w (Tv.del H D) ρ σ :=
  ⟨r.len, fun i sv h => by
    obtain ⟨ov, h1, h2⟩ := r.at_ i sv h
    refine ⟨ov, h1, ?_⟩
    cases sv with
    | no => trivial
    | val d => exact h2
    | own xs =>
      obtain ⟨a, vs, e1, e2, e3⟩ := h2
      subst e1
      exact ⟨a, vs, rfl, by rw [del_ne (ne i xs a h h1)]; exact e2, e3⟩, r.two⟩
theorem Rel.undel {K : Frag} {w : W} {H : Hp} {ρ : Env} {σ : St} {D : Addr} (r : Rel K w (Tv.del H D) ρ σ) : Rel K w H ρ σ :=
  ⟨r.len, fun i sv h => by
    obtain ⟨ov, h1, h2⟩ := r.at_ i sv h
    refine ⟨ov, h1, ?_⟩
    cases sv with
    | no => trivial
    | val d => exact h2
    | own xs =>
      obtain ⟨a, vs, e1, e2, e3⟩ := h2
      refine ⟨a, vs, e1, ?_, e3⟩
      by_cases ea : a = D
      · subst ea
        have z : Tv.del H a a = none := if_pos rfl
        rw [z] at e2; cases e2
      · rw [del_ne ea] at e2; exact e2, r.two⟩
theorem Ext.del2 {w w' : W} {H H' : Hp} (e : Ext w H w' H') (D : Addr) : Ext w (Tv.del H D) w' (Tv.del H' D) := by
  have n : ∀ a, H a = none → Tv.del H D a = none := fun a h => by
    by_cases ea : a = D
    · exact if_pos ea
    · rw [del_ne ea]; exact h
  refine ⟨e.F, e.st, fun a u h m => ?_, fun a u h => (e.new a u h).imp id (n a), fun a h => (e.snew a h).imp id (n a), fun a h => ?_⟩
  · by_cases ea : a = D
    · have z : Tv.del H D a = none := if_pos ea
      rw [z] at h; cases h
    · rw [del_ne ea] at h ⊢; exact e.keep a u h m
  · by_cases ea : a = D
    · exact if_pos ea
    · rw [del_ne ea] at h; exact n a (e.there a h)
theorem del_upd {H : Hp} {p : Addr} {o : HO} : Tv.del (upd H p o) p = Tv.del H p := by
  funext b
  unfold Tv.del
  by_cases e : b = p
  · rw [if_pos e, if_pos e]
  · rw [if_neg e, if_neg e, upd_ne e]

section
variable {X : Cx} {call : Calls}
theorem lc_read {K : Frag} {own : List Nat} {tg : G} {it cond elt : C} {σ : St} {H : Hp} {Q : VK} (hsub : ∀ i ∈ gvars tg, i ∈ own) (h : tF K call (.comp own tg it cond elt) σ H Q) :
    tLc (tIQ K call it) (tGt K tg) (tT K call cond) (tV K call elt) own σ H Q := by
  obtain ⟨w, ρ, g, ys, g', o, r, he, q⟩ := h
  simp only [ev] at he
  obtain ⟨s, g1, e1, he⟩ := bnd_eq he
  split at he
  · rename_i xs e2
    obtain ⟨zs, g2, e3, he⟩ := bnd_eq he
    split at he
    · rename_i hlen
      cases he
      refine ⟨w, ρ, g, s, xs, g1, o, r, e1, e2, fun w1 H1 J o1 x1 wk D nD => ?_⟩
      have r1 : Rel K w1 H1 (wipeE ρ own) (L2.wipe σ own) := (r.ext x1).wipe own
      refine ⟨fun i m H => ∃ w2 g2 accD acc rest, Ok w2 H g2 ∧ Ext w1 H1 w2 H ∧ H D = some (.lst acc) ∧ w2.F D = none ∧ D ∉ w2.st ∧ Reps K w2 accD acc ∧ gather (fun x g => match asg tg x (wipeE ρ own) with
        | some ρ' => bnd (ev call cond ρ' g) fun k g => match truth k with
          | some true => bnd (ev call elt ρ' g) fun y g => some (some y, g)
          | some false => some (none, g)
          | none => none
        | none => none) (xs.drop i) g2 = some (rest, g') ∧ ys = accD ++ rest ∧ m = xs.length - i ∧ i ≤ xs.length, ⟨_, w1, g1, [], [], ys, o1.put nD, Ext.put nD, upd_same, o1.free nD, o1.nst nD, trivial, by rw [List.drop_zero]; exact e3, rfl, rfl, Nat.zero_le _⟩, ?_⟩
      rintro i m H2 ⟨w2, g2, accD, acc, rest, o2, x2, hD, hF, hs, ra, hg, hy, rfl, hi⟩
      by_cases hlt : i < xs.length
      · rw [List.drop_eq_getElem_cons hlt] at hg
        simp only [gather] at hg
        obtain ⟨y, g3, e4, hg⟩ := bnd_eq hg
        obtain ⟨rest', g4, e5, hg⟩ := bnd_eq hg
        cases hg
        have wk2 := (wk w2 H2 g2 o2 x2).1 i xs[i] (List.getElem?_eq_getElem hlt)
        refine .inr ⟨wk2.1, fun H' => ∃ m', m' < xs.length - i ∧ ∃ w2 g2 accD acc rest, Ok w2 H' g2 ∧ Ext w1 H1 w2 H' ∧ H' D = some (.lst acc) ∧ w2.F D = none ∧ D ∉ w2.st ∧ Reps K w2 accD acc ∧ gather (fun x g => match asg tg x (wipeE ρ own) with
          | some ρ' => bnd (ev call cond ρ' g) fun k g => match truth k with
            | some true => bnd (ev call elt ρ' g) fun y g => some (some y, g)
            | some false => some (none, g)
            | none => none
          | none => none) (xs.drop (i + 1)) g2 = some (rest, g') ∧ ys = accD ++ rest ∧ m' = xs.length - (i + 1) ∧ i + 1 ≤ xs.length, fun H' h => h, fun v H3 hyld => ?_⟩
        obtain ⟨w3, o3, x3, rv⟩ := wk2.2 v H3 hyld
        split at e4
        · rename_i ρ' ea
          obtain ⟨k, g5, e6, e4⟩ := bnd_eq e4
          have r3 : Rel K w3 H3 (wipeE ρ own) (L2.wipe σ own) := (r1.ext x2).ext x3
          obtain ⟨hD3, hF3, hs3⟩ := x3.stay hD hF hs
          refine ⟨w3, wipeE ρ own, g2, xs[i], ρ', o3, r3, rv, ea, fun σ2 r2 b2 => ⟨wipe_but b2 hsub, ?_⟩⟩
          split at e4
          · rename_i et
            obtain ⟨yv, g6, e7, e4⟩ := bnd_eq e4
            cases e4
            refine ⟨w3, ρ', g2, k, true, g5, o3, r2, e6, et, fun w4 H4 o4 x4 => iteT ⟨w4, ρ', g5, yv, _, o4, r2.ext x4, e7, fun w5 H5 u o5 x5 ru => ?_⟩⟩
            obtain ⟨hD5, hF5, hs5⟩ := (x4.trans x5).stay hD3 hF3 hs3
            have hl5 := (ra.len : accD.length = acc.length)
            rw [hy] at hlen
            simp only [List.length_append, List.length_cons] at hlen
            refine ⟨acc, hD5, by omega, _, by omega, w5, _, accD ++ [yv], acc ++ [u], rest', o5.own hF5 hs5, (((x2.trans x3).trans (x4.trans x5))).own nD, upd_same, hF5, hs5, ?_, e5, by rw [hy]; simp, rfl, hlt⟩
            exact (ra.mono ((x3.trans (x4.trans x5)).le)).app ⟨ru, trivial⟩
          · rename_i et
            cases e4
            refine ⟨w3, ρ', g2, k, false, _, o3, r2, e6, et, fun w4 H4 o4 x4 => iteF ?_⟩
            obtain ⟨hD4, hF4, hs4⟩ := x4.stay hD3 hF3 hs3
            exact ⟨_, by omega, w4, _, accD, acc, rest', o4, (x2.trans x3).trans x4, hD4, hF4, hs4, ra.mono (x3.trans x4).le, e5, hy, rfl, hlt⟩
          · cases e4
        · cases e4
      · have ei : i = xs.length := by omega
        subst ei
        rw [List.drop_length] at hg
        simp only [gather] at hg
        cases hg
        rw [List.append_nil] at hy
        subst hy
        refine .inl ⟨(wk w2 H2 _ o2 x2).2, ?_⟩
        have q2 := q w2 (Tv.del H2 D) D acc (o2.del hF hs) ((x1.trans x2).del (x1.there D nD)) (if_pos rfl) ra
        rw [upd_del hD] at q2
        exact q2
    · cases he
  · cases he
theorem lc2_read {K : Frag} {own own2 : List Nat} {tg tg2 : G} {it cond it2 cond2 elt : C} {σ : St} {H : Hp} {Q : VK} (hsub : ∀ i ∈ gvars tg, i ∈ own) (hsub2 : ∀ i ∈ gvars tg2, i ∈ own2) (h : tF K call (.comp2 own own2 tg it cond tg2 it2 cond2 elt) σ H Q) :
    tLc2 (tIQ K call it) (tGt K tg) (tT K call cond) (tI K call it2) (tGt K tg2) (tT K call cond2) (tV K call elt) own own2 σ H Q := by
  obtain ⟨w, ρ, g, ys, g', o, r, he, q⟩ := h
  simp only [ev] at he
  obtain ⟨s, g1, e1, he⟩ := bnd_eq he
  split at he
  · rename_i xs e2
    obtain ⟨zs, g2, e3, he⟩ := bnd_eq he
    split at he
    · rename_i hlen
      cases he
      refine ⟨w, ρ, g, s, xs, g1, o, r, e1, e2, fun w1 H1 J o1 x1 wk D nD => ?_⟩
      have r1 : Rel K w1 H1 (wipeE ρ own) (L2.wipe σ own) := (r.ext x1).wipe own
      have e3' := e3
      clear e3
      revert e3'
      generalize hf : (fun (x : Tv.D) (g : GS) => (match asg tg x (wipeE ρ own) with
        | some ρ' => bnd (ev call cond ρ' g) fun k g => match truth k with
          | some true => bnd (ev call it2 ρ' g) fun s2 g => match items s2 with
            | some xs2 => gather (fun x2 g => match asg tg2 x2 (wipeE ρ' own2) with
                | some ρ2 => bnd (ev call cond2 ρ2 g) fun k g => match truth k with
                  | some true => bnd (ev call elt ρ2 g) fun y g => some (some y, g)
                  | some false => some (none, g)
                  | none => none
                | none => none) xs2 g
            | none => none
          | some false => some ([], g)
          | none => none
        | none => none : Option (List Tv.D × GS))) = f
      intro e3
      refine ⟨fun i m H => ∃ w2 g2 accD acc rest, Ok w2 H g2 ∧ Ext w1 H1 w2 H ∧ H D = some (.lst acc) ∧ w2.F D = none ∧ D ∉ w2.st ∧ Reps K w2 accD acc ∧ gatherL f (xs.drop i) g2 = some (rest, g') ∧ ys = accD ++ rest ∧ m = xs.length - i ∧ i ≤ xs.length,
        ⟨_, w1, g1, [], [], ys, o1.put nD, Ext.put nD, upd_same, o1.free nD, o1.nst nD, trivial, by rw [List.drop_zero]; exact e3, rfl, rfl, Nat.zero_le _⟩, ?_⟩
      rintro i m H2 ⟨w2, g2, accD, acc, rest, o2, x2, hD, hF, hs, ra, hg, hy, rfl, hi⟩
      by_cases hlt : i < xs.length
      · rw [List.drop_eq_getElem_cons hlt] at hg
        simp only [gatherL] at hg
        obtain ⟨zs, g3, e4, hg⟩ := bnd_eq hg
        obtain ⟨rest', g4, e5, hg⟩ := bnd_eq hg
        cases hg
        have wk2 := (wk w2 H2 g2 o2 x2).1 i xs[i] (List.getElem?_eq_getElem hlt)
        refine .inr ⟨wk2.1, fun H' => ∃ m', m' < xs.length - i ∧ ∃ w2 g2 accD acc rest, Ok w2 H' g2 ∧ Ext w1 H1 w2 H' ∧ H' D = some (.lst acc) ∧ w2.F D = none ∧ D ∉ w2.st ∧ Reps K w2 accD acc ∧ gatherL f (xs.drop (i + 1)) g2 = some (rest, g') ∧ ys = accD ++ rest ∧ m' = xs.length - (i + 1) ∧ i + 1 ≤ xs.length, fun H' h => h, fun v H3 hyld => ?_⟩
        obtain ⟨w3, o3, x3, rv⟩ := wk2.2 v H3 hyld
        have hf3 := congrFun (congrFun hf xs[i]) g2
        rw [← hf3] at e4
        split at e4
        · rename_i ρ' ea
          obtain ⟨k, g5, e6, e4⟩ := bnd_eq e4
          have r3 : Rel K w3 H3 (wipeE ρ own) (L2.wipe σ own) := (r1.ext x2).ext x3
          obtain ⟨hD3, hF3, hs3⟩ := x3.stay hD hF hs
          refine ⟨w3, wipeE ρ own, g2, xs[i], ρ', o3, r3, rv, ea, fun σ2 r2 b2 => ⟨wipe_but b2 hsub, ?_⟩⟩
          split at e4
          · rename_i et
            obtain ⟨s2, g6, e7, e4⟩ := bnd_eq e4
            split at e4
            · rename_i xs2 e8
              refine ⟨w3, ρ', g2, k, true, g5, o3, r2, e6, et, fun w4 H4 o4 x4 => iteT ⟨w4, ρ', g5, s2, xs2, g6, o4, r2.ext x4, e7, e8, fun w5 H5 J1 o5 x5 wkI => ?_⟩⟩
              obtain ⟨hD5, hF5, hs5⟩ := (x4.trans x5).stay hD3 hF3 hs3
              have rn : ∀ (j : Nat) (ys : List Tv.D) (a : Addr), ρ'[j]? = some (.own ys) → σ2[j]? = some (some (.ref a)) → a ≠ D := fun j ys a h1 h2 => by
                obtain ⟨h3, h4⟩ := asg_own ea h1
                rw [b2.out j h4] at h2
                obtain ⟨ov, k1, b, vs, k2, k3, _⟩ := r1.at_ j _ h3
                rw [h2] at k1
                cases k1
                cases k2
                exact ne_of_none k3 nD
              have r5 : Rel K w5 (Tv.del H5 D) ρ' σ2 := (r2.del rn).ext ((x4.trans x5).del2 D)
              have hl5 : ys.length ≤ sizeLine := hlen
              refine ⟨fun j k H => ∃ w6 g7 accD acc rest2, Ok w6 H g7 ∧ Ext w1 H1 w6 H ∧ Ext w5 (Tv.del H5 D) w6 (Tv.del H D) ∧ H D = some (.lst acc) ∧ w6.F D = none ∧ D ∉ w6.st ∧ Reps K w6 accD acc ∧ gather (fun x2 g => match asg tg2 x2 (wipeE ρ' own2) with
                | some ρ2 => bnd (ev call cond2 ρ2 g) fun k g => match truth k with
                  | some true => bnd (ev call elt ρ2 g) fun y g => some (some y, g)
                  | some false => some (none, g)
                  | none => none
                | none => none) (xs2.drop j) g7 = some (rest2, g3) ∧ ys = accD ++ (rest2 ++ rest') ∧ k = xs2.length - j ∧ j ≤ xs2.length,
                ⟨_, w5, g6, accD, acc, zs, o5, ((x2.trans x3).trans x4).trans x5, Ext.refl _ _, hD5, hF5, hs5, ra.mono ((x3.trans (x4.trans x5)).le), by rw [List.drop_zero]; exact e4, hy, rfl, Nat.zero_le _⟩, ?_⟩
              rintro j kk H6 ⟨w6, g7, accD6, acc6, rest6, o6, x6, y6, hD6, hF6, hs6, ra6, hg6, hy6, rfl, hj⟩
              by_cases hjl : j < xs2.length
              · rw [List.drop_eq_getElem_cons hjl] at hg6
                simp only [gather] at hg6
                obtain ⟨yo, g8, f4, hg6⟩ := bnd_eq hg6
                obtain ⟨rest7, g9, f5, hg6⟩ := bnd_eq hg6
                cases hg6
                have wk6 := (wkI w6 H6 g7 o6 y6.le).1 j xs2[j] (List.getElem?_eq_getElem hjl)
                refine .inr ⟨wk6.1, fun H' => ∃ m', m' < xs2.length - j ∧ ∃ w6 g7 accD acc rest2, Ok w6 H' g7 ∧ Ext w1 H1 w6 H' ∧ Ext w5 (Tv.del H5 D) w6 (Tv.del H' D) ∧ H' D = some (.lst acc) ∧ w6.F D = none ∧ D ∉ w6.st ∧ Reps K w6 accD acc ∧ gather (fun x2 g => match asg tg2 x2 (wipeE ρ' own2) with
                  | some ρ2 => bnd (ev call cond2 ρ2 g) fun k g => match truth k with
                    | some true => bnd (ev call elt ρ2 g) fun y g => some (some y, g)
                    | some false => some (none, g)
                    | none => none
                  | none => none) (xs2.drop (j + 1)) g7 = some (rest2, g3) ∧ ys = accD ++ (rest2 ++ rest') ∧ m' = xs2.length - (j + 1) ∧ j + 1 ≤ xs2.length, fun H' h => h, fun v7 H7 hy7 => ?_⟩
                obtain ⟨w7, o7, x7, rv7⟩ := wk6.2 v7 H7 hy7
                obtain ⟨hD7, hF7, hs7⟩ := x7.stay hD6 hF6 hs6
                have r7 : Rel K w7 H7 (wipeE ρ' own2) (L2.wipe σ2 own2) := ((r5.ext y6).undel.ext x7).wipe own2
                split at f4
                · rename_i ρ2 ea2
                  obtain ⟨k2, g10, f6, f4⟩ := bnd_eq f4
                  refine ⟨w7, wipeE ρ' own2, g7, xs2[j], ρ2, o7, r7, rv7, ea2, fun σ3 r8 b3 => ⟨wipe_but b3 hsub2, ?_⟩⟩
                  split at f4
                  · rename_i et2
                    obtain ⟨yv, g11, f7, f4⟩ := bnd_eq f4
                    cases f4
                    refine ⟨w7, ρ2, g7, k2, true, g10, o7, r8, f6, et2, fun w8 H8 o8 x8 => iteT ⟨w8, ρ2, g10, yv, _, o8, r8.ext x8, f7, fun w9 H9 u o9 x9 ru => ?_⟩⟩
                    obtain ⟨hD9, hF9, hs9⟩ := (x8.trans x9).stay hD7 hF7 hs7
                    have hl9 := (ra6.len : accD6.length = acc6.length)
                    have hl10 := hl5
                    rw [hy6] at hl10
                    simp only [List.length_append, List.length_cons] at hl10
                    have x79 := x7.trans (x8.trans x9)
                    refine ⟨acc6, hD9, by omega, _, by omega, w9, _, accD6 ++ [yv], acc6 ++ [u], rest7, o9.own hF9 hs9, (x6.trans x79).own nD, ?_, upd_same, hF9, hs9, ?_, f5, by rw [hy6]; simp, rfl, hjl⟩
                    · rw [del_upd]; exact y6.trans (x79.del2 D)
                    · exact (ra6.mono x79.le).app ⟨ru, trivial⟩
                  · rename_i et2
                    cases f4
                    refine ⟨w7, ρ2, g7, k2, false, _, o7, r8, f6, et2, fun w8 H8 o8 x8 => iteF ?_⟩
                    obtain ⟨hD8, hF8, hs8⟩ := x8.stay hD7 hF7 hs7
                    exact ⟨_, by omega, w8, _, accD6, acc6, rest7, o8, x6.trans (x7.trans x8), y6.trans ((x7.trans x8).del2 D), hD8, hF8, hs8, ra6.mono (x7.trans x8).le, f5, hy6, rfl, hjl⟩
                  · cases f4
                · cases f4
              · have ej : j = xs2.length := by omega
                subst ej
                rw [List.drop_length] at hg6
                simp only [gather] at hg6
                cases hg6
                exact .inl ⟨(wkI w6 H6 _ o6 y6.le).2, _, by omega, w6, _, accD6, acc6, rest', o6, x6, hD6, hF6, hs6, ra6, e5, hy6, rfl, hlt⟩
            · cases e4
          · rename_i et
            cases e4
            refine ⟨w3, ρ', g2, k, false, _, o3, r2, e6, et, fun w4 H4 o4 x4 => iteF ?_⟩
            obtain ⟨hD4, hF4, hs4⟩ := x4.stay hD3 hF3 hs3
            exact ⟨_, by omega, w4, _, accD, acc, rest', o4, (x2.trans x3).trans x4, hD4, hF4, hs4, ra.mono (x3.trans x4).le, e5, by rw [hy]; simp, rfl, hlt⟩
          · cases e4
        · cases e4
      · have ei : i = xs.length := by omega
        subst ei
        rw [List.drop_length] at hg
        simp only [gatherL] at hg
        cases hg
        rw [List.append_nil] at hy
        subst hy
        refine .inl ⟨(wk w2 H2 _ o2 x2).2, ?_⟩
        have q2 := q w2 (Tv.del H2 D) D acc (o2.del hF hs) ((x1.trans x2).del (x1.there D nD)) (if_pos rfl) ra
        rw [upd_del hD] at q2
        exact q2
    · cases he
  · cases he
/-- a comprehension with two clauses -/
theorem f_comp2 {elt tg iter tg1 iter1 : Expr} {ifs ifs1 : List Expr} {scope : Scope} {own : List (Str × Nat)} {vs1 : List Nat} {pos : Pos} {gt gt1 : G} {ci cc ci1 cc1 ce : C} (hc : X.calm = true) (hN : X.N.Nodup) (hi : PI X tg iter (tIQ X.K call ci)) (ok : BlkOk X.N X.env.scope scope own) (hv : ∀ i ∈ vs1, i ∈ own.map (·.2))
    (hg : ∀ (s : Shared) (H : Hp) (C : Addr) (cl : List (Str × Addr)) (fp : List Addr), PG (X.blk s H scope (compEnvC scope cl C X.env) fp) tg (tGt X.K gt)) (ht : ∀ (s : Shared) (H : Hp) (C : Addr) (cl : List (Str × Addr)) (fp : List Addr), PTs (X.blk s H scope (compEnvC scope cl C X.env) fp) ifs (tT X.K call cc))
    (hi1 : ∀ (s : Shared) (H : Hp) (C : Addr) (cl : List (Str × Addr)) (fp : List Addr), PI (X.blk s H scope (compEnvC scope cl C X.env) fp) tg1 iter1 (tI X.K call ci1))
    (hg1 : ∀ (s : Shared) (H : Hp) (C : Addr) (cl : List (Str × Addr)) (fp : List Addr), PG (X.blk s H scope (compEnvC scope cl C X.env) fp) tg1 (tGt X.K gt1)) (ht1 : ∀ (s : Shared) (H : Hp) (C : Addr) (cl : List (Str × Addr)) (fp : List Addr), PTs (X.blk s H scope (compEnvC scope cl C X.env) fp) ifs1 (tT X.K call cc1))
    (he : ∀ (s : Shared) (H : Hp) (C : Addr) (cl : List (Str × Addr)) (fp : List Addr), PE (X.blk s H scope (compEnvC scope cl C X.env) fp) elt (tV X.K call ce)) (hs : ∀ x, foldedSetIterable iter X.env x = pure x) (hs1 : ∀ env x, foldedSetIterable iter1 env x = pure x)
    (hsub : ∀ i ∈ gvars gt, i ∈ own.map (·.2)) (hsub1 : ∀ i ∈ gvars gt1, i ∈ vs1) :
    PE X (.ListComp elt [⟨tg, iter, ifs, 0⟩, ⟨tg1, iter1, ifs1, 0⟩] scope pos) (tF X.K call (.comp2 (own.map (·.2)) vs1 gt ci cc gt1 ci1 cc1 ce)) :=
  (pe_lc2 hc hN hi ok hv hg ht hi1 hg1 ht1 he hs hs1).imp fun σ H Q h => lc2_read hsub hsub1 h
/-- a comprehension with one clause -/
theorem f_comp {elt tg iter : Expr} {ifs : List Expr} {scope : Scope} {own : List (Str × Nat)} {pos : Pos} {gt : G} {ci cc ce : C} (hc : X.calm = true) (hN : X.N.Nodup) (hi : PI X tg iter (tIQ X.K call ci)) (ok : BlkOk X.N X.env.scope scope own)
    (hg : ∀ (s : Shared) (H : Hp) (C : Addr) (cl : List (Str × Addr)) (fp : List Addr), PG (X.blk s H scope (compEnvC scope cl C X.env) fp) tg (tGt X.K gt)) (ht : ∀ (s : Shared) (H : Hp) (C : Addr) (cl : List (Str × Addr)) (fp : List Addr), PTs (X.blk s H scope (compEnvC scope cl C X.env) fp) ifs (tT X.K call cc))
    (he : ∀ (s : Shared) (H : Hp) (C : Addr) (cl : List (Str × Addr)) (fp : List Addr), PE (X.blk s H scope (compEnvC scope cl C X.env) fp) elt (tV X.K call ce)) (hs : ∀ x, foldedSetIterable iter X.env x = pure x) (hsub : ∀ i ∈ gvars gt, i ∈ own.map (·.2)) :
    PE X (.ListComp elt [⟨tg, iter, ifs, 0⟩] scope pos) (tF X.K call (.comp (own.map (·.2)) gt ci cc ce)) :=
  (pe_lc hc hN hi ok hg ht he hs).imp fun σ H Q h => lc_read hsub h
theorem PTsimp {es : List Expr} {t t' : TT} (h : PTs X es t) (i : ∀ σ H Q, t' σ H Q → t σ H Q) : PTs X es t' := ⟨fun pins s σ H Q I q => h.run pins s σ H Q I (i σ H Q q)⟩
theorem ts_nil : PTs X [] (tT X.K call (.lit (.bl true))) := PTsimp pts_nil fun σ H Q ⟨w, ρ, g, d, b, g', o, r, he, ht, q⟩ => by
  simp only [ev] at he
  cases he
  cases ht
  exact q w H o (Ext.refl _ _)
theorem ts_one {e : Expr} {c : C} (h : PT X e (tT X.K call c)) : PTs X [e] (tT X.K call c) := pts_one h
end
end Tv

/-! Tv7: statements, blocks, loops. -/
namespace Tv
open PySem L2
/-- where one stands in a def's body, entered at (w0, H0) -/
structure Sit (K : Frag) (w0 : W) (H0 : Hp) (w : W) (H : Hp) (g : GS) (ρ : Env) (σ : St) : Prop where
  ok : Ok w H g
  rel : Rel K w H ρ σ
  ext : Ext w0 H0 w H
  new : ∀ (i : Nat) (xs : List D) (a : Addr), ρ[i]? = some (.own xs) → σ[i]? = some (some (.ref a)) → H0 a = none
theorem Sit.go {K : Frag} {w0 w w' : W} {H0 H H' : Hp} {g g' : GS} {ρ : Env} {σ : St} (s : Sit K w0 H0 w H g ρ σ) (o : Ok w' H' g') (e : Ext w H w' H') : Sit K w0 H0 w' H' g' ρ σ :=
  ⟨o, s.rel.ext e, s.ext.trans e, s.new⟩
theorem fz1_other {ρ : Env} {i j : Nat} (h : i ≠ j) : (fz1 ρ i)[j]? = ρ[j]? := by
  unfold fz1
  split
  · rw [List.getElem?_set_ne h]
  · rfl
theorem Sit.fz1 {K : Frag} {w0 w : W} {H0 H : Hp} {g : GS} {ρ : Env} {σ : St} (s : Sit K w0 H0 w H g ρ σ) (i : Nat) : ∃ w', Sit K w0 H0 w' H g (Tv.fz1 ρ i) σ ∧ Le w w' ∧ w'.st = w.st := by
  unfold Tv.fz1
  split
  · rename_i xs hi
    obtain ⟨ov, h1, a, vs, rfl, h2, h3, h4, h5⟩ := s.rel.at_ i _ hi
    have le : Le w (w.add a (.lst vs)) := Le.add h3
    refine ⟨w.add a (.lst vs), ⟨⟨fun b u e => ?_, s.ok.st.keep rfl fun _ _ => rfl, fun b m => ?_⟩, ⟨by simp [s.rel.len], fun j sv hj => ?_, fun j k b ys zs ne hj hk g1 g2 => ?_⟩, ⟨s.ext.F.trans le.F, s.ext.st, s.ext.keep, fun b u e => ?_, s.ext.snew, s.ext.there⟩, fun j ys b hj hb => ?_⟩, le, rfl⟩
    · have e' : upd w.F a (.lst vs) b = some u := e
      by_cases eb : b = a
      · subst eb; rw [upd_same] at e'; cases e'; exact h2
      · rw [upd_ne eb] at e'; exact s.ok.same b u e'
    · show upd w.F a (.lst vs) b = none
      rw [upd_ne fun z => h4 (by rw [← z]; exact m)]
      exact s.ok.out b m
    · by_cases e : i = j
      · subst e
        by_cases hl : i < ρ.length
        · rw [List.getElem?_set_self hl] at hj
          cases hj
          exact ⟨_, h1, .ref a, rfl, a, vs, rfl, upd_same, h5.mono le⟩
        · rw [List.getElem?_eq_none (by simpa using hl)] at hj; cases hj
      · rw [List.getElem?_set_ne e] at hj
        obtain ⟨ov, k1, k2⟩ := s.rel.at_ j sv hj
        refine ⟨ov, k1, ?_⟩
        cases sv with
        | no => trivial
        | val d => obtain ⟨v, e1, e2⟩ := k2; exact ⟨v, e1, e2.mono le⟩
        | own ys =>
          obtain ⟨b, us, e1, e2, e3, e4, e5⟩ := k2
          subst e1
          refine ⟨b, us, rfl, e2, ?_, e4, e5.mono le⟩
          show upd w.F a (.lst vs) b = none
          rw [upd_ne fun z => s.rel.two i j a xs ys e hi hj h1 (by rw [k1, z])]
          exact e3
    · have ow : ∀ {m : Nat} {ts : List D}, (ρ.set i (.val (.lst xs)))[m]? = some (.own ts) → ρ[m]? = some (.own ts) := fun {m ts} hm => by
        by_cases e : i = m
        · subst e
          by_cases hl : i < ρ.length
          · rw [List.getElem?_set_self hl] at hm; cases hm
          · rw [List.getElem?_eq_none (by simpa using hl)] at hm; cases hm
        · rw [List.getElem?_set_ne e] at hm; exact hm
      exact s.rel.two j k b ys zs ne (ow hj) (ow hk) g1 g2
    · have e' : upd w.F a (.lst vs) b = some u := e
      by_cases eb : b = a
      · subst eb; exact .inr (s.new i xs b hi h1)
      · rw [upd_ne eb] at e'; exact s.ext.new b u e'
    · by_cases e : i = j
      · subst e
        by_cases hl : i < ρ.length
        · rw [List.getElem?_set_self hl] at hj; cases hj
        · rw [List.getElem?_eq_none (by simpa using hl)] at hj; cases hj
      · rw [List.getElem?_set_ne e] at hj; exact s.new j ys b hj hb
  · exact ⟨w, s, Le.refl w, rfl⟩
theorem Le.trans {w w1 w2 : W} (a : Le w w1) (b : Le w1 w2) : Le w w2 := ⟨a.F.trans b.F, by
  rcases a.st with h | h
  · exact .inl h
  · rcases b.st with k | k
    · exact .inl (h ▸ k)
    · exact .inr (k.trans h)⟩
theorem Sit.freeze {K : Frag} {w0 w : W} {H0 H : Hp} {g : GS} {ρ : Env} {σ : St} (s : Sit K w0 H0 w H g ρ σ) : ∀ fz : List Nat, ∃ w', Sit K w0 H0 w' H g (Tv.freeze ρ fz) σ ∧ Le w w' ∧ w'.st = w.st
  | [] => ⟨w, s, Le.refl w, rfl⟩
  | i :: r => by
    obtain ⟨w1, s1, l1, t1⟩ := Sit.freeze s r
    obtain ⟨w2, s2, l2, t2⟩ := s1.fz1 i
    exact ⟨w2, s2, l1.trans l2, t2.trans t1⟩
/-- behind an expression that was asked with names given away: a plain answer gives them back -/
theorem Sit.back {K : Frag} {w0 w w1 w' : W} {H0 H H' : Hp} {g g' : GS} {ρ : Env} {σ : St} {fz : List Nat} {d : D} {v : V} (s : Sit K w0 H0 w H g ρ σ) (s1 : Sit K w0 H0 w1 H g (Tv.freeze ρ fz) σ) (l : Le w w1) (t : w1.st = w.st) (o : Ok w' H' g') (e : Ext w1 H w' H') (r : Rep K w' d v) :
    ∃ w2, Sit K w0 H0 w2 H' g' (keepF ρ fz d) σ ∧ Rep K w2 d v ∧ Le w w2 := by
  unfold keepF
  split
  · exact ⟨w', ⟨o, ⟨s1.rel.len, (s1.go o e).rel.at_, (s1.go o e).rel.two⟩, (s1.go o e).ext, (s1.go o e).new⟩, r, l.trans e.le⟩
  · split
    · rename_i hs
      have hst : w.st = [] ∨ w'.st = w.st := by
        rcases e.st with k | k
        · exact .inl (t ▸ k)
        · exact .inr (k.trans t)
      have le : Le w ⟨w.F, w'.st⟩ := ⟨Same.refl _, hst⟩
      have hup : ∀ b u, w.F b = some u → w'.F b = some u := fun b u h => e.F b u (l.F b u h)
      refine ⟨⟨w.F, w'.st⟩, ⟨⟨fun b u h => o.same b u (hup b u h), o.st.keep rfl fun _ _ => rfl, fun b m => ?_⟩, ⟨s.rel.len, fun j sv hj => ?_, s.rel.two⟩, ⟨s.ext.F, (s1.ext.trans e).st, (s1.ext.trans e).keep, fun b u h => s.ext.new b u h, (s1.ext.trans e).snew, (s1.ext.trans e).there⟩, s.new⟩, r.scal hs, le⟩
      · show w.F b = none
        cases q : w.F b with
        | none => rfl
        | some u =>
          have z := o.out b m
          rw [hup b u q] at z; cases z
      · obtain ⟨ov, k1, k2⟩ := s.rel.at_ j sv hj
        refine ⟨ov, k1, ?_⟩
        cases sv with
        | no => trivial
        | val d => obtain ⟨v, e1, e2⟩ := k2; exact ⟨v, e1, e2.mono le⟩
        | own ys =>
          obtain ⟨b, us, e1, e2, e3, e4, e5⟩ := k2
          refine ⟨b, us, e1, e.keep b _ e2 (by rw [t]; exact e4), e3, fun m => ?_, e5.mono le⟩
          rcases e.snew b m with k | k
          · rw [t] at k; exact e4 k
          · rw [e2] at k; cases k
    · exact ⟨w', s1.go o e, r, l.trans e.le⟩

def Post (K : Frag) (w0 : W) (H0 : Hp) (D : Ends) (w : W) (r : R) (g' : GS) : Prop := match r with
  | .nx ρ' => ∀ w' σ' H', Sit K w0 H0 w' H' g' ρ' σ' → Le w w' → D.nx σ' H'
  | .ct ρ' => ∀ w' σ' H', Sit K w0 H0 w' H' g' ρ' σ' → Le w w' → D.ct σ' H'
  | .bk ρ' => ∀ w' σ' H', Sit K w0 H0 w' H' g' ρ' σ' → Le w w' → D.bk σ' H'
  | .rt d => ∀ w' H' v, Ok w' H' g' → Ext w0 H0 w' H' → Rep K w' d v → D.rt v H'
def tS (K : Frag) (call : Calls) (w0 : W) (H0 : Hp) (s : S) : TS := fun D σ H => ∃ w ρ g r g', Sit K w0 H0 w H g ρ σ ∧ ex call s ρ g = some (r, g') ∧ Post K w0 H0 D w r g'
def tSs (K : Frag) (call : Calls) (w0 : W) (H0 : Hp) (ss : List S) : TS := fun D σ H => ∃ w ρ g r g', Sit K w0 H0 w H g ρ σ ∧ exs call ss ρ g = some (r, g') ∧ Post K w0 H0 D w r g'
theorem Post.le {K : Frag} {w0 : W} {H0 : Hp} {D : Ends} {w w' : W} {r : R} {g' : GS} (h : Post K w0 H0 D w r g') (l : Le w w') : Post K w0 H0 D w' r g' := by
  cases r with
  | nx ρ => exact fun a b c d e => h a b c d (l.trans e)
  | ct ρ => exact fun a b c d e => h a b c d (l.trans e)
  | bk ρ => exact fun a b c d e => h a b c d (l.trans e)
  | rt d => exact h

section
variable {X : Cx} {call : Calls} {w0 : W} {H0 : Hp}
theorem ss_nil : PSs X [] (tSs X.K call w0 H0 []) := pss_nil.imp fun D σ H ⟨w, ρ, g, r, g', s, he, q⟩ => by
  simp only [exs] at he
  cases he
  exact q w σ H s (Le.refl w)
theorem ss_cons {st : Stmt} {sts : List Stmt} {s : S} {ss : List S} (h1 : PS X st (tS X.K call w0 H0 s)) (h2 : PSs X sts (tSs X.K call w0 H0 ss)) : PSs X (st :: sts) (tSs X.K call w0 H0 (s :: ss)) :=
  (pss_cons h1 h2).imp fun D σ H ⟨w, ρ, g, r, g', si, he, q⟩ => by
    simp only [exs] at he
    obtain ⟨r1, g1, e1, he⟩ := bnd_eq he
    refine ⟨w, ρ, g, r1, g1, si, e1, ?_⟩
    cases r1 with
    | nx ρ1 => exact fun w1 σ1 H1 s1 l1 => ⟨w1, ρ1, g1, r, g', s1, he, q.le l1⟩
    | ct ρ1 => cases he; exact q
    | bk ρ1 => cases he; exact q
    | rt d => cases he; exact q

/-! ### plain statements -/
theorem s_pass {pos : Pos} : PS X (.Pass pos) (tS X.K call w0 H0 .pass) := ps_pass.imp fun D σ H ⟨w, ρ, g, r, g', s, he, q⟩ => by
  simp only [ex] at he
  cases he
  exact q w σ H s (Le.refl w)
theorem s_brk {pos : Pos} : PS X (.Break pos) (tS X.K call w0 H0 .brk) := ps_break.imp fun D σ H ⟨w, ρ, g, r, g', s, he, q⟩ => by
  simp only [ex] at he
  cases he
  exact q w σ H s (Le.refl w)
theorem s_cnt {pos : Pos} : PS X (.Continue pos) (tS X.K call w0 H0 .cnt) := ps_continue.imp fun D σ H ⟨w, ρ, g, r, g', s, he, q⟩ => by
  simp only [ex] at he
  cases he
  exact q w σ H s (Le.refl w)
theorem s_retN {pos : Pos} : PS X (.Return none pos) (tS X.K call w0 H0 .retN) := ps_retN.imp fun D σ H ⟨w, ρ, g, r, g', s, he, q⟩ => by
  simp only [ex] at he
  cases he
  exact q w H .non s.ok s.ext rfl
theorem s_ret {e : Expr} {c : C} {pos : Pos} (fz : List Nat) (h : PE X e (tV X.K call c)) : PS X (.Return (some e) pos) (tS X.K call w0 H0 (.ret fz c)) :=
  (ps_ret h).imp fun D σ H ⟨w, ρ, g, r, g', s, he, q⟩ => by
    simp only [ex] at he
    obtain ⟨d, g1, e1, he⟩ := bnd_eq he
    cases he
    obtain ⟨w1, s1, l1, t1⟩ := s.freeze fz
    exact ⟨w1, _, g, d, _, s1.ok, s1.rel, e1, fun w2 H2 v o2 x2 r2 => q w2 H2 v o2 (s1.ext.trans x2) r2⟩
theorem s_expr {e : Expr} {c : C} {pos : Pos} (h : PE X e (tV X.K call c)) (hs : swapsWith e none pos.line X.env = pure false) : PS X (.Expr e pos) (tS X.K call w0 H0 (.expr c)) :=
  (ps_expr h hs).imp fun D σ H ⟨w, ρ, g, r, g', s, he, q⟩ => by
    simp only [ex] at he
    obtain ⟨d, g1, e1, he⟩ := bnd_eq he
    cases he
    exact ⟨w, ρ, g, d, _, s.ok, s.rel, e1, fun w2 H2 v o2 x2 r2 => q w2 σ H2 (s.go o2 x2) x2.le⟩
theorem s_doc {x : Str} {j : Nat} {p1 pos : Pos} : PS X (.Expr (.Constant (.str x) j p1) pos) (tS X.K call w0 H0 .pass) := ps_doc.imp fun D σ H ⟨w, ρ, g, r, g', s, he, q⟩ => by
  simp only [ex] at he
  cases he
  exact q w σ H s (Le.refl w)
theorem s_if {t : Expr} {a b : List Stmt} {c : C} {sa sb : List S} {pos : Pos} (ht : PT X t (tT X.K call c)) (ha : PSs X a (tSs X.K call w0 H0 sa)) (hb : PSs X b (tSs X.K call w0 H0 sb)) : PS X (.If t a b pos) (tS X.K call w0 H0 (.ifs c sa sb)) :=
  (ps_if ht ha hb).imp fun D σ H ⟨w, ρ, g, r, g', s, he, q⟩ => by
    simp only [ex] at he
    obtain ⟨x, g1, e1, he⟩ := bnd_eq he
    split at he
    · rename_i et
      exact ⟨w, ρ, g, x, true, g1, s.ok, s.rel, e1, et, fun w1 H1 o1 x1 => iteT ⟨w1, ρ, g1, r, g', s.go o1 x1, he, q.le x1.le⟩⟩
    · rename_i et
      exact ⟨w, ρ, g, x, false, g1, s.ok, s.rel, e1, et, fun w1 H1 o1 x1 => iteF ⟨w1, ρ, g1, r, g', s.go o1 x1, he, q.le x1.le⟩⟩
    · cases he
theorem s_ifz {t : Expr} {a b : List Stmt} {c : C} {sa sb : List S} {pos : Pos} (fz : List Nat) (ht : PT X t (tT X.K call c)) (ha : PSs X a (tSs X.K call w0 H0 sa)) (hb : PSs X b (tSs X.K call w0 H0 sb)) : PS X (.If t a b pos) (tS X.K call w0 H0 (.ifz fz c sa sb)) :=
  (ps_if ht ha hb).imp fun D σ H ⟨w, ρ, g, r, g', s, he, q⟩ => by
    simp only [ex] at he
    obtain ⟨x, g1, e1, he⟩ := bnd_eq he
    obtain ⟨w1, s1, l1, t1⟩ := s.freeze fz
    split at he
    · rename_i et
      exact ⟨w1, _, g, x, true, g1, s1.ok, s1.rel, e1, et, fun w2 H1 o1 x1 => iteT ⟨w2, _, g1, r, g', s1.go o1 x1, he, q.le (l1.trans x1.le)⟩⟩
    · rename_i et
      exact ⟨w1, _, g, x, false, g1, s1.ok, s1.rel, e1, et, fun w2 H1 o1 x1 => iteF ⟨w2, _, g1, r, g', s1.go o1 x1, he, q.le (l1.trans x1.le)⟩⟩
    · cases he

/-! ### stores -/
theorem Sit.asg {K : Frag} {w : W} {H : Hp} {g : GS} {ρ ρ' : Env} {σ σ' : St} {gt : G} {d : D} (s : Sit K w0 H0 w H g ρ σ) (ha : Tv.asg gt d ρ = some ρ') (r : Rel K w H ρ' σ') (b : But (gvars gt) σ σ') : Sit K w0 H0 w H g ρ' σ' :=
  ⟨s.ok, r, s.ext, fun i xs a h1 h2 => by
    obtain ⟨h3, h4⟩ := asg_own ha h1
    rw [b.out i h4] at h2
    exact s.new i xs a h3 h2⟩
theorem s_asg {tg e : Expr} {gt : G} {c : C} {pos : Pos} (fz : List Nat) (he : PE X e (tV X.K call c)) (hg : PG X tg (tGt X.K gt)) (hs : swapsWithSole [tg] e pos.line X.env = pure false) (hw : swappedStores [tg] e X.env = pure none) (h1 : (assignEach [tg] X.env).map (·.2) = [assign tg X.env]) :
    PS X (.Assign [tg] e pos) (tS X.K call w0 H0 (.asg fz gt c)) :=
  (ps_asg he hg hs hw h1).imp fun D σ H ⟨w, ρ, g, r, g', s, he, q⟩ => by
    simp only [ex] at he
    obtain ⟨d, g1, e1, he⟩ := bnd_eq he
    split at he
    · rename_i ρ' ea
      cases he
      obtain ⟨w1, s1, l1, t1⟩ := s.freeze fz
      refine ⟨w1, _, g, d, _, s1.ok, s1.rel, e1, fun w2 H2 v o2 x2 r2 => ?_⟩
      obtain ⟨w3, s3, r3, l3⟩ := s.back s1 l1 t1 o2 x2 r2
      exact ⟨w3, _, _, d, ρ', s3.ok, s3.rel, r3, ea, fun σ' r4 b4 => q w3 σ' H2 (s3.asg ea r4 b4) l3⟩
    · cases he
/-- a list of one's own at place i -/
theorem Sit.put {K : Frag} {w : W} {H : Hp} {g : GS} {ρ : Env} {σ : St} {i : Nat} {xs : List D} {vs : List V} {p : Addr} (s : Sit K w0 H0 w H g ρ σ) (n : H p = none) (q : Reps K w xs vs) : Sit K w0 H0 w (upd H p (.lst vs)) g (ρ.set i (.own xs)) (σ.set i (some (.ref p))) := by
  have x : Ext w H w (upd H p (.lst vs)) := Ext.put n
  refine ⟨s.ok.put n, (s.rel.ext x).setOwn upd_same (s.ok.free n) (s.ok.nst n) q fun j ys a ne hj ha => ?_, s.ext.trans x, fun j ys a hj ha => ?_⟩
  · obtain ⟨ov, k1, b, us, k2, k3, _⟩ := s.rel.at_ j _ hj
    rw [ha] at k1
    cases k1
    cases k2
    exact ne_of_none k3 n
  · by_cases e : i = j
    · subst e
      by_cases hl : i < σ.length
      · rw [List.getElem?_set_self hl] at ha
        cases ha
        exact s.ext.there _ n
      · rw [List.getElem?_eq_none (by simpa using hl)] at ha; cases ha
    · rw [List.getElem?_set_ne e] at hj ha
      exact s.new j ys a hj ha
theorem own_read {i : Nat} {c : C} {t : TE} (fz : List Nat) {D : Ends} {σ : St} {H : Hp} {K : Frag} (ht : ∀ σ H Q, tF K call c σ H Q → t σ H Q) (h : tS K call w0 H0 (.own fz i c) D σ H) : tAsg t (gName i) D σ H := by
  obtain ⟨w, ρ, g, r, g', s, he, q⟩ := h
  simp only [ex] at he
  obtain ⟨d, g1, e1, he⟩ := bnd_eq he
  split at he
  · rename_i xs
    cases he
    obtain ⟨w1, s1, l1, t1⟩ := s.freeze fz
    exact ht _ _ _ ⟨w1, _, g, xs, _, s1.ok, s1.rel, e1, fun w2 H2 p vs o2 x2 n y2 => q w2 _ _ ((s1.go o2 x2).put n y2) (l1.trans x2.le)⟩
  · cases he
theorem s_own {x : Str} {p1 : Pos} {e : Expr} {i : Nat} {c : C} {pos : Pos} (fz : List Nat) (he : PE X e (tF X.K call c)) (hg : PG X (.Name x p1) (gName i)) (hs : swapsWithSole [.Name x p1] e pos.line X.env = pure false) (hw : swappedStores [.Name x p1] e X.env = pure none) :
    PS X (.Assign [.Name x p1] e pos) (tS X.K call w0 H0 (.own fz i c)) :=
  (ps_asg he hg hs hw rfl).imp fun D σ H h => own_read fz (fun _ _ _ h => h) h
/-- several names at once -/
theorem Sit.par {K : Frag} {w : W} {H : Hp} {g : GS} : ∀ {is : List Nat} {ds : List D} {vs : List V} {ρ ρ' : Env} {σ : St}, Sit K w0 H0 w H g ρ σ → Reps K w ds vs → parE is ds ρ = some ρ' →
    Sit K w0 H0 w H g ρ' ((is.zip vs).foldl (fun σ p => σ.set p.1 (some p.2)) σ)
  | [], [], [], ρ, ρ', σ, s, _, h => by
    simp only [parE] at h
    cases h
    exact s
  | i :: is, d :: ds, v :: vs, ρ, ρ', σ, s, r, h => by
    simp only [parE] at h
    rw [List.zip_cons_cons, List.foldl_cons]
    exact Sit.par (s.asg (gt := .var i) (d := d) (ρ' := ρ.set i (.val d)) (by simp only [Tv.asg]) (s.rel.set r.1) ⟨by simp, fun j hj => by
      rw [List.getElem?_set_ne]
      exact fun z => hj (by simp only [gvars, List.mem_singleton]; exact z.symm)⟩) r.2 h
  | [], _ :: _, _, _, _, _, _, _, h => by simp only [parE] at h; cases h
  | _ :: _, [], _, _, _, _, _, _, h => by simp only [parE] at h; cases h
  | [], [], _ :: _, _, _, _, _, r, _ => r.elim
  | _ :: _, _ :: _, [], _, _, _, _, r, _ => r.elim
theorem par_read {is : List Nat} {cs : List C} {t : TS} (fz : List Nat) {D : Ends} {σ : St} {H : Hp} {K : Frag} (h : tS K call w0 H0 (.par fz is cs) D σ H)
    (ht : tA K call cs σ H (fun vs H1 => vs.length = is.length ∧ D.nx ((is.zip vs).foldl (fun σ p => σ.set p.1 (some p.2)) σ) H1) → t D σ H) : t D σ H := by
  obtain ⟨w, ρ, g, r, g', s, he, q⟩ := h
  simp only [ex] at he
  obtain ⟨ds, g1, e1, he⟩ := bnd_eq he
  split at he
  · rename_i ρ' ea
    cases he
    obtain ⟨w1, s1, l1, t1⟩ := s.freeze fz
    refine ht ⟨w1, _, g, ds, _, s1.ok, s1.rel, e1, fun w2 H2 vs o2 x2 y2 => ⟨?_, q w2 _ H2 ((s1.go o2 x2).par y2 ea) (l1.trans x2.le)⟩⟩
    have pl : ∀ {is : List Nat} {ds : List Tv.D} {ρ ρ' : Env}, parE is ds ρ = some ρ' → ds.length = is.length := by
      intro is
      induction is with
      | nil => intro ds ρ ρ' h; cases ds with
        | nil => rfl
        | cons _ _ => simp only [parE] at h; cases h
      | cons i is ih => intro ds ρ ρ' h; cases ds with
        | nil => simp only [parE] at h; cases h
        | cons _ _ => simp only [parE] at h; simp [ih h]
    rw [← y2.len]; exact pl ea
  · cases he
theorem s_par2 {i j : Nat} {x y : Str} {a b : Expr} {cs : List C} {px py pt pos : Pos} {kt k2 : Nat} {pt2 : Pos} (fz : List Nat) (hc : X.calm = true) (hN : X.N.Nodup) (hi : X.N[i]? = some x) (hj : X.N[j]? = some y) (hij : i ≠ j)
    (hx : X.env.scope.names.lookup x = some .local) (hy : X.env.scope.names.lookup y = some .local) (ha : PA X [a, b] (tA X.K call cs))
    (hw : swappedStores [.Tuple [.Name x px, .Name y py] kt pt] (.Tuple [a, b] k2 pt2) X.env = pure (some [x, y])) :
    PS X (.Assign [.Tuple [.Name x px, .Name y py] kt pt] (.Tuple [a, b] k2 pt2) pos) (tS X.K call w0 H0 (.par fz [i, j] cs)) :=
  (ps_par hc hN hi hj hij hx hy ha hw rfl).imp fun D σ H h => par_read fz h fun ⟨w, ρ, g, ds, g', o, r, e, q⟩ => ⟨w, ρ, g, ds, g', o, r, e, fun w' H' vs o' x' y' => by
    obtain ⟨hl, q⟩ := q w' H' vs o' x' y'
    match vs, hl with
    | [v, u], _ => exact ⟨v, u, rfl, q⟩⟩
/-- two names at once, the second one with a list of its own -/
theorem s_paro {i j : Nat} {x y : Str} {a b : Expr} {c c2 : C} {px py pt pos : Pos} {kt k2 : Nat} {pt2 : Pos} (fz : List Nat) (hc : X.calm = true) (hN : X.N.Nodup) (hi : X.N[i]? = some x) (hj : X.N[j]? = some y) (hij : i ≠ j)
    (hx : X.env.scope.names.lookup x = some .local) (hy : X.env.scope.names.lookup y = some .local) (ha : PE X a (tV X.K call c)) (hb : PE X b (tF X.K call c2)) (hs1 : starEach [a, b] X.env = (false, eval a X.env) :: starEach [b] X.env) (hs2 : starEach [b] X.env = (false, eval b X.env) :: starEach [] X.env)
    (hw : swappedStores [.Tuple [.Name x px, .Name y py] kt pt] (.Tuple [a, b] k2 pt2) X.env = pure (some [x, y])) :
    PS X (.Assign [.Tuple [.Name x px, .Name y py] kt pt] (.Tuple [a, b] k2 pt2) pos) (tS X.K call w0 H0 (.paro fz i j c c2)) :=
  (ps_par hc hN hi hj hij hx hy (pa_cons ha (pa_cons hb pa_nil hs2) hs1) hw rfl).imp fun D σ H ⟨w, ρ, g, r, g', s, he, q⟩ => by
    simp only [ex] at he
    obtain ⟨d, g1, e1, he⟩ := bnd_eq he
    obtain ⟨d2, g2, e2, he⟩ := bnd_eq he
    split at he
    · rename_i xs
      cases he
      obtain ⟨w1, s1, l1, t1⟩ := s.freeze fz
      refine ⟨w1, _, g, d, g1, s1.ok, s1.rel, e1, fun w2 H2 v o2 x2 r2 => ?_⟩
      have s2 := s1.go o2 x2
      refine ⟨w2, _, g1, xs, _, s2.ok, s2.rel, e2, fun w3 H3 p vs o3 x3 n y3 => ?_⟩
      have s3 := s2.go o3 x3
      have s4 := s3.asg (gt := .var i) (d := d) (ρ' := (Tv.freeze ρ fz).set i (.val d)) (by simp only [Tv.asg]) (s3.rel.set (r2.mono x3.le)) ⟨by simp, fun j hj => by
        rw [List.getElem?_set_ne]
        exact fun z => hj (by simp only [gvars, List.mem_singleton]; exact z.symm)⟩
      exact ⟨v, .ref p, rfl, q w3 _ _ (s4.put n y3) (l1.trans (x2.le.trans x3.le))⟩
    · cases he
theorem s_par3 {i j l : Nat} {x y z : Str} {a b c : Expr} {cs : List C} {px py pz pt pos : Pos} {kt k2 : Nat} {pt2 : Pos} (fz : List Nat) (hc : X.calm = true) (hN : X.N.Nodup) (hi : X.N[i]? = some x) (hj : X.N[j]? = some y) (hl : X.N[l]? = some z) (hij : i ≠ j) (hil : i ≠ l) (hjl : j ≠ l)
    (hx : X.env.scope.names.lookup x = some .local) (hy : X.env.scope.names.lookup y = some .local) (hz : X.env.scope.names.lookup z = some .local) (ha : PA X [a, b, c] (tA X.K call cs))
    (hw : swappedStores [.Tuple [.Name x px, .Name y py, .Name z pz] kt pt] (.Tuple [a, b, c] k2 pt2) X.env = pure (some [x, y, z])) :
    PS X (.Assign [.Tuple [.Name x px, .Name y py, .Name z pz] kt pt] (.Tuple [a, b, c] k2 pt2) pos) (tS X.K call w0 H0 (.par fz [i, j, l] cs)) :=
  (ps_par3 hc hN hi hj hl hij hil hjl hx hy hz ha hw rfl).imp fun D σ H h => par_read fz h fun ⟨w, ρ, g, ds, g', o, r, e, q⟩ => ⟨w, ρ, g, ds, g', o, r, e, fun w' H' vs o' x' y' => by
    obtain ⟨hl, q⟩ := q w' H' vs o' x' y'
    match vs, hl with
    | [v, u, t], _ => exact ⟨v, u, t, rfl, q⟩⟩

/-! ### lists of one's own, changed -/
theorem Sit.change {K : Frag} {w : W} {H : Hp} {g : GS} {ρ : Env} {σ : St} {i : Nat} {xs ys : List D} {us : List V} {a : Addr} (s : Sit K w0 H0 w H g ρ σ) (h : ρ[i]? = some (.own xs)) (ha : σ[i]? = some (some (.ref a))) (q : Reps K w ys us) : Sit K w0 H0 w (upd H a (.lst us)) g (ρ.set i (.own ys)) σ := by
  obtain ⟨ov, k1, b, vs, k2, k3, k4, k5, k6⟩ := s.rel.at_ i _ h
  rw [ha] at k1
  cases k1
  cases k2
  have n0 := s.new i xs a h ha
  refine ⟨s.ok.own k4 k5, ⟨by simp [s.rel.len], fun j sv hj => ?_, fun j k b zs ts ne hj hk g1 g2 => ?_⟩, s.ext.own n0, fun j zs b hj hb => ?_⟩
  · by_cases e : i = j
    · subst e
      have hl : i < ρ.length := (List.getElem?_eq_some_iff.mp h).1
      rw [List.getElem?_set_self hl] at hj
      cases hj
      exact ⟨_, ha, a, us, rfl, upd_same, k4, k5, q⟩
    · rw [List.getElem?_set_ne e] at hj
      obtain ⟨ov, g1, g2⟩ := s.rel.at_ j sv hj
      refine ⟨ov, g1, ?_⟩
      cases sv with
      | no => trivial
      | val d => exact g2
      | own zs =>
        obtain ⟨b, ws, e1, e2, e3⟩ := g2
        subst e1
        refine ⟨b, ws, rfl, ?_, e3⟩
        rw [upd_ne fun z => s.rel.two i j a xs zs e h hj ha (by rw [g1, z])]
        exact e2
  · have ow : ∀ {m : Nat} {ts : List D}, (ρ.set i (.own ys))[m]? = some (.own ts) → ∃ ts', ρ[m]? = some (.own ts') := fun {m ts} hm => by
      by_cases e : i = m
      · subst e; exact ⟨xs, h⟩
      · rw [List.getElem?_set_ne e] at hm; exact ⟨ts, hm⟩
    obtain ⟨_, e1⟩ := ow hj
    obtain ⟨_, e2⟩ := ow hk
    exact s.rel.two j k b _ _ ne e1 e2 g1 g2
  · by_cases e : i = j
    · subst e; exact s.new i xs b h hb
    · rw [List.getElem?_set_ne e] at hj; exact s.new j zs b hj hb
theorem s_app {x : Str} {e : Expr} {i : Nat} {c : C} {p1 apos cpos pos : Pos} (fz : List Nat) (hx : PE X (.Name x p1) (tVar i)) (he : PE X e (tV X.K call c)) (hline : (apos.endLine == cpos.line) = true) (hs : starEach [e] X.env = [(false, eval e X.env)])
    (hbase : attributeBase (.Name x p1) "append" X.env (eval (.Name x p1) X.env) = eval (.Name x p1) X.env := by rfl) :
    PS X (.Expr (.Call (.Attribute (.Name x p1) "append" apos) [e] [] cpos) pos) (tS X.K call w0 H0 (.app fz i c)) := by
  refine (ps_expr (pe_bm PySem.F.plainAttrs_list PySem.F.slot_list_append PySem.F.type_list_append mt_append hx (pa_cons he pa_nil (by rw [hs]; rfl)) hbase (by rw [hs]; rfl) hline (by rw [hs]; rfl) rfl) rfl).imp fun D σ H ⟨w, ρ, g, r, g', s, he, q⟩ => ?_
  simp only [ex] at he
  obtain ⟨d, g1, e1, he⟩ := bnd_eq he
  split at he
  · rename_i xs hk
    split at he
    · rename_i hl
      cases he
      obtain ⟨w1, s1, l1, t1⟩ := s.freeze fz
      have hko : ∃ ys a vs, σ[i]? = some (some (.ref a)) ∧ H a = some (.lst vs) ∧ a ∉ w1.st ∧ ys = xs := by
        unfold keepF at hk
        split at hk
        · obtain ⟨ov, k1, a, vs, rfl, k3, _, k5, _⟩ := s1.rel.at_ i _ hk
          exact ⟨xs, a, vs, k1, k3, k5, rfl⟩
        · split at hk
          · obtain ⟨ov, k1, a, vs, rfl, k3, _, k5, _⟩ := s.rel.at_ i _ hk
            exact ⟨xs, a, vs, k1, k3, by rw [t1]; exact k5, rfl⟩
          · obtain ⟨ov, k1, a, vs, rfl, k3, _, k5, _⟩ := s1.rel.at_ i _ hk
            exact ⟨xs, a, vs, k1, k3, k5, rfl⟩
      obtain ⟨_, a, vs, k1, k3, k5, rfl⟩ := hko
      refine ⟨.ref a, k1, .inl ⟨rfl, vs, .inl (.inl k3)⟩, w1, _, g, d, _, s1.ok, s1.rel, e1, fun w2 H2 v o2 x2 r2 => ?_⟩
      obtain ⟨w3, s3, r3, l3⟩ := s.back s1 l1 t1 o2 x2 r2
      obtain ⟨ov, m1, b, us, m2, m3, m4, m5, m6⟩ := s3.rel.at_ i _ hk
      rw [k1] at m1
      cases m1
      cases m2
      refine ⟨a, us, v, rfl, rfl, m3, by rw [← m6.len]; exact hl, ?_⟩
      exact q w3 σ _ (s3.change hk k1 (m6.app ⟨r3, trivial⟩)) l3
    · cases he
  · cases he
theorem ixN_len {xs : List D} {vs : List V} {K : Frag} {w : W} (q : Reps K w xs vs) (i : Int) : L2.ixN vs.length i = L2.ixN xs.length i := by rw [q.len]
theorem s_seti {x : Str} {e b : Expr} {i : Nat} {c ci : C} {p1 p2 pos : Pos} (fz : List Nat) (hx : PE X (.Name x p1) (tVar i)) (hi : PE X b (tQ X.K call ci)) (he : PE X e (tV X.K call c)) (hs : swapsWithSole [.Subscript (.Name x p1) b p2] e pos.line X.env = pure false)
    (hw : swappedStores [.Subscript (.Name x p1) b p2] e X.env = pure none) (hb : ∀ v, assign (.Subscript (.Name x p1) b p2) X.env v = (do
      let ov ← holding [v] (eval (.Name x p1) X.env)
      let iv ← holding [v, ov] (eval b X.env)
      standAt p2
      holding [v, ov, iv] (setItem ov iv v)
      release [v, ov, iv] [])) : PS X (.Assign [.Subscript (.Name x p1) b p2] e pos) (tS X.K call w0 H0 (.seti fz i ci c)) := by
  refine (ps_asg he (pg_sub hx hi set_list hb) hs hw rfl).imp fun D σ H ⟨w, ρ, g, r, g', s, he, q⟩ => ?_
  simp only [ex] at he
  obtain ⟨d, g1, e1, he⟩ := bnd_eq he
  obtain ⟨k, g2, e2, he⟩ := bnd_eq he
  split at he
  · rename_i xs kk hk
    split at he
    · rename_i j hj
      cases he
      obtain ⟨w1, s1, l1, t1⟩ := s.freeze fz
      refine ⟨w1, _, g, d, _, s1.ok, s1.rel, e1, fun w2 H2 v o2 x2 r2 => ?_⟩
      obtain ⟨w3, s3, r3, l3⟩ := s.back s1 l1 t1 o2 x2 r2
      obtain ⟨ov, m1, a, us, rfl, m3, m4, m5, m6⟩ := s3.rel.at_ i _ hk
      refine ⟨.ref a, m1, w3, _, _, _, _, s3.ok, s3.rel, e2, fun w4 H4 u o4 x4 y4 => ?_⟩
      obtain ⟨n3, n4, n5⟩ := x4.stay m3 m4 m5
      refine ⟨a, us, kk, j, rfl, y4, n3, by rw [ixN_len m6]; exact hj, ?_⟩
      exact q w4 σ _ ((s3.go o4 x4).change hk m1 (Reps.set (r3.mono x4.le) j (m6.mono x4.le))) (l3.trans x4.le)
    · cases he
  · cases he

/-! ### loops -/
theorem s_whl {t : Expr} {b : List Stmt} {c : C} {sb : List S} {pos : Pos} (hp : PassesOwn (model X.prog X.w) X.A X.env X.xe) (ht : PT X t (tT X.K call c)) (hb : PSs X b (tSs X.K call w0 H0 sb)) : PS X (.While t b [] pos) (tS X.K call w0 H0 (.whl c sb)) :=
  (ps_while hp ht hb).imp fun D σ H ⟨w, ρ, g, r, g', s, he, q⟩ => by
    simp only [ex] at he
    refine ⟨fun m σ H => ∃ w2 ρ2 g2, Sit X.K w0 H0 w2 H g2 ρ2 σ ∧ Le w w2 ∧ whlL (fun ρ g => ev call c ρ g) (fun ρ g => exs call sb ρ g) m ρ2 g2 = some (r, g'), ⟨FUEL, w, ρ, g, s, Le.refl w, he⟩, ?_⟩
    rintro m σ2 H2 ⟨w2, ρ2, g2, s2, l2, he⟩
    cases m with
    | zero => simp only [whlL] at he; cases he
    | succ m =>
      simp only [whlL] at he
      obtain ⟨x, g3, e1, he⟩ := bnd_eq he
      split at he
      · rename_i et
        obtain ⟨r1, g4, e2, he⟩ := bnd_eq he
        refine ⟨w2, ρ2, g2, x, true, g3, s2.ok, s2.rel, e1, et, fun w3 H3 o3 x3 => iteT ⟨fun σ' H' => ∃ w2 ρ2 g2, Sit X.K w0 H0 w2 H' g2 ρ2 σ' ∧ Le w w2 ∧ whlL (fun ρ g => ev call c ρ g) (fun ρ g => exs call sb ρ g) m ρ2 g2 = some (r, g'), fun σ' H' h => ⟨m, Nat.lt_succ_self m, h⟩, w3, ρ2, g3, r1, g4, s2.go o3 x3, e2, ?_⟩⟩
        have l3 : Le w w3 := l2.trans x3.le
        cases r1 with
        | nx ρ3 => exact fun w4 σ4 H4 s4 l4 => ⟨w4, ρ3, g4, s4, l3.trans l4, he⟩
        | ct ρ3 => exact fun w4 σ4 H4 s4 l4 => ⟨w4, ρ3, g4, s4, l3.trans l4, he⟩
        | bk ρ3 => cases he; exact fun w4 σ4 H4 s4 l4 => q w4 σ4 H4 s4 (l3.trans l4)
        | rt d => cases he; exact q
      · rename_i et
        cases he
        exact ⟨w2, ρ2, g2, x, false, _, s2.ok, s2.rel, e1, et, fun w3 H3 o3 x3 => iteF (q w3 σ2 H3 (s2.go o3 x3) (l2.trans x3.le))⟩
      · cases he
theorem s_for {tg iter : Expr} {b : List Stmt} {gt : G} {c : C} {sb : List S} {pos : Pos} (fz : List Nat) (hp : PassesOwn (model X.prog X.w) X.A X.env X.xe) (hc : X.calm = true) (hi : PI X tg iter (tI X.K call c)) (hg : PG X tg (tGt X.K gt)) (hb : PSs X b (tSs X.K call w0 H0 sb))
    (hs : ∀ x, foldedSetIterable iter X.env x = pure x) : PS X (.For tg iter b [] pos) (tS X.K call w0 H0 (.for fz gt c sb)) :=
  (ps_for hp hc hi hg hb hs).imp fun D σ H ⟨w, ρ, g, r, g', s, he, q⟩ => by
    simp only [ex] at he
    obtain ⟨z, g1, e1, he⟩ := bnd_eq he
    split at he
    · rename_i xs e2
      obtain ⟨w1, s1, l1, t1⟩ := s.freeze fz
      refine ⟨w1, _, g, z, xs, g1, s1.ok, s1.rel, e1, e2, fun w2 H2 J o2 x2 wk => ?_⟩
      refine ⟨fun i m σ H => ∃ w3 ρ3 g3, Sit X.K w0 H0 w3 H g3 ρ3 σ ∧ Le w2 w3 ∧ forL (fun x ρ g => match Tv.asg gt x ρ with
        | some ρ' => exs call sb ρ' g
        | none => none) (xs.drop i) ρ3 g3 = some (r, g') ∧ m = xs.length - i ∧ i ≤ xs.length, ⟨_, w2, _, g1, s1.go o2 x2, Le.refl w2, by rw [List.drop_zero]; exact he, rfl, Nat.zero_le _⟩, ?_⟩
      rintro i m σ3 H3 ⟨w3, ρ3, g3, s3, l3, he, rfl, hi⟩
      have lw : Le w w3 := l1.trans (x2.le.trans l3)
      by_cases hlt : i < xs.length
      · rw [List.drop_eq_getElem_cons hlt] at he
        simp only [forL] at he
        obtain ⟨r1, g4, e4, he⟩ := bnd_eq he
        have wk2 := (wk w3 H3 g3 s3.ok l3).1 i xs[i] (List.getElem?_eq_getElem hlt)
        refine .inr ⟨wk2.1, fun σ' H' => ∃ m', m' < xs.length - i ∧ ∃ w3 ρ3 g3, Sit X.K w0 H0 w3 H' g3 ρ3 σ' ∧ Le w2 w3 ∧ forL (fun x ρ g => match Tv.asg gt x ρ with
          | some ρ' => exs call sb ρ' g
          | none => none) (xs.drop (i + 1)) ρ3 g3 = some (r, g') ∧ m' = xs.length - (i + 1) ∧ i + 1 ≤ xs.length, fun σ' H' h => h, fun v H4 hy => ?_⟩
        obtain ⟨w4, o4, x4, rv⟩ := wk2.2 v H4 hy
        split at e4
        · rename_i ρ' ea
          have s4 := s3.go o4 x4
          refine ⟨w4, ρ3, g3, xs[i], ρ', o4, s4.rel, rv, ea, fun σ5 r5 b5 => ⟨w4, ρ', g3, r1, g4, s4.asg ea r5 b5, e4, ?_⟩⟩
          have l4 : Le w2 w4 := l3.trans x4.le
          cases r1 with
          | nx ρ5 => exact fun w6 σ6 H6 s6 l6 => ⟨_, by omega, w6, ρ5, g4, s6, l4.trans l6, he, rfl, hlt⟩
          | ct ρ5 => exact fun w6 σ6 H6 s6 l6 => ⟨_, by omega, w6, ρ5, g4, s6, l4.trans l6, he, rfl, hlt⟩
          | bk ρ5 => cases he; exact fun w6 σ6 H6 s6 l6 => q w6 σ6 H6 s6 (lw.trans (x4.le.trans l6))
          | rt d => cases he; exact q
        · cases e4
      · have ei : i = xs.length := by omega
        subst ei
        rw [List.drop_length] at he
        simp only [forL] at he
        cases he
        exact .inl ⟨(wk w3 H3 _ s3.ok l3).2, q w3 σ3 H3 s3 lw⟩
    · cases he
end
end Tv

/-! Tv7i: xs.insert(i, x). -/
namespace Tv
open PySem L2
section
variable {X : Cx} {call : Calls} {w0 : W} {H0 : Hp}
theorem s_ins {x : Str} {e1 e : Expr} {i : Nat} {c1 c : C} {p1 apos cpos pos : Pos} (fz : List Nat) (hx : PE X (.Name x p1) (tVar i)) (hi : PE X e1 (tV X.K call c1)) (he : PE X e (tV X.K call c)) (hline : (apos.endLine == cpos.line) = true) (hs : starEach [e1, e] X.env = [(false, eval e1 X.env), (false, eval e X.env)]) (hs2 : starEach [e] X.env = [(false, eval e X.env)])
    (hbase : attributeBase (.Name x p1) "insert" X.env (eval (.Name x p1) X.env) = eval (.Name x p1) X.env := by rfl) :
    PS X (.Expr (.Call (.Attribute (.Name x p1) "insert" apos) [e1, e] [] cpos) pos) (tS X.K call w0 H0 (.ins fz i c1 c)) := by
  refine (ps_expr (pe_bm PySem.F.plainAttrs_list PySem.F.slot_list_insert PySem.F.type_list_insert mt_insert hx (pa_cons hi (pa_cons he pa_nil (by rw [hs2]; rfl)) (by rw [hs, hs2])) hbase (by first | exact hs | (rw [hs]; rfl)) hline (by rw [hs, hs2]) (by rw [hs2]; rfl)) rfl).imp fun D σ H ⟨w, ρ, g, r, g', s, hev, q⟩ => ?_
  simp only [ex] at hev
  obtain ⟨k, g1, a1, hev⟩ := bnd_eq hev
  obtain ⟨d, g2, a2, hev⟩ := bnd_eq hev
  split at hev
  · rename_i xs kk hk _
    split at hev
    · rename_i hl
      cases hev
      obtain ⟨w1, s1, l1, t1⟩ := s.freeze fz
      have hko : ∃ a vs, σ[i]? = some (some (.ref a)) ∧ H a = some (.lst vs) := by
        unfold keepF at hk
        split at hk
        · obtain ⟨ov, k1, a, vs, rfl, k3, _⟩ := s1.rel.at_ i _ hk
          exact ⟨a, vs, k1, k3⟩
        · split at hk
          · obtain ⟨ov, k1, a, vs, rfl, k3, _⟩ := s.rel.at_ i _ hk
            exact ⟨a, vs, k1, k3⟩
          · obtain ⟨ov, k1, a, vs, rfl, k3, _⟩ := s1.rel.at_ i _ hk
            exact ⟨a, vs, k1, k3⟩
      obtain ⟨a, vs, k1, k3⟩ := hko
      refine ⟨.ref a, k1, .inl ⟨rfl, vs, .inl (.inl k3)⟩, w1, _, g, .int kk, _, s1.ok, s1.rel, a1, fun w2 H2 v2 o2 x2 r2 => ⟨w2, _, g1, d, _, o2, (s1.go o2 x2).rel, a2, fun w3 H3 v o3 x3 r3 => ?_⟩⟩
      obtain ⟨w4, s4, r4, l4⟩ := s.back s1 l1 t1 o3 (x2.trans x3) r3
      obtain ⟨ov, m1, b, us, m2, m3, m4, m5, m6⟩ := s4.rel.at_ i _ hk
      rw [k1] at m1
      cases m1
      cases m2
      refine ⟨a, us, kk, v, rfl, by rw [show v2 = .int _ from r2], m3, by rw [← m6.len]; exact hl.1, hl.2.1, hl.2.2, ?_⟩
      exact q w4 σ _ (s4.change hk k1 (((m6.take kk.toNat).app (es := [d]) (us := [v]) ⟨r4, trivial⟩).app (m6.drop kk.toNat))) l4
    · cases hev
  · cases hev
/-- one store into a place -/
theorem put_step {i : Nat} {ix : C} {k d : D} {v : V} {w : W} {H : Hp} {g g' : GS} {ρ ρ' : Env} {σ : L2.St} {Q : L2.St → Hp → Prop} (s : Sit X.K w0 H0 w H g ρ σ) (e : ev call ix ρ g = some (k, g')) (hp : put1 ρ i k d = some ρ') (r : Rep X.K w d v) (q : ∀ w' H', Sit X.K w0 H0 w' H' g' ρ' σ → Le w w' → Q σ H') : gSub (tVar i) (tQ X.K call ix) rSetL v σ H Q := by
  unfold put1 at hp
  split at hp
  · rename_i xs kk hk
    split at hp
    · rename_i j hj
      cases hp
      obtain ⟨ov, m1, a, us, rfl, m3, m4, m5, m6⟩ := s.rel.at_ i _ hk
      refine ⟨.ref a, m1, w, _, _, _, _, s.ok, s.rel, e, fun w4 H4 u o4 x4 y4 => ?_⟩
      obtain ⟨n3, n4, n5⟩ := x4.stay m3 m4 m5
      refine ⟨a, us, kk, j, rfl, y4, n3, by rw [ixN_len m6]; exact hj, ?_⟩
      exact q w4 _ ((s.go o4 x4).change hk m1 (Reps.set (r.mono x4.le) j (m6.mono x4.le))) x4.le
    · cases hp
  · cases hp
theorem s_seti2 {x y : Str} {e b b' : Expr} {i j kk : Nat} {c ci cj : C} {p1 p2 p3 p4 p5 pos : Pos} (fz : List Nat) (hc : X.calm = true) (hx : PE X (.Name x p1) (tVar i)) (hi : PE X b (tQ X.K call ci)) (hy : PE X (.Name y p3) (tVar j)) (hj : PE X b' (tQ X.K call cj)) (he : PE X e (tV X.K call c))
    (hs : swapsWithSole [.Tuple [.Subscript (.Name x p1) b p2, .Subscript (.Name y p3) b' p4] kk p5] e pos.line X.env = pure false) (hw : swappedStores [.Tuple [.Subscript (.Name x p1) b p2, .Subscript (.Name y p3) b' p4] kk p5] e X.env = pure none)
    (hb : ∀ v, assign (.Subscript (.Name x p1) b p2) X.env v = (do
      let ov ← holding [v] (eval (.Name x p1) X.env); let iv ← holding [v, ov] (eval b X.env)
      standAt p2; holding [v, ov, iv] (setItem ov iv v); release [v, ov, iv] []))
    (hb' : ∀ v, assign (.Subscript (.Name y p3) b' p4) X.env v = (do
      let ov ← holding [v] (eval (.Name y p3) X.env); let iv ← holding [v, ov] (eval b' X.env)
      standAt p4; holding [v, ov, iv] (setItem ov iv v); release [v, ov, iv] [])) :
    PS X (.Assign [.Tuple [.Subscript (.Name x p1) b p2, .Subscript (.Name y p3) b' p4] kk p5] e pos) (tS X.K call w0 H0 (.seti2 fz i ci j cj c)) := by
  refine (ps_asg he (pg_tup (n := 2) hc (pgs_cons (pg_sub hx hi set_list hb) (pgs_cons (pg_sub hy hj set_list hb') pgs_nil (by rfl)) (by rfl)) (by rfl) (by rfl)) hs hw rfl).imp fun D σ H ⟨w, ρ, g, r, g', s, hev, q⟩ => ?_
  simp only [ex] at hev
  obtain ⟨d, g1, e1, hev⟩ := bnd_eq hev
  split at hev
  · rename_i d1 d2
    obtain ⟨k1, g2, e2, hev⟩ := bnd_eq hev
    split at hev
    · rename_i ρ1 h1
      obtain ⟨k2, g3, e3, hev⟩ := bnd_eq hev
      split at hev
      · rename_i ρ2 h2
        cases hev
        obtain ⟨w1, s1, l1, t1⟩ := s.freeze fz
        refine ⟨w1, _, g, _, _, s1.ok, s1.rel, e1, fun w2 H2 v o2 x2 r2 => ?_⟩
        obtain ⟨w3, s3, r3, l3⟩ := s.back s1 l1 t1 o2 x2 r2
        obtain ⟨a, us, rfl, u1, u2⟩ := r3
        match us, u2 with
        | [v1, v2], u2 =>
          refine ⟨a, [v1, v2], rfl, SqT.same s3.ok.same u1, rfl, v1, [v2], rfl, ?_⟩
          refine put_step s3 e2 h1 u2.1 fun w4 H4 s4 l4 => ⟨v2, [], rfl, ?_⟩
          refine put_step s4 e3 h2 (u2.2.1.mono l4) fun w5 H5 s5 l5 => ⟨rfl, ?_⟩
          exact q w5 σ H5 s5 ((l3.trans l4).trans l5)
      · cases hev
    · cases hev
  · cases hev
end
end Tv

/-! Tv8: from the text's expressions to the small syntax, and that this is sound. -/
namespace Tv
open PySem L2
structure Ctx where
  N : List Str
  sc : Scope
  fnc : Str → Bool
  gl : List (Str × D)
  fns : List (Str × Nat)
  bi : List Str
  gcd : List Str
  own : List Nat
def ixOf (x : Str) : List Str → Option Nat
  | [] => none
  | y :: r => if x = y then some 0 else (ixOf x r).map (· + 1)
theorem ixOf_get {x : Str} : ∀ {l : List Str} {i : Nat}, ixOf x l = some i → l[i]? = some x
  | [], _, h => by cases h
  | y :: r, i, h => by
    unfold ixOf at h
    split at h
    · rename_i e
      cases h; rw [e]; rfl
    · rw [Option.map_eq_some_iff] at h
      obtain ⟨j, h1, rfl⟩ := h
      have h2 := ixOf_get (l := r) h1
      rw [List.getElem?_cons_succ]; exact h2
def seen (c : Ctx) (x : Str) : Bool := match c.sc.names.lookup x with
  | some .local => true
  | some .cell => true
  | some .free => true
  | _ => false
def slot (c : Ctx) (x : Str) : Option Nat := if seen c x = true ∧ (x == ("__debug__" : Str)) = false ∧ (x == ("__classdict__" : Str)) = false then ixOf x c.N else none
def stored (c : Ctx) (x : Str) : Option Nat := if c.sc.names.lookup x = some .local ∨ (c.sc.names.lookup x = some .cell ∧ c.fnc x = true) then ixOf x c.N else none
def glob (c : Ctx) (x : Str) : Bool := decide (c.sc.names.lookup x = some .globalImplicit) && !(x == ("__debug__" : Str))
def isB (c : Ctx) (x : Str) : Bool := glob c x && c.bi.contains x

def mathId (x : Str) : String := if x = "gcd" then "math.gcd" else "math.isqrt"
structure Good (call : Calls) (c : Ctx) (X : Cx) : Prop where
  calm : X.calm = true
  N : X.N = c.N
  nd : c.N.Nodup
  sc : X.env.scope = c.sc
  kind : c.sc.kind = .function
  fn : ∀ x, c.fnc x = true → X.fn x = true
  gl : ∀ x d, c.gl.lookup x = some d → ∃ v u, X.mg x = some u ∧ RelV v u ∧ ∀ w, Rep X.K w d v
  fns : ∀ x f, c.fns.lookup x = some f → CallOk X call f x
  bi : ∀ x, c.bi.contains x = true → X.mg x = none
  gcd : ∀ x, c.gcd.contains x = true → X.mg x = some (.builtin (mathId x))
  un : X.A.units + 65 < cLine
  never : X.xe = fun _ _ => False

section
variable {X : Cx} {call : Calls} {c : Ctx}
theorem Good.vis {x : Str} (G : Good call c X) (h : seen c x = true) : Vis X.env.scope x := by
  unfold seen at h
  rw [G.sc]
  split at h
  · exact .inl (by assumption)
  · exact .inr (.inl (by assumption))
  · exact .inr (.inr (by assumption))
  · cases h
theorem Good.var {x : Str} {i : Nat} {pos : Pos} (G : Good call c X) (h : slot c x = some i) : PE X (.Name x pos) (tVar i) := by
  unfold slot at h
  split at h
  · rename_i k
    exact pe_var (by rw [G.N]; exact ixOf_get h) (G.vis k.1) k.2.1 k.2.2
  · cases h
theorem Good.store {x : Str} {i : Nat} {pos : Pos} (G : Good call c X) (h : stored c x = some i) : PG X (.Name x pos) (gName i) := by
  unfold stored at h
  split at h
  · rename_i k
    have hN : X.N.Nodup := by rw [G.N]; exact G.nd
    rcases k with k | ⟨k, k2⟩
    · exact pg_name hN (by rw [G.N]; exact ixOf_get h) (by rw [G.sc]; exact .inl k) (.inr (by rw [G.sc]; exact k))
    · exact pg_name hN (by rw [G.N]; exact ixOf_get h) (by rw [G.sc]; exact .inr k) (.inl (G.fn x k2))
  · cases h
theorem Good.gl_ {x : Str} (G : Good call c X) (h : glob c x = true) : Gl X x ∧ (x == ("__debug__" : Str)) = false := by
  unfold glob at h
  simp only [Bool.and_eq_true, decide_eq_true_eq, Bool.not_eq_true'] at h
  exact ⟨by show X.env.scope.names.lookup x = _; rw [G.sc]; exact h.1, h.2⟩
theorem Good.b {x : Str} (G : Good call c X) (h : isB c x = true) : Gl X x ∧ X.mg x = none := by
  unfold isB at h
  simp only [Bool.and_eq_true] at h
  exact ⟨(G.gl_ h.1).1, G.bi x h.2⟩
/-- a comprehension's block -/
def Ctx.blk (c : Ctx) (scope : Scope) : Ctx := { c with sc := relS scope c.sc, fnc := fun x => scope.names.lookup x == some .cell }
theorem Good.blk {scope : Scope} (G : Good call c X) (hk : scope.kind = .function) (s : Shared) (H : Hp) (C : Addr) (cl : List (Str × Addr)) (fp : List Addr) : Good call (c.blk scope) (X.blk s H scope (compEnvC scope cl C X.env) fp) where
  calm := G.calm
  N := G.N
  nd := G.nd
  sc := by
    show relS scope X.env.scope = relS scope c.sc
    rw [G.sc]
  kind := hk
  fn := fun x h => h
  gl := G.gl
  fns := fun x f h => ⟨(G.fns x f h).ex⟩
  bi := G.bi
  gcd := G.gcd
  un := G.un
  never := rfl
end

/-! ### what the syntax asks -/
def notStar : Expr → Bool
  | .Starred _ _ => false
  | _ => true
theorem star_cons {e : Expr} {es : List Expr} {env : PySem.Env} (h : notStar e = true) : starEach (e :: es) env = (false, eval e env) :: starEach es env := by
  cases e <;> first | rfl | cases h
theorem star_all {env : PySem.Env} {pos : Pos} : ∀ {es : List Expr}, es.all notStar = true → (backTo pos (starEach es env)).any (·.1) = false
  | [], _ => rfl
  | e :: es, h => by
    simp only [List.all_cons, Bool.and_eq_true] at h
    rw [star_cons h.1]
    show (false || (backTo pos (starEach es env)).any (·.1)) = false
    rw [star_all h.2]; rfl
def plainT : Expr → Bool
  | .UnaryOp .Not _ _ => false
  | .BoolOp _ _ _ => false
  | .IfExp _ _ _ _ => false
  | .Compare _ _ _ _ => false
  | _ => true
theorem plain_true {e : Expr} {env : PySem.Env} (h : plainT e = true) : ∀ whole, isTrue e env whole = (do let v ← whole; standAt e.pos; holding [v] (truthy v)) := by
  intro whole
  cases e with
  | UnaryOp op a pos => cases op <;> first | rfl | cases h
  | BoolOp _ _ _ => cases h
  | IfExp _ _ _ _ => cases h
  | Compare _ _ _ _ => cases h
  | _ => rfl
def noSet : Expr → Bool
  | .Set _ _ _ => false
  | _ => true
theorem set_pure {e : Expr} {env : PySem.Env} (h : noSet e = true) : ∀ x, foldedSetIterable e env x = pure x := by
  intro x
  cases e <;> first | rfl | cases h
theorem behind_no {op : CmpOp} {e : Expr} (h : noSet e = true) : behindInMarks op e = false := by
  cases e <;> first | rfl | cases h
def noSlice : Expr → Bool
  | .Slice _ _ _ _ => false
  | _ => true
theorem plain_ix {e : Expr} (h : noSlice e = true) : PlainIx e := by
  intro o i
  cases e <;> first | rfl | cases h
def noComp : Expr → Bool
  | .ListComp _ _ _ _ => false
  | .SetComp _ _ _ _ => false
  | .DictComp _ _ _ _ _ => false
  | _ => true
theorem swaps_no {e : Expr} {t : Option Expr} {l : Nat} {env : PySem.Env} (h : noComp e = true) : swapsWith e t l env = pure false := by
  cases e <;> first | rfl | cases h

/-! ### from the text -/
def constD : Const → Option D
  | .none => some .non
  | .bool b => some (.bl b)
  | .int i => some (.int i)
  | .str x => some (.str x)
  | _ => none
def opC : Operator → Option Op
  | .Add => some .add
  | .Sub => some .sub
  | .Mult => some .mul
  | .FloorDiv => some .fdiv
  | .Mod => some .mod
  | .Pow => some .pow
  | .LShift => some .shl
  | .RShift => some .shr
  | .BitAnd => some .band
  | .BitXor => some .bxor
  | _ => none
def cmpC : CmpOp → Option Cp
  | .Eq => some .eq
  | .NotEq => some .ne
  | .Lt => some .lt
  | .LtE => some .le
  | .Gt => some .gt
  | .GtE => some .ge
  | .Is => some .isn
  | .IsNot => some .nisn
  | .In => some .isin
  | .NotIn => some .notin
def cmpR : CmpOp → Option Cp
  | .Lt => some .lt
  | .LtE => some .le
  | _ => none
structure K3 where
  V : Expr → Option C
  F : Expr → Option C
  T : Expr → Option C
abbrev CE := Expr → Option C
def cQ (v : CE) (c : Ctx) (e : Expr) : Option C := match e with
  | .Name x _ => match slot c x with
    | some i => some (.bvar i)
    | none => v e
  | _ => v e
def cAs (v : CE) : List Expr → Option (List C)
  | [] => some []
  | e :: es => if notStar e = true then (match v e, cAs v es with
    | some a, some r => some (a :: r)
    | _, _ => none) else none
/-- and, or -/
def cB (v : CE) (f : C → C → C) : List Expr → Option C
  | [] => none
  | [e] => v e
  | e :: es => match v e, cB v f es with
    | some a, some b => some (f a b)
    | _, _ => none
def o2 (f : C → C → C) (a b : Option C) : Option C := match a, b with
  | some a, some b => some (f a b)
  | _, _ => none
def o3 (f : C → C → C → C) (a b d : Option C) : Option C := match a, b, d with
  | some a, some b, some d => some (f a b d)
  | _, _, _ => none
def cPart (v : CE) (c : Ctx) : Option Expr → Option C
  | none => some .nop
  | some e => match cQ v c e with
    | some z => if isNop z = true then none else some z
    | none => none
def cBi (v : CE) (c : Ctx) (x : Str) (es : List Expr) : Option C :=
  if isB c x = true ∧ es.isEmpty = false then
    match cAs (cQ v c) es with
    | some cs =>
      if x = "len" then some (.bi .len cs)
      else if x = "abs" then some (.bi .abs cs)
      else if x = "int" then some (.bi .int cs)
      else if x = "sum" then some (.bi .sum cs)
      else if x = "tuple" then some (.bi .tuple cs)
      else if x = "all" then some (.bi .all cs)
      else if x = "any" then some (.bi .any cs)
      else if x = "max" then (if cs.length = 1 then some (.bi .max cs) else some (.bi .max2 cs))
      else if x = "min" then (if cs.length = 1 then some (.bi .min cs) else some (.bi .min2 cs))
      else none
    | none => none
  else none
/-- len(set(xs)) -/
def cLS (v : CE) (c : Ctx) (x : Str) (es : List Expr) : Option C := match es with
  | [.Call (.Name y _) [a] [] _] => if x = "len" ∧ y = "set" ∧ isB c "len" = true ∧ isB c "set" = true ∧ notStar a = true then (cQ v c a).map (fun z => .bi .set [z]) else none
  | _ => none
/-- a range that is made a row -/
def cRg (v : CE) (c : Ctx) (es : List Expr) : Option (List C) := match es with
  | [.Call (.Name y _) [a] [] _] => if y = "range" ∧ isB c "range" = true ∧ notStar a = true then match cQ v c a with
      | some z => some [z]
      | none => none
    else none
  | [.Call (.Name y _) [a, b] [] _] => if y = "range" ∧ isB c "range" = true ∧ notStar a = true ∧ notStar b = true then match cQ v c a, cQ v c b with
      | some z, some u => some [z, u]
      | _, _ => none
    else none
  | _ => none
def cRg3 (v : CE) (c : Ctx) (es : List Expr) : Option (List C) := match es with
  | [.Call (.Name y _) [a, b, d] [] _] => if y = "range" ∧ isB c "range" = true ∧ notStar a = true ∧ notStar b = true ∧ notStar d = true then match cQ v c a, cQ v c b, cQ v c d with
      | some z, some u, some t => some [z, u, t]
      | _, _, _ => none
    else none
  | _ => none
def cBiF (v : CE) (c : Ctx) (x : Str) (es : List Expr) : Option C :=
  if isB c x = true ∧ es.isEmpty = false then
    match cAs (cQ v c) es with
    | some cs =>
      if x = "list" then some (.bi .list cs)
      else if x = "sorted" then some (.bi .sorted cs)
      else none
    | none => none
  else none
/-- a chain of two, the middle a name -/
def cChain (v : CE) (c : Ctx) (a b d : Expr) (op op2 : CmpOp) : Option C := match b with
  | .Name x _ => match cmpR op, cmpR op2, slot c x, cQ v c a, cQ v c d with
    | some p1, some p2, some i, some ca, some cd => if noSet d = true then some (.and (.cmp p1 ca (.bvar i)) (.cmp p2 (.bvar i) cd)) else none
    | _, _, _, _, _ => none
  | _ => none
def tyIx (y : Str) : Option Nat := if y = "int" then some 0 else if y = "bool" then some 1 else if y = "str" then some 3 else if y = "tuple" then some 4 else if y = "list" then some 5 else none
def cIsi (v : CE) (c : Ctx) (x : Str) (es : List Expr) : Option C := match es with
  | [e, .Name y _] => if isB c x = true ∧ isB c y = true ∧ notStar e = true then match tyIx y, cQ v c e with
    | some j, some z => some (.bi (.isin [j]) [z])
    | _, _ => none
    else none
  | [e, .Tuple [.Name y _, .Name y2 _] _ _] => if isB c x = true ∧ isB c y = true ∧ isB c y2 = true ∧ notStar e = true then match tyIx y, tyIx y2, cQ v c e with
    | some j, some l, some z => some (.bi (.isin [j, l]) [z])
    | _, _, _ => none
    else none
  | _ => none
def cG : Nat → Ctx → Expr → Option G
  | 0, _, _ => none
  | n + 1, c, e => match e with
    | .Name x _ => (stored c x).map .var
    | .Tuple es _ _ => (es.mapM (cG n c)).map .tup
    | _ => none
def isTup : Expr → Bool
  | .Tuple _ _ _ => true
  | _ => false
/-- what is walked -/
def cI (v : CE) (c : Ctx) (tg e : Expr) : Option C := match e with
  | .Call (.Name x _) [a] [] _ =>
    if isB c x = true ∧ x = "range" ∧ notStar a = true then (cQ v c a).map fun a => .bi .range1 [a]
    else if isB c x = true ∧ x = "enumerate" ∧ isTup tg = true ∧ notStar a = true then (v a).map fun a => .bi .enum [a]
    else if isB c x = true ∧ x = "reversed" ∧ notStar a = true then (v a).map fun a => .bi .rev [a]
    else v e
  | .Call (.Name x _) [a, b] [] _ =>
    if isB c x = true ∧ x = "range" ∧ notStar a = true ∧ notStar b = true then o2 (fun a b => .bi .range2 [a, b]) (cQ v c a) (cQ v c b)
    else if isB c x = true ∧ x = "zip" ∧ isTup tg = true ∧ notStar a = true ∧ notStar b = true then o2 (fun a b => .bi .zip [a, b]) (v a) (v b)
    else v e
  | .Call (.Name x _) [a, b, d] [] _ =>
    if isB c x = true ∧ x = "range" ∧ notStar a = true ∧ notStar b = true ∧ notStar d = true then match cQ v c a, cQ v c b, cQ v c d with
      | some a, some b, some d => some (.bi .range3 [a, b, d])
      | _, _, _ => none
    else v e
  | _ => v e
def cIQ (v : CE) (c : Ctx) (tg e : Expr) : Option C := match e with
  | .Name x _ => cQ v c e
  | _ => cI v c tg e
def ownOf (N : List Str) (scope : Scope) : List (Str × Nat) := scope.names.filterMap fun p => if p.2 = .local ∨ p.2 = .cell then (ixOf p.1 N).map fun i => (p.1, i) else none
def cIfs (t : CE) : List Expr → Option C
  | [] => some (.lit (.bl true))
  | [e] => t e
  | _ => none
def cComp (r : Ctx → K3) (n : Nat) (c : Ctx) (elt : Expr) (gens : List Comprehension) (scope : Scope) : Option C := match gens with
  | [⟨tg, iter, ifs, z⟩] =>
    let own := ownOf c.N scope
    let c' := c.blk scope
    if z = 0 ∧ blkC c.N c.sc scope own = true ∧ noSet iter = true then
      match cIQ (r c).V c tg iter, cG n c' tg, cIfs (r c').T ifs, (r c').V elt with
      | some it, some g, some cond, some el => if (gvars g).all (fun i => (own.map (·.2)).contains i) = true then some (.comp (own.map (·.2)) g it cond el) else none
      | _, _, _, _ => none
    else none
  | [⟨tg, iter, ifs, z⟩, ⟨tg1, iter1, ifs1, z1⟩] =>
    let own := ownOf c.N scope
    let c' := c.blk scope
    if z = 0 ∧ z1 = 0 ∧ blkC c.N c.sc scope own = true ∧ noSet iter = true ∧ noSet iter1 = true then
      match cIQ (r c).V c tg iter, cG n c' tg, cIfs (r c').T ifs with
      | some it, some g, some cond => match cI (r c').V c' tg1 iter1, cG n c' tg1, cIfs (r c').T ifs1, (r c').V elt with
        | some it1, some g1, some cond1, some el => if (gvars g).all (fun i => (own.map (·.2)).contains i) = true ∧ (gvars g1).all (fun i => (own.map (·.2)).contains i) = true then some (.comp2 (own.map (·.2)) (gvars g1) g it cond g1 it1 cond1 el) else none
        | _, _, _, _ => none
      | _, _, _ => none
    else none
  | _ => none
/-- what gives a list, always -/
def givesL : C → Bool
  | .lst _ => true
  | .comp _ _ _ _ _ => true
  | .comp2 _ _ _ _ _ _ _ _ _ => true
  | .bi .list _ => true
  | .bi .sorted _ => true
  | .bi .lrng _ => true
  | _ => false
def cL (o : Option C) : Option C := match o with
  | some z => if givesL z = true then some z else none
  | none => none
def cV (r : Ctx → K3) (n : Nat) (c : Ctx) (e : Expr) : Option C := match e with
  | .Constant k _ _ => (constD k).map .lit
  | .Name x _ => match slot c x with
    | some i => some (.var i)
    | none => if glob c x = true then (c.gl.lookup x).map .lit else none
  | .Tuple es _ _ => match cAs (r c).V es with
    | some cs => if cs.length ≤ sizeLine then some (.tup cs) else none
    | none => none
  | .List _ _ => cL ((r c).F e)
  | .ListComp _ _ _ _ => cL ((r c).F e)
  | .BinOp a op b _ => match opC op with
    | some op' => o2 (.bin op') (cQ (r c).V c a) (cQ (r c).V c b)
    | none => none
  | .UnaryOp .USub a _ => (cQ (r c).V c a).map .neg
  | .UnaryOp .Not a _ => (cQ (r c).V c a).map .not
  | .Compare a [op] [b] _ => match cmpC op with
    | some op' => if noSet b = true then o2 (.cmp op') (cQ (r c).V c a) (cQ (r c).V c b) else none
    | none => none
  | .Compare a [op, op2] [b, d] _ => cChain (r c).V c a b d op op2
  | .BoolOp .And es _ => cB (r c).V .and es
  | .BoolOp .Or es _ => cB (r c).V .or es
  | .IfExp t a b _ => o3 .ite ((r c).T t) ((r c).V a) ((r c).V b)
  | .Subscript a b _ => if noSlice b = true then o2 .idx (cQ (r c).V c a) (cQ (r c).V c b) else match b with
    | .Slice lo hi none _ => o3 .cut (cQ (r c).V c a) (cPart (r c).V c lo) (cPart (r c).V c hi)
    | .Slice none none (some (.UnaryOp .USub (.Constant (.int 1) _ _) _)) _ => (cQ (r c).V c a).map .back
    | _ => none
  | .Call (.Name x _) es [] _ => match c.fns.lookup x with
    | some f => if glob c x = true then (cAs (r c).V es).map (.call f) else none
    | none => if x = "gcd" ∧ c.gcd.contains x = true ∧ glob c x = true ∧ es.isEmpty = false then (cAs (cQ (r c).V c) es).map (.bi .gcd) else
      if x = "isqrt" ∧ c.gcd.contains x = true ∧ glob c x = true ∧ es.isEmpty = false then (cAs (cQ (r c).V c) es).map (.bi .isqrt) else
      if x = "isinstance" then cIsi (r c).V c x es else
      match cLS (r c).V c x es with
      | some z => some z
      | none => match (if x = "tuple" ∧ isB c "tuple" = true then cRg (r c).V c es else none) with
        | some cs => some (.bi .trng cs)
        | none => match (if x = "tuple" ∧ isB c "tuple" = true then cRg3 (r c).V c es else none) with
          | some cs => some (.bi .trng3 cs)
          | none => match cBi (r c).V c x es with
            | some z => some z
            | none => cL ((r c).F e)
  | _ => none
def cF (r : Ctx → K3) (n : Nat) (c : Ctx) (e : Expr) : Option C := match e with
  | .List es _ => match cAs (r c).V es with
    | some cs => if cs.length ≤ sizeLine then some (.lst cs) else none
    | none => none
  | .ListComp elt gens scope _ => cComp r n c elt gens scope
  | .BinOp a .Add b _ => o2 (.bin .add) (cQ (r c).V c a) (cQ (r c).V c b)
  | .BinOp a .Mult b _ => o2 (.bin .mul) (cQ (r c).V c a) (cQ (r c).V c b)
  | .IfExp t a b _ => o3 .ite ((r c).T t) ((r c).F a) ((r c).F b)
  | .Subscript a b _ => match b with
    | .Slice lo hi none _ => o3 .cut (cQ (r c).V c a) (cPart (r c).V c lo) (cPart (r c).V c hi)
    | .Slice none none (some (.UnaryOp .USub (.Constant (.int 1) _ _) _)) _ => (cQ (r c).V c a).map .back
    | _ => none
  | .Call (.Name x _) es [] _ => match (if x = "list" ∧ isB c "list" = true then cRg (r c).V c es else none) with
    | some cs => some (.bi .lrng cs)
    | none => cBiF (r c).V c x es
  | _ => none
def cT (r : Ctx → K3) (n : Nat) (c : Ctx) (e : Expr) : Option C := match e with
  | .UnaryOp .Not a _ => ((r c).T a).map .not
  | .BoolOp .And es _ => cB (r c).T .and es
  | .BoolOp .Or es _ => cB (r c).T .or es
  | .Compare a [op] [b] _ => match cmpC op with
    | some op' => if noSet b = true then o2 (.cmp op') (cQ (r c).V c a) (cQ (r c).V c b) else none
    | none => none
  | .Compare a [op, op2] [b, d] _ => cChain (r c).V c a b d op op2
  | e => if plainT e = true then cQ (r c).V c e else none
def cmpl : Nat → Ctx → K3
  | 0, _ => ⟨fun _ => none, fun _ => none, fun _ => none⟩
  | n + 1, c => ⟨cV (cmpl n) n c, cF (cmpl n) n c, cT (cmpl n) n c⟩
end Tv

/-! Tv9: the small syntax says what the text does: expressions. -/
namespace Tv
open PySem L2
structure Snd (call : Calls) (X : Cx) (r : K3) : Prop where
  V : ∀ e ce, r.V e = some ce → PE X e (tV X.K call ce)
  F : ∀ e ce, r.F e = some ce → PE X e (tF X.K call ce)
  T : ∀ e ce, r.T e = some ce → PT X e (tT X.K call ce)
section
variable {X : Cx} {call : Calls} {c : Ctx} {v : CE}
theorem cQ_snd (G : Good call c X) (S : ∀ e ce, v e = some ce → PE X e (tV X.K call ce)) {e : Expr} {ce : C} (h : cQ v c e = some ce) : PE X e (tQ X.K call ce) := by
  unfold cQ at h
  split at h
  · split at h
    · cases h
      exact q_bvar (G.var (by assumption))
    · exact q_of (S _ _ h)
  · exact q_of (S _ _ h)
theorem cAs_snd (S : ∀ e ce, v e = some ce → PE X e (tV X.K call ce)) : ∀ {es : List Expr} {cs : List C}, cAs v es = some cs → PA X es (tA X.K call cs) ∧ es.all notStar = true
  | [], _, h => by
    cases h
    exact ⟨a_nil, rfl⟩
  | e :: es, cs, h => by
    unfold cAs at h
    split at h
    · rename_i hn
      split at h
      · rename_i a r ha hr
        cases h
        obtain ⟨h1, h2⟩ := cAs_snd S hr
        exact ⟨a_cons (S _ _ ha) h1 (star_cons hn), by rw [List.all_cons, hn, h2]; rfl⟩
      · cases h
    · cases h
theorem cAsQ_snd (G : Good call c X) (S : ∀ e ce, v e = some ce → PE X e (tV X.K call ce)) : ∀ {es : List Expr} {cs : List C}, cAs (cQ v c) es = some cs → PA X es (tAQ X.K call cs) ∧ es.all notStar = true
  | [], _, h => by
    cases h
    exact ⟨aq_nil, rfl⟩
  | e :: es, cs, h => by
    unfold cAs at h
    split at h
    · rename_i hn
      split at h
      · rename_i a r ha hr
        cases h
        obtain ⟨h1, h2⟩ := cAsQ_snd G S hr
        exact ⟨aq_cons (cQ_snd G S ha) h1 (star_cons hn), by rw [List.all_cons, hn, h2]; rfl⟩
      · cases h
    · cases h
theorem cBandT {pos : Pos} (S : ∀ e ce, v e = some ce → PT X e (tT X.K call ce)) : ∀ {es : List Expr} {ce : C}, cB v .and es = some ce → PW X (.BoolOp .And es pos) (tT X.K call ce)
  | [], _, h => by cases h
  | [e], _, h => w_and1 (S _ _ h)
  | e :: b :: es, ce, h => by
    simp only [cB] at h
    split at h
    · rename_i x y hx hy
      cases h
      exact w_and (S _ _ hx) (cBandT S hy)
    · cases h
theorem cBorT {pos : Pos} (S : ∀ e ce, v e = some ce → PT X e (tT X.K call ce)) : ∀ {es : List Expr} {ce : C}, cB v .or es = some ce → PW X (.BoolOp .Or es pos) (tT X.K call ce)
  | [], _, h => by cases h
  | [e], _, h => w_or1 (S _ _ h)
  | e :: b :: es, ce, h => by
    simp only [cB] at h
    split at h
    · rename_i x y hx hy
      cases h
      exact w_or (S _ _ hx) (cBorT S hy)
    · cases h
theorem cBandV {pos : Pos} (S : ∀ e ce, v e = some ce → PE X e (tV X.K call ce)) : ∀ {es : List Expr} {ce : C}, cB v .and es = some ce → PE X (.BoolOp .And es pos) (tV X.K call ce)
  | [], _, h => by cases h
  | [e], _, h => v_one (S _ _ h)
  | e :: b :: es, ce, h => by
    simp only [cB] at h
    split at h
    · rename_i x y hx hy
      cases h
      exact v_and (S _ _ hx) (cBandV S hy)
    · cases h
theorem cBorV {pos : Pos} (S : ∀ e ce, v e = some ce → PE X e (tV X.K call ce)) : ∀ {es : List Expr} {ce : C}, cB v .or es = some ce → PE X (.BoolOp .Or es pos) (tV X.K call ce)
  | [], _, h => by cases h
  | [e], _, h => v_one (S _ _ h)
  | e :: b :: es, ce, h => by
    simp only [cB] at h
    split at h
    · rename_i x y hx hy
      cases h
      exact v_or (S _ _ hx) (cBorV S hy)
    · cases h
theorem o2_eq {f : C → C → C} {a b : Option C} {z : C} (h : o2 f a b = some z) : ∃ x y, a = some x ∧ b = some y ∧ z = f x y := by
  unfold o2 at h
  split at h
  · cases h; exact ⟨_, _, rfl, rfl, rfl⟩
  · cases h
theorem o3_eq {f : C → C → C → C} {a b d : Option C} {z : C} (h : o3 f a b d = some z) : ∃ x y t, a = some x ∧ b = some y ∧ d = some t ∧ z = f x y t := by
  unfold o3 at h
  split at h
  · cases h; exact ⟨_, _, _, rfl, rfl, rfl, rfl⟩
  · cases h
theorem cPart_snd (G : Good call c X) (S : ∀ e ce, v e = some ce → PE X e (tV X.K call ce)) {e : Option Expr} {ce : C} (h : cPart v c e = some ce) : PO X e (tP X.K call ce) := by
  unfold cPart at h
  split at h
  · cases h; exact o_none
  · split at h
    · rename_i z hz
      split at h
      · cases h
      · rename_i hn
        cases h
        exact o_some (cQ_snd G S hz) (by simpa using hn)
    · cases h
end
end Tv

/-! Tv10: the small syntax says what the text does: targets, walks, comprehensions, all expressions. -/
namespace Tv
open PySem L2
section
variable {X : Cx} {call : Calls} {c : Ctx} {v : CE}
/-! ### targets -/
theorem assignEach_cons {e : Expr} {es : List Expr} {env : PySem.Env} (h : notStar e = true) : assignEach (e :: es) env = (false, assign e env) :: assignEach es env := by
  cases e <;> first | rfl | cases h
theorem cG_star {n : Nat} {e : Expr} {g : G} (h : cG n c e = some g) : notStar e = true := by
  cases n with
  | zero => cases h
  | succ n =>
    simp only [cG] at h
    split at h <;> first | rfl | cases h
theorem cGs_snd {f : Expr → Option G} (hs : ∀ e g, f e = some g → PG X e (tGt X.K g) ∧ notStar e = true) : ∀ {es : List Expr} {gs : List G}, es.mapM f = some gs → PGs X es (tGts X.K gs) ∧ (assignEach es X.env).length = gs.length ∧ (assignEach es X.env).findIdx? (·.1) = none
  | [], gs, h => by
    simp only [List.mapM_nil] at h
    cases h
    exact ⟨g_nil, rfl, rfl⟩
  | e :: es, gs, h => by
    rw [List.mapM_cons] at h
    cases h1 : f e with
    | none => rw [h1] at h; cases h
    | some g =>
      cases h2 : es.mapM f with
      | none => rw [h1, h2] at h; cases h
      | some gs' =>
        rw [h1, h2] at h
        cases h
        obtain ⟨k1, k2⟩ := hs e g h1
        obtain ⟨m1, m2, m3⟩ := cGs_snd hs h2
        refine ⟨g_cons k1 m1 (by rw [assignEach_cons k2]; rfl), by rw [assignEach_cons k2]; simp [m2], ?_⟩
        rw [assignEach_cons k2, List.findIdx?_cons, m3]
        rfl
theorem cG_snd (G' : Good call c X) : ∀ (n : Nat) {e : Expr} {g : G}, cG n c e = some g → PG X e (tGt X.K g)
  | 0, _, _, h => by cases h
  | n + 1, e, g, h => by
    simp only [cG] at h
    split at h
    · rw [Option.map_eq_some_iff] at h
      obtain ⟨i, h1, rfl⟩ := h
      exact g_var (G'.store h1)
    · rw [Option.map_eq_some_iff] at h
      obtain ⟨gs, h1, rfl⟩ := h
      obtain ⟨k1, k2, k3⟩ := cGs_snd (fun e g hg => ⟨cG_snd G' n hg, cG_star hg⟩) h1
      exact g_tup G'.calm k1 k2 k3
    · cases h
/-! ### what is walked -/
theorem cI_snd (G : Good call c X) (S : ∀ e ce, v e = some ce → PE X e (tV X.K call ce)) {tg e : Expr} {ci : C} (h : cI v c tg e = some ci) : PI X tg e (tI X.K call ci) := by
  unfold cI at h
  split at h
  · split at h
    · rename_i k
      obtain ⟨k1, rfl, k3⟩ := k
      rw [Option.map_eq_some_iff] at h
      obtain ⟨a', h1, rfl⟩ := h
      exact i_range1 (G.b k1).1 (G.b k1).2 (aq_cons (cQ_snd G S h1) aq_nil (star_cons k3)) (star_cons k3)
    · split at h
      · rename_i k
        obtain ⟨k1, rfl, k3, k4⟩ := k
        rw [Option.map_eq_some_iff] at h
        obtain ⟨a', h1, rfl⟩ := h
        cases tg with
        | Tuple es kk tp => exact i_enum (G.b k1).1 (G.b k1).2 (a_cons (S _ _ h1) a_nil (star_cons k4)) (star_cons k4)
        | _ => cases k3
      · split at h
        · rename_i k
          obtain ⟨k1, rfl, k3⟩ := k
          rw [Option.map_eq_some_iff] at h
          obtain ⟨a', h1, rfl⟩ := h
          exact i_rev (G.b k1).1 (G.b k1).2 (S _ _ h1) (star_cons k3)
        · exact i_seq (S _ _ h)
  · split at h
    · rename_i k
      obtain ⟨k1, rfl, k3, k4⟩ := k
      obtain ⟨a', b', h1, h2, rfl⟩ := o2_eq h
      exact i_range2 (G.b k1).1 (G.b k1).2 (aq_cons (cQ_snd G S h1) (aq_cons (cQ_snd G S h2) aq_nil (star_cons k4)) (star_cons k3)) (by rw [star_cons k3, star_cons k4]; rfl) (star_cons k4)
    · split at h
      · rename_i k
        obtain ⟨k1, rfl, k3, k4, k5⟩ := k
        obtain ⟨a', b', h1, h2, rfl⟩ := o2_eq h
        cases tg with
        | Tuple es kk tp => exact i_zip (G.b k1).1 (G.b k1).2 (a_cons (S _ _ h1) (a_cons (S _ _ h2) a_nil (star_cons k5)) (star_cons k4)) (star_cons k4) (star_all (by simp [k5]))
        | _ => cases k3
      · exact i_seq (S _ _ h)
  · split at h
    · rename_i k
      obtain ⟨k1, rfl, k3, k4, k5⟩ := k
      split at h
      · rename_i a' b' d' h1 h2 h3
        cases h
        exact i_range3 (G.b k1).1 (G.b k1).2 (aq_cons (cQ_snd G S h1) (aq_cons (cQ_snd G S h2) (aq_cons (cQ_snd G S h3) aq_nil (star_cons k5)) (star_cons k4)) (star_cons k3)) (star_cons k3) (star_all (by simp [k4, k5]))
      · cases h
    · exact i_seq (S _ _ h)
  · exact i_seq (S _ _ h)
theorem cIQ_snd (G : Good call c X) (S : ∀ e ce, v e = some ce → PE X e (tV X.K call ce)) {tg e : Expr} {ci : C} (h : cIQ v c tg e = some ci) : PI X tg e (tIQ X.K call ci) := by
  unfold cIQ at h
  split at h
  · exact iq_seq (cQ_snd G S h)
  · exact iq_of (cI_snd G S h)
/-! ### comprehensions -/
theorem cIfs_snd {t : CE} (S : ∀ e ce, t e = some ce → PT X e (tT X.K call ce)) {ifs : List Expr} {cc : C} (h : cIfs t ifs = some cc) : PTs X ifs (tT X.K call cc) := by
  unfold cIfs at h
  split at h
  · cases h; exact ts_nil
  · exact ts_one (S _ _ h)
  · cases h
theorem own_sub {g : G} {own : List (Str × Nat)} (h : (gvars g).all (fun i => (own.map (·.2)).contains i) = true) : ∀ i ∈ gvars g, i ∈ own.map (·.2) := fun i hi => by
  have := List.all_eq_true.mp h i hi
  simpa using this
theorem cComp_snd {r : Ctx → K3} {n : Nat} (G : Good call c X) (S : ∀ c X, Good call c X → Snd call X (r c)) {elt : Expr} {gens : List Comprehension} {scope : Scope} {pos : Pos} {ce : C} (h : cComp r n c elt gens scope = some ce) : PE X (.ListComp elt gens scope pos) (tF X.K call ce) := by
  have S0 := S c X G
  have hN : X.N.Nodup := by rw [G.N]; exact G.nd
  unfold cComp at h
  split at h
  · rename_i tg iter ifs z
    dsimp only at h
    split at h
    · rename_i k
      obtain ⟨rfl, k2, k3⟩ := k
      split at h
      · rename_i it g cond el h1 h2 h3 h4
        split at h
        · rename_i k4
          cases h
          have ok : BlkOk X.N X.env.scope scope (ownOf c.N scope) := by rw [G.N, G.sc]; exact blkOk_by k2
          have GB := G.blk (scope := scope) ok.kind
          refine f_comp G.calm hN (cIQ_snd G S0.V h1) ok (fun s H C cl fp => ?_) (fun s H C cl fp => ?_) (fun s H C cl fp => ?_) (set_pure k3) (own_sub k4)
          · exact cG_snd (GB s H C cl fp) n h2
          · exact cIfs_snd (S _ _ (GB s H C cl fp)).T h3
          · exact (S _ _ (GB s H C cl fp)).V _ _ h4
        · cases h
      · cases h
    · cases h
  · rename_i tg iter ifs z tg1 iter1 ifs1 z1
    dsimp only at h
    split at h
    · rename_i k
      obtain ⟨rfl, rfl, k2, k3, k5⟩ := k
      split at h
      · rename_i it g cond h1 h2 h3
        split at h
        · rename_i it1 g1 cond1 el h5 h6 h7 h4
          split at h
          · rename_i k4
            cases h
            have ok : BlkOk X.N X.env.scope scope (ownOf c.N scope) := by rw [G.N, G.sc]; exact blkOk_by k2
            have GB := G.blk (scope := scope) ok.kind
            refine f_comp2 G.calm hN (cIQ_snd G S0.V h1) ok (own_sub k4.2) (fun s H C cl fp => ?_) (fun s H C cl fp => ?_) (fun s H C cl fp => ?_) (fun s H C cl fp => ?_) (fun s H C cl fp => ?_) (fun s H C cl fp => ?_) (set_pure k3) (fun env => set_pure k5) (own_sub k4.1) (fun i hi => hi)
            · exact cG_snd (GB s H C cl fp) n h2
            · exact cIfs_snd (S _ _ (GB s H C cl fp)).T h3
            · exact cI_snd (GB s H C cl fp) (S _ _ (GB s H C cl fp)).V h5
            · exact cG_snd (GB s H C cl fp) n h6
            · exact cIfs_snd (S _ _ (GB s H C cl fp)).T h7
            · exact (S _ _ (GB s H C cl fp)).V _ _ h4
          · cases h
        · cases h
      · cases h
    · cases h
  · cases h
/-! ### built-ins by name -/
theorem byB {id : String} {x : Str} {p pos : Pos} {es : List Expr} {cs : List C} (G : Good call c X) (S : ∀ e ce, v e = some ce → PE X e (tV X.K call ce)) (k : isB c x = true ∧ es.isEmpty = false) (h : cAs (cQ v c) es = some cs) (hv : bootBuiltins x = some (.builtin id)) (hn : x ≠ "__name__") :
    ByB X call (.Call (.Name x p) es [] pos) (.builtin id) cs := fun rr hc => by
  obtain ⟨h1, h2⟩ := cAsQ_snd G S h
  cases es with
  | nil => cases k.2
  | cons e es =>
    simp only [List.all_cons, Bool.and_eq_true] at h2
    exact pe_callB hc (G.b k.1).1 (G.b k.1).2 hv h1 hn (G.gl_ (by have := k.1; unfold isB at this; simp only [Bool.and_eq_true] at this; exact this.1)).2 (star_cons h2.1) (star_all h2.2)
theorem byT {id : String} {x : Str} {p pos : Pos} {es : List Expr} {cs : List C} (G : Good call c X) (S : ∀ e ce, v e = some ce → PE X e (tV X.K call ce)) (k : isB c x = true ∧ es.isEmpty = false) (h : cAs (cQ v c) es = some cs) (hv : bootBuiltins x = some (.type id)) (hn : x ≠ "__name__") :
    ByB X call (.Call (.Name x p) es [] pos) (.type id) cs := fun rr hc => by
  obtain ⟨h1, h2⟩ := cAsQ_snd G S h
  cases es with
  | nil => cases k.2
  | cons e es =>
    simp only [List.all_cons, Bool.and_eq_true] at h2
    exact pe_callTy hc (G.b k.1).1 (G.b k.1).2 hv h1 hn (G.gl_ (by have := k.1; unfold isB at this; simp only [Bool.and_eq_true] at this; exact this.1)).2 (star_cons h2.1) (star_all h2.2)
theorem cBi_snd {x : Str} {p pos : Pos} {es : List Expr} {ce : C} (G : Good call c X) (S : ∀ e ce, v e = some ce → PE X e (tV X.K call ce)) (h : cBi v c x es = some ce) : PE X (.Call (.Name x p) es [] pos) (tV X.K call ce) := by
  unfold cBi at h
  split at h
  · rename_i k
    split at h
    · rename_i cs hcs
      split at h
      · rename_i e; subst e; cases h; exact b_len (byB G S k hcs (by decide +kernel) (by decide))
      split at h
      · rename_i e; subst e; cases h; exact b_abs (byB G S k hcs (by decide +kernel) (by decide))
      split at h
      · rename_i e; subst e; cases h; exact b_int (byT G S k hcs (by decide +kernel) (by decide))
      split at h
      · rename_i e; subst e; cases h; exact b_sum G.calm (byB G S k hcs (by decide +kernel) (by decide))
      split at h
      · rename_i e; subst e; cases h; exact b_tuple (byT G S k hcs (by decide +kernel) (by decide))
      split at h
      · rename_i e; subst e; cases h; exact b_all G.calm (byB G S k hcs (by decide +kernel) (by decide))
      split at h
      · rename_i e; subst e; cases h; exact b_any G.calm (byB G S k hcs (by decide +kernel) (by decide))
      split at h
      · rename_i e; subst e
        split at h
        · cases h; exact b_max G.calm (byB G S k hcs (by decide +kernel) (by decide))
        · cases h; exact b_max2 G.calm (byB G S k hcs (by decide +kernel) (by decide))
      split at h
      · rename_i e; subst e
        split at h
        · cases h; exact b_min G.calm (byB G S k hcs (by decide +kernel) (by decide))
        · cases h; exact b_min2 G.calm (byB G S k hcs (by decide +kernel) (by decide))
      · cases h
    · cases h
  · cases h
theorem cLS_snd {x : Str} {p pos : Pos} {es : List Expr} {ce : C} (G : Good call c X) (S : ∀ e ce, v e = some ce → PE X e (tV X.K call ce)) (h : cLS v c x es = some ce) : PE X (.Call (.Name x p) es [] pos) (tV X.K call ce) := by
  unfold cLS at h
  split at h
  · split at h
    · rename_i k
      obtain ⟨rfl, rfl, k1, k2, k3⟩ := k
      rw [Option.map_eq_some_iff] at h
      obtain ⟨z, hz, rfl⟩ := h
      exact v_lens (pe_lenSetD G.calm (G.b k1).1 (G.b k1).2 (G.b k2).1 (G.b k2).2 (cQ_snd G S hz) (star_cons k3))
    · cases h
  · cases h
theorem cRg_snd {es : List Expr} {cs : List C} (G : Good call c X) (S : ∀ e ce, v e = some ce → PE X e (tV X.K call ce)) (h : cRg v c es = some cs) : ∃ (e : Expr) (te : L2.St → Hp → (Int → Int → Hp → Prop) → Prop), es = [e] ∧ PRg X e te ∧ (starEach [e] X.env = (false, eval e X.env) :: starEach [] X.env) ∧
    (∀ {σ : L2.St} {H : Hp} {Q : Int → Int → Hp → Prop} {w : W} {ρ : Env} {g g' : GS} {ds : List D} {a b : Int}, Ok w H g → Rel X.K w H ρ σ → evs call cs ρ g = some (ds, g') → rngE ds = some (a, b) → (∀ w1 H1, Ok w1 H1 g' → Ext w H w1 H1 → RgOk a b → Q a b H1) → te σ H Q) := by
  unfold cRg at h
  split at h
  · split at h
    · rename_i k
      obtain ⟨rfl, k1, k2⟩ := k
      split at h
      · rename_i z hz
        cases h
        exact ⟨_, _, rfl, prg_1 (G.b k1).1 (G.b k1).2 (cQ_snd G S hz) (star_cons k2), rfl, fun o r he hr q => rg_read1 o r he hr q⟩
      · cases h
    · cases h
  · split at h
    · rename_i k
      obtain ⟨rfl, k1, k2, k3⟩ := k
      split at h
      · rename_i z u hz hu
        cases h
        exact ⟨_, _, rfl, prg_2 (G.b k1).1 (G.b k1).2 (cQ_snd G S hz) (cQ_snd G S hu) (star_cons k2) (star_cons k3) (star_all (by simp [k3])), rfl, fun o r he hr q => rg_read2 o r he hr q⟩
      · cases h
    · cases h
  · cases h
theorem cRg3_snd {p pos : Pos} {es : List Expr} {cs : List C} (G : Good call c X) (S : ∀ e ce, v e = some ce → PE X e (tV X.K call ce)) (g1 : Gl X "tuple") (g2 : X.mg "tuple" = none) (h : cRg3 v c es = some cs) : PE X (.Call (.Name "tuple" p) es [] pos) (tV X.K call (.bi .trng3 cs)) := by
  unfold cRg3 at h
  split at h
  · split at h
    · rename_i k
      obtain ⟨rfl, k1, k3, k4, k5⟩ := k
      split at h
      · rename_i z u t hz hu ht
        cases h
        exact v_tup3 G.calm g1 g2 (G.b k1).1 (G.b k1).2 (aq_cons (cQ_snd G S hz) (aq_cons (cQ_snd G S hu) (aq_cons (cQ_snd G S ht) aq_nil (star_cons k5)) (star_cons k4)) (star_cons k3)) (star_cons k3) (star_all (by simp [k4, k5]))
      · cases h
    · cases h
  · cases h
theorem cBiF_snd {x : Str} {p pos : Pos} {es : List Expr} {ce : C} (G : Good call c X) (S : ∀ e ce, v e = some ce → PE X e (tV X.K call ce)) (h : cBiF v c x es = some ce) : PE X (.Call (.Name x p) es [] pos) (tF X.K call ce) := by
  unfold cBiF at h
  split at h
  · rename_i k
    split at h
    · rename_i cs hcs
      split at h
      · rename_i e; subst e; cases h; exact b_list (byT G S k hcs (by decide +kernel) (by decide))
      split at h
      · rename_i e; subst e; cases h; exact b_sorted (byB G S k hcs (by decide +kernel) (by decide))
      · cases h
    · cases h
  · cases h
theorem gcd_snd {p pos : Pos} {es : List Expr} {cs : List C} (G : Good call c X) (S : ∀ e ce, v e = some ce → PE X e (tV X.K call ce)) (hg : c.gcd.contains "gcd" = true) (hb : glob c "gcd" = true) (hn : es.isEmpty = false) (h : cAs (cQ v c) es = some cs) : PE X (.Call (.Name "gcd" p) es [] pos) (tV X.K call (.bi .gcd cs)) := by
  refine b_gcd fun rr hc => ?_
  obtain ⟨h1, h2⟩ := cAsQ_snd G S h
  cases es with
  | nil => cases hn
  | cons e es =>
    simp only [List.all_cons, Bool.and_eq_true] at h2
    exact pe_callBfun hc (G.gl_ hb).1 ((G.gcd _ hg).trans (by decide +kernel)) h1 (G.gl_ hb).2 (star_cons h2.1) (star_all h2.2)
theorem isqrt_snd {p pos : Pos} {es : List Expr} {cs : List C} (G : Good call c X) (S : ∀ e ce, v e = some ce → PE X e (tV X.K call ce)) (hg : c.gcd.contains "isqrt" = true) (hb : glob c "isqrt" = true) (hn : es.isEmpty = false) (h : cAs (cQ v c) es = some cs) : PE X (.Call (.Name "isqrt" p) es [] pos) (tV X.K call (.bi .isqrt cs)) := by
  refine b_isqrt fun rr hc => ?_
  obtain ⟨h1, h2⟩ := cAsQ_snd G S h
  cases es with
  | nil => cases hn
  | cons e es =>
    simp only [List.all_cons, Bool.and_eq_true] at h2
    exact pe_callBfun hc (G.gl_ hb).1 ((G.gcd _ hg).trans (by decide +kernel)) h1 (G.gl_ hb).2 (star_cons h2.1) (star_all h2.2)
theorem tyIx_ok {y : Str} {j : Nat} (h : tyIx y = some j) : bootBuiltins y = some (.type (tyS j)) ∧ y ≠ "__name__" ∧ j < 6 := by
  unfold tyIx at h
  split at h
  · rename_i e; subst e; cases h; exact ⟨by decide +kernel, by decide, by decide⟩
  split at h
  · rename_i e; subst e; cases h; exact ⟨by decide +kernel, by decide, by decide⟩
  split at h
  · rename_i e; subst e; cases h; exact ⟨by decide +kernel, by decide, by decide⟩
  split at h
  · rename_i e; subst e; cases h; exact ⟨by decide +kernel, by decide, by decide⟩
  split at h
  · rename_i e; subst e; cases h; exact ⟨by decide +kernel, by decide, by decide⟩
  · cases h
theorem isB_glob {x : Str} (h : isB c x = true) : glob c x = true := by
  unfold isB at h
  simp only [Bool.and_eq_true] at h
  exact h.1
theorem pe_tyn {y : Str} {j : Nat} {pos : Pos} (G : Good call c X) (k : isB c y = true) (h : tyIx y = some j) : PE X (.Name y pos) (tC (.ty (tyS j))) :=
  pe_bltn (G.b k).1 (G.b k).2 (tyIx_ok h).1 rfl (tyIx_ok h).2.1 (G.gl_ (isB_glob k)).2
theorem cIsi_snd {p pos : Pos} {es : List Expr} {ce : C} (G : Good call c X) (S : ∀ e ce, v e = some ce → PE X e (tV X.K call ce)) (h : cIsi v c "isinstance" es = some ce) : PE X (.Call (.Name "isinstance" p) es [] pos) (tV X.K call ce) := by
  unfold cIsi at h
  split at h
  · split at h
    · rename_i k
      split at h
      · rename_i j z hj hz
        cases h
        exact v_isi (tyIx_ok hj).2.2 (pe_callB call_isi (G.b k.1).1 (G.b k.1).2 (by decide +kernel) (pa_cons (hs := star_cons k.2.2) (cQ_snd G S hz) (pa_cons (pe_tyn G k.2.1 hj) pa_nil)) (by decide) (G.gl_ (isB_glob k.1)).2 (star_cons k.2.2) rfl)
      · cases h
    · cases h
  · split at h
    · rename_i k
      split at h
      · rename_i j l z hj hl hz
        cases h
        exact v_isi2 (tyIx_ok hj).2.2 (tyIx_ok hl).2.2 (pe_callB call_isiT (G.b k.1).1 (G.b k.1).2 (by decide +kernel) (pa_cons (hs := star_cons k.2.2.2) (cQ_snd G S hz) (pa_cons (pe_tup (pa_cons (pe_tyn G k.2.1 hj) (pa_cons (pe_tyn G k.2.2.1 hl) pa_nil))) pa_nil)) (by decide) (G.gl_ (isB_glob k.1)).2 (star_cons k.2.2.2) rfl)
      · cases h
    · cases h
  · cases h
end

/-! ### lists that are given away at once -/
theorem givesL_ok {call : Calls} {ce : C} (h : givesL ce = true) : ∀ ρ g d g', ev call ce ρ g = some (d, g') → ∃ xs, d = .lst xs := by
  intro ρ g d g' he
  unfold givesL at h
  split at h
  · simp only [ev] at he
    obtain ⟨ds, g1, _, he⟩ := bnd_eq he
    cases he; exact ⟨_, rfl⟩
  · simp only [ev] at he
    obtain ⟨s, g1, _, he⟩ := bnd_eq he
    split at he
    · obtain ⟨ys, g2, _, he⟩ := bnd_eq he
      split at he
      · cases he; exact ⟨_, rfl⟩
      · cases he
    · cases he
  · simp only [ev] at he
    obtain ⟨s, g1, _, he⟩ := bnd_eq he
    split at he
    · obtain ⟨ys, g2, _, he⟩ := bnd_eq he
      split at he
      · cases he; exact ⟨_, rfl⟩
      · cases he
    · cases he
  · simp only [ev] at he
    obtain ⟨ds, g1, _, he⟩ := bnd_eq he
    rw [Option.map_eq_some_iff] at he
    obtain ⟨z, e1, e2⟩ := he
    cases e2
    obtain ⟨x, _, k⟩ := un_eq e1
    unfold listD at k
    split at k
    · cases k; exact ⟨_, rfl⟩
    · cases k; exact ⟨_, rfl⟩
    · cases k
  · simp only [ev] at he
    obtain ⟨ds, g1, _, he⟩ := bnd_eq he
    rw [Option.map_eq_some_iff] at he
    obtain ⟨z, e1, e2⟩ := he
    cases e2
    obtain ⟨x, _, k⟩ := un_eq e1
    unfold sortedD at k
    split at k
    · split at k
      · cases k; exact ⟨_, rfl⟩
      · split at k
        · cases k; exact ⟨_, rfl⟩
        · cases k
    · cases k
  · simp only [ev] at he
    obtain ⟨ds, g1, _, he⟩ := bnd_eq he
    rw [Option.map_eq_some_iff] at he
    obtain ⟨z, e1, e2⟩ := he
    cases e2
    have e3 : (rngE ds).map (fun p => D.lst (rangeD p.1 (p.2 - p.1).toNat)) = some d := e1
    rw [Option.map_eq_some_iff] at e3
    obtain ⟨p, _, rfl⟩ := e3
    exact ⟨_, rfl⟩
  · cases h
section
variable {X : Cx} {call : Calls} {c : Ctx}
/-- a comparison -/
theorem cmp_snd {a b : Expr} {op : CmpOp} {op' : Cp} {ca cb : C} {pos : Pos} (G : Good call c X) (ha : PE X a (tQ X.K call ca)) (hb : PE X b (tQ X.K call cb)) (h : cmpC op = some op') (hs : noSet b = true) :
    PE X (.Compare a [op] [b] pos) (tV X.K call (.cmp op' ca cb)) ∧ PT X (.Compare a [op] [b] pos) (tT X.K call (.cmp op' ca cb)) := by
  have hu := G.un
  cases op <;> cases h
  · exact c_eq ha hb (by omega)
  · exact c_ne ha hb (by omega)
  · exact c_lt ha hb (by omega)
  · exact c_le ha hb
  · exact c_gt ha hb
  · exact c_ge ha hb
  · exact c_is ha hb
  · exact c_isnot ha hb
  · exact c_in ha hb hu (behind_no hs)
  · exact c_notin ha hb hu (behind_no hs)
theorem opS_of {op : CmpOp} {p : Cp} (hu : X.A.units + 64 < cLine) (h : cmpR op = some p) : ∃ rr, OpS X op p rr := by
  cases op <;> cases h
  · exact opS_lt hu
  · exact ⟨_, opS_le⟩
theorem cChain_snd {v : CE} {a b d : Expr} {op op2 : CmpOp} {pos : Pos} {z : C} (G : Good call c X) (S : ∀ e ce, v e = some ce → PE X e (tV X.K call ce)) (h : cChain v c a b d op op2 = some z) :
    PE X (.Compare a [op, op2] [b, d] pos) (tV X.K call z) ∧ PT X (.Compare a [op, op2] [b, d] pos) (tT X.K call z) := by
  have hu := G.un
  unfold cChain at h
  split at h
  · split at h
    · rename_i p1 p2 i ca cd h1 h2 h3 h4 h5
      split at h
      · rename_i hd
        cases h
        obtain ⟨r1, S1⟩ := opS_of (X := X) (by omega) h1
        obtain ⟨r2, S2⟩ := opS_of (X := X) (by omega) h2
        exact q_chain S1 S2 (cQ_snd G S h4) (q_bvar (G.var h3)) (cQ_snd G S h5) (show behindInMarks op2 d = false from behind_no hd)
      · cases h
    · cases h
  · cases h
theorem bin_snd {a b : Expr} {op : Operator} {op' : Op} {ca cb : C} {pos : Pos} (ha : PE X a (tQ X.K call ca)) (hb : PE X b (tQ X.K call cb)) (h : opC op = some op') : PE X (.BinOp a op b pos) (tV X.K call (.bin op' ca cb)) := by
  cases op <;> cases h
  · exact v_add ha hb
  · exact v_sub ha hb
  · exact v_mul ha hb
  · exact v_mod ha hb
  · exact v_pow ha hb
  · exact v_shl ha hb
  · exact v_shr ha hb
  · exact v_bxor ha hb
  · exact v_band ha hb
  · exact v_fdiv ha hb
theorem cF_snd {r : Ctx → K3} {n : Nat} (G : Good call c X) (S : ∀ c X, Good call c X → Snd call X (r c)) {e : Expr} {ce : C} (h : cF r n c e = some ce) : PE X e (tF X.K call ce) := by
  have S0 := S c X G
  unfold cF at h
  split at h
  · split at h
    · rename_i cs hcs
      split at h
      · rename_i hl
        cases h; exact f_lst (cAs_snd S0.V hcs).1 hl
      · cases h
    · cases h
  · exact cComp_snd G S h
  · obtain ⟨x, y, h1, h2, rfl⟩ := o2_eq h
    exact f_add (cQ_snd G S0.V h1) (cQ_snd G S0.V h2)
  · obtain ⟨x, y, h1, h2, rfl⟩ := o2_eq h
    exact f_mul (cQ_snd G S0.V h1) (cQ_snd G S0.V h2)
  · obtain ⟨x, y, z, h1, h2, h3, rfl⟩ := o3_eq h
    exact f_ite (S0.T _ _ h1) (S0.F _ _ h2) (S0.F _ _ h3)
  · split at h
    · obtain ⟨x, y, z, h1, h2, h3, rfl⟩ := o3_eq h
      exact f_cut (cQ_snd G S0.V h1) (cPart_snd G S0.V h2) (cPart_snd G S0.V h3)
    · rw [Option.map_eq_some_iff] at h
      obtain ⟨x, h1, rfl⟩ := h
      exact f_back (cQ_snd G S0.V h1)
    · cases h
  · split at h
    · rename_i cs hcs
      cases h
      split at hcs
      · rename_i k
        obtain ⟨rfl, k1⟩ := k
        obtain ⟨e, te, rfl, hp, hs, hr⟩ := cRg_snd G S0.V hcs
        exact f_lrng (pe_listRg G.calm (G.b k1).1 (G.b k1).2 hp hs) hr
      · cases hcs
    · exact cBiF_snd G S0.V h
  · cases h
theorem cT_snd {r : Ctx → K3} {n : Nat} (G : Good call c X) (S : ∀ c X, Good call c X → Snd call X (r c)) {e : Expr} {ce : C} (h : cT r n c e = some ce) : PT X e (tT X.K call ce) := by
  have S0 := S c X G
  unfold cT at h
  split at h
  · rw [Option.map_eq_some_iff] at h
    obtain ⟨x, h1, rfl⟩ := h
    exact t_not (S0.T _ _ h1)
  · exact (cBandT S0.T h).pt
  · exact (cBorT S0.T h).pt
  · split at h
    · rename_i op' hop
      split at h
      · rename_i hs
        obtain ⟨x, y, h1, h2, rfl⟩ := o2_eq h
        exact (cmp_snd G (cQ_snd G S0.V h1) (cQ_snd G S0.V h2) hop hs).2
      · cases h
    · cases h
  · exact (cChain_snd G S0.V h).2
  · split at h
    · rename_i hp
      exact t_val (cQ_snd G S0.V h) (plain_true hp)
    · cases h
theorem cL_snd {r : K3} (S : Snd call X r) {e : Expr} {ce : C} (h : cL (r.F e) = some ce) : PE X e (tV X.K call ce) := by
  unfold cL at h
  split at h
  · rename_i z hz
    split at h
    · rename_i hl
      cases h
      exact v_of_f (S.F _ _ hz) (givesL_ok hl)
    · cases h
  · cases h
theorem cV_snd {r : Ctx → K3} {n : Nat} (G : Good call c X) (S : ∀ c X, Good call c X → Snd call X (r c)) {e : Expr} {ce : C} (h : cV r n c e = some ce) : PE X e (tV X.K call ce) := by
  have S0 := S c X G
  unfold cV at h
  split at h
  · -- a constant
    rw [Option.map_eq_some_iff] at h
    obtain ⟨d, h1, rfl⟩ := h
    unfold constD at h1
    split at h1
    · cases h1; exact v_lit pe_non fun w => rfl
    · cases h1; exact v_lit pe_bl fun w => rfl
    · cases h1; exact v_lit pe_int fun w => rfl
    · cases h1; exact v_lit pe_str fun w => rfl
    · cases h1
  · -- a name
    split at h
    · cases h; exact v_var (G.var (by assumption))
    · split at h
      · rename_i hg
        rw [Option.map_eq_some_iff] at h
        obtain ⟨d, h1, rfl⟩ := h
        obtain ⟨v, u, k1, k2, k3⟩ := G.gl _ _ h1
        obtain ⟨g1, g2⟩ := G.gl_ hg
        exact v_lit (pe_glob g1 k1 k2 g2) k3
      · cases h
  · -- a tuple
    split at h
    · rename_i cs hcs
      split at h
      · rename_i hl
        cases h; exact v_tup (cAs_snd S0.V hcs).1 hl
      · cases h
    · cases h
  · exact cL_snd S0 h
  · exact cL_snd S0 h
  · split at h
    · rename_i op' hop
      obtain ⟨x, y, h1, h2, rfl⟩ := o2_eq h
      exact bin_snd (cQ_snd G S0.V h1) (cQ_snd G S0.V h2) hop
    · cases h
  · rw [Option.map_eq_some_iff] at h
    obtain ⟨x, h1, rfl⟩ := h
    exact v_neg (cQ_snd G S0.V h1)
  · rw [Option.map_eq_some_iff] at h
    obtain ⟨x, h1, rfl⟩ := h
    exact v_not (cQ_snd G S0.V h1)
  · split at h
    · rename_i op' hop
      split at h
      · rename_i hs
        obtain ⟨x, y, h1, h2, rfl⟩ := o2_eq h
        exact (cmp_snd G (cQ_snd G S0.V h1) (cQ_snd G S0.V h2) hop hs).1
      · cases h
    · cases h
  · exact (cChain_snd G S0.V h).1
  · exact cBandV S0.V h
  · exact cBorV S0.V h
  · obtain ⟨x, y, z, h1, h2, h3, rfl⟩ := o3_eq h
    exact v_ite (S0.T _ _ h1) (S0.V _ _ h2) (S0.V _ _ h3)
  · split at h
    · rename_i hn
      obtain ⟨x, y, h1, h2, rfl⟩ := o2_eq h
      exact v_idx (cQ_snd G S0.V h1) (cQ_snd G S0.V h2) (plain_ix hn)
    · split at h
      · obtain ⟨x, y, z, h1, h2, h3, rfl⟩ := o3_eq h
        exact v_cut (cQ_snd G S0.V h1) (cPart_snd G S0.V h2) (cPart_snd G S0.V h3) sl_whole
      · rw [Option.map_eq_some_iff] at h
        obtain ⟨x, h1, rfl⟩ := h
        exact v_back (cQ_snd G S0.V h1)
      · cases h
  · split at h
    · rename_i f hf
      split at h
      · rename_i hg
        rw [Option.map_eq_some_iff] at h
        obtain ⟨cs, h1, rfl⟩ := h
        obtain ⟨g1, g2⟩ := G.gl_ hg
        obtain ⟨k1, k2⟩ := cAs_snd S0.V h1
        rename_i es _ _
        cases es with
        | nil => cases h1; exact v_call0 (G.fns _ _ hf) g1 g2
        | cons e es =>
          simp only [List.all_cons, Bool.and_eq_true] at k2
          exact v_call (G.fns _ _ hf) g1 k1 g2 (star_cons k2.1) (star_all k2.2)
      · cases h
    · split at h
      · rename_i hk
        obtain ⟨rfl, k1, k2, k3⟩ := hk
        rw [Option.map_eq_some_iff] at h
        obtain ⟨cs, h1, rfl⟩ := h
        exact gcd_snd G S0.V k1 k2 k3 h1
      · split at h
        · rename_i hk
          obtain ⟨rfl, k1, k2, k3⟩ := hk
          rw [Option.map_eq_some_iff] at h
          obtain ⟨cs, h1, rfl⟩ := h
          exact isqrt_snd G S0.V k1 k2 k3 h1
        · split at h
          · rename_i e
            subst e
            exact cIsi_snd G S0.V h
          · split at h
            · cases h
              exact cLS_snd G S0.V (by assumption)
            · split at h
              · rename_i cs hcs
                cases h
                split at hcs
                · rename_i k
                  obtain ⟨rfl, k1⟩ := k
                  obtain ⟨e, te, rfl, hp, hs, hr⟩ := cRg_snd G S0.V hcs
                  exact v_trng (pe_tupRg G.calm (G.b k1).1 (G.b k1).2 hp hs) hr
                · cases hcs
              · split at h
                · rename_i cs hcs
                  cases h
                  split at hcs
                  · rename_i k
                    obtain ⟨rfl, k1⟩ := k
                    exact cRg3_snd G S0.V (G.b k1).1 (G.b k1).2 hcs
                  · cases hcs
                · split at h
                  · cases h
                    exact cBi_snd G S0.V (by assumption)
                  · exact cL_snd S0 h
  · cases h
theorem cmpl_snd (call : Calls) : ∀ (n : Nat) (c : Ctx) (X : Cx), Good call c X → Snd call X (cmpl n c)
  | 0, c, X, G => ⟨fun _ _ h => (by cases h), fun _ _ h => (by cases h), fun _ _ h => (by cases h)⟩
  | n + 1, c, X, G => ⟨fun _ _ h => cV_snd (n := n) G (cmpl_snd call n) h, fun _ _ h => cF_snd (n := n) G (cmpl_snd call n) h, fun _ _ h => cT_snd (n := n) G (cmpl_snd call n) h⟩
end
end Tv

/-! Tv11: statements from the text, and that they are sound. -/
namespace Tv
open PySem PySem.Spec L2
/-! ### two exchanged stores -/
def isStarred : Expr → Bool
  | .Starred _ _ => true
  | _ => false
/-- the names that are stored from the right (none: one after another) -/
def swq (c : Ctx) (ts vs : List Expr) : Option (Option (List Str)) :=
  if !(ts.length == 2 || ts.length == 3) || vs.length != ts.length then some none
  else if vs.any (fun | .Starred .. => true | _ => false) then some none
  else
    let line := (ts.head?.map (·.pos.line)).getD 0
    let names := ts.filterMap fun
      | .Name id pos => if c.sc.names.lookup id == some .local && pos.line == line then some id else none
      | _ => none
    if names.length != ts.length || names.eraseDups.length != names.length then some none
    else if vs.all (foldedForSure 8) then some none
    else if vs.all (constantsAlone 8) then none
    else some (some names)
theorem swq_ok {c : Ctx} {ts vs : List Expr} {k k2 : Nat} {p p2 : Pos} {env : PySem.Env} {r : Option (List Str)} (hs : env.scope = c.sc) (hk : c.sc.kind = .function) (h : swq c ts vs = some r) : swappedStores [.Tuple ts k p] (.Tuple vs k2 p2) env = pure r := by
  have hb : env.blockKind = .function := by unfold Env.blockKind; rw [hs, hk]; rfl
  have hkk : ∀ x, env.kindOf x = c.sc.names.lookup x := fun x => by unfold Env.kindOf; rw [hs]
  unfold swq at h
  unfold swappedStores
  dsimp only
  simp only [hb, hkk]
  split at h
  · rename_i h1
    cases h
    exact if_pos (by rw [h1]; rfl)
  · rename_i h1
    refine (if_neg (by rw [Bool.not_eq_true] at h1; rw [h1]; decide)).trans ?_
    split at h
    · rename_i h2
      cases h
      exact if_pos h2
    · rename_i h2
      refine (if_neg h2).trans ?_
      dsimp only at h
      split at h
      · rename_i h3
        cases h
        exact if_pos h3
      · rename_i h3
        refine (if_neg h3).trans ?_
        split at h
        · rename_i h4
          cases h
          exact if_pos h4
        · rename_i h4
          refine (if_neg h4).trans ?_
          split at h
          · cases h
          · rename_i h5
            cases h
            exact if_neg h5
theorem sw_name {x : Str} {p : Pos} {e : Expr} {env : PySem.Env} : swappedStores [.Name x p] e env = pure none := by
  cases e <;> rfl
theorem sw_sub {a b e : Expr} {p : Pos} {env : PySem.Env} : swappedStores [.Subscript a b p] e env = pure none := by
  cases e <;> rfl
theorem swaps_tup {ts : List Expr} {k : Nat} {p : Pos} {e : Expr} {l : Nat} {env : PySem.Env} : swapsWith e (some (.Tuple ts k p)) l env = pure false := by
  cases e <;> rfl
theorem sw_tup {ts : List Expr} {k : Nat} {p : Pos} {e : Expr} {env : PySem.Env} (h : isTup e = false) : swappedStores [.Tuple ts k p] e env = pure none := by
  cases e <;> first | rfl | cases h

/-! ### xs[i] read for xs[i] += .. -/
theorem pget_list {X : Cx} : PGet X (rIxL X.K) := by
  intro pins s σ H x y v u Q I rx ry h
  obtain ⟨p, xs, i, z, rfl, rfl, hq, he, q⟩ := h
  cases rx
  obtain ⟨t, rfl⟩ := ry
  obtain ⟨its, r, pl, hz⟩ := I.list hq
  obtain ⟨j, h1, h2, h3, h4, h5⟩ := atI_get he
  obtain ⟨w, ew, rw'⟩ := r.get h2
  have hl := r.length
  have hn := line63
  have fin : EP X pins σ Q w s := ⟨z, H, I, rw', q⟩
  by_cases h0 : 0 ≤ i
  · have hj : i.toNat = j := by
      rw [seqIndex_of h0 h5] at h1
      exact Option.some.inj h1
    exact wpAny_getItem_list pl.isList h0 (by omega) (by rw [hj]; simpa using ew) fin
  · have hj : (i + (its.toArray.size : Int)).toNat = j := by
      rw [seqIndex_neg (by omega) h4] at h1
      rw [List.size_toArray, ← hl]
      exact Option.some.inj h1
    exact wpAny_getItem_list_neg pl.isList (by omega) (by rw [List.size_toArray] <;> omega) (by omega) (by rw [hj]; simpa using ew) fin

section
variable {X : Cx} {call : Calls} {w0 : W} {H0 : Hp}
theorem s_aug {x : Str} {e : Expr} {i : Nat} {c : C} {p1 pos : Pos} (hN : X.N.Nodup) (hi : X.N[i]? = some x) (hx : Loc X.env.scope x) (he : PE X e (tV X.K call c)) (hf : X.fn x = true ∨ X.env.scope.names.lookup x = some .local) :
    PS X (.AugAssign (.Name x p1) .Add e pos) (tS X.K call w0 H0 (.aug i .add c)) :=
  (ps_aug hN hi hx he ip_add hf).imp fun D σ H ⟨w, ρ, g, r, g', s, hev, q⟩ => by
    simp only [ex] at hev
    split at hev
    · rename_i a ha
      obtain ⟨d, g1, e1, hev⟩ := bnd_eq hev
      split at hev
      · rename_i b
        simp only [binD, addD] at hev
        cases hev
        obtain ⟨ov, k1, v, rfl, k2⟩ := s.rel.at_ i _ ha
        refine ⟨v, k1, w, ρ, g, _, _, s.ok, s.rel, e1, fun w1 H1 u o1 x1 r1 => ⟨a, b, k2, r1, ?_⟩⟩
        have s1 := s.go o1 x1
        exact q w1 _ H1 (s1.asg (gt := .var i) (d := .int (a + b)) (ρ' := ρ.set i (.val (.int (a + b)))) (by simp only [Tv.asg]) (s1.rel.set (v := .int (a + b)) rfl) ⟨by simp, fun j hj => by
          rw [List.getElem?_set_ne]
          exact fun z => hj (by simp only [gvars, List.mem_singleton]; exact z.symm)⟩) x1.le
      · cases hev
    · cases hev
theorem s_augx {x : Str} {b e : Expr} {i : Nat} {ci c : C} {p1 p2 pos : Pos} (hx : PE X (.Name x p1) (tVar i)) (hi : PE X b (tQ X.K call ci)) (he : PE X e (tV X.K call c)) (hb : noSlice b = true) :
    PS X (.AugAssign (.Subscript (.Name x p1) b p2) .Add e pos) (tS X.K call w0 H0 (.augx i ci .add c)) :=
  (ps_augS hx hi pget_list he ip_add set_list (by intro ov iv new; cases b <;> first | rfl | cases hb)).imp fun D σ H ⟨w, ρ, g, r, g', s, hev, q⟩ => by
    simp only [ex] at hev
    obtain ⟨k, g1, e1, hev⟩ := bnd_eq hev
    split at hev
    · rename_i xs kk hk
      split at hev
      · rename_i j hj
        split at hev
        · rename_i a haj
          obtain ⟨d, g2, e2, hev⟩ := bnd_eq hev
          split at hev
          · rename_i b'
            simp only [binD, addD] at hev
            cases hev
            obtain ⟨ov, m1, ad, us, rfl, m3, m4, m5, m6⟩ := s.rel.at_ i _ hk
            refine ⟨.ref ad, m1, w, ρ, g, _, g1, s.ok, s.rel, e1, fun w1 H1 u o1 x1 y1 => ?_⟩
            obtain ⟨n3, n4, n5⟩ := x1.stay m3 m4 m5
            have s1 := s.go o1 x1
            obtain ⟨ua, k5, k6⟩ := m6.get haj
            refine ⟨ad, us, kk, ua, rfl, y1, .inl (.inl n3), ?_, ?_⟩
            · unfold L2.atI
              rw [ixN_len m6, hj]
              exact k5
            · refine ⟨w1, ρ, g1, _, _, s1.ok, s1.rel, e2, fun w2 H2 t o2 x2 r2 => ⟨a, b', k6, r2, ?_⟩⟩
              obtain ⟨l3, l4, l5⟩ := x2.stay n3 n4 n5
              have s2 := s1.go o2 x2
              refine ⟨ad, us, kk, j, rfl, y1, l3, by rw [ixN_len m6]; exact hj, ?_⟩
              exact q w2 σ _ (s2.change hk m1 (Reps.set (d := .int (a + b')) (v := .int (a + b')) rfl j (m6.mono (x1.trans x2).le))) (x1.trans x2).le
          · cases hev
        · cases hev
      · cases hev
    · cases hev
end

/-! ### from the text -/
mutual
/-- the names that are handed on whole -/
def esc : C → List Nat
  | .lit _ => []
  | .nop => []
  | .st2 => []
  | .var i => [i]
  | .bvar _ => []
  | .tup es => escs es
  | .lst es => escs es
  | .bin _ a b => esc a ++ esc b
  | .neg a => esc a
  | .cmp _ a b => esc a ++ esc b
  | .not a => esc a
  | .and a b => esc a ++ esc b
  | .or a b => esc a ++ esc b
  | .ite t a b => esc t ++ esc a ++ esc b
  | .idx a i => esc a ++ esc i
  | .cut a l h => esc a ++ esc l ++ esc h
  | .back a => esc a
  | .call _ es => escs es
  | .bi _ es => escs es
  | .comp _ _ it cond elt => esc it ++ esc cond ++ esc elt
  | .comp2 _ _ _ it cond _ it2 cond2 elt => esc it ++ esc cond ++ esc it2 ++ esc cond2 ++ esc elt
def escs : List C → List Nat
  | [] => []
  | e :: es => esc e ++ escs es
end
def fzOf (c : Ctx) (e : C) : List Nat := ((esc e).filter fun i => c.own.contains i).eraseDups
def fzsOf (c : Ctx) (es : List C) : List Nat := ((escs es).filter fun i => c.own.contains i).eraseDups
/-- a comprehension that is stored straight into a local name -/
def swC (c : Ctx) (y : Str) (py : Pos) : Expr → Bool
  | .ListComp _ _ scope pos => decide (c.sc.names.lookup y = some .local) && (py.line == pos.line) && !(scope.names.any fun (n, k) => n == y && (k == .local || k == .cell))
  | _ => false
/-- a comprehension's store that is like any other -/
def swN (c : Ctx) (y : Str) (py : Pos) : Expr → Bool
  | .ListComp _ _ scope pos => !((c.sc.names.lookup y == some .local) && (py.line == pos.line) && !(scope.names.any fun (n, k) => n == y && (k == .local || k == .cell)))
  | e => noComp e
def cSs (f : Stmt → Option S) : List Stmt → Option (List S)
  | [] => some []
  | s :: ss => match f s, cSs f ss with
    | some a, some r => some (a :: r)
    | _, _ => none
/-- state = [0, 0] -/
def isSt2 (x : Str) : Expr → Bool
  | .List [.Constant (.int 0) _ _, .Constant (.int 0) _ _] _ => x == "state"
  | _ => false
/-- two stores into places -/
def cSub2 (n : Nat) (c : Ctx) (ts : List Expr) (e : Expr) : Option S := match ts with
  | [.Subscript (.Name x _) b _, .Subscript (.Name y _) b' _] => if noSlice b = true ∧ noSlice b' = true then match slot c x, cQ (cmpl n c).V c b, slot c y, cQ (cmpl n c).V c b', (cmpl n c).V e with
      | some i, some ci, some j, some cj, some z => some (.seti2 (fzOf c z) i ci j cj z)
      | _, _, _, _, _ => none
    else none
  | _ => none
def cAsg (n : Nat) (c : Ctx) (tg e : Expr) : Option S := match tg with
  | .Name x px => match stored c x with
    | none => none
    | some i =>
      if isSt2 x e = true then some (.asg [] (.var i) .st2)
      else if swC c x px e = true then ((cmpl n c).F e).map fun z => .own (fzOf c z) i z
      else if swN c x px e = true then
        match (if c.own.contains i = true then (cmpl n c).F e else none) with
        | some z => some (.own (fzOf c z) i z)
        | none => ((cmpl n c).V e).map fun z => .asg (fzOf c z) (.var i) z
      else none
  | .Tuple ts _ _ => if isSt2 "" e = false then match e with
      | .Tuple vs _ _ => match swq c ts vs with
        | some none => match cG n c tg, (cmpl n c).V e with
          | some g, some z => some (.asg (fzOf c z) g z)
          | _, _ => cSub2 n c ts e
        | some (some _) => match ts, vs with
          | [.Name x _, .Name y _], [a, b] => if c.sc.names.lookup x = some .local ∧ c.sc.names.lookup y = some .local ∧ swq c ts vs = some (some [x, y]) then match ixOf x c.N, ixOf y c.N with
            | some i, some j => if i ≠ j then match (if c.own.contains j = true ∧ c.own.contains i = false ∧ notStar a = true ∧ notStar b = true then (cmpl n c).F b else none) with
                | some z2 => ((cmpl n c).V a).map fun z => .paro (fzsOf c [z, z2]) i j z z2
                | none => (cAs (cmpl n c).V vs).map fun cs => .par (fzsOf c cs) [i, j] cs
              else none
            | _, _ => none else none
          | [.Name x _, .Name y _, .Name z _], [_, _, _] => if c.sc.names.lookup x = some .local ∧ c.sc.names.lookup y = some .local ∧ c.sc.names.lookup z = some .local ∧ swq c ts vs = some (some [x, y, z]) then match ixOf x c.N, ixOf y c.N, ixOf z c.N, cAs (cmpl n c).V vs with
            | some i, some j, some l, some cs => if i ≠ j ∧ i ≠ l ∧ j ≠ l then some (.par (fzsOf c cs) [i, j, l] cs) else none
            | _, _, _, _ => none else none
          | _, _ => none
        | none => none
      | _ => if isTup e = false then match cG n c tg, (cmpl n c).V e with
          | some g, some z => some (.asg (fzOf c z) g z)
          | _, _ => none else none
    else none
  | .Subscript (.Name x _) b _ => if noComp e = true ∧ noSlice b = true then match slot c x, cQ (cmpl n c).V c b, (cmpl n c).V e with
      | some i, some ci, some z => some (.seti (fzOf c z) i ci z)
      | _, _, _ => none
    else none
  | _ => none
def cS : Nat → Ctx → Stmt → Option S
  | 0, _, _ => none
  | n + 1, c, st => match st with
    | .Assign [tg] e _ => cAsg n c tg e
    | .AugAssign (.Name x _) .Add e _ => match stored c x, (cmpl n c).V e with
      | some i, some z => some (.aug i .add z)
      | _, _ => none
    | .AugAssign (.Subscript (.Name x _) b _) .Add e _ => if noSlice b = true then match slot c x, cQ (cmpl n c).V c b, (cmpl n c).V e with
        | some i, some ci, some z => some (.augx i ci .add z)
        | _, _, _ => none
      else none
    | .Expr (.Call (.Attribute (.Name x _) m apos) [e] [] cpos) _ => if m = "append" ∧ (apos.endLine == cpos.line) = true ∧ notStar e = true then match slot c x, (cmpl n c).V e with
        | some i, some z => some (.app (fzOf c z) i z)
        | _, _ => none
      else none
    | .Expr (.Call (.Attribute (.Name x _) m apos) [e1, e] [] cpos) _ => if m = "insert" ∧ (apos.endLine == cpos.line) = true ∧ notStar e1 = true ∧ notStar e = true then match slot c x, (cmpl n c).V e1, (cmpl n c).V e with
        | some i, some z1, some z => some (.ins (fzsOf c [z1, z]) i z1 z)
        | _, _, _ => none
      else none
    | .Expr (.Constant (.str _) _ _) _ => some .pass
    | .Expr e _ => if noComp e = true then ((cmpl n c).V e).map .expr else none
    | .If t a b _ => match (cmpl n c).T t, cSs (cS n c) a, cSs (cS n c) b with
      | some z, some x, some y => some (match fzOf c z with | [] => .ifs z x y | i :: fz => .ifz (i :: fz) z x y)
      | _, _, _ => none
    | .While t b [] _ => match (cmpl n c).T t, cSs (cS n c) b with
      | some z, some x => some (.whl z x)
      | _, _ => none
    | .For tg it b [] _ => if noSet it = true then match cG n c tg, cI (cmpl n c).V c tg it, cSs (cS n c) b with
        | some g, some z, some x => some (.for (fzOf c z) g z x)
        | _, _, _ => none
      else none
    | .Return (some e) _ => ((cmpl n c).V e).map fun z => .ret (fzOf c z) z
    | .Return none _ => some .retN
    | .Pass _ => some .pass
    | .Break _ => some .brk
    | .Continue _ => some .cnt
    | _ => none

section
variable {X : Cx} {call : Calls} {w0 : W} {H0 : Hp} {c : Ctx}
theorem cSs_snd {f : Stmt → Option S} (hf : ∀ st s, f st = some s → PS X st (tS X.K call w0 H0 s)) : ∀ {ss : List Stmt} {r : List S}, cSs f ss = some r → PSs X ss (tSs X.K call w0 H0 r)
  | [], _, h => by
    cases h
    exact ss_nil
  | s :: ss, r, h => by
    unfold cSs at h
    split at h
    · rename_i a r' h1 h2
      cases h
      exact ss_cons (hf _ _ h1) (cSs_snd hf h2)
    · cases h
/-- a comprehension stored straight -/
theorem setLc {n : Nat} (G : Good call c X) {y : Str} {py : Pos} {elt : Expr} {gens : List Comprehension} {scope : Scope} {pos spos : Pos} {i : Nat} {ce : C} (fz : List Nat) (hst : stored c y = some i) (hsw : swC c y py (.ListComp elt gens scope pos) = true) (h : cComp (cmpl n) n c elt gens scope = some ce) :
    PS X (.Assign [.Name y py] (.ListComp elt gens scope pos) spos) (tS X.K call w0 H0 (.own fz i ce)) := by
  have S := cmpl_snd call n
  have S0 := S c X G
  have hN : X.N.Nodup := by rw [G.N]; exact G.nd
  simp only [swC, Bool.and_eq_true, decide_eq_true_eq, Bool.not_eq_true'] at hsw
  have hyl : X.env.scope.names.lookup y = some .local := by rw [G.sc]; exact hsw.1.1
  have hi : X.N[i]? = some y := by
    unfold stored at hst
    split at hst
    · rw [G.N]; exact ixOf_get hst
    · cases hst
  have sw : swapsWith (.ListComp elt gens scope pos) (some (.Name y py)) spos.line X.env = pure true := sw_true (by rw [G.sc]; exact G.kind) hyl hsw.1.2 hsw.2
  unfold cComp at h
  split at h
  · rename_i tg iter ifs z
    dsimp only at h
    split at h
    · rename_i k
      obtain ⟨rfl, k2, k3⟩ := k
      split at h
      · rename_i it g cond el h1 h2 h3 h4
        split at h
        · rename_i k4
          cases h
          have ok : BlkOk X.N X.env.scope scope (ownOf c.N scope) := by rw [G.N, G.sc]; exact blkOk_by k2
          have GB := G.blk (scope := scope) ok.kind
          refine (ps_setLc G.calm hN hi hyl sw (cIQ_snd G S0.V h1) ok (fun s H C cl fp => cG_snd (GB s H C cl fp) n h2) (fun s H C cl fp => cIfs_snd (S _ _ (GB s H C cl fp)).T h3) (fun s H C cl fp => (S _ _ (GB s H C cl fp)).V _ _ h4) (set_pure k3)).imp fun D σ H h => own_read fz (fun _ _ _ h => lc_read (own_sub k4) h) h
        · cases h
      · cases h
    · cases h
  · rename_i tg iter ifs z tg1 iter1 ifs1 z1
    dsimp only at h
    split at h
    · rename_i k
      obtain ⟨rfl, rfl, k2, k3, k5⟩ := k
      split at h
      · rename_i it g cond h1 h2 h3
        split at h
        · rename_i it1 g1 cond1 el h5 h6 h7 h4
          split at h
          · rename_i k4
            cases h
            have ok : BlkOk X.N X.env.scope scope (ownOf c.N scope) := by rw [G.N, G.sc]; exact blkOk_by k2
            have GB := G.blk (scope := scope) ok.kind
            refine (ps_setLc2 G.calm hN hi hyl sw (cIQ_snd G S0.V h1) ok (own_sub k4.2) (fun s H C cl fp => cG_snd (GB s H C cl fp) n h2) (fun s H C cl fp => cIfs_snd (S _ _ (GB s H C cl fp)).T h3) (fun s H C cl fp => cI_snd (GB s H C cl fp) (S _ _ (GB s H C cl fp)).V h5)
              (fun s H C cl fp => cG_snd (GB s H C cl fp) n h6) (fun s H C cl fp => cIfs_snd (S _ _ (GB s H C cl fp)).T h7) (fun s H C cl fp => (S _ _ (GB s H C cl fp)).V _ _ h4) (set_pure k3) (fun env => set_pure k5)).imp fun D σ H h => own_read fz (fun _ _ _ h => lc2_read (own_sub k4.1) (fun i hi => hi) h) h
          · cases h
        · cases h
      · cases h
    · cases h
  · cases h
theorem cF_lc {n : Nat} {elt : Expr} {gens : List Comprehension} {scope : Scope} {pos : Pos} {z : C} (h : (cmpl n c).F (.ListComp elt gens scope pos) = some z) : ∃ m, n = m + 1 ∧ cComp (cmpl m) m c elt gens scope = some z := by
  cases n with
  | zero => cases h
  | succ m => exact ⟨m, rfl, h⟩
theorem swN_ok {y : Str} {py : Pos} {e : Expr} {l : Nat} (G : Good call c X) (h : swN c y py e = true) : swapsWith e (some (.Name y py)) l X.env = pure false := by
  cases e with
  | ListComp elt gs scope pos =>
    have hb : X.env.blockKind = .function := by unfold Env.blockKind; rw [G.sc, G.kind]; rfl
    have hk : X.env.kindOf y = c.sc.names.lookup y := by unfold Env.kindOf; rw [G.sc]
    unfold swapsWith
    dsimp only
    simp only [hb, hk, Expr.pos]
    have h' : (c.sc.names.lookup y == some .local && py.line == pos.line && !(scope.names.any fun (n, k) => n == y && (k == .local || k == .cell))) = false := by
      have h3 : (!(c.sc.names.lookup y == some .local && py.line == pos.line && !(scope.names.any fun (n, k) => n == y && (k == .local || k == .cell)))) = true := h
      rw [Bool.not_eq_true'] at h3
      exact h3
    have e1 : (ScopeKind.function == ScopeKind.function && c.sc.names.lookup y == some .local && py.line == pos.line && !(scope.names.any fun (n, k) => n == y && (k == .local || k == .cell))) = false := by
      rw [show (ScopeKind.function == ScopeKind.function) = true from rfl, Bool.true_and]
      exact h'
    exact congrArg pure e1
  | _ => first | rfl | cases h
theorem cSub2_snd {n : Nat} (G : Good call c X) {ts : List Expr} {kt : Nat} {pt pos : Pos} {e : Expr} {s : S} (h : cSub2 n c ts e = some s) (sw : swapsWithSole [.Tuple ts kt pt] e pos.line X.env = pure false) (sp : swappedStores [.Tuple ts kt pt] e X.env = pure none) : PS X (.Assign [.Tuple ts kt pt] e pos) (tS X.K call w0 H0 s) := by
  have S0 := cmpl_snd call n c X G
  unfold cSub2 at h
  split at h
  · rename_i x p1 b p2 y p3 b' p4
    split at h
    · rename_i hk
      split at h
      · rename_i i ci j cj z hi hci hj hcj hz
        cases h
        refine s_seti2 _ G.calm (G.var hi) (cQ_snd G S0.V hci) (G.var hj) (cQ_snd G S0.V hcj) (S0.V _ _ hz) sw sp (fun v => ?_) (fun v => ?_)
        · cases b <;> first | rfl | (cases hk.1; done)
        · cases b' <;> first | rfl | (cases hk.2; done)
      · cases h
    · cases h
  · cases h
theorem cAsg_snd {n : Nat} (G : Good call c X) {tg e : Expr} {pos : Pos} {s : S} (h : cAsg n c tg e = some s) : PS X (.Assign [tg] e pos) (tS X.K call w0 H0 s) := by
  have S0 := cmpl_snd call n c X G
  have hN : X.N.Nodup := by rw [G.N]; exact G.nd
  unfold cAsg at h
  split at h
  · -- a name
    rename_i x px
    split at h
    · cases h
    · rename_i i hi
      split at h
      · rename_i hst
        have hsw : swN c x px e = true := by
          unfold isSt2 at hst
          split at hst
          · rfl
          · cases hst
        have sw : swapsWithSole [.Name x px] e pos.line X.env = pure false := swN_ok (l := pos.line) G hsw
        unfold isSt2 at hst
        split at hst
        · cases h
          exact s_asg _ e_st2 (g_var (G.store hi)) sw sw_name rfl
        · cases hst
      split at h
      · rename_i hsw
        rw [Option.map_eq_some_iff] at h
        obtain ⟨z, h1, rfl⟩ := h
        cases e <;> first | (cases hsw; done) | skip
        obtain ⟨m, rfl, h2⟩ := cF_lc h1
        exact setLc G _ hi hsw h2
      · split at h
        · rename_i hsw
          have sw : swapsWithSole [.Name x px] e pos.line X.env = pure false := swN_ok (l := pos.line) G hsw
          split at h
          · rename_i z hz
            cases h
            split at hz
            · exact s_own _ (S0.F _ _ hz) (G.store hi) sw sw_name
            · cases hz
          · rw [Option.map_eq_some_iff] at h
            obtain ⟨z, h1, rfl⟩ := h
            exact s_asg _ (S0.V _ _ h1) (g_var (G.store hi)) sw sw_name rfl
        · cases h
  · -- several names
    rename_i ts kt pt
    split at h
    · rename_i hnc
      have sw : swapsWithSole [.Tuple ts kt pt] e pos.line X.env = pure false := swaps_tup (ts := ts) (k := kt) (p := pt) (e := e) (l := pos.line) (env := X.env)
      split at h
      · rename_i vs k2 p2
        split at h
        · rename_i hq
          split at h
          · rename_i g z hg hz
            cases h
            exact s_asg _ (S0.V _ _ hz) (cG_snd G n hg) sw (swq_ok G.sc G.kind hq) rfl
          · exact cSub2_snd G h sw (swq_ok G.sc G.kind hq)
        · split at h
          · split at h
            · rename_i hk
              obtain ⟨k1, k2, k3⟩ := hk
              split at h
              · rename_i i j hi hj
                split at h
                · rename_i hij
                  split at h
                  · rename_i z2 hz2
                    rw [Option.map_eq_some_iff] at h
                    obtain ⟨z, hz, h⟩ := h
                    cases h
                    split at hz2
                    · rename_i hb
                      exact s_paro _ G.calm hN (by rw [G.N]; exact ixOf_get hi) (by rw [G.N]; exact ixOf_get hj) hij (by rw [G.sc]; exact k1) (by rw [G.sc]; exact k2) (S0.V _ _ hz) (S0.F _ _ hz2) (star_cons hb.2.2.1) (star_cons hb.2.2.2) (swq_ok G.sc G.kind k3)
                    · cases hz2
                  · rw [Option.map_eq_some_iff] at h
                    obtain ⟨cs, hcs, h⟩ := h
                    cases h
                    exact s_par2 _ G.calm hN (by rw [G.N]; exact ixOf_get hi) (by rw [G.N]; exact ixOf_get hj) hij (by rw [G.sc]; exact k1) (by rw [G.sc]; exact k2) (cAs_snd S0.V hcs).1 (swq_ok G.sc G.kind k3)
                · cases h
              · cases h
            · cases h
          · split at h
            · rename_i hk
              obtain ⟨k1, k2, k4, k3⟩ := hk
              split at h
              · rename_i i j l cs hi hj hl hcs
                split at h
                · rename_i hij
                  cases h
                  exact s_par3 _ G.calm hN (by rw [G.N]; exact ixOf_get hi) (by rw [G.N]; exact ixOf_get hj) (by rw [G.N]; exact ixOf_get hl) hij.1 hij.2.1 hij.2.2 (by rw [G.sc]; exact k1) (by rw [G.sc]; exact k2) (by rw [G.sc]; exact k4) (cAs_snd S0.V hcs).1 (swq_ok G.sc G.kind k3)
                · cases h
              · cases h
            · cases h
          · cases h
        · cases h
      · split at h
        · rename_i ht
          split at h
          · rename_i g z hg hz
            cases h
            exact s_asg _ (S0.V _ _ hz) (cG_snd G n hg) sw (sw_tup ht) rfl
          · cases h
        · cases h
    · cases h
  · -- an item
    rename_i x p1 b p2
    split at h
    · rename_i hk
      split at h
      · rename_i i ci z hi hci hz
        cases h
        refine s_seti _ (G.var hi) (cQ_snd G S0.V hci) (S0.V _ _ hz) (swaps_no (t := some (.Subscript (.Name x p1) b p2)) (l := pos.line) (env := X.env) hk.1) sw_sub fun v => ?_
        cases b <;> first | rfl | (cases hk.2; done)
      · cases h
    · cases h
  · cases h
theorem cS_snd : ∀ (n : Nat) {st : Stmt} {s : S}, Good call c X → cS n c st = some s → PS X st (tS X.K call w0 H0 s)
  | 0, _, _, _, h => by cases h
  | n + 1, st, s, G, h => by
    have S0 := cmpl_snd call n c X G
    have hN : X.N.Nodup := by rw [G.N]; exact G.nd
    have B := fun {ss r} (h : cSs (cS n c) ss = some r) => cSs_snd (X := X) (call := call) (w0 := w0) (H0 := H0) (fun st s h => cS_snd n G h) h
    have hp : PassesOwn (model X.prog X.w) X.A X.env X.xe := by rw [G.never]; exact PassesOwn.never
    unfold cS at h
    split at h
    · exact cAsg_snd G h
    · split at h
      · rename_i i z hi hz
        cases h
        have hi' := hi
        unfold stored at hi
        split at hi
        · rename_i k
          refine s_aug hN (by rw [G.N]; exact ixOf_get hi) ?_ (S0.V _ _ hz) ?_
          · rw [G.sc]
            rcases k with k | k
            · exact .inl k
            · exact .inr k.1
          · rw [G.sc]
            rcases k with k | k
            · exact .inr k
            · exact .inl (G.fn _ k.2)
        · cases hi
      · cases h
    · split at h
      · rename_i hb
        split at h
        · rename_i i ci z hi hci hz
          cases h
          exact s_augx (G.var hi) (cQ_snd G S0.V hci) (S0.V _ _ hz) hb
        · cases h
      · cases h
    · split at h
      · rename_i hk
        obtain ⟨rfl, k2, k3⟩ := hk
        split at h
        · rename_i i z hi hz
          cases h
          exact s_app _ (G.var hi) (S0.V _ _ hz) k2 (star_cons k3)
        · cases h
      · cases h
    · split at h
      · rename_i hk
        obtain ⟨rfl, k2, k3, k4⟩ := hk
        split at h
        · rename_i i z1 z hi hz1 hz
          cases h
          exact s_ins _ (G.var hi) (S0.V _ _ hz1) (S0.V _ _ hz) k2 (by rw [star_cons k3, star_cons k4]; rfl) (star_cons k4)
        · cases h
      · cases h
    · cases h
      exact s_doc
    · split at h
      · rename_i hk
        rw [Option.map_eq_some_iff] at h
        obtain ⟨z, h1, rfl⟩ := h
        exact s_expr (S0.V _ _ h1) (swaps_no hk)
      · cases h
    · split at h
      · rename_i z x y h1 h2 h3
        cases h
        split
        · exact s_if (S0.T _ _ h1) (B h2) (B h3)
        · exact s_ifz _ (S0.T _ _ h1) (B h2) (B h3)
      · cases h
    · split at h
      · rename_i z x h1 h2
        cases h
        exact s_whl hp (S0.T _ _ h1) (B h2)
      · cases h
    · split at h
      · rename_i hk
        split at h
        · rename_i g z x h1 h2 h3
          cases h
          exact s_for _ hp G.calm (cI_snd G S0.V h2) (cG_snd G n h1) (B h3) (set_pure hk)
        · cases h
      · cases h
    · rw [Option.map_eq_some_iff] at h
      obtain ⟨z, h1, rfl⟩ := h
      exact s_ret _ (S0.V _ _ h1)
    · cases h; exact s_retN
    · cases h; exact s_pass
    · cases h; exact s_brk
    · cases h; exact s_cnt
    · cases h
end
end Tv

/-! Tv12: the whole program: each def does what callN says; the law's end. -/
namespace Tv
open PySem PySem.Spec L2
/-- what a def given by what it does promises -/
def spP (K : Frag) (p : List D → GS → Option (D × GS)) : Sp := fun vs H Q _ => ∃ w ds g d g', Ok w H g ∧ Reps K w ds vs ∧ p ds g = some (d, g') ∧ ∀ w' H' v, Ok w' H' g' → Ext w H w' H' → Rep K w' d v → Q v H'
/-- what the program's top gives to all defs -/
structure Top where
  gl : List (Str × D)
  fns : List (Str × Nat)
  bi : List Str
  gcd : List Str
def Top.ctx (t : Top) (N : List Str) (own : List Nat) (sc : Scope) : Ctx := ⟨N, sc, fun _ => true, t.gl, t.fns, t.bi, t.gcd, own⟩
structure Link (K : Frag) (mg : Str → Option Value) (x : Str) (fa : Addr) (fd : FuncData) (ps : List Str) : Prop where
  mg : mg x = some (.ref fa)
  keep : PySem.W.keepIn K (.ref fa) = true
  binds : Binds K fd ps []
/-- the def x, number f of the table: by its body -/
structure BodyOk (K : Frag) (mg : Str → Option Value) (t : Top) (x : Str) (np n : Nat) (b : List S) : Prop where
  ex : ∃ (st : Stmt) (fa : Addr) (fd : FuncData) (N : List Str) (own : List Nat), Fun K x x st fa fd ∧ Link K mg x fa fd (N.take np) ∧ FnScope N (N.take np) (defScope st) ∧ np ≤ N.length ∧ n = N.length ∧ cSs (cS 40 (t.ctx N own (defScope st))) (defBody st) = some b
/-- .. by what it does -/
structure PrimOk (P : Program) (w : World) (K : Frag) (mg : Str → Option Value) (base : Heap) (x : Str) (p : List D → GS → Option (D × GS)) : Prop where
  ex : ∃ (fa : Addr) (fd : FuncData) (ps : List Str), Link K mg x fa fd ps ∧ ∀ k, FnOk P w K mg base CX0 (k + 1) fa fd ps (spP K p)
/-- .. and calls others -/
structure Prim2Ok (P : Program) (w : World) (K : PySem.W.Frag) (mg : Str → Option Value) (base : Heap) (x : Str) (p : List D → GS → Option (D × GS)) : Prop where
  ex : ∃ (fa : Addr) (fd : FuncData) (ps : List Str), Link K mg x fa fd ps ∧ ∀ k, FnOk P w K mg base CX0 (k + 2) fa fd ps (spP K p)
def DefOk (P : Program) (w : World) (K : Frag) (mg : Str → Option Value) (base : Heap) (t : Top) (x : Str) : Df → Prop
  | .body np n b => BodyOk K mg t x np n b
  | .prim p => PrimOk P w K mg base x p
  | .prim2 p => Prim2Ok P w K mg base x p
structure TopOk (P : Program) (w : World) (K : Frag) (mg : Str → Option Value) (base : Heap) (t : Top) (tbl : List Df) : Prop where
  fns : ∀ x f, t.fns.lookup x = some f → ∃ d, tbl[f]? = some d ∧ DefOk P w K mg base t x d
  gl : ∀ x d, t.gl.lookup x = some d → ∃ v u, mg x = some u ∧ RelV v u ∧ ∀ w, Rep K w d v
  bi : ∀ x, t.bi.contains x = true → mg x = none
  gcd : ∀ x, t.gcd.contains x = true → mg x = some (.builtin (mathId x))

theorem start_rel {K : Frag} {w : W} {H : Hp} {ds : List D} {vs : List V} {N : List Str} (r : Reps K w ds vs) (hl : vs.length ≤ N.length) : Rel K w H (startE N.length ds) (L2.start N vs) := by
  have hlen := r.len
  refine ⟨by unfold startE L2.start; simp [hlen], fun i sv h => ?_, fun i j a xs ys ne h _ _ _ => ?_⟩
  · unfold startE at h
    unfold L2.start
    by_cases hi : i < ds.length
    · rw [List.getElem?_append_left (by simpa using hi), List.getElem?_map] at h
      rw [List.getElem?_append_left (by rw [List.length_map]; omega), List.getElem?_map]
      obtain ⟨d, hd⟩ : ∃ d, ds[i]? = some d := ⟨ds[i], List.getElem?_eq_getElem hi⟩
      rw [hd] at h
      cases h
      obtain ⟨v, h1, h2⟩ := r.get hd
      exact ⟨some v, by rw [h1]; rfl, v, rfl, h2⟩
    · rw [List.getElem?_append_right (by simpa using hi), List.getElem?_replicate] at h
      split at h
      · rename_i hk
        cases h
        refine ⟨none, ?_, trivial⟩
        rw [List.getElem?_append_right (by rw [List.length_map]; omega), List.getElem?_replicate, if_pos (by simp at hk ⊢; omega)]
      · cases h
  · unfold startE at h
    by_cases hi : i < ds.length
    · rw [List.getElem?_append_left (by simpa using hi), List.getElem?_map] at h
      cases q : ds[i]? with
      | none => rw [q] at h; cases h
      | some d => rw [q] at h; cases h
    · rw [List.getElem?_append_right (by simpa using hi), List.getElem?_replicate] at h
      split at h <;> cases h
theorem start_own {n : Nat} {ds : List D} {i : Nat} {xs : List D} (h : (startE n ds)[i]? = some (.own xs)) : False := by
  unfold startE at h
  by_cases hi : i < ds.length
  · rw [List.getElem?_append_left (by simpa using hi), List.getElem?_map] at h
    cases q : ds[i]? with
    | none => rw [q] at h; cases h
    | some d => rw [q] at h; cases h
  · rw [List.getElem?_append_right (by simpa using hi), List.getElem?_replicate] at h
    split at h <;> cases h

/-- THE PROGRAM: every def of the table does at level n what callN says -/
theorem prog_ok {P : Program} {w : World} {K : Frag} {mg : Str → Option Value} {base : Heap} {t : Top} {tbl : List Df} (T : TopOk P w K mg base t tbl) :
    ∀ (n : Nat) (x : Str) (f : Nat), t.fns.lookup x = some f → ∃ (fa : Addr) (fd : FuncData) (ps : List Str), FnOk P w K mg base CX0 n fa fd ps (spT K (callN tbl n) f) ∧ Link K mg x fa fd ps
  | 0, x, f, h => by
    obtain ⟨d, h1, h2⟩ := T.fns x f h
    have no : ∀ {fa : Addr} {fd : FuncData} {ps : List Str}, FnOk P w K mg base CX0 0 fa fd ps (spT K (callN tbl 0) f) :=
      ⟨fun vs H Q E ⟨_, _, _, _, _, _, _, z, _⟩ => (by cases z), fun A outer s H args us vs Q E _ _ _ _ ⟨_, _, _, _, _, _, _, z, _⟩ => (by cases z)⟩
    cases d with
    | body np n b =>
      obtain ⟨st, fa, fd, N, own, _, L, _⟩ := h2.ex
      exact ⟨fa, fd, _, no, L⟩
    | prim p =>
      obtain ⟨fa, fd, ps, L, _⟩ := h2.ex
      exact ⟨fa, fd, ps, no, L⟩
    | prim2 p =>
      obtain ⟨fa, fd, ps, L, _⟩ := h2.ex
      exact ⟨fa, fd, ps, no, L⟩
  | n + 1, x, f, h => by
    obtain ⟨d, h1, h2⟩ := T.fns x f h
    have hc : callN tbl (n + 1) f = match d with
        | .body np k b => fun args g => runD (callN tbl n) np k b args g
        | .prim p => fun args g => p args g
        | .prim2 p => fun args g => match n with
          | 0 => none
          | _ + 1 => p args g := by
      funext args g
      simp only [callN, h1]
      cases d <;> rfl
    cases d with
    | prim p =>
      obtain ⟨fa, fd, ps, L, F⟩ := h2.ex
      refine ⟨fa, fd, ps, (F n).imp fun vs H Q E ⟨w', ds, g, d, g', o, r, e, q⟩ => ⟨w', ds, g, d, g', o, r, ?_, q⟩, L⟩
      rw [hc] at e
      exact e
    | prim2 p =>
      obtain ⟨fa, fd, ps, L, F⟩ := h2.ex
      cases n with
      | zero => exact ⟨fa, fd, ps, ⟨fun vs H Q E ⟨_, _, _, _, _, _, _, z, _⟩ => (by rw [hc] at z; cases z), fun A outer s H args us vs Q E _ _ _ _ ⟨_, _, _, _, _, _, _, z, _⟩ => (by rw [hc] at z; cases z)⟩, L⟩
      | succ n =>
        refine ⟨fa, fd, ps, (F n).imp fun vs H Q E ⟨w', ds, g, d, g', o, r, e, q⟩ => ⟨w', ds, g, d, g', o, r, ?_, q⟩, L⟩
        rw [hc] at e
        exact e
    | body np k b =>
      obtain ⟨st, fa, fd, N, own, F, L, S, hnp, hn, hb⟩ := h2.ex
      have hlen : ∀ {vs H Q E}, spT K (callN tbl (n + 1)) f vs H Q E → vs.length = (N.take np).length := fun {vs H Q E} ⟨w', ds, g, d, g', o, r, e, q⟩ => by
        rw [hc] at e
        simp only [runD] at e
        split at e
        · rename_i hl
          rw [← r.len, List.length_take]; omega
        · cases e
      refine ⟨fa, fd, N.take np, F.ok S (fun vs H Q E h => hlen h) fun cdv A outer s H vs Q E hr hsp => ?_, L⟩
      have hl := hlen hsp
      obtain ⟨w', ds, g, d, g', o, r, e, q⟩ := hsp
      have G : Good (callN tbl n) (t.ctx N own (defScope st)) (cxOf CX0 P w K mg base N x (defScope st) fa cdv A outer s H E).nox :=
        ⟨rfl, rfl, S.nd, rfl, S.kind, fun _ _ => rfl, T.gl, fun y f' hy => by
          obtain ⟨fa', fd', ps', F', L'⟩ := prog_ok T n y f' hy
          exact ⟨fa', fd', ps', n, F', hr, L'.mg, L'.keep, L'.binds⟩, T.bi, T.gcd, by have := hr.un; show (A.deeper _).units + 65 < cLine; omega, rfl⟩
      rw [hc] at e
      simp only [runD] at e
      split at e
      · rename_i hargs
        obtain ⟨rr, g1, e1, e⟩ := bnd_eq e
        rw [Option.map_eq_some_iff] at e
        obtain ⟨d', e2, e3⟩ := e
        cases e3
        refine ⟨tSs K (callN tbl n) w' H b, cSs_snd (X := (cxOf CX0 P w K mg base N x (defScope st) fa cdv A outer s H E).nox) (fun st' s' h' => cS_snd 40 G h') hb, w', startE k ds, g, rr, _, ⟨o, ?_, Ext.refl _ _, fun i xs a hi _ => (start_own hi).elim⟩, e1, ?_⟩
        · rw [hn]
          exact start_rel r (by rw [hl, List.length_take]; omega)
        · cases rr with
          | nx ρ => cases e2; exact fun w2 σ2 H2 s2 _ => q w2 H2 .non s2.ok s2.ext rfl
          | rt d2 => cases e2; exact fun w2 H2 v o2 x2 r2 => q w2 H2 v o2 x2 r2
          | bk ρ => cases e2
          | ct ρ => cases e2
      · cases e
/-- the law's promise, at its call -/
theorem law_sp {K : Frag} {H : Hp} {a : Addr} {ns : List Int} {call : Calls} {f : Nat} (hS : SqL K H a (ns.map V.int)) (h : ∃ g', call f [.scr ns] .none = some (.bl true, g')) : spT K call f [.ref a] H (fun v _ => v = .bl true) fun _ _ _ => False := by
  obtain ⟨g', h⟩ := h
  exact ⟨⟨H, []⟩, [.scr ns], .none, .bl true, g', ⟨Same.refl _, rfl, fun _ z => (by cases z)⟩, ⟨⟨a, rfl, hS⟩, trivial⟩, h, fun w' H' v _ _ r => r⟩
end Tv

/-! Tv13: the drawing state of the laws' first kind: what _law_state and _law_draw do. -/
namespace Tv
open PySem PySem.Spec L2
def seedOf : List Int → Int → Int
  | [], s => s
  | c :: r, s => seedOf r ((s * 31 + c) % 1000003)
def absI (i : Int) : Int := if i < 0 then -i else i
def stateP : List D → GS → Option (D × GS)
  | [.scr ns], .none => if ns.length ≤ 63 then some (.st, .one (ns.map absI) (seedOf ns 7 + 1)) else none
  | _, _ => none
/-- one number below many -/
def drawN (cells : List Int) (seed many : Int) : Int × GS := match cells.dropWhile (· == 0) with
  | v :: r => (v % many, .one (v / many :: r) seed)
  | [] => ((seed * 48271 + 12345) % 2147483647 / 64 % many, .one [] ((seed * 48271 + 12345) % 2147483647))
def drawP : List D → GS → Option (D × GS)
  | [.st, .int many], .one cells seed => if 0 < many ∧ many < 1208925819614629174706176 then some (.int (drawN cells seed many).1, (drawN cells seed many).2) else none
  | _, _ => none
theorem op_fdivP {X : Cx} : OpR X (binaryOp .FloorDiv) (rI (fun i j => 0 < j ∧ j < 1208925819614629174706176) fun i j => .int (i / j)) := by
  intro pins s σ H x y v u Q I r1 r2 ⟨i, j, e1, e2, hc, q⟩
  have hd : divOk i j = true := by
    unfold divOk
    have h2 : j.natAbs < 2 ^ 9000 := Nat.lt_trans (show j.natAbs < 1208925819614629174706176 by omega) (by decide +kernel)
    rw [Nat.blt_eq.mpr h2, decide_eq_true hc.1, Bool.and_self, Bool.or_true]
  refine op_fdivAny pins s σ H x y v u Q I r1 r2 ⟨i, j, e1, e2, divOk_W hd, ?_⟩
  show Q (.int (i.fdiv j)) H
  rw [Int.fdiv_eq_ediv_of_nonneg i (by omega)]
  exact q
theorem drawN_lo (cells : List Int) (seed many : Int) (h : 0 < many) : 0 ≤ (drawN cells seed many).1 ∧ (drawN cells seed many).1 < many := by
  unfold drawN
  split
  · exact ⟨Int.emod_nonneg _ (by omega), Int.emod_lt_of_pos _ h⟩
  · exact ⟨Int.emod_nonneg _ (by omega), Int.emod_lt_of_pos _ h⟩
theorem len_dropWhile (l : List Int) : (l.dropWhile (· == 0)).length ≤ l.length := by
  induction l with
  | nil => exact Nat.le_refl _
  | cons x r ih =>
    rw [List.dropWhile_cons]
    split
    · exact Nat.le_succ_of_le ih
    · exact Nat.le_refl _
/-- the state's two objects changed -/
theorem one_upd {w : W} {H : Hp} {a c : Addr} {cells cs : List Int} {seed s' : Int} (o : Ok w H (.one cells seed)) (hst : w.st = [a, c]) (ne : a ≠ c) (hl : cs.length ≤ 64) :
    Ok w (upd (upd H c (.lst (cs.map V.int))) a (.lst [.ref c, .int s'])) (.one cs s') ∧ Ext w H w (upd (upd H c (.lst (cs.map V.int))) a (.lst [.ref c, .int s'])) := by
  have ha : w.F a = none := o.out a (by rw [hst]; simp)
  have hc : w.F c = none := o.out c (by rw [hst]; simp)
  have na : H a ≠ none := o.addr_st (by rw [hst]; simp)
  have nc : H c ≠ none := o.addr_st (by rw [hst]; simp)
  refine ⟨⟨fun b u e => ?_, ⟨a, c, hst, ne, upd_same, by rw [upd_ne ne.symm, upd_same], hl⟩, o.out⟩, ⟨Same.refl _, .inr rfl, fun b u h m => ?_, fun b u h => .inl h, fun b h => .inl h, fun b h => ?_⟩⟩
  · rw [upd_ne (ne_of_none e ha), upd_ne (ne_of_none e hc)]
    exact o.same b u e
  · rw [hst] at m
    simp only [List.mem_cons, List.not_mem_nil, or_false, not_or] at m
    rw [upd_ne m.1, upd_ne m.2]; exact h
  · by_cases e1 : b = a
    · subst e1; rw [upd_same] at h; cases h
    · rw [upd_ne e1] at h
      by_cases e2 : b = c
      · subst e2; rw [upd_same] at h; cases h
      · rw [upd_ne e2] at h; exact h
/-- the state is made -/
theorem one_new {w : W} {H H1 : Hp} {a c : Addr} {cs : List Int} {s : Int} (o : Ok w H .none) (n1 : H c = none) (h1 : H1 = upd H c (.lst (cs.map V.int))) (n2 : H1 a = none) (hl : cs.length ≤ 64) :
    Ok ⟨w.F, [a, c]⟩ (upd H1 a (.lst [.ref c, .int s])) (.one cs s) ∧ Ext w H ⟨w.F, [a, c]⟩ (upd H1 a (.lst [.ref c, .int s])) := by
  subst h1
  have ne : a ≠ c := fun e => by subst e; rw [upd_same] at n2; cases n2
  have na : H a = none := by rw [upd_ne ne] at n2; exact n2
  have hst : w.st = [] := o.st
  refine ⟨⟨fun b u e => ?_, ⟨a, c, rfl, ne, upd_same, by rw [upd_ne ne.symm, upd_same], hl⟩, fun b m => ?_⟩, ⟨Same.refl _, .inl hst, fun b u h m => ?_, fun b u h => .inl h, fun b m => ?_, fun b h => ?_⟩⟩
  · have hb := o.same b u e
    rw [upd_ne (ne_of_none hb na), upd_ne (ne_of_none hb n1)]
    exact hb
  · have m' : b ∈ [a, c] := m
    simp only [List.mem_cons, List.not_mem_nil, or_false] at m'
    rcases m' with e | e
    · subst e; exact o.free na
    · subst e; exact o.free n1
  · rw [upd_ne (ne_of_none h na), upd_ne (ne_of_none h n1)]; exact h
  · have m' : b ∈ [a, c] := m
    simp only [List.mem_cons, List.not_mem_nil, or_false] at m'
    rcases m' with e | e
    · subst e; exact .inr na
    · subst e; exact .inr n1
  · by_cases e1 : b = a
    · subst e1; exact na
    · rw [upd_ne e1] at h
      by_cases e2 : b = c
      · subst e2; exact n1
      · rw [upd_ne e2] at h; exact h
theorem seedOf_app (s : Int) (x : Int) : ∀ l : List Int, ∀ s, seedOf (l ++ [x]) s = (seedOf l s * 31 + x) % 1000003
  | [], s => rfl
  | c :: r, s => by
    show seedOf (r ++ [x]) _ = _
    rw [seedOf_app s x r]; rfl
theorem iff_f {b : Bool} {p q : Prop} (h : b = false) (hq : q) : if b = true then p else q := by subst h; exact hq
theorem iff_t {b : Bool} {p q : Prop} (h : b = true) (hp : p) : if b = true then p else q := by subst h; exact hp
theorem bi2 {mg : Str → Option Value} {a b : Str} (ha : mg a = none) (hb : mg b = none) : ∀ x, [a, b].contains x = true → mg x = none := fun x z => by
  rcases List.mem_cons.mp (List.contains_iff_mem.mp z) with e | e
  · rw [e]; exact ha
  · rcases List.mem_cons.mp e with e | e
    · rw [e]; exact hb
    · cases e
def noCall : Calls := fun _ _ _ => none
def stCtx (sc : Scope) : Ctx := Top.ctx ⟨[], [], ["abs", "int"], []⟩ ["script", "seed", "cell"] [] sc
def stFor : S := .for [] (.var 2) (.var 0) [.asg [] (.var 1) (.bin .mod (.bi .int [.bin .add (.bin .mul (.var 1) (.lit (.int 31))) (.var 2)]) (.lit (.int 1000003)))]
def stComp : C := .comp [2] (.var 2) (.var 0) (.lit (.bl true)) (.bi .abs [.var 2])
theorem stateP_eq {ds : List D} {g : GS} {d : D} {g' : GS} (e : stateP ds g = some (d, g')) : ∃ ns, ds = [.scr ns] ∧ g = .none ∧ ns.length ≤ 63 ∧ d = .st ∧ g' = .one (ns.map absI) (seedOf ns 7 + 1) := by
  unfold stateP at e
  split at e
  · rename_i ns
    by_cases hm : ns.length ≤ 63
    · rw [if_pos hm] at e
      have e1 := Option.some.inj e
      exact ⟨ns, rfl, rfl, hm, (congrArg Prod.fst e1).symm, (congrArg Prod.snd e1).symm⟩
    · rw [if_neg hm] at e
      cases e
  · cases e
theorem reps_one {K : Frag} {w : W} {d : D} {vs : List V} (r : Reps K w [d] vs) : ∃ v, vs = [v] ∧ Rep K w d v := by
  cases vs with
  | nil => cases r
  | cons v t =>
    cases t with
    | nil => exact ⟨v, rfl, r.1⟩
    | cons _ _ => cases r.2
theorem rep_scr {K : Frag} {w : W} {ns : List Int} {v : V} (r : Rep K w (.scr ns) v) : ∃ a, v = .ref a ∧ SqL K w.F a (ns.map V.int) := r
theorem spState {K : Frag} {vs : List V} {H : Hp} {Q : VK} {E : XK} (h : spP K stateP vs H Q E) : ∃ w a ns, vs = [.ref a] ∧ Ok w H .none ∧ SqL K w.F a (ns.map V.int) ∧ ns.length ≤ 63 ∧
      (∀ w' H' v, Ok w' H' (.one (ns.map absI) (seedOf ns 7 + 1)) → Ext w H w' H' → Rep K w' .st v → Q v H') := by
  obtain ⟨w, ds, g, d, g', o, r, e, q⟩ := h
  obtain ⟨ns, rfl, rfl, hm, rfl, rfl⟩ := stateP_eq e
  obtain ⟨v, rfl, r1⟩ := reps_one r
  obtain ⟨a, rfl, r2⟩ := rep_scr r1
  exact ⟨w, a, ns, rfl, o, r2, hm, q⟩
/-! the second kind: state = [0, 0]; _law_refill, _law_draw(state, script, size) -/
def cellN (ns : List Int) (k : Int) : Int := match ns with
  | [] => 0
  | _ => ns.getD (k % (ns.length : Int)).toNat 0
def oddN (c : Int) : Int := if c < 0 then 1 - 2 * c else c
def refillN (ns : List Int) (k : Int) : Int :=
  if 10 ^ 18 ≤ oddN (cellN ns k) ∧ k < ns.length then oddN (cellN ns k) else ((oddN (cellN ns k) * 48271 + k * 69621 + 12345) * 40692 + 7) % 2147483399
def refillP : List D → GS → Option (D × GS)
  | [.scr ns, .int k], g => if 0 ≤ k ∧ ns.length ≤ 63 then some (.int (refillN ns k), g) else none
  | _, _ => none
def draw2N (ns : List Int) (k v size : Int) : Int × GS :=
  if v = 0 then (refillN ns k % size, .two (k + 1) (refillN ns k / size)) else (v % size, .two k (v / size))
def draw2P : List D → GS → Option (D × GS)
  | [.st, .scr ns, .int size], .two k v => if 0 ≤ k ∧ ns.length ≤ 63 ∧ 0 < size ∧ size < 1073741824 then some (.int (draw2N ns k v size).1, (draw2N ns k v size).2) else none
  | _, _ => none
theorem draw2N_lo (ns : List Int) (k v size : Int) (h : 0 < size) : 0 ≤ (draw2N ns k v size).1 ∧ (draw2N ns k v size).1 < size := by
  unfold draw2N
  split
  · exact ⟨Int.emod_nonneg _ (by omega), Int.emod_lt_of_pos _ h⟩
  · exact ⟨Int.emod_nonneg _ (by omega), Int.emod_lt_of_pos _ h⟩
theorem draw2N_st (ns : List Int) (k v size : Int) (h : 0 ≤ k) : ∃ k' v', (draw2N ns k v size).2 = .two k' v' ∧ 0 ≤ k' := by
  unfold draw2N
  split
  · exact ⟨_, _, rfl, by omega⟩
  · exact ⟨_, _, rfl, h⟩
theorem two_upd {w : W} {H : Hp} {a : Addr} {k v k' v' : Int} (o : Ok w H (.two k v)) (hst : w.st = [a]) :
    Ok w (upd H a (.lst [.int k', .int v'])) (.two k' v') ∧ Ext w H w (upd H a (.lst [.int k', .int v'])) := by
  have ha : w.F a = none := o.out a (by rw [hst]; simp)
  have na : H a ≠ none := o.addr_st (by rw [hst]; simp)
  refine ⟨⟨fun b u e => ?_, ⟨a, hst, upd_same⟩, o.out⟩, ⟨Same.refl _, .inr rfl, fun b u h m => ?_, fun b u h => .inl h, fun b h => .inl h, fun b h => ?_⟩⟩
  · rw [upd_ne (ne_of_none e ha)]
    exact o.same b u e
  · rw [hst] at m
    simp only [List.mem_cons, List.not_mem_nil, or_false] at m
    rw [upd_ne m]; exact h
  · by_cases e1 : b = a
    · subst e1; rw [upd_same] at h; cases h
    · rw [upd_ne e1] at h; exact h
theorem reps_two {K : Frag} {w : W} {d e : D} {vs : List V} (r : Reps K w [d, e] vs) : ∃ v u, vs = [v, u] ∧ Rep K w d v ∧ Rep K w e u := by
  cases vs with
  | nil => cases r
  | cons v t =>
    obtain ⟨u, rfl, h⟩ := reps_one (show Reps K w [e] t from r.2)
    exact ⟨v, u, rfl, r.1, h⟩
theorem reps_three {K : Frag} {w : W} {d e f : D} {vs : List V} (r : Reps K w [d, e, f] vs) : ∃ v u t, vs = [v, u, t] ∧ Rep K w d v ∧ Rep K w e u ∧ Rep K w f t := by
  cases vs with
  | nil => cases r
  | cons v t =>
    obtain ⟨u, t, rfl, h, h'⟩ := reps_two (show Reps K w [e, f] t from r.2)
    exact ⟨v, u, t, rfl, r.1, h, h'⟩
theorem rep_int {K : Frag} {w : W} {i : Int} {v : V} (r : Rep K w (.int i) v) : v = .int i := r
theorem rep_st {K : Frag} {w : W} {v : V} (r : Rep K w .st v) : ∃ a, w.st.head? = some a ∧ v = .ref a := r
theorem refillP_eq {ds : List D} {g : GS} {d : D} {g' : GS} (e : refillP ds g = some (d, g')) : ∃ ns k, ds = [.scr ns, .int k] ∧ 0 ≤ k ∧ ns.length ≤ 63 ∧ d = .int (refillN ns k) ∧ g' = g := by
  unfold refillP at e
  split at e
  · rename_i ns k
    by_cases hm : 0 ≤ k ∧ ns.length ≤ 63
    · rw [if_pos hm] at e
      have e1 := Option.some.inj e
      exact ⟨ns, k, rfl, hm.1, hm.2, (congrArg Prod.fst e1).symm, (congrArg Prod.snd e1).symm⟩
    · rw [if_neg hm] at e
      cases e
  · cases e
theorem draw2P_eq {ds : List D} {g : GS} {d : D} {g' : GS} (e : draw2P ds g = some (d, g')) : ∃ ns k v size, ds = [.st, .scr ns, .int size] ∧ g = .two k v ∧ 0 ≤ k ∧ ns.length ≤ 63 ∧ 0 < size ∧ size < 1073741824 ∧ d = .int (draw2N ns k v size).1 ∧ g' = (draw2N ns k v size).2 := by
  unfold draw2P at e
  split at e
  · rename_i ns size k v
    by_cases hm : 0 ≤ k ∧ ns.length ≤ 63 ∧ 0 < size ∧ size < 1073741824
    · rw [if_pos hm] at e
      have e1 := Option.some.inj e
      exact ⟨ns, k, v, size, rfl, rfl, hm.1, hm.2.1, hm.2.2.1, hm.2.2.2, (congrArg Prod.fst e1).symm, (congrArg Prod.snd e1).symm⟩
    · rw [if_neg hm] at e
      cases e
  · cases e
theorem spRefill {K : Frag} {vs : List V} {H : Hp} {Q : VK} {E : XK} (h : spP K refillP vs H Q E) : ∃ w g a ns k, vs = [.ref a, .int k] ∧ Ok w H g ∧ SqL K w.F a (ns.map V.int) ∧ 0 ≤ k ∧ ns.length ≤ 63 ∧
      (∀ w' H' v, Ok w' H' g → Ext w H w' H' → Rep K w' (.int (refillN ns k)) v → Q v H') := by
  obtain ⟨w, ds, g, d, g', o, r, e, q⟩ := h
  obtain ⟨ns, k, rfl, h0, hl, rfl, rfl⟩ := refillP_eq e
  obtain ⟨v, u, rfl, r1, r2⟩ := reps_two r
  obtain ⟨a, rfl, r3⟩ := rep_scr r1
  rw [rep_int r2]
  exact ⟨w, g', a, ns, k, rfl, o, r3, h0, hl, q⟩
theorem spDraw2 {K : Frag} {vs : List V} {H : Hp} {Q : VK} {E : XK} (h : spP K draw2P vs H Q E) : ∃ w c a ns k v size, vs = [.ref c, .ref a, .int size] ∧ Ok w H (.two k v) ∧ w.st = [c] ∧ H c = some (.lst [.int k, .int v]) ∧ SqL K w.F a (ns.map V.int) ∧ 0 ≤ k ∧ ns.length ≤ 63 ∧ 0 < size ∧ size < 1073741824 ∧
      (∀ w' H' u, Ok w' H' (draw2N ns k v size).2 → Ext w H w' H' → Rep K w' (.int (draw2N ns k v size).1) u → Q u H') := by
  obtain ⟨w, ds, g, d, g', o, r, e, q⟩ := h
  obtain ⟨ns, k, v, size, rfl, rfl, h0, hl, h2, h3, rfl, rfl⟩ := draw2P_eq e
  obtain ⟨x, y, z, rfl, r1, r2, r3⟩ := reps_three r
  obtain ⟨a, rfl, r4⟩ := rep_scr r2
  rw [rep_int r3]
  obtain ⟨c', r0, rfl⟩ := rep_st r1
  obtain ⟨c, k1, k2⟩ := o.st
  rw [k1] at r0
  have e0 : c = c' := Option.some.inj r0
  subst e0
  exact ⟨w, c, a, ns, k, v, size, rfl, o, k1, k2, r4, h0, hl, h2, h3, q⟩
end Tv

/-! Tv14: what the top has written: constants, defs; from facts of the head. -/
namespace Tv
open PySem PySem.Spec PyProof.Rows L2
def tupK (K : Frag) (a : Addr) : Option (List Value) := match List.lookup a K with
  | some ⟨.type c, _, .seq its _, _⟩ => if c = "tuple" ∧ its.size ≤ sizeLine then some its.toList else none
  | _ => none
def repKs (f : D → Value → Bool) : List D → List Value → Bool
  | [], [] => true
  | d :: ds, u :: us => f d u && repKs f ds us
  | _, _ => false
def repK (K : Frag) : Nat → D → Value → Bool
  | 0, _, _ => false
  | n + 1, d, u => match d, u with
    | .non, .none => true
    | .bl b, .bool c => b == c
    | .int i, .int j _ => i == j
    | .str x, .str y _ => x == y
    | .tup xs, .ref a => match tupK K a with
      | some us => repKs (repK K n) xs us
      | none => false
    | _, _ => false
theorem repKs_ok {K : Frag} {f : D → Value → Bool} (hf : ∀ d u, f d u = true → ∃ v, RelV v u ∧ ∀ w, Rep K w d v) : ∀ {ds : List D} {us : List Value}, repKs f ds us = true → ∃ vs, Vals vs us ∧ ∀ w, Reps K w ds vs
  | [], [], _ => ⟨[], .nil, fun _ => trivial⟩
  | d :: ds, u :: us, h => by
    unfold repKs at h
    rw [Bool.and_eq_true] at h
    obtain ⟨v, h1, h2⟩ := hf d u h.1
    obtain ⟨vs, h3, h4⟩ := repKs_ok hf h.2
    exact ⟨v :: vs, .cons h1 h3, fun w => ⟨h2 w, h4 w⟩⟩
  | [], _ :: _, h => by cases h
  | _ :: _, [], h => by cases h
theorem repK_ok {K : Frag} : ∀ (n : Nat) (d : D) (u : Value), repK K n d u = true → ∃ v, RelV v u ∧ ∀ w, Rep K w d v
  | 0, _, _, h => by cases h
  | n + 1, d, u, h => by
    unfold repK at h
    split at h
    · exact ⟨.non, rfl, fun _ => rfl⟩
    · rename_i b c
      have e : b = c := by simpa using h
      subst e
      exact ⟨.bl b, rfl, fun _ => rfl⟩
    · rename_i i j t
      have e : i = j := by simpa using h
      subst e
      exact ⟨.int i, ⟨t, rfl⟩, fun _ => rfl⟩
    · rename_i x y t
      have e : x = y := LawfulBEq.eq_of_beq h
      subst e
      exact ⟨.str x, ⟨t, rfl⟩, fun _ => rfl⟩
    · rename_i xs a
      split at h
      · rename_i us hus
        obtain ⟨vs, h1, h2⟩ := repKs_ok (repK_ok n) h
        refine ⟨.ref a, rfl, fun w => ⟨a, vs, rfl, .inr ?_, h2 w⟩⟩
        unfold tupK at hus
        split at hus
        · rename_i c od its m sl hl
          split at hus
          · rename_i hc
            cases hus
            exact ⟨_, its, m, hl, by rw [hc.1], rfl, hc.2, h1⟩
          · cases hus
        · cases hus
      · cases h
    · cases h
def GlOk (K : Frag) (mg : Str → Option Value) : List (Str × D) → Prop
  | [] => True
  | (x, d) :: r => (∃ v u, mg x = some u ∧ RelV v u ∧ ∀ w, Rep K w d v) ∧ GlOk K mg r
theorem GlOk.get {K : Frag} {mg : Str → Option Value} : ∀ {l : List (Str × D)}, GlOk K mg l → ∀ x d, l.lookup x = some d → ∃ v u, mg x = some u ∧ RelV v u ∧ ∀ w, Rep K w d v
  | [], _, _, _, h => by cases h
  | (y, e) :: r, g, x, d, h => by
    rw [List.lookup_cons] at h
    split at h
    · rename_i k
      have k' : x = y := LawfulBEq.eq_of_beq k
      cases h
      rw [k']
      exact g.1
    · exact GlOk.get g.2 x d h
theorem gl_mk {K : Frag} {h : Heap} {mg : Str → Option Value} (X : K.In h) (G : h.Ns mainGlobals mg) {x : Str} {d : D} {u : Value} (n : Nat) (a : PySem.W.nsIn K mainGlobals x = some (some u)) (r : repK K n d u = true) : ∃ v u, mg x = some u ∧ RelV v u ∧ ∀ w, Rep K w d v := by
  obtain ⟨v, h1, h2⟩ := repK_ok n d u r
  exact ⟨v, u, PySem.W.mg_of X G a, h1, h2⟩
def FnsOk (P : Program) (w : World) (K : Frag) (mg : Str → Option Value) (base : Heap) (t : Top) (tbl : List Df) : List (Str × Nat) → Prop
  | [] => True
  | (x, f) :: r => (∃ d, tbl[f]? = some d ∧ DefOk P w K mg base t x d) ∧ FnsOk P w K mg base t tbl r
theorem FnsOk.get {P : Program} {w : World} {K : Frag} {mg : Str → Option Value} {base : Heap} {t : Top} {tbl : List Df} : ∀ {l : List (Str × Nat)}, FnsOk P w K mg base t tbl l → ∀ x f, l.lookup x = some f → ∃ d, tbl[f]? = some d ∧ DefOk P w K mg base t x d
  | [], _, _, _, h => by cases h
  | (y, e) :: r, g, x, d, h => by
    rw [List.lookup_cons] at h
    split at h
    · rename_i k
      have k' : x = y := LawfulBEq.eq_of_beq k
      cases h
      rw [k']
      exact g.1
    · exact FnsOk.get g.2 x d h
def BiOk (mg : Str → Option Value) : List Str → Prop
  | [] => True
  | x :: r => mg x = none ∧ BiOk mg r
theorem BiOk.get {mg : Str → Option Value} : ∀ {l : List Str}, BiOk mg l → ∀ x, l.contains x = true → mg x = none
  | [], _, _, h => by cases h
  | y :: r, g, x, h => by
    rcases List.mem_cons.mp (List.contains_iff_mem.mp h) with e | e
    · rw [e]; exact g.1
    · exact BiOk.get g.2 x (List.contains_iff_mem.mpr e)
def MthOk (mg : Str → Option Value) : List Str → Prop
  | [] => True
  | x :: r => mg x = some (.builtin (mathId x)) ∧ MthOk mg r
theorem MthOk.get {mg : Str → Option Value} : ∀ {l : List Str}, MthOk mg l → ∀ x, l.contains x = true → mg x = some (.builtin (mathId x))
  | [], _, _, h => by cases h
  | y :: r, g, x, h => by
    rcases List.mem_cons.mp (List.contains_iff_mem.mp h) with e | e
    · rw [e]; exact g.1
    · exact MthOk.get g.2 x (List.contains_iff_mem.mpr e)
theorem body_mk {K : Frag} {h : Heap} {mg : Str → Option Value} {t : Top} (X : K.In h) (G : h.Ns mainGlobals mg) {x : Str} {st : Stmt} {fa : Addr} {oc : Value} {od an : Option Addr} {osl : Array (Option Value)} {kV doc pm cdv ct : Value}
    (a : PySem.W.nsIn K mainGlobals x = some (some (.ref fa))) (l : K.lookup fa = some ⟨oc, od, .func (PySem.W.fnOf x x (defArgs st) (defBody st) (defScope st) .none kV doc pm an cdv ct), osl⟩) (c : PySem.W.codeIn K cdv x = true) (k : PySem.W.keepIn K (.ref fa) = true)
    {np n : Nat} {N : List Str} {own : List Nat} {b : List S} (S : FnScope N (N.take np) (defScope st)) (hnp : np ≤ N.length) (hn : n = N.length) (hc : cSs (cS 40 (t.ctx N own (defScope st))) (defBody st) = some b)
    (hb : ∀ (kV doc pm : Value) (an : Option Addr) (cdv ct : Value) (us : List Value), us.length = (N.take np).length → bindArgs (PySem.W.fnOf x x (defArgs st) (defBody st) (defScope st) .none kV doc pm an cdv ct) ⟨us, []⟩ = pure ((N.take np).zip us)) : BodyOk K mg t x np n b := by
  have F := fun_mk (st := st) l c k
  exact ⟨st, fa, _, N, own, F, ⟨PySem.W.mg_of X G a, k, F.binds hb⟩, S, hnp, hn, hc⟩
theorem prim_mk {P : Program} {w : World} {K : Frag} {h : Heap} {mg : Str → Option Value} {base : Heap} (X : K.In h) (G : h.Ns mainGlobals mg) {x : Str} {st : Stmt} {fa : Addr} {oc : Value} {od an : Option Addr} {osl : Array (Option Value)} {kV doc pm cdv ct : Value}
    (a : PySem.W.nsIn K mainGlobals x = some (some (.ref fa))) (l : K.lookup fa = some ⟨oc, od, .func (PySem.W.fnOf x x (defArgs st) (defBody st) (defScope st) .none kV doc pm an cdv ct), osl⟩) (c : PySem.W.codeIn K cdv x = true) (k : PySem.W.keepIn K (.ref fa) = true)
    {ps : List Str} {p : List D → GS → Option (D × GS)} (hf : ∀ {fd : FuncData} {k : Nat}, Fun K x x st fa fd → FnOk P w K mg base CX0 (k + 1) fa fd ps (spP K p))
    (hb : ∀ (kV doc pm : Value) (an : Option Addr) (cdv ct : Value) (us : List Value), us.length = ps.length → bindArgs (PySem.W.fnOf x x (defArgs st) (defBody st) (defScope st) .none kV doc pm an cdv ct) ⟨us, []⟩ = pure (ps.zip us)) : PrimOk P w K mg base x p := by
  have F := fun_mk (st := st) l c k
  exact ⟨fa, _, ps, ⟨PySem.W.mg_of X G a, k, F.binds hb⟩, fun k => hf F⟩
theorem prim2_mk {P : Program} {w : World} {K : Frag} {h : Heap} {mg : Str → Option Value} {base : Heap} (X : K.In h) (G : h.Ns mainGlobals mg) {x : Str} {st : Stmt} {fa : Addr} {oc : Value} {od an : Option Addr} {osl : Array (Option Value)} {kV doc pm cdv ct : Value}
    (a : PySem.W.nsIn K mainGlobals x = some (some (.ref fa))) (l : K.lookup fa = some ⟨oc, od, .func (PySem.W.fnOf x x (defArgs st) (defBody st) (defScope st) .none kV doc pm an cdv ct), osl⟩) (c : PySem.W.codeIn K cdv x = true) (k : PySem.W.keepIn K (.ref fa) = true)
    {ps : List Str} {p : List D → GS → Option (D × GS)} (hf : ∀ {fd : FuncData} {k : Nat}, Fun K x x st fa fd → FnOk P w K mg base CX0 (k + 2) fa fd ps (spP K p))
    (hb : ∀ (kV doc pm : Value) (an : Option Addr) (cdv ct : Value) (us : List Value), us.length = ps.length → bindArgs (PySem.W.fnOf x x (defArgs st) (defBody st) (defScope st) .none kV doc pm an cdv ct) ⟨us, []⟩ = pure (ps.zip us)) : Prim2Ok P w K mg base x p := by
  have F := fun_mk (st := st) l c k
  exact ⟨fa, _, ps, ⟨PySem.W.mg_of X G a, k, F.binds hb⟩, fun k => hf F⟩
/-- the law's own def -/
theorem body_fn {P : Program} {w : World} {K : Frag} {mg : Str → Option Value} {base : Heap} {t : Top} {tbl : List Df} (T : TopOk P w K mg base t tbl) {n : Nat} {x : Str} {f : Nat} {st : Stmt} {fa : Addr} {fd : FuncData} {N : List Str} {np k : Nat} {own : List Nat} {b : List S}
    (h1 : tbl[f]? = some (.body np k b)) (F : Fun K x x st fa fd) (S : FnScope N (N.take np) (defScope st)) (hnp : np ≤ N.length) (hn : k = N.length) (hb : cSs (cS 40 (t.ctx N own (defScope st))) (defBody st) = some b) : FnOk P w K mg base CX0 (n + 1) fa fd (N.take np) (spT K (callN tbl (n + 1)) f) := by
  have hc : callN tbl (n + 1) f = fun args g => runD (callN tbl n) np k b args g := by
    funext args g
    simp only [callN, h1]
  have hlen : ∀ {vs H Q E}, spT K (callN tbl (n + 1)) f vs H Q E → vs.length = (N.take np).length := fun {vs H Q E} ⟨w', ds, g, d, g', o, r, e, q⟩ => by
    rw [hc] at e
    simp only [runD] at e
    split at e
    · rename_i hl
      rw [← r.len, List.length_take]; omega
    · cases e
  refine F.ok S (fun vs H Q E h => hlen h) fun cdv A outer s H vs Q E hr hsp => ?_
  have hl := hlen hsp
  obtain ⟨w', ds, g, d, g', o, r, e, q⟩ := hsp
  have G : Good (callN tbl n) (t.ctx N own (defScope st)) (cxOf CX0 P w K mg base N x (defScope st) fa cdv A outer s H E).nox :=
    ⟨rfl, rfl, S.nd, rfl, S.kind, fun _ _ => rfl, T.gl, fun y f' hy => by
      obtain ⟨fa', fd', ps', F', L'⟩ := prog_ok T n y f' hy
      exact ⟨fa', fd', ps', n, F', hr, L'.mg, L'.keep, L'.binds⟩, T.bi, T.gcd, by have := hr.un; show (A.deeper _).units + 65 < cLine; omega, rfl⟩
  rw [hc] at e
  simp only [runD] at e
  split at e
  · rename_i hargs
    obtain ⟨rr, g1, e1, e⟩ := bnd_eq e
    rw [Option.map_eq_some_iff] at e
    obtain ⟨d', e2, e3⟩ := e
    cases e3
    refine ⟨tSs K (callN tbl n) w' H b, cSs_snd (X := (cxOf CX0 P w K mg base N x (defScope st) fa cdv A outer s H E).nox) (fun st' s' h' => cS_snd 40 G h') hb, w', startE k ds, g, rr, _, ⟨o, ?_, Ext.refl _ _, fun i xs a hi _ => (start_own hi).elim⟩, e1, ?_⟩
    · rw [hn]
      exact start_rel r (by rw [hl, List.length_take]; omega)
    · cases rr with
      | nx ρ => cases e2; exact fun w2 σ2 H2 s2 _ => q w2 H2 .non s2.ok s2.ext rfl
      | rt d2 => cases e2; exact fun w2 H2 v o2 x2 r2 => q w2 H2 v o2 x2 r2
      | bk ρ => cases e2
      | ct ρ => cases e2
  · cases e
end Tv

namespace Tv
open PySem PySem.Spec PyProof.Rows L2
def topS (i : Nat) : Stmt := PySem.Challenge.pw_fourfolds_k78_whole_tables_with_signs.main.body.getD i (.Pass ⟨0, 0, 0, 0⟩)
abbrev sRefill : Stmt := topS 25
abbrev sDraw : Stmt := topS 26
/-! the drawing state of the second kind: the text's own two defs -/
theorem scDraw : FnScope ["state", "script", "size", "digit"] ["state", "script", "size"] (defScope sDraw) := ⟨rfl, rfl, rfl, by decide +kernel, rfl, by decide +kernel, by decide +kernel⟩
theorem scRefill : FnScope ["script", "k", "cell"] ["script", "k"] (defScope sRefill) := ⟨rfl, rfl, rfl, by decide +kernel, rfl, by decide +kernel, by decide +kernel⟩
theorem ok_refill {P : Program} {w0 : World} {K : PySem.W.Frag} {mg : Str → Option Value} {base : Heap} {f : Addr} {fd : FuncData} {k : Nat} (F : Fun K "_law_refill" "_law_refill" sRefill f fd) (ml : mg "len" = none) (mi : mg "int" = none) : FnOk P w0 K mg base CX0 (k + 1) f fd ["script", "k"] (spP K refillP) := by
  refine F.ok scRefill (fun vs H Q E h => ?_) (fun cdv A outer s H vs Q E hr h => ?_)
  · obtain ⟨_, _, a, ns, _, rfl, _⟩ := spRefill h
    rfl
  · obtain ⟨w, g, a, ns, n, rfl, o, hS, hn, hl, q⟩ := spRefill h
    refine ⟨_, pss_cons (ps_set (i := 2) scRefill.nd rfl (.inl rfl) pe_int)
      (pss_cons (ps_if (pt_truth (pv 0) (fun _ => rfl)) (pss_one (ps_set (i := 2) scRefill.nd rfl (.inl rfl) (pe_ix ix_list (pv 0) (pe_op op_mod (pv 1) (pe_callB call_len_seq (by rfl) ml PySem.boot_len (pa_cons (pv 0) pa_nil))) (fun _ _ => rfl)))) pss_nil)
      (pss_cons (ps_if (pt_cmpR op_lt (pv 2) pe_int (nomark _)) (pss_one (ps_set (i := 2) scRefill.nd rfl (.inl rfl) (pe_op op_sub pe_int (pe_op op_mul pe_int (pv 2))))) pss_nil)
      (pss_cons (ps_if (PW.pt (pw_and (pt_cmpR op_ge (pv 2) (pe_op op_pow pe_int pe_int) (nomark _)) (pw_and1 (pt_cmpR op_lt (pv 1) (pe_callB call_len_seq (by rfl) ml PySem.boot_len (pa_cons (pv 0) pa_nil)) (nomark _))))) (pss_one (ps_ret (pv 2))) pss_nil)
      (pss_one (ps_ret (pe_op op_mod (pe_callTy call_int1 (by rfl) mi (by decide +kernel) (pa_cons (pe_op op_add (pe_op op_mul (pe_callTy call_int1 (by rfl) mi (by decide +kernel) (pa_cons (pe_op op_add (pe_op op_add (pe_op op_mul (pv 2) pe_int) (pe_op op_mul (pv 1) pe_int)) pe_int) pa_nil)) pe_int) pe_int) pa_nil)) pe_int)))))), ?_⟩
    have hA : SqL K H a (ns.map V.int) := o.same.seq hS
    have hlen : (ns.map V.int).length = ns.length := List.length_map _
    have fin : ∀ c : Int, ((c * 48271 + n * 69621 + 12345) * 40692 + 7) % 2147483399 = refillN ns n → Q (.int (((c * 48271 + n * 69621 + 12345) * 40692 + 7) % 2147483399)) H := fun c e => by
      rw [e]
      exact q w H _ o (Ext.refl _ _) rfl
    have fin2 : ∀ c : Int, refillN ns n = c → Q (.int c) H := fun c e => by
      rw [← e]
      exact q w H _ o (Ext.refl _ _) rfl
    cases ns with
    | nil =>
      refine ⟨.ref a, rfl, false, .inl ⟨_, hA, rfl⟩, iff_f rfl ?_⟩
      refine ⟨.int 0, rfl, _, _, rfl, rfl, _, rfl, iff_f rfl ?_⟩
      refine ⟨.int 0, rfl, _, _, rfl, rfl, ⟨by decide, by decide, by decide⟩, _, _, rfl, rfl, _, rfl, iff_f rfl ?_⟩
      refine iff_f rfl ?_
      refine ⟨.int 0, rfl, _, _, rfl, rfl, .inr (by decide), .int n, rfl, _, _, rfl, rfl, .inr (by decide), _, _, rfl, rfl, _, _, rfl, rfl, .inl ⟨_, rfl, _, _, rfl, rfl, .inr (by decide), _, _, rfl, rfl, .inl ⟨_, rfl, _, _, rfl, rfl, (by decide : (0 : Int) < 2147483399), ?_⟩⟩⟩
      exact fin 0 rfl
    | cons x r =>
      have hpos : (0 : Int) < ((x :: r).length : Int) := by simp only [List.length_cons]; omega
      have hmod : (n % ((x :: r).length : Int)) = ((n % ((x :: r).length : Int)).toNat : Int) := (Int.toNat_of_nonneg (Int.emod_nonneg _ (by omega))).symm
      have hlt : (n % ((x :: r).length : Int)).toNat < (x :: r).length := by have := Int.emod_lt_of_pos n hpos; omega
      have hat : ((x :: r).map V.int)[(n % ((x :: r).length : Int)).toNat]? = some (.int (cellN (x :: r) n)) := by
        rw [List.getElem?_map, List.getElem?_eq_getElem hlt]
        show some (V.int _) = some (V.int (List.getD _ _ _))
        rw [List.getD_eq_getElem?_getD, List.getElem?_eq_getElem hlt]; rfl
      have hat2 : atI ((x :: r).map V.int) (n % (((x :: r).map V.int).length : Int)) = some (.int (cellN (x :: r) n)) := by
        rw [hlen, hmod]; exact atI_nat hat
      have hr : refillN (x :: r) n = if 10 ^ 18 ≤ oddN (cellN (x :: r) n) ∧ n < ((x :: r).length : Int) then oddN (cellN (x :: r) n) else ((oddN (cellN (x :: r) n) * 48271 + n * 69621 + 12345) * 40692 + 7) % 2147483399 := rfl
      generalize cellN (x :: r) n = c at hat2 hr
      refine ⟨.ref a, rfl, true, .inl ⟨_, hA, rfl⟩, iff_t rfl ?_⟩
      refine ⟨.ref a, rfl, .int n, rfl, .ref a, rfl, a, _, rfl, .inl hA, _, _, rfl, rfl, by rw [hlen]; exact hpos, a, _, _, .int c, rfl, rfl, hA, hat2, ?_⟩
      refine ⟨.int c, rfl, _, _, rfl, rfl, _, rfl, ?_⟩
      by_cases hc : c < 0
      · rw [show oddN c = 1 - 2 * c by unfold oddN; rw [if_pos hc]] at hr
        refine iff_t (decide_eq_true hc) ?_
        refine ⟨.int c, rfl, _, _, rfl, rfl, .inl (by decide), _, _, rfl, rfl, ?_⟩
        refine ⟨.int (1 - 2 * c), rfl, _, _, rfl, rfl, ⟨by decide, by decide, by decide⟩, _, _, rfl, rfl, _, rfl, ?_⟩
        by_cases h1 : (10 : Int) ^ 18 ≤ 1 - 2 * c
        · refine iff_t (decide_eq_true h1) ⟨.int n, rfl, .ref a, rfl, a, _, rfl, .inl hA, _, _, rfl, rfl, _, rfl, ?_⟩
          by_cases h2 : n < ((x :: r).length : Int)
          · refine iff_t (decide_eq_true (by rw [hlen]; exact h2)) ⟨_, rfl, ?_⟩
            rw [if_pos ⟨h1, h2⟩] at hr
            exact fin2 _ hr
          · refine iff_f (decide_eq_false (by rw [hlen]; exact h2)) ?_
            rw [if_neg (fun z => h2 z.2)] at hr
            exact ⟨.int (1 - 2 * c), rfl, _, _, rfl, rfl, .inr (by decide), .int n, rfl, _, _, rfl, rfl, .inr (by decide), _, _, rfl, rfl, _, _, rfl, rfl, .inl ⟨_, rfl, _, _, rfl, rfl, .inr (by decide), _, _, rfl, rfl, .inl ⟨_, rfl, _, _, rfl, rfl, (by decide : (0 : Int) < 2147483399), fin _ hr.symm⟩⟩⟩
        · refine iff_f (decide_eq_false h1) (iff_f rfl ?_)
          rw [if_neg (fun z => h1 z.1)] at hr
          exact ⟨.int (1 - 2 * c), rfl, _, _, rfl, rfl, .inr (by decide), .int n, rfl, _, _, rfl, rfl, .inr (by decide), _, _, rfl, rfl, _, _, rfl, rfl, .inl ⟨_, rfl, _, _, rfl, rfl, .inr (by decide), _, _, rfl, rfl, .inl ⟨_, rfl, _, _, rfl, rfl, (by decide : (0 : Int) < 2147483399), fin _ hr.symm⟩⟩⟩
      · rw [show oddN c = c by unfold oddN; rw [if_neg hc]] at hr
        refine iff_f (decide_eq_false hc) ?_
        refine ⟨.int c, rfl, _, _, rfl, rfl, ⟨by decide, by decide, by decide⟩, _, _, rfl, rfl, _, rfl, ?_⟩
        by_cases h1 : (10 : Int) ^ 18 ≤ c
        · refine iff_t (decide_eq_true h1) ⟨.int n, rfl, .ref a, rfl, a, _, rfl, .inl hA, _, _, rfl, rfl, _, rfl, ?_⟩
          by_cases h2 : n < ((x :: r).length : Int)
          · refine iff_t (decide_eq_true (by rw [hlen]; exact h2)) ⟨_, rfl, ?_⟩
            rw [if_pos ⟨h1, h2⟩] at hr
            exact fin2 _ hr
          · refine iff_f (decide_eq_false (by rw [hlen]; exact h2)) ?_
            rw [if_neg (fun z => h2 z.2)] at hr
            exact ⟨.int c, rfl, _, _, rfl, rfl, .inr (by decide), .int n, rfl, _, _, rfl, rfl, .inr (by decide), _, _, rfl, rfl, _, _, rfl, rfl, .inl ⟨_, rfl, _, _, rfl, rfl, .inr (by decide), _, _, rfl, rfl, .inl ⟨_, rfl, _, _, rfl, rfl, (by decide : (0 : Int) < 2147483399), fin _ hr.symm⟩⟩⟩
        · refine iff_f (decide_eq_false h1) (iff_f rfl ?_)
          rw [if_neg (fun z => h1 z.1)] at hr
          exact ⟨.int c, rfl, _, _, rfl, rfl, .inr (by decide), .int n, rfl, _, _, rfl, rfl, .inr (by decide), _, _, rfl, rfl, _, _, rfl, rfl, .inl ⟨_, rfl, _, _, rfl, rfl, .inr (by decide), _, _, rfl, rfl, .inl ⟨_, rfl, _, _, rfl, rfl, (by decide : (0 : Int) < 2147483399), fin _ hr.symm⟩⟩⟩
theorem ok_draw {P : Program} {w0 : World} {K : PySem.W.Frag} {mg : Str → Option Value} {base : Heap} {f : Addr} {fd : FuncData} {k : Nat} (F : Fun K "_law_draw" "_law_draw" sDraw f fd) (R : PrimOk P w0 K mg base "_law_refill" refillP) (mi : mg "int" = none) : FnOk P w0 K mg base CX0 (k + 2) f fd ["state", "script", "size"] (spP K draw2P) := by
  obtain ⟨rf, rd, rps, L, RF⟩ := R.ex
  refine F.ok scDraw (fun vs H Q E h => ?_) (fun cdv A outer s H vs Q E hr h => ?_)
  · obtain ⟨w, c, a, ns, n, v, size, rfl, _⟩ := spDraw2 h
    rfl
  · obtain ⟨w, c, a, ns, n, v, size, rfl, o, hst, hc, hS, hn, hl, z0, z1, q⟩ := spDraw2 h
    refine ⟨_, pss_cons (ps_if (pt_cmpR op_eq (pe_ix ix_list (pv 0) pe_int (fun _ _ => rfl)) pe_int (nomark _))
        (pss_cons (ps_asg (pe_call (RF k) hr rfl L.mg L.keep L.binds .nil pass0 (pa_cons (pv 1) (pa_cons (pe_ix ix_list (pv 0) pe_int (fun _ _ => rfl)) pa_nil))) (pg_sub (pv 0) pe_int set_list))
        (pss_one (ps_asg (pe_op op_add (pe_ix ix_list (pv 0) pe_int (fun _ _ => rfl)) pe_int) (pg_sub (pv 0) pe_int set_list)))) pss_nil)
      (pss_cons (ps_set (i := 3) scDraw.nd rfl (.inl rfl) (pe_op op_mod (pe_callTy call_int1 (by rfl) mi (by decide +kernel) (pa_cons (pe_ix ix_list (pv 0) pe_int (fun _ _ => rfl)) pa_nil)) (pv 2)))
      (pss_cons (ps_asg (pe_op op_fdiv (pe_ix ix_list (pv 0) pe_int (fun _ _ => rfl)) (pv 2)) (pg_sub (pv 0) pe_int set_list))
      (pss_one (ps_ret (pv 3))))), ?_⟩
    refine ⟨.ref c, rfl, c, _, 1, .int v, rfl, rfl, .inl (.inl hc), rfl, rfl, _, rfl, ?_⟩
    by_cases hv : v = 0
    · subst hv
      have e1 : draw2N ns n 0 size = (refillN ns n % size, .two (n + 1) (refillN ns n / size)) := rfl
      rw [e1] at q
      refine iff_t rfl ?_
      refine ⟨.ref a, rfl, .ref c, rfl, c, _, 0, .int n, rfl, rfl, .inl (.inl hc), rfl, ?_⟩
      refine ⟨w, [.scr ns, .int n], .two n 0, .int (refillN ns n), .two n 0, o, ⟨⟨a, rfl, hS⟩, rfl, trivial⟩, if_pos ⟨hn, hl⟩, fun w2 H2 u o2 x2 r2 => ?_⟩
      cases (show u = _ from r2)
      have hst2 : w2.st = [c] := by
        rcases x2.st with h | h
        · rw [hst] at h; cases h
        · rw [h]; exact hst
      obtain ⟨c', k1, k2⟩ := o2.st
      have ec : c = c' := by rw [hst2] at k1; cases k1; rfl
      subst ec
      refine ⟨.ref c, rfl, c, _, 1, 1, rfl, rfl, k2, rfl, ?_⟩
      refine ⟨.ref c, rfl, c, _, 0, .int n, rfl, rfl, .inl (.inl upd_same), rfl, _, _, rfl, rfl, ?_⟩
      refine ⟨.ref c, rfl, c, _, 0, 0, rfl, rfl, upd_same, rfl, ?_⟩
      refine ⟨.ref c, rfl, c, _, 1, .int (refillN ns n), rfl, rfl, .inl (.inl upd_same), rfl, .inl ⟨_, rfl, .int size, rfl, _, _, rfl, rfl, z0, ?_⟩⟩
      refine ⟨.ref c, rfl, c, _, 1, .int (refillN ns n), rfl, rfl, .inl (.inl upd_same), rfl, .int size, rfl, _, _, rfl, rfl, ⟨z0, z1⟩, ?_⟩
      refine ⟨.ref c, rfl, c, _, 1, 1, rfl, rfl, upd_same, rfl, ?_⟩
      refine ⟨.int (refillN ns n % size), rfl, ?_⟩
      obtain ⟨o3, x3⟩ := two_upd (k' := n + 1) (v' := refillN ns n / size) o2 hst2
      have hH : upd (upd (upd H2 c (.lst [.int n, .int (refillN ns n)])) c (.lst [.int (n + 1), .int (refillN ns n)])) c (.lst [.int (n + 1), .int (refillN ns n / size)]) = upd H2 c (.lst [.int (n + 1), .int (refillN ns n / size)]) := by
        funext b
        by_cases e : b = c
        · subst e; rw [upd_same, upd_same]
        · rw [upd_ne e, upd_ne e, upd_ne e, upd_ne e]
      exact hH ▸ q w2 _ _ o3 (x2.trans x3) rfl
    · have e1 : draw2N ns n v size = (v % size, .two n (v / size)) := if_neg hv
      rw [e1] at q
      refine iff_f (decide_eq_false fun e => hv (by cases e; rfl)) ?_
      refine ⟨.ref c, rfl, c, _, 1, .int v, rfl, rfl, .inl (.inl hc), rfl, .inl ⟨_, rfl, .int size, rfl, _, _, rfl, rfl, z0, ?_⟩⟩
      refine ⟨.ref c, rfl, c, _, 1, .int v, rfl, rfl, .inl (.inl hc), rfl, .int size, rfl, _, _, rfl, rfl, ⟨z0, z1⟩, ?_⟩
      refine ⟨.ref c, rfl, c, _, 1, 1, rfl, rfl, hc, rfl, ?_⟩
      refine ⟨.int (v % size), rfl, ?_⟩
      obtain ⟨o3, x3⟩ := two_upd (k' := n) (v' := v / size) o hst
      exact q w _ _ o3 x3 rfl

def topT : Top := ⟨[("ZERO", .tup [.int 0, .int 0]), ("UNIT", .tup [.int 1, .int 0]), ("IMAGE", .tup [.int 0, .int 1]), ("PLAIN", .tup [.tup [.tup [.int 1, .int 0], .tup [.int 0, .int 0]], .tup [.tup [.int 0, .int 0], .tup [.int 1, .int 0]]]), ("FIRST", .tup [.tup [.tup [.int 0, .int 0], .tup [.int 1, .int 0]], .tup [.tup [.int 1, .int 0], .tup [.int 0, .int 0]]]), ("SECOND", .tup [.tup [.tup [.int 0, .int 0], .tup [.int 0, .int (-1)]], .tup [.tup [.int 0, .int 1], .tup [.int 0, .int 0]]]), ("THIRD", .tup [.tup [.tup [.int 1, .int 0], .tup [.int 0, .int 0]], .tup [.tup [.int 0, .int 0], .tup [.int (-1), .int 0]]])], [("two_times", 0), ("two_sum", 1), ("table_times", 2), ("table_plus", 3), ("scaled", 4), ("turned_over", 5), ("within", 6), ("plain_table", 7), ("trace", 8), ("units", 9), ("last_unit", 10), ("do_exchange", 11), ("with_squares", 12), ("lot_table", 13), ("_law_refill", 14), ("_law_draw", 15), ("_law_exact", 16), ("_law_two", 17), ("_law_two_times", 18), ("_law_table_times", 19), ("_law_plain", 20), ("_law_added", 21), ("_law_table", 22), ("_law_fits", 23), ("law", 24)], ["abs", "all", "bool", "enumerate", "int", "isinstance", "len", "list", "range", "str", "sum", "tuple", "zip"], []⟩
def b_two_times : List S := [.ret [] (.tup [.bin .sub (.bin .mul (.idx (.bvar 0) (.lit (.int 0))) (.idx (.bvar 1) (.lit (.int 0)))) (.bin .mul (.idx (.bvar 0) (.lit (.int 1))) (.idx (.bvar 1) (.lit (.int 1)))), .bin .add (.bin .mul (.idx (.bvar 0) (.lit (.int 0))) (.idx (.bvar 1) (.lit (.int 1)))) (.bin .mul (.idx (.bvar 0) (.lit (.int 1))) (.idx (.bvar 1) (.lit (.int 0))))])]
def b_two_sum : List S := [.ret [] (.tup [.bi .sum [.comp [1] (.var 1) (.bvar 0) (.lit (.bl true)) (.idx (.bvar 1) (.lit (.int 0)))], .bi .sum [.comp [1] (.var 1) (.bvar 0) (.lit (.bl true)) (.idx (.bvar 1) (.lit (.int 1)))]])]
def b_table_times : List S := [.own [] 2 (.comp [5] (.var 5) (.bi .range1 [.bi .len [.idx (.bvar 1) (.lit (.int 0))]]) (.lit (.bl true)) (.comp [4] (.var 4) (.bvar 1) (.lit (.bl true)) (.idx (.bvar 4) (.bvar 5)))), .own [] 3 (.lst []), .for [] (.var 4) (.var 0) [.app [] 3 (.bi .tuple [.comp [6] (.var 6) (.bvar 2) (.lit (.bl true)) (.call 1 [.comp [7, 8] (.tup [.var 7, .var 8]) (.bi .zip [.var 4, .var 6]) (.lit (.bl true)) (.call 0 [.var 7, .var 8])])])], .ret [] (.bi .tuple [.bvar 3])]
def b_table_plus : List S := [.ret [] (.bi .tuple [.comp [2, 3] (.tup [.var 2, .var 3]) (.bi .zip [.var 0, .var 1]) (.lit (.bl true)) (.bi .tuple [.comp [4, 5] (.tup [.var 4, .var 5]) (.bi .zip [.var 2, .var 3]) (.lit (.bl true)) (.call 1 [.lst [.var 4, .var 5]])])])]
def b_scaled : List S := [.ret [] (.bi .tuple [.comp [2] (.var 2) (.bvar 0) (.lit (.bl true)) (.bi .tuple [.comp [3] (.var 3) (.bvar 2) (.lit (.bl true)) (.call 0 [.var 1, .var 3])])])]
def b_turned_over : List S := [.asg [] (.var 1) (.bi .len [.bvar 0]), .ret [] (.bi .tuple [.comp [2] (.var 2) (.bi .range1 [.bvar 1]) (.lit (.bl true)) (.bi .tuple [.comp [3] (.var 3) (.bi .range1 [.bvar 1]) (.lit (.bl true)) (.tup [.idx (.idx (.idx (.bvar 0) (.bvar 3)) (.bvar 2)) (.lit (.int 0)), .neg (.idx (.idx (.idx (.bvar 0) (.bvar 3)) (.bvar 2)) (.lit (.int 1)))])])])]
def b_within : List S := [.own [] 2 (.lst []), .for [] (.var 3) (.var 0) [.for [] (.var 4) (.var 1) [.app [] 2 (.bi .tuple [.comp2 [5, 6] [6] (.var 5) (.bvar 3) (.lit (.bl true)) (.var 6) (.var 4) (.lit (.bl true)) (.call 0 [.var 5, .var 6])])]], .ret [] (.bi .tuple [.bvar 2])]
def b_plain_table : List S := [.ret [] (.bi .tuple [.comp [1] (.var 1) (.bi .range1 [.bvar 0]) (.lit (.bl true)) (.bi .tuple [.comp [2] (.var 2) (.bi .range1 [.bvar 0]) (.lit (.bl true)) (.ite (.cmp .eq (.bvar 1) (.bvar 2)) (.lit (.tup [.int 1, .int 0])) (.lit (.tup [.int 0, .int 0])))])])]
def b_trace : List S := [.ret [] (.call 1 [.comp [1] (.var 1) (.bi .range1 [.bi .len [.bvar 0]]) (.lit (.bl true)) (.idx (.idx (.bvar 0) (.bvar 1)) (.bvar 1))])]
def b_units : List S := [.asg [] (.var 1) (.bin .fdiv (.bin .add (.bvar 0) (.lit (.int 1))) (.lit (.int 2))), .own [] 2 (.lst []), .for [] (.var 3) (.bi .range1 [.bvar 1]) [.for [] (.var 4) (.tup [.lit (.tup [.tup [.tup [.int 0, .int 0], .tup [.int 1, .int 0]], .tup [.tup [.int 1, .int 0], .tup [.int 0, .int 0]]]), .lit (.tup [.tup [.tup [.int 0, .int 0], .tup [.int 0, .int (-1)]], .tup [.tup [.int 0, .int 1], .tup [.int 0, .int 0]]])]) [.asg [] (.var 5) (.tup [.tup [.lit (.tup [.int 1, .int 0])]]), .for [] (.var 6) (.bi .range1 [.bvar 1]) [.asg [] (.var 7) (.ite (.cmp .lt (.bvar 6) (.bvar 3)) (.lit (.tup [.tup [.tup [.int 1, .int 0], .tup [.int 0, .int 0]], .tup [.tup [.int 0, .int 0], .tup [.int (-1), .int 0]]])) (.ite (.cmp .eq (.bvar 6) (.bvar 3)) (.var 4) (.lit (.tup [.tup [.tup [.int 1, .int 0], .tup [.int 0, .int 0]], .tup [.tup [.int 0, .int 0], .tup [.int 1, .int 0]]])))), .asg [] (.var 5) (.call 6 [.var 5, .var 7])], .app [] 2 (.var 5)]], .ret [] (.cut (.bvar 2) (.nop) (.bvar 0))]
def b_last_unit : List S := [.asg [] (.var 1) (.tup [.tup [.lit (.tup [.int 1, .int 0])]]), .for [] (.var 2) (.bi .range1 [.bvar 0]) [.asg [] (.var 1) (.call 6 [.var 1, .lit (.tup [.tup [.tup [.int 1, .int 0], .tup [.int 0, .int 0]], .tup [.tup [.int 0, .int 0], .tup [.int (-1), .int 0]]])])], .ret [] (.var 1)]
def b_do_exchange : List S := [.for [] (.tup [.var 2, .var 3]) (.bi .enum [.var 0]) [.ifs (.cmp .ne (.call 2 [.var 3, .var 3]) (.call 4 [.call 7 [.bi .len [.bvar 3]], .tup [.idx (.bvar 1) (.bvar 2), .lit (.int 0)]])) [.ret [] (.lit (.bl false))] [], .for [] (.var 4) (.cut (.bvar 0) (.nop) (.bvar 2)) [.ifs (.cmp .ne (.call 3 [.call 2 [.var 3, .var 4], .call 2 [.var 4, .var 3]]) (.call 4 [.call 7 [.bi .len [.bvar 3]], .lit (.tup [.int 0, .int 0])])) [.ret [] (.lit (.bl false))] []]], .ret [] (.lit (.bl true))]
def b_with_squares : List S := [.ret [] (.comp [1, 2] (.tup [.var 1, .var 2]) (.bi .zip [.call 9 [.bi .len [.bvar 0]], .var 0]) (.lit (.bl true)) (.call 4 [.var 1, .ite (.cmp .lt (.bvar 2) (.lit (.int 0))) (.lit (.tup [.int 0, .int 1])) (.lit (.tup [.int 1, .int 0]))]))]
def b_lot_table : List S := [.asg [] (.var 2) (.call 7 [.bi .len [.idx (.bvar 0) (.lit (.int 0))]]), .for [] (.var 3) (.var 1) [.asg [] (.var 2) (.call 2 [.var 2, .idx (.bvar 0) (.bvar 3)])], .ret [] (.var 2)]
def b__law_exact : List S := [.ifs (.bi (.isin [5, 4]) [.bvar 0]) [.ifs (.or (.cmp .ne (.bi (.isin [5]) [.bvar 0]) (.bi (.isin [5]) [.bvar 1])) (.cmp .ne (.bi (.isin [4]) [.bvar 0]) (.bi (.isin [4]) [.bvar 1]))) [.ret [] (.lit (.bl false))] [], .ret [] (.and (.cmp .eq (.bi .len [.bvar 0]) (.bi .len [.bvar 1])) (.bi .all [.comp [3] (.var 3) (.bi .range1 [.bi .len [.bvar 0]]) (.lit (.bl true)) (.call 16 [.idx (.bvar 0) (.bvar 3), .idx (.bvar 1) (.bvar 3)])]))] [], .ifs (.or (.cmp .isn (.bvar 0) (.lit (.non))) (.cmp .isn (.bvar 1) (.lit (.non)))) [.ret [] (.and (.cmp .isn (.bvar 0) (.lit (.non))) (.cmp .isn (.bvar 1) (.lit (.non))))] [], .asg [] (.var 2) (.and (.cmp .eq (.bi (.isin [3]) [.bvar 0]) (.bi (.isin [3]) [.bvar 1])) (.cmp .eq (.bi (.isin [1]) [.bvar 0]) (.bi (.isin [1]) [.bvar 1]))), .ret [] (.and (.var 2) (.and (.cmp .eq (.bi (.isin [0]) [.bvar 0]) (.bi (.isin [0]) [.bvar 1])) (.cmp .eq (.bvar 0) (.bvar 1))))]
def b__law_two : List S := [.asg [] (.var 1) (.lit (.int 1)), .for [] (.var 2) (.bi .range1 [.bvar 0]) [.asg [] (.var 1) (.bin .mul (.lit (.int 2)) (.bvar 1))], .ret [] (.var 1)]
def b__law_two_times : List S := [.ret [] (.tup [.bin .sub (.bin .mul (.idx (.bvar 0) (.lit (.int 0))) (.idx (.bvar 1) (.lit (.int 0)))) (.bin .mul (.idx (.bvar 0) (.lit (.int 1))) (.idx (.bvar 1) (.lit (.int 1)))), .bin .add (.bin .mul (.idx (.bvar 0) (.lit (.int 0))) (.idx (.bvar 1) (.lit (.int 1)))) (.bin .mul (.idx (.bvar 0) (.lit (.int 1))) (.idx (.bvar 1) (.lit (.int 0))))])]
def b__law_table_times : List S := [.own [] 2 (.lst []), .for [] (.var 3) (.var 0) [.own [] 4 (.lst []), .for [] (.var 5) (.bi .range1 [.bi .len [.idx (.bvar 1) (.lit (.int 0))]]) [.own [] 6 (.comp [7] (.var 7) (.bi .range1 [.bi .len [.bvar 1]]) (.lit (.bl true)) (.call 18 [.idx (.bvar 3) (.bvar 7), .idx (.idx (.bvar 1) (.bvar 7)) (.bvar 5)])), .app [] 4 (.tup [.bi .sum [.comp [8] (.var 8) (.bvar 6) (.lit (.bl true)) (.idx (.bvar 8) (.lit (.int 0)))], .bi .sum [.comp [8] (.var 8) (.bvar 6) (.lit (.bl true)) (.idx (.bvar 8) (.lit (.int 1)))]])], .app [] 2 (.bi .tuple [.bvar 4])], .ret [] (.bi .tuple [.bvar 2])]
def b__law_plain : List S := [.ret [] (.bi .tuple [.comp [2] (.var 2) (.bi .range1 [.bvar 0]) (.lit (.bl true)) (.bi .tuple [.comp [3] (.var 3) (.bi .range1 [.bvar 0]) (.lit (.bl true)) (.ite (.cmp .eq (.bvar 2) (.bvar 3)) (.tup [.var 1, .lit (.int 0)]) (.tup [.lit (.int 0), .lit (.int 0)]))])])]
def b__law_added : List S := [.ret [] (.bi .tuple [.comp [3] (.var 3) (.bi .range1 [.bi .len [.bvar 0]]) (.lit (.bl true)) (.bi .tuple [.comp [4] (.var 4) (.bi .range1 [.bi .len [.bvar 0]]) (.lit (.bl true)) (.tup [.bin .add (.idx (.idx (.idx (.bvar 0) (.bvar 3)) (.bvar 4)) (.lit (.int 0))) (.bin .mul (.bvar 2) (.idx (.idx (.idx (.bvar 1) (.bvar 3)) (.bvar 4)) (.lit (.int 0)))), .bin .add (.idx (.idx (.idx (.bvar 0) (.bvar 3)) (.bvar 4)) (.lit (.int 1))) (.bin .mul (.bvar 2) (.idx (.idx (.idx (.bvar 1) (.bvar 3)) (.bvar 4)) (.lit (.int 1))))])])])]
def b__law_table : List S := [.ret [] (.bi .tuple [.comp [3] (.var 3) (.bi .range1 [.bvar 2]) (.lit (.bl true)) (.bi .tuple [.comp [4] (.var 4) (.bi .range1 [.bvar 2]) (.lit (.bl true)) (.tup [.bin .sub (.call 15 [.var 0, .var 1, .lit (.int 7)]) (.lit (.int 3)), .bin .sub (.call 15 [.var 0, .var 1, .lit (.int 7)]) (.lit (.int 3))])])])]
def b__law_fits : List S := [.asg [] (.var 2) (.bi .len [.idx (.bvar 0) (.lit (.int 0))]), .for [] (.var 3) (.bi .range1 [.bi .len [.bvar 0]]) [.ifs (.cmp .ne (.call 19 [.idx (.bvar 0) (.bvar 3), .idx (.bvar 0) (.bvar 3)]) (.call 20 [.var 2, .idx (.bvar 1) (.bvar 3)])) [.ret [] (.lit (.bl false))] [], .for [] (.var 4) (.bi .range1 [.bvar 3]) [.ifs (.cmp .ne (.call 21 [.call 19 [.idx (.bvar 0) (.bvar 3), .idx (.bvar 0) (.bvar 4)], .call 19 [.idx (.bvar 0) (.bvar 4), .idx (.bvar 0) (.bvar 3)], .lit (.int 1)]) (.call 20 [.var 2, .lit (.int 0)])) [.ret [] (.lit (.bl false))] []]], .ret [] (.lit (.bl true))]
def lw_1_0 : S := .asg [] (.var 15) (.bin .add (.lit (.int 1)) (.call 15 [.var 1, .var 0, .lit (.int 3)]))
def lw_1_1 : S := .asg [] (.tup [.var 16, .var 17]) (.tup [.call 22 [.var 1, .var 0, .var 15], .call 22 [.var 1, .var 0, .var 15]])
def lw_1_2 : S := .asg [] (.var 18) (.tup [.bin .sub (.call 15 [.var 1, .var 0, .lit (.int 7)]) (.lit (.int 3)), .bin .sub (.call 15 [.var 1, .var 0, .lit (.int 7)]) (.lit (.int 3))])
def lw_1_3 : S := .asg [] (.var 19) (.bi .tuple [.comp [14] (.var 14) (.bi .range1 [.bvar 15]) (.lit (.bl true)) (.bi .tuple [.comp [13] (.var 13) (.bi .range1 [.bvar 15]) (.lit (.bl true)) (.tup [.idx (.idx (.idx (.bvar 16) (.bvar 13)) (.bvar 14)) (.lit (.int 0)), .neg (.idx (.idx (.idx (.bvar 16) (.bvar 13)) (.bvar 14)) (.lit (.int 1)))])])])
def lw_1_4 : S := .asg [] (.var 20) (.tup [.bi .sum [.comp [13] (.var 13) (.bi .range1 [.bvar 15]) (.lit (.bl true)) (.idx (.idx (.idx (.bvar 16) (.bvar 13)) (.bvar 13)) (.lit (.int 0)))], .bi .sum [.comp [13] (.var 13) (.bi .range1 [.bvar 15]) (.lit (.bl true)) (.idx (.idx (.idx (.bvar 16) (.bvar 13)) (.bvar 13)) (.lit (.int 1)))]])
def lw_1_5 : S := .asg [] (.var 21) (.lst [.call 19 [.var 16, .var 17], .call 21 [.var 16, .var 17, .lit (.int 1)], .bi .tuple [.comp [26] (.var 26) (.bvar 16) (.lit (.bl true)) (.bi .tuple [.comp [27] (.var 27) (.bvar 26) (.lit (.bl true)) (.call 18 [.var 18, .var 27])])], .var 19, .var 20, .call 20 [.var 15, .lit (.int 1)]])
def lw_1_6 : S := .ifs (.not (.call 16 [.var 21, .lst [.call 2 [.var 16, .var 17], .call 3 [.var 16, .var 17], .call 4 [.var 16, .var 18], .call 5 [.var 16], .call 8 [.var 16], .call 7 [.var 15]]])) [.ret [] (.lit (.bl false))] []
def lw_1_7 : S := .asg [] (.var 22) (.call 22 [.var 1, .var 0, .lit (.int 2)])
def lw_1_8 : S := .own [] 23 (.lst [])
def lw_1_9 : S := .for [] (.var 14) (.bi .range1 [.bin .mul (.lit (.int 2)) (.bvar 15)]) [.app [] 23 (.bi .tuple [.comp [13] (.var 13) (.bi .range1 [.bin .mul (.lit (.int 2)) (.bvar 15)]) (.lit (.bl true)) (.call 18 [.idx (.idx (.bvar 16) (.bin .fdiv (.bvar 14) (.lit (.int 2)))) (.bin .fdiv (.bvar 13) (.lit (.int 2))), .idx (.idx (.bvar 22) (.bin .sub (.bvar 14) (.bin .mul (.bin .fdiv (.bvar 14) (.lit (.int 2))) (.lit (.int 2))))) (.bin .sub (.bvar 13) (.bin .mul (.bin .fdiv (.bvar 13) (.lit (.int 2))) (.lit (.int 2))))])])]
def lw_1_10 : S := .ifs (.not (.call 16 [.bi .tuple [.bvar 23], .call 6 [.var 16, .var 22]])) [.ret [] (.lit (.bl false))] []
def lw_1_11 : S := .par [] [24, 25] [.idx (.idx (.bvar 16) (.lit (.int 0))) (.lit (.int 0)), .idx (.idx (.bvar 17) (.lit (.int 0))) (.lit (.int 0))]
def lw_1_12 : S := .ifs (.not (.call 16 [.lst [.call 18 [.var 24, .var 25], .tup [.bin .add (.idx (.bvar 24) (.lit (.int 0))) (.idx (.bvar 25) (.lit (.int 0))), .bin .add (.idx (.bvar 24) (.lit (.int 1))) (.idx (.bvar 25) (.lit (.int 1)))]], .lst [.call 0 [.var 24, .var 25], .call 1 [.lst [.var 24, .var 25]]]])) [.ret [] (.lit (.bl false))] []
def lb_1 : List S := [lw_1_0, lw_1_1, lw_1_2, lw_1_3, lw_1_4, lw_1_5, lw_1_6, lw_1_7, lw_1_8, lw_1_9, lw_1_10, lw_1_11, lw_1_12]
def lw_16_0 : S := .asg [] (.var 12) (.call 19 [.var 12, .idx (.bvar 5) (.bvar 13)])
def lb_16 : List S := [lw_16_0]
def b_law : List S := [.asg [] (.var 1) (.st2), .for [] (.var 2) (.bi .range1 [.lit (.int 3)]) lb_1, .asg [] (.var 3) (.bin .add (.lit (.int 1)) (.call 15 [.var 1, .var 0, .lit (.int 5)])), .asg [] (.var 4) (.bi .tuple [.comp [13] (.var 13) (.bi .range1 [.bvar 3]) (.lit (.bl true)) (.idx (.lst [.lit (.int 1), .neg (.lit (.int 1))]) (.call 15 [.var 1, .var 0, .lit (.int 2)]))]), .par [] [5, 6] [.call 12 [.var 4], .call 9 [.var 3]], .asg [] (.var 7) (.call 17 [.bin .fdiv (.bin .add (.bvar 3) (.lit (.int 1))) (.lit (.int 2))]), .ifs (.or (.cmp .ne (.bi .len [.bvar 5]) (.bvar 3)) (.or (.cmp .ne (.bi .len [.bvar 6]) (.bvar 3)) (.cmp .ne (.comp [16] (.var 16) (.bin .add (.bvar 5) (.bvar 6)) (.or (.cmp .ne (.bi .len [.bvar 16]) (.bvar 7)) (.cmp .ne (.comp [26] (.var 26) (.bvar 16) (.cmp .ne (.bi .len [.bvar 26]) (.bvar 7)) (.var 26)) (.lst []))) (.var 16)) (.lst [])))) [.ret [] (.lit (.bl false))] [], .ifs (.or (.not (.call 23 [.var 5, .var 4])) (.or (.not (.call 23 [.var 6, .comp [13] (.var 13) (.bi .range1 [.bvar 3]) (.lit (.bl true)) (.lit (.int 1))])) (.not (.call 11 [.bi .list [.bvar 5], .var 4])))) [.ret [] (.lit (.bl false))] [], .ifs (.and (.cmp .eq (.bin .mul (.bin .fdiv (.bvar 3) (.lit (.int 2))) (.lit (.int 2))) (.bvar 3)) (.not (.call 23 [.bin .add (.bi .list [.bvar 6]) (.lst [.call 10 [.bin .fdiv (.bvar 3) (.lit (.int 2))]]), .comp [13] (.var 13) (.bi .range1 [.bin .add (.bvar 3) (.lit (.int 1))]) (.lit (.bl true)) (.lit (.int 1))]))) [.ret [] (.lit (.bl false))] [], .paro [] 8 9 (.call 15 [.var 1, .var 0, .var 3]) (.bi .list [.bvar 4]), .seti [] 9 (.bvar 8) (.neg (.idx (.bvar 9) (.bvar 8))), .own [] 10 (.bi .list [.bvar 5]), .seti [] 10 (.bvar 8) (.idx (.lst [.idx (.bvar 5) (.lit (.int 0)), .call 21 [.idx (.bvar 5) (.bvar 8), .call 20 [.var 7, .lit (.int 1)], .lit (.int 1)], .idx (.bvar 5) (.bvar 8)]) (.call 15 [.var 1, .var 0, .lit (.int 3)])), .ifz [10] (.or (.call 11 [.bi .list [.bvar 5], .bi .tuple [.bvar 9]]) (.not (.call 16 [.call 23 [.var 10, .var 4], .call 11 [.bi .list [.bvar 10], .var 4]]))) [.ret [] (.lit (.bl false))] [], .asg [] (.var 11) (.bi .tuple [.comp [13] (.var 13) (.bi .range1 [.bvar 3]) (.cmp .eq (.call 15 [.var 1, .var 0, .lit (.int 2)]) (.lit (.int 0))) (.var 13)]), .asg [] (.var 12) (.call 20 [.var 7, .lit (.int 1)]), .for [] (.var 13) (.var 11) lb_16, .ifs (.not (.call 16 [.var 12, .call 13 [.bi .list [.bvar 5], .var 11]])) [.ret [] (.lit (.bl false))] [], .asg [] (.var 14) (.tup [.lit (.int 0), .lit (.int 1)]), .ret [] (.cmp .eq (.lst [.lit (.tup [.tup [.tup [.int 0, .int 0], .tup [.int 1, .int 0]], .tup [.tup [.int 1, .int 0], .tup [.int 0, .int 0]]]), .lit (.tup [.tup [.tup [.int 0, .int 0], .tup [.int 0, .int (-1)]], .tup [.tup [.int 0, .int 1], .tup [.int 0, .int 0]]]), .lit (.tup [.tup [.tup [.int 1, .int 0], .tup [.int 0, .int 0]], .tup [.tup [.int 0, .int 0], .tup [.int (-1), .int 0]]])]) (.lst [.tup [.tup [.tup [.lit (.int 0), .lit (.int 0)], .tup [.lit (.int 1), .lit (.int 0)]], .tup [.tup [.lit (.int 1), .lit (.int 0)], .tup [.lit (.int 0), .lit (.int 0)]]], .tup [.tup [.tup [.lit (.int 0), .lit (.int 0)], .tup [.lit (.int 0), .neg (.lit (.int 1))]], .tup [.var 14, .tup [.lit (.int 0), .lit (.int 0)]]], .tup [.tup [.tup [.lit (.int 1), .lit (.int 0)], .tup [.lit (.int 0), .lit (.int 0)]], .tup [.tup [.lit (.int 0), .lit (.int 0)], .tup [.neg (.lit (.int 1)), .lit (.int 0)]]]]))]
def tblT : List Df := [.body 2 2 b_two_times, .body 1 2 b_two_sum, .body 2 9 b_table_times, .body 2 6 b_table_plus, .body 2 4 b_scaled, .body 1 4 b_turned_over, .body 2 7 b_within, .body 1 3 b_plain_table, .body 1 2 b_trace, .body 1 8 b_units, .body 1 3 b_last_unit, .body 2 5 b_do_exchange, .body 1 3 b_with_squares, .body 2 4 b_lot_table, .prim refillP, .prim2 draw2P, .body 2 4 b__law_exact, .body 1 3 b__law_two, .body 2 2 b__law_two_times, .body 2 9 b__law_table_times, .body 2 4 b__law_plain, .body 3 5 b__law_added, .body 3 5 b__law_table, .body 2 5 b__law_fits, .body 1 28 b_law]
theorem sc_two_times : FnScope ["one", "other"] (List.take 2 ["one", "other"]) (defScope (topS 10)) := ⟨rfl, rfl, rfl, by decide +kernel, rfl, by decide +kernel, by decide +kernel⟩
theorem co_two_times : cSs (cS 40 (topT.ctx ["one", "other"] [] (defScope (topS 10)))) (defBody (topS 10)) = some b_two_times := by kernel_rfl
theorem sc_two_sum : FnScope ["rows", "one"] (List.take 1 ["rows", "one"]) (defScope (topS 11)) := ⟨rfl, rfl, rfl, by decide +kernel, rfl, by decide +kernel, by decide +kernel⟩
theorem co_two_sum : cSs (cS 40 (topT.ctx ["rows", "one"] [] (defScope (topS 11)))) (defBody (topS 11)) = some b_two_sum := by kernel_rfl
theorem sc_table_times : FnScope ["one", "other", "columns", "told", "row", "at", "column", "a", "b"] (List.take 2 ["one", "other", "columns", "told", "row", "at", "column", "a", "b"]) (defScope (topS 12)) := ⟨rfl, rfl, rfl, by decide +kernel, rfl, by decide +kernel, by decide +kernel⟩
theorem co_table_times : cSs (cS 40 (topT.ctx ["one", "other", "columns", "told", "row", "at", "column", "a", "b"] [2, 3] (defScope (topS 12)))) (defBody (topS 12)) = some b_table_times := by kernel_rfl
theorem sc_table_plus : FnScope ["one", "other", "row", "line", "a", "b"] (List.take 2 ["one", "other", "row", "line", "a", "b"]) (defScope (topS 13)) := ⟨rfl, rfl, rfl, by decide +kernel, rfl, by decide +kernel, by decide +kernel⟩
theorem co_table_plus : cSs (cS 40 (topT.ctx ["one", "other", "row", "line", "a", "b"] [] (defScope (topS 13)))) (defBody (topS 13)) = some b_table_plus := by kernel_rfl
theorem sc_scaled : FnScope ["table", "by", "row", "one"] (List.take 2 ["table", "by", "row", "one"]) (defScope (topS 14)) := ⟨rfl, rfl, rfl, by decide +kernel, rfl, by decide +kernel, by decide +kernel⟩
theorem co_scaled : cSs (cS 40 (topT.ctx ["table", "by", "row", "one"] [] (defScope (topS 14)))) (defBody (topS 14)) = some b_scaled := by kernel_rfl
theorem sc_turned_over : FnScope ["table", "many", "a", "b"] (List.take 1 ["table", "many", "a", "b"]) (defScope (topS 15)) := ⟨rfl, rfl, rfl, by decide +kernel, rfl, by decide +kernel, by decide +kernel⟩
theorem co_turned_over : cSs (cS 40 (topT.ctx ["table", "many", "a", "b"] [] (defScope (topS 15)))) (defBody (topS 15)) = some b_turned_over := by kernel_rfl
theorem sc_within : FnScope ["one", "other", "told", "row", "line", "a", "b"] (List.take 2 ["one", "other", "told", "row", "line", "a", "b"]) (defScope (topS 16)) := ⟨rfl, rfl, rfl, by decide +kernel, rfl, by decide +kernel, by decide +kernel⟩
theorem co_within : cSs (cS 40 (topT.ctx ["one", "other", "told", "row", "line", "a", "b"] [2] (defScope (topS 16)))) (defBody (topS 16)) = some b_within := by kernel_rfl
theorem sc_plain_table : FnScope ["many", "a", "b"] (List.take 1 ["many", "a", "b"]) (defScope (topS 17)) := ⟨rfl, rfl, rfl, by decide +kernel, rfl, by decide +kernel, by decide +kernel⟩
theorem co_plain_table : cSs (cS 40 (topT.ctx ["many", "a", "b"] [] (defScope (topS 17)))) (defBody (topS 17)) = some b_plain_table := by kernel_rfl
theorem sc_trace : FnScope ["table", "at"] (List.take 1 ["table", "at"]) (defScope (topS 18)) := ⟨rfl, rfl, rfl, by decide +kernel, rfl, by decide +kernel, by decide +kernel⟩
theorem co_trace : cSs (cS 40 (topT.ctx ["table", "at"] [] (defScope (topS 18)))) (defBody (topS 18)) = some b_trace := by kernel_rfl
theorem sc_units : FnScope ["many", "pairs", "told", "at", "middle", "table", "place", "part"] (List.take 1 ["many", "pairs", "told", "at", "middle", "table", "place", "part"]) (defScope (topS 19)) := ⟨rfl, rfl, rfl, by decide +kernel, rfl, by decide +kernel, by decide +kernel⟩
theorem co_units : cSs (cS 40 (topT.ctx ["many", "pairs", "told", "at", "middle", "table", "place", "part"] [2] (defScope (topS 19)))) (defBody (topS 19)) = some b_units := by kernel_rfl
theorem sc_last_unit : FnScope ["pairs", "table", "_"] (List.take 1 ["pairs", "table", "_"]) (defScope (topS 20)) := ⟨rfl, rfl, rfl, by decide +kernel, rfl, by decide +kernel, by decide +kernel⟩
theorem co_last_unit : cSs (cS 40 (topT.ctx ["pairs", "table", "_"] [] (defScope (topS 20)))) (defBody (topS 20)) = some b_last_unit := by kernel_rfl
theorem sc_do_exchange : FnScope ["tables", "squares", "at", "one", "other"] (List.take 2 ["tables", "squares", "at", "one", "other"]) (defScope (topS 21)) := ⟨rfl, rfl, rfl, by decide +kernel, rfl, by decide +kernel, by decide +kernel⟩
theorem co_do_exchange : cSs (cS 40 (topT.ctx ["tables", "squares", "at", "one", "other"] [] (defScope (topS 21)))) (defBody (topS 21)) = some b_do_exchange := by kernel_rfl
theorem sc_with_squares : FnScope ["squares", "one", "square"] (List.take 1 ["squares", "one", "square"]) (defScope (topS 22)) := ⟨rfl, rfl, rfl, by decide +kernel, rfl, by decide +kernel, by decide +kernel⟩
theorem co_with_squares : cSs (cS 40 (topT.ctx ["squares", "one", "square"] [] (defScope (topS 22)))) (defBody (topS 22)) = some b_with_squares := by kernel_rfl
theorem sc_lot_table : FnScope ["tables", "lot", "told", "at"] (List.take 2 ["tables", "lot", "told", "at"]) (defScope (topS 23)) := ⟨rfl, rfl, rfl, by decide +kernel, rfl, by decide +kernel, by decide +kernel⟩
theorem co_lot_table : cSs (cS 40 (topT.ctx ["tables", "lot", "told", "at"] [] (defScope (topS 23)))) (defBody (topS 23)) = some b_lot_table := by kernel_rfl
theorem sc__law_exact : FnScope ["first", "second", "alike", "k"] (List.take 2 ["first", "second", "alike", "k"]) (defScope (topS 27)) := ⟨rfl, rfl, rfl, by decide +kernel, rfl, by decide +kernel, by decide +kernel⟩
theorem co__law_exact : cSs (cS 40 (topT.ctx ["first", "second", "alike", "k"] [] (defScope (topS 27)))) (defBody (topS 27)) = some b__law_exact := by kernel_rfl
theorem sc__law_two : FnScope ["many", "out", "step"] (List.take 1 ["many", "out", "step"]) (defScope (topS 28)) := ⟨rfl, rfl, rfl, by decide +kernel, rfl, by decide +kernel, by decide +kernel⟩
theorem co__law_two : cSs (cS 40 (topT.ctx ["many", "out", "step"] [] (defScope (topS 28)))) (defBody (topS 28)) = some b__law_two := by kernel_rfl
theorem sc__law_two_times : FnScope ["a", "b"] (List.take 2 ["a", "b"]) (defScope (topS 29)) := ⟨rfl, rfl, rfl, by decide +kernel, rfl, by decide +kernel, by decide +kernel⟩
theorem co__law_two_times : cSs (cS 40 (topT.ctx ["a", "b"] [] (defScope (topS 29)))) (defBody (topS 29)) = some b__law_two_times := by kernel_rfl
theorem sc__law_table_times : FnScope ["one", "other", "out", "row", "line", "j", "parts", "i", "part"] (List.take 2 ["one", "other", "out", "row", "line", "j", "parts", "i", "part"]) (defScope (topS 30)) := ⟨rfl, rfl, rfl, by decide +kernel, rfl, by decide +kernel, by decide +kernel⟩
theorem co__law_table_times : cSs (cS 40 (topT.ctx ["one", "other", "out", "row", "line", "j", "parts", "i", "part"] [2, 4, 6] (defScope (topS 30)))) (defBody (topS 30)) = some b__law_table_times := by kernel_rfl
theorem sc__law_plain : FnScope ["many", "by", "i", "j"] (List.take 2 ["many", "by", "i", "j"]) (defScope (topS 31)) := ⟨rfl, rfl, rfl, by decide +kernel, rfl, by decide +kernel, by decide +kernel⟩
theorem co__law_plain : cSs (cS 40 (topT.ctx ["many", "by", "i", "j"] [] (defScope (topS 31)))) (defBody (topS 31)) = some b__law_plain := by kernel_rfl
theorem sc__law_added : FnScope ["one", "other", "by", "i", "j"] (List.take 3 ["one", "other", "by", "i", "j"]) (defScope (topS 32)) := ⟨rfl, rfl, rfl, by decide +kernel, rfl, by decide +kernel, by decide +kernel⟩
theorem co__law_added : cSs (cS 40 (topT.ctx ["one", "other", "by", "i", "j"] [] (defScope (topS 32)))) (defBody (topS 32)) = some b__law_added := by kernel_rfl
theorem sc__law_table : FnScope ["state", "script", "many", "i", "j"] (List.take 3 ["state", "script", "many", "i", "j"]) (defScope (topS 33)) := ⟨rfl, rfl, rfl, by decide +kernel, rfl, by decide +kernel, by decide +kernel⟩
theorem co__law_table : cSs (cS 40 (topT.ctx ["state", "script", "many", "i", "j"] [] (defScope (topS 33)))) (defBody (topS 33)) = some b__law_table := by kernel_rfl
theorem sc__law_fits : FnScope ["tables", "squares", "many", "i", "j"] (List.take 2 ["tables", "squares", "many", "i", "j"]) (defScope (topS 34)) := ⟨rfl, rfl, rfl, by decide +kernel, rfl, by decide +kernel, by decide +kernel⟩
theorem co__law_fits : cSs (cS 40 (topT.ctx ["tables", "squares", "many", "i", "j"] [] (defScope (topS 34)))) (defBody (topS 34)) = some b__law_fits := by kernel_rfl
theorem sc_law : FnScope ["script", "state", "k", "count", "squares", "told", "plain", "lines", "at", "turned", "bent", "lot", "mine", "j", "i", "many", "one", "other", "by", "over", "total", "due", "small", "wide", "a", "b", "row", "part"] (List.take 1 ["script", "state", "k", "count", "squares", "told", "plain", "lines", "at", "turned", "bent", "lot", "mine", "j", "i", "many", "one", "other", "by", "over", "total", "due", "small", "wide", "a", "b", "row", "part"]) (defScope (topS 35)) := ⟨rfl, rfl, rfl, by decide +kernel, rfl, by decide +kernel, by decide +kernel⟩
theorem co_law : cSs (cS 40 (topT.ctx ["script", "state", "k", "count", "squares", "told", "plain", "lines", "at", "turned", "bent", "lot", "mine", "j", "i", "many", "one", "other", "by", "over", "total", "due", "small", "wide", "a", "b", "row", "part"] [9, 10, 23] (defScope (topS 35)))) (defBody (topS 35)) = some b_law := by kernel_rfl
theorem c_two_times (n : Nat) (args : List D) (g : GS) : callN tblT (n + 1) 0 args g = runD (callN tblT n) 2 2 b_two_times args g := rfl
theorem c_two_sum (n : Nat) (args : List D) (g : GS) : callN tblT (n + 1) 1 args g = runD (callN tblT n) 1 2 b_two_sum args g := rfl
theorem c_table_times (n : Nat) (args : List D) (g : GS) : callN tblT (n + 1) 2 args g = runD (callN tblT n) 2 9 b_table_times args g := rfl
theorem c_table_plus (n : Nat) (args : List D) (g : GS) : callN tblT (n + 1) 3 args g = runD (callN tblT n) 2 6 b_table_plus args g := rfl
theorem c_scaled (n : Nat) (args : List D) (g : GS) : callN tblT (n + 1) 4 args g = runD (callN tblT n) 2 4 b_scaled args g := rfl
theorem c_turned_over (n : Nat) (args : List D) (g : GS) : callN tblT (n + 1) 5 args g = runD (callN tblT n) 1 4 b_turned_over args g := rfl
theorem c_within (n : Nat) (args : List D) (g : GS) : callN tblT (n + 1) 6 args g = runD (callN tblT n) 2 7 b_within args g := rfl
theorem c_plain_table (n : Nat) (args : List D) (g : GS) : callN tblT (n + 1) 7 args g = runD (callN tblT n) 1 3 b_plain_table args g := rfl
theorem c_trace (n : Nat) (args : List D) (g : GS) : callN tblT (n + 1) 8 args g = runD (callN tblT n) 1 2 b_trace args g := rfl
theorem c_units (n : Nat) (args : List D) (g : GS) : callN tblT (n + 1) 9 args g = runD (callN tblT n) 1 8 b_units args g := rfl
theorem c_last_unit (n : Nat) (args : List D) (g : GS) : callN tblT (n + 1) 10 args g = runD (callN tblT n) 1 3 b_last_unit args g := rfl
theorem c_do_exchange (n : Nat) (args : List D) (g : GS) : callN tblT (n + 1) 11 args g = runD (callN tblT n) 2 5 b_do_exchange args g := rfl
theorem c_with_squares (n : Nat) (args : List D) (g : GS) : callN tblT (n + 1) 12 args g = runD (callN tblT n) 1 3 b_with_squares args g := rfl
theorem c_lot_table (n : Nat) (args : List D) (g : GS) : callN tblT (n + 1) 13 args g = runD (callN tblT n) 2 4 b_lot_table args g := rfl
theorem c__law_refill (n : Nat) (args : List D) (g : GS) : callN tblT (n + 1) 14 args g = refillP args g := rfl
theorem c__law_draw (n : Nat) (args : List D) (g : GS) : callN tblT (n + 2) 15 args g = draw2P args g := rfl
theorem c__law_exact (n : Nat) (args : List D) (g : GS) : callN tblT (n + 1) 16 args g = runD (callN tblT n) 2 4 b__law_exact args g := rfl
theorem c__law_two (n : Nat) (args : List D) (g : GS) : callN tblT (n + 1) 17 args g = runD (callN tblT n) 1 3 b__law_two args g := rfl
theorem c__law_two_times (n : Nat) (args : List D) (g : GS) : callN tblT (n + 1) 18 args g = runD (callN tblT n) 2 2 b__law_two_times args g := rfl
theorem c__law_table_times (n : Nat) (args : List D) (g : GS) : callN tblT (n + 1) 19 args g = runD (callN tblT n) 2 9 b__law_table_times args g := rfl
theorem c__law_plain (n : Nat) (args : List D) (g : GS) : callN tblT (n + 1) 20 args g = runD (callN tblT n) 2 4 b__law_plain args g := rfl
theorem c__law_added (n : Nat) (args : List D) (g : GS) : callN tblT (n + 1) 21 args g = runD (callN tblT n) 3 5 b__law_added args g := rfl
theorem c__law_table (n : Nat) (args : List D) (g : GS) : callN tblT (n + 1) 22 args g = runD (callN tblT n) 3 5 b__law_table args g := rfl
theorem c__law_fits (n : Nat) (args : List D) (g : GS) : callN tblT (n + 1) 23 args g = runD (callN tblT n) 2 5 b__law_fits args g := rfl
theorem c_law (n : Nat) (args : List D) (g : GS) : callN tblT (n + 1) 24 args g = runD (callN tblT n) 1 28 b_law args g := rfl
theorem top_ok {P : Program} {w : World} {K : PySem.W.Frag} {h : Heap} {mg : Str → Option Value} (X : K.In h) (G : h.Ns mainGlobals mg)
    {f0 : Addr} {oc0 kV0 dc0 pm0 cd0 ct0 : Value} {od0 an0 : Option Addr} {sl0 : Array (Option Value)}
    (a0 : PySem.W.nsIn K mainGlobals "two_times" = some (some (.ref f0))) (l0 : K.lookup f0 = some ⟨oc0, od0, .func (PySem.W.fnOf "two_times" "two_times" (defArgs (topS 10)) (defBody (topS 10)) (defScope (topS 10)) .none kV0 dc0 pm0 an0 cd0 ct0), sl0⟩) (c0 : PySem.W.codeIn K cd0 "two_times" = true) (k0 : PySem.W.keepIn K (.ref f0) = true)
    {f1 : Addr} {oc1 kV1 dc1 pm1 cd1 ct1 : Value} {od1 an1 : Option Addr} {sl1 : Array (Option Value)}
    (a1 : PySem.W.nsIn K mainGlobals "two_sum" = some (some (.ref f1))) (l1 : K.lookup f1 = some ⟨oc1, od1, .func (PySem.W.fnOf "two_sum" "two_sum" (defArgs (topS 11)) (defBody (topS 11)) (defScope (topS 11)) .none kV1 dc1 pm1 an1 cd1 ct1), sl1⟩) (c1 : PySem.W.codeIn K cd1 "two_sum" = true) (k1 : PySem.W.keepIn K (.ref f1) = true)
    {f2 : Addr} {oc2 kV2 dc2 pm2 cd2 ct2 : Value} {od2 an2 : Option Addr} {sl2 : Array (Option Value)}
    (a2 : PySem.W.nsIn K mainGlobals "table_times" = some (some (.ref f2))) (l2 : K.lookup f2 = some ⟨oc2, od2, .func (PySem.W.fnOf "table_times" "table_times" (defArgs (topS 12)) (defBody (topS 12)) (defScope (topS 12)) .none kV2 dc2 pm2 an2 cd2 ct2), sl2⟩) (c2 : PySem.W.codeIn K cd2 "table_times" = true) (k2 : PySem.W.keepIn K (.ref f2) = true)
    {f3 : Addr} {oc3 kV3 dc3 pm3 cd3 ct3 : Value} {od3 an3 : Option Addr} {sl3 : Array (Option Value)}
    (a3 : PySem.W.nsIn K mainGlobals "table_plus" = some (some (.ref f3))) (l3 : K.lookup f3 = some ⟨oc3, od3, .func (PySem.W.fnOf "table_plus" "table_plus" (defArgs (topS 13)) (defBody (topS 13)) (defScope (topS 13)) .none kV3 dc3 pm3 an3 cd3 ct3), sl3⟩) (c3 : PySem.W.codeIn K cd3 "table_plus" = true) (k3 : PySem.W.keepIn K (.ref f3) = true)
    {f4 : Addr} {oc4 kV4 dc4 pm4 cd4 ct4 : Value} {od4 an4 : Option Addr} {sl4 : Array (Option Value)}
    (a4 : PySem.W.nsIn K mainGlobals "scaled" = some (some (.ref f4))) (l4 : K.lookup f4 = some ⟨oc4, od4, .func (PySem.W.fnOf "scaled" "scaled" (defArgs (topS 14)) (defBody (topS 14)) (defScope (topS 14)) .none kV4 dc4 pm4 an4 cd4 ct4), sl4⟩) (c4 : PySem.W.codeIn K cd4 "scaled" = true) (k4 : PySem.W.keepIn K (.ref f4) = true)
    {f5 : Addr} {oc5 kV5 dc5 pm5 cd5 ct5 : Value} {od5 an5 : Option Addr} {sl5 : Array (Option Value)}
    (a5 : PySem.W.nsIn K mainGlobals "turned_over" = some (some (.ref f5))) (l5 : K.lookup f5 = some ⟨oc5, od5, .func (PySem.W.fnOf "turned_over" "turned_over" (defArgs (topS 15)) (defBody (topS 15)) (defScope (topS 15)) .none kV5 dc5 pm5 an5 cd5 ct5), sl5⟩) (c5 : PySem.W.codeIn K cd5 "turned_over" = true) (k5 : PySem.W.keepIn K (.ref f5) = true)
    {f6 : Addr} {oc6 kV6 dc6 pm6 cd6 ct6 : Value} {od6 an6 : Option Addr} {sl6 : Array (Option Value)}
    (a6 : PySem.W.nsIn K mainGlobals "within" = some (some (.ref f6))) (l6 : K.lookup f6 = some ⟨oc6, od6, .func (PySem.W.fnOf "within" "within" (defArgs (topS 16)) (defBody (topS 16)) (defScope (topS 16)) .none kV6 dc6 pm6 an6 cd6 ct6), sl6⟩) (c6 : PySem.W.codeIn K cd6 "within" = true) (k6 : PySem.W.keepIn K (.ref f6) = true)
    {f7 : Addr} {oc7 kV7 dc7 pm7 cd7 ct7 : Value} {od7 an7 : Option Addr} {sl7 : Array (Option Value)}
    (a7 : PySem.W.nsIn K mainGlobals "plain_table" = some (some (.ref f7))) (l7 : K.lookup f7 = some ⟨oc7, od7, .func (PySem.W.fnOf "plain_table" "plain_table" (defArgs (topS 17)) (defBody (topS 17)) (defScope (topS 17)) .none kV7 dc7 pm7 an7 cd7 ct7), sl7⟩) (c7 : PySem.W.codeIn K cd7 "plain_table" = true) (k7 : PySem.W.keepIn K (.ref f7) = true)
    {f8 : Addr} {oc8 kV8 dc8 pm8 cd8 ct8 : Value} {od8 an8 : Option Addr} {sl8 : Array (Option Value)}
    (a8 : PySem.W.nsIn K mainGlobals "trace" = some (some (.ref f8))) (l8 : K.lookup f8 = some ⟨oc8, od8, .func (PySem.W.fnOf "trace" "trace" (defArgs (topS 18)) (defBody (topS 18)) (defScope (topS 18)) .none kV8 dc8 pm8 an8 cd8 ct8), sl8⟩) (c8 : PySem.W.codeIn K cd8 "trace" = true) (k8 : PySem.W.keepIn K (.ref f8) = true)
    {f9 : Addr} {oc9 kV9 dc9 pm9 cd9 ct9 : Value} {od9 an9 : Option Addr} {sl9 : Array (Option Value)}
    (a9 : PySem.W.nsIn K mainGlobals "units" = some (some (.ref f9))) (l9 : K.lookup f9 = some ⟨oc9, od9, .func (PySem.W.fnOf "units" "units" (defArgs (topS 19)) (defBody (topS 19)) (defScope (topS 19)) .none kV9 dc9 pm9 an9 cd9 ct9), sl9⟩) (c9 : PySem.W.codeIn K cd9 "units" = true) (k9 : PySem.W.keepIn K (.ref f9) = true)
    {f10 : Addr} {oc10 kV10 dc10 pm10 cd10 ct10 : Value} {od10 an10 : Option Addr} {sl10 : Array (Option Value)}
    (a10 : PySem.W.nsIn K mainGlobals "last_unit" = some (some (.ref f10))) (l10 : K.lookup f10 = some ⟨oc10, od10, .func (PySem.W.fnOf "last_unit" "last_unit" (defArgs (topS 20)) (defBody (topS 20)) (defScope (topS 20)) .none kV10 dc10 pm10 an10 cd10 ct10), sl10⟩) (c10 : PySem.W.codeIn K cd10 "last_unit" = true) (k10 : PySem.W.keepIn K (.ref f10) = true)
    {f11 : Addr} {oc11 kV11 dc11 pm11 cd11 ct11 : Value} {od11 an11 : Option Addr} {sl11 : Array (Option Value)}
    (a11 : PySem.W.nsIn K mainGlobals "do_exchange" = some (some (.ref f11))) (l11 : K.lookup f11 = some ⟨oc11, od11, .func (PySem.W.fnOf "do_exchange" "do_exchange" (defArgs (topS 21)) (defBody (topS 21)) (defScope (topS 21)) .none kV11 dc11 pm11 an11 cd11 ct11), sl11⟩) (c11 : PySem.W.codeIn K cd11 "do_exchange" = true) (k11 : PySem.W.keepIn K (.ref f11) = true)
    {f12 : Addr} {oc12 kV12 dc12 pm12 cd12 ct12 : Value} {od12 an12 : Option Addr} {sl12 : Array (Option Value)}
    (a12 : PySem.W.nsIn K mainGlobals "with_squares" = some (some (.ref f12))) (l12 : K.lookup f12 = some ⟨oc12, od12, .func (PySem.W.fnOf "with_squares" "with_squares" (defArgs (topS 22)) (defBody (topS 22)) (defScope (topS 22)) .none kV12 dc12 pm12 an12 cd12 ct12), sl12⟩) (c12 : PySem.W.codeIn K cd12 "with_squares" = true) (k12 : PySem.W.keepIn K (.ref f12) = true)
    {f13 : Addr} {oc13 kV13 dc13 pm13 cd13 ct13 : Value} {od13 an13 : Option Addr} {sl13 : Array (Option Value)}
    (a13 : PySem.W.nsIn K mainGlobals "lot_table" = some (some (.ref f13))) (l13 : K.lookup f13 = some ⟨oc13, od13, .func (PySem.W.fnOf "lot_table" "lot_table" (defArgs (topS 23)) (defBody (topS 23)) (defScope (topS 23)) .none kV13 dc13 pm13 an13 cd13 ct13), sl13⟩) (c13 : PySem.W.codeIn K cd13 "lot_table" = true) (k13 : PySem.W.keepIn K (.ref f13) = true)
    {f14 : Addr} {oc14 kV14 dc14 pm14 cd14 ct14 : Value} {od14 an14 : Option Addr} {sl14 : Array (Option Value)}
    (a14 : PySem.W.nsIn K mainGlobals "_law_refill" = some (some (.ref f14))) (l14 : K.lookup f14 = some ⟨oc14, od14, .func (PySem.W.fnOf "_law_refill" "_law_refill" (defArgs (topS 25)) (defBody (topS 25)) (defScope (topS 25)) .none kV14 dc14 pm14 an14 cd14 ct14), sl14⟩) (c14 : PySem.W.codeIn K cd14 "_law_refill" = true) (k14 : PySem.W.keepIn K (.ref f14) = true)
    {f15 : Addr} {oc15 kV15 dc15 pm15 cd15 ct15 : Value} {od15 an15 : Option Addr} {sl15 : Array (Option Value)}
    (a15 : PySem.W.nsIn K mainGlobals "_law_draw" = some (some (.ref f15))) (l15 : K.lookup f15 = some ⟨oc15, od15, .func (PySem.W.fnOf "_law_draw" "_law_draw" (defArgs (topS 26)) (defBody (topS 26)) (defScope (topS 26)) .none kV15 dc15 pm15 an15 cd15 ct15), sl15⟩) (c15 : PySem.W.codeIn K cd15 "_law_draw" = true) (k15 : PySem.W.keepIn K (.ref f15) = true)
    {f16 : Addr} {oc16 kV16 dc16 pm16 cd16 ct16 : Value} {od16 an16 : Option Addr} {sl16 : Array (Option Value)}
    (a16 : PySem.W.nsIn K mainGlobals "_law_exact" = some (some (.ref f16))) (l16 : K.lookup f16 = some ⟨oc16, od16, .func (PySem.W.fnOf "_law_exact" "_law_exact" (defArgs (topS 27)) (defBody (topS 27)) (defScope (topS 27)) .none kV16 dc16 pm16 an16 cd16 ct16), sl16⟩) (c16 : PySem.W.codeIn K cd16 "_law_exact" = true) (k16 : PySem.W.keepIn K (.ref f16) = true)
    {f17 : Addr} {oc17 kV17 dc17 pm17 cd17 ct17 : Value} {od17 an17 : Option Addr} {sl17 : Array (Option Value)}
    (a17 : PySem.W.nsIn K mainGlobals "_law_two" = some (some (.ref f17))) (l17 : K.lookup f17 = some ⟨oc17, od17, .func (PySem.W.fnOf "_law_two" "_law_two" (defArgs (topS 28)) (defBody (topS 28)) (defScope (topS 28)) .none kV17 dc17 pm17 an17 cd17 ct17), sl17⟩) (c17 : PySem.W.codeIn K cd17 "_law_two" = true) (k17 : PySem.W.keepIn K (.ref f17) = true)
    {f18 : Addr} {oc18 kV18 dc18 pm18 cd18 ct18 : Value} {od18 an18 : Option Addr} {sl18 : Array (Option Value)}
    (a18 : PySem.W.nsIn K mainGlobals "_law_two_times" = some (some (.ref f18))) (l18 : K.lookup f18 = some ⟨oc18, od18, .func (PySem.W.fnOf "_law_two_times" "_law_two_times" (defArgs (topS 29)) (defBody (topS 29)) (defScope (topS 29)) .none kV18 dc18 pm18 an18 cd18 ct18), sl18⟩) (c18 : PySem.W.codeIn K cd18 "_law_two_times" = true) (k18 : PySem.W.keepIn K (.ref f18) = true)
    {f19 : Addr} {oc19 kV19 dc19 pm19 cd19 ct19 : Value} {od19 an19 : Option Addr} {sl19 : Array (Option Value)}
    (a19 : PySem.W.nsIn K mainGlobals "_law_table_times" = some (some (.ref f19))) (l19 : K.lookup f19 = some ⟨oc19, od19, .func (PySem.W.fnOf "_law_table_times" "_law_table_times" (defArgs (topS 30)) (defBody (topS 30)) (defScope (topS 30)) .none kV19 dc19 pm19 an19 cd19 ct19), sl19⟩) (c19 : PySem.W.codeIn K cd19 "_law_table_times" = true) (k19 : PySem.W.keepIn K (.ref f19) = true)
    {f20 : Addr} {oc20 kV20 dc20 pm20 cd20 ct20 : Value} {od20 an20 : Option Addr} {sl20 : Array (Option Value)}
    (a20 : PySem.W.nsIn K mainGlobals "_law_plain" = some (some (.ref f20))) (l20 : K.lookup f20 = some ⟨oc20, od20, .func (PySem.W.fnOf "_law_plain" "_law_plain" (defArgs (topS 31)) (defBody (topS 31)) (defScope (topS 31)) .none kV20 dc20 pm20 an20 cd20 ct20), sl20⟩) (c20 : PySem.W.codeIn K cd20 "_law_plain" = true) (k20 : PySem.W.keepIn K (.ref f20) = true)
    {f21 : Addr} {oc21 kV21 dc21 pm21 cd21 ct21 : Value} {od21 an21 : Option Addr} {sl21 : Array (Option Value)}
    (a21 : PySem.W.nsIn K mainGlobals "_law_added" = some (some (.ref f21))) (l21 : K.lookup f21 = some ⟨oc21, od21, .func (PySem.W.fnOf "_law_added" "_law_added" (defArgs (topS 32)) (defBody (topS 32)) (defScope (topS 32)) .none kV21 dc21 pm21 an21 cd21 ct21), sl21⟩) (c21 : PySem.W.codeIn K cd21 "_law_added" = true) (k21 : PySem.W.keepIn K (.ref f21) = true)
    {f22 : Addr} {oc22 kV22 dc22 pm22 cd22 ct22 : Value} {od22 an22 : Option Addr} {sl22 : Array (Option Value)}
    (a22 : PySem.W.nsIn K mainGlobals "_law_table" = some (some (.ref f22))) (l22 : K.lookup f22 = some ⟨oc22, od22, .func (PySem.W.fnOf "_law_table" "_law_table" (defArgs (topS 33)) (defBody (topS 33)) (defScope (topS 33)) .none kV22 dc22 pm22 an22 cd22 ct22), sl22⟩) (c22 : PySem.W.codeIn K cd22 "_law_table" = true) (k22 : PySem.W.keepIn K (.ref f22) = true)
    {f23 : Addr} {oc23 kV23 dc23 pm23 cd23 ct23 : Value} {od23 an23 : Option Addr} {sl23 : Array (Option Value)}
    (a23 : PySem.W.nsIn K mainGlobals "_law_fits" = some (some (.ref f23))) (l23 : K.lookup f23 = some ⟨oc23, od23, .func (PySem.W.fnOf "_law_fits" "_law_fits" (defArgs (topS 34)) (defBody (topS 34)) (defScope (topS 34)) .none kV23 dc23 pm23 an23 cd23 ct23), sl23⟩) (c23 : PySem.W.codeIn K cd23 "_law_fits" = true) (k23 : PySem.W.keepIn K (.ref f23) = true)
    {f24 : Addr} {oc24 kV24 dc24 pm24 cd24 ct24 : Value} {od24 an24 : Option Addr} {sl24 : Array (Option Value)}
    (a24 : PySem.W.nsIn K mainGlobals "law" = some (some (.ref f24))) (l24 : K.lookup f24 = some ⟨oc24, od24, .func (PySem.W.fnOf "law" "law" (defArgs (topS 35)) (defBody (topS 35)) (defScope (topS 35)) .none kV24 dc24 pm24 an24 cd24 ct24), sl24⟩) (c24 : PySem.W.codeIn K cd24 "law" = true) (k24 : PySem.W.keepIn K (.ref f24) = true)
    {u0 : Value} (g0 : PySem.W.nsIn K mainGlobals "ZERO" = some (some u0)) (r0 : repK K 9 (.tup [.int 0, .int 0]) u0 = true)
    {u1 : Value} (g1 : PySem.W.nsIn K mainGlobals "UNIT" = some (some u1)) (r1 : repK K 9 (.tup [.int 1, .int 0]) u1 = true)
    {u2 : Value} (g2 : PySem.W.nsIn K mainGlobals "IMAGE" = some (some u2)) (r2 : repK K 9 (.tup [.int 0, .int 1]) u2 = true)
    {u3 : Value} (g3 : PySem.W.nsIn K mainGlobals "PLAIN" = some (some u3)) (r3 : repK K 9 (.tup [.tup [.tup [.int 1, .int 0], .tup [.int 0, .int 0]], .tup [.tup [.int 0, .int 0], .tup [.int 1, .int 0]]]) u3 = true)
    {u4 : Value} (g4 : PySem.W.nsIn K mainGlobals "FIRST" = some (some u4)) (r4 : repK K 9 (.tup [.tup [.tup [.int 0, .int 0], .tup [.int 1, .int 0]], .tup [.tup [.int 1, .int 0], .tup [.int 0, .int 0]]]) u4 = true)
    {u5 : Value} (g5 : PySem.W.nsIn K mainGlobals "SECOND" = some (some u5)) (r5 : repK K 9 (.tup [.tup [.tup [.int 0, .int 0], .tup [.int 0, .int (-1)]], .tup [.tup [.int 0, .int 1], .tup [.int 0, .int 0]]]) u5 = true)
    {u6 : Value} (g6 : PySem.W.nsIn K mainGlobals "THIRD" = some (some u6)) (r6 : repK K 9 (.tup [.tup [.tup [.int 1, .int 0], .tup [.int 0, .int 0]], .tup [.tup [.int 0, .int 0], .tup [.int (-1), .int 0]]]) u6 = true)
    (z0 : PySem.W.nsIn K mainGlobals "abs" = some none)
    (z1 : PySem.W.nsIn K mainGlobals "all" = some none)
    (z2 : PySem.W.nsIn K mainGlobals "bool" = some none)
    (z3 : PySem.W.nsIn K mainGlobals "enumerate" = some none)
    (z4 : PySem.W.nsIn K mainGlobals "int" = some none)
    (z5 : PySem.W.nsIn K mainGlobals "isinstance" = some none)
    (z6 : PySem.W.nsIn K mainGlobals "len" = some none)
    (z7 : PySem.W.nsIn K mainGlobals "list" = some none)
    (z8 : PySem.W.nsIn K mainGlobals "range" = some none)
    (z9 : PySem.W.nsIn K mainGlobals "str" = some none)
    (z10 : PySem.W.nsIn K mainGlobals "sum" = some none)
    (z11 : PySem.W.nsIn K mainGlobals "tuple" = some none)
    (z12 : PySem.W.nsIn K mainGlobals "zip" = some none) (base : Heap) : TopOk P w K mg base topT tblT := by
  have R : PrimOk P w K mg base "_law_refill" refillP := prim_mk X G a14 l14 c14 k14 (ps := ["script", "k"]) (fun F => ok_refill F (PySem.W.mg_none_of X G z6) (PySem.W.mg_none_of X G z4)) (fun _ _ _ _ _ _ us hl => match us, hl with | [_, _], _ => rfl)
  refine ⟨FnsOk.get ?_, GlOk.get ?_, BiOk.get ?_, ?_⟩
  · exact ⟨⟨_, rfl, body_mk X G a0 l0 c0 k0 sc_two_times (by decide) rfl co_two_times (fun _ _ _ _ _ _ us hl => match us, hl with | [_, _], _ => rfl)⟩, 
      ⟨⟨_, rfl, body_mk X G a1 l1 c1 k1 sc_two_sum (by decide) rfl co_two_sum (fun _ _ _ _ _ _ us hl => match us, hl with | [_], _ => rfl)⟩, 
      ⟨⟨_, rfl, body_mk X G a2 l2 c2 k2 sc_table_times (by decide) rfl co_table_times (fun _ _ _ _ _ _ us hl => match us, hl with | [_, _], _ => rfl)⟩, 
      ⟨⟨_, rfl, body_mk X G a3 l3 c3 k3 sc_table_plus (by decide) rfl co_table_plus (fun _ _ _ _ _ _ us hl => match us, hl with | [_, _], _ => rfl)⟩, 
      ⟨⟨_, rfl, body_mk X G a4 l4 c4 k4 sc_scaled (by decide) rfl co_scaled (fun _ _ _ _ _ _ us hl => match us, hl with | [_, _], _ => rfl)⟩, 
      ⟨⟨_, rfl, body_mk X G a5 l5 c5 k5 sc_turned_over (by decide) rfl co_turned_over (fun _ _ _ _ _ _ us hl => match us, hl with | [_], _ => rfl)⟩, 
      ⟨⟨_, rfl, body_mk X G a6 l6 c6 k6 sc_within (by decide) rfl co_within (fun _ _ _ _ _ _ us hl => match us, hl with | [_, _], _ => rfl)⟩, 
      ⟨⟨_, rfl, body_mk X G a7 l7 c7 k7 sc_plain_table (by decide) rfl co_plain_table (fun _ _ _ _ _ _ us hl => match us, hl with | [_], _ => rfl)⟩, 
      ⟨⟨_, rfl, body_mk X G a8 l8 c8 k8 sc_trace (by decide) rfl co_trace (fun _ _ _ _ _ _ us hl => match us, hl with | [_], _ => rfl)⟩, 
      ⟨⟨_, rfl, body_mk X G a9 l9 c9 k9 sc_units (by decide) rfl co_units (fun _ _ _ _ _ _ us hl => match us, hl with | [_], _ => rfl)⟩, 
      ⟨⟨_, rfl, body_mk X G a10 l10 c10 k10 sc_last_unit (by decide) rfl co_last_unit (fun _ _ _ _ _ _ us hl => match us, hl with | [_], _ => rfl)⟩, 
      ⟨⟨_, rfl, body_mk X G a11 l11 c11 k11 sc_do_exchange (by decide) rfl co_do_exchange (fun _ _ _ _ _ _ us hl => match us, hl with | [_, _], _ => rfl)⟩, 
      ⟨⟨_, rfl, body_mk X G a12 l12 c12 k12 sc_with_squares (by decide) rfl co_with_squares (fun _ _ _ _ _ _ us hl => match us, hl with | [_], _ => rfl)⟩, 
      ⟨⟨_, rfl, body_mk X G a13 l13 c13 k13 sc_lot_table (by decide) rfl co_lot_table (fun _ _ _ _ _ _ us hl => match us, hl with | [_, _], _ => rfl)⟩, 
      ⟨⟨_, rfl, R⟩, 
      ⟨⟨_, rfl, prim2_mk X G a15 l15 c15 k15 (ps := ["state", "script", "size"]) (fun F => ok_draw F R (PySem.W.mg_none_of X G z4)) (fun _ _ _ _ _ _ us hl => match us, hl with | [_, _, _], _ => rfl)⟩, 
      ⟨⟨_, rfl, body_mk X G a16 l16 c16 k16 sc__law_exact (by decide) rfl co__law_exact (fun _ _ _ _ _ _ us hl => match us, hl with | [_, _], _ => rfl)⟩, 
      ⟨⟨_, rfl, body_mk X G a17 l17 c17 k17 sc__law_two (by decide) rfl co__law_two (fun _ _ _ _ _ _ us hl => match us, hl with | [_], _ => rfl)⟩, 
      ⟨⟨_, rfl, body_mk X G a18 l18 c18 k18 sc__law_two_times (by decide) rfl co__law_two_times (fun _ _ _ _ _ _ us hl => match us, hl with | [_, _], _ => rfl)⟩, 
      ⟨⟨_, rfl, body_mk X G a19 l19 c19 k19 sc__law_table_times (by decide) rfl co__law_table_times (fun _ _ _ _ _ _ us hl => match us, hl with | [_, _], _ => rfl)⟩, 
      ⟨⟨_, rfl, body_mk X G a20 l20 c20 k20 sc__law_plain (by decide) rfl co__law_plain (fun _ _ _ _ _ _ us hl => match us, hl with | [_, _], _ => rfl)⟩, 
      ⟨⟨_, rfl, body_mk X G a21 l21 c21 k21 sc__law_added (by decide) rfl co__law_added (fun _ _ _ _ _ _ us hl => match us, hl with | [_, _, _], _ => rfl)⟩, 
      ⟨⟨_, rfl, body_mk X G a22 l22 c22 k22 sc__law_table (by decide) rfl co__law_table (fun _ _ _ _ _ _ us hl => match us, hl with | [_, _, _], _ => rfl)⟩, 
      ⟨⟨_, rfl, body_mk X G a23 l23 c23 k23 sc__law_fits (by decide) rfl co__law_fits (fun _ _ _ _ _ _ us hl => match us, hl with | [_, _], _ => rfl)⟩, 
      ⟨⟨_, rfl, body_mk X G a24 l24 c24 k24 sc_law (by decide) rfl co_law (fun _ _ _ _ _ _ us hl => match us, hl with | [_], _ => rfl)⟩, trivial⟩⟩⟩⟩⟩⟩⟩⟩⟩⟩⟩⟩⟩⟩⟩⟩⟩⟩⟩⟩⟩⟩⟩⟩⟩
  · exact ⟨gl_mk X G 9 g0 r0, ⟨gl_mk X G 9 g1 r1, ⟨gl_mk X G 9 g2 r2, ⟨gl_mk X G 9 g3 r3, ⟨gl_mk X G 9 g4 r4, ⟨gl_mk X G 9 g5 r5, ⟨gl_mk X G 9 g6 r6, trivial⟩⟩⟩⟩⟩⟩⟩
  · exact ⟨PySem.W.mg_none_of X G z0, ⟨PySem.W.mg_none_of X G z1, ⟨PySem.W.mg_none_of X G z2, ⟨PySem.W.mg_none_of X G z3, ⟨PySem.W.mg_none_of X G z4, ⟨PySem.W.mg_none_of X G z5, ⟨PySem.W.mg_none_of X G z6, ⟨PySem.W.mg_none_of X G z7, ⟨PySem.W.mg_none_of X G z8, ⟨PySem.W.mg_none_of X G z9, ⟨PySem.W.mg_none_of X G z10, ⟨PySem.W.mg_none_of X G z11, ⟨PySem.W.mg_none_of X G z12, trivial⟩⟩⟩⟩⟩⟩⟩⟩⟩⟩⟩⟩⟩
  · exact MthOk.get trivial
theorem all_mk {l : PySem.W.OpenLaw} {w : World} {K : PySem.W.Frag} {h : Heap} {mg : Str → Option Value} {fa : Addr} (X : K.In h) (G : h.Ns mainGlobals mg) (hfa : mg "law" = some (.ref fa))
    {f0 : Addr} {oc0 kV0 dc0 pm0 cd0 ct0 : Value} {od0 an0 : Option Addr} {sl0 : Array (Option Value)}
    (a0 : PySem.W.nsIn K mainGlobals "two_times" = some (some (.ref f0))) (l0 : K.lookup f0 = some ⟨oc0, od0, .func (PySem.W.fnOf "two_times" "two_times" (defArgs (topS 10)) (defBody (topS 10)) (defScope (topS 10)) .none kV0 dc0 pm0 an0 cd0 ct0), sl0⟩) (c0 : PySem.W.codeIn K cd0 "two_times" = true) (k0 : PySem.W.keepIn K (.ref f0) = true)
    {f1 : Addr} {oc1 kV1 dc1 pm1 cd1 ct1 : Value} {od1 an1 : Option Addr} {sl1 : Array (Option Value)}
    (a1 : PySem.W.nsIn K mainGlobals "two_sum" = some (some (.ref f1))) (l1 : K.lookup f1 = some ⟨oc1, od1, .func (PySem.W.fnOf "two_sum" "two_sum" (defArgs (topS 11)) (defBody (topS 11)) (defScope (topS 11)) .none kV1 dc1 pm1 an1 cd1 ct1), sl1⟩) (c1 : PySem.W.codeIn K cd1 "two_sum" = true) (k1 : PySem.W.keepIn K (.ref f1) = true)
    {f2 : Addr} {oc2 kV2 dc2 pm2 cd2 ct2 : Value} {od2 an2 : Option Addr} {sl2 : Array (Option Value)}
    (a2 : PySem.W.nsIn K mainGlobals "table_times" = some (some (.ref f2))) (l2 : K.lookup f2 = some ⟨oc2, od2, .func (PySem.W.fnOf "table_times" "table_times" (defArgs (topS 12)) (defBody (topS 12)) (defScope (topS 12)) .none kV2 dc2 pm2 an2 cd2 ct2), sl2⟩) (c2 : PySem.W.codeIn K cd2 "table_times" = true) (k2 : PySem.W.keepIn K (.ref f2) = true)
    {f3 : Addr} {oc3 kV3 dc3 pm3 cd3 ct3 : Value} {od3 an3 : Option Addr} {sl3 : Array (Option Value)}
    (a3 : PySem.W.nsIn K mainGlobals "table_plus" = some (some (.ref f3))) (l3 : K.lookup f3 = some ⟨oc3, od3, .func (PySem.W.fnOf "table_plus" "table_plus" (defArgs (topS 13)) (defBody (topS 13)) (defScope (topS 13)) .none kV3 dc3 pm3 an3 cd3 ct3), sl3⟩) (c3 : PySem.W.codeIn K cd3 "table_plus" = true) (k3 : PySem.W.keepIn K (.ref f3) = true)
    {f4 : Addr} {oc4 kV4 dc4 pm4 cd4 ct4 : Value} {od4 an4 : Option Addr} {sl4 : Array (Option Value)}
    (a4 : PySem.W.nsIn K mainGlobals "scaled" = some (some (.ref f4))) (l4 : K.lookup f4 = some ⟨oc4, od4, .func (PySem.W.fnOf "scaled" "scaled" (defArgs (topS 14)) (defBody (topS 14)) (defScope (topS 14)) .none kV4 dc4 pm4 an4 cd4 ct4), sl4⟩) (c4 : PySem.W.codeIn K cd4 "scaled" = true) (k4 : PySem.W.keepIn K (.ref f4) = true)
    {f5 : Addr} {oc5 kV5 dc5 pm5 cd5 ct5 : Value} {od5 an5 : Option Addr} {sl5 : Array (Option Value)}
    (a5 : PySem.W.nsIn K mainGlobals "turned_over" = some (some (.ref f5))) (l5 : K.lookup f5 = some ⟨oc5, od5, .func (PySem.W.fnOf "turned_over" "turned_over" (defArgs (topS 15)) (defBody (topS 15)) (defScope (topS 15)) .none kV5 dc5 pm5 an5 cd5 ct5), sl5⟩) (c5 : PySem.W.codeIn K cd5 "turned_over" = true) (k5 : PySem.W.keepIn K (.ref f5) = true)
    {f6 : Addr} {oc6 kV6 dc6 pm6 cd6 ct6 : Value} {od6 an6 : Option Addr} {sl6 : Array (Option Value)}
    (a6 : PySem.W.nsIn K mainGlobals "within" = some (some (.ref f6))) (l6 : K.lookup f6 = some ⟨oc6, od6, .func (PySem.W.fnOf "within" "within" (defArgs (topS 16)) (defBody (topS 16)) (defScope (topS 16)) .none kV6 dc6 pm6 an6 cd6 ct6), sl6⟩) (c6 : PySem.W.codeIn K cd6 "within" = true) (k6 : PySem.W.keepIn K (.ref f6) = true)
    {f7 : Addr} {oc7 kV7 dc7 pm7 cd7 ct7 : Value} {od7 an7 : Option Addr} {sl7 : Array (Option Value)}
    (a7 : PySem.W.nsIn K mainGlobals "plain_table" = some (some (.ref f7))) (l7 : K.lookup f7 = some ⟨oc7, od7, .func (PySem.W.fnOf "plain_table" "plain_table" (defArgs (topS 17)) (defBody (topS 17)) (defScope (topS 17)) .none kV7 dc7 pm7 an7 cd7 ct7), sl7⟩) (c7 : PySem.W.codeIn K cd7 "plain_table" = true) (k7 : PySem.W.keepIn K (.ref f7) = true)
    {f8 : Addr} {oc8 kV8 dc8 pm8 cd8 ct8 : Value} {od8 an8 : Option Addr} {sl8 : Array (Option Value)}
    (a8 : PySem.W.nsIn K mainGlobals "trace" = some (some (.ref f8))) (l8 : K.lookup f8 = some ⟨oc8, od8, .func (PySem.W.fnOf "trace" "trace" (defArgs (topS 18)) (defBody (topS 18)) (defScope (topS 18)) .none kV8 dc8 pm8 an8 cd8 ct8), sl8⟩) (c8 : PySem.W.codeIn K cd8 "trace" = true) (k8 : PySem.W.keepIn K (.ref f8) = true)
    {f9 : Addr} {oc9 kV9 dc9 pm9 cd9 ct9 : Value} {od9 an9 : Option Addr} {sl9 : Array (Option Value)}
    (a9 : PySem.W.nsIn K mainGlobals "units" = some (some (.ref f9))) (l9 : K.lookup f9 = some ⟨oc9, od9, .func (PySem.W.fnOf "units" "units" (defArgs (topS 19)) (defBody (topS 19)) (defScope (topS 19)) .none kV9 dc9 pm9 an9 cd9 ct9), sl9⟩) (c9 : PySem.W.codeIn K cd9 "units" = true) (k9 : PySem.W.keepIn K (.ref f9) = true)
    {f10 : Addr} {oc10 kV10 dc10 pm10 cd10 ct10 : Value} {od10 an10 : Option Addr} {sl10 : Array (Option Value)}
    (a10 : PySem.W.nsIn K mainGlobals "last_unit" = some (some (.ref f10))) (l10 : K.lookup f10 = some ⟨oc10, od10, .func (PySem.W.fnOf "last_unit" "last_unit" (defArgs (topS 20)) (defBody (topS 20)) (defScope (topS 20)) .none kV10 dc10 pm10 an10 cd10 ct10), sl10⟩) (c10 : PySem.W.codeIn K cd10 "last_unit" = true) (k10 : PySem.W.keepIn K (.ref f10) = true)
    {f11 : Addr} {oc11 kV11 dc11 pm11 cd11 ct11 : Value} {od11 an11 : Option Addr} {sl11 : Array (Option Value)}
    (a11 : PySem.W.nsIn K mainGlobals "do_exchange" = some (some (.ref f11))) (l11 : K.lookup f11 = some ⟨oc11, od11, .func (PySem.W.fnOf "do_exchange" "do_exchange" (defArgs (topS 21)) (defBody (topS 21)) (defScope (topS 21)) .none kV11 dc11 pm11 an11 cd11 ct11), sl11⟩) (c11 : PySem.W.codeIn K cd11 "do_exchange" = true) (k11 : PySem.W.keepIn K (.ref f11) = true)
    {f12 : Addr} {oc12 kV12 dc12 pm12 cd12 ct12 : Value} {od12 an12 : Option Addr} {sl12 : Array (Option Value)}
    (a12 : PySem.W.nsIn K mainGlobals "with_squares" = some (some (.ref f12))) (l12 : K.lookup f12 = some ⟨oc12, od12, .func (PySem.W.fnOf "with_squares" "with_squares" (defArgs (topS 22)) (defBody (topS 22)) (defScope (topS 22)) .none kV12 dc12 pm12 an12 cd12 ct12), sl12⟩) (c12 : PySem.W.codeIn K cd12 "with_squares" = true) (k12 : PySem.W.keepIn K (.ref f12) = true)
    {f13 : Addr} {oc13 kV13 dc13 pm13 cd13 ct13 : Value} {od13 an13 : Option Addr} {sl13 : Array (Option Value)}
    (a13 : PySem.W.nsIn K mainGlobals "lot_table" = some (some (.ref f13))) (l13 : K.lookup f13 = some ⟨oc13, od13, .func (PySem.W.fnOf "lot_table" "lot_table" (defArgs (topS 23)) (defBody (topS 23)) (defScope (topS 23)) .none kV13 dc13 pm13 an13 cd13 ct13), sl13⟩) (c13 : PySem.W.codeIn K cd13 "lot_table" = true) (k13 : PySem.W.keepIn K (.ref f13) = true)
    {f14 : Addr} {oc14 kV14 dc14 pm14 cd14 ct14 : Value} {od14 an14 : Option Addr} {sl14 : Array (Option Value)}
    (a14 : PySem.W.nsIn K mainGlobals "_law_refill" = some (some (.ref f14))) (l14 : K.lookup f14 = some ⟨oc14, od14, .func (PySem.W.fnOf "_law_refill" "_law_refill" (defArgs (topS 25)) (defBody (topS 25)) (defScope (topS 25)) .none kV14 dc14 pm14 an14 cd14 ct14), sl14⟩) (c14 : PySem.W.codeIn K cd14 "_law_refill" = true) (k14 : PySem.W.keepIn K (.ref f14) = true)
    {f15 : Addr} {oc15 kV15 dc15 pm15 cd15 ct15 : Value} {od15 an15 : Option Addr} {sl15 : Array (Option Value)}
    (a15 : PySem.W.nsIn K mainGlobals "_law_draw" = some (some (.ref f15))) (l15 : K.lookup f15 = some ⟨oc15, od15, .func (PySem.W.fnOf "_law_draw" "_law_draw" (defArgs (topS 26)) (defBody (topS 26)) (defScope (topS 26)) .none kV15 dc15 pm15 an15 cd15 ct15), sl15⟩) (c15 : PySem.W.codeIn K cd15 "_law_draw" = true) (k15 : PySem.W.keepIn K (.ref f15) = true)
    {f16 : Addr} {oc16 kV16 dc16 pm16 cd16 ct16 : Value} {od16 an16 : Option Addr} {sl16 : Array (Option Value)}
    (a16 : PySem.W.nsIn K mainGlobals "_law_exact" = some (some (.ref f16))) (l16 : K.lookup f16 = some ⟨oc16, od16, .func (PySem.W.fnOf "_law_exact" "_law_exact" (defArgs (topS 27)) (defBody (topS 27)) (defScope (topS 27)) .none kV16 dc16 pm16 an16 cd16 ct16), sl16⟩) (c16 : PySem.W.codeIn K cd16 "_law_exact" = true) (k16 : PySem.W.keepIn K (.ref f16) = true)
    {f17 : Addr} {oc17 kV17 dc17 pm17 cd17 ct17 : Value} {od17 an17 : Option Addr} {sl17 : Array (Option Value)}
    (a17 : PySem.W.nsIn K mainGlobals "_law_two" = some (some (.ref f17))) (l17 : K.lookup f17 = some ⟨oc17, od17, .func (PySem.W.fnOf "_law_two" "_law_two" (defArgs (topS 28)) (defBody (topS 28)) (defScope (topS 28)) .none kV17 dc17 pm17 an17 cd17 ct17), sl17⟩) (c17 : PySem.W.codeIn K cd17 "_law_two" = true) (k17 : PySem.W.keepIn K (.ref f17) = true)
    {f18 : Addr} {oc18 kV18 dc18 pm18 cd18 ct18 : Value} {od18 an18 : Option Addr} {sl18 : Array (Option Value)}
    (a18 : PySem.W.nsIn K mainGlobals "_law_two_times" = some (some (.ref f18))) (l18 : K.lookup f18 = some ⟨oc18, od18, .func (PySem.W.fnOf "_law_two_times" "_law_two_times" (defArgs (topS 29)) (defBody (topS 29)) (defScope (topS 29)) .none kV18 dc18 pm18 an18 cd18 ct18), sl18⟩) (c18 : PySem.W.codeIn K cd18 "_law_two_times" = true) (k18 : PySem.W.keepIn K (.ref f18) = true)
    {f19 : Addr} {oc19 kV19 dc19 pm19 cd19 ct19 : Value} {od19 an19 : Option Addr} {sl19 : Array (Option Value)}
    (a19 : PySem.W.nsIn K mainGlobals "_law_table_times" = some (some (.ref f19))) (l19 : K.lookup f19 = some ⟨oc19, od19, .func (PySem.W.fnOf "_law_table_times" "_law_table_times" (defArgs (topS 30)) (defBody (topS 30)) (defScope (topS 30)) .none kV19 dc19 pm19 an19 cd19 ct19), sl19⟩) (c19 : PySem.W.codeIn K cd19 "_law_table_times" = true) (k19 : PySem.W.keepIn K (.ref f19) = true)
    {f20 : Addr} {oc20 kV20 dc20 pm20 cd20 ct20 : Value} {od20 an20 : Option Addr} {sl20 : Array (Option Value)}
    (a20 : PySem.W.nsIn K mainGlobals "_law_plain" = some (some (.ref f20))) (l20 : K.lookup f20 = some ⟨oc20, od20, .func (PySem.W.fnOf "_law_plain" "_law_plain" (defArgs (topS 31)) (defBody (topS 31)) (defScope (topS 31)) .none kV20 dc20 pm20 an20 cd20 ct20), sl20⟩) (c20 : PySem.W.codeIn K cd20 "_law_plain" = true) (k20 : PySem.W.keepIn K (.ref f20) = true)
    {f21 : Addr} {oc21 kV21 dc21 pm21 cd21 ct21 : Value} {od21 an21 : Option Addr} {sl21 : Array (Option Value)}
    (a21 : PySem.W.nsIn K mainGlobals "_law_added" = some (some (.ref f21))) (l21 : K.lookup f21 = some ⟨oc21, od21, .func (PySem.W.fnOf "_law_added" "_law_added" (defArgs (topS 32)) (defBody (topS 32)) (defScope (topS 32)) .none kV21 dc21 pm21 an21 cd21 ct21), sl21⟩) (c21 : PySem.W.codeIn K cd21 "_law_added" = true) (k21 : PySem.W.keepIn K (.ref f21) = true)
    {f22 : Addr} {oc22 kV22 dc22 pm22 cd22 ct22 : Value} {od22 an22 : Option Addr} {sl22 : Array (Option Value)}
    (a22 : PySem.W.nsIn K mainGlobals "_law_table" = some (some (.ref f22))) (l22 : K.lookup f22 = some ⟨oc22, od22, .func (PySem.W.fnOf "_law_table" "_law_table" (defArgs (topS 33)) (defBody (topS 33)) (defScope (topS 33)) .none kV22 dc22 pm22 an22 cd22 ct22), sl22⟩) (c22 : PySem.W.codeIn K cd22 "_law_table" = true) (k22 : PySem.W.keepIn K (.ref f22) = true)
    {f23 : Addr} {oc23 kV23 dc23 pm23 cd23 ct23 : Value} {od23 an23 : Option Addr} {sl23 : Array (Option Value)}
    (a23 : PySem.W.nsIn K mainGlobals "_law_fits" = some (some (.ref f23))) (l23 : K.lookup f23 = some ⟨oc23, od23, .func (PySem.W.fnOf "_law_fits" "_law_fits" (defArgs (topS 34)) (defBody (topS 34)) (defScope (topS 34)) .none kV23 dc23 pm23 an23 cd23 ct23), sl23⟩) (c23 : PySem.W.codeIn K cd23 "_law_fits" = true) (k23 : PySem.W.keepIn K (.ref f23) = true)
    {f24 : Addr} {oc24 kV24 dc24 pm24 cd24 ct24 : Value} {od24 an24 : Option Addr} {sl24 : Array (Option Value)}
    (a24 : PySem.W.nsIn K mainGlobals "law" = some (some (.ref f24))) (l24 : K.lookup f24 = some ⟨oc24, od24, .func (PySem.W.fnOf "law" "law" (defArgs (topS 35)) (defBody (topS 35)) (defScope (topS 35)) .none kV24 dc24 pm24 an24 cd24 ct24), sl24⟩) (c24 : PySem.W.codeIn K cd24 "law" = true) (k24 : PySem.W.keepIn K (.ref f24) = true)
    {u0 : Value} (g0 : PySem.W.nsIn K mainGlobals "ZERO" = some (some u0)) (r0 : repK K 9 (.tup [.int 0, .int 0]) u0 = true)
    {u1 : Value} (g1 : PySem.W.nsIn K mainGlobals "UNIT" = some (some u1)) (r1 : repK K 9 (.tup [.int 1, .int 0]) u1 = true)
    {u2 : Value} (g2 : PySem.W.nsIn K mainGlobals "IMAGE" = some (some u2)) (r2 : repK K 9 (.tup [.int 0, .int 1]) u2 = true)
    {u3 : Value} (g3 : PySem.W.nsIn K mainGlobals "PLAIN" = some (some u3)) (r3 : repK K 9 (.tup [.tup [.tup [.int 1, .int 0], .tup [.int 0, .int 0]], .tup [.tup [.int 0, .int 0], .tup [.int 1, .int 0]]]) u3 = true)
    {u4 : Value} (g4 : PySem.W.nsIn K mainGlobals "FIRST" = some (some u4)) (r4 : repK K 9 (.tup [.tup [.tup [.int 0, .int 0], .tup [.int 1, .int 0]], .tup [.tup [.int 1, .int 0], .tup [.int 0, .int 0]]]) u4 = true)
    {u5 : Value} (g5 : PySem.W.nsIn K mainGlobals "SECOND" = some (some u5)) (r5 : repK K 9 (.tup [.tup [.tup [.int 0, .int 0], .tup [.int 0, .int (-1)]], .tup [.tup [.int 0, .int 1], .tup [.int 0, .int 0]]]) u5 = true)
    {u6 : Value} (g6 : PySem.W.nsIn K mainGlobals "THIRD" = some (some u6)) (r6 : repK K 9 (.tup [.tup [.tup [.int 1, .int 0], .tup [.int 0, .int 0]], .tup [.tup [.int 0, .int 0], .tup [.int (-1), .int 0]]]) u6 = true)
    (z0 : PySem.W.nsIn K mainGlobals "abs" = some none)
    (z1 : PySem.W.nsIn K mainGlobals "all" = some none)
    (z2 : PySem.W.nsIn K mainGlobals "bool" = some none)
    (z3 : PySem.W.nsIn K mainGlobals "enumerate" = some none)
    (z4 : PySem.W.nsIn K mainGlobals "int" = some none)
    (z5 : PySem.W.nsIn K mainGlobals "isinstance" = some none)
    (z6 : PySem.W.nsIn K mainGlobals "len" = some none)
    (z7 : PySem.W.nsIn K mainGlobals "list" = some none)
    (z8 : PySem.W.nsIn K mainGlobals "range" = some none)
    (z9 : PySem.W.nsIn K mainGlobals "str" = some none)
    (z10 : PySem.W.nsIn K mainGlobals "sum" = some none)
    (z11 : PySem.W.nsIn K mainGlobals "tuple" = some none)
    (z12 : PySem.W.nsIn K mainGlobals "zip" = some none)
    : ∃ fd : FuncData, (∀ (s : Shared) (v : Value), BindsTo s fd ⟨[v], []⟩ [("script", v)]) ∧ ∀ base : Heap, K.In base → base.Ns mainGlobals mg → FnOk l.prog w K mg base CX0 60 fa fd ["script"] (spT K (callN tblT 60) 24) := by
  have e := hfa.symm.trans (PySem.W.mg_of X G a24)
  cases e
  have F := fun_mk (st := topS 35) l24 c24 k24
  refine ⟨PySem.W.fnOf "law" "law" (defArgs (topS 35)) (defBody (topS 35)) (defScope (topS 35)) .none kV24 dc24 pm24 an24 cd24 ct24, fun s v => .of_eq rfl, fun base _ _ => ?_⟩
  have T := top_ok (P := l.prog) (w := w) X G a0 l0 c0 k0 a1 l1 c1 k1 a2 l2 c2 k2 a3 l3 c3 k3 a4 l4 c4 k4 a5 l5 c5 k5 a6 l6 c6 k6 a7 l7 c7 k7 a8 l8 c8 k8 a9 l9 c9 k9 a10 l10 c10 k10 a11 l11 c11 k11 a12 l12 c12 k12 a13 l13 c13 k13 a14 l14 c14 k14 a15 l15 c15 k15 a16 l16 c16 k16 a17 l17 c17 k17 a18 l18 c18 k18 a19 l19 c19 k19 a20 l20 c20 k20 a21 l21 c21 k21 a22 l22 c22 k22 a23 l23 c23 k23 a24 l24 c24 k24 g0 r0 g1 r1 g2 r2 g3 r3 g4 r4 g5 r5 g6 r6 z0 z1 z2 z3 z4 z5 z6 z7 z8 z9 z10 z11 z12 base
  exact body_fn (f := 24) T rfl F sc_law (by decide) rfl co_law
end Tv

/-! Pure0: small tools to run the evaluator by hand. -/
namespace Tv
open PySem
theorem mulOk_l {a b : Int} (h : a.natAbs < 18446744073709551616) : mulOk a b = true := by
  unfold mulOk
  rw [Nat.blt_eq.mpr h]; rfl
theorem mulD_l {a b : Int} (h : a.natAbs < 18446744073709551616) : mulD (.int a) (.int b) = some (.int (a * b)) := by
  show (if mulOk a b = true then some (D.int (a * b)) else none) = _
  rw [mulOk_l h]; rfl
theorem mulOk_r {a b : Int} (h : b.natAbs < 18446744073709551616) : mulOk a b = true := by
  unfold mulOk
  rw [Nat.blt_eq.mpr h, Bool.or_true]; rfl
theorem mulD_r {a b : Int} (h : b.natAbs < 18446744073709551616) : mulD (.int a) (.int b) = some (.int (a * b)) := by
  show (if mulOk a b = true then some (D.int (a * b)) else none) = _
  rw [mulOk_r h]; rfl
theorem fdivD {a b : Int} (h0 : b ≠ 0) (h : b.natAbs < 1073741824) : intD divOk Int.fdiv (.int a) (.int b) = some (.int (Int.fdiv a b)) := by
  show (if divOk a b = true then some (D.int (Int.fdiv a b)) else none) = _
  have : divOk a b = true := by
    unfold divOk
    rw [Nat.blt_eq.mpr h]
    simp [h0]
  rw [this]; rfl
theorem fdivD' {a b : Int} (h0 : 0 < b) (h : b.natAbs < 2 ^ 9000) : intD divOk Int.fdiv (.int a) (.int b) = some (.int (Int.fdiv a b)) := by
  show (if divOk a b = true then some (D.int (Int.fdiv a b)) else none) = _
  have : divOk a b = true := by
    unfold divOk
    rw [Nat.blt_eq.mpr h, decide_eq_true h0]
    simp
  rw [this]; rfl
theorem fmodD {a b : Int} (h0 : b ≠ 0) : intD (fun _ b => b != 0) Int.fmod (.int a) (.int b) = some (.int (Int.fmod a b)) := by
  show (if (b != 0) = true then some (D.int (Int.fmod a b)) else none) = _
  rw [if_pos (by simpa using h0)]
theorem whl_step {t : Env → GS → Option (D × GS)} {b : Env → GS → Option (R × GS)} {k : Nat} {ρ ρ' : Env} {g g1 g2 : GS} {d : D} (h1 : t ρ g = some (d, g1)) (h2 : truth d = some true) (h3 : b ρ g1 = some (.nx ρ', g2)) : whlL t b (k + 1) ρ g = whlL t b k ρ' g2 := by
  simp only [whlL, h1, bnd, h2, h3]
theorem whl_end {t : Env → GS → Option (D × GS)} {b : Env → GS → Option (R × GS)} {k : Nat} {ρ : Env} {g g1 : GS} {d : D} (h1 : t ρ g = some (d, g1)) (h2 : truth d = some false) : whlL t b (k + 1) ρ g = some (.nx ρ, g1) := by
  simp only [whlL, h1, bnd, h2]
theorem for_nil {b : D → Env → GS → Option (R × GS)} {ρ : Env} {g : GS} : forL b [] ρ g = some (.nx ρ, g) := rfl
theorem for_step {b : D → Env → GS → Option (R × GS)} {x : D} {xs : List D} {ρ ρ' : Env} {g g2 : GS} (h : b x ρ g = some (.nx ρ', g2)) : forL b (x :: xs) ρ g = forL b xs ρ' g2 := by
  simp only [forL, h, bnd]
/-- a walk that never leaves, with an invariant -/
theorem for_inv {b : D → Env → GS → Option (R × GS)} (I : Env → GS → Prop) : ∀ {xs : List D} {ρ : Env} {g : GS}, I ρ g → (∀ x ∈ xs, ∀ ρ g, I ρ g → ∃ ρ' g', b x ρ g = some (.nx ρ', g') ∧ I ρ' g') → ∃ ρ' g', forL b xs ρ g = some (.nx ρ', g') ∧ I ρ' g'
  | [], ρ, g, h, _ => ⟨ρ, g, rfl, h⟩
  | x :: xs, ρ, g, h, hb => by
    obtain ⟨ρ1, g1, e, h1⟩ := hb x (List.mem_cons_self ..) ρ g h
    obtain ⟨ρ2, g2, e2, h2⟩ := for_inv I h1 fun y hy => hb y (List.mem_cons_of_mem _ hy)
    exact ⟨ρ2, g2, by rw [for_step e]; exact e2, h2⟩
theorem exs_cons {call : Calls} {s : S} {ss : List S} {ρ ρ' : Env} {g g' : GS} (h : ex call s ρ g = some (.nx ρ', g')) : exs call (s :: ss) ρ g = exs call ss ρ' g' := by
  simp only [exs, h, bnd]
theorem whl_ret {t : Env → GS → Option (D × GS)} {b : Env → GS → Option (R × GS)} {k : Nat} {ρ : Env} {g g1 g2 : GS} {d r : D} (h1 : t ρ g = some (d, g1)) (h2 : truth d = some true) (h3 : b ρ g1 = some (.rt r, g2)) : whlL t b (k + 1) ρ g = some (.rt r, g2) := by
  simp only [whlL, h1, bnd, h2, h3]
theorem for_ret {b : D → Env → GS → Option (R × GS)} {x : D} {xs : List D} {ρ : Env} {g g2 : GS} {r : D} (h : b x ρ g = some (.rt r, g2)) : forL b (x :: xs) ρ g = some (.rt r, g2) := by
  simp only [forL, h, bnd]
/-- a walk over a range, the names told by the turn -/
theorem for_range {b : D → Env → GS → Option (R × GS)} {g : GS} (P : Nat → Env) : ∀ (n : Nat) (lo : Int) (k : Nat), (∀ i, k ≤ i → i < k + n → b (.int (lo + ((i - k : Nat) : Int))) (P i) g = some (.nx (P (i + 1)), g)) → forL b (rangeD lo n) (P k) g = some (.nx (P (k + n)), g)
  | 0, _, _, _ => rfl
  | n + 1, lo, k, h => by
    have h0 := h k (Nat.le_refl k) (by omega)
    rw [show lo + ((k - k : Nat) : Int) = lo by omega] at h0
    rw [rangeD, for_step h0, for_range P n (lo + 1) (k + 1) fun i h1 h2 => ?_]
    · rw [show k + 1 + n = k + (n + 1) by omega]
    · have := h i (by omega) (by omega)
      rw [show lo + 1 + ((i - (k + 1) : Nat) : Int) = lo + ((i - k : Nat) : Int) by omega]
      exact this
theorem exs_ret {call : Calls} {s : S} {ss : List S} {ρ : Env} {g g' : GS} {d : D} (h : ex call s ρ g = some (.rt d, g')) : exs call (s :: ss) ρ g = some (.rt d, g') := by
  simp only [exs, h, bnd]
theorem fdivN {a b : Nat} : Int.fdiv (a : Int) (b : Int) = ((a / b : Nat) : Int) := by
  rw [Int.fdiv_eq_ediv_of_nonneg _ (by omega)]; rfl
theorem fmodN {a b : Nat} : Int.fmod (a : Int) (b : Int) = ((a % b : Nat) : Int) := by
  rw [Int.fmod_eq_emod_of_nonneg _ (by omega)]; rfl
theorem divOkN {a : Int} {b : Nat} (h0 : 0 < b) (h : b < 1073741824) : divOk a (b : Int) = true := by
  unfold divOk
  rw [Nat.blt_eq.mpr (by omega)]
  simp; omega
theorem mulN_l {a : Nat} {b : Int} (h : a < 18446744073709551616) : mulD (.int a) (.int b) = some (.int (a * b)) := mulD_l (by omega)
theorem ex_whl {call : Calls} {t : C} {b : List S} {ρ : Env} {g : GS} : ex call (.whl t b) ρ g = whlL (fun ρ g => ev call t ρ g) (fun ρ g => exs call b ρ g) FUEL ρ g := by simp only [ex]
theorem le_nat {a b : Nat} : cmpD .le (.int a) (.int b) = some (.bl (decide (a ≤ b))) := by
  show some (D.bl (decide ((a : Int) ≤ (b : Int)))) = _
  rw [decide_eq_decide.mpr Int.ofNat_le]
theorem lt_nat {a b : Nat} : cmpD .lt (.int a) (.int b) = some (.bl (decide (a < b))) := by
  show some (D.bl (decide ((a : Int) < (b : Int)))) = _
  rw [decide_eq_decide.mpr Int.ofNat_lt]
theorem eq_int {a b : Int} : cmpD .eq (.int a) (.int b) = some (.bl (a == b)) := rfl
theorem ne_int {a b : Int} : cmpD .ne (.int a) (.int b) = some (.bl (!(a == b))) := rfl
theorem eq_nat {a b : Nat} : cmpD .eq (.int a) (.int b) = some (.bl (decide (a = b))) := by
  rw [eq_int]
  by_cases h : a = b
  · subst h; simp
  · have h' : (a : Int) ≠ (b : Int) := by omega
    simp [h, h']
end Tv

/-! Pure1: expressions and statements one by one (generic); draws of the second kind; _law_exact. -/
namespace Tv
open PySem PyProof.Rows
abbrev nD (n : Nat) : D := .int (n : Int)
section
variable {call : Calls} {g g1 g2 : GS} {ρ : Env}
theorem ev_cmp2 {o : Cp} {a b : C} {x y z : D} (h1 : ev call a ρ g = some (x, g1)) (h2 : ev call b ρ g1 = some (y, g2)) (h3 : cmpD o x y = some z) : ev call (.cmp o a b) ρ g = some (z, g2) := by
  simp only [ev, bnd, h1, h2, h3, Option.map_some]
theorem ev_bin2 {o : Op} {a b : C} {x y z : D} (h1 : ev call a ρ g = some (x, g1)) (h2 : ev call b ρ g1 = some (y, g2)) (h3 : binD o x y = some z) : ev call (.bin o a b) ρ g = some (z, g2) := by
  simp only [ev, bnd, h1, h2, h3, Option.map_some]
theorem ev_idx2 {a b : C} {x y z : D} (h1 : ev call a ρ g = some (x, g1)) (h2 : ev call b ρ g1 = some (y, g2)) (h3 : idxD x y = some z) : ev call (.idx a b) ρ g = some (z, g2) := by
  simp only [ev, bnd, h1, h2, h3, Option.map_some]
theorem ev_bv {i : Nat} {d : D} (h : ρ[i]? = some (.val d)) : ev call (.bvar i) ρ g = some (d, g) := by simp only [ev, h]
theorem ev_bo {i : Nat} {xs : List D} (h : ρ[i]? = some (.own xs)) : ev call (.bvar i) ρ g = some (.lst xs, g) := by simp only [ev, h]
theorem ev_v {i : Nat} {d : D} (h : ρ[i]? = some (.val d)) : ev call (.var i) ρ g = some (d, g) := by simp only [ev, h]
theorem ev_c1 {f : Nat} {e : C} {x z : D} (h1 : ev call e ρ g = some (x, g1)) (h2 : call f [x] g1 = some (z, g2)) : ev call (.call f [e]) ρ g = some (z, g2) := by
  simp only [ev, evs, bnd, h1, h2]
theorem ev_c2 {g3 : GS} {f : Nat} {e e' : C} {x y z : D} (h1 : ev call e ρ g = some (x, g1)) (h3 : ev call e' ρ g1 = some (y, g2)) (h2 : call f [x, y] g2 = some (z, g3)) : ev call (.call f [e, e']) ρ g = some (z, g3) := by
  simp only [ev, evs, bnd, h1, h3, h2]
theorem ev_c3 {g3 g4 : GS} {f : Nat} {e e' e'' : C} {x y w z : D} (h1 : ev call e ρ g = some (x, g1)) (h3 : ev call e' ρ g1 = some (y, g2)) (h4 : ev call e'' ρ g2 = some (w, g3)) (h2 : call f [x, y, w] g3 = some (z, g4)) : ev call (.call f [e, e', e'']) ρ g = some (z, g4) := by
  simp only [ev, evs, bnd, h1, h3, h4, h2]
theorem ev_b1 {b : Bi} {e : C} {x z : D} (h1 : ev call e ρ g = some (x, g1)) (h2 : biD b [x] = some z) : ev call (.bi b [e]) ρ g = some (z, g1) := by
  simp only [ev, evs, bnd, h1, h2, Option.map_some]
theorem ev_b2 {b : Bi} {e e' : C} {x y z : D} (h1 : ev call e ρ g = some (x, g1)) (h3 : ev call e' ρ g1 = some (y, g2)) (h2 : biD b [x, y] = some z) : ev call (.bi b [e, e']) ρ g = some (z, g2) := by
  simp only [ev, evs, bnd, h1, h3, h2, Option.map_some]
theorem ev_not {e : C} {x : D} {k : Bool} (h1 : ev call e ρ g = some (x, g1)) (h2 : truth x = some k) : ev call (.not e) ρ g = some (.bl (!k), g1) := by
  simp only [ev, bnd, h1, h2, Option.map_some]
theorem ev_neg {e : C} {i : Int} (h1 : ev call e ρ g = some (.int i, g1)) : ev call (.neg e) ρ g = some (.int (-i), g1) := by
  simp only [ev, bnd, h1]
theorem ev_lit {d : D} : ev call (.lit d) ρ g = some (d, g) := by simp only [ev]
theorem ev_tup {es : List C} {ds : List D} (h : evs call es ρ g = some (ds, g1)) : ev call (.tup es) ρ g = some (.tup ds, g1) := by simp only [ev, bnd, h]
theorem ev_lst {es : List C} {ds : List D} (h : evs call es ρ g = some (ds, g1)) : ev call (.lst es) ρ g = some (.lst ds, g1) := by simp only [ev, bnd, h]
theorem evs_nil : evs call [] ρ g = some ([], g) := by simp only [evs]
theorem evs_cons {e : C} {es : List C} {d : D} {ds : List D} (h : ev call e ρ g = some (d, g1)) (h2 : evs call es ρ g1 = some (ds, g2)) : evs call (e :: es) ρ g = some (d :: ds, g2) := by simp only [evs, bnd, h, h2]
theorem ev_or0 {a b : C} {r : Option (D × GS)} (h1 : ev call a ρ g = some (.bl false, g1)) (h2 : ev call b ρ g1 = r) : ev call (.or a b) ρ g = r := by
  simp only [ev, bnd, h1, truth, h2]
theorem ev_or1 {a b : C} (h1 : ev call a ρ g = some (.bl true, g1)) : ev call (.or a b) ρ g = some (.bl true, g1) := by
  simp only [ev, bnd, h1, truth]
theorem ev_and0 {a b : C} (h1 : ev call a ρ g = some (.bl false, g1)) : ev call (.and a b) ρ g = some (.bl false, g1) := by
  simp only [ev, bnd, h1, truth]
theorem ev_and1 {a b : C} {r : Option (D × GS)} (h1 : ev call a ρ g = some (.bl true, g1)) (h2 : ev call b ρ g1 = r) : ev call (.and a b) ρ g = r := by
  simp only [ev, bnd, h1, truth, h2]
theorem ev_ite1 {t a b : C} {x : D} {r : Option (D × GS)} (h1 : ev call t ρ g = some (x, g1)) (h : truth x = some true) (h2 : ev call a ρ g1 = r) : ev call (.ite t a b) ρ g = r := by
  simp only [ev, bnd, h1, h, h2]
theorem ev_ite0 {t a b : C} {x : D} {r : Option (D × GS)} (h1 : ev call t ρ g = some (x, g1)) (h : truth x = some false) (h2 : ev call b ρ g1 = r) : ev call (.ite t a b) ρ g = r := by
  simp only [ev, bnd, h1, h, h2]
theorem ev_cutL {a lo : C} {x z : D} {i : Int} (hn : isNop lo = false) (h1 : ev call a ρ g = some (x, g1)) (h2 : ev call lo ρ g1 = some (.int i, g2)) (h3 : cutD x (some i) none = some z) : ev call (.cut a lo .nop) ρ g = some (z, g2) := by
  have hn' : (isNop lo = true) = False := by simp [hn]
  have hz : isNop C.nop = true := rfl
  simp only [ev, bnd, h1, hn', if_false, h2, partI, Option.map_some, hz, if_true, h3]
theorem ev_cutH {a hi : C} {x z : D} {i : Int} (hn : isNop hi = false) (h1 : ev call a ρ g = some (x, g1)) (h2 : ev call hi ρ g1 = some (.int i, g2)) (h3 : cutD x none (some i) = some z) : ev call (.cut a .nop hi) ρ g = some (z, g2) := by
  have hn' : (isNop hi = true) = False := by simp [hn]
  have hz : isNop C.nop = true := rfl
  simp only [ev, bnd, h1, hn', if_false, h2, partI, Option.map_some, hz, if_true, h3]
theorem ex_if0 {t : C} {a : List S} {x : D} (h1 : ev call t ρ g = some (x, g1)) (h : truth x = some false) : ex call (.ifs t a []) ρ g = some (.nx ρ, g1) := by
  simp only [ex, bnd, h1, h, exs]
theorem ex_if1 {t : C} {a b : List S} {x : D} {r : Option (R × GS)} (h1 : ev call t ρ g = some (x, g1)) (h : truth x = some true) (h2 : exs call a ρ g1 = r) : ex call (.ifs t a b) ρ g = r := by
  simp only [ex, bnd, h1, h, h2]
theorem ex_if2 {t : C} {a b : List S} {x : D} {r : Option (R × GS)} (h1 : ev call t ρ g = some (x, g1)) (h : truth x = some false) (h2 : exs call b ρ g1 = r) : ex call (.ifs t a b) ρ g = r := by
  simp only [ex, bnd, h1, h, h2]
theorem ex_asg1 {i : Nat} {e : C} {z : D} (h : ev call e ρ g = some (z, g1)) : ex call (.asg [] (.var i) e) ρ g = some (.nx (ρ.set i (.val z)), g1) := by
  simp [ex, bnd, freeze, keepF, asg, h]
theorem ex_par2 {i j : Nat} {e f : C} {x y : D} (h : ev call e ρ g = some (x, g1)) (h2 : ev call f ρ g1 = some (y, g2)) : ex call (.par [] [i, j] [e, f]) ρ g = some (.nx ((ρ.set i (.val x)).set j (.val y)), g2) := by
  simp [ex, evs, bnd, freeze, parE, h, h2]
theorem ex_ret1 {e : C} {z : D} (h : ev call e ρ g = some (z, g1)) : ex call (.ret [] e) ρ g = some (.rt z, g1) := by
  simp [ex, bnd, freeze, h]
end
theorem mod_nat {a b : Nat} (h : 0 < b) : binD .mod (nD a) (nD b) = some (nD (a % b)) := by
  have h0 : ((b : Int) != 0) = true := by simp; omega
  simp only [binD, intD, h0, if_true, fmodN]
theorem div_nat {a b : Nat} (h0 : 0 < b) (h : b < 1073741824) : binD .fdiv (nD a) (nD b) = some (nD (a / b)) := by
  simp only [binD, intD, divOkN h0 h, if_true, fdivN]
theorem mul_nat {a b : Nat} (h : b < 18446744073709551616) : binD .mul (nD a) (nD b) = some (nD (a * b)) := by
  show mulD (nD a) (nD b) = _
  rw [mulD_r (by omega)]
  rfl
theorem mul_l {a b : Int} (h : a.natAbs < 18446744073709551616) : binD .mul (.int a) (.int b) = some (.int (a * b)) := by
  simp only [binD]; exact mulD_l h
theorem mul_r {a b : Int} (h : b.natAbs < 18446744073709551616) : binD .mul (.int a) (.int b) = some (.int (a * b)) := by
  simp only [binD]; exact mulD_r h
theorem mod_int {a b : Int} (h : b ≠ 0) : binD .mod (.int a) (.int b) = some (.int (Int.fmod a b)) := by
  simp only [binD]; exact fmodD h
theorem mod2_int {a : Int} : binD .mod (.int a) (.int 2) = some (.int (a % 2)) := by
  rw [mod_int (by decide), Int.fmod_eq_emod_of_nonneg _ (by decide)]
theorem mod4_nat {a : Nat} : binD .mod (nD a) (.int 4) = some (nD (a % 4)) := mod_nat (b := 4) (by decide)
theorem mod2_nat {a : Nat} : binD .mod (nD a) (.int 2) = some (nD (a % 2)) := mod_nat (b := 2) (by decide)
theorem div2_nat {a : Nat} : binD .fdiv (nD a) (.int 2) = some (nD (a / 2)) := div_nat (b := 2) (by decide) (by decide)
theorem add_nat {a b : Nat} : binD .add (nD a) (nD b) = some (nD (a + b)) := rfl
theorem sub_nat {a b : Nat} (h : b ≤ a) : binD .sub (nD a) (nD b) = some (nD (a - b)) := by
  have : ((a : Int) - (b : Int)) = ((a - b : Nat) : Int) := by omega
  simp only [binD, intD, if_true, this]
theorem range_len : ∀ (n : Nat) (lo : Int), (rangeD lo n).length = n
  | 0, _ => rfl
  | n + 1, lo => by rw [rangeD, List.length_cons, range_len n]
theorem range_mem : ∀ (n : Nat) (lo : Nat) (x : D), x ∈ rangeD (lo : Int) n → ∃ y : Nat, x = nD y ∧ lo ≤ y ∧ y < lo + n
  | 0, _, _, h => by cases h
  | n + 1, lo, x, h => by
    rw [rangeD] at h
    rcases List.mem_cons.mp h with e | e
    · exact ⟨lo, e, Nat.le_refl _, by omega⟩
    · obtain ⟨y, h1, h2, h3⟩ := range_mem n (lo + 1) x e
      exact ⟨y, h1, by omega, by omega⟩
theorem bi_range1 {d : D} : biD .range1 [d] = range1D d := rfl
theorem range1_ev {n : Nat} (h : n < 100000000) : biD .range1 [nD n] = some (.lst (rangeD 0 n)) := by
  have hs : small62 (n : Int) = true := by
    unfold small62
    rw [decide_eq_true (by omega), decide_eq_true (by omega)]; rfl
  have : range1D (nD n) = some (.lst (rangeD 0 (n : Int).toNat)) := by
    rw [range1D.eq_def]
    exact if_pos hs
  rw [Int.toNat_natCast] at this
  rw [bi_range1, this]
theorem run_ret {call : Calls} {np N : Nat} {b : List S} {ds : List D} {g g' : GS} {d : D} (hn : ds.length = np) (h : exs call b (startE N ds) g = some (.rt d, g')) : runD call np N b ds g = some (d, g') := by
  unfold runD
  rw [if_pos hn, h]
  rfl
/-! the drawing state of the second kind -/
def G2 (g : GS) : Prop := ∃ k v, g = .two k v ∧ 0 ≤ k
theorem draw2_if {ns : List Int} {k v size : Int} (hk : 0 ≤ k) (hl : ns.length ≤ 63) (h0 : 0 < size) (h1 : size < 1073741824) : draw2P [.st, .scr ns, .int size] (.two k v) = some (.int (draw2N ns k v size).1, (draw2N ns k v size).2) := by
  unfold draw2P
  simp only [hk, hl, h0, h1, and_self, if_true]
theorem draw2_run {ns : List Int} {g : GS} {size : Int} (hg : G2 g) (hl : ns.length ≤ 63) (h0 : 0 < size) (h1 : size < 1073741824) : ∃ d g', draw2P [.st, .scr ns, .int size] g = some (.int d, g') ∧ G2 g' ∧ 0 ≤ d ∧ d < size := by
  obtain ⟨k, v, rfl, hk⟩ := hg
  obtain ⟨k', v', e1, e2⟩ := draw2N_st ns k v size hk
  obtain ⟨e3, e4⟩ := draw2N_lo ns k v size h0
  refine ⟨_, _, ?_, ⟨k', v', e1, e2⟩, e3, e4⟩
  exact draw2_if hk hl h0 h1
/-! gathering -/
theorem gather_nil {f : D → GS → Option (Option D × GS)} {g : GS} : gather f [] g = some ([], g) := rfl
theorem gather_some {f : D → GS → Option (Option D × GS)} {x y : D} {xs ys : List D} {g g1 g2 : GS} (h : f x g = some (some y, g1)) (h2 : gather f xs g1 = some (ys, g2)) : gather f (x :: xs) g = some (y :: ys, g2) := by
  simp only [gather, bnd, h, h2]
theorem gather_none {f : D → GS → Option (Option D × GS)} {x : D} {xs ys : List D} {g g1 g2 : GS} (h : f x g = some (none, g1)) (h2 : gather f xs g1 = some (ys, g2)) : gather f (x :: xs) g = some (ys, g2) := by
  simp only [gather, bnd, h, h2]
theorem gather_map {f : D → GS → Option (Option D × GS)} {g : GS} {k : D → D} : ∀ {xs : List D}, (∀ x ∈ xs, f x g = some (some (k x), g)) → gather f xs g = some (xs.map k, g)
  | [], _ => rfl
  | x :: xs, h => gather_some (h x (List.mem_cons_self ..)) (gather_map fun y hy => h y (List.mem_cons_of_mem _ hy))
/-- [elt for x in it]: one name, no test -/
theorem ev_map {call : Calls} {g g1 : GS} {ρ : Env} {i : Nat} {it elt : C} {xs : List D} {k : D → D} {s : D} (h1 : ev call it ρ g = some (s, g1)) (hs : items s = some xs) (hl : xs.length ≤ sizeLine) (h2 : ∀ x ∈ xs, ev call elt ((ρ.set i .no).set i (.val x)) g1 = some (k x, g1)) : ev call (.comp [i] (.var i) it (.lit (.bl true)) elt) ρ g = some (.lst (xs.map k), g1) := by
  have hg : gather (fun x g => match asg (.var i) x (wipeE ρ [i]) with
        | some ρ' => bnd (ev call (.lit (.bl true)) ρ' g) fun k g => match truth k with
          | some true => bnd (ev call elt ρ' g) fun y g => some (some y, g)
          | some false => some (none, g)
          | none => none
        | none => none) xs g1 = some (xs.map k, g1) := by
    refine gather_map fun x hx => ?_
    have e := h2 x hx
    show bnd (ev call (.lit (.bl true)) ((ρ.set i .no).set i (.val x)) g1) _ = _
    rw [ev_lit]
    show bnd (ev call elt ((ρ.set i .no).set i (.val x)) g1) _ = _
    rw [e]; rfl
  rw [ev, h1, bnd_some, hs]
  exact (congrArg (fun z => bnd z fun ys g => if ys.length ≤ sizeLine then some (D.lst ys, g) else none) hg).trans (by rw [bnd_some, if_pos (by rw [List.length_map]; exact hl)])
theorem bools_true : ∀ n, bools (List.replicate n (.bl true)) = some (List.replicate n true)
  | 0 => rfl
  | n + 1 => by rw [List.replicate_succ, bools, bools_true n]; rfl
/-! _law_exact(d, d) -/
def exactB (f : Nat) : List S := [.ifs (.bi (.isin [5, 4]) [.bvar 0]) [.ifs (.or (.cmp .ne (.bi (.isin [5]) [.bvar 0]) (.bi (.isin [5]) [.bvar 1])) (.cmp .ne (.bi (.isin [4]) [.bvar 0]) (.bi (.isin [4]) [.bvar 1]))) [.ret [] (.lit (.bl false))] [], .ret [] (.and (.cmp .eq (.bi .len [.bvar 0]) (.bi .len [.bvar 1])) (.bi .all [.comp [3] (.var 3) (.bi .range1 [.bi .len [.bvar 0]]) (.lit (.bl true)) (.call f [.idx (.bvar 0) (.bvar 3), .idx (.bvar 1) (.bvar 3)])]))] [], .ifs (.or (.cmp .isn (.bvar 0) (.lit (.non))) (.cmp .isn (.bvar 1) (.lit (.non)))) [.ret [] (.and (.cmp .isn (.bvar 0) (.lit (.non))) (.cmp .isn (.bvar 1) (.lit (.non))))] [], .asg [] (.var 2) (.and (.cmp .eq (.bi (.isin [3]) [.bvar 0]) (.bi (.isin [3]) [.bvar 1])) (.cmp .eq (.bi (.isin [1]) [.bvar 0]) (.bi (.isin [1]) [.bvar 1]))), .ret [] (.and (.var 2) (.and (.cmp .eq (.bi (.isin [0]) [.bvar 0]) (.bi (.isin [0]) [.bvar 1])) (.cmp .eq (.bvar 0) (.bvar 1))))]
section
variable {call : Calls} {g : GS} {f : Nat}
theorem exact_int (i : Int) : runD call 2 4 (exactB f) [.int i, .int i] g = some (.bl true, g) := by
  have e : eqD (.int i) (.int i) = true := by simp [eqD]
  simp [runD, exactB, startE, exs, ex, ev, evs, bnd, biD, un, isK, kind, truth, cmpD, isD, isNon, eqOk, okD, eqD, freeze, keepF, asg, fin]
theorem exact_bl (b : Bool) : runD call 2 4 (exactB f) [.bl b, .bl b] g = some (.bl true, g) := by
  cases b <;> simp [runD, exactB, startE, exs, ex, ev, evs, bnd, biD, un, isK, kind, truth, cmpD, isD, isNon, eqOk, okD, eqD, freeze, keepF, asg, fin]
theorem exact_seq {d : D} {xs : List D} (hd : d = .tup xs ∨ d = .lst xs) (hl : xs.length < 1000) (h : ∀ x ∈ xs, call f [x, x] g = some (.bl true, g)) : runD call 2 4 (exactB f) [d, d] g = some (.bl true, g) := by
  have hc : ev call (.comp [3] (.var 3) (.bi .range1 [.bi .len [.bvar 0]]) (.lit (.bl true)) (.call f [.idx (.bvar 0) (.bvar 3), .idx (.bvar 1) (.bvar 3)])) (startE 4 [d, d]) g = some (.lst ((rangeD 0 xs.length).map fun _ => .bl true), g) := by
    refine ev_map (s := .lst (rangeD 0 xs.length)) (ev_b1 (x := nD xs.length) (ev_b1 (x := d) (ev_bv rfl) (by rcases hd with rfl | rfl <;> rfl)) (range1_ev (by omega))) rfl (by rw [range_len]; unfold sizeLine; omega) fun x hx => ?_
    obtain ⟨y, rfl, _, hy⟩ := range_mem xs.length 0 x hx
    have hy' : y < xs.length := by omega
    have hi : idxD d (nD y) = some xs[y] := by
      have : atD xs (y : Int) = some xs[y] := L2.atI_nat (List.getElem?_eq_getElem hy')
      rcases hd with rfl | rfl <;> exact this
    exact ev_c2 (ev_idx2 (x := d) (ev_bv rfl) (ev_bv rfl) hi) (ev_idx2 (x := d) (ev_bv rfl) (ev_bv rfl) hi) (h _ (List.getElem_mem hy'))
  have hm : ((rangeD 0 xs.length).map fun _ => D.bl true) = List.replicate xs.length (.bl true) := by
    apply List.ext_getElem
    · simp [range_len]
    · intro i h1 h2; simp
  rw [hm] at hc
  have ha : biD .all [.lst (List.replicate xs.length (.bl true))] = some (.bl true) := by
    show (bools _).map _ = _
    rw [bools_true]
    simp
  have k0 : ∀ i, (i = 0 ∨ i = 1) → (startE 4 [d, d])[i]? = some (.val d) := fun i hi => by rcases hi with rfl | rfl <;> rfl
  have hlen : biD .len [d] = some (nD xs.length) := by rcases hd with rfl | rfl <;> rfl
  have hkk : biD (.isin [5, 4]) [d] = some (.bl true) := by rcases hd with rfl | rfl <;> rfl
  obtain ⟨z5, h5⟩ : ∃ z, biD (.isin [5]) [d] = some (.bl z) := by rcases hd with rfl | rfl <;> exact ⟨_, rfl⟩
  obtain ⟨z4, h4⟩ : ∃ z, biD (.isin [4]) [d] = some (.bl z) := by rcases hd with rfl | rfl <;> exact ⟨_, rfl⟩
  have hne : ∀ z, cmpD .ne (.bl z) (.bl z) = some (.bl false) := fun z => by cases z <;> rfl
  have heq : cmpD .eq (nD xs.length) (nD xs.length) = some (.bl true) := by rw [eq_int]; simp
  have r1 : ex call (.ifs (.bi (.isin [5, 4]) [.bvar 0]) [.ifs (.or (.cmp .ne (.bi (.isin [5]) [.bvar 0]) (.bi (.isin [5]) [.bvar 1])) (.cmp .ne (.bi (.isin [4]) [.bvar 0]) (.bi (.isin [4]) [.bvar 1]))) [.ret [] (.lit (.bl false))] [], .ret [] (.and (.cmp .eq (.bi .len [.bvar 0]) (.bi .len [.bvar 1])) (.bi .all [.comp [3] (.var 3) (.bi .range1 [.bi .len [.bvar 0]]) (.lit (.bl true)) (.call f [.idx (.bvar 0) (.bvar 3), .idx (.bvar 1) (.bvar 3)])]))] []) (startE 4 [d, d]) g = some (.rt (.bl true), g) := by
    refine ex_if1 (ev_b1 (ev_bv (k0 0 (.inl rfl))) hkk) rfl ?_
    rw [exs_cons (ex_if0 (ev_or0 (ev_cmp2 (ev_b1 (ev_bv (k0 0 (.inl rfl))) h5) (ev_b1 (ev_bv (k0 1 (.inr rfl))) h5) (hne _)) (ev_cmp2 (ev_b1 (ev_bv (k0 0 (.inl rfl))) h4) (ev_b1 (ev_bv (k0 1 (.inr rfl))) h4) (hne _))) rfl)]
    exact exs_ret (ex_ret1 (ev_and1 (ev_cmp2 (ev_b1 (ev_bv (k0 0 (.inl rfl))) hlen) (ev_b1 (ev_bv (k0 1 (.inr rfl))) hlen) heq) (ev_b1 hc ha)))
  unfold runD exactB
  rw [if_pos (by rfl), exs_ret r1]
  rfl
end
end Tv

/-! Pure2: draws of the first kind; comprehensions; blocks. -/
namespace Tv
open PySem PyProof.Rows
def G1 (g : GS) : Prop := ∃ cs s, g = .one cs s
theorem draw1_runB {g : GS} {size : Int} (hg : G1 g) (h0 : 0 < size) (h1 : size < 1208925819614629174706176) : ∃ d g', drawP [.st, .int size] g = some (.int d, g') ∧ G1 g' ∧ 0 ≤ d ∧ d < size := by
  obtain ⟨cs, s, rfl⟩ := hg
  have hl := drawN_lo cs s size h0
  have h2 : ∃ cs' s', (drawN cs s size).2 = .one cs' s' := by
    unfold drawN
    split
    · exact ⟨_, _, rfl⟩
    · exact ⟨_, _, rfl⟩
  refine ⟨(drawN cs s size).1, (drawN cs s size).2, ?_, h2, hl.1, hl.2⟩
  unfold drawP
  simp only [h0, h1, and_self, if_true]
theorem draw1_run {g : GS} {size : Int} (hg : G1 g) (h0 : 0 < size) (h1 : size < 1073741824) : ∃ d g', drawP [.st, .int size] g = some (.int d, g') ∧ G1 g' ∧ 0 ≤ d ∧ d < size := draw1_runB hg h0 (by omega)
/-- .. as a natural number, below 2 ^ 80 -/
theorem draw1_natB {g : GS} {size : Nat} (hg : G1 g) (h0 : 0 < size) (h1 : size < 1208925819614629174706176) : ∃ (d : Nat) (g' : GS), drawP [.st, nD size] g = some (nD d, g') ∧ G1 g' ∧ d < size := by
  obtain ⟨d, g', e, G, d0, d1⟩ := draw1_runB (size := (size : Int)) hg (by omega) (by omega)
  refine ⟨d.toNat, g', ?_, G, by omega⟩
  rw [e, show nD d.toNat = .int d by show D.int _ = _; rw [Int.toNat_of_nonneg d0]]
/-- .. as a natural number -/
theorem draw1_nat {g : GS} {size : Nat} (hg : G1 g) (h0 : 0 < size) (h1 : size < 1073741824) : ∃ (d : Nat) (g' : GS), drawP [.st, nD size] g = some (nD d, g') ∧ G1 g' ∧ d < size := by
  obtain ⟨d, g', e, G, d0, d1⟩ := draw1_run (size := (size : Int)) hg (by omega) (by omega)
  refine ⟨d.toNat, g', ?_, G, by omega⟩
  rw [e, show nD d.toNat = .int d by show D.int _ = _; rw [Int.toNat_of_nonneg d0]]
/-- a comprehension's turn -/
def gF (call : Calls) (tg : G) (ρ : Env) (cond elt : C) : D → GS → Option (Option D × GS) := fun x g => match asg tg x ρ with
  | some ρ' => bnd (ev call cond ρ' g) fun k g => match truth k with
    | some true => bnd (ev call elt ρ' g) fun y g => some (some y, g)
    | some false => some (none, g)
    | none => none
  | none => none
theorem gF_one {call : Calls} {tg : G} {ρ ρ' : Env} {elt : C} {x y : D} {g g' : GS} (h : asg tg x ρ = some ρ') (e : ev call elt ρ' g = some (y, g')) : gF call tg ρ (.lit (.bl true)) elt x g = some (some y, g') := by
  unfold gF
  simp only [h, ev_lit, bnd_some, truth, e]
theorem gF_if {call : Calls} {tg : G} {ρ ρ' : Env} {cond elt : C} {x y k : D} {b : Bool} {g : GS} (h : asg tg x ρ = some ρ') (hc : ev call cond ρ' g = some (k, g)) (hk : truth k = some b) (e : ev call elt ρ' g = some (y, g)) : gF call tg ρ cond elt x g = some (if b = true then some y else none, g) := by
  unfold gF
  cases b <;> simp [h, hc, bnd_some, hk, e]
theorem ev_comp {call : Calls} {own : List Nat} {tg : G} {it cond elt : C} {ρ : Env} {s : D} {xs ys : List D} {g g1 g2 : GS} (h1 : ev call it ρ g = some (s, g1)) (h2 : items s = some xs) (h3 : gather (gF call tg (wipeE ρ own) cond elt) xs g1 = some (ys, g2)) (hl : ys.length ≤ sizeLine) : ev call (.comp own tg it cond elt) ρ g = some (.lst ys, g2) := by
  rw [ev, h1, bnd_some, h2]
  exact (congrArg (fun z => bnd z fun ys g => if ys.length ≤ sizeLine then some (D.lst ys, g) else none) h3).trans (by rw [bnd_some, if_pos hl])
/-- a gathering over numbers -/
theorem gather_nat {f : D → GS → Option (Option D × GS)} {g : GS} {p : Nat → Bool} {v : Nat → D} : ∀ {l : List Nat}, (∀ x ∈ l, f (nD x) g = some (if p x = true then some (v x) else none, g)) → gather f (l.map nD) g = some ((l.filter p).map v, g)
  | [], _ => rfl
  | x :: l, h => by
    have h1 := h x (List.mem_cons_self ..)
    have h2 := gather_nat (p := p) (v := v) fun y hy => h y (List.mem_cons_of_mem _ hy)
    rw [List.map_cons]
    cases hp : p x with
    | true =>
      rw [hp] at h1
      rw [List.filter_cons_of_pos hp, List.map_cons]
      exact gather_some h1 h2
    | false =>
      rw [hp] at h1
      rw [List.filter_cons_of_neg (by simp [hp])]
      exact gather_none h1 h2
theorem exs_one {call : Calls} {s : S} {ρ ρ' : Env} {g g' : GS} (h : ex call s ρ g = some (.nx ρ', g')) : exs call [s] ρ g = some (.nx ρ', g') := (exs_cons h).trans rfl
theorem exs_app {call : Calls} : ∀ {a b : List S} {ρ ρ' : Env} {g g' : GS}, exs call a ρ g = some (.nx ρ', g') → exs call (a ++ b) ρ g = exs call b ρ' g'
  | [], b, ρ, ρ', g, g', h => by cases h; rfl
  | s :: ss, b, ρ, ρ', g, g', h => by
    rw [exs] at h
    obtain ⟨r, g1, e1, h⟩ := bnd_eq h
    cases r with
    | nx ρ1 => rw [List.cons_append, exs_cons e1]; exact exs_app h
    | rt d => cases h
    | bk d => cases h
    | ct d => cases h
theorem ex_app1 {call : Calls} {g : GS} {ρ : Env} {i : Nat} {e : C} {z : D} {xs : List D} (h : ev call e ρ g = some (z, g)) (hi : ρ[i]? = some (.own xs)) (hl : xs.length < sizeLine) : ex call (.app [] i e) ρ g = some (.nx (ρ.set i (.own (xs ++ [z]))), g) := by
  simp only [ex, freeze, h, bnd, keepF, hi, hl, if_true]
theorem range_map : ∀ (n lo : Nat), rangeD (lo : Int) n = (List.range' lo n).map nD
  | 0, _ => rfl
  | n + 1, lo => by
    rw [rangeD, List.range'_succ, List.map_cons, ← range_map n (lo + 1)]
    rfl
theorem gt_nat {a b : Nat} : cmpD .gt (nD a) (nD b) = some (.bl (decide (b < a))) := by
  show some (D.bl (decide ((b : Int) < (a : Int)))) = _
  rw [decide_eq_decide.mpr Int.ofNat_lt]
theorem ne_nat {a b : Nat} : cmpD .ne (nD a) (nD b) = some (.bl (!decide (a = b))) := by
  rw [ne_int]
  by_cases z : a = b
  · rw [z]; simp
  · rw [decide_eq_false z]
    have : (a : Int) ≠ (b : Int) := by omega
    simp only [beq_eq_false_iff_ne.mpr this]
/-- a list of numbers -/
abbrev nL (l : List Nat) : D := .lst (l.map nD)
theorem idx_nL {l : List Nat} {i : Nat} (h : i < l.length) : idxD (nL l) (nD i) = some (nD l[i]) := by
  have : (l.map nD)[i]? = some (nD l[i]) := by rw [List.getElem?_map, List.getElem?_eq_getElem h]; rfl
  exact L2.atI_nat this
theorem intsOf_nL : ∀ l : List Nat, intsOf (l.map nD) = some (l.map fun (n : Nat) => (n : Int))
  | [] => rfl
  | x :: l => by rw [List.map_cons, intsOf, intsOf_nL l]; rfl
theorem sum_cast : ∀ l : List Nat, (l.map fun (n : Nat) => (n : Int)).sum = ((l.sum : Nat) : Int)
  | [] => rfl
  | x :: l => by rw [List.map_cons, List.sum_cons, sum_cast l, List.sum_cons]; omega
theorem sum_nL {l : List Nat} : biD .sum [nL l] = some (nD l.sum) := by
  show (intsOf (l.map nD)).map (fun ns => D.int ns.sum) = _
  rw [intsOf_nL, Option.map_some, sum_cast]
theorem len_nL {l : List Nat} : biD .len [nL l] = some (nD l.length) := by
  show some (D.int ((l.map nD).length : Int)) = _
  rw [List.length_map]
theorem eqDs_nL : ∀ l : List Nat, eqDs (l.map nD) (l.map nD) = true
  | [] => rfl
  | x :: l => by rw [List.map_cons, eqDs, eqDs_nL l]; simp [eqD]
end Tv

/-! PureR: fractions in lowest terms as Rat. -/
namespace Tv
open PySem PyProof.Rows
/-- a number of less than 200 bits -/
def bg (a : Int) : Prop := a.natAbs < 2 ^ 200
theorem mulOk_bg {a b : Int} (ha : bg a) (hb : bg b) : mulOk a b = true := by
  unfold mulOk
  rw [Nat.blt_eq.mpr (Nat.lt_of_lt_of_le ha (Nat.pow_le_pow_right (by decide) (by decide))), Nat.blt_eq.mpr (Nat.lt_of_lt_of_le hb (Nat.pow_le_pow_right (by decide) (by decide)))]
  simp
theorem mulB {a b : Int} (ha : bg a) (hb : bg b) : mulD (.int a) (.int b) = some (.int (a * b)) := by
  show (if mulOk a b = true then some (D.int (a * b)) else none) = _
  rw [mulOk_bg ha hb]; rfl
theorem mul_b {a b : Int} (ha : bg a) (hb : bg b) : binD .mul (.int a) (.int b) = some (.int (a * b)) := by
  simp only [binD]; exact mulB ha hb
/-- bounds -/
def bd (k : Nat) (a : Int) : Prop := a.natAbs ≤ k
theorem bd_mul {i j : Nat} {a b : Int} (h1 : bd i a) (h2 : bd j b) : bd (i * j) (a * b) := by
  unfold bd at *
  rw [Int.natAbs_mul]
  exact Nat.mul_le_mul h1 h2
theorem bd_add {i j : Nat} {a b : Int} (h1 : bd i a) (h2 : bd j b) : bd (i + j) (a + b) := by unfold bd at *; omega
theorem bd_sub {i j : Nat} {a b : Int} (h1 : bd i a) (h2 : bd j b) : bd (i + j) (a - b) := by unfold bd at *; omega
theorem bd_neg {i : Nat} {a : Int} (h1 : bd i a) : bd i (-a) := by unfold bd at *; omega
theorem bd_le {i j : Nat} {a : Int} (h1 : bd i a) (h : i ≤ j) : bd j a := Nat.le_trans h1 h
theorem bg_bd {k : Nat} {a : Int} (h1 : bd k a) (h : k < 2 ^ 200) : bg a := Nat.lt_of_le_of_lt h1 h
/-- a fraction -/
abbrev fr (r : Rat) : D := .tup [.int r.num, .int r.den]
def sz (k : Nat) (r : Rat) : Prop := bd k r.num ∧ r.den ≤ k
theorem sz_le {i j : Nat} {r : Rat} (h : sz i r) (hj : i ≤ j) : sz j r := ⟨Nat.le_trans h.1 hj, Nat.le_trans h.2 hj⟩
theorem sz_neg {k : Nat} {r : Rat} (h : sz k r) : sz k (-r) := ⟨by show bd k (-r).num; rw [Rat.neg_num]; exact bd_neg h.1, h.2⟩
theorem sz_den {k : Nat} {r : Rat} (h : sz k r) : bd k (r.den : Int) := by unfold bd; rw [Int.natAbs_natCast]; exact h.2
theorem den_pos (r : Rat) : (0 : Int) < (r.den : Int) := by have := r.den_pos; omega
/-- p / q in lowest terms -/
theorem low_core {p q : Int} (hq : 0 < q) : (Rat.divInt p q).num = p / (Int.gcd p q : Int) ∧ (((Rat.divInt p q).den : Nat) : Int) = q / (Int.gcd p q : Int) ∧ (0 : Int) < (Int.gcd p q : Int) ∧ ((Int.gcd p q : Nat) : Int) ≤ q := by
  have hz : q ≠ 0 := by omega
  have hg : 0 < Int.gcd p q := Int.gcd_pos_of_ne_zero_right p hz
  refine ⟨?_, ?_, by omega, ?_⟩
  · rw [Rat.num_divInt, Int.sign_eq_one_of_pos hq, Int.one_mul, Int.gcd_comm]
  · rw [Rat.den_divInt, if_neg hz, Int.gcd_comm, Int.natCast_ediv]
    rw [Int.natAbs_of_nonneg (by omega)]
  · exact Int.le_of_dvd hq (Int.gcd_dvd_right p q)
theorem sz_divInt {p q : Int} {k : Nat} (hq : 0 < q) (hp : bd k p) (hk : bd k q) : sz k (Rat.divInt p q) := by
  obtain ⟨h1, h2, h3, h4⟩ := low_core (p := p) hq
  obtain ⟨t, ht⟩ := Int.gcd_dvd_left p q
  obtain ⟨u, hu⟩ := Int.gcd_dvd_right p q
  have e1 : (Rat.divInt p q).num = t := by
    rw [h1]; conv => lhs; lhs; rw [ht]
    exact Int.mul_ediv_cancel_left _ (by omega)
  have e2 : (((Rat.divInt p q).den : Nat) : Int) = u := by
    rw [h2]; conv => lhs; lhs; rw [hu]
    exact Int.mul_ediv_cancel_left _ (by omega)
  have hG : 1 ≤ Int.gcd p q := by omega
  refine ⟨?_, ?_⟩
  · unfold bd at *
    rw [e1]
    have : p.natAbs = Int.gcd p q * t.natAbs := by
      conv => lhs; rw [ht]
      rw [Int.natAbs_mul, Int.natAbs_natCast]
    have := Nat.mul_le_mul_right t.natAbs hG
    omega
  · unfold bd at hk
    have : q.natAbs = Int.gcd p q * u.natAbs := by
      conv => lhs; rw [hu]
      rw [Int.natAbs_mul, Int.natAbs_natCast]
    have := Nat.mul_le_mul_right u.natAbs hG
    omega
theorem divInt_mul (a b : Rat) : Rat.divInt (a.num * b.num) ((a.den : Int) * b.den) = a * b := by
  rw [Rat.mul_def', ← Int.natCast_mul, Rat.divInt_ofNat]
theorem divInt_add (a b : Rat) : Rat.divInt (a.num * b.den + b.num * a.den) ((a.den : Int) * b.den) = a + b := by
  rw [Rat.add_def', ← Int.natCast_mul, Rat.divInt_ofNat]
theorem divInt_div (a b : Rat) : Rat.divInt (a.num * b.den) ((a.den : Int) * b.num) = a / b := by
  conv => rhs; rw [← Rat.num_divInt_den a, ← Rat.num_divInt_den b, Rat.div_def, Rat.inv_divInt, Rat.divInt_mul_divInt]
theorem sz_mul {i j : Nat} {a b : Rat} (h1 : sz i a) (h2 : sz j b) : sz (i * j) (a * b) := by
  rw [← divInt_mul]
  exact sz_divInt (Int.mul_pos (den_pos a) (den_pos b)) (bd_mul h1.1 h2.1) (bd_mul (sz_den h1) (sz_den h2))
theorem sz_add {i j : Nat} {a b : Rat} (h1 : sz i a) (h2 : sz j b) : sz (i * j + j * i) (a + b) := by
  rw [← divInt_add]
  exact sz_divInt (Int.mul_pos (den_pos a) (den_pos b)) (bd_add (bd_mul h1.1 (sz_den h2)) (bd_mul h2.1 (sz_den h1))) (bd_le (bd_mul (sz_den h1) (sz_den h2)) (Nat.le_add_right _ _))
theorem num_pos {b : Rat} (h : 0 < b) : 0 < b.num := by
  have h1 : 0 ≤ b.num := Rat.num_nonneg.mpr (Rat.le_of_lt h)
  have h2 : b.num ≠ 0 := fun e => by
    rw [Rat.num_eq_zero.mp e] at h
    exact absurd h (by decide)
  omega
theorem sz_div {i j : Nat} {a b : Rat} (h1 : sz i a) (h2 : sz j b) (hb : 0 < b) : sz (i * j) (a / b) := by
  rw [← divInt_div]
  exact sz_divInt (Int.mul_pos (den_pos a) (num_pos hb)) (bd_mul h1.1 (sz_den h2)) (bd_mul (sz_den h1) h2.1)
/-! comparing fractions -/
theorem fr_inj {a b : Rat} (h1 : a.num = b.num) (h2 : (a.den : Int) = b.den) : a = b := Rat.ext h1 (by omega)
theorem eq_fr {a b : Rat} : cmpD .eq (fr a) (fr b) = some (.bl (decide (a = b))) := by
  have : (a.num == b.num && ((a.den : Int) == (b.den : Int))) = decide (a = b) := by
    by_cases h : a = b
    · subst h; simp
    · rw [decide_eq_false h]
      by_cases h1 : a.num = b.num
      · have h2 : (a.den : Int) ≠ b.den := fun e => h (fr_inj h1 e)
        rw [beq_eq_false_iff_ne.mpr h2, Bool.and_false]
      · rw [beq_eq_false_iff_ne.mpr h1, Bool.false_and]
  simp [cmpD, eqOk, okD, okDs, eqD, eqDs]
  simpa using this
theorem ne_fr {a b : Rat} : cmpD .ne (fr a) (fr b) = some (.bl (!decide (a = b))) := by
  have h := eq_fr (a := a) (b := b)
  simp only [cmpD] at h ⊢
  split at h
  · rename_i ho
    rw [if_pos ho]
    injection h with h
    injection h with h
    rw [h]
  · cases h
/-! the program's lowest and the laws' -/
def lowB : List S := [.asg [] (.var 2) (.ite (.cmp .gt (.bvar 1) (.lit (.int 0))) (.bi .gcd [.bvar 0, .bvar 1]) (.neg (.bi .gcd [.bvar 0, .bvar 1]))), .ret [] (.tup [.bin .fdiv (.bvar 0) (.bvar 2), .bin .fdiv (.bvar 1) (.bvar 2)])]
theorem fdiv_pos {a b : Int} (h0 : 0 < b) (h : b.natAbs < 2 ^ 9000) : binD .fdiv (.int a) (.int b) = some (.int (a / b)) := by
  simp only [binD]
  rw [fdivD' h0 h, Int.fdiv_eq_ediv_of_nonneg _ (by omega)]
theorem gt0 {q : Int} (h : 0 < q) : cmpD .gt (.int q) (.int 0) = some (.bl true) := by
  show some (D.bl (decide ((0 : Int) < q))) = _
  rw [decide_eq_true h]
theorem bg9000 {a : Int} (h : bg a) : a.natAbs < 2 ^ 9000 := Nat.lt_of_lt_of_le h (Nat.pow_le_pow_right (by decide) (by decide))
section
variable {call : Calls} {g : GS}
theorem lowest_run {p q : Int} (hq : 0 < q) (hb : bg q) : runD call 2 3 lowB [.int p, .int q] g = some (fr (Rat.divInt p q), g) := by
  obtain ⟨h1, h2, h3, h4⟩ := low_core (p := p) hq
  have hg : biD .gcd [.int p, .int q] = some (.int ((Int.gcd p q : Nat) : Int)) := rfl
  have hG : (((Int.gcd p q : Nat) : Int)).natAbs < 2 ^ 9000 := by
    have : (((Int.gcd p q : Nat) : Int)).natAbs ≤ q.natAbs := by omega
    exact Nat.lt_of_le_of_lt this (bg9000 hb)
  generalize ((Int.gcd p q : Nat) : Int) = G at *
  unfold runD lowB
  rw [if_pos (by rfl), exs_cons (ex_asg1 (ev_ite1 (ev_cmp2 (ev_bv rfl) ev_lit (gt0 hq)) rfl (ev_b2 (ev_bv rfl) (ev_bv rfl) hg))), exs_ret (ex_ret1 (ev_tup (evs_cons (ev_bin2 (ev_bv rfl) (ev_bv rfl) (fdiv_pos h3 hG)) (evs_cons (ev_bin2 (ev_bv rfl) (ev_bv rfl) (fdiv_pos h3 hG)) evs_nil))))]
  rw [← h1, ← h2]
  rfl
def gcdWt : C := .cmp .ne (.bvar 1) (.lit (.int 0))
def gcdWb : List S := [.par [] [0, 1] [.var 1, .bin .mod (.bi .int [.bvar 0]) (.bvar 1)]]
theorem gcd_loop : ∀ (n : Nat) (a b : Int) (k : Nat), b.natAbs ≤ n → n < k → ∃ c : Int, whlL (fun ρ g => ev call gcdWt ρ g) (fun ρ g => exs call gcdWb ρ g) k [.val (.int a), .val (.int b)] g = some (.nx [.val (.int c), .val (.int 0)], g) ∧ c.natAbs = Int.gcd a b := by
  intro n
  induction n with
  | zero =>
    intro a b k h hk
    obtain ⟨k, rfl⟩ : ∃ k', k = k' + 1 := ⟨k - 1, by omega⟩
    have : b = 0 := by omega
    subst this
    exact ⟨a, whl_end (d := .bl false) (g1 := g) (ev_cmp2 (ev_bv rfl) ev_lit rfl) rfl, by simp⟩
  | succ n ih =>
    intro a b k h hk
    obtain ⟨k, rfl⟩ : ∃ k', k = k' + 1 := ⟨k - 1, by omega⟩
    by_cases hb : b = 0
    · subst hb
      exact ⟨a, whl_end (d := .bl false) (g1 := g) (ev_cmp2 (ev_bv rfl) ev_lit rfl) rfl, by simp⟩
    · have hlt : (Int.fmod a b).natAbs ≤ n := by
        rcases Int.lt_or_gt_of_ne hb with hn | hp
        · rw [Int.fmod_eq_emod]
          have h1 := Int.emod_nonneg a hb
          have h2 := Int.emod_lt_of_neg a hn
          by_cases hd : b ∣ a
          · rw [if_pos (.inr hd), Int.emod_eq_zero_of_dvd hd]; simp
          · rw [if_neg (by omega)]
            have h3 : a % b ≠ 0 := fun e => hd (Int.dvd_of_emod_eq_zero e)
            omega
        · have h1 := Int.fmod_nonneg_of_pos a hp
          have h2 := Int.fmod_lt_of_pos a hp
          omega
      obtain ⟨c, e, hc⟩ := ih b (Int.fmod a b) k hlt (by omega)
      refine ⟨c, ?_, ?_⟩
      · refine (whl_step (ρ' := [.val (.int b), .val (.int (Int.fmod a b))]) (d := .bl true) (g1 := g) (g2 := g) ?_ rfl ?_).trans e
        · exact ev_cmp2 (ev_bv rfl) ev_lit (z := .bl true) (by rw [ne_int]; simp [hb])
        · exact (exs_cons (ex_par2 (ev_v rfl) (ev_bin2 (ev_b1 (ev_bv rfl) (z := .int a) rfl) (ev_bv rfl) (mod_int hb)))).trans rfl
      · rw [hc, Int.fmod_def, Int.gcd_sub_mul_left_right, Int.gcd_comm]
def gcdB : List S := [.whl gcdWt gcdWb, .ret [] (.bi .abs [.bvar 0])]
theorem gcd_run {p q : Int} (hq : q.natAbs < 2 ^ 39) : runD call 2 2 gcdB [.int p, .int q] g = some (.int ((Int.gcd p q : Nat) : Int), g) := by
  obtain ⟨c, e, hc⟩ := gcd_loop (call := call) (g := g) (2 ^ 39) p q FUEL (by omega) (by decide +kernel)
  have ha : biD .abs [.int c] = some (.int ((Int.gcd p q : Nat) : Int)) := by
    show some (D.int (if c < 0 then -c else c)) = _
    rw [← hc]
    by_cases h : c < 0
    · rw [if_pos h, show -c = ((c.natAbs : Nat) : Int) by omega]
    · rw [if_neg h, show ((c.natAbs : Nat) : Int) = c by omega]
  unfold runD gcdB
  rw [if_pos (by rfl)]
  refine (congrArg (fun z => bnd z fun r g => (fin r).map (·, g)) ((exs_cons (ex_whl.trans e)).trans (exs_ret (ex_ret1 (ev_b1 (ev_bv rfl) ha))))).trans rfl
def lawLB (f : Nat) : List S := [.asg [] (.var 2) (.call f [.var 0, .var 1]), .ret [] (.ite (.cmp .gt (.bvar 1) (.lit (.int 0))) (.tup [.bin .fdiv (.bvar 0) (.bvar 2), .bin .fdiv (.bvar 1) (.bvar 2)]) (.tup [.bin .fdiv (.neg (.bvar 0)) (.bvar 2), .bin .fdiv (.neg (.bvar 1)) (.bvar 2)]))]
theorem lawlow_run {f : Nat} {p q : Int} (hq : 0 < q) (hb : bg q) (hc : call f [.int p, .int q] g = some (.int ((Int.gcd p q : Nat) : Int), g)) : runD call 2 3 (lawLB f) [.int p, .int q] g = some (fr (Rat.divInt p q), g) := by
  obtain ⟨h1, h2, h3, h4⟩ := low_core (p := p) hq
  have hG : (((Int.gcd p q : Nat) : Int)).natAbs < 2 ^ 9000 := by
    have : (((Int.gcd p q : Nat) : Int)).natAbs ≤ q.natAbs := by omega
    exact Nat.lt_of_le_of_lt this (bg9000 hb)
  generalize ((Int.gcd p q : Nat) : Int) = G at *
  unfold runD lawLB
  rw [if_pos (by rfl), exs_cons (ex_asg1 (ev_c2 (ev_v rfl) (ev_v rfl) hc)), exs_ret (ex_ret1 (ev_ite1 (ev_cmp2 (ev_bv rfl) ev_lit (gt0 hq)) rfl (ev_tup (evs_cons (ev_bin2 (ev_bv rfl) (ev_bv rfl) (fdiv_pos h3 hG)) (evs_cons (ev_bin2 (ev_bv rfl) (ev_bv rfl) (fdiv_pos h3 hG)) evs_nil)))))]
  rw [← h1, ← h2]
  rfl
end
/-! below any number other than 0 -/
theorem low_neg {p q : Int} (hq : q < 0) : Rat.divInt p q = Rat.divInt (-p) (-q) := by
  rw [Rat.divInt_neg', Int.neg_neg]
theorem low_any {p q : Int} (hq : q ≠ 0) : 0 < Int.gcd p q ∧ ((Int.gcd p q : Nat) : Int).natAbs ≤ q.natAbs ∧ (0 < q → (Rat.divInt p q).num = p / (Int.gcd p q : Int) ∧ (((Rat.divInt p q).den : Nat) : Int) = q / (Int.gcd p q : Int)) ∧ (q < 0 → (Rat.divInt p q).num = (-p) / (Int.gcd p q : Int) ∧ (((Rat.divInt p q).den : Nat) : Int) = (-q) / (Int.gcd p q : Int)) := by
  have hg : 0 < Int.gcd p q := Int.gcd_pos_of_ne_zero_right p hq
  refine ⟨hg, ?_, fun h => ?_, fun h => ?_⟩
  · have : Int.gcd p q ∣ q.natAbs := Int.gcd_dvd_natAbs_right p q
    have := Nat.le_of_dvd (by omega) this
    omega
  · obtain ⟨h1, h2, _, _⟩ := low_core (p := p) h
    exact ⟨h1, h2⟩
  · rw [low_neg h]
    obtain ⟨h1, h2, _, _⟩ := low_core (p := -p) (q := -q) (by omega)
    rw [Int.neg_gcd, Int.gcd_neg] at h1 h2
    exact ⟨h1, h2⟩
theorem fdiv_neg_neg {a b : Int} : Int.fdiv a (-b) = Int.fdiv (-a) b := by
  rw [show a = - -a by omega, Int.neg_fdiv_neg]; simp
section
variable {call : Calls} {g : GS}
theorem lowest_any {p q : Int} (hq : q ≠ 0) (hb : q.natAbs < 1073741824) : runD call 2 3 lowB [.int p, .int q] g = some (fr (Rat.divInt p q), g) := by
  by_cases hp : 0 < q
  · exact lowest_run hp (Nat.lt_of_lt_of_le hb (Nat.le_trans (by decide : 1073741824 ≤ 2 ^ 30) (Nat.pow_le_pow_right (by decide) (by decide))))
  · have hn : q < 0 := by omega
    obtain ⟨h0, h1, _, h2⟩ := low_any (p := p) hq
    obtain ⟨h3, h4⟩ := h2 hn
    have hg : biD .gcd [.int p, .int q] = some (.int ((Int.gcd p q : Nat) : Int)) := rfl
    have h0' : (0 : Int) < ((Int.gcd p q : Nat) : Int) := by omega
    generalize ((Int.gcd p q : Nat) : Int) = G at *
    have hd : ∀ a : Int, binD .fdiv (.int a) (.int (-G)) = some (.int ((-a) / G)) := fun a => by
      simp only [binD]
      rw [fdivD (by omega) (by omega), fdiv_neg_neg, Int.fdiv_eq_ediv_of_nonneg _ (by omega)]
    have hgt : cmpD .gt (.int q) (.int 0) = some (.bl false) := by
      show some (D.bl (decide ((0 : Int) < q))) = _
      rw [decide_eq_false hp]
    unfold runD lowB
    rw [if_pos (by rfl), exs_cons (ex_asg1 (ev_ite0 (ev_cmp2 (ev_bv rfl) ev_lit hgt) rfl (ev_neg (ev_b2 (ev_bv rfl) (ev_bv rfl) hg)))), exs_ret (ex_ret1 (ev_tup (evs_cons (ev_bin2 (ev_bv rfl) (ev_bv rfl) (hd p)) (evs_cons (ev_bin2 (ev_bv rfl) (ev_bv rfl) (hd q)) evs_nil))))]
    rw [← h3, ← h4]
    rfl
/-- the laws' second way to lowest terms -/
def gcdWt2 : C := .cmp .gt (.bvar 3) (.lit (.int 0))
def gcdWb2 : List S := [.asg [] (.var 5) (.bin .mod (.bi .int [.bvar 2]) (.bvar 3)), .asg [] (.var 2) (.var 3), .asg [] (.var 3) (.var 5)]
theorem gcd_loop2 {v0 v1 : SV} : ∀ (n : Nat) (a b : Nat) (k : Nat) (v4 v5 : SV), b ≤ n → n < k → ∃ u5 : SV, whlL (fun ρ g => ev call gcdWt2 ρ g) (fun ρ g => exs call gcdWb2 ρ g) k [v0, v1, .val (nD a), .val (nD b), v4, v5] g = some (.nx [v0, v1, .val (nD (Nat.gcd a b)), .val (nD 0), v4, u5], g) := by
  intro n
  induction n with
  | zero =>
    intro a b k v4 v5 h hk
    obtain ⟨k, rfl⟩ : ∃ k', k = k' + 1 := ⟨k - 1, by omega⟩
    have : b = 0 := by omega
    subst this
    exact ⟨v5, by rw [Nat.gcd_zero_right]; exact whl_end (d := .bl false) (g1 := g) (ev_cmp2 (ev_bv rfl) ev_lit rfl) rfl⟩
  | succ n ih =>
    intro a b k v4 v5 h hk
    obtain ⟨k, rfl⟩ : ∃ k', k = k' + 1 := ⟨k - 1, by omega⟩
    by_cases hb : b = 0
    · subst hb
      exact ⟨v5, by rw [Nat.gcd_zero_right]; exact whl_end (d := .bl false) (g1 := g) (ev_cmp2 (ev_bv rfl) ev_lit rfl) rfl⟩
    · have hlt := Nat.mod_lt a (show b > 0 by omega)
      obtain ⟨u5, e⟩ := ih b (a % b) k v4 (.val (nD (a % b))) (by omega) (by omega)
      refine ⟨u5, ?_⟩
      rw [show Nat.gcd a b = Nat.gcd b (a % b) by rw [Nat.gcd_comm a b, Nat.gcd_rec b a, Nat.gcd_comm]]
      refine (whl_step (ρ' := [v0, v1, .val (nD b), .val (nD (a % b)), v4, .val (nD (a % b))]) (d := .bl true) (g1 := g) (g2 := g) ?_ rfl ?_).trans e
      · refine ev_cmp2 (ev_bv rfl) ev_lit (z := .bl true) ?_
        show some (D.bl (decide ((0 : Int) < (b : Int)))) = _
        rw [decide_eq_true (by omega)]
      · rw [gcdWb2, exs_cons (ex_asg1 (ev_bin2 (ev_b1 (ev_bv rfl) (z := nD a) rfl) (ev_bv rfl) (mod_nat (by omega)))), exs_cons (ex_asg1 (ev_v rfl)), exs_cons (ex_asg1 (ev_v rfl))]
        rfl
def lawL2B : List S := [.par [] [2, 3] [.bi .abs [.bvar 0], .bi .abs [.bvar 1]], .whl gcdWt2 gcdWb2, .asg [] (.var 4) (.ite (.cmp .lt (.bvar 1) (.lit (.int 0))) (.neg (.lit (.int 1))) (.lit (.int 1))), .ret [] (.tup [.bin .fdiv (.bin .mul (.bvar 4) (.bvar 0)) (.bvar 2), .bin .fdiv (.bin .mul (.bvar 4) (.bvar 1)) (.bvar 2)])]
theorem abs_nat (i : Int) : biD .abs [.int i] = some (nD i.natAbs) := by
  show some (D.int (if i < 0 then -i else i)) = _
  by_cases h : i < 0
  · rw [if_pos h, show -i = ((i.natAbs : Nat) : Int) by omega]
  · rw [if_neg h, show i = ((i.natAbs : Nat) : Int) by omega]; simp
theorem lawlow2_run {p q : Int} (hq : q ≠ 0) (hb : q.natAbs < 1073741824) : runD call 2 6 lawL2B [.int p, .int q] g = some (fr (Rat.divInt p q), g) := by
  obtain ⟨u5, e⟩ := gcd_loop2 (call := call) (g := g) (v0 := .val (.int p)) (v1 := .val (.int q)) (2 ^ 39) p.natAbs q.natAbs FUEL .no .no (by omega) (by decide +kernel)
  obtain ⟨h0, h1, h2, h3⟩ := low_any (p := p) hq
  have e' : Nat.gcd p.natAbs q.natAbs = Int.gcd p q := rfl
  rw [e'] at e
  have h0' : (0 : Int) < ((Int.gcd p q : Nat) : Int) := by omega
  have hd : ∀ a : Int, binD .fdiv (.int a) (nD (Int.gcd p q)) = some (.int (a / (Int.gcd p q : Int))) := fun a => by
    simp only [binD]
    rw [fdivD (by omega) (by omega), Int.fdiv_eq_ediv_of_nonneg _ (by omega)]
  generalize hG : Int.gcd p q = G at *
  unfold runD lawL2B
  have w0 := exs_cons (call := call) (ss := [.whl gcdWt2 gcdWb2, .asg [] (.var 4) (.ite (.cmp .lt (.bvar 1) (.lit (.int 0))) (.neg (.lit (.int 1))) (.lit (.int 1))), .ret [] (.tup [.bin .fdiv (.bin .mul (.bvar 4) (.bvar 0)) (.bvar 2), .bin .fdiv (.bin .mul (.bvar 4) (.bvar 1)) (.bvar 2)])]) (ex_par2 (g := g) (ρ := startE 6 [.int p, .int q]) (i := 2) (j := 3) (e := .bi .abs [.bvar 0]) (f := .bi .abs [.bvar 1]) (ev_b1 (ev_bv rfl) (abs_nat p)) (ev_b1 (ev_bv rfl) (abs_nat q)))
  rw [if_pos (by rfl), w0]
  have w1 : ex call (.whl gcdWt2 gcdWb2) [.val (.int p), .val (.int q), .val (nD p.natAbs), .val (nD q.natAbs), .no, .no] g = some (.nx [.val (.int p), .val (.int q), .val (nD G), .val (nD 0), .no, u5], g) := ex_whl.trans e
  have w1' := exs_cons (ss := [.asg [] (.var 4) (.ite (.cmp .lt (.bvar 1) (.lit (.int 0))) (.neg (.lit (.int 1))) (.lit (.int 1))), .ret [] (.tup [.bin .fdiv (.bin .mul (.bvar 4) (.bvar 0)) (.bvar 2), .bin .fdiv (.bin .mul (.bvar 4) (.bvar 1)) (.bvar 2)])]) w1
  rw [show ((startE 6 [.int p, .int q]).set 2 (.val (nD p.natAbs))).set 3 (.val (nD q.natAbs)) = [.val (.int p), .val (.int q), .val (nD p.natAbs), .val (nD q.natAbs), .no, .no] from rfl, w1']
  by_cases hp : 0 < q
  · obtain ⟨h4, h5⟩ := h2 hp
    have hlt : cmpD .lt (.int q) (.int 0) = some (.bl false) := by
      show some (D.bl (decide (q < 0))) = _
      rw [decide_eq_false (by omega)]
    rw [exs_cons (ex_asg1 (ev_ite0 (ev_cmp2 (ev_bv rfl) ev_lit hlt) rfl ev_lit)), exs_ret (ex_ret1 (ev_tup (evs_cons (ev_bin2 (ev_bin2 (ev_bv rfl) (ev_bv rfl) (mul_l (by decide))) (ev_bv rfl) (hd _)) (evs_cons (ev_bin2 (ev_bin2 (ev_bv rfl) (ev_bv rfl) (mul_l (by decide))) (ev_bv rfl) (hd _)) evs_nil))))]
    rw [Int.one_mul, Int.one_mul, ← h4, ← h5]
    rfl
  · obtain ⟨h4, h5⟩ := h3 (by omega)
    have hlt : cmpD .lt (.int q) (.int 0) = some (.bl true) := by
      show some (D.bl (decide (q < 0))) = _
      rw [decide_eq_true (by omega)]
    rw [exs_cons (ex_asg1 (ev_ite1 (ev_cmp2 (ev_bv rfl) ev_lit hlt) rfl (ev_neg ev_lit))), exs_ret (ex_ret1 (ev_tup (evs_cons (ev_bin2 (ev_bin2 (ev_bv rfl) (ev_bv rfl) (mul_l (by decide))) (ev_bv rfl) (hd _)) (evs_cons (ev_bin2 (ev_bin2 (ev_bv rfl) (ev_bv rfl) (mul_l (by decide))) (ev_bv rfl) (hd _)) evs_nil))))]
    rw [show (-1 : Int) * p = -p by omega, show (-1 : Int) * q = -q by omega, ← h4, ← h5]
    rfl
end
end Tv

/-! PureQ: numbers of four parts; _law_exact of equal data of any kind; squares. -/
namespace Tv
open PySem PyProof.Rows
abbrev t4 (a b c d : Int) : D := .tup [.int a, .int b, .int c, .int d]
abbrev t3 (a b c : Int) : D := .tup [.int a, .int b, .int c]
abbrev t2 (a b : Int) : D := .tup [.int a, .int b]
/-- a number of less than 64 bits -/
def sm (a : Int) : Prop := a.natAbs < 18446744073709551616
theorem mulS {a b : Int} (h : sm a) : mulD (.int a) (.int b) = some (.int (a * b)) := mulD_l h
theorem mulS2 {a b : Int} (h : sm b) : mulD (.int a) (.int b) = some (.int (a * b)) := mulD_r h
theorem sm2 : sm 2 := by unfold sm; decide
theorem sm1 : sm 1 := by unfold sm; decide
theorem sm0 : sm 0 := by unfold sm; decide
theorem smm1 : sm (-1) := by unfold sm; decide
theorem sm_neg {a : Int} (h : sm a) : sm (-a) := by unfold sm at *; omega
theorem sm_bd {k : Nat} {a : Int} (h1 : bd k a) (h : k < 18446744073709551616) : sm a := Nat.lt_of_le_of_lt h1 h
theorem bd0 : bd 0 0 := by unfold bd; decide
theorem bd1 : bd 1 1 := by unfold bd; decide
theorem bdm1 : bd 1 (-1) := by unfold bd; decide
/-- a number of four parts -/
structure Q4 where
  a : Int
  b : Int
  c : Int
  d : Int
deriving DecidableEq
namespace Q4
def mul (x y : Q4) : Q4 := ⟨x.a * y.a - x.b * y.b - x.c * y.c - x.d * y.d, x.a * y.b + x.b * y.a + x.c * y.d - x.d * y.c, x.a * y.c - x.b * y.d + x.c * y.a + x.d * y.b, x.a * y.d + x.b * y.c - x.c * y.b + x.d * y.a⟩
def cj (x : Q4) : Q4 := ⟨x.a, -x.b, -x.c, -x.d⟩
def nm (x : Q4) : Int := x.a * x.a + x.b * x.b + x.c * x.c + x.d * x.d
def one : Q4 := ⟨1, 0, 0, 0⟩
theorem ext' {x y : Q4} (h1 : x.a = y.a) (h2 : x.b = y.b) (h3 : x.c = y.c) (h4 : x.d = y.d) : x = y := by cases x; cases y; simp_all
theorem mul_assoc (x y z : Q4) : mul (mul x y) z = mul x (mul y z) := by
  apply ext' <;> simp only [mul] <;> grind
theorem cj_mul (x y : Q4) : cj (mul x y) = mul (cj y) (cj x) := by
  apply ext' <;> simp only [mul, cj] <;> grind
theorem one_mul (x : Q4) : mul one x = x := by
  apply ext' <;> simp [mul, one]
theorem mul_one (x : Q4) : mul x one = x := by
  apply ext' <;> simp [mul, one]
theorem nm_mul (x y : Q4) : nm (mul x y) = nm x * nm y := by
  simp only [nm, mul]; grind
theorem mul_cj (x : Q4) : mul x (cj x) = ⟨nm x, 0, 0, 0⟩ := by
  apply ext' <;> simp only [mul, cj, nm] <;> grind
theorem cj_cj (x : Q4) : cj (cj x) = x := by
  apply ext' <;> simp [cj]
theorem cj_one : cj one = one := rfl
end Q4
/-- .. as data -/
abbrev qD (x : Q4) : D := t4 x.a x.b x.c x.d
def bq (k : Nat) (x : Q4) : Prop := bd k x.a ∧ bd k x.b ∧ bd k x.c ∧ bd k x.d
theorem bq_le {i j : Nat} {x : Q4} (h : bq i x) (hj : i ≤ j) : bq j x := ⟨bd_le h.1 hj, bd_le h.2.1 hj, bd_le h.2.2.1 hj, bd_le h.2.2.2 hj⟩
theorem bq_mul {i j : Nat} {x y : Q4} (hx : bq i x) (hy : bq j y) : bq (i * j + i * j + i * j + i * j) (Q4.mul x y) := by
  obtain ⟨h1, h2, h3, h4⟩ := hx
  obtain ⟨k1, k2, k3, k4⟩ := hy
  refine ⟨?_, ?_, ?_, ?_⟩ <;> simp only [Q4.mul]
  · exact bd_sub (bd_sub (bd_sub (bd_mul h1 k1) (bd_mul h2 k2)) (bd_mul h3 k3)) (bd_mul h4 k4)
  · exact bd_sub (bd_add (bd_add (bd_mul h1 k2) (bd_mul h2 k1)) (bd_mul h3 k4)) (bd_mul h4 k3)
  · exact bd_add (bd_add (bd_sub (bd_mul h1 k3) (bd_mul h2 k4)) (bd_mul h3 k1)) (bd_mul h4 k2)
  · exact bd_add (bd_sub (bd_add (bd_mul h1 k4) (bd_mul h2 k3)) (bd_mul h3 k2)) (bd_mul h4 k1)
/-! _law_exact (the second kind) of one and the same data -/
theorem exact_non {call : Calls} {g : GS} {f : Nat} : runD call 2 4 (exactB f) [.non, .non] g = some (.bl true, g) := by
  simp [runD, exactB, startE, exs, ex, ev, evs, bnd, biD, un, isK, kind, truth, cmpD, isD, isNon, eqOk, okD, eqD, freeze, keepF, asg, fin]
theorem exact_str {call : Calls} {g : GS} {f : Nat} {x : Str} (hx : x.cps.all (· < 1114112) = true) : runD call 2 4 (exactB f) [.str x, .str x] g = some (.bl true, g) := by
  have e1 : cmpD .eq (.str x) (.str x) = some (.bl true) := by
    have : eqD (.str x) (.str x) = true := by simp [eqD]
    show (if eqOk (.str x) (.str x) = true then some (D.bl (eqD (.str x) (.str x))) else none) = _
    rw [this, if_pos (by unfold eqOk; simp only [okD, hx, Bool.and_self])]
  have k0 : ∀ i, (i = 0 ∨ i = 1) → (startE 4 [.str x, .str x])[i]? = some (.val (.str x)) := fun i hi => by rcases hi with rfl | rfl <;> rfl
  have b0 := k0 0 (.inl rfl)
  have b1 := k0 1 (.inr rfl)
  have s1 : ex call (.asg [] (.var 2) (.and (.cmp .eq (.bi (.isin [3]) [.bvar 0]) (.bi (.isin [3]) [.bvar 1])) (.cmp .eq (.bi (.isin [1]) [.bvar 0]) (.bi (.isin [1]) [.bvar 1])))) (startE 4 [.str x, .str x]) g = some (.nx ((startE 4 [.str x, .str x]).set 2 (.val (.bl true))), g) :=
    ex_asg1 (ev_and1 (ev_cmp2 (ev_b1 (ev_bv b0) (z := .bl true) rfl) (ev_b1 (ev_bv b1) (z := .bl true) rfl) rfl) (ev_cmp2 (ev_b1 (ev_bv b0) (z := .bl false) rfl) (ev_b1 (ev_bv b1) (z := .bl false) rfl) rfl))
  have nn : cmpD .isn (.str x) .non = some (.bl false) := rfl
  unfold runD exactB
  rw [if_pos (by rfl), exs_cons (ex_if2 (ev_b1 (ev_bv b0) (z := .bl false) rfl) rfl rfl), exs_cons (ex_if2 (ev_or0 (ev_cmp2 (ev_bv b0) ev_lit nn) (ev_cmp2 (ev_bv b1) ev_lit nn)) rfl rfl), exs_cons s1,
    exs_ret (ex_ret1 (ev_and1 (ev_v rfl) (ev_and1 (ev_cmp2 (ev_b1 (ev_bv rfl) (z := .bl false) rfl) (ev_b1 (ev_bv rfl) (z := .bl false) rfl) rfl) (ev_cmp2 (ev_bv rfl) (ev_bv rfl) e1))))]
  rfl
mutual
/-- data that _law_exact reads, at most n deep -/
def exOk : Nat → D → Prop
  | _, .int _ => True
  | _, .bl _ => True
  | _, .non => True
  | _, .str x => x.cps.all (· < 1114112) = true
  | n, .tup xs => match n with | 0 => False | n + 1 => xs.length < 1000 ∧ exOks n xs
  | n, .lst xs => match n with | 0 => False | n + 1 => xs.length < 1000 ∧ exOks n xs
  | _, _ => False
def exOks : Nat → List D → Prop
  | _, [] => True
  | n, x :: xs => exOk n x ∧ exOks n xs
end
theorem exOks_mem : ∀ {n : Nat} {xs : List D}, exOks n xs → ∀ x ∈ xs, exOk n x
  | _, [], _, _, h => by cases h
  | n, x :: xs, h, y, hy => by
    simp only [exOks] at h
    rcases List.mem_cons.mp hy with rfl | hy
    · exact h.1
    · exact exOks_mem h.2 y hy
theorem exact_all {tbl : List Df} {f : Nat} (hc : ∀ n args g, callN tbl (n + 1) f args g = runD (callN tbl n) 2 4 (exactB f) args g) : ∀ (n m : Nat) (d : D) (g : GS), n ≤ m → exOk n d → callN tbl (m + 1) f [d, d] g = some (.bl true, g) := by
  intro n
  induction n with
  | zero =>
    intro m d g _ h
    rw [hc]
    cases d <;> simp only [exOk] at h
    · exact exact_non
    · exact exact_bl _
    · exact exact_int _
    · exact exact_str h
  | succ n ih =>
    intro m d g hm h
    rw [hc]
    obtain ⟨m, rfl⟩ : ∃ m', m = m' + 1 := ⟨m - 1, by omega⟩
    cases d <;> simp only [exOk] at h
    · exact exact_non
    · exact exact_bl _
    · exact exact_int _
    · exact exact_str h
    · exact exact_seq (.inl rfl) h.1 fun x hx => ih m x g (by omega) (exOks_mem h.2 x hx)
    · exact exact_seq (.inr rfl) h.1 fun x hx => ih m x g (by omega) (exOks_mem h.2 x hx)
end Tv

/-! PureD: doubled rings: products by halves are sums over pairs of places (plain). -/
namespace Tv
open PySem PyProof.Rows
def sumN : Nat → (Nat → Int) → Int
  | 0, _ => 0
  | n + 1, f => sumN n f + f n
theorem sumN_congr {f g : Nat → Int} : ∀ {n : Nat}, (∀ i, i < n → f i = g i) → sumN n f = sumN n g
  | 0, _ => rfl
  | n + 1, h => by rw [sumN, sumN, sumN_congr fun i hi => h i (by omega), h n (by omega)]
theorem sumN_zero {f : Nat → Int} : ∀ {n : Nat}, (∀ i, i < n → f i = 0) → sumN n f = 0
  | 0, _ => rfl
  | n + 1, h => by rw [sumN, sumN_zero fun i hi => h i (by omega), h n (by omega)]; rfl
theorem sumN_add {f g : Nat → Int} : ∀ {n : Nat}, sumN n (fun i => f i + g i) = sumN n f + sumN n g
  | 0 => rfl
  | n + 1 => by rw [sumN, sumN, sumN, sumN_add]; omega
theorem sumN_neg {f : Nat → Int} : ∀ {n : Nat}, sumN n (fun i => -f i) = -sumN n f
  | 0 => rfl
  | n + 1 => by rw [sumN, sumN, sumN_neg]; omega
theorem sumN_split {f : Nat → Int} {m : Nat} : ∀ {n : Nat}, sumN (m + n) f = sumN m f + sumN n (fun i => f (m + i))
  | 0 => by simp [sumN]
  | n + 1 => by rw [show m + (n + 1) = (m + n) + 1 from rfl, sumN, sumN_split, sumN]; omega
theorem sumN_swap {f : Nat → Nat → Int} {m : Nat} : ∀ {n : Nat}, sumN n (fun i => sumN m (fun j => f i j)) = sumN m (fun j => sumN n (fun i => f i j))
  | 0 => by
    rw [sumN]
    exact (sumN_zero fun j _ => rfl).symm
  | n + 1 => by
    rw [sumN, sumN_swap, ← sumN_add]
    rfl
theorem sumN_one {f : Nat → Int} {k : Nat} : ∀ {n : Nat}, k < n → (∀ i, i < n → i ≠ k → f i = 0) → sumN n f = f k
  | 0, h, _ => by omega
  | n + 1, h, h0 => by
    rw [sumN]
    by_cases e : k = n
    · subst e
      rw [sumN_zero fun i hi => h0 i (by omega) (by omega)]
      omega
    · rw [sumN_one (n := n) (by omega) fun i hi hk => h0 i (by omega) hk, h0 n (by omega) (fun z => e z.symm)]
      omega
/-! signs and products by halves -/
def sg : Nat → Nat → Nat → Int
  | 0, _, _ => 1
  | e + 1, i, j => if 2 ^ e ≤ i ∧ 2 ^ e ≤ j then (if j % 2 ^ e = 0 then -1 else 1) * sg e (j % 2 ^ e) (i % 2 ^ e) else if 2 ^ e ≤ j then sg e (j % 2 ^ e) (i % 2 ^ e) else if 2 ^ e ≤ i ∧ 0 < j % 2 ^ e then -sg e (i % 2 ^ e) (j % 2 ^ e) else sg e (i % 2 ^ e) (j % 2 ^ e)
abbrev Vc := Nat → Int
def conj (f : Vc) : Vc := fun i => if i = 0 then f 0 else -f i
def hi (h : Nat) (f : Vc) : Vc := fun i => f (i + h)
def ng (f : Vc) : Vc := fun i => -f i
def pl (f g : Vc) : Vc := fun i => f i + g i
def mi (f g : Vc) : Vc := fun i => f i - g i
def cat (h : Nat) (a b : Vc) : Vc := fun k => if k < h then a k else b (k - h)
def cd : Nat → Vc → Vc → Vc
  | 0, x, y => fun _ => x 0 * y 0
  | e + 1, x, y => cat (2 ^ e) (mi (cd e x y) (cd e (conj (hi (2 ^ e) y)) (hi (2 ^ e) x))) (pl (cd e (hi (2 ^ e) y) x) (cd e (hi (2 ^ e) x) (conj y)))
def tM (e : Nat) (x y : Vc) (k i j : Nat) : Int := if i ^^^ j = k then sg e i j * x i * y j else 0
def TT (e : Nat) (x y : Vc) (k : Nat) : Int := sumN (2 ^ e) fun i => sumN (2 ^ e) fun j => tM e x y k i j
theorem xor_sp (e : Nat) {a b i j : Nat} (hi : i < 2 ^ e) (hj : j < 2 ^ e) : (2 ^ e * a + i) ^^^ (2 ^ e * b + j) = 2 ^ e * (a ^^^ b) + (i ^^^ j) := by
  have p : 0 < 2 ^ e := Nat.two_pow_pos e
  have h1 : ((2 ^ e * a + i) ^^^ (2 ^ e * b + j)) / 2 ^ e = a ^^^ b := by
    rw [Nat.xor_div_two_pow, Nat.mul_add_div p, Nat.mul_add_div p, Nat.div_eq_of_lt hi, Nat.div_eq_of_lt hj]; rfl
  have h2 : ((2 ^ e * a + i) ^^^ (2 ^ e * b + j)) % 2 ^ e = i ^^^ j := by
    rw [Nat.xor_mod_two_pow, Nat.mul_add_mod, Nat.mul_add_mod, Nat.mod_eq_of_lt hi, Nat.mod_eq_of_lt hj]
  have := Nat.div_add_mod ((2 ^ e * a + i) ^^^ (2 ^ e * b + j)) (2 ^ e)
  rw [h1, h2] at this
  exact this.symm
theorem xor_ll {e i j : Nat} (hi : i < 2 ^ e) (hj : j < 2 ^ e) : i ^^^ j < 2 ^ e := Nat.xor_lt_two_pow hi hj
theorem xor_lh {e i j : Nat} (hi : i < 2 ^ e) (hj : j < 2 ^ e) : i ^^^ (2 ^ e + j) = 2 ^ e + (i ^^^ j) := by
  have := xor_sp e (a := 0) (b := 1) hi hj
  simpa using this
theorem xor_hl {e i j : Nat} (hi : i < 2 ^ e) (hj : j < 2 ^ e) : (2 ^ e + i) ^^^ j = 2 ^ e + (i ^^^ j) := by
  have := xor_sp e (a := 1) (b := 0) hi hj
  simpa using this
theorem xor_hh {e i j : Nat} (hi : i < 2 ^ e) (hj : j < 2 ^ e) : (2 ^ e + i) ^^^ (2 ^ e + j) = i ^^^ j := by
  have := xor_sp e (a := 1) (b := 1) hi hj
  simpa using this
theorem mod_h {e i : Nat} (hi : i < 2 ^ e) : (2 ^ e + i) % 2 ^ e = i := by rw [Nat.add_mod_left, Nat.mod_eq_of_lt hi]
section
variable {e i j : Nat} (hi : i < 2 ^ e) (hj : j < 2 ^ e)
include hi hj
theorem sg_ll : sg (e + 1) i j = sg e i j := by
  rw [sg, if_neg (by omega), if_neg (by omega), if_neg (by omega), Nat.mod_eq_of_lt hi, Nat.mod_eq_of_lt hj]
theorem sg_lh : sg (e + 1) i (2 ^ e + j) = sg e j i := by
  rw [sg, if_neg (by omega), if_pos (by omega), mod_h hj, Nat.mod_eq_of_lt hi]
theorem sg_hl : sg (e + 1) (2 ^ e + i) j = (if j = 0 then 1 else -1) * sg e i j := by
  rw [sg, if_neg (by omega), if_neg (by omega), mod_h hi, Nat.mod_eq_of_lt hj]
  by_cases z : j = 0
  · rw [if_neg (by omega), if_pos z]; omega
  · rw [if_pos (by omega), if_neg z]; omega
theorem sg_hh : sg (e + 1) (2 ^ e + i) (2 ^ e + j) = (if j = 0 then -1 else 1) * sg e j i := by
  rw [sg, if_pos (by omega), mod_h hi, mod_h hj]
end
theorem TT_split {e : Nat} {x y : Vc} {k : Nat} : TT (e + 1) x y k = (sumN (2 ^ e) fun i => sumN (2 ^ e) fun j => tM (e + 1) x y k i j) + (sumN (2 ^ e) fun i => sumN (2 ^ e) fun j => tM (e + 1) x y k i (2 ^ e + j)) + ((sumN (2 ^ e) fun i => sumN (2 ^ e) fun j => tM (e + 1) x y k (2 ^ e + i) j) + (sumN (2 ^ e) fun i => sumN (2 ^ e) fun j => tM (e + 1) x y k (2 ^ e + i) (2 ^ e + j))) := by
  unfold TT
  have h2 : 2 ^ (e + 1) = 2 ^ e + 2 ^ e := by rw [Nat.pow_succ]; omega
  rw [h2, sumN_split]
  have s : ∀ f : Nat → Nat → Int, (sumN (2 ^ e) fun i => sumN (2 ^ e + 2 ^ e) fun j => f i j) = (sumN (2 ^ e) fun i => sumN (2 ^ e) fun j => f i j) + (sumN (2 ^ e) fun i => sumN (2 ^ e) fun j => f i (2 ^ e + j)) := fun f => by
    rw [← sumN_add]
    exact sumN_congr fun i _ => sumN_split
  rw [s, s]
theorem sum2_zero {n : Nat} {f : Nat → Nat → Int} (h : ∀ i j, i < n → j < n → f i j = 0) : (sumN n fun i => sumN n fun j => f i j) = 0 := sumN_zero fun i hi => sumN_zero fun j hj => h i j hi hj
theorem sum2_congr {n : Nat} {f g : Nat → Nat → Int} (h : ∀ i j, i < n → j < n → f i j = g i j) : (sumN n fun i => sumN n fun j => f i j) = (sumN n fun i => sumN n fun j => g i j) := sumN_congr fun i hi => sumN_congr fun j hj => h i j hi hj
/-- a product by halves is the sum over all pairs of places -/
theorem TT_cd : ∀ (e : Nat) (x y : Vc) (k : Nat), k < 2 ^ e → TT e x y k = cd e x y k := by
  intro e
  induction e with
  | zero =>
    intro x y k hk
    have : k = 0 := by simp at hk; exact hk
    subst this
    simp [TT, tM, sumN, sg, cd]
  | succ e ih =>
    intro x y k hk
    have h2 : 2 ^ (e + 1) = 2 ^ e + 2 ^ e := by rw [Nat.pow_succ]; omega
    rw [TT_split, cd]
    unfold cat
    by_cases h : k < 2 ^ e
    · rw [if_pos h]
      have z1 : (sumN (2 ^ e) fun i => sumN (2 ^ e) fun j => tM (e + 1) x y k i (2 ^ e + j)) = 0 := sum2_zero fun i j hi hj => by
        unfold tM
        rw [xor_lh hi hj, if_neg (by omega)]
      have z2 : (sumN (2 ^ e) fun i => sumN (2 ^ e) fun j => tM (e + 1) x y k (2 ^ e + i) j) = 0 := sum2_zero fun i j hi hj => by
        unfold tM
        rw [xor_hl hi hj, if_neg (by omega)]
      have z3 : (sumN (2 ^ e) fun i => sumN (2 ^ e) fun j => tM (e + 1) x y k i j) = TT e x y k := sum2_congr fun i j hi hj => by
        unfold tM
        rw [sg_ll hi hj]
      have z4 : (sumN (2 ^ e) fun i => sumN (2 ^ e) fun j => tM (e + 1) x y k (2 ^ e + i) (2 ^ e + j)) = -TT e (conj (Tv.hi (2 ^ e) y)) (Tv.hi (2 ^ e) x) k := by
        unfold TT
        rw [sumN_swap, ← sumN_neg]
        refine sumN_congr fun j hj => ?_
        rw [← sumN_neg]
        refine sumN_congr fun i hi => ?_
        unfold tM
        rw [xor_hh hi hj, sg_hh hi hj, Nat.xor_comm j i]
        split
        · unfold conj Tv.hi
          rw [Nat.add_comm i, Nat.add_comm j]
          by_cases z : j = 0
          · subst z
            rw [if_pos rfl, if_pos rfl]
            grind
          · rw [if_neg z, if_neg z]
            grind
        · rfl
      rw [z1, z2, z3, z4, ih x y k h, ih _ _ k h]
      unfold mi
      omega
    · rw [if_neg h]
      have hk' : k - 2 ^ e < 2 ^ e := by omega
      have z1 : (sumN (2 ^ e) fun i => sumN (2 ^ e) fun j => tM (e + 1) x y k i j) = 0 := sum2_zero fun i j hi hj => by
        unfold tM
        have := xor_ll hi hj
        rw [if_neg (by omega)]
      have z2 : (sumN (2 ^ e) fun i => sumN (2 ^ e) fun j => tM (e + 1) x y k (2 ^ e + i) (2 ^ e + j)) = 0 := sum2_zero fun i j hi hj => by
        unfold tM
        have := xor_ll hi hj
        rw [xor_hh hi hj, if_neg (by omega)]
      have z3 : (sumN (2 ^ e) fun i => sumN (2 ^ e) fun j => tM (e + 1) x y k i (2 ^ e + j)) = TT e (Tv.hi (2 ^ e) y) x (k - 2 ^ e) := by
        unfold TT
        rw [sumN_swap]
        refine sum2_congr fun j i hj hi => ?_
        unfold tM
        rw [xor_lh hi hj, sg_lh hi hj, Nat.xor_comm j i]
        by_cases z : i ^^^ j = k - 2 ^ e
        · rw [if_pos (by omega), if_pos z]
          unfold Tv.hi
          rw [Nat.add_comm j]
          grind
        · rw [if_neg (by omega), if_neg z]
      have z4 : (sumN (2 ^ e) fun i => sumN (2 ^ e) fun j => tM (e + 1) x y k (2 ^ e + i) j) = TT e (Tv.hi (2 ^ e) x) (conj y) (k - 2 ^ e) := sum2_congr fun i j hi hj => by
        unfold tM
        rw [xor_hl hi hj, sg_hl hi hj]
        by_cases z : i ^^^ j = k - 2 ^ e
        · rw [if_pos (by omega), if_pos z]
          unfold Tv.hi conj
          rw [Nat.add_comm i]
          by_cases w : j = 0
          · subst w
            rw [if_pos rfl, if_pos rfl]
            grind
          · rw [if_neg w, if_neg w]
            grind
        · rw [if_neg (by omega), if_neg z]
      rw [z1, z2, z3, z4, ih _ _ _ hk', ih _ _ _ hk']
      unfold pl
      omega
/-! laws of the product by halves -/
theorem conj_pl {x y : Vc} : conj (pl x y) = pl (conj x) (conj y) := by
  funext i; unfold conj pl; dsimp only; split <;> (try subst i) <;> omega
theorem conj_ng {x : Vc} : conj (ng x) = ng (conj x) := by
  funext i; unfold conj ng; dsimp only; split <;> omega
theorem conj_conj {x : Vc} : conj (conj x) = x := by
  funext i; unfold conj; split
  · subst i; simp
  · simp
theorem ng_ng {x : Vc} : ng (ng x) = x := by
  funext i; unfold ng; omega
theorem hi_pl {h : Nat} {x y : Vc} : hi h (pl x y) = pl (hi h x) (hi h y) := rfl
theorem hi_ng {h : Nat} {x : Vc} : hi h (ng x) = ng (hi h x) := rfl
theorem hi_conj {h : Nat} {x : Vc} (h0 : 0 < h) : hi h (conj x) = ng (hi h x) := by
  funext i; unfold hi conj ng; rw [if_neg (by omega)]
theorem cat_congr {h : Nat} {a b c d : Vc} (h1 : ∀ i, a i = c i) (h2 : ∀ i, b i = d i) : cat h a b = cat h c d := by
  funext k; unfold cat; split
  · exact h1 _
  · exact h2 _
theorem cd_pl : ∀ e : Nat, (∀ x x' y : Vc, cd e (pl x x') y = pl (cd e x y) (cd e x' y)) ∧ (∀ x y y' : Vc, cd e x (pl y y') = pl (cd e x y) (cd e x y')) := by
  intro e
  induction e with
  | zero =>
    constructor
    · intro x x' y
      funext i
      exact Int.add_mul ..
    · intro x y y'
      funext i
      exact Int.mul_add ..
  | succ e ih =>
    obtain ⟨il, ir⟩ := ih
    constructor
    · intro x x' y
      funext k
      simp only [cd, hi_pl, il, ir]
      unfold pl cat mi
      dsimp only
      split <;> omega
    · intro x y y'
      funext k
      simp only [cd, hi_pl, conj_pl, il, ir]
      unfold pl cat mi
      dsimp only
      split <;> omega
theorem cd_ng : ∀ e : Nat, (∀ x y : Vc, cd e (ng x) y = ng (cd e x y)) ∧ (∀ x y : Vc, cd e x (ng y) = ng (cd e x y)) := by
  intro e
  induction e with
  | zero =>
    constructor
    · intro x y
      funext i
      exact Int.neg_mul ..
    · intro x y
      funext i
      exact Int.mul_neg ..
  | succ e ih =>
    obtain ⟨il, ir⟩ := ih
    constructor
    · intro x y
      funext k
      simp only [cd, hi_ng, il, ir]
      unfold pl cat mi ng
      dsimp only
      split <;> omega
    · intro x y
      funext k
      simp only [cd, hi_ng, conj_ng, il, ir]
      unfold pl cat mi ng
      dsimp only
      split <;> omega
/-- a product turned -/
theorem cd_conj : ∀ (e : Nat) (x y : Vc) (k : Nat), k < 2 ^ e → conj (cd e x y) k = cd e (conj y) (conj x) k := by
  intro e
  induction e with
  | zero =>
    intro x y k hk
    have : k = 0 := by simp at hk; exact hk
    subst this
    simp [conj, cd, Int.mul_comm]
  | succ e ih =>
    intro x y k hk
    have p : 0 < 2 ^ e := Nat.two_pow_pos e
    have h2 : 2 ^ (e + 1) = 2 ^ e + 2 ^ e := by rw [Nat.pow_succ]; omega
    obtain ⟨nl, nr⟩ := cd_ng e
    simp only [cd, hi_conj p, conj_ng, conj_conj, nl, nr, ng_ng]
    by_cases h : k < 2 ^ e
    · have i1 := ih x y k h
      have i2 := ih (conj (hi (2 ^ e) y)) (hi (2 ^ e) x) k h
      rw [conj_conj] at i2
      have e1 : ∀ a b c d : Vc, conj (cat (2 ^ e) (mi a b) c) k = conj a k - conj b k := fun a b c d => by
        unfold conj cat mi
        split
        · subst k; simp [p]
        · omega
      rw [e1 _ _ _ x, i1, i2]
      unfold cat mi
      rw [if_pos h]
    · have e1 : ∀ a b : Vc, conj (cat (2 ^ e) a b) k = -b (k - 2 ^ e) := fun a b => by
        unfold conj cat
        rw [if_neg (by omega), if_neg h]
      rw [e1]
      unfold cat pl ng
      rw [if_neg h]
      omega
theorem cd_congr : ∀ (e : Nat) {x x' y y' : Vc}, (∀ i, i < 2 ^ e → x i = x' i) → (∀ i, i < 2 ^ e → y i = y' i) → ∀ k, k < 2 ^ e → cd e x y k = cd e x' y' k := fun e x x' y y' h1 h2 k hk => by
  rw [← TT_cd e x y k hk, ← TT_cd e x' y' k hk]
  unfold TT
  refine sum2_congr fun i j hi hj => ?_
  unfold tM
  rw [h1 i hi, h2 j hj]
/-- norms -/
def nmN (e : Nat) (x : Vc) : Int := sumN (2 ^ e) fun i => x i * x i
theorem nm_conj {e : Nat} {x : Vc} : nmN e (conj x) = nmN e x := by
  unfold nmN
  refine sumN_congr fun i _ => ?_
  unfold conj
  split
  · subst i; rfl
  · exact Int.neg_mul_neg ..
theorem nm_split {e : Nat} {x : Vc} : nmN (e + 1) x = nmN e x + nmN e (hi (2 ^ e) x) := by
  unfold nmN
  have h2 : 2 ^ (e + 1) = 2 ^ e + 2 ^ e := by rw [Nat.pow_succ]; omega
  rw [h2, sumN_split]
  congr 1
  exact sumN_congr fun i _ => by unfold hi; rw [Nat.add_comm]
theorem cd_nm : ∀ (e : Nat) (x : Vc) (k : Nat), k < 2 ^ e → cd e x (conj x) k = if k = 0 then nmN e x else 0 := by
  intro e
  induction e with
  | zero =>
    intro x k hk
    have : k = 0 := by simp at hk; exact hk
    subst this
    simp [conj, cd, nmN, sumN]
  | succ e ih =>
    intro x k hk
    have p : 0 < 2 ^ e := Nat.two_pow_pos e
    have h2 : 2 ^ (e + 1) = 2 ^ e + 2 ^ e := by rw [Nat.pow_succ]; omega
    obtain ⟨nl, nr⟩ := cd_ng e
    simp only [cd, hi_conj p, conj_ng, conj_conj, nl, nr]
    unfold cat
    by_cases h : k < 2 ^ e
    · rw [if_pos h]
      have i1 := ih x k h
      have i2 := ih (conj (hi (2 ^ e) x)) k h
      rw [conj_conj, nm_conj] at i2
      unfold mi ng
      rw [i1, i2, nm_split]
      split <;> omega
    · rw [if_neg h, if_neg (by omega)]
      unfold pl ng
      omega
/-- units -/
def un1 (i : Nat) : Vc := fun k => if k = i then 1 else 0
theorem cd_unit {e i j : Nat} (hi : i < 2 ^ e) (hj : j < 2 ^ e) : cd e (un1 i) (un1 j) (i ^^^ j) = sg e i j := by
  rw [← TT_cd e _ _ _ (xor_ll hi hj)]
  unfold TT
  rw [sumN_one hi, sumN_one hj]
  · unfold tM un1
    simp
  · intro a _ ha
    unfold tM un1
    rw [if_neg ha]
    split <;> omega
  · intro a _ ha
    refine sumN_zero fun b _ => ?_
    unfold tM un1
    rw [if_neg ha]
    split
    · rw [Int.mul_zero, Int.zero_mul]
    · rfl
end Tv

/-! PureE: what the functions of doubled rings compute. -/
namespace Tv
open PySem PyProof.Rows
def vL (n : Nat) (f : Vc) : List D := (List.range n).map fun i => .int (f i)
abbrev vT (n : Nat) (f : Vc) : D := .tup (vL n f)
theorem vL_len {n : Nat} {f : Vc} : (vL n f).length = n := by unfold vL; rw [List.length_map, List.length_range]
theorem vL_congr {n : Nat} {f h : Vc} (e : ∀ i, i < n → f i = h i) : vL n f = vL n h := by
  unfold vL
  exact List.map_congr_left fun i hi => by rw [e i (List.mem_range.mp hi)]
theorem vL_get {n i : Nat} {f : Vc} (h : i < n) : (vL n f)[i]? = some (.int (f i)) := by
  unfold vL
  rw [List.getElem?_map, List.getElem?_range h]
  rfl
theorem vL_app {h k : Nat} {a b : Vc} : vL h a ++ vL k b = vL (h + k) (cat h a b) := by
  apply List.ext_getElem?
  intro i
  by_cases h1 : i < h
  · rw [List.getElem?_append_left (by rw [vL_len]; exact h1), vL_get h1, vL_get (by omega)]
    unfold cat
    rw [if_pos h1]
  · rw [List.getElem?_append_right (by rw [vL_len]; omega), vL_len]
    by_cases h2 : i < h + k
    · rw [vL_get (by omega), vL_get h2]
      unfold cat
      rw [if_neg h1]
    · rw [List.getElem?_eq_none (by rw [vL_len]; omega), List.getElem?_eq_none (by rw [vL_len]; omega)]
theorem vL_take {h n : Nat} {f : Vc} (hn : h ≤ n) : (vL n f).take h = vL h f := by
  unfold vL
  rw [← List.map_take, List.take_range, Nat.min_eq_left hn]
theorem vL_drop {h n : Nat} {f : Vc} (hn : h ≤ n) : (vL n f).drop h = vL (n - h) (hi h f) := by
  apply List.ext_getElem?
  intro i
  rw [List.getElem?_drop]
  by_cases h1 : i < n - h
  · rw [vL_get (by omega), vL_get h1]
    unfold hi
    rw [Nat.add_comm]
  · rw [List.getElem?_eq_none (by rw [vL_len]; omega), List.getElem?_eq_none (by rw [vL_len]; omega)]
theorem vL_set {n k : Nat} {f : Vc} {v : Int} (hk : k < n) : (vL n f).set k (.int v) = vL n (fun m => if m = k then v else f m) := by
  apply List.ext_getElem?
  intro i
  by_cases h1 : k = i
  · subst h1
    rw [List.getElem?_set_self (by rw [vL_len]; exact hk), vL_get hk, if_pos rfl]
  · rw [List.getElem?_set_ne h1]
    by_cases h2 : i < n
    · rw [vL_get h2, vL_get h2, if_neg (fun z => h1 z.symm)]
    · rw [List.getElem?_eq_none (by rw [vL_len]; omega), List.getElem?_eq_none (by rw [vL_len]; omega)]
theorem len_vT {n : Nat} {f : Vc} : biD .len [vT n f] = some (nD n) := by
  show some (D.int ((vL n f).length : Int)) = _
  rw [vL_len]
theorem idx_vT {n i : Nat} {f : Vc} (h : i < n) : idxD (vT n f) (nD i) = some (.int (f i)) := L2.atI_nat (vL_get h)
theorem cutH_vT {n h : Nat} {f : Vc} (hn : h ≤ n) : cutD (vT n f) none (some (h : Int)) = some (vT h f) := by
  show some (D.tup (cutL (vL n f) none (some (h : Int)))) = _
  unfold cutL
  have e1 : HT.sIx (vL n f).length 0 none = 0 := rfl
  have e2 : HT.sIx (vL n f).length (vL n f).length (some (h : Int)) = h := by
    rw [vL_len]
    simp only [HT.sIx]
    rw [if_neg (by omega), Int.toNat_natCast, Nat.min_eq_left hn]
  rw [e1, e2, List.drop_zero, Nat.sub_zero, vL_take hn]
theorem cutL_vT {n h : Nat} {f : Vc} (hn : h ≤ n) : cutD (vT n f) (some (h : Int)) none = some (vT (n - h) (hi h f)) := by
  show some (D.tup (cutL (vL n f) (some (h : Int)) none)) = _
  unfold cutL
  have e1 : HT.sIx (vL n f).length 0 (some (h : Int)) = h := by
    rw [vL_len]
    simp only [HT.sIx]
    rw [if_neg (by omega), Int.toNat_natCast, Nat.min_eq_left hn]
  have e2 : HT.sIx (vL n f).length (vL n f).length none = n := by
    show (vL n f).length = _
    exact vL_len
  rw [e1, e2, vL_drop hn, List.take_of_length_le (by rw [vL_len]; exact Nat.le_refl _)]
theorem add_vT {h k : Nat} {a b : Vc} (hs : h + k ≤ 100000) : binD .add (vT h a) (vT k b) = some (vT (h + k) (cat h a b)) := by
  show (if (vL h a).length + (vL k b).length ≤ sizeLine then some (D.tup (vL h a ++ vL k b)) else none) = _
  rw [if_pos (by rw [vL_len, vL_len]; unfold sizeLine; omega), vL_app]
theorem okDs_ints {n : Nat} : ∀ {l : List Int}, okDs n (l.map D.int) = true
  | [] => rfl
  | x :: l => by rw [List.map_cons, okDs, okDs_ints]; rfl
theorem eqDs_ints : ∀ {l : List Int}, eqDs (l.map D.int) (l.map D.int) = true
  | [] => rfl
  | x :: l => by rw [List.map_cons, eqDs, eqDs_ints]; simp [eqD]
theorem vL_ints {n : Nat} {f : Vc} : vL n f = ((List.range n).map f).map D.int := by
  unfold vL
  rw [List.map_map]
  rfl
theorem ok_vT {n : Nat} {f : Vc} : okD 60 (vT n f) = true := by
  rw [show vT n f = .tup (((List.range n).map f).map D.int) by rw [← vL_ints]]
  rw [okD]
  exact okDs_ints
theorem ne_vT {n : Nat} {f : Vc} : cmpD .ne (vT n f) (vT n f) = some (.bl false) := by
  have e : cmpD .ne (vT n f) (vT n f) = if eqOk (vT n f) (vT n f) = true then some (.bl (!(eqD (vT n f) (vT n f)))) else none := rfl
  rw [e, if_pos (by unfold eqOk; rw [ok_vT]; rfl), eqD, vL_ints, eqDs_ints]
  rfl
theorem eq_vT {n : Nat} {f : Vc} : cmpD .eq (vT n f) (vT n f) = some (.bl true) := by
  have e : cmpD .eq (vT n f) (vT n f) = if eqOk (vT n f) (vT n f) = true then some (.bl (eqD (vT n f) (vT n f))) else none := rfl
  rw [e, if_pos (by unfold eqOk; rw [ok_vT]; rfl), eqD, vL_ints, eqDs_ints]
theorem gather_rng {F : D → GS → Option (Option D × GS)} {v w : Nat → D} {g : GS} : ∀ {l : List Nat}, (∀ i ∈ l, F (v i) g = some (some (w i), g)) → gather F (l.map v) g = some (l.map w, g)
  | [], _ => rfl
  | i :: l, h => by
    rw [List.map_cons, List.map_cons]
    exact gather_some (h i (List.mem_cons_self ..)) (gather_rng fun j hj => h j (List.mem_cons_of_mem _ hj))
theorem range_natE (n : Nat) : rangeD 0 n = (List.range n).map nD := by
  have := range_map n 0
  rw [List.range_eq_range']
  exact this
section
variable {call : Calls} {g : GS} {ρ : Env}
/-- a comprehension over n things -/
theorem ev_vcomp {i n : Nat} {it elt : C} {s : D} {v : Nat → D} {f : Vc} (h1 : ev call it ρ g = some (s, g)) (hs : items s = some ((List.range n).map v)) (hi : i < ρ.length) (hn : n ≤ 100000) (h : ∀ k, k < n → ∀ ρ' : Env, ρ' = (ρ.set i .no).set i (.val (v k)) → ρ'[i]? = some (.val (v k)) → ev call elt ρ' g = some (.int (f k), g)) : ev call (.comp [i] (.var i) it (.lit (.bl true)) elt) ρ g = some (.lst (vL n f), g) := by
  refine ev_comp h1 hs (gather_rng fun k hk => ?_) (by rw [vL_len]; unfold sizeLine; omega)
  refine gF_one (ρ' := (ρ.set i .no).set i (.val (v k))) rfl (h k (List.mem_range.mp hk) _ rfl ?_)
  rw [List.getElem?_set_self (by rw [List.length_set]; exact hi)]
def turnB : List S := [.ret [] (.bin .add (.cut (.bvar 0) (.nop) (.lit (.int 1))) (.bi .tuple [.comp [1] (.var 1) (.cut (.bvar 0) (.lit (.int 1)) (.nop)) (.lit (.bl true)) (.neg (.bvar 1))]))]
theorem turn_run {n : Nat} {x : Vc} (h0 : 0 < n) (hn : n ≤ 1000) : runD call 1 2 turnB [vT n x] g = some (vT n (conj x), g) := by
  refine run_ret rfl (exs_ret (ex_ret1 ?_))
  have e : vT n (conj x) = vT (1 + (n - 1)) (cat 1 x (fun i => -x (i + 1))) := by
    rw [show 1 + (n - 1) = n by omega]
    unfold vT
    congr 1
    refine vL_congr fun i _ => ?_
    unfold conj cat
    by_cases z : i = 0
    · subst z; simp
    · rw [if_neg z, if_neg (by omega)]
      show _ = -x (i - 1 + 1)
      rw [show i - 1 + 1 = i by omega]
  rw [e]
  refine ev_bin2 (ev_cutH rfl (ev_bv rfl) (ev_lit (d := .int 1)) (cutH_vT (h := 1) h0)) (ev_b1 (ev_vcomp (n := n - 1) (v := fun i => .int (x (i + 1))) (f := fun i => -x (i + 1)) (ev_cutL rfl (ev_bv rfl) (ev_lit (d := .int 1)) (cutL_vT (h := 1) h0)) rfl (by simp [startE]) (by omega) fun k hk ρ' _ h => ev_neg (ev_bv h)) rfl) (add_vT (by omega))
def zipB (o : Op) : List S := [.ret [] (.bi .tuple [.comp [2, 3] (.tup [.var 2, .var 3]) (.bi .zip [.var 0, .var 1]) (.lit (.bl true)) (.bin o (.bvar 2) (.bvar 3))])]
theorem zip_vL : ∀ {l : List Nat} {x y : Vc}, zipD (l.map fun i => .int (x i)) (l.map fun i => .int (y i)) = l.map fun i => .tup [.int (x i), .int (y i)]
  | [], _, _ => by simp [zipD]
  | i :: l, x, y => by rw [List.map_cons, List.map_cons, zipD, zip_vL, List.map_cons]
theorem zip_run {n : Nat} {x y f : Vc} {o : Op} (hn : n ≤ 1000) (ho : ∀ i, i < n → binD o (.int (x i)) (.int (y i)) = some (.int (f i))) : runD call 2 4 (zipB o) [vT n x, vT n y] g = some (vT n f, g) := by
  refine run_ret rfl (exs_ret (ex_ret1 ?_))
  refine ev_b1 (x := .lst (vL n f)) ?_ rfl
  refine ev_comp (s := .lst ((List.range n).map fun i => .tup [.int (x i), .int (y i)])) (ev_b2 (ev_v rfl) (ev_v rfl) ?_) rfl (gather_rng (w := fun i => .int (f i)) fun k hk => ?_) (by rw [vL_len]; unfold sizeLine; omega)
  · show some (D.lst (zipD (vL n x) (vL n y))) = _
    unfold vL
    rw [zip_vL]
  · exact gF_one (ρ' := [.val (vT n x), .val (vT n y), .val (.int (x k)), .val (.int (y k))]) rfl (ev_bin2 (ev_bv rfl) (ev_bv rfl) (ho k (List.mem_range.mp hk)))
theorem sum_run {n : Nat} {x y : Vc} (hn : n ≤ 1000) : runD call 2 4 (zipB .add) [vT n x, vT n y] g = some (vT n (pl x y), g) := zip_run hn fun _ _ => rfl
theorem less_run {n : Nat} {x y : Vc} (hn : n ≤ 1000) : runD call 2 4 (zipB .sub) [vT n x, vT n y] g = some (vT n (mi x y), g) := zip_run hn fun _ _ => rfl
def sV (n : Nat) (x : Vc) : Prop := ∀ i, i < n → (x i).natAbs < 18446744073709551616
def normB : List S := [.ret [] (.bi .sum [.comp [1] (.var 1) (.bvar 0) (.lit (.bl true)) (.bin .mul (.bvar 1) (.bvar 1))])]
theorem intsOf_map : ∀ {l : List Int}, intsOf (l.map D.int) = some l
  | [] => rfl
  | x :: l => by rw [List.map_cons, intsOf, intsOf_map]; rfl
theorem sum_range {f : Vc} : ∀ {n : Nat}, ((List.range n).map f).sum = sumN n f
  | 0 => rfl
  | n + 1 => by rw [List.range_succ, List.map_append, List.sum_append, sum_range, sumN]; simp
theorem norm_run {n : Nat} {x : Vc} (hn : n ≤ 1000) (hx : sV n x) : runD call 1 2 normB [vT n x] g = some (.int (sumN n fun i => x i * x i), g) := by
  refine run_ret rfl (exs_ret (ex_ret1 ?_))
  refine ev_b1 (ev_vcomp (n := n) (v := fun i => .int (x i)) (f := fun i => x i * x i) (s := vT n x) (ev_bv rfl) rfl (by simp [startE]) (by omega) fun k hk ρ' _ h => ev_bin2 (ev_bv h) (ev_bv h) (mul_l (hx k hk))) ?_
  show (intsOf (vL n fun i => x i * x i)).map (fun ns => D.int ns.sum) = _
  rw [vL_ints, intsOf_map, Option.map_some, sum_range]
/-! the sign of a product of units -/
def signT : C := .cmp .gt (.bvar 4) (.lit (.int 0))
def signW : List S := [.par [] [5, 6] [.cmp .ge (.bvar 1) (.bvar 4), .cmp .ge (.bvar 2) (.bvar 4)], .par [] [1, 2] [.bin .mod (.bvar 1) (.bvar 4), .bin .mod (.bvar 2) (.bvar 4)], .ifs (.and (.bvar 5) (.bvar 6)) [.asg [] (.var 3) (.ite (.cmp .eq (.bvar 2) (.lit (.int 0))) (.neg (.bvar 3)) (.var 3)), .par [] [1, 2] [.var 2, .var 1]] [.ifs (.bvar 6) [.par [] [1, 2] [.var 2, .var 1]] [.ifs (.and (.bvar 5) (.cmp .gt (.bvar 2) (.lit (.int 0)))) [.asg [] (.var 3) (.neg (.bvar 3))] []]], .asg [] (.var 4) (.bin .fdiv (.bvar 4) (.lit (.int 2)))]
def signB : List S := [.asg [] (.var 3) (.lit (.int 1)), .asg [] (.var 4) (.bin .fdiv (.bvar 0) (.lit (.int 2))), .whl signT signW, .ret [] (.var 3)]
theorem ge_nat {a b : Nat} : cmpD .ge (nD a) (nD b) = some (.bl (decide (b ≤ a))) := by
  show some (D.bl (decide ((b : Int) ≤ (a : Int)))) = _
  congr 2
  exact decide_eq_decide.mpr ⟨fun z => by omega, fun z => by omega⟩
theorem ex_par2s {i j : Nat} {e f : C} {x y : D} {g1 g2 : GS} (h : ev call e ρ g = some (x, g1)) (h2 : ev call f ρ g1 = some (y, g2)) : ex call (.par [] [i, j] [e, f]) ρ g = some (.nx ((ρ.set i (.val x)).set j (.val y)), g2) := ex_par2 h h2
theorem sgn1 {t S : Int} : -t * S = t * (-1 * S) := by grind
theorem sgn2 {t S : Int} : t * S = t * (1 * S) := by grind
theorem sgn3 {t S : Int} : -t * S = t * -S := by grind
theorem sign_step {n e i j : Nat} {t : Int} {s5 s6 : SV} (he : e < 30) (hi : i < 2 ^ (e + 1)) (hj : j < 2 ^ (e + 1)) : ∃ (i' j' : Nat) (t' : Int) (u5 u6 : SV), exs call signW [.val (nD n), .val (nD i), .val (nD j), .val (.int t), .val (nD (2 ^ e)), s5, s6] g = some (.nx [.val (nD n), .val (nD i'), .val (nD j'), .val (.int t'), .val (nD (2 ^ e / 2)), u5, u6], g) ∧ i' < 2 ^ e ∧ j' < 2 ^ e ∧ t' * sg e i' j' = t * sg (e + 1) i j := by
  have p : 0 < 2 ^ e := Nat.two_pow_pos e
  have a1 : i % 2 ^ e < 2 ^ e := Nat.mod_lt _ p
  have a2 : j % 2 ^ e < 2 ^ e := Nat.mod_lt _ p
  have fin : ∀ {ρ : Env} , ρ[4]? = some (.val (nD (2 ^ e))) → exs call [.asg [] (.var 4) (.bin .fdiv (.bvar 4) (.lit (.int 2)))] ρ g = some (.nx (ρ.set 4 (.val (nD (2 ^ e / 2)))), g) := fun h => exs_one (ex_asg1 (ev_bin2 (ev_bv h) ev_lit div2_nat))
  have hd : ∀ {ss : List S} {r : Option (R × GS)}, exs call ss [.val (nD n), .val (nD (i % 2 ^ e)), .val (nD (j % 2 ^ e)), .val (.int t), .val (nD (2 ^ e)), .val (.bl (decide (2 ^ e ≤ i))), .val (.bl (decide (2 ^ e ≤ j)))] g = r → exs call (.par [] [5, 6] [.cmp .ge (.bvar 1) (.bvar 4), .cmp .ge (.bvar 2) (.bvar 4)] :: .par [] [1, 2] [.bin .mod (.bvar 1) (.bvar 4), .bin .mod (.bvar 2) (.bvar 4)] :: ss) [.val (nD n), .val (nD i), .val (nD j), .val (.int t), .val (nD (2 ^ e)), s5, s6] g = r := fun h => by
    refine (exs_cons (ex_par2s (ev_cmp2 (ev_bv rfl) (ev_bv rfl) ge_nat) (ev_cmp2 (ev_bv rfl) (ev_bv rfl) ge_nat))).trans ?_
    refine (exs_cons (ex_par2s (ev_bin2 (ev_bv rfl) (ev_bv rfl) (mod_nat p)) (ev_bin2 (ev_bv rfl) (ev_bv rfl) (mod_nat p)))).trans ?_
    exact h
  by_cases h1 : 2 ^ e ≤ j
  · by_cases h2 : 2 ^ e ≤ i
    · refine ⟨j % 2 ^ e, i % 2 ^ e, if j % 2 ^ e = 0 then -t else t, .val (.bl (decide (2 ^ e ≤ i))), .val (.bl (decide (2 ^ e ≤ j))), hd ?_, a2, a1, ?_⟩
      · rw [decide_eq_true h1, decide_eq_true h2]
        have et : ev call (.ite (.cmp .eq (.bvar 2) (.lit (.int 0))) (.neg (.bvar 3)) (.var 3)) [.val (nD n), .val (nD (i % 2 ^ e)), .val (nD (j % 2 ^ e)), .val (.int t), .val (nD (2 ^ e)), .val (.bl true), .val (.bl true)] g = some (.int (if j % 2 ^ e = 0 then -t else t), g) := by
          by_cases z : j % 2 ^ e = 0
          · rw [if_pos z]
            exact ev_ite1 (ev_cmp2 (ev_bv rfl) ev_lit (eq_nat (b := 0))) (by rw [decide_eq_true z]; rfl) (ev_neg (ev_bv rfl))
          · rw [if_neg z]
            exact ev_ite0 (ev_cmp2 (ev_bv rfl) ev_lit (eq_nat (b := 0))) (by rw [decide_eq_false z]; rfl) (ev_v rfl)
        refine (exs_cons (ex_if1 (x := .bl true) (ev_and1 (ev_bv rfl) (ev_bv rfl)) rfl ((exs_cons (ex_asg1 et)).trans (exs_one (ex_par2s (ev_v rfl) (ev_v rfl)))))).trans ?_
        exact fin rfl
      · rw [sg, if_pos (⟨h2, h1⟩ : 2 ^ e ≤ i ∧ 2 ^ e ≤ j)]
        by_cases z : j % 2 ^ e = 0
        · rw [if_pos z, if_pos z]; exact sgn1
        · rw [if_neg z, if_neg z]; exact sgn2
    · refine ⟨j % 2 ^ e, i % 2 ^ e, t, .val (.bl (decide (2 ^ e ≤ i))), .val (.bl (decide (2 ^ e ≤ j))), hd ?_, a2, a1, ?_⟩
      · rw [decide_eq_true h1, decide_eq_false h2]
        refine (exs_cons (ex_if2 (x := .bl false) (ev_and0 (ev_bv rfl)) rfl (exs_one (ex_if1 (ev_bv rfl) rfl (exs_one (ex_par2s (ev_v rfl) (ev_v rfl))))))).trans ?_
        exact fin rfl
      · rw [sg, if_neg (fun z => h2 z.1), if_pos h1]
  · by_cases h2 : 2 ^ e ≤ i ∧ 0 < j % 2 ^ e
    · refine ⟨i % 2 ^ e, j % 2 ^ e, -t, .val (.bl (decide (2 ^ e ≤ i))), .val (.bl (decide (2 ^ e ≤ j))), hd ?_, a1, a2, ?_⟩
      · rw [decide_eq_false h1, decide_eq_true h2.1]
        refine (exs_cons (ex_if2 (x := .bl false) (ev_and1 (ev_bv rfl) (ev_bv rfl)) rfl (exs_one (ex_if2 (ev_bv rfl) rfl (exs_one (ex_if1 (x := .bl true) (ev_and1 (ev_bv rfl) (ev_cmp2 (ev_bv rfl) ev_lit (by rw [show D.int 0 = nD 0 from rfl, gt_nat, decide_eq_true h2.2]))) rfl (exs_one (ex_asg1 (ev_neg (ev_bv rfl)))))))))).trans ?_
        exact fin rfl
      · rw [sg, if_neg (fun z => h1 z.2), if_neg h1, if_pos h2]
        exact sgn3
    · refine ⟨i % 2 ^ e, j % 2 ^ e, t, .val (.bl (decide (2 ^ e ≤ i))), .val (.bl (decide (2 ^ e ≤ j))), hd ?_, a1, a2, ?_⟩
      · rw [decide_eq_false h1]
        have ec : ev call (.and (.bvar 5) (.cmp .gt (.bvar 2) (.lit (.int 0)))) [.val (nD n), .val (nD (i % 2 ^ e)), .val (nD (j % 2 ^ e)), .val (.int t), .val (nD (2 ^ e)), .val (.bl (decide (2 ^ e ≤ i))), .val (.bl false)] g = some (.bl false, g) := by
          by_cases z : 2 ^ e ≤ i
          · rw [decide_eq_true z]
            have z2 : ¬ 0 < j % 2 ^ e := fun w => h2 ⟨z, w⟩
            exact ev_and1 (ev_bv rfl) (ev_cmp2 (ev_bv rfl) ev_lit (by rw [show D.int 0 = nD 0 from rfl, gt_nat, decide_eq_false z2]))
          · rw [decide_eq_false z]
            exact ev_and0 (ev_bv rfl)
        have ea : ev call (.and (.bvar 5) (.bvar 6)) [.val (nD n), .val (nD (i % 2 ^ e)), .val (nD (j % 2 ^ e)), .val (.int t), .val (nD (2 ^ e)), .val (.bl (decide (2 ^ e ≤ i))), .val (.bl false)] g = some (.bl false, g) := by
          by_cases z : 2 ^ e ≤ i
          · rw [decide_eq_true z]
            exact ev_and1 (ev_bv rfl) (ev_bv rfl)
          · rw [decide_eq_false z]
            exact ev_and0 (ev_bv rfl)
        refine (exs_cons (ex_if2 ea rfl (exs_one (ex_if2 (ev_bv rfl) rfl (exs_one (ex_if0 ec rfl)))))).trans ?_
        exact fin rfl
      · rw [sg, if_neg (fun z => h1 z.2), if_neg h1, if_neg h2]
theorem sign_loop {n : Nat} : ∀ (e k i j : Nat) (t : Int) (s5 s6 : SV), e ≤ 30 → e < k → i < 2 ^ e → j < 2 ^ e → ∃ u1 u2 u4 u5 u6, whlL (fun ρ g => ev call signT ρ g) (fun ρ g => exs call signW ρ g) k [.val (nD n), .val (nD i), .val (nD j), .val (.int t), .val (nD (2 ^ e / 2)), s5, s6] g = some (.nx [.val (nD n), u1, u2, .val (.int (t * sg e i j)), u4, u5, u6], g) := by
  intro e
  induction e with
  | zero =>
    intro k i j t s5 s6 _ hk _ _
    obtain ⟨k, rfl⟩ : ∃ k', k = k' + 1 := ⟨k - 1, by omega⟩
    refine ⟨.val (nD i), .val (nD j), .val (nD 0), s5, s6, (whl_end (d := .bl false) (ev_cmp2 (ev_bv rfl) ev_lit rfl) rfl).trans ?_⟩
    rw [sg, Int.mul_one]
  | succ e ih =>
    intro k i j t s5 s6 he hk hi hj
    obtain ⟨k, rfl⟩ : ∃ k', k = k' + 1 := ⟨k - 1, by omega⟩
    have h2 : 2 ^ (e + 1) / 2 = 2 ^ e := by rw [Nat.pow_succ]; omega
    rw [h2]
    obtain ⟨i', j', t', u5, u6, e1, hi', hj', ht⟩ := sign_step (call := call) (g := g) (n := n) (t := t) (s5 := s5) (s6 := s6) (by omega) hi hj
    obtain ⟨v1, v2, v4, v5, v6, e2⟩ := ih k i' j' t' u5 u6 (by omega) (by omega) hi' hj'
    rw [ht] at e2
    refine ⟨v1, v2, v4, v5, v6, (whl_step (d := .bl true) (ev_cmp2 (ev_bv rfl) ev_lit ?_) rfl e1).trans e2⟩
    rw [show D.int 0 = nD 0 from rfl, gt_nat, decide_eq_true (Nat.two_pow_pos e)]
theorem sign_run {e i j : Nat} (he : e ≤ 30) (hi : i < 2 ^ e) (hj : j < 2 ^ e) : runD call 3 7 signB [nD (2 ^ e), nD i, nD j] g = some (.int (sg e i j), g) := by
  obtain ⟨u1, u2, u4, u5, u6, e1⟩ := sign_loop (call := call) (g := g) (n := 2 ^ e) e FUEL i j 1 .no .no he (Nat.lt_of_le_of_lt he (by decide +kernel)) hi hj
  refine run_ret rfl ?_
  refine (exs_cons (ex_asg1 ev_lit)).trans ?_
  refine (exs_cons (ex_asg1 (ev_bin2 (ev_bv rfl) ev_lit div2_nat))).trans ?_
  refine (exs_cons (ex_whl.trans e1)).trans ?_
  rw [Int.one_mul]
  exact exs_ret (ex_ret1 (ev_v rfl))
end
end Tv

/-! PureF: products of doubled rings, walked. -/
namespace Tv
open PySem PyProof.Rows
theorem for_rng0 {b : D → Env → GS → Option (R × GS)} {v : Nat → D} {g : GS} {I : Nat → Env → Prop} {n : Nat} (h : ∀ i, i < n → ∀ ρ, I i ρ → ∃ ρ', b (v i) ρ g = some (.nx ρ', g) ∧ I (i + 1) ρ') : ∀ (m lo : Nat), lo + m = n → ∀ ρ, I lo ρ → ∃ ρ', forL b ((List.range' lo m).map v) ρ g = some (.nx ρ', g) ∧ I n ρ'
  | 0, lo, e, ρ, hI => ⟨ρ, rfl, by rw [← e]; exact hI⟩
  | m + 1, lo, e, ρ, hI => by
    obtain ⟨ρ1, e1, h1⟩ := h lo (by omega) ρ hI
    obtain ⟨ρ2, e2, h2⟩ := for_rng0 h m (lo + 1) (by omega) ρ1 h1
    exact ⟨ρ2, (for_step e1).trans e2, h2⟩
theorem for_rngI {b : D → Env → GS → Option (R × GS)} {v : Nat → D} {g : GS} {I : Nat → Env → Prop} {n : Nat} {ρ : Env} (h0 : I 0 ρ) (h : ∀ i, i < n → ∀ ρ, I i ρ → ∃ ρ', b (v i) ρ g = some (.nx ρ', g) ∧ I (i + 1) ρ') : ∃ ρ', forL b ((List.range n).map v) ρ g = some (.nx ρ', g) ∧ I n ρ' := by
  rw [List.range_eq_range']
  exact for_rng0 h n 0 (by omega) ρ h0
theorem enum_vL {x : Vc} : ∀ (m lo : Nat), enumD (lo : Int) ((List.range' lo m).map fun i => .int (x i)) = (List.range' lo m).map fun i => .tup [nD i, .int (x i)]
  | 0, _ => rfl
  | m + 1, lo => by
    rw [List.range'_succ, List.map_cons, enumD, List.map_cons]
    rw [show ((lo : Int) + 1) = ((lo + 1 : Nat) : Int) by omega, enum_vL m (lo + 1)]
theorem enum_vT {n : Nat} {x : Vc} : biD .enum [vT n x] = some (.lst ((List.range n).map fun i => .tup [nD i, .int (x i)])) := by
  show some (D.lst (enumD 0 (vL n x))) = _
  unfold vL
  rw [List.range_eq_range']
  exact congrArg (fun z => some (D.lst z)) (enum_vL n 0)
theorem xor_int : ∀ i, i < 64 → ∀ j, j < 64 → Builtin.bitXor (i : Nat) (j : Nat) = ((i ^^^ j : Nat) : Int) := by decide +kernel
theorem xor_D {i j : Nat} (hi : i < 64) (hj : j < 64) : binD .bxor (nD i) (nD j) = some (nD (i ^^^ j)) := by
  show some (D.int (Builtin.bitXor (i : Nat) (j : Nat))) = _
  rw [xor_int i hi j hj]
section
variable {call : Calls} {g : GS} {ρ : Env}
theorem ex_forE {tg : G} {it : C} {b : List S} {g1 : GS} {s : D} {xs : List D} (h : ev call it ρ g = some (s, g1)) (hx : items s = some xs) : ex call (.for [] tg it b) ρ g = forL (fun x ρ g => match asg tg x ρ with | some ρ' => exs call b ρ' g | none => none) xs ρ g1 := by
  simp only [ex, freeze, h, bnd, hx] <;> rfl
theorem ex_ownE {i : Nat} {c : C} {xs : List D} {g1 : GS} (h : ev call c ρ g = some (.lst xs, g1)) : ex call (.own [] i c) ρ g = some (.nx (ρ.set i (.own xs)), g1) := by
  simp only [ex, freeze, h, bnd]
theorem ex_asgT {tg : G} {c : C} {d : D} {ρ' : Env} {g1 : GS} (h : ev call c ρ g = some (d, g1)) (ha : asg tg d ρ = some ρ') : ex call (.asg [] tg c) ρ g = some (.nx ρ', g1) := by
  simp only [ex, freeze, h, bnd, keepF, ha]
theorem ex_augE {i k : Nat} {ix c : C} {xs : List D} {a b : Int} (h1 : ev call ix ρ g = some (nD k, g)) (hi : ρ[i]? = some (.own xs)) (h2 : k < xs.length) (h3 : xs[k]? = some (.int a)) (h4 : ev call c ρ g = some (.int b, g)) : ex call (.augx i ix .add c) ρ g = some (.nx (ρ.set i (.own (xs.set k (.int (a + b))))), g) := by
  have h2' : L2.ixN xs.length (k : Int) = some k := by
    unfold L2.ixN
    rw [if_pos (by omega), if_pos (by omega), Int.toNat_natCast]
  simp only [ex, h1, bnd, hi, h2', h3, h4, binD, addD]
def tmI (f : Nat) : List S := [.ifs (.cmp .ne (.bvar 7) (.lit (.int 0))) [.augx 3 (.bin .bxor (.bvar 4) (.bvar 6)) .add (.bin .mul (.bin .mul (.call f [.var 2, .var 4, .var 6]) (.bvar 5)) (.bvar 7))] []]
def tmO (f : Nat) : List S := [.ifs (.cmp .ne (.bvar 5) (.lit (.int 0))) [.for [] (.tup [.var 6, .var 7]) (.bi .enum [.var 1]) (tmI f)] []]
def timesB (f : Nat) : List S := [.asg [] (.var 2) (.bi .len [.bvar 0]), .own [] 3 (.bin .mul (.lst [.lit (.int 0)]) (.bvar 2)), .for [] (.tup [.var 4, .var 5]) (.bi .enum [.var 0]) (tmO f), .ret [] (.bi .tuple [.bvar 3])]
theorem ne_int0 {a : Int} : cmpD .ne (.int a) (.int 0) = some (.bl (!decide (a = 0))) := by
  have h : cmpD .ne (.int a) (.int 0) = some (.bl (!(a == 0))) := by
    simp [cmpD, eqOk, okD, eqD]
  rw [h]
  by_cases z : a = 0 <;> simp [z]
theorem tm_inner {f e i : Nat} {x y F : Vc} {s6 s7 : SV} (he : e ≤ 5) (hi : i < 2 ^ e) (hx : sV (2 ^ e) x) (hy : sV (2 ^ e) y) (hc : ∀ i j, i < 2 ^ e → j < 2 ^ e → call f [nD (2 ^ e), nD i, nD j] g = some (.int (sg e i j), g)) : ∃ u6 u7, forL (fun z ρ g => match asg (.tup [.var 6, .var 7]) z ρ with | some ρ' => exs call (tmI f) ρ' g | none => none) ((List.range (2 ^ e)).map fun j => .tup [nD j, .int (y j)]) [.val (vT (2 ^ e) x), .val (vT (2 ^ e) y), .val (nD (2 ^ e)), .own (vL (2 ^ e) F), .val (nD i), .val (.int (x i)), s6, s7] g = some (.nx [.val (vT (2 ^ e) x), .val (vT (2 ^ e) y), .val (nD (2 ^ e)), .own (vL (2 ^ e) fun k => F k + sumN (2 ^ e) (fun j => tM e x y k i j)), .val (nD i), .val (.int (x i)), u6, u7], g) := by
  have hn : 2 ^ e ≤ 32 := Nat.le_trans (Nat.pow_le_pow_right (by decide) he) (by decide)
  obtain ⟨ρ', e1, u6, u7, rfl⟩ := for_rngI (n := 2 ^ e) (g := g) (b := fun z ρ g => match asg (.tup [.var 6, .var 7]) z ρ with | some ρ' => exs call (tmI f) ρ' g | none => none) (v := fun j => .tup [nD j, .int (y j)]) (I := fun j ρ => ∃ u6 u7, ρ = [.val (vT (2 ^ e) x), .val (vT (2 ^ e) y), .val (nD (2 ^ e)), .own (vL (2 ^ e) fun k => F k + sumN j (fun j => tM e x y k i j)), .val (nD i), .val (.int (x i)), u6, u7]) (ρ := [.val (vT (2 ^ e) x), .val (vT (2 ^ e) y), .val (nD (2 ^ e)), .own (vL (2 ^ e) F), .val (nD i), .val (.int (x i)), s6, s7]) ⟨s6, s7, by rw [vL_congr (n := 2 ^ e) (f := fun k => F k + sumN 0 (fun j => tM e x y k i j)) (h := F) fun k _ => by simp [sumN]]⟩ (by
    rintro j hj _ ⟨u6, u7, rfl⟩
    refine ⟨[.val (vT (2 ^ e) x), .val (vT (2 ^ e) y), .val (nD (2 ^ e)), .own (vL (2 ^ e) fun k => F k + sumN (j + 1) (fun j => tM e x y k i j)), .val (nD i), .val (.int (x i)), .val (nD j), .val (.int (y j))], ?_, _, _, rfl⟩
    show exs call (tmI f) [.val (vT (2 ^ e) x), .val (vT (2 ^ e) y), .val (nD (2 ^ e)), .own (vL (2 ^ e) fun k => F k + sumN j (fun j => tM e x y k i j)), .val (nD i), .val (.int (x i)), .val (nD j), .val (.int (y j))] g = _
    by_cases hz : y j = 0
    · have : (vL (2 ^ e) fun k => F k + sumN (j + 1) (fun j => tM e x y k i j)) = vL (2 ^ e) fun k => F k + sumN j (fun j => tM e x y k i j) := vL_congr fun k _ => by
        rw [sumN]
        have : tM e x y k i j = 0 := by
          unfold tM
          rw [hz, Int.mul_zero]
          split <;> rfl
        rw [this]
        omega
      rw [this]
      exact exs_one (ex_if0 (ev_cmp2 (ev_bv rfl) ev_lit ne_int0) (by rw [decide_eq_true hz]; rfl))
    · have hk : i ^^^ j < 2 ^ e := xor_ll hi hj
      have hs := ex_augE (call := call) (g := g) (ρ := [.val (vT (2 ^ e) x), .val (vT (2 ^ e) y), .val (nD (2 ^ e)), .own (vL (2 ^ e) fun k => F k + sumN j (fun j => tM e x y k i j)), .val (nD i), .val (.int (x i)), .val (nD j), .val (.int (y j))]) (i := 3) (k := i ^^^ j) (ix := .bin .bxor (.bvar 4) (.bvar 6)) (c := .bin .mul (.bin .mul (.call f [.var 2, .var 4, .var 6]) (.bvar 5)) (.bvar 7)) (b := sg e i j * x i * y j) (ev_bin2 (ev_bv rfl) (ev_bv rfl) (xor_D (by omega) (by omega))) rfl (by rw [vL_len]; exact hk) (vL_get hk) (ev_bin2 (ev_bin2 (ev_c3 (ev_v rfl) (ev_v rfl) (ev_v rfl) (hc i j hi hj)) (ev_bv rfl) (mul_r (hx i hi))) (ev_bv rfl) (mul_r (hy j hj)))
      refine (exs_one (ex_if1 (ev_cmp2 (ev_bv rfl) ev_lit ne_int0) (by rw [decide_eq_false hz]; rfl) (exs_one hs))).trans ?_
      rw [vL_set hk]
      have : (vL (2 ^ e) fun k => F k + sumN (j + 1) (fun j => tM e x y k i j)) = vL (2 ^ e) fun m => if m = i ^^^ j then F (i ^^^ j) + sumN j (fun j_1 => tM e x y (i ^^^ j) i j_1) + sg e i j * x i * y j else F m + sumN j fun j_1 => tM e x y m i j_1 := vL_congr fun k _ => by
        rw [sumN]
        by_cases w : k = i ^^^ j
        · subst w
          rw [if_pos rfl]
          have : tM e x y (i ^^^ j) i j = sg e i j * x i * y j := by unfold tM; rw [if_pos rfl]
          rw [this]
          omega
        · rw [if_neg w]
          have : tM e x y k i j = 0 := by unfold tM; rw [if_neg (fun z => w z.symm)]
          rw [this]
          omega
      rw [this]
      rfl)
  exact ⟨u6, u7, e1⟩
theorem zeros_ev {n : Nat} (hn : n ≤ 1000) : binD .mul (.lst [.int 0]) (nD n) = some (.lst (vL n fun _ => 0)) := by
  simp only [binD, mulD, Int.toNat_natCast]
  have h1 : (List.replicate n [D.int 0]).flatten = vL n fun _ => 0 := by
    unfold vL
    have : ∀ m, (List.replicate m [D.int 0]).flatten = (List.range m).map fun _ => D.int 0 := by
      intro m
      induction m with
      | zero => rfl
      | succ m ih => rw [List.replicate_succ', List.flatten_append, ih, List.range_succ, List.map_append]; rfl
    exact this n
  rw [if_pos ⟨by omega, by omega, by simp; unfold sizeLine; omega⟩, h1]
theorem times_run {f e : Nat} {x y : Vc} (he : e ≤ 5) (hx : sV (2 ^ e) x) (hy : sV (2 ^ e) y) (hc : ∀ i j, i < 2 ^ e → j < 2 ^ e → call f [nD (2 ^ e), nD i, nD j] g = some (.int (sg e i j), g)) : runD call 2 8 (timesB f) [vT (2 ^ e) x, vT (2 ^ e) y] g = some (vT (2 ^ e) (cd e x y), g) := by
  have hn : 2 ^ e ≤ 32 := Nat.le_trans (Nat.pow_le_pow_right (by decide) he) (by decide)
  refine run_ret rfl ?_
  refine (exs_cons (ex_asg1 (ev_b1 (ev_bv rfl) len_vT))).trans ?_
  refine (exs_cons (ex_ownE (ev_bin2 (ev_lst (evs_cons ev_lit evs_nil)) (ev_bv rfl) (zeros_ev (by omega))))).trans ?_
  obtain ⟨ρ', e1, u4, u5, u6, u7, rfl⟩ := for_rngI (n := 2 ^ e) (g := g) (b := fun z ρ g => match asg (.tup [.var 4, .var 5]) z ρ with | some ρ' => exs call (tmO f) ρ' g | none => none) (v := fun j => .tup [nD j, .int (x j)]) (I := fun i ρ => ∃ u4 u5 u6 u7, ρ = [.val (vT (2 ^ e) x), .val (vT (2 ^ e) y), .val (nD (2 ^ e)), .own (vL (2 ^ e) fun k => sumN i (fun i => sumN (2 ^ e) fun j => tM e x y k i j)), u4, u5, u6, u7]) (ρ := [.val (vT (2 ^ e) x), .val (vT (2 ^ e) y), .val (nD (2 ^ e)), .own (vL (2 ^ e) fun _ => 0), .no, .no, .no, .no]) ⟨.no, .no, .no, .no, rfl⟩ (by
    rintro i hi _ ⟨u4, u5, u6, u7, rfl⟩
    show ∃ ρ', exs call (tmO f) [.val (vT (2 ^ e) x), .val (vT (2 ^ e) y), .val (nD (2 ^ e)), .own (vL (2 ^ e) fun k => sumN i (fun i => sumN (2 ^ e) fun j => tM e x y k i j)), .val (nD i), .val (.int (x i)), u6, u7] g = _ ∧ _
    by_cases hz : x i = 0
    · have : (vL (2 ^ e) fun k => sumN (i + 1) (fun i => sumN (2 ^ e) fun j => tM e x y k i j)) = vL (2 ^ e) fun k => sumN i (fun i => sumN (2 ^ e) fun j => tM e x y k i j) := vL_congr fun k _ => by
        rw [sumN]
        have : (sumN (2 ^ e) fun j => tM e x y k i j) = 0 := sumN_zero fun j _ => by
          unfold tM
          rw [hz, Int.mul_zero, Int.zero_mul]
          split <;> rfl
        rw [this]
        omega
      rw [this]
      exact ⟨_, exs_one (ex_if0 (ev_cmp2 (ev_bv rfl) ev_lit ne_int0) (by rw [decide_eq_true hz]; rfl)), _, _, _, _, rfl⟩
    · obtain ⟨v6, v7, e2⟩ := tm_inner (call := call) (g := g) (f := f) (e := e) (i := i) (x := x) (y := y) (F := fun k => sumN i (fun i => sumN (2 ^ e) fun j => tM e x y k i j)) (s6 := u6) (s7 := u7) he hi hx hy hc
      exact ⟨_, exs_one (ex_if1 (ev_cmp2 (ev_bv rfl) ev_lit ne_int0) (by rw [decide_eq_false hz]; rfl) (exs_one ((ex_forE (ev_b1 (ev_v rfl) enum_vT) rfl).trans e2))), _, _, _, _, rfl⟩)
  refine (exs_cons ((ex_forE (ev_b1 (ev_v rfl) enum_vT) rfl).trans e1)).trans ?_
  have : vL (2 ^ e) (cd e x y) = vL (2 ^ e) fun k => sumN (2 ^ e) (fun i => sumN (2 ^ e) fun j => tM e x y k i j) := vL_congr fun k hk => (TT_cd e x y k hk).symm
  unfold vT
  rw [this]
  exact exs_ret (ex_ret1 (ev_b1 (ev_bo rfl) rfl))
/-! units -/
def unitB : List S := [.ret [] (.bi .tuple [.comp [2] (.var 2) (.bi .range1 [.bvar 0]) (.lit (.bl true)) (.ite (.cmp .eq (.bvar 2) (.bvar 1)) (.lit (.int 1)) (.lit (.int 0)))])]
def lunitB : List S := [.ret [] (.bi .tuple [.comp [2] (.var 2) (.bi .range1 [.bvar 0]) (.lit (.bl true)) (.bi .int [.cmp .eq (.bvar 2) (.bvar 1)])])]
theorem unit_run {n i : Nat} (hn : n ≤ 1000) : runD call 2 3 unitB [nD n, nD i] g = some (vT n (un1 i), g) := by
  refine run_ret rfl (exs_ret (ex_ret1 ?_))
  refine ev_b1 (ev_vcomp (n := n) (v := nD) (f := un1 i) (ev_b1 (ev_bv rfl) (range1_ev (by omega))) (by rw [range_natE]; rfl) (by simp [startE]) (by omega) fun k hk ρ' hρ h => ?_) rfl
  have h1 : ρ'[1]? = some (.val (nD i)) := by rw [hρ]; rfl
  have ec := ev_cmp2 (call := call) (ev_bv (g := g) (call := call) h) (ev_bv (call := call) h1) (eq_nat (a := k) (b := i))
  unfold un1
  by_cases z : k = i
  · rw [if_pos z]
    exact ev_ite1 ec (by rw [decide_eq_true z]; rfl) ev_lit
  · rw [if_neg z]
    exact ev_ite0 ec (by rw [decide_eq_false z]; rfl) ev_lit
theorem lunit_run {n i : Nat} (hn : n ≤ 1000) : runD call 2 3 lunitB [nD n, nD i] g = some (vT n (un1 i), g) := by
  refine run_ret rfl (exs_ret (ex_ret1 ?_))
  refine ev_b1 (ev_vcomp (n := n) (v := nD) (f := un1 i) (ev_b1 (ev_bv rfl) (range1_ev (by omega))) (by rw [range_natE]; rfl) (by simp [startE]) (by omega) fun k hk ρ' hρ h => ?_) rfl
  have h1 : ρ'[1]? = some (.val (nD i)) := by rw [hρ]; rfl
  have ec := ev_cmp2 (call := call) (ev_bv (g := g) (call := call) h) (ev_bv (call := call) h1) (eq_nat (a := k) (b := i))
  unfold un1
  by_cases z : k = i
  · rw [if_pos z]
    rw [decide_eq_true z] at ec
    exact ev_b1 ec rfl
  · rw [if_neg z]
    rw [decide_eq_false z] at ec
    exact ev_b1 ec rfl
end
/-! the law's own sign -/
def lsignB (f : Nat) : List S := [.ifs (.cmp .eq (.bvar 0) (.lit (.int 1))) [.ret [] (.lit (.int 1))] [], .asg [] (.var 3) (.bin .fdiv (.bvar 0) (.lit (.int 2))), .ifs (.and (.cmp .lt (.bvar 1) (.bvar 3)) (.cmp .lt (.bvar 2) (.bvar 3))) [.ret [] (.call f [.var 3, .var 1, .var 2])] [], .ifs (.cmp .lt (.bvar 1) (.bvar 3)) [.ret [] (.call f [.var 3, .bin .sub (.bvar 2) (.bvar 3), .var 1])] [], .ifs (.cmp .lt (.bvar 2) (.bvar 3)) [.ret [] (.bin .mul (.call f [.var 3, .bin .sub (.bvar 1) (.bvar 3), .var 2]) (.ite (.cmp .eq (.bvar 2) (.lit (.int 0))) (.lit (.int 1)) (.neg (.lit (.int 1)))))] [], .ret [] (.bin .mul (.neg (.call f [.var 3, .bin .sub (.bvar 2) (.bvar 3), .bin .sub (.bvar 1) (.bvar 3)])) (.ite (.cmp .eq (.bvar 2) (.bvar 3)) (.lit (.int 1)) (.neg (.lit (.int 1)))))]
theorem ltE {a b : Nat} : cmpD .lt (nD a) (nD b) = some (.bl (decide (a < b))) := lt_nat
theorem lsign_run {tbl : List Df} {f : Nat} (hc : ∀ n args g, callN tbl (n + 1) f args g = runD (callN tbl n) 3 4 (lsignB f) args g) : ∀ (e m i j : Nat) (g : GS), i < 2 ^ e → j < 2 ^ e → callN tbl (m + e + 1) f [nD (2 ^ e), nD i, nD j] g = some (.int (sg e i j), g) := by
  intro e
  induction e with
  | zero =>
    intro m i j g hi hj
    rw [hc]
    exact run_ret rfl (exs_ret (ex_if1 (x := .bl true) (ev_cmp2 (ev_bv rfl) ev_lit (by rfl)) rfl (exs_ret (ex_ret1 ev_lit))))
  | succ e ih =>
    intro m i j g hi hj
    have p : 0 < 2 ^ e := Nat.two_pow_pos e
    have h2 : 2 ^ (e + 1) = 2 ^ e + 2 ^ e := by rw [Nat.pow_succ]; omega
    rw [show m + (e + 1) + 1 = (m + e + 1) + 1 from rfl, hc]
    refine run_ret rfl ?_
    have eh : binD .fdiv (nD (2 ^ (e + 1))) (.int 2) = some (nD (2 ^ e)) := by
      rw [div2_nat, show 2 ^ (e + 1) / 2 = 2 ^ e by omega]
    refine (exs_cons (ex_if0 (ev_cmp2 (ev_bv rfl) ev_lit (eq_nat (b := 1))) (by rw [decide_eq_false (by omega)]; rfl))).trans ?_
    refine (exs_cons (ex_asg1 (ev_bin2 (ev_bv rfl) ev_lit eh))).trans ?_
    have c1 : ev (callN tbl (m + e + 1)) (.cmp .lt (.bvar 1) (.bvar 3)) [.val (nD (2 ^ (e + 1))), .val (nD i), .val (nD j), .val (nD (2 ^ e))] g = some (.bl (decide (i < 2 ^ e)), g) := ev_cmp2 (ev_bv rfl) (ev_bv rfl) ltE
    have c2 : ev (callN tbl (m + e + 1)) (.cmp .lt (.bvar 2) (.bvar 3)) [.val (nD (2 ^ (e + 1))), .val (nD i), .val (nD j), .val (nD (2 ^ e))] g = some (.bl (decide (j < 2 ^ e)), g) := ev_cmp2 (ev_bv rfl) (ev_bv rfl) ltE
    by_cases hi2 : i < 2 ^ e
    · rw [decide_eq_true hi2] at c1
      by_cases hj2 : j < 2 ^ e
      · rw [decide_eq_true hj2] at c2
        rw [sg_ll hi2 hj2]
        exact exs_ret (ex_if1 (x := .bl true) (ev_and1 c1 c2) rfl (exs_ret (ex_ret1 (ev_c3 (ev_v rfl) (ev_v rfl) (ev_v rfl) (ih m i j g hi2 hj2)))))
      · rw [decide_eq_false hj2] at c2
        obtain ⟨j', rfl⟩ : ∃ j', j = 2 ^ e + j' := ⟨j - 2 ^ e, by omega⟩
        have hj3 : j' < 2 ^ e := by omega
        rw [sg_lh hi2 hj3]
        refine (exs_cons (ex_if0 (x := .bl false) (ev_and1 c1 c2) rfl)).trans ?_
        exact exs_ret (ex_if1 c1 rfl (exs_ret (ex_ret1 (ev_c3 (ev_v rfl) (ev_bin2 (ev_bv rfl) (ev_bv rfl) (z := nD j') (by rw [sub_nat (by omega)]; congr 2; omega)) (ev_v rfl) (ih m j' i g hj3 hi2)))))
    · rw [decide_eq_false hi2] at c1
      obtain ⟨i', rfl⟩ : ∃ i', i = 2 ^ e + i' := ⟨i - 2 ^ e, by omega⟩
      have hi3 : i' < 2 ^ e := by omega
      refine (exs_cons (ex_if0 (ev_and0 c1) rfl)).trans ?_
      refine (exs_cons (ex_if0 c1 rfl)).trans ?_
      by_cases hj2 : j < 2 ^ e
      · rw [decide_eq_true hj2] at c2
        rw [sg_hl hi3 hj2]
        have ei : ev (callN tbl (m + e + 1)) (.ite (.cmp .eq (.bvar 2) (.lit (.int 0))) (.lit (.int 1)) (.neg (.lit (.int 1)))) [.val (nD (2 ^ (e + 1))), .val (nD (2 ^ e + i')), .val (nD j), .val (nD (2 ^ e))] g = some (.int (if j = 0 then 1 else -1), g) := by
          by_cases z : j = 0
          · rw [if_pos z]
            exact ev_ite1 (ev_cmp2 (ev_bv rfl) ev_lit (eq_nat (b := 0))) (by rw [decide_eq_true z]; rfl) ev_lit
          · rw [if_neg z]
            exact ev_ite0 (ev_cmp2 (ev_bv rfl) ev_lit (eq_nat (b := 0))) (by rw [decide_eq_false z]; rfl) (ev_neg ev_lit)
        rw [Int.mul_comm]
        exact exs_ret (ex_if1 c2 rfl (exs_ret (ex_ret1 (ev_bin2 (ev_c3 (ev_v rfl) (ev_bin2 (ev_bv rfl) (ev_bv rfl) (z := nD i') (by rw [sub_nat (by omega)]; congr 2; omega)) (ev_v rfl) (ih m i' j g hi3 hj2)) ei (mul_r (by split <;> decide))))))
      · rw [decide_eq_false hj2] at c2
        obtain ⟨j', rfl⟩ : ∃ j', j = 2 ^ e + j' := ⟨j - 2 ^ e, by omega⟩
        have hj3 : j' < 2 ^ e := by omega
        rw [sg_hh hi3 hj3]
        refine (exs_cons (ex_if0 c2 rfl)).trans ?_
        have ei : ev (callN tbl (m + e + 1)) (.ite (.cmp .eq (.bvar 2) (.bvar 3)) (.lit (.int 1)) (.neg (.lit (.int 1)))) [.val (nD (2 ^ (e + 1))), .val (nD (2 ^ e + i')), .val (nD (2 ^ e + j')), .val (nD (2 ^ e))] g = some (.int (if j' = 0 then 1 else -1), g) := by
          by_cases z : j' = 0
          · rw [if_pos z]
            exact ev_ite1 (ev_cmp2 (ev_bv rfl) (ev_bv rfl) eq_nat) (by rw [decide_eq_true (by omega)]; rfl) ev_lit
          · rw [if_neg z]
            exact ev_ite0 (ev_cmp2 (ev_bv rfl) (ev_bv rfl) eq_nat) (by rw [decide_eq_false (by omega)]; rfl) (ev_neg ev_lit)
        have er : (if j' = 0 then (-1 : Int) else 1) * sg e j' i' = -sg e j' i' * (if j' = 0 then 1 else -1) := by
          split <;> grind
        rw [er]
        exact exs_ret (ex_ret1 (ev_bin2 (ev_neg (ev_c3 (ev_v rfl) (ev_bin2 (ev_bv rfl) (ev_bv rfl) (z := nD j') (by rw [sub_nat (by omega)]; congr 2; omega)) (ev_bin2 (ev_bv rfl) (ev_bv rfl) (z := nD i') (by rw [sub_nat (by omega)]; congr 2; omega)) (ih m j' i' g hj3 hi3))) ei (mul_r (by split <;> decide))))
/-! the law's own product -/
def halvesB (fh fl fs ft : Nat) : List S := [.asg [] (.var 2) (.bi .len [.bvar 0]), .ifs (.cmp .eq (.bvar 2) (.lit (.int 1))) [.ret [] (.tup [.bin .mul (.idx (.bvar 0) (.lit (.int 0))) (.idx (.bvar 1) (.lit (.int 0)))])] [], .asg [] (.tup [.var 3, .var 4, .var 5, .var 6]) (.tup [.cut (.bvar 0) (.nop) (.bin .fdiv (.bvar 2) (.lit (.int 2))), .cut (.bvar 0) (.bin .fdiv (.bvar 2) (.lit (.int 2))) (.nop), .cut (.bvar 1) (.nop) (.bin .fdiv (.bvar 2) (.lit (.int 2))), .cut (.bvar 1) (.bin .fdiv (.bvar 2) (.lit (.int 2))) (.nop)]), .asg [] (.var 7) (.call fl [.call fh [.var 3, .var 5], .call fh [.call ft [.var 6], .var 4]]), .ret [] (.bin .add (.bvar 7) (.call fs [.call fh [.var 6, .var 3], .call fh [.var 4, .call ft [.var 5]]]))]
theorem sV_conj {n : Nat} {x : Vc} (h : sV n x) : sV n (conj x) := fun i hi => by
  have := h i hi
  unfold conj
  split
  · subst i; exact this
  · omega
theorem sV_hi {e : Nat} {x : Vc} (h : sV (2 ^ (e + 1)) x) : sV (2 ^ e) (hi (2 ^ e) x) := fun i hi => by
  have h2 : 2 ^ (e + 1) = 2 ^ e + 2 ^ e := by rw [Nat.pow_succ]; omega
  exact h (i + 2 ^ e) (by omega)
theorem sV_lo {e : Nat} {x : Vc} (h : sV (2 ^ (e + 1)) x) : sV (2 ^ e) x := fun i hi => by
  have h2 : 2 ^ (e + 1) = 2 ^ e + 2 ^ e := by rw [Nat.pow_succ]; omega
  exact h i (by omega)
theorem halves_run {tbl : List Df} {fh fl fs ft : Nat} (hh : ∀ n args g, callN tbl (n + 1) fh args g = runD (callN tbl n) 2 8 (halvesB fh fl fs ft) args g) (hl : ∀ n args g, callN tbl (n + 1) fl args g = runD (callN tbl n) 2 4 (zipB .sub) args g) (hs : ∀ n args g, callN tbl (n + 1) fs args g = runD (callN tbl n) 2 4 (zipB .add) args g) (ht : ∀ n args g, callN tbl (n + 1) ft args g = runD (callN tbl n) 1 2 turnB args g) : ∀ (e m : Nat) (x y : Vc) (g : GS), e ≤ 6 → sV (2 ^ e) x → sV (2 ^ e) y → callN tbl (m + e + 2) fh [vT (2 ^ e) x, vT (2 ^ e) y] g = some (vT (2 ^ e) (cd e x y), g) := by
  intro e
  induction e with
  | zero =>
    intro m x y g _ hx hy
    rw [hh]
    refine run_ret rfl ?_
    refine (exs_cons (ex_asg1 (ev_b1 (ev_bv rfl) len_vT))).trans ?_
    exact exs_ret (ex_if1 (x := .bl true) (ev_cmp2 (ev_bv rfl) ev_lit (by rfl)) rfl (exs_ret (ex_ret1 (ev_tup (evs_cons (ev_bin2 (ev_idx2 (ev_bv rfl) ev_lit (idx_vT (i := 0) (by decide))) (ev_idx2 (ev_bv rfl) ev_lit (idx_vT (i := 0) (by decide))) (mul_l (hx 0 (by decide)))) evs_nil)))))
  | succ e ih =>
    intro m x y g he hx hy
    have p : 0 < 2 ^ e := Nat.two_pow_pos e
    have h2 : 2 ^ (e + 1) = 2 ^ e + 2 ^ e := by rw [Nat.pow_succ]; omega
    have hn : 2 ^ e ≤ 64 := Nat.le_trans (Nat.pow_le_pow_right (by decide) (show e ≤ 6 by omega)) (by decide)
    have eh : binD .fdiv (nD (2 ^ (e + 1))) (.int 2) = some (nD (2 ^ e)) := by
      rw [div2_nat, show 2 ^ (e + 1) / 2 = 2 ^ e by omega]
    have hd : 2 ^ (e + 1) - 2 ^ e = 2 ^ e := by omega
    have xl := sV_lo hx
    have xh := sV_hi hx
    have yl := sV_lo hy
    have yh := sV_hi hy
    have q1 := ih m x y g (by omega) xl yl
    have q2 := ih m (conj (hi (2 ^ e) y)) (hi (2 ^ e) x) g (by omega) (sV_conj yh) xh
    have q3 := ih m (hi (2 ^ e) y) x g (by omega) yh xl
    have q4 := ih m (hi (2 ^ e) x) (conj y) g (by omega) xh (sV_conj yl)
    have tt : ∀ z : Vc, callN tbl (m + e + 2) ft [vT (2 ^ e) z] g = some (vT (2 ^ e) (conj z), g) := fun z => (ht (m + e + 1) _ g).trans (turn_run p (by omega))
    have tl : ∀ z w : Vc, callN tbl (m + e + 2) fl [vT (2 ^ e) z, vT (2 ^ e) w] g = some (vT (2 ^ e) (mi z w), g) := fun z w => (hl (m + e + 1) _ g).trans (less_run (by omega))
    have ts : ∀ z w : Vc, callN tbl (m + e + 2) fs [vT (2 ^ e) z, vT (2 ^ e) w] g = some (vT (2 ^ e) (pl z w), g) := fun z w => (hs (m + e + 1) _ g).trans (sum_run (by omega))
    have cH : ∀ {x : Vc}, cutD (vT (2 ^ (e + 1)) x) none (some ((2 ^ e : Nat) : Int)) = some (vT (2 ^ e) x) := cutH_vT (by omega)
    have cL : ∀ {x : Vc}, cutD (vT (2 ^ (e + 1)) x) (some ((2 ^ e : Nat) : Int)) none = some (vT (2 ^ e) (hi (2 ^ e) x)) := fun {x} => by
      have := cutL_vT (n := 2 ^ (e + 1)) (h := 2 ^ e) (f := x) (by omega)
      rw [hd] at this
      exact this
    rw [show m + (e + 1) + 2 = (m + e + 2) + 1 from rfl, hh]
    refine run_ret rfl ?_
    refine (exs_cons (ex_asg1 (ev_b1 (ev_bv rfl) len_vT))).trans ?_
    refine (exs_cons (ex_if0 (ev_cmp2 (ev_bv rfl) ev_lit (eq_nat (b := 1))) (by rw [decide_eq_false (by omega)]; rfl))).trans ?_
    refine (exs_cons (ex_asgT (ev_tup (evs_cons (ev_cutH rfl (ev_bv rfl) (ev_bin2 (ev_bv rfl) ev_lit eh) cH) (evs_cons (ev_cutL rfl (ev_bv rfl) (ev_bin2 (ev_bv rfl) ev_lit eh) cL) (evs_cons (ev_cutH rfl (ev_bv rfl) (ev_bin2 (ev_bv rfl) ev_lit eh) cH) (evs_cons (ev_cutL rfl (ev_bv rfl) (ev_bin2 (ev_bv rfl) ev_lit eh) cL) evs_nil))))) rfl)).trans ?_
    refine (exs_cons (ex_asg1 (ev_c2 (ev_c2 (ev_v rfl) (ev_v rfl) q1) (ev_c2 (ev_c1 (ev_v rfl) (tt _)) (ev_v rfl) q2) (tl _ _)))).trans ?_
    have ea := add_vT (h := 2 ^ e) (k := 2 ^ e) (a := mi (cd e x y) (cd e (conj (hi (2 ^ e) y)) (hi (2 ^ e) x))) (b := pl (cd e (hi (2 ^ e) y) x) (cd e (hi (2 ^ e) x) (conj y))) (by omega)
    rw [← h2] at ea
    exact exs_ret (ex_ret1 (ev_bin2 (ev_bv rfl) (ev_c2 (ev_c2 (ev_v rfl) (ev_v rfl) q3) (ev_c2 (ev_v rfl) (ev_c1 (ev_v rfl) (tt _)) q4) (ts _ _)) ea))
/-! the law's own equality -/
def leqB (f : Nat) : List S := [.ifs (.or (.bi (.isin [5]) [.bvar 1]) (.bi (.isin [4]) [.bvar 1])) [.ifs (.or (.cmp .ne (.bi (.isin [5]) [.bvar 0]) (.bi (.isin [5]) [.bvar 1])) (.cmp .ne (.bi (.isin [4]) [.bvar 0]) (.bi (.isin [4]) [.bvar 1]))) [.ret [] (.lit (.bl false))] [], .ifs (.cmp .ne (.bi .len [.bvar 0]) (.bi .len [.bvar 1])) [.ret [] (.lit (.bl false))] [], .ret [] (.cmp .eq (.comp [2] (.var 2) (.bi .range1 [.bi .len [.bvar 1]]) (.not (.call f [.idx (.bvar 0) (.bvar 2), .idx (.bvar 1) (.bvar 2)])) (.var 2)) (.lst []))] [], .ifs (.cmp .isn (.bvar 1) (.lit (.non))) [.ret [] (.cmp .isn (.bvar 0) (.lit (.non)))] [], .ifs (.bi (.isin [3]) [.bvar 1]) [.ret [] (.and (.bi (.isin [3]) [.bvar 0]) (.cmp .eq (.bvar 0) (.bvar 1)))] [], .ifs (.bi (.isin [1]) [.bvar 1]) [.ret [] (.and (.bi (.isin [1]) [.bvar 0]) (.cmp .eq (.bvar 0) (.bvar 1)))] [], .ret [] (.and (.bi (.isin [0]) [.bvar 0]) (.and (.not (.bi (.isin [1]) [.bvar 0])) (.cmp .eq (.bvar 0) (.bvar 1))))]
section
variable {call : Calls} {g : GS} {f : Nat}
theorem leq_int (i : Int) : runD call 2 3 (leqB f) [.int i, .int i] g = some (.bl true, g) := by
  simp [leqB, runD, startE, exs, ex, ev, evs, bnd, biD, un, isK, kind, truth, cmpD, isD, isNon, eqOk, okD, eqD, freeze, fin]
theorem leq_vT {n : Nat} {x : Vc} (hn : n < 1000) (hc : ∀ i, i < n → call f [.int (x i), .int (x i)] g = some (.bl true, g)) : runD call 2 3 (leqB f) [vT n x, vT n x] g = some (.bl true, g) := by
  have hcomp : ev call (.comp [2] (.var 2) (.bi .range1 [.bi .len [.bvar 1]]) (.not (.call f [.idx (.bvar 0) (.bvar 2), .idx (.bvar 1) (.bvar 2)])) (.var 2)) (startE 3 [vT n x, vT n x]) g = some (.lst [], g) := by
    refine ev_comp (s := .lst (rangeD 0 n)) (ys := []) (ev_b1 (ev_b1 (ev_bv rfl) len_vT) (range1_ev (by omega))) rfl ?_ (Nat.zero_le _)
    rw [range_natE]
    have h := gather_nat (f := gF call (.var 2) (wipeE (startE 3 [vT n x, vT n x]) [2]) (.not (.call f [.idx (.bvar 0) (.bvar 2), .idx (.bvar 1) (.bvar 2)])) (.var 2)) (g := g) (p := fun _ => false) (v := nD) (l := List.range n) (fun k hk => by
      have hk' := List.mem_range.mp hk
      exact gF_if (k := .bl false) rfl (ev_not (ev_c2 (ev_idx2 (ev_bv rfl) (ev_bv rfl) (idx_vT hk')) (ev_idx2 (ev_bv rfl) (ev_bv rfl) (idx_vT hk')) (hc k hk')) rfl) rfl (ev_v rfl))
    have hf : ∀ l : List Nat, l.filter (fun _ => false) = [] := fun l => by
      induction l with
      | nil => rfl
      | cons x l ih => rw [List.filter_cons_of_neg (by simp), ih]
    rw [hf] at h
    exact h
  have hll : cmpD .ne (nD n) (nD n) = some (.bl false) := by rw [ne_nat]; simp
  refine run_ret rfl ?_
  exact exs_ret (ex_if1 (ev_or0 (ev_b1 (ev_bv rfl) (z := .bl false) rfl) (ev_b1 (ev_bv rfl) (z := .bl true) rfl)) rfl ((exs_cons (ex_if0 (ev_or0 (ev_cmp2 (ev_b1 (ev_bv rfl) (z := .bl false) rfl) (ev_b1 (ev_bv rfl) (z := .bl false) rfl) (z := .bl false) rfl) (ev_cmp2 (ev_b1 (ev_bv rfl) (z := .bl true) rfl) (ev_b1 (ev_bv rfl) (z := .bl true) rfl) (z := .bl false) rfl)) rfl)).trans ((exs_cons (ex_if0 (ev_cmp2 (ev_b1 (ev_bv rfl) len_vT) (ev_b1 (ev_bv rfl) len_vT) hll) rfl)).trans (exs_ret (ex_ret1 (ev_cmp2 hcomp (ev_lst evs_nil) (z := .bl true) rfl))))))
end
/-! drawn numbers -/
def numberB (f : Nat) : List S := [.ret [] (.bi .tuple [.comp [3] (.var 3) (.bi .range1 [.bvar 1]) (.lit (.bl true)) (.bin .sub (.call f [.var 0, .bin .add (.bin .mul (.lit (.int 2)) (.bvar 2)) (.lit (.int 1))]) (.bvar 2))])]
def bV (n K : Nat) (x : Vc) : Prop := ∀ i, i < n → (x i).natAbs ≤ K
theorem bV_s {n K : Nat} {x : Vc} (h : bV n K x) (hK : K < 18446744073709551616) : sV n x := fun i hi => Nat.lt_of_le_of_lt (h i hi) hK
theorem gather_int {F : D → GS → Option (Option D × GS)} {K : Nat} : ∀ {l : List D} {g : GS}, G1 g → (∀ x ∈ l, ∀ g, G1 g → ∃ (z : Int) (g' : GS), F x g = some (some (.int z), g') ∧ G1 g' ∧ z.natAbs ≤ K) → ∃ (zs : List Int) (g' : GS), gather F l g = some (zs.map D.int, g') ∧ G1 g' ∧ zs.length = l.length ∧ ∀ z ∈ zs, z.natAbs ≤ K
  | [], g, hg, _ => ⟨[], g, rfl, hg, rfl, by simp⟩
  | x :: l, g, hg, h => by
    obtain ⟨z, g1, e1, G', hz⟩ := h x (List.mem_cons_self ..) g hg
    obtain ⟨zs, g2, e2, G'', hl, hzs⟩ := gather_int G' fun y hy => h y (List.mem_cons_of_mem _ hy)
    exact ⟨z :: zs, g2, gather_some e1 e2, G'', by simp [hl], fun w hw => by
      rcases List.mem_cons.mp hw with rfl | hw
      · exact hz
      · exact hzs w hw⟩
theorem ints_vL (zs : List Int) : zs.map D.int = vL zs.length (fun i => zs.getD i 0) := by
  apply List.ext_getElem?
  intro i
  by_cases h : i < zs.length
  · rw [vL_get h, List.getElem?_map, List.getElem?_eq_getElem h]
    simp [List.getD, h]
  · rw [List.getElem?_eq_none (by rw [List.length_map]; omega), List.getElem?_eq_none (by rw [vL_len]; omega)]
theorem number_run {call : Calls} {g : GS} {f n top : Nat} (hc : ∀ args g, call f args g = drawP args g) (hg : G1 g) (hn : n ≤ 1000) (ht : top ≤ 100000000) : ∃ (x : Vc) (g' : GS), runD call 3 4 (numberB f) [.st, nD n, nD top] g = some (vT n x, g') ∧ G1 g' ∧ bV n top x := by
  obtain ⟨zs, g', e, G', hl, hz⟩ := gather_int (F := gF call (.var 3) (wipeE (startE 4 [.st, nD n, nD top]) [3]) (.lit (.bl true)) (.bin .sub (.call f [.var 0, .bin .add (.bin .mul (.lit (.int 2)) (.bvar 2)) (.lit (.int 1))]) (.bvar 2))) (K := top) (l := rangeD 0 n) hg fun x _ g hg => by
    obtain ⟨d, g', e, G', hd⟩ := draw1_nat (size := 2 * top + 1) hg (by omega) (by omega)
    refine ⟨(d : Int) - top, g', gF_one rfl (ev_bin2 (ev_c2 (ev_v rfl) (ev_bin2 (ev_bin2 ev_lit (ev_bv rfl) (mul_l (a := 2) (by decide))) ev_lit (z := nD (2 * top + 1)) (by rfl)) ((hc _ _).trans e)) (ev_bv rfl) rfl), G', by omega⟩
  rw [range_len] at hl
  rw [ints_vL, hl] at e
  refine ⟨fun i => zs.getD i 0, g', run_ret rfl (exs_ret (ex_ret1 (ev_b1 (ev_comp (ev_b1 (ev_bv rfl) (range1_ev (by omega))) rfl e (by rw [vL_len]; unfold sizeLine; omega)) rfl))), G', fun i hi => ?_⟩
  refine hz _ ?_
  have : i < zs.length := by omega
  simp [List.getD, this]
end Tv

/-! PureM: two-part numbers as a ring, tables of them, tables within tables, units that exchange with a sign (plain). -/
namespace Tv
open PySem PyProof.Rows
structure Gi where
  a : Int
  b : Int
deriving DecidableEq
namespace Gi
@[ext] theorem ext' {x y : Gi} (h1 : x.a = y.a) (h2 : x.b = y.b) : x = y := by cases x; cases y; cases h1; cases h2; rfl
instance : Add Gi := ⟨fun x y => ⟨x.a + y.a, x.b + y.b⟩⟩
instance : Mul Gi := ⟨fun x y => ⟨x.a * y.a - x.b * y.b, x.a * y.b + x.b * y.a⟩⟩
instance : Neg Gi := ⟨fun x => ⟨-x.a, -x.b⟩⟩
instance : Sub Gi := ⟨fun x y => ⟨x.a - y.a, x.b - y.b⟩⟩
instance (n : Nat) : OfNat Gi n := ⟨⟨n, 0⟩⟩
instance : NatCast Gi := ⟨fun n => ⟨n, 0⟩⟩
instance : IntCast Gi := ⟨fun n => ⟨n, 0⟩⟩
instance : SMul Nat Gi := ⟨fun n x => ⟨n * x.a, n * x.b⟩⟩
instance : SMul Int Gi := ⟨fun n x => ⟨n * x.a, n * x.b⟩⟩
def npow (x : Gi) : Nat → Gi
  | 0 => 1
  | n + 1 => npow x n * x
instance : Pow Gi Nat := ⟨npow⟩
@[simp] theorem add_a (x y : Gi) : (x + y).a = x.a + y.a := rfl
@[simp] theorem add_b (x y : Gi) : (x + y).b = x.b + y.b := rfl
@[simp] theorem mul_a (x y : Gi) : (x * y).a = x.a * y.a - x.b * y.b := rfl
@[simp] theorem mul_b (x y : Gi) : (x * y).b = x.a * y.b + x.b * y.a := rfl
@[simp] theorem neg_a (x : Gi) : (-x).a = -x.a := rfl
@[simp] theorem neg_b (x : Gi) : (-x).b = -x.b := rfl
@[simp] theorem sub_a (x y : Gi) : (x - y).a = x.a - y.a := rfl
@[simp] theorem sub_b (x y : Gi) : (x - y).b = x.b - y.b := rfl
@[simp] theorem nat_a (n : Nat) : (OfNat.ofNat n : Gi).a = n := rfl
@[simp] theorem nat_b (n : Nat) : (OfNat.ofNat n : Gi).b = 0 := rfl
@[simp] theorem one_a : (1 : Gi).a = 1 := rfl
@[simp] theorem one_b : (1 : Gi).b = 0 := rfl
@[simp] theorem zero_a : (0 : Gi).a = 0 := rfl
@[simp] theorem zero_b : (0 : Gi).b = 0 := rfl
instance : Lean.Grind.CommRing Gi where
  add_zero x := by ext <;> simp
  add_comm x y := by ext <;> simp <;> omega
  add_assoc x y z := by ext <;> simp <;> omega
  mul_assoc x y z := by ext <;> simp <;> grind
  mul_one x := by ext <;> simp
  one_mul x := by ext <;> simp
  left_distrib x y z := by ext <;> simp <;> grind
  right_distrib x y z := by ext <;> simp <;> grind
  zero_mul x := by ext <;> simp
  mul_zero x := by ext <;> simp
  pow_zero x := rfl
  pow_succ x n := rfl
  neg_add_cancel x := by ext <;> simp <;> omega
  sub_eq_add_neg x y := by ext <;> simp <;> omega
  mul_comm x y := by ext <;> simp <;> grind
  ofNat_succ n := by ext <;> simp <;> first | rfl | omega
  intCast_ofNat n := rfl
  intCast_neg n := by ext <;> rfl
  nsmul_eq_natCast_mul n x := by
    ext
    · show (n : Int) * x.a = n * x.a - 0 * x.b
      simp
    · show (n : Int) * x.b = n * x.b + 0 * x.a
      simp
  zsmul_natCast_eq_nsmul n x := rfl
  neg_zsmul i x := by
    ext
    · show -i * x.a = -(i * x.a)
      exact Int.neg_mul ..
    · show -i * x.b = -(i * x.b)
      exact Int.neg_mul ..
/-- an integer -/
def re (s : Int) : Gi := ⟨s, 0⟩
@[simp] theorem re_a (s : Int) : (re s).a = s := rfl
@[simp] theorem re_b (s : Int) : (re s).b = 0 := rfl
def im : Gi := ⟨0, 1⟩
end Gi
/-! sums -/
def sumG : Nat → (Nat → Gi) → Gi
  | 0, _ => 0
  | n + 1, f => sumG n f + f n
theorem sumG_a {f : Nat → Gi} : ∀ {n : Nat}, (sumG n f).a = sumN n fun i => (f i).a
  | 0 => rfl
  | n + 1 => by rw [sumG, Gi.add_a, sumG_a, sumN]
theorem sumG_b {f : Nat → Gi} : ∀ {n : Nat}, (sumG n f).b = sumN n fun i => (f i).b
  | 0 => rfl
  | n + 1 => by rw [sumG, Gi.add_b, sumG_b, sumN]
theorem sumG_congr {f h : Nat → Gi} : ∀ {n : Nat}, (∀ i, i < n → f i = h i) → sumG n f = sumG n h
  | 0, _ => rfl
  | n + 1, e => by rw [sumG, sumG, sumG_congr fun i hi => e i (by omega), e n (by omega)]
theorem sumG_mulr {c : Gi} {f : Nat → Gi} : ∀ {n : Nat}, sumG n (fun i => f i * c) = sumG n f * c
  | 0 => by simp only [sumG]; grind
  | n + 1 => by rw [sumG, sumG_mulr, sumG]; grind
theorem sumG_mull {c : Gi} {f : Nat → Gi} {n : Nat} : sumG n (fun i => c * f i) = c * sumG n f := by
  rw [sumG_congr (h := fun i => f i * c) fun i _ => by grind, sumG_mulr]; grind
theorem sumG_add {f h : Nat → Gi} : ∀ {n : Nat}, sumG n (fun i => f i + h i) = sumG n f + sumG n h
  | 0 => by simp only [sumG]; grind
  | n + 1 => by rw [sumG, sumG_add, sumG, sumG]; grind
theorem sumG_pair {f : Nat → Gi} : ∀ {n : Nat}, sumG (2 * n) f = sumG n fun i => f (2 * i) + f (2 * i + 1)
  | 0 => rfl
  | n + 1 => by rw [show 2 * (n + 1) = 2 * n + 1 + 1 by omega, sumG, sumG, sumG_pair, sumG]; grind
theorem sumG_zero {f : Nat → Gi} : ∀ {n : Nat}, (∀ i, i < n → f i = 0) → sumG n f = 0
  | 0, _ => rfl
  | n + 1, h => by rw [sumG, sumG_zero fun i hi => h i (by omega), h n (by omega)]; grind
theorem sumG_one {f : Nat → Gi} {k : Nat} : ∀ {n : Nat}, k < n → (∀ i, i < n → i ≠ k → f i = 0) → sumG n f = f k
  | 0, h, _ => by omega
  | n + 1, h, h0 => by
    rw [sumG]
    by_cases e : k = n
    · subst e
      rw [sumG_zero fun i hi => h0 i (by omega) (by omega)]
      grind
    · rw [sumG_one (n := n) (by omega) fun i hi hk => h0 i (by omega) hk, h0 n (by omega) (fun z => e z.symm)]
      grind
/-! tables -/
abbrev Tb := Nat → Nat → Gi
def mm (n : Nat) (A B : Tb) : Tb := fun i j => sumG n fun k => A i k * B k j
def scl (c : Gi) (A : Tb) : Tb := fun i j => c * A i j
def idT : Tb := fun i j => if i = j then 1 else 0
def plT (A B : Tb) : Tb := fun i j => A i j + B i j
def kr (A B : Tb) : Tb := fun i j => A (i / 2) (j / 2) * B (i % 2) (j % 2)
theorem mm_kr {n : Nat} {A B C E : Tb} (i j : Nat) : mm (2 * n) (kr A B) (kr C E) i j = kr (mm n A C) (mm 2 B E) i j := by
  unfold mm kr
  rw [sumG_pair, ← sumG_mulr]
  refine sumG_congr fun k _ => ?_
  have e1 : 2 * k / 2 = k := by omega
  have e2 : 2 * k % 2 = 0 := by omega
  have e3 : (2 * k + 1) / 2 = k := by omega
  have e4 : (2 * k + 1) % 2 = 1 := by omega
  simp only [e1, e2, e3, e4, sumG]
  grind
theorem mm_scl {n : Nat} {A B : Tb} {c d : Gi} (i j : Nat) : mm n (scl c A) (scl d B) i j = c * d * mm n A B i j := by
  unfold mm scl
  rw [← sumG_mull]
  exact sumG_congr fun k _ => by grind
theorem mm_congr {n : Nat} {A A' B B' : Tb} (h1 : ∀ i j, i < n → j < n → A i j = A' i j) (h2 : ∀ i j, i < n → j < n → B i j = B' i j) (i j : Nat) (hi : i < n) (hj : j < n) : mm n A B i j = mm n A' B' i j := by
  unfold mm
  exact sumG_congr fun k hk => by rw [h1 i k hi hk, h2 k j hk hj]
def ch (q : Nat → Tb) : Nat → Tb
  | 0 => fun _ _ => 1
  | p + 1 => kr (ch q p) (q p)
theorem mm_ch {q r : Nat → Tb} : ∀ (p i j : Nat), mm (2 ^ p) (ch q p) (ch r p) i j = ch (fun k => mm 2 (q k) (r k)) p i j
  | 0, i, j => by
    show (0 : Gi) + 1 * 1 = 1
    grind
  | p + 1, i, j => by
    rw [Nat.pow_succ, Nat.mul_comm]
    show mm (2 * 2 ^ p) (kr (ch q p) (q p)) (kr (ch r p) (r p)) i j = kr (ch (fun k => mm 2 (q k) (r k)) p) (mm 2 (q p) (r p)) i j
    rw [mm_kr]
    unfold kr
    rw [mm_ch p]
def prodS (s : Nat → Gi) : Nat → Gi
  | 0 => 1
  | p + 1 => prodS s p * s p
theorem ch_sg {q r : Nat → Tb} {s : Nat → Gi} : ∀ (p i j : Nat), (∀ k, k < p → ∀ i j, i < 2 → j < 2 → q k i j = s k * r k i j) → ch q p i j = prodS s p * ch r p i j
  | 0, i, j, _ => by
    show (1 : Gi) = 1 * 1
    grind
  | p + 1, i, j, h => by
    show kr (ch q p) (q p) i j = prodS s p * s p * kr (ch r p) (r p) i j
    unfold kr
    rw [ch_sg p _ _ fun k hk => h k (by omega), h p (by omega) _ _ (Nat.mod_lt _ (by decide)) (Nat.mod_lt _ (by decide))]
    grind
theorem prodS_all {s : Nat → Gi} : ∀ {p : Nat}, (∀ k, k < p → s k = 1) → prodS s p = 1
  | 0, _ => rfl
  | p + 1, h => by rw [prodS, prodS_all fun k hk => h k (by omega), h p (by omega)]; grind
theorem prodS_one {s : Nat → Gi} {k0 : Nat} : ∀ {p : Nat}, k0 < p → s k0 = -1 → (∀ k, k < p → k ≠ k0 → s k = 1) → prodS s p = -1
  | 0, h, _, _ => by omega
  | p + 1, h, h0, h1 => by
    rw [prodS]
    by_cases e : k0 = p
    · subst e
      rw [prodS_all fun k hk => h1 k (by omega) (by omega), h0]
      grind
    · rw [prodS_one (p := p) (by omega) h0 fun k hk => h1 k (by omega), h1 p (by omega) (fun z => e z.symm)]
      grind
theorem ch_id : ∀ (p i j : Nat), i < 2 ^ p → j < 2 ^ p → ch (fun _ => idT) p i j = idT i j
  | 0, i, j, hi, hj => by
    have : i = 0 := by simp at hi; exact hi
    have : j = 0 := by simp at hj; exact hj
    subst i; subst j
    rfl
  | p + 1, i, j, hi, hj => by
    rw [Nat.pow_succ] at hi hj
    show kr (ch (fun _ => idT) p) idT i j = _
    unfold kr
    rw [ch_id p _ _ (by omega) (by omega)]
    unfold idT
    by_cases e : i = j
    · subst e
      simp only [if_pos]
      grind
    · rw [if_neg e]
      by_cases e1 : i / 2 = j / 2
      · rw [if_pos e1, if_neg (by omega)]; grind
      · rw [if_neg e1]; grind
/-! the small tables -/
def mk2 (x y z w : Gi) : Tb := fun i j => if i = 0 then (if j = 0 then x else y) else (if j = 0 then z else w)
def tFi : Tb := mk2 0 1 1 0
def tSe : Tb := mk2 0 (-Gi.im) Gi.im 0
def tTh : Tb := mk2 1 0 0 (-1)
def tPl : Tb := mk2 1 0 0 1
def qa (a : Nat) (k : Nat) : Tb := if k < a / 2 then tTh else if k = a / 2 then (if a % 2 = 0 then tFi else tSe) else tPl
theorem two_cases {P : Nat → Nat → Prop} (h : P 0 0 ∧ P 0 1 ∧ P 1 0 ∧ P 1 1) : ∀ i j, i < 2 → j < 2 → P i j := fun i j hi hj => by
  have : i = 0 ∨ i = 1 := by omega
  have : j = 0 ∨ j = 1 := by omega
  rcases ‹i = 0 ∨ i = 1› with rfl | rfl <;> rcases ‹j = 0 ∨ j = 1› with rfl | rfl
  · exact h.1
  · exact h.2.1
  · exact h.2.2.1
  · exact h.2.2.2
/-- the square of each small table is plain -/
theorem sq_qa (a k : Nat) : ∀ i j, i < 2 → j < 2 → mm 2 (qa a k) (qa a k) i j = idT i j := by
  unfold qa
  refine two_cases ?_
  split
  · decide
  · split
    · split <;> decide
    · decide
theorem com_qa {a b k : Nat} (hab : a < b) : ∀ i j, i < 2 → j < 2 → mm 2 (qa a k) (qa b k) i j = (if k = a / 2 then (-1 : Gi) else 1) * mm 2 (qa b k) (qa a k) i j := by
  unfold qa
  refine two_cases ?_
  by_cases h1 : k < a / 2
  · rw [if_pos h1, if_pos (by omega), if_neg (by omega)]
    decide
  · rw [if_neg h1]
    by_cases h2 : k = a / 2
    · rw [if_pos h2, if_pos h2]
      by_cases h3 : k < b / 2
      · rw [if_pos h3]
        split <;> decide
      · rw [if_neg h3, if_pos (by omega), if_pos (by omega), if_neg (by omega)]
        decide
    · rw [if_neg h2, if_neg h2]
      by_cases h3 : k < b / 2
      · rw [if_pos h3]; decide
      · rw [if_neg h3]
        split
        · split <;> decide
        · decide
/-- the unit of place a among those with p pairs; the last one at 2 p -/
def uT (p a : Nat) : Tb := ch (qa a) p
theorem un_sq {p a i j : Nat} (hi : i < 2 ^ p) (hj : j < 2 ^ p) : mm (2 ^ p) (uT p a) (uT p a) i j = idT i j := by
  unfold uT
  rw [mm_ch, ch_sg (r := fun _ => idT) (s := fun _ => 1) p i j fun k _ i j h1 h2 => by rw [sq_qa a k i j h1 h2]; grind, prodS_all fun _ _ => rfl, ch_id p i j hi hj]
  grind
theorem un_com {p a b : Nat} (hab : a < b) (hb : b ≤ 2 * p) (i j : Nat) : mm (2 ^ p) (uT p a) (uT p b) i j = -mm (2 ^ p) (uT p b) (uT p a) i j := by
  unfold uT
  rw [mm_ch, mm_ch, ch_sg (r := fun k => mm 2 (qa b k) (qa a k)) (s := fun k => if k = a / 2 then -1 else 1) p i j fun k _ i j h1 h2 => com_qa hab i j h1 h2, prodS_one (k0 := a / 2) (by omega) (if_pos rfl) fun k _ h => if_neg h]
  grind
theorem un_com' {p a b : Nat} (hab : a ≠ b) (ha : a ≤ 2 * p) (hb : b ≤ 2 * p) (i j : Nat) : mm (2 ^ p) (uT p a) (uT p b) i j = -mm (2 ^ p) (uT p b) (uT p a) i j := by
  rcases Nat.lt_or_gt_of_ne hab with h | h
  · exact un_com h hb i j
  · rw [un_com h ha]; grind
/-- small parts -/
def smG (z : Gi) : Prop := z.a.natAbs < 1000000 ∧ z.b.natAbs < 1000000
def smT (n : Nat) (A : Tb) : Prop := ∀ i j, i < n → j < n → smG (A i j)
def oneG (z : Gi) : Prop := z.a.natAbs ≤ 1 ∧ z.b.natAbs ≤ 1 ∧ (z.a = 0 ∨ z.b = 0)
theorem oneG_mul {x y : Gi} (hx : oneG x) (hy : oneG y) : oneG (x * y) := by
  obtain ⟨h1, h2, h3⟩ := hx
  obtain ⟨k1, k2, k3⟩ := hy
  have c : ∀ z : Int, z.natAbs ≤ 1 → z = -1 ∨ z = 0 ∨ z = 1 := fun z h => by omega
  cases x; cases y
  dsimp only at *
  unfold oneG
  simp only [Gi.mul_a, Gi.mul_b]
  rcases c _ h1 with rfl | rfl | rfl <;> rcases c _ h2 with rfl | rfl | rfl <;> rcases c _ k1 with rfl | rfl | rfl <;> rcases c _ k2 with rfl | rfl | rfl <;> omega
theorem one_qa (a k : Nat) : ∀ i j, i < 2 → j < 2 → oneG (qa a k i j) := by
  unfold qa oneG
  refine two_cases ?_
  split
  · decide
  · split
    · split <;> decide
    · decide
theorem one_un : ∀ (p a i j : Nat), oneG (uT p a i j)
  | 0, _, _, _ => by
    show oneG (1 : Gi)
    unfold oneG; decide
  | p + 1, a, i, j => oneG_mul (one_un p a _ _) (one_qa a p _ _ (Nat.mod_lt _ (by decide)) (Nat.mod_lt _ (by decide)))
/-! what fits -/
def eqT (n : Nat) (A B : Tb) : Bool := (List.range n).all fun i => (List.range n).all fun j => decide (A i j = B i j)
theorem eqT_iff {n : Nat} {A B : Tb} : eqT n A B = true ↔ ∀ i j, i < n → j < n → A i j = B i j := by
  unfold eqT
  simp only [List.all_eq_true, List.mem_range, decide_eq_true_eq]
  exact ⟨fun h i j hi hj => h i hi j hj, fun h i hi j hj => h i j hi hj⟩
theorem eqT_congr {n : Nat} {A A' B B' : Tb} (h1 : ∀ i j, i < n → j < n → A i j = A' i j) (h2 : ∀ i j, i < n → j < n → B i j = B' i j) : eqT n A B = eqT n A' B' := by
  rw [Bool.eq_iff_iff, eqT_iff, eqT_iff]
  exact ⟨fun h i j hi hj => by rw [← h1 i j hi hj, ← h2 i j hi hj]; exact h i j hi hj, fun h i j hi hj => by rw [h1 i j hi hj, h2 i j hi hj]; exact h i j hi hj⟩
def fitR (n : Nat) (t : Nat → Tb) (s : Nat → Int) (a : Nat) : Bool := eqT n (mm n (t a) (t a)) (scl (Gi.re (s a)) idT) && (List.range a).all fun b => eqT n (plT (mm n (t a) (t b)) (mm n (t b) (t a))) fun _ _ => 0
def fitB (n m : Nat) (t : Nat → Tb) (s : Nat → Int) : Bool := (List.range m).all (fitR n t s)
/-- units with told squares -/
def sqG (s : Int) : Gi := if s < 0 then Gi.im else 1
theorem sqG_sq {s : Int} (h : s = 1 ∨ s = -1) : sqG s * sqG s = Gi.re s := by
  rcases h with rfl | rfl <;> decide
def told (p : Nat) (s : Nat → Int) (a : Nat) : Tb := scl (sqG (s a)) (uT p a)
theorem told_sq {p a i j : Nat} {s : Nat → Int} (hs : s a = 1 ∨ s a = -1) (hi : i < 2 ^ p) (hj : j < 2 ^ p) : mm (2 ^ p) (told p s a) (told p s a) i j = Gi.re (s a) * idT i j := by
  unfold told
  rw [mm_scl, un_sq hi hj, sqG_sq hs]
theorem told_com {p a b i j : Nat} {s : Nat → Int} (hab : a ≠ b) (ha : a ≤ 2 * p) (hb : b ≤ 2 * p) : mm (2 ^ p) (told p s a) (told p s b) i j + mm (2 ^ p) (told p s b) (told p s a) i j = 0 := by
  unfold told
  rw [mm_scl, mm_scl, un_com' hab ha hb]
  grind
theorem told_fit {p m : Nat} {s : Nat → Int} (hs : ∀ a, a < m → s a = 1 ∨ s a = -1) (hm : m ≤ 2 * p + 1) : fitB (2 ^ p) m (told p s) s = true := by
  unfold fitB
  rw [List.all_eq_true]
  intro a ha
  have ha' := List.mem_range.mp ha
  unfold fitR
  rw [Bool.and_eq_true, List.all_eq_true]
  refine ⟨eqT_iff.mpr fun i j hi hj => told_sq (hs a ha') hi hj, fun b hb => ?_⟩
  have hb' := List.mem_range.mp hb
  exact eqT_iff.mpr fun i j hi hj => told_com (by omega) (by omega) (by omega)
theorem told_unfit {p m at_ : Nat} {s s' : Nat → Int} (hs : ∀ a, a < m → s a = 1 ∨ s a = -1) (ha : at_ < m) (h' : s' at_ = -s at_) : fitB (2 ^ p) m (told p s) s' = false := by
  cases h : fitB (2 ^ p) m (told p s) s' with
  | false => rfl
  | true =>
    unfold fitB at h
    rw [List.all_eq_true] at h
    have := h at_ (List.mem_range.mpr ha)
    unfold fitR at this
    rw [Bool.and_eq_true] at this
    have e := eqT_iff.mp this.1 0 0 (Nat.two_pow_pos p) (Nat.two_pow_pos p)
    rw [told_sq (hs _ ha) (Nat.two_pow_pos p) (Nat.two_pow_pos p)] at e
    have e2 := congrArg Gi.a e
    unfold scl idT at e2
    rw [h'] at e2
    simp at e2
    have := hs _ ha
    omega
end Tv

/-! K78p: what the functions on tables of two-part numbers make. -/
namespace Tv
open PySem PyProof.Rows
abbrev gD (z : Gi) : D := .tup [.int z.a, .int z.b]
def lN (n : Nat) (f : Nat → D) : List D := (List.range n).map f
def tN (n : Nat) (f : Nat → D) : D := .tup (lN n f)
def lsN (n : Nat) (f : Nat → D) : D := .lst (lN n f)
def tbD (n : Nat) (A : Tb) : D := tN n fun i => tN n fun j => gD (A i j)
theorem lN_len {n : Nat} {f : Nat → D} : (lN n f).length = n := by simp [lN]
theorem lN_congr {n : Nat} {f h : Nat → D} (e : ∀ i, i < n → f i = h i) : lN n f = lN n h := List.map_congr_left fun i hi => e i (List.mem_range.mp hi)
theorem tN_congr {n : Nat} {f h : Nat → D} (e : ∀ i, i < n → f i = h i) : tN n f = tN n h := congrArg D.tup (lN_congr e)
theorem tbD_congr {n : Nat} {A B : Tb} (e : ∀ i j, i < n → j < n → A i j = B i j) : tbD n A = tbD n B := tN_congr fun i hi => tN_congr fun j hj => by rw [e i j hi hj]
theorem lN_succ {n : Nat} {f : Nat → D} : lN (n + 1) f = lN n f ++ [f n] := by
  unfold lN
  rw [List.range_succ, List.map_append]; rfl
theorem lN_get {n i : Nat} {f : Nat → D} (h : i < n) : (lN n f)[i]? = some (f i) := by
  unfold lN
  rw [List.getElem?_map, List.getElem?_range h]; rfl
theorem idx_tN {n i : Nat} {f : Nat → D} (h : i < n) : idxD (tN n f) (nD i) = some (f i) := L2.atI_nat (lN_get h)
theorem idx_lsN {n i : Nat} {f : Nat → D} (h : i < n) : idxD (lsN n f) (nD i) = some (f i) := L2.atI_nat (lN_get h)
theorem len_tN {n : Nat} {f : Nat → D} : biD .len [tN n f] = some (nD n) := by
  show some (D.int ((lN n f).length : Nat)) = _
  rw [lN_len]
theorem len_lsN {n : Nat} {f : Nat → D} : biD .len [lsN n f] = some (nD n) := by
  show some (D.int ((lN n f).length : Nat)) = _
  rw [lN_len]
theorem rng_lN {n : Nat} (h : n < 100000000) : biD .range1 [nD n] = some (lsN n nD) := by
  rw [range1_ev h, range_natE]; rfl
theorem zip_lN {f h : Nat → D} : ∀ {l : List Nat}, zipD (l.map f) (l.map h) = l.map fun i => .tup [f i, h i]
  | [] => by simp [zipD]
  | i :: l => by rw [List.map_cons, List.map_cons, zipD, zip_lN, List.map_cons]
theorem zip_tt {n : Nat} {f h : Nat → D} : biD .zip [tN n f, tN n h] = some (lsN n fun i => .tup [f i, h i]) := congrArg (fun z => some (D.lst z)) zip_lN
theorem zip_tl {n : Nat} {f h : Nat → D} : biD .zip [tN n f, lsN n h] = some (lsN n fun i => .tup [f i, h i]) := congrArg (fun z => some (D.lst z)) zip_lN
theorem zip_lt {n : Nat} {f h : Nat → D} : biD .zip [lsN n f, tN n h] = some (lsN n fun i => .tup [f i, h i]) := congrArg (fun z => some (D.lst z)) zip_lN
theorem enum_go {f : Nat → D} : ∀ (m lo : Nat), enumD (lo : Int) ((List.range' lo m).map f) = (List.range' lo m).map fun i => .tup [nD i, f i]
  | 0, _ => rfl
  | m + 1, lo => by
    rw [List.range'_succ, List.map_cons, enumD, List.map_cons]
    rw [show ((lo : Int) + 1) = ((lo + 1 : Nat) : Int) by omega, enum_go m (lo + 1)]
theorem enum_ls {n : Nat} {f : Nat → D} : biD .enum [lsN n f] = some (lsN n fun i => .tup [nD i, f i]) := by
  show some (D.lst (enumD 0 (lN n f))) = some (D.lst (lN n _))
  unfold lN
  rw [List.range_eq_range']
  exact congrArg (fun z => some (D.lst z)) (enum_go n 0)
theorem sum_lsN {n : Nat} {h : Nat → Int} : biD .sum [lsN n fun i => .int (h i)] = some (.int (sumN n h)) := by
  show (intsOf (lN n fun i => .int (h i))).map (fun ns => D.int ns.sum) = _
  rw [show (lN n fun i => D.int (h i)) = ((List.range n).map h).map D.int by unfold lN; rw [List.map_map]; rfl, intsOf_map, Option.map_some, sum_range]
section
variable {call : Calls} {g : GS} {ρ : Env}
/-- a comprehension over n things -/
theorem ev_cN {i n : Nat} {it elt : C} {s : D} {v w : Nat → D} (h1 : ev call it ρ g = some (s, g)) (hs : items s = some (lN n v)) (hn : n ≤ 100000) (h : ∀ k, k < n → ev call elt ((ρ.set i .no).set i (.val (v k))) g = some (w k, g)) : ev call (.comp [i] (.var i) it (.lit (.bl true)) elt) ρ g = some (lsN n w, g) := by
  refine ev_comp h1 hs (gather_rng (v := v) (w := w) fun k hk => ?_) (by rw [show (lN n w).length = n from lN_len]; unfold sizeLine; omega)
  exact gF_one (ρ' := (ρ.set i .no).set i (.val (v k))) rfl (h k (List.mem_range.mp hk))
theorem ev_tN {i n : Nat} {it elt : C} {s : D} {v w : Nat → D} (h1 : ev call it ρ g = some (s, g)) (hs : items s = some (lN n v)) (hn : n ≤ 100000) (h : ∀ k, k < n → ev call elt ((ρ.set i .no).set i (.val (v k))) g = some (w k, g)) : ev call (.bi .tuple [.comp [i] (.var i) it (.lit (.bl true)) elt]) ρ g = some (tN n w, g) := ev_b1 (ev_cN h1 hs hn h) rfl
/-- .. over n pairs -/
theorem ev_cN2 {i j n : Nat} {it elt : C} {s : D} {u v w : Nat → D} (h1 : ev call it ρ g = some (s, g)) (hs : items s = some (lN n fun k => .tup [u k, v k])) (hn : n ≤ 100000) (h : ∀ k, k < n → ev call elt ((((ρ.set j .no).set i .no).set i (.val (u k))).set j (.val (v k))) g = some (w k, g)) : ev call (.comp [i, j] (.tup [.var i, .var j]) it (.lit (.bl true)) elt) ρ g = some (lsN n w, g) := by
  refine ev_comp h1 hs (gather_rng (v := fun k => .tup [u k, v k]) (w := w) fun k hk => ?_) (by rw [show (lN n w).length = n from lN_len]; unfold sizeLine; omega)
  exact gF_one (ρ' := (((ρ.set j .no).set i .no).set i (.val (u k))).set j (.val (v k))) rfl (h k (List.mem_range.mp hk))
theorem ev_tN2 {i j n : Nat} {it elt : C} {s : D} {u v w : Nat → D} (h1 : ev call it ρ g = some (s, g)) (hs : items s = some (lN n fun k => .tup [u k, v k])) (hn : n ≤ 100000) (h : ∀ k, k < n → ev call elt ((((ρ.set j .no).set i .no).set i (.val (u k))).set j (.val (v k))) g = some (w k, g)) : ev call (.bi .tuple [.comp [i, j] (.tup [.var i, .var j]) it (.lit (.bl true)) elt]) ρ g = some (tN n w, g) := ev_b1 (ev_cN2 h1 hs hn h) rfl
theorem mulG {a b : Int} (h : a.natAbs < 1000000 ∨ b.natAbs < 1000000) : binD .mul (.int a) (.int b) = some (.int (a * b)) := by
  rcases h with h | h
  · exact mul_l (by omega)
  · exact mul_r (by omega)
theorem gD_0 {z : Gi} {c : C} (h : ev call c ρ g = some (gD z, g)) : ev call (.idx c (.lit (.int 0))) ρ g = some (.int z.a, g) := ev_idx2 (x := gD z) h ev_lit rfl
theorem gD_1 {z : Gi} {c : C} (h : ev call c ρ g = some (gD z, g)) : ev call (.idx c (.lit (.int 1))) ρ g = some (.int z.b, g) := ev_idx2 (x := gD z) h ev_lit rfl
theorem tt_run {x y : Gi} (h : smG x ∨ smG y) : runD call 2 2 b_two_times [gD x, gD y] g = some (gD (x * y), g) := by
  have p1 : x.a.natAbs < 1000000 ∨ y.a.natAbs < 1000000 := h.imp (·.1) (·.1)
  have p2 : x.b.natAbs < 1000000 ∨ y.b.natAbs < 1000000 := h.imp (·.2) (·.2)
  have p3 : x.a.natAbs < 1000000 ∨ y.b.natAbs < 1000000 := h.imp (·.1) (·.2)
  have p4 : x.b.natAbs < 1000000 ∨ y.a.natAbs < 1000000 := h.imp (·.2) (·.1)
  refine run_ret rfl (exs_ret (ex_ret1 ?_))
  exact ev_tup (evs_cons (ev_bin2 (ev_bin2 (gD_0 (z := x) (ev_bv rfl)) (gD_0 (z := y) (ev_bv rfl)) (mulG p1)) (ev_bin2 (gD_1 (z := x) (ev_bv rfl)) (gD_1 (z := y) (ev_bv rfl)) (mulG p2)) (z := .int (x.a * y.a - x.b * y.b)) rfl) (evs_cons (ev_bin2 (ev_bin2 (gD_0 (z := x) (ev_bv rfl)) (gD_1 (z := y) (ev_bv rfl)) (mulG p3)) (ev_bin2 (gD_1 (z := x) (ev_bv rfl)) (gD_0 (z := y) (ev_bv rfl)) (mulG p4)) (z := .int (x.a * y.b + x.b * y.a)) rfl) evs_nil))
theorem sums_ev {n i : Nat} {z : Nat → Gi} {c : C} {s : D} (hn : n ≤ 1000) (hl : i < ρ.length) (h : ev call c ρ g = some (s, g)) (hs : items s = some (lN n fun k => gD (z k))) : ev call (.tup [.bi .sum [.comp [i] (.var i) c (.lit (.bl true)) (.idx (.bvar i) (.lit (.int 0)))], .bi .sum [.comp [i] (.var i) c (.lit (.bl true)) (.idx (.bvar i) (.lit (.int 1)))]]) ρ g = some (gD (sumG n z), g) := by
  have hv : ∀ k, ((ρ.set i .no).set i (.val (gD (z k))))[i]? = some (.val (gD (z k))) := fun k => by rw [List.getElem?_set_self (by rw [List.length_set]; exact hl)]
  have e1 := ev_b1 (ev_cN (call := call) (i := i) (elt := .idx (.bvar i) (.lit (.int 0))) (w := fun k => .int (z k).a) h hs (by omega) fun k _ => gD_0 (z := z k) (ev_bv (hv k))) sum_lsN
  have e2 := ev_b1 (ev_cN (call := call) (i := i) (elt := .idx (.bvar i) (.lit (.int 1))) (w := fun k => .int (z k).b) h hs (by omega) fun k _ => gD_1 (z := z k) (ev_bv (hv k))) sum_lsN
  rw [← sumG_a] at e1
  rw [← sumG_b] at e2
  exact ev_tup (evs_cons e1 (evs_cons e2 evs_nil))
end
section
variable {m : Nat} {g : GS}
theorem t_mul {x y : Gi} (h : smG x ∨ smG y) : callN tblT (m + 1) 0 [gD x, gD y] g = some (gD (x * y), g) := (c_two_times ..).trans (tt_run h)
theorem t_lmul {x y : Gi} (h : smG x ∨ smG y) : callN tblT (m + 1) 18 [gD x, gD y] g = some (gD (x * y), g) := (c__law_two_times ..).trans (tt_run h)
theorem t_sum {n : Nat} {z : Nat → Gi} (hn : n ≤ 1000) : callN tblT (m + 1) 1 [lsN n fun k => gD (z k)] g = some (gD (sumG n z), g) := by
  rw [c_two_sum]
  exact run_ret rfl (exs_ret (ex_ret1 (sums_ev (ρ := [.val (lsN n fun k => gD (z k)), .no]) hn (by simp) (ev_bv rfl) rfl)))
theorem t_sum2 {x y : Gi} : callN tblT (m + 1) 1 [.lst [gD x, gD y]] g = some (gD (x + y), g) := by
  have := t_sum (m := m) (g := g) (n := 2) (z := fun k => if k = 0 then x else y) (by decide)
  have e : sumG 2 (fun k => if k = 0 then x else y) = x + y := by
    show (0 : Gi) + x + y = x + y
    grind
  rw [e] at this
  exact this
/-! products -/
theorem t_mm {n : Nat} {A B : Tb} (h0 : 0 < n) (hn : n ≤ 100) (hs : smT n A ∨ smT n B) : callN tblT (m + 2) 2 [tbD n A, tbD n B] g = some (tbD n (mm n A B), g) := by
  rw [c_table_times]
  have hk : ∀ i j k, i < n → j < n → k < n → smG (A i k) ∨ smG (B k j) := fun i j k hi hj hk => hs.imp (fun h => h i k hi hk) (fun h => h k j hk hj)
  refine run_ret rfl ?_
  refine (exs_cons (ex_ownE (ev_cN (n := n) (v := nD) (w := fun j => lsN n fun k => gD (B k j)) (ev_b1 (ev_b1 (ev_idx2 (ev_bv rfl) (ev_lit (d := nD 0)) (idx_tN h0)) len_tN) (rng_lN (by omega))) rfl (by omega) fun j hj => ev_cN (n := n) (s := tbD n B) (v := fun k => tN n fun j => gD (B k j)) (ev_bv rfl) rfl (by omega) fun k hk => ev_idx2 (ev_bv rfl) (ev_bv rfl) (idx_tN hj)))).trans ?_
  refine (exs_cons (ex_ownE (ev_lst evs_nil))).trans ?_
  obtain ⟨ρ', e1, v4, rfl⟩ := for_rngI (n := n) (g := g) (b := fun z ρ g => match asg (.var 4) z ρ with | some ρ' => exs (callN tblT (m + 1)) [.app [] 3 (.bi .tuple [.comp [6] (.var 6) (.bvar 2) (.lit (.bl true)) (.call 1 [.comp [7, 8] (.tup [.var 7, .var 8]) (.bi .zip [.var 4, .var 6]) (.lit (.bl true)) (.call 0 [.var 7, .var 8])])])] ρ' g | none => none) (v := fun i => tN n fun k => gD (A i k)) (I := fun i ρ => ∃ v4, ρ = [.val (tbD n A), .val (tbD n B), .own (lN n fun j => lsN n fun k => gD (B k j)), .own (lN i fun i => tN n fun j => gD (mm n A B i j)), v4, .no, .no, .no, .no]) (ρ := [.val (tbD n A), .val (tbD n B), .own (lN n fun j => lsN n fun k => gD (B k j)), .own [], .no, .no, .no, .no, .no]) ⟨.no, rfl⟩ (by
    rintro i hi _ ⟨v4, rfl⟩
    refine ⟨[.val (tbD n A), .val (tbD n B), .own (lN n fun j => lsN n fun k => gD (B k j)), .own (lN (i + 1) fun i => tN n fun j => gD (mm n A B i j)), .val (tN n fun k => gD (A i k)), .no, .no, .no, .no], ?_, _, rfl⟩
    rw [lN_succ]
    exact exs_one (ex_app1 (ev_tN (n := n) (s := lsN n fun j => lsN n fun k => gD (B k j)) (v := fun j => lsN n fun k => gD (B k j)) (ev_bo rfl) rfl (by omega) fun j hj => ev_c1 (ev_cN2 (n := n) (u := fun k => gD (A i k)) (v := fun k => gD (B k j)) (w := fun k => gD (A i k * B k j)) (ev_b2 (ev_v rfl) (ev_v rfl) zip_tl) rfl (by omega) fun k hkn => ev_c2 (ev_v rfl) (ev_v rfl) (t_mul (m := m) (hk i j k hi hj hkn))) (t_sum (m := m) (by omega))) rfl (by rw [lN_len]; unfold sizeLine; omega)))
  refine (exs_cons ((ex_forE (s := tbD n A) (ev_v rfl) rfl).trans e1)).trans ?_
  exact exs_ret (ex_ret1 (ev_b1 (ev_bo rfl) rfl))
theorem t_pl {n : Nat} {A B : Tb} (hn : n ≤ 100) : callN tblT (m + 2) 3 [tbD n A, tbD n B] g = some (tbD n (plT A B), g) := by
  rw [c_table_plus]
  refine run_ret rfl (exs_ret (ex_ret1 ?_))
  exact ev_tN2 (n := n) (u := fun i => tN n fun j => gD (A i j)) (v := fun i => tN n fun j => gD (B i j)) (ev_b2 (ev_v rfl) (ev_v rfl) zip_tt) rfl (by omega) fun i hi => ev_tN2 (n := n) (u := fun j => gD (A i j)) (v := fun j => gD (B i j)) (ev_b2 (ev_v rfl) (ev_v rfl) zip_tt) rfl (by omega) fun j hj => ev_c1 (ev_lst (evs_cons (ev_v rfl) (evs_cons (ev_v rfl) evs_nil))) (t_sum2 (m := m))
theorem t_scl {n : Nat} {A : Tb} {c : Gi} (hn : n ≤ 100) (hs : smG c ∨ smT n A) : callN tblT (m + 2) 4 [tbD n A, gD c] g = some (tbD n (scl c A), g) := by
  rw [c_scaled]
  refine run_ret rfl (exs_ret (ex_ret1 ?_))
  exact ev_tN (n := n) (s := tbD n A) (v := fun i => tN n fun j => gD (A i j)) (ev_bv rfl) rfl (by omega) fun i hi => ev_tN (n := n) (v := fun j => gD (A i j)) (ev_bv rfl) rfl (by omega) fun j hj => ev_c2 (ev_v rfl) (ev_v rfl) (t_mul (m := m) (hs.imp id fun h => h i j hi hj))
def cjG (z : Gi) : Gi := ⟨z.a, -z.b⟩
def ovT (A : Tb) : Tb := fun i j => cjG (A j i)
theorem t_over {n : Nat} {A : Tb} (hn : n ≤ 100) : callN tblT (m + 1) 5 [tbD n A] g = some (tbD n (ovT A), g) := by
  rw [c_turned_over]
  refine run_ret rfl ((exs_cons (ex_asg1 (ev_b1 (ev_bv rfl) len_tN))).trans (exs_ret (ex_ret1 ?_)))
  exact ev_tN (n := n) (v := nD) (ev_b1 (ev_bv rfl) (rng_lN (by omega))) rfl (by omega) fun i hi => ev_tN (n := n) (v := nD) (ev_b1 (ev_bv rfl) (rng_lN (by omega))) rfl (by omega) fun j hj => by
    have e := ev_idx2 (call := callN tblT m) (g := g) (ρ := [.val (tbD n A), .val (nD n), .val (nD i), .val (nD j)]) (g1 := g) (g2 := g) (ev_idx2 (a := .bvar 0) (b := .bvar 3) (ev_bv rfl) (ev_bv rfl) (idx_tN (f := fun i => tN n fun j => gD (A i j)) hj)) (b := .bvar 2) (ev_bv rfl) (idx_tN hi)
    exact ev_tup (evs_cons (gD_0 (z := A j i) e) (evs_cons (ev_neg (gD_1 (z := A j i) e)) evs_nil))
theorem t_plain {n : Nat} (hn : n ≤ 100) : callN tblT (m + 1) 7 [nD n] g = some (tbD n idT, g) := by
  rw [c_plain_table]
  refine run_ret rfl (exs_ret (ex_ret1 ?_))
  exact ev_tN (n := n) (v := nD) (ev_b1 (ev_bv rfl) (rng_lN (by omega))) rfl (by omega) fun i hi => ev_tN (n := n) (v := nD) (ev_b1 (ev_bv rfl) (rng_lN (by omega))) rfl (by omega) fun j hj => by
    unfold idT
    by_cases e : i = j
    · rw [if_pos e]
      exact ev_ite1 (ev_cmp2 (ev_bv rfl) (ev_bv rfl) eq_nat) (by rw [decide_eq_true e]; rfl) ev_lit
    · rw [if_neg e]
      exact ev_ite0 (ev_cmp2 (ev_bv rfl) (ev_bv rfl) eq_nat) (by rw [decide_eq_false e]; rfl) ev_lit
theorem t_trace {n : Nat} {A : Tb} (hn : n ≤ 100) : callN tblT (m + 2) 8 [tbD n A] g = some (gD (sumG n fun i => A i i), g) := by
  rw [c_trace]
  refine run_ret rfl (exs_ret (ex_ret1 ?_))
  exact ev_c1 (ev_cN (n := n) (v := nD) (w := fun i => gD (A i i)) (ev_b1 (ev_b1 (ev_bv rfl) len_tN) (rng_lN (by omega))) rfl (by omega) fun i hi => ev_idx2 (ev_idx2 (ev_bv rfl) (ev_bv rfl) (idx_tN (f := fun i => tN n fun j => gD (A i j)) hi)) (ev_bv rfl) (idx_tN hi)) (t_sum (m := m) (by omega))
end
end Tv

/-! K78q: tables within tables, told units, what exchanges with a sign; the law's own functions. -/
namespace Tv
open PySem PyProof.Rows
theorem gatherL_rng {F : D → GS → Option (List D × GS)} {v : Nat → D} {w : Nat → List D} {g : GS} : ∀ {l : List Nat}, (∀ i ∈ l, F (v i) g = some (w i, g)) → gatherL F (l.map v) g = some ((l.map w).flatten, g)
  | [], _ => rfl
  | i :: l, h => by
    rw [List.map_cons, List.map_cons, List.flatten_cons, gatherL, h i (List.mem_cons_self ..), bnd_some, gatherL_rng fun j hj => h j (List.mem_cons_of_mem _ hj), bnd_some]
theorem flat2 {f : Nat → D} : ∀ {n : Nat}, ((List.range n).map fun a => lN 2 fun b => f (2 * a + b)).flatten = lN (2 * n) f
  | 0 => rfl
  | n + 1 => by
    rw [List.range_succ, List.map_append, List.flatten_append, flat2, show 2 * (n + 1) = 2 * n + 1 + 1 by omega, lN_succ, lN_succ, List.append_assoc]
    rfl
section
variable {call : Calls} {g : GS} {ρ : Env}
theorem ev_c2N {i j n : Nat} {it it2 elt : C} {s s2 : D} {v u w : Nat → D} (h1 : ev call it ρ g = some (s, g)) (hs : items s = some (lN n v)) (hn : n ≤ 1000) (h2 : ∀ a, a < n → ev call it2 (((ρ.set j .no).set i .no).set i (.val (v a))) g = some (s2, g)) (hs2 : items s2 = some (lN 2 u)) (h : ∀ a b, a < n → b < 2 → ev call elt (((((ρ.set j .no).set i .no).set i (.val (v a))).set j .no).set j (.val (u b))) g = some (w (2 * a + b), g)) : ev call (.comp2 [i, j] [j] (.var i) it (.lit (.bl true)) (.var j) it2 (.lit (.bl true)) elt) ρ g = some (lsN (2 * n) w, g) := by
  rw [ev, h1, bnd_some, hs]
  have hg : gatherL (fun x g => match asg (.var i) x (wipeE ρ [i, j]) with
        | some ρ' => bnd (ev call (.lit (.bl true)) ρ' g) fun k g => match truth k with
          | some true => bnd (ev call it2 ρ' g) fun s2 g => match items s2 with
            | some xs2 => gather (fun x2 g => match asg (.var j) x2 (wipeE ρ' [j]) with
                | some ρ2 => bnd (ev call (.lit (.bl true)) ρ2 g) fun k g => match truth k with
                  | some true => bnd (ev call elt ρ2 g) fun y g => some (some y, g)
                  | some false => some (none, g)
                  | none => none
                | none => none) xs2 g
            | none => none
          | some false => some ([], g)
          | none => none
        | none => none) (lN n v) g = some (lN (2 * n) w, g) := by
    rw [← flat2]
    refine gatherL_rng fun a ha => ?_
    have ha' := List.mem_range.mp ha
    show bnd (ev call (.lit (.bl true)) (((ρ.set j .no).set i .no).set i (.val (v a))) g) _ = _
    rw [ev_lit, bnd_some]
    show bnd (ev call it2 (((ρ.set j .no).set i .no).set i (.val (v a))) g) _ = _
    rw [h2 a ha', bnd_some, hs2]
    refine gather_rng (v := u) (w := fun b => w (2 * a + b)) fun b hb => ?_
    exact gF_one (tg := .var j) (ρ := wipeE (((ρ.set j .no).set i .no).set i (.val (v a))) [j]) rfl (h a b ha' (List.mem_range.mp hb))
  exact (congrArg (fun z => bnd z fun ys g => if ys.length ≤ sizeLine then some (D.lst ys, g) else none) hg).trans (by rw [bnd_some, if_pos (by rw [lN_len]; unfold sizeLine; omega)])
end
theorem cutH_ls {n h : Nat} {f : Nat → D} (hn : h ≤ n) : cutD (lsN n f) none (some (h : Int)) = some (lsN h f) := by
  show some (D.lst (cutL (lN n f) none (some (h : Int)))) = some (D.lst (lN h f))
  unfold cutL
  have e1 : HT.sIx (lN n f).length 0 none = 0 := rfl
  have e2 : HT.sIx (lN n f).length (lN n f).length (some (h : Int)) = h := by
    rw [lN_len]
    simp only [HT.sIx]
    rw [if_neg (by omega), Int.toNat_natCast, Nat.min_eq_left hn]
  rw [e1, e2, List.drop_zero, Nat.sub_zero]
  unfold lN
  rw [← List.map_take, List.take_range, Nat.min_eq_left hn]
/-! equality -/
theorem okDs_lN {n k : Nat} {f : Nat → D} (h : ∀ i, okD k (f i) = true) : okDs k (lN n f) = true := by
  unfold lN
  induction List.range n with
  | nil => rw [List.map_nil, okDs]
  | cons x l ih => rw [List.map_cons, okDs, h, ih]; rfl
theorem ok_gD {k : Nat} {z : Gi} : okD (k + 1) (gD z) = true := by simp [okD, okDs]
theorem ok_tN {n k : Nat} {f : Nat → D} (h : ∀ i, okD k (f i) = true) : okD (k + 1) (tN n f) = true := by
  unfold tN
  rw [okD]
  exact okDs_lN h
theorem ok_tbD {n : Nat} {A : Tb} : okD 60 (tbD n A) = true := ok_tN fun i => ok_tN fun j => ok_gD
theorem eqD_gD {x y : Gi} : eqD (gD x) (gD y) = decide (x = y) := by
  rw [eqD, eqDs, eqDs, eqDs, eqD, eqD]
  cases x; cases y
  rw [Bool.eq_iff_iff]
  simp [Gi.mk.injEq]
theorem eqDs_lN {n : Nat} {f h : Nat → D} : eqDs (lN n f) (lN n h) = (List.range n).all fun i => eqD (f i) (h i) := by
  unfold lN
  induction List.range n with
  | nil =>
    show eqDs [] [] = true
    rw [eqDs]
  | cons x l ih => rw [List.map_cons, List.map_cons, eqDs, ih, List.all_cons]
theorem eqD_tN {n : Nat} {f h : Nat → D} : eqD (tN n f) (tN n h) = (List.range n).all fun i => eqD (f i) (h i) := by
  unfold tN
  rw [eqD]
  exact eqDs_lN
theorem eqD_tbD {n : Nat} {A B : Tb} : eqD (tbD n A) (tbD n B) = eqT n A B := by
  unfold tbD eqT
  rw [eqD_tN]
  congr 1
  funext i
  rw [eqD_tN]
  congr 1
  funext j
  exact eqD_gD
theorem ne_tbD {n : Nat} {A B : Tb} : cmpD .ne (tbD n A) (tbD n B) = some (.bl (!eqT n A B)) := by
  show (if eqOk (tbD n A) (tbD n B) = true then some (D.bl (!eqD (tbD n A) (tbD n B))) else none) = _
  rw [if_pos (by unfold eqOk; rw [ok_tbD, ok_tbD]; rfl), eqD_tbD]
section
variable {m : Nat} {g : GS}
theorem t_kr {n : Nat} {A B : Tb} (hn : n ≤ 100) (hs : smT n A ∨ smT 2 B) : callN tblT (m + 2) 6 [tbD n A, tbD 2 B] g = some (tbD (2 * n) (kr A B), g) := by
  rw [c_within]
  let row : Nat → D := fun r => tN (2 * n) fun c => gD (kr A B r c)
  refine run_ret rfl ?_
  refine (exs_cons (ex_ownE (ev_lst evs_nil))).trans ?_
  obtain ⟨ρ', e1, v3, v4, rfl⟩ := for_rngI (n := n) (g := g) (b := fun z ρ g => match asg (.var 3) z ρ with | some ρ' => exs (callN tblT (m + 1)) [.for [] (.var 4) (.var 1) [.app [] 2 (.bi .tuple [.comp2 [5, 6] [6] (.var 5) (.bvar 3) (.lit (.bl true)) (.var 6) (.var 4) (.lit (.bl true)) (.call 0 [.var 5, .var 6])])]] ρ' g | none => none) (v := fun i => tN n fun k => gD (A i k)) (I := fun i ρ => ∃ v3 v4, ρ = [.val (tbD n A), .val (tbD 2 B), .own (lN (2 * i) row), v3, v4, .no, .no]) (ρ := [.val (tbD n A), .val (tbD 2 B), .own [], .no, .no, .no, .no]) ⟨.no, .no, rfl⟩ (by
    rintro i hi _ ⟨v3, v4, rfl⟩
    obtain ⟨ρ', e1, v4', rfl⟩ := for_rngI (n := 2) (g := g) (b := fun z ρ g => match asg (.var 4) z ρ with | some ρ' => exs (callN tblT (m + 1)) [.app [] 2 (.bi .tuple [.comp2 [5, 6] [6] (.var 5) (.bvar 3) (.lit (.bl true)) (.var 6) (.var 4) (.lit (.bl true)) (.call 0 [.var 5, .var 6])])] ρ' g | none => none) (v := fun l => tN 2 fun k => gD (B l k)) (I := fun l ρ => ∃ v4, ρ = [.val (tbD n A), .val (tbD 2 B), .own (lN (2 * i + l) row), .val (tN n fun k => gD (A i k)), v4, .no, .no]) (ρ := [.val (tbD n A), .val (tbD 2 B), .own (lN (2 * i) row), .val (tN n fun k => gD (A i k)), v4, .no, .no]) ⟨v4, rfl⟩ (by
      rintro l hl _ ⟨v4, rfl⟩
      refine ⟨[.val (tbD n A), .val (tbD 2 B), .own (lN (2 * i + (l + 1)) row), .val (tN n fun k => gD (A i k)), .val (tN 2 fun k => gD (B l k)), .no, .no], ?_, _, rfl⟩
      rw [show 2 * i + (l + 1) = 2 * i + l + 1 by omega, lN_succ]
      refine exs_one (ex_app1 (z := row (2 * i + l)) (ev_b1 (ev_c2N (n := n) (s := tN n fun k => gD (A i k)) (s2 := tN 2 fun k => gD (B l k)) (v := fun k => gD (A i k)) (u := fun k => gD (B l k)) (w := fun c => gD (kr A B (2 * i + l) c)) (ev_bv rfl) rfl (by omega) (fun a ha => ev_v rfl) rfl fun a b ha hb => ?_) rfl) rfl (by rw [lN_len]; unfold sizeLine; omega))
      have e : kr A B (2 * i + l) (2 * a + b) = A i a * B l b := by
        unfold kr
        rw [show (2 * i + l) / 2 = i by omega, show (2 * i + l) % 2 = l by omega, show (2 * a + b) / 2 = a by omega, show (2 * a + b) % 2 = b by omega]
      rw [e]
      exact ev_c2 (ev_v rfl) (ev_v rfl) (t_mul (m := m) (hs.imp (fun h => h i a hi ha) fun h => h l b hl hb)))
    exact ⟨_, exs_one ((ex_forE (s := tbD 2 B) (ev_v rfl) rfl).trans e1), _, _, rfl⟩)
  refine (exs_cons ((ex_forE (s := tbD n A) (ev_v rfl) rfl).trans e1)).trans ?_
  exact exs_ret (ex_ret1 (ev_b1 (ev_bo rfl) rfl))
/-! the told units -/
theorem smT_one {n : Nat} {A : Tb} (h : ∀ i j, oneG (A i j)) : smT n A := fun i j _ _ => by
  have := h i j
  unfold oneG at this
  unfold smG
  omega
theorem sm2_qa {a k : Nat} : smT 2 (qa a k) := fun i j hi hj => by
  have := one_qa a k i j hi hj
  unfold oneG at this
  unfold smG
  omega
abbrev lFi : D := .tup [.tup [.tup [.int 0, .int 0], .tup [.int 1, .int 0]], .tup [.tup [.int 1, .int 0], .tup [.int 0, .int 0]]]
abbrev lSe : D := .tup [.tup [.tup [.int 0, .int 0], .tup [.int 0, .int (-1)]], .tup [.tup [.int 0, .int 1], .tup [.int 0, .int 0]]]
abbrev lTh : D := .tup [.tup [.tup [.int 1, .int 0], .tup [.int 0, .int 0]], .tup [.tup [.int 0, .int 0], .tup [.int (-1), .int 0]]]
abbrev lPl : D := .tup [.tup [.tup [.int 1, .int 0], .tup [.int 0, .int 0]], .tup [.tup [.int 0, .int 0], .tup [.int 1, .int 0]]]
theorem eFi : lFi = tbD 2 tFi := rfl
theorem eSe : lSe = tbD 2 tSe := rfl
theorem eTh : lTh = tbD 2 tTh := rfl
theorem ePl : lPl = tbD 2 tPl := rfl
theorem one_D {q : Nat → Tb} : (.tup [.tup [.tup [.int 1, .int 0]]] : D) = tbD (2 ^ 0) (ch q 0) := rfl
theorem t_krP {p k : Nat} {q : Nat → Tb} (hk : k < 6) (hs : smT 2 (q k)) : callN tblT (m + 2) 6 [tbD (2 ^ k) (ch q k), tbD 2 (q k)] g = some (tbD (2 ^ (k + 1)) (ch q (k + 1)), g) := by
  rw [Nat.pow_succ, Nat.mul_comm]
  refine t_kr ?_ (.inr hs)
  exact Nat.le_trans (Nat.pow_le_pow_right (by decide) (show k ≤ 6 by omega)) (by decide)
def uBody : List S := [.asg [] (.var 7) (.ite (.cmp .lt (.bvar 6) (.bvar 3)) (.lit lTh) (.ite (.cmp .eq (.bvar 6) (.bvar 3)) (.var 4) (.lit lPl))), .asg [] (.var 5) (.call 6 [.var 5, .var 7])]
def uMid : List S := [.asg [] (.var 5) (.tup [.tup [.lit (.tup [.int 1, .int 0])]]), .for [] (.var 6) (.bi .range1 [.bvar 1]) uBody, .app [] 2 (.var 5)]
def uOut : List S := [.for [] (.var 4) (.tup [.lit lFi, .lit lSe]) uMid]
theorem units_eq : b_units = [.asg [] (.var 1) (.bin .fdiv (.bin .add (.bvar 0) (.lit (.int 1))) (.lit (.int 2))), .own [] 2 (.lst []), .for [] (.var 3) (.bi .range1 [.bvar 1]) uOut, .ret [] (.cut (.bvar 2) (.nop) (.bvar 0))] := rfl
theorem t_units {c p : Nat} (hc : c ≤ 6) (hp : p = (c + 1) / 2) : callN tblT (m + 3) 9 [nD c] g = some (lsN c fun a => tbD (2 ^ p) (uT p a), g) := by
  have hp4 : p ≤ 3 := by omega
  rw [c_units, units_eq]
  let un : Nat → D := fun a => tbD (2 ^ p) (uT p a)
  refine run_ret rfl ?_
  refine (exs_cons (ex_asg1 (z := nD p) (ev_bin2 (ev_bin2 (ev_bv rfl) ev_lit (add_nat (b := 1))) ev_lit (by rw [hp]; exact div2_nat)))).trans ?_
  refine (exs_cons (ex_ownE (ev_lst evs_nil))).trans ?_
  obtain ⟨ρ', e1, v3, v4, v5, v6, v7, rfl⟩ := for_rngI (n := p) (g := g) (b := fun z ρ g => match asg (.var 3) z ρ with | some ρ' => exs (callN tblT (m + 2)) uOut ρ' g | none => none) (v := nD) (I := fun i ρ => ∃ v3 v4 v5 v6 v7, ρ = [.val (nD c), .val (nD p), .own (lN (2 * i) un), v3, v4, v5, v6, v7]) (ρ := [.val (nD c), .val (nD p), .own [], .no, .no, .no, .no, .no]) ⟨.no, .no, .no, .no, .no, rfl⟩ (by
    rintro i hi _ ⟨v3, v4, v5, v6, v7, rfl⟩
    obtain ⟨ρ', e1, v4', v5', v6', v7', rfl⟩ := for_rngI (n := 2) (g := g) (b := fun z ρ g => match asg (.var 4) z ρ with | some ρ' => exs (callN tblT (m + 2)) uMid ρ' g | none => none) (v := fun l => if l = 0 then lFi else lSe) (I := fun l ρ => ∃ v4 v5 v6 v7, ρ = [.val (nD c), .val (nD p), .own (lN (2 * i + l) un), .val (nD i), v4, v5, v6, v7]) (ρ := [.val (nD c), .val (nD p), .own (lN (2 * i) un), .val (nD i), v4, v5, v6, v7]) ⟨_, _, _, _, rfl⟩ (by
      rintro l hl _ ⟨v4, v5, v6, v7, rfl⟩
      have hm : (if l = 0 then lFi else lSe) = tbD 2 (if l = 0 then tFi else tSe) := by
        split
        · exact eFi
        · exact eSe
      rw [hm]
      show ∃ ρ', exs (callN tblT (m + 2)) uMid [.val (nD c), .val (nD p), .own (lN (2 * i + l) un), .val (nD i), .val (tbD 2 (if l = 0 then tFi else tSe)), v5, v6, v7] g = _ ∧ _
      obtain ⟨ρ', e2, v6', v7', rfl⟩ := for_rngI (n := p) (g := g) (b := fun z ρ g => match asg (.var 6) z ρ with | some ρ' => exs (callN tblT (m + 2)) uBody ρ' g | none => none) (v := nD) (I := fun k ρ => ∃ v6 v7, ρ = [.val (nD c), .val (nD p), .own (lN (2 * i + l) un), .val (nD i), .val (tbD 2 (if l = 0 then tFi else tSe)), .val (tbD (2 ^ k) (ch (qa (2 * i + l)) k)), v6, v7]) (ρ := [.val (nD c), .val (nD p), .own (lN (2 * i + l) un), .val (nD i), .val (tbD 2 (if l = 0 then tFi else tSe)), .val (tbD (2 ^ 0) (ch (qa (2 * i + l)) 0)), v6, v7]) ⟨_, _, rfl⟩ (by
        rintro k hk _ ⟨v6, v7, rfl⟩
        show ∃ ρ', exs (callN tblT (m + 2)) uBody [.val (nD c), .val (nD p), .own (lN (2 * i + l) un), .val (nD i), .val (tbD 2 (if l = 0 then tFi else tSe)), .val (tbD (2 ^ k) (ch (qa (2 * i + l)) k)), .val (nD k), v7] g = _ ∧ _
        have eq_ : ev (callN tblT (m + 2)) (.ite (.cmp .lt (.bvar 6) (.bvar 3)) (.lit lTh) (.ite (.cmp .eq (.bvar 6) (.bvar 3)) (.var 4) (.lit lPl))) [.val (nD c), .val (nD p), .own (lN (2 * i + l) un), .val (nD i), .val (tbD 2 (if l = 0 then tFi else tSe)), .val (tbD (2 ^ k) (ch (qa (2 * i + l)) k)), .val (nD k), v7] g = some (tbD 2 (qa (2 * i + l) k), g) := by
          unfold qa
          rw [show (2 * i + l) / 2 = i by omega, show (2 * i + l) % 2 = l by omega]
          by_cases h1 : k < i
          · rw [if_pos h1]
            exact ev_ite1 (ev_cmp2 (ev_bv rfl) (ev_bv rfl) lt_nat) (by rw [decide_eq_true h1]; rfl) (ev_lit (d := tbD 2 tTh))
          · rw [if_neg h1]
            refine ev_ite0 (ev_cmp2 (ev_bv rfl) (ev_bv rfl) lt_nat) (by rw [decide_eq_false h1]; rfl) ?_
            by_cases h2 : k = i
            · rw [if_pos h2]
              exact ev_ite1 (ev_cmp2 (ev_bv rfl) (ev_bv rfl) eq_nat) (by rw [decide_eq_true h2]; rfl) (ev_v rfl)
            · rw [if_neg h2]
              exact ev_ite0 (ev_cmp2 (ev_bv rfl) (ev_bv rfl) eq_nat) (by rw [decide_eq_false h2]; rfl) (ev_lit (d := tbD 2 tPl))
        exact ⟨_, (exs_cons (ex_asg1 eq_)).trans (exs_one (ex_asg1 (ev_c2 (ev_v rfl) (ev_v rfl) (t_krP (m := m) (p := p) (by omega) sm2_qa)))), _, _, rfl⟩)
      refine ⟨[.val (nD c), .val (nD p), .own (lN (2 * i + (l + 1)) un), .val (nD i), .val (tbD 2 (if l = 0 then tFi else tSe)), .val (tbD (2 ^ p) (ch (qa (2 * i + l)) p)), v6', v7'], ?_, _, _, _, _, rfl⟩
      rw [show 2 * i + (l + 1) = 2 * i + l + 1 by omega, lN_succ]
      refine (exs_cons (ex_asg1 (z := tbD (2 ^ 0) (ch (qa (2 * i + l)) 0)) (ev_tup (evs_cons (ev_tup (evs_cons ev_lit evs_nil)) evs_nil)))).trans ?_
      refine (exs_cons ((ex_forE (ev_b1 (ev_bv rfl) (rng_lN (by omega))) rfl).trans e2)).trans ?_
      exact exs_one (ex_app1 (ev_v rfl) rfl (by rw [lN_len]; unfold sizeLine; omega)))
    exact ⟨_, exs_one ((ex_forE (s := .tup [lFi, lSe]) (ev_tup (evs_cons ev_lit (evs_cons ev_lit evs_nil))) rfl).trans e1), _, _, _, _, _, rfl⟩)
  refine (exs_cons ((ex_forE (ev_b1 (ev_bv rfl) (rng_lN (by omega))) rfl).trans e1)).trans ?_
  exact exs_ret (ex_ret1 (ev_cutH rfl (ev_bo rfl) (ev_bv rfl) (cutH_ls (by omega))))
theorem t_last {p : Nat} (hp : p ≤ 4) : callN tblT (m + 3) 10 [nD p] g = some (tbD (2 ^ p) (uT p (2 * p)), g) := by
  rw [c_last_unit, b_last_unit]
  refine run_ret rfl ?_
  refine (exs_cons (ex_asg1 (z := tbD (2 ^ 0) (ch (qa (2 * p)) 0)) (ev_tup (evs_cons (ev_tup (evs_cons ev_lit evs_nil)) evs_nil)))).trans ?_
  obtain ⟨ρ', e1, v2, rfl⟩ := for_rngI (n := p) (g := g) (b := fun z ρ g => match asg (.var 2) z ρ with | some ρ' => exs (callN tblT (m + 2)) [.asg [] (.var 1) (.call 6 [.var 1, .lit lTh])] ρ' g | none => none) (v := nD) (I := fun k ρ => ∃ v2, ρ = [.val (nD p), .val (tbD (2 ^ k) (ch (qa (2 * p)) k)), v2]) (ρ := [.val (nD p), .val (tbD (2 ^ 0) (ch (qa (2 * p)) 0)), .no]) ⟨_, rfl⟩ (by
    rintro k hk _ ⟨v2, rfl⟩
    have e : qa (2 * p) k = tTh := by
      unfold qa
      rw [if_pos (by omega)]
    have := t_krP (m := m) (g := g) (p := p) (q := qa (2 * p)) (k := k) (by omega) sm2_qa
    rw [e] at this
    exact ⟨_, exs_one (ex_asg1 (ev_c2 (ev_v rfl) (ev_lit (d := tbD 2 tTh)) this)), _, rfl⟩)
  refine (exs_cons ((ex_forE (ev_b1 (ev_bv rfl) (rng_lN (by omega))) rfl).trans e1)).trans ?_
  exact exs_ret (ex_ret1 (ev_v rfl))
end
end Tv

/-! K78r: what exchanges with a sign, with told squares; the law's own functions; draws. -/
namespace Tv
open PySem PyProof.Rows
/-- a loop of checks that ends with False at the first that fails -/
theorem for_chk {b : D → Env → GS → Option (R × GS)} {v : Nat → D} {g : GS} {I : Env → Prop} {P : Nat → Bool} : ∀ {l : List Nat} {ρ : Env}, I ρ → (∀ i ∈ l, ∀ ρ, I ρ → (P i = true → ∃ ρ', b (v i) ρ g = some (.nx ρ', g) ∧ I ρ') ∧ (P i = false → b (v i) ρ g = some (.rt (.bl false), g))) → (l.all P = true → ∃ ρ', forL b (l.map v) ρ g = some (.nx ρ', g) ∧ I ρ') ∧ (l.all P = false → forL b (l.map v) ρ g = some (.rt (.bl false), g))
  | [], ρ, h0, _ => ⟨fun _ => ⟨ρ, rfl, h0⟩, fun h => by cases h⟩
  | i :: l, ρ, h0, h => by
    have h1 := h i (List.mem_cons_self ..) ρ h0
    rw [List.map_cons, List.all_cons]
    cases hp : P i with
    | true =>
      obtain ⟨ρ', e, I'⟩ := h1.1 hp
      rw [for_step e, Bool.true_and]
      exact for_chk I' fun j hj => h j (List.mem_cons_of_mem _ hj)
    | false =>
      rw [for_ret (h1.2 hp), Bool.false_and]
      exact ⟨(fun z => by cases z), fun _ => rfl⟩
theorem scl0 {n : Nat} {A : Tb} : eqT n A (scl 0 idT) = eqT n A fun _ _ => 0 := eqT_congr (fun _ _ _ _ => rfl) fun i j _ _ => by
  unfold scl
  grind
section
variable {m : Nat} {g : GS}
theorem sm_re {s : Int} (h : s = 1 ∨ s = -1) : smG (Gi.re s) := by
  unfold smG
  rcases h with rfl | rfl <;> decide
theorem sm_zero : smG 0 := by unfold smG; decide
def exIn : List S := [.ifs (.cmp .ne (.call 3 [.call 2 [.var 3, .var 4], .call 2 [.var 4, .var 3]]) (.call 4 [.call 7 [.bi .len [.bvar 3]], .lit (.tup [.int 0, .int 0])])) [.ret [] (.lit (.bl false))] []]
def exOut : List S := [.ifs (.cmp .ne (.call 2 [.var 3, .var 3]) (.call 4 [.call 7 [.bi .len [.bvar 3]], .tup [.idx (.bvar 1) (.bvar 2), .lit (.int 0)]])) [.ret [] (.lit (.bl false))] [], .for [] (.var 4) (.cut (.bvar 0) (.nop) (.bvar 2)) exIn]
theorem exch_eq : b_do_exchange = [.for [] (.tup [.var 2, .var 3]) (.bi .enum [.var 0]) exOut, .ret [] (.lit (.bl true))] := rfl
theorem t_exch {n mm' k : Nat} {t : Nat → Tb} {s : Nat → Int} (h0 : 0 < n) (hn : n ≤ 100) (ht : ∀ a, a < mm' → smT n (t a)) (hs : ∀ a, a < mm' → s a = 1 ∨ s a = -1) (hk : mm' ≤ k) : callN tblT (m + 3) 11 [lsN mm' fun a => tbD n (t a), tN k fun a => .int (s a)] g = some (.bl (fitB n mm' t s), g) := by
  rw [c_do_exchange, exch_eq]
  have body : ∀ a, a < mm' → ∀ u2 u3 u4 : SV, (fitR n t s a = true → ∃ u4', exs (callN tblT (m + 2)) exOut [.val (lsN mm' fun a => tbD n (t a)), .val (tN k fun a => .int (s a)), .val (nD a), .val (tbD n (t a)), u4] g = some (.nx [.val (lsN mm' fun a => tbD n (t a)), .val (tN k fun a => .int (s a)), .val (nD a), .val (tbD n (t a)), u4'], g)) ∧ (fitR n t s a = false → exs (callN tblT (m + 2)) exOut [.val (lsN mm' fun a => tbD n (t a)), .val (tN k fun a => .int (s a)), .val (nD a), .val (tbD n (t a)), u4] g = some (.rt (.bl false), g)) := by
    intro a ha u2 u3 u4
    have e1 : ev (callN tblT (m + 2)) (.cmp .ne (.call 2 [.var 3, .var 3]) (.call 4 [.call 7 [.bi .len [.bvar 3]], .tup [.idx (.bvar 1) (.bvar 2), .lit (.int 0)]])) [.val (lsN mm' fun a => tbD n (t a)), .val (tN k fun a => .int (s a)), .val (nD a), .val (tbD n (t a)), u4] g = some (.bl (!eqT n (mm n (t a) (t a)) (scl (Gi.re (s a)) idT)), g) :=
      ev_cmp2 (ev_c2 (ev_v rfl) (ev_v rfl) (t_mm (m := m) h0 hn (.inl (ht a ha)))) (ev_c2 (ev_c1 (ev_b1 (ev_bv rfl) len_tN) (t_plain (m := m + 1) hn)) (y := gD (Gi.re (s a))) (ev_tup (evs_cons (ev_idx2 (ev_bv rfl) (ev_bv rfl) (idx_tN (by omega))) (evs_cons ev_lit evs_nil))) (t_scl (m := m) hn (.inl (sm_re (hs a ha))))) ne_tbD
    have inn := for_chk (b := fun z ρ g => match asg (.var 4) z ρ with | some ρ' => exs (callN tblT (m + 2)) exIn ρ' g | none => none) (v := fun b => tbD n (t b)) (g := g) (I := fun ρ => ∃ u4, ρ = [.val (lsN mm' fun a => tbD n (t a)), .val (tN k fun a => .int (s a)), .val (nD a), .val (tbD n (t a)), u4]) (P := fun b => eqT n (plT (mm n (t a) (t b)) (mm n (t b) (t a))) fun _ _ => 0) (l := List.range a) (ρ := [.val (lsN mm' fun a => tbD n (t a)), .val (tN k fun a => .int (s a)), .val (nD a), .val (tbD n (t a)), u4]) ⟨_, rfl⟩ (by
      rintro b hb _ ⟨u4, rfl⟩
      have hb' := List.mem_range.mp hb
      have e2 : ev (callN tblT (m + 2)) (.cmp .ne (.call 3 [.call 2 [.var 3, .var 4], .call 2 [.var 4, .var 3]]) (.call 4 [.call 7 [.bi .len [.bvar 3]], .lit (.tup [.int 0, .int 0])])) [.val (lsN mm' fun a => tbD n (t a)), .val (tN k fun a => .int (s a)), .val (nD a), .val (tbD n (t a)), .val (tbD n (t b))] g = some (.bl (!eqT n (plT (mm n (t a) (t b)) (mm n (t b) (t a))) fun _ _ => 0), g) := by
        rw [← scl0]
        exact ev_cmp2 (ev_c2 (ev_c2 (ev_v rfl) (ev_v rfl) (t_mm (m := m) h0 hn (.inl (ht a ha)))) (ev_c2 (ev_v rfl) (ev_v rfl) (t_mm (m := m) h0 hn (.inr (ht a ha)))) (t_pl (m := m) hn)) (ev_c2 (ev_c1 (ev_b1 (ev_bv rfl) len_tN) (t_plain (m := m + 1) hn)) (y := gD 0) ev_lit (t_scl (m := m) hn (.inl sm_zero))) ne_tbD
      refine ⟨fun hp => ?_, fun hp => ?_⟩
      · rw [hp] at e2
        exact ⟨_, exs_one (ex_if0 e2 rfl), _, rfl⟩
      · rw [hp] at e2
        exact exs_ret (ex_if1 e2 rfl (exs_ret (ex_ret1 ev_lit))))
    have ec : ev (callN tblT (m + 2)) (.cut (.bvar 0) (.nop) (.bvar 2)) [.val (lsN mm' fun a => tbD n (t a)), .val (tN k fun a => .int (s a)), .val (nD a), .val (tbD n (t a)), u4] g = some (lsN a fun a => tbD n (t a), g) := ev_cutH rfl (ev_bv rfl) (ev_bv rfl) (cutH_ls (by omega))
    unfold fitR
    cases h1 : eqT n (mm n (t a) (t a)) (scl (Gi.re (s a)) idT) with
    | false =>
      rw [h1] at e1
      exact ⟨(fun z => by cases z), fun _ => exs_ret (ex_if1 e1 rfl (exs_ret (ex_ret1 ev_lit)))⟩
    | true =>
      rw [h1] at e1
      rw [Bool.true_and]
      refine ⟨fun hp => ?_, fun hp => ?_⟩
      · obtain ⟨ρ', e3, u4', rfl⟩ := inn.1 hp
        exact ⟨_, (exs_cons (ex_if0 e1 rfl)).trans (exs_one ((ex_forE ec rfl).trans e3))⟩
      · exact (exs_cons (ex_if0 e1 rfl)).trans (exs_ret ((ex_forE ec rfl).trans (inn.2 hp)))
  have out := for_chk (b := fun z ρ g => match asg (.tup [.var 2, .var 3]) z ρ with | some ρ' => exs (callN tblT (m + 2)) exOut ρ' g | none => none) (v := fun a => .tup [nD a, tbD n (t a)]) (g := g) (I := fun ρ => ∃ u2 u3 u4, ρ = [.val (lsN mm' fun a => tbD n (t a)), .val (tN k fun a => .int (s a)), u2, u3, u4]) (P := fitR n t s) (l := List.range mm') (ρ := [.val (lsN mm' fun a => tbD n (t a)), .val (tN k fun a => .int (s a)), .no, .no, .no]) ⟨_, _, _, rfl⟩ (by
    rintro a ha _ ⟨u2, u3, u4, rfl⟩
    have hb := body a (List.mem_range.mp ha) u2 u3 u4
    refine ⟨fun hp => ?_, fun hp => hb.2 hp⟩
    obtain ⟨u4', e⟩ := hb.1 hp
    exact ⟨_, e, _, _, _, rfl⟩)
  have ee : ev (callN tblT (m + 2)) (.bi .enum [.var 0]) [.val (lsN mm' fun a => tbD n (t a)), .val (tN k fun a => .int (s a)), .no, .no, .no] g = some (lsN mm' fun a => .tup [nD a, tbD n (t a)], g) := ev_b1 (ev_v rfl) enum_ls
  refine run_ret rfl ?_
  unfold fitB
  cases h : (List.range mm').all (fitR n t s) with
  | true =>
    obtain ⟨ρ', e1, u2, u3, u4, rfl⟩ := out.1 h
    exact (exs_cons ((ex_forE ee rfl).trans e1)).trans (exs_ret (ex_ret1 ev_lit))
  | false => exact exs_ret ((ex_forE ee rfl).trans (out.2 h))
theorem t_with {c p : Nat} {s : Nat → Int} (hc : c ≤ 6) (hp : p = (c + 1) / 2) : callN tblT (m + 4) 12 [tN c fun a => .int (s a)] g = some (lsN c fun a => tbD (2 ^ p) (told p s a), g) := by
  have hp8 : 2 ^ p ≤ 100 := Nat.le_trans (Nat.pow_le_pow_right (by decide) (show p ≤ 6 by omega)) (by decide)
  rw [c_with_squares]
  refine run_ret rfl (exs_ret (ex_ret1 ?_))
  refine ev_cN2 (n := c) (u := fun a => tbD (2 ^ p) (uT p a)) (v := fun a => .int (s a)) (ev_b2 (ev_c1 (ev_b1 (ev_bv rfl) len_tN) (t_units (m := m) hc hp)) (ev_v rfl) zip_lt) rfl (by omega) fun a ha => ?_
  have e2 : ∀ (i : Nat) {ρ : Env}, ρ[2]? = some (.val (.int (s a))) → ev (callN tblT (m + 3)) (.ite (.cmp .lt (.bvar 2) (.lit (.int 0))) (.lit (.tup [.int 0, .int 1])) (.lit (.tup [.int 1, .int 0]))) ρ g = some (gD (sqG (s a)), g) := fun i ρ h => by
    have hl : cmpD .lt (.int (s a)) (.int 0) = some (.bl (decide (s a < 0))) := rfl
    unfold sqG
    by_cases z : s a < 0
    · rw [if_pos z]
      exact ev_ite1 (ev_cmp2 (ev_bv h) ev_lit hl) (by rw [decide_eq_true z]; rfl) (ev_lit (d := gD Gi.im))
    · rw [if_neg z]
      exact ev_ite0 (ev_cmp2 (ev_bv h) ev_lit hl) (by rw [decide_eq_false z]; rfl) (ev_lit (d := gD 1))
  exact ev_c2 (ev_v rfl) (e2 0 rfl) (t_scl (m := m + 1) hp8 (.inr (smT_one (one_un p a))))
/-- the product of the tables of a lot -/
def lotT (n : Nat) (t : Nat → Tb) : Nat → (Nat → Nat) → Tb
  | 0, _ => idT
  | k + 1, js => mm n (lotT n t k js) (t (js k))
theorem t_lot {n mm' k : Nat} {t : Nat → Tb} {js : Nat → Nat} (h0 : 0 < n) (hn : n ≤ 100) (ht : ∀ a, a < mm' → smT n (t a)) (hm : 0 < mm') (hj : ∀ i, i < k → js i < mm') : callN tblT (m + 3) 13 [lsN mm' fun a => tbD n (t a), tN k fun i => nD (js i)] g = some (tbD n (lotT n t k js), g) := by
  rw [c_lot_table, b_lot_table]
  refine run_ret rfl ?_
  refine (exs_cons (ex_asg1 (ev_c1 (ev_b1 (ev_idx2 (ev_bv rfl) (ev_lit (d := nD 0)) (idx_lsN hm)) len_tN) (t_plain (m := m + 1) hn)))).trans ?_
  obtain ⟨ρ', e1, v3, rfl⟩ := for_rngI (n := k) (g := g) (b := fun z ρ g => match asg (.var 3) z ρ with | some ρ' => exs (callN tblT (m + 2)) [.asg [] (.var 2) (.call 2 [.var 2, .idx (.bvar 0) (.bvar 3)])] ρ' g | none => none) (v := fun i => nD (js i)) (I := fun i ρ => ∃ v3, ρ = [.val (lsN mm' fun a => tbD n (t a)), .val (tN k fun i => nD (js i)), .val (tbD n (lotT n t i js)), v3]) (ρ := [.val (lsN mm' fun a => tbD n (t a)), .val (tN k fun i => nD (js i)), .val (tbD n idT), .no]) ⟨_, rfl⟩ (by
    rintro i hi _ ⟨v3, rfl⟩
    exact ⟨_, exs_one (ex_asg1 (ev_c2 (ev_v rfl) (ev_idx2 (ev_bv rfl) (ev_bv rfl) (idx_lsN (hj i hi))) (t_mm (m := m) h0 hn (.inr (ht _ (hj i hi)))))), _, rfl⟩)
  refine (exs_cons ((ex_forE (s := tN k fun i => nD (js i)) (ev_v rfl) rfl).trans e1)).trans ?_
  exact exs_ret (ex_ret1 (ev_v rfl))
/-! the law's own -/
theorem t_exact {n : Nat} {d : D} (hn : n ≤ m) (h : exOk n d) : callN tblT (m + 1) 16 [d, d] g = some (.bl true, g) := exact_all (f := 16) c__law_exact n m d g hn h
theorem exOks_lN {n k : Nat} {f : Nat → D} (h : ∀ i, i < n → exOk k (f i)) : exOks k (lN n f) := by
  unfold lN
  have : ∀ l : List Nat, (∀ i ∈ l, exOk k (f i)) → exOks k (l.map f) := by
    intro l
    induction l with
    | nil => intro _; rw [List.map_nil]; unfold exOks; trivial
    | cons x l ih =>
      intro h
      rw [List.map_cons]
      unfold exOks
      exact ⟨h x (List.mem_cons_self ..), ih fun i hi => h i (List.mem_cons_of_mem _ hi)⟩
  exact this _ fun i hi => h i (List.mem_range.mp hi)
theorem ex_tN {n k : Nat} {f : Nat → D} (hn : n < 1000) (h : ∀ i, i < n → exOk k (f i)) : exOk (k + 1) (tN n f) := by
  unfold tN
  rw [exOk]
  exact ⟨by rw [lN_len]; exact hn, exOks_lN h⟩
theorem ex_gD {k : Nat} {z : Gi} : exOk (k + 1) (gD z) := by simp [exOk, exOks]
theorem ex_tbD {n k : Nat} {A : Tb} (hn : n < 1000) : exOk (k + 3) (tbD n A) := ex_tN hn fun i hi => ex_tN hn fun j hj => ex_gD
theorem t_two {c : Nat} (hc : c ≤ 60) : callN tblT (m + 1) 17 [nD c] g = some (nD (2 ^ c), g) := by
  rw [c__law_two, b__law_two]
  refine run_ret rfl ?_
  refine (exs_cons (ex_asg1 (z := nD 1) ev_lit)).trans ?_
  obtain ⟨ρ', e1, v2, rfl⟩ := for_rngI (n := c) (g := g) (b := fun z ρ g => match asg (.var 2) z ρ with | some ρ' => exs (callN tblT m) [.asg [] (.var 1) (.bin .mul (.lit (.int 2)) (.bvar 1))] ρ' g | none => none) (v := nD) (I := fun i ρ => ∃ v2, ρ = [.val (nD c), .val (nD (2 ^ i)), v2]) (ρ := [.val (nD c), .val (nD 1), .no]) ⟨.no, by rw [Nat.pow_zero]⟩ (by
    rintro i hi _ ⟨v2, rfl⟩
    refine ⟨_, exs_one (ex_asg1 (z := nD (2 ^ (i + 1))) (ev_bin2 ev_lit (ev_bv rfl) ?_)), _, rfl⟩
    rw [mul_l (a := 2) (by decide), Nat.pow_succ, Nat.mul_comm]
    rfl)
  refine (exs_cons ((ex_forE (ev_b1 (ev_bv rfl) (rng_lN (by omega))) rfl).trans e1)).trans ?_
  exact exs_ret (ex_ret1 (ev_v rfl))
def lmIn : List S := [.own [] 6 (.comp [7] (.var 7) (.bi .range1 [.bi .len [.bvar 1]]) (.lit (.bl true)) (.call 18 [.idx (.bvar 3) (.bvar 7), .idx (.idx (.bvar 1) (.bvar 7)) (.bvar 5)])), .app [] 4 (.tup [.bi .sum [.comp [8] (.var 8) (.bvar 6) (.lit (.bl true)) (.idx (.bvar 8) (.lit (.int 0)))], .bi .sum [.comp [8] (.var 8) (.bvar 6) (.lit (.bl true)) (.idx (.bvar 8) (.lit (.int 1)))]])]
def lmOut : List S := [.own [] 4 (.lst []), .for [] (.var 5) (.bi .range1 [.bi .len [.idx (.bvar 1) (.lit (.int 0))]]) lmIn, .app [] 2 (.bi .tuple [.bvar 4])]
theorem lm_eq : b__law_table_times = [.own [] 2 (.lst []), .for [] (.var 3) (.var 0) lmOut, .ret [] (.bi .tuple [.bvar 2])] := rfl
theorem t_lmm {n : Nat} {A B : Tb} (h0 : 0 < n) (hn : n ≤ 100) (hs : smT n A ∨ smT n B) : callN tblT (m + 2) 19 [tbD n A, tbD n B] g = some (tbD n (mm n A B), g) := by
  rw [c__law_table_times, lm_eq]
  have hk : ∀ i j k, i < n → j < n → k < n → smG (A i k) ∨ smG (B k j) := fun i j k hi hj hk => hs.imp (fun h => h i k hi hk) (fun h => h k j hk hj)
  let row : Nat → D := fun i => tN n fun j => gD (mm n A B i j)
  refine run_ret rfl ?_
  refine (exs_cons (ex_ownE (ev_lst evs_nil))).trans ?_
  obtain ⟨ρ', e1, v3, v4, v5, v6, rfl⟩ := for_rngI (n := n) (g := g) (b := fun z ρ g => match asg (.var 3) z ρ with | some ρ' => exs (callN tblT (m + 1)) lmOut ρ' g | none => none) (v := fun i => tN n fun k => gD (A i k)) (I := fun i ρ => ∃ v3 v4 v5 v6, ρ = [.val (tbD n A), .val (tbD n B), .own (lN i row), v3, v4, v5, v6, .no, .no]) (ρ := [.val (tbD n A), .val (tbD n B), .own [], .no, .no, .no, .no, .no, .no]) ⟨_, _, _, _, rfl⟩ (by
    rintro i hi _ ⟨v3, v4, v5, v6, rfl⟩
    show ∃ ρ', exs (callN tblT (m + 1)) lmOut [.val (tbD n A), .val (tbD n B), .own (lN i row), .val (tN n fun k => gD (A i k)), v4, v5, v6, .no, .no] g = _ ∧ _
    obtain ⟨ρ', e2, v5', v6', rfl⟩ := for_rngI (n := n) (g := g) (b := fun z ρ g => match asg (.var 5) z ρ with | some ρ' => exs (callN tblT (m + 1)) lmIn ρ' g | none => none) (v := nD) (I := fun j ρ => ∃ v5 v6, ρ = [.val (tbD n A), .val (tbD n B), .own (lN i row), .val (tN n fun k => gD (A i k)), .own (lN j fun j => gD (mm n A B i j)), v5, v6, .no, .no]) (ρ := [.val (tbD n A), .val (tbD n B), .own (lN i row), .val (tN n fun k => gD (A i k)), .own [], v5, v6, .no, .no]) ⟨_, _, rfl⟩ (by
      rintro j hj _ ⟨v5, v6, rfl⟩
      refine ⟨[.val (tbD n A), .val (tbD n B), .own (lN i row), .val (tN n fun k => gD (A i k)), .own (lN (j + 1) fun j => gD (mm n A B i j)), .val (nD j), .own (lN n fun k => gD (A i k * B k j)), .no, .no], ?_, _, _, rfl⟩
      rw [lN_succ]
      refine (exs_cons (ex_ownE (ev_cN (n := n) (v := nD) (w := fun k => gD (A i k * B k j)) (ev_b1 (ev_b1 (ev_bv rfl) len_tN) (rng_lN (by omega))) rfl (by omega) fun k hkn => ev_c2 (ev_idx2 (ev_bv rfl) (ev_bv rfl) (idx_tN hkn)) (ev_idx2 (ev_idx2 (ev_bv rfl) (ev_bv rfl) (idx_tN (f := fun k => tN n fun j => gD (B k j)) hkn)) (ev_bv rfl) (idx_tN hj)) (t_lmul (m := m) (hk i j k hi hj hkn))))).trans ?_
      exact exs_one (ex_app1 (sums_ev (n := n) (z := fun k => A i k * B k j) (s := lsN n fun k => gD (A i k * B k j)) (by omega) (by simp) (ev_bo rfl) rfl) rfl (by rw [lN_len]; unfold sizeLine; omega)))
    refine ⟨[.val (tbD n A), .val (tbD n B), .own (lN (i + 1) row), .val (tN n fun k => gD (A i k)), .own (lN n fun j => gD (mm n A B i j)), v5', v6', .no, .no], ?_, _, _, _, _, rfl⟩
    rw [lN_succ]
    refine (exs_cons (ex_ownE (ev_lst evs_nil))).trans ?_
    refine (exs_cons ((ex_forE (ev_b1 (ev_b1 (ev_idx2 (ev_bv rfl) (ev_lit (d := nD 0)) (idx_tN (f := fun k => tN n fun j => gD (B k j)) h0)) len_tN) (rng_lN (by omega))) rfl).trans e2)).trans ?_
    exact exs_one (ex_app1 (ev_b1 (ev_bo rfl) rfl) rfl (by rw [lN_len]; unfold sizeLine; omega)))
  refine (exs_cons ((ex_forE (s := tbD n A) (ev_v rfl) rfl).trans e1)).trans ?_
  exact exs_ret (ex_ret1 (ev_b1 (ev_bo rfl) rfl))
theorem t_lplain {n : Nat} {s : Int} (hn : n ≤ 100) : callN tblT (m + 1) 20 [nD n, .int s] g = some (tbD n (scl (Gi.re s) idT), g) := by
  rw [c__law_plain]
  refine run_ret rfl (exs_ret (ex_ret1 ?_))
  exact ev_tN (n := n) (v := nD) (ev_b1 (ev_bv rfl) (rng_lN (by omega))) rfl (by omega) fun i hi => ev_tN (n := n) (v := nD) (ev_b1 (ev_bv rfl) (rng_lN (by omega))) rfl (by omega) fun j hj => by
    unfold scl idT
    by_cases e : i = j
    · rw [if_pos e, show Gi.re s * 1 = Gi.re s by grind]
      exact ev_ite1 (ev_cmp2 (ev_bv rfl) (ev_bv rfl) eq_nat) (by rw [decide_eq_true e]; rfl) (ev_tup (evs_cons (ev_v rfl) (evs_cons ev_lit evs_nil)))
    · rw [if_neg e, show Gi.re s * 0 = 0 by grind]
      exact ev_ite0 (ev_cmp2 (ev_bv rfl) (ev_bv rfl) eq_nat) (by rw [decide_eq_false e]; rfl) (ev_tup (evs_cons ev_lit (evs_cons ev_lit evs_nil)))
theorem t_lone {n : Nat} (hn : n ≤ 100) : callN tblT (m + 1) 20 [nD n, .int 1] g = some (tbD n idT, g) := by
  rw [t_lplain hn, tbD_congr (B := idT) fun i j _ _ => by show (1 : Gi) * idT i j = idT i j; grind]
theorem t_ladd {n : Nat} {A B : Tb} (hn : n ≤ 100) : callN tblT (m + 1) 21 [tbD n A, tbD n B, .int 1] g = some (tbD n (plT A B), g) := by
  rw [c__law_added]
  refine run_ret rfl (exs_ret (ex_ret1 ?_))
  exact ev_tN (n := n) (v := nD) (ev_b1 (ev_b1 (ev_bv rfl) len_tN) (rng_lN (by omega))) rfl (by omega) fun i hi => ev_tN (n := n) (v := nD) (ev_b1 (ev_b1 (ev_bv rfl) len_tN) (rng_lN (by omega))) rfl (by omega) fun j hj => by
    have ea : ev (callN tblT m) (.idx (.idx (.bvar 0) (.bvar 3)) (.bvar 4)) [.val (tbD n A), .val (tbD n B), .val (.int 1), .val (nD i), .val (nD j)] g = some (gD (A i j), g) := ev_idx2 (ev_idx2 (ev_bv rfl) (ev_bv rfl) (idx_tN (f := fun i => tN n fun j => gD (A i j)) hi)) (ev_bv rfl) (idx_tN hj)
    have eb : ev (callN tblT m) (.idx (.idx (.bvar 1) (.bvar 3)) (.bvar 4)) [.val (tbD n A), .val (tbD n B), .val (.int 1), .val (nD i), .val (nD j)] g = some (gD (B i j), g) := ev_idx2 (ev_idx2 (ev_bv rfl) (ev_bv rfl) (idx_tN (f := fun i => tN n fun j => gD (B i j)) hi)) (ev_bv rfl) (idx_tN hj)
    have m1 : ∀ z : Int, binD .mul (.int 1) (.int z) = some (.int z) := fun z => by rw [mul_l (by decide), Int.one_mul]
    exact ev_tup (evs_cons (ev_bin2 (gD_0 ea) (ev_bin2 (ev_bv rfl) (gD_0 eb) (m1 _)) rfl) (evs_cons (ev_bin2 (gD_1 ea) (ev_bin2 (ev_bv rfl) (gD_1 eb) (m1 _)) rfl) evs_nil))
end
end Tv

/-! K78s: what fits by the law's own hand; draws. -/
namespace Tv
open PySem PyProof.Rows
section
variable {m : Nat} {g : GS}
def lfIn : List S := [.ifs (.cmp .ne (.call 21 [.call 19 [.idx (.bvar 0) (.bvar 3), .idx (.bvar 0) (.bvar 4)], .call 19 [.idx (.bvar 0) (.bvar 4), .idx (.bvar 0) (.bvar 3)], .lit (.int 1)]) (.call 20 [.var 2, .lit (.int 0)])) [.ret [] (.lit (.bl false))] []]
def lfOut : List S := [.ifs (.cmp .ne (.call 19 [.idx (.bvar 0) (.bvar 3), .idx (.bvar 0) (.bvar 3)]) (.call 20 [.var 2, .idx (.bvar 1) (.bvar 3)])) [.ret [] (.lit (.bl false))] [], .for [] (.var 4) (.bi .range1 [.bvar 3]) lfIn]
theorem lf_eq : b__law_fits = [.asg [] (.var 2) (.bi .len [.idx (.bvar 0) (.lit (.int 0))]), .for [] (.var 3) (.bi .range1 [.bi .len [.bvar 0]]) lfOut, .ret [] (.lit (.bl true))] := rfl
theorem t_fits {n mm' : Nat} {t : Nat → Tb} {s : Nat → Int} {q : D} (h0 : 0 < n) (hn : n ≤ 100) (hm0 : 0 < mm') (hm1 : mm' ≤ 1000) (ht : ∀ a, a < mm' → smT n (t a)) (hq : ∀ a, a < mm' → idxD q (nD a) = some (.int (s a))) : callN tblT (m + 3) 23 [lsN mm' fun a => tbD n (t a), q] g = some (.bl (fitB n mm' t s), g) := by
  rw [c__law_fits, lf_eq]
  have ix : ∀ {ρ : Env} {i a : Nat}, ρ[0]? = some (.val (lsN mm' fun a => tbD n (t a))) → ρ[i]? = some (.val (nD a)) → a < mm' → ev (callN tblT (m + 2)) (.idx (.bvar 0) (.bvar i)) ρ g = some (tbD n (t a), g) := fun h1 h2 h3 => ev_idx2 (ev_bv h1) (ev_bv h2) (idx_lsN (f := fun a => tbD n (t a)) h3)
  have body : ∀ a, a < mm' → ∀ u4 : SV, (fitR n t s a = true → ∃ u4', exs (callN tblT (m + 2)) lfOut [.val (lsN mm' fun a => tbD n (t a)), .val q, .val (nD n), .val (nD a), u4] g = some (.nx [.val (lsN mm' fun a => tbD n (t a)), .val q, .val (nD n), .val (nD a), u4'], g)) ∧ (fitR n t s a = false → exs (callN tblT (m + 2)) lfOut [.val (lsN mm' fun a => tbD n (t a)), .val q, .val (nD n), .val (nD a), u4] g = some (.rt (.bl false), g)) := by
    intro a ha u4
    have e1 : ev (callN tblT (m + 2)) (.cmp .ne (.call 19 [.idx (.bvar 0) (.bvar 3), .idx (.bvar 0) (.bvar 3)]) (.call 20 [.var 2, .idx (.bvar 1) (.bvar 3)])) [.val (lsN mm' fun a => tbD n (t a)), .val q, .val (nD n), .val (nD a), u4] g = some (.bl (!eqT n (mm n (t a) (t a)) (scl (Gi.re (s a)) idT)), g) :=
      ev_cmp2 (ev_c2 (ix rfl rfl ha) (ix rfl rfl ha) (t_lmm (m := m) h0 hn (.inl (ht a ha)))) (ev_c2 (ev_v rfl) (ev_idx2 (ev_bv rfl) (ev_bv rfl) (hq a ha)) (t_lplain (m := m + 1) hn)) ne_tbD
    have inn := for_chk (b := fun z ρ g => match asg (.var 4) z ρ with | some ρ' => exs (callN tblT (m + 2)) lfIn ρ' g | none => none) (v := nD) (g := g) (I := fun ρ => ∃ u4, ρ = [.val (lsN mm' fun a => tbD n (t a)), .val q, .val (nD n), .val (nD a), u4]) (P := fun b => eqT n (plT (mm n (t a) (t b)) (mm n (t b) (t a))) fun _ _ => 0) (l := List.range a) (ρ := [.val (lsN mm' fun a => tbD n (t a)), .val q, .val (nD n), .val (nD a), u4]) ⟨_, rfl⟩ (by
      rintro b hb _ ⟨u4, rfl⟩
      have hb' := List.mem_range.mp hb
      have hbm : b < mm' := by omega
      have e2 : ev (callN tblT (m + 2)) (.cmp .ne (.call 21 [.call 19 [.idx (.bvar 0) (.bvar 3), .idx (.bvar 0) (.bvar 4)], .call 19 [.idx (.bvar 0) (.bvar 4), .idx (.bvar 0) (.bvar 3)], .lit (.int 1)]) (.call 20 [.var 2, .lit (.int 0)])) [.val (lsN mm' fun a => tbD n (t a)), .val q, .val (nD n), .val (nD a), .val (nD b)] g = some (.bl (!eqT n (plT (mm n (t a) (t b)) (mm n (t b) (t a))) fun _ _ => 0), g) := by
        rw [← scl0]
        exact ev_cmp2 (ev_c3 (ev_c2 (ix rfl rfl ha) (ix rfl rfl hbm) (t_lmm (m := m) h0 hn (.inl (ht a ha)))) (ev_c2 (ix rfl rfl hbm) (ix rfl rfl ha) (t_lmm (m := m) h0 hn (.inr (ht a ha)))) ev_lit (t_ladd (m := m + 1) hn)) (ev_c2 (ev_v rfl) ev_lit (t_lplain (m := m + 1) (s := 0) hn)) ne_tbD
      refine ⟨fun hp => ?_, fun hp => ?_⟩
      · rw [hp] at e2
        exact ⟨_, exs_one (ex_if0 e2 rfl), _, rfl⟩
      · rw [hp] at e2
        exact exs_ret (ex_if1 e2 rfl (exs_ret (ex_ret1 ev_lit))))
    have ec : ev (callN tblT (m + 2)) (.bi .range1 [.bvar 3]) [.val (lsN mm' fun a => tbD n (t a)), .val q, .val (nD n), .val (nD a), u4] g = some (lsN a nD, g) := ev_b1 (ev_bv rfl) (rng_lN (by omega))
    unfold fitR
    cases h1 : eqT n (mm n (t a) (t a)) (scl (Gi.re (s a)) idT) with
    | false =>
      rw [h1] at e1
      exact ⟨(fun z => by cases z), fun _ => exs_ret (ex_if1 e1 rfl (exs_ret (ex_ret1 ev_lit)))⟩
    | true =>
      rw [h1] at e1
      rw [Bool.true_and]
      refine ⟨fun hp => ?_, fun hp => ?_⟩
      · obtain ⟨ρ', e3, u4', rfl⟩ := inn.1 hp
        exact ⟨_, (exs_cons (ex_if0 e1 rfl)).trans (exs_one ((ex_forE ec rfl).trans e3))⟩
      · exact (exs_cons (ex_if0 e1 rfl)).trans (exs_ret ((ex_forE ec rfl).trans (inn.2 hp)))
  have out := for_chk (b := fun z ρ g => match asg (.var 3) z ρ with | some ρ' => exs (callN tblT (m + 2)) lfOut ρ' g | none => none) (v := nD) (g := g) (I := fun ρ => ∃ u3 u4, ρ = [.val (lsN mm' fun a => tbD n (t a)), .val q, .val (nD n), u3, u4]) (P := fitR n t s) (l := List.range mm') (ρ := [.val (lsN mm' fun a => tbD n (t a)), .val q, .val (nD n), .no, .no]) ⟨_, _, rfl⟩ (by
    rintro a ha _ ⟨u3, u4, rfl⟩
    have hb := body a (List.mem_range.mp ha) u4
    refine ⟨fun hp => ?_, fun hp => hb.2 hp⟩
    obtain ⟨u4', e⟩ := hb.1 hp
    exact ⟨_, e, _, _, rfl⟩)
  have ee : ev (callN tblT (m + 2)) (.bi .range1 [.bi .len [.bvar 0]]) [.val (lsN mm' fun a => tbD n (t a)), .val q, .val (nD n), .no, .no] g = some (lsN mm' nD, g) := ev_b1 (ev_b1 (ev_bv rfl) len_lsN) (rng_lN (by omega))
  refine run_ret rfl ?_
  refine (exs_cons (ex_asg1 (ev_b1 (ev_idx2 (ev_bv rfl) (ev_lit (d := nD 0)) (idx_lsN (f := fun a => tbD n (t a)) hm0)) len_tN))).trans ?_
  unfold fitB
  cases h : (List.range mm').all (fitR n t s) with
  | true =>
    obtain ⟨ρ', e1, u3, u4, rfl⟩ := out.1 h
    exact (exs_cons ((ex_forE ee rfl).trans e1)).trans (exs_ret (ex_ret1 ev_lit))
  | false => exact exs_ret ((ex_forE ee rfl).trans (out.2 h))
end
/-! draws -/
theorem gather_ex {α : Type} {emb : α → D} {Pr : α → Prop} {F : D → GS → Option (Option D × GS)} {P : D → Prop} : ∀ {l : List D} {g : GS}, G2 g → (∀ x ∈ l, P x) → (∀ x, P x → ∀ g, G2 g → ∃ (z : α) (g' : GS), F x g = some (some (emb z), g') ∧ G2 g' ∧ Pr z) → ∃ (zs : List α) (g' : GS), gather F l g = some (zs.map emb, g') ∧ G2 g' ∧ zs.length = l.length ∧ ∀ z ∈ zs, Pr z
  | [], g, hg, _, _ => ⟨[], g, rfl, hg, rfl, by simp⟩
  | x :: l, g, hg, hP, h => by
    obtain ⟨z, g1, e1, G1', hz⟩ := h x (hP x (List.mem_cons_self ..)) g hg
    obtain ⟨zs, g2, e2, G2', hl, hzs⟩ := gather_ex G1' (fun y hy => hP y (List.mem_cons_of_mem _ hy)) h
    exact ⟨z :: zs, g2, gather_some e1 e2, G2', by simp [hl], fun w hw => by
      rcases List.mem_cons.mp hw with rfl | hw
      · exact hz
      · exact hzs w hw⟩
theorem map_lN {α : Type} {emb : α → D} (dflt : α) (zs : List α) : zs.map emb = lN zs.length fun i => emb (zs.getD i dflt) := by
  unfold lN
  apply List.ext_getElem?
  intro i
  rw [List.getElem?_map, List.getElem?_map]
  by_cases h : i < zs.length
  · rw [List.getElem?_range h, List.getElem?_eq_getElem h]
    simp [List.getD, h]
  · rw [List.getElem?_eq_none (by omega), List.getElem?_eq_none (by rw [List.length_range]; omega)]
    rfl
theorem getD_mem {α : Type} {zs : List α} {i : Nat} {dflt : α} (h : i < zs.length) : zs.getD i dflt ∈ zs := by
  simp [List.getD, h]
section
variable {m : Nat} {g : GS} {ns : List Int}
theorem t_draw {size : Nat} (hg : G2 g) (hl : ns.length ≤ 63) (h0 : 0 < size) (h1 : size < 1073741824) : ∃ (d : Nat) (g' : GS), callN tblT (m + 2) 15 [.st, .scr ns, nD size] g = some (nD d, g') ∧ G2 g' ∧ d < size := by
  obtain ⟨d, g', e, G', h2, h3⟩ := draw2_run hg hl (size := (size : Int)) (by omega) (by omega)
  refine ⟨d.toNat, g', ?_, G', by omega⟩
  rw [c__law_draw, e, show nD d.toNat = .int d by show D.int _ = _; rw [Int.toNat_of_nonneg h2]]
theorem e_draw {size : Nat} {ρ : Env} {i j : Nat} (hi : ρ[i]? = some (.val .st)) (hj : ρ[j]? = some (.val (.scr ns))) (hg : G2 g) (hl : ns.length ≤ 63) (h0 : 0 < size) (h1 : size < 1073741824) : ∃ (d : Nat) (g' : GS), ev (callN tblT (m + 2)) (.call 15 [.var i, .var j, .lit (nD size)]) ρ g = some (nD d, g') ∧ G2 g' ∧ d < size := by
  obtain ⟨d, g', e, G', h⟩ := t_draw (m := m) hg hl h0 h1
  exact ⟨d, g', ev_c3 (ev_v hi) (ev_v hj) ev_lit e, G', h⟩
def smS (z : Gi) : Prop := z.a.natAbs ≤ 3 ∧ z.b.natAbs ≤ 3
theorem smS_sm {z : Gi} (h : smS z) : smG z := by unfold smS at h; unfold smG; omega
theorem e_pair {ρ : Env} {i j : Nat} (hi : ρ[i]? = some (.val .st)) (hj : ρ[j]? = some (.val (.scr ns))) (hg : G2 g) (hl : ns.length ≤ 63) : ∃ (z : Gi) (g' : GS), ev (callN tblT (m + 2)) (.tup [.bin .sub (.call 15 [.var i, .var j, .lit (.int 7)]) (.lit (.int 3)), .bin .sub (.call 15 [.var i, .var j, .lit (.int 7)]) (.lit (.int 3))]) ρ g = some (gD z, g') ∧ G2 g' ∧ smS z := by
  obtain ⟨d, g1, e1, G1', h1⟩ := e_draw (m := m) (size := 7) hi hj hg hl (by decide) (by decide)
  obtain ⟨d2, g2, e2, G2', h2⟩ := e_draw (m := m) (size := 7) hi hj G1' hl (by decide) (by decide)
  refine ⟨⟨(d : Int) - 3, (d2 : Int) - 3⟩, g2, ev_tup (evs_cons (ev_bin2 e1 ev_lit rfl) (evs_cons (ev_bin2 e2 ev_lit rfl) evs_nil)), G2', ?_⟩
  unfold smS
  dsimp only
  omega
theorem t_table {n : Nat} (hg : G2 g) (hl : ns.length ≤ 63) (hn : n ≤ 100) : ∃ (A : Tb) (g' : GS), callN tblT (m + 3) 22 [.st, .scr ns, nD n] g = some (tbD n A, g') ∧ G2 g' ∧ smT n A := by
  rw [c__law_table, b__law_table]
  obtain ⟨zs, g', e, G', hl1, hz⟩ := gather_ex (α := Nat → Gi) (emb := fun r => tN n fun j => gD (r j)) (Pr := fun r => ∀ j, j < n → smG (r j)) (P := fun x => ∃ k, x = nD k) (F := gF (callN tblT (m + 2)) (.var 3) (wipeE (startE 5 [.st, .scr ns, nD n]) [3]) (.lit (.bl true)) (.bi .tuple [.comp [4] (.var 4) (.bi .range1 [.bvar 2]) (.lit (.bl true)) (.tup [.bin .sub (.call 15 [.var 0, .var 1, .lit (.int 7)]) (.lit (.int 3)), .bin .sub (.call 15 [.var 0, .var 1, .lit (.int 7)]) (.lit (.int 3))])])) (l := lN n nD) hg (fun x hx => by
      obtain ⟨k, _, rfl⟩ := List.mem_map.mp hx
      exact ⟨k, rfl⟩) (by
    rintro x ⟨k, rfl⟩ g hg
    obtain ⟨zs, g', e, G', hl1, hz⟩ := gather_ex (α := Gi) (emb := gD) (Pr := smS) (P := fun x => ∃ k, x = nD k) (F := gF (callN tblT (m + 2)) (.var 4) (wipeE [.val .st, .val (.scr ns), .val (nD n), .val (nD k), .no] [4]) (.lit (.bl true)) (.tup [.bin .sub (.call 15 [.var 0, .var 1, .lit (.int 7)]) (.lit (.int 3)), .bin .sub (.call 15 [.var 0, .var 1, .lit (.int 7)]) (.lit (.int 3))])) (l := lN n nD) hg (fun x hx => by
        obtain ⟨k, _, rfl⟩ := List.mem_map.mp hx
        exact ⟨k, rfl⟩) (by
      rintro x ⟨k2, rfl⟩ g hg
      obtain ⟨z, g', e, G', hz⟩ := e_pair (m := m) (ρ := [.val .st, .val (.scr ns), .val (nD n), .val (nD k), .val (nD k2)]) (i := 0) (j := 1) rfl rfl hg hl
      exact ⟨z, g', gF_one rfl e, G', hz⟩)
    rw [lN_len] at hl1
    rw [map_lN 0, hl1] at e
    refine ⟨fun j => zs.getD j 0, g', gF_one (ρ' := [.val .st, .val (.scr ns), .val (nD n), .val (nD k), .no]) rfl (ev_b1 (ev_comp (ev_b1 (ev_bv rfl) (rng_lN (by omega))) rfl e (by rw [lN_len]; unfold sizeLine; omega)) rfl), G', fun j hj => smS_sm (hz _ (getD_mem (by omega)))⟩)
  rw [lN_len] at hl1
  rw [map_lN (fun _ => 0), hl1] at e
  exact ⟨fun i => zs.getD i fun _ => 0, g', run_ret rfl (exs_ret (ex_ret1 (ev_b1 (ev_comp (ev_b1 (ev_bv rfl) (rng_lN (by omega))) rfl e (by rw [lN_len]; unfold sizeLine; omega)) rfl))), G', fun i j hi hj => hz _ (getD_mem (by omega)) j hj⟩
end
end Tv

namespace Tv
open PySem PyProof.Rows
theorem exl {n : Nat} {xs : List D} (h1 : xs.length < 1000) (h2 : exOks n xs) : exOk (n + 1) (.lst xs) := by rw [exOk]; exact ⟨h1, h2⟩
theorem exc {n : Nat} {x : D} {xs : List D} (h1 : exOk n x) (h2 : exOks n xs) : exOks n (x :: xs) := by rw [exOks]; exact ⟨h1, h2⟩
theorem exn {n : Nat} : exOks n [] := by unfold exOks; trivial
theorem ex_setiE {ρ : Env} {g : GS} {i k : Nat} {call : Calls} {ix c : C} {xs : List D} {d : D} {g1 g2 : GS} (h4 : ev call c ρ g = some (d, g1)) (h1 : ev call ix ρ g1 = some (nD k, g2)) (hi : ρ[i]? = some (.own xs)) (h2 : k < xs.length) : ex call (.seti [] i ix c) ρ g = some (.nx (ρ.set i (.own (xs.set k d))), g2) := by
  have h2' : L2.ixN xs.length (k : Int) = some k := by
    unfold L2.ixN
    rw [if_pos (by omega), if_pos (by omega), Int.toNat_natCast]
  simp only [ex, freeze, keepF, h1, bnd, hi, h2', h4]
theorem ex_paroE {ρ : Env} {g g1 g2 : GS} {i j : Nat} {call : Calls} {c c2 : C} {d : D} {xs : List D} (h1 : ev call c ρ g = some (d, g1)) (h2 : ev call c2 ρ g1 = some (.lst xs, g2)) : ex call (.paro [] i j c c2) ρ g = some (.nx ((ρ.set i (.val d)).set j (.own xs)), g2) := by
  simp only [ex, freeze, h1, h2, bnd]
theorem ex_ifzE {ρ : Env} {g g1 : GS} {call : Calls} {fz : List Nat} {t : C} {a : List S} {x : D} (h1 : ev call t (freeze ρ fz) g = some (x, g1)) (h : truth x = some false) : ex call (.ifz fz t a []) ρ g = some (.nx (freeze ρ fz), g1) := by
  simp only [ex, h1, bnd, h, exs]
theorem set_lN {n k : Nat} {f : Nat → D} {d : D} (hk : k < n) : (lN n f).set k d = lN n fun i => if i = k then d else f i := by
  apply List.ext_getElem?
  intro i
  by_cases h : i < n
  · rw [lN_get h]
    by_cases e : k = i
    · subst e
      rw [List.getElem?_set_self (by rw [lN_len]; exact h), if_pos rfl]
    · rw [List.getElem?_set_ne e, lN_get h, if_neg fun z => e z.symm]
  · rw [List.getElem?_eq_none (by rw [List.length_set, lN_len]; omega), List.getElem?_eq_none (by rw [lN_len]; omega)]
theorem e_mod2 {call : Calls} {ρ : Env} {g : GS} {i r : Nat} (h : ρ[i]? = some (.val (nD r))) : ev call (.bin .sub (.bvar i) (.bin .mul (.bin .fdiv (.bvar i) (.lit (.int 2))) (.lit (.int 2)))) ρ g = some (nD (r % 2), g) := by
  refine ev_bin2 (ev_bv h) (ev_bin2 (ev_bin2 (ev_bv h) ev_lit div2_nat) ev_lit (mul_nat (b := 2) (by decide))) ?_
  rw [sub_nat (by omega)]
  congr 3
  omega
theorem sumsD {n : Nat} {z : Nat → Gi} : (.tup [.int (sumN n fun k => (z k).a), .int (sumN n fun k => (z k).b)] : D) = gD (sumG n z) := by
  show D.tup _ = D.tup [.int (sumG n z).a, .int (sumG n z).b]
  rw [sumG_a, sumG_b]
def wideB : List S := [.app [] 23 (.bi .tuple [.comp [13] (.var 13) (.bi .range1 [.bin .mul (.lit (.int 2)) (.bvar 15)]) (.lit (.bl true)) (.call 18 [.idx (.idx (.bvar 16) (.bin .fdiv (.bvar 14) (.lit (.int 2)))) (.bin .fdiv (.bvar 13) (.lit (.int 2))), .idx (.idx (.bvar 22) (.bin .sub (.bvar 14) (.bin .mul (.bin .fdiv (.bvar 14) (.lit (.int 2))) (.lit (.int 2))))) (.bin .sub (.bvar 13) (.bin .mul (.bin .fdiv (.bvar 13) (.lit (.int 2))) (.lit (.int 2))))])])]
theorem turn (m : Nat) {g : GS} {ns : List Int} (hg : G2 g) (hl : ns.length ≤ 63) {v2 v3 v4 v5 v6 v7 v8 v9 v10 v11 v12 v13 v14 v15 v16 v17 v18 v19 v20 v21 v22 v23 v24 v25 v26 v27 : SV} : ∃ u2 u3 u4 u5 u6 u7 u8 u9 u10 u11 u12 u13 u14 u15 u16 u17 u18 u19 u20 u21 u22 u23 u24 u25 u26 u27 g', exs (callN tblT (m + 8)) lb_1 [.val (.scr ns), .val .st, v2, v3, v4, v5, v6, v7, v8, v9, v10, v11, v12, v13, v14, v15, v16, v17, v18, v19, v20, v21, v22, v23, v24, v25, v26, v27] g = some (.nx [.val (.scr ns), .val .st, u2, u3, u4, u5, u6, u7, u8, u9, u10, u11, u12, u13, u14, u15, u16, u17, u18, u19, u20, u21, u22, u23, u24, u25, u26, u27], g') ∧ G2 g' := by
  obtain ⟨d, g1, e1, G1, hd⟩ := e_draw (m := m + 6) (size := 3) (ρ := [.val (.scr ns), .val .st, v2, v3, v4, v5, v6, v7, v8, v9, v10, v11, v12, v13, v14, v15, v16, v17, v18, v19, v20, v21, v22, v23, v24, v25, v26, v27]) (i := 1) (j := 0) rfl rfl hg hl (by decide) (by decide)
  have e1 : ev (callN tblT (m + 8)) (.bin .add (.lit (.int 1)) (.call 15 [.var 1, .var 0, .lit (.int 3)])) [.val (.scr ns), .val .st, v2, v3, v4, v5, v6, v7, v8, v9, v10, v11, v12, v13, v14, v15, v16, v17, v18, v19, v20, v21, v22, v23, v24, v25, v26, v27] g = some (nD (1 + d), g1) := ev_bin2 ev_lit e1 (add_nat (a := 1))
  have hn1 : 0 < 1 + d := by omega
  have hn3 : 1 + d ≤ 3 := by omega
  generalize 1 + d = n at *
  have s0 : ex (callN tblT (m + 8)) lw_1_0 [.val (.scr ns), .val .st, v2, v3, v4, v5, v6, v7, v8, v9, v10, v11, v12, v13, v14, v15, v16, v17, v18, v19, v20, v21, v22, v23, v24, v25, v26, v27] g = some (.nx [.val (.scr ns), .val .st, v2, v3, v4, v5, v6, v7, v8, v9, v10, v11, v12, v13, v14, .val (nD n), v16, v17, v18, v19, v20, v21, v22, v23, v24, v25, v26, v27], g1) := ex_asg1 e1
  obtain ⟨A, g2, e2, G2_, sA⟩ := t_table (m := m + 5) (n := n) G1 hl (by omega)
  obtain ⟨B, g3, e3, G3, sB⟩ := t_table (m := m + 5) (n := n) G2_ hl (by omega)
  have s1 : ex (callN tblT (m + 8)) lw_1_1 [.val (.scr ns), .val .st, v2, v3, v4, v5, v6, v7, v8, v9, v10, v11, v12, v13, v14, .val (nD n), v16, v17, v18, v19, v20, v21, v22, v23, v24, v25, v26, v27] g1 = some (.nx [.val (.scr ns), .val .st, v2, v3, v4, v5, v6, v7, v8, v9, v10, v11, v12, v13, v14, .val (nD n), .val (tbD n A), .val (tbD n B), v18, v19, v20, v21, v22, v23, v24, v25, v26, v27], g3) := ex_asgT (ev_tup (evs_cons (ev_c3 (ev_v rfl) (ev_v rfl) (ev_v rfl) e2) (evs_cons (ev_c3 (ev_v rfl) (ev_v rfl) (ev_v rfl) e3) evs_nil))) rfl
  obtain ⟨z, g4, e4, G4, hz⟩ := e_pair (m := m + 6) (ρ := [.val (.scr ns), .val .st, v2, v3, v4, v5, v6, v7, v8, v9, v10, v11, v12, v13, v14, .val (nD n), .val (tbD n A), .val (tbD n B), v18, v19, v20, v21, v22, v23, v24, v25, v26, v27]) (i := 1) (j := 0) rfl rfl G3 hl
  have s2 : ex (callN tblT (m + 8)) lw_1_2 [.val (.scr ns), .val .st, v2, v3, v4, v5, v6, v7, v8, v9, v10, v11, v12, v13, v14, .val (nD n), .val (tbD n A), .val (tbD n B), v18, v19, v20, v21, v22, v23, v24, v25, v26, v27] g3 = some (.nx [.val (.scr ns), .val .st, v2, v3, v4, v5, v6, v7, v8, v9, v10, v11, v12, v13, v14, .val (nD n), .val (tbD n A), .val (tbD n B), .val (gD z), v19, v20, v21, v22, v23, v24, v25, v26, v27], g4) := ex_asg1 e4
  have s3 : ex (callN tblT (m + 8)) lw_1_3 [.val (.scr ns), .val .st, v2, v3, v4, v5, v6, v7, v8, v9, v10, v11, v12, v13, v14, .val (nD n), .val (tbD n A), .val (tbD n B), .val (gD z), v19, v20, v21, v22, v23, v24, v25, v26, v27] g4 = some (.nx [.val (.scr ns), .val .st, v2, v3, v4, v5, v6, v7, v8, v9, v10, v11, v12, v13, v14, .val (nD n), .val (tbD n A), .val (tbD n B), .val (gD z), .val (tbD n (ovT A)), v20, v21, v22, v23, v24, v25, v26, v27], g4) := ex_asg1 (ev_tN (n := n) (v := nD) (w := fun i => tN n fun j => gD (ovT A i j)) (ev_b1 (ev_bv rfl) (rng_lN (by omega))) rfl (by omega) fun i hi => ev_tN (n := n) (v := nD) (ev_b1 (ev_bv rfl) (rng_lN (by omega))) rfl (by omega) fun j hj => ev_tup (evs_cons (gD_0 (z := A j i) (ev_idx2 (ev_idx2 (ev_bv rfl) (ev_bv rfl) (idx_tN (f := fun i => tN n fun j => gD (A i j)) hj)) (ev_bv rfl) (idx_tN hi))) (evs_cons (ev_neg (gD_1 (z := A j i) (ev_idx2 (ev_idx2 (ev_bv rfl) (ev_bv rfl) (idx_tN (f := fun i => tN n fun j => gD (A i j)) hj)) (ev_bv rfl) (idx_tN hi)))) evs_nil)))
  have s4 : ex (callN tblT (m + 8)) lw_1_4 [.val (.scr ns), .val .st, v2, v3, v4, v5, v6, v7, v8, v9, v10, v11, v12, v13, v14, .val (nD n), .val (tbD n A), .val (tbD n B), .val (gD z), .val (tbD n (ovT A)), v20, v21, v22, v23, v24, v25, v26, v27] g4 = some (.nx [.val (.scr ns), .val .st, v2, v3, v4, v5, v6, v7, v8, v9, v10, v11, v12, v13, v14, .val (nD n), .val (tbD n A), .val (tbD n B), .val (gD z), .val (tbD n (ovT A)), .val (gD (sumG n fun i => A i i)), v21, v22, v23, v24, v25, v26, v27], g4) := by
    rw [← sumsD]
    exact ex_asg1 (ev_tup (evs_cons (ev_b1 (ev_cN (n := n) (v := nD) (w := fun k => .int (A k k).a) (ev_b1 (ev_bv rfl) (rng_lN (by omega))) rfl (by omega) fun k hk => gD_0 (z := A k k) (ev_idx2 (ev_idx2 (ev_bv rfl) (ev_bv rfl) (idx_tN (f := fun i => tN n fun j => gD (A i j)) hk)) (ev_bv rfl) (idx_tN hk))) sum_lsN) (evs_cons (ev_b1 (ev_cN (n := n) (v := nD) (w := fun k => .int (A k k).b) (ev_b1 (ev_bv rfl) (rng_lN (by omega))) rfl (by omega) fun k hk => gD_1 (z := A k k) (ev_idx2 (ev_idx2 (ev_bv rfl) (ev_bv rfl) (idx_tN (f := fun i => tN n fun j => gD (A i j)) hk)) (ev_bv rfl) (idx_tN hk))) sum_lsN) evs_nil)))
  have s5 : ex (callN tblT (m + 8)) lw_1_5 [.val (.scr ns), .val .st, v2, v3, v4, v5, v6, v7, v8, v9, v10, v11, v12, v13, v14, .val (nD n), .val (tbD n A), .val (tbD n B), .val (gD z), .val (tbD n (ovT A)), .val (gD (sumG n fun i => A i i)), v21, v22, v23, v24, v25, v26, v27] g4 = some (.nx [.val (.scr ns), .val .st, v2, v3, v4, v5, v6, v7, v8, v9, v10, v11, v12, v13, v14, .val (nD n), .val (tbD n A), .val (tbD n B), .val (gD z), .val (tbD n (ovT A)), .val (gD (sumG n fun i => A i i)), .val (.lst [tbD n (mm n A B), tbD n (plT A B), tbD n (scl z A), tbD n (ovT A), gD (sumG n fun i => A i i), tbD n idT]), v22, v23, v24, v25, v26, v27], g4) := ex_asg1 (ev_lst (evs_cons (ev_c2 (ev_v rfl) (ev_v rfl) (t_lmm (m := m + 6) hn1 (by omega) (.inl sA))) (evs_cons (ev_c3 (ev_v rfl) (ev_v rfl) ev_lit (t_ladd (m := m + 7) (by omega))) (evs_cons (ev_tN (n := n) (s := tbD n A) (v := fun i => tN n fun j => gD (A i j)) (w := fun i => tN n fun j => gD (scl z A i j)) (ev_bv rfl) rfl (by omega) fun i hi => ev_tN (n := n) (v := fun j => gD (A i j)) (ev_bv rfl) rfl (by omega) fun j hj => ev_c2 (ev_v rfl) (ev_v rfl) (t_lmul (m := m + 7) (.inl (smS_sm hz)))) (evs_cons (ev_v rfl) (evs_cons (ev_v rfl) (evs_cons (ev_c2 (ev_v rfl) ev_lit (t_lone (m := m + 7) (by omega))) evs_nil)))))))
  have ee : callN tblT (m + 8) 16 [(.lst [tbD n (mm n A B), tbD n (plT A B), tbD n (scl z A), tbD n (ovT A), gD (sumG n fun i => A i i), tbD n idT]), (.lst [tbD n (mm n A B), tbD n (plT A B), tbD n (scl z A), tbD n (ovT A), gD (sumG n fun i => A i i), tbD n idT])] g4 = some (.bl true, g4) := t_exact (m := m + 7) (n := 4) (by omega) (exl (by simp) (exc (ex_tbD (k := 0) (by omega)) (exc (ex_tbD (k := 0) (by omega)) (exc (ex_tbD (k := 0) (by omega)) (exc (ex_tbD (k := 0) (by omega)) (exc ex_gD (exc (ex_tbD (k := 0) (by omega)) exn)))))))
  have s6 : ex (callN tblT (m + 8)) lw_1_6 [.val (.scr ns), .val .st, v2, v3, v4, v5, v6, v7, v8, v9, v10, v11, v12, v13, v14, .val (nD n), .val (tbD n A), .val (tbD n B), .val (gD z), .val (tbD n (ovT A)), .val (gD (sumG n fun i => A i i)), .val (.lst [tbD n (mm n A B), tbD n (plT A B), tbD n (scl z A), tbD n (ovT A), gD (sumG n fun i => A i i), tbD n idT]), v22, v23, v24, v25, v26, v27] g4 = some (.nx [.val (.scr ns), .val .st, v2, v3, v4, v5, v6, v7, v8, v9, v10, v11, v12, v13, v14, .val (nD n), .val (tbD n A), .val (tbD n B), .val (gD z), .val (tbD n (ovT A)), .val (gD (sumG n fun i => A i i)), .val (.lst [tbD n (mm n A B), tbD n (plT A B), tbD n (scl z A), tbD n (ovT A), gD (sumG n fun i => A i i), tbD n idT]), v22, v23, v24, v25, v26, v27], g4) := ex_if0 (ev_not (ev_c2 (ev_v rfl) (ev_lst (evs_cons (ev_c2 (ev_v rfl) (ev_v rfl) (t_mm (m := m + 6) hn1 (by omega) (.inl sA))) (evs_cons (ev_c2 (ev_v rfl) (ev_v rfl) (t_pl (m := m + 6) (by omega))) (evs_cons (ev_c2 (ev_v rfl) (ev_v rfl) (t_scl (m := m + 6) (by omega) (.inl (smS_sm hz)))) (evs_cons (ev_c1 (ev_v rfl) (t_over (m := m + 7) (by omega))) (evs_cons (ev_c1 (ev_v rfl) (t_trace (m := m + 6) (by omega))) (evs_cons (ev_c1 (ev_v rfl) (t_plain (m := m + 7) (by omega))) evs_nil))))))) ee) rfl) rfl
  obtain ⟨S, g5, e7, G5, sS⟩ := t_table (m := m + 5) (n := 2) G4 hl (by decide)
  have s7 : ex (callN tblT (m + 8)) lw_1_7 [.val (.scr ns), .val .st, v2, v3, v4, v5, v6, v7, v8, v9, v10, v11, v12, v13, v14, .val (nD n), .val (tbD n A), .val (tbD n B), .val (gD z), .val (tbD n (ovT A)), .val (gD (sumG n fun i => A i i)), .val (.lst [tbD n (mm n A B), tbD n (plT A B), tbD n (scl z A), tbD n (ovT A), gD (sumG n fun i => A i i), tbD n idT]), v22, v23, v24, v25, v26, v27] g4 = some (.nx [.val (.scr ns), .val .st, v2, v3, v4, v5, v6, v7, v8, v9, v10, v11, v12, v13, v14, .val (nD n), .val (tbD n A), .val (tbD n B), .val (gD z), .val (tbD n (ovT A)), .val (gD (sumG n fun i => A i i)), .val (.lst [tbD n (mm n A B), tbD n (plT A B), tbD n (scl z A), tbD n (ovT A), gD (sumG n fun i => A i i), tbD n idT]), .val (tbD 2 S), v23, v24, v25, v26, v27], g5) := ex_asg1 (ev_c3 (ev_v rfl) (ev_v rfl) ev_lit e7)
  have s8 : ex (callN tblT (m + 8)) lw_1_8 [.val (.scr ns), .val .st, v2, v3, v4, v5, v6, v7, v8, v9, v10, v11, v12, v13, v14, .val (nD n), .val (tbD n A), .val (tbD n B), .val (gD z), .val (tbD n (ovT A)), .val (gD (sumG n fun i => A i i)), .val (.lst [tbD n (mm n A B), tbD n (plT A B), tbD n (scl z A), tbD n (ovT A), gD (sumG n fun i => A i i), tbD n idT]), .val (tbD 2 S), v23, v24, v25, v26, v27] g5 = some (.nx [.val (.scr ns), .val .st, v2, v3, v4, v5, v6, v7, v8, v9, v10, v11, v12, v13, v14, .val (nD n), .val (tbD n A), .val (tbD n B), .val (gD z), .val (tbD n (ovT A)), .val (gD (sumG n fun i => A i i)), .val (.lst [tbD n (mm n A B), tbD n (plT A B), tbD n (scl z A), tbD n (ovT A), gD (sumG n fun i => A i i), tbD n idT]), .val (tbD 2 S), .own [], v24, v25, v26, v27], g5) := ex_ownE (ev_lst evs_nil)
  obtain ⟨ρ', e9, u14, rfl⟩ := for_rngI (n := 2 * n) (g := g5) (b := fun z ρ g => match asg (.var 14) z ρ with | some ρ' => exs (callN tblT (m + 8)) wideB ρ' g | none => none) (v := nD) (I := fun i ρ => ∃ v14, ρ = [.val (.scr ns), .val .st, v2, v3, v4, v5, v6, v7, v8, v9, v10, v11, v12, v13, v14, .val (nD n), .val (tbD n A), .val (tbD n B), .val (gD z), .val (tbD n (ovT A)), .val (gD (sumG n fun i => A i i)), .val (.lst [tbD n (mm n A B), tbD n (plT A B), tbD n (scl z A), tbD n (ovT A), gD (sumG n fun i => A i i), tbD n idT]), .val (tbD 2 S), .own (lN i fun r => tN (2 * n) fun c => gD (kr A S r c)), v24, v25, v26, v27]) (ρ := [.val (.scr ns), .val .st, v2, v3, v4, v5, v6, v7, v8, v9, v10, v11, v12, v13, v14, .val (nD n), .val (tbD n A), .val (tbD n B), .val (gD z), .val (tbD n (ovT A)), .val (gD (sumG n fun i => A i i)), .val (.lst [tbD n (mm n A B), tbD n (plT A B), tbD n (scl z A), tbD n (ovT A), gD (sumG n fun i => A i i), tbD n idT]), .val (tbD 2 S), .own [], v24, v25, v26, v27]) ⟨_, rfl⟩ (by
    rintro r hr _ ⟨v14, rfl⟩
    refine ⟨[.val (.scr ns), .val .st, v2, v3, v4, v5, v6, v7, v8, v9, v10, v11, v12, v13, .val (nD r), .val (nD n), .val (tbD n A), .val (tbD n B), .val (gD z), .val (tbD n (ovT A)), .val (gD (sumG n fun i => A i i)), .val (.lst [tbD n (mm n A B), tbD n (plT A B), tbD n (scl z A), tbD n (ovT A), gD (sumG n fun i => A i i), tbD n idT]), .val (tbD 2 S), .own (lN (r + 1) fun r => tN (2 * n) fun c => gD (kr A S r c)), v24, v25, v26, v27], ?_, _, rfl⟩
    rw [lN_succ]
    have e2n : ∀ {ρ : Env}, ρ[15]? = some (.val (nD n)) → ev (callN tblT (m + 8)) (.bi .range1 [.bin .mul (.lit (.int 2)) (.bvar 15)]) ρ g5 = some (lsN (2 * n) nD, g5) := fun h => ev_b1 (ev_bin2 ev_lit (ev_bv h) (z := nD (2 * n)) (by rw [mul_l (a := 2) (by decide)]; rfl)) (rng_lN (by omega))
    exact exs_one (ex_app1 (ev_tN (n := 2 * n) (v := nD) (w := fun c => gD (kr A S r c)) (e2n rfl) rfl (by omega) fun c hc => ev_c2 (ev_idx2 (ev_idx2 (ev_bv rfl) (ev_bin2 (ev_bv rfl) ev_lit div2_nat) (idx_tN (f := fun i => tN n fun j => gD (A i j)) (by omega))) (ev_bin2 (ev_bv rfl) ev_lit div2_nat) (idx_tN (f := fun j => gD (A (r / 2) j)) (by omega))) (ev_idx2 (ev_idx2 (ev_bv rfl) (e_mod2 rfl) (idx_tN (f := fun i => tN 2 fun j => gD (S i j)) (Nat.mod_lt _ (by decide)))) (e_mod2 rfl) (idx_tN (f := fun j => gD (S (r % 2) j)) (Nat.mod_lt _ (by decide)))) (t_lmul (m := m + 7) (.inl (sA _ _ (by omega) (by omega))))) rfl (by rw [lN_len]; unfold sizeLine; omega)))
  have s9 : ex (callN tblT (m + 8)) lw_1_9 [.val (.scr ns), .val .st, v2, v3, v4, v5, v6, v7, v8, v9, v10, v11, v12, v13, v14, .val (nD n), .val (tbD n A), .val (tbD n B), .val (gD z), .val (tbD n (ovT A)), .val (gD (sumG n fun i => A i i)), .val (.lst [tbD n (mm n A B), tbD n (plT A B), tbD n (scl z A), tbD n (ovT A), gD (sumG n fun i => A i i), tbD n idT]), .val (tbD 2 S), .own [], v24, v25, v26, v27] g5 = some (.nx [.val (.scr ns), .val .st, v2, v3, v4, v5, v6, v7, v8, v9, v10, v11, v12, v13, u14, .val (nD n), .val (tbD n A), .val (tbD n B), .val (gD z), .val (tbD n (ovT A)), .val (gD (sumG n fun i => A i i)), .val (.lst [tbD n (mm n A B), tbD n (plT A B), tbD n (scl z A), tbD n (ovT A), gD (sumG n fun i => A i i), tbD n idT]), .val (tbD 2 S), .own (lN (2 * n) fun r => tN (2 * n) fun c => gD (kr A S r c)), v24, v25, v26, v27], g5) := (ex_forE (ev_b1 (ev_bin2 ev_lit (ev_bv rfl) (z := nD (2 * n)) (by rw [mul_l (a := 2) (by decide)]; rfl)) (rng_lN (by omega))) rfl).trans e9
  have ek : callN tblT (m + 8) 16 [tbD (2 * n) (kr A S), tbD (2 * n) (kr A S)] g5 = some (.bl true, g5) := t_exact (m := m + 7) (n := 3) (by omega) (ex_tbD (k := 0) (by omega))
  have s10 : ex (callN tblT (m + 8)) lw_1_10 [.val (.scr ns), .val .st, v2, v3, v4, v5, v6, v7, v8, v9, v10, v11, v12, v13, u14, .val (nD n), .val (tbD n A), .val (tbD n B), .val (gD z), .val (tbD n (ovT A)), .val (gD (sumG n fun i => A i i)), .val (.lst [tbD n (mm n A B), tbD n (plT A B), tbD n (scl z A), tbD n (ovT A), gD (sumG n fun i => A i i), tbD n idT]), .val (tbD 2 S), .own (lN (2 * n) fun r => tN (2 * n) fun c => gD (kr A S r c)), v24, v25, v26, v27] g5 = some (.nx [.val (.scr ns), .val .st, v2, v3, v4, v5, v6, v7, v8, v9, v10, v11, v12, v13, u14, .val (nD n), .val (tbD n A), .val (tbD n B), .val (gD z), .val (tbD n (ovT A)), .val (gD (sumG n fun i => A i i)), .val (.lst [tbD n (mm n A B), tbD n (plT A B), tbD n (scl z A), tbD n (ovT A), gD (sumG n fun i => A i i), tbD n idT]), .val (tbD 2 S), .own (lN (2 * n) fun r => tN (2 * n) fun c => gD (kr A S r c)), v24, v25, v26, v27], g5) := ex_if0 (ev_not (ev_c2 (x := tbD (2 * n) (kr A S)) (ev_b1 (ev_bo rfl) rfl) (ev_c2 (ev_v rfl) (ev_v rfl) (t_kr (m := m + 6) (by omega) (.inl sA))) ek) rfl) rfl
  have s11 : ex (callN tblT (m + 8)) lw_1_11 [.val (.scr ns), .val .st, v2, v3, v4, v5, v6, v7, v8, v9, v10, v11, v12, v13, u14, .val (nD n), .val (tbD n A), .val (tbD n B), .val (gD z), .val (tbD n (ovT A)), .val (gD (sumG n fun i => A i i)), .val (.lst [tbD n (mm n A B), tbD n (plT A B), tbD n (scl z A), tbD n (ovT A), gD (sumG n fun i => A i i), tbD n idT]), .val (tbD 2 S), .own (lN (2 * n) fun r => tN (2 * n) fun c => gD (kr A S r c)), v24, v25, v26, v27] g5 = some (.nx [.val (.scr ns), .val .st, v2, v3, v4, v5, v6, v7, v8, v9, v10, v11, v12, v13, u14, .val (nD n), .val (tbD n A), .val (tbD n B), .val (gD z), .val (tbD n (ovT A)), .val (gD (sumG n fun i => A i i)), .val (.lst [tbD n (mm n A B), tbD n (plT A B), tbD n (scl z A), tbD n (ovT A), gD (sumG n fun i => A i i), tbD n idT]), .val (tbD 2 S), .own (lN (2 * n) fun r => tN (2 * n) fun c => gD (kr A S r c)), .val (gD (A 0 0)), .val (gD (B 0 0)), v26, v27], g5) := ex_par2 (ev_idx2 (ev_idx2 (ev_bv rfl) (ev_lit (d := nD 0)) (idx_tN (f := fun i => tN n fun j => gD (A i j)) hn1)) (ev_lit (d := nD 0)) (idx_tN hn1)) (ev_idx2 (ev_idx2 (ev_bv rfl) (ev_lit (d := nD 0)) (idx_tN (f := fun i => tN n fun j => gD (B i j)) hn1)) (ev_lit (d := nD 0)) (idx_tN hn1))
  have eq2 : callN tblT (m + 8) 16 [.lst [gD (A 0 0 * B 0 0), gD (A 0 0 + B 0 0)], .lst [gD (A 0 0 * B 0 0), gD (A 0 0 + B 0 0)]] g5 = some (.bl true, g5) := t_exact (m := m + 7) (n := 3) (by omega) (exl (by simp) (exc ex_gD (exc ex_gD exn)))
  have s12 : ex (callN tblT (m + 8)) lw_1_12 [.val (.scr ns), .val .st, v2, v3, v4, v5, v6, v7, v8, v9, v10, v11, v12, v13, u14, .val (nD n), .val (tbD n A), .val (tbD n B), .val (gD z), .val (tbD n (ovT A)), .val (gD (sumG n fun i => A i i)), .val (.lst [tbD n (mm n A B), tbD n (plT A B), tbD n (scl z A), tbD n (ovT A), gD (sumG n fun i => A i i), tbD n idT]), .val (tbD 2 S), .own (lN (2 * n) fun r => tN (2 * n) fun c => gD (kr A S r c)), .val (gD (A 0 0)), .val (gD (B 0 0)), v26, v27] g5 = some (.nx [.val (.scr ns), .val .st, v2, v3, v4, v5, v6, v7, v8, v9, v10, v11, v12, v13, u14, .val (nD n), .val (tbD n A), .val (tbD n B), .val (gD z), .val (tbD n (ovT A)), .val (gD (sumG n fun i => A i i)), .val (.lst [tbD n (mm n A B), tbD n (plT A B), tbD n (scl z A), tbD n (ovT A), gD (sumG n fun i => A i i), tbD n idT]), .val (tbD 2 S), .own (lN (2 * n) fun r => tN (2 * n) fun c => gD (kr A S r c)), .val (gD (A 0 0)), .val (gD (B 0 0)), v26, v27], g5) := ex_if0 (ev_not (ev_c2 (ev_lst (evs_cons (ev_c2 (ev_v rfl) (ev_v rfl) (t_lmul (m := m + 7) (.inl (sA _ _ hn1 hn1)))) (evs_cons (d := gD (A 0 0 + B 0 0)) (ev_tup (evs_cons (ev_bin2 (gD_0 (z := A 0 0) (ev_bv rfl)) (gD_0 (z := B 0 0) (ev_bv rfl)) rfl) (evs_cons (ev_bin2 (gD_1 (z := A 0 0) (ev_bv rfl)) (gD_1 (z := B 0 0) (ev_bv rfl)) rfl) evs_nil))) evs_nil))) (ev_lst (evs_cons (ev_c2 (ev_v rfl) (ev_v rfl) (t_mul (m := m + 7) (.inl (sA _ _ hn1 hn1)))) (evs_cons (ev_c1 (ev_lst (evs_cons (ev_v rfl) (evs_cons (ev_v rfl) evs_nil))) (t_sum2 (m := m + 7))) evs_nil))) eq2) rfl) rfl
  refine ⟨v2, v3, v4, v5, v6, v7, v8, v9, v10, v11, v12, v13, u14, .val (nD n), .val (tbD n A), .val (tbD n B), .val (gD z), .val (tbD n (ovT A)), .val (gD (sumG n fun i => A i i)), .val (.lst [tbD n (mm n A B), tbD n (plT A B), tbD n (scl z A), tbD n (ovT A), gD (sumG n fun i => A i i), tbD n idT]), .val (tbD 2 S), .own (lN (2 * n) fun r => tN (2 * n) fun c => gD (kr A S r c)), .val (gD (A 0 0)), .val (gD (B 0 0)), v26, v27, g5, ?_, G5⟩
  exact (exs_cons s0).trans ((exs_cons s1).trans ((exs_cons s2).trans ((exs_cons s3).trans ((exs_cons s4).trans ((exs_cons s5).trans ((exs_cons s6).trans ((exs_cons s7).trans ((exs_cons s8).trans ((exs_cons s9).trans ((exs_cons s10).trans ((exs_cons s11).trans (exs_one s12))))))))))))
def lendB : List S := [.asg [] (.var 3) (.bin .add (.lit (.int 1)) (.call 15 [.var 1, .var 0, .lit (.int 5)])), .asg [] (.var 4) (.bi .tuple [.comp [13] (.var 13) (.bi .range1 [.bvar 3]) (.lit (.bl true)) (.idx (.lst [.lit (.int 1), .neg (.lit (.int 1))]) (.call 15 [.var 1, .var 0, .lit (.int 2)]))]), .par [] [5, 6] [.call 12 [.var 4], .call 9 [.var 3]], .asg [] (.var 7) (.call 17 [.bin .fdiv (.bin .add (.bvar 3) (.lit (.int 1))) (.lit (.int 2))]), .ifs (.or (.cmp .ne (.bi .len [.bvar 5]) (.bvar 3)) (.or (.cmp .ne (.bi .len [.bvar 6]) (.bvar 3)) (.cmp .ne (.comp [16] (.var 16) (.bin .add (.bvar 5) (.bvar 6)) (.or (.cmp .ne (.bi .len [.bvar 16]) (.bvar 7)) (.cmp .ne (.comp [26] (.var 26) (.bvar 16) (.cmp .ne (.bi .len [.bvar 26]) (.bvar 7)) (.var 26)) (.lst []))) (.var 16)) (.lst [])))) [.ret [] (.lit (.bl false))] [], .ifs (.or (.not (.call 23 [.var 5, .var 4])) (.or (.not (.call 23 [.var 6, .comp [13] (.var 13) (.bi .range1 [.bvar 3]) (.lit (.bl true)) (.lit (.int 1))])) (.not (.call 11 [.bi .list [.bvar 5], .var 4])))) [.ret [] (.lit (.bl false))] [], .ifs (.and (.cmp .eq (.bin .mul (.bin .fdiv (.bvar 3) (.lit (.int 2))) (.lit (.int 2))) (.bvar 3)) (.not (.call 23 [.bin .add (.bi .list [.bvar 6]) (.lst [.call 10 [.bin .fdiv (.bvar 3) (.lit (.int 2))]]), .comp [13] (.var 13) (.bi .range1 [.bin .add (.bvar 3) (.lit (.int 1))]) (.lit (.bl true)) (.lit (.int 1))]))) [.ret [] (.lit (.bl false))] [], .paro [] 8 9 (.call 15 [.var 1, .var 0, .var 3]) (.bi .list [.bvar 4]), .seti [] 9 (.bvar 8) (.neg (.idx (.bvar 9) (.bvar 8))), .own [] 10 (.bi .list [.bvar 5]), .seti [] 10 (.bvar 8) (.idx (.lst [.idx (.bvar 5) (.lit (.int 0)), .call 21 [.idx (.bvar 5) (.bvar 8), .call 20 [.var 7, .lit (.int 1)], .lit (.int 1)], .idx (.bvar 5) (.bvar 8)]) (.call 15 [.var 1, .var 0, .lit (.int 3)])), .ifz [10] (.or (.call 11 [.bi .list [.bvar 5], .bi .tuple [.bvar 9]]) (.not (.call 16 [.call 23 [.var 10, .var 4], .call 11 [.bi .list [.bvar 10], .var 4]]))) [.ret [] (.lit (.bl false))] [], .asg [] (.var 11) (.bi .tuple [.comp [13] (.var 13) (.bi .range1 [.bvar 3]) (.cmp .eq (.call 15 [.var 1, .var 0, .lit (.int 2)]) (.lit (.int 0))) (.var 13)]), .asg [] (.var 12) (.call 20 [.var 7, .lit (.int 1)]), .for [] (.var 13) (.var 11) lb_16, .ifs (.not (.call 16 [.var 12, .call 13 [.bi .list [.bvar 5], .var 11]])) [.ret [] (.lit (.bl false))] [], .asg [] (.var 14) (.tup [.lit (.int 0), .lit (.int 1)]), .ret [] (.cmp .eq (.lst [.lit (.tup [.tup [.tup [.int 0, .int 0], .tup [.int 1, .int 0]], .tup [.tup [.int 1, .int 0], .tup [.int 0, .int 0]]]), .lit (.tup [.tup [.tup [.int 0, .int 0], .tup [.int 0, .int (-1)]], .tup [.tup [.int 0, .int 1], .tup [.int 0, .int 0]]]), .lit (.tup [.tup [.tup [.int 1, .int 0], .tup [.int 0, .int 0]], .tup [.tup [.int 0, .int 0], .tup [.int (-1), .int 0]]])]) (.lst [.tup [.tup [.tup [.lit (.int 0), .lit (.int 0)], .tup [.lit (.int 1), .lit (.int 0)]], .tup [.tup [.lit (.int 1), .lit (.int 0)], .tup [.lit (.int 0), .lit (.int 0)]]], .tup [.tup [.tup [.lit (.int 0), .lit (.int 0)], .tup [.lit (.int 0), .neg (.lit (.int 1))]], .tup [.var 14, .tup [.lit (.int 0), .lit (.int 0)]]], .tup [.tup [.tup [.lit (.int 1), .lit (.int 0)], .tup [.lit (.int 0), .lit (.int 0)]], .tup [.tup [.lit (.int 0), .lit (.int 0)], .tup [.neg (.lit (.int 1)), .lit (.int 0)]]]]))]
theorem gather_no {f : D → GS → Option (Option D × GS)} {g : GS} : ∀ {l : List D}, (∀ x ∈ l, f x g = some (none, g)) → gather f l g = some ([], g)
  | [], _ => rfl
  | x :: l, h => gather_none (h x (List.mem_cons_self ..)) (gather_no fun y hy => h y (List.mem_cons_of_mem _ hy))
theorem gather_flt {F : D → GS → Option (Option D × GS)} {c : Nat} : ∀ {l : List Nat} {g : GS}, G2 g → (∀ j ∈ l, j < c) → (∀ j g, G2 g → ∃ (b : Bool) (g' : GS), F (nD j) g = some (if b = true then some (nD j) else none, g') ∧ G2 g') → ∃ (js : List Nat) (g' : GS), gather F (l.map nD) g = some (js.map nD, g') ∧ G2 g' ∧ (∀ j ∈ js, j < c) ∧ js.length ≤ l.length
  | [], g, hg, _, _ => ⟨[], g, rfl, hg, by simp, by simp⟩
  | j :: l, g, hg, hc, h => by
    obtain ⟨b, g1, e1, G1'⟩ := h j g hg
    obtain ⟨js, g2, e2, G2', h3, h4⟩ := gather_flt G1' (fun i hi => hc i (List.mem_cons_of_mem _ hi)) h
    rw [List.map_cons]
    cases b with
    | true => exact ⟨j :: js, g2, gather_some e1 e2, G2', fun i hi => by
        rcases List.mem_cons.mp hi with rfl | hi
        · exact hc _ (List.mem_cons_self ..)
        · exact h3 i hi, by simp; omega⟩
    | false => exact ⟨js, g2, gather_none e1 e2, G2', h3, by simp; omega⟩
theorem gF_ifg {call : Calls} {tg : G} {ρ ρ' : Env} {cond elt : C} {x y k : D} {b : Bool} {g g' : GS} (h : asg tg x ρ = some ρ') (hc : ev call cond ρ' g = some (k, g')) (hk : truth k = some b) (e : ev call elt ρ' g' = some (y, g')) : gF call tg ρ cond elt x g = some (if b = true then some y else none, g') := by
  unfold gF
  cases b <;> simp [h, hc, bnd_some, hk, e]
theorem plain_fit {p m : Nat} (hm : m ≤ 2 * p + 1) : fitB (2 ^ p) m (uT p) (fun _ => 1) = true := by
  have h := told_fit (p := p) (m := m) (s := fun _ => 1) (fun _ _ => .inl rfl) hm
  have e : told p (fun _ => 1) = uT p := by
    funext a i j
    show (1 : Gi) * uT p a i j = _
    grind
  rw [e] at h
  exact h
theorem sm_told {p : Nat} {s : Nat → Int} {a n : Nat} (hs : s a = 1 ∨ s a = -1) : smT n (told p s a) := smT_one fun i j => by
  show oneG (sqG (s a) * uT p a i j)
  refine oneG_mul ?_ (one_un p a i j)
  unfold sqG oneG
  split <;> decide
theorem sm_bent {p : Nat} {s : Nat → Int} {a n : Nat} (hs : s a = 1 ∨ s a = -1) : smT n (plT (told p s a) idT) := fun i j hi hj => by
  have h1 : oneG (told p s a i j) := by
    show oneG (sqG (s a) * uT p a i j)
    refine oneG_mul ?_ (one_un p a i j)
    unfold sqG oneG
    split <;> decide
  have h2 : oneG (idT i j) := by
    unfold idT oneG
    split <;> decide
  unfold oneG at h1 h2
  unfold smG plT
  rw [Gi.add_a, Gi.add_b]
  omega
def le_0 : S := .asg [] (.var 3) (.bin .add (.lit (.int 1)) (.call 15 [.var 1, .var 0, .lit (.int 5)]))
def le_1 : S := .asg [] (.var 4) (.bi .tuple [.comp [13] (.var 13) (.bi .range1 [.bvar 3]) (.lit (.bl true)) (.idx (.lst [.lit (.int 1), .neg (.lit (.int 1))]) (.call 15 [.var 1, .var 0, .lit (.int 2)]))])
def le_2 : S := .par [] [5, 6] [.call 12 [.var 4], .call 9 [.var 3]]
def le_3 : S := .asg [] (.var 7) (.call 17 [.bin .fdiv (.bin .add (.bvar 3) (.lit (.int 1))) (.lit (.int 2))])
def le_4 : S := .ifs (.or (.cmp .ne (.bi .len [.bvar 5]) (.bvar 3)) (.or (.cmp .ne (.bi .len [.bvar 6]) (.bvar 3)) (.cmp .ne (.comp [16] (.var 16) (.bin .add (.bvar 5) (.bvar 6)) (.or (.cmp .ne (.bi .len [.bvar 16]) (.bvar 7)) (.cmp .ne (.comp [26] (.var 26) (.bvar 16) (.cmp .ne (.bi .len [.bvar 26]) (.bvar 7)) (.var 26)) (.lst []))) (.var 16)) (.lst [])))) [.ret [] (.lit (.bl false))] []
def le_5 : S := .ifs (.or (.not (.call 23 [.var 5, .var 4])) (.or (.not (.call 23 [.var 6, .comp [13] (.var 13) (.bi .range1 [.bvar 3]) (.lit (.bl true)) (.lit (.int 1))])) (.not (.call 11 [.bi .list [.bvar 5], .var 4])))) [.ret [] (.lit (.bl false))] []
def le_6 : S := .ifs (.and (.cmp .eq (.bin .mul (.bin .fdiv (.bvar 3) (.lit (.int 2))) (.lit (.int 2))) (.bvar 3)) (.not (.call 23 [.bin .add (.bi .list [.bvar 6]) (.lst [.call 10 [.bin .fdiv (.bvar 3) (.lit (.int 2))]]), .comp [13] (.var 13) (.bi .range1 [.bin .add (.bvar 3) (.lit (.int 1))]) (.lit (.bl true)) (.lit (.int 1))]))) [.ret [] (.lit (.bl false))] []
def le_7 : S := .paro [] 8 9 (.call 15 [.var 1, .var 0, .var 3]) (.bi .list [.bvar 4])
def le_8 : S := .seti [] 9 (.bvar 8) (.neg (.idx (.bvar 9) (.bvar 8)))
def le_9 : S := .own [] 10 (.bi .list [.bvar 5])
def le_10 : S := .seti [] 10 (.bvar 8) (.idx (.lst [.idx (.bvar 5) (.lit (.int 0)), .call 21 [.idx (.bvar 5) (.bvar 8), .call 20 [.var 7, .lit (.int 1)], .lit (.int 1)], .idx (.bvar 5) (.bvar 8)]) (.call 15 [.var 1, .var 0, .lit (.int 3)]))
def le_11 : S := .ifz [10] (.or (.call 11 [.bi .list [.bvar 5], .bi .tuple [.bvar 9]]) (.not (.call 16 [.call 23 [.var 10, .var 4], .call 11 [.bi .list [.bvar 10], .var 4]]))) [.ret [] (.lit (.bl false))] []
def le_12 : S := .asg [] (.var 11) (.bi .tuple [.comp [13] (.var 13) (.bi .range1 [.bvar 3]) (.cmp .eq (.call 15 [.var 1, .var 0, .lit (.int 2)]) (.lit (.int 0))) (.var 13)])
def le_13 : S := .asg [] (.var 12) (.call 20 [.var 7, .lit (.int 1)])
def le_14 : S := .for [] (.var 13) (.var 11) lb_16
def le_15 : S := .ifs (.not (.call 16 [.var 12, .call 13 [.bi .list [.bvar 5], .var 11]])) [.ret [] (.lit (.bl false))] []
def le_16 : S := .asg [] (.var 14) (.tup [.lit (.int 0), .lit (.int 1)])
def le_17 : S := .ret [] (.cmp .eq (.lst [.lit (.tup [.tup [.tup [.int 0, .int 0], .tup [.int 1, .int 0]], .tup [.tup [.int 1, .int 0], .tup [.int 0, .int 0]]]), .lit (.tup [.tup [.tup [.int 0, .int 0], .tup [.int 0, .int (-1)]], .tup [.tup [.int 0, .int 1], .tup [.int 0, .int 0]]]), .lit (.tup [.tup [.tup [.int 1, .int 0], .tup [.int 0, .int 0]], .tup [.tup [.int 0, .int 0], .tup [.int (-1), .int 0]]])]) (.lst [.tup [.tup [.tup [.lit (.int 0), .lit (.int 0)], .tup [.lit (.int 1), .lit (.int 0)]], .tup [.tup [.lit (.int 1), .lit (.int 0)], .tup [.lit (.int 0), .lit (.int 0)]]], .tup [.tup [.tup [.lit (.int 0), .lit (.int 0)], .tup [.lit (.int 0), .neg (.lit (.int 1))]], .tup [.var 14, .tup [.lit (.int 0), .lit (.int 0)]]], .tup [.tup [.tup [.lit (.int 1), .lit (.int 0)], .tup [.lit (.int 0), .lit (.int 0)]], .tup [.tup [.lit (.int 0), .lit (.int 0)], .tup [.neg (.lit (.int 1)), .lit (.int 0)]]]]))
theorem lend_eq : lendB = [le_0, le_1, le_2, le_3, le_4, le_5, le_6, le_7, le_8, le_9, le_10, le_11, le_12, le_13, le_14, le_15, le_16, le_17] := rfl
theorem lend (m : Nat) {g : GS} {ns : List Int} (hg : G2 g) (hl : ns.length ≤ 63) {v2 v3 v4 v5 v6 v7 v8 v9 v10 v11 v12 v13 v14 v15 v16 v17 v18 v19 v20 v21 v22 v23 v24 v25 v26 v27 : SV} : ∃ g', exs (callN tblT (m + 8)) lendB [.val (.scr ns), .val .st, v2, v3, v4, v5, v6, v7, v8, v9, v10, v11, v12, v13, v14, v15, v16, v17, v18, v19, v20, v21, v22, v23, v24, v25, v26, v27] g = some (.rt (.bl true), g') := by
  rw [lend_eq]
  obtain ⟨d, g1, e1, G1, hd⟩ := e_draw (m := m + 6) (size := 5) (ρ := [.val (.scr ns), .val .st, v2, v3, v4, v5, v6, v7, v8, v9, v10, v11, v12, v13, v14, v15, v16, v17, v18, v19, v20, v21, v22, v23, v24, v25, v26, v27]) (i := 1) (j := 0) rfl rfl hg hl (by decide) (by decide)
  have e1 : ev (callN tblT (m + 8)) (.bin .add (.lit (.int 1)) (.call 15 [.var 1, .var 0, .lit (.int 5)])) [.val (.scr ns), .val .st, v2, v3, v4, v5, v6, v7, v8, v9, v10, v11, v12, v13, v14, v15, v16, v17, v18, v19, v20, v21, v22, v23, v24, v25, v26, v27] g = some (nD (1 + d), g1) := ev_bin2 ev_lit e1 (add_nat (a := 1))
  have hc1 : 0 < 1 + d := by omega
  have hc5 : 1 + d ≤ 5 := by omega
  clear hd
  generalize 1 + d = c at *
  obtain ⟨p, hp⟩ : ∃ p, p = (c + 1) / 2 := ⟨_, rfl⟩
  have hp1 : c ≤ 2 * p := by omega
  have hp2 : p ≤ 3 := by omega
  have hn0 : 0 < 2 ^ p := Nat.two_pow_pos p
  have hn1 : 2 ^ p ≤ 100 := Nat.le_trans (Nat.pow_le_pow_right (by decide) (show p ≤ 6 by omega)) (by decide)
  have se0 : ex (callN tblT (m + 8)) le_0 [.val (.scr ns), .val .st, v2, v3, v4, v5, v6, v7, v8, v9, v10, v11, v12, v13, v14, v15, v16, v17, v18, v19, v20, v21, v22, v23, v24, v25, v26, v27] g = some (.nx [.val (.scr ns), .val .st, v2, .val (nD c), v4, v5, v6, v7, v8, v9, v10, v11, v12, v13, v14, v15, v16, v17, v18, v19, v20, v21, v22, v23, v24, v25, v26, v27], g1) := ex_asg1 e1
  obtain ⟨zs, g2, e2, G2_, hzl, hzs⟩ := gather_ex (α := Int) (emb := D.int) (Pr := fun z => z = 1 ∨ z = -1) (P := fun _ => True) (F := gF (callN tblT (m + 8)) (.var 13) (wipeE [.val (.scr ns), .val .st, v2, .val (nD c), v4, v5, v6, v7, v8, v9, v10, v11, v12, v13, v14, v15, v16, v17, v18, v19, v20, v21, v22, v23, v24, v25, v26, v27] [13]) (.lit (.bl true)) (.idx (.lst [.lit (.int 1), .neg (.lit (.int 1))]) (.call 15 [.var 1, .var 0, .lit (.int 2)]))) (l := lN c nD) G1 (fun _ _ => trivial) (by
    intro x _ g hg
    obtain ⟨d, g', e, G', hd⟩ := e_draw (m := m + 6) (size := 2) (ρ := [.val (.scr ns), .val .st, v2, .val (nD c), v4, v5, v6, v7, v8, v9, v10, v11, v12, .val x, v14, v15, v16, v17, v18, v19, v20, v21, v22, v23, v24, v25, v26, v27]) (i := 1) (j := 0) rfl rfl hg hl (by decide) (by decide)
    have hd2 : d = 0 ∨ d = 1 := by omega
    rcases hd2 with rfl | rfl
    · exact ⟨1, g', gF_one rfl (ev_idx2 (ev_lst (evs_cons ev_lit (evs_cons (ev_neg ev_lit) evs_nil))) e rfl), G', .inl rfl⟩
    · exact ⟨-1, g', gF_one rfl (ev_idx2 (ev_lst (evs_cons ev_lit (evs_cons (ev_neg ev_lit) evs_nil))) e rfl), G', .inr rfl⟩)
  rw [lN_len] at hzl
  rw [map_lN 0, hzl] at e2
  have hs : ∀ a, a < c → zs.getD a 0 = 1 ∨ zs.getD a 0 = -1 := fun a ha => hzs _ (getD_mem (by omega))
  obtain ⟨s, hsd⟩ : ∃ s : Nat → Int, s = fun a => zs.getD a 0 := ⟨_, rfl⟩
  have hs : ∀ a, a < c → s a = 1 ∨ s a = -1 := fun a ha => by rw [hsd]; exact hs a ha
  rw [show (lN c fun i => D.int (zs.getD i 0)) = lN c fun a => D.int (s a) by rw [hsd]] at e2
  have se1 : ex (callN tblT (m + 8)) le_1 [.val (.scr ns), .val .st, v2, .val (nD c), v4, v5, v6, v7, v8, v9, v10, v11, v12, v13, v14, v15, v16, v17, v18, v19, v20, v21, v22, v23, v24, v25, v26, v27] g1 = some (.nx [.val (.scr ns), .val .st, v2, .val (nD c), .val (tN c fun a => .int (s a)), v5, v6, v7, v8, v9, v10, v11, v12, v13, v14, v15, v16, v17, v18, v19, v20, v21, v22, v23, v24, v25, v26, v27], g2) := ex_asg1 (ev_b1 (ev_comp (ev_b1 (ev_bv rfl) (rng_lN (by omega))) rfl e2 (by rw [lN_len]; unfold sizeLine; omega)) rfl)
  have se2 : ex (callN tblT (m + 8)) le_2 [.val (.scr ns), .val .st, v2, .val (nD c), .val (tN c fun a => .int (s a)), v5, v6, v7, v8, v9, v10, v11, v12, v13, v14, v15, v16, v17, v18, v19, v20, v21, v22, v23, v24, v25, v26, v27] g2 = some (.nx [.val (.scr ns), .val .st, v2, .val (nD c), .val (tN c fun a => .int (s a)), .val (lsN c fun a => tbD (2 ^ p) (told p s a)), .val (lsN c fun a => tbD (2 ^ p) (uT p a)), v7, v8, v9, v10, v11, v12, v13, v14, v15, v16, v17, v18, v19, v20, v21, v22, v23, v24, v25, v26, v27], g2) := ex_par2 (ev_c1 (ev_v rfl) (t_with (m := m + 4) (by omega) hp)) (ev_c1 (ev_v rfl) (t_units (m := m + 5) (by omega) hp))
  have se3 : ex (callN tblT (m + 8)) le_3 [.val (.scr ns), .val .st, v2, .val (nD c), .val (tN c fun a => .int (s a)), .val (lsN c fun a => tbD (2 ^ p) (told p s a)), .val (lsN c fun a => tbD (2 ^ p) (uT p a)), v7, v8, v9, v10, v11, v12, v13, v14, v15, v16, v17, v18, v19, v20, v21, v22, v23, v24, v25, v26, v27] g2 = some (.nx [.val (.scr ns), .val .st, v2, .val (nD c), .val (tN c fun a => .int (s a)), .val (lsN c fun a => tbD (2 ^ p) (told p s a)), .val (lsN c fun a => tbD (2 ^ p) (uT p a)), .val (nD (2 ^ p)), v8, v9, v10, v11, v12, v13, v14, v15, v16, v17, v18, v19, v20, v21, v22, v23, v24, v25, v26, v27], g2) := ex_asg1 (ev_c1 (ev_bin2 (ev_bin2 (ev_bv rfl) ev_lit (add_nat (b := 1))) ev_lit (z := nD p) (by rw [hp]; exact div2_nat)) (t_two (m := m + 7) (by omega)))
  have eN : ∀ n, cmpD .ne (nD n) (nD n) = some (.bl false) := fun n => by rw [ne_nat, decide_eq_true rfl]; rfl
  have eall : gather (gF (callN tblT (m + 8)) (.var 16) (wipeE [.val (.scr ns), .val .st, v2, .val (nD c), .val (tN c fun a => .int (s a)), .val (lsN c fun a => tbD (2 ^ p) (told p s a)), .val (lsN c fun a => tbD (2 ^ p) (uT p a)), .val (nD (2 ^ p)), v8, v9, v10, v11, v12, v13, v14, v15, v16, v17, v18, v19, v20, v21, v22, v23, v24, v25, v26, v27] [16]) (.or (.cmp .ne (.bi .len [.bvar 16]) (.bvar 7)) (.cmp .ne (.comp [26] (.var 26) (.bvar 16) (.cmp .ne (.bi .len [.bvar 26]) (.bvar 7)) (.var 26)) (.lst []))) (.var 16)) ((lN c fun a => tbD (2 ^ p) (told p s a)) ++ lN c fun a => tbD (2 ^ p) (uT p a)) g2 = some ([], g2) := by
    refine gather_no fun x hx => ?_
    obtain ⟨T, rfl⟩ : ∃ T, x = tbD (2 ^ p) T := by
      rcases List.mem_append.mp hx with h | h
      · obtain ⟨a, _, rfl⟩ := List.mem_map.mp h
        exact ⟨_, rfl⟩
      · obtain ⟨a, _, rfl⟩ := List.mem_map.mp h
        exact ⟨_, rfl⟩
    have ein : ev (callN tblT (m + 8)) (.comp [26] (.var 26) (.bvar 16) (.cmp .ne (.bi .len [.bvar 26]) (.bvar 7)) (.var 26)) [.val (.scr ns), .val .st, v2, .val (nD c), .val (tN c fun a => .int (s a)), .val (lsN c fun a => tbD (2 ^ p) (told p s a)), .val (lsN c fun a => tbD (2 ^ p) (uT p a)), .val (nD (2 ^ p)), v8, v9, v10, v11, v12, v13, v14, v15, .val (tbD (2 ^ p) T), v17, v18, v19, v20, v21, v22, v23, v24, v25, v26, v27] g2 = some (.lst [], g2) := by
      refine ev_comp (s := tbD (2 ^ p) T) (ys := []) (ev_bv rfl) rfl (gather_no fun x hx => ?_) (Nat.zero_le _)
      obtain ⟨i, _, rfl⟩ := List.mem_map.mp hx
      exact gF_if (b := false) (ρ' := [.val (.scr ns), .val .st, v2, .val (nD c), .val (tN c fun a => .int (s a)), .val (lsN c fun a => tbD (2 ^ p) (told p s a)), .val (lsN c fun a => tbD (2 ^ p) (uT p a)), .val (nD (2 ^ p)), v8, v9, v10, v11, v12, v13, v14, v15, .val (tbD (2 ^ p) T), v17, v18, v19, v20, v21, v22, v23, v24, v25, .val (tN (2 ^ p) fun j => gD (T i j)), v27]) rfl (ev_cmp2 (ev_b1 (ev_bv rfl) len_tN) (ev_bv rfl) (eN _)) rfl (ev_v rfl)
    exact gF_if (b := false) (ρ' := [.val (.scr ns), .val .st, v2, .val (nD c), .val (tN c fun a => .int (s a)), .val (lsN c fun a => tbD (2 ^ p) (told p s a)), .val (lsN c fun a => tbD (2 ^ p) (uT p a)), .val (nD (2 ^ p)), v8, v9, v10, v11, v12, v13, v14, v15, .val (tbD (2 ^ p) T), v17, v18, v19, v20, v21, v22, v23, v24, v25, v26, v27]) rfl (ev_or0 (ev_cmp2 (ev_b1 (ev_bv rfl) len_tN) (ev_bv rfl) (eN _)) (ev_cmp2 ein (ev_lst evs_nil) (z := .bl false) rfl)) rfl (ev_v rfl)
  have eadd : binD .add (lsN c fun a => tbD (2 ^ p) (told p s a)) (lsN c fun a => tbD (2 ^ p) (uT p a)) = some (.lst ((lN c fun a => tbD (2 ^ p) (told p s a)) ++ lN c fun a => tbD (2 ^ p) (uT p a))) := by
    show (if (lN c fun a => tbD (2 ^ p) (told p s a)).length + (lN c fun a => tbD (2 ^ p) (uT p a)).length ≤ sizeLine then some (D.lst ((lN c fun a => tbD (2 ^ p) (told p s a)) ++ lN c fun a => tbD (2 ^ p) (uT p a))) else none) = _
    rw [if_pos (by rw [lN_len, lN_len]; unfold sizeLine; omega)]
  have se4 : ex (callN tblT (m + 8)) le_4 [.val (.scr ns), .val .st, v2, .val (nD c), .val (tN c fun a => .int (s a)), .val (lsN c fun a => tbD (2 ^ p) (told p s a)), .val (lsN c fun a => tbD (2 ^ p) (uT p a)), .val (nD (2 ^ p)), v8, v9, v10, v11, v12, v13, v14, v15, v16, v17, v18, v19, v20, v21, v22, v23, v24, v25, v26, v27] g2 = some (.nx [.val (.scr ns), .val .st, v2, .val (nD c), .val (tN c fun a => .int (s a)), .val (lsN c fun a => tbD (2 ^ p) (told p s a)), .val (lsN c fun a => tbD (2 ^ p) (uT p a)), .val (nD (2 ^ p)), v8, v9, v10, v11, v12, v13, v14, v15, v16, v17, v18, v19, v20, v21, v22, v23, v24, v25, v26, v27], g2) := ex_if0 (ev_or0 (ev_cmp2 (ev_b1 (ev_bv rfl) len_lsN) (ev_bv rfl) (eN _)) (ev_or0 (ev_cmp2 (ev_b1 (ev_bv rfl) len_lsN) (ev_bv rfl) (eN _)) (ev_cmp2 (ev_comp (ev_bin2 (ev_bv rfl) (ev_bv rfl) eadd) rfl eall (Nat.zero_le _)) (ev_lst evs_nil) (z := .bl false) rfl))) rfl
  have hst : ∀ a, a < c → smT (2 ^ p) (told p s a) := fun a ha => sm_told (hs a ha)
  have hsu : ∀ a, a < c + 1 → smT (2 ^ p) (uT p a) := fun a _ => smT_one (one_un p a)
  have et : callN tblT (m + 8) 23 [(lsN c fun a => tbD (2 ^ p) (told p s a)), (tN c fun a => .int (s a))] g2 = some (.bl true, g2) := by
    rw [t_fits (m := m + 5) (s := s) hn0 hn1 hc1 (by omega) hst fun a ha => idx_tN ha, told_fit hs (by omega)]
  have ep : callN tblT (m + 8) 23 [(lsN c fun a => tbD (2 ^ p) (uT p a)), lsN c fun _ => .int 1] g2 = some (.bl true, g2) := by
    rw [t_fits (m := m + 5) (s := fun _ => 1) hn0 hn1 hc1 (by omega) (fun a ha => hsu a (by omega)) fun a ha => idx_lsN ha, plain_fit (by omega)]
  have ex_ : callN tblT (m + 8) 11 [(lsN c fun a => tbD (2 ^ p) (told p s a)), (tN c fun a => .int (s a))] g2 = some (.bl true, g2) := by
    rw [t_exch (m := m + 5) hn0 hn1 hst hs (Nat.le_refl c), told_fit hs (by omega)]
  have se5 : ex (callN tblT (m + 8)) le_5 [.val (.scr ns), .val .st, v2, .val (nD c), .val (tN c fun a => .int (s a)), .val (lsN c fun a => tbD (2 ^ p) (told p s a)), .val (lsN c fun a => tbD (2 ^ p) (uT p a)), .val (nD (2 ^ p)), v8, v9, v10, v11, v12, v13, v14, v15, v16, v17, v18, v19, v20, v21, v22, v23, v24, v25, v26, v27] g2 = some (.nx [.val (.scr ns), .val .st, v2, .val (nD c), .val (tN c fun a => .int (s a)), .val (lsN c fun a => tbD (2 ^ p) (told p s a)), .val (lsN c fun a => tbD (2 ^ p) (uT p a)), .val (nD (2 ^ p)), v8, v9, v10, v11, v12, v13, v14, v15, v16, v17, v18, v19, v20, v21, v22, v23, v24, v25, v26, v27], g2) := ex_if0 (ev_or0 (ev_not (ev_c2 (ev_v rfl) (ev_v rfl) et) rfl) (ev_or0 (ev_not (ev_c2 (ev_v rfl) (ev_cN (n := c) (v := nD) (w := fun _ => .int 1) (ev_b1 (ev_bv rfl) (rng_lN (by omega))) rfl (by omega) fun k hk => ev_lit) ep) rfl) (ev_not (ev_c2 (ev_b1 (ev_bv rfl) (z := (lsN c fun a => tbD (2 ^ p) (told p s a))) rfl) (ev_v rfl) ex_) rfl))) rfl
  have se6 : ex (callN tblT (m + 8)) le_6 [.val (.scr ns), .val .st, v2, .val (nD c), .val (tN c fun a => .int (s a)), .val (lsN c fun a => tbD (2 ^ p) (told p s a)), .val (lsN c fun a => tbD (2 ^ p) (uT p a)), .val (nD (2 ^ p)), v8, v9, v10, v11, v12, v13, v14, v15, v16, v17, v18, v19, v20, v21, v22, v23, v24, v25, v26, v27] g2 = some (.nx [.val (.scr ns), .val .st, v2, .val (nD c), .val (tN c fun a => .int (s a)), .val (lsN c fun a => tbD (2 ^ p) (told p s a)), .val (lsN c fun a => tbD (2 ^ p) (uT p a)), .val (nD (2 ^ p)), v8, v9, v10, v11, v12, v13, v14, v15, v16, v17, v18, v19, v20, v21, v22, v23, v24, v25, v26, v27], g2) := by
    have ec : ev (callN tblT (m + 8)) (.cmp .eq (.bin .mul (.bin .fdiv (.bvar 3) (.lit (.int 2))) (.lit (.int 2))) (.bvar 3)) [.val (.scr ns), .val .st, v2, .val (nD c), .val (tN c fun a => .int (s a)), .val (lsN c fun a => tbD (2 ^ p) (told p s a)), .val (lsN c fun a => tbD (2 ^ p) (uT p a)), .val (nD (2 ^ p)), v8, v9, v10, v11, v12, v13, v14, v15, v16, v17, v18, v19, v20, v21, v22, v23, v24, v25, v26, v27] g2 = some (.bl (decide (c / 2 * 2 = c)), g2) := ev_cmp2 (ev_bin2 (ev_bin2 (ev_bv rfl) ev_lit div2_nat) ev_lit (mul_nat (b := 2) (by decide))) (ev_bv rfl) eq_nat
    by_cases h : c / 2 * 2 = c
    · rw [decide_eq_true h] at ec
      have hp3 : p = c / 2 := by omega
      have hcp : c = 2 * p := by omega
      have el : callN tblT (m + 8) 23 [lsN (c + 1) fun a => tbD (2 ^ p) (uT p a), lsN (c + 1) fun _ => .int 1] g2 = some (.bl true, g2) := by
        rw [t_fits (m := m + 5) (s := fun _ => 1) hn0 hn1 (by omega) (by omega) hsu fun a ha => idx_lsN ha, plain_fit (by omega)]
      have ea : binD .add (.lst (lN c fun a => tbD (2 ^ p) (uT p a))) (.lst [tbD (2 ^ p) (uT p (2 * p))]) = some (lsN (c + 1) fun a => tbD (2 ^ p) (uT p a)) := by
        show (if (lN c fun a => tbD (2 ^ p) (uT p a)).length + 1 ≤ sizeLine then some (D.lst ((lN c fun a => tbD (2 ^ p) (uT p a)) ++ [tbD (2 ^ p) (uT p (2 * p))])) else none) = _
        rw [if_pos (by rw [lN_len]; unfold sizeLine; omega), lsN, lN_succ, ← hcp]
      have e3 : ev (callN tblT (m + 8)) (.bin .fdiv (.bvar 3) (.lit (.int 2))) [.val (.scr ns), .val .st, v2, .val (nD c), .val (tN c fun a => .int (s a)), .val (lsN c fun a => tbD (2 ^ p) (told p s a)), .val (lsN c fun a => tbD (2 ^ p) (uT p a)), .val (nD (2 ^ p)), v8, v9, v10, v11, v12, v13, v14, v15, v16, v17, v18, v19, v20, v21, v22, v23, v24, v25, v26, v27] g2 = some (nD p, g2) := by
        rw [hp3]
        exact ev_bin2 (ev_bv rfl) ev_lit div2_nat
      exact ex_if0 (ev_and1 ec (ev_not (ev_c2 (ev_bin2 (ev_b1 (ev_bv rfl) (z := .lst (lN c fun a => tbD (2 ^ p) (uT p a))) rfl) (ev_lst (evs_cons (ev_c1 e3 (t_last (m := m + 5) (by omega))) evs_nil)) ea) (ev_cN (n := c + 1) (v := nD) (w := fun _ => .int 1) (ev_b1 (ev_bin2 (ev_bv rfl) ev_lit (add_nat (b := 1))) (rng_lN (by omega))) rfl (by omega) fun k hk => ev_lit) el) rfl)) rfl
    · rw [decide_eq_false h] at ec
      exact ex_if0 (ev_and0 ec) rfl
  obtain ⟨t, g3, e3, G3, ht⟩ := t_draw (m := m + 6) G2_ hl hc1 (by omega)
  have se7 : ex (callN tblT (m + 8)) le_7 [.val (.scr ns), .val .st, v2, .val (nD c), .val (tN c fun a => .int (s a)), .val (lsN c fun a => tbD (2 ^ p) (told p s a)), .val (lsN c fun a => tbD (2 ^ p) (uT p a)), .val (nD (2 ^ p)), v8, v9, v10, v11, v12, v13, v14, v15, v16, v17, v18, v19, v20, v21, v22, v23, v24, v25, v26, v27] g2 = some (.nx [.val (.scr ns), .val .st, v2, .val (nD c), .val (tN c fun a => .int (s a)), .val (lsN c fun a => tbD (2 ^ p) (told p s a)), .val (lsN c fun a => tbD (2 ^ p) (uT p a)), .val (nD (2 ^ p)), .val (nD t), .own (lN c fun a => .int (s a)), v10, v11, v12, v13, v14, v15, v16, v17, v18, v19, v20, v21, v22, v23, v24, v25, v26, v27], g3) := ex_paroE (ev_c3 (ev_v rfl) (ev_v rfl) (ev_v rfl) e3) (ev_b1 (ev_bv rfl) (z := .lst (lN c fun a => .int (s a))) rfl)
  obtain ⟨s2, hs2⟩ : ∃ s2 : Nat → Int, s2 = fun i => if i = t then -s t else s i := ⟨_, rfl⟩
  have eset : (lN c fun a => D.int (s a)).set t (.int (-s t)) = lN c fun a => .int (s2 a) := by
    rw [set_lN ht, hs2]
    exact lN_congr fun i _ => by dsimp only; split <;> rfl
  have se8 : ex (callN tblT (m + 8)) le_8 [.val (.scr ns), .val .st, v2, .val (nD c), .val (tN c fun a => .int (s a)), .val (lsN c fun a => tbD (2 ^ p) (told p s a)), .val (lsN c fun a => tbD (2 ^ p) (uT p a)), .val (nD (2 ^ p)), .val (nD t), .own (lN c fun a => .int (s a)), v10, v11, v12, v13, v14, v15, v16, v17, v18, v19, v20, v21, v22, v23, v24, v25, v26, v27] g3 = some (.nx [.val (.scr ns), .val .st, v2, .val (nD c), .val (tN c fun a => .int (s a)), .val (lsN c fun a => tbD (2 ^ p) (told p s a)), .val (lsN c fun a => tbD (2 ^ p) (uT p a)), .val (nD (2 ^ p)), .val (nD t), .own (lN c fun a => .int (s2 a)), v10, v11, v12, v13, v14, v15, v16, v17, v18, v19, v20, v21, v22, v23, v24, v25, v26, v27], g3) := by
    rw [← eset]
    exact ex_setiE (ev_neg (ev_idx2 (ev_bo rfl) (ev_bv rfl) (idx_lsN (f := fun a => .int (s a)) ht))) (ev_bv rfl) rfl (by rw [lN_len]; exact ht)
  have se9 : ex (callN tblT (m + 8)) le_9 [.val (.scr ns), .val .st, v2, .val (nD c), .val (tN c fun a => .int (s a)), .val (lsN c fun a => tbD (2 ^ p) (told p s a)), .val (lsN c fun a => tbD (2 ^ p) (uT p a)), .val (nD (2 ^ p)), .val (nD t), .own (lN c fun a => .int (s2 a)), v10, v11, v12, v13, v14, v15, v16, v17, v18, v19, v20, v21, v22, v23, v24, v25, v26, v27] g3 = some (.nx [.val (.scr ns), .val .st, v2, .val (nD c), .val (tN c fun a => .int (s a)), .val (lsN c fun a => tbD (2 ^ p) (told p s a)), .val (lsN c fun a => tbD (2 ^ p) (uT p a)), .val (nD (2 ^ p)), .val (nD t), .own (lN c fun a => .int (s2 a)), .own (lN c fun a => tbD (2 ^ p) (told p s a)), v11, v12, v13, v14, v15, v16, v17, v18, v19, v20, v21, v22, v23, v24, v25, v26, v27], g3) := ex_ownE (ev_b1 (ev_bv rfl) (z := .lst (lN c fun a => tbD (2 ^ p) (told p s a))) rfl)
  obtain ⟨T, g4, e4, G4, hT⟩ : ∃ (T : Tb) (g4 : GS), ev (callN tblT (m + 8)) (.idx (.lst [.idx (.bvar 5) (.lit (.int 0)), .call 21 [.idx (.bvar 5) (.bvar 8), .call 20 [.var 7, .lit (.int 1)], .lit (.int 1)], .idx (.bvar 5) (.bvar 8)]) (.call 15 [.var 1, .var 0, .lit (.int 3)])) [.val (.scr ns), .val .st, v2, .val (nD c), .val (tN c fun a => .int (s a)), .val (lsN c fun a => tbD (2 ^ p) (told p s a)), .val (lsN c fun a => tbD (2 ^ p) (uT p a)), .val (nD (2 ^ p)), .val (nD t), .own (lN c fun a => .int (s2 a)), .own (lN c fun a => tbD (2 ^ p) (told p s a)), v11, v12, v13, v14, v15, v16, v17, v18, v19, v20, v21, v22, v23, v24, v25, v26, v27] g3 = some (tbD (2 ^ p) T, g4) ∧ G2 g4 ∧ smT (2 ^ p) T := by
    obtain ⟨d, g4, e4, G4, hd⟩ := e_draw (m := m + 6) (size := 3) (ρ := [.val (.scr ns), .val .st, v2, .val (nD c), .val (tN c fun a => .int (s a)), .val (lsN c fun a => tbD (2 ^ p) (told p s a)), .val (lsN c fun a => tbD (2 ^ p) (uT p a)), .val (nD (2 ^ p)), .val (nD t), .own (lN c fun a => .int (s2 a)), .own (lN c fun a => tbD (2 ^ p) (told p s a)), v11, v12, v13, v14, v15, v16, v17, v18, v19, v20, v21, v22, v23, v24, v25, v26, v27]) (i := 1) (j := 0) rfl rfl G3 hl (by decide) (by decide)
    have el : ev (callN tblT (m + 8)) (.lst [.idx (.bvar 5) (.lit (.int 0)), .call 21 [.idx (.bvar 5) (.bvar 8), .call 20 [.var 7, .lit (.int 1)], .lit (.int 1)], .idx (.bvar 5) (.bvar 8)]) [.val (.scr ns), .val .st, v2, .val (nD c), .val (tN c fun a => .int (s a)), .val (lsN c fun a => tbD (2 ^ p) (told p s a)), .val (lsN c fun a => tbD (2 ^ p) (uT p a)), .val (nD (2 ^ p)), .val (nD t), .own (lN c fun a => .int (s2 a)), .own (lN c fun a => tbD (2 ^ p) (told p s a)), v11, v12, v13, v14, v15, v16, v17, v18, v19, v20, v21, v22, v23, v24, v25, v26, v27] g3 = some (.lst [tbD (2 ^ p) (told p s 0), tbD (2 ^ p) (plT (told p s t) idT), tbD (2 ^ p) (told p s t)], g3) :=
      ev_lst (evs_cons (ev_idx2 (ev_bv rfl) (ev_lit (d := nD 0)) (idx_lsN (f := fun a => tbD (2 ^ p) (told p s a)) hc1)) (evs_cons (ev_c3 (ev_idx2 (ev_bv rfl) (ev_bv rfl) (idx_lsN (f := fun a => tbD (2 ^ p) (told p s a)) ht)) (ev_c2 (ev_v rfl) ev_lit (t_lone (m := m + 7) hn1)) ev_lit (t_ladd (m := m + 7) hn1)) (evs_cons (ev_idx2 (ev_bv rfl) (ev_bv rfl) (idx_lsN (f := fun a => tbD (2 ^ p) (told p s a)) ht)) evs_nil)))
    have hd3 : d = 0 ∨ d = 1 ∨ d = 2 := by omega
    rcases hd3 with rfl | rfl | rfl
    · exact ⟨_, g4, ev_idx2 el e4 rfl, G4, hst 0 hc1⟩
    · exact ⟨_, g4, ev_idx2 el e4 rfl, G4, sm_bent (hs t ht)⟩
    · exact ⟨_, g4, ev_idx2 el e4 rfl, G4, hst t ht⟩
  obtain ⟨t2, ht2⟩ : ∃ t2 : Nat → Tb, t2 = fun i => if i = t then T else told p s i := ⟨_, rfl⟩
  have eset2 : (lN c fun a => tbD (2 ^ p) (told p s a)).set t (tbD (2 ^ p) T) = lN c fun a => tbD (2 ^ p) (t2 a) := by
    rw [set_lN ht, ht2]
    exact lN_congr fun i _ => by dsimp only; split <;> rfl
  have hst2 : ∀ a, a < c → smT (2 ^ p) (t2 a) := fun a ha => by
    rw [ht2]
    dsimp only
    split
    · exact hT
    · exact hst a ha
  have se10 : ex (callN tblT (m + 8)) le_10 [.val (.scr ns), .val .st, v2, .val (nD c), .val (tN c fun a => .int (s a)), .val (lsN c fun a => tbD (2 ^ p) (told p s a)), .val (lsN c fun a => tbD (2 ^ p) (uT p a)), .val (nD (2 ^ p)), .val (nD t), .own (lN c fun a => .int (s2 a)), .own (lN c fun a => tbD (2 ^ p) (told p s a)), v11, v12, v13, v14, v15, v16, v17, v18, v19, v20, v21, v22, v23, v24, v25, v26, v27] g3 = some (.nx [.val (.scr ns), .val .st, v2, .val (nD c), .val (tN c fun a => .int (s a)), .val (lsN c fun a => tbD (2 ^ p) (told p s a)), .val (lsN c fun a => tbD (2 ^ p) (uT p a)), .val (nD (2 ^ p)), .val (nD t), .own (lN c fun a => .int (s2 a)), .own (lN c fun a => tbD (2 ^ p) (t2 a)), v11, v12, v13, v14, v15, v16, v17, v18, v19, v20, v21, v22, v23, v24, v25, v26, v27], g4) := by
    rw [← eset2]
    exact ex_setiE e4 (ev_bv rfl) rfl (by rw [lN_len]; exact ht)
  have f1 : callN tblT (m + 8) 11 [(lsN c fun a => tbD (2 ^ p) (told p s a)), tN c fun a => .int (s2 a)] g4 = some (.bl false, g4) := by
    rw [t_exch (m := m + 5) hn0 hn1 hst (fun a ha => by
      rw [hs2]
      dsimp only
      have := hs t ht
      have := hs a ha
      split <;> omega) (Nat.le_refl c), told_unfit hs ht (by rw [hs2]; exact if_pos rfl)]
  have f2 : callN tblT (m + 8) 23 [lsN c fun a => tbD (2 ^ p) (t2 a), (tN c fun a => .int (s a))] g4 = some (.bl (fitB (2 ^ p) c t2 s), g4) := t_fits (m := m + 5) hn0 hn1 hc1 (by omega) hst2 fun a ha => idx_tN ha
  have f3 : callN tblT (m + 8) 11 [lsN c fun a => tbD (2 ^ p) (t2 a), (tN c fun a => .int (s a))] g4 = some (.bl (fitB (2 ^ p) c t2 s), g4) := t_exch (m := m + 5) hn0 hn1 hst2 hs (Nat.le_refl c)
  have f4 : callN tblT (m + 8) 16 [.bl (fitB (2 ^ p) c t2 s), .bl (fitB (2 ^ p) c t2 s)] g4 = some (.bl true, g4) := t_exact (m := m + 7) (n := 0) (by omega) (by simp [exOk])
  have se11 : ex (callN tblT (m + 8)) le_11 [.val (.scr ns), .val .st, v2, .val (nD c), .val (tN c fun a => .int (s a)), .val (lsN c fun a => tbD (2 ^ p) (told p s a)), .val (lsN c fun a => tbD (2 ^ p) (uT p a)), .val (nD (2 ^ p)), .val (nD t), .own (lN c fun a => .int (s2 a)), .own (lN c fun a => tbD (2 ^ p) (t2 a)), v11, v12, v13, v14, v15, v16, v17, v18, v19, v20, v21, v22, v23, v24, v25, v26, v27] g4 = some (.nx [.val (.scr ns), .val .st, v2, .val (nD c), .val (tN c fun a => .int (s a)), .val (lsN c fun a => tbD (2 ^ p) (told p s a)), .val (lsN c fun a => tbD (2 ^ p) (uT p a)), .val (nD (2 ^ p)), .val (nD t), .own (lN c fun a => .int (s2 a)), .val (lsN c fun a => tbD (2 ^ p) (t2 a)), v11, v12, v13, v14, v15, v16, v17, v18, v19, v20, v21, v22, v23, v24, v25, v26, v27], g4) := ex_ifzE (ev_or0 (ev_c2 (ev_b1 (ev_bv rfl) (z := (lsN c fun a => tbD (2 ^ p) (told p s a))) rfl) (ev_b1 (ev_bo rfl) (z := tN c fun a => .int (s2 a)) rfl) f1) (ev_not (ev_c2 (ev_c2 (ev_v rfl) (ev_v rfl) f2) (ev_c2 (ev_b1 (ev_bv rfl) (z := lsN c fun a => tbD (2 ^ p) (t2 a)) rfl) (ev_v rfl) f3) f4) rfl)) rfl
  obtain ⟨js, g5, e5, G5, hj, hjl⟩ := gather_flt (c := c) (F := gF (callN tblT (m + 8)) (.var 13) (wipeE [.val (.scr ns), .val .st, v2, .val (nD c), .val (tN c fun a => .int (s a)), .val (lsN c fun a => tbD (2 ^ p) (told p s a)), .val (lsN c fun a => tbD (2 ^ p) (uT p a)), .val (nD (2 ^ p)), .val (nD t), .own (lN c fun a => .int (s2 a)), .val (lsN c fun a => tbD (2 ^ p) (t2 a)), v11, v12, v13, v14, v15, v16, v17, v18, v19, v20, v21, v22, v23, v24, v25, v26, v27] [13]) (.cmp .eq (.call 15 [.var 1, .var 0, .lit (.int 2)]) (.lit (.int 0))) (.var 13)) (l := List.range c) G4 (fun j hj => List.mem_range.mp hj) (by
    intro j g hg
    obtain ⟨d, g', e, G', hd⟩ := e_draw (m := m + 6) (size := 2) (ρ := [.val (.scr ns), .val .st, v2, .val (nD c), .val (tN c fun a => .int (s a)), .val (lsN c fun a => tbD (2 ^ p) (told p s a)), .val (lsN c fun a => tbD (2 ^ p) (uT p a)), .val (nD (2 ^ p)), .val (nD t), .own (lN c fun a => .int (s2 a)), .val (lsN c fun a => tbD (2 ^ p) (t2 a)), v11, v12, .val (nD j), v14, v15, v16, v17, v18, v19, v20, v21, v22, v23, v24, v25, v26, v27]) (i := 1) (j := 0) rfl rfl hg hl (by decide) (by decide)
    exact ⟨decide (d = 0), g', gF_ifg (ρ' := [.val (.scr ns), .val .st, v2, .val (nD c), .val (tN c fun a => .int (s a)), .val (lsN c fun a => tbD (2 ^ p) (told p s a)), .val (lsN c fun a => tbD (2 ^ p) (uT p a)), .val (nD (2 ^ p)), .val (nD t), .own (lN c fun a => .int (s2 a)), .val (lsN c fun a => tbD (2 ^ p) (t2 a)), v11, v12, .val (nD j), v14, v15, v16, v17, v18, v19, v20, v21, v22, v23, v24, v25, v26, v27]) rfl (ev_cmp2 e ev_lit (eq_nat (b := 0))) rfl (ev_v rfl), G'⟩)
  rw [List.length_range] at hjl
  obtain ⟨jf, hjf⟩ : ∃ jf : Nat → Nat, jf = fun i => js.getD i 0 := ⟨_, rfl⟩
  obtain ⟨k, hk⟩ : ∃ k, k = js.length := ⟨_, rfl⟩
  have ejs : js.map nD = lN k fun i => nD (jf i) := by rw [hk, hjf]; exact map_lN 0 js
  have hjc : ∀ i, i < k → jf i < c := fun i hi => by rw [hjf]; exact hj _ (getD_mem (by omega))
  rw [ejs] at e5
  have se12 : ex (callN tblT (m + 8)) le_12 [.val (.scr ns), .val .st, v2, .val (nD c), .val (tN c fun a => .int (s a)), .val (lsN c fun a => tbD (2 ^ p) (told p s a)), .val (lsN c fun a => tbD (2 ^ p) (uT p a)), .val (nD (2 ^ p)), .val (nD t), .own (lN c fun a => .int (s2 a)), .val (lsN c fun a => tbD (2 ^ p) (t2 a)), v11, v12, v13, v14, v15, v16, v17, v18, v19, v20, v21, v22, v23, v24, v25, v26, v27] g4 = some (.nx [.val (.scr ns), .val .st, v2, .val (nD c), .val (tN c fun a => .int (s a)), .val (lsN c fun a => tbD (2 ^ p) (told p s a)), .val (lsN c fun a => tbD (2 ^ p) (uT p a)), .val (nD (2 ^ p)), .val (nD t), .own (lN c fun a => .int (s2 a)), .val (lsN c fun a => tbD (2 ^ p) (t2 a)), .val (tN k fun i => nD (jf i)), v12, v13, v14, v15, v16, v17, v18, v19, v20, v21, v22, v23, v24, v25, v26, v27], g5) := ex_asg1 (ev_b1 (ev_comp (ev_b1 (ev_bv rfl) (rng_lN (by omega))) rfl e5 (by rw [lN_len]; unfold sizeLine; omega)) rfl)
  have se13 : ex (callN tblT (m + 8)) le_13 [.val (.scr ns), .val .st, v2, .val (nD c), .val (tN c fun a => .int (s a)), .val (lsN c fun a => tbD (2 ^ p) (told p s a)), .val (lsN c fun a => tbD (2 ^ p) (uT p a)), .val (nD (2 ^ p)), .val (nD t), .own (lN c fun a => .int (s2 a)), .val (lsN c fun a => tbD (2 ^ p) (t2 a)), .val (tN k fun i => nD (jf i)), v12, v13, v14, v15, v16, v17, v18, v19, v20, v21, v22, v23, v24, v25, v26, v27] g5 = some (.nx [.val (.scr ns), .val .st, v2, .val (nD c), .val (tN c fun a => .int (s a)), .val (lsN c fun a => tbD (2 ^ p) (told p s a)), .val (lsN c fun a => tbD (2 ^ p) (uT p a)), .val (nD (2 ^ p)), .val (nD t), .own (lN c fun a => .int (s2 a)), .val (lsN c fun a => tbD (2 ^ p) (t2 a)), .val (tN k fun i => nD (jf i)), .val (tbD (2 ^ p) idT), v13, v14, v15, v16, v17, v18, v19, v20, v21, v22, v23, v24, v25, v26, v27], g5) := ex_asg1 (ev_c2 (ev_v rfl) ev_lit (t_lone (m := m + 7) hn1))
  obtain ⟨ρ', e14, u13, rfl⟩ := for_rngI (n := k) (g := g5) (b := fun z ρ g => match asg (.var 13) z ρ with | some ρ' => exs (callN tblT (m + 8)) lb_16 ρ' g | none => none) (v := fun i => nD (jf i)) (I := fun i ρ => ∃ v13, ρ = [.val (.scr ns), .val .st, v2, .val (nD c), .val (tN c fun a => .int (s a)), .val (lsN c fun a => tbD (2 ^ p) (told p s a)), .val (lsN c fun a => tbD (2 ^ p) (uT p a)), .val (nD (2 ^ p)), .val (nD t), .own (lN c fun a => .int (s2 a)), .val (lsN c fun a => tbD (2 ^ p) (t2 a)), .val (tN k fun i => nD (jf i)), .val (tbD (2 ^ p) (lotT (2 ^ p) (told p s) i jf)), v13, v14, v15, v16, v17, v18, v19, v20, v21, v22, v23, v24, v25, v26, v27]) (ρ := [.val (.scr ns), .val .st, v2, .val (nD c), .val (tN c fun a => .int (s a)), .val (lsN c fun a => tbD (2 ^ p) (told p s a)), .val (lsN c fun a => tbD (2 ^ p) (uT p a)), .val (nD (2 ^ p)), .val (nD t), .own (lN c fun a => .int (s2 a)), .val (lsN c fun a => tbD (2 ^ p) (t2 a)), .val (tN k fun i => nD (jf i)), .val (tbD (2 ^ p) idT), v13, v14, v15, v16, v17, v18, v19, v20, v21, v22, v23, v24, v25, v26, v27]) ⟨_, rfl⟩ (by
    rintro i hi _ ⟨v13, rfl⟩
    exact ⟨_, exs_one (ex_asg1 (ev_c2 (ev_v rfl) (ev_idx2 (ev_bv rfl) (ev_bv rfl) (idx_lsN (f := fun a => tbD (2 ^ p) (told p s a)) (hjc i hi))) (t_lmm (m := m + 6) hn0 hn1 (.inr (hst _ (hjc i hi)))))), _, rfl⟩)
  have se14 : ex (callN tblT (m + 8)) le_14 [.val (.scr ns), .val .st, v2, .val (nD c), .val (tN c fun a => .int (s a)), .val (lsN c fun a => tbD (2 ^ p) (told p s a)), .val (lsN c fun a => tbD (2 ^ p) (uT p a)), .val (nD (2 ^ p)), .val (nD t), .own (lN c fun a => .int (s2 a)), .val (lsN c fun a => tbD (2 ^ p) (t2 a)), .val (tN k fun i => nD (jf i)), .val (tbD (2 ^ p) idT), v13, v14, v15, v16, v17, v18, v19, v20, v21, v22, v23, v24, v25, v26, v27] g5 = some (.nx [.val (.scr ns), .val .st, v2, .val (nD c), .val (tN c fun a => .int (s a)), .val (lsN c fun a => tbD (2 ^ p) (told p s a)), .val (lsN c fun a => tbD (2 ^ p) (uT p a)), .val (nD (2 ^ p)), .val (nD t), .own (lN c fun a => .int (s2 a)), .val (lsN c fun a => tbD (2 ^ p) (t2 a)), .val (tN k fun i => nD (jf i)), .val (tbD (2 ^ p) (lotT (2 ^ p) (told p s) k jf)), u13, v14, v15, v16, v17, v18, v19, v20, v21, v22, v23, v24, v25, v26, v27], g5) := (ex_forE (s := (tN k fun i => nD (jf i))) (ev_v rfl) rfl).trans e14
  have h1 : callN tblT (m + 8) 16 [tbD (2 ^ p) (lotT (2 ^ p) (told p s) k jf), tbD (2 ^ p) (lotT (2 ^ p) (told p s) k jf)] g5 = some (.bl true, g5) := t_exact (m := m + 7) (n := 3) (by omega) (ex_tbD (k := 0) (by omega))
  have se15 : ex (callN tblT (m + 8)) le_15 [.val (.scr ns), .val .st, v2, .val (nD c), .val (tN c fun a => .int (s a)), .val (lsN c fun a => tbD (2 ^ p) (told p s a)), .val (lsN c fun a => tbD (2 ^ p) (uT p a)), .val (nD (2 ^ p)), .val (nD t), .own (lN c fun a => .int (s2 a)), .val (lsN c fun a => tbD (2 ^ p) (t2 a)), .val (tN k fun i => nD (jf i)), .val (tbD (2 ^ p) (lotT (2 ^ p) (told p s) k jf)), u13, v14, v15, v16, v17, v18, v19, v20, v21, v22, v23, v24, v25, v26, v27] g5 = some (.nx [.val (.scr ns), .val .st, v2, .val (nD c), .val (tN c fun a => .int (s a)), .val (lsN c fun a => tbD (2 ^ p) (told p s a)), .val (lsN c fun a => tbD (2 ^ p) (uT p a)), .val (nD (2 ^ p)), .val (nD t), .own (lN c fun a => .int (s2 a)), .val (lsN c fun a => tbD (2 ^ p) (t2 a)), .val (tN k fun i => nD (jf i)), .val (tbD (2 ^ p) (lotT (2 ^ p) (told p s) k jf)), u13, v14, v15, v16, v17, v18, v19, v20, v21, v22, v23, v24, v25, v26, v27], g5) := ex_if0 (ev_not (ev_c2 (ev_v rfl) (ev_c2 (ev_b1 (ev_bv rfl) (z := (lsN c fun a => tbD (2 ^ p) (told p s a))) rfl) (ev_v rfl) (t_lot (m := m + 5) hn0 hn1 hst hc1 hjc)) h1) rfl) rfl
  have se16 : ex (callN tblT (m + 8)) le_16 [.val (.scr ns), .val .st, v2, .val (nD c), .val (tN c fun a => .int (s a)), .val (lsN c fun a => tbD (2 ^ p) (told p s a)), .val (lsN c fun a => tbD (2 ^ p) (uT p a)), .val (nD (2 ^ p)), .val (nD t), .own (lN c fun a => .int (s2 a)), .val (lsN c fun a => tbD (2 ^ p) (t2 a)), .val (tN k fun i => nD (jf i)), .val (tbD (2 ^ p) (lotT (2 ^ p) (told p s) k jf)), u13, v14, v15, v16, v17, v18, v19, v20, v21, v22, v23, v24, v25, v26, v27] g5 = some (.nx [.val (.scr ns), .val .st, v2, .val (nD c), .val (tN c fun a => .int (s a)), .val (lsN c fun a => tbD (2 ^ p) (told p s a)), .val (lsN c fun a => tbD (2 ^ p) (uT p a)), .val (nD (2 ^ p)), .val (nD t), .own (lN c fun a => .int (s2 a)), .val (lsN c fun a => tbD (2 ^ p) (t2 a)), .val (tN k fun i => nD (jf i)), .val (tbD (2 ^ p) (lotT (2 ^ p) (told p s) k jf)), u13, .val (gD Gi.im), v15, v16, v17, v18, v19, v20, v21, v22, v23, v24, v25, v26, v27], g5) := ex_asg1 (ev_tup (evs_cons ev_lit (evs_cons ev_lit evs_nil)))
  have se17 : ex (callN tblT (m + 8)) le_17 [.val (.scr ns), .val .st, v2, .val (nD c), .val (tN c fun a => .int (s a)), .val (lsN c fun a => tbD (2 ^ p) (told p s a)), .val (lsN c fun a => tbD (2 ^ p) (uT p a)), .val (nD (2 ^ p)), .val (nD t), .own (lN c fun a => .int (s2 a)), .val (lsN c fun a => tbD (2 ^ p) (t2 a)), .val (tN k fun i => nD (jf i)), .val (tbD (2 ^ p) (lotT (2 ^ p) (told p s) k jf)), u13, .val (gD Gi.im), v15, v16, v17, v18, v19, v20, v21, v22, v23, v24, v25, v26, v27] g5 = some (.rt (.bl true), g5) := ex_ret1 (ev_cmp2 (x := .lst [lFi, lSe, lTh]) (y := .lst [lFi, lSe, lTh]) (ev_lst (evs_cons ev_lit (evs_cons ev_lit (evs_cons ev_lit evs_nil)))) (ev_lst (evs_cons (ev_tup (evs_cons (ev_tup (evs_cons (ev_tup (evs_cons ev_lit (evs_cons ev_lit evs_nil))) (evs_cons (ev_tup (evs_cons ev_lit (evs_cons ev_lit evs_nil))) evs_nil))) (evs_cons (ev_tup (evs_cons (ev_tup (evs_cons ev_lit (evs_cons ev_lit evs_nil))) (evs_cons (ev_tup (evs_cons ev_lit (evs_cons ev_lit evs_nil))) evs_nil))) evs_nil))) (evs_cons (ev_tup (evs_cons (ev_tup (evs_cons (ev_tup (evs_cons ev_lit (evs_cons ev_lit evs_nil))) (evs_cons (ev_tup (evs_cons ev_lit (evs_cons (ev_neg ev_lit) evs_nil))) evs_nil))) (evs_cons (ev_tup (evs_cons (ev_v rfl) (evs_cons (ev_tup (evs_cons ev_lit (evs_cons ev_lit evs_nil))) evs_nil))) evs_nil))) (evs_cons (ev_tup (evs_cons (ev_tup (evs_cons (ev_tup (evs_cons ev_lit (evs_cons ev_lit evs_nil))) (evs_cons (ev_tup (evs_cons ev_lit (evs_cons ev_lit evs_nil))) evs_nil))) (evs_cons (ev_tup (evs_cons (ev_tup (evs_cons ev_lit (evs_cons ev_lit evs_nil))) (evs_cons (ev_tup (evs_cons (ev_neg ev_lit) (evs_cons ev_lit evs_nil))) evs_nil))) evs_nil))) evs_nil)))) (by rfl))
  refine ⟨g5, ?_⟩
  exact (exs_cons se0).trans ((exs_cons se1).trans ((exs_cons se2).trans ((exs_cons se3).trans ((exs_cons se4).trans ((exs_cons se5).trans ((exs_cons se6).trans ((exs_cons se7).trans ((exs_cons se8).trans ((exs_cons se9).trans ((exs_cons se10).trans ((exs_cons se11).trans ((exs_cons se12).trans ((exs_cons se13).trans ((exs_cons se14).trans ((exs_cons se15).trans ((exs_cons se16).trans (exs_ret se17)))))))))))))))))
theorem pure_law (ns : List Int) (hl : ns.length ≤ 63) : ∃ g', callN tblT 60 24 [.scr ns] .none = some (.bl true, g') := by
  have e0 : ex (callN tblT 59) (.asg [] (.var 1) .st2) (startE 28 [.scr ns]) .none = some (.nx [.val (.scr ns), .val .st, .no, .no, .no, .no, .no, .no, .no, .no, .no, .no, .no, .no, .no, .no, .no, .no, .no, .no, .no, .no, .no, .no, .no, .no, .no, .no], .two 0 0) := rfl
  obtain ⟨ρ', g', e1, hI, v2, v3, v4, v5, v6, v7, v8, v9, v10, v11, v12, v13, v14, v15, v16, v17, v18, v19, v20, v21, v22, v23, v24, v25, v26, v27, rfl⟩ := for_inv (b := fun x ρ g => match asg (.var 2) x ρ with
      | some ρ' => exs (callN tblT 59) lb_1 ρ' g
      | none => none) (fun ρ g => G2 g ∧ ∃ v2 v3 v4 v5 v6 v7 v8 v9 v10 v11 v12 v13 v14 v15 v16 v17 v18 v19 v20 v21 v22 v23 v24 v25 v26 v27, ρ = [.val (.scr ns), .val .st, v2, v3, v4, v5, v6, v7, v8, v9, v10, v11, v12, v13, v14, v15, v16, v17, v18, v19, v20, v21, v22, v23, v24, v25, v26, v27]) (xs := rangeD 0 3) (ρ := [.val (.scr ns), .val .st, .no, .no, .no, .no, .no, .no, .no, .no, .no, .no, .no, .no, .no, .no, .no, .no, .no, .no, .no, .no, .no, .no, .no, .no, .no, .no]) (g := .two 0 0) ⟨⟨0, 0, rfl, by decide⟩, _, _, _, _, _, _, _, _, _, _, _, _, _, _, _, _, _, _, _, _, _, _, _, _, _, _, rfl⟩ (by
        rintro x _ ρ g ⟨hg, v2, v3, v4, v5, v6, v7, v8, v9, v10, v11, v12, v13, v14, v15, v16, v17, v18, v19, v20, v21, v22, v23, v24, v25, v26, v27, rfl⟩
        obtain ⟨u2, u3, u4, u5, u6, u7, u8, u9, u10, u11, u12, u13, u14, u15, u16, u17, u18, u19, u20, u21, u22, u23, u24, u25, u26, u27, g', e, hg'⟩ := turn 51 hg hl (v2 := .val x) (v3 := v3) (v4 := v4) (v5 := v5) (v6 := v6) (v7 := v7) (v8 := v8) (v9 := v9) (v10 := v10) (v11 := v11) (v12 := v12) (v13 := v13) (v14 := v14) (v15 := v15) (v16 := v16) (v17 := v17) (v18 := v18) (v19 := v19) (v20 := v20) (v21 := v21) (v22 := v22) (v23 := v23) (v24 := v24) (v25 := v25) (v26 := v26) (v27 := v27)
        exact ⟨_, _, e, hg', _, _, _, _, _, _, _, _, _, _, _, _, _, _, _, _, _, _, _, _, _, _, _, _, _, _, rfl⟩)
  obtain ⟨g2, e2⟩ := lend 51 hI hl (v2 := v2) (v3 := v3) (v4 := v4) (v5 := v5) (v6 := v6) (v7 := v7) (v8 := v8) (v9 := v9) (v10 := v10) (v11 := v11) (v12 := v12) (v13 := v13) (v14 := v14) (v15 := v15) (v16 := v16) (v17 := v17) (v18 := v18) (v19 := v19) (v20 := v20) (v21 := v21) (v22 := v22) (v23 := v23) (v24 := v24) (v25 := v25) (v26 := v26) (v27 := v27)
  have e3 : ex (callN tblT 59) (.for [] (.var 2) (.bi .range1 [.lit (.int 3)]) lb_1) [.val (.scr ns), .val .st, .no, .no, .no, .no, .no, .no, .no, .no, .no, .no, .no, .no, .no, .no, .no, .no, .no, .no, .no, .no, .no, .no, .no, .no, .no, .no] (.two 0 0) = some (.nx [.val (.scr ns), .val .st, v2, v3, v4, v5, v6, v7, v8, v9, v10, v11, v12, v13, v14, v15, v16, v17, v18, v19, v20, v21, v22, v23, v24, v25, v26, v27], g') := (ex_forE (ev_b1 (x := .int 3) ev_lit (z := .lst (rangeD 0 3)) rfl) rfl).trans e1
  refine ⟨g2, (c_law ..).trans ?_⟩
  refine run_ret rfl ?_
  exact (exs_cons e0).trans ((exs_cons e3).trans e2)
end Tv

open PySem PySem.W PyProof.Rows
set_option maxHeartbeats 0 in
theorem PySem.Challenge.cw_fourfolds_k78_whole_tables_with_signs_holds : PySem.Challenge.rw_fourfolds_k78_whole_tables_with_signs.Holds := by
  w_on; o_law; k_head; (case hw => w_witness2)
  k_fill
  refine L2.walk_of (l := PySem.Challenge.rw_fourfolds_k78_whole_tables_with_signs) (n := 63) (k := 60) (x := "script") (CX := fun _ => L2.CX0) (sp := fun w => Tv.spT _ (Tv.callN Tv.tblT 60) 24) rfl (by decide) rfl ⟨rfl, by decide, by decide⟩ (fun w h Y => PySem.W.kIn_of Y) ?F (fun _ _ a ns hl _ hS => Tv.law_sp hS (Tv.pure_law ns hl)) (fun _ _ _ _ _ h => h)
  case F =>
    intro w mg fa h KX G hmg
    refine' Tv.all_mk KX G hmg ?cza0 ?czl0 ?czc0 ?czk0 ?cza1 ?czl1 ?czc1 ?czk1 ?cza2 ?czl2 ?czc2 ?czk2 ?cza3 ?czl3 ?czc3 ?czk3 ?cza4 ?czl4 ?czc4 ?czk4 ?cza5 ?czl5 ?czc5 ?czk5 ?cza6 ?czl6 ?czc6 ?czk6 ?cza7 ?czl7 ?czc7 ?czk7 ?cza8 ?czl8 ?czc8 ?czk8 ?cza9 ?czl9 ?czc9 ?czk9 ?cza10 ?czl10 ?czc10 ?czk10 ?cza11 ?czl11 ?czc11 ?czk11 ?cza12 ?czl12 ?czc12 ?czk12 ?cza13 ?czl13 ?czc13 ?czk13 ?cza14 ?czl14 ?czc14 ?czk14 ?cza15 ?czl15 ?czc15 ?czk15 ?cza16 ?czl16 ?czc16 ?czk16 ?cza17 ?czl17 ?czc17 ?czk17 ?cza18 ?czl18 ?czc18 ?czk18 ?cza19 ?czl19 ?czc19 ?czk19 ?cza20 ?czl20 ?czc20 ?czk20 ?cza21 ?czl21 ?czc21 ?czk21 ?cza22 ?czl22 ?czc22 ?czk22 ?cza23 ?czl23 ?czc23 ?czk23 ?cza24 ?czl24 ?czc24 ?czk24 ?czg0 ?czr0 ?czg1 ?czr1 ?czg2 ?czr2 ?czg3 ?czr3 ?czg4 ?czr4 ?czg5 ?czr5 ?czg6 ?czr6 ?czz0 ?czz1 ?czz2 ?czz3 ?czz4 ?czz5 ?czz6 ?czz7 ?czz8 ?czz9 ?czz10 ?czz11 ?czz12
    (case cza0 => k_is); (case czl0 => k_is); (case czc0 => k_is); (case czk0 => k_is); (case cza1 => k_is); (case czl1 => k_is); (case czc1 => k_is); (case czk1 => k_is); (case cza2 => k_is); (case czl2 => k_is); (case czc2 => k_is); (case czk2 => k_is); (case cza3 => k_is); (case czl3 => k_is); (case czc3 => k_is); (case czk3 => k_is); (case cza4 => k_is); (case czl4 => k_is); (case czc4 => k_is); (case czk4 => k_is); (case cza5 => k_is); (case czl5 => k_is); (case czc5 => k_is); (case czk5 => k_is); (case cza6 => k_is); (case czl6 => k_is); (case czc6 => k_is); (case czk6 => k_is); (case cza7 => k_is); (case czl7 => k_is); (case czc7 => k_is); (case czk7 => k_is); (case cza8 => k_is); (case czl8 => k_is); (case czc8 => k_is); (case czk8 => k_is); (case cza9 => k_is); (case czl9 => k_is); (case czc9 => k_is); (case czk9 => k_is); (case cza10 => k_is); (case czl10 => k_is); (case czc10 => k_is); (case czk10 => k_is); (case cza11 => k_is); (case czl11 => k_is); (case czc11 => k_is); (case czk11 => k_is); (case cza12 => k_is); (case czl12 => k_is); (case czc12 => k_is); (case czk12 => k_is); (case cza13 => k_is); (case czl13 => k_is); (case czc13 => k_is); (case czk13 => k_is); (case cza14 => k_is); (case czl14 => k_is); (case czc14 => k_is); (case czk14 => k_is); (case cza15 => k_is); (case czl15 => k_is); (case czc15 => k_is); (case czk15 => k_is); (case cza16 => k_is); (case czl16 => k_is); (case czc16 => k_is); (case czk16 => k_is); (case cza17 => k_is); (case czl17 => k_is); (case czc17 => k_is); (case czk17 => k_is); (case cza18 => k_is); (case czl18 => k_is); (case czc18 => k_is); (case czk18 => k_is); (case cza19 => k_is); (case czl19 => k_is); (case czc19 => k_is); (case czk19 => k_is); (case cza20 => k_is); (case czl20 => k_is); (case czc20 => k_is); (case czk20 => k_is); (case cza21 => k_is); (case czl21 => k_is); (case czc21 => k_is); (case czk21 => k_is); (case cza22 => k_is); (case czl22 => k_is); (case czc22 => k_is); (case czk22 => k_is); (case cza23 => k_is); (case czl23 => k_is); (case czc23 => k_is); (case czk23 => k_is); (case cza24 => k_is); (case czl24 => k_is); (case czc24 => k_is); (case czk24 => k_is); (case czg0 => k_is); (case czr0 => kernel_rfl); (case czg1 => k_is); (case czr1 => kernel_rfl); (case czg2 => k_is); (case czr2 => kernel_rfl); (case czg3 => k_is); (case czr3 => kernel_rfl); (case czg4 => k_is); (case czr4 => kernel_rfl); (case czg5 => k_is); (case czr5 => kernel_rfl); (case czg6 => k_is); (case czr6 => kernel_rfl); (case czz0 => k_is); (case czz1 => k_is); (case czz2 => k_is); (case czz3 => k_is); (case czz4 => k_is); (case czz5 => k_is); (case czz6 => k_is); (case czz7 => k_is); (case czz8 => k_is); (case czz9 => k_is); (case czz10 => k_is); (case czz11 => k_is); (case czz12 => k_is)
