import PyProof.Rows.All
import Wide.All
import OpenK.AllK
import Wide.FinOn
import HandS.ForMost
import HandS.Wide
import HandS.Deep
import HandS.TupAny
import HandS.TupMul
import HandS.TupLe
import HandS.Style
import HandS.Zip
import HandS.SortInts
import HandS.SortRule
import HandS.NamedTupSort
import HandS.IsInst
import HandS.Walk
import HandS.Words
import HandS.WordsExc
import HandS.RevTup
import HandS.NoneIn
import KE.GoesMore
import KE.GoesEnum
import PySem.Challenge.RW_wholesides_k03_whole_right_triangles
set_option Elab.async false
set_option linter.all false
set_option maxRecDepth 100000
set_option autoImplicit false
section
set_option maxHeartbeats 200000
/-! A small pure language: data, expressions, statements, and what they evaluate to. -/
namespace G

/-! ### data -/
inductive D where
  | non | bl (b : Bool) | int (i : Int) | str (s : PySem.Str) | tup (xs : List D) | lst (xs : List D) | fn (f : Nat) | scr (ns : List Int)
  deriving Inhabited

mutual
def D.dec : (a b : D) → Decidable (a = b)
  | .non, .non => isTrue rfl
  | .bl a, .bl b => if h : a = b then isTrue (by rw [h]) else isFalse (fun e => h (D.bl.inj e))
  | .int a, .int b => if h : a = b then isTrue (by rw [h]) else isFalse (fun e => h (D.int.inj e))
  | .str a, .str b => if h : a = b then isTrue (by rw [h]) else isFalse (fun e => h (D.str.inj e))
  | .tup a, .tup b => match D.decs a b with
    | isTrue h => isTrue (by rw [h])
    | isFalse h => isFalse (fun e => h (D.tup.inj e))
  | .lst a, .lst b => match D.decs a b with
    | isTrue h => isTrue (by rw [h])
    | isFalse h => isFalse (fun e => h (D.lst.inj e))
  | .fn a, .fn b => if h : a = b then isTrue (by rw [h]) else isFalse (fun e => h (D.fn.inj e))
  | .scr a, .scr b => if h : a = b then isTrue (by rw [h]) else isFalse (fun e => h (D.scr.inj e))
  | .non, .bl _ | .non, .int _ | .non, .str _ | .non, .tup _ | .non, .lst _ | .non, .fn _ | .non, .scr _
  | .bl _, .non | .bl _, .int _ | .bl _, .str _ | .bl _, .tup _ | .bl _, .lst _ | .bl _, .fn _ | .bl _, .scr _
  | .int _, .non | .int _, .bl _ | .int _, .str _ | .int _, .tup _ | .int _, .lst _ | .int _, .fn _ | .int _, .scr _
  | .str _, .non | .str _, .bl _ | .str _, .int _ | .str _, .tup _ | .str _, .lst _ | .str _, .fn _ | .str _, .scr _
  | .tup _, .non | .tup _, .bl _ | .tup _, .int _ | .tup _, .str _ | .tup _, .lst _ | .tup _, .fn _ | .tup _, .scr _
  | .lst _, .non | .lst _, .bl _ | .lst _, .int _ | .lst _, .str _ | .lst _, .tup _ | .lst _, .fn _ | .lst _, .scr _
  | .fn _, .non | .fn _, .bl _ | .fn _, .int _ | .fn _, .str _ | .fn _, .tup _ | .fn _, .lst _ | .fn _, .scr _
  | .scr _, .non | .scr _, .bl _ | .scr _, .int _ | .scr _, .str _ | .scr _, .tup _ | .scr _, .lst _ | .scr _, .fn _ => isFalse (fun e => nomatch e)
def D.decs : (a b : List D) → Decidable (a = b)
  | [], [] => isTrue rfl
  | [], _ :: _ => isFalse (fun e => nomatch e)
  | _ :: _, [] => isFalse (fun e => nomatch e)
  | x :: xs, y :: ys => match D.dec x y with
    | isFalse h => isFalse (fun e => h (List.cons.inj e).1)
    | isTrue h => match D.decs xs ys with
      | isFalse h' => isFalse (fun e => h' (List.cons.inj e).2)
      | isTrue h' => isTrue (by rw [h, h'])
end
instance : DecidableEq D := D.dec

/-! == of Python -/
mutual
def D.eqv : D → D → Bool
  | .non, e => match e with | .non => true | _ => false
  | .bl a, e => match e with | .bl b => a == b | .int j => (if a then 1 else 0) == j | _ => false
  | .int i, e => match e with | .int j => i == j | .bl b => i == (if b then 1 else 0) | _ => false
  | .str x, e => match e with | .str y => x == y | _ => false
  | .tup xs, e => match e with | .tup ys => D.eqvs xs ys | _ => false
  | .lst xs, e => match e with | .lst ys => D.eqvs xs ys | _ => false
  | .fn _, _ => false
  | .scr _, _ => false
def D.eqvs : List D → List D → Bool
  | [], e => match e with | [] => true | _ => false
  | x :: xs, e => match e with | y :: ys => D.eqv x y && D.eqvs xs ys | [] => false
end
def strOk (s : PySem.Str) : Bool := s.cps.all (fun c => decide (c < 1114112))
/-! data that may be compared: at most n deep -/
mutual
def D.fit : Nat → D → Bool
  | _, .non | _, .bl _ | _, .int _ => true
  | _, .str s => strOk s
  | n, .tup xs | n, .lst xs => match n with | 0 => false | n + 1 => D.fits n xs
  | _, .fn _ => false
  | _, .scr _ => false
def D.fits : Nat → List D → Bool
  | _, [] => true
  | n, x :: xs => D.fit n x && D.fits n xs
end

/-! ### operators on data -/
abbrev R := D × Bool
def old (d : D) : Option R := some (d, false)
def new (d : D) : Option R := some (d, true)
def line : Nat := 16777216

def mulOk (a b : Int) : Bool := decide (a.natAbs < 18446744073709551616) || decide (b.natAbs < 18446744073709551616) || decide (a.natAbs.log2 + b.natAbs.log2 < 1000000)
def divOk (b : Int) : Bool := decide (b ≠ 0) && decide (b.natAbs.log2 < 9000)
def powOk (a b : Int) : Bool := decide (0 ≤ b) && decide ((a.natAbs.log2 + 1) * b.toNat ≤ 100000000)

/-- the place of an index -/
def ixN (n : Nat) (i : Int) : Option Nat := if 0 ≤ i then (if i < n then some i.toNat else none) else if -(n : Int) ≤ i then some (i + n).toNat else none
def atI (xs : List D) (i : Int) : Option D := (ixN xs.length i).bind fun j => xs[j]?
/-- a bound of a slice -/
def sIx (n d : Nat) : Option Int → Nat
  | none => d
  | some v => if v < 0 then (v + n).toNat else min v.toNat n
def cut {α : Type} (xs : List α) (lo hi : Option Int) : List α := (xs.drop (sIx xs.length 0 lo)).take (sIx xs.length xs.length hi - sIx xs.length 0 lo)

def lexLt : List Int → List Int → Bool
  | [], [] => false
  | [], _ :: _ => true
  | _ :: _, [] => false
  | x :: xs, y :: ys => if x = y then lexLt xs ys else decide (x < y)

/-- a list of ints -/
def intsD : List D → Option (List Int)
  | [] => some []
  | .int i :: r => (intsD r).map (i :: ·)
  | _ :: _ => none
def bls : List D → Option (List Bool)
  | [] => some []
  | .bl i :: r => (bls r).map (i :: ·)
  | _ :: _ => none
/-- tuples of ints -/
def rows : List D → Option (List (List Int))
  | [] => some []
  | .tup xs :: r => match intsD xs, rows r with
    | some a, some b => some (a :: b)
    | _, _ => none
  | _ :: _ => none
def strsD : List D → Option (List PySem.Str)
  | [] => some []
  | .str i :: r => (strsD r).map (i :: ·)
  | _ :: _ => none

def insI (x : Int) : List Int → List Int
  | [] => [x]
  | y :: ys => if x ≤ y then x :: y :: ys else y :: insI x ys
def sortI : List Int → List Int
  | [] => []
  | x :: xs => insI x (sortI xs)
def insR (x : List Int) : List (List Int) → List (List Int)
  | [] => [x]
  | y :: ys => if lexLt y x then y :: insR x ys else x :: y :: ys
def sortR : List (List Int) → List (List Int)
  | [] => []
  | x :: xs => insR x (sortR xs)
def sortD (xs : List D) : Option (List D) :=
  match intsD xs with
  | some ns => some ((sortI ns).map D.int)
  | none => match rows xs with
    | some rs => if rs.all (fun r => !r.isEmpty) then some ((sortR rs).map fun r => D.tup (r.map D.int)) else none
    | none => none

def seq : D → Option (List D)
  | .lst xs => some xs
  | .tup xs => some xs
  | _ => none

inductive Op1 where
  | neg | abs | len | int | str | bool | tuple | list | sorted | sum | min | max | all | any | isNone | notNone | isTy (n : Nat) | rev | isB (b : Bool) | notB (b : Bool)
  deriving DecidableEq
inductive Op2 where
  | add | sub | mul | fdiv | mod | pow | eq | ne | lt | le | gt | ge | inn | notin | idx | min | max
  deriving DecidableEq

def isTy (n : Nat) : D → Option Bool
  | .non => some false
  | .bl _ => some (n == 0 || n == 1)
  | .int _ => some (n == 0)
  | .str _ => some (n == 2)
  | .tup _ => some (n == 3)
  | .lst _ => some (n == 4)
  | .fn _ => none
  | .scr _ => none

def foldI (f : Int → Int → Int) (xs : List D) : Option R := match intsD xs with
  | some (n :: ns) => old (.int (ns.foldl f n))
  | _ => none
def op1 (o : Op1) (d : D) : Option R := match o with
  | .neg => match d with | .int a => old (.int (-a)) | _ => none
  | .abs => match d with | .int a => old (.int (if a < 0 then -a else a)) | _ => none
  | .len => match d with
    | .str s => if s.cps.size ≤ line then old (.int s.cps.size) else none
    | .lst xs => old (.int xs.length)
    | .tup xs => old (.int xs.length)
    | _ => none
  | .int => match d with | .int a => old (.int a) | .bl b => old (.int (if b then 1 else 0)) | _ => none
  | .str => match d with | .int a => if a.natAbs.log2 < 1920 then old (.str (PySem.Str.ofString (toString a))) else none | _ => none
  | .bool => match d with | .bl b => old (.bl b) | .int a => old (.bl (a != 0)) | _ => none
  | .tuple => match d with | .lst xs => old (.tup xs) | .tup xs => old (.tup xs) | _ => none
  | .list => match d with | .lst xs => new (.lst xs) | .tup xs => new (.lst xs) | .scr ns => new (.lst (ns.map D.int)) | _ => none
  | .sorted => match d with
    | .lst xs => match sortD xs with | some ys => new (.lst ys) | none => none
    | .tup xs => match sortD xs with | some ys => new (.lst ys) | none => none
    | _ => none
  | .sum => match d with
    | .lst xs => match intsD xs with | some ns => old (.int ns.sum) | none => none
    | .tup xs => match intsD xs with | some ns => old (.int ns.sum) | none => none
    | _ => none
  | .min => match d with
    | .lst xs => foldI min xs
    | .tup xs => foldI min xs
    | _ => none
  | .max => match d with
    | .lst xs => foldI max xs
    | .tup xs => foldI max xs
    | _ => none
  | .all => match d with | .lst xs => (match bls xs with | some bs => old (.bl (bs.all id)) | none => none) | _ => none
  | .any => match d with | .lst xs => (match bls xs with | some bs => old (.bl (bs.any id)) | none => none) | _ => none
  | .isNone => match d with | .non => old (.bl true) | _ => old (.bl false)
  | .notNone => match d with | .non => old (.bl false) | _ => old (.bl true)
  | .isTy n => match isTy n d with | some b => old (.bl b) | none => none
  | .rev => match d with | .lst xs => new (.lst xs.reverse) | .tup xs => old (.tup xs.reverse) | _ => none
  | .isB b => match d with | .bl c => old (.bl (c == b)) | _ => none
  | .notB b => match d with | .bl c => old (.bl (c != b)) | _ => none

def eqG (x y : D) : Option Bool := if D.fit 64 x && D.fit 64 y then some (D.eqv x y) else none
def cmpI (f : Int → Int → Bool) (g : List Int → List Int → Bool) (x y : D) : Option R := match x, y with
  | .int a, .int b => old (.bl (f a b))
  | .tup a, .tup b => match intsD a, intsD b with | some a, some b => old (.bl (g a b)) | _, _ => none
  | _, _ => none
def inn (x y : D) : Option Bool := match seq y with
  | some ys => if D.fit 64 x && D.fits 63 ys then some (ys.any fun z => D.eqv z x) else none
  | none => none

def op2 (o : Op2) (x y : D) : Option R := match o with
  | .add => match x, y with
    | .int a, .int b => old (.int (a + b))
    | .lst a, .lst b => if a.length + b.length ≤ line then new (.lst (a ++ b)) else none
    | .tup a, .tup b => if a.length + b.length ≤ line then old (.tup (a ++ b)) else none
    | .str a, .str b => if a.cps.size + b.cps.size ≤ line then old (.str ⟨a.cps ++ b.cps⟩) else none
    | _, _ => none
  | .sub => match x, y with | .int a, .int b => old (.int (a - b)) | _, _ => none
  | .mul => match x, y with
    | .int a, .int b => if mulOk a b then old (.int (a * b)) else none
    | .lst a, .int k => if a.length ≤ 1000 ∧ k ≤ 10000 ∧ -10000 ≤ k then new (.lst (List.replicate k.toNat a).flatten) else none
    | .tup a, .int k => if a ≠ [] ∧ 2 ≤ k ∧ k ≤ 1000 ∧ a.length ≤ 1000 then old (.tup (List.replicate k.toNat a).flatten) else none
    | _, _ => none
  | .fdiv => match x, y with | .int a, .int b => if divOk b then old (.int (a.fdiv b)) else none | _, _ => none
  | .mod => match x, y with | .int a, .int b => if b ≠ 0 then old (.int (a.fmod b)) else none | _, _ => none
  | .pow => match x, y with | .int a, .int b => if powOk a b then old (.int (a ^ b.toNat)) else none | _, _ => none
  | .eq => match eqG x y with | some b => old (.bl b) | none => none
  | .ne => match eqG x y with | some b => old (.bl !b) | none => none
  | .lt => cmpI (fun a b => decide (a < b)) lexLt x y
  | .le => match x, y with | .int a, .int b => old (.bl (decide (a ≤ b))) | _, _ => none
  | .gt => match x, y with | .int a, .int b => old (.bl (decide (b < a))) | _, _ => none
  | .ge => match x, y with | .int a, .int b => old (.bl (decide (b ≤ a))) | _, _ => none
  | .inn => match inn x y with | some b => old (.bl b) | none => none
  | .notin => match inn x y with | some b => old (.bl !b) | none => none
  | .idx => match y with
    | .int i => match x with
      | .lst xs => match atI xs i with | some d => old d | none => none
      | .tup xs => match atI xs i with | some d => old d | none => none
      | _ => none
    | _ => none
  | .min => match x, y with | .int a, .int b => old (.int (if b < a then b else a)) | _, _ => none
  | .max => match x, y with | .int a, .int b => old (.int (if b > a then b else a)) | _, _ => none

/-! ### the language -/
inductive P where
  | n (i : Nat) | t (ps : List P)

mutual
inductive E where
  | c (d : D) | v (i : Nat) | tup (es : List E) | lst (es : List E)
  | op1 (o : Op1) (a : E) | op2 (o : Op2) (a b : E) | cut (a lo hi : E) | from (a lo : E) | to (a hi : E)
  | and (a b : E) | or (a b : E) | not (a : E) | ifx (t : T) (a b : E)
  | chain (o p : Op2) (a b c : E) | chain3 (o p q : Op2) (a b c d : E)
  | call (f : Nat) (es : List E) | callr (f : Nat) (i : Nat) (es : List E)
  | comp (own : List Nat) (elt : E) (p : P) (it : I) (ifs : List T) (gs : List Gen)
  | pop (i : Nat) | popAt (i : Nat) (a : E)
/-- a test -/
inductive T where
  | e (a : E) | b (a : E) | and (a b : T) | or (a b : T) | not (a : T)
inductive Gen where
  | mk (own : List Nat) (p : P) (it : I) (ifs : List T)
inductive I where
  | e (a : E) | range (es : List E) | enum (a : E) | zip (es : List E)
end

inductive Sm where
  | set (p : P) (e : E)
  | par (ps : List Nat) (es : List E)
  | sub (i : Nat) (a e : E)
  | expr (e : E) | append (i : Nat) (e : E)
  | ifs (t : T) (a b : List Sm) | whil (t : T) (b : List Sm) | forr (p : P) (it : I) (b : List Sm)
  | ret (e : E) | retV (i : Nat) | retN | pass | brk | ct
  | rais (c : Nat) (es : List E)

structure Fn where
  params : Nat
  slots : Nat
  /-- the first parameter is handed by reference -/
  byref : Bool
  body : List Sm

/-- a name's slot: nothing, data, a list of this def's own, the caller's own list -/
inductive S where
  | no | v (d : D) | own (d : D) | ref (d : D)
abbrev Env := List S

structure Exn where
  cls : Nat
  arg : Option D

inductive Res (α : Type) where
  | ok (a : α) (ρ : Env) | exc (x : Exn) (ρ : Env) | no
def Res.bind {α β : Type} (m : Res α) (f : α → Env → Res β) : Res β := match m with
  | .ok a ρ => f a ρ
  | .exc x ρ => .exc x ρ
  | .no => .no
inductive SRes where
  | nx (ρ : Env) | ret (r : R) (ρ : Env) | brk (ρ : Env) | ct (ρ : Env) | exc (x : Exn) (ρ : Env) | no
def Res.st {α : Type} (m : Res α) (f : α → Env → SRes) : SRes := match m with
  | .ok a ρ => f a ρ
  | .exc x ρ => .exc x ρ
  | .no => .no
/-- what a def's call gives: its value and what became of the list handed by reference -/
inductive FRes where
  | ok (r : R) (back : D) | exc (x : Exn) (back : D) | no

/-- data of a slot, read without giving it away -/
def S.peek : S → Option D
  | .no => none
  | .v d => some d
  | .own d => some d
  | .ref d => some d
def peekAt (i : Nat) (ρ : Env) : Option D := match ρ[i]? with
  | some s => s.peek
  | none => none
/-- a slot read, its list given away -/
def readAt (i : Nat) (ρ : Env) : Res D := match ρ[i]? with
  | some (.v d) => .ok d ρ
  | some (.own d) => .ok d (ρ.set i (.v d))
  | _ => .no
def optR {α : Type} (o : Option α) (ρ : Env) : Res α := match o with
  | some a => .ok a ρ
  | none => .no
/-- an operand that is a name is read when the operator works -/
def E.isV : E → Bool
  | .v _ => true
  | _ => false
def asBl (d : D) (ρ : Env) : Res Bool := match d with
  | .bl b => .ok b ρ
  | _ => .no
def asInt (d : D) (ρ : Env) : Res Int := match d with
  | .int b => .ok b ρ
  | _ => .no
def ordE (o : Op2) (a b : Int) : Option Bool := match o with
  | .lt => some (decide (a < b))
  | .le => some (decide (a ≤ b))
  | .gt => some (decide (b < a))
  | .ge => some (decide (b ≤ a))
  | _ => none
/-- the truth of data -/
def truth : D → Option Bool
  | .non => some false
  | .bl b => some b
  | .int i => some (i != 0)
  | .str s => if s.cps.size ≤ line then some (s.cps.size != 0) else none
  | .tup xs => some (!xs.isEmpty)
  | .lst xs => some (!xs.isEmpty)
  | .fn _ => none
  | .scr _ => none

/-! the slots of a target -/
mutual
def P.slots : P → List Nat
  | .n i => [i]
  | .t ps => slotsPs ps
def slotsPs : List P → List Nat
  | [] => []
  | p :: ps => p.slots ++ slotsPs ps
end
mutual
def bindP : P → D → Env → Option Env
  | .n i, d, ρ => if i < ρ.length then some (ρ.set i (.v d)) else none
  | .t ps, .tup ds, ρ => bindPs ps ds ρ
  | .t ps, .lst ds, ρ => bindPs ps ds ρ
  | .t _, .non, _ | .t _, .bl _, _ | .t _, .int _, _ | .t _, .str _, _ | .t _, .fn _, _ | .t _, .scr _, _ => none
def bindPs : List P → List D → Env → Option Env
  | [], [], ρ => some ρ
  | p :: ps, d :: ds, ρ => (bindP p d ρ).bind fun ρ => bindPs ps ds ρ
  | [], _ :: _, _ => none
  | _ :: _, [], _ => none
end

/-- slots of a comprehension's own names: hidden, and brought back -/
def wipe (ρ : Env) : List Nat → Env
  | [] => ρ
  | v :: vs => (wipe ρ vs).set v .no
def back (ρ ρ' : Env) : List Nat → Env
  | [] => ρ'
  | v :: vs => (back ρ ρ' vs).set v (ρ.getD v .no)
/-- hidden slots hold no list of the def's own -/
def hides (ρ : Env) : List Nat → Bool
  | [] => true
  | v :: vs => (match ρ.getD v .no with | .own _ => false | .ref _ => false | _ => true) && hides ρ vs

def rangeI (lo hi : Int) : List D := (List.range (hi - lo).toNat).map fun (k : Nat) => D.int (lo + k)
def rgOk (i : Int) : Bool := decide (-4611686018427387904 ≤ i) && decide (i < 4611686018427387904)
def rangeE : List D → Option (List D)
  | [.int hi] => if rgOk hi then some (rangeI 0 hi) else none
  | [.int lo, .int hi] => if rgOk lo && rgOk hi then some (rangeI lo hi) else none
  | _ => none
def enumE : D → Option (List D)
  | .lst xs => some ((xs.zipIdx).map fun p => .tup [.int (p.2 : Nat), p.1])
  | .tup xs => some ((xs.zipIdx).map fun p => .tup [.int (p.2 : Nat), p.1])
  | _ => none
def zipE : List D → Option (List D)
  | [.lst a, .lst b] => some ((a.zip b).map fun p => .tup [p.1, p.2])
  | [.tup a, .tup b] => some ((a.zip b).map fun p => .tup [p.1, p.2])
  | _ => none
def items : D → Option (List D)
  | .lst xs => some xs
  | .tup xs => some xs
  | _ => none

/-- what a call does: the def, its arguments (the first may be handed by reference) -/
abbrev Call := Nat → List S → FRes

/-- an operand: a name is only looked at -/
def opd (e : E) (f : Env → Res R) (ρ : Env) : Res D := match e with
  | .v i => optR (peekAt i ρ) ρ
  | _ => (f ρ).bind fun r ρ => .ok r.1 ρ
/-- an operand and what follows: a name on the left is looked at last -/
def opdM {β : Type} (a : E) (f : Env → Res R) (ρ : Env) (mid : Env → Res β) (k : D → β → Env → Res R) : Res R := match a with
  | .v i => (optR (peekAt i ρ) ρ).bind fun _ ρ => (mid ρ).bind fun y ρ => (optR (peekAt i ρ) ρ).bind fun x ρ => k x y ρ
  | _ => (opd a f ρ).bind fun x ρ => (mid ρ).bind fun y ρ => k x y ρ
/-- the turns of a comprehension; its own names vs are forgotten behind each -/
def turns (vs : List Nat) (p : P) (t : Env → Res Bool) (f : Env → Res (List D)) : List D → Env → Res (List D)
  | [], ρ => .ok [] ρ
  | x :: xs, ρ => (optR (bindP p x ρ) ρ).bind fun ρ _ => (t ρ).bind fun b ρ =>
      if b then (f ρ).bind fun ds ρ => if hides ρ vs then (turns vs p t f xs (wipe ρ vs)).bind fun es ρ => .ok (ds ++ es) ρ else .no
      else if hides ρ vs then turns vs p t f xs (wipe ρ vs) else .no
def cutE (x : D) (lo hi : Option Int) : Option R := match x with
  | .lst xs => some (.lst (cut xs lo hi), true)
  | .tup xs => some (.tup (cut xs lo hi), false)
  | _ => none
def callR (r : FRes) (ρ : Env) (f : D → Env) : Res R := match r with
  | .ok r b => .ok r (f b)
  | .exc x b => .exc x (f b)
  | .no => .no
/-- a slot that holds a list of one's own -/
def isL (s : Option S) : Bool := match s with
  | some (.own (.lst _)) => true
  | some (.ref (.lst _)) => true
  | _ => false
def popE (s : Option S) : Option (D × List D) := match s with
  | some (.own (.lst ds)) => ds.getLast?.map fun d => (d, ds.dropLast)
  | _ => none
def popAtE (s : Option S) (k : D) : Option (D × List D) := match s, k with
  | some (.own (.lst ds)), .int k => if rgOk k then (ixN ds.length k).bind fun j => ds[j]?.map fun d => (d, ds.eraseIdx j) else none
  | _, _ => none

section
variable (cal : Call)
mutual
def evalE : E → Env → Res R
  | .c d, ρ => .ok (d, false) ρ
  | .v i, ρ => (readAt i ρ).bind fun d ρ => .ok (d, false) ρ
  | .tup es, ρ => (evalEs es ρ).bind fun ds ρ => .ok (.tup ds, false) ρ
  | .lst es, ρ => (evalEs es ρ).bind fun ds ρ => .ok (.lst ds, true) ρ
  | .op1 o a, ρ => (opd a (evalE a) ρ).bind fun x ρ => optR (op1 o x) ρ
  | .op2 o a b, ρ => opdM a (evalE a) ρ (opd b (evalE b)) fun x y ρ => optR (op2 o x y) ρ
  | .cut a lo hi, ρ => opdM a (evalE a) ρ (fun ρ => (opd lo (evalE lo) ρ).bind fun l ρ => (asInt l ρ).bind fun l ρ => (opd hi (evalE hi) ρ).bind fun h ρ => (asInt h ρ).bind fun h ρ => .ok (l, h) ρ) fun x y ρ => optR (cutE x (some y.1) (some y.2)) ρ
  | .from a lo, ρ => opdM a (evalE a) ρ (fun ρ => (opd lo (evalE lo) ρ).bind fun l ρ => asInt l ρ) fun x y ρ => optR (cutE x (some y) none) ρ
  | .to a hi, ρ => opdM a (evalE a) ρ (fun ρ => (opd hi (evalE hi) ρ).bind fun l ρ => asInt l ρ) fun x y ρ => optR (cutE x none (some y)) ρ
  | .and a b, ρ => (evalE a ρ).bind fun x ρ => (asBl x.1 ρ).bind fun t ρ => if t then evalE b ρ else .ok (.bl false, false) ρ
  | .or a b, ρ => (evalE a ρ).bind fun x ρ => (asBl x.1 ρ).bind fun t ρ => if t then .ok (.bl true, false) ρ else evalE b ρ
  | .not a, ρ => (evalE a ρ).bind fun x ρ => (asBl x.1 ρ).bind fun t ρ => .ok (.bl !t, false) ρ
  | .ifx t a b, ρ => (evalT t ρ).bind fun t ρ => if t then evalE a ρ else evalE b ρ
  | .chain o p a b c, ρ => (opd a (evalE a) ρ).bind fun x ρ => (asInt x ρ).bind fun x ρ => (opd b (evalE b) ρ).bind fun y ρ => (asInt y ρ).bind fun y ρ => (optR (ordE o x y) ρ).bind fun t ρ =>
      if t then (opd c (evalE c) ρ).bind fun z ρ => (asInt z ρ).bind fun z ρ => (optR (ordE p y z) ρ).bind fun t ρ => .ok (.bl t, false) ρ else .ok (.bl false, false) ρ
  | .chain3 o p q a b c d, ρ => (opd a (evalE a) ρ).bind fun x ρ => (asInt x ρ).bind fun x ρ => (opd b (evalE b) ρ).bind fun y ρ => (asInt y ρ).bind fun y ρ => (optR (ordE o x y) ρ).bind fun t ρ =>
      if t then (opd c (evalE c) ρ).bind fun z ρ => (asInt z ρ).bind fun z ρ => (optR (ordE p y z) ρ).bind fun t ρ =>
        if t then (opd d (evalE d) ρ).bind fun w ρ => (asInt w ρ).bind fun w ρ => (optR (ordE q z w) ρ).bind fun t ρ => .ok (.bl t, false) ρ else .ok (.bl false, false) ρ
      else .ok (.bl false, false) ρ
  | .call f es, ρ => (evalEs es ρ).bind fun ds ρ => callR (cal f (ds.map S.v)) ρ fun _ => ρ
  | .callr f i es, ρ => (optR (peekAt i ρ) ρ).bind fun _ ρ => (evalEs es ρ).bind fun ds ρ => match ρ[i]? with
    | some (.own d) => callR (cal f (.ref d :: ds.map S.v)) ρ fun b => ρ.set i (.own b)
    | some (.ref d) => callR (cal f (.ref d :: ds.map S.v)) ρ fun b => ρ.set i (.ref b)
    | _ => .no
  | .comp own elt p it ifs gs, ρ => (evalI it ρ).bind fun xs ρ => if hides ρ own then (turns own p (evalFs ifs) (compE (evalE elt) gs) xs (wipe ρ own)).bind fun ds ρ' =>
      if ds.length ≤ line then .ok (.lst ds, true) (back ρ ρ' own) else .no else .no
  | .pop i, ρ => (optR (popE ρ[i]?) ρ).bind fun p ρ => .ok (p.1, false) (ρ.set i (.own (.lst p.2)))
  | .popAt i a, ρ => if isL ρ[i]? then (opd a (evalE a) ρ).bind fun k ρ => (optR (popAtE ρ[i]? k) ρ).bind fun p ρ => .ok (p.1, false) (ρ.set i (.own (.lst p.2))) else .no
/-- items, arguments: lists are given away -/
def evalEs : List E → Env → Res (List D)
  | [], ρ => .ok [] ρ
  | e :: es, ρ => (evalE e ρ).bind fun r ρ => (evalEs es ρ).bind fun ds ρ => .ok (r.1 :: ds) ρ
/-- a test -/
def evalT : T → Env → Res Bool
  | .and a b, ρ => (evalT a ρ).bind fun t ρ => if t then evalT b ρ else .ok false ρ
  | .or a b, ρ => (evalT a ρ).bind fun t ρ => if t then .ok true ρ else evalT b ρ
  | .not a, ρ => (evalT a ρ).bind fun t ρ => .ok (!t) ρ
  | .e a, ρ => (opd a (evalE a) ρ).bind fun x ρ => optR (truth x) ρ
  | .b a, ρ => (evalE a ρ).bind fun x ρ => asBl x.1 ρ
def evalI : I → Env → Res (List D)
  | .e a, ρ => (evalE a ρ).bind fun x ρ => optR (items x.1) ρ
  | .range es, ρ => (evalEs es ρ).bind fun ds ρ => optR (rangeE ds) ρ
  | .enum a, ρ => (evalE a ρ).bind fun x ρ => optR (enumE x.1) ρ
  | .zip es, ρ => (evalEs es ρ).bind fun ds ρ => optR (zipE ds) ρ
def evalFs : List T → Env → Res Bool
  | [], ρ => .ok true ρ
  | t :: ts, ρ => (evalT t ρ).bind fun b ρ => if b then evalFs ts ρ else .ok false ρ
def compE (f : Env → Res R) : List Gen → Env → Res (List D)
  | [], ρ => (f ρ).bind fun r ρ => .ok [r.1] ρ
  | .mk own p it ifs :: gs, ρ => (evalI it ρ).bind fun xs ρ => turns own p (evalFs ifs) (compE f gs) xs ρ
end

/-! ### statements -/
/-- a target of any form; a fresh list stays the def's own where a name takes it -/
def setP (p : P) (r : R) (ρ : Env) : Option Env := match p with
  | .n i => if i < ρ.length then (match ρ.getD i .no with
    | .ref _ => none
    | _ => match r with
      | (.lst ds, true) => some (ρ.set i (.own (.lst ds)))
      | (d, _) => some (ρ.set i (.v d))) else none
  | .t ps => bindP (.t ps) r.1 ρ
def evalRs : List E → Env → Res (List R)
  | [], ρ => .ok [] ρ
  | e :: es, ρ => (evalE cal e ρ).bind fun r ρ => (evalRs es ρ).bind fun rs ρ => .ok (r :: rs) ρ
def setAll : List Nat → List R → Env → Option Env
  | [], [], ρ => some ρ
  | i :: is, r :: rs, ρ => (setP (.n i) r ρ).bind fun ρ => setAll is rs ρ
  | [], _ :: _, _ => none
  | _ :: _, [], _ => none
/-- a list of the def's own, or the caller's, is changed -/
def change (i : Nat) (ρ : Env) (f : List D → Option (List D)) : SRes := match ρ[i]? with
  | some (.own (.lst ds)) => (match f ds with | some es => .nx (ρ.set i (.own (.lst es))) | none => .no)
  | some (.ref (.lst ds)) => (match f ds with | some es => .nx (ρ.set i (.ref (.lst es))) | none => .no)
  | _ => .no
def appendTo (d : D) (ds : List D) : Option (List D) := if ds.length < line then some (ds ++ [d]) else none
def storeAt (k : D) (d : D) (ds : List D) : Option (List D) := match k with
  | .int k => (ixN ds.length k).map fun j => ds.set j d
  | _ => none
def retV (i : Nat) (ρ : Env) : SRes := match ρ[i]? with
  | some (.v d) => .ret (d, false) ρ
  | some (.own d) => .ret (d, true) ρ
  | _ => .no

/-- a while, so many turns at most -/
def whileN (t : Env → Res Bool) (b : Env → SRes) : Nat → Env → SRes
  | 0, _ => .no
  | n + 1, ρ => (t ρ).st fun c ρ => if c then (match b ρ with
      | .nx ρ => whileN t b n ρ
      | .ct ρ => whileN t b n ρ
      | .brk ρ => .nx ρ
      | .ret r ρ => .ret r ρ
      | .exc x ρ => .exc x ρ
      | .no => .no) else .nx ρ
open Classical in
noncomputable def whileS (t : Env → Res Bool) (b : Env → SRes) (ρ : Env) : SRes :=
  if h : ∃ n, whileN t b n ρ ≠ .no then whileN t b h.choose ρ else .no
def forS (p : P) (b : Env → SRes) : List D → Env → SRes
  | [], ρ => .nx ρ
  | x :: xs, ρ => match bindP p x ρ with
    | none => .no
    | some ρ => (match b ρ with
      | .nx ρ => forS p b xs ρ
      | .ct ρ => forS p b xs ρ
      | .brk ρ => .nx ρ
      | .ret r ρ => .ret r ρ
      | .exc x ρ => .exc x ρ
      | .no => .no)
def SRes.seq (a : SRes) (f : Env → SRes) : SRes := match a with
  | .nx ρ => f ρ
  | .ret r ρ => .ret r ρ
  | .brk ρ => .brk ρ
  | .ct ρ => .ct ρ
  | .exc x ρ => .exc x ρ
  | .no => .no
def optS (o : Option Env) : SRes := match o with
  | some ρ => .nx ρ
  | none => .no

mutual
noncomputable def exec : Sm → Env → SRes
  | .set p e, ρ => (evalE cal e ρ).st fun r ρ => optS (setP p r ρ)
  | .par is es, ρ => (evalRs cal es ρ).st fun rs ρ => optS (setAll is rs ρ)
  | .sub i a e, ρ => if isL ρ[i]? then (evalE cal e ρ).st fun r ρ => (opd a (evalE cal a) ρ).st fun k ρ => change i ρ (storeAt k r.1) else .no
  | .expr e, ρ => (evalE cal e ρ).st fun _ ρ => .nx ρ
  | .append i e, ρ => if isL ρ[i]? then (evalE cal e ρ).st fun r ρ => change i ρ (appendTo r.1) else .no
  | .ifs t a b, ρ => (evalT cal t ρ).st fun c ρ => if c then execs a ρ else execs b ρ
  | .whil t b, ρ => whileS (evalT cal t) (execs b) ρ
  | .forr p it b, ρ => (evalI cal it ρ).st fun xs ρ => forS p (execs b) xs ρ
  | .ret e, ρ => (evalE cal e ρ).st fun r ρ => .ret r ρ
  | .retV i, ρ => retV i ρ
  | .retN, ρ => .ret (.non, false) ρ
  | .pass, ρ => .nx ρ
  | .brk, ρ => .brk ρ
  | .ct, ρ => .ct ρ
  | .rais c es, ρ => (evalEs cal es ρ).st fun ds ρ => .exc ⟨c, ds.head?⟩ ρ
noncomputable def execs : List Sm → Env → SRes
  | [], ρ => .nx ρ
  | s :: ss, ρ => (exec s ρ).seq fun ρ => execs ss ρ
end
end

/-! ### defs -/
abbrev Table := Nat → Option Fn
/-- the slots at a call -/
def start (n : Nat) (as : List S) : Env := as ++ List.replicate (n - as.length) .no
/-- what became of the list handed by reference -/
def backOf (r : Bool) (ρ : Env) : Option D := if r then (match ρ.head? with | some (.ref d) => some d | _ => none) else some .non
def finish (r : Bool) (s : SRes) : FRes := match s with
  | .nx ρ => (match backOf r ρ with | some d => .ok (.non, false) d | none => .no)
  | .ret x ρ => (match backOf r ρ with | some d => .ok x d | none => .no)
  | .exc x ρ => (match backOf r ρ with | some d => .exc x d | none => .no)
  | _ => .no
/-- are the arguments of the def's form -/
def argsOk (fn : Fn) (as : List S) : Bool := as.length == fn.params && (match fn.byref, as with
  | true, .ref _ :: _ => true
  | true, _ => false
  | false, .ref _ :: _ => false
  | false, _ => true)
noncomputable def run (T : Table) : Nat → Call
  | 0, _, _ => .no
  | k + 1, f, as => match T f with
    | none => .no
    | some fn => if argsOk fn as then finish fn.byref (execs (run T k) fn.body (start fn.slots as)) else .no

/-! ### the while loop, turn by turn -/
theorem whileN_up {t : Env → Res Bool} {b : Env → SRes} : ∀ {n : Nat} {ρ : Env}, whileN t b n ρ ≠ .no → whileN t b (n + 1) ρ = whileN t b n ρ := by
  intro n
  induction n with
  | zero => intro ρ h; exact absurd rfl h
  | succ n ih =>
    intro ρ h
    rw [whileN] at h
    rw [whileN, whileN.eq_2 (n := n)]
    cases e : t ρ with
    | no => rfl
    | exc x ρ1 => rfl
    | ok c ρ1 =>
      rw [e] at h
      simp only [Res.st] at h ⊢
      cases c with
      | false => rfl
      | true =>
        simp only [if_true] at h ⊢
        cases e2 : b ρ1 <;> rw [e2] at h <;> simp only [] at h ⊢
        · exact ih h
        · exact ih h
theorem whileN_mono {t : Env → Res Bool} {b : Env → SRes} {n m : Nat} {ρ : Env} (h : whileN t b n ρ ≠ .no) (hm : n ≤ m) : whileN t b m ρ = whileN t b n ρ := by
  induction m with
  | zero => have : n = 0 := by omega
            subst this; rfl
  | succ m ih =>
    by_cases e : n = m + 1
    · subst e; rfl
    · have q := ih (by omega)
      rw [whileN_up (by rw [q]; exact h), q]
theorem whileS_of {t : Env → Res Bool} {b : Env → SRes} {n : Nat} {ρ : Env} (h : whileN t b n ρ ≠ .no) : whileS t b ρ = whileN t b n ρ := by
  unfold whileS
  have hx : ∃ n, whileN t b n ρ ≠ .no := ⟨n, h⟩
  rw [dif_pos hx]
  have h2 := hx.choose_spec
  by_cases hle : n ≤ hx.choose
  · exact whileN_mono h hle
  · exact (whileN_mono h2 (by omega)).symm
theorem whileS_n {t : Env → Res Bool} {b : Env → SRes} {ρ : Env} (h : whileS t b ρ ≠ .no) : ∃ n, whileS t b ρ = whileN t b n ρ ∧ whileN t b n ρ ≠ .no := by
  unfold whileS at h ⊢
  split at h
  · rename_i hx
    rw [dif_pos hx]
    exact ⟨_, rfl, h⟩
  · exact absurd rfl h
/-- the equation of a while -/
theorem whileS_eq (t : Env → Res Bool) (b : Env → SRes) (ρ : Env) : whileS t b ρ = (t ρ).st fun c ρ => if c then (match b ρ with
      | .nx ρ => whileS t b ρ
      | .ct ρ => whileS t b ρ
      | .brk ρ => .nx ρ
      | .ret r ρ => .ret r ρ
      | .exc x ρ => .exc x ρ
      | .no => .no) else .nx ρ := by
  have key : ∀ n, whileN t b (n + 1) ρ ≠ .no → whileS t b ρ = whileN t b (n + 1) ρ := fun n h => whileS_of h
  cases e : t ρ with
  | no =>
    simp only [Res.st]
    refine Classical.byContradiction fun h => ?_
    obtain ⟨n, _, h2⟩ := whileS_n h
    cases n with
    | zero => exact h2 rfl
    | succ n => rw [whileN, e] at h2; exact h2 rfl
  | exc x ρ1 =>
    rw [whileS_of (n := 1) (by rw [whileN, e]; simp [Res.st]), whileN, e]
    rfl
  | ok c ρ1 =>
    simp only [Res.st]
    cases c with
    | false =>
      rw [whileS_of (n := 1) (by rw [whileN, e]; simp [Res.st]), whileN, e]
      rfl
    | true =>
      simp only [if_true]
      have go : ∀ n, whileN t b (n + 1) ρ = (match b ρ1 with
          | .nx ρ => whileN t b n ρ
          | .ct ρ => whileN t b n ρ
          | .brk ρ => .nx ρ
          | .ret r ρ => .ret r ρ
          | .exc x ρ => .exc x ρ
          | .no => .no) := fun n => by rw [whileN, e]; rfl
      cases e2 : b ρ1 <;> (simp only [e2] at go) <;> simp only []
      case nx ρ2 =>
        refine Classical.byContradiction fun h => ?_
        by_cases h1 : whileS t b ρ2 = .no
        · rw [h1] at h
          obtain ⟨n, q, h2⟩ := whileS_n h
          cases n with
          | zero => exact h2 rfl
          | succ n => rw [go] at h2; rw [whileS_of h2] at h1; exact h2 h1
        · obtain ⟨n, q, h2⟩ := whileS_n h1
          exact h (by rw [q, ← go n, whileS_of (n := n + 1) (by rw [go]; exact h2)])
      case ct ρ2 =>
        refine Classical.byContradiction fun h => ?_
        by_cases h1 : whileS t b ρ2 = .no
        · rw [h1] at h
          obtain ⟨n, q, h2⟩ := whileS_n h
          cases n with
          | zero => exact h2 rfl
          | succ n => rw [go] at h2; rw [whileS_of h2] at h1; exact h2 h1
        · obtain ⟨n, q, h2⟩ := whileS_n h1
          exact h (by rw [q, ← go n, whileS_of (n := n + 1) (by rw [go]; exact h2)])
      case no =>
        refine Classical.byContradiction fun h => ?_
        obtain ⟨n, q, h2⟩ := whileS_n h
        cases n with
        | zero => exact h2 rfl
        | succ n => rw [go] at h2; exact h2 rfl
      all_goals exact (whileS_of (n := 1) (by rw [go 0]; simp)).trans (go 0)
end G
end

section
set_option maxHeartbeats 200000
namespace G
open PySem PySem.Spec PyProof.Rows L2

/-! ### data in the heap -/
abbrev Zs := Addr → Prop
/-- a list of the written part -/
abbrev KL (K : PySem.W.Frag) (a : Addr) (xs : List V) : Prop := SqL K (fun _ => none) a xs
mutual
/-- the value v is the data d; lists at the addresses of Z are someone's own -/
inductive Rep (K : PySem.W.Frag) (H : Hp) (Z : Zs) : V → D → Prop
  | non : Rep K H Z .non .non
  | bl (b : Bool) : Rep K H Z (.bl b) (.bl b)
  | int (i : Int) : Rep K H Z (.int i) (.int i)
  | str (x : Str) : Rep K H Z (.str x) (.str x)
  | tup {a : Addr} {xs : List V} {ds : List D} : SqT K H a xs → RepA K H Z xs ds → Rep K H Z (.ref a) (.tup ds)
  | lst {a : Addr} {xs : List V} {ds : List D} : H a = some (.lst xs) → ¬ Z a → RepA K H Z xs ds → Rep K H Z (.ref a) (.lst ds)
  | scr {a : Addr} {ns : List Int} : KL K a (ns.map V.int) ∨ (∃ o, H a = some (.frz o (.lst (ns.map V.int)))) ∨ (H a = some (.lst (ns.map V.int)) ∧ ¬ Z a) → Rep K H Z (.ref a) (.scr ns)
inductive RepA (K : PySem.W.Frag) (H : Hp) (Z : Zs) : List V → List D → Prop
  | nil : RepA K H Z [] []
  | cons {v : V} {vs : List V} {d : D} {ds : List D} : Rep K H Z v d → RepA K H Z vs ds → RepA K H Z (v :: vs) (d :: ds)
end

theorem KL.sql {K : PySem.W.Frag} {H : Hp} {a : Addr} {xs : List V} (h : KL K a xs) : SqL K H a xs := by
  rcases h with h | h
  · rcases h with h | ⟨o, h⟩ <;> cases h
  · exact .inr h

section
variable {K : PySem.W.Frag} {H H' : Hp} {Z Z' : Zs}
/-- what may change: the heap at W alone; Z grows by new addresses alone -/
structure Stp (W : Zs) (H : Hp) (Z : Zs) (H' : Hp) (Z' : Zs) : Prop where
  keep : ∀ b o, H b = some o → ¬ W b → H' b = some o
  zs : ∀ b, Z' b → Z b ∨ H b = none
  wz : ∀ b, W b → Z b
  zl : ∀ b, Z b → ∃ xs, H b = some (.lst xs)
variable {W : Zs}
theorem Stp.tup (s : Stp W H Z H' Z') {a : Addr} {xs : List V} (h : SqT K H a xs) : SqT K H' a xs := by
  rcases h with (h | ⟨o, h⟩) | h
  · refine .inl (.inl (s.keep _ _ h fun w => ?_))
    obtain ⟨ys, e⟩ := s.zl a (s.wz a w)
    rw [h] at e; cases e
  · refine .inl (.inr ⟨o, s.keep _ _ h fun w => ?_⟩)
    obtain ⟨ys, e⟩ := s.zl a (s.wz a w)
    rw [h] at e; cases e
  · exact .inr h
mutual
theorem Rep.stp (s : Stp W H Z H' Z') : ∀ {d : D} {v : V}, Rep K H Z v d → Rep K H' Z' v d
  | _, _, .non => .non
  | _, _, .bl b => .bl b
  | _, _, .int i => .int i
  | _, _, .str x => .str x
  | _, _, .tup h r => .tup (s.tup h) (RepA.stp s r)
  | _, _, .scr (a := a) h => .scr (by
      rcases h with h | ⟨o, h⟩ | ⟨h, n⟩
      · exact .inl h
      · refine .inr (.inl ⟨o, s.keep _ _ h fun w => ?_⟩)
        obtain ⟨ys, e⟩ := s.zl a (s.wz a w)
        rw [h] at e; cases e
      · refine .inr (.inr ⟨s.keep _ _ h fun w => n (s.wz a w), fun z => ?_⟩)
        rcases s.zs a z with z | z
        · exact n z
        · rw [z] at h; cases h)
  | _, _, .lst (a := a) h n r => by
    refine .lst ?_ (fun z => ?_) (RepA.stp s r)
    · exact s.keep _ _ h fun w => n (s.wz a w)
    · rcases s.zs a z with z | z
      · exact n z
      · rw [z] at h; cases h
theorem RepA.stp (s : Stp W H Z H' Z') : ∀ {ds : List D} {vs : List V}, RepA K H Z vs ds → RepA K H' Z' vs ds
  | _, _, .nil => .nil
  | _, _, .cons h t => .cons (Rep.stp s h) (RepA.stp s t)
end
mutual
theorem Rep.anti (h : ∀ b, Z' b → Z b) : ∀ {d : D} {v : V}, Rep K H Z v d → Rep K H Z' v d
  | _, _, .non => .non
  | _, _, .bl b => .bl b
  | _, _, .int i => .int i
  | _, _, .str x => .str x
  | _, _, .tup q r => .tup q (RepA.anti h r)
  | _, _, .scr q => .scr (q.imp id fun q => q.imp id fun ⟨q, n⟩ => ⟨q, fun z => n (h _ z)⟩)
  | _, _, .lst q n r => .lst q (fun z => n (h _ z)) (RepA.anti h r)
theorem RepA.anti (h : ∀ b, Z' b → Z b) : ∀ {ds : List D} {vs : List V}, RepA K H Z vs ds → RepA K H Z' vs ds
  | _, _, .nil => .nil
  | _, _, .cons q t => .cons (Rep.anti h q) (RepA.anti h t)
end
mutual
/-- the heap grows -/
theorem Rep.up (h : ∀ b o, H b = some o → H' b = some o) : ∀ {d : D} {v : V}, Rep K H Z v d → Rep K H' Z v d
  | _, _, .non => .non
  | _, _, .bl b => .bl b
  | _, _, .int i => .int i
  | _, _, .str x => .str x
  | _, _, .tup q r => .tup (by
      rcases q with (q | ⟨o, q⟩) | q
      · exact .inl (.inl (h _ _ q))
      · exact .inl (.inr ⟨o, h _ _ q⟩)
      · exact .inr q) (RepA.up h r)
  | _, _, .scr q => .scr (q.imp id fun q => q.imp (fun ⟨o, q⟩ => ⟨o, h _ _ q⟩) fun ⟨q, n⟩ => ⟨h _ _ q, n⟩)
  | _, _, .lst q n r => .lst (h _ _ q) n (RepA.up h r)
theorem RepA.up (h : ∀ b o, H b = some o → H' b = some o) : ∀ {ds : List D} {vs : List V}, RepA K H Z vs ds → RepA K H' Z vs ds
  | _, _, .nil => .nil
  | _, _, .cons q t => .cons (Rep.up h q) (RepA.up h t)
end
theorem RepA.len : ∀ {vs : List V} {ds : List D}, RepA K H Z vs ds → vs.length = ds.length
  | _, _, .nil => rfl
  | _, _, .cons _ t => congrArg (· + 1) t.len
theorem RepA.get : ∀ {vs : List V} {ds : List D} {i : Nat} {d : D}, RepA K H Z vs ds → ds[i]? = some d → ∃ v, vs[i]? = some v ∧ Rep K H Z v d
  | _, _, _, _, .nil, e => by simp at e
  | _, _, 0, _, .cons h _, e => by simp at e; subst e; exact ⟨_, rfl, h⟩
  | _, _, i + 1, d, .cons _ t, e => by
    obtain ⟨v, a, b⟩ := RepA.get (i := i) (d := d) t (by simpa using e)
    exact ⟨v, by simpa using a, b⟩
theorem RepA.getV : ∀ {vs : List V} {ds : List D} {i : Nat} {v : V}, RepA K H Z vs ds → vs[i]? = some v → ∃ d, ds[i]? = some d ∧ Rep K H Z v d
  | _, _, _, _, .nil, e => by simp at e
  | _, _, 0, _, .cons h _, e => by simp at e; subst e; exact ⟨_, rfl, h⟩
  | _, _, i + 1, v, .cons _ t, e => by
    obtain ⟨d, a, b⟩ := RepA.getV (i := i) (v := v) t (by simpa using e)
    exact ⟨d, by simpa using a, b⟩
theorem RepA.append : ∀ {vs ws : List V} {ds es : List D}, RepA K H Z vs ds → RepA K H Z ws es → RepA K H Z (vs ++ ws) (ds ++ es)
  | _, _, _, _, .nil, s => s
  | _, _, _, _, .cons r t, s => .cons r (RepA.append t s)
theorem RepA.take : ∀ {vs : List V} {ds : List D} (n : Nat), RepA K H Z vs ds → RepA K H Z (vs.take n) (ds.take n)
  | _, _, 0, _ => by simp; exact .nil
  | _, _, n + 1, .nil => .nil
  | _, _, n + 1, .cons r t => .cons r (RepA.take n t)
theorem RepA.drop : ∀ {vs : List V} {ds : List D} (n : Nat), RepA K H Z vs ds → RepA K H Z (vs.drop n) (ds.drop n)
  | _, _, 0, r => r
  | _, _, n + 1, .nil => .nil
  | _, _, n + 1, .cons _ t => RepA.drop n t
theorem RepA.set {v : V} {d : D} (r : Rep K H Z v d) : ∀ {vs : List V} {ds : List D} (i : Nat), RepA K H Z vs ds → RepA K H Z (vs.set i v) (ds.set i d)
  | _, _, _, .nil => .nil
  | _, _, 0, .cons _ t => .cons r t
  | _, _, i + 1, .cons q t => .cons q (RepA.set r i t)
theorem RepA.erase : ∀ {vs : List V} {ds : List D} (i : Nat), RepA K H Z vs ds → RepA K H Z (vs.eraseIdx i) (ds.eraseIdx i)
  | _, _, _, .nil => .nil
  | _, _, 0, .cons _ t => t
  | _, _, i + 1, .cons q t => .cons q (RepA.erase i t)
theorem RepA.rev : ∀ {vs : List V} {ds : List D}, RepA K H Z vs ds → RepA K H Z vs.reverse ds.reverse
  | _, _, .nil => .nil
  | _, _, .cons q t => by
    rw [List.reverse_cons, List.reverse_cons]
    exact RepA.append (RepA.rev t) (.cons q .nil)
theorem RepA.rep {vs : List V} {ds : List D} (h : RepA K H Z vs ds) : ∀ k : Nat, RepA K H Z (List.replicate k vs).flatten (List.replicate k ds).flatten
  | 0 => .nil
  | k + 1 => by
    rw [List.replicate_succ, List.replicate_succ, List.flatten_cons, List.flatten_cons]
    exact h.append (RepA.rep h k)
theorem RepA.dropLast {vs : List V} {ds : List D} (h : RepA K H Z vs ds) : RepA K H Z vs.dropLast ds.dropLast := by
  rw [List.dropLast_eq_take, List.dropLast_eq_take, h.len]
  exact h.take _
theorem RepA.ints : ∀ {vs : List V} {ds : List D} {ns : List Int}, RepA K H Z vs ds → G.intsD ds = some ns → vs = ns.map V.int
  | _, _, _, .nil, e => by simp [G.intsD] at e; subst e; rfl
  | _, d :: ds, ns, .cons r t, e => by
    cases r with
    | int i =>
      simp only [G.intsD] at e
      obtain ⟨m, e1, e2⟩ := Option.map_eq_some_iff.mp e
      subst e2
      rw [RepA.ints t e1]; rfl
    | _ => simp [G.intsD] at e
theorem RepA.ofInts : ∀ (ns : List Int), RepA K H Z (ns.map V.int) (ns.map D.int)
  | [] => .nil
  | n :: ns => .cons (.int n) (RepA.ofInts ns)
theorem RepA.bls : ∀ {vs : List V} {ds : List D} {ns : List Bool}, RepA K H Z vs ds → G.bls ds = some ns → vs = ns.map V.bl
  | _, _, _, .nil, e => by simp [G.bls] at e; subst e; rfl
  | _, d :: ds, ns, .cons r t, e => by
    cases r with
    | bl i =>
      simp only [G.bls] at e
      obtain ⟨m, e1, e2⟩ := Option.map_eq_some_iff.mp e
      subst e2
      rw [RepA.bls t e1]; rfl
    | _ => simp [G.bls] at e
end

/-! ### a def's frame -/
/-- the written part, the heap at the entry, what is kept for the callers, the address handed by reference -/
structure Fm where
  K : PySem.W.Frag
  H0 : Hp
  Z0 : Zs
  R : Zs
  z0n : ∀ b, Z0 b → H0 b ≠ none

/-- one slot -/
def Slot (F : Fm) (Z : Zs) (H : Hp) (o : Option (Option V)) : S → Prop
  | .no => True
  | .v d => ∃ x, o = some (some x) ∧ Rep F.K H Z x d
  | .own d => ∃ a xs ds, o = some (some (.ref a)) ∧ d = .lst ds ∧ H a = some (.lst xs) ∧ RepA F.K H Z xs ds ∧ Z a ∧ F.H0 a = none
  | .ref d => ∃ a xs ds, o = some (some (.ref a)) ∧ d = .lst ds ∧ H a = some (.lst xs) ∧ RepA F.K H Z xs ds ∧ Z a ∧ F.R a

def S.mine : S → Bool
  | .own _ => true
  | .ref _ => true
  | _ => false
def S.isOwn : S → Bool
  | .own _ => true
  | _ => false
/-- the addresses of the slots' own lists; of those the def made -/
def Ws (σ : L2.St) (ρ : Env) : Zs := fun b => ∃ (i : Nat) (s : S), ρ[i]? = some s ∧ s.mine = true ∧ σ[i]? = some (some (.ref b))
def Wo (σ : L2.St) (ρ : Env) : Zs := fun b => ∃ (i : Nat) (s : S), ρ[i]? = some s ∧ s.isOwn = true ∧ σ[i]? = some (some (.ref b))

structure Fra (F : Fm) (Z : Zs) (H : Hp) (σ : L2.St) (ρ : Env) : Prop where
  len : σ.length = ρ.length
  zl : ∀ b, Z b → ∃ xs, H b = some (.lst xs)
  slot : ∀ (i : Nat) (s : S), ρ[i]? = some s → Slot F Z H σ[i]? s
  inj : ∀ (i j : Nat) (s t : S) (a : Addr), ρ[i]? = some s → ρ[j]? = some t → s.mine = true → t.mine = true → σ[i]? = some (some (.ref a)) → σ[j]? = some (some (.ref a)) → i = j
  z0 : ∀ b, F.Z0 b → Z b
  h0 : ∀ b o, F.H0 b = some o → ¬ F.R b → H b = some o
  h0n : ∀ b, F.H0 b ≠ none → H b ≠ none

section
variable {F : Fm} {Z Z' : Zs} {H H' : Hp} {σ : L2.St} {ρ ρ' : Env}
theorem Fra.wz (f : Fra F Z H σ ρ) : ∀ b, Ws σ ρ b → Z b := fun b ⟨i, s, e, m, q⟩ => by
  have h := f.slot i s e
  cases s with
  | no => cases m
  | v d => cases m
  | own d =>
    obtain ⟨a, xs, ds, e1, _, _, _, z, _⟩ := h
    rw [q] at e1; cases e1; exact z
  | ref d =>
    obtain ⟨a, xs, ds, e1, _, _, _, z, _⟩ := h
    rw [q] at e1; cases e1; exact z
theorem Wo.ws {b : Addr} (h : Wo σ ρ b) : Ws σ ρ b := by
  obtain ⟨i, s, e, m, q⟩ := h
  refine ⟨i, s, e, ?_, q⟩
  cases s <;> first | rfl | cases m
theorem Fra.fresh (f : Fra F Z H σ ρ) {p : Addr} (h : H p = none) : F.H0 p = none := by
  refine Classical.byContradiction fun n => ?_
  exact f.h0n p n h
theorem Fra.notz (f : Fra F Z H σ ρ) {p : Addr} (h : H p = none) : ¬ Z p := fun z => by
  obtain ⟨xs, e⟩ := f.zl p z
  rw [h] at e; cases e

/-- the heap grows; new addresses may be protected -/
theorem Fra.grow (f : Fra F Z H σ ρ) (hk : ∀ b o, H b = some o → H' b = some o) (zs : ∀ b, Z' b → Z b ∨ (H b = none ∧ ∃ xs, H' b = some (.lst xs))) (lo : ∀ b, Z b → Z' b) : Fra F Z' H' σ ρ := by
  have st : Stp (fun _ => False) H Z H' Z' := ⟨fun b o e _ => hk b o e, fun b z => (zs b z).imp id And.left, fun _ h => h.elim, f.zl⟩
  refine ⟨f.len, fun b z => ?_, fun i s e => ?_, f.inj, fun b z => lo b (f.z0 b z), fun b o e r => hk b o (f.h0 b o e r), fun b n => ?_⟩
  · rcases zs b z with z | ⟨_, z⟩
    · obtain ⟨xs, e⟩ := f.zl b z
      exact ⟨xs, hk _ _ e⟩
    · exact z
  · have h := f.slot i s e
    cases s with
    | no => trivial
    | v d => obtain ⟨x, e1, r⟩ := h; exact ⟨x, e1, r.stp st⟩
    | own d => obtain ⟨a, xs, ds, e1, e2, e3, r, z, z0⟩ := h; exact ⟨a, xs, ds, e1, e2, hk _ _ e3, r.stp st, lo a z, z0⟩
    | ref d => obtain ⟨a, xs, ds, e1, e2, e3, r, z, z0⟩ := h; exact ⟨a, xs, ds, e1, e2, hk _ _ e3, r.stp st, lo a z, z0⟩
  · have := f.h0n b n
    cases q : H b with
    | none => exact absurd q this
    | some o => rw [hk b o q]; simp
end

/-! ### from state to state, the slots' values as they are -/
structure Go (F : Fm) (σ : L2.St) (H : Hp) (Z : Zs) (ρ : Env) (H' : Hp) (Z' : Zs) (ρ' : Env) : Prop where
  fr : Fra F Z' H' σ ρ'
  stp : Stp (Ws σ ρ) H Z H' Z'
  lo : ∀ b, Z b → ¬ Wo σ ρ b → Z' b
  ws : ∀ b, Ws σ ρ' b → Ws σ ρ b
  wo : ∀ b, Wo σ ρ' b → Wo σ ρ b
  mono : ∀ b, H b ≠ none → H' b ≠ none
section
variable {F : Fm} {σ : L2.St} {H H1 H2 H' : Hp} {Z Z1 Z2 Z' : Zs} {ρ ρ1 ρ2 ρ' : Env}
theorem Go.refl (f : Fra F Z H σ ρ) : Go F σ H Z ρ H Z ρ := ⟨f, ⟨fun _ _ e _ => e, fun _ z => .inl z, f.wz, f.zl⟩, fun _ z _ => z, fun _ h => h, fun _ h => h, fun _ h => h⟩
theorem Go.trans (a : Go F σ H Z ρ H1 Z1 ρ1) (b : Go F σ H1 Z1 ρ1 H2 Z2 ρ2) : Go F σ H Z ρ H2 Z2 ρ2 := by
  refine ⟨b.fr, ⟨fun c o e n => b.stp.keep c o (a.stp.keep c o e n) fun w => n (a.ws c w), fun c z => ?_, a.stp.wz, a.stp.zl⟩, fun c z n => b.lo c (a.lo c z n) fun w => n (a.wo c w), fun c w => a.ws c (b.ws c w), fun c w => a.wo c (b.wo c w), fun c n => b.mono c (a.mono c n)⟩
  rcases b.stp.zs c z with z | z
  · exact a.stp.zs c z
  · refine .inr ?_
    refine Classical.byContradiction fun n => ?_
    exact a.mono c n z
theorem Go.rep (g : Go F σ H Z ρ H' Z' ρ') {x : V} {d : D} (r : Rep F.K H Z x d) : Rep F.K H' Z' x d := r.stp g.stp
theorem Go.repA (g : Go F σ H Z ρ H' Z' ρ') {x : List V} {d : List D} (r : RepA F.K H Z x d) : RepA F.K H' Z' x d := r.stp g.stp
/-- the heap grows -/
theorem Go.grow (f : Fra F Z H σ ρ) (hk : ∀ b o, H b = some o → H' b = some o) : Go F σ H Z ρ H' Z ρ :=
  ⟨f.grow hk (fun _ z => .inl z) fun _ z => z, ⟨fun b o e _ => hk b o e, fun _ z => .inl z, f.wz, f.zl⟩, fun _ z _ => z, fun _ h => h, fun _ h => h, fun b n => by
    cases q : H b with
    | none => exact absurd q n
    | some o => rw [hk b o q]; simp⟩
theorem upd_keep {p : Addr} {o : HO} (hp : H p = none) : ∀ b u, H b = some u → upd H p o b = some u := fun b u e => by
  rw [upd_ne (ne_of_none e hp)]; exact e
theorem Go.upd (f : Fra F Z H σ ρ) {p : Addr} {o : HO} (hp : H p = none) : Go F σ H Z ρ (upd H p o) Z ρ := Go.grow f (upd_keep hp)
end

/-- a fresh list: it may become the def's own -/
def Own (F : Fm) (σ : L2.St) (He H : Hp) (Z : Zs) (ρ : Env) (x : V) (d : D) : Prop :=
  ∃ p xs ds, x = .ref p ∧ d = .lst ds ∧ H p = some (.lst xs) ∧ He p = none ∧ RepA F.K H (fun b => Z b ∨ b = p) xs ds ∧ Fra F (fun b => Z b ∨ b = p) H σ ρ
structure Post (F : Fm) (σ : L2.St) (H : Hp) (Z : Zs) (ρ : Env) (x : V) (r : R) (H' : Hp) (Z' : Zs) (ρ' : Env) : Prop where
  go : Go F σ H Z ρ H' Z' ρ'
  rep : Rep F.K H' Z' x r.1
  own : r.2 = true → Own F σ H H' Z' ρ' x r.1

/-! ### readings -/
def tE (F : Fm) (cal : Call) (e : E) : TE := fun σ H Q => ∃ Z ρ r ρ', Fra F Z H σ ρ ∧ evalE cal e ρ = .ok r ρ' ∧ ∀ x H' Z', Post F σ H Z ρ x r H' Z' ρ' → Q x H'
/-- an operand that is a name: looked at later -/
def tO (F : Fm) (cal : Call) (e : E) : TE := match e with
  | .v i => tVar i
  | _ => tE F cal e
def tT (F : Fm) (cal : Call) (t : T) : TT := fun σ H Q => ∃ Z ρ b ρ', Fra F Z H σ ρ ∧ evalT cal t ρ = .ok b ρ' ∧ ∀ H' Z', Go F σ H Z ρ H' Z' ρ' → Q b H'
def tEs (F : Fm) (cal : Call) (es : List E) : TA := fun σ H Q => ∃ Z ρ ds ρ', Fra F Z H σ ρ ∧ evalEs cal es ρ = .ok ds ρ' ∧ ∀ xs H' Z', Go F σ H Z ρ H' Z' ρ' → RepA F.K H' Z' xs ds → Q xs H'

theorem _root_.L2.PE.imp {X : Cx} {e : Expr} {t t' : TE} (h : PE X e t) (i : ∀ σ H Q, t' σ H Q → t σ H Q) : PE X e t' := ⟨fun pins s σ H Q I q => h.run pins s σ H Q I (i σ H Q q)⟩
theorem _root_.L2.PT.imp {X : Cx} {e : Expr} {t t' : TT} (h : PT X e t) (i : ∀ σ H Q, t' σ H Q → t σ H Q) : PT X e t' := ⟨fun pins s σ H Q I q => h.run pins s σ H Q I (i σ H Q q)⟩
theorem _root_.L2.PW.imp {X : Cx} {e : Expr} {t t' : TT} (h : PW X e t) (i : ∀ σ H Q, t' σ H Q → t σ H Q) : PW X e t' := ⟨fun w pins s σ H Q I q => h.run w pins s σ H Q I (i σ H Q q)⟩
theorem _root_.L2.PA.imp {X : Cx} {e : List Expr} {t t' : TA} (h : PA X e t) (i : ∀ σ H Q, t' σ H Q → t σ H Q) : PA X e t' := ⟨fun pos pins s σ H Q I q => h.run pos pins s σ H Q I (i σ H Q q)⟩
theorem _root_.L2.PS.imp {X : Cx} {e : Stmt} {t t' : TS} (h : PS X e t) (i : ∀ D σ H, t' D σ H → t D σ H) : PS X e t' := ⟨fun pins s σ H D I q => h.run pins s σ H D I (i D σ H q)⟩
theorem _root_.L2.PSs.imp {X : Cx} {e : List Stmt} {t t' : TS} (h : PSs X e t) (i : ∀ D σ H, t' D σ H → t D σ H) : PSs X e t' := ⟨fun pins s σ H D I q => h.run pins s σ H D I (i D σ H q)⟩
end G
end

section
set_option maxHeartbeats 2000000
namespace G
open PySem PySem.Spec PyProof.Rows L2

theorem OpR.or {X : Cx} {f : Value → Value → Sem Value} {r r' : R2} (h : OpR X f r) (h' : OpR X f r') : OpR X f (fun x y H Q => r x y H Q ∨ r' x y H Q) := by
  intro pins s σ H x y v u Q I rx ry q
  rcases q with q | q
  · exact h pins s σ H x y v u Q I rx ry q
  · exact h' pins s σ H x y v u Q I rx ry q

section
variable {F : Fm} {σ : L2.St} {H H' : Hp} {Z Z' : Zs} {ρ ρ' : Env}
/-- an operand: data, or a list of someone's own looked at -/
def RepO (K : PySem.W.Frag) (H : Hp) (Z : Zs) (x : V) (d : D) : Prop := Rep K H Z x d ∨ ∃ a xs ds, x = .ref a ∧ d = .lst ds ∧ H a = some (.lst xs) ∧ RepA K H Z xs ds
theorem RepO.lst {K : PySem.W.Frag} {x : V} {ds : List D} (h : RepO K H Z x (.lst ds)) : ∃ a xs, x = .ref a ∧ H a = some (.lst xs) ∧ RepA K H Z xs ds := by
  rcases h with h | ⟨a, xs, es, e, e2, h, r⟩
  · cases h with | lst a b c => exact ⟨_, _, rfl, a, c⟩
  · cases e2; exact ⟨a, xs, e, h, r⟩
theorem RepO.tup {K : PySem.W.Frag} {x : V} {ds : List D} (h : RepO K H Z x (.tup ds)) : ∃ a xs, x = .ref a ∧ SqT K H a xs ∧ RepA K H Z xs ds := by
  rcases h with h | ⟨a, xs, es, e, e2, h, r⟩
  · cases h with | tup a b => exact ⟨_, _, rfl, a, b⟩
  · cases e2
theorem RepO.int {K : PySem.W.Frag} {x : V} {i : Int} (h : RepO K H Z x (.int i)) : x = .int i := by
  rcases h with h | ⟨a, xs, es, e, e2, h, r⟩
  · cases h; rfl
  · cases e2
theorem RepO.bl {K : PySem.W.Frag} {x : V} {i : Bool} (h : RepO K H Z x (.bl i)) : x = .bl i := by
  rcases h with h | ⟨a, xs, es, e, e2, h, r⟩
  · cases h; rfl
  · cases e2
theorem RepO.str {K : PySem.W.Frag} {x : V} {i : Str} (h : RepO K H Z x (.str i)) : x = .str i := by
  rcases h with h | ⟨a, xs, es, e, e2, h, r⟩
  · cases h; rfl
  · cases e2
theorem RepO.non {K : PySem.W.Frag} {x : V} (h : RepO K H Z x .non) : x = .non := by
  rcases h with h | ⟨a, xs, es, e, e2, h, r⟩
  · cases h; rfl
  · cases e2
theorem RepO.scr {K : PySem.W.Frag} {x : V} {ns : List Int} (h : RepO K H Z x (.scr ns)) : ∃ a, x = .ref a ∧ SqL K H a (ns.map V.int) := by
  rcases h with h | ⟨a, xs, es, e, e2, h, r⟩
  · cases h with
    | scr h =>
      rcases h with h | h | h
      · exact ⟨_, rfl, h.sql⟩
      · exact ⟨_, rfl, .inl (.inr h)⟩
      · exact ⟨_, rfl, .inl (.inl h.1)⟩
  · cases e2
theorem RepO.fn {K : PySem.W.Frag} {x : V} {f : Nat} (h : RepO K H Z x (.fn f)) : False := by
  rcases h with h | ⟨a, xs, es, e, e2, h, r⟩
  · cases h
  · cases e2
theorem RepO.notNon {K : PySem.W.Frag} {x : V} {d : D} (h : RepO K H Z x d) (n : d ≠ .non) : x ≠ .non := by
  rintro rfl
  rcases h with h | ⟨a, xs, es, e, e2, h, r⟩
  · cases h; exact n rfl
  · cases e
theorem upd_zl {p : Addr} {xs : List V} (f : Fra F Z H σ ρ) (hp : H p = none) : Fra F (fun b => Z b ∨ b = p) (upd H p (.lst xs)) σ ρ :=
  f.grow (upd_keep hp) (fun b z => z.imp id fun e => by subst e; exact ⟨hp, _, upd_same⟩) fun _ z => .inl z
theorem RepA.own {p : Addr} {xs : List V} {ds : List D} {K : PySem.W.Frag} (f : Fra F Z H σ ρ) (hp : H p = none) (r : RepA K H Z xs ds) (o : HO) : RepA K (upd H p o) (fun b => Z b ∨ b = p) xs ds :=
  r.stp (W := fun _ => False) ⟨fun b u e _ => upd_keep hp b u e, fun b z => z.imp id fun e => by subst e; exact hp, fun _ h => h.elim, f.zl⟩
theorem RepA.updp {p : Addr} {xs : List V} {ds : List D} {K : PySem.W.Frag} (f : Fra F Z H σ ρ) (hp : H p = none) (r : RepA K H Z xs ds) (o : HO) : RepA K (upd H p o) Z xs ds :=
  r.stp (W := fun _ => False) ⟨fun b u e _ => upd_keep hp b u e, fun b z => .inl z, fun _ h => h.elim, f.zl⟩

/-- what operators end in -/
theorem Post.same (f : Fra F Z H σ ρ) {x : V} {d : D} (r : Rep F.K H Z x d) : Post F σ H Z ρ x (d, false) H Z ρ := ⟨Go.refl f, r, fun e => nomatch e⟩
theorem Post.newL (f : Fra F Z H σ ρ) {p : Addr} {xs : List V} {ds : List D} (hp : H p = none) (r : RepA F.K H Z xs ds) : Post F σ H Z ρ (.ref p) (.lst ds, true) (upd H p (.lst xs)) Z ρ :=
  ⟨Go.upd f hp, .lst upd_same (f.notz hp) (r.updp f hp _), fun _ => ⟨p, xs, ds, rfl, rfl, upd_same, hp, r.own f hp _, upd_zl f hp⟩⟩
theorem Post.newT (f : Fra F Z H σ ρ) {p : Addr} {xs : List V} {ds : List D} (hp : H p = none) (r : RepA F.K H Z xs ds) : Post F σ H Z ρ (.ref p) (.tup ds, false) (upd H p (.tup xs)) Z ρ :=
  ⟨Go.upd f hp, .tup (.of upd_same) (r.updp f hp _), fun e => nomatch e⟩
end

/-! ### comparison of data -/
mutual
def D.py : D → PyData
  | .non => .none
  | .bl b => .bool b
  | .int i => .int i
  | .str s => .str s
  | .tup xs => .tuple (D.pys xs)
  | .lst xs => .list (D.pys xs)
  | .fn _ => .none
  | .scr _ => .none
def D.pys : List D → List PyData
  | [] => []
  | x :: xs => D.py x :: D.pys xs
end
theorem line_eq : line = sizeLine := by decide
mutual
theorem fit_lay : ∀ (n : Nat) (d : D), D.fit n d = true → (D.py d).canLay0 = true ∧ (D.py d).depth ≤ n
  | _, .non, _ => ⟨rfl, by simp [D.py, PyData.depth]⟩
  | _, .bl _, _ => ⟨rfl, by simp [D.py, PyData.depth]⟩
  | _, .int _, _ => ⟨rfl, by simp [D.py, PyData.depth]⟩
  | _, .str s, h => ⟨by
      simp only [D.fit] at h
      simp only [D.py, PyData.canLay0]
      exact h, by simp [D.py, PyData.depth]⟩
  | 0, .tup xs, h => by simp [D.fit] at h
  | 0, .lst xs, h => by simp [D.fit] at h
  | n + 1, .tup xs, h => by
    simp only [D.fit] at h
    have := fits_lay n xs h
    exact ⟨by simpa [D.py, PyData.canLay0] using this.1, by simp [D.py, PyData.depth]; exact this.2⟩
  | n + 1, .lst xs, h => by
    simp only [D.fit] at h
    have := fits_lay n xs h
    exact ⟨by simpa [D.py, PyData.canLay0] using this.1, by simp [D.py, PyData.depth]; exact this.2⟩
  | _, .fn _, h => by simp [D.fit] at h
  | _, .scr _, h => by simp [D.fit] at h
theorem fits_lay : ∀ (n : Nat) (ds : List D), D.fits n ds = true → PyData.canLayAll0 (D.pys ds) = true ∧ PyData.depthAll (D.pys ds) ≤ n
  | _, [], _ => ⟨by simp [D.pys, PyData.canLayAll0], by simp [D.pys, PyData.depthAll]⟩
  | n, d :: ds, h => by
    simp only [D.fits, Bool.and_eq_true] at h
    have h1 := fit_lay n d h.1
    have h2 := fits_lay n ds h.2
    exact ⟨by simp [D.pys, PyData.canLayAll0, h1.1, h2.1], by simp only [D.pys, PyData.depthAll]; exact Nat.max_le.mpr ⟨h1.2, h2.2⟩⟩
end
theorem fit_shaped {d : D} (h : D.fit 64 d = true) : SeqAt.shaped (D.py d) = true := by
  have := fit_lay 64 d h
  unfold SeqAt.shaped
  rw [this.1, decide_eq_true this.2]; rfl
mutual
theorem eqv_py : ∀ (n m : Nat) (d e : D), D.fit n d = true → D.fit m e = true → PyData.eqv (D.py d) (D.py e) = D.eqv d e
  | _, _, .non, e, _, h => by cases e <;> first | rfl | (simp [D.fit] at h)
  | _, _, .bl a, e, _, h => by cases e <;> first | rfl | (simp [D.fit] at h)
  | _, _, .int a, e, _, h => by cases e <;> first | rfl | (simp [D.fit] at h)
  | _, _, .str a, e, _, h => by cases e <;> first | rfl | (simp [D.fit] at h)
  | n, m, .tup xs, e, h1, h => by
    cases e with
    | tup ys =>
      cases n with
      | zero => simp [D.fit] at h1
      | succ n =>
        cases m with
        | zero => simp [D.fit] at h
        | succ m => exact eqvs_py n m xs ys (by simpa only [D.fit] using h1) (by simpa only [D.fit] using h)
    | fn _ => simp [D.fit] at h
    | scr _ => simp [D.fit] at h
    | _ => rfl
  | n, m, .lst xs, e, h1, h => by
    cases e with
    | lst ys =>
      cases n with
      | zero => simp [D.fit] at h1
      | succ n =>
        cases m with
        | zero => simp [D.fit] at h
        | succ m => exact eqvs_py n m xs ys (by simpa only [D.fit] using h1) (by simpa only [D.fit] using h)
    | fn _ => simp [D.fit] at h
    | scr _ => simp [D.fit] at h
    | _ => rfl
  | _, _, .fn _, _, h, _ => by simp [D.fit] at h
  | _, _, .scr _, _, h, _ => by simp [D.fit] at h
theorem eqvs_py : ∀ (n m : Nat) (d e : List D), D.fits n d = true → D.fits m e = true → PyData.eqvAll (D.pys d) (D.pys e) = D.eqvs d e
  | _, _, [], [], _, _ => rfl
  | _, _, [], _ :: _, _, _ => rfl
  | _, _, _ :: _, [], _, _ => rfl
  | n, m, x :: xs, y :: ys, h1, h2 => by
    simp only [D.fits, Bool.and_eq_true] at h1 h2
    simp only [D.pys, PyData.eqvAll, D.eqvs]
    rw [eqv_py n m x y h1.1 h2.1, eqvs_py n m xs ys h1.2 h2.2]
end
section
variable {K : PySem.W.Frag} {H : Hp} {Z : Zs}
mutual
theorem Rep.dp : ∀ (n : Nat) {d : D} {v : V}, D.fit n d = true → Rep K H Z v d → Dp K H v (D.py d)
  | _, _, _, _, .non => .non
  | _, _, _, _, .bl b => .bl b
  | _, _, _, _, .int i => .int i
  | _, _, _, _, .str x => .str x
  | 0, _, _, h, .tup a r => by simp [D.fit] at h
  | n + 1, _, _, h, .tup a r => .tup a (RepA.dp n (by simpa only [D.fit] using h) r)
  | 0, _, _, h, .lst a b r => by simp [D.fit] at h
  | n + 1, _, _, h, .lst a b r => .lst (.of a) (RepA.dp n (by simpa only [D.fit] using h) r)
  | _, _, _, h, .scr _ => by simp [D.fit] at h
theorem RepA.dp : ∀ (n : Nat) {ds : List D} {vs : List V}, D.fits n ds = true → RepA K H Z vs ds → DpAll K H vs (D.pys ds)
  | _, _, _, _, .nil => .nil
  | n, _, _, h, .cons r t => by
    simp only [D.fits, Bool.and_eq_true] at h
    exact .cons (Rep.dp n h.1 r) (RepA.dp n h.2 t)
end
theorem RepO.dp {d : D} {v : V} (h : D.fit 64 d = true) (r : RepO K H Z v d) : Dp K H v (D.py d) := by
  rcases r with r | ⟨a, xs, ds, rfl, rfl, e, r⟩
  · exact r.dp 64 h
  · exact .lst (.of e) (r.dp 63 (by simpa only [D.fit] using h))
end

/-! ### operators: what the machine does, and that it is what op1, op2 tell -/
section
variable {X : Cx}
/-- // by any divisor of fewer than 9000 bits -/
theorem op_fdivG : OpR X (binaryOp .FloorDiv) (rI (fun _ j => divOk j = true) fun i j => .int (i.fdiv j)) := opI fun _ _ _ _ _ _ _ hc q => by
  unfold divOk at hc
  simp only [Bool.and_eq_true, decide_eq_true_eq] at hc
  exact floordiv_int hc.1 q (.inl (PyProof.noPylong_of_log2 hc.2))
theorem op_powG : OpR X (binaryOp .Pow) (rI (fun i j => powOk i j = true) fun i j => .int (i ^ j.toNat)) := opI fun i j _ _ _ _ _ hc q => by
  unfold powOk at hc
  simp only [Bool.and_eq_true, decide_eq_true_eq] at hc
  refine pow_int hc.1 ?_ q
  have b : Builtin.Int.intBits i ≤ i.natAbs.log2 + 1 := by
    unfold Builtin.Int.intBits
    split <;> omega
  have h3 : (Builtin.Int.intBits i) * j.toNat ≤ (i.natAbs.log2 + 1) * j.toNat := Nat.mul_le_mul_right _ b
  have h4 : (j.toNat : Int) = j := Int.toNat_of_nonneg hc.1
  have h5 : (Builtin.Int.intBits i) * j.toNat ≤ 100000000 := Nat.le_trans h3 hc.2
  rw [← h4]
  have h6 : ((Builtin.Int.intBits i * j.toNat : Nat) : Int) ≤ (100000000 : Nat) := Int.ofNat_le.mpr h5
  rw [Int.natCast_mul] at h6
  omega
theorem op_inT (hu : X.A.units + 65 < cLine) : OpR X (compareOp .In) (fun x y H Q => ∃ d ds, Dp X.K H x d ∧ Dp X.K H y (.tuple ds) ∧ SeqAt.shaped d = true ∧ SeqAt.shaped (.tuple ds) = true ∧ Q (.bl (ds.any fun z => PyData.eqv z d)) H) := by
  intro pins s σ H x y v u Q I rx ry h
  obtain ⟨d, ds, hd, he, sd, se, q⟩ := h
  obtain ⟨as, r1⟩ := Dp.reads I d x v hd rx
  obtain ⟨bs, r2⟩ := Dp.reads I (.tuple ds) y u he ry
  exact SeqAt.in_tuple_reads r2 r1 (SeqAt.canLay_of_shaped se) (SeqAt.canLay_of_shaped sd) (room_in_shaped sd hu) ⟨.bl _, H, I, rfl, q⟩
theorem op_notInT (hu : X.A.units + 65 < cLine) : OpR X (compareOp .NotIn) (fun x y H Q => ∃ d ds, Dp X.K H x d ∧ Dp X.K H y (.tuple ds) ∧ SeqAt.shaped d = true ∧ SeqAt.shaped (.tuple ds) = true ∧ Q (.bl (!ds.any fun z => PyData.eqv z d)) H) := by
  intro pins s σ H x y v u Q I rx ry h
  obtain ⟨d, ds, hd, he, sd, se, q⟩ := h
  obtain ⟨as, r1⟩ := Dp.reads I d x v hd rx
  obtain ⟨bs, r2⟩ := Dp.reads I (.tuple ds) y u he ry
  exact SeqAt.notIn_tuple_reads r2 r1 (SeqAt.canLay_of_shaped se) (SeqAt.canLay_of_shaped sd) (room_in_shaped sd hu) ⟨.bl _, H, I, rfl, q⟩
/-- is None, is True, is False, of anything of ours -/
theorem op_isNG : OpR X (compareOp .Is) (fun x y H Q => y = .non ∧ Q (.bl (decide (x = .non))) H) := op_isN
end
end G
end

section
set_option maxHeartbeats 2000000
namespace G
open PySem PySem.Spec PyProof.Rows L2

theorem any_py : ∀ (n m : Nat) (d : D) (ds : List D), D.fit n d = true → D.fits m ds = true → (D.pys ds).any (fun z => PyData.eqv z (D.py d)) = ds.any fun z => D.eqv z d
  | _, _, _, [], _, _ => rfl
  | n, m, d, x :: xs, h, h2 => by
    simp only [D.fits, Bool.and_eq_true] at h2
    simp only [D.pys, List.any_cons]
    rw [eqv_py m n x d h2.1 h, any_py n m d xs h h2.2]

theorem lexLt_eq : ∀ a b : List Int, HT.lexLt a b = G.lexLt a b
  | [], [] => rfl
  | [], _ :: _ => rfl
  | _ :: _, [] => rfl
  | x :: xs, y :: ys => by
    rw [HT.lexLt_cons]
    unfold G.lexLt
    rw [lexLt_eq xs ys]
theorem ixN_eq (n : Nat) (i : Int) : L2.ixN n i = G.ixN n i := rfl
theorem sIx_eq (n d : Nat) (hd : d ≤ n) (o : Option Int) : HT.sIx n d o = G.sIx n d o := by
  cases o with
  | none => rfl
  | some v =>
    have h := HT.clip_eq v n d
    have h2 : ((G.sIx n d (some v) : Nat) : Int) = (if v < 0 then max (v + (n : Int)) 0 else min v (n : Int)) := by
      show ((if v < 0 then (v + n).toNat else min v.toNat n : Nat) : Int) = _
      split <;> omega
    omega
theorem cutV_eq (xs : List V) (lo hi : Option Int) : cutV xs lo hi = G.cut xs lo hi := by
  unfold cutV G.cut
  rw [sIx_eq _ 0 (Nat.zero_le _), sIx_eq _ _ (Nat.le_refl _)]

def binOf : Operator → Option Op2
  | .Add => some .add
  | .Sub => some .sub
  | .Mult => some .mul
  | .FloorDiv => some .fdiv
  | .Mod => some .mod
  | .Pow => some .pow
  | _ => none
def cmpOf : CmpOp → Option Op2
  | .Eq => some .eq
  | .NotEq => some .ne
  | .Lt => some .lt
  | .LtE => some .le
  | .Gt => some .gt
  | .GtE => some .ge
  | .In => some .inn
  | .NotIn => some .notin
  | _ => none

/-- a rule r of two values does what op2 o tells -/
def Does2 (F : Fm) (r : R2) (o : Op2) : Prop := ∀ (σ : L2.St) (ρ : Env) (H : Hp) (Z : Zs) (x y : V) (d e : D) (res : R) (Q : VK), Fra F Z H σ ρ → op2 o d e = some res → RepO F.K H Z x d → RepO F.K H Z y e →
  (∀ x' H' Z', Post F σ H Z ρ x' res H' Z' ρ → Q x' H') → r x y H Q
theorem Does2.or {F : Fm} {r r' : R2} {o : Op2} (h : ∀ (σ : L2.St) (ρ : Env) (H : Hp) (Z : Zs) (x y : V) (d e : D) (res : R) (Q : VK), Fra F Z H σ ρ → op2 o d e = some res → RepO F.K H Z x d → RepO F.K H Z y e →
  (∀ x' H' Z', Post F σ H Z ρ x' res H' Z' ρ → Q x' H') → r x y H Q ∨ r' x y H Q) : Does2 F (fun x y H Q => r x y H Q ∨ r' x y H Q) o := h

section
variable {X : Cx} {F : Fm}
theorem bin_ok (hK : X.K = F.K) {op : Operator} {o : Op2} (h : binOf op = some o) : ∃ r : R2, OpR X (binaryOp op) r ∧ Does2 F r o := by
  cases op <;> simp only [binOf, Option.some.injEq, reduceCtorEq] at h <;> subst h
  case Add =>
    refine ⟨_, op_add.or (op_add_str.or (op_cat.or op_catA)), fun σ ρ H Z x y d e res Q f he hx hy q => ?_⟩
    simp only [op2] at he
    split at he
    · cases he; rw [hx.int, hy.int]; exact .inl ⟨_, _, rfl, rfl, q _ _ _ (Post.same f (.int _))⟩
    · split at he
      · rename_i a b hz
        cases he
        obtain ⟨l, xs, rfl, h1, r1⟩ := hx.lst
        obtain ⟨m, ys, rfl, h2, r2⟩ := hy.lst
        exact .inr (.inr (.inl ⟨l, m, xs, ys, rfl, rfl, h1, h2, by rw [r1.len, r2.len]; exact line_eq ▸ hz, fun p hp => q _ _ _ (Post.newL f hp (r1.append r2))⟩))
      · cases he
    · split at he
      · rename_i a b hz
        cases he
        obtain ⟨l, xs, rfl, h1, r1⟩ := hx.tup
        obtain ⟨m, ys, rfl, h2, r2⟩ := hy.tup
        refine .inr (.inr (.inr ⟨l, m, xs, ys, rfl, rfl, hK ▸ h1, hK ▸ h2, by rw [r1.len, r2.len]; exact line_eq ▸ hz, fun e => ?_, fun _ e => ?_, fun _ _ p hp => q _ _ _ (Post.newT f hp (r1.append r2))⟩))
        · subst e; cases r1; exact q _ _ _ (Post.same f (.tup h2 r2))
        · subst e; cases r2; rw [List.append_nil] at q; exact q _ _ _ (Post.same f (.tup h1 r1))
      · cases he
    · split at he
      · rename_i a b hz
        cases he
        rw [hx.str, hy.str]
        exact .inr (.inl ⟨_, _, rfl, rfl, line_eq ▸ hz, q _ _ _ (Post.same f (.str _))⟩)
      · cases he
    · cases he
  case Sub =>
    refine ⟨_, op_sub, fun σ ρ H Z x y d e res Q f he hx hy q => ?_⟩
    simp only [op2] at he
    split at he
    · cases he; rw [hx.int, hy.int]; exact ⟨_, _, rfl, rfl, q _ _ _ (Post.same f (.int _))⟩
    · cases he
  case Mult =>
    refine ⟨_, (op_mul.or op_mulW).or (op_rep.or op_repT), fun σ ρ H Z x y d e res Q f he hx hy q => ?_⟩
    simp only [op2] at he
    split at he
    · split at he
      · rename_i hz
        cases he; rw [hx.int, hy.int]
        unfold mulOk at hz
        rw [Bool.or_eq_true, Bool.or_eq_true] at hz
        rcases hz with (hz | hz) | hz
        · have := of_decide_eq_true hz
          exact .inl (.inl ⟨_, _, rfl, rfl, (show CMul _ _ from .inl (by omega)), q _ _ _ (Post.same f (.int _))⟩)
        · have := of_decide_eq_true hz
          exact .inl (.inl ⟨_, _, rfl, rfl, (show CMul _ _ from .inr (by omega)), q _ _ _ (Post.same f (.int _))⟩)
        · exact .inl (.inr ⟨_, _, rfl, rfl, (show CMulW _ _ from of_decide_eq_true (p := _ < _) hz), q _ _ _ (Post.same f (.int _))⟩)
      · cases he
    · split at he
      · rename_i a k hz
        cases he
        obtain ⟨l, xs, rfl, h1, r1⟩ := hx.lst
        rw [hy.int]
        refine .inr (.inl ⟨l, _, xs, rfl, rfl, h1, by omega, by omega, ?_, fun p hp => q _ _ _ (Post.newL f hp (r1.rep _))⟩)
        rw [r1.len, sizeLine_eq]
        have : a.length * k.toNat ≤ 1000 * 10000 := Nat.mul_le_mul hz.1 (by omega)
        omega
      · cases he
    · split at he
      · rename_i a k hz
        cases he
        obtain ⟨l, xs, rfl, h1, r1⟩ := hx.tup
        rw [hy.int]
        refine .inr (.inr ⟨l, _, xs, rfl, rfl, hK ▸ h1, ?_, hz.2.1, hz.2.2.1, by rw [r1.len]; exact hz.2.2.2, fun p hp => q _ _ _ (Post.newT f hp (r1.rep _))⟩)
        intro e0
        subst e0
        have := r1.len
        exact hz.1 (List.eq_nil_of_length_eq_zero this.symm)
      · cases he
    · cases he
  case FloorDiv =>
    refine ⟨_, op_fdivG, fun σ ρ H Z x y d e res Q f he hx hy q => ?_⟩
    simp only [op2] at he
    split at he
    · split at he
      · rename_i hz
        cases he; rw [hx.int, hy.int]; exact ⟨_, _, rfl, rfl, hz, q _ _ _ (Post.same f (.int _))⟩
      · cases he
    · cases he
  case Mod =>
    refine ⟨_, op_modN, fun σ ρ H Z x y d e res Q f he hx hy q => ?_⟩
    simp only [op2] at he
    split at he
    · split at he
      · rename_i hz
        cases he; rw [hx.int, hy.int]; exact ⟨_, _, rfl, rfl, hz, q _ _ _ (Post.same f (.int _))⟩
      · cases he
    · cases he
  case Pow =>
    refine ⟨_, op_powG, fun σ ρ H Z x y d e res Q f he hx hy q => ?_⟩
    simp only [op2] at he
    split at he
    · split at he
      · rename_i hz
        cases he; rw [hx.int, hy.int]; exact ⟨_, _, rfl, rfl, hz, q _ _ _ (Post.same f (.int _))⟩
      · cases he
    · cases he

theorem eqG_some {d e : D} {b : Bool} (h : eqG d e = some b) : D.fit 64 d = true ∧ D.fit 64 e = true ∧ b = PyData.eqv (D.py d) (D.py e) := by
  unfold eqG at h
  split at h
  · rename_i hf
    simp only [Bool.and_eq_true] at hf
    cases h
    exact ⟨hf.1, hf.2, (eqv_py 64 64 d e hf.1 hf.2).symm⟩
  · cases h
theorem inn_some {d e : D} {b : Bool} (h : inn d e = some b) : ∃ ds, (e = .lst ds ∨ e = .tup ds) ∧ D.fit 64 d = true ∧ D.fit 64 e = true ∧ b = (D.pys ds).any fun z => PyData.eqv z (D.py d) := by
  unfold inn at h
  split at h
  · rename_i ys hs
    split at h
    · rename_i hf
      simp only [Bool.and_eq_true] at hf
      cases h
      refine ⟨ys, ?_, hf.1, ?_, (any_py 64 63 d ys hf.1 hf.2).symm⟩
      · cases e <;> simp only [seq, Option.some.injEq, reduceCtorEq] at hs
        · right; rw [hs]
        · left; rw [hs]
      · cases e <;> simp only [seq, Option.some.injEq, reduceCtorEq] at hs
        · subst hs; simpa only [D.fit] using hf.2
        · subst hs; simpa only [D.fit] using hf.2
    · cases h
  · cases h
theorem cmp_ok (hK : X.K = F.K) (hu : X.A.units + 65 < cLine) {op : CmpOp} {o : Op2} (h : cmpOf op = some o) : ∃ r : R2, OpR X (compareOp op) r ∧ Does2 F r o := by
  cases op <;> simp only [cmpOf, Option.some.injEq, reduceCtorEq] at h <;> subst h
  case Eq =>
    refine ⟨_, op_eqD (by omega), fun σ ρ H Z x y d e res Q f he hx hy q => ?_⟩
    simp only [op2] at he
    split at he
    · rename_i b hb
      cases he
      obtain ⟨h1, h2, rfl⟩ := eqG_some hb
      exact ⟨_, _, hK ▸ hx.dp h1, hK ▸ hy.dp h2, fit_shaped h1, fit_shaped h2, q _ _ _ (Post.same f (.bl _))⟩
    · cases he
  case NotEq =>
    refine ⟨_, op_neD (by omega), fun σ ρ H Z x y d e res Q f he hx hy q => ?_⟩
    simp only [op2] at he
    split at he
    · rename_i b hb
      cases he
      obtain ⟨h1, h2, rfl⟩ := eqG_some hb
      exact ⟨_, _, hK ▸ hx.dp h1, hK ▸ hy.dp h2, fit_shaped h1, fit_shaped h2, q _ _ _ (Post.same f (.bl _))⟩
    · cases he
  case Lt =>
    refine ⟨_, op_lt.or (op_ltT (by omega)), fun σ ρ H Z x y d e res Q f he hx hy q => ?_⟩
    simp only [op2, cmpI] at he
    split at he
    · cases he; rw [hx.int, hy.int]; exact .inl ⟨_, _, rfl, rfl, q _ _ _ (Post.same f (.bl _))⟩
    · split at he
      · rename_i a b ns ms e1 e2
        cases he
        obtain ⟨l, xs, rfl, h1, r1⟩ := hx.tup
        obtain ⟨m, ys, rfl, h2, r2⟩ := hy.tup
        rw [r1.ints e1] at h1
        rw [r2.ints e2] at h2
        refine .inr ⟨l, m, ns, ms, rfl, rfl, hK ▸ h1, hK ▸ h2, ?_⟩
        rw [lexLt_eq]
        exact q _ _ _ (Post.same f (.bl _))
      · cases he
    · cases he
  case LtE =>
    refine ⟨_, op_le, fun σ ρ H Z x y d e res Q f he hx hy q => ?_⟩
    simp only [op2] at he
    split at he
    · cases he; rw [hx.int, hy.int]; exact ⟨_, _, rfl, rfl, q _ _ _ (Post.same f (.bl _))⟩
    · cases he
  case Gt =>
    refine ⟨_, op_gt, fun σ ρ H Z x y d e res Q f he hx hy q => ?_⟩
    simp only [op2] at he
    split at he
    · cases he; rw [hx.int, hy.int]; exact ⟨_, _, rfl, rfl, q _ _ _ (Post.same f (.bl _))⟩
    · cases he
  case GtE =>
    refine ⟨_, op_ge, fun σ ρ H Z x y d e res Q f he hx hy q => ?_⟩
    simp only [op2] at he
    split at he
    · cases he; rw [hx.int, hy.int]; exact ⟨_, _, rfl, rfl, q _ _ _ (Post.same f (.bl _))⟩
    · cases he
  case In =>
    refine ⟨_, (op_inD hu).or (op_inT hu), fun σ ρ H Z x y d e res Q f he hx hy q => ?_⟩
    simp only [op2] at he
    split at he
    · rename_i b hb
      cases he
      obtain ⟨ds, hd, h1, h2, rfl⟩ := inn_some hb
      rcases hd with rfl | rfl
      · exact .inl ⟨_, _, hK ▸ hx.dp h1, hK ▸ hy.dp h2, fit_shaped h1, fit_shaped h2, q _ _ _ (Post.same f (.bl _))⟩
      · exact .inr ⟨_, _, hK ▸ hx.dp h1, hK ▸ hy.dp h2, fit_shaped h1, fit_shaped h2, q _ _ _ (Post.same f (.bl _))⟩
    · cases he
  case NotIn =>
    refine ⟨_, (op_notInD hu).or (op_notInT hu), fun σ ρ H Z x y d e res Q f he hx hy q => ?_⟩
    simp only [op2] at he
    split at he
    · rename_i b hb
      cases he
      obtain ⟨ds, hd, h1, h2, rfl⟩ := inn_some hb
      rcases hd with rfl | rfl
      · exact .inl ⟨_, _, hK ▸ hx.dp h1, hK ▸ hy.dp h2, fit_shaped h1, fit_shaped h2, q _ _ _ (Post.same f (.bl _))⟩
      · exact .inr ⟨_, _, hK ▸ hx.dp h1, hK ▸ hy.dp h2, fit_shaped h1, fit_shaped h2, q _ _ _ (Post.same f (.bl _))⟩
    · cases he
end
end G
end

section
set_option maxHeartbeats 4000000
namespace G
open PySem PySem.Spec PyProof.Rows L2

/-! ### sum, max, min of a tuple -/
section
variable {prog : Program} {w : World} {A : Around} {E : Value → Shared → Prop} {s : Shared} {l : Addr} {its : List Value} {ns : List Int} {Q : Value → Shared → Prop} {xs : Array (Int × Tok)}
theorem iter_intTup {Q : Value → Shared → Prop} (hl : s.heap.IsTuple l (intItems xs))
    (h : ∀ s₂ : Shared, s₂ = { s with heap := s.heap.push { cls := .type "tuple_iterator", data := .fields #[.ref l, .int 0 0] } } →
      (s₂.heap.IsTupleIter s.heap.objs.size l 0 ∧ s₂.heap.IsTuple l (intItems xs)) → (∀ b ∈ [s.heap.objs.size, l], b < s₂.heap.objs.size) → l ≠ s.heap.objs.size → Q (.ref s.heap.objs.size) s₂) :
    wpAny (model prog w) A (pyIter (.ref l)) Q E s := by
  have hlt : l < s.heap.objs.size := by obtain ⟨_, e, _⟩ := hl; exact Heap.lt_size e
  refine wpAny_pyIter_tuple hl (h _ rfl ⟨⟨_, Heap.get?_push_size _ rfl, rfl, rfl⟩, hl.push _⟩ (fun b hb => ?_) (Nat.ne_of_lt hlt))
  show b < (s.heap.push _).objs.size
  rw [Heap.size_push]
  rcases List.mem_cons.mp hb with rfl | hb
  · exact Nat.lt_succ_self _
  · rcases List.mem_cons.mp hb with rfl | hb
    · exact Nat.lt_succ_of_lt hlt
    · cases hb
theorem old_keptT {h' : Heap} (hk : ∀ b o, b ∉ [s.heap.objs.size] → (s.heap.push { cls := .type "tuple_iterator", data := .fields #[.ref l, .int 0 0] }).get? b = some o → h'.get? b = some o) :
    ∀ b o, s.heap.get? b = some o → h'.get? b = some o := fun b o e => by
  refine hk b o (fun hm => ?_) (Heap.get?_push_of_some _ e)
  rcases List.mem_cons.mp hm with e1 | hm
  · exact absurd (e1 ▸ Heap.lt_size e) (Nat.lt_irrefl _)
  · cases hm
theorem sumT_raw (hh : A.handled = none) (hl : s.heap.IsTuple l its.toArray) (hi : IntsAre its ns)
    (h : ∀ h' tk t', (∀ b o, s.heap.get? b = some o → h'.get? b = some o) → Q (.int ns.sum t') { s with heap := h', toks := tk }) : wpAny (model prog w) A (call (.builtin "sum") [.ref l]) Q E s := by
  obtain ⟨xs, e⟩ := hi.allInts.items
  have hn : numsOf (intItems xs).toList = ns := by rw [← e]; exact hi.numsOf
  rw [nums_intItems] at hn
  rw [e] at hl
  refine call_sum_walkG (iter_intTup hl fun s₂ e st hfp hlI => ?_)
  subst e
  refine ⟨_, _, _, _, _, _, numAt xs, rfl, Walks.tuple (A := A.in1) hh _ l hlI (intItems xs), st, hfp, (fun _ _ => intItems_at), fun h' tk t' hk => ?_⟩
  have := h h' tk t' (old_keptT hk)
  rw [← hn] at this
  have e2 : preSum (numAt xs) (intItems xs).size = (xs.toList.map (·.1)).sum := by
    rw [show (intItems xs).size = xs.size by simp [intItems], preSum_eq, List.take_of_length_le (by simp)]
  rw [e2]; exact this
theorem maxT_raw (hh : A.handled = none) (hl : s.heap.IsTuple l its.toArray) (hi : IntsAre its ns) (hne : 0 < ns.length)
    (h : ∀ h' tk M t', (∀ b o, s.heap.get? b = some o → h'.get? b = some o) → M ∈ ns → (∀ a, a ∈ ns → a ≤ M) → Q (.int M t') { s with heap := h', toks := tk }) : wpAny (model prog w) A (call (.builtin "max") [.ref l]) Q E s := by
  obtain ⟨xs, e⟩ := hi.allInts.items
  have hn : numsOf (intItems xs).toList = ns := by rw [← e]; exact hi.numsOf
  rw [nums_intItems] at hn
  subst hn
  rw [e] at hl
  have hsz : 0 < xs.size := by simpa using hne
  refine call_max_walk (iter_intTup hl fun s₂ e st hfp hlI => ?_)
  subst e
  refine ⟨_, _, _, _, _, _, _, rfl, Walks.tuple (A := A.in1) hh _ l hlI (intItems xs), st, hfp, by simpa [intItems] using hsz, CmpOf.ints_gt (numAt xs) (fun _ _ => intItems_at), fun v h' tk hP hk => ?_⟩
  have hv : (intItems xs)[argBest (fun i j => decide (numAt xs i > numAt xs j)) (xs.size - 1)]? = some v := by simpa [intItems] using hP
  obtain ⟨t, rfl⟩ := intItems_at hv
  obtain ⟨h1, h2⟩ := argBest_gt (numAt xs) (xs.size - 1)
  refine h h' tk _ t (old_keptT hk) ?_ fun a ha => ?_
  · rw [numAt_eq]; exact PySem.getD_mem (by rw [List.length_map, Array.length_toList]; omega)
  · obtain ⟨j, hj, rfl⟩ := mem_getD ha
    rw [List.length_map, Array.length_toList] at hj
    rw [← numAt_eq]; exact h2 j (by omega)
theorem minT_raw (hh : A.handled = none) (hl : s.heap.IsTuple l its.toArray) (hi : IntsAre its ns) (hne : 0 < ns.length)
    (h : ∀ h' tk M t', (∀ b o, s.heap.get? b = some o → h'.get? b = some o) → M ∈ ns → (∀ a, a ∈ ns → M ≤ a) → Q (.int M t') { s with heap := h', toks := tk }) : wpAny (model prog w) A (call (.builtin "min") [.ref l]) Q E s := by
  obtain ⟨xs, e⟩ := hi.allInts.items
  have hn : numsOf (intItems xs).toList = ns := by rw [← e]; exact hi.numsOf
  rw [nums_intItems] at hn
  subst hn
  rw [e] at hl
  have hsz : 0 < xs.size := by simpa using hne
  refine call_min_walk (iter_intTup hl fun s₂ e st hfp hlI => ?_)
  subst e
  refine ⟨_, _, _, _, _, _, _, rfl, Walks.tuple (A := A.in1) hh _ l hlI (intItems xs), st, hfp, by simpa [intItems] using hsz, CmpOf.ints_lt (numAt xs) (fun _ _ => intItems_at), fun v h' tk hP hk => ?_⟩
  have hv : (intItems xs)[argBest (fun i j => decide (numAt xs i < numAt xs j)) (xs.size - 1)]? = some v := by simpa [intItems] using hP
  obtain ⟨t, rfl⟩ := intItems_at hv
  obtain ⟨h1, h2⟩ := argBest_lt (numAt xs) (xs.size - 1)
  refine h h' tk _ t (old_keptT hk) ?_ fun a ha => ?_
  · rw [numAt_eq]; exact PySem.getD_mem (by rw [List.length_map, Array.length_toList]; omega)
  · obtain ⟨j, hj, rfl⟩ := mem_getD ha
    rw [List.length_map, Array.length_toList] at hj
    rw [← numAt_eq]; exact h2 j (by omega)
end
section
variable {X : Cx}
def rSumT (K : PySem.W.Frag) : List V → Hp → VK → Prop := fun vs H Q => ∃ (a : Addr) (ns : List Int), vs = [V.ref a] ∧ SqT K H a (ns.map V.int) ∧ Q (.int ns.sum) H
def rMaxT (K : PySem.W.Frag) : List V → Hp → VK → Prop := fun vs H Q => ∃ (a : Addr) (ns : List Int), vs = [V.ref a] ∧ SqT K H a (ns.map V.int) ∧ 0 < ns.length ∧ ∀ m, m ∈ ns → (∀ y, y ∈ ns → y ≤ m) → Q (.int m) H
def rMinT (K : PySem.W.Frag) : List V → Hp → VK → Prop := fun vs H Q => ∃ (a : Addr) (ns : List Int), vs = [V.ref a] ∧ SqT K H a (ns.map V.int) ∧ 0 < ns.length ∧ ∀ m, m ∈ ns → (∀ y, y ∈ ns → m ≤ y) → Q (.int m) H
theorem cr_sumT (hc : X.calm = true) : CallR X (.builtin "sum") (rSumT X.K) := by
  intro pins s σ H vs us Q I r h
  obtain ⟨a, ns, rfl, hs, q⟩ := h
  obtain ⟨its, rv, hl, _⟩ := I.tuple hs
  rw [Vals.ref1 r]
  exact sumT_raw (I.ok.hd hc) hl rv.ints fun h' tk t' hk => ⟨.int _, H, I.kept hk, ⟨_, rfl⟩, q⟩
theorem cr_maxT (hc : X.calm = true) : CallR X (.builtin "max") (rMaxT X.K) := by
  intro pins s σ H vs us Q I r h
  obtain ⟨a, ns, rfl, hs, hne, q⟩ := h
  obtain ⟨its, rv, hl, _⟩ := I.tuple hs
  rw [Vals.ref1 r]
  exact maxT_raw (I.ok.hd hc) hl rv.ints hne fun h' tk m t' hk h1 h2 => ⟨.int _, H, I.kept hk, ⟨_, rfl⟩, q m h1 h2⟩
theorem cr_minT (hc : X.calm = true) : CallR X (.builtin "min") (rMinT X.K) := by
  intro pins s σ H vs us Q I r h
  obtain ⟨a, ns, rfl, hs, hne, q⟩ := h
  obtain ⟨its, rv, hl, _⟩ := I.tuple hs
  rw [Vals.ref1 r]
  exact minT_raw (I.ok.hd hc) hl rv.ints hne fun h' tk m t' hk h1 h2 => ⟨.int _, H, I.kept hk, ⟨_, rfl⟩, q m h1 h2⟩
end

/-! ### sorted: of a tuple; of tuples -/
section
variable {prog : Program} {w : World} {A : Around} {E : Value → Shared → Prop} {s : Shared}
open SrtO Srt
theorem collect_tupG {l : Addr} {vs : List Value} {Q : List Value → Shared → Prop} (hl : s.heap.IsTuple l vs.toArray)
    (h : Q vs { s with heap := (s.heap.push (seqObj "list" #[] 0)).update s.heap.objs.size (Obj.mapSeq (· ++ vs.toArray)) }) (hsz : vs.length ≤ sizeLine) :
    wpAny (model prog w) A (collect (.ref l)) Q E s := by
  obtain ⟨o, ho, hc, n, hd⟩ := id hl
  unfold collect
  refine wpAny_bind (wpAny_runValue (codeAny_builtin entry_proto_collect' ?_))
  show wpAny _ _ (do again (.builtin "list.__iadd__" ⟨[← newList [], .ref l], []⟩)) _ _ s
  refine wpAny_bind (wpAny_newList (wpAny_pure ⟨Code.quiet_builtin _ (by decide +kernel), codeAny_builtin entry_list_iadd' ?_⟩))
  show wpAny _ _ (Builtin.List.listExtendWith (.ref s.heap.objs.size) (.ref l) (.ref s.heap.objs.size)) _ _ { s with heap := s.heap.push (seqObj "list" #[] 0) }
  unfold Builtin.List.listExtendWith
  have ho' : (s.heap.push (seqObj "list" #[] 0)).get? l = some o := Heap.get?_push_of_some _ ho
  refine wpAny_bind (wpAny_typeOf (T := "tuple") ⟨o, ho', hc⟩ ?_)
  have ht : (Value.type "tuple" == Value.type "tuple") = true := by rfl
  rw [if_pos (by rw [ht]; simp)]
  refine wpAny_bind (listItems_at ho' hd ?_)
  refine wpAny_bind (listItems_at (xs := #[]) (n := 0) (Heap.get?_push_size _ rfl) rfl ?_)
  rw [if_neg (by simp)]
  refine wpAny_bind (listUpdate_at (xs := #[]) (n := 0) (Heap.get?_push_size _ rfl) rfl ?_ (Nat.zero_le _) (by show (#[] ++ vs.toArray).size ≤ sizeLine + 1; simp only [Array.size_append, List.size_toArray, List.length_nil]; omega))
  refine wpAny_pure ?_
  show wpAny (model prog w) A (do
      let o ← load s.heap.objs.size
      match o.data with
      | .seq xs _ => pure xs.toList
      | _ => unsupported "internal:collect") Q E { s with heap := (s.heap.push (seqObj "list" #[] 0)).update s.heap.objs.size (Obj.mapSeq (· ++ vs.toArray)) }
  refine wpAny_bind (wpAny_load (get?_update_seq (Heap.get?_push_size _ rfl) _) ?_)
  show wpAny _ _ (pure ((#[] : Array Value) ++ vs.toArray).toList) Q E _
  rw [show ((#[] : Array Value) ++ vs.toArray).toList = vs by simp]
  exact wpAny_pure h
theorem sortedT_ord {l : Addr} {vs : List Value} {ltv : Value → Value → Bool} {Q : Value → Shared → Prop} (O : Swo ltv) (hl : s.heap.IsTuple l vs.toArray) (hz : vs.length ≤ sizeLine)
    (hS : 2 ≤ vs.length → ∀ (h₁ : Heap) (a : Addr), h₁.get? a = some (seqObj "list" vs.toArray 0) → (∀ b o, s.heap.get? b = some o → b ≠ a ∧ h₁.get? b = some o) → SortableO prog w A.in1.in1 { s with heap := h₁ } a vs ltv)
    (h : ∀ out : List Value, Srtd ltv out → Stb ltv out vs → Q (.ref (s.heap.objs.size + 1)) { s with heap := sortedAll s.heap vs out.toArray }) :
    wpAny (model prog w) A (call (.builtin "sorted") [.ref l]) Q E s := by
  refine Calls.call_function_entry kind_sorted plain_sorted entry_sorted (args_sorted1 _) ?_
  unfold Builtin.«sorted»
  refine wpAny_bind (m := checkCount "sorted" 1 1 _) (wpAny_pure ?_)
  refine wpAny_bind (collect_tupG hl ?_ hz)
  refine wpAny_bind (wpAny_newList ?_ hz)
  have hsz : ((s.heap.push (seqObj "list" #[] 0)).update s.heap.objs.size (Obj.mapSeq (· ++ vs.toArray))).objs.size = s.heap.objs.size + 1 := by
    rw [Heap.size_update, size_push']
  have hoL : (((s.heap.push (seqObj "list" #[] 0)).update s.heap.objs.size (Obj.mapSeq (· ++ vs.toArray))).push (seqObj "list" vs.toArray 0)).get? (s.heap.objs.size + 1) = some (seqObj "list" vs.toArray 0) := by
    rw [← hsz]; exact Heap.get?_push_size _ rfl
  have keep : ∀ b o, s.heap.get? b = some o → b ≠ s.heap.objs.size + 1 ∧ (((s.heap.push (seqObj "list" #[] 0)).update s.heap.objs.size (Obj.mapSeq (· ++ vs.toArray))).push (seqObj "list" vs.toArray 0)).get? b = some o := fun b o q => by
    have hlt : b < s.heap.objs.size := Heap.lt_size q
    refine ⟨Nat.ne_of_lt (Nat.lt_succ_of_lt hlt), Heap.get?_push_of_some _ ?_⟩
    rw [Heap.get?_update_ne _ _ _ _ (Nat.ne_of_lt hlt)]
    exact Heap.get?_push_of_some _ q
  show wpAny _ _ _ _ _ { s with heap := ((s.heap.push (seqObj "list" #[] 0)).update s.heap.objs.size (Obj.mapSeq (· ++ vs.toArray))).push (seqObj "list" vs.toArray 0) }
  rw [hsz]
  refine wpAny_bind (wpAny_holding (wpAny_call_entry slot_list_sort ⟨_, hoL, rfl⟩ entry_list_sort (list_sort_ord O hoL hz (fun h2 => hS h2 _ _ hoL keep) fun out hs hb => ⟨_, rfl, ?_⟩) (args_list_sort _)))
  exact wpAny_pure ⟨_, rfl, h out hs hb⟩

/-! tuples of ints, none of them empty -/
def IsRow (h : Heap) (v : Value) (ns : List Int) : Prop := ns ≠ [] ∧ ∃ a o items n, v = .ref a ∧ h.get? a = some o ∧ o.cls = .type "tuple" ∧ o.data = .seq items n ∧ IntsAre items.toList ns
theorem IsRow.keeps {h h' : Heap} {v : Value} {ns : List Int} (p : IsRow h v ns) (k : ∀ b o, h.get? b = some o → o.cls = .type "tuple" → h'.get? b = some o) : IsRow h' v ns := by
  obtain ⟨ne, a, o, items, n, e, ho, hc, hd, hi⟩ := p
  exact ⟨ne, a, o, items, n, e, k _ _ ho hc, hc, hd, hi⟩
theorem lex_go {fin : Bool} {Q : Bool → Shared → Prop} : ∀ {vs ws : List Value} {ns ms : List Int} (i : Nat), IntsAre vs ns → IntsAre ws ms → fin = decide (ns.length < ms.length) → Q (HT.lexLt ns ms) s → PySem.W.KatLex prog w A true fin Q (vs.zip ws) i s := by
  intro vs ws ns ms i hv
  induction hv generalizing ws ms i with
  | nil =>
    intro hw hf q
    cases hw with
    | nil => rw [HT.lexLt_nil_nil] at q; subst hf; exact PySem.W.kat_nil q
    | cons c u hw => rw [HT.lexLt_nil_cons] at q; subst hf; exact PySem.W.kat_nil (by simpa using q)
  | cons a t hv ih =>
    intro hw hf q
    cases hw with
    | nil => rw [HT.lexLt_cons_nil] at q; subst hf; exact PySem.W.kat_nil (by simpa using q)
    | cons c u hw =>
      rw [List.zip_cons_cons]
      rw [HT.lexLt_cons] at q
      refine PySem.W.kat_cons (SeqAt.EqAt.int_int a t c u prog w _ _ ?_)
      refine PySem.W.kat_go (fun e1 => ?_) (fun e1 => ?_)
      · have ex : a = c := by simpa using e1
        rw [if_pos ex] at q
        exact PySem.W.kat_yes (ih _ hw (by rw [hf]; simp) q)
      · have ex : ¬ a = c := by simpa using e1
        rw [if_neg ex] at q
        refine PySem.W.kat_no ?_
        by_cases h0 : i = 0
        · subst h0; exact oneLt_int q
        · have : (true && i == 0) = false := by simpa using h0
          rw [this]
          exact PySem.W.kat_one _ _ (PyProof.Rows.lt_int q)
theorem row_cmp {vs : List Value} {k : Value → List Int} (hp : ∀ v ∈ vs, IsRow s.heap v (k v)) : Cmp prog w A s (tuples' true) (fun p => p.1 ∈ vs) (lt2 fun v u => HT.lexLt (k v) (k u)) := by
  intro p q hm hm'
  obtain ⟨_, a, o, items, n, e, ho, hc, hd, hi⟩ := hp _ hm
  obtain ⟨_, a', o', items', n', e', ho', hc', hd', hi'⟩ := hp _ hm'
  show wpAny (model prog w) A (keyLt' (tuples' true) p.1 q.1) (fun r s' => s' = s ∧ r = HT.lexLt (k p.1) (k q.1)) (fun _ _ => False) s
  generalize k p.1 = ns at hi ⊢
  generalize k q.1 = ms at hi' ⊢
  rw [e, e']
  refine PySem.W.kat_lt ho hd ho' hd' (lex_go 0 hi hi' ?_ ⟨rfl, rfl⟩)
  have z1 : items.size = ns.length := by rw [← hi.length]; simp
  have z2 : items'.size = ms.length := by rw [← hi'.length]; simp
  rw [z1, z2]
theorem row_firsts {h : Heap} {k : Value → List Int} : ∀ {vs : List Value}, (∀ v ∈ vs, IsRow h v (k v)) → ∃ fs : List Value, PySem.W.KatTups h vs fs ∧ fs.length = vs.length ∧ ∀ f ∈ fs, ∃ x t, f = Value.int x t
  | [], _ => ⟨[], PySem.W.KatTups.nil, rfl, fun _ hm => by simp at hm⟩
  | v :: vs, hp => by
    obtain ⟨fs, h1, h2, h3⟩ := row_firsts (vs := vs) fun v' hm => hp v' (List.mem_cons_of_mem _ hm)
    obtain ⟨ne, a, o, items, n, e, ho, hc, hd, hi⟩ := hp v (List.mem_cons_self ..)
    rw [e]
    obtain ⟨x, t, hx⟩ : ∃ x t, items[0]? = some (Value.int x t) := by
      cases hns : k v with
      | nil => exact absurd hns ne
      | cons x r =>
        rw [hns] at hi
        cases hit : items.toList with
        | nil => rw [hit] at hi; cases hi
        | cons y ys =>
          rw [hit] at hi
          cases hi with
          | cons _ t _ => exact ⟨x, t, by rw [← Array.getElem?_toList, hit]; rfl⟩
    refine ⟨.int x t :: fs, PySem.W.KatTups.cons ho hc hd hx h1, by rw [List.length_cons, List.length_cons, h2], fun f hm => ?_⟩
    rcases List.mem_cons.mp hm with rfl | hm
    · exact ⟨x, t, rfl⟩
    · exact h3 f hm
theorem rows_sortableO {a : Addr} {vs : List Value} {k : Value → List Int} (h0 : 0 < vs.length) (hp : ∀ v ∈ vs, IsRow s.heap v (k v)) (ha : ∀ o, s.heap.get? a = some o → o.cls ≠ .type "tuple") : SortableO prog w A s a vs fun v u => HT.lexLt (k v) (k u) := by
  intro h' keep
  have hp' : ∀ v ∈ vs, IsRow h' v (k v) := fun v hm => (hp v hm).keeps fun b o e c => keep b o (fun z => by subst z; exact ha o e c) e
  obtain ⟨fs, h1, h2, h3⟩ := row_firsts hp'
  refine ⟨tuples' true, fun Q E hq => ?_, row_cmp hp'⟩
  refine PySem.W.kat_kind (T := .type "int") h1 (by omega) (fun f hm => ?_) (by rfl) ?_
  · obtain ⟨x, t, rfl⟩ := h3 f hm
    exact PySem.W.Looks.now
  · have e : (Value.type "int" != Value.type "tuple") = true := by first | decide +kernel | rfl | decide
    rw [e]
    exact hq
theorem sorted_rowsO {l : Addr} {vs : List Value} {k : Value → List Int} {Q : Value → Shared → Prop} (hl : s.heap.IsList l vs.toArray ∨ s.heap.IsTuple l vs.toArray) (hz : vs.length ≤ sizeLine) (hp : ∀ v ∈ vs, IsRow s.heap v (k v))
    (h : ∀ (h' : Heap) (d : Addr) (out : List Value), Srtd (fun v u => HT.lexLt (k v) (k u)) out → Stb (fun v u => HT.lexLt (k v) (k u)) out vs → (∀ b o, s.heap.get? b = some o → h'.get? b = some o) → s.heap.objs.size ≤ d → (∃ n, h'.get? d = some (seqObj "list" out.toArray n)) → Q (.ref d) { s with heap := h' }) :
    wpAny (model prog w) A (call (.builtin "sorted") [.ref l]) Q E s := by
  have hS : 2 ≤ vs.length → ∀ (h₁ : Heap) (a : Addr), h₁.get? a = some (seqObj "list" vs.toArray 0) → (∀ b o, s.heap.get? b = some o → b ≠ a ∧ h₁.get? b = some o) → SortableO prog w A.in1.in1 { s with heap := h₁ } a vs (fun v u => HT.lexLt (k v) (k u)) := fun h2 h₁ a ha kk => by
    refine rows_sortableO (s := { s with heap := h₁ }) (by omega) (fun v hm => (hp v hm).keeps fun b o e _ => (kk b o e).2) fun o e => ?_
    have e' : some o = some (seqObj "list" vs.toArray 0) := e.symm.trans ha
    cases e'
    intro c
    exact absurd (Value.type.inj c) (by decide)
  have fin : ∀ out : List Value, Srtd (fun v u => HT.lexLt (k v) (k u)) out → Stb (fun v u => HT.lexLt (k v) (k u)) out vs → Q (.ref (s.heap.objs.size + 1)) { s with heap := sortedAll s.heap vs out.toArray } := fun out hs hb =>
    h _ _ out hs hb (fun b o e => sortedAll_old e) (Nat.le_succ _) (sortedAll_at s.heap vs out.toArray)
  rcases hl with hl | hl
  · exact sorted_ord (NtL.swo_lexL k) hl hz hS fin
  · exact sortedT_ord (NtL.swo_lexL k) hl hz hS fin
end
section
variable {X : Cx}
/-- sorted of a tuple of ints -/
def rSortedTI (K : PySem.W.Frag) : List V → Hp → VK → Prop := fun vs H Q => ∃ (a : Addr) (ns : List Int), vs = [V.ref a] ∧ SqT K H a (ns.map V.int) ∧
  ∀ (ns' : List Int) (p : Addr), ns'.Perm ns → ns'.Pairwise (· ≤ ·) → H p = none → Q (.ref p) (upd H p (.lst (ns'.map V.int)))
theorem cr_sortedTI : CallR X (.builtin "sorted") (rSortedTI X.K) := by
  intro pins s σ H vs us Q I r h
  obtain ⟨a, ns, rfl, hs, q⟩ := h
  obtain ⟨its, rv, hl, hz⟩ := I.tuple hs
  rw [Vals.ref1 r]
  have hi := rv.ints
  refine sortedT_ord SrtO.swo_int hl (by rw [← rv.length]; exact hz) (fun h2 h₁ a' _ _ => SrtO.ints_sortable hi h2) fun out h1 h2 => ?_
  obtain ⟨k1, k2, k3⟩ := SrtO.ints_out hi h1 h2
  obtain ⟨ep, he'⟩ := PyProof.Rows.sortedAll_at s.heap its out.toArray
  have hlen : ((out.map SrtO.iv).map V.int).length ≤ sizeLine := by
    rw [List.length_map, k2.length_eq]
    rw [List.length_map] at hz
    exact hz
  exact ⟨.ref _, upd H (s.heap.objs.size + 1) (.lst ((out.map SrtO.iv).map V.int)), I.laid (t' := s.toks) (fun _ _ => PyProof.Rows.sortedAll_old) (Nat.le_succ _) ⟨hlen, out, ep, vals_of_ints k1, he'⟩, rfl, q _ _ k2 k3 (I.hok.fresh (Nat.le_succ _))⟩
/-- sorted of tuples of ints, none empty -/
def rSortedR (K : PySem.W.Frag) : List V → Hp → VK → Prop := fun vs H Q => ∃ (a : Addr) (L : List (V × List Int)), vs = [V.ref a] ∧ (SqL K H a (L.map Prod.fst) ∨ SqT K H a (L.map Prod.fst)) ∧ (∀ x ∈ L, ∃ t, x.1 = V.ref t ∧ SqT K H t (x.2.map V.int) ∧ x.2 ≠ []) ∧
  ∀ (L' : List (V × List Int)) p, L'.Perm L → L'.Pairwise (fun x y => HT.lexLt y.2 x.2 = false) → H p = none → Q (.ref p) (upd H p (.lst (L'.map Prod.fst)))
theorem mapInt_inj {a b : List Int} (h : a.map V.int = b.map V.int) : a = b := by
  induction a generalizing b with
  | nil => cases b with
    | nil => rfl
    | cons y b => cases h
  | cons x a ih => cases b with
    | nil => cases h
    | cons y b =>
      rw [List.map_cons, List.map_cons] at h
      injection h with h1 h2
      injection h1 with h1
      rw [h1, ih h2]
open Classical in
noncomputable def keyOf (K : PySem.W.Frag) (H : Hp) (x : V) : List Int := if h : ∃ ns : List Int, ∃ t, x = V.ref t ∧ SqT K H t (ns.map V.int) then h.choose else []
theorem cr_sortedR : CallR X (.builtin "sorted") (rSortedR X.K) := by
  intro pins s σ H vs us Q I r h
  obtain ⟨a, L, rfl, hs, hL, q⟩ := h
  have key : ∀ x ∈ L, keyOf X.K H x.1 = x.2 := fun x hx => by
    obtain ⟨t, e, ht, _⟩ := hL x hx
    have hex : ∃ ns : List Int, ∃ t, x.1 = V.ref t ∧ SqT X.K H t (ns.map V.int) := ⟨x.2, t, e, ht⟩
    unfold keyOf
    rw [dif_pos hex]
    obtain ⟨t2, e2, ht2⟩ := hex.choose_spec
    rw [e] at e2
    cases e2
    exact mapInt_inj (I.tuple_inj ht2 ht)
  have eL : L = (L.map Prod.fst).map fun x => (x, keyOf X.K H x) := by
    rw [List.map_map]
    conv => lhs; rw [← List.map_id L]
    refine List.map_congr_left fun x hx => ?_
    show x = (x.1, keyOf X.K H x.1)
    rw [key x hx]
  have hx : ∀ x ∈ L.map Prod.fst, ∃ t, x = V.ref t ∧ SqT X.K H t ((keyOf X.K H x).map V.int) ∧ keyOf X.K H x ≠ [] := fun x hx => by
    obtain ⟨p, hp, rfl⟩ := List.mem_map.mp hx
    rw [key p hp]
    exact hL p hp
  generalize hxs : L.map Prod.fst = xs at hs hx eL
  generalize hk : keyOf X.K H = k at hx eL
  obtain ⟨its, rv, hl, hz⟩ : ∃ its : List Value, Vals xs its ∧ (s.heap.IsList a its.toArray ∨ s.heap.IsTuple a its.toArray) ∧ xs.length ≤ sizeLine := by
    rcases hs with hs | hs
    · obtain ⟨its, rv, hl, hz⟩ := I.list hs
      exact ⟨its, rv, .inl hl.isList, hz⟩
    · obtain ⟨its, rv, hl, hz⟩ := I.tuple hs
      exact ⟨its, rv, .inr hl, hz⟩
  obtain ⟨u, rfl, ru⟩ := vals1 r
  obtain rfl : u = Value.ref a := ru
  obtain ⟨e1, e2⟩ := refs_back rv fun x m => by
    obtain ⟨t, e, _⟩ := hx x m
    exact ⟨t, e⟩
  refine sorted_rowsO (k := fun u => k (backV u)) hl (by rw [← rv.length]; exact hz) (fun v hv => ?_) fun h' d out h1 h2 kp hd hn => ?_
  · obtain ⟨t, rfl⟩ := e2 v hv
    have hm : V.ref t ∈ xs := by rw [e1]; exact List.mem_map.mpr ⟨_, hv, rfl⟩
    obtain ⟨t', e, ht, ne⟩ := hx _ hm
    cases e
    obtain ⟨its2, r2, ⟨o, ho, hc, n, hd⟩, _⟩ := I.tuple ht
    exact ⟨ne, t, o, _, n, rfl, ho, hc, hd, r2.ints⟩
  · have h3 : ∀ u ∈ out, ∃ a, u = Value.ref a := fun u hu => e2 u (h2.perm.mem_iff.mp hu)
    obtain ⟨n, hn⟩ := hn
    have hp : (out.map backV).Perm xs := by rw [e1]; exact h2.perm.map backV
    have hsrt : (out.map backV).Pairwise (fun x y => HT.lexLt (k y) (k x) = false) := List.pairwise_map.mpr h1
    have q2 := q ((out.map backV).map fun x => (x, k x)) d (by rw [eL]; exact hp.map _) (List.pairwise_map.mpr hsrt) (I.hok.fresh hd)
    have em : ((out.map backV).map fun x => (x, k x)).map Prod.fst = out.map backV := by rw [List.map_map]; exact List.map_id _
    rw [em] at q2
    refine ⟨.ref d, upd H d (.lst (out.map backV)), I.laid (t' := s.toks) kp hd ⟨?_, out, n, vals_back h3, hn⟩, rfl, q2⟩
    rw [hp.length_eq]
    exact hz
end

/-! ### there is just one such list -/
theorem lex_no : ∀ {a b : List Int}, G.lexLt a b = false → G.lexLt b a = false → a = b
  | [], [], _, _ => rfl
  | [], _ :: _, h, _ => by simp [G.lexLt] at h
  | _ :: _, [], _, h => by simp [G.lexLt] at h
  | x :: a, y :: b, h1, h2 => by
    unfold G.lexLt at h1 h2
    by_cases e : x = y
    · rw [if_pos e] at h1
      rw [if_pos e.symm] at h2
      rw [e, lex_no h1 h2]
    · rw [if_neg e] at h1
      rw [if_neg (Ne.symm e)] at h2
      have a := of_decide_eq_false h1
      have b := of_decide_eq_false h2
      omega
theorem insR_perm (x : List Int) : ∀ ys : List (List Int), (insR x ys).Perm (x :: ys)
  | [] => .refl _
  | y :: ys => by
    unfold insR
    split
    · exact ((insR_perm x ys).cons y).trans (.swap _ _ _)
    · exact .refl _
theorem sortR_perm : ∀ rs : List (List Int), (sortR rs).Perm rs
  | [] => .refl _
  | x :: xs => (insR_perm x _).trans ((sortR_perm xs).cons x)
theorem lex_le_tr (a b c : List Int) (h1 : G.lexLt b a = false) (h2 : G.lexLt c b = false) : G.lexLt c a = false := by
  rw [← lexLt_eq] at *
  exact NtL.lex_tr a b c h1 h2
theorem lex_flip {a b : List Int} (h : G.lexLt b a = true) : G.lexLt a b = false := by
  rw [← lexLt_eq] at h
  have := NtL.lex_asym _ _ h
  rw [lexLt_eq] at this
  exact this
theorem insR_sorted (x : List Int) : ∀ ys : List (List Int), (ys.Pairwise fun x y => G.lexLt y x = false) → (insR x ys).Pairwise fun x y => G.lexLt y x = false
  | [], _ => List.pairwise_singleton _ _
  | y :: ys, h => by
    have h' := List.pairwise_cons.mp h
    unfold insR
    split
    · rename_i hl
      refine List.pairwise_cons.mpr ⟨fun z hz => ?_, insR_sorted x ys h'.2⟩
      rcases List.mem_cons.mp ((insR_perm x ys).mem_iff.mp hz) with rfl | hz
      · exact lex_flip hl
      · exact h'.1 z hz
    · rename_i hl
      have hl := Bool.eq_false_iff.mpr hl
      refine List.pairwise_cons.mpr ⟨fun z hz => ?_, h⟩
      rcases List.mem_cons.mp hz with rfl | hz
      · exact hl
      · exact lex_le_tr x y z hl (h'.1 z hz)
theorem sortR_sorted : ∀ rs : List (List Int), (sortR rs).Pairwise fun x y => G.lexLt y x = false
  | [] => .nil
  | x :: xs => insR_sorted x _ (sortR_sorted xs)

theorem sortR_uniq {a b : List (List Int)} (p : a.Perm b) (ha : a.Pairwise fun x y => G.lexLt y x = false) (hb : b.Pairwise fun x y => G.lexLt y x = false) : a = b :=
  List.Perm.eq_of_pairwise (fun x y _ _ h1 h2 => lex_no h2 h1) ha hb p
theorem RepA.rows {K : PySem.W.Frag} {H : Hp} {Z : Zs} : ∀ {vs : List V} {ds : List D} {rs : List (List Int)}, RepA K H Z vs ds → G.rows ds = some rs → (vs.zip rs).map Prod.fst = vs ∧ (vs.zip rs).map Prod.snd = rs ∧ ∀ p ∈ vs.zip rs, ∃ t, p.1 = V.ref t ∧ SqT K H t (p.2.map V.int)
  | _, _, rs, .nil, e => by simp only [G.rows] at e; cases e; exact ⟨rfl, rfl, fun _ h => nomatch h⟩
  | _, d :: ds, rs, .cons r t, e => by
    cases r with
    | tup h1 r1 =>
      simp only [G.rows] at e
      split at e
      · rename_i a b ha hb
        cases e
        obtain ⟨k1, k2, k3⟩ := RepA.rows t hb
        refine ⟨by rw [List.zip_cons_cons, List.map_cons, k1], by rw [List.zip_cons_cons, List.map_cons, k2], fun p hp => ?_⟩
        rw [List.zip_cons_cons] at hp
        rcases List.mem_cons.mp hp with rfl | hp
        · exact ⟨_, rfl, by rw [r1.ints ha] at h1; exact h1⟩
        · exact k3 p hp
      · cases e
    | _ => simp [G.rows] at e
theorem RepA.ofRows {K : PySem.W.Frag} {H : Hp} {Z : Zs} : ∀ {L : List (V × List Int)}, (∀ p ∈ L, ∃ t, p.1 = V.ref t ∧ SqT K H t (p.2.map V.int)) → RepA K H Z (L.map Prod.fst) ((L.map Prod.snd).map fun r => D.tup (r.map D.int))
  | [], _ => .nil
  | p :: L, h => by
    obtain ⟨t, e, ht⟩ := h p List.mem_cons_self
    rw [List.map_cons, List.map_cons, List.map_cons, e]
    exact .cons (.tup ht (RepA.ofInts _)) (RepA.ofRows fun q hq => h q (List.mem_cons_of_mem _ hq))
end G
end

section
set_option maxHeartbeats 2000000
namespace G
open PySem PySem.Spec PyProof.Rows L2

/-- forms of expressions that are served; the side conditions of the rules by the form -/
def okE : Expr → Bool
  | .Constant .. | .Name .. | .Tuple .. | .List .. | .BinOp .. | .UnaryOp .. | .BoolOp .. | .IfExp .. | .Compare .. | .Subscript .. | .ListComp .. | .Call .. => true
  | _ => false
section
variable {e : Expr} {es : List Expr} {env : PySem.Env}
theorem okE.star (h : okE e = true) : starEach (e :: es) env = (false, eval e env) :: starEach es env := by
  cases e <;> first | rfl | cases h
theorem okE.plain (h : okE e = true) : PlainIx e := by
  cases e <;> first | exact fun _ _ => rfl | cases h
theorem okE.mark {op : CmpOp} (h : okE e = true) : behindInMarks op e = false := by
  cases e <;> first | rfl | cases h
theorem okE.fold (h : okE e = true) : ∀ x, foldedSetIterable e env x = pure x := by
  cases e <;> first | exact fun _ => rfl | cases h
theorem stars (h : ∀ e ∈ es, okE e = true) : ∀ pos : Pos, (backTo pos (starEach es env)).any (·.1) = false := by
  intro pos
  have : ∀ p ∈ starEach es env, p.1 = false := by
    induction es with
    | nil => intro p hp; cases hp
    | cons e es ih =>
      rw [okE.star (h e List.mem_cons_self)]
      intro p hp
      rcases List.mem_cons.mp hp with rfl | hp
      · rfl
      · exact ih (fun e he => h e (List.mem_cons_of_mem _ he)) p hp
  generalize starEach es env = l at this ⊢
  induction l with
  | nil => rfl
  | cons p l ih =>
    have h1 := this p List.mem_cons_self
    have h2 := ih fun q hq => this q (List.mem_cons_of_mem _ hq)
    unfold backTo at h2 ⊢
    rw [List.map_cons, List.any_cons, h2, Bool.or_false]
    exact h1
end

/-- a rule r of one value does what op1 o tells -/
def Does1 (F : Fm) (r : V → Hp → VK → Prop) (o : Op1) : Prop := ∀ (σ : L2.St) (ρ : Env) (H : Hp) (Z : Zs) (x : V) (d : D) (res : R) (Q : VK), Fra F Z H σ ρ → op1 o d = some res → RepO F.K H Z x d →
  (∀ x' H' Z', Post F σ H Z ρ x' res H' Z' ρ → Q x' H') → r x H Q

theorem sorted_uniq {a b : List Int} (p : a.Perm b) (ha : a.Pairwise (· ≤ ·)) (hb : b.Pairwise (· ≤ ·)) : a = b :=
  List.Perm.eq_of_pairwise (fun x y _ _ h1 h2 => Int.le_antisymm h1 h2) ha hb p
theorem insI_perm (x : Int) : ∀ ys : List Int, (insI x ys).Perm (x :: ys)
  | [] => .refl _
  | y :: ys => by
    unfold insI
    split
    · exact .refl _
    · exact ((insI_perm x ys).cons y).trans (.swap _ _ _)
theorem sortI_perm : ∀ ns : List Int, (sortI ns).Perm ns
  | [] => .refl _
  | x :: xs => (insI_perm x _).trans ((sortI_perm xs).cons x)
theorem insI_sorted (x : Int) : ∀ ys : List Int, ys.Pairwise (· ≤ ·) → (insI x ys).Pairwise (· ≤ ·)
  | [], _ => List.pairwise_singleton _ _
  | y :: ys, h => by
    have h' := List.pairwise_cons.mp h
    unfold insI
    split
    · rename_i hl
      refine List.pairwise_cons.mpr ⟨fun z hz => ?_, h⟩
      rcases List.mem_cons.mp hz with rfl | hz
      · exact hl
      · exact Int.le_trans hl (h'.1 z hz)
    · rename_i hl
      refine List.pairwise_cons.mpr ⟨fun z hz => ?_, insI_sorted x ys h'.2⟩
      rcases List.mem_cons.mp ((insI_perm x ys).mem_iff.mp hz) with rfl | hz
      · omega
      · exact h'.1 z hz
theorem sortI_sorted : ∀ ns : List Int, (sortI ns).Pairwise (· ≤ ·)
  | [] => .nil
  | x :: xs => insI_sorted x _ (sortI_sorted xs)

section
variable {X : Cx} {F : Fm}
def call1Of (x : Str) : Option (Op1 × Value) :=
  if x = "len" then some (.len, .builtin "len") else if x = "abs" then some (.abs, .builtin "abs") else if x = "int" then some (.int, .type "int")
  else if x = "str" then some (.str, .type "str") else if x = "bool" then some (.bool, .type "bool") else if x = "tuple" then some (.tuple, .type "tuple")
  else if x = "list" then some (.list, .type "list") else if x = "sorted" then some (.sorted, .builtin "sorted") else if x = "sum" then some (.sum, .builtin "sum")
  else if x = "max" then some (.max, .builtin "max") else if x = "min" then some (.min, .builtin "min")
  else if x = "all" then some (.all, .builtin "all") else if x = "any" then some (.any, .builtin "any") else none

theorem foldl_max : ∀ (ns : List Int) (n : Int), (ns.foldl max n) ∈ n :: ns ∧ ∀ y ∈ n :: ns, y ≤ ns.foldl max n
  | [], n => ⟨by simp, by simp⟩
  | m :: ns, n => by
    have ⟨h1, h2⟩ := foldl_max ns (max n m)
    have h3 := h2 _ List.mem_cons_self
    refine ⟨?_, fun y hy => ?_⟩
    · rcases List.mem_cons.mp h1 with e | e
      · show List.foldl max (max n m) ns ∈ _
        rw [e]
        rcases Int.le_total n m with h | h
        · rw [Int.max_eq_right h]; simp
        · rw [Int.max_eq_left h]; simp
      · exact List.mem_cons_of_mem _ (List.mem_cons_of_mem _ e)
    · show y ≤ List.foldl max (max n m) ns
      rcases List.mem_cons.mp hy with rfl | hy
      · omega
      · rcases List.mem_cons.mp hy with rfl | hy
        · omega
        · exact h2 y (List.mem_cons_of_mem _ hy)
theorem foldl_min : ∀ (ns : List Int) (n : Int), (ns.foldl min n) ∈ n :: ns ∧ ∀ y ∈ n :: ns, ns.foldl min n ≤ y
  | [], n => ⟨by simp, by simp⟩
  | m :: ns, n => by
    have ⟨h1, h2⟩ := foldl_min ns (min n m)
    have h3 := h2 _ List.mem_cons_self
    refine ⟨?_, fun y hy => ?_⟩
    · rcases List.mem_cons.mp h1 with e | e
      · show List.foldl min (min n m) ns ∈ _
        rw [e]
        rcases Int.le_total n m with h | h
        · rw [Int.min_eq_left h]; simp
        · rw [Int.min_eq_right h]; simp
      · exact List.mem_cons_of_mem _ (List.mem_cons_of_mem _ e)
    · show List.foldl min (min n m) ns ≤ y
      rcases List.mem_cons.mp hy with rfl | hy
      · omega
      · rcases List.mem_cons.mp hy with rfl | hy
        · omega
        · exact h2 y (List.mem_cons_of_mem _ hy)
theorem call1_ok (hK : X.K = F.K) (hc : X.calm = true) {x : Str} {o : Op1} {f : Value} (h : call1Of x = some (o, f)) :
    (∃ id, f = .builtin id ∨ f = .type id) ∧ bootBuiltins x = some f ∧ x ≠ "__name__" ∧ (x == ("__debug__" : Str)) = false ∧ ∃ r, CallR X f r ∧ Does1 F (fun v H Q => r [v] H Q) o := by
  unfold call1Of at h
  by_cases e : x = ("len" : Str)
  · rw [if_pos e] at h; cases h; subst e
    refine ⟨⟨_, .inl rfl⟩, PySem.boot_len, by decide, by decide, _, CallR.or call_len_seq call_len_str, fun σ ρ H Z x d res Q f he hx q => ?_⟩
    simp only [op1] at he
    split at he
    · split at he
      · rename_i s hz; cases he; rw [hx.str]; exact .inr ⟨_, rfl, line_eq ▸ hz, q _ _ _ (Post.same f (.int _))⟩
      · cases he
    · cases he
      obtain ⟨a, xs, rfl, h1, r1⟩ := hx.lst
      refine .inl ⟨a, xs, rfl, .inl (.of h1), ?_⟩
      rw [r1.len]
      exact q _ _ _ (Post.same f (.int _))
    · cases he
      obtain ⟨a, xs, rfl, h1, r1⟩ := hx.tup
      refine .inl ⟨a, xs, rfl, .inr (hK ▸ h1), ?_⟩
      rw [r1.len]
      exact q _ _ _ (Post.same f (.int _))
    · cases he
  rw [if_neg e] at h
  by_cases e : x = ("abs" : Str)
  · rw [if_pos e] at h; cases h; subst e
    refine ⟨⟨_, .inl rfl⟩, by decide +kernel, by decide, by decide, _, call_abs, fun σ ρ H Z x d res Q f he hx q => ?_⟩
    simp only [op1] at he
    split at he
    · cases he; rw [hx.int]; exact ⟨_, rfl, q _ _ _ (Post.same f (.int _))⟩
    · cases he
  rw [if_neg e] at h
  by_cases e : x = ("int" : Str)
  · rw [if_pos e] at h; cases h; subst e
    refine ⟨⟨_, .inr rfl⟩, by decide +kernel, by decide, by decide, _, call_int1, fun σ ρ H Z x d res Q f he hx q => ?_⟩
    simp only [op1] at he
    split at he
    · cases he; rw [hx.int]; exact .inl ⟨_, rfl, q _ _ _ (Post.same f (.int _))⟩
    · cases he; rw [hx.bl]; exact .inr ⟨_, rfl, q _ _ _ (Post.same f (.int _))⟩
    · cases he
  rw [if_neg e] at h
  by_cases e : x = ("str" : Str)
  · rw [if_pos e] at h; cases h; subst e
    refine ⟨⟨_, .inr rfl⟩, by decide +kernel, by decide, by decide, _, call_str_int, fun σ ρ H Z x d res Q f he hx q => ?_⟩
    simp only [op1] at he
    split at he
    · split at he
      · rename_i hz; cases he; rw [hx.int]; exact ⟨_, rfl, hz, q _ _ _ (Post.same f (.str _))⟩
      · cases he
    · cases he
  rw [if_neg e] at h
  by_cases e : x = ("bool" : Str)
  · rw [if_pos e] at h; cases h; subst e
    refine ⟨⟨_, .inr rfl⟩, by decide +kernel, by decide, by decide, _, call_bool1, fun σ ρ H Z x d res Q f he hx q => ?_⟩
    simp only [op1] at he
    split at he
    · cases he; rw [hx.bl]; exact .inr ⟨_, rfl, q _ _ _ (Post.same f (.bl _))⟩
    · cases he; rw [hx.int]; exact .inl ⟨_, rfl, q _ _ _ (Post.same f (.bl _))⟩
    · cases he
  rw [if_neg e] at h
  by_cases e : x = ("tuple" : Str)
  · rw [if_pos e] at h; cases h; subst e
    refine ⟨⟨_, .inr rfl⟩, by decide +kernel, by decide, by decide, _, call_tuple_of, fun σ ρ H Z x d res Q f he hx q => ?_⟩
    simp only [op1] at he
    split at he
    · cases he
      obtain ⟨a, xs, rfl, h1, r1⟩ := hx.lst
      exact ⟨a, xs, rfl, .inl ⟨.of h1, fun l hl => q _ _ _ (Post.newT f hl r1)⟩⟩
    · cases he
      obtain ⟨a, xs, rfl, h1, r1⟩ := hx.tup
      exact ⟨a, xs, rfl, .inr ⟨hK ▸ h1, q _ _ _ (Post.same f (.tup h1 r1))⟩⟩
    · cases he
  rw [if_neg e] at h
  by_cases e : x = ("list" : Str)
  · rw [if_pos e] at h; cases h; subst e
    refine ⟨⟨_, .inr rfl⟩, by decide +kernel, by decide, by decide, _, call_list_of, fun σ ρ H Z x d res Q f he hx q => ?_⟩
    simp only [op1] at he
    split at he
    · cases he
      obtain ⟨a, xs, rfl, h1, r1⟩ := hx.lst
      exact ⟨a, xs, rfl, .inl (.of h1), fun l hl => q _ _ _ (Post.newL f hl r1)⟩
    · cases he
      obtain ⟨a, xs, rfl, h1, r1⟩ := hx.tup
      exact ⟨a, xs, rfl, .inr (hK ▸ h1), fun l hl => q _ _ _ (Post.newL f hl r1)⟩
    · cases he
      obtain ⟨a, rfl, h1⟩ := hx.scr
      exact ⟨a, _, rfl, .inl (hK ▸ h1), fun l hl => q _ _ _ (Post.newL f hl (RepA.ofInts _))⟩
    · cases he
  rw [if_neg e] at h
  by_cases e : x = ("sorted" : Str)
  · rw [if_pos e] at h; cases h; subst e
    refine ⟨⟨_, .inl rfl⟩, by decide +kernel, by decide, by decide, _, CallR.or cr_sortedI (CallR.or cr_sortedTI cr_sortedR), fun σ ρ H Z x d res Q f he hx q => ?_⟩
    have fin : ∀ {xs ys : List G.D} {vs : List V} {a : Addr}, sortD xs = some ys → (SqL X.K H a vs ∨ SqT X.K H a vs) → RepA F.K H Z vs xs → res = (.lst ys, true) → (rSortedI X.K [.ref a] H Q ∨ rSortedTI X.K [.ref a] H Q ∨ rSortedR X.K [.ref a] H Q) := fun {xs ys vs a} hs h1 r1 e => by
      subst e
      unfold sortD at hs
      split at hs
      · rename_i ns hn
        cases hs
        rw [r1.ints hn] at h1
        have go : ∀ (ns' : List Int) (p : Addr), ns'.Perm ns → ns'.Pairwise (· ≤ ·) → H p = none → Q (.ref p) (upd H p (.lst (ns'.map V.int))) := fun ns' p hp hs' hpn => by
          obtain rfl := sorted_uniq (hp.trans (sortI_perm ns).symm) hs' (sortI_sorted ns)
          exact q _ _ _ (Post.newL f hpn (RepA.ofInts _))
        rcases h1 with h1 | h1
        · exact .inl ⟨a, ns, rfl, h1, go⟩
        · exact .inr (.inl ⟨a, ns, rfl, h1, go⟩)
      · split at hs
        · rename_i rs hrs
          split at hs
          case isFalse => cases hs
          rename_i hall
          cases hs
          obtain ⟨k1, k2, k3⟩ := r1.rows hrs
          refine .inr (.inr ⟨a, vs.zip rs, rfl, by rw [k1]; exact h1, fun p hp => ?_, fun L' p hp hs' hpn => ?_⟩)
          · obtain ⟨t, e, ht⟩ := k3 p hp
            refine ⟨t, e, hK ▸ ht, fun h0 => ?_⟩
            have hm : p.2 ∈ rs := by rw [← k2]; exact List.mem_map.mpr ⟨p, hp, rfl⟩
            have := List.all_eq_true.mp hall p.2 hm
            rw [h0] at this
            cases this
          · have hp2 : (L'.map Prod.snd).Perm rs := by
              have := hp.map Prod.snd
              rw [k2] at this
              exact this
            have hs2 : (L'.map Prod.snd).Pairwise fun x y => G.lexLt y x = false := List.pairwise_map.mpr (hs'.imp fun h => by rw [← lexLt_eq]; exact h)
            have e := sortR_uniq (hp2.trans (sortR_perm rs).symm) hs2 (sortR_sorted rs)
            have rr : RepA F.K H Z (L'.map Prod.fst) ((L'.map Prod.snd).map fun r => D.tup (r.map D.int)) := RepA.ofRows fun p hp' => k3 p (hp.mem_iff.mp hp')
            rw [e] at rr
            exact q _ _ _ (Post.newL f hpn rr)
        · cases hs
    simp only [op1] at he
    split at he
    · split at he
      · rename_i xs ys hs
        cases he
        obtain ⟨a, vs, rfl, h1, r1⟩ := hx.lst
        exact fin hs (.inl (.of h1)) r1 rfl
      · cases he
    · split at he
      · rename_i xs ys hs
        cases he
        obtain ⟨a, vs, rfl, h1, r1⟩ := hx.tup
        exact fin hs (.inr (hK ▸ h1)) r1 rfl
      · cases he
    · cases he
  rw [if_neg e] at h
  by_cases e : x = ("sum" : Str)
  · rw [if_pos e] at h; cases h; subst e
    refine ⟨⟨_, .inl rfl⟩, by decide +kernel, by decide, by decide, _, CallR.or (cr_sum hc) (cr_sumT hc), fun σ ρ H Z x d res Q f he hx q => ?_⟩
    simp only [op1] at he
    split at he
    · split at he
      · rename_i ns hn
        cases he
        obtain ⟨a, vs, rfl, h1, r1⟩ := hx.lst
        rw [r1.ints hn] at h1
        exact .inl ⟨a, ns, rfl, .of h1, q _ _ _ (Post.same f (.int _))⟩
      · cases he
    · split at he
      · rename_i ns hn
        cases he
        obtain ⟨a, vs, rfl, h1, r1⟩ := hx.tup
        rw [r1.ints hn] at h1
        exact .inr ⟨a, ns, rfl, hK ▸ h1, q _ _ _ (Post.same f (.int _))⟩
      · cases he
    · cases he
  rw [if_neg e] at h
  by_cases e : x = ("max" : Str)
  · rw [if_pos e] at h; cases h; subst e
    refine ⟨⟨_, .inl rfl⟩, by decide +kernel, by decide, by decide, _, CallR.or (cr_max hc) (cr_maxT hc), fun σ ρ H Z x d res Q f he hx q => ?_⟩
    simp only [op1] at he
    split at he
    · unfold foldI at he
      split at he
      · rename_i n ns hn
        cases he
        obtain ⟨a, vs, rfl, h1, r1⟩ := hx.lst
        rw [r1.ints hn] at h1
        refine .inl ⟨a, _, rfl, .of h1, by simp, fun m hm hle => ?_⟩
        have ⟨k1, k2⟩ := foldl_max ns n
        obtain rfl : m = ns.foldl max n := Int.le_antisymm (k2 m hm) (hle _ k1)
        exact q _ _ _ (Post.same f (.int _))
      · cases he
    · unfold foldI at he
      split at he
      · rename_i n ns hn
        cases he
        obtain ⟨a, vs, rfl, h1, r1⟩ := hx.tup
        rw [r1.ints hn] at h1
        refine .inr ⟨a, _, rfl, hK ▸ h1, by simp, fun m hm hle => ?_⟩
        have ⟨k1, k2⟩ := foldl_max ns n
        obtain rfl : m = ns.foldl max n := Int.le_antisymm (k2 m hm) (hle _ k1)
        exact q _ _ _ (Post.same f (.int _))
      · cases he
    · cases he
  rw [if_neg e] at h
  by_cases e : x = ("min" : Str)
  · rw [if_pos e] at h; cases h; subst e
    refine ⟨⟨_, .inl rfl⟩, by decide +kernel, by decide, by decide, _, CallR.or (cr_min hc) (cr_minT hc), fun σ ρ H Z x d res Q f he hx q => ?_⟩
    simp only [op1] at he
    split at he
    · unfold foldI at he
      split at he
      · rename_i n ns hn
        cases he
        obtain ⟨a, vs, rfl, h1, r1⟩ := hx.lst
        rw [r1.ints hn] at h1
        refine .inl ⟨a, _, rfl, .of h1, by simp, fun m hm hle => ?_⟩
        have ⟨k1, k2⟩ := foldl_min ns n
        obtain rfl : m = ns.foldl min n := Int.le_antisymm (hle _ k1) (k2 m hm)
        exact q _ _ _ (Post.same f (.int _))
      · cases he
    · unfold foldI at he
      split at he
      · rename_i n ns hn
        cases he
        obtain ⟨a, vs, rfl, h1, r1⟩ := hx.tup
        rw [r1.ints hn] at h1
        refine .inr ⟨a, _, rfl, hK ▸ h1, by simp, fun m hm hle => ?_⟩
        have ⟨k1, k2⟩ := foldl_min ns n
        obtain rfl : m = ns.foldl min n := Int.le_antisymm (hle _ k1) (k2 m hm)
        exact q _ _ _ (Post.same f (.int _))
      · cases he
    · cases he
  rw [if_neg e] at h
  by_cases e : x = ("all" : Str)
  · rw [if_pos e] at h; cases h; subst e
    refine ⟨⟨_, .inl rfl⟩, by decide +kernel, by decide, by decide, _, cr_all hc, fun σ ρ H Z x d res Q f he hx q => ?_⟩
    simp only [op1] at he
    split at he
    · split at he
      · rename_i bs hn
        cases he
        obtain ⟨a, vs, rfl, h1, r1⟩ := hx.lst
        rw [r1.bls hn] at h1
        exact ⟨a, _, rfl, .of h1, q _ _ _ (Post.same f (.bl _))⟩
      · cases he
    · cases he
  rw [if_neg e] at h
  by_cases e : x = ("any" : Str)
  · rw [if_pos e] at h; cases h; subst e
    refine ⟨⟨_, .inl rfl⟩, by decide +kernel, by decide, by decide, _, cr_any hc, fun σ ρ H Z x d res Q f he hx q => ?_⟩
    simp only [op1] at he
    split at he
    · split at he
      · rename_i bs hn
        cases he
        obtain ⟨a, vs, rfl, h1, r1⟩ := hx.lst
        rw [r1.bls hn] at h1
        exact ⟨a, _, rfl, .of h1, q _ _ _ (Post.same f (.bl _))⟩
      · cases he
    · cases he
  rw [if_neg e] at h
  cases h
end
end G
end

section
set_option maxHeartbeats 2000000
namespace G
open PySem PySem.Spec PyProof.Rows L2

/-! ### from the text to the language -/
/-- a def's names by slot, the defs of the text (number, by reference, how many arguments), its constants -/
structure Nm where
  N : List Str
  fns : List (Str × Nat × Bool × Nat)
  consts : List (Str × D)
def bltNames : List Str := ["len", "abs", "int", "str", "bool", "tuple", "list", "sorted", "sum", "max", "min", "all", "any", "range", "zip", "enumerate", "isinstance"]
def visible : Option NameKind → Bool
  | some .local | some .cell | some .free => true
  | _ => false
def ownKind : Option NameKind → Bool
  | some .local | some .cell => true
  | _ => false
def isGlob : Option NameKind → Bool
  | some .globalImplicit => true
  | _ => false
def okName (x : Str) : Bool := decide (x ≠ "__debug__") && decide (x ≠ "__classdict__")
def ixOf (N : List Str) (x : Str) : Option Nat := let i := N.idxOf x; if i < N.length then some i else none
theorem ixOf_get {N : List Str} {x : Str} {i : Nat} (h : ixOf N x = some i) : N[i]? = some x := by
  unfold ixOf at h
  simp only at h
  split at h
  · rename_i hl
    cases h
    rw [List.getElem?_eq_getElem hl, List.getElem_idxOf]
  · cases h
def blksOwn (N : List Str) (scope : Scope) : List (Str × Nat) := scope.names.filterMap fun y => if ownKind (some y.2) then (ixOf N y.1).map fun i => (y.1, i) else none

def xC : Const → Option D
  | .none => some .non
  | .bool b => some (.bl b)
  | .int i => some (.int i)
  | .str s => some (.str s)
  | _ => none
def ordOf : CmpOp → Bool
  | .Lt | .LtE | .Gt | .GtE => true
  | _ => false
def isArg (x : Str) : Bool := decide (x = "int") || decide (x = "bool") || decide (x = "str") || decide (x = "tuple") || decide (x = "list")
def tyOf (x : Str) : Option Nat := if x = "int" then some 0 else if x = "bool" then some 1 else if x = "str" then some 2 else if x = "tuple" then some 3 else if x = "list" then some 4 else none

section
variable (C : Nm)
mutual
def xE (sc : Scope) : Nat → Expr → Option E
  | 0, _ => none
  | n + 1, e => match e with
    | .Constant c _ _ => (xC c).map .c
    | .Name x _ => if okName x then (if visible (sc.names.lookup x) then (ixOf C.N x).map .v else if isGlob (sc.names.lookup x) then (C.consts.lookup x).map .c else none) else none
    | .Tuple es _ _ => if es.length ≤ 1000 then (xEs sc n es).map .tup else none
    | .List es _ => if es.length ≤ 1000 then (xEs sc n es).map .lst else none
    | .BinOp a op b _ => do some (.op2 (← binOf op) (← xE sc n a) (← xE sc n b))
    | .UnaryOp .USub a _ => (xE sc n a).map (.op1 .neg)
    | .UnaryOp .Not a _ => (xE sc n a).map .not
    | .BoolOp op (a :: b :: r) _ => xB sc op n (a :: b :: r)
    | .IfExp t a b _ => do some (.ifx (← xT sc n t) (← xE sc n a) (← xE sc n b))
    | .Compare a [.Is] [.Constant .none _ _] _ => (xE sc n a).map (.op1 .isNone)
    | .Compare a [.IsNot] [.Constant .none _ _] _ => (xE sc n a).map (.op1 .notNone)
    | .Compare a [.Is] [.Constant (.bool b) _ _] _ => (xE sc n a).map (.op1 (.isB b))
    | .Compare a [.IsNot] [.Constant (.bool b) _ _] _ => (xE sc n a).map (.op1 (.notB b))
    | .Compare a [o] [b] _ => do some (.op2 (← cmpOf o) (← xE sc n a) (← xE sc n b))
    | .Compare a [o, p] [b, c] _ => if ordOf o && ordOf p then do some (.chain (← cmpOf o) (← cmpOf p) (← xE sc n a) (← xE sc n b) (← xE sc n c)) else none
    | .Compare a [o, p, q] [b, c, d] _ => if ordOf o && ordOf p && ordOf q then do some (.chain3 (← cmpOf o) (← cmpOf p) (← cmpOf q) (← xE sc n a) (← xE sc n b) (← xE sc n c) (← xE sc n d)) else none
    | .Subscript a (.Slice (some l) none none _) _ => do some (.from (← xE sc n a) (← xE sc n l))
    | .Subscript a (.Slice none (some h) none _) _ => do some (.to (← xE sc n a) (← xE sc n h))
    | .Subscript a (.Slice (some l) (some h) none _) _ => do some (.cut (← xE sc n a) (← xE sc n l) (← xE sc n h))
    | .Subscript a (.Slice none none (some (.UnaryOp .USub (.Constant (.int 1) _ _) _)) _) _ => (xE sc n a).map (.op1 .rev)
    | .Subscript a i _ => do some (.op2 .idx (← xE sc n a) (← xE sc n i))
    | .ListComp elt [⟨tg, it, ifs, 0⟩] scope _ => if L2.blkC C.N sc scope (blksOwn C.N scope) then do
        let p ← xP scope n tg
        if p.slots.all (fun i => ((blksOwn C.N scope).map (·.2)).contains i) then
          some (.comp ((blksOwn C.N scope).map (·.2)) (← xE (relS scope sc) n elt) p (← xI sc n tg it) (← xFs (relS scope sc) n ifs) []) else none else none
    | .Call (.Name x _) es [] _ => if okName x && isGlob (sc.names.lookup x) then (match C.fns.lookup x with
        | some (f, false, m) => if es.length = m then (xEs sc n es).map (.call f) else none
        | some (f, true, m) => (match es with
          | .Name y _ :: r => if okName y && visible (sc.names.lookup y) && decide (r.length + 1 = m) then do some (.callr f (← ixOf C.N y) (← xEs sc n r)) else none
          | _ => none)
        | none => if !(bltNames.contains x) then none else (match es with
          | [a] => (call1Of x).bind fun o => (xE sc n a).map (.op1 o.1)
          | [a, b] => if x = "min" then do some (.op2 .min (← xE sc n a) (← xE sc n b)) else if x = "max" then do some (.op2 .max (← xE sc n a) (← xE sc n b))
            else if x = "isinstance" then (match b with
              | .Name y _ => if okName y && isGlob (sc.names.lookup y) && (C.fns.lookup y).isNone then do some (.op1 (.isTy (← tyOf y)) (← xE sc n a)) else none
              | _ => none) else none
          | _ => none)) else none
    | .Call (.Attribute (.Name x _) m ap) es [] cp => if decide (m = "pop") && okName x && visible (sc.names.lookup x) && (ap.endLine == cp.line) then (match es with
        | [] => (ixOf C.N x).map .pop
        | [a] => do some (.popAt (← ixOf C.N x) (← xE sc n a))
        | _ => none) else none
    | _ => none
def xB (sc : Scope) (op : PySem.BoolOp) : Nat → List Expr → Option E
  | 0, _ => none
  | _ + 1, [] => none
  | n + 1, [a] => xE sc n a
  | n + 1, a :: b :: r => match op with
    | .And => do some (.and (← xE sc n a) (← xB sc op n (b :: r)))
    | .Or => do some (.or (← xE sc n a) (← xB sc op n (b :: r)))
def xEs (sc : Scope) : Nat → List Expr → Option (List E)
  | 0, _ => none
  | _ + 1, [] => some []
  | n + 1, e :: es => do some ((← xE sc n e) :: (← xEs sc n es))
def xT (sc : Scope) : Nat → Expr → Option T
  | 0, _ => none
  | n + 1, e => match e with
    | .BoolOp op es _ => xBT sc op n es
    | .UnaryOp .Not a _ => (xT sc n a).map .not
    | .IfExp .. => none
    | .Compare a os bs pos => (xE sc n (.Compare a os bs pos)).map .b
    | e => (xE sc n e).map .e
def xBT (sc : Scope) (op : PySem.BoolOp) : Nat → List Expr → Option T
  | 0, _ => none
  | _ + 1, [] => none
  | n + 1, [a] => xT sc n a
  | n + 1, a :: b :: r => match op with
    | .And => do some (.and (← xT sc n a) (← xBT sc op n (b :: r)))
    | .Or => do some (.or (← xT sc n a) (← xBT sc op n (b :: r)))
def xFs (sc : Scope) : Nat → List Expr → Option (List T)
  | 0, _ => none
  | _ + 1, [] => some []
  | n + 1, [e] => (xT sc n e).map fun t => [t]
  | _ + 1, _ => none
/-- a target's names are to be in the own names of the scope sc -/
def xP (sc : Scope) : Nat → Expr → Option P
  | 0, _ => none
  | n + 1, e => match e with
    | .Name x _ => if okName x && ownKind (sc.names.lookup x) then (ixOf C.N x).map .n else none
    | .Tuple es _ _ => (xPs sc n es).map .t
    | _ => none
def xPs (sc : Scope) : Nat → List Expr → Option (List P)
  | 0, _ => none
  | _ + 1, [] => some []
  | n + 1, e :: es => do some ((← xP sc n e) :: (← xPs sc n es))
/-- what is walked: tg is the target -/
def xI (sc : Scope) : Nat → Expr → Expr → Option I
  | 0, _, _ => none
  | n + 1, tg, e => match e with
    | .Call (.Name x _) es [] _ => if okName x && isGlob (sc.names.lookup x) && (C.fns.lookup x).isNone && (decide (x = "range") || decide (x = "zip") || decide (x = "enumerate")) then
        (if x = "range" then (if 1 ≤ es.length ∧ es.length ≤ 2 then (xEs sc n es).map .range else none)
        else match tg with
        | .Tuple .. => if x = "zip" then (if es.length = 2 then (xEs sc n es).map .zip else none) else (match es with
          | [a] => (xE sc n a).map .enum
          | _ => none)
        | _ => none) else (xE sc n e).map .e
    | e => (xE sc n e).map .e
end
end
end G
end

section
set_option maxHeartbeats 2000000
namespace G
open PySem PySem.Spec PyProof.Rows L2

/-- does y = [..] store within the comprehension -/
def swaps (sc : Scope) (value : Expr) (x : Str) (pos : Pos) : Bool := match value with
  | .ListComp _ _ s p => (match sc.names.lookup x with | some .local => true | _ => false) && (pos.line == p.line) && !(s.names.any fun (n, k) => n == x && (k == .local || k == .cell))
  | _ => false
/-- two or three plain local names on the left: stored in the other order -/
def parLine (ts : List Expr) : Nat := (ts.head?.map (·.pos.line)).getD 0
def parNames (sc : Scope) (line : Nat) (ts : List Expr) : List Str := ts.filterMap fun
    | .Name id pos => if sc.names.lookup id == some .local && pos.line == line then some id else none
    | _ => none
def parKind (sc : Scope) (ts vs : List Expr) : Option (Bool) :=
  if !(ts.length == 2 || ts.length == 3) || vs.length != ts.length then some false else
  if (parNames sc (parLine ts) ts).length != ts.length || (parNames sc (parLine ts) ts).eraseDups.length != (parNames sc (parLine ts) ts).length then some false else
  if vs.all (foldedForSure 8) then some false else
  if vs.all (constantsAlone 8) then none else some true

section
variable (C : Nm)
def namesOf (sc : Scope) : List Expr → Option (List Nat)
  | [] => some []
  | .Name x _ :: r => if okName x && ownKind (sc.names.lookup x) then do some ((← ixOf C.N x) :: (← namesOf sc r)) else none
  | _ => none
mutual
def xS (sc : Scope) (ex : List (Str × Nat)) : Nat → Stmt → Option Sm
  | 0, _ => none
  | n + 1, s => match s with
    | .Assign [.Name x p] v _ => if okName x && ownKind (sc.names.lookup x) then do some (.set (.n (← ixOf C.N x)) (← xE C sc n v)) else none
    | .Assign [.Tuple ts _ _] (.Tuple vs k p2) _ => if ts.length = vs.length ∧ ts.length ≤ 1000 then (match namesOf C sc ts with
        | some is => if is.Nodup then (match parKind sc ts vs with
          | some _ => do some (.par is (← xEs C sc n vs))
          | none => none) else none
        | none => (match parKind sc ts vs with
          | some false => do some (.set (← xP C sc n (.Tuple ts 0 p2)) (← xE C sc n (.Tuple vs k p2)))
          | _ => none)) else none
    | .Assign [.Tuple ts k p] v _ => do some (.set (← xP C sc n (.Tuple ts k p)) (← xE C sc n v))
    | .Assign [.Subscript (.Name x _) i _] v _ => if okName x && visible (sc.names.lookup x) then do some (.sub (← ixOf C.N x) (← xE C sc n i) (← xE C sc n v)) else none
    | .Expr (.Call (.Attribute (.Name x _) m ap) [a] [] cp) _ => if m = "append" then (if okName x && visible (sc.names.lookup x) && (ap.endLine == cp.line) then do some (.append (← ixOf C.N x) (← xE C sc n a)) else none) else none
    | .Expr e _ => (match e with | .ListComp .. => none | _ => (xE C sc n e).map .expr)
    | .If t a b _ => do some (.ifs (← xT C sc n t) (← xSs sc ex n a) (← xSs sc ex n b))
    | .While t b [] _ => do some (.whil (← xT C sc n t) (← xSs sc ex n b))
    | .For tg it b [] _ => do some (.forr (← xP C sc n tg) (← xI C sc n tg it) (← xSs sc ex n b))
    | .Return none _ => some .retN
    | .Return (some e) _ => (match xE C sc n e with
        | some (.v i) => some (.retV i)
        | some ir => some (.ret ir)
        | none => none)
    | .Pass _ => some .pass
    | .Break _ => some .brk
    | .Continue _ => some .ct
    | .Raise (some (.Call (.Name x _) es [] _)) none _ => do some (.rais (← ex.lookup x) (← xEs C sc n es))
    | _ => none
def xSs (sc : Scope) (ex : List (Str × Nat)) : Nat → List Stmt → Option (List Sm)
  | 0, _ => none
  | _ + 1, [] => some []
  | n + 1, s :: ss => do some ((← xS sc ex n s) :: (← xSs sc ex n ss))
end
end
/-- a def of the text as one of the language -/
def xFn (fns : List (Str × Nat × Bool × Nat)) (consts : List (Str × D)) (ex : List (Str × Nat)) (N : List Str) (byref : Bool) (ps : List Str) (st : Stmt) : Option Fn :=
  (xSs ⟨N, fns, consts⟩ (defScope st) ex 200 (defBody st)).map fun b => ⟨ps.length, N.length, byref, b⟩
end G
end

section
set_option maxHeartbeats 4000000
namespace G
open PySem PySem.Spec PyProof.Rows L2

/-! ### what a def of the text promises -/
/-- an argument: data, or a list handed by reference -/
def Arg (K : PySem.W.Frag) (H : Hp) (Z : Zs) (x : V) : S → Prop
  | .v d => Rep K H Z x d
  | .ref d => ∃ a xs ds, x = .ref a ∧ d = .lst ds ∧ H a = some (.lst xs) ∧ RepA K H Z xs ds ∧ Z a
  | _ => False
inductive Args (K : PySem.W.Frag) (H : Hp) (Z : Zs) : List V → List S → Prop
  | nil : Args K H Z [] []
  | cons {x : V} {xs : List V} {s : S} {ss : List S} : Arg K H Z x s → Args K H Z xs ss → Args K H Z (x :: xs) (s :: ss)
theorem Args.len {K : PySem.W.Frag} {H : Hp} {Z : Zs} : ∀ {xs : List V} {ss : List S}, Args K H Z xs ss → xs.length = ss.length
  | _, _, .nil => rfl
  | _, _, .cons _ t => congrArg (· + 1) t.len
theorem Args.of {K : PySem.W.Frag} {H : Hp} {Z : Zs} : ∀ {xs : List V} {ds : List D}, RepA K H Z xs ds → Args K H Z xs (ds.map S.v)
  | _, _, .nil => .nil
  | _, _, .cons r t => .cons r (Args.of t)
/-- the address handed by reference -/
def refAt (vs : List V) (as : List S) : Zs := fun b => ∃ d, as.head? = some (.ref d) ∧ vs.head? = some (.ref b)
/-- behind a call -/
structure FPost (K : PySem.W.Frag) (H : Hp) (Z : Zs) (vs : List V) (as : List S) (r : R) (b : D) (x : V) (H' : Hp) : Prop where
  keep : ∀ c o, H c = some o → ¬ refAt vs as c → H' c = some o
  mono : ∀ c, H c ≠ none → H' c ≠ none
  rep : Rep K H' Z x r.1
  own : r.2 = true → ∃ p xs ds, x = .ref p ∧ r.1 = .lst ds ∧ H' p = some (.lst xs) ∧ H p = none ∧ RepA K H' (fun c => Z c ∨ c = p) xs ds ∧
    ∀ a, refAt vs as a → ∃ ys es, b = .lst es ∧ H' a = some (.lst ys) ∧ RepA K H' (fun c => Z c ∨ c = p) ys es
  ref : ∀ a, refAt vs as a → ∃ ys es, b = .lst es ∧ H' a = some (.lst ys) ∧ RepA K H' Z ys es
def spF (K : PySem.W.Frag) (cal : Call) (f : Nat) (m : Nat) : Sp := fun vs H Q _ => ∃ (Z : Zs) (as : List S) (r : R) (b : D), (∀ c, Z c → ∃ xs, H c = some (.lst xs)) ∧ Args K H Z vs as ∧ (∀ s ∈ as.tail, ∃ d, s = .v d) ∧ as.length = m ∧ cal f as = .ok r b ∧
  ∀ x H', FPost K H Z vs as r b x H' → Q x H'

/-! ### where an expression stands -/
structure XOk (C : Nm) (F : Fm) (cal : Call) (X : Cx) (sc : Scope) : Prop where
  hN : X.N = C.N
  nd : C.N.Nodup
  hsc : X.env.scope = sc
  calm : X.calm = true
  hK : X.K = F.K
  units : X.A.units + 65 < cLine
  nox : X.xe = fun _ _ => False
  blt : ∀ x, C.fns.lookup x = none → x ∈ bltNames → X.mg x = none
  fns : ∀ x f b m, C.fns.lookup x = some (f, b, m) → ∃ a fd k ps, X.mg x = some (.ref a) ∧ PySem.W.keepIn X.K (.ref a) = true ∧ Binds X.K fd ps [] ∧ ps.length = m ∧ Room k X.A ∧ FnOk X.prog X.w X.K X.mg X.base CX0 k a fd ps (spF X.K cal f m)
  consts : ∀ x d, C.consts.lookup x = some d → ∃ u v, X.mg x = some u ∧ RelV v u ∧ ∀ H Z, Rep X.K H Z v d

section
variable {F : Fm} {σ : L2.St} {H H1 H2 H' : Hp} {Z Z1 Z2 Z' : Zs} {ρ ρ1 ρ2 ρ' : Env} {cal : Call}
theorem Post.after (g : Go F σ H Z ρ H1 Z1 ρ1) {x : V} {r : R} (p : Post F σ H1 Z1 ρ1 x r H2 Z2 ρ2) : Post F σ H Z ρ x r H2 Z2 ρ2 := by
  refine ⟨g.trans p.go, p.rep, fun e => ?_⟩
  obtain ⟨q, xs, ds, h1, h2, h3, h4, h5, h6⟩ := p.own e
  refine ⟨q, xs, ds, h1, h2, h3, ?_, h5, h6⟩
  refine Classical.byContradiction fun n => ?_
  exact g.mono q n h4
theorem Res.bind_ok {α β : Type} {m : Res α} {f : α → Env → Res β} {b : β} {ρ' : Env} (h : m.bind f = .ok b ρ') : ∃ a ρ1, m = .ok a ρ1 ∧ f a ρ1 = .ok b ρ' := by
  cases m with
  | ok a ρ1 => exact ⟨a, ρ1, rfl, h⟩
  | exc x ρ1 => cases h
  | no => cases h
theorem optR_ok {α : Type} {o : Option α} {ρ ρ' : Env} {a : α} (h : optR o ρ = .ok a ρ') : o = some a ∧ ρ' = ρ := by
  cases o with
  | some b => cases h; exact ⟨rfl, rfl⟩
  | none => cases h
theorem peek_ok (f : Fra F Z H σ ρ) {i : Nat} {d : D} (h : peekAt i ρ = some d) : ∃ v, σ[i]? = some (some v) ∧ RepO F.K H Z v d := by
  unfold peekAt at h
  split at h
  · rename_i s e
    have q := f.slot i s e
    cases s with
    | no => cases h
    | v d' => cases h; obtain ⟨x, a, b⟩ := q; exact ⟨x, a, .inl b⟩
    | own d' => cases h; obtain ⟨a, xs, ds, e1, rfl, e3, r, _, _⟩ := q; exact ⟨_, e1, .inr ⟨a, xs, ds, rfl, rfl, e3, r⟩⟩
    | ref d' => cases h; obtain ⟨a, xs, ds, e1, rfl, e3, r, _, _⟩ := q; exact ⟨_, e1, .inr ⟨a, xs, ds, rfl, rfl, e3, r⟩⟩
  · cases h
/-- an operand -/
theorem opd_go {a : E} {d : D} (f : Fra F Z H σ ρ) (h : opd a (evalE cal a) ρ = .ok d ρ1) {Q : VK} (k : ∀ v H1 Z1, Go F σ H Z ρ H1 Z1 ρ1 → RepO F.K H1 Z1 v d → Q v H1) : tO F cal a σ H Q := by
  have gen : ∀ a : E, (∀ i, a ≠ .v i) → opd a (evalE cal a) ρ = .ok d ρ1 → tE F cal a σ H Q := fun a na h => by
    have e : opd a (evalE cal a) ρ = (evalE cal a ρ).bind fun r ρ => .ok r.1 ρ := by
      unfold opd
      split
      · exact absurd rfl (na _)
      · rfl
    rw [e] at h
    obtain ⟨r, ρ2, h1, h2⟩ := Res.bind_ok h
    cases h2
    exact ⟨Z, ρ, r, ρ1, f, h1, fun x H' Z' p => k x H' Z' p.go (.inl p.rep)⟩
  unfold tO
  split
  · rename_i i
    unfold opd at h
    simp only at h
    obtain ⟨e, rfl⟩ := optR_ok h
    obtain ⟨v, e1, r⟩ := peek_ok f e
    exact ⟨v, e1, k v H Z (Go.refl f) r⟩
  · rename_i hn
    exact gen a (fun i e => hn i e) h
theorem opdM_go {β γ : Type} {a : E} {mid : Env → Res β} {M : L2.St → Hp → (γ → Hp → Prop) → Prop} {RW : Hp → Zs → γ → β → Prop} {k : D → β → Env → Res R} {r : R}
    (hM : ∀ ρ0 H0 Z0 y ρ1 (Q : γ → Hp → Prop), Fra F Z0 H0 σ ρ0 → mid ρ0 = .ok y ρ1 → (∀ w H1 Z1, Go F σ H0 Z0 ρ0 H1 Z1 ρ1 → RW H1 Z1 w y → Q w H1) → M σ H0 Q)
    (f : Fra F Z H σ ρ) (h : opdM a (evalE cal a) ρ mid k = .ok r ρ') {Q : V → γ → Hp → Prop}
    (q : ∀ d e ρ2, k d e ρ2 = .ok r ρ' → ∀ v w H2 Z2, Go F σ H Z ρ H2 Z2 ρ2 → RepO F.K H2 Z2 v d → RW H2 Z2 w e → Q v w H2) : tO F cal a σ H fun v H1 => M σ H1 fun w H2 => Q v w H2 := by
  by_cases hv : ∃ i, a = .v i
  · obtain ⟨i, rfl⟩ := hv
    unfold opdM at h
    simp only at h
    obtain ⟨d0, ρ0, h0, hh⟩ := Res.bind_ok h
    obtain ⟨h0, rfl⟩ := optR_ok h0
    obtain ⟨e, ρ2, h1, h2⟩ := Res.bind_ok hh
    obtain ⟨d, ρ3, h3, h4⟩ := Res.bind_ok h2
    obtain ⟨h5, rfl⟩ := optR_ok h3
    obtain ⟨v, hv, _⟩ := peek_ok f h0
    refine ⟨v, hv, hM _ _ _ _ _ _ f h1 fun w H2 Z2 g rw => ?_⟩
    obtain ⟨v', hv', rv⟩ := peek_ok g.fr h5
    rw [hv] at hv'
    cases hv'
    exact q d e _ h4 v w H2 Z2 g rv rw
  · have e : opdM a (evalE cal a) ρ mid k = (opd a (evalE cal a) ρ).bind fun x ρ => (mid ρ).bind fun y ρ => k x y ρ := by
      unfold opdM
      split
      · exact absurd ⟨_, rfl⟩ hv
      · rfl
    rw [e] at h
    obtain ⟨d, ρ1, h1, h2⟩ := Res.bind_ok h
    obtain ⟨e, ρ2, h3, h4⟩ := Res.bind_ok h2
    -- the left one is no name: its value is data
    have e1 : opd a (evalE cal a) ρ = (evalE cal a ρ).bind fun r ρ => .ok r.1 ρ := by
      unfold opd
      split
      · exact absurd ⟨_, rfl⟩ hv
      · rfl
    rw [e1] at h1
    obtain ⟨r1, ρ1', h5, h6⟩ := Res.bind_ok h1
    cases h6
    have e2 : tO F cal a = tE F cal a := by
      unfold tO
      split
      · exact absurd ⟨_, rfl⟩ hv
      · rfl
    rw [e2]
    exact ⟨Z, ρ, r1, ρ1, f, h5, fun v H1 Z1 p => hM _ _ _ _ _ _ p.go.fr h3 fun w H2 Z2 g rw => q _ e ρ2 h4 v w H2 Z2 (p.go.trans g) (.inl (g.rep p.rep)) rw⟩
end
end G
end

section
set_option maxHeartbeats 4000000
namespace G
open PySem PySem.Spec PyProof.Rows L2

section
variable {F : Fm} {σ : L2.St} {H H1 H2 H' : Hp} {Z Z1 Z2 Z' : Zs} {ρ ρ1 ρ2 ρ' : Env} {cal : Call}

/-- a name that is read gives its list away -/
theorem Go.freeze (f : Fra F Z H σ ρ) {i : Nat} {a : Addr} {d : D} (hs : ρ[i]? = some (.own d)) (hσ : σ[i]? = some (some (.ref a))) : Go F σ H Z ρ H (fun b => Z b ∧ b ≠ a) (ρ.set i (.v d)) ∧ Rep F.K H (fun b => Z b ∧ b ≠ a) (.ref a) d := by
  have q := f.slot i _ hs
  obtain ⟨a', xs, ds, e1, rfl, e3, r, z, z0⟩ := q
  rw [hσ] at e1
  cases e1
  have an : ∀ b, (fun b => Z b ∧ b ≠ a) b → Z b := fun b h => h.1
  have rr := r.anti an
  have rep : Rep F.K H (fun b => Z b ∧ b ≠ a) (.ref a) (.lst ds) := .lst e3 (fun h => h.2 rfl) rr
  have hi : i < ρ.length := (List.getElem?_eq_some_iff.mp hs).1
  have get : ∀ {j : Nat} {s : S}, (ρ.set i (.v (.lst ds)))[j]? = some s → (j = i ∧ s = .v (.lst ds)) ∨ (j ≠ i ∧ ρ[j]? = some s) := fun {j s} e => by
    by_cases hj : j = i
    · subst hj
      rw [List.getElem?_set_self hi] at e
      cases e
      exact .inl ⟨rfl, rfl⟩
    · rw [List.getElem?_set_ne (Ne.symm hj)] at e
      exact .inr ⟨hj, e⟩
  have fr : Fra F (fun b => Z b ∧ b ≠ a) H σ (ρ.set i (.v (.lst ds))) := by
    refine ⟨by rw [List.length_set]; exact f.len, fun b h => f.zl b h.1, fun j s e => ?_, fun j k s t b e1 e2 m1 m2 q1 q2 => ?_, fun b h => ⟨f.z0 b h, ?_⟩, f.h0, f.h0n⟩
    · rcases get e with ⟨rfl, rfl⟩ | ⟨hj, e⟩
      · exact ⟨_, hσ, rep⟩
      · have q := f.slot j s e
        cases s with
        | no => trivial
        | v d => obtain ⟨x, h1, h2⟩ := q; exact ⟨x, h1, h2.anti an⟩
        | own d =>
          obtain ⟨b, ys, es, h1, h2, h3, h4, h5, h6⟩ := q
          refine ⟨b, ys, es, h1, h2, h3, h4.anti an, ⟨h5, fun hb => ?_⟩, h6⟩
          subst hb
          exact hj (f.inj j i _ _ _ e hs rfl rfl h1 hσ)
        | ref d =>
          obtain ⟨b, ys, es, h1, h2, h3, h4, h5, h6⟩ := q
          refine ⟨b, ys, es, h1, h2, h3, h4.anti an, ⟨h5, fun hb => ?_⟩, h6⟩
          subst hb
          exact hj (f.inj j i _ _ _ e hs rfl rfl h1 hσ)
    · rcases get e1 with ⟨rfl, rfl⟩ | ⟨hj, e1⟩
      · cases m1
      · rcases get e2 with ⟨rfl, rfl⟩ | ⟨hk, e2⟩
        · cases m2
        · exact f.inj j k s t b e1 e2 m1 m2 q1 q2
    · intro hb
      subst hb
      exact F.z0n _ h z0
  refine ⟨⟨fr, ⟨fun b o e _ => e, fun b h => .inl h.1, f.wz, f.zl⟩, fun b hz hw => ⟨hz, fun hb => ?_⟩, fun b ⟨j, s, e, m, q⟩ => ?_, fun b ⟨j, s, e, m, q⟩ => ?_, fun _ h => h⟩, rep⟩
  · subst hb
    exact hw ⟨i, _, hs, rfl, hσ⟩
  · rcases get e with ⟨rfl, rfl⟩ | ⟨hj, e⟩
    · cases m
    · exact ⟨j, s, e, m, q⟩
  · rcases get e with ⟨rfl, rfl⟩ | ⟨hj, e⟩
    · cases m
    · exact ⟨j, s, e, m, q⟩
theorem read_go {i : Nat} (f : Fra F Z H σ ρ) {d : D} (h : readAt i ρ = .ok d ρ') : ∃ x Z', σ[i]? = some (some x) ∧ Post F σ H Z ρ x (d, false) H Z' ρ' := by
  unfold readAt at h
  split at h
  · rename_i d' e
    cases h
    obtain ⟨x, e1, r⟩ := f.slot i _ e
    exact ⟨x, Z, e1, Post.same f r⟩
  · rename_i d' e
    cases h
    obtain ⟨a, xs, ds, e1, rfl, _⟩ := id (f.slot i _ e)
    obtain ⟨g, r⟩ := Go.freeze f e e1
    exact ⟨_, _, e1, g, r, fun e => nomatch e⟩
  · cases h
end

/-! ### expressions -/
structure SndE (C : Nm) (F : Fm) (cal : Call) (n : Nat) : Prop where
  e : ∀ (X : Cx) (sc : Scope) (ex : Expr) (ir : E), XOk C F cal X sc → xE C sc n ex = some ir → okE ex = true ∧ PE X ex (tE F cal ir) ∧ PE X ex (tO F cal ir)
  b : ∀ (X : Cx) (sc : Scope) (op : PySem.BoolOp) (es : List Expr) (pos : Pos) (ir : E), XOk C F cal X sc → xB C sc op n es = some ir → PE X (.BoolOp op es pos) (tE F cal ir)
  es : ∀ (X : Cx) (sc : Scope) (es : List Expr) (irs : List E), XOk C F cal X sc → xEs C sc n es = some irs → (∀ e ∈ es, okE e = true) ∧ PA X es (tEs F cal irs) ∧ irs.length = es.length
  t : ∀ (X : Cx) (sc : Scope) (ex : Expr) (ir : T), XOk C F cal X sc → xT C sc n ex = some ir → PT X ex (tT F cal ir)
  bt : ∀ (X : Cx) (sc : Scope) (op : PySem.BoolOp) (es : List Expr) (pos : Pos) (ir : T), XOk C F cal X sc → xBT C sc op n es = some ir → PW X (.BoolOp op es pos) (tT F cal ir)
  fs : ∀ (X : Cx) (sc : Scope) (es : List Expr) (irs : List T), XOk C F cal X sc → xFs C sc n es = some irs → PTs X es (fun σ H Q => ∃ Z ρ b ρ', Fra F Z H σ ρ ∧ evalFs cal irs ρ = .ok b ρ' ∧ ∀ H' Z', Go F σ H Z ρ H' Z' ρ' → Q b H')

section
variable {C : Nm} {F : Fm} {cal : Call} {X : Cx} {sc : Scope}
theorem XOk.vis (hx : XOk C F cal X sc) {x : Str} (h : visible (sc.names.lookup x) = true) : Vis X.env.scope x := by
  rw [hx.hsc]
  unfold visible at h
  split at h
  · rename_i e; exact .inl e
  · rename_i e; exact .inr (.inl e)
  · rename_i e; exact .inr (.inr e)
  · cases h
theorem XOk.gl (hx : XOk C F cal X sc) {x : Str} (h : isGlob (sc.names.lookup x) = true) : Gl X x := by
  show X.env.scope.names.lookup x = some .globalImplicit
  rw [hx.hsc]
  unfold isGlob at h
  split at h
  · assumption
  · cases h
theorem okName_d {x : Str} (h : okName x = true) : (x == ("__debug__" : Str)) = false := by
  unfold okName at h
  simp only [Bool.and_eq_true, decide_eq_true_eq] at h
  exact beq_eq_false_iff_ne.mpr h.1
theorem okName_c {x : Str} (h : okName x = true) : (x == ("__classdict__" : Str)) = false := by
  unfold okName at h
  simp only [Bool.and_eq_true, decide_eq_true_eq] at h
  exact beq_eq_false_iff_ne.mpr h.2
/-- a name of the def -/
theorem XOk.name (hx : XOk C F cal X sc) {x : Str} {i : Nat} {pos : Pos} (ho : okName x = true) (hv : visible (sc.names.lookup x) = true) (hi : ixOf C.N x = some i) : PE X (.Name x pos) (tVar i) :=
  pe_var (by rw [hx.hN]; exact ixOf_get hi) (hx.vis hv) (okName_d ho) (okName_c ho)
theorem tE_v {i : Nat} : ∀ σ H Q, tE F cal (.v i) σ H Q → tVar i σ H Q := fun σ H Q h => by
  obtain ⟨Z, ρ, r, ρ', f, e, q⟩ := h
  simp only [evalE] at e
  obtain ⟨d, ρ1, e1, e2⟩ := Res.bind_ok e
  cases e2
  obtain ⟨x, Z', hx, p⟩ := read_go f e1
  exact ⟨x, hx, q x H Z' p⟩
theorem rep_c {d : D} {c : Const} (h : xC c = some d) {j : Nat} {pos : Pos} : PE X (.Constant c j pos) (tE F cal (.c d)) := by
  cases c <;> simp only [xC, Option.some.injEq, reduceCtorEq] at h <;> subst h
  · exact pe_non.imp fun σ H Q ⟨Z, ρ, r, ρ', f, e, q⟩ => by
      simp only [evalE] at e; cases e; exact q _ _ _ (Post.same f .non)
  · exact pe_bl.imp fun σ H Q ⟨Z, ρ, r, ρ', f, e, q⟩ => by
      simp only [evalE] at e; cases e; exact q _ _ _ (Post.same f (.bl _))
  · exact pe_int.imp fun σ H Q ⟨Z, ρ, r, ρ', f, e, q⟩ => by
      simp only [evalE] at e; cases e; exact q _ _ _ (Post.same f (.int _))
  · exact pe_str.imp fun σ H Q ⟨Z, ρ, r, ρ', f, e, q⟩ => by
      simp only [evalE] at e; cases e; exact q _ _ _ (Post.same f (.str _))
theorem evalEs_len : ∀ {es : List E} {ρ ρ' : Env} {ds : List D}, evalEs cal es ρ = .ok ds ρ' → ds.length = es.length
  | [], _, _, _, h => by simp only [evalEs] at h; cases h; rfl
  | e :: es, ρ, ρ', ds, h => by
    simp only [evalEs] at h
    obtain ⟨r, ρ1, _, h⟩ := Res.bind_ok h
    obtain ⟨ds', ρ2, h2, h⟩ := Res.bind_ok h
    cases h
    rw [List.length_cons, evalEs_len h2]; rfl
/-- a tuple, a list -/
theorem snd_tup {es : List Expr} {irs : List E} {j : Nat} {pos : Pos} (h : PA X es (tEs F cal irs)) (hl : irs.length ≤ 1000) : PE X (.Tuple es j pos) (tE F cal (.tup irs)) := by
  refine (pe_tup h).imp fun σ H Q ⟨Z, ρ, r, ρ', f, e, q⟩ => ?_
  simp only [evalE] at e
  obtain ⟨ds, ρ1, e1, e2⟩ := Res.bind_ok e
  cases e2
  refine ⟨Z, ρ, ds, _, f, e1, fun xs H' Z' g r => ⟨?_, fun p hp => q _ _ _ ((Post.newT g.fr hp r).after g)⟩⟩
  rw [r.len, evalEs_len e1, sizeLine_eq]; omega
theorem snd_lst {es : List Expr} {irs : List E} {pos : Pos} (h : PA X es (tEs F cal irs)) (hl : irs.length ≤ 1000) : PE X (.List es pos) (tE F cal (.lst irs)) := by
  refine (pe_lst h).imp fun σ H Q ⟨Z, ρ, r, ρ', f, e, q⟩ => ?_
  simp only [evalE] at e
  obtain ⟨ds, ρ1, e1, e2⟩ := Res.bind_ok e
  cases e2
  refine ⟨Z, ρ, ds, _, f, e1, fun xs H' Z' g r => ⟨?_, fun p hp => q _ _ _ ((Post.newL g.fr hp r).after g)⟩⟩
  rw [r.len, evalEs_len e1, sizeLine_eq]; omega
theorem snd_nil : PA X [] (tEs F cal []) := pa_nil.imp fun σ H Q ⟨Z, ρ, ds, ρ', f, e, q⟩ => by
  simp only [evalEs] at e; cases e; exact q _ _ _ (Go.refl f) .nil
theorem snd_cons {e : Expr} {es : List Expr} {ir : E} {irs : List E} (ok : okE e = true) (h : PE X e (tE F cal ir)) (hs : PA X es (tEs F cal irs)) : PA X (e :: es) (tEs F cal (ir :: irs)) := by
  refine (pa_cons h hs (okE.star ok)).imp fun σ H Q ⟨Z, ρ, ds, ρ', f, e, q⟩ => ?_
  simp only [evalEs] at e
  obtain ⟨r, ρ1, e1, e⟩ := Res.bind_ok e
  obtain ⟨ds', ρ2, e2, e⟩ := Res.bind_ok e
  cases e
  exact ⟨Z, ρ, r, ρ1, f, e1, fun x H1 Z1 p => ⟨Z1, ρ1, ds', _, p.go.fr, e2, fun xs H2 Z2 g rs => q _ _ _ (p.go.trans g) (.cons (g.rep p.rep) rs)⟩⟩
/-- an operator of two -/
theorem does2 {o : Op2} {r : R2} (hd : Does2 F r o) {a b : E} : ∀ σ H Q, tE F cal (.op2 o a b) σ H Q → tOp r (tO F cal a) (tO F cal b) σ H Q := fun σ H Q ⟨Z, ρ, res, ρ', f, e, q⟩ => by
  simp only [evalE] at e
  refine opdM_go (M := tO F cal b) (RW := fun H Z w y => RepO F.K H Z w y) (fun ρ0 H0 Z0 y ρ1 Q f0 h0 k0 => opd_go f0 h0 k0) f e (Q := fun v w H2 => r v w H2 Q) fun d e' ρ2 hk v w H2 Z2 g rv rw => ?_
  obtain ⟨h1, rfl⟩ := optR_ok hk
  exact hd σ _ H2 Z2 v w d e' res Q g.fr h1 rv rw fun x' H' Z' p => q x' H' Z' (p.after g)
theorem does1 {o : Op1} {r : V → Hp → VK → Prop} (hd : Does1 F r o) {a : E} : ∀ σ H Q, tE F cal (.op1 o a) σ H Q → tUn r (tO F cal a) σ H Q := fun σ H Q ⟨Z, ρ, res, ρ', f, e, q⟩ => by
  simp only [evalE] at e
  obtain ⟨d, ρ1, e1, e2⟩ := Res.bind_ok e
  obtain ⟨h1, rfl⟩ := optR_ok e2
  exact opd_go f e1 fun v H1 Z1 g rv => hd σ _ H1 Z1 v d res Q g.fr h1 rv fun x' H' Z' p => q x' H' Z' (p.after g)
/-- not, and, or as values -/
theorem snd_not {e : Expr} {a : E} {pos : Pos} (h : PE X e (tE F cal a)) : PE X (.UnaryOp .Not e pos) (tE F cal (.not a)) := by
  refine (pe_not h).imp fun σ H Q ⟨Z, ρ, res, ρ', f, e, q⟩ => ?_
  simp only [evalE] at e
  obtain ⟨r, ρ1, e1, e⟩ := Res.bind_ok e
  obtain ⟨t, ρ2, e2, e⟩ := Res.bind_ok e
  cases e
  refine ⟨Z, ρ, r, ρ1, f, e1, fun x H1 Z1 p => ?_⟩
  have rep := p.rep
  unfold asBl at e2
  split at e2
  · rename_i b hb
    cases e2
    rw [hb] at rep
    cases rep
    exact ⟨_, rfl, q _ _ _ ((Post.same p.go.fr (.bl _)).after p.go)⟩
  · cases e2
theorem snd_and {e e2 : Expr} {r : List Expr} {a b : E} {pos : Pos} (h : PE X e (tE F cal a)) (h2 : PE X (.BoolOp .And (e2 :: r) pos) (tE F cal b)) : PE X (.BoolOp .And (e :: e2 :: r) pos) (tE F cal (.and a b)) := by
  refine (pe_and h h2).imp fun σ H Q ⟨Z, ρ, res, ρ', f, e, q⟩ => ?_
  simp only [evalE] at e
  obtain ⟨r, ρ1, e1, e⟩ := Res.bind_ok e
  obtain ⟨t, ρ2, e2, e⟩ := Res.bind_ok e
  refine ⟨Z, ρ, r, ρ1, f, e1, fun x H1 Z1 p => ?_⟩
  have rep := p.rep
  unfold asBl at e2
  split at e2
  · rename_i b hb
    cases e2
    rw [hb] at rep
    cases rep
    refine ⟨_, rfl, ?_⟩
    cases t with
    | true =>
      simp only [if_true] at e ⊢
      exact ⟨Z1, _, res, ρ', p.go.fr, e, fun x H2 Z2 p2 => q _ _ _ (p2.after p.go)⟩
    | false =>
      simp only [Bool.false_eq_true, if_false] at e ⊢
      cases e
      exact q _ _ _ ((Post.same p.go.fr (.bl _)).after p.go)
  · cases e2
theorem snd_or {e e2 : Expr} {r : List Expr} {a b : E} {pos : Pos} (h : PE X e (tE F cal a)) (h2 : PE X (.BoolOp .Or (e2 :: r) pos) (tE F cal b)) : PE X (.BoolOp .Or (e :: e2 :: r) pos) (tE F cal (.or a b)) := by
  refine (pe_or h h2).imp fun σ H Q ⟨Z, ρ, res, ρ', f, e, q⟩ => ?_
  simp only [evalE] at e
  obtain ⟨r, ρ1, e1, e⟩ := Res.bind_ok e
  obtain ⟨t, ρ2, e2, e⟩ := Res.bind_ok e
  refine ⟨Z, ρ, r, ρ1, f, e1, fun x H1 Z1 p => ?_⟩
  have rep := p.rep
  unfold asBl at e2
  split at e2
  · rename_i b hb
    cases e2
    rw [hb] at rep
    cases rep
    refine ⟨_, rfl, ?_⟩
    cases t with
    | false =>
      simp only [Bool.false_eq_true, if_false] at e ⊢
      exact ⟨Z1, _, res, ρ', p.go.fr, e, fun x H2 Z2 p2 => q _ _ _ (p2.after p.go)⟩
    | true =>
      simp only [if_true] at e ⊢
      cases e
      exact q _ _ _ ((Post.same p.go.fr (.bl _)).after p.go)
  · cases e2
theorem snd_ifx {t a b : Expr} {it : T} {ia ib : E} {pos : Pos} (ht : PT X t (tT F cal it)) (ha : PE X a (tE F cal ia)) (hb : PE X b (tE F cal ib)) : PE X (.IfExp t a b pos) (tE F cal (.ifx it ia ib)) := by
  refine (pe_ifExp ht ha hb).imp fun σ H Q ⟨Z, ρ, res, ρ', f, e, q⟩ => ?_
  simp only [evalE] at e
  obtain ⟨c, ρ1, e1, e⟩ := Res.bind_ok e
  refine ⟨Z, ρ, c, ρ1, f, e1, fun H1 Z1 g => ?_⟩
  cases c with
  | true =>
    simp only [if_true] at e ⊢
    exact ⟨Z1, _, res, ρ', g.fr, e, fun x H2 Z2 p2 => q _ _ _ (p2.after g)⟩
  | false =>
    simp only [Bool.false_eq_true, if_false] at e ⊢
    exact ⟨Z1, _, res, ρ', g.fr, e, fun x H2 Z2 p2 => q _ _ _ (p2.after g)⟩
/-- tests -/
theorem snd_tnot {e : Expr} {a : T} {pos : Pos} (h : PT X e (tT F cal a)) : PT X (.UnaryOp .Not e pos) (tT F cal (.not a)) := by
  refine (pt_not h).imp fun σ H Q ⟨Z, ρ, res, ρ', f, e, q⟩ => ?_
  simp only [evalT] at e
  obtain ⟨r, ρ1, e1, e⟩ := Res.bind_ok e
  cases e
  exact ⟨Z, ρ, r, _, f, e1, fun H1 Z1 g => q _ _ g⟩
theorem snd_tand {e e2 : Expr} {r : List Expr} {a b : T} {pos : Pos} (h : PT X e (tT F cal a)) (h2 : PW X (.BoolOp .And (e2 :: r) pos) (tT F cal b)) : PW X (.BoolOp .And (e :: e2 :: r) pos) (tT F cal (.and a b)) := by
  refine (pw_and h h2).imp fun σ H Q ⟨Z, ρ, res, ρ', f, e, q⟩ => ?_
  simp only [evalT] at e
  obtain ⟨c, ρ1, e1, e⟩ := Res.bind_ok e
  refine ⟨Z, ρ, c, ρ1, f, e1, fun H1 Z1 g => ?_⟩
  cases c with
  | true =>
    simp only [if_true] at e ⊢
    exact ⟨Z1, _, res, ρ', g.fr, e, fun H2 Z2 p2 => q _ _ (g.trans p2)⟩
  | false =>
    simp only [Bool.false_eq_true, if_false] at e ⊢
    cases e
    exact q _ _ g
theorem snd_tor {e e2 : Expr} {r : List Expr} {a b : T} {pos : Pos} (h : PT X e (tT F cal a)) (h2 : PW X (.BoolOp .Or (e2 :: r) pos) (tT F cal b)) : PW X (.BoolOp .Or (e :: e2 :: r) pos) (tT F cal (.or a b)) := by
  refine (pw_or h h2).imp fun σ H Q ⟨Z, ρ, res, ρ', f, e, q⟩ => ?_
  simp only [evalT] at e
  obtain ⟨c, ρ1, e1, e⟩ := Res.bind_ok e
  refine ⟨Z, ρ, c, ρ1, f, e1, fun H1 Z1 g => ?_⟩
  cases c with
  | false =>
    simp only [Bool.false_eq_true, if_false] at e ⊢
    exact ⟨Z1, _, res, ρ', g.fr, e, fun H2 Z2 p2 => q _ _ (g.trans p2)⟩
  | true =>
    simp only [if_true] at e ⊢
    cases e
    exact q _ _ g
end
end G
end

section
set_option maxHeartbeats 4000000
namespace G
open PySem PySem.Spec PyProof.Rows L2

theorem asBl_ok {d : D} {b : Bool} {ρ ρ' : Env} (h : asBl d ρ = .ok b ρ') : d = .bl b ∧ ρ' = ρ := by
  unfold asBl at h
  split at h
  · cases h; exact ⟨rfl, rfl⟩
  · cases h
theorem asInt_ok {d : D} {b : Int} {ρ ρ' : Env} (h : asInt d ρ = .ok b ρ') : d = .int b ∧ ρ' = ρ := by
  unfold asInt at h
  split at h
  · cases h; exact ⟨rfl, rfl⟩
  · cases h

section
variable {F : Fm} {σ : L2.St} {H H1 H2 H' : Hp} {Z Z1 Z2 Z' : Zs} {ρ ρ1 ρ2 ρ' : Env} {cal : Call}
/-- a slot's list of the def's own, or the caller's -/
theorem Fra.mineAt (f : Fra F Z H σ ρ) {i : Nat} {s : S} (hs : ρ[i]? = some s) (m : s.mine = true) : ∃ a xs ds, σ[i]? = some (some (.ref a)) ∧ s.peek = some (.lst ds) ∧ H a = some (.lst xs) ∧ RepA F.K H Z xs ds ∧ Z a := by
  have q := f.slot i s hs
  cases s with
  | no => cases m
  | v d => cases m
  | own d => obtain ⟨a, xs, ds, e1, rfl, e3, r, z, _⟩ := q; exact ⟨a, xs, ds, e1, rfl, e3, r, z⟩
  | ref d => obtain ⟨a, xs, ds, e1, rfl, e3, r, z, _⟩ := q; exact ⟨a, xs, ds, e1, rfl, e3, r, z⟩
/-- the slot's new content -/
def S.with (s : S) (d : D) : S := match s with
  | .own _ => .own d
  | .ref _ => .ref d
  | s => s
theorem S.with_mine {s : S} {d : D} : (s.with d).mine = s.mine := by cases s <;> rfl
theorem S.with_own {s : S} {d : D} : (s.with d).isOwn = s.isOwn := by cases s <;> rfl
/-- one's own list has changed -/
theorem Go.change (f : Fra F Z H σ ρ) {i : Nat} {s : S} {a : Addr} (hs : ρ[i]? = some s) (m : s.mine = true) (ha : σ[i]? = some (some (.ref a))) (hk : ∀ b o, b ≠ a → H b = some o → H' b = some o) {xs : List V} {ds : List D} (hx : H' a = some (.lst xs))
    (hr : RepA F.K H' Z xs ds) : Go F σ H Z ρ H' Z (ρ.set i (s.with (.lst ds))) := by
  obtain ⟨a', xs0, ds0, e1, e2, e3, r0, z⟩ := f.mineAt hs m
  rw [ha] at e1; cases e1
  have wa : Ws σ ρ a := ⟨i, s, hs, m, ha⟩
  have st : Stp (fun b => b = a) H Z H' Z := ⟨fun b o e n => hk b o n e, fun _ z => .inl z, fun b e => by subst e; exact z, f.zl⟩
  have st2 : Stp (Ws σ ρ) H Z H' Z := ⟨fun b o e n => hk b o (fun q => n (q ▸ wa)) e, fun _ z => .inl z, f.wz, f.zl⟩
  have hi : i < ρ.length := (List.getElem?_eq_some_iff.mp hs).1
  have get : ∀ {j : Nat} {t : S}, (ρ.set i (s.with (.lst ds)))[j]? = some t → (j = i ∧ t = s.with (.lst ds)) ∨ (j ≠ i ∧ ρ[j]? = some t) := fun {j t} e => by
    by_cases hj : j = i
    · subst hj
      rw [List.getElem?_set_self hi] at e
      cases e
      exact .inl ⟨rfl, rfl⟩
    · rw [List.getElem?_set_ne (Ne.symm hj)] at e
      exact .inr ⟨hj, e⟩
  have mono : ∀ b, H b ≠ none → H' b ≠ none := fun b n => by
    by_cases hb : b = a
    · subst hb; rw [hx]; simp
    · cases q : H b with
      | none => exact absurd q n
      | some o => rw [hk b o hb q]; simp
  refine ⟨⟨by rw [List.length_set]; exact f.len, fun b h => ?_, fun j t e => ?_, fun j k t u b e1 e2 m1 m2 q1 q2 => ?_, f.z0, fun b o e nr => ?_, fun b n => mono b (f.h0n b n)⟩, st2, fun _ z _ => z, fun b ⟨j, t, e, mt, q⟩ => ?_, fun b ⟨j, t, e, mt, q⟩ => ?_, mono⟩
  · by_cases hb : b = a
    · subst hb; exact ⟨_, hx⟩
    · obtain ⟨ys, e⟩ := f.zl b h
      exact ⟨ys, hk b _ hb e⟩
  · rcases get e with ⟨rfl, rfl⟩ | ⟨hj, e⟩
    · have q := f.slot j s hs
      cases s with
      | no => cases m
      | v d => cases m
      | own d =>
        obtain ⟨a', _, _, e1, _, _, _, z', h0⟩ := q
        rw [ha] at e1; cases e1
        exact ⟨a, xs, ds, ha, rfl, hx, hr, z, h0⟩
      | ref d =>
        obtain ⟨a', _, _, e1, _, _, _, z', h0⟩ := q
        rw [ha] at e1; cases e1
        exact ⟨a, xs, ds, ha, rfl, hx, hr, z, h0⟩
    · have q := f.slot j t e
      have na : ∀ b, t.mine = true → σ[j]? = some (some (.ref b)) → b ≠ a := fun b mt qb hb => by
        subst hb
        exact hj (f.inj j i t s b e hs mt m qb ha)
      cases t with
      | no => trivial
      | v d => obtain ⟨x, e1, r⟩ := q; exact ⟨x, e1, r.stp st⟩
      | own d => obtain ⟨b, ys, es, e1, e2, e3, r, z', h0⟩ := q; exact ⟨b, ys, es, e1, e2, hk b _ (na b rfl e1) e3, r.stp st, z', h0⟩
      | ref d => obtain ⟨b, ys, es, e1, e2, e3, r, z', h0⟩ := q; exact ⟨b, ys, es, e1, e2, hk b _ (na b rfl e1) e3, r.stp st, z', h0⟩
  · have old : ∀ {j : Nat} {t : S}, (ρ.set i (s.with (.lst ds)))[j]? = some t → t.mine = true → ∃ t', ρ[j]? = some t' ∧ t'.mine = true := fun {j t} e mt => by
      rcases get e with ⟨rfl, rfl⟩ | ⟨_, e⟩
      · exact ⟨s, hs, m⟩
      · exact ⟨t, e, mt⟩
    obtain ⟨t', e1', m1'⟩ := old e1 m1
    obtain ⟨u', e2', m2'⟩ := old e2 m2
    exact f.inj j k t' u' b e1' e2' m1' m2' q1 q2
  · by_cases hb : b = a
    · subst hb
      have q := f.slot i s hs
      cases s with
      | no => cases m
      | v d => cases m
      | own d =>
        obtain ⟨a', _, _, e1, _, _, _, z', h0⟩ := q
        rw [ha] at e1; cases e1
        rw [h0] at e; cases e
      | ref d =>
        obtain ⟨a', _, _, e1, _, _, _, z', h0⟩ := q
        rw [ha] at e1; cases e1
        exact absurd h0 nr
    · exact hk b o hb (f.h0 b o e nr)
  · rcases get e with ⟨rfl, rfl⟩ | ⟨hj, e⟩
    · exact ⟨j, s, hs, m, q⟩
    · exact ⟨j, t, e, mt, q⟩
  · rcases get e with ⟨rfl, rfl⟩ | ⟨hj, e⟩
    · rw [S.with_own] at mt; exact ⟨j, s, hs, mt, q⟩
    · exact ⟨j, t, e, mt, q⟩
end

/-! ### single rules -/
section
variable {X : Cx} {F : Fm}
theorem does_neg : Does1 F (rU fun i => .int (-i)) .neg := fun σ ρ H Z x d res Q f he hx q => by
  simp only [op1] at he
  split at he
  · cases he; rw [hx.int]; exact ⟨_, rfl, q _ _ _ (Post.same f (.int _))⟩
  · cases he
theorem does_isN : Does1 F (fun x H Q => (V.non : V) = .non ∧ Q (.bl (decide (x = .non))) H) .isNone := fun σ ρ H Z x d res Q f he hx q => by
  simp only [op1] at he
  split at he
  · cases he; rw [hx.non]; exact ⟨rfl, q _ _ _ (Post.same f (.bl _))⟩
  · rename_i hn
    cases he
    rw [decide_eq_false (hx.notNon hn)]
    exact ⟨rfl, q _ _ _ (Post.same f (.bl _))⟩
theorem does_notN : Does1 F (fun x H Q => (V.non : V) = .non ∧ Q (.bl (!decide (x = .non))) H) .notNone := fun σ ρ H Z x d res Q f he hx q => by
  simp only [op1] at he
  split at he
  · cases he; rw [hx.non]; exact ⟨rfl, q _ _ _ (Post.same f (.bl _))⟩
  · rename_i hn
    cases he
    rw [decide_eq_false (hx.notNon hn)]
    exact ⟨rfl, q _ _ _ (Post.same f (.bl _))⟩
theorem does_isB (b : Bool) : Does1 F (fun x H Q => ∃ k j : Bool, x = .bl k ∧ V.bl b = .bl j ∧ Q (.bl (decide (k = j))) H) (.isB b) := fun σ ρ H Z x d res Q f he hx q => by
  simp only [op1] at he
  split at he
  · rename_i c
    cases he; rw [hx.bl]
    refine ⟨_, _, rfl, rfl, ?_⟩
    rw [show decide (c = b) = (c == b) by cases c <;> cases b <;> rfl]
    exact q _ _ _ (Post.same f (.bl _))
  · cases he
theorem does_notB (b : Bool) : Does1 F (fun x H Q => ∃ k j : Bool, x = .bl k ∧ V.bl b = .bl j ∧ Q (.bl (!decide (k = j))) H) (.notB b) := fun σ ρ H Z x d res Q f he hx q => by
  simp only [op1] at he
  split at he
  · rename_i c
    cases he; rw [hx.bl]
    refine ⟨_, _, rfl, rfl, ?_⟩
    rw [show (!decide (c = b)) = (c != b) by cases c <;> cases b <;> rfl]
    exact q _ _ _ (Post.same f (.bl _))
  · cases he
theorem atI_of {K : PySem.W.Frag} {H : Hp} {Z : Zs} {xs : List V} {ds : List D} {i : Int} {d : D} (r : RepA K H Z xs ds) (h : G.atI ds i = some d) : ∃ v, L2.atI xs i = some v ∧ Rep K H Z v d := by
  unfold G.atI at h
  obtain ⟨j, h1, h2⟩ := Option.bind_eq_some_iff.mp h
  obtain ⟨v, h3, h4⟩ := r.get h2
  refine ⟨v, ?_, h4⟩
  unfold L2.atI
  rw [r.len]
  have e : L2.ixN ds.length i = some j := h1
  rw [e]
  exact h3
theorem ix_ok (hK : X.K = F.K) : IxR X (fun x y H Q => rIxL X.K x y H Q ∨ rIxT X.K x y H Q) ∧ Does2 F (fun x y H Q => rIxL X.K x y H Q ∨ rIxT X.K x y H Q) .idx := by
  refine ⟨ix_list.or ix_tup, fun σ ρ H Z x y d e res Q f he hx hy q => ?_⟩
  simp only [op2] at he
  split at he
  · rw [hy.int]
    split at he
    · split at he
      · rename_i hz
        cases he
        obtain ⟨l, xs, rfl, h1, r1⟩ := hx.lst
        obtain ⟨v, e1, rv⟩ := atI_of r1 hz
        exact .inl ⟨l, xs, _, v, rfl, rfl, .of h1, e1, q _ _ _ (Post.same f rv)⟩
      · cases he
    · split at he
      · rename_i hz
        cases he
        obtain ⟨l, xs, rfl, h1, r1⟩ := hx.tup
        obtain ⟨v, e1, rv⟩ := atI_of r1 hz
        exact .inr ⟨l, xs, _, v, rfl, rfl, hK ▸ h1, e1, q _ _ _ (Post.same f rv)⟩
      · cases he
    · cases he
  · cases he
theorem RepA.cut {K : PySem.W.Frag} {H : Hp} {Z : Zs} {xs : List V} {ds : List D} (r : RepA K H Z xs ds) (lo hi : Option Int) : RepA K H Z (cutV xs lo hi) (G.cut ds lo hi) := by
  rw [cutV_eq]
  unfold G.cut
  rw [r.len]
  exact (r.drop _).take _
/-- slices: what the machine does with lists and tuples -/
theorem slice_ok (hK : X.K = F.K) {σ : L2.St} {ρ : Env} {H : Hp} {Z : Zs} {x : V} {d : D} {lo hi : Option Int} {Q : VK} (f : Fra F Z H σ ρ) (hx : RepO F.K H Z x d) {res : R}
    (he : cutE d lo hi = some res) (q : ∀ x' H' Z', Post F σ H Z ρ x' res H' Z' ρ → Q x' H') : rSlL X.K x lo hi H Q ∨ rSlA X.K x lo hi H Q := by
  cases d with
  | lst es =>
    cases he
    obtain ⟨l, xs, rfl, h1, r1⟩ := hx.lst
    exact .inl ⟨l, xs, rfl, .of h1, fun p hp => q _ _ _ (Post.newL f hp (r1.cut lo hi))⟩
  | tup es =>
    cases he
    obtain ⟨l, xs, rfl, h1, r1⟩ := hx.tup
    refine .inr ⟨l, xs, rfl, hK ▸ h1, fun ⟨w1, w2⟩ => ?_, fun _ p hp => q _ _ _ (Post.newT f hp (r1.cut lo hi))⟩
    have e : G.cut es lo hi = es := by
      unfold G.cut
      rw [sIx_eq _ 0 (Nat.zero_le _), r1.len] at w1
      rw [sIx_eq _ _ (Nat.le_refl _), r1.len] at w2
      rw [w1, w2]
      simp
    rw [e] at q
    exact q _ _ _ (Post.same f (.tup h1 r1))
  | _ => cases he
theorem ord_ok {op : CmpOp} {o : Op2} (hc : cmpOf op = some o) (ho : ordOf op = true) : ∃ r : R2, OpR X (compareOp op) r ∧ ∀ (i j : Int) (b : Bool) (H : Hp) (Q : VK), ordE o i j = some b → Q (.bl b) H → r (.int i) (.int j) H Q := by
  cases op <;> simp only [cmpOf, Option.some.injEq, reduceCtorEq] at hc <;> subst hc
  case Lt => exact ⟨_, op_lt, fun i j b H Q h q => ⟨_, _, rfl, rfl, by simp only [ordE] at h; cases h; exact q⟩⟩
  case LtE => exact ⟨_, op_le, fun i j b H Q h q => ⟨_, _, rfl, rfl, by simp only [ordE] at h; cases h; exact q⟩⟩
  case Gt => exact ⟨_, op_gt, fun i j b H Q h q => ⟨_, _, rfl, rfl, by simp only [ordE] at h; cases h; exact q⟩⟩
  case GtE => exact ⟨_, op_ge, fun i j b H Q h q => ⟨_, _, rfl, rfl, by simp only [ordE] at h; cases h; exact q⟩⟩
  all_goals cases ho
def tChain3 (r r' r'' : R2) (ta tb tc td : TE) : TE := fun σ H Q => ta σ H fun x H1 => tb σ H1 fun y H2 => r x y H2 fun z H3 => ∃ k, z = .bl k ∧
  (if k = true then tc σ H3 fun w' H4 => r' y w' H4 fun z H5 => ∃ k, z = .bl k ∧ (if k = true then td σ H5 fun v' H6 => r'' w' v' H6 Q else Q (.bl false) H5) else Q (.bl false) H3)
variable {a b c d : Expr} {ta tb tc td : TE} {pos : Pos}
theorem pe_chain3 {op op' op2 : CmpOp} {r r' r'' : R2} (ho : OpR X (compareOp op) r) (ho' : OpR X (compareOp op') r') (ho2 : OpR X (compareOp op2) r'') (ha : PE X a ta) (hb : PE X b tb) (hc : PE X c tc) (hd : PE X d td)
    (hm : lastMarks [op, op', op2] [b, c, d] = false) : PE X (.Compare a [op, op', op2] [b, c, d] pos) (tChain3 r r' r'' ta tb tc td) := by
  refine ⟨fun pins s σ H Q I h => ?_⟩
  refine Compare_chain (thn (ha.run pins s σ H _ I h) fun v s1 ⟨x, H1, I1, r1, q1⟩ => chain_link (thn (hb.run pins s1 σ H1 _ I1 q1) fun u s2 ⟨y, H2, I2, r2, q2⟩ =>
    thn (ho pins s2 σ H2 x y v u _ I2 r1 r2 q2) fun d s3 ⟨z, H3, I3, r3, k, e, q3⟩ => ?_)) hm
  subst e
  cases r3
  refine wpAny_truthy_bool ?_
  cases k with
  | false => exact ite_ff ⟨.bl false, H3, I3, rfl, q3⟩
  | true =>
    refine ite_tt (chain_link (thn (hc.run pins s3 σ H3 _ I3 q3) fun w' s4 ⟨z', H4, I4, r4, q4⟩ => thn (ho' pins s4 σ H4 y z' u w' _ I4 r2 r4 q4) fun d s5 ⟨z, H5, I5, r5, k, e, q5⟩ => ?_))
    subst e
    cases r5
    refine wpAny_truthy_bool ?_
    cases k with
    | false => exact ite_ff ⟨.bl false, H5, I5, rfl, q5⟩
    | true => exact ite_tt (chain_last (thn (hd.run pins s5 σ H5 _ I5 q5) fun w2 s6 ⟨z2, H6, I6, r6, q6⟩ => ho2 pins s6 σ H6 z' z2 w' w2 Q I6 r4 r6 q6))
theorem pt_chain3 {op op' op2 : CmpOp} {r r' r'' : R2} (ho : OpR X (compareOp op) r) (ho' : OpR X (compareOp op') r') (ho2 : OpR X (compareOp op2) r'') (ha : PE X a ta) (hb : PE X b tb) (hc : PE X c tc) (hd : PE X d td)
    (hm : lastMarks [op, op', op2] [b, c, d] = false) : PT X (.Compare a [op, op', op2] [b, c, d] pos) (tTest (tChain3 r r' r'' ta tb tc td)) := by
  refine ⟨fun pins s σ H Q I h => ?_⟩
  refine isTrue_chain (thn (ha.run pins s σ H _ I h) fun v s1 ⟨x, H1, I1, r1, q1⟩ => test_link (thn (hb.run pins s1 σ H1 _ I1 q1) fun u s2 ⟨y, H2, I2, r2, q2⟩ =>
    thn (ho pins s2 σ H2 x y v u _ I2 r1 r2 q2) fun d s3 ⟨z, H3, I3, r3, k, e, q3⟩ => ?_)) hm
  subst e
  cases r3
  refine wpAny_truthy_bool ?_
  cases k with
  | false =>
    obtain ⟨k', e', q'⟩ := q3
    cases e'
    exact ite_ff ⟨H3, I3, q'⟩
  | true =>
    refine ite_tt (test_link (thn (hc.run pins s3 σ H3 _ I3 q3) fun w' s4 ⟨z', H4, I4, r4, q4⟩ => thn (ho' pins s4 σ H4 y z' u w' _ I4 r2 r4 q4) fun d s5 ⟨z, H5, I5, r5, k, e, q5⟩ => ?_))
    subst e
    cases r5
    refine wpAny_truthy_bool ?_
    cases k with
    | false =>
      obtain ⟨k', e', q'⟩ := q5
      cases e'
      exact ite_ff ⟨H5, I5, q'⟩
    | true =>
      refine ite_tt (test_last (thn (hd.run pins s5 σ H5 _ I5 q5) fun w2 s6 ⟨z2, H6, I6, r6, q6⟩ => thn (ho2 pins s6 σ H6 z' z2 w' w2 _ I6 r4 r6 q6) fun c s7 ⟨z, H7, I7, r7, k, e, q7⟩ => ?_))
      subst e
      cases r7
      exact wpAny_truthy_bool ⟨H7, I7, q7⟩
end
end G
end

section
set_option maxHeartbeats 4000000
namespace G
open PySem PySem.Spec PyProof.Rows L2
section
variable {C : Nm} {F : Fm} {cal : Call} {X : Cx} {sc : Scope}
theorem refAt_v {vs : List V} {ds : List D} {b : Addr} : ¬ refAt vs (ds.map S.v) b := by
  rintro ⟨d, h, _⟩
  cases ds with
  | nil => cases h
  | cons _ _ => cases h
/-- f(e, ..) -/
theorem snd_call (hx : XOk C F cal X sc) {x : Str} {f m : Nat} {by0 : Bool} {e : Expr} {es : List Expr} {irs : List E} {p pos : Pos} (hn : okName x = true) (hg : isGlob (sc.names.lookup x) = true) (hf : C.fns.lookup x = some (f, by0, m)) (hl : irs.length = m)
    (ok : ∀ a ∈ e :: es, okE a = true) (h : PA X (e :: es) (tEs F cal irs)) : PE X (.Call (.Name x p) (e :: es) [] pos) (tE F cal (.call f irs)) := by
  obtain ⟨a, fd, k, ps, h1, h2, h3, h4, h5, h6⟩ := hx.fns x f by0 m hf
  refine (pe_call h6 h5 (hx.gl hg) h1 h2 h3 .nil pass0 h (okName_d hn) (okE.star (ok _ List.mem_cons_self)) (stars (fun a ha => ok a (List.mem_cons_of_mem _ ha)) pos)).imp fun σ H Q ⟨Z, ρ, res, ρ', fr, ev, q⟩ => ?_
  simp only [evalE] at ev
  obtain ⟨ds, ρ1, e1, e2⟩ := Res.bind_ok ev
  refine ⟨Z, ρ, ds, ρ1, fr, e1, fun xs H1 Z1 g r => ?_⟩
  cases hc : cal f (ds.map S.v) with
  | exc y b => rw [hc] at e2; cases e2
  | no => rw [hc] at e2; cases e2
  | ok r0 b =>
    rw [hc] at e2
    cases e2
    refine ⟨Z1, ds.map S.v, res, b, g.fr.zl, by rw [List.append_nil, hx.hK]; exact Args.of r, fun s hs => (by obtain ⟨d, _, e⟩ := List.mem_map.mp (List.mem_of_mem_tail hs); exact ⟨d, e.symm⟩), by rw [List.length_map, evalEs_len e1, hl], hc, fun y H' fp => q y H' Z1 ?_⟩
    have hk : ∀ b o, H1 b = some o → H' b = some o := fun b o eo => fp.keep b o eo refAt_v
    refine Post.after g ⟨Go.grow g.fr hk, by rw [← hx.hK]; exact fp.rep, fun eo => ?_⟩
    obtain ⟨w, ys, es', w1, w2, w3, w4, w5, _⟩ := fp.own eo
    exact ⟨w, ys, es', w1, w2, w3, w4, by rw [← hx.hK]; exact w5, g.fr.grow hk (fun b z => z.imp id fun eb => by subst eb; exact ⟨w4, _, w3⟩) fun _ z => .inl z⟩
/-- f(x, ..), the list x handed by reference -/
theorem snd_callr (hx : XOk C F cal X sc) {x y : Str} {f m i : Nat} {by0 : Bool} {es : List Expr} {irs : List E} {p py pos : Pos} (hn : okName x = true) (hg : isGlob (sc.names.lookup x) = true) (hf : C.fns.lookup x = some (f, by0, m))
    (hy : okName y = true) (hv : visible (sc.names.lookup y) = true) (hi : ixOf C.N y = some i) (hl : irs.length + 1 = m)
    (ok : ∀ a ∈ es, okE a = true) (h : PA X es (tEs F cal irs)) : PE X (.Call (.Name x p) (.Name y py :: es) [] pos) (tE F cal (.callr f i irs)) := by
  obtain ⟨a, fd, k, ps, h1, h2, h3, h4, h5, h6⟩ := hx.fns x f by0 m hf
  refine (pe_call h6 h5 (hx.gl hg) h1 h2 h3 .nil pass0 (pa_cons (hx.name hy hv hi) h rfl) (okName_d hn) rfl (stars ok pos)).imp fun σ H Q ⟨Z, ρ, res, ρ', fr, ev, q⟩ => ?_
  simp only [evalE] at ev
  obtain ⟨d0, ρ0, e0, ev2⟩ := Res.bind_ok ev
  obtain ⟨e0, rfl⟩ := optR_ok e0
  obtain ⟨v0, hv0, _⟩ := peek_ok fr e0
  obtain ⟨ds, ρ1, e1, e2⟩ := Res.bind_ok ev2
  refine ⟨v0, hv0, Z, _, ds, ρ1, fr, e1, fun xs H1 Z1 g r => ?_⟩
  -- the slot at the call
  have key : ∃ s d r b, ρ1[i]? = some s ∧ s.mine = true ∧ s.peek = some d ∧ cal f (.ref d :: ds.map S.v) = .ok r b ∧ res = r ∧ ρ' = ρ1.set i (s.with b) := by
    split at e2
    · rename_i d hs
      cases hc : cal f (.ref d :: ds.map S.v) with
      | exc _ _ => rw [hc] at e2; cases e2
      | no => rw [hc] at e2; cases e2
      | ok r b => rw [hc] at e2; cases e2; exact ⟨_, d, _, b, hs, rfl, rfl, hc, rfl, rfl⟩
    · rename_i d hs
      cases hc : cal f (.ref d :: ds.map S.v) with
      | exc _ _ => rw [hc] at e2; cases e2
      | no => rw [hc] at e2; cases e2
      | ok r b => rw [hc] at e2; cases e2; exact ⟨_, d, _, b, hs, rfl, rfl, hc, rfl, rfl⟩
    · cases e2
  obtain ⟨s, d, r', b, hs, hm, hp, hc, rfl, rfl⟩ := key
  obtain ⟨ad, ys, dd, a1, a2, a3, a4, a5⟩ := g.fr.mineAt hs hm
  rw [hp] at a2; cases a2
  rw [hv0] at a1; cases a1
  have ref1 : ∀ c, refAt (.ref ad :: xs ++ []) (.ref (.lst dd) :: ds.map S.v) c ↔ c = ad := fun c => by
    constructor
    · rintro ⟨_, _, e⟩; cases e; rfl
    · rintro rfl; exact ⟨_, rfl, rfl⟩
  refine ⟨Z1, .ref (.lst dd) :: ds.map S.v, res, b, g.fr.zl, ?_, fun s hs => (by obtain ⟨d, _, e⟩ := List.mem_map.mp hs; exact ⟨d, e.symm⟩), by rw [List.length_cons, List.length_map, evalEs_len e1, hl], hc, fun y H' fp => ?_⟩
  · rw [List.append_nil]
    exact .cons ⟨ad, ys, dd, rfl, rfl, a3, by rw [hx.hK]; exact a4, a5⟩ (Args.of (by rw [hx.hK]; exact r))
  have hk : ∀ b o, b ≠ ad → H1 b = some o → H' b = some o := fun b o n eo => fp.keep b o eo (by rw [ref1]; exact n)
  obtain ⟨zs, es', rfl, z2, z3⟩ := fp.ref ad ((ref1 ad).mpr rfl)
  rw [hx.hK] at z3
  have g2 := Go.change g.fr hs hm hv0 hk z2 z3
  refine q y H' Z1 (Post.after g ⟨g2, by rw [← hx.hK]; exact fp.rep, fun eo => ?_⟩)
  obtain ⟨w, ws, es2, w1, w2, w3, w4, w5, w6⟩ := fp.own eo
  refine ⟨w, ws, es2, w1, w2, w3, w4, by rw [← hx.hK]; exact w5, ?_⟩
  -- the frame with the new list protected
  obtain ⟨zs', es3, e3, z2', z3'⟩ := w6 ad ((ref1 ad).mpr rfl)
  cases e3
  rw [hx.hK] at z3'
  have f2 := upd_zl (xs := ws) g.fr w4
  refine (Go.change (H' := H') f2 hs hm hv0 (fun b o n eo => ?_) z2' z3').fr
  by_cases hb : b = w
  · subst hb; rw [upd_same] at eo; cases eo; exact w3
  · rw [upd_ne hb] at eo; exact hk b o n eo
end
end G
end

section
set_option maxHeartbeats 4000000
namespace G
open PySem PySem.Spec PyProof.Rows L2

/-! ### what may have happened between two states of a def -/
structure Adv (H : Hp) (Z : Zs) (H' : Hp) (Z' : Zs) : Prop where
  keep : ∀ b o, H b = some o → ¬ Z b → H' b = some o
  zs : ∀ b, Z' b → Z b ∨ H b = none
  mono : ∀ b, H b ≠ none → H' b ≠ none
  zl : ∀ b, Z b → ∃ xs, H b = some (.lst xs)
section
variable {F : Fm} {σ : L2.St} {H H1 H2 H' : Hp} {Z Z1 Z2 Z' : Zs} {ρ ρ1 ρ2 ρ' : Env} {cal : Call} {K : PySem.W.Frag}
theorem Adv.stp (a : Adv H Z H' Z') : Stp Z H Z H' Z' := ⟨a.keep, a.zs, fun _ z => z, a.zl⟩
theorem Adv.refl (h : ∀ b, Z b → ∃ xs, H b = some (.lst xs)) : Adv H Z H Z := ⟨fun _ _ e _ => e, fun _ z => .inl z, fun _ n => n, h⟩
theorem Adv.trans (a : Adv H Z H1 Z1) (b : Adv H1 Z1 H2 Z2) : Adv H Z H2 Z2 := by
  have up : ∀ c, Z1 c → Z c ∨ H c = none := a.zs
  refine ⟨fun c o e n => b.keep c o (a.keep c o e n) fun z => ?_, fun c z => ?_, fun c n => b.mono c (a.mono c n), a.zl⟩
  · rcases up c z with z | z
    · exact n z
    · rw [e] at z; cases z
  · rcases b.zs c z with z | z
    · exact up c z
    · refine .inr (Classical.byContradiction fun n => a.mono c n z)
theorem Go.adv (g : Go F σ H Z ρ H' Z' ρ') : Adv H Z H' Z' := ⟨fun b o e n => g.stp.keep b o e fun w => n (g.stp.wz b w), g.stp.zs, g.mono, g.stp.zl⟩
theorem Adv.rep (a : Adv H Z H' Z') {x : V} {d : D} (r : Rep K H Z x d) : Rep K H' Z' x d := r.stp a.stp
theorem Adv.repA (a : Adv H Z H' Z') {x : List V} {d : List D} (r : RepA K H Z x d) : RepA K H' Z' x d := r.stp a.stp
theorem Adv.tup (a : Adv H Z H' Z') {p : Addr} {xs : List V} (h : SqT K H p xs) : SqT K H' p xs := a.stp.tup h

/-! ### what is walked -/
/-- J walks over the data ds, from H1 on -/
def Walks (K : PySem.W.Frag) (H1 : Hp) (Z1 : Zs) (J : It) (ds : List D) : Prop := ∃ G Y, Walk J ds.length G Y ∧ (∀ H2 Z2, Adv H1 Z1 H2 Z2 → G H2) ∧
  ∀ i H2 Z2 x H3 d, Adv H1 Z1 H2 Z2 → ds[i]? = some d → Y i H2 x H3 → (∀ b o, H2 b = some o → H3 b = some o) ∧ Rep K H3 Z2 x d
def tI (F : Fm) (cal : Call) (it : G.I) : TI := fun σ H R => ∃ Z ρ ds ρ', Fra F Z H σ ρ ∧ evalI cal it ρ = .ok ds ρ' ∧ ∀ J H1 Z1, Go F σ H Z ρ H1 Z1 ρ' → Walks F.K H1 Z1 J ds → R J H1
theorem _root_.L2.PI.imp {X : Cx} {tg it : Expr} {w w' : TI} (h : PI X tg it w) (i : ∀ σ H R, w' σ H R → w σ H R) : PI X tg it w' := ⟨fun pins s σ H R I q => h.run pins s σ H R I (i σ H R q)⟩
theorem _root_.L2.PI.or {X : Cx} {tg it : Expr} {w w' : TI} (h : PI X tg it w) (h' : PI X tg it w') : PI X tg it (fun σ H R => w σ H R ∨ w' σ H R) := ⟨fun pins s σ H R I q => q.elim (h.run pins s σ H R I) (h'.run pins s σ H R I)⟩
theorem walks_list {a : Addr} {xs : List V} {ds : List D} (zl : ∀ b, Z b → ∃ xs, H b = some (.lst xs)) (h : H a = some (.lst xs)) (n : ¬ Z a) (r : RepA K H Z xs ds) : Walks K H Z (Itl K a) ds := by
  refine ⟨_, _, r.len ▸ walk_list (K := K) (a := a) (xs := xs), fun H2 Z2 ad => .of (ad.keep a _ h n), fun i H2 Z2 x H3 d ad hd y => ?_⟩
  obtain ⟨rfl, hx⟩ := y
  obtain ⟨d', e, rep⟩ := (ad.repA r).getV hx
  rw [hd] at e; cases e
  exact ⟨fun _ _ e => e, rep⟩
theorem walks_tup {a : Addr} {xs : List V} {ds : List D} (h : SqT K H a xs) (r : RepA K H Z xs ds) : Walks K H Z (Itt K a) ds := by
  refine ⟨_, _, r.len ▸ walk_tup (K := K) (a := a) (xs := xs), fun H2 Z2 ad => ad.tup h, fun i H2 Z2 x H3 d ad hd y => ?_⟩
  obtain ⟨rfl, hx⟩ := y
  obtain ⟨d', e, rep⟩ := (ad.repA r).getV hx
  rw [hd] at e; cases e
  exact ⟨fun _ _ e => e, rep⟩
theorem walks_range {lo hi : Int} : Walks K H Z (Itr lo (hi - lo).toNat) (rangeI lo hi) := by
  have e : (rangeI lo hi).length = (hi - lo).toNat := by unfold rangeI; simp
  refine ⟨_, _, (by rw [e]; exact walk_range (lo := lo) (n := (hi - lo).toNat)), fun _ _ _ => trivial, fun i H2 Z2 x H3 d ad hd y => ?_⟩
  obtain ⟨rfl, rfl⟩ := y
  unfold rangeI at hd
  rw [List.getElem?_map] at hd
  obtain ⟨k, h1, rfl⟩ := Option.map_eq_some_iff.mp hd
  obtain ⟨h2, h3⟩ := List.getElem?_eq_some_iff.mp h1
  rw [List.getElem_range] at h3
  subst h3
  exact ⟨fun _ _ e => e, .int _⟩
/-- a new pair at each turn -/
theorem walks_pair {J : It} {n : Nat} {G : Hp → Prop} {xs ys : Nat → Option V} {f g : Nat → Option D} {ds : List D} (w : Walk J n G (YPair xs ys)) (hn : n = ds.length) (hG : ∀ H2 Z2, Adv H Z H2 Z2 → G H2)
    (hx : ∀ H2 Z2 i x, Adv H Z H2 Z2 → xs i = some x → ∃ d, f i = some d ∧ Rep K H2 Z2 x d) (hy : ∀ H2 Z2 i x, Adv H Z H2 Z2 → ys i = some x → ∃ d, g i = some d ∧ Rep K H2 Z2 x d)
    (hd : ∀ i d e, f i = some d → g i = some e → ∀ z, ds[i]? = some z → z = .tup [d, e]) : Walks K H Z J ds := by
  refine ⟨_, _, hn ▸ w, hG, fun i H2 Z2 x H3 d ad hdd y => ?_⟩
  obtain ⟨T, u, v, rfl, hT, rfl, e1, e2⟩ := y
  obtain ⟨d1, f1, r1⟩ := hx H2 Z2 i u ad e1
  obtain ⟨d2, f2, r2⟩ := hy H2 Z2 i v ad e2
  have e := hd i d1 d2 f1 f2 d hdd
  subst e
  have st : Stp (fun _ => False) H2 Z2 (upd H2 T (.tup [u, v])) Z2 ∨ True := .inr trivial
  refine ⟨upd_keep hT, .tup (.of upd_same) ?_⟩
  have up : ∀ {x : V} {d : D}, Rep K H2 Z2 x d → Rep K (upd H2 T (.tup [u, v])) Z2 x d := fun {x d} r => Rep.up (upd_keep hT) r
  exact .cons (up r1) (.cons (up r2) .nil)

theorem Rep.lstE {x : V} {ds : List D} (r : Rep K H Z x (.lst ds)) : ∃ a xs, x = .ref a ∧ H a = some (.lst xs) ∧ ¬ Z a ∧ RepA K H Z xs ds := by
  cases r with | lst h n r => exact ⟨_, _, rfl, h, n, r⟩
theorem Rep.tupE {x : V} {ds : List D} (r : Rep K H Z x (.tup ds)) : ∃ a xs, x = .ref a ∧ SqT K H a xs ∧ RepA K H Z xs ds := by
  cases r with | tup h r => exact ⟨_, _, rfl, h, r⟩
theorem rgOk_d {i : Int} (h : rgOk i = true) : -(2 ^ 62) ≤ i ∧ i < 2 ^ 62 := by
  unfold rgOk at h
  simp only [Bool.and_eq_true, decide_eq_true_eq] at h
  omega
/-- the walk of an evaluated thing -/
theorem walks_of {x : V} {d : D} {ds : List D} {K : PySem.W.Frag} (zl : ∀ b, Z b → ∃ xs, H b = some (.lst xs)) (r : Rep K H Z x d) (h : items d = some ds) : (∃ a, x = .ref a ∧ (∃ xs, SqL K H a xs) ∧ Walks K H Z (Itl K a) ds) ∨ (∃ a, x = .ref a ∧ (∃ xs, SqT K H a xs) ∧ Walks K H Z (Itt K a) ds) := by
  cases r with
  | lst h1 n r => cases h; exact .inl ⟨_, rfl, ⟨_, .of h1⟩, walks_list zl h1 n r⟩
  | tup h1 r => cases h; exact .inr ⟨_, rfl, ⟨_, h1⟩, walks_tup h1 r⟩
  | _ => cases h
end

section
variable {C : Nm} {F : Fm} {cal : Call} {X : Cx} {sc : Scope}
theorem snd_ie (hK : X.K = F.K) {tg ex : Expr} {a : E} (h : PE X ex (tE F cal a)) : PI X tg ex (tI F cal (.e a)) := by
  refine ((pi_list h).or (pi_tup h)).imp fun σ H R ⟨Z, ρ, ds, ρ', f, e, q⟩ => ?_
  simp only [evalI] at e
  obtain ⟨r, ρ1, e1, e2⟩ := Res.bind_ok e
  obtain ⟨e3, rfl⟩ := optR_ok e2
  -- which one it is, is told by the data
  cases hd : r.1 with
  | lst xs =>
    refine .inl ⟨Z, ρ, r, _, f, e1, fun x H1 Z1 p => ?_⟩
    have rep := p.rep
    rw [hd] at rep e3
    cases rep with
    | lst h1 n rr => cases e3; exact ⟨_, rfl, ⟨_, .of h1⟩, q _ H1 Z1 p.go (by rw [hK]; exact walks_list p.go.fr.zl h1 n rr)⟩
  | tup xs =>
    refine .inr ⟨Z, ρ, r, _, f, e1, fun x H1 Z1 p => ?_⟩
    have rep := p.rep
    rw [hd] at rep e3
    cases rep with
    | tup h1 rr => cases e3; exact ⟨_, rfl, ⟨_, by rw [hK]; exact h1⟩, q _ H1 Z1 p.go (by rw [hK]; exact walks_tup h1 rr)⟩
  | _ => rw [hd] at e3; cases e3
theorem rep1 {K : PySem.W.Frag} {H : Hp} {Z : Zs} {xs : List V} {i : Int} (r : RepA K H Z xs [.int i]) : xs = [.int i] := by
  cases r with | cons a b => cases a; cases b; rfl
theorem rep2 {K : PySem.W.Frag} {H : Hp} {Z : Zs} {xs : List V} {i j : Int} (r : RepA K H Z xs [.int i, .int j]) : xs = [.int i, .int j] := by
  cases r with | cons a b => cases a; cases b with | cons c d => cases c; cases d; rfl
theorem snd_range1 (hx : XOk C F cal X sc) {tg a : Expr} {ia : E} {p pos : Pos} (hg : isGlob (sc.names.lookup ("range" : Str)) = true) (hm : X.mg "range" = none) (ok : okE a = true) (h : PA X [a] (tEs F cal [ia])) : PI X tg (.Call (.Name "range" p) [a] [] pos) (tI F cal (.range [ia])) := by
  refine (pi_range1 (hx.gl hg) hm h (by rw [okE.star ok]; rfl)).imp fun σ H R ⟨Z, ρ, ds, ρ', f, e, q⟩ => ?_
  simp only [evalI] at e
  obtain ⟨xs, ρ1, e1, e2⟩ := Res.bind_ok e
  obtain ⟨e3, rfl⟩ := optR_ok e2
  refine ⟨Z, ρ, xs, _, f, e1, fun vs H1 Z1 g r => ?_⟩
  unfold rangeE at e3
  split at e3
  · split at e3
    · rename_i hi hr
      cases e3
      have := rgOk_d hr
      refine ⟨hi, rep1 r, this.1, this.2, q _ H1 Z1 g ?_⟩
      have e0 : hi.toNat = (hi - 0).toNat := by omega
      rw [e0]
      exact walks_range
    · cases e3
  · have := evalEs_len e1; cases this
  · cases e3
theorem snd_range2 (hx : XOk C F cal X sc) {tg a b : Expr} {ia ib : E} {p pos : Pos} (hg : isGlob (sc.names.lookup ("range" : Str)) = true) (hm : X.mg "range" = none) (ok : okE a = true) (ok2 : okE b = true) (h : PA X [a, b] (tEs F cal [ia, ib])) : PI X tg (.Call (.Name "range" p) [a, b] [] pos) (tI F cal (.range [ia, ib])) := by
  refine (pi_range2 (hx.gl hg) hm h (by rw [okE.star ok, okE.star ok2]; rfl) (by rw [okE.star ok2]; rfl)).imp fun σ H R ⟨Z, ρ, ds, ρ', f, e, q⟩ => ?_
  simp only [evalI] at e
  obtain ⟨xs, ρ1, e1, e2⟩ := Res.bind_ok e
  obtain ⟨e3, rfl⟩ := optR_ok e2
  refine ⟨Z, ρ, xs, _, f, e1, fun vs H1 Z1 g r => ?_⟩
  unfold rangeE at e3
  split at e3
  · have := evalEs_len e1; cases this
  · split at e3
    · rename_i lo hi hr
      simp only [Bool.and_eq_true] at hr
      cases e3
      have h1 := rgOk_d hr.1
      have h2 := rgOk_d hr.2
      exact ⟨lo, hi, rep2 r, ⟨h1.1, h1.2, h2.1, h2.2⟩, q _ H1 Z1 g walks_range⟩
    · cases e3
  · cases e3
theorem walk_zipT {K : PySem.W.Frag} {a b : Addr} {xs ys : List V} {n : Nat} (hn : n = min xs.length ys.length) : Walk (RZ.ItzT K a b) n (fun H => SqT K H a xs ∧ SqT K H b ys) (YPair (fun i => xs[i]?) (fun i => ys[i]?)) := by
  subst hn
  refine ⟨fun i _ hi q => ?_, fun _ q => ⟨xs, ys, q.1, q.2, by omega⟩, fun i H v H' _ q y => ?_⟩
  · have h1 : i < xs.length := by omega
    have h2 : i < ys.length := by omega
    exact ⟨xs, ys, xs[i], ys[i], q.1, q.2, by simp [h1], by simp [h2]⟩
  · obtain ⟨T, x, z, h1, h2, h3, h4, h5⟩ := y
    exact ⟨T, x, z, h1, h2, h3, h4 xs q.1, h5 ys q.2⟩
theorem zip_get {xs ys : List D} {i : Nat} {d e z : D} (h1 : xs[i]? = some d) (h2 : ys[i]? = some e) (hz : ((xs.zip ys).map fun p => D.tup [p.1, p.2])[i]? = some z) : z = .tup [d, e] := by
  rw [List.getElem?_map] at hz
  obtain ⟨⟨u, v⟩, h3, rfl⟩ := Option.map_eq_some_iff.mp hz
  rw [List.getElem?_zip_eq_some] at h3
  rw [h1, h2] at h3
  obtain ⟨a, b⟩ := h3
  cases a
  cases b
  rfl
theorem snd_zip (hx : XOk C F cal X sc) {a b : Expr} {elts : List Expr} {kk : Nat} {ia ib : E} {p pos tpos : Pos} (hg : isGlob (sc.names.lookup ("zip" : Str)) = true) (hm : X.mg "zip" = none) (ok : okE a = true) (ok2 : okE b = true) (h : PA X [a, b] (tEs F cal [ia, ib])) :
    PI X (.Tuple elts kk tpos) (.Call (.Name "zip" p) [a, b] [] pos) (tI F cal (.zip [ia, ib])) := by
  refine (RZ.pi_zipA (hx.gl hg) hm h (okE.star ok) (stars (by simpa using ok2) pos)).imp fun σ H R ⟨Z, ρ, ds, ρ', f, e, q⟩ => ?_
  simp only [evalI] at e
  obtain ⟨xs, ρ1, e1, e2⟩ := Res.bind_ok e
  obtain ⟨e3, rfl⟩ := optR_ok e2
  refine ⟨Z, ρ, xs, _, f, e1, fun vs H1 Z1 g r => ?_⟩
  unfold zipE at e3
  split at e3
  · rename_i as bs
    cases e3
    cases r with
    | cons r1 r =>
      cases r with
      | cons r2 r =>
        cases r
        obtain ⟨pa, va, rfl, h1, n1, q1⟩ := r1.lstE
        obtain ⟨pb, vb, rfl, h2, n2, q2⟩ := r2.lstE
        · · refine ⟨_, _, va, vb, rfl, .inl ⟨.of h1, .of h2, q _ H1 Z1 g (walks_pair (f := fun i => as[i]?) (g := fun i => bs[i]?) (walk_zip (K := X.K) (xs := va) (ys := vb) rfl) ?_ ?_ ?_ ?_ ?_)⟩⟩
            · rw [q1.len, q2.len]; simp
            · exact fun H2 Z2 ad => ⟨.of (ad.keep _ _ h1 n1), .of (ad.keep _ _ h2 n2)⟩
            · intro H2 Z2 i x ad hx; exact (ad.repA q1).getV hx
            · intro H2 Z2 i x ad hx; exact (ad.repA q2).getV hx
            · intro i d e hd he z hz; exact zip_get hd he hz
  · rename_i as bs
    cases e3
    cases r with
    | cons r1 r =>
      cases r with
      | cons r2 r =>
        cases r
        obtain ⟨pa, va, rfl, h1, q1⟩ := r1.tupE
        obtain ⟨pb, vb, rfl, h2, q2⟩ := r2.tupE
        rw [← hx.hK] at h1 h2
        · · refine ⟨_, _, va, vb, rfl, .inr ⟨h1, h2, q _ H1 Z1 g (walks_pair (f := fun i => as[i]?) (g := fun i => bs[i]?) (walk_zipT (K := X.K) (xs := va) (ys := vb) rfl) ?_ ?_ ?_ ?_ ?_)⟩⟩
            · rw [q1.len, q2.len]; simp
            · exact fun H2 Z2 ad => ⟨ad.tup h1, ad.tup h2⟩
            · intro H2 Z2 i x ad hx; exact (ad.repA q1).getV hx
            · intro H2 Z2 i x ad hx; exact (ad.repA q2).getV hx
            · intro i d e hd he z hz; exact zip_get hd he hz
  · cases e3
end
end G
end

section
set_option maxHeartbeats 4000000
/-! enumerate(tuple) -/
namespace RE
open PySem PySem.Spec PyProof.Rows L2
theorem meets_enumerate_newT {v : Value} {o : Obj} {H : Heap → Prop} (B : Begins v o H) :
    Meets (Builtin.«enumerate.__new__» ⟨[.type "enumerate", v], []⟩) (fun _ R s => H s.heap ∧
      R (.ok (.ret (.ref (s.heap.push o).objs.size))) { s with heap := (s.heap.push o).push { cls := .type "enumerate", data := .fields #[.none, .bool false, .ref s.heap.objs.size, rawInt 0, .none, .none] } }) :=
  .of_wp fun prog w A R s h => by
    obtain ⟨hp, g, d, tk, os⟩ := s; obtain ⟨h1, h⟩ := h
    have hsub := sub_enumerate
    have q1 : ∀ {A' : Around} {E : Value → Shared → Prop} {Q : Value → Shared → Prop}, Q (.ref hp.objs.size) ⟨hp.push o, g, d, tk, os⟩ → wpAny (model prog w) A' (pyIter v) Q E ⟨hp, g, d, tk, os⟩ :=
      fun q => B.iter prog w _ _ ⟨hp, g, d, tk, os⟩ _ h1 q
    wp_walk using q1
    refine wpAny_stack_any fun st => wpAny_pure ?_
    split
    · rename_i c _ _ _ _ _
      cases (c == Value.type "enumerate")
      · wp_walk using q1
        exact ⟨_, rfl, h⟩
      · wp_walk using q1
        exact ⟨_, rfl, h⟩
    · wp_walk using q1
      exact ⟨_, rfl, h⟩
section
variable {prog : Program} {w : World} {A : Around} {E : Value → Shared → Prop} {s : Shared}
theorem call_enumerate_tuple {l : Addr} {items : Array Value} {Q : Value → Shared → Prop} (hL : s.heap.IsTuple l items)
    (h : ∀ h', IsEnum h' (s.heap.objs.size + 1) s.heap.objs.size 0 .none → h'.IsTupleIter s.heap.objs.size l 0 → h'.objs.size = s.heap.objs.size + 2 →
      (∀ b o, s.heap.get? b = some o → h'.get? b = some o) → Q (.ref (s.heap.objs.size + 1)) { s with heap := h' }) :
    wpAny (model prog w) A (call (.type "enumerate") [.ref l]) Q E s := by
  refine callType_new F.called_enumerate (by decide) (F.typeCall_enumerate_1 _) (F.newCall_enumerate_1 _) (fun obj => F.args_object_init_2 obj _) F.entry_enumerate_new
    (meets_enumerate_newT (begins_tuple l items)) ⟨hL, ?_⟩
  have hz : (s.heap.push { cls := .type "tuple_iterator", data := .fields #[.ref l, .int 0 0] }).objs.size = s.heap.objs.size + 1 := Heap.size_push ..
  show _ ∧ _
  rw [hz]
  have he : IsEnum ((s.heap.push { cls := .type "tuple_iterator", data := .fields #[.ref l, .int 0 0] }).push
      { cls := .type "enumerate", data := .fields #[.none, .bool false, .ref s.heap.objs.size, rawInt 0, .none, .none] }) (s.heap.objs.size + 1) s.heap.objs.size 0 .none := by
    have := Heap.get?_push_size (s.heap.push { cls := .type "tuple_iterator", data := .fields #[.ref l, .int 0 0] })
      (o := { cls := .type "enumerate", data := .fields #[.none, .bool false, .ref s.heap.objs.size, rawInt 0, .none, .none] }) rfl
    rw [hz] at this; exact this
  refine ⟨⟨_, he, rfl⟩, h _ he ⟨_, Heap.get?_push_of_some _ (Heap.get?_push_size _ rfl), rfl, rfl⟩ (by rw [Heap.size_push, hz]) fun b o x => Heap.get?_push_of_some _ (Heap.get?_push_of_some _ x)⟩
theorem wpAny_pyNext_enum_endT {e it a : Addr} {j : Nat} {items : Array Value} {i : Int} {old : Value} {Q : Option Value → Shared → Prop} (hh : A.handled = none)
    (he : IsEnum s.heap e it i old) (hit : s.heap.IsTupleIter it a j) (ht : s.heap.IsTuple a items) (hx : items[j]? = none)
    (hQ : ∀ h', Heap.ExtBut it s.heap h' → Q none { s with heap := h' }) : wpAny (model prog w) A (pyNext (.ref e)) Q E s := by
  have hT : s.TypeIs (.ref e) "enumerate" := ⟨_, he, rfl⟩
  unfold pyNext
  refine wpAny_bind (wpAny_attempt (wpAny_callSpecial?_slot (name := Str.ofString "__next__") hT F.slot_enumerate_next
    (wpAny_call_entry F.slot_enumerate_next hT F.entry_enumerate_next ?_ (F.args_enumerate_next_1 _))))
  show wpAny _ _ (field (.ref e) 2 >>= _) _ _ _
  refine wpAny_bind (wpAny_field he rfl (x := .ref it) rfl ?_)
  refine wpAny_bind (wpAny_nextOf_tuple_end hh hit ht hx fun h' x he' hx' => ?_)
  obtain ⟨o, ho, hc⟩ := hx'
  refine wpAny_bind (wpAny_isInstance (T := "StopIteration") (b := true) ⟨o, ho, hc⟩ isSubtype_stop ?_)
  exact wpAny_pure (hQ _ he')
end
def IteT (K : PySem.W.Frag) (a : Addr) : It :=
  ⟨fun i H => ∃ (xs : List V) (x : V), SqT K H a xs ∧ xs[i]? = some x, fun i H v H' => ∃ T x, v = .ref T ∧ H T = none ∧ H' = upd H T (.tup [.int (i : Nat), x]) ∧ ∀ xs, SqT K H a xs → xs[i]? = some x, fun i H => ∃ xs : List V, SqT K H a xs ∧ xs.length ≤ i⟩
theorem turn_enumT {P : Program} {w : World} {K : PySem.W.Frag} {elts : List Expr} {kk : Nat} {tpos : Pos} (a e it : Addr) :
    Turn P w K (.Tuple elts kk tpos) (IteT K a) [e, it] e (fun i h => (∃ old, IsEnum h e it ((i : Nat) : Int) old) ∧ h.IsTupleIter it a i ∧ e ≠ it) where
  mem := by simp
  obj := fun i h st b hb => by
    obtain ⟨⟨old, he⟩, ⟨o, ho, hc, hd⟩, _⟩ := st
    have e' : b = e ∨ b = it := by simpa using hb
    rcases e' with z | z
    · rw [z]; exact ⟨_, he, fun v q => nomatch q⟩
    · rw [z]; exact ⟨o, ho, fun v q => by rw [hd] at q; cases q⟩
  keep := fun i h h' st k => let ⟨⟨old, he⟩, hi, hne⟩ := st; ⟨⟨old, k e (by simp) _ he⟩, hi.at fun o q => k it (by simp) o q, hne⟩
  item := by
    intro X hP hw hK hc i pins s σ H E I hf st hg
    subst hP hw hK
    obtain ⟨⟨old, he⟩, hit, hne⟩ := st
    obtain ⟨xs, x, hq, hx⟩ := hg
    obtain ⟨its, rv, p, hz⟩ := I.tuple hq
    obtain ⟨u, hu, ru⟩ := rv.get hx
    have hel : e < s.heap.objs.size := Heap.lt_size he
    have hil : it < s.heap.objs.size := by obtain ⟨_, q, _⟩ := hit; exact Heap.lt_size q
    have hpt : s.heap.IsTuple a its.toArray := p
    have hae : a ≠ e := fun z => by
      obtain ⟨o, q, c, _⟩ := hpt
      rw [z, he] at q; cases q; simp at c
    have hai : a ≠ it := fun z => by
      obtain ⟨o, q, c, _⟩ := hpt
      obtain ⟨o2, q2, c2, _⟩ := hit
      rw [z, q2] at q; cases q; rw [c2] at c; simp at c
    have hlt : i < its.toArray.size := by
      refine Classical.byContradiction fun n => ?_
      have : its[i]? = none := List.getElem?_eq_none (by simpa using n)
      rw [this] at hu; cases hu
    refine wpAny_pyNext_enum_itemD (Draws.tuple (prog := X.prog) (w := X.w) (A := X.A.in1) (I.ok.hd hc) it a hai its.toArray) he (And.intro hit hpt) hlt hne (fun z => by
      have e' : e = it ∨ e = a := by simpa using z
      exact e'.elim hne fun z => hae z.symm) fun u' h' tk hu' ho st' hT hsz hk => ?_
    obtain ⟨hit', hpt'⟩ := st'
    have : u' = u := by
      have : its[i]? = some u' := by simpa using hu'
      rw [hu] at this; cases this; rfl
    subst this
    refine ⟨_, rfl, wpAny_letOwnedTupleGo_enum (s := { s with heap := h', toks := tk + 1 }) ho fun h'' he' sb => ?_⟩
    have hT2 : h''.get? s.heap.objs.size = some { cls := .type "tuple", data := .seq #[.int i tk, u'] } := (sb.2 _ (Nat.ne_of_gt hel)).trans hT
    have new : ObjOk X.prog X.w (upd H s.heap.objs.size (.tup [.int (i : Nat), x])) h'' s.heap.objs.size (.tup [.int (i : Nat), x]) :=
      ⟨by show 2 ≤ sizeLine; decide, [.int i tk, u'], .cons ⟨_, rfl⟩ (.cons ru .nil), ⟨_, hT2, rfl, _, rfl⟩⟩
    have I1 : Inv X pins σ (upd H s.heap.objs.size (.tup [.int (i : Nat), x])) { s with heap := h'', toks := tk + 1 } :=
      I.turnedNew (ch := [e, it]) (fun b ob hb q => (sb.2 b (fun z => hb (by simp [z]))).trans (hk b ob (fun z => hb (by simp [z])) (fun z => hb (by simp [z])) q)) hf (Nat.le_refl _) new
    refine ⟨.ref s.heap.objs.size, _, I1, rfl, ⟨_, x, rfl, I.hok.fresh (Nat.le_refl _), rfl, fun ys hy => by rw [I.tuple_inj hy hq]; exact hx⟩, ⟨⟨u', ?_⟩, hit'.at fun o q => (sb.2 it (Ne.symm hne)).trans q, hne⟩, fun b hb => ?_⟩
    · have e1 : ((i + 1 : Nat) : Int) = (i : Int) + 1 := by omega
      rw [e1]; exact he'
    · have hb' : b < s.heap.objs.size := by
        have e' : b = e ∨ b = it := by simpa using hb
        rcases e' with z | z
        · rw [z]; exact hel
        · rw [z]; exact hil
      rw [upd_ne (Nat.ne_of_lt hb')]
      exact (hf b hb).1
  done := by
    intro X hP hw hK hc i pins s σ H E I hf st hg
    subst hP hw hK
    obtain ⟨⟨old, he⟩, hit, hne⟩ := st
    obtain ⟨xs, hq, hx⟩ := hg
    obtain ⟨its, rv, p, hz⟩ := I.tuple hq
    obtain ⟨f0, f1, f2, f3, f4, f5⟩ := hf it (by simp)
    have hl := rv.length
    have hpt : s.heap.IsTuple a its.toArray := p
    have hai : a ≠ it := fun z => by
      obtain ⟨o, q, c, _⟩ := hpt
      obtain ⟨o2, q2, c2, _⟩ := hit
      rw [z, q2] at q; cases q; rw [c2] at c; simp at c
    exact wpAny_pyNext_enum_endT (I.ok.hd hc) he hit hpt (by simp; omega) fun h' eb => ⟨rfl, I.turned (t' := s.toks) (fun b o hb q => eb b o hb q) f0 f1 f3 f4 f5⟩
  self := fun A i s Q E st h => let ⟨⟨_, he⟩, _⟩ := st; wpAny_pyIter_enum he h
def iEnumA (K : PySem.W.Frag) (ta : TA) : TI := fun σ H R => ta σ H fun vs H1 => ∃ a xs, vs = [.ref a] ∧ ((SqL K H1 a xs ∧ R (Ite K a) H1) ∨ (SqT K H1 a xs ∧ R (IteT K a) H1))
theorem pi_enumA {X : Cx} {e : Expr} {ta : TA} {p pos tpos : Pos} {elts : List Expr} {kk : Nat} (hg : Gl X "enumerate") (hm : X.mg "enumerate" = none) (ha : PA X [e] ta) (hs : starEach [e] X.env = [(false, eval e X.env)] := by rfl) :
    PI X (.Tuple elts kk tpos) (.Call (.Name "enumerate" p) [e] [] pos) (iEnumA X.K ta) := by
  refine ⟨fun pins s σ H R I h => ?_⟩
  refine Call_ (ld_blt I hg hm boot_enumerate (PyProof.Rows.callWith_type1 (thn (ha.run pos pins s σ H _ I h) fun us s1 ⟨vs, H1, I1, r1, q1⟩ => ?_) hs rfl))
  obtain ⟨a, xs, ex, hq⟩ := q1
  subst ex
  cases r1 with
  | cons r rr =>
    cases rr
    cases r
    rcases hq with ⟨hq, q⟩ | ⟨hq, q⟩
    · obtain ⟨its, rv, p', hz⟩ := I1.list hq
      refine call_enumerate_list p'.isList fun h' he hit hsz hk => wpAny_pyIter_enum he ?_
      have I2 : Inv X pins σ H1 { s1 with heap := h' } := I1.kept (t' := s1.toks) hk
      refine ⟨s1.heap.objs.size + 1, [s1.heap.objs.size + 1, s1.heap.objs.size], _, _, H1, rfl, I2, turn_enum a (s1.heap.objs.size + 1) s1.heap.objs.size, ⟨⟨.none, he⟩, hit, Nat.succ_ne_self _⟩, fun b hb => ?_, q⟩
      have e' : b = s1.heap.objs.size + 1 ∨ b = s1.heap.objs.size := by simpa using hb
      have hle : s1.heap.objs.size ≤ b := by
        rcases e' with z | z
        · rw [z]; exact Nat.le_add_right _ _
        · rw [z]; exact Nat.le_refl _
      exact I1.fpOk hle (I1.hok.fresh hle)
    · obtain ⟨its, rv, p', hz⟩ := I1.tuple hq
      refine call_enumerate_tuple p' fun h' he hit hsz hk => wpAny_pyIter_enum he ?_
      have I2 : Inv X pins σ H1 { s1 with heap := h' } := I1.kept (t' := s1.toks) hk
      refine ⟨s1.heap.objs.size + 1, [s1.heap.objs.size + 1, s1.heap.objs.size], _, _, H1, rfl, I2, turn_enumT a (s1.heap.objs.size + 1) s1.heap.objs.size, ⟨⟨.none, he⟩, hit, Nat.succ_ne_self _⟩, fun b hb => ?_, q⟩
      have e' : b = s1.heap.objs.size + 1 ∨ b = s1.heap.objs.size := by simpa using hb
      have hle : s1.heap.objs.size ≤ b := by
        rcases e' with z | z
        · rw [z]; exact Nat.le_add_right _ _
        · rw [z]; exact Nat.le_refl _
      exact I1.fpOk hle (I1.hok.fresh hle)
theorem walk_enumT {K : PySem.W.Frag} {a : Addr} {xs : List V} : Walk (IteT K a) xs.length (fun H => SqT K H a xs) (YPair (fun i => some (.int (i : Nat))) (fun i => xs[i]?)) := by
  refine ⟨fun i _ hi q => ⟨xs, xs[i], q, by simp [hi]⟩, fun _ q => ⟨xs, q, Nat.le_refl _⟩, fun i H v H' _ q y => ?_⟩
  obtain ⟨T, x, h1, h2, h3, h4⟩ := y
  exact ⟨T, .int (i : Nat), x, h1, h2, h3, rfl, h4 xs q⟩
end RE
namespace G
open PySem PySem.Spec PyProof.Rows L2
section
variable {C : Nm} {F : Fm} {cal : Call} {X : Cx} {sc : Scope}
theorem enum_at {xs : List D} {i : Nat} {d e z : D} (hd : some (D.int (i : Nat)) = some d) (he : xs[i]? = some e) (hz : ((xs.zipIdx).map fun p => D.tup [.int (p.2 : Nat), p.1])[i]? = some z) : z = .tup [d, e] := by
  cases hd
  rw [List.getElem?_map] at hz
  obtain ⟨⟨u, k⟩, h1, rfl⟩ := Option.map_eq_some_iff.mp hz
  rw [List.getElem?_zipIdx] at h1
  obtain ⟨u', h2, h3⟩ := Option.map_eq_some_iff.mp h1
  rw [he] at h2
  cases h2
  cases h3
  simp
theorem snd_enum (hx : XOk C F cal X sc) {a : Expr} {elts : List Expr} {kk : Nat} {ia : E} {p pos tpos : Pos} (hg : isGlob (sc.names.lookup ("enumerate" : Str)) = true) (hm : X.mg "enumerate" = none) (ok : okE a = true) (h : PE X a (tE F cal ia)) :
    PI X (.Tuple elts kk tpos) (.Call (.Name "enumerate" p) [a] [] pos) (tI F cal (.enum ia)) := by
  refine (RE.pi_enumA (hx.gl hg) hm (snd_cons ok h snd_nil) (by rw [okE.star ok]; rfl)).imp fun σ H R ⟨Z, ρ, ds, ρ', f, e, q⟩ => ?_
  simp only [evalI] at e
  obtain ⟨r, ρ1, e1, e2⟩ := Res.bind_ok e
  obtain ⟨e3, rfl⟩ := optR_ok e2
  have ev : evalEs cal [ia] ρ = .ok [r.1] ρ' := by simp only [evalEs, e1, Res.bind]
  refine ⟨Z, ρ, _, _, f, ev, fun vs H1 Z1 g rr => ?_⟩
  cases rr with
  | cons r1 r2 =>
    cases r2
    unfold enumE at e3
    split at e3
    · rename_i xs hd
      cases e3
      rw [hd] at r1
      obtain ⟨pa, vs, rfl, h1, n, rr⟩ := r1.lstE
      · refine ⟨pa, vs, rfl, .inl ⟨.of h1, q _ H1 Z1 g (walks_pair (f := fun i => some (.int (i : Nat))) (g := fun i => xs[i]?) (walk_enum (K := X.K) (xs := vs)) ?_ ?_ ?_ ?_ ?_)⟩⟩
        · rw [rr.len]; simp
        · exact fun H2 Z2 ad => .of (ad.keep _ _ h1 n)
        · intro H2 Z2 i x ad hx; cases hx; exact ⟨_, rfl, .int _⟩
        · intro H2 Z2 i x ad hx; exact (ad.repA rr).getV hx
        · intro i d e hd he z hz; exact enum_at hd he hz
    · rename_i xs hd
      cases e3
      rw [hd] at r1
      obtain ⟨pa, vs, rfl, h1, rr⟩ := r1.tupE
      · refine ⟨pa, vs, rfl, .inr ⟨hx.hK ▸ h1, q _ H1 Z1 g (walks_pair (f := fun i => some (.int (i : Nat))) (g := fun i => xs[i]?) (RE.walk_enumT (K := X.K) (xs := vs)) ?_ ?_ ?_ ?_ ?_)⟩⟩
        · rw [rr.len]; simp
        · exact fun H2 Z2 ad => hx.hK ▸ ad.tup h1
        · intro H2 Z2 i x ad hx; cases hx; exact ⟨_, rfl, .int _⟩
        · intro H2 Z2 i x ad hx; exact (ad.repA rr).getV hx
        · intro i d e hd he z hz; exact enum_at hd he hz
    · cases e3
end
end G
end

section
set_option maxHeartbeats 4000000
namespace G
open PySem PySem.Spec PyProof.Rows L2

section
variable {F : Fm} {σ σ' : L2.St} {H H1 H2 H' : Hp} {Z Z1 Z2 Z' : Zs} {ρ ρ1 ρ2 ρ' : Env} {cal : Call}
/-- a slot takes a value -/
theorem Fra.put (f : Fra F Z H σ ρ) {i : Nat} (hi : i < ρ.length) {x : V} {s : S} (hs : Slot F Z H (some (some x)) s) (hn : s.mine = true → ∀ b, x = .ref b → ¬ Ws σ ρ b) : Fra F Z H (σ.set i (some x)) (ρ.set i s) := by
  have hiσ : i < σ.length := by rw [f.len]; exact hi
  have get : ∀ {j : Nat} {t : S}, (ρ.set i s)[j]? = some t → (j = i ∧ t = s) ∨ (j ≠ i ∧ ρ[j]? = some t ∧ (σ.set i (some x))[j]? = σ[j]?) := fun {j t} e => by
    by_cases hj : j = i
    · subst hj
      rw [List.getElem?_set_self hi] at e
      cases e
      exact .inl ⟨rfl, rfl⟩
    · rw [List.getElem?_set_ne (Ne.symm hj)] at e
      exact .inr ⟨hj, e, List.getElem?_set_ne (Ne.symm hj)⟩
  refine ⟨by rw [List.length_set, List.length_set]; exact f.len, f.zl, fun j t e => ?_, fun j k t u b e1 e2 m1 m2 q1 q2 => ?_, f.z0, f.h0, f.h0n⟩
  · rcases get e with ⟨rfl, rfl⟩ | ⟨_, e, eq⟩
    · rw [List.getElem?_set_self hiσ]; exact hs
    · rw [eq]; exact f.slot j t e
  · rcases get e1 with ⟨j1, t1⟩ | ⟨h1, g1, eq1⟩
    · rcases get e2 with ⟨k1, u1⟩ | ⟨h2, g2, eq2⟩
      · rw [j1, k1]
      · rw [j1, List.getElem?_set_self hiσ] at q1
        cases q1
        exact absurd ⟨k, u, g2, m2, eq2 ▸ q2⟩ (hn (t1 ▸ m1) b rfl)
    · rcases get e2 with ⟨k1, u1⟩ | ⟨h2, g2, eq2⟩
      · rw [k1, List.getElem?_set_self hiσ] at q2
        cases q2
        exact absurd ⟨j, t, g1, m1, eq1 ▸ q1⟩ (hn (u1 ▸ m2) b rfl)
      · exact f.inj j k t u b g1 g2 m1 m2 (eq1 ▸ q1) (eq2 ▸ q2)
/-- slots at is may have been bound anew, to data -/
structure Bd (is : List Nat) (σ : L2.St) (ρ : Env) (σ' : L2.St) (ρ' : Env) : Prop where
  out : ∀ j, j ∉ is → σ'[j]? = σ[j]? ∧ ρ'[j]? = ρ[j]?
  ws : ∀ b, Ws σ' ρ' b → Ws σ ρ b
  wo : ∀ b, Wo σ' ρ' b → Wo σ ρ b
theorem Bd.refl : Bd [] σ ρ σ ρ := ⟨fun _ _ => ⟨rfl, rfl⟩, fun _ h => h, fun _ h => h⟩
theorem Bd.trans {is js : List Nat} {σ1 σ2 : L2.St} {ρ1 ρ2 : Env} (a : Bd is σ ρ σ1 ρ1) (b : Bd js σ1 ρ1 σ2 ρ2) : Bd (is ++ js) σ ρ σ2 ρ2 :=
  ⟨fun j n => by
    have h1 : j ∉ is := fun h => n (List.mem_append_left _ h)
    have h2 : j ∉ js := fun h => n (List.mem_append_right _ h)
    exact ⟨(b.out j h2).1.trans (a.out j h1).1, (b.out j h2).2.trans (a.out j h1).2⟩, fun c h => a.ws c (b.ws c h), fun c h => a.wo c (b.wo c h)⟩
theorem Bd.one {i : Nat} {x : V} {d : D} (hi : i < ρ.length) : Bd [i] σ ρ (σ.set i (some x)) (ρ.set i (.v d)) := by
  have get : ∀ {j : Nat} {t : S}, (ρ.set i (.v d))[j]? = some t → t.mine = true → j ≠ i ∧ ρ[j]? = some t := fun {j t} e m => by
    by_cases hj : j = i
    · subst hj
      rw [List.getElem?_set_self hi] at e
      cases e
      cases m
    · rw [List.getElem?_set_ne (Ne.symm hj)] at e
      exact ⟨hj, e⟩
  refine ⟨fun j n => ?_, fun b ⟨j, t, e, m, q⟩ => ?_, fun b ⟨j, t, e, m, q⟩ => ?_⟩
  · have hj : i ≠ j := fun h => n (by simp [h])
    exact ⟨List.getElem?_set_ne hj, List.getElem?_set_ne hj⟩
  · obtain ⟨h1, h2⟩ := get e m
    rw [List.getElem?_set_ne (Ne.symm h1)] at q
    exact ⟨j, t, h2, m, q⟩
  · have m' : t.mine = true := by cases t <;> first | rfl | cases m
    obtain ⟨h1, h2⟩ := get e m'
    rw [List.getElem?_set_ne (Ne.symm h1)] at q
    exact ⟨j, t, h2, m, q⟩
end

/-- targets -/
def tP (F : Fm) (p : P) : TG := fun v σ H Q => ∃ Z ρ d ρ', Fra F Z H σ ρ ∧ Rep F.K H Z v d ∧ bindP p d ρ = some ρ' ∧ ∀ σ', Fra F Z H σ' ρ' → Bd p.slots σ ρ σ' ρ' → Q σ' H
def tPs (F : Fm) (ps : List P) : TGs := fun vs σ H Q => ∃ Z ρ ds ρ', Fra F Z H σ ρ ∧ RepA F.K H Z vs ds ∧ bindPs ps ds ρ = some ρ' ∧ ∀ σ', Fra F Z H σ' ρ' → Bd (slotsPs ps) σ ρ σ' ρ' → Q σ' H
theorem _root_.L2.PG.imp {X : Cx} {e : Expr} {t t' : TG} (h : PG X e t) (i : ∀ v σ H Q, t' v σ H Q → t v σ H Q) : PG X e t' := ⟨fun pins s σ H v u Q I r q => h.run pins s σ H v u Q I r (i v σ H Q q)⟩
theorem _root_.L2.PGs.imp {X : Cx} {e : List Expr} {t t' : TGs} (h : PGs X e t) (i : ∀ v σ H Q, t' v σ H Q → t v σ H Q) : PGs X e t' := ⟨fun pins s σ H v u Q I r q => h.run pins s σ H v u Q I r (i v σ H Q q)⟩

theorem _root_.L2.PG.or {X : Cx} {e : Expr} {t t' : TG} (h : PG X e t) (h' : PG X e t') : PG X e (fun v σ H Q => t v σ H Q ∨ t' v σ H Q) := ⟨fun pins s σ H v u Q I r q => q.elim (h.run pins s σ H v u Q I r) (h'.run pins s σ H v u Q I r)⟩
/-- the names of the scope sp may be stored -/
def Sto (X : Cx) (sp : Scope) : Prop := ∀ x, ownKind (sp.names.lookup x) = true → Loc X.env.scope x ∧ (X.fn x = true ∨ X.env.scope.names.lookup x = some .local)
/-- what a target looks like -/
def okP : Expr → Bool
  | .Name .. | .Tuple .. => true
  | _ => false
theorem okP.each {e : Expr} {es : List Expr} {env : PySem.Env} (h : okP e = true) : assignEach (e :: es) env = (false, assign e env) :: assignEach es env := by
  cases e <;> first | rfl | cases h
theorem each_ok {es : List Expr} {env : PySem.Env} (h : ∀ e ∈ es, okP e = true) : (assignEach es env).length = es.length ∧ (assignEach es env).findIdx? (·.1) = none := by
  induction es with
  | nil => exact ⟨rfl, rfl⟩
  | cons e es ih =>
    obtain ⟨h1, h2⟩ := ih fun a ha => h a (List.mem_cons_of_mem _ ha)
    rw [okP.each (h e List.mem_cons_self)]
    refine ⟨by simp [h1], ?_⟩
    rw [List.findIdx?_cons]
    simp [h2]
section
variable {C : Nm} {F : Fm} {cal : Call}
theorem bindPs_len : ∀ {ps : List P} {ds : List D} {ρ ρ' : Env}, bindPs ps ds ρ = some ρ' → ds.length = ps.length
  | [], [], _, _, _ => rfl
  | [], _ :: _, _, _, h => by simp [bindPs] at h
  | _ :: _, [], _, _, h => by simp [bindPs] at h
  | p :: ps, d :: ds, ρ, ρ', h => by
    simp only [bindPs] at h
    obtain ⟨ρ1, _, h2⟩ := Option.bind_eq_some_iff.mp h
    rw [List.length_cons, bindPs_len h2]; rfl
theorem snd_pn {X : Cx} {sc sp : Scope} (hx : XOk C F cal X sc) (st : Sto X sp) {x : Str} {i : Nat} {pos : Pos} (ho : ownKind (sp.names.lookup x) = true) (hi : ixOf C.N x = some i) : PG X (.Name x pos) (tP F (.n i)) := by
  obtain ⟨h1, h2⟩ := st x ho
  refine (pg_name (i := i) (by rw [hx.hN]; exact hx.nd) (by rw [hx.hN]; exact ixOf_get hi) h1 h2).imp fun v σ H Q ⟨Z, ρ, d, ρ', f, r, b, q⟩ => ?_
  simp only [bindP] at b
  split at b
  · rename_i hl
    cases b
    exact q _ (f.put hl ⟨v, rfl, r⟩ fun m => nomatch m) (Bd.one hl)
  · cases b
theorem snd_P : ∀ (n : Nat), (∀ (X : Cx) (sc sp : Scope) (e : Expr) (p : P), XOk C F cal X sc → Sto X sp → xP C sp n e = some p → okP e = true ∧ PG X e (tP F p)) ∧
    (∀ (X : Cx) (sc sp : Scope) (es : List Expr) (ps : List P), XOk C F cal X sc → Sto X sp → xPs C sp n es = some ps → (∀ e ∈ es, okP e = true) ∧ ps.length = es.length ∧ PGs X es (tPs F ps)) := by
  intro n
  induction n with
  | zero => exact ⟨fun _ _ _ _ _ _ _ h => by simp [xP] at h, fun _ _ _ _ _ _ _ h => by simp [xPs] at h⟩
  | succ n ih =>
    refine ⟨fun X sc sp e p hx st h => ?_, fun X sc sp es ps hx st h => ?_⟩
    · cases e <;> simp only [xP, reduceCtorEq] at h
      case Name x pos =>
        split at h
        · rename_i ho
          simp only [Bool.and_eq_true] at ho
          obtain ⟨i, hi, rfl⟩ := Option.map_eq_some_iff.mp h
          exact ⟨rfl, snd_pn hx st ho.2 hi⟩
        · cases h
      case Tuple es k pos =>
        obtain ⟨ps, hps, rfl⟩ := Option.map_eq_some_iff.mp h
        obtain ⟨ok, hl, pg⟩ := ih.2 X sc sp es ps hx st hps
        obtain ⟨e1, e2⟩ := each_ok (env := X.env) ok
        refine ⟨rfl, ((pg_tup hx.calm pg e1 e2).or (pg_unl hx.calm pg e1 e2)).imp fun v σ H Q ⟨Z, ρ, d, ρ', f, r, b, q⟩ => ?_⟩
        cases d <;> simp only [bindP, reduceCtorEq] at b
        · obtain ⟨a, xs, rfl, h1, rr⟩ := r.tupE
          exact .inl ⟨a, xs, rfl, by rw [hx.hK]; exact h1, by rw [rr.len, bindPs_len b, hl], Z, ρ, _, ρ', f, rr, b, q⟩
        · cases r with
          | lst h1 n rr => exact .inr ⟨_, _, rfl, .of h1, by rw [rr.len, bindPs_len b, hl], Z, ρ, _, ρ', f, rr, b, q⟩
    · cases es with
      | nil =>
        simp only [xPs] at h
        cases h
        refine ⟨(fun _ he => nomatch he), rfl, pgs_nil.imp fun v σ H Q ⟨Z, ρ, ds, ρ', f, r, b, q⟩ => ?_⟩
        cases ds <;> simp only [bindPs, reduceCtorEq] at b
        cases b
        cases r
        exact ⟨rfl, q σ f Bd.refl⟩
      | cons e es =>
        simp only [xPs, Option.bind_eq_bind, Option.bind_eq_some_iff] at h
        obtain ⟨p, hp, ps', hps, h⟩ := h
        cases h
        obtain ⟨ok1, pg1⟩ := ih.1 X sc sp e p hx st hp
        obtain ⟨ok2, hl, pg2⟩ := ih.2 X sc sp es ps' hx st hps
        have okk : ∀ a ∈ e :: es, okP a = true := fun a ha => (List.mem_cons.mp ha).elim (fun h => h ▸ ok1) (ok2 a)
        have hll : (p :: ps').length = (e :: es).length := by rw [List.length_cons, List.length_cons, hl]
        refine ⟨okk, hll, (pgs_cons pg1 pg2 (by rw [okP.each ok1]; rfl)).imp fun v σ H Q ⟨Z, ρ, ds, ρ', f, r, b, q⟩ => ?_⟩
        cases ds <;> simp only [bindPs, reduceCtorEq] at b
        obtain ⟨ρ1, b1, b2⟩ := Option.bind_eq_some_iff.mp b
        cases r with
        | cons r1 r2 =>
          refine ⟨_, _, rfl, Z, ρ, _, ρ1, f, r1, b1, fun σ1 f1 d1 => ⟨Z, ρ1, _, ρ', f1, r2, b2, fun σ2 f2 d2 => q σ2 f2 (d1.trans d2)⟩⟩
end
end G
end

section
set_option maxHeartbeats 4000000
namespace G
open PySem PySem.Spec PyProof.Rows L2

section
variable {F : Fm} {σ σ' : L2.St} {H H1 H2 H' : Hp} {Z Z1 Z2 Z' : Zs} {ρ ρ1 ρ2 ρ' : Env} {cal : Call}
theorem hide_get {v j : Nat} {t : S} (e : (ρ.set v .no)[j]? = some t) (m : t.mine = true) : j ≠ v ∧ ρ[j]? = some t := by
  by_cases hj : j = v
  · subst hj
    by_cases hl : j < ρ.length
    · rw [List.getElem?_set_self hl] at e
      cases e
      cases m
    · rw [List.getElem?_eq_none (by simpa using hl)] at e; cases e
  · rw [List.getElem?_set_ne (Ne.symm hj)] at e
    exact ⟨hj, e⟩
theorem Fra.hide (f : Fra F Z H σ ρ) (v : Nat) : Fra F Z H (σ.set v none) (ρ.set v .no) := by
  refine ⟨by rw [List.length_set, List.length_set]; exact f.len, f.zl, fun j t e => ?_, fun j k t u b e1 e2 m1 m2 q1 q2 => ?_, f.z0, f.h0, f.h0n⟩
  · by_cases hj : j = v
    · subst hj
      by_cases hl : j < ρ.length
      · rw [List.getElem?_set_self hl] at e
        cases e
        trivial
      · rw [List.getElem?_eq_none (by simpa using hl)] at e; cases e
    · rw [List.getElem?_set_ne (Ne.symm hj)] at e ⊢
      exact f.slot j t e
  · obtain ⟨h1, g1⟩ := hide_get e1 m1
    obtain ⟨h2, g2⟩ := hide_get e2 m2
    rw [List.getElem?_set_ne (Ne.symm h1)] at q1
    rw [List.getElem?_set_ne (Ne.symm h2)] at q2
    exact f.inj j k t u b g1 g2 m1 m2 q1 q2
theorem Fra.wipe (f : Fra F Z H σ ρ) : ∀ vs : List Nat, Fra F Z H (L2.wipe σ vs) (G.wipe ρ vs)
  | [] => f
  | v :: vs => (Fra.wipe f vs).hide v
theorem wipe_len : ∀ vs : List Nat, (G.wipe ρ vs).length = ρ.length
  | [] => rfl
  | v :: vs => by unfold G.wipe; rw [List.length_set, wipe_len vs]
theorem wipe_get {j : Nat} {t : S} : ∀ {vs : List Nat}, (G.wipe ρ vs)[j]? = some t → t.mine = true → j ∉ vs ∧ ρ[j]? = some t
  | [], e, _ => ⟨by simp, e⟩
  | v :: vs, e, m => by
    obtain ⟨h1, h2⟩ := hide_get (ρ := G.wipe ρ vs) e m
    obtain ⟨h3, h4⟩ := wipe_get h2 m
    exact ⟨by simp [h1, h3], h4⟩
theorem wipe_put {j : Nat} {t : S} : ∀ {vs : List Nat}, j ∉ vs → ρ[j]? = some t → (G.wipe ρ vs)[j]? = some t
  | [], _, e => e
  | v :: vs, n, e => by
    unfold G.wipe
    rw [List.getElem?_set_ne (fun h => n (by simp [h]))]
    exact wipe_put (fun h => n (List.mem_cons_of_mem _ h)) e
theorem isOwn_mine {t : S} (m : t.isOwn = true) : t.mine = true := by cases t <;> first | rfl | cases m
theorem Ws.wipe {vs : List Nat} {b : Addr} (h : Ws (L2.wipe σ vs) (G.wipe ρ vs) b) : Ws σ ρ b := by
  obtain ⟨j, t, e, m, q⟩ := h
  obtain ⟨h1, h2⟩ := wipe_get e m
  rw [wipe_out h1] at q
  exact ⟨j, t, h2, m, q⟩
theorem Wo.wipe {vs : List Nat} {b : Addr} (h : Wo (L2.wipe σ vs) (G.wipe ρ vs) b) : Wo σ ρ b := by
  obtain ⟨j, t, e, m, q⟩ := h
  obtain ⟨h1, h2⟩ := wipe_get e (isOwn_mine m)
  rw [wipe_out h1] at q
  exact ⟨j, t, h2, m, q⟩
theorem hides_get : ∀ {vs : List Nat} {j : Nat} {t : S}, hides ρ vs = true → j ∈ vs → ρ[j]? = some t → t.mine = false
  | v :: vs, j, t, h, hj, e => by
    unfold hides at h
    simp only [Bool.and_eq_true] at h
    rcases List.mem_cons.mp hj with rfl | hj
    · have h1 := h.1
      rw [List.getD_eq_getElem?_getD, e] at h1
      cases t <;> first | rfl | cases h1
    · exact hides_get h.2 hj e
theorem back_len : ∀ vs : List Nat, (G.back ρ ρ' vs).length = ρ'.length
  | [] => rfl
  | v :: vs => by unfold G.back; rw [List.length_set, back_len vs]
theorem back_in {j : Nat} : ∀ {vs : List Nat}, j ∈ vs → j < ρ'.length → (G.back ρ ρ' vs)[j]? = some (ρ.getD j .no)
  | v :: vs, h, hl => by
    unfold G.back
    by_cases hj : v = j
    · subst hj
      rw [List.getElem?_set_self (by rw [back_len]; exact hl)]
    · rw [List.getElem?_set_ne hj]
      rcases List.mem_cons.mp h with e | h
      · exact absurd e.symm hj
      · exact back_in h hl
theorem back_out {j : Nat} : ∀ {vs : List Nat}, j ∉ vs → (G.back ρ ρ' vs)[j]? = ρ'[j]?
  | [], _ => rfl
  | v :: vs, n => by
    unfold G.back
    rw [List.getElem?_set_ne (fun h => n (by simp [h]))]
    exact back_out fun h => n (List.mem_cons_of_mem _ h)
/-- the hidden slots come back -/
theorem Fra.unwipe {vs : List Nat} (f : Fra F Z H σ ρ) (hh : hides ρ vs = true) (ad : Adv H Z H' Z') (f' : Fra F Z' H' (L2.wipe σ vs) ρ') : Fra F Z' H' σ (G.back ρ ρ' vs) := by
  have hl : ρ'.length = σ.length := by rw [← f'.len, wipe_length]
  have mine : ∀ {j : Nat} {t : S}, (G.back ρ ρ' vs)[j]? = some t → t.mine = true → j ∉ vs ∧ ρ'[j]? = some t := fun {j t} e m => by
    by_cases hj : j ∈ vs
    · have hl2 : j < ρ'.length := by
        rw [← back_len (ρ := ρ) (ρ' := ρ') vs]; exact (List.getElem?_eq_some_iff.mp e).1
      rw [back_in hj hl2] at e
      have hl3 : j < ρ.length := by rw [← f.len, ← hl]; exact hl2
      have e2 : ρ[j]? = some (ρ.getD j .no) := by rw [List.getD_eq_getElem?_getD, List.getElem?_eq_getElem hl3]; rfl
      cases e
      rw [hides_get hh hj e2] at m; cases m
    · rw [back_out hj] at e; exact ⟨hj, e⟩
  refine ⟨by rw [back_len]; exact hl.symm, f'.zl, fun j t e => ?_, fun j k t u b e1 e2 m1 m2 q1 q2 => ?_, f'.z0, f'.h0, f'.h0n⟩
  · by_cases hj : j ∈ vs
    · have hl2 : j < ρ'.length := by
        rw [← back_len (ρ := ρ) (ρ' := ρ') vs]; exact (List.getElem?_eq_some_iff.mp e).1
      rw [back_in hj hl2] at e
      have hl3 : j < ρ.length := by rw [← f.len, ← hl]; exact hl2
      have e2 : ρ[j]? = some (ρ.getD j .no) := by rw [List.getD_eq_getElem?_getD, List.getElem?_eq_getElem hl3]; rfl
      have m := hides_get hh hj e2
      have q := f.slot j _ e2
      cases e
      generalize ρ.getD j .no = t at m q ⊢
      cases t with
      | no => trivial
      | v d => obtain ⟨x, h1, h2⟩ := q; exact ⟨x, h1, ad.rep h2⟩
      | own d => cases m
      | ref d => cases m
    · rw [back_out hj] at e
      have q := f'.slot j t e
      rw [wipe_out hj] at q
      exact q
  · obtain ⟨h1, g1⟩ := mine e1 m1
    obtain ⟨h2, g2⟩ := mine e2 m2
    rw [← wipe_out h1] at q1
    rw [← wipe_out h2] at q2
    exact f'.inj j k t u b g1 g2 m1 m2 q1 q2
theorem Ws.back {vs : List Nat} {b : Addr} (f : Fra F Z H σ ρ) (hh : hides ρ vs = true) (h : Ws σ (G.back ρ ρ' vs) b) (hl : ρ'.length = ρ.length) : Ws (L2.wipe σ vs) ρ' b := by
  obtain ⟨j, t, e, m, q⟩ := h
  have hj : j ∉ vs := fun hj => by
    have hl2 : j < ρ'.length := by
      rw [← back_len (ρ := ρ) (ρ' := ρ') vs]; exact (List.getElem?_eq_some_iff.mp e).1
    rw [back_in hj hl2] at e
    have hl3 : j < ρ.length := by rw [← hl]; exact hl2
    have e2 : ρ[j]? = some (ρ.getD j .no) := by rw [List.getD_eq_getElem?_getD, List.getElem?_eq_getElem hl3]; rfl
    cases e
    rw [hides_get hh hj e2] at m; cases m
  rw [back_out hj] at e
  exact ⟨j, t, e, m, by rw [wipe_out hj]; exact q⟩
theorem Wo.back {vs : List Nat} {b : Addr} (f : Fra F Z H σ ρ) (hh : hides ρ vs = true) (h : Wo σ (G.back ρ ρ' vs) b) (hl : ρ'.length = ρ.length) : Wo (L2.wipe σ vs) ρ' b := by
  obtain ⟨j, t, e, m, q⟩ := h
  have hj : j ∉ vs := fun hj => by
    have hl2 : j < ρ'.length := by
      rw [← back_len (ρ := ρ) (ρ' := ρ') vs]; exact (List.getElem?_eq_some_iff.mp e).1
    rw [back_in hj hl2] at e
    have hl3 : j < ρ.length := by rw [← hl]; exact hl2
    have e2 : ρ[j]? = some (ρ.getD j .no) := by rw [List.getD_eq_getElem?_getD, List.getElem?_eq_getElem hl3]; rfl
    cases e
    have m' := isOwn_mine m
    rw [hides_get hh hj e2] at m'; cases m'
  rw [back_out hj] at e
  exact ⟨j, t, e, m, by rw [wipe_out hj]; exact q⟩
/-- a protected list that is no slot's is written -/
theorem Fra.poke (f : Fra F Z H σ ρ) {D : Addr} {ys : List V} (hz : Z D) (hn : ¬ Ws σ ρ D) (h0 : F.H0 D = none) : Fra F Z (upd H D (.lst ys)) σ ρ := by
  obtain ⟨xs, hx⟩ := f.zl D hz
  have st : Stp (fun b => b = D) H Z (upd H D (.lst ys)) Z := ⟨fun b o e n => by rw [upd_ne n]; exact e, fun _ z => .inl z, fun b e => e ▸ hz, f.zl⟩
  have keep : ∀ b o, b ≠ D → H b = some o → upd H D (.lst ys) b = some o := fun b o n e => by rw [upd_ne n]; exact e
  refine ⟨f.len, fun b z => ?_, fun j t e => ?_, f.inj, f.z0, fun b o e r => ?_, fun b n => ?_⟩
  · by_cases hb : b = D
    · subst hb; exact ⟨_, upd_same⟩
    · obtain ⟨zs, e⟩ := f.zl b z
      exact ⟨zs, keep b _ hb e⟩
  · have q := f.slot j t e
    cases t with
    | no => trivial
    | v d => obtain ⟨x, h1, h2⟩ := q; exact ⟨x, h1, h2.stp st⟩
    | own d =>
      obtain ⟨b, zs, es, h1, h2, h3, h4, h5, h6⟩ := q
      exact ⟨b, zs, es, h1, h2, keep b _ (fun hb => hn (hb ▸ ⟨j, _, e, rfl, h1⟩)) h3, h4.stp st, h5, h6⟩
    | ref d =>
      obtain ⟨b, zs, es, h1, h2, h3, h4, h5, h6⟩ := q
      exact ⟨b, zs, es, h1, h2, keep b _ (fun hb => hn (hb ▸ ⟨j, _, e, rfl, h1⟩)) h3, h4.stp st, h5, h6⟩
  · refine keep b o (fun hb => ?_) (f.h0 b o e r)
    subst hb; rw [h0] at e; cases e
  · by_cases hb : b = D
    · subst hb; rw [upd_same]; simp
    · rw [upd_ne hb]; exact f.h0n b n
/-- a protected list that is no slot's is let go -/
theorem Fra.drop (f : Fra F Z H σ ρ) {D : Addr} (hn : ¬ Ws σ ρ D) (h0 : ¬ F.Z0 D) : Fra F (fun b => Z b ∧ b ≠ D) H σ ρ := by
  have an : ∀ b, (Z b ∧ b ≠ D) → Z b := fun b h => h.1
  refine ⟨f.len, fun b h => f.zl b h.1, fun j t e => ?_, f.inj, fun b h => ⟨f.z0 b h, fun e => h0 (e ▸ h)⟩, f.h0, f.h0n⟩
  have q := f.slot j t e
  cases t with
  | no => trivial
  | v d => obtain ⟨x, h1, h2⟩ := q; exact ⟨x, h1, h2.anti an⟩
  | own d =>
    obtain ⟨b, zs, es, h1, h2, h3, h4, h5, h6⟩ := q
    exact ⟨b, zs, es, h1, h2, h3, h4.anti an, ⟨h5, fun hb => hn (hb ▸ ⟨j, _, e, rfl, h1⟩)⟩, h6⟩
  | ref d =>
    obtain ⟨b, zs, es, h1, h2, h3, h4, h5, h6⟩ := q
    exact ⟨b, zs, es, h1, h2, h3, h4.anti an, ⟨h5, fun hb => hn (hb ▸ ⟨j, _, e, rfl, h1⟩)⟩, h6⟩
/-- names bound within a turn -/
theorem Go.bd {is : List Nat} (f' : Fra F Z H σ' ρ') (d : Bd is σ ρ σ' ρ') : True := trivial
end
end G
end

section
set_option maxHeartbeats 4000000
namespace G
open PySem PySem.Spec PyProof.Rows L2

mutual
theorem bindP_len : ∀ (p : P) (d : D) (ρ ρ' : Env), bindP p d ρ = some ρ' → ρ'.length = ρ.length
  | .n i, d, ρ, ρ', h => by
    simp only [bindP] at h
    split at h
    · cases h; rw [List.length_set]
    · cases h
  | .t ps, d, ρ, ρ', h => by
    cases d <;> simp only [bindP, reduceCtorEq] at h
    all_goals exact bindPs_len' ps _ ρ ρ' h
theorem bindPs_len' : ∀ (ps : List P) (ds : List D) (ρ ρ' : Env), bindPs ps ds ρ = some ρ' → ρ'.length = ρ.length
  | [], [], _, _, h => by simp only [bindPs] at h; cases h; rfl
  | [], _ :: _, _, _, h => by simp [bindPs] at h
  | _ :: _, [], _, _, h => by simp [bindPs] at h
  | p :: ps, d :: ds, ρ, ρ', h => by
    simp only [bindPs] at h
    obtain ⟨ρ1, h1, h2⟩ := Option.bind_eq_some_iff.mp h
    rw [bindPs_len' ps ds ρ1 ρ' h2, bindP_len p d ρ ρ1 h1]
end
theorem wipe_in {τ : L2.St} {j : Nat} : ∀ {vs : List Nat}, j ∈ vs → j < τ.length → (L2.wipe τ vs)[j]? = some none
  | v :: vs, h, hl => by
    unfold L2.wipe
    by_cases hj : v = j
    · subst hj
      rw [List.getElem?_set_self (by rw [wipe_length]; exact hl)]
    · rw [List.getElem?_set_ne hj]
      rcases List.mem_cons.mp h with e | h
      · exact absurd e.symm hj
      · exact wipe_in h hl
theorem wipe_same {σ τ : L2.St} {vs : List Nat} (hl : τ.length = σ.length) (h : ∀ j, j ∉ vs → τ[j]? = σ[j]?) : L2.wipe τ vs = L2.wipe σ vs := by
  refine List.ext_getElem? fun j => ?_
  by_cases hj : j ∈ vs
  · by_cases h2 : j < σ.length
    · rw [wipe_in hj h2, wipe_in hj (by rw [hl]; exact h2)]
    · rw [List.getElem?_eq_none (by rw [wipe_length, hl]; omega), List.getElem?_eq_none (by rw [wipe_length]; omega)]
  · rw [wipe_out hj, wipe_out hj]; exact h j hj

section
variable {F : Fm} {σ σw σ2 : L2.St} {H H1 H2 H3 H' : Hp} {Z Z1 Zi Z3 Z' : Zs} {ρ ρ0 ρi ρb ρ3 : Env} {cal : Call} {vs : List Nat}
/-- a turn's end: the names are forgotten -/
theorem Go.turn (g : Go F σw H1 Z1 ρ0 H Zi ρi) (hk : ∀ b o, H b = some o → H' b = some o) {is : List Nat} (bd : Bd is σw ρi σ2 ρb) (g3 : Go F σ2 H' Zi ρb H3 Z3 ρ3) (hw : L2.wipe σ2 vs = σw) : Go F σw H1 Z1 ρ0 H3 Z3 (G.wipe ρ3 vs) := by
  have mono : ∀ b, H b ≠ none → H' b ≠ none := fun b n => by
    cases q : H b with
    | none => exact absurd q n
    | some o => rw [hk b o q]; simp
  refine ⟨hw ▸ g3.fr.wipe vs, ⟨fun b o e n => g3.stp.keep b o (hk b o (g.stp.keep b o e n)) fun w => n (g.ws b (bd.ws b w)), fun b z => ?_, g.stp.wz, g.stp.zl⟩, fun b z n => g3.lo b (g.lo b z n) fun w => n (g.wo b (bd.wo b w)), fun b w => ?_, fun b w => ?_, fun b n => g3.mono b (mono b (g.mono b n))⟩
  · rcases g3.stp.zs b z with z | z
    · exact g.stp.zs b z
    · refine .inr (Classical.byContradiction fun n => mono b (g.mono b n) z)
  · rw [← hw] at w
    exact g.ws b (bd.ws b (g3.ws b w.wipe))
  · rw [← hw] at w
    exact g.wo b (bd.wo b (g3.wo b w.wipe))
/-- a protected list that is no slot's is written -/
theorem Go.poke (g : Go F σw H1 Z1 ρ0 H Zi ρi) {D : Addr} {ys : List V} (hD : H1 D = none) (h0 : F.H0 D = none) (hz : Zi D) : Go F σw H1 Z1 ρ0 (L2.upd H D (.lst ys)) Zi ρi := by
  have nw : ∀ {b}, Ws σw ρ0 b → b ≠ D := fun {b} w e => by
    obtain ⟨xs, h⟩ := g.stp.zl b (g.stp.wz b w)
    rw [e, hD] at h; cases h
  refine ⟨g.fr.poke hz (fun w => nw (g.ws D w) rfl) h0, ⟨fun b o e n => ?_, g.stp.zs, g.stp.wz, g.stp.zl⟩, g.lo, g.ws, g.wo, fun b n => ?_⟩
  · have hb : b ≠ D := fun hb => by rw [hb, hD] at e; cases e
    rw [upd_ne hb]; exact g.stp.keep b o e n
  · have hb : b ≠ D := fun hb => n (hb ▸ hD)
    rw [upd_ne hb]; exact g.mono b n
end

section
variable {C : Nm} {F : Fm} {cal : Call} {X : Cx} {sc : Scope}
def tFs (F : Fm) (cal : Call) (ts : List T) : TT := fun σ H Q => ∃ Z ρ b ρ', Fra F Z H σ ρ ∧ evalFs cal ts ρ = .ok b ρ' ∧ ∀ H' Z', Go F σ H Z ρ H' Z' ρ' → Q b H'
/-- [elt for tg in it if ..] -/
theorem lc_reads {vs : List Nat} {p : P} {ii : G.I} {ifs : List T} {ie : E} (hps : ∀ i ∈ p.slots, i ∈ vs) : ∀ σ H Q, tE F cal (.comp vs ie p ii ifs []) σ H Q → tLc (tI F cal ii) (tP F p) (tFs F cal ifs) (tE F cal ie) vs σ H Q := by
  rintro σ H Q ⟨Z, ρ, r, ρ', f, ev, q⟩
  simp only [evalE] at ev
  obtain ⟨xs, ρ1, e1, ev1⟩ := Res.bind_ok ev
  split at ev1
  case isFalse => cases ev1
  rename_i hh
  obtain ⟨ds, ρ2, e2, ev2⟩ := Res.bind_ok ev1
  split at ev2
  case isFalse => cases ev2
  rename_i hz
  cases ev2
  refine ⟨Z, ρ, xs, ρ1, f, e1, fun J H1 Z1 g1 w D hD => ?_⟩
  obtain ⟨G0, Y, wk, hG, hY⟩ := w
  have fw : Fra F Z1 H1 (L2.wipe σ vs) (G.wipe ρ1 vs) := g1.fr.wipe vs
  have h0 : F.H0 D = none := g1.fr.fresh hD
  have lenw : ∀ {Zi Hi ρi}, Fra F Zi Hi (L2.wipe σ vs) ρi → ρi.length = σ.length := fun fi => by rw [← fi.len, wipe_length]
  refine lc_it wk (fun i H => ∃ Zi ρi acc dsi rest, Go F (L2.wipe σ vs) H1 Z1 (G.wipe ρ1 vs) H Zi ρi ∧ Zi D ∧ H D = some (.lst acc) ∧ RepA F.K H Zi acc dsi ∧ turns vs p (evalFs cal ifs) (compE cal (evalE cal ie) []) (xs.drop i) ρi = .ok rest ρ2 ∧ dsi ++ rest = ds) ?_ ?_ ?_ ?_
  · -- the start
    refine ⟨fun b => Z1 b ∨ b = D, G.wipe ρ1 vs, [], [], ds, ⟨upd_zl fw hD, ⟨fun b o e _ => upd_keep hD b o e, fun b z => z.imp id fun e => by subst e; exact hD, fw.wz, fw.zl⟩, fun _ z _ => .inl z, fun _ h => h, fun _ h => h, fun b n => ?_⟩, .inr rfl, upd_same, .nil, by rw [List.drop_zero]; exact e2, rfl⟩
    cases qq : H1 b with
    | none => exact absurd qq n
    | some o => rw [upd_keep hD b o qq]; simp
  · rintro i H hi ⟨Zi, ρi, acc, dsi, rest, g, _⟩
    exact hG H Zi g.adv
  · -- a turn
    rintro i x H H' hi ⟨Zi, ρi, acc, dsi, rest, g, hzD, hDi, racc, hturn, hds⟩ hy
    have hxi : xs[i]? = some xs[i] := List.getElem?_eq_getElem hi
    obtain ⟨hk, rx⟩ := hY i H Zi x H' _ g.adv hxi hy
    have dr : xs.drop i = xs[i] :: xs.drop (i + 1) := List.drop_eq_getElem_cons hi
    rw [dr] at hturn
    simp only [turns] at hturn
    obtain ⟨ρb, ρb', hb0, ht1⟩ := Res.bind_ok hturn
    obtain ⟨hb, rfl⟩ := optR_ok hb0
    obtain ⟨b, ρ3, ht, ht2⟩ := Res.bind_ok ht1
    have gk := Go.grow g.fr hk
    have nD : ∀ {b}, Ws (L2.wipe σ vs) (G.wipe ρ1 vs) b → b ≠ D := fun {b} w e => by
      obtain ⟨xs, h⟩ := g.stp.zl b (g.stp.wz b w)
      rw [e, hD] at h; cases h
    refine ⟨Zi, _, xs[i], ρb, gk.fr, rx, hb, fun σ2 f2 bd => ?_⟩
    have len2 : σ2.length = σ.length := by rw [f2.len, bindP_len _ _ _ _ hb, lenw g.fr]
    have same : L2.wipe σ2 vs = L2.wipe σ vs := wipe_same len2 fun j hj => by
      rw [(bd.out j fun h => hj (hps j h)).1, wipe_out hj]
    refine ⟨same, Zi, ρb, b, ρ3, f2, ht, fun H3 Z3 g3 => ?_⟩
    have hD' : H' D = some (.lst acc) := hk D _ hDi
    have racc' : RepA F.K H' Zi acc dsi := racc.up hk
    have nW : ¬ Ws σ2 ρb D := fun w => nD (g.ws D (bd.ws D w)) rfl
    cases b with
    | false =>
      simp only [Bool.false_eq_true, if_false] at ht2 ⊢
      split at ht2
      case isFalse => cases ht2
      exact ⟨Z3, G.wipe ρ3 vs, acc, dsi, rest, g.turn hk bd g3 same, g3.lo D hzD fun w => nW w.ws, g3.stp.keep D _ hD' nW, g3.repA racc', ht2, hds⟩
    | true =>
      simp only [if_true] at ht2 ⊢
      obtain ⟨es, ρ4, he0, ht3⟩ := Res.bind_ok ht2
      simp only [compE] at he0
      obtain ⟨r, ρ5, he, he2⟩ := Res.bind_ok he0
      cases he2
      split at ht3
      case isFalse => cases ht3
      obtain ⟨rest', ρ6, ht4, hr⟩ := Res.bind_ok ht3
      cases hr
      refine ⟨Z3, ρ3, r, _, g3.fr, he, fun y H4 Z4 pp => ?_⟩
      have gt := g3.trans pp.go
      have hD4 : H4 D = some (.lst acc) := gt.stp.keep D _ hD' nW
      have hz4 : Z4 D := gt.lo D hzD fun w => nW w.ws
      have hlen : acc.length < sizeLine := by
        rw [racc.len]
        have : dsi.length + (1 + rest'.length) = ds.length := by rw [← hds]; simp only [List.length_append, List.length_cons, List.length_nil]; try omega
        rw [← line_eq]
        omega
      have nW4 : ¬ Ws σ2 _ D := fun w => nW (gt.ws D w)
      have st : Stp (fun b => b = D) H4 Z4 (L2.upd H4 D (.lst (acc ++ [y]))) Z4 := ⟨fun b o e n => by rw [upd_ne n]; exact e, fun _ z => .inl z, fun b e => e ▸ hz4, pp.go.fr.zl⟩
      refine ⟨acc, hD4, hlen, Z4, G.wipe _ vs, acc ++ [y], dsi ++ [r.1], rest', (g.turn hk bd gt same).poke hD h0 hz4, hz4, upd_same, (((gt.repA racc').append (.cons pp.rep .nil)).stp st), ht4, ?_⟩
      rw [List.append_assoc]; exact hds
  · -- the end
    rintro H ⟨Zi, ρi, acc, dsi, rest, g, hzD, hDi, racc, hturn, hds⟩
    rw [List.drop_length] at hturn
    simp only [turns] at hturn
    cases hturn
    rw [List.append_nil] at hds
    subst hds
    have nD : ∀ {b}, Ws (L2.wipe σ vs) (G.wipe ρ1 vs) b → b ≠ D := fun {b} w e => by
      obtain ⟨xs, h⟩ := g.stp.zl b (g.stp.wz b w)
      rw [e, hD] at h; cases h
    have nW : ¬ Ws (L2.wipe σ vs) ρ2 D := fun w => nD (g.ws D w) rfl
    have nZ0 : ¬ F.Z0 D := fun z => F.z0n D z h0
    have eZ : (fun b => (Zi b ∧ b ≠ D) ∨ b = D) = Zi := by
      funext b
      refine propext ⟨fun h => h.elim And.left fun e => e ▸ hzD, fun h => ?_⟩
      by_cases e : b = D
      · exact .inr e
      · exact .inl ⟨h, e⟩
    have adv : Adv H1 Z1 H (fun b => Zi b ∧ b ≠ D) := ⟨g.adv.keep, fun b z => g.adv.zs b z.1, g.adv.mono, g.adv.zl⟩
    have f2 : Fra F (fun b => Zi b ∧ b ≠ D) H σ (G.back ρ1 ρ2 vs) := g1.fr.unwipe hh adv (g.fr.drop nW nZ0)
    have f3 : Fra F Zi H σ (G.back ρ1 ρ2 vs) := g1.fr.unwipe hh g.adv g.fr
    have ll : ρ2.length = ρ1.length := by rw [lenw g.fr, g1.fr.len]
    have an : ∀ b, (Zi b ∧ b ≠ D) → Zi b := fun b h => h.1
    have g2 : Go F σ H1 Z1 ρ1 H (fun b => Zi b ∧ b ≠ D) (G.back ρ1 ρ2 vs) :=
      ⟨f2, ⟨fun b o e n => g.stp.keep b o e fun w => n w.wipe, fun b z => g.stp.zs b z.1, g1.fr.wz, g1.fr.zl⟩, fun b z n => ⟨g.lo b z fun w => n w.wipe, fun e => g1.fr.notz hD (e ▸ z)⟩,
        fun b w => (g.ws b (Ws.back g1.fr hh w ll)).wipe, fun b w => (g.wo b (Wo.back g1.fr hh w ll)).wipe, g.mono⟩
    refine q _ H _ ⟨g1.trans g2, .lst hDi (fun z => z.2 rfl) (racc.anti an), fun _ => ⟨D, acc, dsi, rfl, rfl, hDi, ?_, ?_, ?_⟩⟩
    · exact Classical.byContradiction fun n => g1.mono D n hD
    · rw [eZ]; exact racc
    · rw [eZ]; exact f3
end
end G
end

section
set_option maxHeartbeats 4000000
namespace G
open PySem PySem.Spec PyProof.Rows L2

section
variable {C : Nm} {F : Fm} {cal : Call} {X : Cx} {sc : Scope}
theorem XOk.blk (hx : XOk C F cal X sc) {s : Shared} {H : Hp} {scope : Scope} {C0 : Addr} {cl : List (Str × Addr)} {fp : List Addr} : XOk C F cal (X.blk s H scope (compEnvC scope cl C0 X.env) fp) (relS scope sc) := by
  refine ⟨hx.hN, hx.nd, ?_, hx.calm, hx.hK, hx.units, rfl, hx.blt, hx.fns, hx.consts⟩
  show relS scope X.env.scope = relS scope sc
  rw [hx.hsc]
theorem ownKind_cases {o : Option NameKind} (h : ownKind o = true) : o = some .local ∨ o = some .cell := by
  unfold ownKind at h
  split at h
  · exact .inl rfl
  · exact .inr rfl
  · cases h
theorem Sto.blk {s : Shared} {H : Hp} {scope : Scope} {C0 : Addr} {cl : List (Str × Addr)} {fp : List Addr} : Sto (X.blk s H scope (compEnvC scope cl C0 X.env) fp) scope := by
  intro x h
  rcases ownKind_cases h with e | e
  · have q : (compEnvC scope cl C0 X.env).scope.names.lookup x = some .local := lookup_relS_keep (by decide) e
    exact ⟨.inl q, .inr q⟩
  · have q : (compEnvC scope cl C0 X.env).scope.names.lookup x = some .cell := lookup_relS_keep (by decide) e
    refine ⟨.inr q, .inl ?_⟩
    show (scope.names.lookup x == some .cell) = true
    rw [e]; rfl

/-! ### operators as expressions -/
theorem snd_bin (hx : XOk C F cal X sc) {op : Operator} {o : Op2} (h : binOf op = some o) {a b : Expr} {ia ib : E} {pos : Pos} (ha : PE X a (tO F cal ia)) (hb : PE X b (tO F cal ib)) : PE X (.BinOp a op b pos) (tE F cal (.op2 o ia ib)) := by
  obtain ⟨r, h1, h2⟩ := bin_ok hx.hK h
  exact (pe_op h1 ha hb).imp (does2 h2)
theorem snd_neg {a : Expr} {ia : E} {pos : Pos} (ha : PE X a (tO F cal ia)) : PE X (.UnaryOp .USub a pos) (tE F cal (.op1 .neg ia)) := (pe_un un_neg ha).imp (does1 does_neg)
/-- a comparison as a value and as a test -/
def Cmp (F : Fm) (cal : Call) (X : Cx) (e : Expr) (ir : E) : Prop := PE X e (tE F cal ir) ∧ PT X e (tTest (tE F cal ir))
theorem tTest_imp {t t' : TE} (h : ∀ σ H Q, t' σ H Q → t σ H Q) : ∀ σ H Q, tTest t' σ H Q → tTest t σ H Q := fun σ H Q q => h σ H _ q
theorem snd_cmp (hx : XOk C F cal X sc) {op : CmpOp} {o : Op2} (h : cmpOf op = some o) {a b : Expr} {ia ib : E} {pos : Pos} (ok : okE b = true) (ha : PE X a (tO F cal ia)) (hb : PE X b (tO F cal ib)) : Cmp F cal X (.Compare a [op] [b] pos) (.op2 o ia ib) := by
  obtain ⟨r, h1, h2⟩ := cmp_ok hx.hK hx.units h
  exact ⟨(pe_cmpR h1 ha hb (okE.mark ok)).imp (does2 h2), (pt_cmpR h1 ha hb (okE.mark ok)).imp (tTest_imp (does2 h2))⟩
/-- x is None, x is True .. -/
theorem snd_isC {op : CmpOp} {o : Op1} {r : R2} {v : V} {c : Const} {j : Nat} {cpos pos : Pos} {a : Expr} {ia : E} (h1 : OpR X (compareOp op) r) (hc : PE X (.Constant c j cpos) (tC v)) (h2 : Does1 F (fun x H Q => r x v H Q) o) (ha : PE X a (tO F cal ia))
    : Cmp F cal X (.Compare a [op] [.Constant c j cpos] pos) (.op1 o ia) := by
  have e : ∀ σ H Q, tE F cal (.op1 o ia) σ H Q → tOp r (tO F cal ia) (tC v) σ H Q := fun σ H Q q => does1 h2 σ H Q q
  exact ⟨(pe_cmpR h1 ha hc rfl).imp e, (pt_cmpR h1 ha hc rfl).imp (tTest_imp e)⟩
theorem opdI_ok {β : Type} {a : E} {f : Env → Res R} {ρ ρ' : Env} {k : Int → Env → Res β} {r : β} (h : ((opd a f ρ).bind fun x ρ => (asInt x ρ).bind k) = .ok r ρ') : ∃ x ρ1, opd a f ρ = .ok (.int x) ρ1 ∧ k x ρ1 = .ok r ρ' := by
  obtain ⟨d, ρ1, h1, h2⟩ := Res.bind_ok h
  obtain ⟨x, ρ2, h3, h4⟩ := Res.bind_ok h2
  obtain ⟨rfl, rfl⟩ := asInt_ok h3
  exact ⟨x, _, h1, h4⟩
theorem optR_bind {α β : Type} {o : Option α} {ρ ρ' : Env} {k : α → Env → Res β} {r : β} (h : (optR o ρ).bind k = .ok r ρ') : ∃ a, o = some a ∧ k a ρ = .ok r ρ' := by
  obtain ⟨a, ρ1, h1, h2⟩ := Res.bind_ok h
  obtain ⟨h3, rfl⟩ := optR_ok h1
  exact ⟨a, h3, h2⟩
theorem chain_reads {o p : Op2} {r r' : R2} (h1 : ∀ (i j : Int) (b : Bool) (H : Hp) (Q : VK), ordE o i j = some b → Q (.bl b) H → r (.int i) (.int j) H Q) (h2 : ∀ (i j : Int) (b : Bool) (H : Hp) (Q : VK), ordE p i j = some b → Q (.bl b) H → r' (.int i) (.int j) H Q)
    {a b c : E} : ∀ σ H Q, tE F cal (.chain o p a b c) σ H Q → tChain r r' (tO F cal a) (tO F cal b) (tO F cal c) σ H Q := by
  rintro σ H Q ⟨Z, ρ, res, ρ', f, e, q⟩
  simp only [evalE] at e
  obtain ⟨x, ρ1, e1, ea⟩ := opdI_ok e
  obtain ⟨y, ρ3, e3, eb⟩ := opdI_ok ea
  obtain ⟨t, e5, ec⟩ := optR_bind eb
  clear e ea eb
  have e := ec
  refine opd_go f e1 fun v H1 Z1 g1 rv => opd_go g1.fr e3 fun w H2 Z2 g2 rw => ?_
  rw [rv.int, rw.int]
  refine h1 x y t H2 _ e5 ⟨t, rfl, ?_⟩
  cases t with
  | false =>
    simp only [Bool.false_eq_true, if_false] at e ⊢
    cases e
    exact q _ _ _ ((Post.same g2.fr (.bl _)).after (g1.trans g2))
  | true =>
    simp only [if_true] at e ⊢
    obtain ⟨z, ρ6, e6, ea⟩ := opdI_ok e
    obtain ⟨u, e8, eb⟩ := optR_bind ea
    cases eb
    refine opd_go g2.fr e6 fun v3 H3 Z3 g3 r3 => ?_
    rw [r3.int]
    exact h2 y z u H3 Q e8 (q _ _ _ ((Post.same g3.fr (.bl _)).after ((g1.trans g2).trans g3)))
theorem last2 {o p : CmpOp} {b c : Expr} (ok : okE c = true) : lastMarks [o, p] [b, c] = false := okE.mark ok
theorem last3 {o p q : CmpOp} {b c d : Expr} (ok : okE d = true) : lastMarks [o, p, q] [b, c, d] = false := okE.mark ok
theorem snd_chain {op op' : CmpOp} {o p : Op2} (h1 : cmpOf op = some o) (h2 : cmpOf op' = some p) (g1 : ordOf op = true) (g2 : ordOf op' = true) {a b c : Expr} {ia ib ic : E} {pos : Pos} (ok : okE c = true) (ha : PE X a (tO F cal ia)) (hb : PE X b (tO F cal ib)) (hc : PE X c (tO F cal ic)) :
    Cmp F cal X (.Compare a [op, op'] [b, c] pos) (.chain o p ia ib ic) := by
  obtain ⟨r, r1, r2⟩ := ord_ok (X := X) h1 g1
  obtain ⟨s, s1, s2⟩ := ord_ok (X := X) h2 g2
  exact ⟨(pe_chain r1 s1 ha hb hc (last2 ok)).imp (chain_reads r2 s2), (pt_chain r1 s1 ha hb hc (last2 ok)).imp (tTest_imp (chain_reads r2 s2))⟩
theorem chain3_reads {o p u : Op2} {r r' r'' : R2} (h1 : ∀ (i j : Int) (b : Bool) (H : Hp) (Q : VK), ordE o i j = some b → Q (.bl b) H → r (.int i) (.int j) H Q) (h2 : ∀ (i j : Int) (b : Bool) (H : Hp) (Q : VK), ordE p i j = some b → Q (.bl b) H → r' (.int i) (.int j) H Q)
    (h3 : ∀ (i j : Int) (b : Bool) (H : Hp) (Q : VK), ordE u i j = some b → Q (.bl b) H → r'' (.int i) (.int j) H Q)
    {a b c d : E} : ∀ σ H Q, tE F cal (.chain3 o p u a b c d) σ H Q → tChain3 r r' r'' (tO F cal a) (tO F cal b) (tO F cal c) (tO F cal d) σ H Q := by
  rintro σ H Q ⟨Z, ρ, res, ρ', f, e, q⟩
  simp only [evalE] at e
  obtain ⟨x, ρ1, e1, ea⟩ := opdI_ok e
  obtain ⟨y, ρ3, e3, eb⟩ := opdI_ok ea
  obtain ⟨t, e5, ec⟩ := optR_bind eb
  clear e ea eb
  have e := ec
  refine opd_go f e1 fun v H1 Z1 g1 rv => opd_go g1.fr e3 fun w H2 Z2 g2 rw => ?_
  rw [rv.int, rw.int]
  refine h1 x y t H2 _ e5 ⟨t, rfl, ?_⟩
  cases t with
  | false =>
    simp only [Bool.false_eq_true, if_false] at e ⊢
    cases e
    exact q _ _ _ ((Post.same g2.fr (.bl _)).after (g1.trans g2))
  | true =>
    simp only [if_true] at e ⊢
    obtain ⟨z, ρ6, e6, ea⟩ := opdI_ok e
    obtain ⟨k, e8, eb⟩ := optR_bind ea
    clear e ea
    have e := eb
    refine opd_go g2.fr e6 fun v3 H3 Z3 g3 r3 => ?_
    rw [r3.int]
    refine h2 y z k H3 _ e8 ⟨k, rfl, ?_⟩
    cases k with
    | false =>
      simp only [Bool.false_eq_true, if_false] at e ⊢
      cases e
      exact q _ _ _ ((Post.same g3.fr (.bl _)).after ((g1.trans g2).trans g3))
    | true =>
      simp only [if_true] at e ⊢
      obtain ⟨w2, ρ7, e6, ea⟩ := opdI_ok e
      obtain ⟨k, e8, eb⟩ := optR_bind ea
      cases eb
      refine opd_go g3.fr e6 fun v4 H4 Z4 g4 r4 => ?_
      rw [r4.int]
      exact h3 z w2 k H4 Q e8 (q _ _ _ ((Post.same g4.fr (.bl _)).after (((g1.trans g2).trans g3).trans g4)))
theorem snd_chain3 {op op' op2 : CmpOp} {o p u : Op2} (h1 : cmpOf op = some o) (h2 : cmpOf op' = some p) (h3 : cmpOf op2 = some u) (g1 : ordOf op = true) (g2 : ordOf op' = true) (g3 : ordOf op2 = true) {a b c d : Expr} {ia ib ic id : E} {pos : Pos} (ok : okE d = true)
    (ha : PE X a (tO F cal ia)) (hb : PE X b (tO F cal ib)) (hc : PE X c (tO F cal ic)) (hd : PE X d (tO F cal id)) : Cmp F cal X (.Compare a [op, op', op2] [b, c, d] pos) (.chain3 o p u ia ib ic id) := by
  obtain ⟨r, r1, r2⟩ := ord_ok (X := X) h1 g1
  obtain ⟨s, s1, s2⟩ := ord_ok (X := X) h2 g2
  obtain ⟨t, t1, t2⟩ := ord_ok (X := X) h3 g3
  exact ⟨(pe_chain3 r1 s1 t1 ha hb hc hd (last3 ok)).imp (chain3_reads r2 s2 t2), (pt_chain3 r1 s1 t1 ha hb hc hd (last3 ok)).imp (tTest_imp (chain3_reads r2 s2 t2))⟩
/-- a comparison as a test -/
theorem snd_tb {e : Expr} {ir : E} (h : PT X e (tTest (tE F cal ir))) : PT X e (tT F cal (.b ir)) := h.imp fun σ H Q ⟨Z, ρ, b, ρ', f, e, q⟩ => by
  simp only [evalT] at e
  obtain ⟨r, ρ1, e1, e2⟩ := Res.bind_ok e
  obtain ⟨e3, rfl⟩ := asBl_ok e2
  refine ⟨Z, ρ, r, _, f, e1, fun x H' Z' p => ⟨b, ?_, q H' Z' p.go⟩⟩
  have rep := p.rep
  rw [e3] at rep
  cases rep; rfl
/-- truth -/
theorem tru_of {K : PySem.W.Frag} {H : Hp} {Z : Zs} {x : V} {d : D} {k : Bool} (r : RepO K H Z x d) (h : truth d = some k) : TruV K x H k := by
  cases d with
  | non => cases h; rw [r.non]; rfl
  | bl b => cases h; rw [r.bl]; rfl
  | int i => cases h; rw [r.int]; rfl
  | str s =>
    simp only [truth] at h
    split at h
    · rename_i hz
      cases h
      rw [r.str]
      refine ⟨line_eq ▸ hz, ?_⟩
      show (s.cps.size != 0) = (((s.cps.size : Nat) : Int) != 0)
      cases hs : s.cps.size <;> simp <;> omega
    · cases h
  | tup xs =>
    cases h
    obtain ⟨a, ys, rfl, h1, rr⟩ := r.tup
    exact .inr (.inl ⟨ys, h1, by cases rr <;> rfl⟩)
  | lst xs =>
    cases h
    obtain ⟨a, ys, rfl, h1, rr⟩ := r.lst
    exact .inl ⟨ys, .of h1, by cases rr <;> rfl⟩
  | fn f => cases h
  | scr ns => cases h
theorem snd_te (hK : X.K = F.K) {e : Expr} {ir : E} (h : PE X e (tO F cal ir)) (he : ∀ whole, isTrue e X.env whole = (do let v ← whole; standAt e.pos; holding [v] (truthy v))) : PT X e (tT F cal (.e ir)) := by
  refine (pt_truth h he).imp fun σ H Q ⟨Z, ρ, b, ρ', f, e, q⟩ => ?_
  simp only [evalT] at e
  obtain ⟨d, ρ1, e1, e2⟩ := Res.bind_ok e
  obtain ⟨e3, rfl⟩ := optR_ok e2
  exact opd_go f e1 fun v H1 Z1 g rv => ⟨b, by rw [hK]; exact tru_of rv e3, q H1 Z1 g⟩
/-- subscripts, slices -/
theorem snd_ix (hx : XOk C F cal X sc) {a b : Expr} {ia ib : E} {pos : Pos} (ok : okE b = true) (ha : PE X a (tO F cal ia)) (hb : PE X b (tO F cal ib)) : PE X (.Subscript a b pos) (tE F cal (.op2 .idx ia ib)) := by
  obtain ⟨h1, h2⟩ := ix_ok (X := X) (F := F) hx.hK
  exact (pe_ix h1 ha hb (okE.plain ok)).imp (does2 h2)
theorem snd_from (hx : XOk C F cal X sc) {a l : Expr} {ia il : E} {p2 pos : Pos} (ha : PE X a (tO F cal ia)) (hl : PE X l (tO F cal il)) : PE X (.Subscript a (.Slice (some l) none none p2) pos) (tE F cal (.from ia il)) := by
  refine (pe_slice (sl_list.or sl_tupA) ha (po_some hl) po_none).imp fun σ H Q ⟨Z, ρ, res, ρ', f, e, q⟩ => ?_
  simp only [evalE] at e
  refine opdM_go (γ := Option Int) (M := tPart (tO F cal il)) (RW := fun _ _ w y => w = some y) (fun ρ0 H0 Z0 y ρ1 Q0 f0 h0 k0 => ?_) f e (Q := fun v w H2 => rSlL X.K v w none H2 Q ∨ rSlA X.K v w none H2 Q) fun d y ρ2 hk v w H2 Z2 g rv rw => ?_
  · obtain ⟨l0, ρ2, h1, h2⟩ := Res.bind_ok h0
    obtain ⟨rfl, rfl⟩ := asInt_ok h2
    exact opd_go f0 h1 fun v H1 Z1 g rv => ⟨_, rv.int, k0 _ H1 Z1 g rfl⟩
  · obtain ⟨h1, rfl⟩ := optR_ok hk
    subst rw
    exact slice_ok hx.hK g.fr rv h1 fun x' H' Z' p => q x' H' Z' (p.after g)
theorem snd_to (hx : XOk C F cal X sc) {a l : Expr} {ia il : E} {p2 pos : Pos} (ha : PE X a (tO F cal ia)) (hl : PE X l (tO F cal il)) : PE X (.Subscript a (.Slice none (some l) none p2) pos) (tE F cal (.to ia il)) := by
  refine (pe_slice (sl_list.or sl_tupA) ha po_none (po_some hl)).imp fun σ H Q ⟨Z, ρ, res, ρ', f, e, q⟩ => ?_
  simp only [evalE] at e
  refine opdM_go (γ := Option Int) (M := tPart (tO F cal il)) (RW := fun _ _ w y => w = some y) (fun ρ0 H0 Z0 y ρ1 Q0 f0 h0 k0 => ?_) f e (Q := fun v w H2 => rSlL X.K v none w H2 Q ∨ rSlA X.K v none w H2 Q) fun d y ρ2 hk v w H2 Z2 g rv rw => ?_
  · obtain ⟨l0, ρ2, h1, h2⟩ := Res.bind_ok h0
    obtain ⟨rfl, rfl⟩ := asInt_ok h2
    exact opd_go f0 h1 fun v H1 Z1 g rv => ⟨_, rv.int, k0 _ H1 Z1 g rfl⟩
  · obtain ⟨h1, rfl⟩ := optR_ok hk
    subst rw
    exact slice_ok hx.hK g.fr rv h1 fun x' H' Z' p => q x' H' Z' (p.after g)
theorem snd_cut (hx : XOk C F cal X sc) {a l h : Expr} {ia il ih : E} {p2 pos : Pos} (ha : PE X a (tO F cal ia)) (hl : PE X l (tO F cal il)) (hh : PE X h (tO F cal ih)) : PE X (.Subscript a (.Slice (some l) (some h) none p2) pos) (tE F cal (.cut ia il ih)) := by
  refine (pe_slice (sl_list.or sl_tupA) ha (po_some hl) (po_some hh)).imp fun σ H Q ⟨Z, ρ, res, ρ', f, e, q⟩ => ?_
  simp only [evalE] at e
  refine opdM_go (γ := Option Int × Option Int) (M := fun σ H Q => tPart (tO F cal il) σ H fun l H1 => tPart (tO F cal ih) σ H1 fun h H2 => Q (l, h) H2) (RW := fun _ _ w y => w = (some y.1, some y.2)) (fun ρ0 H0 Z0 y ρ1 Q0 f0 h0 k0 => ?_) f e
    (Q := fun v w H2 => rSlL X.K v w.1 w.2 H2 Q ∨ rSlA X.K v w.1 w.2 H2 Q) fun d y ρ2 hk v w H2 Z2 g rv rw => ?_
  · obtain ⟨l0, ρ2, h1, h2⟩ := Res.bind_ok h0
    obtain ⟨l1, ρ3, h3, h4⟩ := Res.bind_ok h2
    obtain ⟨rfl, rfl⟩ := asInt_ok h3
    obtain ⟨h5, ρ4, h6, h7⟩ := Res.bind_ok h4
    obtain ⟨h8, ρ5, h9, h10⟩ := Res.bind_ok h7
    obtain ⟨rfl, rfl⟩ := asInt_ok h9
    cases h10
    exact opd_go f0 h1 fun v H1 Z1 g rv => ⟨_, rv.int, opd_go g.fr h6 fun v2 H2 Z2 g2 rv2 => ⟨_, rv2.int, k0 _ H2 Z2 (g.trans g2) rfl⟩⟩
  · obtain ⟨h1, rfl⟩ := optR_ok hk
    subst rw
    exact slice_ok hx.hK g.fr rv h1 fun x' H' Z' p => q x' H' Z' (p.after g)
end
end G
end

section
set_option maxHeartbeats 4000000
namespace G
open PySem PySem.Spec PyProof.Rows L2
section
variable {C : Nm} {F : Fm} {cal : Call} {X : Cx} {sc : Scope}
/-- f() -/
theorem snd_call0 (hx : XOk C F cal X sc) {x : Str} {f m : Nat} {by0 : Bool} {p pos : Pos} (hn : okName x = true) (hg : isGlob (sc.names.lookup x) = true) (hf : C.fns.lookup x = some (f, by0, m)) (hl : m = 0) :
    PE X (.Call (.Name x p) [] [] pos) (tE F cal (.call f [])) := by
  obtain ⟨a, fd, k, ps, h1, h2, h3, h4, h5, h6⟩ := hx.fns x f by0 m hf
  refine (pe_call0 h6 h5 (hx.gl hg) h1 h2 h3 .nil pass0 (okName_d hn)).imp fun σ H Q ⟨Z, ρ, res, ρ', fr, ev, q⟩ => ?_
  simp only [evalE, evalEs] at ev
  obtain ⟨ds, ρ1, e1, e2⟩ := Res.bind_ok ev
  cases e1
  cases hc : cal f (([] : List D).map S.v) with
  | exc y b => rw [hc] at e2; cases e2
  | no => rw [hc] at e2; cases e2
  | ok r0 b =>
    rw [hc] at e2
    cases e2
    refine ⟨Z, [], res, b, fr.zl, .nil, fun s hs => (nomatch hs), by rw [hl]; rfl, hc, fun y H' fp => q y H' Z ?_⟩
    have hk : ∀ b o, H b = some o → H' b = some o := fun b o eo => fp.keep b o eo (fun w => nomatch w)
    refine ⟨Go.grow fr hk, by rw [← hx.hK]; exact fp.rep, fun eo => ?_⟩
    obtain ⟨w, ys, es', w1, w2, w3, w4, w5, _⟩ := fp.own eo
    exact ⟨w, ys, es', w1, w2, w3, w4, by rw [← hx.hK]; exact w5, fr.grow hk (fun b z => z.imp id fun eb => by subst eb; exact ⟨w4, _, w3⟩) fun _ z => .inl z⟩
end
/-! ### xs[::-1] -/
theorem fmap_congr {α β : Type} {f g : α → Option β} : ∀ {l : List α}, (∀ x ∈ l, f x = g x) → l.filterMap f = l.filterMap g
  | [], _ => rfl
  | x :: l, h => by
    rw [List.filterMap_cons, List.filterMap_cons, h x List.mem_cons_self, fmap_congr fun y hy => h y (List.mem_cons_of_mem _ hy)]
theorem rev_pick (items : Array Value) : ((List.range items.size).filterMap fun (m : Nat) => items[(((items.size : Int) - 1) + (m : Int) * (-1)).toNat]?).toArray = items.toList.reverse.toArray := by
  have h := PySem.W.krv_pick items
  unfold slicePick at h
  rw [PySem.W.krv_bounds] at h
  simp only at h
  rw [PySem.W.krv_sliceRange, List.filterMap_map] at h
  rw [← h]
  congr 1
  refine fmap_congr fun m hm => ?_
  have := List.mem_range.mp hm
  show items[((items.size : Int) - 1 + (m : Int) * (-1)).toNat]? = items[items.size - 1 - m]?
  congr 1
  omega
section
variable {prog : Program} {w : World} {A : Around} {E : Value → Shared → Prop} {s : Shared}
theorem sliceApplied_rev {sl : Addr} {vs : Value} {n : Nat} {Q : Int × Int × Nat → Shared → Prop} (hs : s.heap.IsSliceOf sl .none .none vs) (ps : IsPart vs (some (-1)))
    (h : Q ((n : Int) - 1, -1, n) s) : wpAny (model prog w) A (Builtin.Slice.sliceApplied (.ref sl) (pure (n : Int))) Q E s := by
  obtain ⟨os, hos, hcs, hds⟩ := id hs
  unfold Builtin.Slice.sliceApplied Builtin.Slice.sliceFields
  refine wpAny_bind (wpAny_bind (wpAny_field hos hds (x := .none) rfl (wpAny_bind (wpAny_field hos hds (x := .none) rfl (wpAny_bind (wpAny_field hos hds (x := vs) rfl (wpAny_pure ?_)))))))
  refine wpAny_bind (HT.slicePart_ ps ?_)
  show wpAny _ _ (if ((-1 : Int) == 0) = true then _ else _) _ _ s
  rw [if_neg (by decide)]
  refine wpAny_bind (HT.slicePart_ .none (wpAny_bind (HT.slicePart_ .none (wpAny_bind (wpAny_pure ?_)))))
  show wpAny _ _ (match Builtin.Slice.sliceAdjust none none (-1) (n : Int) with | (lo, hi) => pure (lo, (-1 : Int), Builtin.Slice.slicePlaces lo hi (-1))) _ _ s
  have e1 : Builtin.Slice.sliceAdjust none none (-1) (n : Int) = ((n : Int) - 1, -1) := by
    unfold Builtin.Slice.sliceAdjust
    simp
  have e2 : Builtin.Slice.slicePlaces ((n : Int) - 1) (-1) (-1) = n := by
    unfold Builtin.Slice.slicePlaces
    have h0 : ¬ ((-1 : Int) > 0) := by decide
    rw [if_neg h0]
    split
    · rw [show (- -1 : Int) = 1 by decide, Int.ediv_one]; omega
    · omega
  rw [e1]
  show wpAny _ _ (pure ((n : Int) - 1, (-1 : Int), Builtin.Slice.slicePlaces ((n : Int) - 1) (-1) (-1))) _ _ s
  rw [e2]
  exact wpAny_pure h
theorem getItem_tuple_rev {t sl : Addr} {items : Array Value} {vs : Value} {Q : Value → Shared → Prop} (ht : IsTup s.heap t items) (hs : s.heap.IsSliceOf sl .none .none vs) (ps : IsPart vs (some (-1)))
    (h : Q (.ref s.heap.objs.size) { s with heap := s.heap.push { cls := .type "tuple", data := .seq items.toList.reverse.toArray } })
    (hsz : items.size ≤ sizeLine) : wpAny (model prog w) A (getItem (.ref t) (.ref sl)) Q E s := by
  have htake : sizeOk (.seq items.toList.reverse.toArray) := by
    show items.toList.reverse.toArray.size ≤ sizeLine
    rw [List.size_toArray, List.length_reverse, Array.length_toList]
    exact hsz
  obtain ⟨os, hos, hcs, hds⟩ := id hs
  have hTs : s.TypeIs (.ref sl) "slice" := ⟨os, hos, hcs⟩
  unfold getItem
  try with_reducible refine wpAny_holding ?_
  first | refine wpAny_bind (wpAny_pure ?_) | skip
  refine wpAny_bind (wpAny_sequenceKey ht.typeIs (by decide) ?_)
  refine wpAny_bind (wpAny_callSpecial?_slot (name := Str.ofString "__getitem__") ht.typeIs PyProof.Rows.slot_tuple_getitem
    (wpAny_call_entry PyProof.Rows.slot_tuple_getitem ht.typeIs entry_tuple_getitem ?_ (args_tuple_getitem _ _)))
  show wpAny _ _ (Builtin.Tuple.tupleItemsOf (.ref t) >>= _) _ _ s
  refine wpAny_bind (tupleItemsOf_ ht ?_)
  refine wpAny_bind (wpAny_typeOf hTs ?_)
  rw [if_pos (by decide)]
  refine wpAny_bind (sliceApplied_rev hs ps ?_)
  have hno : ¬ (((((items.size : Int) - 1)) == 0 && (-1 : Int) == 1 && items.size == items.size) = true) := by
    intro q
    rw [Bool.and_eq_true, Bool.and_eq_true] at q
    exact absurd q.1.2 (by decide)
  show wpAny _ _ (if ((((items.size : Int) - 1)) == 0 && (-1 : Int) == 1 && items.size == items.size) = true then _ else _) _ _ s
  rw [if_neg hno, rev_pick]
  first
    | exact wpAny_bind (m := Builtin.Tuple.tupleExact _) (wpAny_newObj_type (wpAny_pure ⟨_, rfl, wpAny_pure h⟩) htake)
    | exact wpAny_bind (m := Builtin.Tuple.tupleExact _) (wpAny_newObj_type (wpAny_bind (wpAny_pure (wpAny_pure ⟨_, rfl, wpAny_pure h⟩))) htake)
    | exact wpAny_bind (wpAny_bind (m := Builtin.Tuple.tupleExact _) (wpAny_newObj_type (wpAny_pure (wpAny_pure ⟨_, rfl, wpAny_pure h⟩)) htake))
    | exact wpAny_bind (wpAny_bind (m := Builtin.Tuple.tupleExact _) (wpAny_newObj_type (wpAny_pure ⟨_, rfl, wpAny_pure h⟩) htake))
end
def tRevA (K : PySem.W.Frag) (te : TE) : TE := fun σ H Q => te σ H fun x H1 => ∃ a xs, x = .ref a ∧ ((SqL K H1 a xs ∧ ∀ p, H1 p = none → Q (.ref p) (upd H1 p (.lst xs.reverse))) ∨ (SqT K H1 a xs ∧ ∀ p, H1 p = none → Q (.ref p) (upd H1 p (.tup xs.reverse))))
theorem pe_revA {X : Cx} {e : Expr} {te : TE} {k : Nat} {p1 p2 p3 pos : Pos} (he : PE X e te) : PE X (.Subscript e (.Slice none none (some (.UnaryOp .USub (.Constant (.int 1) k p1) p2)) p3) pos) (tRevA X.K te) := by
  refine ⟨fun pins s σ H Q I h => ?_⟩
  refine Subscript_ (thn (he.run pins s σ H _ I h) fun v s1 ⟨x, H1, I1, r1, q1⟩ => ?_)
  obtain ⟨a, xs, ex, hx⟩ := q1
  subst ex
  cases r1
  have hst : PO X (some (.UnaryOp .USub (.Constant (.int 1) k p1) p2)) (tPart (tUn (rU fun i => .int (-i)) (tC (.int 1)))) := po_some (pe_un un_neg pe_int)
  refine wpAny_Slice (thn (po_none.run pins s1 σ H1 (fun o H2 => o = none ∧ H2 = H1) I1 ⟨rfl, rfl⟩) fun vl s2 ⟨l, H2, I2, pl, el, e2⟩ => ?_)
  subst el e2
  refine thn (po_none.run pins s2 σ H2 (fun o H3 => o = none ∧ H3 = H2) I2 ⟨rfl, rfl⟩) fun vu s3 ⟨u, H3, I3, pu, eu, e3⟩ => ?_
  subst eu e3
  refine thn (hst.run pins s3 σ H3 (fun o H4 => o = some (-1) ∧ H4 = H3) I3 ⟨1, rfl, -1, rfl, rfl, rfl⟩) fun vs s4 ⟨o, H4, I4, ps, eo, e4⟩ => ?_
  subst eo e4
  have I5 : Inv X pins σ H4 { s4 with heap := s4.heap.push { cls := .type "slice", data := .fields #[vl, vu, vs] } } := I4.kept (t' := s4.toks) fun b ob q => Heap.get?_push_of_some _ q
  rcases hx with ⟨hx, q⟩ | ⟨hx, q⟩
  · obtain ⟨its, r, ht, hz⟩ := I5.list hx
    have hlen := r.length
    show wpAny (model X.prog X.w) X.A (subscriptTail e (.Slice none none (some (.UnaryOp .USub (.Constant (.int 1) k p1) p2)) p3) (.ref a) (.ref s4.heap.objs.size)) (EP X pins σ Q) X.xe { s4 with heap := s4.heap.push { cls := .type "slice", data := .fields #[vl, vu, vs] } }
    refine tail_any (ops := [.ref a, .ref s4.heap.objs.size]) ht.isList.typeIs (PySem.slot_list_getitem.lookup) ?_ (by with_unfolding_all rfl)
    refine wpAny_getItem_list_slice ht.isList (Heap.IsSliceOf.new _ vl vu vs) pl pu ps (by decide) ?_ (by rw [List.size_toArray]; omega)
    rw [PySem.W.krv_pick]
    refine ⟨.ref _, _, I5.laid (t' := s4.toks) (o := .lst xs.reverse) (fun b ob q => Heap.get?_push_of_some _ q) (Nat.le_refl _) ?_, rfl, q _ (I5.hok.fresh (Nat.le_refl _))⟩
    exact ⟨by rw [List.length_reverse]; exact hz, _, 0, r.reverse, Heap.get?_push_size _ rfl⟩
  · obtain ⟨its, r, ht, hz⟩ := I5.tuple hx
    have hlen := r.length
    cases pl
    cases pu
    show wpAny (model X.prog X.w) X.A (subscriptTail e (.Slice none none (some (.UnaryOp .USub (.Constant (.int 1) k p1) p2)) p3) (.ref a) (.ref s4.heap.objs.size)) (EP X pins σ Q) X.xe { s4 with heap := s4.heap.push { cls := .type "slice", data := .fields #[.none, .none, vs] } }
    refine tail_any (ops := [.ref a, .ref s4.heap.objs.size]) ht.typeIs (PyProof.Rows.slot_tuple_getitem.lookup) ?_ (by with_unfolding_all rfl)
    refine getItem_tuple_rev ht (Heap.IsSliceOf.new _ .none .none vs) ps ?_ (by rw [List.size_toArray]; omega)
    refine ⟨.ref _, _, I5.laid (t' := s4.toks) (o := .tup xs.reverse) (fun b ob q => Heap.get?_push_of_some _ q) (Nat.le_refl _) ?_, rfl, q _ (I5.hok.fresh (Nat.le_refl _))⟩
    exact ⟨by rw [List.length_reverse]; exact hz, _, r.reverse, IsTup.new _ _⟩
section
variable {C : Nm} {F : Fm} {cal : Call} {X : Cx} {sc : Scope}
theorem RepA.reverse {K : PySem.W.Frag} {H : Hp} {Z : Zs} {xs : List V} {ds : List D} (r : RepA K H Z xs ds) : RepA K H Z xs.reverse ds.reverse := by
  match xs, ds, r with
  | _, _, .nil => exact .nil
  | v :: vs, d :: ds, .cons r t =>
    rw [List.reverse_cons, List.reverse_cons]
    exact (RepA.reverse t).append (.cons r .nil)
theorem snd_rev (hx : XOk C F cal X sc) {a : Expr} {ia : E} {k : Nat} {p1 p2 p3 pos : Pos} (ha : PE X a (tO F cal ia)) : PE X (.Subscript a (.Slice none none (some (.UnaryOp .USub (.Constant (.int 1) k p1) p2)) p3) pos) (tE F cal (.op1 .rev ia)) := by
  refine (pe_revA ha).imp fun σ H Q ⟨Z, ρ, res, ρ', f, e, q⟩ => ?_
  simp only [evalE] at e
  obtain ⟨d, ρ1, h1, h2⟩ := Res.bind_ok e
  obtain ⟨h2, rfl⟩ := optR_ok h2
  refine opd_go f h1 fun v H1 Z1 g rv => ?_
  cases d with
  | lst es =>
    cases h2
    obtain ⟨l, xs, rfl, h1, r1⟩ := rv.lst
    exact ⟨l, xs, rfl, .inl ⟨.of h1, fun p hp => q _ _ _ ((Post.newL g.fr hp r1.reverse).after g)⟩⟩
  | tup es =>
    cases h2
    obtain ⟨l, xs, rfl, h1, r1⟩ := rv.tup
    exact ⟨l, xs, rfl, .inr ⟨hx.hK ▸ h1, fun p hp => q _ _ _ ((Post.newT g.fr hp r1.reverse).after g)⟩⟩
  | _ => cases h2
end
end G
end

section
set_option maxHeartbeats 4000000
namespace G
open PySem PySem.Spec PyProof.Rows L2

section
variable {C : Nm} {F : Fm} {cal : Call} {X : Cx} {sc : Scope}
theorem snd_call1 (hx : XOk C F cal X sc) {x : Str} {o : Op1} {fv : Value} (h : call1Of x = some (o, fv)) (hg : isGlob (sc.names.lookup x) = true) (hm : X.mg x = none) {a : Expr} {ia : E} {p pos : Pos} (ok : okE a = true) (ha : PE X a (tO F cal ia)) :
    PE X (.Call (.Name x p) [a] [] pos) (tE F cal (.op1 o ia)) := by
  obtain ⟨⟨id, hid⟩, hb, hn, hd, r, h1, h2⟩ := call1_ok (X := X) (F := F) hx.hK hx.calm h
  have pa : PA X [a] (tCons (tO F cal ia) tNil) := pa_cons ha pa_nil (okE.star ok)
  rcases hid with rfl | rfl
  · exact (pe_callB h1 (hx.gl hg) hm hb pa hn hd (okE.star ok) (stars (by simp) pos)).imp fun σ H Q q => does1 h2 σ H Q q
  · exact (pe_callTy h1 (hx.gl hg) hm hb pa hn hd (okE.star ok) (stars (by simp) pos)).imp fun σ H Q q => does1 h2 σ H Q q
theorem does_min (hc : X.calm = true) : CallR X (.builtin "min") (fun xs H Q => ∃ i j, xs = [.int i, .int j] ∧ Q (.int (if j < i then j else i)) H) ∧ Does2 F (fun x y H Q => ∃ i j, [x, y] = [V.int i, .int j] ∧ Q (.int (if j < i then j else i)) H) .min := by
  refine ⟨call_min2 hc, fun σ ρ H Z x y d e res Q f he hx hy q => ?_⟩
  simp only [op2] at he
  split at he
  · cases he; rw [hx.int, hy.int]; exact ⟨_, _, rfl, q _ _ _ (Post.same f (.int _))⟩
  · cases he
theorem does_max (hc : X.calm = true) : CallR X (.builtin "max") (fun xs H Q => ∃ i j, xs = [.int i, .int j] ∧ Q (.int (if j > i then j else i)) H) ∧ Does2 F (fun x y H Q => ∃ i j, [x, y] = [V.int i, .int j] ∧ Q (.int (if j > i then j else i)) H) .max := by
  refine ⟨call_max2 hc, fun σ ρ H Z x y d e res Q f he hx hy q => ?_⟩
  simp only [op2] at he
  split at he
  · cases he; rw [hx.int, hy.int]; exact ⟨_, _, rfl, q _ _ _ (Post.same f (.int _))⟩
  · cases he
theorem snd_min (hx : XOk C F cal X sc) (hg : isGlob (sc.names.lookup ("min" : Str)) = true) (hm : X.mg "min" = none) {a b : Expr} {ia ib : E} {p pos : Pos} (ok : okE a = true) (ok2 : okE b = true) (ha : PE X a (tO F cal ia)) (hb : PE X b (tO F cal ib)) :
    PE X (.Call (.Name "min" p) [a, b] [] pos) (tE F cal (.op2 .min ia ib)) := by
  obtain ⟨h1, h2⟩ := does_min (X := X) (F := F) hx.calm
  have pa : PA X [a, b] (tCons (tO F cal ia) (tCons (tO F cal ib) tNil)) := pa_cons ha (pa_cons hb pa_nil (okE.star ok2)) (okE.star ok)
  exact (pe_callB h1 (hx.gl hg) hm (by decide +kernel) pa (by decide) (by decide) (okE.star ok) (stars (by simpa using ok2) pos)).imp fun σ H Q q => does2 h2 σ H Q q
theorem snd_max (hx : XOk C F cal X sc) (hg : isGlob (sc.names.lookup ("max" : Str)) = true) (hm : X.mg "max" = none) {a b : Expr} {ia ib : E} {p pos : Pos} (ok : okE a = true) (ok2 : okE b = true) (ha : PE X a (tO F cal ia)) (hb : PE X b (tO F cal ib)) :
    PE X (.Call (.Name "max" p) [a, b] [] pos) (tE F cal (.op2 .max ia ib)) := by
  obtain ⟨h1, h2⟩ := does_max (X := X) (F := F) hx.calm
  have pa : PA X [a, b] (tCons (tO F cal ia) (tCons (tO F cal ib) tNil)) := pa_cons ha (pa_cons hb pa_nil (okE.star ok2)) (okE.star ok)
  exact (pe_callB h1 (hx.gl hg) hm (by decide +kernel) pa (by decide) (by decide) (okE.star ok) (stars (by simpa using ok2) pos)).imp fun σ H Q q => does2 h2 σ H Q q
/-- the class of data -/
def tyS : D → Option String
  | .non => some "NoneType"
  | .bl _ => some "bool"
  | .int _ => some "int"
  | .str _ => some "str"
  | .tup _ => some "tuple"
  | .lst _ => some "list"
  | _ => none
theorem tyX_of {K : PySem.W.Frag} {H : Hp} {Z : Zs} {x : V} {d : D} {t : String} (r : RepO K H Z x d) (h : tyS d = some t) : TyX K H x (.type t) := by
  cases d <;> simp only [tyS, Option.some.injEq, reduceCtorEq] at h <;> subst h
  case non => rw [r.non]; exact .base .non
  case bl b => rw [r.bl]; exact .base (.bl _)
  case int i => rw [r.int]; exact .base (.int _)
  case str s => rw [r.str]; exact .base (.str _)
  case tup ds =>
    obtain ⟨a, xs, rfl, h1, _⟩ := r.tup
    rcases h1 with (h1 | ⟨o, h1⟩) | ⟨o, its, n, h1, h2, _⟩
    · exact .base (.tup h1)
    · exact .fTuple h1
    · exact .kTuple h1 h2
  case lst ds =>
    obtain ⟨a, xs, rfl, h1, _⟩ := r.lst
    exact .base (.lst h1)
def tyN (n : Nat) : String := match n with | 0 => "int" | 1 => "bool" | 2 => "str" | 3 => "tuple" | _ => "list"
theorem does_isTy (n : Nat) (hn : n < 5) : Does1 F (fun x H Q => rIsi F.K [x, .ty (tyN n)] H Q) (.isTy n) := fun σ ρ H Z x d res Q f he hx q => by
  have key : ∃ t b, tyS d = some t ∧ kitB t (tyN n) = some b ∧ res = (.bl b, false) := by
    have cases5 : n = 0 ∨ n = 1 ∨ n = 2 ∨ n = 3 ∨ n = 4 := by omega
    simp only [op1] at he
    cases d <;> simp only [isTy, reduceCtorEq] at he <;> rcases cases5 with rfl | rfl | rfl | rfl | rfl <;> cases he <;> exact ⟨_, _, rfl, by decide +kernel, rfl⟩
  obtain ⟨t, b, h1, h2, rfl⟩ := key
  exact ⟨x, _, _, _, b, rfl, .ty _, tyX_of hx h1, kit_ty h2, q _ _ _ (Post.same f (.bl _))⟩
theorem tyOf_spec {y : Str} {n : Nat} (h : tyOf y = some n) : n < 5 ∧ y = (tyN n : Str) ∧ bootBuiltins y = some (.type (tyN n)) ∧ y ≠ "__name__" ∧ (y == ("__debug__" : Str)) = false ∧ bltNames.contains y = true := by
  unfold tyOf at h
  split at h
  · rename_i e; cases h; subst e; exact ⟨by decide, rfl, by decide +kernel, by decide, by decide, by decide +kernel⟩
  split at h
  · rename_i e; cases h; subst e; exact ⟨by decide, rfl, by decide +kernel, by decide, by decide, by decide +kernel⟩
  split at h
  · rename_i e; cases h; subst e; exact ⟨by decide, rfl, by decide +kernel, by decide, by decide, by decide +kernel⟩
  split at h
  · rename_i e; cases h; subst e; exact ⟨by decide, rfl, by decide +kernel, by decide, by decide, by decide +kernel⟩
  split at h
  · rename_i e; cases h; subst e; exact ⟨by decide, rfl, by decide +kernel, by decide, by decide, by decide +kernel⟩
  · cases h
theorem snd_isinst (hx : XOk C F cal X sc) (hg : isGlob (sc.names.lookup ("isinstance" : Str)) = true) (hm : X.mg "isinstance" = none) {a : Expr} {ia : E} {y : Str} {n : Nat} {p py pos : Pos} (ok : okE a = true) (ha : PE X a (tO F cal ia))
    (hy : tyOf y = some n) (hgy : isGlob (sc.names.lookup y) = true) (hmy : X.mg y = none) : PE X (.Call (.Name "isinstance" p) [a, .Name y py] [] pos) (tE F cal (.op1 (.isTy n) ia)) := by
  obtain ⟨h1, h2, h3, h4, h5, _⟩ := tyOf_spec hy
  have pb : PE X (.Name y py) (tC (.ty (tyN n))) := pe_bltn (hx.gl hgy) hmy h3 rfl h4 h5
  have pa : PA X [a, .Name y py] (tCons (tO F cal ia) (tCons (tC (.ty (tyN n))) tNil)) := pa_cons ha (pa_cons pb pa_nil rfl) (okE.star ok)
  refine (pe_callB call_isi (hx.gl hg) hm (by decide +kernel) pa (by decide) (by decide) (okE.star ok) (stars (by simp [okE]) pos)).imp fun σ H Q q => ?_
  have := does1 (does_isTy (F := F) n h1) (cal := cal) σ H Q q
  rw [← hx.hK] at this
  exact this
/-- x.pop() -/
theorem isL_own {ρ : Env} {i : Nat} (h : isL ρ[i]? = true) : ∃ s ds, ρ[i]? = some s ∧ s.mine = true ∧ s.peek = some (.lst ds) := by
  unfold isL at h
  split at h
  · rename_i ds e; exact ⟨_, ds, e, rfl, rfl⟩
  · rename_i ds e; exact ⟨_, ds, e, rfl, rfl⟩
  · cases h
theorem snd_pop (hx : XOk C F cal X sc) {x : Str} {i : Nat} {px ap cp : Pos} (hy : okName x = true) (hv : visible (sc.names.lookup x) = true) (hi : ixOf C.N x = some i) (hl : (ap.endLine == cp.line) = true) :
    PE X (.Call (.Attribute (.Name x px) "pop" ap) [] [] cp) (tE F cal (.pop i)) := by
  refine (pe_bm0 PySem.F.plainAttrs_list PySem.F.slot_list_pop PySem.F.type_list_pop mt_pop (hx.name hy hv hi) rfl hl).imp fun σ H Q ⟨Z, ρ, res, ρ', f, e, q⟩ => ?_
  simp only [evalE] at e
  obtain ⟨pr, e1, e2⟩ := optR_bind e
  cases e2
  unfold popE at e1
  split at e1
  · rename_i ds hs
    obtain ⟨d, hd, rfl⟩ := Option.map_eq_some_iff.mp e1
    obtain ⟨a, xs, ds', a1, a2, a3, a4, a5⟩ := f.mineAt hs rfl
    cases a2
    rw [List.getLast?_eq_getElem?, ← a4.len] at hd
    obtain ⟨y, hy, ry⟩ := a4.get hd
    have ex := a4.dropLast
    have st : Stp (fun b => b = a) H Z (upd H a (.lst xs.dropLast)) Z := ⟨fun b o e n => by rw [upd_ne n]; exact e, fun _ z => .inl z, fun b e => e ▸ a5, f.zl⟩
    refine ⟨_, a1, .inl ⟨rfl, xs, .of a3⟩, a, xs, y, rfl, rfl, a3, hy, q _ _ Z ⟨Go.change f hs rfl a1 (fun b o n eo => by rw [upd_ne n]; exact eo) upd_same (ex.stp st), ry.stp st, fun e => nomatch e⟩⟩
  · cases e1
theorem snd_popAt (hx : XOk C F cal X sc) {x : Str} {i : Nat} {px ap cp : Pos} {a : Expr} {ia : E} (hy : okName x = true) (hv : visible (sc.names.lookup x) = true) (hi : ixOf C.N x = some i) (hl : (ap.endLine == cp.line) = true) (ok : okE a = true) (ha : PE X a (tO F cal ia)) :
    PE X (.Call (.Attribute (.Name x px) "pop" ap) [a] [] cp) (tE F cal (.popAt i ia)) := by
  have pa : PA X [a] (tCons (tO F cal ia) tNil) := pa_cons ha pa_nil (okE.star ok)
  refine (pe_bm PySem.F.plainAttrs_list PySem.F.slot_list_pop PySem.F.type_list_pop mt_popAt (hx.name hy hv hi) pa rfl (by rw [okE.star ok]; rfl) hl (okE.star ok) (stars (by simp) cp)).imp fun σ H Q ⟨Z, ρ, res, ρ', f, e, q⟩ => ?_
  simp only [evalE] at e
  split at e
  case isFalse => cases e
  rename_i hL
  obtain ⟨s0, ds0, hs0, hm0, hp0⟩ := isL_own hL
  obtain ⟨a0, xs0, ds0', b1, b2, b3, b4, b5⟩ := f.mineAt hs0 hm0
  obtain ⟨k, ρ1, e1, e2⟩ := Res.bind_ok e
  obtain ⟨pr, e3, e4⟩ := optR_bind e2
  cases e4
  refine ⟨_, b1, .inl ⟨rfl, xs0, .of b3⟩, opd_go f e1 fun v H1 Z1 g rv => ?_⟩
  unfold popAtE at e3
  split at e3
  · rename_i ds k hs
    split at e3
    case isFalse => cases e3
    rename_i hr
    obtain ⟨j, hj, e5⟩ := Option.bind_eq_some_iff.mp e3
    obtain ⟨d, hd, rfl⟩ := Option.map_eq_some_iff.mp e5
    obtain ⟨a, xs, ds', a1, a2, a3, a4, a5⟩ := g.fr.mineAt hs rfl
    cases a2
    rw [b1] at a1; cases a1
    obtain ⟨y, hy, ry⟩ := a4.get hd
    have st : Stp (fun b => b = a0) H1 Z1 (upd H1 a0 (.lst (xs.eraseIdx j))) Z1 := ⟨fun b o e n => by rw [upd_ne n]; exact e, fun _ z => .inl z, fun b e => e ▸ a5, g.fr.zl⟩
    have hseq := ixN_seq (n := xs.length) (i := k) (j := j) (by rw [a4.len]; exact hj)
    have hrg := rgOk_d hr
    rw [rv.int]
    refine ⟨a0, xs, k, j, y, rfl, rfl, a3, by omega, by omega, hseq.1, hy, q _ _ Z1 (Post.after g ⟨Go.change g.fr hs rfl b1 (fun b o n eo => by rw [upd_ne n]; exact eo) upd_same ((a4.erase j).stp st), ry.stp st, fun e => nomatch e⟩)⟩
  · cases e3
/-- [elt for ..] -/
theorem blkOk (hx : XOk C F cal X sc) {scope : Scope} (h : L2.blkC C.N sc scope (blksOwn C.N scope) = true) : BlkOk X.N X.env.scope scope (blksOwn C.N scope) := by
  rw [hx.hN, hx.hsc]; exact blkOk_by h
theorem snd_comp (hx : XOk C F cal X sc) {scope : Scope} (hb : L2.blkC C.N sc scope (blksOwn C.N scope) = true) {elt tg iter : Expr} {ifs : List Expr} {pos : Pos} {p : P} {ii : G.I} {ts : List T} {ie : E}
    (hps : ∀ i ∈ p.slots, i ∈ (blksOwn C.N scope).map (·.2)) (hi : PI X tg iter (tI F cal ii)) (ok : okE iter = true)
    (hg : ∀ (s : Shared) (H : Hp) (C0 : Addr) (cl : List (Str × Addr)) (fp : List Addr), PG (X.blk s H scope (compEnvC scope cl C0 X.env) fp) tg (tP F p))
    (ht : ∀ (s : Shared) (H : Hp) (C0 : Addr) (cl : List (Str × Addr)) (fp : List Addr), PTs (X.blk s H scope (compEnvC scope cl C0 X.env) fp) ifs (tFs F cal ts))
    (he : ∀ (s : Shared) (H : Hp) (C0 : Addr) (cl : List (Str × Addr)) (fp : List Addr), PE (X.blk s H scope (compEnvC scope cl C0 X.env) fp) elt (tE F cal ie)) :
    PE X (.ListComp elt [⟨tg, iter, ifs, 0⟩] scope pos) (tE F cal (.comp ((blksOwn C.N scope).map (·.2)) ie p ii ts [])) :=
  (pe_lc hx.calm (by rw [hx.hN]; exact hx.nd) hi (blkOk hx hb) hg ht he (okE.fold ok)).imp (lc_reads hps)
end
end G
end

section
set_option maxHeartbeats 8000000
namespace G
open PySem PySem.Spec PyProof.Rows L2

structure Snd (C : Nm) (F : Fm) (cal : Call) (n : Nat) : Prop where
  e : ∀ (X : Cx) (sc : Scope) (ex : Expr) (ir : E), XOk C F cal X sc → xE C sc n ex = some ir → okE ex = true ∧ PE X ex (tE F cal ir) ∧ PE X ex (tO F cal ir)
  c : ∀ (X : Cx) (sc : Scope) (a : Expr) (os : List CmpOp) (bs : List Expr) (pos : Pos) (ir : E), XOk C F cal X sc → xE C sc n (.Compare a os bs pos) = some ir → PT X (.Compare a os bs pos) (tTest (tE F cal ir))
  b : ∀ (X : Cx) (sc : Scope) (op : PySem.BoolOp) (es : List Expr) (pos : Pos) (ir : E), XOk C F cal X sc → xB C sc op n es = some ir → PE X (.BoolOp op es pos) (tE F cal ir)
  es : ∀ (X : Cx) (sc : Scope) (es : List Expr) (irs : List E), XOk C F cal X sc → xEs C sc n es = some irs → (∀ e ∈ es, okE e = true) ∧ irs.length = es.length ∧ PA X es (tEs F cal irs)
  t : ∀ (X : Cx) (sc : Scope) (ex : Expr) (ir : T), XOk C F cal X sc → xT C sc n ex = some ir → PT X ex (tT F cal ir)
  bt : ∀ (X : Cx) (sc : Scope) (op : PySem.BoolOp) (es : List Expr) (pos : Pos) (ir : T), XOk C F cal X sc → xBT C sc op n es = some ir → PW X (.BoolOp op es pos) (tT F cal ir)
  fs : ∀ (X : Cx) (sc : Scope) (es : List Expr) (irs : List T), XOk C F cal X sc → xFs C sc n es = some irs → PTs X es (tFs F cal irs)
  i : ∀ (X : Cx) (sc : Scope) (tg ex : Expr) (ii : G.I), XOk C F cal X sc → xI C sc n tg ex = some ii → okE ex = true ∧ PI X tg ex (tI F cal ii)

section
variable {C : Nm} {F : Fm} {cal : Call}
theorem _root_.L2.PTs.imp {X : Cx} {e : List Expr} {t t' : TT} (h : PTs X e t) (i : ∀ σ H Q, t' σ H Q → t σ H Q) : PTs X e t' := ⟨fun pins s σ H Q I q => h.run pins s σ H Q I (i σ H Q q)⟩
/-- no name: both readings are one -/
theorem both {X : Cx} {e : Expr} {ir : E} (h : PE X e (tE F cal ir)) (n : ∀ i, ir ≠ .v i := by intro i h; cases h) : PE X e (tE F cal ir) ∧ PE X e (tO F cal ir) := by
  refine ⟨h, ?_⟩
  have e2 : tO F cal ir = tE F cal ir := by
    unfold tO
    split
    · exact absurd rfl (n _)
    · rfl
  rw [e2]; exact h
theorem snd_zero : Snd C F cal 0 := by
  refine ⟨?_, ?_, ?_, ?_, ?_, ?_, ?_, ?_⟩
  · intro X sc ex ir _ h; simp [xE] at h
  · intro X sc a os bs pos ir _ h; simp [xE] at h
  · intro X sc op es pos ir _ h; simp [xB] at h
  · intro X sc es irs _ h; simp [xEs] at h
  · intro X sc ex ir _ h; simp [xT] at h
  · intro X sc op es pos ir _ h; simp [xBT] at h
  · intro X sc es irs _ h; simp [xFs] at h
  · intro X sc tg ex ii _ h; simp [xI] at h
theorem mem_blt {x : Str} (h : bltNames.contains x = true) : x ∈ bltNames := by simpa using h

/-- a comparison -/
theorem step_cmp {n : Nat} (ih : Snd C F cal n) {X : Cx} {sc : Scope} (hx : XOk C F cal X sc) {a : Expr} {os : List CmpOp} {bs : List Expr} {pos : Pos} {ir : E} (h : xE C sc (n + 1) (.Compare a os bs pos) = some ir) : Cmp F cal X (.Compare a os bs pos) ir ∧ ∀ i, ir ≠ .v i := by
  simp only [xE] at h
  split at h
  all_goals try (simp only [reduceCtorEq] at *; done)
  · rename_i heq
    injection heq with e1 e2 e3 e4; subst e1 e2 e3 e4
    obtain ⟨ia, h1, rfl⟩ := Option.map_eq_some_iff.mp h
    exact ⟨snd_isC op_isN pe_non does_isN (ih.e X sc _ _ hx h1).2.2, fun i h => by cases h⟩
  · rename_i heq
    injection heq with e1 e2 e3 e4; subst e1 e2 e3 e4
    obtain ⟨ia, h1, rfl⟩ := Option.map_eq_some_iff.mp h
    exact ⟨snd_isC op_notN pe_non does_notN (ih.e X sc _ _ hx h1).2.2, fun i h => by cases h⟩
  · rename_i heq
    injection heq with e1 e2 e3 e4; subst e1 e2 e3 e4
    obtain ⟨ia, h1, rfl⟩ := Option.map_eq_some_iff.mp h
    exact ⟨snd_isC op_isBl pe_bl (does_isB _) (ih.e X sc _ _ hx h1).2.2, fun i h => by cases h⟩
  · rename_i heq
    injection heq with e1 e2 e3 e4; subst e1 e2 e3 e4
    obtain ⟨ia, h1, rfl⟩ := Option.map_eq_some_iff.mp h
    exact ⟨snd_isC op_notBl pe_bl (does_notB _) (ih.e X sc _ _ hx h1).2.2, fun i h => by cases h⟩
  · rename_i heq
    injection heq with e1 e2 e3 e4; subst e1 e2 e3 e4
    simp only [Option.bind_eq_bind, Option.bind_eq_some_iff] at h
    obtain ⟨o, h1, ia, h2, ib, h3, h4⟩ := h
    cases h4
    obtain ⟨ok, _, hb⟩ := ih.e X sc _ _ hx h3
    exact ⟨snd_cmp hx h1 ok (ih.e X sc _ _ hx h2).2.2 hb, fun i h => by cases h⟩
  · rename_i heq
    injection heq with e1 e2 e3 e4; subst e1 e2 e3 e4
    split at h
    case isFalse => cases h
    rename_i ho
    simp only [Bool.and_eq_true] at ho
    simp only [Option.bind_eq_bind, Option.bind_eq_some_iff] at h
    obtain ⟨o, h1, p, h2, ia, h3, ib, h4, ic, h5, h6⟩ := h
    cases h6
    obtain ⟨ok, _, hc⟩ := ih.e X sc _ _ hx h5
    exact ⟨snd_chain h1 h2 ho.1 ho.2 ok (ih.e X sc _ _ hx h3).2.2 (ih.e X sc _ _ hx h4).2.2 hc, fun i h => by cases h⟩
  · rename_i heq
    injection heq with e1 e2 e3 e4; subst e1 e2 e3 e4
    split at h
    case isFalse => cases h
    rename_i ho
    simp only [Bool.and_eq_true] at ho
    simp only [Option.bind_eq_bind, Option.bind_eq_some_iff] at h
    obtain ⟨o, h1, p, h2, q, h3, ia, h4, ib, h5, ic, h6, id, h7, h8⟩ := h
    cases h8
    obtain ⟨ok, _, hd⟩ := ih.e X sc _ _ hx h7
    exact ⟨snd_chain3 h1 h2 h3 ho.1.1 ho.1.2 ho.2 ok (ih.e X sc _ _ hx h4).2.2 (ih.e X sc _ _ hx h5).2.2 (ih.e X sc _ _ hx h6).2.2 hd, fun i h => by cases h⟩
end
end G
end

section
set_option maxHeartbeats 8000000
namespace G
open PySem PySem.Spec PyProof.Rows L2
section
variable {C : Nm} {F : Fm} {cal : Call}
theorem step_call {n : Nat} (ih : Snd C F cal n) {X : Cx} {sc : Scope} (hx : XOk C F cal X sc) {x : Str} {p pos : Pos} {es : List Expr} {ir : E} (h : xE C sc (n + 1) (.Call (.Name x p) es [] pos) = some ir) :
    PE X (.Call (.Name x p) es [] pos) (tE F cal ir) ∧ ∀ i, ir ≠ .v i := by
  simp only [xE] at h
  split at h
  case isFalse => cases h
  rename_i ho
  simp only [Bool.and_eq_true] at ho
  split at h
  · rename_i f m hf
    split at h
    case isFalse => cases h
    rename_i hm
    obtain ⟨irs, h1, rfl⟩ := Option.map_eq_some_iff.mp h
    obtain ⟨ok, hl, pa⟩ := ih.es X sc _ _ hx h1
    cases es with
    | nil =>
      cases irs with
      | nil => exact ⟨snd_call0 hx ho.1 ho.2 hf hm.symm, fun i h => by cases h⟩
      | cons _ _ => cases hl
    | cons e es => exact ⟨snd_call hx ho.1 ho.2 hf (by rw [hl]; exact hm) ok pa, fun i h => by cases h⟩
  · rename_i f m hf
    split at h
    · rename_i y py r
      split at h
      case isFalse => cases h
      rename_i hm
      simp only [Bool.and_eq_true, decide_eq_true_eq] at hm
      simp only [Option.bind_eq_bind, Option.bind_eq_some_iff] at h
      obtain ⟨i, h1, irs, h2, h3⟩ := h
      cases h3
      obtain ⟨ok, hl, pa⟩ := ih.es X sc _ _ hx h2
      exact ⟨snd_callr hx ho.1 ho.2 hf hm.1.1 hm.1.2 h1 (by rw [hl]; exact hm.2) ok pa, fun i h => by cases h⟩
    · cases h
  · rename_i hf
    split at h
    case isTrue => cases h
    rename_i hb
    have hb : bltNames.contains x = true := by
      cases q : bltNames.contains x with
      | true => rfl
      | false => rw [q] at hb; exact absurd rfl hb
    have hm := hx.blt x hf (mem_blt hb)
    split at h
    · rename_i a
      obtain ⟨o, h1, h2⟩ := Option.bind_eq_some_iff.mp h
      obtain ⟨ia, h3, rfl⟩ := Option.map_eq_some_iff.mp h2
      obtain ⟨ok, _, pa⟩ := ih.e X sc _ _ hx h3
      exact ⟨snd_call1 hx (o := o.1) (fv := o.2) h1 ho.2 hm ok pa, fun i h => by cases h⟩
    · rename_i a b
      split at h
      · rename_i e; subst e
        simp only [Option.bind_eq_bind, Option.bind_eq_some_iff] at h
        obtain ⟨ia, h1, ib, h2, h3⟩ := h
        cases h3
        obtain ⟨ok, _, pa⟩ := ih.e X sc _ _ hx h1
        obtain ⟨ok2, _, pb⟩ := ih.e X sc _ _ hx h2
        exact ⟨snd_min hx ho.2 hm ok ok2 pa pb, fun i h => by cases h⟩
      split at h
      · rename_i e; subst e
        simp only [Option.bind_eq_bind, Option.bind_eq_some_iff] at h
        obtain ⟨ia, h1, ib, h2, h3⟩ := h
        cases h3
        obtain ⟨ok, _, pa⟩ := ih.e X sc _ _ hx h1
        obtain ⟨ok2, _, pb⟩ := ih.e X sc _ _ hx h2
        exact ⟨snd_max hx ho.2 hm ok ok2 pa pb, fun i h => by cases h⟩
      split at h
      · rename_i e; subst e
        split at h
        · rename_i y py
          split at h
          case isFalse => cases h
          rename_i hy
          simp only [Bool.and_eq_true, Option.isNone_iff_eq_none] at hy
          simp only [Option.bind_eq_bind, Option.bind_eq_some_iff] at h
          obtain ⟨k, h1, ia, h2, h3⟩ := h
          cases h3
          obtain ⟨ok, _, pa⟩ := ih.e X sc _ _ hx h2
          obtain ⟨_, _, _, _, _, t6⟩ := tyOf_spec h1
          exact ⟨snd_isinst hx ho.2 hm ok pa h1 hy.1.2 (hx.blt y hy.2 (mem_blt t6)), fun i h => by cases h⟩
        · cases h
      · cases h
    · cases h
theorem step_e {n : Nat} (ih : Snd C F cal n) {X : Cx} {sc : Scope} (hx : XOk C F cal X sc) {ex : Expr} {ir : E} (h : xE C sc (n + 1) ex = some ir) : okE ex = true ∧ PE X ex (tE F cal ir) ∧ PE X ex (tO F cal ir) := by
  cases ex <;> try (simp only [xE, reduceCtorEq] at h; done)
  case Constant c j pos =>
    simp only [xE] at h
    obtain ⟨d, h1, rfl⟩ := Option.map_eq_some_iff.mp h
    exact ⟨rfl, both (rep_c h1)⟩
  case Name x pos =>
    simp only [xE] at h
    split at h
    case isFalse => cases h
    rename_i ho
    split at h
    · rename_i hv
      obtain ⟨i, h1, rfl⟩ := Option.map_eq_some_iff.mp h
      have pn := hx.name ho hv h1 (pos := pos)
      exact ⟨rfl, pn.imp tE_v, pn⟩
    · split at h
      case isFalse => cases h
      rename_i hg
      obtain ⟨d, h1, rfl⟩ := Option.map_eq_some_iff.mp h
      obtain ⟨u, v, h2, h3, h4⟩ := hx.consts x d h1
      refine ⟨rfl, both ((pe_glob (hx.gl hg) h2 h3 (okName_d ho)).imp fun σ H Q ⟨Z, ρ, r, ρ', f, e, q⟩ => ?_)⟩
      simp only [evalE] at e; cases e
      exact q _ _ _ (Post.same f (by rw [← hx.hK]; exact h4 H Z))
  case Tuple es k pos =>
    simp only [xE] at h
    split at h
    case isFalse => cases h
    rename_i hl
    obtain ⟨irs, h1, rfl⟩ := Option.map_eq_some_iff.mp h
    obtain ⟨_, h2, pa⟩ := ih.es X sc _ _ hx h1
    exact ⟨rfl, both (snd_tup pa (by omega))⟩
  case List es pos =>
    simp only [xE] at h
    split at h
    case isFalse => cases h
    rename_i hl
    obtain ⟨irs, h1, rfl⟩ := Option.map_eq_some_iff.mp h
    obtain ⟨_, h2, pa⟩ := ih.es X sc _ _ hx h1
    exact ⟨rfl, both (snd_lst pa (by omega))⟩
  case BinOp a op b pos =>
    simp only [xE, Option.bind_eq_bind, Option.bind_eq_some_iff] at h
    obtain ⟨o, h1, ia, h2, ib, h3, h4⟩ := h
    cases h4
    exact ⟨rfl, both (snd_bin hx h1 (ih.e X sc _ _ hx h2).2.2 (ih.e X sc _ _ hx h3).2.2)⟩
  case UnaryOp op a pos =>
    cases op <;> simp only [xE, reduceCtorEq] at h
    · obtain ⟨ia, h1, rfl⟩ := Option.map_eq_some_iff.mp h
      exact ⟨rfl, both (snd_not (ih.e X sc _ _ hx h1).2.1)⟩
    · obtain ⟨ia, h1, rfl⟩ := Option.map_eq_some_iff.mp h
      exact ⟨rfl, both (snd_neg (ih.e X sc _ _ hx h1).2.2)⟩
  case BoolOp op es pos =>
    simp only [xE] at h
    split at h
    all_goals try (simp only [reduceCtorEq] at *; done)
    rename_i heq
    injection heq with e1 e2 e3; subst e1 e2 e3
    refine ⟨rfl, both (ih.b X sc _ _ _ ir hx h) fun i hi => ?_⟩
    subst hi
    cases n with
    | zero => simp [xB] at h
    | succ n =>
      cases op <;> simp only [xB, Option.bind_eq_bind, Option.bind_eq_some_iff] at h
      · obtain ⟨_, _, _, _, h⟩ := h; cases h
      · obtain ⟨_, _, _, _, h⟩ := h; cases h
  case IfExp t a b pos =>
    simp only [xE, Option.bind_eq_bind, Option.bind_eq_some_iff] at h
    obtain ⟨it, h1, ia, h2, ib, h3, h4⟩ := h
    cases h4
    exact ⟨rfl, both (snd_ifx (ih.t X sc _ _ hx h1) (ih.e X sc _ _ hx h2).2.1 (ih.e X sc _ _ hx h3).2.1)⟩
  case Compare a os bs pos =>
    obtain ⟨c, hn⟩ := step_cmp ih hx h
    exact ⟨rfl, both c.1 hn⟩
  case Subscript a i pos =>
    simp only [xE] at h
    split at h
    all_goals try (simp only [reduceCtorEq] at *; done)
    · rename_i heq
      injection heq with e1 e2 e3; subst e1 e2 e3
      simp only [Option.bind_eq_bind, Option.bind_eq_some_iff] at h
      obtain ⟨ia, h1, il, h2, h3⟩ := h
      cases h3
      exact ⟨rfl, both (snd_from hx (ih.e X sc _ _ hx h1).2.2 (ih.e X sc _ _ hx h2).2.2)⟩
    · rename_i heq
      injection heq with e1 e2 e3; subst e1 e2 e3
      simp only [Option.bind_eq_bind, Option.bind_eq_some_iff] at h
      obtain ⟨ia, h1, il, h2, h3⟩ := h
      cases h3
      exact ⟨rfl, both (snd_to hx (ih.e X sc _ _ hx h1).2.2 (ih.e X sc _ _ hx h2).2.2)⟩
    · rename_i heq
      injection heq with e1 e2 e3; subst e1 e2 e3
      simp only [Option.bind_eq_bind, Option.bind_eq_some_iff] at h
      obtain ⟨ia, h1, il, h2, ih', h3, h4⟩ := h
      cases h4
      exact ⟨rfl, both (snd_cut hx (ih.e X sc _ _ hx h1).2.2 (ih.e X sc _ _ hx h2).2.2 (ih.e X sc _ _ hx h3).2.2)⟩
    · rename_i heq
      injection heq with e1 e2 e3; subst e1 e2 e3
      obtain ⟨ia, h1, rfl⟩ := Option.map_eq_some_iff.mp h
      exact ⟨rfl, both (snd_rev hx (ih.e X sc _ _ hx h1).2.2)⟩
    · rename_i heq
      injection heq with e1 e2 e3; subst e1 e2 e3
      simp only [Option.bind_eq_bind, Option.bind_eq_some_iff] at h
      obtain ⟨ia, h1, il, h2, h3⟩ := h
      cases h3
      obtain ⟨ok, _, pi⟩ := ih.e X sc _ _ hx h2
      exact ⟨rfl, both (snd_ix hx ok (ih.e X sc _ _ hx h1).2.2 pi)⟩
  case ListComp elt gs scope pos =>
    simp only [xE] at h
    split at h
    all_goals try (simp only [reduceCtorEq] at *; done)
    rename_i heq
    injection heq with e1 e2 e3 e4; subst e1 e2 e3 e4
    split at h
    case isFalse => cases h
    rename_i hb
    simp only [Option.bind_eq_bind, Option.bind_eq_some_iff] at h
    obtain ⟨p, h1, h⟩ := h
    split at h
    case isFalse => cases h
    rename_i hps
    simp only [Option.bind_eq_some_iff] at h
    obtain ⟨ie, h2, ii, h3, ts, h4, h5⟩ := h
    cases h5
    obtain ⟨ok, pi⟩ := ih.i X sc _ _ _ hx h3
    refine ⟨rfl, both (snd_comp hx hb (fun i hi => ?_) pi ok (fun s H C0 cl fp => ((snd_P n).1 _ _ _ _ _ hx.blk Sto.blk h1).2) (fun s H C0 cl fp => ih.fs _ _ _ _ hx.blk h4) (fun s H C0 cl fp => (ih.e _ _ _ _ hx.blk h2).2.1))⟩
    have := List.all_eq_true.mp hps i hi
    simpa using this
  case Call f es kw pos =>
    cases kw with
    | cons _ _ => cases f <;> simp only [xE, reduceCtorEq] at h
    | nil =>
      cases f <;> try (simp only [xE, reduceCtorEq] at h; done)
      case Name x p =>
        obtain ⟨c, hn⟩ := step_call ih hx h
        exact ⟨rfl, both c hn⟩
      case Attribute o m ap =>
        cases o <;> try (simp only [xE, reduceCtorEq] at h; done)
        case Name x px =>
          simp only [xE] at h
          split at h
          case isFalse => cases h
          rename_i ho
          simp only [Bool.and_eq_true, decide_eq_true_eq] at ho
          obtain ⟨⟨⟨rfl, h1⟩, h2⟩, h3⟩ := ho
          split at h
          · obtain ⟨i, hi, rfl⟩ := Option.map_eq_some_iff.mp h
            exact ⟨rfl, both (snd_pop hx h1 h2 hi h3)⟩
          · simp only [Option.bind_eq_bind, Option.bind_eq_some_iff] at h
            obtain ⟨i, hi, ia, h4, h5⟩ := h
            cases h5
            obtain ⟨ok, _, pa⟩ := ih.e X sc _ _ hx h4
            exact ⟨rfl, both (snd_popAt hx h1 h2 hi h3 ok pa)⟩
          · cases h
end
end G
end

section
set_option maxHeartbeats 8000000
namespace G
open PySem PySem.Spec PyProof.Rows L2
section
variable {C : Nm} {F : Fm} {cal : Call}
theorem pw_of {X : Cx} {e : Expr} {op : PySem.BoolOp} {pos : Pos} {t : TT} (h : PT X e t) : PW X (.BoolOp op [e] pos) t := by
  cases op
  · exact pw_and1 h
  · exact pw_or1 h
theorem step_b {n : Nat} (ih : Snd C F cal n) {X : Cx} {sc : Scope} (hx : XOk C F cal X sc) {op : PySem.BoolOp} {es : List Expr} {pos : Pos} {ir : E} (h : xB C sc op (n + 1) es = some ir) : PE X (.BoolOp op es pos) (tE F cal ir) := by
  cases es with
  | nil => simp [xB] at h
  | cons a r =>
    cases r with
    | nil => simp only [xB] at h; exact pe_one (ih.e X sc _ _ hx h).2.1
    | cons b r =>
      cases op <;> simp only [xB, Option.bind_eq_bind, Option.bind_eq_some_iff] at h
      · obtain ⟨ia, h1, ib, h2, h3⟩ := h
        cases h3
        exact snd_and (ih.e X sc _ _ hx h1).2.1 (ih.b X sc _ _ pos _ hx h2)
      · obtain ⟨ia, h1, ib, h2, h3⟩ := h
        cases h3
        exact snd_or (ih.e X sc _ _ hx h1).2.1 (ih.b X sc _ _ pos _ hx h2)
theorem step_bt {n : Nat} (ih : Snd C F cal n) {X : Cx} {sc : Scope} (hx : XOk C F cal X sc) {op : PySem.BoolOp} {es : List Expr} {pos : Pos} {ir : T} (h : xBT C sc op (n + 1) es = some ir) : PW X (.BoolOp op es pos) (tT F cal ir) := by
  cases es with
  | nil => simp [xBT] at h
  | cons a r =>
    cases r with
    | nil => simp only [xBT] at h; exact pw_of (ih.t X sc _ _ hx h)
    | cons b r =>
      cases op <;> simp only [xBT, Option.bind_eq_bind, Option.bind_eq_some_iff] at h
      · obtain ⟨ia, h1, ib, h2, h3⟩ := h
        cases h3
        exact snd_tand (ih.t X sc _ _ hx h1) (ih.bt X sc _ _ pos _ hx h2)
      · obtain ⟨ia, h1, ib, h2, h3⟩ := h
        cases h3
        exact snd_tor (ih.t X sc _ _ hx h1) (ih.bt X sc _ _ pos _ hx h2)
theorem step_es {n : Nat} (ih : Snd C F cal n) {X : Cx} {sc : Scope} (hx : XOk C F cal X sc) {es : List Expr} {irs : List E} (h : xEs C sc (n + 1) es = some irs) : (∀ e ∈ es, okE e = true) ∧ irs.length = es.length ∧ PA X es (tEs F cal irs) := by
  cases es with
  | nil => simp only [xEs] at h; cases h; exact ⟨(fun _ h => nomatch h), rfl, snd_nil⟩
  | cons e es =>
    simp only [xEs, Option.bind_eq_bind, Option.bind_eq_some_iff] at h
    obtain ⟨i, h1, is, h2, h3⟩ := h
    cases h3
    obtain ⟨ok, pe, _⟩ := ih.e X sc _ _ hx h1
    obtain ⟨oks, hl, pa⟩ := ih.es X sc _ _ hx h2
    exact ⟨(fun a ha => (List.mem_cons.mp ha).elim (fun h => h ▸ ok) (oks a)), by rw [List.length_cons, List.length_cons, hl], snd_cons ok pe pa⟩
theorem step_t {n : Nat} (ih : Snd C F cal n) {X : Cx} {sc : Scope} (hx : XOk C F cal X sc) {ex : Expr} {ir : T} (h : xT C sc (n + 1) ex = some ir) : PT X ex (tT F cal ir) := by
  have plain : ∀ {ex : Expr} {ir : T}, (∀ whole, isTrue ex X.env whole = (do let v ← whole; standAt ex.pos; holding [v] (truthy v))) → Option.map T.e (xE C sc n ex) = some ir → PT X ex (tT F cal ir) := fun {ex ir} he h => by
    obtain ⟨i, h1, rfl⟩ := Option.map_eq_some_iff.mp h
    exact snd_te hx.hK (ih.e X sc _ _ hx h1).2.2 he
  cases ex
  case BoolOp op es pos => simp only [xT] at h; exact (ih.bt X sc op es pos ir hx h).pt
  case UnaryOp op a pos =>
    cases op
    case Not =>
      simp only [xT] at h
      obtain ⟨i, h1, rfl⟩ := Option.map_eq_some_iff.mp h
      exact snd_tnot (ih.t X sc _ _ hx h1)
    all_goals simp only [xT] at h; exact plain (by intro _; rfl) h
  case IfExp t a b pos => simp [xT] at h
  case Compare a os bs pos =>
    simp only [xT] at h
    obtain ⟨i, h1, rfl⟩ := Option.map_eq_some_iff.mp h
    exact snd_tb (ih.c X sc _ _ _ _ _ hx h1)
  all_goals simp only [xT] at h; exact plain (by intro _; rfl) h
theorem step_fs {n : Nat} (ih : Snd C F cal n) {X : Cx} {sc : Scope} (hx : XOk C F cal X sc) {es : List Expr} {irs : List T} (h : xFs C sc (n + 1) es = some irs) : PTs X es (tFs F cal irs) := by
  cases es with
  | nil =>
    simp only [xFs] at h; cases h
    refine pts_nil.imp fun σ H Q ⟨Z, ρ, b, ρ', f, e, q⟩ => ?_
    simp only [evalFs] at e; cases e
    exact q H Z (Go.refl f)
  | cons e es =>
    cases es with
    | nil =>
      simp only [xFs] at h
      obtain ⟨i, h1, rfl⟩ := Option.map_eq_some_iff.mp h
      refine (pts_one (ih.t X sc _ _ hx h1)).imp fun σ H Q ⟨Z, ρ, b, ρ', f, e, q⟩ => ?_
      simp only [evalFs] at e
      obtain ⟨c, ρ1, e1, e2⟩ := Res.bind_ok e
      refine ⟨Z, ρ, c, ρ1, f, e1, fun H' Z' g => ?_⟩
      cases c with
      | true => simp only [if_true] at e2; cases e2; exact q H' Z' g
      | false => simp only [Bool.false_eq_true, if_false] at e2; cases e2; exact q H' Z' g
    | cons _ _ => simp [xFs] at h
theorem step_i {n : Nat} (ih : Snd C F cal n) {X : Cx} {sc : Scope} (hx : XOk C F cal X sc) {tg ex : Expr} {ii : G.I} (h : xI C sc (n + 1) tg ex = some ii) : okE ex = true ∧ PI X tg ex (tI F cal ii) := by
  have plain : ∀ {ii : G.I}, Option.map I.e (xE C sc n ex) = some ii → okE ex = true ∧ PI X tg ex (tI F cal ii) := fun {ii} h => by
    obtain ⟨i, h1, rfl⟩ := Option.map_eq_some_iff.mp h
    obtain ⟨ok, pe, _⟩ := ih.e X sc _ _ hx h1
    exact ⟨ok, snd_ie hx.hK pe⟩
  cases ex
  case Call f es kw pos =>
    cases f
    case Name x p =>
      cases kw with
      | cons _ _ => simp only [xI] at h; exact plain h
      | nil =>
        simp only [xI] at h
        split at h
        · rename_i ho
          simp only [Bool.and_eq_true, Option.isNone_iff_eq_none] at ho
          obtain ⟨⟨⟨h1, h2⟩, h3⟩, h4⟩ := ho
          split at h
          · rename_i e; subst e
            split at h
            case isFalse => cases h
            rename_i hl
            obtain ⟨irs, h5, rfl⟩ := Option.map_eq_some_iff.mp h
            obtain ⟨oks, hl2, pa⟩ := ih.es X sc _ _ hx h5
            have hm := hx.blt _ h3 (show ("range" : Str) ∈ bltNames by decide +kernel)
            match es, irs, hl2, hl, oks, pa with
            | [a], [ia], _, _, oks, pa => exact ⟨rfl, snd_range1 hx h2 hm (oks a (by simp)) pa⟩
            | [a, b], [ia, ib], _, _, oks, pa => exact ⟨rfl, snd_range2 hx h2 hm (oks a (by simp)) (oks b (by simp)) pa⟩
          · split at h
            · split at h
              · rename_i e; subst e
                split at h
                case isFalse => cases h
                rename_i hl
                obtain ⟨irs, h5, rfl⟩ := Option.map_eq_some_iff.mp h
                obtain ⟨oks, hl2, pa⟩ := ih.es X sc _ _ hx h5
                have hm := hx.blt _ h3 (show ("zip" : Str) ∈ bltNames by decide +kernel)
                match es, irs, hl2, hl, oks, pa with
                | [a, b], [ia, ib], _, _, oks, pa => exact ⟨rfl, snd_zip hx h2 hm (oks a (by simp)) (oks b (by simp)) pa⟩
              · split at h
                · rename_i hr _ _ _ _ hz _ a
                  have e : x = ("enumerate" : Str) := by
                    simp only [Bool.or_eq_true, decide_eq_true_eq] at h4
                    rcases h4 with (h4 | h4) | h4
                    · exact absurd h4 (by assumption)
                    · exact absurd h4 (by assumption)
                    · exact h4
                  subst e
                  obtain ⟨ia, h5, rfl⟩ := Option.map_eq_some_iff.mp h
                  obtain ⟨ok, pe, _⟩ := ih.e X sc _ _ hx h5
                  have hm := hx.blt _ h3 (show ("enumerate" : Str) ∈ bltNames by decide +kernel)
                  exact ⟨rfl, snd_enum hx h2 hm ok pe⟩
                · cases h
            · cases h
        · exact plain h
    all_goals (cases kw <;> simp only [xI] at h <;> exact plain h)
  all_goals simp only [xI] at h; exact plain h
theorem snd_all : ∀ n, Snd C F cal n
  | 0 => snd_zero
  | n + 1 => by
    have ih := snd_all n
    exact ⟨fun X sc ex ir hx h => step_e ih hx h, fun X sc a os bs pos ir hx h => (step_cmp ih hx h).1.2, fun X sc op es pos ir hx h => step_b ih hx h, fun X sc es irs hx h => step_es ih hx h,
      fun X sc ex ir hx h => step_t ih hx h, fun X sc op es pos ir hx h => step_bt ih hx h, fun X sc es irs hx h => step_fs ih hx h, fun X sc tg ex ii hx h => step_i ih hx h⟩
end
end G
end

section
set_option maxHeartbeats 8000000
namespace G
open PySem PySem.Spec PyProof.Rows L2

/-! ### statements -/
/-- what a def returns: a fresh list may become the caller's own -/
def RetOk (F : Fm) (H : Hp) (σ : L2.St) (ρ : Env) (x : V) (r : R) : Prop := Rep F.K H F.Z0 x r.1 ∧ (r.2 = true → ∃ p xs ds Zp, x = .ref p ∧ r.1 = .lst ds ∧ H p = some (.lst xs) ∧ F.H0 p = none ∧ (∀ b, F.Z0 b → Zp b) ∧ Zp p ∧ RepA F.K H Zp xs ds ∧ Fra F Zp H σ ρ)
def Out (F : Fm) (D : Ends) (H : Hp) (Z : Zs) : SRes → Prop
  | .nx ρ' => ∀ σ' H' Z', Fra F Z' H' σ' ρ' → Adv H Z H' Z' → D.nx σ' H'
  | .brk ρ' => ∀ σ' H' Z', Fra F Z' H' σ' ρ' → Adv H Z H' Z' → D.bk σ' H'
  | .ct ρ' => ∀ σ' H' Z', Fra F Z' H' σ' ρ' → Adv H Z H' Z' → D.ct σ' H'
  | .ret r ρ' => ∀ x σ' H' Z', Fra F Z' H' σ' ρ' → RetOk F H' σ' ρ' x r → D.rt x H'
  | .exc _ _ => False
  | .no => False
def tS (F : Fm) (ex : Env → SRes) : TS := fun D σ H => ∃ Z ρ, Fra F Z H σ ρ ∧ Out F D H Z (ex ρ)
theorem Out.adv {F : Fm} {D : Ends} {H H' : Hp} {Z Z' : Zs} {r : SRes} (h : Out F D H Z r) (a : Adv H Z H' Z') : Out F D H' Z' r := by
  cases r with
  | nx ρ => exact fun σ2 H2 Z2 f a2 => h σ2 H2 Z2 f (a.trans a2)
  | brk ρ => exact fun σ2 H2 Z2 f a2 => h σ2 H2 Z2 f (a.trans a2)
  | ct ρ => exact fun σ2 H2 Z2 f a2 => h σ2 H2 Z2 f (a.trans a2)
  | ret r ρ => exact h
  | exc _ _ => exact h
  | no => exact h
theorem Res.st_out {α : Type} {m : Res α} {f : α → Env → SRes} {F : Fm} {D : Ends} {H : Hp} {Z : Zs} (h : Out F D H Z (m.st f)) : ∃ a ρ1, m = .ok a ρ1 ∧ Out F D H Z (f a ρ1) := by
  cases m with
  | ok a ρ1 => exact ⟨a, ρ1, rfl, h⟩
  | exc x ρ1 => exact h.elim
  | no => exact h.elim

section
variable {F : Fm} {σ : L2.St} {H H1 H2 H' : Hp} {Z Z1 Z2 Z' : Zs} {ρ ρ1 ρ2 ρ' : Env} {cal : Call}
/-- a fresh list is claimed -/
theorem Post.claim {x : V} {r : R} (p : Post F σ H Z ρ x r H1 Z1 ρ1) (h : r.2 = true) : ∃ q xs ds, x = .ref q ∧ r.1 = .lst ds ∧ H1 q = some (.lst xs) ∧ H q = none ∧ RepA F.K H1 (fun b => Z1 b ∨ b = q) xs ds ∧ Go F σ H Z ρ H1 (fun b => Z1 b ∨ b = q) ρ1 := by
  obtain ⟨q, xs, ds, h1, h2, h3, h4, h5, h6⟩ := p.own h
  exact ⟨q, xs, ds, h1, h2, h3, h4, h5, h6, ⟨p.go.stp.keep, fun b z => z.elim (p.go.stp.zs b) fun e => .inr (e ▸ h4), p.go.stp.wz, p.go.stp.zl⟩, fun b z n => .inl (p.go.lo b z n), p.go.ws, p.go.wo, p.go.mono⟩
/-- a result at its place: data, or a list claimed -/
theorem Fra.store (f : Fra F Z H σ ρ) {i : Nat} {x : V} {r : R} {ρ' : Env} (h : setP (.n i) r ρ = some ρ') (hr : (r.2 = false ∧ Rep F.K H Z x r.1) ∨ (∃ p xs ds, x = .ref p ∧ r = (.lst ds, true) ∧ H p = some (.lst xs) ∧ RepA F.K H Z xs ds ∧ Z p ∧ F.H0 p = none ∧ ¬ Ws σ ρ p)) :
    Fra F Z H (σ.set i (some x)) ρ' ∧ ρ'.length = ρ.length := by
  simp only [setP] at h
  split at h
  case isFalse => cases h
  rename_i hi
  split at h
  · cases h
  · rcases hr with ⟨hr, rep⟩ | ⟨p, xs, ds, rfl, rfl, h1, h2, h3, h4, h5⟩
    · split at h
      · cases hr
      · cases h
        exact ⟨f.put hi ⟨x, rfl, rep⟩ (fun m => nomatch m), by rw [List.length_set]⟩
    · simp only at h
      cases h
      exact ⟨f.put hi ⟨p, xs, ds, rfl, rfl, h1, h2, h3, h4⟩ (fun _ b e => by cases e; exact h5), by rw [List.length_set]⟩
end

section
variable {C : Nm} {F : Fm} {cal : Call} {X : Cx} {sc : Scope}
/-- x = e -/
theorem set_reads {e : E} {i : Nat} : ∀ D σ H, tS F (exec cal (.set (.n i) e)) D σ H → tAsg (tE F cal e) (gName i) D σ H := by
  rintro D σ H ⟨Z, ρ, f, o⟩
  simp only [exec] at o
  obtain ⟨r, ρ1, e1, o1⟩ := Res.st_out o
  refine ⟨Z, ρ, r, ρ1, f, e1, fun x H' Z' p => ?_⟩
  cases hs : setP (.n i) r ρ1 with
  | none => rw [hs] at o1; exact o1.elim
  | some ρ2 =>
    rw [hs] at o1
    show D.nx (σ.set i (some x)) H'
    cases hr : r.2 with
    | false => exact o1 _ H' Z' (p.go.fr.store hs (.inl ⟨hr, p.rep⟩)).1 p.go.adv
    | true =>
      obtain ⟨q, xs, ds, h1, h2, h3, h4, h5, g⟩ := p.claim hr
      have hr' : r = (.lst ds, true) := by
        obtain ⟨d, b⟩ := r
        simp only at h2 hr
        rw [h2, hr]
      exact o1 _ H' _ (g.fr.store hs (.inr ⟨q, xs, ds, h1, hr', h3, h5, .inr rfl, f.fresh h4, fun w => f.notz h4 (f.wz _ (g.ws _ w))⟩)).1 g.adv
theorem tup_reads {e : E} {ps : List P} : ∀ D σ H, tS F (exec cal (.set (.t ps) e)) D σ H → tAsg (tE F cal e) (tP F (.t ps)) D σ H := by
  rintro D σ H ⟨Z, ρ, f, o⟩
  simp only [exec] at o
  obtain ⟨r, ρ1, e1, o1⟩ := Res.st_out o
  refine ⟨Z, ρ, r, ρ1, f, e1, fun x H' Z' p => ?_⟩
  cases hs : bindP (.t ps) r.1 ρ1 with
  | none => simp only [setP, hs] at o1; exact o1.elim
  | some ρ2 =>
    simp only [setP, hs] at o1
    exact ⟨Z', ρ1, r.1, ρ2, p.go.fr, p.rep, hs, fun σ' f' _ => o1 σ' H' Z' f' p.go.adv⟩

/-! several values at once -/
def FrIn (xs : List V) (rs : List R) (q : Addr) : Prop := ∃ (k : Nat) (r : R), rs[k]? = some r ∧ r.2 = true ∧ xs[k]? = some (.ref q)
inductive Rs (F : Fm) (H : Hp) (Z : Zs) (σ : L2.St) (ρ : Env) : List V → List R → Prop
  | nil : Rs F H Z σ ρ [] []
  | old {x : V} {r : R} {xs : List V} {rs : List R} : Rep F.K H Z x r.1 → r.2 = false → Rs F H Z σ ρ xs rs → Rs F H Z σ ρ (x :: xs) (r :: rs)
  | new {p : Addr} {ys : List V} {ds : List G.D} {xs : List V} {rs : List R} : H p = some (.lst ys) → RepA F.K H Z ys ds → Z p → F.H0 p = none → ¬ Ws σ ρ p → ¬ FrIn xs rs p → Rs F H Z σ ρ xs rs → Rs F H Z σ ρ (.ref p :: xs) ((.lst ds, true) :: rs)
theorem Rs.len {F : Fm} {H : Hp} {Z : Zs} {σ : L2.St} {ρ : Env} : ∀ {xs : List V} {rs : List R}, Rs F H Z σ ρ xs rs → xs.length = rs.length
  | _, _, .nil => rfl
  | _, _, .old _ _ t => congrArg (· + 1) t.len
  | _, _, .new _ _ _ _ _ _ t => congrArg (· + 1) t.len
theorem Rs.up {F : Fm} {H H' : Hp} {Z : Zs} {σ : L2.St} {ρ : Env} (h : ∀ b o, H b = some o → H' b = some o) : ∀ {xs : List V} {rs : List R}, Rs F H Z σ ρ xs rs → Rs F H' Z σ ρ xs rs
  | _, _, .nil => .nil
  | _, _, .old r e t => .old (r.up h) e (t.up h)
  | _, _, .new a b c d e f t => .new (h _ _ a) (b.up h) c d e f (t.up h)
def tRs (F : Fm) (cal : Call) (es : List E) : TA := fun σ H Q => ∃ Z ρ rs ρ', Fra F Z H σ ρ ∧ evalRs cal es ρ = .ok rs ρ' ∧ ∀ xs H' Z', Go F σ H Z ρ H' Z' ρ' → (∀ q, FrIn xs rs q → H q = none) → Rs F H' Z' σ ρ' xs rs → Q xs H'
theorem snd_rnil : PA X [] (tRs F cal []) := pa_nil.imp fun σ H Q ⟨Z, ρ, rs, ρ', f, e, q⟩ => by
  simp only [evalRs] at e; cases e
  exact q [] H Z (Go.refl f) (fun q ⟨k, r, h, _⟩ => by simp at h) .nil
theorem snd_rcons {e : Expr} {es : List Expr} {ir : E} {irs : List E} (ok : okE e = true) (h : PE X e (tE F cal ir)) (hs : PA X es (tRs F cal irs)) : PA X (e :: es) (tRs F cal (ir :: irs)) := by
  refine (pa_cons h hs (okE.star ok)).imp fun σ H Q ⟨Z, ρ, rs, ρ', f, ev, q⟩ => ?_
  simp only [evalRs] at ev
  obtain ⟨r, ρ1, e1, ev1⟩ := Res.bind_ok ev
  obtain ⟨rs', ρ2, e2, ev2⟩ := Res.bind_ok ev1
  cases ev2
  refine ⟨Z, ρ, r, ρ1, f, e1, fun x H1 Z1 p => ?_⟩
  cases hr : r.2 with
  | false =>
    refine ⟨Z1, ρ1, rs', _, p.go.fr, e2, fun xs H2 Z2 g hf rr => q _ _ _ (p.go.trans g) (fun q' ⟨k, r', h1, h2, h3⟩ => ?_) (.old (g.rep p.rep) hr rr)⟩
    cases k with
    | zero => simp at h1; subst h1; rw [hr] at h2; cases h2
    | succ k =>
      have := hf q' ⟨k, r', by simpa using h1, h2, by simpa using h3⟩
      exact Classical.byContradiction fun n => p.go.mono q' n this
  | true =>
    obtain ⟨w, ys, ds, h1, h2, h3, h4, h5, g1⟩ := p.claim hr
    have hr' : r = (.lst ds, true) := by
      obtain ⟨d, b⟩ := r
      simp only at h2 hr
      rw [h2, hr]
    refine ⟨_, ρ1, rs', _, g1.fr, e2, fun xs H2 Z2 g hf rr => ?_⟩
    have nw : ∀ {ρ3}, (∀ b, Ws σ ρ3 b → Ws σ ρ b) → ¬ Ws σ ρ3 w := fun hw hh => f.notz h4 (f.wz _ (hw _ hh))
    have nw1 : ¬ Ws σ ρ1 w := nw g1.ws
    have z2 : Z2 w := g.lo w (.inr rfl) fun hw => nw1 hw.ws
    have h3' : H2 w = some (.lst ys) := g.stp.keep w _ h3 nw1
    subst h1 hr'
    refine q _ _ _ (g1.trans g) (fun q' ⟨k, r', k1, k2, k3⟩ => ?_) (.new h3' (g.repA h5) z2 (f.fresh h4) (nw fun b hb => g1.ws b (g.ws b hb)) (fun hh => ?_) rr)
    · cases k with
      | zero => simp at k3; subst k3; exact h4
      | succ k =>
        have := hf q' ⟨k, r', by simpa using k1, k2, by simpa using k3⟩
        exact Classical.byContradiction fun n => p.go.mono q' n this
    · have := hf w hh
      rw [h3] at this; cases this
/-- slots set one after another -/
def setσ : List Nat → List V → L2.St → L2.St
  | i :: is, x :: xs, σ => setσ is xs (σ.set i (some x))
  | _, _, σ => σ
theorem setAll_len : ∀ {is : List Nat} {rs : List R} {ρ ρ' : Env}, setAll is rs ρ = some ρ' → rs.length = is.length
  | [], [], _, _, _ => rfl
  | [], _ :: _, _, _, h => by simp [setAll] at h
  | _ :: _, [], _, _, h => by simp [setAll] at h
  | i :: is, r :: rs, ρ, ρ', h => by
    simp only [setAll] at h
    obtain ⟨ρ1, _, h2⟩ := Option.bind_eq_some_iff.mp h
    rw [List.length_cons, List.length_cons, setAll_len h2]
theorem Rs.put {F : Fm} {H : Hp} {Z : Zs} {σ σ' : L2.St} {ρ ρ' : Env} {w : Addr} {b0 : Bool} (hw : ∀ q, Ws σ' ρ' q → Ws σ ρ q ∨ (b0 = true ∧ q = w)) : ∀ {xs : List V} {rs : List R}, (b0 = true → ¬ FrIn xs rs w) → Rs F H Z σ ρ xs rs → Rs F H Z σ' ρ' xs rs
  | _, _, _, .nil => .nil
  | _, _, n, .old r e t => .old r e (Rs.put hw (fun hb ⟨k, r, h1, h2, h3⟩ => n hb ⟨k + 1, r, by simpa using h1, h2, by simpa using h3⟩) t)
  | _, _, n, .new a b c d e f t => .new a b c d (fun h => (hw _ h).elim e fun ⟨hb, eq⟩ => n hb ⟨0, _, rfl, rfl, by rw [eq]; rfl⟩) f (Rs.put hw (fun hb ⟨k, r, h1, h2, h3⟩ => n hb ⟨k + 1, r, by simpa using h1, h2, by simpa using h3⟩) t)
theorem setP_ws {F : Fm} {H : Hp} {Z : Zs} {σ : L2.St} {ρ ρ' : Env} {i : Nat} {x : V} {r : R} (f : Fra F Z H σ ρ) (h : setP (.n i) r ρ = some ρ') : ∀ q, Ws (σ.set i (some x)) ρ' q → Ws σ ρ q ∨ (r.2 = true ∧ x = .ref q) := by
  rintro q ⟨j, s, e, m, hq⟩
  simp only [setP] at h
  split at h
  case isFalse => cases h
  rename_i hi
  have hiσ : i < σ.length := by rw [f.len]; exact hi
  by_cases hj : j = i
  · subst hj
    rw [List.getElem?_set_self hiσ] at hq
    cases hq
    split at h
    · cases h
    · split at h
      · exact .inr ⟨rfl, rfl⟩
      · cases h
        rw [List.getElem?_set_self hi] at e
        cases e; cases m
  · rw [List.getElem?_set_ne (Ne.symm hj)] at hq
    have e' : ρ[j]? = some s := by
      split at h
      · cases h
      · split at h <;> cases h <;> rw [List.getElem?_set_ne (Ne.symm hj)] at e <;> exact e
    exact .inl ⟨j, s, e', m, hq⟩
theorem setAll_ok {F : Fm} {H : Hp} {Z : Zs} : ∀ {is : List Nat} {xs : List V} {rs : List R} {σ : L2.St} {ρ ρ' : Env}, Fra F Z H σ ρ → Rs F H Z σ ρ xs rs → setAll is rs ρ = some ρ' → Fra F Z H (setσ is xs σ) ρ'
  | [], _, _, _, _, _, f, .nil, h => by simp only [setAll] at h; cases h; exact f
  | [], _, _, _, _, _, f, .old .., h => by simp [setAll] at h
  | [], _, _, _, _, _, f, .new .., h => by simp [setAll] at h
  | i :: is, _, _, _, _, _, f, .nil, h => by simp [setAll] at h
  | i :: is, x :: xs, r :: rs, σ, ρ, ρ', f, .old rep e t, h => by
    simp only [setAll] at h
    obtain ⟨ρ1, h1, h2⟩ := Option.bind_eq_some_iff.mp h
    have f1 := (f.store h1 (.inl ⟨e, rep⟩)).1
    exact setAll_ok (is := is) (xs := xs) f1 (Rs.put (w := 0) (b0 := false) (fun q hq => (setP_ws f h1 q hq).imp id fun ⟨a, _⟩ => by rw [e] at a; cases a) (fun h => nomatch h) t) h2
  | i :: is, .ref p :: xs, _ :: rs, σ, ρ, ρ', f, .new a b c d e n t, h => by
    simp only [setAll] at h
    obtain ⟨ρ1, h1, h2⟩ := Option.bind_eq_some_iff.mp h
    have f1 := (f.store h1 (.inr ⟨p, _, _, rfl, rfl, a, b, c, d, e⟩)).1
    exact setAll_ok (is := is) (xs := xs) f1 (Rs.put (w := p) (b0 := true) (fun q hq => (setP_ws f h1 q hq).imp id fun ⟨_, e⟩ => ⟨rfl, by cases e; rfl⟩) (fun _ => n) t) h2
end
end G
end

section
set_option maxHeartbeats 8000000
namespace G
open PySem PySem.Spec PyProof.Rows L2

theorem blockKind_fn {env : PySem.Env} (h : env.scope.kind = .function) : env.blockKind = .function := by
  unfold Env.blockKind; rw [h]; rfl
theorem par_swapped {env : PySem.Env} {sc : Scope} {ts vs : List Expr} {k k2 : Nat} {p p2 : Pos} {b : Bool} (hsc : env.scope = sc) (hk : sc.kind = .function) (hvs : ∀ e ∈ vs, okE e = true) (h : parKind sc ts vs = some b) :
    swappedStores [.Tuple ts k p] (.Tuple vs k2 p2) env = pure (if b then some (parNames sc (parLine ts) ts) else none) := by
  have hb := blockKind_fn (env := env) (by rw [hsc]; exact hk)
  unfold swappedStores
  simp only [hb]
  unfold parKind at h
  subst hsc
  generalize hg : List.filterMap _ ts = names
  have hn : names = parNames env.scope (parLine ts) ts := by rw [← hg]; rfl
  generalize hs : List.any vs _ = bb
  have hst : bb = false := by
    rw [← hs, List.any_eq_false]
    intro e he
    have := hvs e he
    cases e <;> first | (intro h; cases h; done) | cases this
  subst hn hst
  by_cases c1 : (!(ts.length == 2 || ts.length == 3) || vs.length != ts.length) = true
  · rw [if_pos c1] at h
    cases h
    simp only [c1, Bool.true_or]
    rfl
  rw [if_neg c1] at h
  have c1' : (!(ts.length == 2 || ts.length == 3) || vs.length != ts.length || (ScopeKind.function != ScopeKind.function)) = false := by
    simp only [Bool.not_eq_true] at c1
    rw [c1]; rfl
  simp only [c1']
  by_cases c2 : ((parNames env.scope (parLine ts) ts).length != ts.length || (parNames env.scope (parLine ts) ts).eraseDups.length != (parNames env.scope (parLine ts) ts).length) = true
  · rw [if_pos c2] at h
    cases h
    simp only [c2]
    rfl
  rw [if_neg c2] at h
  simp only [Bool.not_eq_true] at c2
  simp only [c2]
  by_cases c3 : vs.all (foldedForSure 8) = true
  · rw [if_pos c3] at h
    cases h
    simp only [c3]
    rfl
  rw [if_neg c3] at h
  simp only [Bool.not_eq_true] at c3
  simp only [c3]
  by_cases c4 : vs.all (constantsAlone 8) = true
  · rw [if_pos c4] at h
    cases h
  rw [if_neg c4] at h
  cases h
  simp only [Bool.not_eq_true] at c4
  simp only [c4]
  rfl
end G
end

section
set_option maxHeartbeats 8000000
namespace G
open PySem PySem.Spec PyProof.Rows L2

/-- where a statement stands -/
structure SOk (C : Nm) (F : Fm) (cal : Call) (X : Cx) (sc : Scope) : Prop where
  x : XOk C F cal X sc
  kind : sc.kind = .function
  sto : Sto X sc
section
variable {C : Nm} {F : Fm} {cal : Call} {X : Cx} {sc : Scope}
theorem snd_rs (hx : XOk C F cal X sc) : ∀ (n : Nat) {es : List Expr} {irs : List E}, xEs C sc n es = some irs → PA X es (tRs F cal irs)
  | 0, _, _, h => by simp [xEs] at h
  | n + 1, [], _, h => by simp only [xEs] at h; cases h; exact snd_rnil
  | n + 1, e :: es, _, h => by
    simp only [xEs, Option.bind_eq_bind, Option.bind_eq_some_iff] at h
    obtain ⟨ir, h1, irs, h2, h3⟩ := h
    cases h3
    obtain ⟨ok, pe, _⟩ := (snd_all n).e X sc _ _ hx h1
    exact snd_rcons ok pe (snd_rs hx n h2)
theorem sw_ok {env : PySem.Env} (hsc : env.scope = sc) (hk : sc.kind = .function) {v : Expr} (ok : okE v = true) {x : Str} {pos : Pos} {l : Nat} : swapsWith v (some (.Name x pos)) l env = pure (swaps sc v x pos) := by
  cases v <;> first | rfl | (cases ok; done) | skip
  case ListComp elt gs s p =>
    have hb := blockKind_fn (env := env) (by rw [hsc]; exact hk)
    subst hsc
    unfold swapsWith swaps
    simp only [hb]
    congr 1
    have e : env.kindOf x = env.scope.names.lookup x := rfl
    rw [e]
    cases env.scope.names.lookup x with
    | none => rfl
    | some k => cases k <;> rfl
theorem sw_tup {env : PySem.Env} {v : Expr} {ts : List Expr} {k : Nat} {p : Pos} {l : Nat} : swapsWithSole [.Tuple ts k p] v l env = pure false := by
  cases v <;> rfl
theorem sw_sub {env : PySem.Env} {v a b : Expr} {p : Pos} {l : Nat} : swapsWithSole [.Subscript a b p] v l env = pure false := by
  cases v <;> rfl
theorem sw_non {env : PySem.Env} {v : Expr} (h : ∀ a b c d, v ≠ .ListComp a b c d) (ok : okE v = true) {l : Nat} : swapsWith v none l env = pure false := by
  cases v <;> first | rfl | exact absurd rfl (h _ _ _ _) | cases ok
theorem ws_tup {env : PySem.Env} {v : Expr} {ts : List Expr} {k : Nat} {p : Pos} (h : ∀ a b c, v ≠ .Tuple a b c) : swappedStores [.Tuple ts k p] v env = pure none := by
  cases v <;> first | rfl | exact absurd rfl (h _ _ _)

/-! x = e -/
theorem snd_set (hs : SOk C F cal X sc) {n : Nat} {x : Str} {i : Nat} {v : Expr} {p pos : Pos} {ir : E} (ho : ownKind (sc.names.lookup x) = true) (hi : ixOf C.N x = some i) (h : xE C sc n v = some ir) :
    PS X (.Assign [.Name x p] v pos) (tS F (exec cal (.set (.n i) ir))) := by
  have hx := hs.x
  obtain ⟨ok, pe, _⟩ := (snd_all n).e X sc _ _ hx h
  obtain ⟨l1, l2⟩ := hs.sto x ho
  have hN : X.N.Nodup := by rw [hx.hN]; exact hx.nd
  have hi' : X.N[i]? = some x := by rw [hx.hN]; exact ixOf_get hi
  have sw := sw_ok hx.hsc hs.kind ok (x := x) (pos := p) (l := pos.line)
  cases hb : swaps sc v x p with
  | false =>
    rw [hb] at sw
    exact (ps_set hN hi' l1 pe sw l2).imp set_reads
  | true =>
    rw [hb] at sw
    -- a comprehension
    cases v <;> simp only [swaps, reduceCtorEq, Bool.false_eq_true] at hb
    case ListComp elt gs scope lp =>
      have hloc : X.env.scope.names.lookup x = some .local := by
        rw [hx.hsc]
        simp only [Bool.and_eq_true] at hb
        have := hb.1.1
        revert this
        cases sc.names.lookup x with
        | none => intro h; cases h
        | some k => cases k <;> intro h <;> first | rfl | cases h
      cases n with
      | zero => simp [xE] at h
      | succ n =>
      have ih := snd_all (C := C) (F := F) (cal := cal) n
      simp only [xE] at h
      split at h
      all_goals try (simp only [reduceCtorEq] at *; done)
      rename_i heq
      injection heq with e1 e2 e3 e4; subst e1 e2 e3 e4
      split at h
      case isFalse => cases h
      rename_i hbk
      simp only [Option.bind_eq_bind, Option.bind_eq_some_iff] at h
      obtain ⟨pp, h1, h⟩ := h
      split at h
      case isFalse => cases h
      rename_i hps
      simp only [Option.bind_eq_some_iff] at h
      obtain ⟨ie, h2, ii, h3, ts, h4, h5⟩ := h
      cases h5
      obtain ⟨okI, pi⟩ := ih.i X sc _ _ _ hx h3
      exact (ps_setLc hx.calm hN hi' hloc sw pi (blkOk hx hbk) (fun s H C0 cl fp => ((snd_P n).1 _ _ _ _ _ hx.blk Sto.blk h1).2) (fun s H C0 cl fp => ih.fs _ _ _ _ hx.blk h4) (fun s H C0 cl fp => (ih.e _ _ _ _ hx.blk h2).2.1) (okE.fold okI)).imp
        fun D σ H q => lc_reads (fun i hi => by have := List.all_eq_true.mp hps i hi; simpa using this) σ H _ (set_reads D σ H q)
/-! (a, b) = e -/
theorem snd_settup (hs : SOk C F cal X sc) {n m : Nat} {ts : List Expr} {k k2 : Nat} {p p2 pos : Pos} {v : Expr} {ps : P} {ir : E} (hp : xP C sc m (.Tuple ts k2 p2) = some ps) (h : xE C sc n v = some ir)
    (hw : swappedStores [.Tuple ts k p] v X.env = pure none) : PS X (.Assign [.Tuple ts k p] v pos) (tS F (exec cal (.set ps ir))) := by
  have hx := hs.x
  obtain ⟨ok, pe, _⟩ := (snd_all n).e X sc _ _ hx h
  cases m with
  | zero => simp [xP] at hp
  | succ m =>
  simp only [xP] at hp
  obtain ⟨qs, hq, rfl⟩ := Option.map_eq_some_iff.mp hp
  have hp' : xP C sc (m + 1) (.Tuple ts k p) = some (.t qs) := by simp only [xP, hq, Option.map_some]
  obtain ⟨_, pg⟩ := (snd_P (m + 1)).1 X sc sc _ _ hx hs.sto hp'
  exact (ps_asg pe pg sw_tup hw).imp tup_reads
/-! x[a] = e -/
theorem snd_sub (hs : SOk C F cal X sc) {n m : Nat} {x : Str} {i : Nat} {a v : Expr} {px p pos : Pos} {ia ir : E} (hy : okName x = true) (hv : visible (sc.names.lookup x) = true) (hi : ixOf C.N x = some i) (ha : xE C sc m a = some ia) (h : xE C sc n v = some ir) :
    PS X (.Assign [.Subscript (.Name x px) a p] v pos) (tS F (exec cal (.sub i ia ir))) := by
  have hx := hs.x
  obtain ⟨ok, pe, _⟩ := (snd_all n).e X sc _ _ hx h
  obtain ⟨oka, _, pa⟩ := (snd_all m).e X sc _ _ hx ha
  refine (ps_asg pe (pg_sub (hx.name hy hv hi) pa set_list (by cases a <;> first | exact fun _ => rfl | cases oka)) sw_sub (by cases v <;> rfl) rfl).imp fun D σ H ⟨Z, ρ, f, o⟩ => ?_
  simp only [exec] at o
  split at o
  case isFalse => exact o.elim
  rename_i hL
  obtain ⟨r, ρ1, e1, o1⟩ := Res.st_out o
  obtain ⟨kk, ρ2, e2, o2⟩ := Res.st_out o1
  refine ⟨Z, ρ, r, ρ1, f, e1, fun y H1 Z1 p1 => ?_⟩
  -- the name's value stays
  obtain ⟨s0, ds0, hs0, hm0, hp0⟩ := isL_own hL
  obtain ⟨a0, xs0, ds0', b1, b2, b3, b4, b5⟩ := f.mineAt hs0 hm0
  refine ⟨_, b1, opd_go p1.go.fr e2 fun w H2 Z2 g rw => ?_⟩
  have gg := p1.go.trans g
  unfold change at o2
  have fin : ∀ (s : S) (ds : List G.D), ρ2[i]? = some s → s.mine = true → s.peek = some (.lst ds) → Out F D H Z (match storeAt kk r.1 ds with | some es => .nx (ρ2.set i (s.with (.lst es))) | none => .no) →
      rSetL (.ref a0) w y H2 fun H3 => D.nx σ H3 := fun s ds hs hm hp o3 => by
    obtain ⟨a, xs, ds', a1, a2, a3, a4, a5⟩ := gg.fr.mineAt hs hm
    rw [hp] at a2; cases a2
    rw [b1] at a1; cases a1
    cases hst : storeAt kk r.1 ds with
    | none => rw [hst] at o3; exact o3.elim
    | some es =>
    rw [hst] at o3
    unfold storeAt at hst
    split at hst
    case h_2 => cases hst
    rename_i kz
    obtain ⟨j, hj, rfl⟩ := Option.map_eq_some_iff.mp hst
    rw [rw.int]
    have st : Stp (fun b => b = a0) H2 Z2 (upd H2 a0 (.lst (xs.set j y))) Z2 := ⟨fun b o e n => by rw [upd_ne n]; exact e, fun _ z => .inl z, fun b e => e ▸ a5, gg.fr.zl⟩
    have g3 := Go.change gg.fr hs hm b1 (H' := upd H2 a0 (.lst (xs.set j y))) (fun b o n eo => by rw [upd_ne n]; exact eo) upd_same (((a4.set (g.rep p1.rep) j)).stp st)
    refine ⟨a0, xs, kz, j, rfl, rfl, a3, by rw [ixN_eq, a4.len]; exact hj, o3 _ _ _ g3.fr (gg.trans g3).adv⟩
  split at o2
  · rename_i ds hs; exact fin _ ds hs rfl rfl o2
  · rename_i ds hs; exact fin _ ds hs rfl rfl o2
  · exact o2.elim
/-! x.append(e) -/
theorem snd_append (hs : SOk C F cal X sc) {n : Nat} {x : Str} {i : Nat} {v : Expr} {px ap cp pos : Pos} {ir : E} (hy : okName x = true) (hv : visible (sc.names.lookup x) = true) (hl : (ap.endLine == cp.line) = true) (hi : ixOf C.N x = some i) (h : xE C sc n v = some ir) :
    PS X (.Expr (.Call (.Attribute (.Name x px) "append" ap) [v] [] cp) pos) (tS F (exec cal (.append i ir))) := by
  have hx := hs.x
  obtain ⟨ok, pe, _⟩ := (snd_all n).e X sc _ _ hx h
  have pa : PA X [v] (tCons (tE F cal ir) tNil) := pa_cons pe pa_nil (okE.star ok)
  refine (ps_expr (pe_bm PySem.F.plainAttrs_list PySem.F.slot_list_append PySem.F.type_list_append mt_append (hx.name hy hv hi) pa rfl (by rw [okE.star ok]; rfl) hl (okE.star ok) (stars (by simp) cp))).imp fun D σ H ⟨Z, ρ, f, o⟩ => ?_
  simp only [exec] at o
  split at o
  case isFalse => exact o.elim
  rename_i hL
  obtain ⟨r, ρ1, e1, o1⟩ := Res.st_out o
  obtain ⟨s0, ds0, hs0, hm0, hp0⟩ := isL_own hL
  obtain ⟨a0, xs0, ds0', b1, b2, b3, b4, b5⟩ := f.mineAt hs0 hm0
  refine ⟨_, b1, .inl ⟨rfl, xs0, .of b3⟩, Z, ρ, r, ρ1, f, e1, fun y H1 Z1 p1 => ?_⟩
  unfold change at o1
  have fin : ∀ (s : S) (ds : List G.D), ρ1[i]? = some s → s.mine = true → s.peek = some (.lst ds) → Out F D H Z (match appendTo r.1 ds with | some es => .nx (ρ1.set i (s.with (.lst es))) | none => .no) →
      rAppend (.ref a0) [y] H1 fun x H1 => D.nx σ H1 := fun s ds hs hm hp o3 => by
    obtain ⟨a, xs, ds', a1, a2, a3, a4, a5⟩ := p1.go.fr.mineAt hs hm
    rw [hp] at a2; cases a2
    rw [b1] at a1; cases a1
    unfold appendTo at o3
    split at o3
    case h_2 => exact o3.elim
    rename_i es hes
    split at hes
    case isFalse => cases hes
    rename_i hlt
    cases hes
    have st : Stp (fun b => b = a0) H1 Z1 (upd H1 a0 (.lst (xs ++ [y]))) Z1 := ⟨fun b o e n => by rw [upd_ne n]; exact e, fun _ z => .inl z, fun b e => e ▸ a5, p1.go.fr.zl⟩
    have g3 := Go.change p1.go.fr hs hm b1 (H' := upd H1 a0 (.lst (xs ++ [y]))) (fun b o n eo => by rw [upd_ne n]; exact eo) upd_same ((a4.append (.cons p1.rep .nil)).stp st)
    exact ⟨a0, xs, y, rfl, rfl, a3, by rw [a4.len]; exact hlt, o3 _ _ _ g3.fr (p1.go.trans g3).adv⟩
  split at o1
  · rename_i ds hs; exact fin _ ds hs rfl rfl o1
  · rename_i ds hs; exact fin _ ds hs rfl rfl o1
  · exact o1.elim
end
end G
end

section
set_option maxHeartbeats 8000000
namespace G
open PySem PySem.Spec PyProof.Rows L2

section
variable {C : Nm} {F : Fm} {cal : Call} {X : Cx} {sc : Scope}
/-! several names at once -/
def gNames (is : List Nat) : TGs := fun vs σ H Q => vs.length = is.length ∧ Q (setσ is vs σ) H
theorem namesOf_ok (hs : SOk C F cal X sc) : ∀ {ts : List Expr} {is : List Nat}, namesOf C sc ts = some is → (∀ e ∈ ts, okP e = true) ∧ is.length = ts.length ∧ PGs X ts (gNames is)
  | [], is, h => by
    simp only [namesOf] at h; cases h
    refine ⟨(fun _ he => nomatch he), rfl, pgs_nil.imp fun v σ H Q ⟨hl, q⟩ => ?_⟩
    cases v with
    | nil => exact ⟨rfl, q⟩
    | cons _ _ => cases hl
  | e :: r, is, h => by
    cases e <;> simp only [namesOf, reduceCtorEq] at h
    rename_i x px
    split at h
    case isFalse => cases h
    rename_i ho
    simp only [Bool.and_eq_true] at ho
    simp only [Option.bind_eq_bind, Option.bind_eq_some_iff] at h
    obtain ⟨i, h1, is', h2, h3⟩ := h
    cases h3
    obtain ⟨ok, hl, pg⟩ := namesOf_ok hs h2
    obtain ⟨l1, l2⟩ := hs.sto x ho.2
    have hN : X.N.Nodup := by rw [hs.x.hN]; exact hs.x.nd
    have hi' : X.N[i]? = some x := by rw [hs.x.hN]; exact ixOf_get h1
    have okk : ∀ a ∈ Expr.Name x px :: r, okP a = true := fun a ha => (List.mem_cons.mp ha).elim (fun h => h ▸ rfl) (ok a)
    refine ⟨okk, by rw [List.length_cons, List.length_cons, hl], (pgs_cons (pg_name hN hi' l1 l2) pg (by rw [okP.each (e := .Name x px) rfl]; rfl)).imp fun v σ H Q ⟨hlen, q⟩ => ?_⟩
    cases v with
    | nil => cases hlen
    | cons v vs => exact ⟨v, vs, rfl, by simpa using hlen, q⟩
theorem parKind_true {ts vs : List Expr} (h : parKind sc ts vs = some true) : (ts.length = 2 ∨ ts.length = 3) ∧ vs.length = ts.length ∧ (parNames sc (parLine ts) ts).length = ts.length := by
  unfold parKind at h
  split at h
  · cases h
  rename_i c1
  split at h
  · cases h
  rename_i c2
  rw [Bool.not_eq_true, Bool.or_eq_false_iff] at c1 c2
  simp only [Bool.not_eq_false', Bool.or_eq_true, beq_iff_eq, bne_eq_false_iff_eq] at c1 c2
  exact ⟨c1.1, c1.2, c2.1⟩
theorem pn_cons {x : Str} {px : Pos} {l : Nat} {r : List Expr} : parNames sc l (.Name x px :: r) = if sc.names.lookup x == some .local && px.line == l then x :: parNames sc l r else parNames sc l r := by
  unfold parNames
  rw [List.filterMap_cons]
  simp only
  cases h : (sc.names.lookup x == some .local && px.line == l) <;> rfl
theorem pn_le {l : Nat} {r : List Expr} : (parNames sc l r).length ≤ r.length := List.length_filterMap_le _ _
theorem pn_full {x : Str} {px : Pos} {l : Nat} {r : List Expr} (h : (parNames sc l (.Name x px :: r)).length = r.length + 1) : sc.names.lookup x = some .local ∧ parNames sc l (.Name x px :: r) = x :: parNames sc l r ∧ (parNames sc l r).length = r.length := by
  rw [pn_cons] at h ⊢
  split at h
  · rename_i c
    rw [if_pos c]
    simp only [Bool.and_eq_true, beq_iff_eq] at c
    exact ⟨c.1, rfl, by simpa using h⟩
  · have := pn_le (sc := sc) (l := l) (r := r)
    omega
theorem par_reads {es : List E} {is : List Nat} {D : Ends} {σ : L2.St} {H : Hp} (h : tS F (exec cal (.par is es)) D σ H) : tRs F cal es σ H fun vs H1 => vs.length = is.length ∧ (∀ p o, H1 p = none → D.nx (setσ is vs σ) (upd H1 p o)) ∧ D.nx (setσ is vs σ) H1 := by
  obtain ⟨Z, ρ, f, o⟩ := h
  simp only [exec] at o
  obtain ⟨rs, ρ1, e1, o1⟩ := Res.st_out o
  refine ⟨Z, ρ, rs, ρ1, f, e1, fun xs H1 Z1 g hf rr => ?_⟩
  cases hsx : setAll is rs ρ1 with
  | none => rw [hsx] at o1; exact o1.elim
  | some ρ2 =>
    rw [hsx] at o1
    refine ⟨by rw [rr.len, setAll_len hsx], fun p ob hp => ?_, o1 _ _ _ (setAll_ok g.fr rr hsx) g.adv⟩
    have g2 : Go F σ H1 Z1 ρ1 (upd H1 p ob) Z1 ρ1 := Go.upd g.fr hp
    exact o1 _ _ _ (setAll_ok g2.fr (rr.up (upd_keep hp)) hsx) (g.trans g2).adv
theorem snd_par (hs : SOk C F cal X sc) {n : Nat} {ts vs : List Expr} {is : List Nat} {irs : List E} {b : Bool} {k k2 : Nat} {p p2 pos : Pos} (hl : ts.length = vs.length) (hm : ts.length ≤ 1000) (hn : namesOf C sc ts = some is) (nd : is.Nodup) (hk : parKind sc ts vs = some b) (h : xEs C sc n vs = some irs) :
    PS X (.Assign [.Tuple ts k p] (.Tuple vs k2 p2) pos) (tS F (exec cal (.par is irs))) := by
  have hx := hs.x
  have pa := snd_rs hx n h
  obtain ⟨oks, _, _⟩ := (snd_all n).es X sc _ _ hx h
  obtain ⟨okp, hil, pg⟩ := namesOf_ok hs hn
  have sw := par_swapped (k := k) (k2 := k2) (p := p) (p2 := p2) hx.hsc hs.kind oks hk
  have hN : X.N.Nodup := by rw [hx.hN]; exact hx.nd
  cases b with
  | false =>
    rw [if_neg (by simp)] at sw
    obtain ⟨e1, e2⟩ := each_ok (env := X.env) okp
    refine (ps_asg (pe_tup pa) (pg_tup hx.calm pg e1 e2) sw_tup sw).imp fun D σ H q => ?_
    obtain ⟨Z, ρ, rs, ρ', f, ev, q'⟩ := par_reads q
    refine ⟨Z, ρ, rs, ρ', f, ev, fun xs H' Z' g hf rr => ?_⟩
    obtain ⟨q1, q2, _⟩ := q' xs H' Z' g hf rr
    refine ⟨by rw [q1, hil]; simp only [sizeLine]; omega, fun a ha => ⟨a, xs, rfl, .inl (.inl upd_same), by rw [q1, hil], q1, q2 _ _ ha⟩⟩
  | true =>
    rw [if_pos rfl] at sw
    obtain ⟨c1, c2, c3⟩ := parKind_true hk
    have loc : ∀ {x : Str}, sc.names.lookup x = some .local → X.env.scope.names.lookup x = some .local := fun h => by rw [hx.hsc]; exact h
    have ixs : ∀ {x : Str} {i : Nat}, ixOf C.N x = some i → X.N[i]? = some x := fun h => by rw [hx.hN]; exact ixOf_get h
    match ts, vs, c1, c2, hn, pa, c3, sw with
    | [e1, e2], [a, b], _, _, hn, pa, c3, sw =>
      cases e1 <;> simp only [namesOf, reduceCtorEq] at hn
      rename_i x px
      split at hn
      case isFalse => cases hn
      simp only [Option.bind_eq_bind, Option.bind_eq_some_iff] at hn
      obtain ⟨i, h1, is1, hn, h3⟩ := hn
      cases h3
      cases e2 <;> simp only [namesOf, reduceCtorEq] at hn
      rename_i y py
      split at hn
      case isFalse => cases hn
      simp only [Option.bind_eq_bind, Option.bind_eq_some_iff] at hn
      obtain ⟨j, h2, is2, hn9, h3⟩ := hn
      cases h3
      cases hn9
      obtain ⟨d1, d2, d3⟩ := pn_full c3
      obtain ⟨d4, d5, d6⟩ := pn_full d3
      rw [d2, d5] at sw
      refine (ps_par hx.calm hN (ixs h1) (ixs h2) (by simpa using nd) (loc d1) (loc d4) pa sw sw_tup).imp fun D σ H q => ?_
      obtain ⟨Z, ρ, rs, ρ', f, ev, q'⟩ := par_reads q
      refine ⟨Z, ρ, rs, ρ', f, ev, fun xs H' Z' g hf rr => ?_⟩
      obtain ⟨q1, _, q2⟩ := q' xs H' Z' g hf rr
      match xs, q1, q2 with
      | [v, w], _, q2 => exact ⟨v, w, rfl, q2⟩
    | [e1, e2, e3], [a, b, c], _, _, hn, pa, c3, sw =>
      cases e1 <;> simp only [namesOf, reduceCtorEq] at hn
      rename_i x px
      split at hn
      case isFalse => cases hn
      simp only [Option.bind_eq_bind, Option.bind_eq_some_iff] at hn
      obtain ⟨i, h1, is1, hn, h3⟩ := hn
      cases h3
      cases e2 <;> simp only [namesOf, reduceCtorEq] at hn
      rename_i y py
      split at hn
      case isFalse => cases hn
      simp only [Option.bind_eq_bind, Option.bind_eq_some_iff] at hn
      obtain ⟨j, h2, is2, hn, h3⟩ := hn
      cases h3
      cases e3 <;> simp only [namesOf, reduceCtorEq] at hn
      rename_i z pz
      split at hn
      case isFalse => cases hn
      simp only [Option.bind_eq_bind, Option.bind_eq_some_iff] at hn
      obtain ⟨l, h4, is3, hn9, h3⟩ := hn
      cases h3
      cases hn9
      obtain ⟨d1, d2, d3⟩ := pn_full c3
      obtain ⟨d4, d5, d6⟩ := pn_full d3
      obtain ⟨d7, d8, d9⟩ := pn_full d6
      rw [d2, d5, d8] at sw
      simp only [List.nodup_cons, List.mem_cons, List.not_mem_nil, or_false, not_or] at nd
      refine (ps_par3 hx.calm hN (ixs h1) (ixs h2) (ixs h4) nd.1.1 nd.1.2 nd.2.1 (loc d1) (loc d4) (loc d7) pa sw sw_tup).imp fun D σ H q => ?_
      obtain ⟨Z, ρ, rs, ρ', f, ev, q'⟩ := par_reads q
      refine ⟨Z, ρ, rs, ρ', f, ev, fun xs H' Z' g hf rr => ?_⟩
      obtain ⟨q1, _, q2⟩ := q' xs H' Z' g hf rr
      match xs, q1, q2 with
      | [u, v, w], _, q2 => exact ⟨u, v, w, rfl, q2⟩
end
end G
end

section
set_option maxHeartbeats 8000000
namespace G
open PySem PySem.Spec PyProof.Rows L2

section
variable {C : Nm} {F : Fm} {cal : Call} {X : Cx} {sc : Scope}
theorem Post.retOk {σ : L2.St} {H H1 : Hp} {Z Z1 : Zs} {ρ ρ1 : Env} {x : V} {r : R} (f : Fra F Z H σ ρ) (p : Post F σ H Z ρ x r H1 Z1 ρ1) : RetOk F H1 σ ρ1 x r := by
  refine ⟨p.rep.anti p.go.fr.z0, fun hr => ?_⟩
  obtain ⟨q, xs, ds, h1, h2, h3, h4, h5, g⟩ := p.claim hr
  exact ⟨q, xs, ds, _, h1, h2, h3, f.fresh h4, g.fr.z0, .inr rfl, h5, g.fr⟩
theorem snd_ret {e : Expr} {ir : E} {pos : Pos} (pe : PE X e (tE F cal ir)) : PS X (.Return (some e) pos) (tS F (exec cal (.ret ir))) := (ps_ret pe).imp fun D σ H ⟨Z, ρ, f, o⟩ => by
  simp only [exec] at o
  obtain ⟨r, ρ1, e1, o1⟩ := Res.st_out o
  exact ⟨Z, ρ, r, ρ1, f, e1, fun x H' Z' p => o1 x σ H' Z' p.go.fr (p.retOk f)⟩
theorem snd_retV {e : Expr} {i : Nat} {pos : Pos} (pe : PE X e (tO F cal (.v i))) : PS X (.Return (some e) pos) (tS F (exec cal (.retV i))) := (ps_ret pe).imp fun D σ H ⟨Z, ρ, f, o⟩ => by
  simp only [exec] at o
  unfold retV at o
  split at o
  · rename_i d hs
    obtain ⟨x, e1, r⟩ := f.slot i _ hs
    exact ⟨x, e1, o x σ H Z f ⟨r.anti f.z0, fun h => nomatch h⟩⟩
  · rename_i d hs
    obtain ⟨a, xs, ds, e1, rfl, e3, r, z, n⟩ := f.slot i _ hs
    exact ⟨_, e1, o _ σ H Z f ⟨.lst e3 (fun z0 => F.z0n a z0 n) (r.anti f.z0), fun _ => ⟨a, xs, ds, Z, rfl, rfl, e3, n, f.z0, z, r, f⟩⟩⟩
  · exact o.elim
theorem snd_retN {pos : Pos} : PS X (.Return none pos) (tS F (exec cal .retN)) := ps_retN.imp fun D σ H ⟨Z, ρ, f, o⟩ => by
  simp only [exec] at o
  exact o _ σ H Z f ⟨.non, fun h => nomatch h⟩
theorem snd_if {c : Expr} {a b : List Stmt} {t : T} {ia ib : List Sm} {pos : Pos} (pc : PT X c (tT F cal t)) (pa : PSs X a (tS F (execs cal ia))) (pb : PSs X b (tS F (execs cal ib))) : PS X (.If c a b pos) (tS F (exec cal (.ifs t ia ib))) :=
  (ps_if pc pa pb).imp fun D σ H ⟨Z, ρ, f, o⟩ => by
    simp only [exec] at o
    obtain ⟨v, ρ1, e1, o1⟩ := Res.st_out o
    refine ⟨Z, ρ, v, ρ1, f, e1, fun H' Z' g => ?_⟩
    cases v with
    | true => rw [if_pos rfl] at o1 ⊢; exact ⟨Z', ρ1, g.fr, o1.adv g.adv⟩
    | false => rw [if_neg (by simp)] at o1 ⊢; exact ⟨Z', ρ1, g.fr, o1.adv g.adv⟩
theorem snd_seq {s : Stmt} {ss : List Stmt} {is : Sm} {iss : List Sm} (ps : PS X s (tS F (exec cal is))) (pss : PSs X ss (tS F (execs cal iss))) : PSs X (s :: ss) (tS F (execs cal (is :: iss))) :=
  (pss_cons ps pss).imp fun D σ H ⟨Z, ρ, f, o⟩ => by
    simp only [execs] at o
    refine ⟨Z, ρ, f, ?_⟩
    cases e : exec cal is ρ <;> rw [e] at o
    · exact fun σ' H' Z' f' a => ⟨Z', _, f', o.adv a⟩
    · exact o
    · exact o
    · exact o
    · exact o
    · exact o
theorem snd_while {c : Expr} {b : List Stmt} {t : T} {ib : List Sm} {pos : Pos} (hx : XOk C F cal X sc) (pc : PT X c (tT F cal t)) (pb : PSs X b (tS F (execs cal ib))) : PS X (.While c b [] pos) (tS F (exec cal (.whil t ib))) :=
  (ps_while (by rw [hx.nox]; exact PassesOwn.never) pc pb).imp fun D σ H ⟨Z, ρ, f, o⟩ => by
    simp only [exec] at o
    have hn : whileS (evalT cal t) (execs cal ib) ρ ≠ .no := fun h => by rw [h] at o; exact o.elim
    obtain ⟨n, e, _⟩ := whileS_n hn
    rw [e] at o
    refine ⟨fun m σ H => ∃ Z ρ, Fra F Z H σ ρ ∧ Out F D H Z (whileN (evalT cal t) (execs cal ib) m ρ), ⟨n, Z, ρ, f, o⟩, fun m σ H ⟨Z, ρ, f, o⟩ => ?_⟩
    cases m with
    | zero => exact o.elim
    | succ m =>
    rw [whileN] at o
    obtain ⟨v, ρ1, e1, o1⟩ := Res.st_out o
    refine ⟨Z, ρ, v, ρ1, f, e1, fun H' Z' g => ?_⟩
    cases v with
    | false =>
      rw [if_neg (by simp)] at o1 ⊢
      exact o1 σ H' Z' g.fr g.adv
    | true =>
      rw [if_pos rfl] at o1 ⊢
      refine ⟨fun σ H => ∃ Z ρ, Fra F Z H σ ρ ∧ Out F D H Z (whileN (evalT cal t) (execs cal ib) m ρ), fun σ' H' q => ⟨m, by omega, q⟩, Z', ρ1, g.fr, ?_⟩
      cases eb : execs cal ib ρ1 <;> rw [eb] at o1 <;> simp only at o1
      · exact fun σ2 H2 Z2 f2 a => ⟨Z2, _, f2, o1.adv (g.adv.trans a)⟩
      · exact o1
      · exact fun σ2 H2 Z2 f2 a => o1 σ2 H2 Z2 f2 (g.adv.trans a)
      · exact fun σ2 H2 Z2 f2 a => ⟨Z2, _, f2, o1.adv (g.adv.trans a)⟩
      · exact o1
      · exact o1
theorem Adv.grow {H H' : Hp} {Z : Zs} (zl : ∀ b, Z b → ∃ xs, H b = some (.lst xs)) (h : ∀ b o, H b = some o → H' b = some o) : Adv H Z H' Z := ⟨fun b o e _ => h b o e, fun _ z => .inl z, fun b n => by
  cases q : H b with
  | none => exact absurd q n
  | some o => rw [h b o q]; simp, zl⟩
theorem snd_for {tg it : Expr} {b : List Stmt} {p : P} {ii : G.I} {ib : List Sm} {pos : Pos} (hx : XOk C F cal X sc) (ok : okE it = true) (pi : PI X tg it (tI F cal ii)) (pg : PG X tg (tP F p)) (pb : PSs X b (tS F (execs cal ib))) : PS X (.For tg it b [] pos) (tS F (exec cal (.forr p ii ib))) :=
  (ps_for (by rw [hx.nox]; exact PassesOwn.never) hx.calm pi pg pb (okE.fold ok)).imp fun D σ H ⟨Z, ρ, f, o⟩ => by
    simp only [exec] at o
    obtain ⟨xs, ρ1, e1, o1⟩ := Res.st_out o
    refine ⟨Z, ρ, xs, ρ1, f, e1, fun J H1 Z1 g ⟨G, Y, w, hG, hY⟩ => ?_⟩
    refine for_it w (fun i σ H => ∃ Z ρ, Fra F Z H σ ρ ∧ Adv H1 Z1 H Z ∧ Out F D H Z (forS p (execs cal ib) (xs.drop i) ρ)) ⟨Z1, ρ1, g.fr, Adv.refl g.fr.zl, o1.adv g.adv⟩ (fun i σ H _ ⟨Z, ρ, _, a, _⟩ => hG H Z a) (fun i x σ H H' hi ⟨Z, ρ, f, a, o⟩ y => ?_) (fun σ H ⟨Z, ρ, f, a, o⟩ => ?_)
    · rw [List.drop_eq_getElem_cons hi] at o
      obtain ⟨k, rep⟩ := hY i H Z x H' _ a (List.getElem?_eq_getElem hi) y
      rw [forS] at o
      cases hb : bindP p xs[i] ρ with
      | none => rw [hb] at o; exact o.elim
      | some ρ2 =>
      rw [hb] at o
      simp only at o
      have a2 : Adv H Z H' Z := Adv.grow f.zl k
      refine ⟨Z, ρ, _, ρ2, f.grow k (fun _ z => .inl z) (fun _ z => z), rep, hb, fun σ2 f2 _ => ⟨Z, ρ2, f2, ?_⟩⟩
      cases eb : execs cal ib ρ2 <;> rw [eb] at o <;> simp only at o
      · exact fun σ3 H3 Z3 f3 a3 => ⟨Z3, _, f3, (a.trans a2).trans a3, o.adv (a2.trans a3)⟩
      · exact o
      · exact fun σ3 H3 Z3 f3 a3 => o σ3 H3 Z3 f3 (a2.trans a3)
      · exact fun σ3 H3 Z3 f3 a3 => ⟨Z3, _, f3, (a.trans a2).trans a3, o.adv (a2.trans a3)⟩
      · exact o
      · exact o
    · rw [List.drop_length] at o
      exact o σ H Z f (Adv.refl f.zl)
theorem snd_drop {e : Expr} {ir : E} {pos : Pos} (pe : PE X e (tE F cal ir)) (hs : swapsWith e none pos.line X.env = pure false) : PS X (.Expr e pos) (tS F (exec cal (.expr ir))) := (ps_expr pe hs).imp fun D σ H ⟨Z, ρ, f, o⟩ => by
  simp only [exec] at o
  obtain ⟨r, ρ1, e1, o1⟩ := Res.st_out o
  exact ⟨Z, ρ, r, ρ1, f, e1, fun x H' Z' p => o1 σ H' Z' p.go.fr p.go.adv⟩
end

section
variable {C : Nm} {F : Fm} {cal : Call}
structure SndS (C : Nm) (F : Fm) (cal : Call) (n : Nat) : Prop where
  s : ∀ (X : Cx) (sc : Scope) (ex : List (Str × Nat)) (st : Stmt) (ir : Sm), SOk C F cal X sc → xS C sc ex n st = some ir → PS X st (tS F (exec cal ir))
  ss : ∀ (X : Cx) (sc : Scope) (ex : List (Str × Nat)) (st : List Stmt) (ir : List Sm), SOk C F cal X sc → xSs C sc ex n st = some ir → PSs X st (tS F (execs cal ir))
theorem snds_all : ∀ n, SndS C F cal n
  | 0 => ⟨fun X sc ex st ir _ h => by simp [xS] at h, fun X sc ex st ir _ h => by simp [xSs] at h⟩
  | n + 1 => by
    have ih := snds_all n
    have ie := snd_all (C := C) (F := F) (cal := cal) n
    refine ⟨fun X sc ex st ir hs h => ?_, fun X sc ex st ir hs h => ?_⟩
    · have hx := hs.x
      cases st
      case Assign tgs v pos =>
        simp only [xS] at h
        split at h
        all_goals try (simp only [reduceCtorEq] at *; done)
        · rename_i heq
          injection heq with e1 e2 e3; subst e1 e2 e3
          split at h
          case isFalse => cases h
          rename_i ho
          simp only [Bool.and_eq_true] at ho
          simp only [Option.bind_eq_bind, Option.bind_eq_some_iff] at h
          obtain ⟨i, h1, iv, h2, h3⟩ := h
          cases h3
          exact snd_set hs ho.2 h1 h2
        · rename_i heq
          injection heq with e1 e2 e3; subst e1 e2 e3
          split at h
          case isFalse => cases h
          rename_i hl
          split at h
          · rename_i is hn
            split at h
            case isFalse => cases h
            rename_i nd
            split at h
            · rename_i b hk
              simp only [Option.bind_eq_bind, Option.bind_eq_some_iff] at h
              obtain ⟨irs, h1, h2⟩ := h
              cases h2
              exact snd_par hs hl.1 hl.2 hn nd hk h1
            · cases h
          · split at h
            · rename_i hk
              rename_i ts kk pp vs k2 p2 _ _ _
              simp only [Option.bind_eq_bind, Option.bind_eq_some_iff] at h
              obtain ⟨p, h1, iv, h2, h3⟩ := h
              cases h3
              have oks : ∀ e ∈ vs, okE e = true := by
                cases n with
                | zero => simp [xE] at h2
                | succ n =>
                  simp only [xE] at h2
                  split at h2
                  case isFalse => cases h2
                  obtain ⟨irs, h4, _⟩ := Option.map_eq_some_iff.mp h2
                  exact ((snd_all n).es X sc _ _ hx h4).1
              exact snd_settup hs h1 h2 (par_swapped hx.hsc hs.kind oks hk)
            · cases h
        · rename_i hne heq
          injection heq with e1 e2 e3; subst e1 e2 e3
          simp only [Option.bind_eq_bind, Option.bind_eq_some_iff] at h
          obtain ⟨p, h1, iv, h2, h3⟩ := h
          cases h3
          exact snd_settup hs h1 h2 (ws_tup fun a b c e => hne _ _ _ e)
        · rename_i heq
          injection heq with e1 e2 e3; subst e1 e2 e3
          split at h
          case isFalse => cases h
          rename_i ho
          simp only [Bool.and_eq_true] at ho
          simp only [Option.bind_eq_bind, Option.bind_eq_some_iff] at h
          obtain ⟨i, h1, ia, h2, iv, h3, h4⟩ := h
          cases h4
          exact snd_sub hs ho.1 ho.2 h1 h2 h3
      case Expr e pos =>
        have plain : ∀ {ir : Sm}, (∀ a b c d, e ≠ .ListComp a b c d) → (xE C sc n e).map .expr = some ir → PS X (.Expr e pos) (tS F (exec cal ir)) := fun {ir} hn h => by
          obtain ⟨iv, h1, rfl⟩ := Option.map_eq_some_iff.mp h
          obtain ⟨ok, pe, _⟩ := ie.e X sc _ _ hx h1
          exact snd_drop pe (sw_non hn ok)
        simp only [xS] at h
        split at h
        all_goals try (simp only [reduceCtorEq] at *; done)
        · rename_i heq
          injection heq with e1 e2; subst e1 e2
          split at h
          case isFalse => cases h
          rename_i e; subst e
          split at h
          case isFalse => cases h
          rename_i ho
          simp only [Bool.and_eq_true] at ho
          simp only [Option.bind_eq_bind, Option.bind_eq_some_iff] at h
          obtain ⟨i, h1, iv, h2, h3⟩ := h
          cases h3
          exact snd_append hs ho.1.1 ho.1.2 ho.2 h1 h2
        · rename_i heq
          injection heq with e1 e2; subst e1 e2
          split at h
          · cases h
          · rename_i hn
            exact plain (fun a b c d e => hn a b c d e) h
      case If c a b pos =>
        simp only [xS] at h
        simp only [Option.bind_eq_bind, Option.bind_eq_some_iff] at h
        obtain ⟨t, h1, ia, h2, ib, h3, h4⟩ := h
        cases h4
        exact snd_if (ie.t X sc _ _ hx h1) (ih.ss X sc ex _ _ hs h2) (ih.ss X sc ex _ _ hs h3)
      case While c b e pos =>
        cases e <;> simp only [xS, reduceCtorEq] at h
        simp only [Option.bind_eq_bind, Option.bind_eq_some_iff] at h
        obtain ⟨t, h1, ib, h2, h4⟩ := h
        cases h4
        exact snd_while hx (ie.t X sc _ _ hx h1) (ih.ss X sc ex _ _ hs h2)
      case For tg it b e pos =>
        cases e <;> simp only [xS, reduceCtorEq] at h
        simp only [Option.bind_eq_bind, Option.bind_eq_some_iff] at h
        obtain ⟨p, h1, ii, h2, ib, h3, h4⟩ := h
        cases h4
        obtain ⟨ok, pi⟩ := ie.i X sc _ _ _ hx h2
        exact snd_for hx ok pi ((snd_P n).1 X sc sc _ _ hx hs.sto h1).2 (ih.ss X sc ex _ _ hs h3)
      case Return e pos =>
        cases e with
        | none => simp only [xS] at h; cases h; exact snd_retN
        | some e =>
          simp only [xS] at h
          split at h
          · rename_i i he
            cases h
            exact snd_retV (ie.e X sc _ _ hx he).2.2
          · rename_i hne he
            cases h
            exact snd_ret (ie.e X sc _ _ hx he).2.1
          · cases h
      case Pass pos =>
        simp only [xS] at h; cases h
        exact ps_pass.imp fun D σ H ⟨Z, ρ, f, o⟩ => by simp only [exec] at o; exact o σ H Z f (Adv.refl f.zl)
      case Break pos =>
        simp only [xS] at h; cases h
        exact ps_break.imp fun D σ H ⟨Z, ρ, f, o⟩ => by simp only [exec] at o; exact o σ H Z f (Adv.refl f.zl)
      case Continue pos =>
        simp only [xS] at h; cases h
        exact ps_continue.imp fun D σ H ⟨Z, ρ, f, o⟩ => by simp only [exec] at o; exact o σ H Z f (Adv.refl f.zl)
      case Raise e c pos =>
        simp only [xS] at h
        split at h
        all_goals try (simp only [reduceCtorEq] at *; done)
        simp only [Option.bind_eq_bind, Option.bind_eq_some_iff] at h
        obtain ⟨k, h1, irs, h2, h3⟩ := h
        cases h3
        exact ps_never.imp fun D σ H ⟨Z, ρ, f, o⟩ => by
          simp only [exec] at o
          obtain ⟨r, ρ1, e1, o1⟩ := Res.st_out o
          exact o1
      all_goals simp only [xS, reduceCtorEq] at h
    · cases st with
      | nil =>
        simp only [xSs] at h; cases h
        exact pss_nil.imp fun D σ H ⟨Z, ρ, f, o⟩ => by simp only [execs] at o; exact o σ H Z f (Adv.refl f.zl)
      | cons s ss =>
        simp only [xSs, Option.bind_eq_bind, Option.bind_eq_some_iff] at h
        obtain ⟨is, h1, iss, h2, h3⟩ := h
        cases h3
        exact snd_seq (ih.s X sc ex _ _ hs h1) (ih.ss X sc ex _ _ hs h2)
end
end G
end

section
set_option maxHeartbeats 8000000
namespace G
open PySem PySem.Spec PyProof.Rows L2

/-! ### the start -/
theorem Args.get {K : PySem.W.Frag} {H : Hp} {Z : Zs} : ∀ {xs : List V} {ss : List S} {i : Nat} {s : S}, Args K H Z xs ss → ss[i]? = some s → ∃ x, xs[i]? = some x ∧ Arg K H Z x s
  | _, _, _, _, .nil, e => by simp at e
  | _, _, 0, _, .cons h _, e => by simp at e; subst e; exact ⟨_, rfl, h⟩
  | _, _, i + 1, s, .cons _ t, e => by
    obtain ⟨v, a, b⟩ := Args.get (i := i) (s := s) t (by simpa using e)
    exact ⟨v, by simpa using a, b⟩
def fmOf (K : PySem.W.Frag) (H : Hp) (Z : Zs) (vs : List V) (as : List S) (zl : ∀ b, Z b → ∃ xs, H b = some (.lst xs)) : Fm := ⟨K, H, Z, refAt vs as, fun b z n => by obtain ⟨xs, e⟩ := zl b z; rw [n] at e; cases e⟩
theorem start_fra {K : PySem.W.Frag} {H : Hp} {Z : Zs} {vs : List V} {as : List S} {N : List Str} (zl : ∀ b, Z b → ∃ xs, H b = some (.lst xs)) (h : Args K H Z vs as) (ht : ∀ s ∈ as.tail, ∃ d, s = .v d) : Fra (fmOf K H Z vs as zl) Z H (L2.start N vs) (G.start N.length as) := by
  have hl := h.len
  have get : ∀ {i : Nat} {s : S}, (G.start N.length as)[i]? = some s → (∃ x, (L2.start N vs)[i]? = some (some x) ∧ vs[i]? = some x ∧ Arg K H Z x s ∧ as[i]? = some s) ∨ s = .no := fun {i s} e => by
    unfold G.start at e
    by_cases hi : i < as.length
    · rw [List.getElem?_append_left hi] at e
      obtain ⟨x, hx, a⟩ := h.get e
      refine .inl ⟨x, ?_, hx, a, e⟩
      unfold L2.start
      rw [List.getElem?_append_left (by rw [List.length_map, hl]; exact hi), List.getElem?_map, hx]; rfl
    · rw [List.getElem?_append_right (by omega), List.getElem?_replicate] at e
      split at e
      · cases e; exact .inr rfl
      · cases e
  have head : ∀ {i : Nat} {d : G.D}, as[i]? = some (.ref d) → i = 0 := fun {i d} e => by
    cases as with
    | nil => simp at e
    | cons a r =>
      cases i with
      | zero => rfl
      | succ i =>
        rw [List.getElem?_cons_succ] at e
        obtain ⟨d', e'⟩ := ht (.ref d) (List.mem_of_getElem? e)
        cases e'
  refine ⟨?_, zl, fun i s e => ?_, fun i j s t a e1 e2 m1 m2 _ _ => ?_, fun _ z => z, fun b o e _ => e, fun _ n => n⟩
  · unfold L2.start G.start
    rw [List.length_append, List.length_append, List.length_map, List.length_replicate, List.length_replicate, hl]
  · rcases get e with ⟨x, e1, e2, ar, e3⟩ | rfl
    · cases s with
      | no => trivial
      | v d => exact ⟨x, e1, ar⟩
      | own d => exact ar.elim
      | ref d =>
        obtain ⟨a, xs, ds, rfl, rfl, h1, h2, h3⟩ := ar
        have := head e3
        subst this
        refine ⟨a, xs, ds, e1, rfl, h1, h2, h3, ⟨.lst ds, ?_, ?_⟩⟩
        · rw [List.head?_eq_getElem?]; exact e3
        · rw [List.head?_eq_getElem?]; exact e2
    · trivial
  · have z : ∀ {i : Nat} {s : S}, (G.start N.length as)[i]? = some s → s.mine = true → i = 0 := fun {i s} e m => by
      rcases get e with ⟨x, e1, e2, ar, e3⟩ | rfl
      · cases s with
        | no => cases m
        | v d => cases m
        | own d => exact ar.elim
        | ref d => exact head e3
      · cases m
    rw [z e1 m1, z e2 m2]
/-! ### the end -/
theorem fpost {K : PySem.W.Frag} {H H' : Hp} {Z Z' : Zs} {vs : List V} {as : List S} {zl : ∀ b, Z b → ∃ xs, H b = some (.lst xs)} {fn : Fn} (hok : argsOk fn as = true) {σ : L2.St} {ρ : Env} (f : Fra (fmOf K H Z vs as zl) Z' H' σ ρ) {x : V} {r : R} {b : G.D} (hr : RetOk (fmOf K H Z vs as zl) H' σ ρ x r) (hb : backOf fn.byref ρ = some b) : FPost K H Z vs as r b x H' := by
  -- the list handed by reference
  have key : ∀ {Z2 : Zs}, Fra (fmOf K H Z vs as zl) Z2 H' σ ρ → ∀ a, refAt vs as a → ∃ ys es, b = .lst es ∧ H' a = some (.lst ys) ∧ RepA K H' Z2 ys es := fun {Z2} f a ha => by
    obtain ⟨d, h1, h2⟩ := ha
    have hby : fn.byref = true := by
      cases q : fn.byref with
      | true => rfl
      | false =>
        cases as with
        | nil => cases h1
        | cons s r =>
          cases h1
          unfold argsOk at hok
          rw [q] at hok
          simp at hok
    rw [hby] at hb
    unfold backOf at hb
    simp only [if_true] at hb
    split at hb
    · rename_i d2 he
      cases hb
      rw [List.head?_eq_getElem?] at he
      obtain ⟨a2, xs, ds, e1, rfl, e3, e4, e5, ⟨d3, e6, e7⟩⟩ := f.slot 0 _ he
      rw [h2] at e7
      cases e7
      exact ⟨xs, ds, rfl, e3, e4⟩
    · cases hb
  refine ⟨fun c o e n => f.h0 c o e n, fun c n => f.h0n c n, hr.1, fun e => ?_, fun a ha => ?_⟩
  · obtain ⟨p, xs, ds, Zp, h1, h2, h3, h4, h5, h6, h7, h8⟩ := hr.2 e
    have up : ∀ c, (Z c ∨ c = p) → Zp c := fun c z => z.elim (h5 c) fun e => e ▸ h6
    refine ⟨p, xs, ds, h1, h2, h3, h4, h7.anti up, fun a ha => ?_⟩
    obtain ⟨ys, es, k1, k2, k3⟩ := key h8 a ha
    exact ⟨ys, es, k1, k2, k3.anti up⟩
  · obtain ⟨ys, es, k1, k2, k3⟩ := key f a ha
    exact ⟨ys, es, k1, k2, k3.anti f.z0⟩

/-! ### the defs of the text -/
structure Text where
  T : Table
  fns : List (Str × Nat × Bool × Nat)
  consts : List (Str × G.D)
/-- what the world is to hold -/
structure TextOk (Y : Text) (K : PySem.W.Frag) (mg : Str → Option Value) : Prop where
  fns : ∀ x f b m, Y.fns.lookup x = some (f, b, m) → ∃ a fd st qual N ps fn ex, mg x = some (.ref a) ∧ PySem.W.keepIn K (.ref a) = true ∧ Fun K x qual st a fd ∧ Binds K fd ps [] ∧ ps.length = m ∧ FnScope N ps (defScope st) ∧ Y.T f = some fn ∧ xFn Y.fns Y.consts ex N b ps st = some fn
  blt : ∀ x, Y.fns.lookup x = none → x ∈ bltNames → mg x = none
  consts : ∀ x d, Y.consts.lookup x = some d → ∃ u v, mg x = some u ∧ RelV v u ∧ ∀ H Z, Rep K H Z v d

theorem defs_ok {Y : Text} {K : PySem.W.Frag} {mg : Str → Option Value} (h : TextOk Y K mg) (P : Program) (w : World) (base : Heap) : ∀ (k : Nat) {x qual : Str} {st : Stmt} {a : Addr} {fd : FuncData} {N ps : List Str} {f : Nat} {b : Bool} {fn : Fn} {ex : List (Str × Nat)},
    Fun K x qual st a fd → FnScope N ps (defScope st) → Y.T f = some fn → xFn Y.fns Y.consts ex N b ps st = some fn → FnOk P w K mg base CX0 k a fd ps (spF K (run Y.T k) f ps.length)
  | 0, x, qual, st, a, fd, N, ps, f, b, fn, ex, hF, hS, hT, hx => ⟨fun vs H Q E ⟨Z, as, r, b, _, _, _, _, e, _⟩ => by simp [run] at e, fun A outer s H args us vs Q E _ _ _ _ ⟨Z, as, r, b, _, _, _, _, e, _⟩ => by simp [run] at e⟩
  | k + 1, x, qual, st, a, fd, N, ps, f, b, fn, ex, hF, hS, hT, hx => by
    refine Fun.ok hF hS (fun vs H Q E ⟨Z, as, r, b, _, ha, _, hl, _, _⟩ => by rw [ha.len, hl]) fun cdv A outer s H vs Q E room ⟨Z, as, r, b, zl, ha, ht, hl, hr, q⟩ => ?_
    unfold xFn at hx
    obtain ⟨body, hb, rfl⟩ := Option.map_eq_some_iff.mp hx
    simp only [run, hT] at hr
    split at hr
    case isFalse => cases hr
    rename_i hok
    let C : Nm := ⟨N, Y.fns, Y.consts⟩
    let F := fmOf K H Z vs as zl
    have hxok : XOk C F (run Y.T k) (cxOf CX0 P w K mg base N qual (defScope st) a cdv A outer s H E).nox (defScope st) := by
      refine ⟨rfl, hS.nd, rfl, rfl, rfl, ?_, rfl, h.blt, fun x f b m e => ?_, h.consts⟩
      · have := room.un
        show (A.deeper (envOfC qual (defScope st) s.heap.objs.size a cdv)).units + 65 < cLine
        omega
      · obtain ⟨a', fd', st', qual', N', ps', fn', ex', h1, h2, h3, h4, h5, h6, h7, h8⟩ := h.fns x f b m e
        exact ⟨a', fd', k, ps', h1, h2, h4, h5, room, h5 ▸ defs_ok h P w base k h3 h6 h7 h8⟩
    have hsok : SOk C F (run Y.T k) (cxOf CX0 P w K mg base N qual (defScope st) a cdv A outer s H E).nox (defScope st) := by
      refine ⟨hxok, hS.kind, fun x ho => ⟨?_, .inl rfl⟩⟩
      show (defScope st).names.lookup x = some .local ∨ (defScope st).names.lookup x = some .cell
      cases q : (defScope st).names.lookup x with
      | none => rw [q] at ho; cases ho
      | some k => rw [q] at ho; cases k <;> first | exact .inl rfl | exact .inr rfl | cases ho
    refine ⟨_, (snds_all 200).ss _ _ ex _ body hsok hb, Z, G.start N.length as, start_fra zl ha ht, ?_⟩
    cases ebody : G.execs (run Y.T k) body (G.start N.length as) with
    | nx ρ =>
      rw [ebody] at hr
      simp only [finish] at hr
      split at hr
      · rename_i d hd
        cases hr
        exact fun σ' H' Z' f' _ => q _ _ (fpost hok f' ⟨.non, fun h => nomatch h⟩ hd)
      · cases hr
    | ret x ρ =>
      rw [ebody] at hr
      simp only [finish] at hr
      split at hr
      · rename_i d hd
        cases hr
        exact fun y σ' H' Z' f' ro => q _ _ (fpost hok f' ro hd)
      · cases hr
    | exc x ρ =>
      rw [ebody] at hr
      simp only [finish] at hr
      split at hr <;> cases hr
    | brk ρ => rw [ebody] at hr; cases hr
    | ct ρ => rw [ebody] at hr; cases hr
    | no => rw [ebody] at hr; cases hr
end G
end

section
set_option maxHeartbeats 8000000
namespace G
open PySem PySem.Spec PyProof.Rows L2

/-! ### the law's end -/
def spLaw (K : PySem.W.Frag) : Sp := fun vs H Q _ => ∃ (a : Addr) (ns : List Int), vs = [.ref a] ∧ SqL K H a (ns.map V.int) ∧ ns.length ≤ 63 ∧ ∀ H', Q (.bl true) H'
theorem fnOk_mono {P : Program} {w : World} {K : PySem.W.Frag} {mg : Str → Option Value} {base : Heap} {CX : CXT} {k : Nat} {f : Addr} {fd : FuncData} {ps : List Str} {sp sp' : Sp} (h : FnOk P w K mg base CX k f fd ps sp) (i : ∀ vs H Q E, sp' vs H Q E → sp vs H Q E) : FnOk P w K mg base CX k f fd ps sp' :=
  ⟨fun vs H Q E q => h.len vs H Q E (i vs H Q E q), fun A outer s H args us vs Q E r e b v q => h.run A outer s H args us vs Q E r e b v (i vs H Q E q)⟩
theorem spLaw_of {K : PySem.W.Frag} {T : Table} {k f : Nat} (h : ∀ ns : List Int, ns.length ≤ 63 → ∃ b d, run T k f [.v (.scr ns)] = .ok (.bl true, b) d) : ∀ vs H Q E, spLaw K vs H Q E → spF K (run T k) f 1 vs H Q E := by
  rintro vs H Q E ⟨a, ns, rfl, hs, hl, q⟩
  obtain ⟨b, d, e⟩ := h ns hl
  refine ⟨fun _ => False, [.v (.scr ns)], _, d, fun _ h => h.elim, .cons (.scr ?_) .nil, (fun _ h => nomatch h), rfl, e, fun x H' p => ?_⟩
  · rcases hs with (hs | hs) | hs
    · exact .inr (.inr ⟨hs, fun h => h.elim⟩)
    · exact .inr (.inl hs)
    · exact .inl (.inr hs)
  · cases p.rep
    exact q H'
/-- a def in the written part -/
structure DefIn (K : PySem.W.Frag) (x qual : Str) (st : Stmt) : Prop where
  ex : ∃ f fd, PySem.W.nsIn K mainGlobals x = some (some (.ref f)) ∧ Fun K x qual st f fd ∧ PySem.W.keepIn K (.ref f) = true
theorem def_mk {K : PySem.W.Frag} {x qual : Str} {st : Stmt} {f : Addr} {oc : Value} {od an : Option Addr} {osl : Array (Option Value)} {kV doc pm cdv ct : Value}
    (a : PySem.W.nsIn K mainGlobals x = some (some (.ref f))) (l : K.lookup f = some ⟨oc, od, .func (PySem.W.fnOf x qual (defArgs st) (defBody st) (defScope st) .none kV doc pm an cdv ct), osl⟩) (c : PySem.W.codeIn K cdv qual = true) (k : PySem.W.keepIn K (.ref f) = true) : DefIn K x qual st :=
  ⟨f, _, a, fun_mk l c k, k⟩
/-- how arguments are bound: as many as names -/
def BindOk (st : Stmt) (x qual : Str) (ps : List Str) : Prop := ∀ (kV doc pm : Value) (an : Option Addr) (cdv ct : Value) (us : List Value), us.length = ps.length → bindArgs (PySem.W.fnOf x qual (defArgs st) (defBody st) (defScope st) Value.none kV doc pm an cdv ct) { pos := us } = pure (ps.zip us)
/-- one def as a row: number, name, names by slot, params, by reference?, the classes it raises -/
structure Row where
  f : Nat
  x : Str
  st : Stmt
  N : List Str
  np : Nat
  byref : Bool
  ex : List (Str × Nat)
def Row.ps (r : Row) : List Str := r.N.take r.np
def Row.key (r : Row) : Str × Nat × Bool × Nat := (r.x, r.f, r.byref, r.np)
structure RowOk (Y : Text) (r : Row) : Prop where
  len : r.ps.length = r.np
  sc : FnScope r.N r.ps (defScope r.st)
  bind : BindOk r.st r.x r.x r.ps
  fn : ∃ fn, Y.T r.f = some fn ∧ xFn Y.fns Y.consts r.ex r.N r.byref r.ps r.st = some fn
/-- built-in names are nobody's -/
inductive AllB (K : PySem.W.Frag) : List Str → Prop
  | nil : AllB K []
  | cons {x : Str} {r : List Str} : PySem.W.nsIn K mainGlobals x = some none → AllB K r → AllB K (x :: r)
theorem AllB.of {K : PySem.W.Frag} {l : List Str} (h : AllB K l) : ∀ x, x ∈ l → PySem.W.nsIn K mainGlobals x = some none := by
  induction h with
  | nil => intro x e; cases e
  | cons h t ih =>
    intro x e
    rcases List.mem_cons.mp e with rfl | e
    · exact h
    · exact ih x e
/-- constants of the module -/
def ConstIn (K : PySem.W.Frag) (x : Str) (d : G.D) : Prop := ∃ u v, PySem.W.nsIn K mainGlobals x = some (some u) ∧ RelV v u ∧ ∀ H Z, Rep K H Z v d
inductive AllC (K : PySem.W.Frag) : List (Str × G.D) → Prop
  | nil : AllC K []
  | cons {x : Str} {d : G.D} {r : List (Str × G.D)} : ConstIn K x d → AllC K r → AllC K ((x, d) :: r)
theorem AllC.of {K : PySem.W.Frag} {l : List (Str × G.D)} (h : AllC K l) : ∀ x d, l.lookup x = some d → ConstIn K x d := by
  induction h with
  | nil => intro x d e; cases e
  | cons h t ih =>
    intro x d e
    rw [List.lookup_cons] at e
    split at e
    · rename_i hq
      cases e
      rw [show x = _ from by simpa using hq]
      exact h
    · exact ih x d e
theorem const_int {K : PySem.W.Frag} {x : Str} {n : Int} {t : Tok} (h : PySem.W.nsIn K mainGlobals x = some (some (.int n t))) : ConstIn K x (.int n) := ⟨_, .int n, h, ⟨t, rfl⟩, fun _ _ => .int n⟩
theorem text_ok {Y : Text} {K : PySem.W.Frag} {h : Heap} {mg : Str → Option Value} (X : K.In h) (G : h.Ns mainGlobals mg) {rs : List Row} (hr : Y.fns = rs.map Row.key)
    (ho : ∀ r ∈ rs, RowOk Y r) (hd : ∀ r ∈ rs, DefIn K r.x r.x r.st)
    (hb : AllB K bltNames) (hc : AllC K Y.consts) : TextOk Y K mg := by
  refine ⟨fun x f b m e => ?_, fun x e hx => PySem.W.mg_none_of X G (hb.of x hx), fun x d e => ?_⟩
  · rw [hr] at e
    have : ∃ r ∈ rs, r.key = (x, f, b, m) := by
      clear hr ho hd
      induction rs with
      | nil => cases e
      | cons r rs ih =>
        rw [List.map_cons] at e
        unfold Row.key at e
        rw [List.lookup_cons] at e
        split at e
        · rename_i hq
          cases e
          refine ⟨r, List.mem_cons_self, ?_⟩
          unfold Row.key
          rw [show r.x = x from (by simpa using hq : x = r.x).symm]
        · obtain ⟨r', h1, h2⟩ := ih e
          exact ⟨r', List.mem_cons_of_mem _ h1, h2⟩
    obtain ⟨r, hm, hk⟩ := this
    unfold Row.key at hk
    cases hk
    obtain ⟨h1, h2, h3, fn, h4, h5⟩ := ho r hm
    obtain ⟨a, fd, d1, d2, d3⟩ := (hd r hm).ex
    exact ⟨a, fd, r.st, r.x, r.N, r.ps, fn, r.ex, PySem.W.mg_of X G d1, d3, d2, d2.binds h3, h1, h2, h4, h5⟩
  · obtain ⟨u, v, h1, h2, h3⟩ := hc.of x d e
    exact ⟨u, v, PySem.W.mg_of X G h1, h2, h3⟩
theorem law_ok {l : PySem.W.OpenLaw} {w : World} {Y : Text} {K : PySem.W.Frag} {h : Heap} {mg : Str → Option Value} (X : K.In h) (G : h.Ns mainGlobals mg) (tx : TextOk Y K mg) {fa : Addr} {nm : Str} (hfa : mg nm = some (.ref fa)) {r : Row} (hx : r.x = nm) (hp : r.ps = [("script" : Str)]) (ok : RowOk Y r) (hd : DefIn K r.x r.x r.st) {k : Nat}
    (hl : ∀ ns : List Int, ns.length ≤ 63 → ∃ b d, run Y.T k r.f [.v (.scr ns)] = .ok (.bl true, b) d) :
    ∃ fd : FuncData, (∀ (s : Shared) (v : Value), BindsTo s fd ⟨[v], []⟩ [("script", v)]) ∧ ∀ base : Heap, K.In base → base.Ns mainGlobals mg → FnOk l.prog w K mg base CX0 k fa fd ["script"] (spLaw K) := by
  obtain ⟨a, fd, d1, d2, d3⟩ := hd.ex
  have e := hfa.symm.trans (hx ▸ PySem.W.mg_of X G d1)
  cases e
  obtain ⟨h1, h2, h3, fn, h4, h5⟩ := ok
  have b := d2.binds h3
  rw [hp] at h2 h5 h3 b
  refine ⟨fd, fun s v => ?_, fun base _ _ => ?_⟩
  · obtain ⟨oc, od, kV, doc, pm, an, cdv, ct, osl, rfl, _, _⟩ := d2.ex
    exact .of_eq (h3 kV doc pm an cdv ct [v] rfl)
  · have q := defs_ok tx l.prog w base k d2 h2 h4 h5
    exact fnOk_mono q (spLaw_of hl)
end G
end

section
set_option maxHeartbeats 200000
namespace G
open PySem PySem.Spec PyProof.Rows L2
theorem fa_nil {p : Row → Prop} : ∀ r ∈ ([] : List Row), p r := fun _ h => nomatch h
theorem fa_cons {p : Row → Prop} {r : Row} {rs : List Row} (h : p r) (t : ∀ x ∈ rs, p x) : ∀ x ∈ r :: rs, p x := fun x hx => (List.mem_cons.mp hx).elim (fun e => e ▸ h) (t x)
/-! constants of the module: numbers, texts, tuples -/
mutual
inductive ConV (K : PySem.W.Frag) : Value → G.D → Prop
  | int (n : Int) (t : Tok) : ConV K (.int n t) (.int n)
  | str (x : Str) (t : Tok) : ConV K (.str x t) (.str x)
  | tup {a : Addr} {dd : Option Addr} {its : Array Value} {n : Nat} {sl : Array (Option Value)} {ds : List G.D} : K.lookup a = some ⟨.type "tuple", dd, .seq its n, sl⟩ → ConVs K its.toList ds → its.size ≤ sizeLine → ConV K (.ref a) (.tup ds)
inductive ConVs (K : PySem.W.Frag) : List Value → List G.D → Prop
  | nil : ConVs K [] []
  | cons {v : Value} {vs : List Value} {d : G.D} {ds : List G.D} : ConV K v d → ConVs K vs ds → ConVs K (v :: vs) (d :: ds)
end
mutual
theorem ConV.rep {K : PySem.W.Frag} : ∀ {d : G.D} {u : Value}, ConV K u d → ∃ v, RelV v u ∧ ∀ H Z, Rep K H Z v d
  | _, _, .int n t => ⟨.int n, ⟨t, rfl⟩, fun _ _ => .int n⟩
  | _, _, .str x t => ⟨.str x, ⟨t, rfl⟩, fun _ _ => .str x⟩
  | _, _, .tup (a := a) l s z => by
    obtain ⟨vs, h1, h2⟩ := ConVs.rep s
    exact ⟨.ref a, rfl, fun H Z => .tup (.inr ⟨_, _, _, l, rfl, rfl, z, h1⟩) (h2 H Z)⟩
theorem ConVs.rep {K : PySem.W.Frag} : ∀ {ds : List G.D} {us : List Value}, ConVs K us ds → ∃ vs, Vals vs us ∧ ∀ H Z, RepA K H Z vs ds
  | _, _, .nil => ⟨[], .nil, fun _ _ => .nil⟩
  | _, _, .cons h t => by
    obtain ⟨v, h1, h2⟩ := ConV.rep h
    obtain ⟨vs, h3, h4⟩ := ConVs.rep t
    exact ⟨v :: vs, .cons h1 h3, fun H Z => .cons (h2 H Z) (h4 H Z)⟩
end
theorem const_of {K : PySem.W.Frag} {x : Str} {d : G.D} {u : Value} (h : PySem.W.nsIn K mainGlobals x = some (some u)) (c : ConV K u d) : ConstIn K x d := by
  obtain ⟨v, h1, h2⟩ := c.rep
  exact ⟨u, v, h, h1, h2⟩
/-! the table -/
class Has (T : Table) (i : Nat) (f : outParam Fn) : Prop where
  eq : T i = some f
theorem run_succ {T : Table} {i : Nat} {f : Fn} [h : Has T i f] {k : Nat} {as : List S} : run T (k + 1) i as = if argsOk f as then finish f.byref (execs (run T k) f.body (start f.slots as)) else .no := by
  rw [run, h.eq]
end G
end

section
set_option maxHeartbeats 200000
namespace G
/-! ### the evaluator, for simp -/
section
variable {cal : Call} {ρ : Env}
@[simp] theorem opd_c {f : Env → Res R} {d} : opd (E.c d) f ρ = (f ρ).bind fun r ρ => .ok r.1 ρ := rfl
@[simp] theorem opdM_c {β : Type} {f : Env → Res R} {mid : Env → Res β} {k : D → β → Env → Res R} {d} : opdM (E.c d) f ρ mid k = (f ρ).bind fun r ρ => (mid ρ).bind fun y ρ => k r.1 y ρ := by
  show (((f ρ).bind fun r ρ => Res.ok r.1 ρ).bind fun x ρ => (mid ρ).bind fun y ρ => k x y ρ) = _
  cases f ρ <;> rfl
@[simp] theorem opd_tup {f : Env → Res R} {es} : opd (E.tup es) f ρ = (f ρ).bind fun r ρ => .ok r.1 ρ := rfl
@[simp] theorem opdM_tup {β : Type} {f : Env → Res R} {mid : Env → Res β} {k : D → β → Env → Res R} {es} : opdM (E.tup es) f ρ mid k = (f ρ).bind fun r ρ => (mid ρ).bind fun y ρ => k r.1 y ρ := by
  show (((f ρ).bind fun r ρ => Res.ok r.1 ρ).bind fun x ρ => (mid ρ).bind fun y ρ => k x y ρ) = _
  cases f ρ <;> rfl
@[simp] theorem opd_lst {f : Env → Res R} {es} : opd (E.lst es) f ρ = (f ρ).bind fun r ρ => .ok r.1 ρ := rfl
@[simp] theorem opdM_lst {β : Type} {f : Env → Res R} {mid : Env → Res β} {k : D → β → Env → Res R} {es} : opdM (E.lst es) f ρ mid k = (f ρ).bind fun r ρ => (mid ρ).bind fun y ρ => k r.1 y ρ := by
  show (((f ρ).bind fun r ρ => Res.ok r.1 ρ).bind fun x ρ => (mid ρ).bind fun y ρ => k x y ρ) = _
  cases f ρ <;> rfl
@[simp] theorem opd_op1 {f : Env → Res R} {o a} : opd (E.op1 o a) f ρ = (f ρ).bind fun r ρ => .ok r.1 ρ := rfl
@[simp] theorem opdM_op1 {β : Type} {f : Env → Res R} {mid : Env → Res β} {k : D → β → Env → Res R} {o a} : opdM (E.op1 o a) f ρ mid k = (f ρ).bind fun r ρ => (mid ρ).bind fun y ρ => k r.1 y ρ := by
  show (((f ρ).bind fun r ρ => Res.ok r.1 ρ).bind fun x ρ => (mid ρ).bind fun y ρ => k x y ρ) = _
  cases f ρ <;> rfl
@[simp] theorem opd_op2 {f : Env → Res R} {o a b} : opd (E.op2 o a b) f ρ = (f ρ).bind fun r ρ => .ok r.1 ρ := rfl
@[simp] theorem opdM_op2 {β : Type} {f : Env → Res R} {mid : Env → Res β} {k : D → β → Env → Res R} {o a b} : opdM (E.op2 o a b) f ρ mid k = (f ρ).bind fun r ρ => (mid ρ).bind fun y ρ => k r.1 y ρ := by
  show (((f ρ).bind fun r ρ => Res.ok r.1 ρ).bind fun x ρ => (mid ρ).bind fun y ρ => k x y ρ) = _
  cases f ρ <;> rfl
@[simp] theorem opd_cut {f : Env → Res R} {a lo hi} : opd (E.cut a lo hi) f ρ = (f ρ).bind fun r ρ => .ok r.1 ρ := rfl
@[simp] theorem opdM_cut {β : Type} {f : Env → Res R} {mid : Env → Res β} {k : D → β → Env → Res R} {a lo hi} : opdM (E.cut a lo hi) f ρ mid k = (f ρ).bind fun r ρ => (mid ρ).bind fun y ρ => k r.1 y ρ := by
  show (((f ρ).bind fun r ρ => Res.ok r.1 ρ).bind fun x ρ => (mid ρ).bind fun y ρ => k x y ρ) = _
  cases f ρ <;> rfl
@[simp] theorem opd_from {f : Env → Res R} {a lo} : opd (E.«from» a lo) f ρ = (f ρ).bind fun r ρ => .ok r.1 ρ := rfl
@[simp] theorem opdM_from {β : Type} {f : Env → Res R} {mid : Env → Res β} {k : D → β → Env → Res R} {a lo} : opdM (E.«from» a lo) f ρ mid k = (f ρ).bind fun r ρ => (mid ρ).bind fun y ρ => k r.1 y ρ := by
  show (((f ρ).bind fun r ρ => Res.ok r.1 ρ).bind fun x ρ => (mid ρ).bind fun y ρ => k x y ρ) = _
  cases f ρ <;> rfl
@[simp] theorem opd_to {f : Env → Res R} {a hi} : opd (E.to a hi) f ρ = (f ρ).bind fun r ρ => .ok r.1 ρ := rfl
@[simp] theorem opdM_to {β : Type} {f : Env → Res R} {mid : Env → Res β} {k : D → β → Env → Res R} {a hi} : opdM (E.to a hi) f ρ mid k = (f ρ).bind fun r ρ => (mid ρ).bind fun y ρ => k r.1 y ρ := by
  show (((f ρ).bind fun r ρ => Res.ok r.1 ρ).bind fun x ρ => (mid ρ).bind fun y ρ => k x y ρ) = _
  cases f ρ <;> rfl
@[simp] theorem opd_and {f : Env → Res R} {a b} : opd (E.«and» a b) f ρ = (f ρ).bind fun r ρ => .ok r.1 ρ := rfl
@[simp] theorem opdM_and {β : Type} {f : Env → Res R} {mid : Env → Res β} {k : D → β → Env → Res R} {a b} : opdM (E.«and» a b) f ρ mid k = (f ρ).bind fun r ρ => (mid ρ).bind fun y ρ => k r.1 y ρ := by
  show (((f ρ).bind fun r ρ => Res.ok r.1 ρ).bind fun x ρ => (mid ρ).bind fun y ρ => k x y ρ) = _
  cases f ρ <;> rfl
@[simp] theorem opd_or {f : Env → Res R} {a b} : opd (E.«or» a b) f ρ = (f ρ).bind fun r ρ => .ok r.1 ρ := rfl
@[simp] theorem opdM_or {β : Type} {f : Env → Res R} {mid : Env → Res β} {k : D → β → Env → Res R} {a b} : opdM (E.«or» a b) f ρ mid k = (f ρ).bind fun r ρ => (mid ρ).bind fun y ρ => k r.1 y ρ := by
  show (((f ρ).bind fun r ρ => Res.ok r.1 ρ).bind fun x ρ => (mid ρ).bind fun y ρ => k x y ρ) = _
  cases f ρ <;> rfl
@[simp] theorem opd_not {f : Env → Res R} {a} : opd (E.«not» a) f ρ = (f ρ).bind fun r ρ => .ok r.1 ρ := rfl
@[simp] theorem opdM_not {β : Type} {f : Env → Res R} {mid : Env → Res β} {k : D → β → Env → Res R} {a} : opdM (E.«not» a) f ρ mid k = (f ρ).bind fun r ρ => (mid ρ).bind fun y ρ => k r.1 y ρ := by
  show (((f ρ).bind fun r ρ => Res.ok r.1 ρ).bind fun x ρ => (mid ρ).bind fun y ρ => k x y ρ) = _
  cases f ρ <;> rfl
@[simp] theorem opd_ifx {f : Env → Res R} {t a b} : opd (E.ifx t a b) f ρ = (f ρ).bind fun r ρ => .ok r.1 ρ := rfl
@[simp] theorem opdM_ifx {β : Type} {f : Env → Res R} {mid : Env → Res β} {k : D → β → Env → Res R} {t a b} : opdM (E.ifx t a b) f ρ mid k = (f ρ).bind fun r ρ => (mid ρ).bind fun y ρ => k r.1 y ρ := by
  show (((f ρ).bind fun r ρ => Res.ok r.1 ρ).bind fun x ρ => (mid ρ).bind fun y ρ => k x y ρ) = _
  cases f ρ <;> rfl
@[simp] theorem opd_chain {f : Env → Res R} {o p a b c} : opd (E.chain o p a b c) f ρ = (f ρ).bind fun r ρ => .ok r.1 ρ := rfl
@[simp] theorem opdM_chain {β : Type} {f : Env → Res R} {mid : Env → Res β} {k : D → β → Env → Res R} {o p a b c} : opdM (E.chain o p a b c) f ρ mid k = (f ρ).bind fun r ρ => (mid ρ).bind fun y ρ => k r.1 y ρ := by
  show (((f ρ).bind fun r ρ => Res.ok r.1 ρ).bind fun x ρ => (mid ρ).bind fun y ρ => k x y ρ) = _
  cases f ρ <;> rfl
@[simp] theorem opd_chain3 {f : Env → Res R} {o p q a b c d} : opd (E.chain3 o p q a b c d) f ρ = (f ρ).bind fun r ρ => .ok r.1 ρ := rfl
@[simp] theorem opdM_chain3 {β : Type} {f : Env → Res R} {mid : Env → Res β} {k : D → β → Env → Res R} {o p q a b c d} : opdM (E.chain3 o p q a b c d) f ρ mid k = (f ρ).bind fun r ρ => (mid ρ).bind fun y ρ => k r.1 y ρ := by
  show (((f ρ).bind fun r ρ => Res.ok r.1 ρ).bind fun x ρ => (mid ρ).bind fun y ρ => k x y ρ) = _
  cases f ρ <;> rfl
@[simp] theorem opd_call {f : Env → Res R} {i es} : opd (E.call i es) f ρ = (f ρ).bind fun r ρ => .ok r.1 ρ := rfl
@[simp] theorem opdM_call {β : Type} {f : Env → Res R} {mid : Env → Res β} {k : D → β → Env → Res R} {i es} : opdM (E.call i es) f ρ mid k = (f ρ).bind fun r ρ => (mid ρ).bind fun y ρ => k r.1 y ρ := by
  show (((f ρ).bind fun r ρ => Res.ok r.1 ρ).bind fun x ρ => (mid ρ).bind fun y ρ => k x y ρ) = _
  cases f ρ <;> rfl
@[simp] theorem opd_callr {f : Env → Res R} {i j es} : opd (E.callr i j es) f ρ = (f ρ).bind fun r ρ => .ok r.1 ρ := rfl
@[simp] theorem opdM_callr {β : Type} {f : Env → Res R} {mid : Env → Res β} {k : D → β → Env → Res R} {i j es} : opdM (E.callr i j es) f ρ mid k = (f ρ).bind fun r ρ => (mid ρ).bind fun y ρ => k r.1 y ρ := by
  show (((f ρ).bind fun r ρ => Res.ok r.1 ρ).bind fun x ρ => (mid ρ).bind fun y ρ => k x y ρ) = _
  cases f ρ <;> rfl
@[simp] theorem opd_comp {f : Env → Res R} {own elt p it ifs gs} : opd (E.comp own elt p it ifs gs) f ρ = (f ρ).bind fun r ρ => .ok r.1 ρ := rfl
@[simp] theorem opdM_comp {β : Type} {f : Env → Res R} {mid : Env → Res β} {k : D → β → Env → Res R} {own elt p it ifs gs} : opdM (E.comp own elt p it ifs gs) f ρ mid k = (f ρ).bind fun r ρ => (mid ρ).bind fun y ρ => k r.1 y ρ := by
  show (((f ρ).bind fun r ρ => Res.ok r.1 ρ).bind fun x ρ => (mid ρ).bind fun y ρ => k x y ρ) = _
  cases f ρ <;> rfl
@[simp] theorem opd_pop {f : Env → Res R} {i} : opd (E.pop i) f ρ = (f ρ).bind fun r ρ => .ok r.1 ρ := rfl
@[simp] theorem opdM_pop {β : Type} {f : Env → Res R} {mid : Env → Res β} {k : D → β → Env → Res R} {i} : opdM (E.pop i) f ρ mid k = (f ρ).bind fun r ρ => (mid ρ).bind fun y ρ => k r.1 y ρ := by
  show (((f ρ).bind fun r ρ => Res.ok r.1 ρ).bind fun x ρ => (mid ρ).bind fun y ρ => k x y ρ) = _
  cases f ρ <;> rfl
@[simp] theorem opd_popAt {f : Env → Res R} {i a} : opd (E.popAt i a) f ρ = (f ρ).bind fun r ρ => .ok r.1 ρ := rfl
@[simp] theorem opdM_popAt {β : Type} {f : Env → Res R} {mid : Env → Res β} {k : D → β → Env → Res R} {i a} : opdM (E.popAt i a) f ρ mid k = (f ρ).bind fun r ρ => (mid ρ).bind fun y ρ => k r.1 y ρ := by
  show (((f ρ).bind fun r ρ => Res.ok r.1 ρ).bind fun x ρ => (mid ρ).bind fun y ρ => k x y ρ) = _
  cases f ρ <;> rfl
@[simp] theorem opd_v {i : Nat} {f : Env → Res R} : opd (.v i) f ρ = optR (peekAt i ρ) ρ := rfl
@[simp] theorem opdM_v {β : Type} {i : Nat} {f : Env → Res R} {mid : Env → Res β} {k : D → β → Env → Res R} : opdM (.v i) f ρ mid k = (optR (peekAt i ρ) ρ).bind fun _ ρ => (mid ρ).bind fun y ρ => (optR (peekAt i ρ) ρ).bind fun x ρ => k x y ρ := rfl
@[simp] theorem ev_c {d : D} : evalE cal (.c d) ρ = .ok (d, false) ρ := by simp only [evalE]
@[simp] theorem ev_v {i : Nat} : evalE cal (.v i) ρ = (readAt i ρ).bind fun d ρ => .ok (d, false) ρ := by simp only [evalE]
@[simp] theorem ev_tup {es : List E} : evalE cal (.tup es) ρ = (evalEs cal es ρ).bind fun ds ρ => .ok (.tup ds, false) ρ := by simp only [evalE]
@[simp] theorem ev_lst {es : List E} : evalE cal (.lst es) ρ = (evalEs cal es ρ).bind fun ds ρ => .ok (.lst ds, true) ρ := by simp only [evalE]
@[simp] theorem ev_op1 {o : Op1} {a : E} : evalE cal (.op1 o a) ρ = (opd a (evalE cal a) ρ).bind fun x ρ => optR (op1 o x) ρ := by simp only [evalE]
@[simp] theorem ev_op2 {o : Op2} {a b : E} : evalE cal (.op2 o a b) ρ = opdM a (evalE cal a) ρ (opd b (evalE cal b)) fun x y ρ => optR (op2 o x y) ρ := by simp only [evalE]
@[simp] theorem ev_cut {a lo hi : E} : evalE cal (.cut a lo hi) ρ = opdM a (evalE cal a) ρ (fun ρ => (opd lo (evalE cal lo) ρ).bind fun l ρ => (asInt l ρ).bind fun l ρ => (opd hi (evalE cal hi) ρ).bind fun h ρ => (asInt h ρ).bind fun h ρ => .ok (l, h) ρ) fun x y ρ => optR (cutE x (some y.1) (some y.2)) ρ := by simp only [evalE]
@[simp] theorem ev_from {a lo : E} : evalE cal (.from a lo) ρ = opdM a (evalE cal a) ρ (fun ρ => (opd lo (evalE cal lo) ρ).bind fun l ρ => asInt l ρ) fun x y ρ => optR (cutE x (some y) none) ρ := by simp only [evalE]
@[simp] theorem ev_to {a hi : E} : evalE cal (.to a hi) ρ = opdM a (evalE cal a) ρ (fun ρ => (opd hi (evalE cal hi) ρ).bind fun l ρ => asInt l ρ) fun x y ρ => optR (cutE x none (some y)) ρ := by simp only [evalE]
@[simp] theorem ev_and {a b : E} : evalE cal (.and a b) ρ = (evalE cal a ρ).bind fun x ρ => (asBl x.1 ρ).bind fun t ρ => if t then evalE cal b ρ else .ok (.bl false, false) ρ := by simp only [evalE]
@[simp] theorem ev_or {a b : E} : evalE cal (.or a b) ρ = (evalE cal a ρ).bind fun x ρ => (asBl x.1 ρ).bind fun t ρ => if t then .ok (.bl true, false) ρ else evalE cal b ρ := by simp only [evalE]
@[simp] theorem ev_not {a : E} : evalE cal (.not a) ρ = (evalE cal a ρ).bind fun x ρ => (asBl x.1 ρ).bind fun t ρ => .ok (.bl !t, false) ρ := by simp only [evalE]
@[simp] theorem ev_ifx {t : T} {a b : E} : evalE cal (.ifx t a b) ρ = (evalT cal t ρ).bind fun t ρ => if t then evalE cal a ρ else evalE cal b ρ := by simp only [evalE]
@[simp] theorem ev_chain {o p : Op2} {a b c : E} : evalE cal (.chain o p a b c) ρ = (opd a (evalE cal a) ρ).bind fun x ρ => (asInt x ρ).bind fun x ρ => (opd b (evalE cal b) ρ).bind fun y ρ => (asInt y ρ).bind fun y ρ => (optR (ordE o x y) ρ).bind fun t ρ =>
      if t then (opd c (evalE cal c) ρ).bind fun z ρ => (asInt z ρ).bind fun z ρ => (optR (ordE p y z) ρ).bind fun t ρ => .ok (.bl t, false) ρ else .ok (.bl false, false) ρ := by simp only [evalE]
@[simp] theorem ev_chain3 {o p q : Op2} {a b c d : E} : evalE cal (.chain3 o p q a b c d) ρ = (opd a (evalE cal a) ρ).bind fun x ρ => (asInt x ρ).bind fun x ρ => (opd b (evalE cal b) ρ).bind fun y ρ => (asInt y ρ).bind fun y ρ => (optR (ordE o x y) ρ).bind fun t ρ =>
      if t then (opd c (evalE cal c) ρ).bind fun z ρ => (asInt z ρ).bind fun z ρ => (optR (ordE p y z) ρ).bind fun t ρ =>
        if t then (opd d (evalE cal d) ρ).bind fun w ρ => (asInt w ρ).bind fun w ρ => (optR (ordE q z w) ρ).bind fun t ρ => .ok (.bl t, false) ρ else .ok (.bl false, false) ρ
      else .ok (.bl false, false) ρ := by simp only [evalE]
@[simp] theorem ev_call {f : Nat} {es : List E} : evalE cal (.call f es) ρ = (evalEs cal es ρ).bind fun ds ρ => callR (cal f (ds.map S.v)) ρ fun _ => ρ := by simp only [evalE]
@[simp] theorem ev_callr {f i : Nat} {es : List E} : evalE cal (.callr f i es) ρ = (optR (peekAt i ρ) ρ).bind fun _ ρ => (evalEs cal es ρ).bind fun ds ρ => match ρ[i]? with
    | some (.own d) => callR (cal f (.ref d :: ds.map S.v)) ρ fun b => ρ.set i (.own b)
    | some (.ref d) => callR (cal f (.ref d :: ds.map S.v)) ρ fun b => ρ.set i (.ref b)
    | _ => .no := by (simp only [evalE]) <;> rfl
@[simp] theorem ev_comp {own : List Nat} {elt : E} {p : P} {it : I} {ifs : List T} {gs : List Gen} : evalE cal (.comp own elt p it ifs gs) ρ = (evalI cal it ρ).bind fun xs ρ => if hides ρ own then (turns own p (evalFs cal ifs) (compE cal (evalE cal elt) gs) xs (wipe ρ own)).bind fun ds ρ' =>
      if ds.length ≤ line then .ok (.lst ds, true) (back ρ ρ' own) else .no else .no := by simp only [evalE]
@[simp] theorem ev_pop {i : Nat} : evalE cal (.pop i) ρ = (optR (popE ρ[i]?) ρ).bind fun p ρ => .ok (p.1, false) (ρ.set i (.own (.lst p.2))) := by simp only [evalE]
@[simp] theorem ev_popAt {i : Nat} {a : E} : evalE cal (.popAt i a) ρ = if isL ρ[i]? then (opd a (evalE cal a) ρ).bind fun k ρ => (optR (popAtE ρ[i]? k) ρ).bind fun p ρ => .ok (p.1, false) (ρ.set i (.own (.lst p.2))) else .no := by simp only [evalE]
@[simp] theorem es_nil : evalEs cal [] ρ = .ok [] ρ := by simp only [evalEs]
@[simp] theorem es_cons {e : E} {es : List E} : evalEs cal (e :: es) ρ = (evalE cal e ρ).bind fun r ρ => (evalEs cal es ρ).bind fun ds ρ => .ok (r.1 :: ds) ρ := by simp only [evalEs]
@[simp] theorem rs_nil : evalRs cal [] ρ = .ok [] ρ := by simp only [evalRs]
@[simp] theorem rs_cons {e : E} {es : List E} : evalRs cal (e :: es) ρ = (evalE cal e ρ).bind fun r ρ => (evalRs cal es ρ).bind fun ds ρ => .ok (r :: ds) ρ := by simp only [evalRs]
@[simp] theorem et_and {a b : T} : evalT cal (.and a b) ρ = (evalT cal a ρ).bind fun t ρ => if t then evalT cal b ρ else .ok false ρ := by simp only [evalT]
@[simp] theorem et_or {a b : T} : evalT cal (.or a b) ρ = (evalT cal a ρ).bind fun t ρ => if t then .ok true ρ else evalT cal b ρ := by simp only [evalT]
@[simp] theorem et_not {a : T} : evalT cal (.not a) ρ = (evalT cal a ρ).bind fun t ρ => .ok (!t) ρ := by simp only [evalT]
@[simp] theorem et_e {a : E} : evalT cal (.e a) ρ = (opd a (evalE cal a) ρ).bind fun x ρ => optR (truth x) ρ := by simp only [evalT]
@[simp] theorem et_b {a : E} : evalT cal (.b a) ρ = (evalE cal a ρ).bind fun x ρ => asBl x.1 ρ := by simp only [evalT]
@[simp] theorem ei_e {a : E} : evalI cal (.e a) ρ = (evalE cal a ρ).bind fun x ρ => optR (items x.1) ρ := by simp only [evalI]
@[simp] theorem ei_range {es : List E} : evalI cal (.range es) ρ = (evalEs cal es ρ).bind fun ds ρ => optR (rangeE ds) ρ := by simp only [evalI]
@[simp] theorem ei_enum {a : E} : evalI cal (.enum a) ρ = (evalE cal a ρ).bind fun x ρ => optR (enumE x.1) ρ := by simp only [evalI]
@[simp] theorem ei_zip {es : List E} : evalI cal (.zip es) ρ = (evalEs cal es ρ).bind fun ds ρ => optR (zipE ds) ρ := by simp only [evalI]
@[simp] theorem ef_nil : evalFs cal [] ρ = .ok true ρ := by simp only [evalFs]
@[simp] theorem ef_cons {t : T} {ts : List T} : evalFs cal (t :: ts) ρ = (evalT cal t ρ).bind fun b ρ => if b then evalFs cal ts ρ else .ok false ρ := by simp only [evalFs]
@[simp] theorem ec_nil {f : Env → Res R} : compE cal f [] ρ = (f ρ).bind fun r ρ => .ok [r.1] ρ := by simp only [compE]
@[simp] theorem tu_nil {vs : List Nat} {p : P} {t : Env → Res Bool} {f : Env → Res (List D)} : turns vs p t f [] ρ = .ok [] ρ := rfl
@[simp] theorem bind_ok {α β : Type} {a : α} {f : α → Env → Res β} : (Res.ok a ρ).bind f = f a ρ := rfl
@[simp] theorem st_ok {α : Type} {a : α} {f : α → Env → SRes} : (Res.ok a ρ).st f = f a ρ := rfl
@[simp] theorem seq_nx {f : Env → SRes} : (SRes.nx ρ).seq f = f ρ := rfl
@[simp] theorem seq_ret {f : Env → SRes} {r : R} : (SRes.ret r ρ).seq f = .ret r ρ := rfl
@[simp] theorem seq_brk {f : Env → SRes} : (SRes.brk ρ).seq f = .brk ρ := rfl
@[simp] theorem seq_ct {f : Env → SRes} : (SRes.ct ρ).seq f = .ct ρ := rfl
@[simp] theorem optR_some {α : Type} {a : α} : optR (some a) ρ = .ok a ρ := rfl
@[simp] theorem optS_some : optS (some ρ) = .nx ρ := rfl
@[simp] theorem bind_no {α β : Type} {f : α → Env → Res β} : (Res.no : Res α).bind f = .no := rfl
@[simp] theorem bind_exc {α β : Type} {x : Exn} {f : α → Env → Res β} : (Res.exc x ρ : Res α).bind f = .exc x ρ := rfl
@[simp] theorem st_no {α : Type} {f : α → Env → SRes} : (Res.no : Res α).st f = .no := rfl
@[simp] theorem st_exc {α : Type} {x : Exn} {f : α → Env → SRes} : (Res.exc x ρ : Res α).st f = .exc x ρ := rfl
@[simp] theorem seq_no {f : Env → SRes} : SRes.no.seq f = .no := rfl
@[simp] theorem seq_exc {f : Env → SRes} {x : Exn} : (SRes.exc x ρ).seq f = .exc x ρ := rfl
@[simp] theorem optR_none {α : Type} : optR (none : Option α) ρ = .no := rfl
@[simp] theorem fin_no {r : Bool} : finish r .no = .no := rfl
@[simp] theorem callR_no {f : D → Env} : callR .no ρ f = .no := rfl
@[simp] theorem callR_exc {x : Exn} {b : D} {f : D → Env} : callR (.exc x b) ρ f = .exc x (f b) := rfl
@[simp] theorem callR_ok {r : R} {b : D} {f : D → Env} : callR (.ok r b) ρ f = .ok r (f b) := rfl
@[simp] theorem asBl_bl {b : Bool} : asBl (.bl b) ρ = .ok b ρ := rfl
@[simp] theorem asInt_int {b : Int} : asInt (.int b) ρ = .ok b ρ := rfl
theorem res_ite {α β : Type} {c : Prop} [Decidable c] {a b : Res α} {f : α → Env → Res β} : (if c then a else b).bind f = if c then a.bind f else b.bind f := by split <;> rfl
theorem res_iteS {α : Type} {c : Prop} [Decidable c] {a b : Res α} {f : α → Env → SRes} : (if c then a else b).st f = if c then a.st f else b.st f := by split <;> rfl
theorem seq_ite {c : Prop} [Decidable c] {a b : SRes} {f : Env → SRes} : (if c then a else b).seq f = if c then a.seq f else b.seq f := by split <;> rfl
theorem optR_ite {α : Type} {c : Prop} [Decidable c] {a b : Option α} : optR (if c then a else b) ρ = if c then optR a ρ else optR b ρ := by split <;> rfl
theorem fin_ite {r : Bool} {c : Prop} [Decidable c] {a b : SRes} : finish r (if c then a else b) = if c then finish r a else finish r b := by split <;> rfl
/-! statements -/
@[simp] theorem ex_set {p : P} {e : E} : exec cal (.set p e) ρ = (evalE cal e ρ).st fun r ρ => optS (setP p r ρ) := by simp only [exec]
@[simp] theorem ex_par {ps : List Nat} {es : List E} : exec cal (.par ps es) ρ = (evalRs cal es ρ).st fun rs ρ => optS (setAll ps rs ρ) := by simp only [exec]
@[simp] theorem ex_sub {i : Nat} {a e : E} : exec cal (.sub i a e) ρ = if isL ρ[i]? then (evalE cal e ρ).st fun r ρ => (opd a (evalE cal a) ρ).st fun k ρ => change i ρ (storeAt k r.1) else .no := by simp only [exec]
@[simp] theorem ex_expr {e : E} : exec cal (.expr e) ρ = (evalE cal e ρ).st fun _ ρ => .nx ρ := by simp only [exec]
@[simp] theorem ex_append {i : Nat} {e : E} : exec cal (.append i e) ρ = if isL ρ[i]? then (evalE cal e ρ).st fun r ρ => change i ρ (appendTo r.1) else .no := by simp only [exec]
@[simp] theorem ex_ifs {t : T} {a b : List Sm} : exec cal (.ifs t a b) ρ = (evalT cal t ρ).st fun c ρ => if c then execs cal a ρ else execs cal b ρ := by simp only [exec]
@[simp] theorem ex_whil {t : T} {b : List Sm} : exec cal (.whil t b) ρ = whileS (evalT cal t) (execs cal b) ρ := by simp only [exec]
@[simp] theorem ex_forr {p : P} {it : I} {b : List Sm} : exec cal (.forr p it b) ρ = (evalI cal it ρ).st fun xs ρ => forS p (execs cal b) xs ρ := by simp only [exec]
@[simp] theorem ex_ret {e : E} : exec cal (.ret e) ρ = (evalE cal e ρ).st fun r ρ => .ret r ρ := by simp only [exec]
@[simp] theorem ex_retV {i : Nat} : exec cal (.retV i) ρ = retV i ρ := by simp only [exec]
@[simp] theorem ex_retN : exec cal .retN ρ = .ret (.non, false) ρ := by simp only [exec]
@[simp] theorem ex_pass : exec cal .pass ρ = .nx ρ := by simp only [exec]
@[simp] theorem ex_brk : exec cal .brk ρ = .brk ρ := by simp only [exec]
@[simp] theorem ex_ct : exec cal .ct ρ = .ct ρ := by simp only [exec]
@[simp] theorem xs_nil : execs cal [] ρ = .nx ρ := by simp only [execs]
@[simp] theorem xs_cons {s : Sm} {ss : List Sm} : execs cal (s :: ss) ρ = (exec cal s ρ).seq fun ρ => execs cal ss ρ := by simp only [execs]
@[simp] theorem for_nil {p : P} {b : Env → SRes} : forS p b [] ρ = .nx ρ := rfl
end
/-! ### slots -/
@[simp] theorem peek_v {d : D} : S.peek (.v d) = some d := by rw [S.peek]
@[simp] theorem peek_own {d : D} : S.peek (.own d) = some d := by rw [S.peek]
@[simp] theorem peek_ref {d : D} : S.peek (.ref d) = some d := by rw [S.peek]
@[simp] theorem peekAt_0 {s : S} {r : Env} : peekAt 0 (s :: r) = s.peek := by unfold peekAt; rw [List.getElem?_cons_zero]
@[simp] theorem peekAt_s {i : Nat} {s : S} {r : Env} : peekAt (i + 1) (s :: r) = peekAt i r := by unfold peekAt; rw [List.getElem?_cons_succ]
@[simp] theorem readAt_0v {d : D} {r : Env} : readAt 0 (.v d :: r) = .ok d (.v d :: r) := rfl
@[simp] theorem readAt_0o {d : D} {r : Env} : readAt 0 (.own d :: r) = .ok d (.v d :: r) := rfl
@[simp] theorem readAt_s {i : Nat} {s : S} {r : Env} : readAt (i + 1) (s :: r) = (readAt i r).bind fun d r => .ok d (s :: r) := by
  unfold readAt
  rw [List.getElem?_cons_succ]
  cases h : r[i]? with
  | none => rfl
  | some t => cases t <;> rfl
@[simp] theorem bindP_n {i : Nat} {d : D} {ρ : Env} : bindP (.n i) d ρ = if i < ρ.length then some (ρ.set i (.v d)) else none := by simp only [bindP]
@[simp] theorem bindP_t {ps : List P} {ds : List D} {ρ : Env} : bindP (.t ps) (.tup ds) ρ = bindPs ps ds ρ := by simp only [bindP]
@[simp] theorem bindP_tl {ps : List P} {ds : List D} {ρ : Env} : bindP (.t ps) (.lst ds) ρ = bindPs ps ds ρ := by simp only [bindP]
@[simp] theorem bindPs_nil {ρ : Env} : bindPs [] [] ρ = some ρ := by simp only [bindPs]
@[simp] theorem bindPs_cons {p : P} {ps : List P} {d : D} {ds : List D} {ρ : Env} : bindPs (p :: ps) (d :: ds) ρ = (bindP p d ρ).bind fun ρ => bindPs ps ds ρ := by simp only [bindPs]
@[simp] theorem setP_nf {i : Nat} {d : D} {ρ : Env} (h : ∀ e, ρ.getD i .no ≠ .ref e) (hi : i < ρ.length) : setP (.n i) (d, false) ρ = some (ρ.set i (.v d)) := by
  simp only [setP, if_pos hi]
@[simp] theorem setP_nl {i : Nat} {d : List D} {ρ : Env} (h : ∀ e, ρ.getD i .no ≠ .ref e) (hi : i < ρ.length) : setP (.n i) (.lst d, true) ρ = some (ρ.set i (.own (.lst d))) := by
  simp only [setP, if_pos hi]
@[simp] theorem setP_t {ps : List P} {r : R} {ρ : Env} : setP (.t ps) r ρ = bindP (.t ps) r.1 ρ := rfl
@[simp] theorem setAll_nil {ρ : Env} : setAll [] [] ρ = some ρ := rfl
@[simp] theorem setAll_cons {i : Nat} {is : List Nat} {r : R} {rs : List R} {ρ : Env} : setAll (i :: is) (r :: rs) ρ = (setP (.n i) r ρ).bind fun ρ => setAll is rs ρ := rfl
@[simp] theorem retV_v {i : Nat} {ρ : Env} {d : D} (h : ρ[i]? = some (.v d)) : retV i ρ = .ret (d, false) ρ := by unfold retV; rw [h]
@[simp] theorem retV_o {i : Nat} {ρ : Env} {d : D} (h : ρ[i]? = some (.own d)) : retV i ρ = .ret (d, true) ρ := by unfold retV; rw [h]
@[simp] theorem isL_o {d : List D} : isL (some (.own (.lst d))) = true := rfl
@[simp] theorem isL_r {d : List D} : isL (some (.ref (.lst d))) = true := rfl
@[simp] theorem change_own {i : Nat} {ρ : Env} {f : List D → Option (List D)} {ds : List D} (h : ρ[i]? = some (.own (.lst ds))) : change i ρ f = match f ds with | some es => .nx (ρ.set i (.own (.lst es))) | none => .no := by unfold change; (rw [h]) <;> rfl
@[simp] theorem change_ref {i : Nat} {ρ : Env} {f : List D → Option (List D)} {ds : List D} (h : ρ[i]? = some (.ref (.lst ds))) : change i ρ f = match f ds with | some es => .nx (ρ.set i (.ref (.lst es))) | none => .no := by unfold change; (rw [h]) <;> rfl
@[simp] theorem appendTo_ok {d : D} {ds : List D} (h : ds.length < line) : appendTo d ds = some (ds ++ [d]) := by unfold appendTo; rw [if_pos h]
@[simp] theorem storeAt_int {k : Int} {d : D} {ds : List D} : storeAt (.int k) d ds = (ixN ds.length k).map fun j => ds.set j d := rfl
@[simp] theorem start_eq {n : Nat} {as : List S} : start n as = as ++ List.replicate (n - as.length) .no := rfl
@[simp] theorem backOf_f {ρ : Env} : backOf false ρ = some .non := rfl
@[simp] theorem backOf_t {d : D} {ρ : Env} : backOf true (.ref d :: ρ) = some d := rfl
@[simp] theorem fin_ret {r : Bool} {x : R} {ρ : Env} {d : D} (h : backOf r ρ = some d) : finish r (.ret x ρ) = .ok x d := by simp only [finish, h]
@[simp] theorem fin_nx {r : Bool} {ρ : Env} {d : D} (h : backOf r ρ = some d) : finish r (.nx ρ) = .ok (.non, false) d := by simp only [finish, h]
@[simp] theorem hides_nil {ρ : Env} : hides ρ [] = true := rfl
@[simp] theorem hides_cons {v : Nat} {vs : List Nat} {ρ : Env} : hides ρ (v :: vs) = ((match ρ.getD v .no with | .own _ => false | .ref _ => false | _ => true) && hides ρ vs) := rfl
@[simp] theorem wipe_nil {ρ : Env} : wipe ρ [] = ρ := rfl
@[simp] theorem wipe_cons {v : Nat} {vs : List Nat} {ρ : Env} : wipe ρ (v :: vs) = (wipe ρ vs).set v .no := rfl
@[simp] theorem back_nil {ρ ρ' : Env} : back ρ ρ' [] = ρ' := rfl
@[simp] theorem back_cons {v : Nat} {vs : List Nat} {ρ ρ' : Env} : back ρ ρ' (v :: vs) = (back ρ ρ' vs).set v (ρ.getD v .no) := rfl
/-! ### operators -/
section
variable {a b : Int} {x y : D} {xs ys : List D} {p q : Bool}
@[simp] theorem old_eq : old x = some (x, false) := rfl
@[simp] theorem new_eq : new x = some (x, true) := rfl
@[simp] theorem o_neg : op1 .neg (.int a) = some (.int (-a), false) := rfl
@[simp] theorem o_abs : op1 .abs (.int a) = some (.int (if a < 0 then -a else a), false) := rfl
@[simp] theorem o_lenl : op1 .len (.lst xs) = some (.int xs.length, false) := rfl
@[simp] theorem o_lent : op1 .len (.tup xs) = some (.int xs.length, false) := rfl
@[simp] theorem o_int : op1 .int (.int a) = some (.int a, false) := rfl
@[simp] theorem o_intb : op1 .int (.bl p) = some (.int (if p then 1 else 0), false) := rfl
@[simp] theorem o_bool : op1 .bool (.bl p) = some (.bl p, false) := rfl
@[simp] theorem o_tupl : op1 .tuple (.lst xs) = some (.tup xs, false) := rfl
@[simp] theorem o_tupt : op1 .tuple (.tup xs) = some (.tup xs, false) := rfl
@[simp] theorem o_lstl : op1 .list (.lst xs) = some (.lst xs, true) := rfl
@[simp] theorem o_lstt : op1 .list (.tup xs) = some (.lst xs, true) := rfl
@[simp] theorem o_lsts {ns : List Int} : op1 .list (.scr ns) = some (.lst (ns.map D.int), true) := rfl
@[simp] theorem o_sortl : op1 .sorted (.lst xs) = match sortD xs with | some ys => some (.lst ys, true) | none => none := rfl
@[simp] theorem o_sortt : op1 .sorted (.tup xs) = match sortD xs with | some ys => some (.lst ys, true) | none => none := rfl
@[simp] theorem o_suml : op1 .sum (.lst xs) = match intsD xs with | some ns => some (.int ns.sum, false) | none => none := rfl
@[simp] theorem o_sumt : op1 .sum (.tup xs) = match intsD xs with | some ns => some (.int ns.sum, false) | none => none := rfl
@[simp] theorem o_minl : op1 .min (.lst xs) = foldI min xs := rfl
@[simp] theorem o_mint : op1 .min (.tup xs) = foldI min xs := rfl
@[simp] theorem o_maxl : op1 .max (.lst xs) = foldI max xs := rfl
@[simp] theorem o_maxt : op1 .max (.tup xs) = foldI max xs := rfl
@[simp] theorem o_all : op1 .all (.lst xs) = match bls xs with | some bs => some (.bl (bs.all id), false) | none => none := rfl
@[simp] theorem o_any : op1 .any (.lst xs) = match bls xs with | some bs => some (.bl (bs.any id), false) | none => none := rfl
@[simp] theorem o_isNone : op1 .isNone x = match x with | .non => some (.bl true, false) | _ => some (.bl false, false) := by cases x <;> rfl
@[simp] theorem o_notNone : op1 .notNone x = match x with | .non => some (.bl false, false) | _ => some (.bl true, false) := by cases x <;> rfl
@[simp] theorem o_isTy {n : Nat} : op1 (.isTy n) x = match isTy n x with | some b => some (.bl b, false) | none => none := rfl
@[simp] theorem o_isB : op1 (.isB p) (.bl q) = some (.bl (q == p), false) := rfl
@[simp] theorem o_notB : op1 (.notB p) (.bl q) = some (.bl (q != p), false) := rfl
@[simp] theorem isTy_non {n : Nat} : isTy n .non = some false := rfl
@[simp] theorem isTy_bl {n : Nat} : isTy n (.bl p) = some (n == 0 || n == 1) := rfl
@[simp] theorem isTy_int {n : Nat} : isTy n (.int a) = some (n == 0) := rfl
@[simp] theorem isTy_str {n : Nat} {s : PySem.Str} : isTy n (.str s) = some (n == 2) := rfl
@[simp] theorem isTy_tup {n : Nat} : isTy n (.tup xs) = some (n == 3) := rfl
@[simp] theorem isTy_fn {n f : Nat} : isTy n (.fn f) = none := rfl
@[simp] theorem isTy_scr {n : Nat} {f : List Int} : isTy n (.scr f) = none := rfl
@[simp] theorem isTy_lst {n : Nat} : isTy n (.lst xs) = some (n == 4) := rfl
@[simp] theorem o_add : op2 .add (.int a) (.int b) = some (.int (a + b), false) := rfl
@[simp] theorem o_addl : op2 .add (.lst xs) (.lst ys) = if xs.length + ys.length ≤ line then some (.lst (xs ++ ys), true) else none := rfl
@[simp] theorem o_addt : op2 .add (.tup xs) (.tup ys) = if xs.length + ys.length ≤ line then some (.tup (xs ++ ys), false) else none := rfl
@[simp] theorem o_sub : op2 .sub (.int a) (.int b) = some (.int (a - b), false) := rfl
@[simp] theorem o_mul : op2 .mul (.int a) (.int b) = if mulOk a b then some (.int (a * b), false) else none := rfl
@[simp] theorem o_fdiv : op2 .fdiv (.int a) (.int b) = if divOk b then some (.int (a.fdiv b), false) else none := rfl
@[simp] theorem o_mod : op2 .mod (.int a) (.int b) = if b ≠ 0 then some (.int (a.fmod b), false) else none := rfl
@[simp] theorem o_pow : op2 .pow (.int a) (.int b) = if powOk a b then some (.int (a ^ b.toNat), false) else none := rfl
@[simp] theorem o_eq : op2 .eq x y = match eqG x y with | some b => some (.bl b, false) | none => none := rfl
@[simp] theorem o_ne : op2 .ne x y = match eqG x y with | some b => some (.bl !b, false) | none => none := rfl
@[simp] theorem o_lt : op2 .lt (.int a) (.int b) = some (.bl (decide (a < b)), false) := rfl
@[simp] theorem o_le : op2 .le (.int a) (.int b) = some (.bl (decide (a ≤ b)), false) := rfl
@[simp] theorem o_gt : op2 .gt (.int a) (.int b) = some (.bl (decide (b < a)), false) := rfl
@[simp] theorem o_ge : op2 .ge (.int a) (.int b) = some (.bl (decide (b ≤ a)), false) := rfl
@[simp] theorem o_inn : op2 .inn x y = match inn x y with | some b => some (.bl b, false) | none => none := rfl
@[simp] theorem o_notin : op2 .notin x y = match inn x y with | some b => some (.bl !b, false) | none => none := rfl
@[simp] theorem o_idxl : op2 .idx (.lst xs) (.int a) = match atI xs a with | some d => some (d, false) | none => none := rfl
@[simp] theorem o_idxt : op2 .idx (.tup xs) (.int a) = match atI xs a with | some d => some (d, false) | none => none := rfl
@[simp] theorem o_min : op2 .min (.int a) (.int b) = some (.int (if b < a then b else a), false) := rfl
@[simp] theorem o_max : op2 .max (.int a) (.int b) = some (.int (if b > a then b else a), false) := rfl
@[simp] theorem eqG_int : eqG (.int a) (.int b) = some (a == b) := rfl
@[simp] theorem eqG_bl : eqG (.bl p) (.bl q) = some (p == q) := rfl
@[simp] theorem ord_lt : ordE .lt a b = some (decide (a < b)) := rfl
@[simp] theorem ord_le : ordE .le a b = some (decide (a ≤ b)) := rfl
@[simp] theorem ord_gt : ordE .gt a b = some (decide (b < a)) := rfl
@[simp] theorem ord_ge : ordE .ge a b = some (decide (b ≤ a)) := rfl
@[simp] theorem tr_bl : truth (.bl p) = some p := rfl
@[simp] theorem tr_int : truth (.int a) = some (a != 0) := rfl
@[simp] theorem tr_non : truth .non = some false := rfl
@[simp] theorem tr_tup : truth (.tup xs) = some (!xs.isEmpty) := rfl
@[simp] theorem tr_lst : truth (.lst xs) = some (!xs.isEmpty) := rfl
@[simp] theorem it_l : items (.lst xs) = some xs := rfl
@[simp] theorem it_t : items (.tup xs) = some xs := rfl
@[simp] theorem cutE_l {lo hi : Option Int} : cutE (.lst xs) lo hi = some (.lst (cut xs lo hi), true) := rfl
@[simp] theorem cutE_t {lo hi : Option Int} : cutE (.tup xs) lo hi = some (.tup (cut xs lo hi), false) := rfl
end
@[simp] theorem ints_nil : intsD [] = some [] := rfl
@[simp] theorem ints_cons {a : Int} {r : List D} : intsD (.int a :: r) = (intsD r).map (a :: ·) := rfl
@[simp] theorem ints_map {ns : List Int} : intsD (ns.map D.int) = some ns := by
  induction ns with
  | nil => rfl
  | cons n ns ih => rw [List.map_cons, ints_cons, ih]; rfl
@[simp] theorem bls_nil : bls [] = some [] := rfl
@[simp] theorem bls_cons {a : Bool} {r : List D} : bls (.bl a :: r) = (bls r).map (a :: ·) := rfl
@[simp] theorem bls_map {ns : List Bool} : bls (ns.map D.bl) = some ns := by
  induction ns with
  | nil => rfl
  | cons n ns ih => rw [List.map_cons, bls_cons, ih]; rfl
theorem sortD_ints {ns : List Int} {xs : List D} (h : intsD xs = some ns) : sortD xs = some ((sortI ns).map D.int) := by unfold sortD; rw [h]
/-! ### bounds of bits, for products -/
class Bits (x : Int) (n : outParam Nat) : Prop where
  lt : x.natAbs < 2 ^ n
theorem Bits.mono {x : Int} {n m : Nat} (h : x.natAbs < 2 ^ n) (l : n ≤ m) : x.natAbs < 2 ^ m := Nat.lt_of_lt_of_le h (Nat.pow_le_pow_right (by omega) l)
instance {x y : Int} {n m : Nat} [hx : Bits x n] [hy : Bits y m] : Bits (x * y) (n + m) := ⟨by
  rw [Int.natAbs_mul, Nat.pow_add]
  exact Nat.mul_lt_mul_of_lt_of_le hx.lt (Nat.le_of_lt hy.lt) (Nat.pow_pos (by omega))⟩
theorem two_pow_max (n m : Nat) : 2 ^ n + 2 ^ m ≤ 2 ^ (max n m + 1) := by
  have h1 : 2 ^ n ≤ 2 ^ (max n m) := Nat.pow_le_pow_right (by omega) (Nat.le_max_left _ _)
  have h2 : 2 ^ m ≤ 2 ^ (max n m) := Nat.pow_le_pow_right (by omega) (Nat.le_max_right _ _)
  rw [Nat.pow_succ]; omega
instance {x y : Int} {n m : Nat} [hx : Bits x n] [hy : Bits y m] : Bits (x + y) (max n m + 1) := ⟨by
  have := two_pow_max n m
  have h1 := hx.lt
  have h2 := hy.lt
  omega⟩
instance {x y : Int} {n m : Nat} [hx : Bits x n] [hy : Bits y m] : Bits (x - y) (max n m + 1) := ⟨by
  have := two_pow_max n m
  have h1 := hx.lt
  have h2 := hy.lt
  omega⟩
instance {x : Int} {n : Nat} [hx : Bits x n] : Bits (-x) n := ⟨by rw [Int.natAbs_neg]; exact hx.lt⟩
instance {k : Nat} : Bits (no_index (@OfNat.ofNat Int k (@instOfNat k))) (Nat.log2 k + 1) := ⟨by
  show Int.natAbs (k : Int) < _
  rw [Int.natAbs_natCast]
  by_cases h : k = 0
  · subst h; exact Nat.pow_pos (by omega)
  · exact (Nat.log2_lt h).mp (Nat.lt_succ_self _)⟩
theorem bd_log {x : Int} {n : Nat} (h : x.natAbs < 2 ^ n) : x.natAbs.log2 ≤ n := by
  by_cases h0 : x.natAbs = 0
  · rw [h0]; simp
  · have := (Nat.log2_lt h0).mpr h
    omega
@[simp] theorem mulOk_bd {x y : Int} {n m : Nat} [hx : Bits x n] [hy : Bits y m] (h : n + m < 1000000) : mulOk x y = true := by
  unfold mulOk
  have h1 := bd_log hx.lt
  have h2 := bd_log hy.lt
  rw [decide_eq_true (p := x.natAbs.log2 + y.natAbs.log2 < 1000000) (by omega)]
  simp
@[simp] theorem divOk_bd {y : Int} {m : Nat} [hy : Bits y m] (h0 : y ≠ 0) (h : m < 9000) : divOk y = true := by
  unfold divOk
  have h2 := bd_log hy.lt
  rw [decide_eq_true h0, decide_eq_true (p := y.natAbs.log2 < 9000) (by omega)]
  rfl
theorem mulOk_l {x y : Int} (h : x.natAbs < 18446744073709551616) : mulOk x y = true := by
  unfold mulOk; rw [decide_eq_true h]; rfl
theorem mulOk_r {x y : Int} (h : y.natAbs < 18446744073709551616) : mulOk x y = true := by
  unfold mulOk; rw [decide_eq_true h]; simp
end G
end

section
set_option maxHeartbeats 1000000
namespace G
def i_is_integer : Nat := 0
def i_is_whole : Nat := 1
def i_is_tuple_of : Nat := 2
def i_divisor_of : Nat := 3
def i_is_side : Nat := 5
def i_fits_triangle : Nat := 6
def i_need_triangle : Nat := 7
def i_need_side : Nat := 8
def i_is_triangle : Nat := 11
def i_triangle_of : Nat := 13
def i__law_cup : Nat := 17
def i__law_roll : Nat := 18
def i__law_sort : Nat := 20
def i__law_like : Nat := 21
def i__law_divisor : Nat := 22
def i__law_least : Nat := 23
def i__law_triangle : Nat := 24
def i__law_right : Nat := 28
def i_need_whole : Nat := 31
def i_root_in : Nat := 32
def i_is_square_in : Nat := 33
def i_lowest : Nat := 34
def i__law_root : Nat := 51
def f_is_integer : Fn := ⟨1, 1, false, [
  .ret (.and (.op1 (.isTy 0) (.v 0)) (.not (.op1 (.isTy 1) (.v 0))))]⟩
def f_is_whole : Fn := ⟨3, 3, false, [
  .ret (.and (.call i_is_integer [(.v 0)]) (.chain .le .le (.v 1) (.v 0) (.v 2)))]⟩
def f_need_whole : Fn := ⟨3, 3, false, [
  .ifs (.not (.e (.call i_is_whole [(.v 0), (.v 1), (.v 2)]))) [.rais 3 [(.c (.str (PySem.Str.ofString "no such number")))]] []]⟩
def f_is_tuple_of : Fn := ⟨3, 3, false, [
  .ret (.and (.op1 (.isTy 3) (.v 0)) (.chain .le .le (.v 1) (.op1 .len (.v 0)) (.v 2)))]⟩
def f_divisor_of : Fn := ⟨2, 2, false, [
  .par [0, 1] [(.op1 .abs (.v 0)), (.op1 .abs (.v 1))],
  .whil (.b (.op2 .ne (.v 1) (.c (.int 0)))) [.par [0, 1] [(.v 1), (.op2 .mod (.v 0) (.v 1))]],
  .retV 0]⟩
def f_root_in : Fn := ⟨1, 4, false, [
  .par [1, 2] [(.c (.int 0)), (.c (.int 1))],
  .whil (.b (.op2 .le (.op2 .mul (.v 2) (.v 2)) (.v 0))) [.set (.n 2) (.op2 .mul (.c (.int 2)) (.v 2))],
  .whil (.b (.op2 .gt (.op2 .sub (.v 2) (.v 1)) (.c (.int 1)))) [.set (.n 3) (.op2 .fdiv (.op2 .add (.v 1) (.v 2)) (.c (.int 2))), .ifs (.b (.op2 .le (.op2 .mul (.v 3) (.v 3)) (.v 0))) [.set (.n 1) (.v 3)] [.set (.n 2) (.v 3)]],
  .retV 1]⟩
def f_is_square_in : Fn := ⟨1, 1, false, [
  .ret (.and (.op2 .ge (.v 0) (.c (.int 0))) (.op2 .eq (.op2 .pow (.call i_root_in [(.v 0)]) (.c (.int 2))) (.v 0)))]⟩
def f_lowest : Fn := ⟨2, 3, false, [
  .set (.n 2) (.op2 .mul (.call i_divisor_of [(.v 0), (.v 1)]) (.ifx (.b (.op2 .gt (.v 1) (.c (.int 0)))) (.c (.int 1)) (.op1 .neg (.c (.int 1))))),
  .ret (.tup [(.op2 .fdiv (.v 0) (.v 2)), (.op2 .fdiv (.v 1) (.v 2))])]⟩
def f_is_side : Fn := ⟨1, 1, false, [
  .ret (.call i_is_whole [(.v 0), (.c (.int 1)), (.c (.int 1000000000))])]⟩
def f_fits_triangle : Fn := ⟨1, 2, false, [
  .ifs (.or (.not (.e (.call i_is_tuple_of [(.v 0), (.c (.int 3)), (.c (.int 3))]))) (.not (.e (.op1 .all (.comp [1] (.call i_is_side [(.v 1)]) (.n 1) (.e (.v 0)) [] []))))) [.ret (.c (.bl false))] [],
  .ret (.chain3 .le .le .lt (.op2 .idx (.v 0) (.c (.int 0))) (.op2 .idx (.v 0) (.c (.int 1))) (.op2 .idx (.v 0) (.c (.int 2))) (.op2 .add (.op2 .idx (.v 0) (.c (.int 0))) (.op2 .idx (.v 0) (.c (.int 1)))))]⟩
def f_need_triangle : Fn := ⟨1, 1, false, [
  .ifs (.not (.e (.call i_fits_triangle [(.v 0)]))) [.rais 1 [(.c (.str (PySem.Str.ofString "no triangle")))]] []]⟩
def f_need_side : Fn := ⟨1, 1, false, [
  .ifs (.not (.e (.call i_is_side [(.v 0)]))) [.rais 2 [(.c (.str (PySem.Str.ofString "no side")))]] []]⟩
def f_is_triangle : Fn := ⟨1, 1, false, [
  .ret (.call i_fits_triangle [(.v 0)])]⟩
def f_triangle_of : Fn := ⟨3, 4, false, [
  .expr (.call i_need_side [(.v 0)]),
  .expr (.call i_need_side [(.v 1)]),
  .expr (.call i_need_side [(.v 2)]),
  .set (.n 3) (.op1 .tuple (.op1 .sorted (.lst [(.v 0), (.v 1), (.v 2)]))),
  .ret (.ifx (.e (.call i_fits_triangle [(.v 3)])) (.v 3) (.c .non))]⟩
def f__law_cup : Fn := ⟨1, 2, false, [
  .set (.n 1) (.op1 .abs (.op2 .idx (.op2 .add (.op1 .list (.v 0)) (.lst [(.c (.int 0))])) (.c (.int 0)))),
  .ret (.lst [(.ifx (.b (.op2 .ge (.v 1) (.op2 .pow (.c (.int 10)) (.c (.int 18))))) (.op2 .fdiv (.v 1) (.c (.int 73))) (.c (.int 0))), (.op2 .add (.op2 .mod (.op1 .int (.op2 .add (.op2 .mul (.v 1) (.c (.int 283))) (.c (.int 3907)))) (.c (.int 2077503167))) (.c (.int 167)))])]⟩
def f__law_roll : Fn := ⟨2, 4, true, [
  .ifs (.b (.op2 .gt (.op2 .idx (.v 0) (.c (.int 0))) (.c (.int 0)))) [.set (.n 2) (.op2 .mod (.op1 .int (.op2 .idx (.v 0) (.c (.int 0)))) (.v 1)), .sub 0 (.c (.int 0)) (.op2 .fdiv (.op2 .idx (.v 0) (.c (.int 0))) (.v 1)), .retV 2] [],
  .sub 0 (.c (.int 1)) (.op2 .mod (.op1 .int (.op2 .add (.op2 .mul (.op2 .idx (.v 0) (.c (.int 1))) (.c (.int 31051))) (.c (.int 7993)))) (.c (.int 2147483543))),
  .set (.n 3) (.op2 .mod (.op1 .int (.op2 .mul (.op2 .idx (.v 0) (.c (.int 1))) (.op2 .add (.op2 .idx (.v 0) (.c (.int 1))) (.c (.int 229))))) (.c (.int 2147483587))),
  .ret (.op2 .mod (.op1 .int (.op2 .fdiv (.v 3) (.c (.int 821)))) (.v 1))]⟩
def f__law_sort : Fn := ⟨1, 1, false, [
  .ifs (.or (.b (.op1 .isNone (.v 0))) (.e (.op1 (.isTy 1) (.v 0)))) [.ret (.ifx (.b (.op1 .isNone (.v 0))) (.c (.int 0)) (.c (.int 1)))] [],
  .ifs (.or (.e (.op1 (.isTy 0) (.v 0))) (.e (.op1 (.isTy 2) (.v 0)))) [.ret (.ifx (.e (.op1 (.isTy 0) (.v 0))) (.c (.int 2)) (.c (.int 3)))] [],
  .ret (.ifx (.e (.op1 (.isTy 3) (.v 0))) (.c (.int 4)) (.ifx (.e (.op1 (.isTy 4) (.v 0))) (.c (.int 5)) (.c (.int 6))))]⟩
def f__law_like : Fn := ⟨2, 5, false, [
  .set (.n 2) (.call i__law_sort [(.v 1)]),
  .ifs (.or (.b (.op2 .ne (.call i__law_sort [(.v 0)]) (.v 2))) (.b (.op2 .eq (.v 2) (.c (.int 6))))) [.ret (.c (.bl false))] [],
  .ifs (.b (.op2 .inn (.v 2) (.tup [(.c (.int 4)), (.c (.int 5))]))) [.ret (.and (.op2 .eq (.op1 .len (.v 0)) (.op1 .len (.v 1))) (.op2 .eq (.comp [3, 4] (.c (.int 1)) (.t [(.n 3), (.n 4)]) (.zip [(.v 0), (.v 1)]) [(.not (.e (.call i__law_like [(.v 3), (.v 4)])))] []) (.lst [])))] [],
  .ret (.op2 .eq (.v 0) (.v 1))]⟩
def f__law_divisor : Fn := ⟨2, 2, false, [
  .par [0, 1] [(.op1 .abs (.v 0)), (.op1 .abs (.v 1))],
  .whil (.b (.op2 .ne (.v 1) (.c (.int 0)))) [.par [0, 1] [(.v 1), (.op2 .mod (.op1 .int (.v 0)) (.v 1))]],
  .retV 0]⟩
def f__law_root : Fn := ⟨1, 4, false, [
  .par [1, 2] [(.c (.int 0)), (.c (.int 1))],
  .whil (.b (.op2 .le (.op2 .mul (.v 2) (.v 2)) (.v 0))) [.set (.n 2) (.op2 .mul (.v 2) (.c (.int 2)))],
  .whil (.b (.op2 .gt (.op2 .sub (.v 2) (.v 1)) (.c (.int 1)))) [.set (.n 3) (.op1 .int (.op2 .fdiv (.op2 .add (.v 1) (.v 2)) (.c (.int 2)))), .ifs (.b (.op2 .le (.op2 .mul (.v 3) (.v 3)) (.v 0))) [.set (.n 1) (.v 3)] [.set (.n 2) (.v 3)]],
  .retV 1]⟩
def f__law_least : Fn := ⟨2, 4, false, [
  .set (.n 2) (.ifx (.b (.op2 .lt (.v 1) (.c (.int 0)))) (.op1 .neg (.c (.int 1))) (.c (.int 1))),
  .set (.n 3) (.op2 .max (.c (.int 1)) (.call i__law_divisor [(.v 0), (.v 1)])),
  .ret (.tup [(.op1 .int (.op2 .fdiv (.op2 .mul (.v 2) (.v 0)) (.v 3))), (.op1 .int (.op2 .fdiv (.op2 .mul (.v 2) (.v 1)) (.v 3)))])]⟩
def f__law_triangle : Fn := ⟨2, 10, true, [
  .par [2, 3] [(.callr i__law_roll 0 [(.c (.int 4))]), (.v 1)],
  .set (.n 4) (.op2 .add (.c (.int 1)) (.callr i__law_roll 0 [(.v 3)])),
  .set (.n 5) (.op2 .add (.c (.int 1)) (.callr i__law_roll 0 [(.v 3)])),
  .ifs (.b (.op2 .eq (.v 2) (.c (.int 0)))) [.ret (.op1 .tuple (.op1 .sorted (.lst [(.v 4), (.v 4), (.op2 .add (.c (.int 1)) (.callr i__law_roll 0 [(.op2 .min (.v 3) (.op2 .sub (.op2 .mul (.c (.int 2)) (.v 4)) (.c (.int 1))))]))])))] [],
  .ifs (.and (.b (.op2 .eq (.v 2) (.c (.int 1)))) (.b (.op2 .ge (.v 3) (.c (.int 5))))) [.set (.n 6) (.op2 .add (.c (.int 1)) (.callr i__law_roll 0 [(.op1 .int (.op2 .fdiv (.v 3) (.c (.int 5))))])), .ret (.tup [(.op2 .mul (.c (.int 3)) (.v 6)), (.op2 .mul (.c (.int 4)) (.v 6)), (.op2 .mul (.c (.int 5)) (.v 6))])] [],
  .par [7, 8] [(.op2 .add (.op1 .abs (.op2 .sub (.v 4) (.v 5))) (.c (.int 1))), (.op2 .min (.v 3) (.op2 .sub (.op2 .add (.v 4) (.v 5)) (.c (.int 1))))],
  .set (.n 9) (.op2 .add (.v 7) (.callr i__law_roll 0 [(.op2 .max (.c (.int 1)) (.op2 .add (.op2 .sub (.v 8) (.v 7)) (.c (.int 1))))])),
  .ret (.op1 .tuple (.op1 .sorted (.lst [(.v 4), (.v 5), (.v 9)])))]⟩
def f__law_right : Fn := ⟨2, 2, false, [
  .ret (.op1 .tuple (.op1 .sorted (.lst [(.op2 .sub (.op2 .mul (.v 0) (.v 0)) (.op2 .mul (.v 1) (.v 1))), (.op2 .mul (.op2 .mul (.c (.int 2)) (.v 0)) (.v 1)), (.op2 .add (.op2 .mul (.v 0) (.v 0)) (.op2 .mul (.v 1) (.v 1)))])))]⟩
variable {T : Table}
/-! ### numbers and triangles -/
theorem r_is_integer [Has T i_is_integer f_is_integer] (k : Nat) (d : D) : run T (k + 1) i_is_integer [.v d] = match d with | .int _ => .ok (.bl true, false) .non | .fn _ => .no | .scr _ => .no | _ => .ok (.bl false, false) .non := by
  rw [run_succ]
  cases d <;> simp [f_is_integer, argsOk]
@[simp] theorem r_is_integer_i [Has T i_is_integer f_is_integer] {k : Nat} {a : Int} : run T (k + 1) i_is_integer [.v (.int a)] = .ok (.bl true, false) .non := r_is_integer k _
@[simp] theorem r_is_whole [Has T i_is_integer f_is_integer] [Has T i_is_whole f_is_whole] {k : Nat} {a lo hi : Int} : run T (k + 2) i_is_whole [.v (.int a), .v (.int lo), .v (.int hi)] = .ok (.bl (decide (lo ≤ a) && decide (a ≤ hi)), false) .non := by
  rw [run_succ]
  simp [f_is_whole, argsOk]
  by_cases h : lo ≤ a <;> simp [h]
@[simp] theorem r_need_whole [Has T i_is_integer f_is_integer] [Has T i_is_whole f_is_whole] [Has T i_need_whole f_need_whole] {k : Nat} {a lo hi : Int} (h1 : lo ≤ a) (h2 : a ≤ hi) : run T (k + 3) i_need_whole [.v (.int a), .v (.int lo), .v (.int hi)] = .ok (.non, false) .non := by
  rw [run_succ]
  simp [f_need_whole, argsOk, h1, h2]
@[simp] theorem r_is_tuple_of [Has T i_is_tuple_of f_is_tuple_of] {k : Nat} {xs : List D} {lo hi : Int} : run T (k + 1) i_is_tuple_of [.v (.tup xs), .v (.int lo), .v (.int hi)] = .ok (.bl (decide (lo ≤ (xs.length : Int)) && decide ((xs.length : Int) ≤ hi)), false) .non := by
  rw [run_succ]
  simp [f_is_tuple_of, argsOk]
  by_cases h : lo ≤ (xs.length : Int) <;> simp [h]
@[simp] theorem r_is_side [Has T i_is_integer f_is_integer] [Has T i_is_whole f_is_whole] [Has T i_is_side f_is_side] {k : Nat} {a : Int} : run T (k + 3) i_is_side [.v (.int a)] = .ok (.bl (decide (1 ≤ a) && decide (a ≤ 1000000000)), false) .non := by
  rw [run_succ]
  simp [f_is_side, argsOk]
@[simp] theorem r_need_side [Has T i_is_integer f_is_integer] [Has T i_is_whole f_is_whole] [Has T i_is_side f_is_side] [Has T i_need_side f_need_side] {k : Nat} {a : Int} (h1 : 1 ≤ a) (h2 : a ≤ 1000000000) : run T (k + 4) i_need_side [.v (.int a)] = .ok (.non, false) .non := by
  rw [run_succ]
  simp [f_need_side, argsOk, h1, h2]
/-- three sides of a triangle, the least first -/
structure Tri (a b c : Int) : Prop where
  a1 : 1 ≤ a
  ab : a ≤ b
  bc : b ≤ c
  lt : c < a + b
  c9 : c ≤ 1000000000
def tri (a b c : Int) : D := .tup [.int a, .int b, .int c]
@[simp] theorem r_fits_triangle [Has T i_is_integer f_is_integer] [Has T i_is_whole f_is_whole] [Has T i_is_side f_is_side] [Has T i_is_tuple_of f_is_tuple_of] [Has T i_fits_triangle f_fits_triangle] {k : Nat} {a b c : Int} (h : Tri a b c) : run T (k + 4) i_fits_triangle [.v (.tup [.int a, .int b, .int c])] = .ok (.bl true, false) .non := by
  obtain ⟨h1, h2, h3, h4, h5⟩ := h
  have e1 : a ≤ 1000000000 := by omega
  have e2 : 1 ≤ b := by omega
  have e3 : b ≤ 1000000000 := by omega
  have e4 : 1 ≤ c := by omega
  rw [run_succ]
  simp [f_fits_triangle, argsOk, turns, atI, ixN, *, line]
@[simp] theorem r_need_triangle [Has T i_is_integer f_is_integer] [Has T i_is_whole f_is_whole] [Has T i_is_side f_is_side] [Has T i_is_tuple_of f_is_tuple_of] [Has T i_fits_triangle f_fits_triangle] [Has T i_need_triangle f_need_triangle] {k : Nat} {a b c : Int} (h : Tri a b c) : run T (k + 5) i_need_triangle [.v (.tup [.int a, .int b, .int c])] = .ok (.non, false) .non := by
  rw [run_succ]
  simp [f_need_triangle, argsOk, h]
@[simp] theorem r_is_triangle [Has T i_is_integer f_is_integer] [Has T i_is_whole f_is_whole] [Has T i_is_side f_is_side] [Has T i_is_tuple_of f_is_tuple_of] [Has T i_fits_triangle f_fits_triangle] [Has T i_is_triangle f_is_triangle] {k : Nat} {a b c : Int} (h : Tri a b c) : run T (k + 5) i_is_triangle [.v (.tup [.int a, .int b, .int c])] = .ok (.bl true, false) .non := by
  rw [run_succ]
  simp [f_is_triangle, argsOk, h]
/-! ### common divisors -/
def gc (a b : Int) : Int := (Int.gcd a b : Int)
theorem gcd_loop (cal : Call) : ∀ (n : Nat) (a b : Int), 0 ≤ a → 0 ≤ b → b ≤ n →
   whileS (evalT cal (.b (.op2 .ne (.v 1) (.c (.int 0))))) (execs cal [.par [0, 1] [(.v 1), (.op2 .mod (.v 0) (.v 1))]]) [.v (.int a), .v (.int b)] = .nx [.v (.int (gc a b)), .v (.int 0)] := by
  intro n
  induction n with
  | zero =>
    intro a b ha hb h
    have : b = 0 := by omega
    subst this
    rw [whileS_eq]
    simp [gc]
    omega
  | succ n ih =>
    intro a b ha hb h
    rw [whileS_eq]
    by_cases hb0 : b = 0
    · subst hb0; simp [gc]; omega
    · have h1 := Int.emod_nonneg a hb0
      have h2 := Int.emod_lt_of_pos a (show 0 < b by omega)
      have e := ih b (a % b) hb h1 (by omega)
      have hg : gc b (a % b) = gc a b := by unfold gc; rw [Int.emod_def, Int.gcd_sub_mul_left_right, Int.gcd_comm]
      simp [hb0, Int.fmod_eq_emod_of_nonneg _ hb]
      rw [hg] at e
      simpa using e
theorem gc_abs (a b : Int) : gc (if a < 0 then -a else a) (if b < 0 then -b else b) = gc a b := by
  unfold gc; split <;> split <;> simp
@[simp] theorem r_divisor_of [Has T i_divisor_of f_divisor_of] {k : Nat} {a b : Int} : run T (k + 1) i_divisor_of [.v (.int a), .v (.int b)] = .ok (.int (gc a b), false) .non := by
  rw [run_succ]
  have e := gcd_loop (run T k) (Int.natAbs b) (if a < 0 then -a else a) (if b < 0 then -b else b) (by split <;> omega) (by split <;> omega) (by split <;> omega)
  rw [gc_abs] at e
  simp [f_divisor_of, argsOk]
  rw [e]
  simp
theorem gcd_loopL (cal : Call) : ∀ (n : Nat) (a b : Int), 0 ≤ a → 0 ≤ b → b ≤ n →
   whileS (evalT cal (.b (.op2 .ne (.v 1) (.c (.int 0))))) (execs cal [.par [0, 1] [(.v 1), (.op2 .mod (.op1 .int (.v 0)) (.v 1))]]) [.v (.int a), .v (.int b)] = .nx [.v (.int (gc a b)), .v (.int 0)] := by
  intro n
  induction n with
  | zero =>
    intro a b ha hb h
    have : b = 0 := by omega
    subst this
    rw [whileS_eq]
    simp [gc]
    omega
  | succ n ih =>
    intro a b ha hb h
    rw [whileS_eq]
    by_cases hb0 : b = 0
    · subst hb0; simp [gc]; omega
    · have h1 := Int.emod_nonneg a hb0
      have h2 := Int.emod_lt_of_pos a (show 0 < b by omega)
      have e := ih b (a % b) hb h1 (by omega)
      have hg : gc b (a % b) = gc a b := by unfold gc; rw [Int.emod_def, Int.gcd_sub_mul_left_right, Int.gcd_comm]
      simp [hb0, Int.fmod_eq_emod_of_nonneg _ hb]
      rw [hg] at e
      simpa using e
@[simp] theorem r__law_divisor [Has T i__law_divisor f__law_divisor] {k : Nat} {a b : Int} : run T (k + 1) i__law_divisor [.v (.int a), .v (.int b)] = .ok (.int (gc a b), false) .non := by
  rw [run_succ]
  have e := gcd_loopL (run T k) (Int.natAbs b) (if a < 0 then -a else a) (if b < 0 then -b else b) (by split <;> omega) (by split <;> omega) (by split <;> omega)
  rw [gc_abs] at e
  simp [f__law_divisor, argsOk]
  rw [e]
  simp
/-! ### fractions in lowest terms -/
def lo1 (a b : Int) : Int := if 0 < b then a / gc a b else -(a / gc a b)
def lo2 (a b : Int) : Int := if 0 < b then b / gc a b else -(b / gc a b)
def fr (p q : Int) : D := .tup [.int p, .int q]
theorem gc_nonneg (a b : Int) : 0 ≤ gc a b := Int.natCast_nonneg _
theorem gc_dvd1 (a b : Int) : gc a b ∣ a := Int.gcd_dvd_left ..
theorem gc_dvd2 (a b : Int) : gc a b ∣ b := Int.gcd_dvd_right ..
theorem gc_pos {a b : Int} (h : b ≠ 0) : 0 < gc a b := by
  have h1 := gc_nonneg a b
  by_cases e : gc a b = 0
  · have := gc_dvd2 a b
    rw [e] at this
    exact absurd (Int.zero_dvd.mp this) h
  · omega
theorem gc_le {a b : Int} (h : b ≠ 0) : (gc a b).natAbs ≤ b.natAbs := Nat.le_of_dvd (by omega) (Int.natAbs_dvd_natAbs.mpr (gc_dvd2 a b))
theorem gc_bits {a b : Int} {m : Nat} (h : b ≠ 0) (hb : b.natAbs < 2 ^ m) : (gc a b).natAbs < 2 ^ m := Nat.lt_of_le_of_lt (gc_le h) hb
/-- the two numbers, times their divisor -/
theorem lo_mul {a b : Int} (h : b ≠ 0) : ∃ g, g ≠ 0 ∧ a = lo1 a b * g ∧ b = lo2 a b * g := by
  have hg := gc_pos (a := a) h
  unfold lo1 lo2
  by_cases hb : 0 < b
  · rw [if_pos hb, if_pos hb]
    exact ⟨gc a b, by omega, (Int.ediv_mul_cancel (gc_dvd1 a b)).symm, (Int.ediv_mul_cancel (gc_dvd2 a b)).symm⟩
  · rw [if_neg hb, if_neg hb]
    refine ⟨-gc a b, by omega, ?_, ?_⟩
    · rw [Int.neg_mul_neg, Int.ediv_mul_cancel (gc_dvd1 a b)]
    · rw [Int.neg_mul_neg, Int.ediv_mul_cancel (gc_dvd2 a b)]
theorem lo2_pos {a b : Int} (h : b ≠ 0) : 0 < lo2 a b := by
  have hg := gc_pos (a := a) h
  have e := Int.ediv_mul_cancel (gc_dvd2 a b)
  unfold lo2
  by_cases hb : 0 < b
  · rw [if_pos hb]
    generalize b / gc a b = q at e ⊢
    refine Classical.byContradiction fun n => ?_
    have : q * gc a b ≤ 0 := Int.mul_nonpos_of_nonpos_of_nonneg (by omega) (by omega)
    omega
  · rw [if_neg hb]
    generalize b / gc a b = q at e ⊢
    refine Classical.byContradiction fun n => ?_
    have : 0 ≤ q * gc a b := Int.mul_nonneg (by omega) (by omega)
    omega
theorem lo_cop {a b : Int} (h : b ≠ 0) : Int.gcd (lo1 a b) (lo2 a b) = 1 := by
  have hg := gc_pos (a := a) h
  have e : Int.gcd (a / gc a b) (b / gc a b) = 1 := by
    have := Int.gcd_ediv_gcd_ediv_gcd (i := a) (j := b) (by unfold gc at hg; omega)
    exact this
  unfold lo1 lo2
  by_cases hb : 0 < b
  · rw [if_pos hb, if_pos hb, e]
  · rw [if_neg hb, if_neg hb, Int.gcd_neg, Int.neg_gcd, e]
theorem dvd_cop {q p s : Int} (h : q ∣ p * s) (hc : Int.gcd p q = 1) : q ∣ s := by
  rw [← Int.natAbs_dvd_natAbs] at h ⊢
  rw [Int.natAbs_mul, Nat.mul_comm] at h
  exact Nat.Coprime.dvd_of_dvd_mul_right (show Nat.gcd q.natAbs p.natAbs = 1 by rw [Nat.gcd_comm]; exact hc) h
/-- coprime pairs with positive second are told by their ratio -/
theorem cop_uniq {p q r s : Int} (hq : 0 < q) (hs : 0 < s) (h1 : Int.gcd p q = 1) (h2 : Int.gcd r s = 1) (e : p * s = r * q) : p = r ∧ q = s := by
  have d1 : q ∣ s := by
    have : q ∣ p * s := ⟨r, by rw [e, Int.mul_comm]⟩
    exact dvd_cop this h1
  have d2 : s ∣ q := by
    have : s ∣ r * q := ⟨p, by rw [← e, Int.mul_comm]⟩
    exact dvd_cop this h2
  have eq : q = s := Int.dvd_antisymm (by omega) (by omega) d1 d2
  subst eq
  exact ⟨Int.eq_of_mul_eq_mul_right (by omega) e, rfl⟩
theorem lo_eq {a b c d : Int} (hb : b ≠ 0) (hd : d ≠ 0) (e : a * d = c * b) : lo1 a b = lo1 c d ∧ lo2 a b = lo2 c d := by
  refine cop_uniq (lo2_pos hb) (lo2_pos hd) (lo_cop hb) (lo_cop hd) ?_
  obtain ⟨g, hg, e1, e2⟩ := lo_mul (a := a) hb
  obtain ⟨g', hg', e3, e4⟩ := lo_mul (a := c) hd
  generalize lo1 a b = p at *
  generalize lo2 a b = q at *
  generalize lo1 c d = r at *
  generalize lo2 c d = s at *
  subst e1 e2 e3 e4
  have : (p * s) * (g * g') = (r * q) * (g * g') := by grind
  exact Int.eq_of_mul_eq_mul_right (by simp [hg, hg']) this
theorem lo_of {a b p q : Int} (hb : b ≠ 0) (hq : 0 < q) (hc : Int.gcd p q = 1) (e : a * q = p * b) : lo1 a b = p ∧ lo2 a b = q := by
  refine cop_uniq (lo2_pos hb) hq (lo_cop hb) hc ?_
  obtain ⟨g, hg, e1, e2⟩ := lo_mul (a := a) hb
  generalize lo1 a b = r at *
  generalize lo2 a b = s at *
  subst e1 e2
  have : (r * q) * g = (p * s) * g := by grind
  exact Int.eq_of_mul_eq_mul_right hg this
theorem lo_cross {a b : Int} (hb : b ≠ 0) : lo1 a b * b = a * lo2 a b := by
  obtain ⟨g, hg, e1, e2⟩ := lo_mul (a := a) hb
  generalize lo1 a b = r at *
  generalize lo2 a b = s at *
  subst e1 e2
  grind
instance {a b : Int} {n : Nat} [ha : Bits a n] : Bits (lo1 a b) n := ⟨by
  have h : (a / gc a b).natAbs ≤ a.natAbs := by
    have := Int.natAbs_ediv_le_natAbs a (gc a b)
    exact this
  have := ha.lt
  unfold lo1; split <;> omega⟩
instance {a b : Int} {n : Nat} [hb : Bits b n] : Bits (lo2 a b) n := ⟨by
  have h : (b / gc a b).natAbs ≤ b.natAbs := Int.natAbs_ediv_le_natAbs b (gc a b)
  have := hb.lt
  unfold lo2; split <;> omega⟩
theorem fdiv_gc {a b : Int} : a.fdiv (gc a b) = a / gc a b := Int.fdiv_eq_ediv_of_nonneg _ (gc_nonneg a b)
theorem fdiv_gc2 {a b : Int} : b.fdiv (gc a b) = b / gc a b := Int.fdiv_eq_ediv_of_nonneg _ (gc_nonneg a b)
theorem fdiv_neg_of {x g : Int} (h : g ∣ x) (hg : g ≠ 0) : x.fdiv (-g) = -(x / g) := by
  obtain ⟨y, rfl⟩ := h
  rw [Int.mul_ediv_cancel_left _ hg, show g * y = (-y) * (-g) by grind, Int.mul_fdiv_cancel _ (by omega)]
theorem r_lowest [Has T i_divisor_of f_divisor_of] [Has T i_lowest f_lowest] {k : Nat} {a b : Int} {m : Nat} [hbits : Bits b m] (hb : b ≠ 0) (hm : m < 8999) : run T (k + 2) i_lowest [.v (.int a), .v (.int b)] = .ok (.tup [.int (lo1 a b), .int (lo2 a b)], false) .non := by
  rw [run_succ]
  have hg := gc_pos (a := a) hb
  have b1 : Bits (gc a b) m := ⟨gc_bits hb hbits.lt⟩
  have b2 : Bits (-gc a b) m := inferInstance
  by_cases h : 0 < b
  · have e1 : lo1 a b = a / gc a b := if_pos h
    have e2 : lo2 a b = b / gc a b := if_pos h
    have d1 : divOk (gc a b) = true := divOk_bd (by omega) (by omega)
    simp [f_lowest, argsOk, h, mulOk_r, d1, fdiv_gc, fdiv_gc2, e1, e2]
  · have e1 : lo1 a b = -(a / gc a b) := if_neg h
    have e2 : lo2 a b = -(b / gc a b) := if_neg h
    have d1 : divOk (-gc a b) = true := divOk_bd (by omega) (by omega)
    simp [f_lowest, argsOk, h, mulOk_r, d1, e1, e2, fdiv_neg_of (gc_dvd1 a b) (by omega), fdiv_neg_of (gc_dvd2 a b) (by omega)]
theorem r__law_least [Has T i__law_divisor f__law_divisor] [Has T i__law_least f__law_least] {k : Nat} {a b : Int} {m : Nat} [hbits : Bits b m] (hb : b ≠ 0) (hm : m < 8999) : run T (k + 2) i__law_least [.v (.int a), .v (.int b)] = .ok (.tup [.int (lo1 a b), .int (lo2 a b)], false) .non := by
  rw [run_succ]
  have hg := gc_pos (a := a) hb
  have b1 : Bits (gc a b) m := ⟨gc_bits hb hbits.lt⟩
  have d1 : divOk (gc a b) = true := divOk_bd (by omega) (by omega)
  have e0 : (if gc a b > 1 then gc a b else 1) = gc a b := by split <;> omega
  have e0' : (if 1 < gc a b then gc a b else 1) = gc a b := by split <;> omega
  by_cases h : b < 0
  · have e1 : lo1 a b = -(a / gc a b) := if_neg (by omega)
    have e2 : lo2 a b = -(b / gc a b) := if_neg (by omega)
    have n1 : (-a) / gc a b = -(a / gc a b) := Int.neg_ediv_of_dvd (gc_dvd1 a b)
    have n2 : (-b) / gc a b = -(b / gc a b) := Int.neg_ediv_of_dvd (gc_dvd2 a b)
    simp [f__law_least, argsOk, h, mulOk_l, d1, e0, e0', e1, e2, Int.fdiv_eq_ediv_of_nonneg _ (gc_nonneg a b), n1, n2]
  · have e1 : lo1 a b = a / gc a b := if_pos (by omega)
    have e2 : lo2 a b = b / gc a b := if_pos (by omega)
    simp [f__law_least, argsOk, h, mulOk_l, d1, e0, e0', e1, e2, Int.fdiv_eq_ediv_of_nonneg _ (gc_nonneg a b)]
end G
end

section
set_option maxHeartbeats 1000000
namespace G
variable {T : Table}
/-! ### roots -/
/-- the greatest integer whose square is at most n (0 for n below 0) -/
def IsRt (n r : Int) : Prop := 0 ≤ r ∧ r * r ≤ n ∧ n < (r + 1) * (r + 1)
theorem rt_ex (n : Int) (h : 0 ≤ n) : ∃ r, IsRt n r := by
  obtain ⟨k, rfl⟩ := Int.eq_ofNat_of_zero_le h
  clear h
  induction k with
  | zero => exact ⟨0, by omega, by omega, by omega⟩
  | succ k ih =>
    obtain ⟨r, h0, h1, h2⟩ := ih
    by_cases hk : (k : Int) + 1 < (r + 1) * (r + 1)
    · exact ⟨r, h0, by omega, by omega⟩
    · refine ⟨r + 1, by omega, by omega, ?_⟩
      have : (r + 1 + 1) * (r + 1 + 1) = (r + 1) * (r + 1) + 2 * (r + 1) + 1 := by grind
      omega
open Classical in
noncomputable def rt (n : Int) : Int := if h : 0 ≤ n then (rt_ex n h).choose else 0
theorem rt_spec {n : Int} (h : 0 ≤ n) : IsRt n (rt n) := by
  unfold rt; rw [dif_pos h]; exact (rt_ex n h).choose_spec
theorem rt_neg {n : Int} (h : n < 0) : rt n = 0 := by unfold rt; rw [dif_neg (by omega)]
theorem sq_lt {a b : Int} (ha : 0 ≤ a) (h : a < b) : a * a < b * b := by
  have h1 : a * a ≤ a * b := Int.mul_le_mul_of_nonneg_left (by omega) ha
  have h2 : a * b < b * b := Int.mul_lt_mul_of_pos_right h (by omega)
  omega
theorem sq_le {a b : Int} (ha : 0 ≤ a) (h : a ≤ b) : a * a ≤ b * b := by
  by_cases e : a = b
  · subst e; omega
  · have := sq_lt ha (show a < b by omega); omega
theorem sq_cancel {a b : Int} (ha : 0 ≤ a) (hb : 0 ≤ b) (h : a * a = b * b) : a = b := by
  rcases Int.lt_trichotomy a b with h1 | h1 | h1
  · have := sq_lt ha h1; omega
  · exact h1
  · have := sq_lt hb h1; omega
theorem rt_uniq {n r s : Int} (h1 : IsRt n r) (h2 : IsRt n s) : r = s := by
  obtain ⟨a0, a1, a2⟩ := h1
  obtain ⟨b0, b1, b2⟩ := h2
  rcases Int.lt_trichotomy r s with h | h | h
  · have := sq_le (show 0 ≤ r + 1 by omega) (show r + 1 ≤ s by omega); omega
  · exact h
  · have := sq_le (show 0 ≤ s + 1 by omega) (show s + 1 ≤ r by omega); omega
theorem rt_of {n r : Int} (h : IsRt n r) : rt n = r := rt_uniq (rt_spec (by
  obtain ⟨a0, a1, a2⟩ := h
  have := Int.mul_nonneg a0 a0
  omega)) h
theorem rt_nonneg (n : Int) : 0 ≤ rt n := by
  by_cases h : 0 ≤ n
  · exact (rt_spec h).1
  · rw [rt_neg (by omega)]; omega
theorem rt_sq {r : Int} (h : 0 ≤ r) : rt (r * r) = r := rt_of ⟨h, by omega, by
  have : (r + 1) * (r + 1) = r * r + 2 * r + 1 := by grind
  omega⟩
theorem rt_le {n : Int} (h : 0 ≤ n) : rt n ≤ n := by
  obtain ⟨a0, a1, a2⟩ := rt_spec h
  by_cases e : rt n = 0
  · omega
  · have : rt n * 1 ≤ rt n * rt n := Int.mul_le_mul_of_nonneg_left (by omega) a0
    omega
instance {n : Int} {m : Nat} [hn : Bits n m] : Bits (rt n) m := ⟨by
  have := hn.lt
  by_cases h : 0 ≤ n
  · have h1 := rt_le h
    have h2 := rt_nonneg n
    omega
  · rw [rt_neg (by omega)]; exact Nat.pow_pos (by omega)⟩
theorem bits_small {x : Int} {m : Nat} (h : x.natAbs < 2 ^ m) (hm : m < 400000) : mulOk x x = true := by
  haveI : Bits x m := ⟨h⟩
  exact mulOk_bd (by omega)
section
variable {cal : Call}
/-- high is doubled until its square is too great -/
theorem root_up {e : E} (he : ∀ ρ : Env, ∀ n lo hi : Int, evalE cal e [.v (.int n), .v (.int lo), .v (.int hi), .no] = .ok (.int (2 * hi), false) [.v (.int n), .v (.int lo), .v (.int hi), .no]) {n : Int} (h0 : 0 ≤ n) {m : Nat} (hm : n.natAbs < 2 ^ m) (hm2 : m < 300000) : ∀ (j : Nat) (hi : Int), 1 ≤ hi → hi ≤ 2 * n + 2 → (n + 1 - hi).toNat ≤ j →
    ∃ hi', 1 ≤ hi' ∧ n < hi' * hi' ∧ hi' ≤ 2 * n + 2 ∧ whileS (evalT cal (.b (.op2 .le (.op2 .mul (.v 2) (.v 2)) (.v 0)))) (execs cal [.set (.n 2) e]) [.v (.int n), .v (.int 0), .v (.int hi), .no] = .nx [.v (.int n), .v (.int 0), .v (.int hi'), .no] := by
  intro j
  induction j with
  | zero =>
    intro hi h1 h2 h3
    have hb : mulOk hi hi = true := bits_small (m := m + 2) (by rw [Nat.pow_add]; omega) (by omega)
    have hlt : n < hi * hi := by
      have : hi * 1 ≤ hi * hi := Int.mul_le_mul_of_nonneg_left (by omega) (by omega)
      omega
    refine ⟨hi, h1, hlt, h2, ?_⟩
    rw [whileS_eq]
    simp [hb, show ¬ hi * hi ≤ n by omega]
  | succ j ih =>
    intro hi h1 h2 h3
    have hb : mulOk hi hi = true := bits_small (m := m + 2) (by rw [Nat.pow_add]; omega) (by omega)
    by_cases hle : hi * hi ≤ n
    · have hh : hi * 1 ≤ hi * hi := Int.mul_le_mul_of_nonneg_left (by omega) (by omega)
      obtain ⟨hi', k1, k2, k3, k4⟩ := ih (2 * hi) (by omega) (by omega) (by omega)
      refine ⟨hi', k1, k2, k3, ?_⟩
      rw [whileS_eq]
      simp [hb, hle, he []]
      simpa using k4
    · refine ⟨hi, h1, by omega, h2, ?_⟩
      rw [whileS_eq]
      simp [hb, hle]
/-- the root lies between; halved until they are neighbours -/
theorem root_mid {e : E} (he : ∀ n lo hi : Int, ∀ x : S, evalE cal e [.v (.int n), .v (.int lo), .v (.int hi), x] = .ok (.int ((lo + hi) / 2), false) [.v (.int n), .v (.int lo), .v (.int hi), x]) {n : Int} (h0 : 0 ≤ n) {m : Nat} (hm : n.natAbs < 2 ^ m) (hm2 : m < 300000) : ∀ (j : Nat) (lo hi : Int) (x : S), (∀ d, x ≠ .ref d) → 0 ≤ lo → lo < hi → hi ≤ 2 * n + 2 → lo * lo ≤ n → n < hi * hi → (hi - lo).toNat ≤ j →
    ∃ y, whileS (evalT cal (.b (.op2 .gt (.op2 .sub (.v 2) (.v 1)) (.c (.int 1))))) (execs cal [.set (.n 3) e, .ifs (.b (.op2 .le (.op2 .mul (.v 3) (.v 3)) (.v 0))) [.set (.n 1) (.v 3)] [.set (.n 2) (.v 3)]]) [.v (.int n), .v (.int lo), .v (.int hi), x] = .nx [.v (.int n), .v (.int (rt n)), .v (.int (rt n + 1)), y] := by
  intro j
  induction j with
  | zero => intro lo hi x hx h1 h2 h3 h4 h5 h6; omega
  | succ j ih =>
    intro lo hi x hx h1 h2 h3 h4 h5 h6
    by_cases hd : hi - lo > 1
    · have hm1 : lo < (lo + hi) / 2 := by omega
      have hm3 : (lo + hi) / 2 < hi := by omega
      have hb : mulOk ((lo + hi) / 2) ((lo + hi) / 2) = true := bits_small (m := m + 2) (by rw [Nat.pow_add]; omega) (by omega)
      have hx' : ∀ e, ¬ x = .ref e := hx
      by_cases hle : ((lo + hi) / 2) * ((lo + hi) / 2) ≤ n
      · obtain ⟨y, e⟩ := ih ((lo + hi) / 2) hi (.v (.int ((lo + hi) / 2))) (by intro d h; cases h) (by omega) (by omega) h3 hle h5 (by omega)
        refine ⟨y, ?_⟩
        rw [whileS_eq]
        simp [show 1 < hi - lo by omega, he, hb, hle, hx']
        simpa using e
      · obtain ⟨y, e⟩ := ih lo ((lo + hi) / 2) (.v (.int ((lo + hi) / 2))) (by intro d h; cases h) h1 (by omega) (by omega) h4 (by omega) (by omega)
        refine ⟨y, ?_⟩
        rw [whileS_eq]
        simp [show 1 < hi - lo by omega, he, hb, hle, hx']
        simpa using e
    · have e1 : hi = lo + 1 := by omega
      subst e1
      have e2 : rt n = lo := rt_of ⟨h1, h4, h5⟩
      refine ⟨x, ?_⟩
      rw [whileS_eq, e2]
      simp [show ¬ 1 < lo + 1 - lo by omega]
end
@[simp] theorem r_root_in [Has T i_root_in f_root_in] {k : Nat} {n : Int} {m : Nat} [hn : Bits n m] (hm : m < 300000) : run T (k + 1) i_root_in [.v (.int n)] = .ok (.int (rt n), false) .non := by
  rw [run_succ]
  by_cases h0 : 0 ≤ n
  · obtain ⟨hi, k1, k2, k3, e1⟩ := root_up (cal := run T k) (e := .op2 .mul (.c (.int 2)) (.v 2)) (fun _ n lo hi => by simp [mulOk_l]) h0 hn.lt hm _ 1 (by omega) (by omega) (Nat.le_refl _)
    obtain ⟨y, e2⟩ := root_mid (cal := run T k) (e := .op2 .fdiv (.op2 .add (.v 1) (.v 2)) (.c (.int 2))) (fun n lo hi x => by simp (decide := true) [Int.fdiv_eq_ediv_of_nonneg]) h0 hn.lt hm _ 0 hi .no (by intro d h; cases h) (by omega) (by omega) k3 (by omega) k2 (Nat.le_refl _)
    simp [f_root_in, argsOk, e1, e2]
  · have e := rt_neg (n := n) (by omega)
    have w1 : whileS (evalT (run T k) (.b (.op2 .le (.op2 .mul (.v 2) (.v 2)) (.v 0)))) (execs (run T k) [.set (.n 2) (.op2 .mul (.c (.int 2)) (.v 2))]) [.v (.int n), .v (.int 0), .v (.int 1), .no] = .nx [.v (.int n), .v (.int 0), .v (.int 1), .no] := by
      rw [whileS_eq]; simp [mulOk_l, show ¬ 1 ≤ n by omega]
    have w2 : whileS (evalT (run T k) (.b (.op2 .gt (.op2 .sub (.v 2) (.v 1)) (.c (.int 1))))) (execs (run T k) [.set (.n 3) (.op2 .fdiv (.op2 .add (.v 1) (.v 2)) (.c (.int 2))), .ifs (.b (.op2 .le (.op2 .mul (.v 3) (.v 3)) (.v 0))) [.set (.n 1) (.v 3)] [.set (.n 2) (.v 3)]]) [.v (.int n), .v (.int 0), .v (.int 1), .no] = .nx [.v (.int n), .v (.int 0), .v (.int 1), .no] := by
      rw [whileS_eq]; simp
    simp [f_root_in, argsOk, w1, w2, e]
@[simp] theorem r__law_root [Has T i__law_root f__law_root] {k : Nat} {n : Int} {m : Nat} [hn : Bits n m] (hm : m < 300000) : run T (k + 1) i__law_root [.v (.int n)] = .ok (.int (rt n), false) .non := by
  rw [run_succ]
  by_cases h0 : 0 ≤ n
  · obtain ⟨hi, k1, k2, k3, e1⟩ := root_up (cal := run T k) (e := .op2 .mul (.v 2) (.c (.int 2))) (fun _ n lo hi => by simp [mulOk_r, Int.mul_comm]) h0 hn.lt hm _ 1 (by omega) (by omega) (Nat.le_refl _)
    obtain ⟨y, e2⟩ := root_mid (cal := run T k) (e := .op1 .int (.op2 .fdiv (.op2 .add (.v 1) (.v 2)) (.c (.int 2)))) (fun n lo hi x => by simp (decide := true) [Int.fdiv_eq_ediv_of_nonneg]) h0 hn.lt hm _ 0 hi .no (by intro d h; cases h) (by omega) (by omega) k3 (by omega) k2 (Nat.le_refl _)
    simp [f__law_root, argsOk, e1, e2]
  · have e := rt_neg (n := n) (by omega)
    have w1 : whileS (evalT (run T k) (.b (.op2 .le (.op2 .mul (.v 2) (.v 2)) (.v 0)))) (execs (run T k) [.set (.n 2) (.op2 .mul (.v 2) (.c (.int 2)))]) [.v (.int n), .v (.int 0), .v (.int 1), .no] = .nx [.v (.int n), .v (.int 0), .v (.int 1), .no] := by
      rw [whileS_eq]; simp [mulOk_l, show ¬ 1 ≤ n by omega]
    have w2 : whileS (evalT (run T k) (.b (.op2 .gt (.op2 .sub (.v 2) (.v 1)) (.c (.int 1))))) (execs (run T k) [.set (.n 3) (.op1 .int (.op2 .fdiv (.op2 .add (.v 1) (.v 2)) (.c (.int 2)))), .ifs (.b (.op2 .le (.op2 .mul (.v 3) (.v 3)) (.v 0))) [.set (.n 1) (.v 3)] [.set (.n 2) (.v 3)]]) [.v (.int n), .v (.int 0), .v (.int 1), .no] = .nx [.v (.int n), .v (.int 0), .v (.int 1), .no] := by
      rw [whileS_eq]; simp
    simp [f__law_root, argsOk, w1, w2, e]
/-- is n a square -/
def Sq (n : Int) : Prop := 0 ≤ n ∧ rt n * rt n = n
noncomputable instance {n : Int} : Decidable (Sq n) := inferInstanceAs (Decidable (_ ∧ _))
@[simp] theorem r_is_square_in [Has T i_root_in f_root_in] [Has T i_is_square_in f_is_square_in] {k : Nat} {n : Int} {m : Nat} [hn : Bits n m] (hm : m < 300000) : run T (k + 2) i_is_square_in [.v (.int n)] = .ok (.bl (decide (Sq n)), false) .non := by
  rw [run_succ]
  have hp : powOk (rt n) 2 = true := by
    unfold powOk
    have h1 : Bits (rt n) m := inferInstance
    have h2 := bd_log h1.lt
    rw [decide_eq_true (p := (0 : Int) ≤ 2) (by omega), decide_eq_true]
    · rfl
    · show _ * 2 ≤ _
      omega
  by_cases h : 0 ≤ n
  · have e2 : rt n ^ 2 = rt n * rt n := by grind
    simp [f_is_square_in, argsOk, hm, h, hp, Sq, e2]
    by_cases e : rt n * rt n = n <;> simp [e]
  · simp [f_is_square_in, argsOk, hm, h, Sq]
end G
end

section
set_option maxHeartbeats 1000000
namespace G
def i__law_some : Nat := 19
def f__law_some : Fn := ⟨2, 2, true, [
  .ret (.op2 .idx (.v 1) (.callr i__law_roll 0 [(.op1 .len (.v 1))]))]⟩
variable {T : Table}
/-! ### the cup -/
structure Cup where
  a : Int
  b : Int
  ha : 0 ≤ a
  hb : 0 ≤ b
  hb2 : b < 2147483648
def Cup.d (c : Cup) : D := .lst [.int c.a, .int c.b]
def stir (b : Int) : Int := (b * 31051 + 7993) % 2147483543
def Cup.roll (c : Cup) (m : Int) : Int := if 0 < c.a then c.a % m else (stir c.b * (stir c.b + 229) % 2147483587) / 821 % m
def Cup.next (c : Cup) (m : Int) : Cup := if 0 < c.a then ⟨((c.a / m).toNat : Int), c.b, Int.natCast_nonneg _, c.hb, c.hb2⟩
  else ⟨c.a, stir c.b, c.ha, Int.emod_nonneg _ (by omega), by have := Int.emod_lt_of_pos (c.b * 31051 + 7993) (show (0 : Int) < 2147483543 by omega); unfold stir; omega⟩
theorem roll_nonneg {c : Cup} {m : Int} (h : 0 < m) : 0 ≤ c.roll m := by
  unfold Cup.roll; split <;> exact Int.emod_nonneg _ (by omega)
theorem roll_lt {c : Cup} {m : Int} (h : 0 < m) : c.roll m < m := by
  unfold Cup.roll; split <;> exact Int.emod_lt_of_pos _ h
@[simp] theorem r__law_roll [Has T i__law_roll f__law_roll] {k : Nat} {c : Cup} {m : Int} {n : Nat} [hn : Bits m n] (h : 0 < m) (hm : n < 9000) : run T (k + 1) i__law_roll [.ref c.d, .v (.int m)] = .ok (.int (c.roll m), false) (c.next m).d := by
  rw [run_succ]
  obtain ⟨a, b, ha, hb, hb2⟩ := c
  have hd : divOk m = true := divOk_bd (by omega) hm
  have h0 : m ≠ 0 := by omega
  have e1 : ∀ x : Int, x.fmod m = x % m := fun x => Int.fmod_eq_emod_of_nonneg _ (by omega)
  have e2 : ∀ x : Int, x.fdiv m = x / m := fun x => Int.fdiv_eq_ediv_of_nonneg _ (by omega)
  by_cases h1 : 0 < a
  · have e3 : ((a / m).toNat : Int) = a / m := Int.toNat_of_nonneg (Int.ediv_nonneg ha (by omega))
    simp [f__law_roll, argsOk, Cup.d, Cup.roll, Cup.next, atI, ixN, h1, h0, hd, e1, e2]
    omega
  · have b1 : Bits b 31 := ⟨by omega⟩
    have f1 : ∀ x : Int, x.fmod 2147483543 = x % 2147483543 := fun x => Int.fmod_eq_emod_of_nonneg _ (by omega)
    have f2 : ∀ x : Int, x.fmod 2147483587 = x % 2147483587 := fun x => Int.fmod_eq_emod_of_nonneg _ (by omega)
    have f3 : ∀ x : Int, x.fdiv 821 = x / 821 := fun x => Int.fdiv_eq_ediv_of_nonneg _ (by omega)
    have q : (b * 31051 + 7993) % 2147483543 = stir b := rfl
    have s0 : 0 ≤ stir b := Int.emod_nonneg _ (by omega)
    have s1 : stir b < 2147483543 := Int.emod_lt_of_pos _ (by omega)
    have hmul : mulOk (stir b) (stir b + 229) = true := mulOk_l (by omega)
    simp (decide := true) [f__law_roll, argsOk, Cup.d, Cup.roll, Cup.next, atI, ixN, h1, h0, hd, e1, f1, f2, f3, q, mulOk_r, hmul]
@[simp] theorem r__law_cup [Has T i__law_cup f__law_cup] {k : Nat} {ns : List Int} (h : ns.length ≤ 63) : ∃ c : Cup, run T (k + 1) i__law_cup [.v (.scr ns)] = .ok (c.d, true) .non := by
  rw [run_succ]
  have hx : ∃ x : Int, atI (ns.map D.int ++ [.int 0]) 0 = some (.int x) := by
    cases ns with
    | nil => exact ⟨0, rfl⟩
    | cons n ns => refine ⟨n, ?_⟩; simp [atI, ixN, show (0 : Int) < (ns.length : Int) + 1 + 1 by omega]
  obtain ⟨x, hx⟩ := hx
  have hl : ns.length + 1 ≤ line := by unfold line; omega
  have hw : 0 ≤ (if x < 0 then -x else x) := by split <;> omega
  generalize hg : (if x < 0 then -x else x) = w at hw
  have hp : powOk 10 18 = true := by decide
  have f1 : ∀ x : Int, x.fmod 2077503167 = x % 2077503167 := fun x => Int.fmod_eq_emod_of_nonneg _ (by omega)
  have f3 : ∀ x : Int, x.fdiv 73 = x / 73 := fun x => Int.fdiv_eq_ediv_of_nonneg _ (by omega)
  have m0 := Int.emod_nonneg (w * 283 + 3907) (show (2077503167 : Int) ≠ 0 by omega)
  have m1 := Int.emod_lt_of_pos (w * 283 + 3907) (show (0 : Int) < 2077503167 by omega)
  by_cases hc : (1000000000000000000 : Int) ≤ w
  · refine ⟨⟨w / 73, (w * 283 + 3907) % 2077503167 + 167, by omega, by omega, by omega⟩, ?_⟩
    simp (decide := true) [f__law_cup, argsOk, hl, hx, hg, hp, hc, mulOk_r, f1, f3, Cup.d]
  · refine ⟨⟨0, (w * 283 + 3907) % 2077503167 + 167, by omega, by omega, by omega⟩, ?_⟩
    simp (decide := true) [f__law_cup, argsOk, hl, hx, hg, hp, hc, mulOk_r, f1, f3, Cup.d]
/-! ### alike values -/
def sortOf : D → Int
  | .non => 0 | .bl _ => 1 | .int _ => 2 | .str _ => 3 | .tup _ => 4 | .lst _ => 5 | _ => 6
@[simp] theorem r__law_sort [Has T i__law_sort f__law_sort] {k : Nat} {d : D} {n : Nat} (h : D.fit n d = true) : run T (k + 1) i__law_sort [.v d] = .ok (.int (sortOf d), false) .non := by
  rw [run_succ]
  cases d <;> first | (simp [D.fit] at h; done) | simp [f__law_sort, argsOk, sortOf]

mutual
theorem eqv_self : ∀ (d : D) (n : Nat), D.fit n d = true → D.eqv d d = true
  | .non, _, _ => rfl
  | .bl b, _, _ => by simp [D.eqv]
  | .int i, _, _ => by simp [D.eqv]
  | .str s, _, _ => by simp [D.eqv]
  | .tup xs, n, h => by
    cases n with
    | zero => simp [D.fit] at h
    | succ n => simp only [D.eqv]; exact eqvs_self xs n (by simpa [D.fit] using h)
  | .lst xs, n, h => by
    cases n with
    | zero => simp [D.fit] at h
    | succ n => simp only [D.eqv]; exact eqvs_self xs n (by simpa [D.fit] using h)
  | .fn f, _, h => by simp [D.fit] at h
  | .scr f, _, h => by simp [D.fit] at h
theorem eqvs_self : ∀ (xs : List D) (n : Nat), D.fits n xs = true → D.eqvs xs xs = true
  | [], _, _ => rfl
  | x :: xs, n, h => by
    simp only [D.fits, Bool.and_eq_true] at h
    simp only [D.eqvs, Bool.and_eq_true]
    exact ⟨eqv_self x n h.1, eqvs_self xs n h.2⟩
end
theorem sortOf_ok {n : Nat} {d : D} (h : D.fit n d = true) : 0 ≤ sortOf d ∧ sortOf d ≤ 5 := by
  cases d <;> first | (simp [D.fit] at h; done) | simp [sortOf]
theorem like_turns {cal : Call} {a b s : D} : ∀ (xs : List D), (∀ x ∈ xs, cal i__law_like [.v x, .v x] = .ok (.bl true, false) .non) →
    turns [3, 4] (.t [.n 3, .n 4]) (evalFs cal [.not (.e (.call i__law_like [.v 3, .v 4]))]) (compE cal (evalE cal (.c (.int 1))) []) ((xs.zip xs).map fun p => D.tup [p.1, p.2]) [.v a, .v b, .v s, .no, .no] = .ok [] [.v a, .v b, .v s, .no, .no]
  | [], _ => rfl
  | x :: xs, h => by
    have h1 := h x List.mem_cons_self
    have ih := like_turns (cal := cal) (a := a) (b := b) (s := s) xs fun y hy => h y (List.mem_cons_of_mem _ hy)
    rw [List.zip_cons_cons, List.map_cons, turns]
    simp [h1]
    simpa using ih
theorem fits_mem {n : Nat} : ∀ {xs : List D}, D.fits n xs = true → ∀ x ∈ xs, D.fit n x = true
  | [], _, x, hx => nomatch hx
  | y :: ys, h, x, hx => by
    simp only [D.fits, Bool.and_eq_true] at h
    rcases List.mem_cons.mp hx with rfl | hx
    · exact h.1
    · exact fits_mem h.2 x hx
mutual
theorem fit_up : ∀ (d : D) (n m : Nat), n ≤ m → D.fit n d = true → D.fit m d = true
  | .non, _, _, _, _ => by simp [D.fit]
  | .bl b, _, _, _, _ => by simp [D.fit]
  | .int i, _, _, _, _ => by simp [D.fit]
  | .str s, _, _, _, h => by simpa [D.fit] using h
  | .tup xs, n, m, l, h => by
    cases n with
    | zero => simp [D.fit] at h
    | succ n => cases m with
      | zero => omega
      | succ m => simp only [D.fit] at h ⊢; exact fits_up xs n m (by omega) h
  | .lst xs, n, m, l, h => by
    cases n with
    | zero => simp [D.fit] at h
    | succ n => cases m with
      | zero => omega
      | succ m => simp only [D.fit] at h ⊢; exact fits_up xs n m (by omega) h
  | .fn f, _, _, _, h => by simp [D.fit] at h
  | .scr f, _, _, _, h => by simp [D.fit] at h
theorem fits_up : ∀ (xs : List D) (n m : Nat), n ≤ m → D.fits n xs = true → D.fits m xs = true
  | [], _, _, _, _ => by simp [D.fits]
  | x :: xs, n, m, l, h => by
    simp only [D.fits, Bool.and_eq_true] at h ⊢
    exact ⟨fit_up x n m l h.1, fits_up xs n m l h.2⟩
end
theorem r__law_like [Has T i__law_sort f__law_sort] [Has T i__law_like f__law_like] : ∀ (n k : Nat) (d : D), n ≤ 64 → D.fit n d = true → run T (k + n + 2) i__law_like [.v d, .v d] = .ok (.bl true, false) .non
  | n, k, .non, hn, h => by rw [run_succ]; simp [f__law_like, argsOk, r__law_sort h, sortOf, inn, seq, D.fit, D.fits, D.eqv, eqG]
  | n, k, .bl b, hn, h => by rw [run_succ]; simp [f__law_like, argsOk, r__law_sort h, sortOf, inn, seq, D.fit, D.fits, D.eqv, eqG]
  | n, k, .int i, hn, h => by rw [run_succ]; simp [f__law_like, argsOk, r__law_sort h, sortOf, inn, seq, D.fit, D.fits, D.eqv, eqG]
  | n, k, .str s, hn, h => by
    have hs : strOk s = true := by simpa [D.fit] using h
    rw [run_succ]; simp [f__law_like, argsOk, r__law_sort h, sortOf, inn, seq, D.fit, D.fits, D.eqv, eqG, hs]
  | 0, k, .tup xs, hn, h => by simp [D.fit] at h
  | 0, k, .lst xs, hn, h => by simp [D.fit] at h
  | n + 1, k, .tup xs, hn, h => by
    have hs : D.fits n xs = true := by simpa [D.fit] using h
    have e := like_turns (cal := run T (k + n + 2)) (a := .tup xs) (b := .tup xs) (s := .int 4) xs fun x hx => r__law_like n k x (by omega) (fits_mem hs x hx)
    rw [show k + (n + 1) + 2 = (k + n + 2) + 1 by omega, run_succ]
    simp [f__law_like, argsOk, r__law_sort h, sortOf, inn, seq, D.fit, D.fits, D.eqv, zipE]
    rw [e]
    simp [eqG, D.fit, D.fits, D.eqv, D.eqvs]
  | n + 1, k, .lst xs, hn, h => by
    have hs : D.fits n xs = true := by simpa [D.fit] using h
    have e := like_turns (cal := run T (k + n + 2)) (a := .lst xs) (b := .lst xs) (s := .int 5) xs fun x hx => r__law_like n k x (by omega) (fits_mem hs x hx)
    rw [show k + (n + 1) + 2 = (k + n + 2) + 1 by omega, run_succ]
    simp [f__law_like, argsOk, r__law_sort h, sortOf, inn, seq, D.fit, D.fits, D.eqv, zipE]
    rw [e]
    simp [eqG, D.fit, D.fits, D.eqv, D.eqvs]
theorem r_like [Has T i__law_sort f__law_sort] [Has T i__law_like f__law_like] {k n : Nat} {d e : D} (h : d = e) (hf : D.fit n e = true) (hn : n ≤ 64) (hk : n + 2 ≤ k) : run T k i__law_like [.v d, .v e] = .ok (.bl true, false) .non := by
  subst h
  have := r__law_like (T := T) n (k - (n + 2)) d hn hf
  rwa [show k - (n + 2) + n + 2 = k by omega] at this
theorem r__law_some [Has T i__law_roll f__law_roll] [Has T i__law_some f__law_some] {k : Nat} {c : Cup} {xs : List D} (h : xs ≠ []) (hl : xs.length < 1000000) : ∃ i, ∃ hi : i < xs.length, run T (k + 2) i__law_some [.ref c.d, .v (.lst xs)] = .ok (xs[i], false) (c.next xs.length).d := by
  have h0 : (0 : Int) < (xs.length : Int) := by
    cases xs with
    | nil => exact absurd rfl h
    | cons x xs => simp
  haveI : Bits (xs.length : Int) 20 := ⟨by omega⟩
  have r0 := roll_nonneg (c := c) h0
  have r1 := roll_lt (c := c) h0
  refine ⟨(c.roll xs.length).toNat, by omega, ?_⟩
  have e1 : (c.roll xs.length).toNat < xs.length := by omega
  have e := r__law_roll (T := T) (k := k) (c := c) (m := (xs.length : Int)) h0 (by decide)
  rw [run_succ]
  simp [f__law_some, argsOk, e, atI, ixN, r0, r1, e1]
/-! ### three numbers sorted -/
def sort3 (x y z : Int) : List Int := if x ≤ y then (if y ≤ z then [x, y, z] else if x ≤ z then [x, z, y] else [z, x, y]) else (if x ≤ z then [y, x, z] else if y ≤ z then [y, z, x] else [z, y, x])
theorem sort3_eq (x y z : Int) : sortI [x, y, z] = sort3 x y z := by
  have key : ∀ l : List Int, l.Perm [x, y, z] → l.Pairwise (· ≤ ·) → sortI [x, y, z] = l := fun l p h => sorted_uniq ((sortI_perm _).trans p.symm) (sortI_sorted _) h
  unfold sort3
  split
  · split
    · exact key _ (.refl _) (by simp; omega)
    · split
      · exact key _ (.cons x (.swap y z [])) (by simp; omega)
      · exact key _ ((List.Perm.swap x z [y]).trans (.cons x (.swap y z []))) (by simp; omega)
  · split
    · exact key _ (.swap x y [z]) (by simp; omega)
    · split
      · exact key _ ((List.Perm.cons y (.swap x z [])).trans (.swap x y [z])) (by simp; omega)
      · exact key _ ((List.Perm.cons z (.swap x y [])).trans ((List.Perm.swap x z [y]).trans (.cons x (.swap y z [])))) (by simp; omega)
theorem sort3_d {x y z : Int} : sortD [.int x, .int y, .int z] = some ((sort3 x y z).map D.int) := by
  rw [sortD_ints (ns := [x, y, z]) (by simp), sort3_eq]
/-- three sides that make a triangle in some order -/
theorem tri_sort {x y z : Int} (hx : 1 ≤ x) (hy : 1 ≤ y) (hz : 1 ≤ z) (h1 : x < y + z) (h2 : y < x + z) (h3 : z < x + y) (hm : x ≤ 1000000000) (hm2 : y ≤ 1000000000) (hm3 : z ≤ 1000000000) : ∃ a b c, sort3 x y z = [a, b, c] ∧ Tri a b c := by
  unfold sort3
  split
  · split
    · exact ⟨_, _, _, rfl, by constructor <;> omega⟩
    · split
      · exact ⟨_, _, _, rfl, by constructor <;> omega⟩
      · exact ⟨_, _, _, rfl, by constructor <;> omega⟩
  · split
    · exact ⟨_, _, _, rfl, by constructor <;> omega⟩
    · split
      · exact ⟨_, _, _, rfl, by constructor <;> omega⟩
      · exact ⟨_, _, _, rfl, by constructor <;> omega⟩
theorem r__law_triangle [Has T i__law_roll f__law_roll] [Has T i__law_triangle f__law_triangle] {k : Nat} {c : Cup} {m : Int} (h1 : 1 ≤ m) (h9 : m ≤ 1000000000) : ∃ x y z, ∃ c' : Cup, Tri x y z ∧ z ≤ m ∧ run T (k + 2) i__law_triangle [.ref c.d, .v (.int m)] = .ok (.tup [.int x, .int y, .int z], false) c'.d := by
  rw [run_succ]
  have hm : Bits m 31 := ⟨by omega⟩
  have b4 : Bits (4 : Int) 3 := ⟨by decide⟩
  generalize hc1 : c.next 4 = c1
  have o0 := roll_nonneg (c := c1) (m := m) (by omega)
  have o1 := roll_lt (c := c1) (m := m) (by omega)
  generalize hr1 : c1.roll m = r1 at o0 o1
  generalize hc2 : c1.next m = c2
  have p0 := roll_nonneg (c := c2) (m := m) (by omega)
  have p1 := roll_lt (c := c2) (m := m) (by omega)
  generalize hr2 : c2.roll m = r2 at p0 p1
  generalize hc3 : c2.next m = c3
  generalize hw : c.roll 4 = w
  have b1 : Bits r1 31 := ⟨by omega⟩
  have b2 : Bits r2 31 := ⟨by omega⟩
  have f5 : m.fdiv 5 = m / 5 := Int.fdiv_eq_ediv_of_nonneg _ (by omega)
  by_cases w0 : w = 0
  · -- two alike sides
    have hk : ∃ q : Int, (if 2 * (1 + r1) - 1 < m then 2 * (1 + r1) - 1 else m) = q ∧ 0 < q ∧ q ≤ m ∧ q ≤ 2 * (1 + r1) - 1 := by
      refine ⟨_, rfl, ?_⟩; split <;> omega
    obtain ⟨q, hq, q0, qm, q2⟩ := hk
    have bq : Bits q 31 := ⟨by omega⟩
    have s0 := roll_nonneg (c := c3) q0
    have s1 := roll_lt (c := c3) q0
    obtain ⟨x, y, z, e, ht⟩ := tri_sort (x := 1 + r1) (y := 1 + r1) (z := 1 + c3.roll q) (by omega) (by omega) (by omega) (by omega) (by omega) (by omega) (by omega) (by omega) (by omega)
    have hz : z ≤ m := by
      have : z ∈ sort3 (1 + r1) (1 + r1) (1 + c3.roll q) := by rw [e]; simp
      rw [← sort3_eq] at this
      have := (sortI_perm _).mem_iff.mp this
      simp at this
      omega
    refine ⟨x, y, z, c3.next q, ht, hz, ?_⟩
    simp (decide := true) [f__law_triangle, argsOk, hw, hc1, hr1, hc2, hr2, hc3, w0, mulOk_l, hq, q0, sort3_d, e, show 0 < m by omega]
  · by_cases w1 : w = 1 ∧ 5 ≤ m
    · obtain ⟨w1, m5⟩ := w1
      have q0 : 0 < m / 5 := by omega
      have bq : Bits (m / 5) 31 := ⟨by omega⟩
      have s0 := roll_nonneg (c := c3) q0
      have s1 := roll_lt (c := c3) q0
      refine ⟨_, _, _, c3.next (m / 5), (show Tri (3 * (1 + c3.roll (m / 5))) (4 * (1 + c3.roll (m / 5))) (5 * (1 + c3.roll (m / 5))) by constructor <;> omega), by omega, ?_⟩
      simp (decide := true) [f__law_triangle, argsOk, hw, hc1, hr1, hc2, hr2, hc3, w1, m5, f5, mulOk_l, q0, show 0 < m by omega]
    · have hk : ∃ lo hi q : Int, (if (1 + r1) - (1 + r2) < 0 then -((1 + r1) - (1 + r2)) else (1 + r1) - (1 + r2)) + 1 = lo ∧ (if (1 + r1) + (1 + r2) - 1 < m then (1 + r1) + (1 + r2) - 1 else m) = hi ∧ (if hi - lo + 1 > 1 then hi - lo + 1 else 1) = q ∧ 0 < q ∧ q ≤ m ∧ 1 ≤ lo ∧ lo + q - 1 ≤ hi ∧ hi ≤ m ∧ r1 - r2 < lo ∧ r2 - r1 < lo ∧ hi < 2 + r1 + r2 := by
        refine ⟨_, _, _, rfl, rfl, rfl, ?_⟩
        repeat' (first | (constructor; split <;> omega) | split)
        all_goals omega
      obtain ⟨lo, hi, q, e1, e2, e3, q0, qm, l1, lh, hm2, d1, d2, d3⟩ := hk
      have bq : Bits q 31 := ⟨by omega⟩
      have s0 := roll_nonneg (c := c3) q0
      have s1 := roll_lt (c := c3) q0
      obtain ⟨x, y, z, e, ht⟩ := tri_sort (x := 1 + r1) (y := 1 + r2) (z := lo + c3.roll q) (by omega) (by omega) (by omega) (by omega) (by omega) (by omega) (by omega) (by omega) (by omega)
      have hz : z ≤ m := by
        have : z ∈ sort3 (1 + r1) (1 + r2) (lo + c3.roll q) := by rw [e]; simp
        rw [← sort3_eq] at this
        have := (sortI_perm _).mem_iff.mp this
        simp at this
        omega
      refine ⟨x, y, z, c3.next q, ht, hz, ?_⟩
      have w1' : ¬ (w = 1 ∧ 5 ≤ m) := w1
      by_cases w2 : w = 1
      · have m5 : ¬ 5 ≤ m := fun h => w1 ⟨w2, h⟩
        simp (decide := true) [f__law_triangle, argsOk, hw, hc1, hr1, hc2, hr2, hc3, w2, m5, e1, e2, e3, q0, sort3_d, e, show 0 < m by omega]
      · simp (decide := true) [f__law_triangle, argsOk, hw, hc1, hr1, hc2, hr2, hc3, w0, w2, e1, e2, e3, q0, sort3_d, e, show 0 < m by omega]
end G
end

section
set_option maxHeartbeats 1000000
namespace G
def i__law_sum : Nat := 226
def i__law_sides : Nat := 243
def i_need_vertex : Nat := 316
def i_sides_at : Nat := 317
def i_root_of_fraction : Nat := 318
def i_whole_ones : Nat := 319
def i__law_product : Nat := 325
def i__law_less : Nat := 326
def i__law_rooted : Nat := 327
def i__law_line_square : Nat := 328
def f_need_vertex : Fn := ⟨2, 2, false, [
  .expr (.call i_need_triangle [(.v 0)]),
  .expr (.call i_need_whole [(.v 1), (.c (.int 0)), (.c (.int 2))])]⟩
def f_sides_at : Fn := ⟨2, 4, false, [
  .set (.t [(.n 2), (.n 3)]) (.op2 .idx (.lst [(.tup [(.c (.int 1)), (.c (.int 2))]), (.tup [(.c (.int 0)), (.c (.int 2))]), (.tup [(.c (.int 0)), (.c (.int 1))])]) (.v 1)),
  .ret (.tup [(.op2 .idx (.v 0) (.v 1)), (.op2 .idx (.v 0) (.v 3)), (.op2 .idx (.v 0) (.v 2))])]⟩
def f_root_of_fraction : Fn := ⟨1, 3, false, [
  .set (.t [(.n 1), (.n 2)]) (.v 0),
  .ifs (.or (.not (.e (.call i_is_square_in [(.v 1)]))) (.not (.e (.call i_is_square_in [(.v 2)])))) [.ret (.c .non)] [],
  .ret (.tup [(.call i_root_in [(.v 1)]), (.call i_root_in [(.v 2)])])]⟩
def f_whole_ones : Fn := ⟨1, 3, false, [
  .ret (.op1 .tuple (.comp [1, 2] (.v 1) (.t [(.n 1), (.n 2)]) (.enum (.v 0)) [(.and (.b (.op1 .notNone (.v 2))) (.b (.op2 .eq (.op2 .idx (.v 2) (.c (.int 1))) (.c (.int 1)))))] []))]⟩
def f__law_sum : Fn := ⟨2, 2, false, [
  .ret (.call i__law_least [(.op2 .add (.op2 .mul (.op2 .idx (.v 0) (.c (.int 0))) (.op2 .idx (.v 1) (.c (.int 1)))) (.op2 .mul (.op2 .idx (.v 1) (.c (.int 0))) (.op2 .idx (.v 0) (.c (.int 1))))), (.op2 .mul (.op2 .idx (.v 0) (.c (.int 1))) (.op2 .idx (.v 1) (.c (.int 1))))])]⟩
def f__law_product : Fn := ⟨2, 2, false, [
  .ret (.call i__law_least [(.op2 .mul (.op2 .idx (.v 0) (.c (.int 0))) (.op2 .idx (.v 1) (.c (.int 0)))), (.op2 .mul (.op2 .idx (.v 0) (.c (.int 1))) (.op2 .idx (.v 1) (.c (.int 1))))])]⟩
def f__law_less : Fn := ⟨2, 2, false, [
  .ret (.call i__law_least [(.op2 .sub (.op2 .mul (.op2 .idx (.v 0) (.c (.int 0))) (.op2 .idx (.v 1) (.c (.int 1)))) (.op2 .mul (.op2 .idx (.v 1) (.c (.int 0))) (.op2 .idx (.v 0) (.c (.int 1))))), (.op2 .mul (.op2 .idx (.v 0) (.c (.int 1))) (.op2 .idx (.v 1) (.c (.int 1))))])]⟩
def f__law_rooted : Fn := ⟨1, 2, false, [
  .set (.n 1) (.tup [(.call i__law_root [(.op2 .max (.c (.int 0)) (.op2 .idx (.v 0) (.c (.int 0))))]), (.call i__law_root [(.op2 .idx (.v 0) (.c (.int 1)))])]),
  .ret (.ifx (.b (.op2 .eq (.tup [(.op2 .mul (.op2 .idx (.v 1) (.c (.int 0))) (.op2 .idx (.v 1) (.c (.int 0)))), (.op2 .mul (.op2 .idx (.v 1) (.c (.int 1))) (.op2 .idx (.v 1) (.c (.int 1))))]) (.v 0))) (.v 1) (.c .non))]⟩
def f__law_sides : Fn := ⟨2, 5, false, [
  .set (.t [(.n 2), (.n 3), (.n 4)]) (.v 0),
  .ret (.op2 .idx (.lst [(.tup [(.v 2), (.v 4), (.v 3)]), (.tup [(.v 3), (.v 4), (.v 2)]), (.tup [(.v 4), (.v 3), (.v 2)])]) (.v 1))]⟩
def f__law_line_square : Fn := ⟨3, 8, false, [
  .set (.t [(.n 3), (.n 4), (.n 5)]) (.call i__law_sides [(.v 0), (.v 1)]),
  .set (.n 6) (.call i__law_less [(.tup [(.v 3), (.c (.int 1))]), (.v 2)]),
  .set (.n 7) (.call i__law_sum [(.call i__law_product [(.tup [(.op2 .mul (.v 4) (.v 4)), (.c (.int 1))]), (.v 6)]), (.call i__law_product [(.tup [(.op2 .mul (.v 5) (.v 5)), (.c (.int 1))]), (.v 2)])]),
  .ret (.call i__law_less [(.call i__law_product [(.v 7), (.tup [(.c (.int 1)), (.v 3)])]), (.call i__law_product [(.v 2), (.v 6)])])]⟩
variable {T : Table}
/-! ### fractions as numbers -/
def frD (x : Rat) : D := .tup [.int x.num, .int (x.den : Int)]
class RBits (x : Rat) (n : outParam Nat) : Prop where
  num : x.num.natAbs < 2 ^ n
  den : x.den < 2 ^ n
instance {x : Rat} {n : Nat} [h : RBits x n] : Bits x.num n := ⟨h.num⟩
instance {x : Rat} {n : Nat} [h : RBits x n] : Bits (x.den : Int) n := ⟨by rw [Int.natAbs_natCast]; exact h.den⟩
@[simp] theorem num_den (x : Rat) : (x.num : Rat) / ((x.den : Int) : Rat) = x := by rw [← Rat.divInt_eq_div, Rat.num_divInt_den]
@[simp] theorem num_den' (x : Rat) : (x.num : Rat) / (x.den : Rat) = x := num_den x
theorem low_rat {a b : Int} (hb : b ≠ 0) : lo1 a b = ((a : Rat) / (b : Rat)).num ∧ lo2 a b = (((a : Rat) / (b : Rat)).den : Int) := by
  rw [← Rat.divInt_eq_div]
  generalize hx : Rat.divInt a b = x
  have h1 : (x.den : Int) ≠ 0 := by have := x.den_nz; omega
  refine lo_of hb (by have := x.den_nz; omega) (by have := x.reduced; exact this) ?_
  have := (Rat.divInt_eq_divInt_iff hb h1).mp (by rw [hx, Rat.num_divInt_den])
  exact this
theorem rbits_div {a b : Int} {n m : Nat} [ha : Bits a n] [hb : Bits b m] (h : b ≠ 0) : ((a : Rat) / (b : Rat)).num.natAbs < 2 ^ n ∧ ((a : Rat) / (b : Rat)).den < 2 ^ m := by
  obtain ⟨e1, e2⟩ := low_rat (a := a) h
  have h1 : Bits (lo1 a b) n := inferInstance
  have h2 : Bits (lo2 a b) m := inferInstance
  have h3 := h1.lt
  have h4 := h2.lt
  rw [e1] at h3
  rw [e2] at h4
  exact ⟨h3, by simpa using h4⟩
theorem rbits_divInt (a b : Int) (n m : Nat) (ha : a.natAbs < 2 ^ n) (hb : b.natAbs < 2 ^ m) (h : b ≠ 0) : RBits (Rat.divInt a b) (max n m) := by
  haveI : Bits a n := ⟨ha⟩
  haveI : Bits b m := ⟨hb⟩
  have := rbits_div (a := a) h
  rw [← Rat.divInt_eq_div] at this
  exact ⟨Nat.lt_of_lt_of_le this.1 (Nat.pow_le_pow_right (by omega) (Nat.le_max_left ..)), Nat.lt_of_lt_of_le this.2 (Nat.pow_le_pow_right (by omega) (Nat.le_max_right ..))⟩
theorem den0 (x : Rat) : (x.den : Int) ≠ 0 := by have := x.den_nz; omega
theorem bits_den {x : Rat} {n : Nat} (h : RBits x n) : ((x.den : Int)).natAbs < 2 ^ n := by rw [Int.natAbs_natCast]; exact h.den
instance {x y : Rat} {n m : Nat} [hx : RBits x n] [hy : RBits y m] : RBits (x + y) (n + m + 1) := by
  have e : x + y = Rat.divInt (x.num * y.den + y.num * x.den) (x.den * y.den) := by
    conv => lhs; rw [← Rat.num_divInt_den x, ← Rat.num_divInt_den y]
    rw [Rat.divInt_add_divInt _ _ (den0 x) (den0 y)]
  have b1 : Bits (x.num * y.den + y.num * x.den) (max (n + m) (m + n) + 1) := inferInstance
  have b2 : Bits ((x.den : Int) * y.den) (n + m) := inferInstance
  have b1' := b1.lt
  have b2' := b2.lt
  rw [show max (n + m) (m + n) + 1 = n + m + 1 by omega] at b1'
  have := rbits_divInt _ _ _ _ b1' (Bits.mono b2' (show n + m ≤ n + m + 1 by omega)) (show (x.den : Int) * y.den ≠ 0 from Int.mul_ne_zero (den0 x) (den0 y))
  rw [Nat.max_self] at this
  rw [e]; exact this
instance {x y : Rat} {n m : Nat} [hx : RBits x n] [hy : RBits y m] : RBits (x - y) (n + m + 1) := by
  have e : x - y = Rat.divInt (x.num * y.den - y.num * x.den) (x.den * y.den) := by
    conv => lhs; rw [← Rat.num_divInt_den x, ← Rat.num_divInt_den y]
    rw [Rat.divInt_sub_divInt _ _ (den0 x) (den0 y)]
  have b1 : Bits (x.num * y.den - y.num * x.den) (max (n + m) (m + n) + 1) := inferInstance
  have b2 : Bits ((x.den : Int) * y.den) (n + m) := inferInstance
  have b1' := b1.lt
  have b2' := b2.lt
  rw [show max (n + m) (m + n) + 1 = n + m + 1 by omega] at b1'
  have := rbits_divInt _ _ _ _ b1' (Bits.mono b2' (show n + m ≤ n + m + 1 by omega)) (show (x.den : Int) * y.den ≠ 0 from Int.mul_ne_zero (den0 x) (den0 y))
  rw [Nat.max_self] at this
  rw [e]; exact this
instance {x y : Rat} {n m : Nat} [hx : RBits x n] [hy : RBits y m] : RBits (x * y) (n + m) := by
  have e : x * y = Rat.divInt (x.num * y.num) (x.den * y.den) := by
    conv => lhs; rw [← Rat.num_divInt_den x, ← Rat.num_divInt_den y]
    rw [Rat.divInt_mul_divInt]
  have b1 : Bits (x.num * y.num) (n + m) := inferInstance
  have b2 : Bits ((x.den : Int) * y.den) (n + m) := inferInstance
  have := rbits_divInt _ _ _ _ b1.lt b2.lt (show (x.den : Int) * y.den ≠ 0 from Int.mul_ne_zero (den0 x) (den0 y))
  rw [Nat.max_self] at this
  rw [e]; exact this
@[simp] theorem r__law_leastR [Has T i__law_divisor f__law_divisor] [Has T i__law_least f__law_least] {k : Nat} {a b : Int} {m : Nat} [hbits : Bits b m] (hb : b ≠ 0) (hm : m < 8999) : run T (k + 2) i__law_least [.v (.int a), .v (.int b)] = .ok (.tup [.int ((a : Rat) / b).num, .int (((a : Rat) / b).den : Int)], false) .non := by
  obtain ⟨e1, e2⟩ := low_rat (a := a) hb
  rw [r__law_least hb hm, e1, e2]
@[simp] theorem r_lowestR [Has T i_divisor_of f_divisor_of] [Has T i_lowest f_lowest] {k : Nat} {a b : Int} {m : Nat} [hbits : Bits b m] (hb : b ≠ 0) (hm : m < 8999) : run T (k + 2) i_lowest [.v (.int a), .v (.int b)] = .ok (.tup [.int ((a : Rat) / b).num, .int (((a : Rat) / b).den : Int)], false) .non := by
  obtain ⟨e1, e2⟩ := low_rat (a := a) hb
  rw [r_lowest hb hm, e1, e2]
theorem rat_ne {b : Int} (h : b ≠ 0) : (b : Rat) ≠ 0 := by
  intro e
  exact h (Rat.intCast_inj.mp e)
@[simp] theorem r__law_sum [Has T i__law_divisor f__law_divisor] [Has T i__law_least f__law_least] [Has T i__law_sum f__law_sum] {k : Nat} {p q r s : Int} {n1 n2 n3 n4 : Nat} [Bits p n1] [Bits q n2] [Bits r n3] [Bits s n4] (hq : q ≠ 0) (hs : s ≠ 0) (h : n1 + n2 + n3 + n4 < 8990) :
    run T (k + 3) i__law_sum [.v (.tup [.int p, .int q]), .v (.tup [.int r, .int s])] = .ok (.tup [.int ((p : Rat) / q + r / s).num, .int (((p : Rat) / q + r / s).den : Int)], false) .non := by
  have e : ((p * s + r * q : Int) : Rat) / ((q * s : Int) : Rat) = (p : Rat) / q + r / s := by
    have := rat_ne hq
    have := rat_ne hs
    rw [Rat.intCast_add, Rat.intCast_mul, Rat.intCast_mul, Rat.intCast_mul]
    grind
  have m1 : mulOk p s = true := mulOk_bd (by omega)
  have m2 : mulOk r q = true := mulOk_bd (by omega)
  have m3 : mulOk q s = true := mulOk_bd (by omega)
  have l := r__law_leastR (T := T) (k := k) (a := p * s + r * q) (b := q * s) (Int.mul_ne_zero hq hs) (by omega)
  rw [e] at l
  rw [run_succ]
  simp [f__law_sum, argsOk, atI, ixN, m1, m2, m3, l]
@[simp] theorem r__law_less [Has T i__law_divisor f__law_divisor] [Has T i__law_least f__law_least] [Has T i__law_less f__law_less] {k : Nat} {p q r s : Int} {n1 n2 n3 n4 : Nat} [Bits p n1] [Bits q n2] [Bits r n3] [Bits s n4] (hq : q ≠ 0) (hs : s ≠ 0) (h : n1 + n2 + n3 + n4 < 8990) :
    run T (k + 3) i__law_less [.v (.tup [.int p, .int q]), .v (.tup [.int r, .int s])] = .ok (.tup [.int ((p : Rat) / q - r / s).num, .int (((p : Rat) / q - r / s).den : Int)], false) .non := by
  have e : ((p * s - r * q : Int) : Rat) / ((q * s : Int) : Rat) = (p : Rat) / q - r / s := by
    have := rat_ne hq
    have := rat_ne hs
    rw [Rat.intCast_sub, Rat.intCast_mul, Rat.intCast_mul, Rat.intCast_mul]
    grind
  have m1 : mulOk p s = true := mulOk_bd (by omega)
  have m2 : mulOk r q = true := mulOk_bd (by omega)
  have m3 : mulOk q s = true := mulOk_bd (by omega)
  have l := r__law_leastR (T := T) (k := k) (a := p * s - r * q) (b := q * s) (Int.mul_ne_zero hq hs) (by omega)
  rw [e] at l
  rw [run_succ]
  simp [f__law_less, argsOk, atI, ixN, m1, m2, m3, l]
@[simp] theorem r__law_product [Has T i__law_divisor f__law_divisor] [Has T i__law_least f__law_least] [Has T i__law_product f__law_product] {k : Nat} {p q r s : Int} {n1 n2 n3 n4 : Nat} [Bits p n1] [Bits q n2] [Bits r n3] [Bits s n4] (hq : q ≠ 0) (hs : s ≠ 0) (h : n1 + n2 + n3 + n4 < 8990) :
    run T (k + 3) i__law_product [.v (.tup [.int p, .int q]), .v (.tup [.int r, .int s])] = .ok (.tup [.int ((p : Rat) / q * (r / s)).num, .int (((p : Rat) / q * (r / s)).den : Int)], false) .non := by
  have e : ((p * r : Int) : Rat) / ((q * s : Int) : Rat) = (p : Rat) / q * (r / s) := by
    have := rat_ne hq
    have := rat_ne hs
    rw [Rat.intCast_mul, Rat.intCast_mul]
    grind
  have m1 : mulOk p r = true := mulOk_bd (by omega)
  have m3 : mulOk q s = true := mulOk_bd (by omega)
  have l := r__law_leastR (T := T) (k := k) (a := p * r) (b := q * s) (Int.mul_ne_zero hq hs) (by omega)
  rw [e] at l
  rw [run_succ]
  simp [f__law_product, argsOk, atI, ixN, m1, m3, l]
/-! ### sides by their place -/
def sideI (a b c : Int) (i : Int) : Int := if i = 0 then a else if i = 1 then b else c
def oneI (a b c : Int) (i : Int) : Int := if i = 0 then c else if i = 1 then c else b
def otherI (a b c : Int) (i : Int) : Int := if i = 0 then b else if i = 1 then a else a
theorem three {i : Int} (h0 : 0 ≤ i) (h2 : i ≤ 2) : i = 0 ∨ i = 1 ∨ i = 2 := by omega
@[simp] theorem r_sides_at [Has T i_sides_at f_sides_at] {k : Nat} {a b c i : Int} (h0 : 0 ≤ i) (h2 : i ≤ 2) : run T (k + 1) i_sides_at [.v (.tup [.int a, .int b, .int c]), .v (.int i)] = .ok (.tup [.int (sideI a b c i), .int (oneI a b c i), .int (otherI a b c i)], false) .non := by
  rw [run_succ]
  rcases three h0 h2 with rfl | rfl | rfl <;> simp [f_sides_at, argsOk, atI, ixN, sideI, oneI, otherI]
@[simp] theorem r__law_sides [Has T i__law_sides f__law_sides] {k : Nat} {a b c i : Int} (h0 : 0 ≤ i) (h2 : i ≤ 2) : run T (k + 1) i__law_sides [.v (.tup [.int a, .int b, .int c]), .v (.int i)] = .ok (.tup [.int (sideI a b c i), .int (oneI a b c i), .int (otherI a b c i)], false) .non := by
  rw [run_succ]
  rcases three h0 h2 with rfl | rfl | rfl <;> simp [f__law_sides, argsOk, atI, ixN, sideI, oneI, otherI]
@[simp] theorem r_need_vertex [Has T i_is_integer f_is_integer] [Has T i_is_whole f_is_whole] [Has T i_is_side f_is_side] [Has T i_is_tuple_of f_is_tuple_of] [Has T i_fits_triangle f_fits_triangle] [Has T i_need_triangle f_need_triangle] [Has T i_need_whole f_need_whole] [Has T i_need_vertex f_need_vertex] {k : Nat} {a b c i : Int} (h : Tri a b c) (h0 : 0 ≤ i) (h2 : i ≤ 2) : run T (k + 6) i_need_vertex [.v (.tup [.int a, .int b, .int c]), .v (.int i)] = .ok (.non, false) .non := by
  rw [run_succ]
  simp [f_need_vertex, argsOk, h, h0, h2]
/-- the root of a fraction, where it is one -/
noncomputable def rootD (x : Rat) : D := if Sq x.num ∧ Sq (x.den : Int) then .tup [.int (rt x.num), .int (rt (x.den : Int))] else .non
@[simp] theorem r_root_of_fraction [Has T i_root_in f_root_in] [Has T i_is_square_in f_is_square_in] [Has T i_root_of_fraction f_root_of_fraction] {k : Nat} {x : Rat} {n : Nat} [RBits x n] (hn : n < 300000) : run T (k + 3) i_root_of_fraction [.v (.tup [.int x.num, .int (x.den : Int)])] = .ok (rootD x, false) .non := by
  rw [run_succ]
  unfold rootD
  by_cases h1 : Sq x.num
  · by_cases h2 : Sq (x.den : Int)
    · simp [f_root_of_fraction, argsOk, hn, h1, h2]
    · simp [f_root_of_fraction, argsOk, hn, h1, h2]
  · simp [f_root_of_fraction, argsOk, hn, h1]
theorem sq_iff {n : Int} : Sq n ↔ rt (max 0 n) * rt (max 0 n) = n := by
  unfold Sq
  by_cases h : 0 ≤ n
  · rw [show max 0 n = n by omega]; simp [h]
  · rw [show max 0 n = 0 by omega, show rt 0 = 0 from rt_sq (r := 0) (by omega)]; omega
@[simp] theorem r__law_rooted [Has T i__law_root f__law_root] [Has T i__law_rooted f__law_rooted] {k : Nat} {x : Rat} {n : Nat} [RBits x n] (hn : n < 300000) : run T (k + 2) i__law_rooted [.v (.tup [.int x.num, .int (x.den : Int)])] = .ok (rootD x, false) .non := by
  rw [run_succ]
  have hb : Bits (max 0 x.num) n := ⟨by have := (inferInstance : Bits x.num n).lt; omega⟩
  have hd : max 0 (x.den : Int) = (x.den : Int) := by omega
  have e0 : (if x.num > 0 then x.num else 0) = max 0 x.num := by split <;> omega
  have e0' : (if 0 < x.num then x.num else 0) = max 0 x.num := by split <;> omega
  have m1 : mulOk (rt (max 0 x.num)) (rt (max 0 x.num)) = true := mulOk_bd (by omega)
  have m2 : mulOk (rt (x.den : Int)) (rt (x.den : Int)) = true := mulOk_bd (by omega)
  have s1 := sq_iff (n := x.num)
  have s2 := sq_iff (n := (x.den : Int))
  rw [hd] at s2
  have er : rootD x = if rt (max 0 x.num) * rt (max 0 x.num) = x.num ∧ rt (x.den : Int) * rt (x.den : Int) = (x.den : Int) then .tup [.int (rt x.num), .int (rt (x.den : Int))] else .non := by
    unfold rootD
    simp only [s1, s2]
  rw [er]
  have f1 : x.num = rt (max 0 x.num) * rt (max 0 x.num) → rt x.num = rt (max 0 x.num) := fun h => by
    rw [show max 0 x.num = x.num from by have := Int.mul_nonneg (rt_nonneg (max 0 x.num)) (rt_nonneg (max 0 x.num)); omega]
  by_cases h1 : rt (max 0 x.num) * rt (max 0 x.num) = x.num
  · by_cases h2 : rt (x.den : Int) * rt (x.den : Int) = (x.den : Int)
    · simp [f__law_rooted, argsOk, hn, e0, e0', m1, m2, h1, h2, atI, ixN, eqG, D.fit, D.fits, D.eqv, D.eqvs, f1 h1.symm]
    · simp [f__law_rooted, argsOk, hn, e0, e0', m1, m2, h1, h2, atI, ixN, eqG, D.fit, D.fits, D.eqv, D.eqvs]
  · simp [f__law_rooted, argsOk, hn, e0, e0', m1, m2, h1, atI, ixN, eqG, D.fit, D.fits, D.eqv, D.eqvs]
end G
end

section
set_option maxHeartbeats 1000000
namespace G
def i_median_square_in : Nat := 320
def i_median_square : Nat := 321
def i_median_of : Nat := 322
def i_whole_medians : Nat := 323
def i_side_by_median : Nat := 324
def i__law_drawn : Nat := 329
def i__law_right_medians : Nat := 330
def i__law_third_right : Nat := 331
def f_median_square_in : Fn := ⟨2, 5, false, [
  .set (.t [(.n 2), (.n 3), (.n 4)]) (.call i_sides_at [(.v 0), (.v 1)]),
  .ret (.call i_lowest [(.op2 .sub (.op2 .add (.op2 .mul (.op2 .mul (.c (.int 2)) (.v 3)) (.v 3)) (.op2 .mul (.op2 .mul (.c (.int 2)) (.v 4)) (.v 4))) (.op2 .mul (.v 2) (.v 2))), (.c (.int 4))])]⟩
def f_median_square : Fn := ⟨2, 2, false, [
  .expr (.call i_need_vertex [(.v 0), (.v 1)]),
  .ret (.call i_median_square_in [(.v 0), (.v 1)])]⟩
def f_median_of : Fn := ⟨2, 2, false, [
  .expr (.call i_need_vertex [(.v 0), (.v 1)]),
  .ret (.call i_root_of_fraction [(.call i_median_square_in [(.v 0), (.v 1)])])]⟩
def f_whole_medians : Fn := ⟨1, 2, false, [
  .expr (.call i_need_triangle [(.v 0)]),
  .ret (.call i_whole_ones [(.comp [1] (.call i_root_of_fraction [(.call i_median_square_in [(.v 0), (.v 1)])]) (.n 1) (.range [(.c (.int 3))]) [] [])])]⟩
def f_side_by_median : Fn := ⟨3, 5, false, [
  .expr (.call i_need_side [(.v 0)]),
  .expr (.call i_need_side [(.v 1)]),
  .expr (.call i_need_side [(.v 2)]),
  .set (.n 3) (.op2 .sub (.op2 .add (.op2 .mul (.op2 .mul (.c (.int 2)) (.v 0)) (.v 0)) (.op2 .mul (.op2 .mul (.c (.int 2)) (.v 1)) (.v 1))) (.op2 .mul (.op2 .mul (.c (.int 4)) (.v 2)) (.v 2))),
  .ifs (.not (.e (.call i_is_square_in [(.v 3)]))) [.ret (.c .non)] [],
  .set (.n 4) (.call i_root_in [(.v 3)]),
  .ret (.ifx (.and (.b (.op2 .le (.v 4) (.c (.int 1000000000)))) (.b (.chain .lt .lt (.op1 .abs (.op2 .sub (.v 0) (.v 1))) (.v 4) (.op2 .add (.v 0) (.v 1))))) (.v 4) (.c .non))]⟩
def f__law_drawn : Fn := ⟨2, 13, true, [
  .set (.n 2) (.callr i__law_roll 0 [(.c (.int 3))]),
  .ifs (.b (.op2 .eq (.v 2) (.c (.int 0)))) [.ret (.callr i__law_triangle 0 [(.v 1)])] [],
  .set (.n 3) (.lst []),
  .forr (.n 4) (.range [(.c (.int 2))]) [.set (.n 5) (.op2 .add (.c (.int 1)) (.callr i__law_roll 0 [(.c (.int 4))])), .append 3 (.call i__law_right [(.op2 .add (.op2 .add (.v 5) (.c (.int 1))) (.callr i__law_roll 0 [(.c (.int 3))])), (.v 5)])],
  .set (.t [(.t [(.n 6), (.n 7), (.n 8)]), (.t [(.n 9), (.n 10), (.n 11)])]) (.v 3),
  .ifs (.b (.op2 .eq (.v 2) (.c (.int 1)))) [.ret (.op1 .tuple (.op1 .sorted (.lst [(.v 8), (.v 8), (.op2 .mul (.c (.int 2)) (.v 6))])))] [],
  .set (.n 12) (.op2 .mul (.c (.int 2)) (.op2 .add (.op2 .mul (.op2 .mul (.v 6) (.v 7)) (.op2 .sub (.op2 .mul (.v 10) (.v 10)) (.op2 .mul (.v 9) (.v 9)))) (.op2 .mul (.op2 .mul (.v 9) (.v 10)) (.op2 .sub (.op2 .mul (.v 7) (.v 7)) (.op2 .mul (.v 6) (.v 6)))))),
  .ret (.ifx (.b (.op2 .gt (.v 12) (.c (.int 0)))) (.op1 .tuple (.op1 .sorted (.lst [(.op2 .mul (.op2 .mul (.op2 .mul (.op2 .mul (.c (.int 2)) (.v 6)) (.v 7)) (.v 11)) (.v 11)), (.op2 .mul (.op2 .mul (.op2 .mul (.op2 .mul (.c (.int 2)) (.v 9)) (.v 10)) (.v 8)) (.v 8)), (.v 12)]))) (.tup [(.v 8), (.v 8), (.v 8)]))]⟩
def f__law_right_medians : Fn := ⟨2, 11, true, [
  .par [2, 3, 4] [(.lst []), (.lst []), (.tup [(.c (.int 0)), (.c (.int 1))])],
  .forr (.n 5) (.range [(.c (.int 3))]) [.set (.n 6) (.call i__law_line_square [(.v 1), (.v 5), (.call i__law_least [(.op2 .idx (.v 1) (.v 5)), (.c (.int 2))])]), .append 2 (.v 6), .set (.n 3) (.op2 .add (.v 3) (.ifx (.and (.b (.op1 .notNone (.call i__law_rooted [(.v 6)]))) (.b (.op2 .eq (.op2 .idx (.call i__law_rooted [(.v 6)]) (.c (.int 1))) (.c (.int 1))))) (.lst [(.v 5)]) (.lst []))), .set (.n 4) (.call i__law_sum [(.v 4), (.v 6)])],
  .set (.n 7) (.lst [(.comp [5] (.call i_median_square [(.v 1), (.v 5)]) (.n 5) (.range [(.c (.int 3))]) [] []), (.comp [5] (.call i_median_of [(.v 1), (.v 5)]) (.n 5) (.range [(.c (.int 3))]) [] []), (.call i_whole_medians [(.v 1)]), (.call i_is_triangle [(.v 1)])]),
  .ifs (.not (.e (.call i__law_like [(.v 7), (.lst [(.v 2), (.comp [6] (.call i__law_rooted [(.v 6)]) (.n 6) (.e (.v 2)) [] []), (.op1 .tuple (.v 3)), (.c (.bl true))])]))) [.ret (.c (.bl false))] [],
  .ifs (.b (.op2 .ne (.call i__law_product [(.v 4), (.tup [(.c (.int 4)), (.c (.int 1))])]) (.tup [(.op2 .mul (.c (.int 3)) (.op1 .sum (.comp [8] (.op2 .mul (.v 8) (.v 8)) (.n 8) (.e (.v 1)) [] []))), (.c (.int 1))]))) [.ret (.c (.bl false))] [],
  .ifs (.or (.b (.op2 .lt (.op2 .mul (.op2 .idx (.op2 .idx (.v 2) (.c (.int 0))) (.c (.int 0))) (.op2 .idx (.op2 .idx (.v 2) (.c (.int 1))) (.c (.int 1)))) (.op2 .mul (.op2 .idx (.op2 .idx (.v 2) (.c (.int 1))) (.c (.int 0))) (.op2 .idx (.op2 .idx (.v 2) (.c (.int 0))) (.c (.int 1)))))) (.b (.op2 .lt (.op2 .mul (.op2 .idx (.op2 .idx (.v 2) (.c (.int 1))) (.c (.int 0))) (.op2 .idx (.op2 .idx (.v 2) (.c (.int 2))) (.c (.int 1)))) (.op2 .mul (.op2 .idx (.op2 .idx (.v 2) (.c (.int 2))) (.c (.int 0))) (.op2 .idx (.op2 .idx (.v 2) (.c (.int 1))) (.c (.int 1))))))) [.ret (.c (.bl false))] [],
  .forr (.n 5) (.e (.v 3)) [.set (.t [(.n 8), (.n 9), (.n 10)]) (.call i__law_sides [(.v 1), (.v 5)]), .ifs (.not (.e (.call i__law_like [(.lst [(.call i_side_by_median [(.v 9), (.v 10), (.op2 .idx (.call i__law_rooted [(.op2 .idx (.v 2) (.v 5))]) (.c (.int 0)))]), (.call i_side_by_median [(.v 10), (.v 9), (.op2 .idx (.call i__law_rooted [(.op2 .idx (.v 2) (.v 5))]) (.c (.int 0)))])]), (.lst [(.v 8), (.v 8)])]))) [.ret (.c (.bl false))] []],
  .ret (.c (.bl true))]⟩
def f__law_third_right : Fn := ⟨4, 7, true, [
  .set (.n 4) (.comp [6] (.v 6) (.n 6) (.range [(.op2 .add (.op1 .abs (.op2 .sub (.v 1) (.v 2))) (.c (.int 1))), (.op2 .add (.v 1) (.v 2))]) [(.b (.op2 .eq (.op2 .mul (.op2 .mul (.c (.int 4)) (.v 3)) (.v 3)) (.op2 .sub (.op2 .add (.op2 .mul (.op2 .mul (.c (.int 2)) (.v 1)) (.v 1)) (.op2 .mul (.op2 .mul (.c (.int 2)) (.v 2)) (.v 2))) (.op2 .mul (.v 6) (.v 6)))))] []),
  .set (.n 5) (.call i_side_by_median [(.v 1), (.v 2), (.v 3)]),
  .ifs (.not (.e (.call i__law_like [(.v 5), (.ifx (.b (.op2 .ne (.v 4) (.lst []))) (.op2 .idx (.v 4) (.c (.int 0))) (.c .non))]))) [.ret (.c (.bl false))] [],
  .ret (.or (.op1 .isNone (.v 5)) (.op1 .notNone (.call i_triangle_of [(.v 1), (.v 2), (.v 5)])))]⟩
variable {T : Table}
theorem fr_congr {x y : Rat} (h : x = y) : FRes.ok (.tup [.int x.num, .int (x.den : Int)], false) .non = FRes.ok (.tup [.int y.num, .int (y.den : Int)], false) .non := by rw [h]
theorem sides_ok {a b c i : Int} (h : Tri a b c) : 1 ≤ sideI a b c i ∧ 1 ≤ oneI a b c i ∧ 1 ≤ otherI a b c i ∧ sideI a b c i ≤ 1000000000 ∧ oneI a b c i ≤ 1000000000 ∧ otherI a b c i ≤ 1000000000 ∧ sideI a b c i < oneI a b c i + otherI a b c i ∧ oneI a b c i < sideI a b c i + otherI a b c i ∧ otherI a b c i < sideI a b c i + oneI a b c i := by
  obtain ⟨h1, h2, h3, h4, h5⟩ := h
  unfold sideI oneI otherI
  split
  · omega
  · split <;> omega
/-- four times the square of a median, the square -/
def med4 (s o t : Int) : Int := 2 * o * o + 2 * t * t - s * s
def msq (s o t : Int) : Rat := ((med4 s o t : Int) : Rat) / ((4 : Int) : Rat)
@[simp] theorem r_median_square_in [Has T i_sides_at f_sides_at] [Has T i_divisor_of f_divisor_of] [Has T i_lowest f_lowest] [Has T i_median_square_in f_median_square_in] {k : Nat} {a b c i : Int} (h : Tri a b c) (h0 : 0 ≤ i) (h2 : i ≤ 2) :
    run T (k + 3) i_median_square_in [.v (.tup [.int a, .int b, .int c]), .v (.int i)] = .ok (.tup [.int (msq (sideI a b c i) (oneI a b c i) (otherI a b c i)).num, .int ((msq (sideI a b c i) (oneI a b c i) (otherI a b c i)).den : Int)], false) .non := by
  rw [run_succ]
  obtain ⟨s1, s2, s3, s4, s5, s6, _⟩ := sides_ok (i := i) h
  simp only [msq, med4]
  generalize hs : sideI a b c i = s at *
  generalize ho : oneI a b c i = o at *
  generalize ht : otherI a b c i = t at *
  have b1 : Bits s 31 := ⟨by omega⟩
  have b2 : Bits o 31 := ⟨by omega⟩
  have b3 : Bits t 31 := ⟨by omega⟩
  simp (decide := true) [f_median_square_in, argsOk, h0, h2, hs, ho, ht]
@[simp] theorem r_median_square [Has T i_is_integer f_is_integer] [Has T i_is_whole f_is_whole] [Has T i_is_side f_is_side] [Has T i_is_tuple_of f_is_tuple_of] [Has T i_fits_triangle f_fits_triangle] [Has T i_need_triangle f_need_triangle] [Has T i_need_whole f_need_whole] [Has T i_need_vertex f_need_vertex] [Has T i_sides_at f_sides_at] [Has T i_divisor_of f_divisor_of] [Has T i_lowest f_lowest] [Has T i_median_square_in f_median_square_in] [Has T i_median_square f_median_square] {k : Nat} {a b c i : Int} (h : Tri a b c) (h0 : 0 ≤ i) (h2 : i ≤ 2) :
    run T (k + 7) i_median_square [.v (.tup [.int a, .int b, .int c]), .v (.int i)] = .ok (.tup [.int (msq (sideI a b c i) (oneI a b c i) (otherI a b c i)).num, .int ((msq (sideI a b c i) (oneI a b c i) (otherI a b c i)).den : Int)], false) .non := by
  rw [run_succ]
  simp [f_median_square, argsOk, h, h0, h2]
theorem rbits_msq {s o t : Int} (hs : 1 ≤ s) (ho : 1 ≤ o) (ht : 1 ≤ t) (hs9 : s ≤ 1000000000) (ho9 : o ≤ 1000000000) (ht9 : t ≤ 1000000000) : RBits (msq s o t) 70 := by
  have b1 : Bits s 31 := ⟨by omega⟩
  have b2 : Bits o 31 := ⟨by omega⟩
  have b3 : Bits t 31 := ⟨by omega⟩
  have b : Bits (med4 s o t) _ := (inferInstance : Bits (2 * o * o + 2 * t * t - s * s) _)
  have b4 : Bits (4 : Int) 3 := ⟨by decide⟩
  obtain ⟨h1, h2⟩ := rbits_div (a := med4 s o t) (b := (4 : Int)) (by omega)
  refine ⟨Nat.lt_of_lt_of_le h1 (Nat.pow_le_pow_right (by omega) (by decide)), Nat.lt_of_lt_of_le h2 (Nat.pow_le_pow_right (by omega) (by decide))⟩
theorem rbits_msqI {a b c i : Int} (h : Tri a b c) : RBits (msq (sideI a b c i) (oneI a b c i) (otherI a b c i)) 70 := by
  obtain ⟨s1, s2, s3, s4, s5, s6, _⟩ := sides_ok (i := i) h
  exact rbits_msq s1 s2 s3 s4 s5 s6
@[simp] theorem r_median_of [Has T i_is_integer f_is_integer] [Has T i_is_whole f_is_whole] [Has T i_is_side f_is_side] [Has T i_is_tuple_of f_is_tuple_of] [Has T i_fits_triangle f_fits_triangle] [Has T i_need_triangle f_need_triangle] [Has T i_need_whole f_need_whole] [Has T i_need_vertex f_need_vertex] [Has T i_sides_at f_sides_at] [Has T i_divisor_of f_divisor_of] [Has T i_lowest f_lowest] [Has T i_median_square_in f_median_square_in] [Has T i_root_in f_root_in] [Has T i_is_square_in f_is_square_in] [Has T i_root_of_fraction f_root_of_fraction] [Has T i_median_of f_median_of] {k : Nat} {a b c i : Int} (h : Tri a b c) (h0 : 0 ≤ i) (h2 : i ≤ 2) :
    run T (k + 7) i_median_of [.v (.tup [.int a, .int b, .int c]), .v (.int i)] = .ok (rootD (msq (sideI a b c i) (oneI a b c i) (otherI a b c i)), false) .non := by
  rw [run_succ]
  have := rbits_msqI (i := i) h
  simp [f_median_of, argsOk, h, h0, h2]
/-! which ones are whole -/
noncomputable def wholeB (x : Rat) : Bool := decide (Sq x.num ∧ Sq (x.den : Int) ∧ rt (x.den : Int) = 1)
theorem root_cases (x : Rat) : (rootD x = .non ∧ wholeB x = false) ∨ ∃ p q, rootD x = .tup [.int p, .int q] ∧ wholeB x = decide (q = 1) := by
  unfold rootD wholeB
  by_cases h : Sq x.num ∧ Sq (x.den : Int)
  · exact .inr ⟨_, _, if_pos h, by simp [h.1, h.2]⟩
  · refine .inl ⟨if_neg h, ?_⟩
    rw [decide_eq_false_iff_not]
    exact fun q => h ⟨q.1, q.2.1⟩
theorem whole_turns {cal : Call} {X : D} : ∀ ps : List (Int × Rat), turns [1, 2] (.t [.n 1, .n 2]) (evalFs cal [.and (.b (.op1 .notNone (.v 2))) (.b (.op2 .eq (.op2 .idx (.v 2) (.c (.int 1))) (.c (.int 1))))]) (compE cal (evalE cal (.v 1)) []) (ps.map fun p => .tup [.int p.1, rootD p.2]) [.v X, .no, .no] = .ok ((ps.filter fun p => wholeB p.2).map fun p => .int p.1) [.v X, .no, .no]
  | [] => rfl
  | p :: ps => by
    have ih := whole_turns (cal := cal) (X := X) ps
    rw [List.map_cons, turns]
    rcases root_cases p.2 with ⟨e1, e2⟩ | ⟨x, y, e1, e2⟩
    · simp [e1, e2]
      simpa using ih
    · by_cases hy : y = 1
      · simp [e1, e2, atI, ixN, hy]
        simp [ih]
      · simp [e1, e2, atI, ixN, hy]
        simpa using ih
/-- the places of the whole ones -/
noncomputable def wholes (x y z : Rat) : List Int := (([(0, x), (1, y), (2, z)] : List (Int × Rat)).filter fun p => wholeB p.2).map Prod.fst
@[simp] theorem r_whole_ones [Has T i_whole_ones f_whole_ones] {k : Nat} {x y z : Rat} : run T (k + 1) i_whole_ones [.v (.lst [rootD x, rootD y, rootD z])] = .ok (.tup ((wholes x y z).map D.int), false) .non := by
  rw [run_succ]
  have e := whole_turns (cal := run T k) (X := .lst [rootD x, rootD y, rootD z]) [(0, x), (1, y), (2, z)]
  have hl : ((([(0, x), (1, y), (2, z)] : List (Int × Rat)).filter fun p => wholeB p.2).map fun p => D.int p.1).length ≤ line := by
    rw [List.length_map]
    have := List.length_filter_le (fun p : Int × Rat => wholeB p.2) [(0, x), (1, y), (2, z)]
    simp at this
    unfold line; omega
  have e3 : ((([(0, x), (1, y), (2, z)] : List (Int × Rat)).filter fun p => wholeB p.2).map fun p => D.int p.1) = (wholes x y z).map D.int := by
    unfold wholes; rw [List.map_map]; rfl
  rw [e3] at e hl
  simp [f_whole_ones, argsOk, enumE]
  simp at e
  rw [e]
  simp at hl
  simp [hl]
@[simp] theorem r_whole_medians [Has T i_is_integer f_is_integer] [Has T i_is_whole f_is_whole] [Has T i_is_side f_is_side] [Has T i_is_tuple_of f_is_tuple_of] [Has T i_fits_triangle f_fits_triangle] [Has T i_need_triangle f_need_triangle] [Has T i_sides_at f_sides_at] [Has T i_divisor_of f_divisor_of] [Has T i_lowest f_lowest] [Has T i_median_square_in f_median_square_in] [Has T i_root_in f_root_in] [Has T i_is_square_in f_is_square_in] [Has T i_root_of_fraction f_root_of_fraction] [Has T i_whole_ones f_whole_ones] [Has T i_whole_medians f_whole_medians] {k : Nat} {a b c : Int} (h : Tri a b c) :
    run T (k + 6) i_whole_medians [.v (.tup [.int a, .int b, .int c])] = .ok (.tup ((wholes (msq a c b) (msq b c a) (msq c b a)).map D.int), false) .non := by
  rw [run_succ]
  have r0 := rbits_msqI (i := 0) h
  have r1 := rbits_msqI (i := 1) h
  have r2 := rbits_msqI (i := 2) h
  have m0 := r_median_square_in (T := T) (k := k + 2) (i := 0) h (by omega) (by omega)
  have m1 := r_median_square_in (T := T) (k := k + 2) (i := 1) h (by omega) (by omega)
  have m2 := r_median_square_in (T := T) (k := k + 2) (i := 2) h (by omega) (by omega)
  simp [sideI, oneI, otherI] at r0 r1 r2 m0 m1 m2
  simp (decide := true) [f_whole_medians, argsOk, h, rangeE, rgOk, rangeI, List.range, List.range.loop, turns, m0, m1, m2, line]
/-! the third side by its median -/
noncomputable def sbm (o t m : Int) : D := if Sq (2 * o * o + 2 * t * t - 4 * m * m) ∧ rt (2 * o * o + 2 * t * t - 4 * m * m) ≤ 1000000000 ∧ o - t < rt (2 * o * o + 2 * t * t - 4 * m * m) ∧ t - o < rt (2 * o * o + 2 * t * t - 4 * m * m) ∧ rt (2 * o * o + 2 * t * t - 4 * m * m) < o + t then .int (rt (2 * o * o + 2 * t * t - 4 * m * m)) else .non
@[simp] theorem r_side_by_median [Has T i_is_integer f_is_integer] [Has T i_is_whole f_is_whole] [Has T i_is_side f_is_side] [Has T i_need_side f_need_side] [Has T i_root_in f_root_in] [Has T i_is_square_in f_is_square_in] [Has T i_side_by_median f_side_by_median] {k : Nat} {o t m : Int} (h1 : 1 ≤ o) (h2 : o ≤ 1000000000) (h3 : 1 ≤ t) (h4 : t ≤ 1000000000) (h5 : 1 ≤ m) (h6 : m ≤ 1000000000) :
    run T (k + 5) i_side_by_median [.v (.int o), .v (.int t), .v (.int m)] = .ok (sbm o t m, false) .non := by
  rw [run_succ]
  have b1 : Bits o 31 := ⟨by omega⟩
  have b2 : Bits t 31 := ⟨by omega⟩
  have b3 : Bits m 31 := ⟨by omega⟩
  have hs := r_is_square_in (T := T) (k := k + 2) (n := 2 * o * o + 2 * t * t - 4 * m * m) (by decide)
  have hr := r_root_in (T := T) (k := k + 3) (n := 2 * o * o + 2 * t * t - 4 * m * m) (by decide)
  unfold sbm
  generalize hn : rt (2 * o * o + 2 * t * t - 4 * m * m) = r at hr
  by_cases q : Sq (2 * o * o + 2 * t * t - 4 * m * m)
  · by_cases q1 : r ≤ 1000000000
    · have e : (if o - t < 0 then -(o - t) else o - t) < r ↔ (o - t < r ∧ t - o < r) := by split <;> omega
      by_cases q2 : o - t < r ∧ t - o < r
      · have q2' := e.mpr q2
        by_cases q3 : r < o + t
        · simp (decide := true) [f_side_by_median, argsOk, *]
        · simp (decide := true) [f_side_by_median, argsOk, *]
      · have q2' : ¬ (if o - t < 0 then -(o - t) else o - t) < r := fun z => q2 (e.mp z)
        have q4 : ¬ (o - t < r ∧ t - o < r ∧ r < o + t) := fun z => q2 ⟨z.1, z.2.1⟩
        simp (decide := true) [f_side_by_median, argsOk, h1, h2, h3, h4, h5, h6, hs, hr, q, q1, q2', q4, hn]
    · simp (decide := true) [f_side_by_median, argsOk, *]
  · simp (decide := true) [f_side_by_median, argsOk, *]
end G
end

section
set_option maxHeartbeats 2000000
namespace G
variable {T : Table}
theorem for_cons {p : P} {b : Env → SRes} {x : D} {xs : List D} {ρ ρ1 : Env} (h : bindP p x ρ = some ρ1) : forS p b (x :: xs) ρ = match b ρ1 with
      | .nx ρ => forS p b xs ρ
      | .ct ρ => forS p b xs ρ
      | .brk ρ => .nx ρ
      | .ret r ρ => .ret r ρ
      | .exc x ρ => .exc x ρ
      | .no => .no := by (rw [forS, h]) <;> rfl
/-- a comprehension's turns, where each ends in the state it began with -/
theorem turns_gen {α : Type} {vs : List Nat} {p : P} {t : Env → Res Bool} {f : Env → Res (List D)} {ρ0 : Env} (d : α → D) (g : α → Bool) (h : α → List D) : ∀ xs : List α,
    (∀ x ∈ xs, ∃ ρ1 ρ2 ρ3, bindP p (d x) ρ0 = some ρ1 ∧ t ρ1 = .ok (g x) ρ2 ∧ (g x = true → f ρ2 = .ok (h x) ρ3 ∧ hides ρ3 vs = true ∧ wipe ρ3 vs = ρ0) ∧ (g x = false → hides ρ2 vs = true ∧ wipe ρ2 vs = ρ0)) →
    turns vs p t f (xs.map d) ρ0 = .ok ((xs.filter g).flatMap h) ρ0
  | [], _ => rfl
  | x :: xs, H => by
    have ih := turns_gen (vs := vs) (p := p) (t := t) (f := f) d g h xs fun y hy => H y (List.mem_cons_of_mem _ hy)
    obtain ⟨ρ1, ρ2, ρ3, e1, e2, e3, e4⟩ := H x List.mem_cons_self
    rw [List.map_cons, turns, e1]
    simp only [optR_some, bind_ok, e2]
    cases hg : g x with
    | true =>
      obtain ⟨k1, k2, k3⟩ := e3 hg
      rw [if_pos rfl, k1]
      simp only [bind_ok]
      rw [if_pos k2, k3, ih]
      simp only [bind_ok]
      rw [List.filter_cons_of_pos hg, List.flatMap_cons]
    | false =>
      obtain ⟨k2, k3⟩ := e4 hg
      rw [if_neg (by simp), if_pos k2, k3, ih, List.filter_cons_of_neg (by simp [hg])]
instance {a b : Int} {n m : Nat} [ha : Bits a n] [hb : Bits b m] : RBits ((a : Rat) / (b : Rat)) (max n m + 1) := by
  by_cases h : b = 0
  · subst h
    have e : (a : Rat) / ((0 : Int) : Rat) = 0 := by rw [← Rat.divInt_eq_div, Rat.divInt_zero]
    rw [e]
    exact ⟨Nat.pow_pos (by omega), Nat.one_lt_two_pow (by omega)⟩
  · obtain ⟨h1, h2⟩ := rbits_div (a := a) h
    exact ⟨Nat.lt_of_lt_of_le h1 (Nat.pow_le_pow_right (by omega) (by omega)), Nat.lt_of_lt_of_le h2 (Nat.pow_le_pow_right (by omega) (by omega))⟩
instance {b : Int} {m : Nat} [hb : Bits b m] : RBits ((1 : Rat) / (b : Rat)) (m + 2) := by
  have b1 : Bits (1 : Int) 1 := ⟨by decide⟩
  have := (inferInstance : RBits (((1 : Int) : Rat) / (b : Rat)) (max 1 m + 1))
  rw [Rat.intCast_one] at this
  exact ⟨Nat.lt_of_lt_of_le this.1 (Nat.pow_le_pow_right (by omega) (by omega)), Nat.lt_of_lt_of_le this.2 (Nat.pow_le_pow_right (by omega) (by omega))⟩
instance {a : Int} {n : Nat} [ha : Bits a n] : RBits (a : Rat) (n + 1) :=
  ⟨Nat.lt_of_lt_of_le ha.lt (Nat.pow_le_pow_right (by omega) (by omega)), Nat.one_lt_two_pow (by omega)⟩
@[simp] theorem rat_div_one (x : Rat) : x / 1 = x := by rw [Rat.div_def]; grind
@[simp] theorem den_nz' (x : Rat) : x.den ≠ 0 := x.den_nz
def rng (lo hi : Int) : List Int := (List.range (hi - lo).toNat).map fun (k : Nat) => lo + k
theorem rangeI_eq (lo hi : Int) : rangeI lo hi = (rng lo hi).map D.int := by unfold rangeI rng; rw [List.map_map]; rfl
theorem mem_rng {lo hi x : Int} : x ∈ rng lo hi ↔ lo ≤ x ∧ x < hi := by
  unfold rng
  rw [List.mem_map]
  constructor
  · rintro ⟨k, hk, rfl⟩
    rw [List.mem_range] at hk
    omega
  · rintro ⟨h1, h2⟩
    exact ⟨(x - lo).toNat, by rw [List.mem_range]; omega, by omega⟩
theorem rng_len {lo hi : Int} : (rng lo hi).length = (hi - lo).toNat := by unfold rng; simp
@[simp] theorem fits_ints {n : Nat} : ∀ l : List Int, D.fits n (l.map D.int) = true
  | [] => rfl
  | x :: l => by rw [List.map_cons]; simp only [D.fits, D.fit, Bool.true_and]; exact fits_ints l
theorem r_triangle_of [Has T i_is_integer f_is_integer] [Has T i_is_whole f_is_whole] [Has T i_is_side f_is_side] [Has T i_need_side f_need_side] [Has T i_is_tuple_of f_is_tuple_of] [Has T i_fits_triangle f_fits_triangle] [Has T i_triangle_of f_triangle_of] {k : Nat} {x y z : Int} (hx : 1 ≤ x) (hy : 1 ≤ y) (hz : 1 ≤ z) (h1 : x < y + z) (h2 : y < x + z) (h3 : z < x + y) (hm : x ≤ 1000000000) (hm2 : y ≤ 1000000000) (hm3 : z ≤ 1000000000) : ∃ a b c, run T (k + 5) i_triangle_of [.v (.int x), .v (.int y), .v (.int z)] = .ok (.tup [.int a, .int b, .int c], false) .non := by
  obtain ⟨a, b, c, e, ht⟩ := tri_sort hx hy hz h1 h2 h3 hm hm2 hm3
  refine ⟨a, b, c, ?_⟩
  rw [run_succ]
  simp [f_triangle_of, argsOk, hx, hy, hz, hm, hm2, hm3, sort3_d, e, ht]
/-! ### the law's own: lines -/
theorem r__law_line_mid [Has T i__law_divisor f__law_divisor] [Has T i__law_least f__law_least] [Has T i__law_sum f__law_sum] [Has T i__law_less f__law_less] [Has T i__law_product f__law_product] [Has T i__law_sides f__law_sides] [Has T i__law_line_square f__law_line_square] {k : Nat} {a b c i : Int} (h : Tri a b c) (h0 : 0 ≤ i) (h2 : i ≤ 2) {x : Rat} (hx : x = (sideI a b c i : Rat) / ((2 : Int) : Rat)) :
    run T (k + 4) i__law_line_square [.v (.tup [.int a, .int b, .int c]), .v (.int i), .v (.tup [.int x.num, .int (x.den : Int)])] = .ok (.tup [.int (msq (sideI a b c i) (oneI a b c i) (otherI a b c i)).num, .int ((msq (sideI a b c i) (oneI a b c i) (otherI a b c i)).den : Int)], false) .non := by
  rw [run_succ]
  obtain ⟨s1, s2, s3, s4, s5, s6, _⟩ := sides_ok (i := i) h
  have hsd := r__law_sides (T := T) (k := k + 2) (a := a) (b := b) (c := c) h0 h2
  generalize sideI a b c i = s at *
  generalize oneI a b c i = o at *
  generalize otherI a b c i = t at *
  have b1 : Bits s 31 := ⟨by omega⟩
  have b2 : Bits o 31 := ⟨by omega⟩
  have b3 : Bits t 31 := ⟨by omega⟩
  have bx : RBits x 31 := by
    have := rbits_div (a := s) (b := (2 : Int)) (by omega)
    rw [← hx] at this
    exact ⟨this.1, Nat.lt_of_lt_of_le this.2 (by decide)⟩
  have n0 := den0 x
  have hs0 : s ≠ 0 := by omega
  simp (decide := true) [f__law_line_square, argsOk, hsd, hs0]
  have e : ((o : Rat) * o * (s - x) + t * t * x) * (1 / s) - x * (s - x) = msq s o t := by
    have := rat_ne hs0
    rw [hx]
    unfold msq med4
    rw [Rat.intCast_sub, Rat.intCast_add, Rat.intCast_mul, Rat.intCast_mul, Rat.intCast_mul, Rat.intCast_mul, Rat.intCast_mul]
    have e2 : ((2 : Int) : Rat) = 2 := rfl
    have e4 : ((4 : Int) : Rat) = 4 := rfl
    rw [e2, e4]
    grind
  rw [e]
  exact ⟨rfl, rfl⟩
/-! ### the third side -/
theorem r__law_third_right [Has T i_is_integer f_is_integer] [Has T i_is_whole f_is_whole] [Has T i_is_side f_is_side] [Has T i_need_side f_need_side] [Has T i_is_tuple_of f_is_tuple_of] [Has T i_fits_triangle f_fits_triangle] [Has T i_triangle_of f_triangle_of] [Has T i_root_in f_root_in] [Has T i_is_square_in f_is_square_in] [Has T i_side_by_median f_side_by_median] [Has T i__law_sort f__law_sort] [Has T i__law_like f__law_like] [Has T i__law_third_right f__law_third_right] {k : Nat} {cu : D} {o t m : Int} (h1 : 1 ≤ o) (h2 : o ≤ 30) (h3 : 1 ≤ t) (h4 : t ≤ 30) (h5 : 1 ≤ m) (h6 : m ≤ 30) :
    run T (k + 6) i__law_third_right [.ref cu, .v (.int o), .v (.int t), .v (.int m)] = .ok (.bl true, false) cu := by
  rw [run_succ]
  have b1 : Bits o 31 := ⟨by omega⟩
  have b2 : Bits t 31 := ⟨by omega⟩
  have b3 : Bits m 31 := ⟨by omega⟩
  have hsb := r_side_by_median (T := T) (k := k) (o := o) (t := t) (m := m) h1 (by omega) h3 (by omega) h5 (by omega)
  -- the sides that have this median
  obtain ⟨lo, hlo, l1, l2, l3, l4, l5⟩ : ∃ lo : Int, (if o - t < 0 then -(o - t) else o - t) + 1 = lo ∧ 1 ≤ lo ∧ lo ≤ 31 ∧ o - t < lo ∧ t - o < lo ∧ (∀ s, o - t < s → t - o < s → lo ≤ s) := by
    refine ⟨_, rfl, ?_, ?_, ?_, ?_, fun s => ?_⟩ <;> split <;> omega
  let g : Int → Bool := fun s => 4 * m * m == 2 * o * o + 2 * t * t - s * s
  have ht := turns_gen (vs := [6]) (p := .n 6) (t := evalFs (run T (k + 5)) [.b (.op2 .eq (.op2 .mul (.op2 .mul (.c (.int 4)) (.v 3)) (.v 3)) (.op2 .sub (.op2 .add (.op2 .mul (.op2 .mul (.c (.int 2)) (.v 1)) (.v 1)) (.op2 .mul (.op2 .mul (.c (.int 2)) (.v 2)) (.v 2))) (.op2 .mul (.v 6) (.v 6))))])
    (f := compE (run T (k + 5)) (evalE (run T (k + 5)) (.v 6)) []) (ρ0 := [.ref cu, .v (.int o), .v (.int t), .v (.int m), .no, .no, .no]) D.int g (fun s => [.int s]) (rng lo (o + t)) (fun s hs => by
      have := mem_rng.mp hs
      have b4 : Bits s 31 := ⟨by omega⟩
      refine ⟨[.ref cu, .v (.int o), .v (.int t), .v (.int m), .no, .no, .v (.int s)], [.ref cu, .v (.int o), .v (.int t), .v (.int m), .no, .no, .v (.int s)], [.ref cu, .v (.int o), .v (.int t), .v (.int m), .no, .no, .v (.int s)], by simp, ?_, fun _ => ⟨by simp, by simp, by simp⟩, fun _ => ⟨by simp, by simp⟩⟩
      simp (decide := true) [g]
      by_cases hq : 4 * m * m = 2 * o * o + 2 * t * t - s * s <;> simp [hq])
  have efl : ∀ l : List Int, (l.flatMap fun s => [D.int s]) = l.map D.int := fun l => by induction l with
    | nil => rfl
    | cons x l ih => rw [List.flatMap_cons, ih]; rfl
  rw [efl] at ht
  have hlen : (((rng lo (o + t)).filter g).map D.int).length ≤ line := by
    rw [List.length_map]
    have := List.length_filter_le g (rng lo (o + t))
    rw [rng_len] at this
    unfold line
    omega
  have hmem : ∀ s ∈ (rng lo (o + t)).filter g, (o - t < s ∧ t - o < s ∧ s < o + t) ∧ 2 * o * o + 2 * t * t - 4 * m * m = s * s := fun s hs => by
    obtain ⟨k1, k2⟩ := List.mem_filter.mp hs
    have := mem_rng.mp k1
    have k3 : 4 * m * m = 2 * o * o + 2 * t * t - s * s := by simpa [g] using k2
    exact ⟨by omega, by omega⟩
  have hmem2 : ∀ s, (o - t < s ∧ t - o < s ∧ s < o + t) → 2 * o * o + 2 * t * t - 4 * m * m = s * s → s ∈ (rng lo (o + t)).filter g := fun s h e => by
    refine List.mem_filter.mpr ⟨mem_rng.mpr ?_, ?_⟩
    · exact ⟨l5 s h.1 h.2.1, h.2.2⟩
    · simp [g]; omega
  have hrg1 : rgOk lo = true := by unfold rgOk; simp; omega
  have hrg2 : rgOk (o + t) = true := by unfold rgOk; simp; omega
  generalize hd : (rng lo (o + t)).filter g = due at *
  cases due with
  | nil =>
    have hs0 : sbm o t m = .non := by
      unfold sbm
      rw [if_neg]
      rintro ⟨q1, q2, q3, q4, q5⟩
      have := hmem2 _ ⟨q3, q4, q5⟩ q1.2.symm
      cases this
    have hlk := r_like (T := T) (k := k + 5) (n := 0) (d := .non) (e := .non) rfl rfl (by omega) (by omega)
    rw [hs0] at hsb
    simp at ht
    simp (decide := true) [f__law_third_right, argsOk, hsb, rangeE, hlo, hrg1, hrg2, rangeI_eq, ht, eqG, D.fit, D.fits, D.eqv, D.eqvs, hlk]
  | cons s r =>
    obtain ⟨k1, k2⟩ := hmem s List.mem_cons_self
    have ers : rt (2 * o * o + 2 * t * t - 4 * m * m) = s := by rw [k2]; exact rt_sq (by omega)
    have hs0 : sbm o t m = .int s := by
      unfold sbm
      rw [ers, if_pos]
      refine ⟨⟨?_, by rw [ers]; exact k2.symm⟩, by omega, k1.1, k1.2.1, k1.2.2⟩
      rw [k2]; exact Int.mul_nonneg (by omega) (by omega)
    have hlk := r_like (T := T) (k := k + 5) (n := 0) (d := .int s) (e := .int s) rfl rfl (by omega) (by omega)
    obtain ⟨x, y, z, e3⟩ := r_triangle_of (T := T) (k := k) (x := o) (y := t) (z := s) h1 h3 (by omega) (by omega) (by omega) (by omega) (by omega) (by omega) (by omega)
    rw [hs0] at hsb
    simp at hlen ht
    have hfi := fits_ints (n := 63) r
    simp (decide := true) [f__law_third_right, argsOk, hsb, rangeE, hlo, hrg1, hrg2, rangeI_eq, ht, eqG, D.fit, D.fits, D.eqv, D.eqvs, hlk, e3, hlen, atI, ixN, hfi]
end G
end

section
set_option maxHeartbeats 4000000
namespace G
variable {T : Table}
@[simp] theorem atI_0 {x : D} {xs : List D} : atI (x :: xs) 0 = some x := by
  simp [atI, ixN, show (0 : Int) < (xs.length : Int) + 1 by omega]
@[simp] theorem atI_1 {x y : D} {xs : List D} : atI (x :: y :: xs) 1 = some y := by
  simp [atI, ixN, show (1 : Int) < (xs.length : Int) + 1 + 1 by omega]
@[simp] theorem atI_2 {x y z : D} {xs : List D} : atI (x :: y :: z :: xs) 2 = some z := by
  simp [atI, ixN, show (2 : Int) < (xs.length : Int) + 1 + 1 + 1 by omega]
abbrev fr3 (x : Rat) : D := .tup [.int x.num, .int (x.den : Int)]
def medBody : List Sm := [.set (.n 6) (.call i__law_line_square [(.v 1), (.v 5), (.call i__law_least [(.op2 .idx (.v 1) (.v 5)), (.c (.int 2))])]), .append 2 (.v 6), .set (.n 3) (.op2 .add (.v 3) (.ifx (.and (.b (.op1 .notNone (.call i__law_rooted [(.v 6)]))) (.b (.op2 .eq (.op2 .idx (.call i__law_rooted [(.v 6)]) (.c (.int 1))) (.c (.int 1))))) (.lst [(.v 5)]) (.lst []))), .set (.n 4) (.call i__law_sum [(.v 4), (.v 6)])]
theorem med_body [Has T i__law_divisor f__law_divisor] [Has T i__law_least f__law_least] [Has T i__law_sum f__law_sum] [Has T i__law_less f__law_less] [Has T i__law_product f__law_product] [Has T i__law_sides f__law_sides] [Has T i__law_line_square f__law_line_square] [Has T i__law_root f__law_root] [Has T i__law_rooted f__law_rooted]
    {k : Nat} {a b c i : Int} (h : Tri a b c) (h0 : 0 ≤ i) (h2 : i ≤ 2) {cu : D} {ds : List D} {ws : List Int} {X : Rat} [bX : RBits X 500] {x6 : S} (hx6 : ∀ d, x6 ≠ .ref d) (hd : ds.length < 10) (hw : ws.length < 10) {m : Rat} (hm : m = msq (sideI a b c i) (oneI a b c i) (otherI a b c i)) :
    execs (run T (k + 5)) medBody [.ref cu, .v (.tup [.int a, .int b, .int c]), .own (.lst ds), .own (.lst (ws.map D.int)), .v (fr3 X), .v (.int i), x6, .no, .no, .no, .no] =
      .nx [.ref cu, .v (.tup [.int a, .int b, .int c]), .own (.lst (ds ++ [fr3 m])), .own (.lst ((ws ++ (if wholeB m = true then [i] else [])).map D.int)), .v (fr3 (X + m)), .v (.int i), .v (fr3 m), .no, .no, .no, .no] := by
  have hat : atI [.int a, .int b, .int c] i = some (.int (sideI a b c i)) := by
    rcases three h0 h2 with rfl | rfl | rfl <;> simp [atI, ixN, sideI]
  have bm : RBits m 70 := by rw [hm]; exact rbits_msqI h
  have hln := r__law_line_mid (T := T) (k := k + 1) (x := (sideI a b c i : Rat) / ((2 : Int) : Rat)) h h0 h2 rfl
  rw [← hm] at hln
  obtain ⟨s1, s2, s3, s4, s5, s6, _⟩ := sides_ok (i := i) h
  have bs : Bits (sideI a b c i) 31 := ⟨by omega⟩
  have hle := r__law_leastR (T := T) (k := k + 3) (a := sideI a b c i) (b := 2) (by omega) (by decide)
  generalize hy : (sideI a b c i : Rat) / ((2 : Int) : Rat) = y at hln hle
  have hro := r__law_rooted (T := T) (k := k + 3) (x := m) (by decide)
  have hsu := r__law_sum (T := T) (k := k + 2) (p := X.num) (q := (X.den : Int)) (r := m.num) (s := (m.den : Int)) (den0 X) (den0 m) (by decide)
  simp only [num_den] at hsu
  have hx6' : ∀ d, ¬ x6 = .ref d := hx6
  have l1 : ds.length < line := by unfold line; omega
  have l2 : ws.length + 1 ≤ line := by unfold line; omega
  have l3 : ws.length ≤ line := by unfold line; omega
  rcases root_cases m with ⟨e1, e2⟩ | ⟨p, q, e1, e2⟩
  · rw [e1] at hro
    simp [medBody, fr3, hat, hln, hle, hro, hsu, e2, hx6', l1, l2, l3]
  · rw [e1] at hro
    by_cases hq : q = 1
    · simp [medBody, fr3, hat, hln, hle, hro, hsu, e2, hx6', l1, l2, l3, hq]
    · simp [medBody, fr3, hat, hln, hle, hro, hsu, e2, hx6', l1, l2, l3, hq]
end G
end

section
set_option maxHeartbeats 4000000
namespace G
variable {T : Table}
theorem forS_inv {Inv : Env → Prop} {p : P} {b : Env → SRes} : ∀ (xs : List D) (ρ : Env), Inv ρ → (∀ x ∈ xs, ∀ ρ, Inv ρ → ∃ ρ1 ρ2, bindP p x ρ = some ρ1 ∧ b ρ1 = .nx ρ2 ∧ Inv ρ2) → ∃ ρ', forS p b xs ρ = .nx ρ' ∧ Inv ρ'
  | [], ρ, h, _ => ⟨ρ, rfl, h⟩
  | x :: xs, ρ, h, H => by
    obtain ⟨ρ1, ρ2, e1, e2, e3⟩ := H x List.mem_cons_self ρ h
    obtain ⟨ρ', e4, e5⟩ := forS_inv xs ρ2 e3 fun y hy => H y (List.mem_cons_of_mem _ hy)
    refine ⟨ρ', ?_, e5⟩
    rw [for_cons e1, e2]
    exact e4
theorem msq_cross {s o t : Int} : (msq s o t).num * 4 = med4 s o t * ((msq s o t).den : Int) := by
  obtain ⟨e1, e2⟩ := low_rat (a := med4 s o t) (b := 4) (by omega)
  have := lo_cross (a := med4 s o t) (b := 4) (by omega)
  rw [e1, e2] at this
  exact this
theorem sq_one {n : Int} (h : Sq n) (h1 : rt n = 1) : n = 1 := by
  have := h.2
  rw [h1] at this
  omega
theorem whole_root {s o t : Int} (h : wholeB (msq s o t) = true) : ∃ p, rootD (msq s o t) = .tup [.int p, .int 1] ∧ 0 ≤ p ∧ 4 * p * p = med4 s o t := by
  unfold wholeB at h
  obtain ⟨h1, h2, h3⟩ := of_decide_eq_true h
  have hd := sq_one h2 h3
  refine ⟨rt (msq s o t).num, ?_, rt_nonneg _, ?_⟩
  · unfold rootD; rw [if_pos ⟨h1, h2⟩, h3]
  · have := msq_cross (s := s) (o := o) (t := t)
    rw [hd] at this
    have e := h1.2
    have : 4 * rt (msq s o t).num * rt (msq s o t).num = (rt (msq s o t).num * rt (msq s o t).num) * 4 := by grind
    rw [this, e]; omega
theorem sbm_of {s o t p : Int} (hs : 1 ≤ s) (ho : 1 ≤ o) (ht : 1 ≤ t) (hs9 : s ≤ 1000000000) (ho9 : o ≤ 1000000000) (ht9 : t ≤ 1000000000) (h1 : s < o + t) (h2 : o < s + t) (h3 : t < s + o) (hp : 0 ≤ p) (e : 4 * p * p = med4 s o t) : sbm o t p = .int s ∧ 1 ≤ p ∧ p ≤ 1000000000 := by
  unfold med4 at e
  have e2 : 2 * o * o + 2 * t * t - 4 * p * p = s * s := by omega
  have er : rt (s * s) = s := rt_sq (by omega)
  refine ⟨?_, ?_, ?_⟩
  · unfold sbm
    rw [e2, er, if_pos]
    exact ⟨⟨Int.mul_nonneg (by omega) (by omega), by rw [er]⟩, by omega, by omega, by omega, by omega⟩
  · -- 2oo + 2tt > ss
    have a1 : s * s < (o + t) * (o + t) := sq_lt (by omega) h1
    have a2 : (o + t) * (o + t) + (o - t) * (o - t) = 2 * o * o + 2 * t * t := by grind
    have a3 : 0 ≤ (o - t) * (o - t) := by
      by_cases hh : 0 ≤ o - t
      · exact Int.mul_nonneg hh hh
      · have := Int.mul_nonneg (show 0 ≤ -(o - t) by omega) (show 0 ≤ -(o - t) by omega)
        rw [Int.neg_mul_neg] at this
        exact this
    refine Classical.byContradiction fun n => ?_
    have : p = 0 := by omega
    subst this
    omega
  · refine Classical.byContradiction fun n => ?_
    have a1 : (1000000001 : Int) * 1000000001 ≤ p * p := sq_le (by omega) (by omega)
    have a2 : o * o ≤ 1000000000 * 1000000000 := sq_le (by omega) ho9
    have a3 : t * t ≤ 1000000000 * 1000000000 := sq_le (by omega) ht9
    have a4 : 0 ≤ s * s := Int.mul_nonneg (by omega) (by omega)
    have a5 : 4 * p * p = 4 * (p * p) := by grind
    have a6 : 2 * o * o = 2 * (o * o) := by grind
    have a7 : 2 * t * t = 2 * (t * t) := by grind
    omega
theorem msq_le {s o t s' o' t' : Int} (h : med4 s' o' t' ≤ med4 s o t) : ¬ (msq s o t).num * ((msq s' o' t').den : Int) < (msq s' o' t').num * ((msq s o t).den : Int) := by
  intro n
  have c1 := msq_cross (s := s) (o := o) (t := t)
  have c2 := msq_cross (s := s') (o := o') (t := t')
  have d1 : (0 : Int) < ((msq s o t).den : Int) := by have := (msq s o t).den_nz; omega
  have d2 : (0 : Int) < ((msq s' o' t').den : Int) := by have := (msq s' o' t').den_nz; omega
  generalize (msq s o t).num = n1 at *
  generalize ((msq s o t).den : Int) = q1 at *
  generalize (msq s' o' t').num = n2 at *
  generalize ((msq s' o' t').den : Int) = q2 at *
  have h1 : 0 ≤ (med4 s o t - med4 s' o' t') * (q1 * q2) := Int.mul_nonneg (by omega) (Int.le_of_lt (Int.mul_pos d1 d2))
  have h2 : (med4 s o t - med4 s' o' t') * (q1 * q2) = (n1 * q2 - n2 * q1) * 4 := by grind
  omega
@[simp] theorem fit_root {n : Nat} {x : Rat} : D.fit (n + 1) (rootD x) = true := by
  unfold rootD; split <;> simp [D.fit, D.fits]
theorem msq_sum {a b c : Int} : (0 + msq a c b + msq b c a + msq c b a) * 4 = ((3 * (a * a + (b * b + (c * c + 0))) : Int) : Rat) := by
  unfold msq med4
  have e2 : ((2 : Int) : Rat) = 2 := rfl
  have e3 : ((3 : Int) : Rat) = 3 := rfl
  have e4 : ((4 : Int) : Rat) = 4 := rfl
  simp only [Rat.intCast_sub, Rat.intCast_add, Rat.intCast_mul, e2, e3, e4]
  grind
theorem rb_up {x : Rat} {n m : Nat} (h : RBits x n) (l : n ≤ m) : RBits x m := ⟨Nat.lt_of_lt_of_le h.num (Nat.pow_le_pow_right (by omega) l), Nat.lt_of_lt_of_le h.den (Nat.pow_le_pow_right (by omega) l)⟩
theorem tri_med {a b c : Int} (h : Tri a b c) : med4 b c a ≤ med4 a c b ∧ med4 c b a ≤ med4 b c a := by
  obtain ⟨h1, h2, h3, h4, h5⟩ := h
  have s1 := sq_le (show 0 ≤ a by omega) h2
  have s2 := sq_le (show 0 ≤ b by omega) h3
  unfold med4
  have e1 : 2 * c * c = 2 * (c * c) := by grind
  have e2 : 2 * b * b = 2 * (b * b) := by grind
  have e3 : 2 * a * a = 2 * (a * a) := by grind
  omega
theorem med_loop [Has T i__law_divisor f__law_divisor] [Has T i__law_least f__law_least] [Has T i__law_sum f__law_sum] [Has T i__law_less f__law_less] [Has T i__law_product f__law_product] [Has T i__law_sides f__law_sides] [Has T i__law_line_square f__law_line_square] [Has T i__law_root f__law_root] [Has T i__law_rooted f__law_rooted]
    {k : Nat} {a b c : Int} (h : Tri a b c) {cu : D} :
    forS (.n 5) (execs (run T (k + 5)) medBody) [.int 0, .int 1, .int 2] [.ref cu, .v (.tup [.int a, .int b, .int c]), .own (.lst []), .own (.lst []), .v (.tup [.int 0, .int 1]), .no, .no, .no, .no, .no, .no] =
      .nx [.ref cu, .v (.tup [.int a, .int b, .int c]), .own (.lst [fr3 (msq a c b), fr3 (msq b c a), fr3 (msq c b a)]), .own (.lst ((wholes (msq a c b) (msq b c a) (msq c b a)).map D.int)), .v (fr3 (0 + msq a c b + msq b c a + msq c b a)), .v (.int 2), .v (fr3 (msq c b a)), .no, .no, .no, .no] := by
  have r0 := rbits_msqI (i := 0) h
  have r1 := rbits_msqI (i := 1) h
  have r2 := rbits_msqI (i := 2) h
  simp [sideI, oneI, otherI] at r0 r1 r2
  have q : RBits (0 : Rat) 1 := ⟨by decide, by decide⟩
  have z1 : RBits (0 + msq a c b) 72 := inferInstance
  have z2 : RBits (0 + msq a c b + msq b c a) 143 := inferInstance
  have e0 := med_body (T := T) (k := k) (i := 0) h (by omega) (by omega) (cu := cu) (ds := []) (ws := []) (X := 0) (bX := rb_up q (by omega)) (x6 := .no) (by intro d h; cases h) (by decide) (by decide) (m := msq a c b) (by simp [sideI, oneI, otherI])
  have e1 := med_body (T := T) (k := k) (i := 1) h (by omega) (by omega) (cu := cu) (ds := [fr3 (msq a c b)]) (ws := [] ++ (if wholeB (msq a c b) = true then [0] else [])) (X := 0 + msq a c b) (bX := rb_up z1 (by omega)) (x6 := .v (fr3 (msq a c b))) (by intro d h; cases h) (by simp) (by simp; split <;> simp) (m := msq b c a) (by simp [sideI, oneI, otherI])
  have e2 := med_body (T := T) (k := k) (i := 2) h (by omega) (by omega) (cu := cu) (ds := [fr3 (msq a c b), fr3 (msq b c a)]) (ws := ([] ++ (if wholeB (msq a c b) = true then [0] else [])) ++ (if wholeB (msq b c a) = true then [1] else [])) (X := 0 + msq a c b + msq b c a) (bX := rb_up z2 (by omega)) (x6 := .v (fr3 (msq b c a))) (by intro d h; cases h) (by simp) (by simp; split <;> split <;> simp) (m := msq c b a) (by simp [sideI, oneI, otherI])
  rw [for_cons (ρ1 := [.ref cu, .v (.tup [.int a, .int b, .int c]), .own (.lst []), .own (.lst []), .v (.tup [.int 0, .int 1]), .v (.int 0), .no, .no, .no, .no, .no]) (by simp)]
  have e0' : execs (run T (k + 5)) medBody [.ref cu, .v (.tup [.int a, .int b, .int c]), .own (.lst []), .own (.lst []), .v (.tup [.int 0, .int 1]), .v (.int 0), .no, .no, .no, .no, .no] = _ := e0
  rw [e0']
  simp only []
  rw [for_cons (ρ1 := [.ref cu, .v (.tup [.int a, .int b, .int c]), .own (.lst [fr3 (msq a c b)]), .own (.lst (([] ++ (if wholeB (msq a c b) = true then [0] else []) : List Int).map D.int)), .v (fr3 (0 + msq a c b)), .v (.int 1), .v (fr3 (msq a c b)), .no, .no, .no, .no]) (by simp)]
  rw [e1]
  simp only []
  rw [for_cons (ρ1 := [.ref cu, .v (.tup [.int a, .int b, .int c]), .own (.lst [fr3 (msq a c b), fr3 (msq b c a)]), .own (.lst ((([] ++ (if wholeB (msq a c b) = true then [0] else [])) ++ (if wholeB (msq b c a) = true then [1] else []) : List Int).map D.int)), .v (fr3 (0 + msq a c b + msq b c a)), .v (.int 2), .v (fr3 (msq b c a)), .no, .no, .no, .no]) (by simp)]
  rw [e2]
  simp only []
  have ew : wholes (msq a c b) (msq b c a) (msq c b a) = (([] ++ (if wholeB (msq a c b) = true then [0] else [])) ++ (if wholeB (msq b c a) = true then [1] else [])) ++ (if wholeB (msq c b a) = true then [2] else []) := by
    cases h0 : wholeB (msq a c b) <;> cases h1 : wholeB (msq b c a) <;> cases h2 : wholeB (msq c b a) <;> simp [wholes, List.filter_cons, h0, h1, h2]
  rw [ew, for_nil]
  rfl
end G
end

section
set_option maxHeartbeats 8000000
namespace G
variable {T : Table}
def wholeBody : List Sm := [.set (.t [(.n 8), (.n 9), (.n 10)]) (.call i__law_sides [(.v 1), (.v 5)]), .ifs (.not (.e (.call i__law_like [(.lst [(.call i_side_by_median [(.v 9), (.v 10), (.op2 .idx (.call i__law_rooted [(.op2 .idx (.v 2) (.v 5))]) (.c (.int 0)))]), (.call i_side_by_median [(.v 10), (.v 9), (.op2 .idx (.call i__law_rooted [(.op2 .idx (.v 2) (.v 5))]) (.c (.int 0)))])]), (.lst [(.v 8), (.v 8)])]))) [.ret (.c (.bl false))] []]
theorem sbm_comm {o t m : Int} : sbm o t m = sbm t o m := by
  unfold sbm
  have e : 2 * o * o + 2 * t * t - 4 * m * m = 2 * t * t + 2 * o * o - 4 * m * m := by omega
  rw [e, Int.add_comm o t]
  generalize rt (2 * t * t + 2 * o * o - 4 * m * m) = r
  by_cases h : Sq (2 * t * t + 2 * o * o - 4 * m * m) ∧ r ≤ 1000000000 ∧ o - t < r ∧ t - o < r ∧ r < t + o
  · rw [if_pos h, if_pos ⟨h.1, h.2.1, h.2.2.2.1, h.2.2.1, h.2.2.2.2⟩]
  · rw [if_neg h, if_neg fun q => h ⟨q.1, q.2.1, q.2.2.2.1, q.2.2.1, q.2.2.2.2⟩]
theorem whole_body [Has T i_is_integer f_is_integer] [Has T i_is_whole f_is_whole] [Has T i_is_side f_is_side] [Has T i_need_side f_need_side] [Has T i_root_in f_root_in] [Has T i_is_square_in f_is_square_in] [Has T i_side_by_median f_side_by_median] [Has T i__law_sides f__law_sides] [Has T i__law_root f__law_root] [Has T i__law_rooted f__law_rooted] [Has T i__law_sort f__law_sort] [Has T i__law_like f__law_like]
    {k : Nat} {a b c i : Int} (h : Tri a b c) (h0 : 0 ≤ i) (h2 : i ≤ 2) {cu W X M told : D} {s8 s9 s10 : S} (h8 : ∀ d, s8 ≠ .ref d) (h9 : ∀ d, s9 ≠ .ref d) (h10 : ∀ d, s10 ≠ .ref d) (hw : wholeB (msq (sideI a b c i) (oneI a b c i) (otherI a b c i)) = true) :
    execs (run T (k + 5)) wholeBody [.ref cu, .v (.tup [.int a, .int b, .int c]), .v (.lst [fr3 (msq a c b), fr3 (msq b c a), fr3 (msq c b a)]), .v W, .v X, .v (.int i), .v M, .v told, s8, s9, s10] =
      .nx [.ref cu, .v (.tup [.int a, .int b, .int c]), .v (.lst [fr3 (msq a c b), fr3 (msq b c a), fr3 (msq c b a)]), .v W, .v X, .v (.int i), .v M, .v told, .v (.int (sideI a b c i)), .v (.int (oneI a b c i)), .v (.int (otherI a b c i))] := by
  have hsd := r__law_sides (T := T) (k := k + 4) (a := a) (b := b) (c := c) h0 h2
  have hat : atI [fr3 (msq a c b), fr3 (msq b c a), fr3 (msq c b a)] i = some (fr3 (msq (sideI a b c i) (oneI a b c i) (otherI a b c i))) := by
    rcases three h0 h2 with rfl | rfl | rfl <;> simp [sideI, oneI, otherI]
  have bm := rbits_msqI (i := i) h
  obtain ⟨s1, s2, s3, s4, s5, s6, s7, s8', s9'⟩ := sides_ok (i := i) h
  obtain ⟨p, e1, p0, e2⟩ := whole_root hw
  obtain ⟨q1, q2, q3⟩ := sbm_of s1 s2 s3 s4 s5 s6 s7 s8' s9' p0 e2
  have hro := r__law_rooted (T := T) (k := k + 3) (x := msq (sideI a b c i) (oneI a b c i) (otherI a b c i)) (by decide)
  rw [e1] at hro
  generalize hm : msq (sideI a b c i) (oneI a b c i) (otherI a b c i) = m at *
  have hs1 := r_side_by_median (T := T) (k := k) (o := oneI a b c i) (t := otherI a b c i) (m := p) s2 s5 s3 s6 q2 q3
  have hs2 := r_side_by_median (T := T) (k := k) (o := otherI a b c i) (t := oneI a b c i) (m := p) s3 s6 s2 s5 q2 q3
  rw [sbm_comm, q1] at hs2
  rw [q1] at hs1
  have hlk := r_like (T := T) (k := k + 5) (n := 1) (d := .lst [.int (sideI a b c i), .int (sideI a b c i)]) (e := .lst [.int (sideI a b c i), .int (sideI a b c i)]) rfl (by simp [D.fit, D.fits]) (by omega) (by omega)
  have h8' : ∀ d, ¬ s8 = .ref d := h8
  have h9' : ∀ d, ¬ s9 = .ref d := h9
  have h10' : ∀ d, ¬ s10 = .ref d := h10
  generalize sideI a b c i = s at *
  generalize oneI a b c i = o at *
  generalize otherI a b c i = t at *
  generalize hds : [fr3 (msq a c b), fr3 (msq b c a), fr3 (msq c b a)] = ds at *
  simp [wholeBody, hsd, hat, hro, hs1, hs2, hlk, fr3]
theorem r__law_right_medians [Has T i_is_integer f_is_integer] [Has T i_is_whole f_is_whole] [Has T i_is_side f_is_side] [Has T i_is_tuple_of f_is_tuple_of] [Has T i_fits_triangle f_fits_triangle] [Has T i_need_triangle f_need_triangle] [Has T i_is_triangle f_is_triangle] [Has T i_need_whole f_need_whole] [Has T i_need_vertex f_need_vertex] [Has T i_sides_at f_sides_at] [Has T i_divisor_of f_divisor_of] [Has T i_lowest f_lowest] [Has T i_median_square_in f_median_square_in] [Has T i_median_square f_median_square] [Has T i_median_of f_median_of] [Has T i_root_of_fraction f_root_of_fraction] [Has T i_whole_ones f_whole_ones] [Has T i_whole_medians f_whole_medians]
    [Has T i_need_side f_need_side] [Has T i_root_in f_root_in] [Has T i_is_square_in f_is_square_in] [Has T i_side_by_median f_side_by_median] [Has T i__law_sides f__law_sides] [Has T i__law_root f__law_root] [Has T i__law_rooted f__law_rooted] [Has T i__law_sort f__law_sort] [Has T i__law_like f__law_like]
    [Has T i__law_divisor f__law_divisor] [Has T i__law_least f__law_least] [Has T i__law_sum f__law_sum] [Has T i__law_less f__law_less] [Has T i__law_product f__law_product] [Has T i__law_line_square f__law_line_square] [Has T i__law_right_medians f__law_right_medians]
    {k : Nat} {a b c : Int} (h : Tri a b c) {cu : D} : run T (k + 12) i__law_right_medians [.ref cu, .v (.tup [.int a, .int b, .int c])] = .ok (.bl true, false) cu := by
  rw [run_succ]
  have hloop := med_loop (T := T) (k := k + 6) h (cu := cu)
  have q0 := r_median_square (T := T) (k := k + 4) (i := 0) h (by omega) (by omega)
  have q1 := r_median_square (T := T) (k := k + 4) (i := 1) h (by omega) (by omega)
  have q2 := r_median_square (T := T) (k := k + 4) (i := 2) h (by omega) (by omega)
  have p0 := r_median_of (T := T) (k := k + 4) (i := 0) h (by omega) (by omega)
  have p1 := r_median_of (T := T) (k := k + 4) (i := 1) h (by omega) (by omega)
  have p2 := r_median_of (T := T) (k := k + 4) (i := 2) h (by omega) (by omega)
  have hwm := r_whole_medians (T := T) (k := k + 5) h
  have hit := r_is_triangle (T := T) (k := k + 6) h
  have b0 := rbits_msqI (i := 0) h
  have b1 := rbits_msqI (i := 1) h
  have b2 := rbits_msqI (i := 2) h
  simp [sideI, oneI, otherI] at q0 q1 q2 p0 p1 p2 b0 b1 b2
  have hr0 := r__law_rooted (T := T) (k := k + 9) (x := msq a c b) (by decide)
  have hr1 := r__law_rooted (T := T) (k := k + 9) (x := msq b c a) (by decide)
  have hr2 := r__law_rooted (T := T) (k := k + 9) (x := msq c b a) (by decide)
  have o1 := msq_le (tri_med h).1
  have o2 := msq_le (tri_med h).2
  have hsum := msq_sum (a := a) (b := b) (c := c)
  have qz : RBits (0 : Rat) 1 := ⟨by decide, by decide⟩
  have hpr := r__law_product (T := T) (k := k + 8) (p := (0 + msq a c b + msq b c a + msq c b a).num) (q := ((0 + msq a c b + msq b c a + msq c b a).den : Int)) (r := 4) (s := 1) (den0 _) (by omega) (by decide)
  rw [num_den, show (((4 : Int) : Rat) / ((1 : Int) : Rat)) = 4 from rat_div_one _, hsum, Rat.num_intCast, Rat.den_intCast] at hpr
  have a5 : a ≤ 1000000000 := by have := h.ab; have := h.bc; have := h.c9; omega
  have a6 : b ≤ 1000000000 := by have := h.bc; have := h.c9; omega
  have a7 : c ≤ 1000000000 := h.c9
  have a8 := h.a1
  have a9 := h.ab
  have a10 := h.bc
  have ba : Bits a 31 := ⟨by omega⟩
  have bb : Bits b 31 := ⟨by omega⟩
  have bc : Bits c 31 := ⟨by omega⟩
  have hlk := r_like (T := T) (k := k + 11) (n := 3) (d := .lst [.lst [fr3 (msq a c b), fr3 (msq b c a), fr3 (msq c b a)], .lst [rootD (msq a c b), rootD (msq b c a), rootD (msq c b a)], .tup ((wholes (msq a c b) (msq b c a) (msq c b a)).map D.int), .bl true]) (e := .lst [.lst [fr3 (msq a c b), fr3 (msq b c a), fr3 (msq c b a)], .lst [rootD (msq a c b), rootD (msq b c a), rootD (msq c b a)], .tup ((wholes (msq a c b) (msq b c a) (msq c b a)).map D.int), .bl true]) rfl (by simp [D.fit, D.fits]) (by omega) (by omega)
  -- the loop over the whole ones
  let Inv : Env → Prop := fun ρ => ∃ s5 s8 s9 s10 : S, (∀ d, s8 ≠ .ref d) ∧ (∀ d, s9 ≠ .ref d) ∧ (∀ d, s10 ≠ .ref d) ∧ ρ = [.ref cu, .v (.tup [.int a, .int b, .int c]), .v (.lst [fr3 (msq a c b), fr3 (msq b c a), fr3 (msq c b a)]), .v (.lst ((wholes (msq a c b) (msq b c a) (msq c b a)).map D.int)), .v (fr3 (0 + msq a c b + msq b c a + msq c b a)), s5, .v (fr3 (msq c b a)), .v (.lst [.lst [fr3 (msq a c b), fr3 (msq b c a), fr3 (msq c b a)], .lst [rootD (msq a c b), rootD (msq b c a), rootD (msq c b a)], .tup ((wholes (msq a c b) (msq b c a) (msq c b a)).map D.int), .bl true]), s8, s9, s10]
  have hlast : ∀ ρ, Inv ρ → ∃ ρ', forS (.n 5) (execs (run T (k + 11)) wholeBody) ((wholes (msq a c b) (msq b c a) (msq c b a)).map D.int) ρ = .nx ρ' ∧ Inv ρ' := fun ρ hρ => by
    refine forS_inv _ _ hρ fun x hx ρ ⟨s5, s8, s9, s10, h8, h9, h10, e⟩ => ?_
    obtain ⟨i, hi, rfl⟩ := List.mem_map.mp hx
    unfold wholes at hi
    obtain ⟨p, hp, rfl⟩ := List.mem_map.mp hi
    obtain ⟨hp1, hp2⟩ := List.mem_filter.mp hp
    have key : 0 ≤ p.1 ∧ p.1 ≤ 2 ∧ p.2 = msq (sideI a b c p.1) (oneI a b c p.1) (otherI a b c p.1) := by
      simp at hp1
      rcases hp1 with rfl | rfl | rfl <;> simp [sideI, oneI, otherI]
    obtain ⟨k0, k2, k3⟩ := key
    rw [k3] at hp2
    have hb := whole_body (T := T) (k := k + 6) (cu := cu) (W := .lst ((wholes (msq a c b) (msq b c a) (msq c b a)).map D.int)) (X := fr3 (0 + msq a c b + msq b c a + msq c b a)) (M := fr3 (msq c b a)) (told := .lst [.lst [fr3 (msq a c b), fr3 (msq b c a), fr3 (msq c b a)], .lst [rootD (msq a c b), rootD (msq b c a), rootD (msq c b a)], .tup ((wholes (msq a c b) (msq b c a) (msq c b a)).map D.int), .bl true]) h k0 k2 h8 h9 h10 hp2
    subst e
    exact ⟨_, _, by simp, hb, .v (.int p.1), .v (.int (sideI a b c p.1)), .v (.int (oneI a b c p.1)), .v (.int (otherI a b c p.1)), (fun d e => nomatch e), (fun d e => nomatch e), (fun d e => nomatch e), rfl⟩
  generalize hm0 : msq a c b = m0 at *
  generalize hm1 : msq b c a = m1 at *
  generalize hm2 : msq c b a = m2 at *
  generalize hX : 0 + m0 + m1 + m2 = X at *
  generalize hW : wholes m0 m1 m2 = W at *
  have z0 : ¬ m0.num * (m1.den : Int) < m1.num * (m0.den : Int) := o1
  have z1 : ¬ m1.num * (m2.den : Int) < m2.num * (m1.den : Int) := o2
  simp only [medBody] at hloop
  simp only [wholeBody] at hlast
  have e1 : ((1 : Nat) : Int) = 1 := rfl
  rw [e1] at hpr
  obtain ⟨ρ', e5, s5, s8, s9, s10, _, _, _, e6⟩ := hlast _ ⟨.v (.int 2), .no, .no, .no, (fun d e => nomatch e), (fun d e => nomatch e), (fun d e => nomatch e), rfl⟩
  rw [hm0, hm1, hm2, hX, hW] at e5 e6
  subst e6
  simp (decide := true) [f__law_right_medians, argsOk, rangeE, rgOk, rangeI, List.range, List.range.loop, hloop, turns, q0, q1, q2, p0, p1, p2, hwm, hit, hr0, hr1, hr2, hlk, hpr, z0, z1, line, eqG, D.fit, D.fits, D.eqv, D.eqvs, e5]
end G
end

section
set_option maxHeartbeats 8000000
namespace G
variable {T : Table}
/-! ### right triangles by two numbers -/
theorem right_sort {x y z : Int} (hx : 1 ≤ x) (hy : 1 ≤ y) (h1 : x < z) (h2 : y < z) (h : x * x + y * y = z * z) : ∃ a b, sort3 x y z = [a, b, z] ∧ 1 ≤ a ∧ a ≤ b ∧ b < z ∧ a * a + b * b = z * z := by
  unfold sort3
  by_cases h3 : x ≤ y
  · rw [if_pos h3, if_pos (by omega)]
    exact ⟨x, y, rfl, hx, h3, h2, h⟩
  · rw [if_neg h3, if_pos (by omega)]
    exact ⟨y, x, rfl, hy, by omega, h1, by omega⟩
theorem r__law_right [Has T i__law_right f__law_right] {k : Nat} {o t : Int} (h1 : 1 ≤ t) (h2 : t < o) (h3 : o ≤ 1000000) : ∃ a b, 1 ≤ a ∧ a ≤ b ∧ b < o * o + t * t ∧ a * a + b * b = (o * o + t * t) * (o * o + t * t) ∧ run T (k + 1) i__law_right [.v (.int o), .v (.int t)] = .ok (.tup [.int a, .int b, .int (o * o + t * t)], false) .non := by
  have b1 : Bits o 31 := ⟨by omega⟩
  have b2 : Bits t 31 := ⟨by omega⟩
  have k1 := sq_lt (show 0 ≤ t by omega) h2
  have k2 : 1 * 1 ≤ t * t := sq_le (by omega) h1
  have k3 : 1 ≤ o * t := by
    have := Int.mul_le_mul (show 1 ≤ o by omega) h1 (by omega) (by omega)
    omega
  have k4 : 1 ≤ (o - t) * (o - t) := by
    have := sq_le (show (0 : Int) ≤ 1 by omega) (show 1 ≤ o - t by omega)
    omega
  have e1 : (o - t) * (o - t) = o * o + t * t - 2 * o * t := by grind
  have e2 : 2 * o * t = 2 * (o * t) := by grind
  obtain ⟨a, b, e, ha, hab, hb, hs⟩ := right_sort (x := o * o - t * t) (y := 2 * o * t) (z := o * o + t * t) (by omega) (by omega) (by omega) (by omega) (by grind)
  refine ⟨a, b, ha, hab, hb, hs, ?_⟩
  rw [run_succ]
  simp (decide := true) [f__law_right, argsOk, sort3_d, e]
theorem pyth_lt {a b c : Int} (ha : 1 ≤ a) (hb : 1 ≤ b) (hc : 1 ≤ c) (h : a * a + b * b = c * c) : c < a + b := by
  refine Classical.byContradiction fun n => ?_
  have h1 := sq_le (show 0 ≤ a + b by omega) (show a + b ≤ c by omega)
  have h2 : (a + b) * (a + b) = a * a + b * b + 2 * (a * b) := by grind
  have h3 : 1 * 1 ≤ a * b := Int.mul_le_mul ha hb (by omega) (by omega)
  omega
theorem drawn_third {a b c d e f : Int} (ha : 1 ≤ a) (hb : 1 ≤ b) (hc : 1 ≤ c) (hd : 1 ≤ d) (he : 1 ≤ e) (hf : 1 ≤ f) (h1 : a * a + b * b = c * c) (h2 : d * d + e * e = f * f)
    (hz : 0 < 2 * (a * b * (e * e - d * d) + d * e * (b * b - a * a))) :
    2 * a * b * f * f < 2 * d * e * c * c + 2 * (a * b * (e * e - d * d) + d * e * (b * b - a * a)) ∧ 2 * d * e * c * c < 2 * a * b * f * f + 2 * (a * b * (e * e - d * d) + d * e * (b * b - a * a)) ∧ 2 * (a * b * (e * e - d * d) + d * e * (b * b - a * a)) < 2 * a * b * f * f + 2 * d * e * c * c := by
  have e0 : 2 * (a * b * (e * e - d * d) + d * e * (b * b - a * a)) = 2 * ((a * e + b * d) * (b * e - a * d)) := by grind
  have p1 : 0 < a * e := Int.mul_pos (by omega) (by omega)
  have p2 : 0 < b * d := Int.mul_pos (by omega) (by omega)
  have p3 : 0 < b * e - a * d := by
    refine Classical.byContradiction fun n => ?_
    have : (a * e + b * d) * (b * e - a * d) ≤ 0 := Int.mul_nonpos_of_nonneg_of_nonpos (by omega) (by omega)
    omega
  have x1 : 2 * a * b * f * f = 2 * a * b * (d * d + e * e) := by rw [h2]; grind
  have x2 : 2 * d * e * c * c = 2 * d * e * (a * a + b * b) := by rw [h1]; grind
  rw [x1, x2]
  have q1 : 0 < d * b * (b * e - a * d) := Int.mul_pos (Int.mul_pos (by omega) (by omega)) p3
  have q2 : 0 < a * e * (b * e - a * d) := Int.mul_pos p1 p3
  have q3 : 0 < a * b * (d * d) := Int.mul_pos (Int.mul_pos (by omega) (by omega)) (Int.mul_pos (by omega) (by omega))
  have q4 : 0 < d * e * (a * a) := Int.mul_pos (Int.mul_pos (by omega) (by omega)) (Int.mul_pos (by omega) (by omega))
  have i1 : 2 * d * e * (a * a + b * b) + 2 * (a * b * (e * e - d * d) + d * e * (b * b - a * a)) - 2 * a * b * (d * d + e * e) = 4 * (d * b * (b * e - a * d)) := by grind
  have i2 : 2 * a * b * (d * d + e * e) + 2 * (a * b * (e * e - d * d) + d * e * (b * b - a * a)) - 2 * d * e * (a * a + b * b) = 4 * (a * e * (b * e - a * d)) := by grind
  have i3 : 2 * a * b * (d * d + e * e) + 2 * d * e * (a * a + b * b) - 2 * (a * b * (e * e - d * d) + d * e * (b * b - a * a)) = 4 * (a * b * (d * d)) + 4 * (d * e * (a * a)) := by grind
  omega
theorem mul4 {a b f : Int} (ha : 1 ≤ a) (hb : 1 ≤ b) (hf : 1 ≤ f) (ha2 : a ≤ 65) (hb2 : b ≤ 65) (hf2 : f ≤ 65) : 1 ≤ 2 * a * b * f * f ∧ 2 * a * b * f * f ≤ 40000000 := by
  have h1 : 1 ≤ a * b := by have := Int.mul_le_mul ha hb (by omega) (by omega); omega
  have h2 : a * b ≤ 65 * 65 := Int.mul_le_mul ha2 hb2 (by omega) (by omega)
  have h3 : 1 ≤ f * f := by have := Int.mul_le_mul hf hf (by omega) (by omega); omega
  have h4 : f * f ≤ 65 * 65 := Int.mul_le_mul hf2 hf2 (by omega) (by omega)
  have h5 : 1 ≤ (a * b) * (f * f) := by have := Int.mul_le_mul h1 h3 (by omega) (by omega); omega
  have h6 : (a * b) * (f * f) ≤ (65 * 65) * (65 * 65) := Int.mul_le_mul h2 h4 (by omega) (by omega)
  have e : 2 * a * b * f * f = 2 * ((a * b) * (f * f)) := by grind
  omega
theorem r__law_drawn [Has T i__law_roll f__law_roll] [Has T i__law_triangle f__law_triangle] [Has T i__law_right f__law_right] [Has T i__law_drawn f__law_drawn] {k : Nat} {c : Cup} {m : Int} (h1 : 1 ≤ m) (h9 : m ≤ 1000000000) : ∃ x y z, ∃ c' : Cup, Tri x y z ∧ run T (k + 3) i__law_drawn [.ref c.d, .v (.int m)] = .ok (.tup [.int x, .int y, .int z], false) c'.d := by
  rw [run_succ]
  have b3 : Bits (3 : Int) 3 := ⟨by decide⟩
  have b4 : Bits (4 : Int) 3 := ⟨by decide⟩
  have w0 := roll_nonneg (c := c) (m := 3) (by omega)
  have w1 := roll_lt (c := c) (m := 3) (by omega)
  generalize hw : c.roll 3 = w at w0 w1
  generalize hc1 : c.next 3 = c1
  by_cases hz : w = 0
  · obtain ⟨x, y, z, c', ht, _, e⟩ := r__law_triangle (T := T) (k := k) (c := c1) (m := m) h1 h9
    refine ⟨x, y, z, c', ht, ?_⟩
    simp (decide := true) [f__law_drawn, argsOk, hw, hc1, hz, e]
  · -- the two right triangles
    have p0 := roll_nonneg (c := c1) (m := 4) (by omega)
    have p1 := roll_lt (c := c1) (m := 4) (by omega)
    generalize hp : c1.roll 4 = p at p0 p1
    generalize hc2 : c1.next 4 = c2
    have q0 := roll_nonneg (c := c2) (m := 3) (by omega)
    have q1 := roll_lt (c := c2) (m := 3) (by omega)
    generalize hq : c2.roll 3 = q at q0 q1
    generalize hc3 : c2.next 3 = c3
    have r0 := roll_nonneg (c := c3) (m := 4) (by omega)
    have r1 := roll_lt (c := c3) (m := 4) (by omega)
    generalize hr : c3.roll 4 = r at r0 r1
    generalize hc4 : c3.next 4 = c4
    have s0 := roll_nonneg (c := c4) (m := 3) (by omega)
    have s1 := roll_lt (c := c4) (m := 3) (by omega)
    generalize hs : c4.roll 3 = s at s0 s1
    generalize hc5 : c4.next 3 = c5
    obtain ⟨a, b, ha, hab, hbc, hsq, e1⟩ := r__law_right (T := T) (k := k + 1) (o := 1 + p + 1 + q) (t := 1 + p) (by omega) (by omega) (by omega)
    obtain ⟨d, e, hd, hde, hef, hsq2, e2⟩ := r__law_right (T := T) (k := k + 1) (o := 1 + r + 1 + s) (t := 1 + r) (by omega) (by omega) (by omega)
    have c65 : (1 + p + 1 + q) * (1 + p + 1 + q) + (1 + p) * (1 + p) ≤ 65 := by
      have x1 := sq_le (show 0 ≤ 1 + p + 1 + q by omega) (show 1 + p + 1 + q ≤ 7 by omega)
      have x2 := sq_le (show 0 ≤ 1 + p by omega) (show 1 + p ≤ 4 by omega)
      omega
    have f65 : (1 + r + 1 + s) * (1 + r + 1 + s) + (1 + r) * (1 + r) ≤ 65 := by
      have x1 := sq_le (show 0 ≤ 1 + r + 1 + s by omega) (show 1 + r + 1 + s ≤ 7 by omega)
      have x2 := sq_le (show 0 ≤ 1 + r by omega) (show 1 + r ≤ 4 by omega)
      omega
    generalize hC : (1 + p + 1 + q) * (1 + p + 1 + q) + (1 + p) * (1 + p) = C at *
    generalize hF : (1 + r + 1 + s) * (1 + r + 1 + s) + (1 + r) * (1 + r) = F at *
    have ba : Bits a 7 := ⟨by omega⟩
    have bb : Bits b 7 := ⟨by omega⟩
    have bC : Bits C 7 := ⟨by omega⟩
    have bd : Bits d 7 := ⟨by omega⟩
    have be : Bits e 7 := ⟨by omega⟩
    have bF : Bits F 7 := ⟨by omega⟩
    by_cases hz1 : w = 1
    · obtain ⟨x, y, z, es, ht⟩ := tri_sort (x := C) (y := C) (z := 2 * a) (by omega) (by omega) (by omega) (by omega) (by omega) (by omega) (by omega) (by omega) (by omega)
      refine ⟨x, y, z, c5, ht, ?_⟩
      simp (decide := true) [f__law_drawn, argsOk, hw, hc1, hz1, rangeE, rgOk, rangeI, List.range, List.range.loop, forS, hp, hc2, hq, hc3, hr, hc4, hs, hc5, e1, e2, sort3_d, es]
    · by_cases h3 : 0 < 2 * (a * b * (e * e - d * d) + d * e * (b * b - a * a))
      · obtain ⟨t1, t2, t3⟩ := drawn_third (c := C) (f := F) ha (by omega) (by omega) hd (by omega) (by omega) hsq hsq2 h3
        obtain ⟨m1, m2⟩ := mul4 (a := a) (b := b) (f := F) ha (by omega) (by omega) (by omega) (by omega) (by omega)
        obtain ⟨m3, m4⟩ := mul4 (a := d) (b := e) (f := C) hd (by omega) (by omega) (by omega) (by omega) (by omega)
        obtain ⟨x, y, z, es, ht⟩ := tri_sort (x := 2 * a * b * F * F) (y := 2 * d * e * C * C) (z := 2 * (a * b * (e * e - d * d) + d * e * (b * b - a * a))) (by omega) (by omega) (by omega) (by omega) (by omega) (by omega) (by omega) (by omega) (by omega)
        refine ⟨x, y, z, c5, ht, ?_⟩
        simp (decide := true) [f__law_drawn, argsOk, hw, hc1, hz, hz1, rangeE, rgOk, rangeI, List.range, List.range.loop, forS, hp, hc2, hq, hc3, hr, hc4, hs, hc5, e1, e2, h3, sort3_d, es]
      · refine ⟨C, C, C, c5, by constructor <;> omega, ?_⟩
        simp (decide := true) [f__law_drawn, argsOk, hw, hc1, hz, hz1, rangeE, rgOk, rangeI, List.range, List.range.loop, forS, hp, hc2, hq, hc3, hr, hc4, hs, hc5, e1, e2, h3]
end G
end

section
set_option maxHeartbeats 200000
/-! A call that can be reckoned out: the same evaluator with so many turns of a while at most. -/
namespace G
def LeR {α : Type} (a b : Res α) : Prop := a = .no ∨ a = b
theorem LeR.refl {α : Type} (a : Res α) : LeR a a := .inr rfl
theorem LeR.bind {α β : Type} {a b : Res α} {f g : α → Env → Res β} (h : LeR a b) (k : ∀ x ρ, LeR (f x ρ) (g x ρ)) : LeR (a.bind f) (b.bind g) := by
  rcases h with rfl | rfl
  · exact .inl rfl
  · cases a with
    | no => exact .inl rfl
    | exc x ρ => exact .inr rfl
    | ok x ρ => exact k x ρ
theorem LeR.ite {α : Type} {c : Prop} [Decidable c] {a b a' b' : Res α} (h : LeR a a') (k : LeR b b') : LeR (if c then a else b) (if c then a' else b') := by
  split
  · exact h
  · exact k
def LeF (a b : FRes) : Prop := a = .no ∨ a = b
def LeC (a b : Call) : Prop := ∀ f as, LeF (a f as) (b f as)
def LeS (a b : SRes) : Prop := a = .no ∨ a = b
theorem LeS.refl (a : SRes) : LeS a a := .inr rfl
theorem LeR.callR {a b : FRes} {ρ : Env} {f : D → Env} (h : LeF a b) : LeR (callR a ρ f) (callR b ρ f) := by
  rcases h with rfl | rfl
  · exact .inl rfl
  · exact .inr rfl
theorem LeR.opd {e : E} {f g : Env → Res R} (h : ∀ ρ, LeR (f ρ) (g ρ)) (ρ : Env) : LeR (opd e f ρ) (opd e g ρ) := by
  unfold G.opd
  split
  · exact .refl _
  · exact (h ρ).bind fun _ _ => .refl _
theorem LeR.opdM {β : Type} {e : E} {f g : Env → Res R} {ρ : Env} {m n : Env → Res β} {k l : D → β → Env → Res R} (h : ∀ ρ, LeR (f ρ) (g ρ)) (hm : ∀ ρ, LeR (m ρ) (n ρ)) (hk : ∀ x y ρ, LeR (k x y ρ) (l x y ρ)) : LeR (opdM e f ρ m k) (opdM e g ρ n l) := by
  unfold G.opdM
  split
  · exact (LeR.refl _).bind fun _ ρ => (hm ρ).bind fun y ρ => (LeR.refl _).bind fun x ρ => hk x y ρ
  · exact (LeR.opd h ρ).bind fun x ρ => (hm ρ).bind fun y ρ => hk x y ρ
theorem LeR.turns {vs : List Nat} {p : P} {t u : Env → Res Bool} {f g : Env → Res (List D)} (ht : ∀ ρ, LeR (t ρ) (u ρ)) (hf : ∀ ρ, LeR (f ρ) (g ρ)) : ∀ (xs : List D) (ρ : Env), LeR (turns vs p t f xs ρ) (turns vs p u g xs ρ)
  | [], ρ => .refl _
  | x :: xs, ρ => by
    simp only [G.turns]
    exact (LeR.refl _).bind fun ρ _ => (ht ρ).bind fun b ρ => .ite ((hf ρ).bind fun ds ρ => .ite ((LeR.turns ht hf xs _).bind fun _ _ => .refl _) (.refl _)) (.ite (LeR.turns ht hf xs _) (.refl _))
section
variable {cal cal' : Call} (hc : LeC cal cal')
include hc
mutual
theorem le_E : ∀ (e : E) (ρ : Env), LeR (evalE cal e ρ) (evalE cal' e ρ)
  | .c d, ρ => by simp only [evalE]; exact .refl _
  | .v i, ρ => by simp only [evalE]; exact .refl _
  | .tup es, ρ => by simp only [evalE]; exact (le_Es es ρ).bind fun _ _ => .refl _
  | .lst es, ρ => by simp only [evalE]; exact (le_Es es ρ).bind fun _ _ => .refl _
  | .op1 o a, ρ => by simp only [evalE]; exact (LeR.opd (le_E a) ρ).bind fun _ _ => .refl _
  | .op2 o a b, ρ => by simp only [evalE]; exact .opdM (le_E a) (LeR.opd (le_E b)) fun _ _ _ => .refl _
  | .cut a lo hi, ρ => by simp only [evalE]; exact .opdM (le_E a) (fun ρ => (LeR.opd (le_E lo) ρ).bind fun _ _ => (LeR.refl _).bind fun _ ρ => (LeR.opd (le_E hi) ρ).bind fun _ _ => .refl _) fun _ _ _ => .refl _
  | .from a lo, ρ => by simp only [evalE]; exact .opdM (le_E a) (fun ρ => (LeR.opd (le_E lo) ρ).bind fun _ _ => .refl _) fun _ _ _ => .refl _
  | .to a hi, ρ => by simp only [evalE]; exact .opdM (le_E a) (fun ρ => (LeR.opd (le_E hi) ρ).bind fun _ _ => .refl _) fun _ _ _ => .refl _
  | .and a b, ρ => by simp only [evalE]; exact (le_E a ρ).bind fun _ _ => (LeR.refl _).bind fun _ ρ => .ite (le_E b ρ) (.refl _)
  | .or a b, ρ => by simp only [evalE]; exact (le_E a ρ).bind fun _ _ => (LeR.refl _).bind fun _ ρ => .ite (.refl _) (le_E b ρ)
  | .not a, ρ => by simp only [evalE]; exact (le_E a ρ).bind fun _ _ => .refl _
  | .ifx t a b, ρ => by simp only [evalE]; exact (le_T t ρ).bind fun _ ρ => .ite (le_E a ρ) (le_E b ρ)
  | .chain o p a b c, ρ => by
    simp only [evalE]
    exact (LeR.opd (le_E a) ρ).bind fun _ _ => (LeR.refl _).bind fun _ ρ => (LeR.opd (le_E b) ρ).bind fun _ _ => (LeR.refl _).bind fun _ _ => (LeR.refl _).bind fun _ ρ => .ite ((LeR.opd (le_E c) ρ).bind fun _ _ => .refl _) (.refl _)
  | .chain3 o p q a b c d, ρ => by
    simp only [evalE]
    exact (LeR.opd (le_E a) ρ).bind fun _ _ => (LeR.refl _).bind fun _ ρ => (LeR.opd (le_E b) ρ).bind fun _ _ => (LeR.refl _).bind fun _ _ => (LeR.refl _).bind fun _ ρ => .ite ((LeR.opd (le_E c) ρ).bind fun _ _ => (LeR.refl _).bind fun _ _ => (LeR.refl _).bind fun _ ρ => .ite ((LeR.opd (le_E d) ρ).bind fun _ _ => .refl _) (.refl _)) (.refl _)
  | .call f es, ρ => by simp only [evalE]; exact (le_Es es ρ).bind fun _ _ => .callR (hc _ _)
  | .callr f i es, ρ => by
    simp only [evalE]
    refine (LeR.refl _).bind fun _ ρ => (le_Es es ρ).bind fun _ ρ => ?_
    split
    · exact .callR (hc _ _)
    · exact .callR (hc _ _)
    · exact .refl _
  | .comp own elt p it ifs gs, ρ => by
    simp only [evalE]
    exact (le_I it ρ).bind fun xs ρ => .ite ((LeR.turns (le_Fs ifs) (le_C (le_E elt) gs) xs _).bind fun _ _ => .refl _) (.refl _)
  | .pop i, ρ => by simp only [evalE]; exact .refl _
  | .popAt i a, ρ => by simp only [evalE]; exact .ite ((LeR.opd (le_E a) ρ).bind fun _ _ => .refl _) (.refl _)
theorem le_Es : ∀ (es : List E) (ρ : Env), LeR (evalEs cal es ρ) (evalEs cal' es ρ)
  | [], ρ => by simp only [evalEs]; exact .refl _
  | e :: es, ρ => by simp only [evalEs]; exact (le_E e ρ).bind fun _ ρ => (le_Es es ρ).bind fun _ _ => .refl _
theorem le_T : ∀ (t : T) (ρ : Env), LeR (evalT cal t ρ) (evalT cal' t ρ)
  | .and a b, ρ => by simp only [evalT]; exact (le_T a ρ).bind fun _ ρ => .ite (le_T b ρ) (.refl _)
  | .or a b, ρ => by simp only [evalT]; exact (le_T a ρ).bind fun _ ρ => .ite (.refl _) (le_T b ρ)
  | .not a, ρ => by simp only [evalT]; exact (le_T a ρ).bind fun _ _ => .refl _
  | .e a, ρ => by simp only [evalT]; exact (LeR.opd (le_E a) ρ).bind fun _ _ => .refl _
  | .b a, ρ => by simp only [evalT]; exact (le_E a ρ).bind fun _ _ => .refl _
theorem le_I : ∀ (t : I) (ρ : Env), LeR (evalI cal t ρ) (evalI cal' t ρ)
  | .e a, ρ => by simp only [evalI]; exact (le_E a ρ).bind fun _ _ => .refl _
  | .range es, ρ => by simp only [evalI]; exact (le_Es es ρ).bind fun _ _ => .refl _
  | .enum a, ρ => by simp only [evalI]; exact (le_E a ρ).bind fun _ _ => .refl _
  | .zip es, ρ => by simp only [evalI]; exact (le_Es es ρ).bind fun _ _ => .refl _
theorem le_Fs : ∀ (ts : List T) (ρ : Env), LeR (evalFs cal ts ρ) (evalFs cal' ts ρ)
  | [], ρ => by simp only [evalFs]; exact .refl _
  | t :: ts, ρ => by simp only [evalFs]; exact (le_T t ρ).bind fun _ ρ => .ite (le_Fs ts ρ) (.refl _)
theorem le_C {f g : Env → Res R} (h : ∀ ρ, LeR (f ρ) (g ρ)) : ∀ (gs : List Gen) (ρ : Env), LeR (compE cal f gs ρ) (compE cal' g gs ρ)
  | [], ρ => by simp only [compE]; exact (h ρ).bind fun _ _ => .refl _
  | .mk own p it ifs :: gs, ρ => by simp only [compE]; exact (le_I it ρ).bind fun xs ρ => .turns (le_Fs ifs) (le_C h gs) xs ρ
end
theorem le_Rs : ∀ (es : List E) (ρ : Env), LeR (evalRs cal es ρ) (evalRs cal' es ρ)
  | [], ρ => by simp only [evalRs]; exact .refl _
  | e :: es, ρ => by simp only [evalRs]; exact (le_E hc e ρ).bind fun _ ρ => (le_Rs es ρ).bind fun _ _ => .refl _
end
theorem LeS.st {α : Type} {a b : Res α} {f g : α → Env → SRes} (h : LeR a b) (k : ∀ x ρ, LeS (f x ρ) (g x ρ)) : LeS (a.st f) (b.st g) := by
  rcases h with rfl | rfl
  · exact .inl rfl
  · cases a with
    | no => exact .inl rfl
    | exc x ρ => exact .inr rfl
    | ok x ρ => exact k x ρ
theorem LeS.ite {c : Prop} [Decidable c] {a b a' b' : SRes} (h : LeS a a') (k : LeS b b') : LeS (if c then a else b) (if c then a' else b') := by
  split
  · exact h
  · exact k
theorem LeS.seq {a b : SRes} {f g : Env → SRes} (h : LeS a b) (k : ∀ ρ, LeS (f ρ) (g ρ)) : LeS (a.seq f) (b.seq g) := by
  rcases h with rfl | rfl
  · exact .inl rfl
  · cases a with
    | nx ρ => exact k ρ
    | no => exact .inl rfl
    | _ => exact .inr rfl
theorem LeS.for {p : P} {f g : Env → SRes} (h : ∀ ρ, LeS (f ρ) (g ρ)) : ∀ (xs : List D) (ρ : Env), LeS (forS p f xs ρ) (forS p g xs ρ)
  | [], ρ => .refl _
  | x :: xs, ρ => by
    unfold forS
    split
    · exact .refl _
    · rename_i ρ' _
      rcases h ρ' with e | e
      · rw [e]; exact .inl rfl
      · rw [e]
        split
        · exact LeS.for h xs _
        · exact LeS.for h xs _
        all_goals exact .refl _
theorem LeS.while {t u : Env → Res Bool} {f g : Env → SRes} (ht : ∀ ρ, LeR (t ρ) (u ρ)) (hf : ∀ ρ, LeS (f ρ) (g ρ)) : ∀ (n : Nat) (ρ : Env), LeS (whileN t f n ρ) (whileS u g ρ)
  | 0, ρ => .inl rfl
  | n + 1, ρ => by
    rw [whileN, whileS_eq]
    refine .st (ht ρ) fun c ρ => .ite ?_ (.refl _)
    rcases hf ρ with e | e
    · rw [e]; exact .inl rfl
    · rw [e]
      split
      · exact LeS.while ht hf n _
      · exact LeS.while ht hf n _
      all_goals exact .refl _
section
variable (w : Nat) (cal : Call)
mutual
def execC : Sm → Env → SRes
  | .set p e, ρ => (evalE cal e ρ).st fun r ρ => optS (setP p r ρ)
  | .par is es, ρ => (evalRs cal es ρ).st fun rs ρ => optS (setAll is rs ρ)
  | .sub i a e, ρ => if isL ρ[i]? then (evalE cal e ρ).st fun r ρ => (opd a (evalE cal a) ρ).st fun k ρ => change i ρ (storeAt k r.1) else .no
  | .expr e, ρ => (evalE cal e ρ).st fun _ ρ => .nx ρ
  | .append i e, ρ => if isL ρ[i]? then (evalE cal e ρ).st fun r ρ => change i ρ (appendTo r.1) else .no
  | .ifs t a b, ρ => (evalT cal t ρ).st fun c ρ => if c then execsC a ρ else execsC b ρ
  | .whil t b, ρ => whileN (evalT cal t) (execsC b) w ρ
  | .forr p it b, ρ => (evalI cal it ρ).st fun xs ρ => forS p (execsC b) xs ρ
  | .ret e, ρ => (evalE cal e ρ).st fun r ρ => .ret r ρ
  | .retV i, ρ => retV i ρ
  | .retN, ρ => .ret (.non, false) ρ
  | .pass, ρ => .nx ρ
  | .brk, ρ => .brk ρ
  | .ct, ρ => .ct ρ
  | .rais c es, ρ => (evalEs cal es ρ).st fun ds ρ => .exc ⟨c, ds.head?⟩ ρ
def execsC : List Sm → Env → SRes
  | [], ρ => .nx ρ
  | s :: ss, ρ => (execC s ρ).seq fun ρ => execsC ss ρ
end
end
section
variable {w : Nat} {cal cal' : Call} (hc : LeC cal cal')
include hc
mutual
theorem le_exec : ∀ (s : Sm) (ρ : Env), LeS (execC w cal s ρ) (exec cal' s ρ)
  | .set p e, ρ => by simp only [exec, execC]; exact .st (le_E hc e ρ) fun _ _ => .refl _
  | .par is es, ρ => by simp only [exec, execC]; exact .st (le_Rs hc es ρ) fun _ _ => .refl _
  | .sub i a e, ρ => by simp only [exec, execC]; exact .ite (.st (le_E hc e ρ) fun _ ρ => .st (.opd (le_E hc a) ρ) fun _ _ => .refl _) (.refl _)
  | .expr e, ρ => by simp only [exec, execC]; exact .st (le_E hc e ρ) fun _ _ => .refl _
  | .append i e, ρ => by simp only [exec, execC]; exact .ite (.st (le_E hc e ρ) fun _ _ => .refl _) (.refl _)
  | .ifs t a b, ρ => by simp only [exec, execC]; exact .st (le_T hc t ρ) fun _ ρ => .ite (le_execs a ρ) (le_execs b ρ)
  | .whil t b, ρ => by simp only [exec, execC]; exact .while (le_T hc t) (le_execs b) w ρ
  | .forr p it b, ρ => by simp only [exec, execC]; exact .st (le_I hc it ρ) fun xs ρ => .for (le_execs b) xs ρ
  | .ret e, ρ => by simp only [exec, execC]; exact .st (le_E hc e ρ) fun _ _ => .refl _
  | .retV i, ρ => by simp only [exec, execC]; exact .refl _
  | .retN, ρ => by simp only [exec, execC]; exact .refl _
  | .pass, ρ => by simp only [exec, execC]; exact .refl _
  | .brk, ρ => by simp only [exec, execC]; exact .refl _
  | .ct, ρ => by simp only [exec, execC]; exact .refl _
  | .rais c es, ρ => by simp only [exec, execC]; exact .st (le_Es hc es ρ) fun _ _ => .refl _
theorem le_execs : ∀ (ss : List Sm) (ρ : Env), LeS (execsC w cal ss ρ) (execs cal' ss ρ)
  | [], ρ => by simp only [execs, execsC]; exact .refl _
  | s :: ss, ρ => by simp only [execs, execsC]; exact .seq (le_exec s ρ) fun ρ => le_execs ss ρ
end
end
/-- a call reckoned out: at most w turns of each while -/
def runC (w : Nat) (T : Table) : Nat → Call
  | 0, _, _ => .no
  | k + 1, f, as => match T f with
    | none => .no
    | some fn => if argsOk fn as then finish fn.byref (execsC w (runC w T k) fn.body (start fn.slots as)) else .no
theorem runC_le (w : Nat) (T : Table) : ∀ k, LeC (runC w T k) (run T k)
  | 0, f, as => .inl rfl
  | k + 1, f, as => by
    unfold runC run
    cases T f with
    | none => exact .inl rfl
    | some fn =>
      simp only []
      split
      · rcases le_execs (w := w) (runC_le w T k) fn.body (start fn.slots as) with e | e
        · rw [e]; exact .inl rfl
        · rw [e]; exact .inr rfl
      · exact .inl rfl
theorem run_of {w : Nat} {T : Table} {k f : Nat} {as : List S} {r : FRes} (h : runC w T k f as = r) (hr : r ≠ .no) : run T k f as = r := by
  rcases runC_le w T k f as with e | e
  · exact absurd (h.symm.trans e) hr
  · exact e.symm.trans h
/-- is it just this -/
def FRes.isR (a : FRes) (r : R) (d : D) : Bool := match a with
  | .ok r' d' => decide (r' = r) && decide (d' = d)
  | _ => false
theorem run_is {w : Nat} {T : Table} {k f : Nat} {as : List S} {r : R} {d : D} (h : (runC w T k f as).isR r d = true) : run T k f as = .ok r d := by
  cases e : runC w T k f as with
  | ok r' d' =>
    rw [e] at h
    simp only [FRes.isR, Bool.and_eq_true, decide_eq_true_eq] at h
    rw [run_of e (by simp), h.1, h.2]
  | exc x d' => rw [e] at h; cases h
  | no => rw [e] at h; cases h
theorem execs_of {w : Nat} {T : Table} {k : Nat} {ss : List Sm} {ρ : Env} {r : SRes} (h : execsC w (runC w T k) ss ρ = r) (hr : r ≠ .no) : execs (run T k) ss ρ = r := by
  rcases le_execs (w := w) (runC_le w T k) ss ρ with e | e
  · exact absurd (h.symm.trans e) hr
  · exact e.symm.trans h
end G
end

section
set_option maxHeartbeats 1000000
namespace G
/-! ### squares -/
theorem sq_of {n r : Int} (h : n = r * r) : Sq n := by
  subst h
  by_cases w0 : 0 ≤ r
  · exact ⟨Int.mul_nonneg w0 w0, by rw [rt_sq w0]⟩
  · have : r * r = (-r) * (-r) := by grind
    rw [this]
    exact ⟨Int.mul_nonneg (by omega) (by omega), by rw [rt_sq (by omega)]⟩
theorem Sq.ex {n : Int} (h : Sq n) : ∃ r, 0 ≤ r ∧ n = r * r := ⟨rt n, rt_nonneg n, h.2.symm⟩
theorem Sq.mul {x y : Int} (hx : Sq x) (hy : Sq y) : Sq (x * y) := by
  obtain ⟨r, _, rfl⟩ := hx.ex
  obtain ⟨s, _, rfl⟩ := hy.ex
  exact sq_of (r := r * s) (by grind)
theorem Sq.cancel {x y : Int} (h0 : x ≠ 0) (hx : Sq x) (hxy : Sq (x * y)) : Sq y := by
  obtain ⟨q, q0, rfl⟩ := hx.ex
  obtain ⟨p, p0, e⟩ := hxy.ex
  have qne : q ≠ 0 := fun z => by subst z; simp at h0
  have dv : q * q ∣ p * p := ⟨y, by rw [← e]⟩
  have dv2 : q ∣ p := by
    have := Int.natAbs_dvd_natAbs.mpr dv
    rw [Int.natAbs_mul, Int.natAbs_mul, ← Nat.pow_two, ← Nat.pow_two] at this
    exact Int.natAbs_dvd_natAbs.mp ((Nat.pow_dvd_pow_iff (by omega)).mp this)
  obtain ⟨w, hw⟩ := dv2
  refine sq_of (r := w) ?_
  rw [hw] at e
  have : (q * q) * y = (q * q) * (w * w) := by rw [e]; grind
  exact Int.eq_of_mul_eq_mul_left (Int.mul_ne_zero qne qne) this
end G
end

section
set_option maxHeartbeats 1000000
/-! General: comprehensions of one name, values of any kind, likeness for simp. -/
namespace G
variable {T : Table}
theorem wipe1 {ρ : Env} {j : Nat} (hj : ρ[j]? = some .no) (s : S) : wipe (ρ.set j s) [j] = ρ := by
  simp only [wipe_cons, wipe_nil, List.set_set]
  obtain ⟨h, e⟩ := List.getElem?_eq_some_iff.mp hj
  rw [← e]
  exact List.set_getElem_self h
theorem hides1 {ρ : Env} {j : Nat} {d : D} : hides (ρ.set j (.v d)) [j] = true := by
  have e : (ρ.set j (.v d)).getD j .no = if j < ρ.length then S.v d else .no := by
    rw [List.getD_eq_getElem?_getD, List.getElem?_set, if_pos rfl]
    split
    · rfl
    · rfl
  simp only [hides_cons, hides_nil, Bool.and_true, e]
  by_cases h : j < ρ.length
  · rw [if_pos h]
  · rw [if_neg h]
theorem turns_filt {cal : Call} {ts : List G.T} {elt : E} {j : Nat} {ρ : Env} (hj : ρ[j]? = some .no) (p : D → Bool) (g : D → D) (xs : List D)
    (h : ∀ x ∈ xs, evalFs cal ts (ρ.set j (.v x)) = .ok (p x) (ρ.set j (.v x)) ∧ (p x = true → ∃ b, evalE cal elt (ρ.set j (.v x)) = .ok (g x, b) (ρ.set j (.v x)))) :
    turns [j] (.n j) (evalFs cal ts) (compE cal (evalE cal elt) []) xs ρ = .ok ((xs.filter p).map g) ρ := by
  have hlt : j < ρ.length := (List.getElem?_eq_some_iff.mp hj).1
  have := turns_gen (vs := [j]) (p := .n j) (t := evalFs cal ts) (f := compE cal (evalE cal elt) []) (ρ0 := ρ) id p (fun x => [g x]) xs fun x hx => by
    obtain ⟨h1, h2⟩ := h x hx
    refine ⟨ρ.set j (.v x), ρ.set j (.v x), ρ.set j (.v x), by simp [hlt], h1, fun hp => ?_, fun hp => ⟨hides1, wipe1 hj _⟩⟩
    obtain ⟨b, e⟩ := h2 hp
    refine ⟨?_, hides1, wipe1 hj _⟩
    simp only [compE]
    rw [e]
    rfl
  rw [List.map_id] at this
  rw [this]
  congr 1
  induction xs.filter p with
  | nil => rfl
  | cons x xs ih => simp [List.flatMap_cons, ih]
theorem turns_map {cal : Call} {elt : E} {j : Nat} {ρ : Env} (hj : ρ[j]? = some .no) (g : D → D) (xs : List D)
    (h : ∀ x ∈ xs, ∃ b, evalE cal elt (ρ.set j (.v x)) = .ok (g x, b) (ρ.set j (.v x))) :
    turns [j] (.n j) (evalFs cal []) (compE cal (evalE cal elt) []) xs ρ = .ok (xs.map g) ρ := by
  have := turns_filt (cal := cal) (ts := []) (elt := elt) hj (fun _ => true) g xs fun x hx => ⟨by simp only [evalFs], fun _ => h x hx⟩
  rw [this, List.filter_eq_self.mpr fun _ _ => rfl]
/-- a comprehension that keeps none -/
theorem turns_none {cal : Call} {ts : List G.T} {elt : E} {j : Nat} {ρ : Env} (hj : ρ[j]? = some .no) (xs : List D)
    (h : ∀ x ∈ xs, evalFs cal ts (ρ.set j (.v x)) = .ok false (ρ.set j (.v x))) :
    turns [j] (.n j) (evalFs cal ts) (compE cal (evalE cal elt) []) xs ρ = .ok [] ρ := by
  rw [turns_filt hj (fun _ => false) id xs fun x hx => ⟨h x hx, fun e => nomatch e⟩, List.filter_eq_nil_iff.mpr fun _ _ => by simp]
  rfl
@[simp] theorem bls_mapf {α : Type} {p : α → Bool} {xs : List α} : bls (xs.map fun x => D.bl (p x)) = some (xs.map p) := by
  induction xs with
  | nil => rfl
  | cons x xs ih => rw [List.map_cons, bls_cons, ih]; rfl
@[simp] theorem ints_mapf {α : Type} {p : α → Int} {xs : List α} : intsD (xs.map fun x => D.int (p x)) = some (xs.map p) := by
  induction xs with
  | nil => rfl
  | cons x xs ih => rw [List.map_cons, ints_cons, ih]; rfl
theorem fits_iff {n : Nat} : ∀ {xs : List D}, D.fits n xs = true ↔ ∀ x ∈ xs, D.fit n x = true
  | [] => by simp [D.fits]
  | x :: xs => by simp [D.fits, fits_iff (xs := xs)]
theorem fits_filter {n : Nat} {xs : List D} {p : D → Bool} (h : D.fits n xs = true) : D.fits n (xs.filter p) = true :=
  fits_iff.mpr fun x hx => fits_iff.mp h x (List.mem_filter.mp hx).1
theorem fits_append {n : Nat} {xs ys : List D} (h : D.fits n xs = true) (k : D.fits n ys = true) : D.fits n (xs ++ ys) = true :=
  fits_iff.mpr fun x hx => (List.mem_append.mp hx).elim (fits_iff.mp h x) (fits_iff.mp k x)
theorem eqG_lnil {n : Nat} {l : List D} (h : D.fits n l = true) (hn : n ≤ 63) : eqG (.lst l) (.lst []) = some l.isEmpty := by
  unfold eqG
  rw [show D.fit 64 (.lst l) = true from fits_up l n 63 hn h]
  cases l <;> rfl
@[simp] theorem fit_non {n : Nat} : D.fit n .non = true := by cases n <;> rfl
@[simp] theorem fit_bl {n : Nat} {b : Bool} : D.fit n (.bl b) = true := by cases n <;> rfl
@[simp] theorem fit_int {n : Nat} {b : Int} : D.fit n (.int b) = true := by cases n <;> rfl
@[simp] theorem fit_tup {n : Nat} {xs : List D} : D.fit (n + 1) (.tup xs) = D.fits n xs := by simp [D.fit]
@[simp] theorem fit_lst {n : Nat} {xs : List D} : D.fit (n + 1) (.lst xs) = D.fits n xs := by simp [D.fit]
@[simp] theorem fit_str {n : Nat} {s : PySem.Str} : D.fit n (.str s) = strOk s := by cases n <;> simp [D.fit]
@[simp] theorem fits_nil {n : Nat} : D.fits n [] = true := by simp [D.fits]
@[simp] theorem fits_cons {n : Nat} {x : D} {xs : List D} : D.fits n (x :: xs) = (D.fit n x && D.fits n xs) := by simp [D.fits]
@[simp] theorem eqG_nn : eqG (.lst []) (.lst []) = some true := rfl
@[simp] theorem atI_lit {xs : List D} {n : Nat} : atI xs (no_index (@OfNat.ofNat Int n (@instOfNat n))) = xs[n]? := by
  show atI xs (n : Int) = _
  unfold atI ixN
  rw [if_pos (by omega)]
  split
  · simp
  · rw [List.getElem?_eq_none (by omega)]; rfl
@[simp] theorem o_revl {xs : List D} : op1 .rev (.lst xs) = some (.lst xs.reverse, true) := rfl
@[simp] theorem o_revt {xs : List D} : op1 .rev (.tup xs) = some (.tup xs.reverse, false) := rfl
theorem eqG_tnil {n : Nat} {l : List D} (h : D.fits n l = true) (hn : n ≤ 63) : eqG (.tup l) (.tup []) = some l.isEmpty := by
  unfold eqG
  rw [show D.fit 64 (.tup l) = true from fits_up l n 63 hn h]
  cases l <;> rfl
theorem cut_sub {α : Type} {xs : List α} {lo hi : Option Int} : ∀ x ∈ cut xs lo hi, x ∈ xs := fun x h => List.mem_of_mem_drop (List.mem_of_mem_take h)
theorem cut_len {α : Type} {xs : List α} {lo hi : Option Int} : (cut xs lo hi).length ≤ xs.length := by
  unfold cut
  rw [List.length_take, List.length_drop]
  omega
theorem fits_cut {n : Nat} {xs : List D} {lo hi : Option Int} (h : D.fits n xs = true) : D.fits n (cut xs lo hi) = true :=
  fits_iff.mpr fun x hx => fits_iff.mp h x (cut_sub x hx)
/-- likeness, for simp -/
theorem like_s [Has T i__law_sort f__law_sort] [Has T i__law_like f__law_like] {k : Nat} {d : D} (hf : D.fit 6 d = true) (hk : 8 ≤ k) : run T k i__law_like [.v d, .v d] = .ok (.bl true, false) .non := r_like rfl hf (by omega) (by omega)
/-! ### values of any kind -/
theorem r_tuple_any [Has T i_is_tuple_of f_is_tuple_of] {k m : Nat} {d : D} {lo hi : Int} (hd : D.fit m d = true) (hn : ∀ xs, d ≠ .tup xs) : run T (k + 1) i_is_tuple_of [.v d, .v (.int lo), .v (.int hi)] = .ok (.bl false, false) .non := by
  rw [run_succ]
  cases d with
  | tup xs => exact absurd rfl (hn xs)
  | fn f => simp [D.fit] at hd
  | scr f => simp [D.fit] at hd
  | _ => simp [f_is_tuple_of, argsOk]
def wholeD (lo hi : Int) : D → Bool
  | .int a => decide (lo ≤ a) && decide (a ≤ hi)
  | _ => false
theorem r_whole_any [Has T i_is_integer f_is_integer] [Has T i_is_whole f_is_whole] {k m : Nat} {d : D} {lo hi : Int} (hd : D.fit m d = true) : run T (k + 2) i_is_whole [.v d, .v (.int lo), .v (.int hi)] = .ok (.bl (wholeD lo hi d), false) .non := by
  have e := r_is_integer (T := T) k d
  rw [run_succ]
  cases d with
  | int a => simp [f_is_whole, argsOk, wholeD]; by_cases h : lo ≤ a <;> simp [h]
  | fn f => simp [D.fit] at hd
  | scr f => simp [D.fit] at hd
  | _ => simp at e; simp [f_is_whole, argsOk, e, wholeD]
abbrev sideB : D → Bool := wholeD 1 1000000000
theorem r_side_any [Has T i_is_integer f_is_integer] [Has T i_is_whole f_is_whole] [Has T i_is_side f_is_side] {k m : Nat} {d : D} (hd : D.fit m d = true) : run T (k + 3) i_is_side [.v d] = .ok (.bl (sideB d), false) .non := by
  have e := r_whole_any (T := T) (k := k) (lo := 1) (hi := 1000000000) hd
  rw [run_succ]
  simp [f_is_side, argsOk, e]
theorem wholeD_int {lo hi : Int} {d : D} (h : wholeD lo hi d = true) : ∃ a, d = .int a ∧ lo ≤ a ∧ a ≤ hi := by
  cases d <;> simp [wholeD] at h
  exact ⟨_, rfl, h⟩
/-- the law's own way to ask of an item -/
def nsideB (d : D) : Bool := !sideB d
def notN : D → Bool
  | .non => false
  | _ => true
theorem read_set {ρ : Env} {j : Nat} {d : D} (hj : ρ[j]? = some .no) : readAt j (ρ.set j (.v d)) = .ok d (ρ.set j (.v d)) := by
  have hl : (ρ.set j (.v d))[j]? = some (.v d) := by rw [List.getElem?_set, if_pos rfl, if_pos (List.getElem?_eq_some_iff.mp hj).1]
  unfold readAt
  rw [hl]
theorem peek_set {ρ : Env} {j : Nat} {d : D} (hj : ρ[j]? = some .no) : peekAt j (ρ.set j (.v d)) = some d := by
  have hl : (ρ.set j (.v d))[j]? = some (.v d) := by rw [List.getElem?_set, if_pos rfl, if_pos (List.getElem?_eq_some_iff.mp hj).1]
  unfold peekAt
  rw [hl]
  rfl
/-- those that are not None -/
theorem turns_notN {cal : Call} {j : Nat} {ρ : Env} {xs : List D} (hj : ρ[j]? = some .no) :
    turns [j] (.n j) (evalFs cal [.b (.op1 .notNone (.v j))]) (compE cal (evalE cal (.v j)) []) xs ρ = .ok (xs.filter notN) ρ := by
  rw [turns_filt hj notN id xs fun x _ => ?_, List.map_id]
  refine ⟨?_, fun _ => ⟨false, by simp [read_set hj]⟩⟩
  cases x <;> simp [peek_set hj, notN]
@[simp] theorem setP_cup {i : Nat} {c : Cup} {ρ : Env} (h : ∀ e, ρ.getD i .no ≠ .ref e) (hi : i < ρ.length) : setP (.n i) (c.d, true) ρ = some (ρ.set i (.own c.d)) := by
  unfold Cup.d; exact setP_nl h hi
end G
end

section
set_option maxHeartbeats 1000000
/-! General: sums over ranges, loops over ranges. -/
namespace G
theorem int_up {P : Int → Prop} {lo : Int} (base : P lo) (step : ∀ i, lo ≤ i → P i → P (i + 1)) : ∀ i, lo ≤ i → P i := by
  have key : ∀ n : Nat, P (lo + n) := by
    intro n
    induction n with
    | zero => simpa using base
    | succ n ih =>
      have := step (lo + n) (by omega) ih
      rw [show lo + ((n + 1 : Nat) : Int) = lo + n + 1 by omega]
      exact this
  intro i h
  have := key (i - lo).toNat
  rwa [show lo + ((i - lo).toNat : Int) = i by omega] at this
theorem rng_empty {lo hi : Int} (h : hi ≤ lo) : rng lo hi = [] := by
  unfold rng
  rw [show (hi - lo).toNat = 0 by omega]
  rfl
theorem rng_succ {lo hi : Int} (h : lo ≤ hi) : rng lo (hi + 1) = rng lo hi ++ [hi] := by
  unfold rng
  rw [show (hi + 1 - lo).toNat = (hi - lo).toNat + 1 by omega, List.range_succ, List.map_append]
  simp
  omega
theorem rng_cons {lo hi : Int} (h : lo < hi) : rng lo hi = lo :: rng (lo + 1) hi := by
  unfold rng
  rw [show (hi - lo).toNat = (hi - (lo + 1)).toNat + 1 by omega, List.range_succ_eq_map, List.map_cons, List.map_map]
  simp
  intro a _
  omega
def sumR (lo hi : Int) (f : Int → Int) : Int := ((rng lo hi).map f).sum
theorem sumR_empty {lo hi : Int} {f : Int → Int} (h : hi ≤ lo) : sumR lo hi f = 0 := by unfold sumR; rw [rng_empty h]; rfl
theorem sumR_succ {lo hi : Int} {f : Int → Int} (h : lo ≤ hi) : sumR lo (hi + 1) f = sumR lo hi f + f hi := by
  unfold sumR; rw [rng_succ h, List.map_append, List.sum_append]; simp
theorem sumR_cons {lo hi : Int} {f : Int → Int} (h : lo < hi) : sumR lo hi f = f lo + sumR (lo + 1) hi f := by
  unfold sumR; rw [rng_cons h, List.map_cons, List.sum_cons]
theorem sumR_one {lo : Int} {f : Int → Int} : sumR lo (lo + 1) f = f lo := by rw [sumR_succ (Int.le_refl _), sumR_empty (Int.le_refl _)]; omega
theorem sumR_congr {lo hi : Int} {f g : Int → Int} (h : ∀ i, lo ≤ i → i < hi → f i = g i) : sumR lo hi f = sumR lo hi g := by
  unfold sumR
  rw [List.map_congr_left fun i hi => h i (mem_rng.mp hi).1 (mem_rng.mp hi).2]
theorem sumR_split {lo mid hi : Int} {f : Int → Int} (h1 : lo ≤ mid) (h2 : mid ≤ hi) : sumR lo hi f = sumR lo mid f + sumR mid hi f := by
  refine int_up (P := fun hi => sumR lo hi f = sumR lo mid f + sumR mid hi f) ?_ ?_ hi h2
  · rw [sumR_empty (f := f) (Int.le_refl mid)]; omega
  · intro i h ih
    rw [sumR_succ (by omega), sumR_succ h, ih]; omega
theorem sumR_add {lo hi : Int} {f g : Int → Int} : sumR lo hi (fun i => f i + g i) = sumR lo hi f + sumR lo hi g := by
  by_cases h : lo ≤ hi
  · refine int_up (P := fun hi => sumR lo hi (fun i => f i + g i) = sumR lo hi f + sumR lo hi g) ?_ ?_ hi h
    · rw [sumR_empty (Int.le_refl _), sumR_empty (Int.le_refl _), sumR_empty (Int.le_refl _)]; rfl
    · intro i hi ih
      rw [sumR_succ hi, sumR_succ hi, sumR_succ hi, ih]; omega
  · rw [sumR_empty (by omega), sumR_empty (by omega), sumR_empty (by omega)]; rfl
theorem sumR_zero {lo hi : Int} : sumR lo hi (fun _ => 0) = 0 := by
  by_cases h : lo ≤ hi
  · refine int_up (P := fun hi => sumR lo hi (fun _ => 0) = 0) (sumR_empty (Int.le_refl _)) (fun i hi ih => ?_) hi h
    rw [sumR_succ hi, ih]; rfl
  · exact sumR_empty (by omega)
theorem sumR_swap {a b c d : Int} {f : Int → Int → Int} : sumR a b (fun i => sumR c d (fun j => f i j)) = sumR c d (fun j => sumR a b (fun i => f i j)) := by
  by_cases h : a ≤ b
  · refine int_up (P := fun b => sumR a b (fun i => sumR c d (fun j => f i j)) = sumR c d (fun j => sumR a b (fun i => f i j))) ?_ ?_ b h
    · rw [sumR_empty (Int.le_refl _), sumR_congr (g := fun _ => 0) (fun j _ _ => sumR_empty (Int.le_refl _)), sumR_zero]
    · intro i hi ih
      rw [sumR_succ hi, ih, ← sumR_add]
      exact sumR_congr fun j _ _ => (sumR_succ hi).symm
  · rw [sumR_empty (by omega), sumR_congr (g := fun _ => 0) (fun j _ _ => sumR_empty (by omega)), sumR_zero]
theorem sumR_le {lo hi : Int} {f g : Int → Int} (h : ∀ i, lo ≤ i → i < hi → f i ≤ g i) : sumR lo hi f ≤ sumR lo hi g := by
  by_cases l : lo ≤ hi
  · refine int_up (P := fun hi => (∀ i, lo ≤ i → i < hi → f i ≤ g i) → sumR lo hi f ≤ sumR lo hi g) ?_ ?_ hi l h
    · intro _; rw [sumR_empty (Int.le_refl _), sumR_empty (Int.le_refl _)]; exact Int.le_refl _
    · intro i hi ih h
      rw [sumR_succ hi, sumR_succ hi]
      have := ih fun j a b => h j a (by omega)
      have := h i hi (by omega)
      omega
  · rw [sumR_empty (by omega), sumR_empty (by omega)]; exact Int.le_refl _
theorem sumR_nonneg {lo hi : Int} {f : Int → Int} (h : ∀ i, lo ≤ i → i < hi → 0 ≤ f i) : 0 ≤ sumR lo hi f := by
  have := sumR_le (f := fun _ => 0) (g := f) h
  rwa [sumR_zero] at this
/-- how many of a range lie between two numbers -/
theorem sumR_ind {lo hi p q : Int} : sumR lo hi (fun c => if p ≤ c ∧ c ≤ q then 1 else 0) = max 0 (min q (hi - 1) - max p lo + 1) := by
  by_cases l : lo ≤ hi
  · refine int_up (P := fun hi => sumR lo hi (fun c => if p ≤ c ∧ c ≤ q then 1 else 0) = max 0 (min q (hi - 1) - max p lo + 1)) ?_ ?_ hi l
    · rw [sumR_empty (Int.le_refl _)]; omega
    · intro i hi ih
      rw [sumR_succ hi, ih]
      split <;> omega
  · rw [sumR_empty (by omega)]; omega
/-! ### the evaluator over ranges -/
theorem turns_filtI {cal : Call} {ts : List G.T} {elt : E} {j : Nat} {ρ : Env} (hj : ρ[j]? = some .no) (p : Int → Bool) (g : Int → D) (xs : List Int)
    (h : ∀ x ∈ xs, evalFs cal ts (ρ.set j (.v (.int x))) = .ok (p x) (ρ.set j (.v (.int x))) ∧ (p x = true → ∃ b, evalE cal elt (ρ.set j (.v (.int x))) = .ok (g x, b) (ρ.set j (.v (.int x))))) :
    turns [j] (.n j) (evalFs cal ts) (compE cal (evalE cal elt) []) (xs.map D.int) ρ = .ok ((xs.filter p).map g) ρ := by
  have := turns_filt (cal := cal) (ts := ts) (elt := elt) hj (fun d => match d with | .int x => p x | _ => false) (fun d => match d with | .int x => g x | _ => .non) (xs.map D.int) fun d hd => by
    obtain ⟨x, hx, rfl⟩ := List.mem_map.mp hd
    exact h x hx
  rw [this]
  congr 1
  rw [List.filter_map, List.map_map]
  rfl
theorem turns_mapI {cal : Call} {elt : E} {j : Nat} {ρ : Env} (hj : ρ[j]? = some .no) (g : Int → D) (xs : List Int)
    (h : ∀ x ∈ xs, ∃ b, evalE cal elt (ρ.set j (.v (.int x))) = .ok (g x, b) (ρ.set j (.v (.int x)))) :
    turns [j] (.n j) (evalFs cal []) (compE cal (evalE cal elt) []) (xs.map D.int) ρ = .ok (xs.map g) ρ := by
  have := turns_filtI (cal := cal) (ts := []) (elt := elt) hj (fun _ => true) g xs fun x hx => ⟨by simp only [evalFs], fun _ => h x hx⟩
  rw [this, List.filter_eq_self.mpr fun _ _ => rfl]
/-- a loop over a range; st tells the names before each turn, less the loop's own -/
theorem for_rng {j : Nat} {b : Env → SRes} {s0 : S} (st : Int → Env) {lo hi : Int} (h : lo ≤ hi) (hl : ∀ i, lo ≤ i → i ≤ hi → j < (st i).length)
    (H : ∀ i, lo ≤ i → i < hi → b ((st i).set j (.v (.int i))) = .nx ((st (i + 1)).set j (.v (.int i)))) :
    ∃ s, (s = s0 ∨ ∃ d, s = .v d) ∧ forS (.n j) b ((rng lo hi).map D.int) ((st lo).set j s0) = .nx ((st hi).set j s) := by
  have key : ∀ n : Nat, ∀ lo, lo + n = hi → (∀ i, lo ≤ i → i ≤ hi → j < (st i).length) → (∀ i, lo ≤ i → i < hi → b ((st i).set j (.v (.int i))) = .nx ((st (i + 1)).set j (.v (.int i)))) → ∀ s0, ∃ s, (s = s0 ∨ ∃ d, s = .v d) ∧ forS (.n j) b ((rng lo hi).map D.int) ((st lo).set j s0) = .nx ((st hi).set j s) := by
    intro n
    induction n with
    | zero =>
      intro lo e hl H s0
      have : lo = hi := by omega
      subst this
      refine ⟨s0, .inl rfl, ?_⟩
      rw [rng_empty (Int.le_refl _)]
      rfl
    | succ n ih =>
      intro lo e hl H s0
      rw [rng_cons (by omega), List.map_cons]
      obtain ⟨s, hs, e1⟩ := ih (lo + 1) (by omega) (fun i a b => hl i (by omega) b) (fun i a b => H i (by omega) b) (.v (.int lo))
      refine ⟨s, .inr ?_, ?_⟩
      · rcases hs with rfl | hs
        · exact ⟨_, rfl⟩
        · exact hs
      · have h0 := hl lo (Int.le_refl _) (by omega)
        rw [for_cons (ρ1 := (st lo).set j (.v (.int lo))) (by simp [h0]), H lo (Int.le_refl _) (by omega)]
        exact e1
  exact key (hi - lo).toNat lo (by omega) hl H s0
@[simp] theorem rangeE_1 {hi : Int} (h : rgOk hi = true) : rangeE [.int hi] = some ((rng 0 hi).map D.int) := by simp only [rangeE, if_pos h, rangeI_eq]
@[simp] theorem rangeE_2 {lo hi : Int} (h1 : rgOk lo = true) (h : rgOk hi = true) : rangeE [.int lo, .int hi] = some ((rng lo hi).map D.int) := by simp only [rangeE, h1, h, Bool.and_self, if_true, rangeI_eq]
theorem rgOk_of {i : Int} (h1 : -4611686018427387904 ≤ i) (h2 : i < 4611686018427387904) : rgOk i = true := by unfold rgOk; simp [h1, h2]
@[simp] theorem intsI {f : Int → Int} {l : List Int} : intsD (l.map fun i => D.int (f i)) = some (l.map f) := ints_mapf
/-- a loop over a range, by an invariant -/
theorem for_rngI {j : Nat} {b : Env → SRes} (Inv : Int → Env → Prop) {lo hi : Int} (h : lo ≤ hi) {ρ : Env} (h0 : Inv lo ρ)
    (H : ∀ i ρ, lo ≤ i → i < hi → Inv i ρ → j < ρ.length ∧ ∃ ρ2, b (ρ.set j (.v (.int i))) = .nx ρ2 ∧ Inv (i + 1) ρ2) :
    ∃ ρ', forS (.n j) b ((rng lo hi).map D.int) ρ = .nx ρ' ∧ Inv hi ρ' := by
  have key : ∀ n : Nat, ∀ lo, lo + n = hi → (∀ i ρ, lo ≤ i → i < hi → Inv i ρ → j < ρ.length ∧ ∃ ρ2, b (ρ.set j (.v (.int i))) = .nx ρ2 ∧ Inv (i + 1) ρ2) → ∀ ρ, Inv lo ρ → ∃ ρ', forS (.n j) b ((rng lo hi).map D.int) ρ = .nx ρ' ∧ Inv hi ρ' := by
    intro n
    induction n with
    | zero =>
      intro lo e H ρ h0
      have : lo = hi := by omega
      subst this
      exact ⟨ρ, by rw [rng_empty (Int.le_refl _)]; rfl, h0⟩
    | succ n ih =>
      intro lo e H ρ h0
      obtain ⟨hl, ρ2, e1, h2⟩ := H lo ρ (Int.le_refl _) (by omega) h0
      obtain ⟨ρ3, e2, h3⟩ := ih (lo + 1) (by omega) (fun i ρ a b => H i ρ (by omega) b) ρ2 h2
      refine ⟨ρ3, ?_, h3⟩
      rw [rng_cons (by omega), List.map_cons, for_cons (ρ1 := ρ.set j (.v (.int lo))) (by simp [hl]), e1]
      exact e2
  exact key (hi - lo).toNat lo (by omega) H ρ h0
theorem len_filter {lo hi : Int} {p : Int → Bool} : (((rng lo hi).filter p).length : Int) = sumR lo hi fun i => if p i then 1 else 0 := by
  unfold sumR
  induction rng lo hi with
  | nil => rfl
  | cons x xs ih =>
    rw [List.filter_cons, List.map_cons, List.sum_cons, ← ih]
    by_cases h : p x = true <;> simp [h]
    omega
/-- not handed by reference -/
def S.nr (s : S) : Prop := ∀ d, s ≠ .ref d
theorem nr_no : S.nr .no := fun d h => nomatch h
theorem nr_v {d : D} : S.nr (.v d) := fun e h => nomatch h
theorem nr_own {d : D} : S.nr (.own d) := fun e h => nomatch h
/-- a loop over a list, by an invariant on how many turns are done -/
theorem for_idx {p : P} {b : Env → SRes} (Inv : Nat → Env → Prop) : ∀ (xs : List D) (ρ : Env), Inv 0 ρ →
    (∀ i (h : i < xs.length) ρ, Inv i ρ → ∃ ρ1 ρ2, bindP p xs[i] ρ = some ρ1 ∧ b ρ1 = .nx ρ2 ∧ Inv (i + 1) ρ2) → ∃ ρ', forS p b xs ρ = .nx ρ' ∧ Inv xs.length ρ' := by
  intro xs
  induction xs generalizing Inv with
  | nil => intro ρ h0 _; exact ⟨ρ, rfl, h0⟩
  | cons x xs ih =>
    intro ρ h0 H
    obtain ⟨ρ1, ρ2, e1, e2, e3⟩ := H 0 (by simp) ρ h0
    obtain ⟨ρ', e4, e5⟩ := ih (fun i => Inv (i + 1)) ρ2 e3 fun i h ρ hi => H (i + 1) (by simpa using h) ρ hi
    exact ⟨ρ', by rw [for_cons (x := x) e1, e2]; exact e4, e5⟩
theorem atI_m1 {xs : List D} (h : 1 ≤ xs.length) : atI xs (-1) = xs[xs.length - 1]? := by
  unfold atI ixN
  rw [if_neg (by omega), if_pos (by omega)]
  show xs[((-1 : Int) + xs.length).toNat]? = _
  congr 1
  omega
theorem atI_m2 {xs : List D} (h : 2 ≤ xs.length) : atI xs (-2) = xs[xs.length - 2]? := by
  unfold atI ixN
  rw [if_neg (by omega), if_pos (by omega)]
  show xs[((-2 : Int) + xs.length).toNat]? = _
  congr 1
  omega
theorem execs_append {cal : Call} : ∀ {a b : List Sm} {ρ : Env}, execs cal (a ++ b) ρ = (execs cal a ρ).seq fun ρ => execs cal b ρ
  | [], b, ρ => by simp [SRes.seq]
  | s :: a, b, ρ => by
    rw [List.cons_append, xs_cons, xs_cons]
    cases exec cal s ρ with
    | nx ρ' => exact execs_append
    | _ => rfl
end G
end

section
set_option maxHeartbeats 4000000
namespace G
def i_fits_fraction : Nat := 4
def i_square_number_in : Nat := 9
def i_kind_in : Nat := 10
def i_kind_of : Nat := 16
def i_area_in : Nat := 40
def i_area_of : Nat := 46
def i__law_square_number : Nat := 52
def i_sum_in : Nat := 298
def i_less_by : Nat := 299
def i_product_in : Nat := 300
def i_is_under : Nat := 301
def i_height_square_in : Nat := 337
def i_foot_in : Nat := 338
def i_fits_place : Nat := 339
def i_need_place_on : Nat := 340
def i_line_square_in : Nat := 341
def i_is_place_on : Nat := 342
def i_line_square : Nat := 343
def i_height_square : Nat := 345
def i_height_of : Nat := 346
def i_foot_of : Nat := 347
def i_heights_that_are_whole : Nat := 348
def i__law_right_heights : Nat := 349
def f_sum_in : Fn := ⟨2, 2, false, [
  .ret (.call i_lowest [(.op2 .add (.op2 .mul (.op2 .idx (.v 0) (.c (.int 0))) (.op2 .idx (.v 1) (.c (.int 1)))) (.op2 .mul (.op2 .idx (.v 1) (.c (.int 0))) (.op2 .idx (.v 0) (.c (.int 1))))), (.op2 .mul (.op2 .idx (.v 0) (.c (.int 1))) (.op2 .idx (.v 1) (.c (.int 1))))])]⟩
def f_less_by : Fn := ⟨2, 2, false, [
  .ret (.call i_lowest [(.op2 .sub (.op2 .mul (.op2 .idx (.v 0) (.c (.int 0))) (.op2 .idx (.v 1) (.c (.int 1)))) (.op2 .mul (.op2 .idx (.v 1) (.c (.int 0))) (.op2 .idx (.v 0) (.c (.int 1))))), (.op2 .mul (.op2 .idx (.v 0) (.c (.int 1))) (.op2 .idx (.v 1) (.c (.int 1))))])]⟩
def f_product_in : Fn := ⟨2, 2, false, [
  .ret (.call i_lowest [(.op2 .mul (.op2 .idx (.v 0) (.c (.int 0))) (.op2 .idx (.v 1) (.c (.int 0)))), (.op2 .mul (.op2 .idx (.v 0) (.c (.int 1))) (.op2 .idx (.v 1) (.c (.int 1))))])]⟩
def f_is_under : Fn := ⟨2, 2, false, [
  .ret (.op2 .lt (.op2 .mul (.op2 .idx (.v 0) (.c (.int 0))) (.op2 .idx (.v 1) (.c (.int 1)))) (.op2 .mul (.op2 .idx (.v 1) (.c (.int 0))) (.op2 .idx (.v 0) (.c (.int 1)))))]⟩
def f_fits_fraction : Fn := ⟨1, 2, false, [
  .ifs (.or (.not (.e (.call i_is_tuple_of [(.v 0), (.c (.int 2)), (.c (.int 2))]))) (.not (.e (.op1 .all (.comp [1] (.and (.call i_is_integer [(.v 1)]) (.chain .lt .lt (.op1 .neg (.c (.int 1000000000000000000000000000000000000000000000000000000000000))) (.v 1) (.c (.int 1000000000000000000000000000000000000000000000000000000000000)))) (.n 1) (.e (.v 0)) [] []))))) [.ret (.c (.bl false))] [],
  .ret (.and (.op2 .ge (.op2 .idx (.v 0) (.c (.int 1))) (.c (.int 1))) (.op2 .eq (.call i_divisor_of [(.op2 .idx (.v 0) (.c (.int 0))), (.op2 .idx (.v 0) (.c (.int 1)))]) (.c (.int 1))))]⟩
def f_square_number_in : Fn := ⟨1, 4, false, [
  .set (.t [(.n 1), (.n 2), (.n 3)]) (.v 0),
  .ret (.op2 .mul (.op2 .mul (.op2 .mul (.op2 .add (.op2 .add (.v 1) (.v 2)) (.v 3)) (.op2 .sub (.op2 .add (.v 2) (.v 3)) (.v 1))) (.op2 .sub (.op2 .add (.v 1) (.v 3)) (.v 2))) (.op2 .sub (.op2 .add (.v 1) (.v 2)) (.v 3)))]⟩
def f_kind_in : Fn := ⟨1, 5, false, [
  .set (.t [(.n 1), (.n 2), (.n 3)]) (.v 0),
  .set (.n 4) (.op2 .sub (.op2 .add (.op2 .mul (.v 1) (.v 1)) (.op2 .mul (.v 2) (.v 2))) (.op2 .mul (.v 3) (.v 3))),
  .ret (.ifx (.b (.op2 .eq (.v 4) (.c (.int 0)))) (.c (.str (PySem.Str.ofString "right"))) (.ifx (.b (.op2 .gt (.v 4) (.c (.int 0)))) (.c (.str (PySem.Str.ofString "sharp"))) (.c (.str (PySem.Str.ofString "blunt")))))]⟩
def f_kind_of : Fn := ⟨1, 1, false, [
  .expr (.call i_need_triangle [(.v 0)]),
  .ret (.call i_kind_in [(.v 0)])]⟩
def f_area_in : Fn := ⟨1, 2, false, [
  .set (.n 1) (.call i_square_number_in [(.v 0)]),
  .ret (.ifx (.e (.call i_is_square_in [(.v 1)])) (.call i_lowest [(.call i_root_in [(.v 1)]), (.c (.int 4))]) (.c .non))]⟩
def f_area_of : Fn := ⟨1, 1, false, [
  .expr (.call i_need_triangle [(.v 0)]),
  .ret (.call i_area_in [(.v 0)])]⟩
def f_height_square_in : Fn := ⟨2, 2, false, [
  .ret (.call i_lowest [(.call i_square_number_in [(.v 0)]), (.op2 .mul (.op2 .mul (.c (.int 4)) (.op2 .idx (.v 0) (.v 1))) (.op2 .idx (.v 0) (.v 1)))])]⟩
def f_foot_in : Fn := ⟨2, 5, false, [
  .set (.t [(.n 2), (.n 3), (.n 4)]) (.call i_sides_at [(.v 0), (.v 1)]),
  .ret (.call i_lowest [(.op2 .sub (.op2 .add (.op2 .mul (.v 2) (.v 2)) (.op2 .mul (.v 3) (.v 3))) (.op2 .mul (.v 4) (.v 4))), (.op2 .mul (.c (.int 2)) (.v 2))])]⟩
def f_height_square : Fn := ⟨2, 2, false, [
  .expr (.call i_need_vertex [(.v 0), (.v 1)]),
  .ret (.call i_height_square_in [(.v 0), (.v 1)])]⟩
def f_height_of : Fn := ⟨2, 2, false, [
  .expr (.call i_need_vertex [(.v 0), (.v 1)]),
  .ret (.call i_root_of_fraction [(.call i_height_square_in [(.v 0), (.v 1)])])]⟩
def f_foot_of : Fn := ⟨2, 2, false, [
  .expr (.call i_need_vertex [(.v 0), (.v 1)]),
  .ret (.call i_foot_in [(.v 0), (.v 1)])]⟩
def f_heights_that_are_whole : Fn := ⟨1, 2, false, [
  .expr (.call i_need_triangle [(.v 0)]),
  .ret (.call i_whole_ones [(.comp [1] (.call i_root_of_fraction [(.call i_height_square_in [(.v 0), (.v 1)])]) (.n 1) (.range [(.c (.int 3))]) [] [])])]⟩
def f_fits_place : Fn := ⟨3, 3, false, [
  .ret (.and (.call i_fits_fraction [(.v 2)]) (.and (.not (.call i_is_under [(.v 2), (.c (.tup [(.int 0), (.int 1)]))])) (.not (.call i_is_under [(.tup [(.op2 .idx (.v 0) (.v 1)), (.c (.int 1))]), (.v 2)]))))]⟩
def f_need_place_on : Fn := ⟨3, 3, false, [
  .expr (.call i_need_vertex [(.v 0), (.v 1)]),
  .ifs (.not (.e (.call i_fits_place [(.v 0), (.v 1), (.v 2)]))) [.rais 4 [(.c (.str (PySem.Str.ofString "no place on the side")))]] []]⟩
def f_line_square_in : Fn := ⟨3, 4, false, [
  .set (.n 3) (.call i_less_by [(.v 2), (.call i_foot_in [(.v 0), (.v 1)])]),
  .ret (.call i_sum_in [(.call i_height_square_in [(.v 0), (.v 1)]), (.call i_product_in [(.v 3), (.v 3)])])]⟩
def f_is_place_on : Fn := ⟨3, 3, false, [
  .expr (.call i_need_vertex [(.v 0), (.v 1)]),
  .ret (.call i_fits_place [(.v 0), (.v 1), (.v 2)])]⟩
def f_line_square : Fn := ⟨3, 3, false, [
  .expr (.call i_need_place_on [(.v 0), (.v 1), (.v 2)]),
  .ret (.call i_line_square_in [(.v 0), (.v 1), (.v 2)])]⟩
def f__law_square_number : Fn := ⟨1, 4, false, [
  .set (.t [(.n 1), (.n 2), (.n 3)]) (.v 0),
  .ret (.op2 .mul (.op2 .mul (.op2 .mul (.op2 .add (.op2 .add (.v 1) (.v 2)) (.v 3)) (.op2 .sub (.op2 .add (.v 1) (.v 2)) (.v 3))) (.op2 .sub (.op2 .add (.v 1) (.v 3)) (.v 2))) (.op2 .sub (.op2 .add (.v 2) (.v 3)) (.v 1)))]⟩
def f__law_right_heights : Fn := ⟨2, 15, true, [
  .set (.n 2) (.call i__law_square_number [(.v 1)]),
  .set (.n 3) (.comp [7] (.call i__law_least [(.v 2), (.op2 .mul (.op2 .mul (.c (.int 4)) (.v 7)) (.v 7))]) (.n 7) (.e (.v 1)) [] []),
  .set (.n 4) (.comp [13] (.call i__law_rooted [(.v 13)]) (.n 13) (.e (.v 3)) [] []),
  .set (.n 5) (.lst [(.comp [6] (.call i_height_square [(.v 1), (.v 6)]) (.n 6) (.range [(.c (.int 3))]) [] []), (.comp [6] (.call i_height_of [(.v 1), (.v 6)]) (.n 6) (.range [(.c (.int 3))]) [] []), (.call i_heights_that_are_whole [(.v 1)])]),
  .ifs (.not (.e (.call i__law_like [(.v 5), (.lst [(.v 3), (.v 4), (.op1 .tuple (.comp [6] (.v 6) (.n 6) (.range [(.c (.int 3))]) [(.and (.b (.op1 .notNone (.op2 .idx (.v 4) (.v 6)))) (.b (.op2 .eq (.op2 .idx (.op2 .idx (.v 4) (.v 6)) (.c (.int 1))) (.c (.int 1)))))] []))])]))) [.ret (.c (.bl false))] [],
  .forr (.n 6) (.range [(.c (.int 3))]) [.set (.t [(.n 7), (.n 8), (.n 9)]) (.call i__law_sides [(.v 1), (.v 6)]), .set (.n 10) (.call i_foot_of [(.v 1), (.v 6)]), .set (.n 11) (.call i__law_less [(.tup [(.v 7), (.c (.int 1))]), (.v 10)]), .ifs (.or (.b (.op2 .ne (.call i__law_sum [(.op2 .idx (.v 3) (.v 6)), (.call i__law_product [(.v 10), (.v 10)])]) (.tup [(.op2 .mul (.v 8) (.v 8)), (.c (.int 1))]))) (.b (.op2 .ne (.call i__law_sum [(.op2 .idx (.v 3) (.v 6)), (.call i__law_product [(.v 11), (.v 11)])]) (.tup [(.op2 .mul (.v 9) (.v 9)), (.c (.int 1))])))) [.ret (.c (.bl false))] [], .set (.n 12) (.call i_is_place_on [(.v 1), (.v 6), (.v 10)]), .ifs (.or (.not (.e (.call i__law_like [(.v 12), (.op2 .ge (.op2 .idx (.v 11) (.c (.int 0))) (.c (.int 0)))]))) (.or (.b (.op2 .lt (.op2 .mul (.c (.int 2)) (.op2 .idx (.v 10) (.c (.int 0)))) (.op2 .mul (.v 7) (.op2 .idx (.v 10) (.c (.int 1)))))) (.and (.b (.op1 (.isB true) (.v 12))) (.b (.op2 .ne (.call i_line_square [(.v 1), (.v 6), (.v 10)]) (.op2 .idx (.v 3) (.v 6))))))) [.ret (.c (.bl false))] [], .ifs (.and (.b (.op1 (.isB false) (.v 12))) (.b (.op2 .ne (.call i_kind_of [(.v 1)]) (.c (.str (PySem.Str.ofString "blunt")))))) [.ret (.c (.bl false))] []],
  .ret (.op2 .eq (.op1 .len (.comp [14] (.v 14) (.n 14) (.e (.v 4)) [(.b (.op1 .notNone (.v 14)))] [])) (.ifx (.b (.op1 .isNone (.call i_area_of [(.v 1)]))) (.c (.int 0)) (.c (.int 3))))]⟩
variable {T : Table}
@[simp] theorem r_sum_in [Has T i_divisor_of f_divisor_of] [Has T i_lowest f_lowest] [Has T i_sum_in f_sum_in] {k : Nat} {p q r s : Int} {n1 n2 n3 n4 : Nat} [Bits p n1] [Bits q n2] [Bits r n3] [Bits s n4] (hq : q ≠ 0) (hs : s ≠ 0) (h : n1 + n2 + n3 + n4 < 8990) :
    run T (k + 3) i_sum_in [.v (.tup [.int p, .int q]), .v (.tup [.int r, .int s])] = .ok (.tup [.int ((p : Rat) / q + r / s).num, .int (((p : Rat) / q + r / s).den : Int)], false) .non := by
  have e : ((p * s + r * q : Int) : Rat) / ((q * s : Int) : Rat) = (p : Rat) / q + r / s := by
    have := rat_ne hq
    have := rat_ne hs
    rw [Rat.intCast_add, Rat.intCast_mul, Rat.intCast_mul, Rat.intCast_mul]
    grind
  have m1 : mulOk p s = true := mulOk_bd (by omega)
  have m2 : mulOk r q = true := mulOk_bd (by omega)
  have m3 : mulOk q s = true := mulOk_bd (by omega)
  have l := r_lowestR (T := T) (k := k) (a := p * s + r * q) (b := q * s) (Int.mul_ne_zero hq hs) (by omega)
  rw [e] at l
  rw [run_succ]
  simp [f_sum_in, argsOk, atI, ixN, m1, m2, m3, l]
@[simp] theorem r_less_by [Has T i_divisor_of f_divisor_of] [Has T i_lowest f_lowest] [Has T i_less_by f_less_by] {k : Nat} {p q r s : Int} {n1 n2 n3 n4 : Nat} [Bits p n1] [Bits q n2] [Bits r n3] [Bits s n4] (hq : q ≠ 0) (hs : s ≠ 0) (h : n1 + n2 + n3 + n4 < 8990) :
    run T (k + 3) i_less_by [.v (.tup [.int p, .int q]), .v (.tup [.int r, .int s])] = .ok (.tup [.int ((p : Rat) / q - r / s).num, .int (((p : Rat) / q - r / s).den : Int)], false) .non := by
  have e : ((p * s - r * q : Int) : Rat) / ((q * s : Int) : Rat) = (p : Rat) / q - r / s := by
    have := rat_ne hq
    have := rat_ne hs
    rw [Rat.intCast_sub, Rat.intCast_mul, Rat.intCast_mul, Rat.intCast_mul]
    grind
  have m1 : mulOk p s = true := mulOk_bd (by omega)
  have m2 : mulOk r q = true := mulOk_bd (by omega)
  have m3 : mulOk q s = true := mulOk_bd (by omega)
  have l := r_lowestR (T := T) (k := k) (a := p * s - r * q) (b := q * s) (Int.mul_ne_zero hq hs) (by omega)
  rw [e] at l
  rw [run_succ]
  simp [f_less_by, argsOk, atI, ixN, m1, m2, m3, l]
@[simp] theorem r_product_in [Has T i_divisor_of f_divisor_of] [Has T i_lowest f_lowest] [Has T i_product_in f_product_in] {k : Nat} {p q r s : Int} {n1 n2 n3 n4 : Nat} [Bits p n1] [Bits q n2] [Bits r n3] [Bits s n4] (hq : q ≠ 0) (hs : s ≠ 0) (h : n1 + n2 + n3 + n4 < 8990) :
    run T (k + 3) i_product_in [.v (.tup [.int p, .int q]), .v (.tup [.int r, .int s])] = .ok (.tup [.int ((p : Rat) / q * (r / s)).num, .int (((p : Rat) / q * (r / s)).den : Int)], false) .non := by
  have e : ((p * r : Int) : Rat) / ((q * s : Int) : Rat) = (p : Rat) / q * (r / s) := by
    have := rat_ne hq
    have := rat_ne hs
    rw [Rat.intCast_mul, Rat.intCast_mul]
    grind
  have m1 : mulOk p r = true := mulOk_bd (by omega)
  have m3 : mulOk q s = true := mulOk_bd (by omega)
  have l := r_lowestR (T := T) (k := k) (a := p * r) (b := q * s) (Int.mul_ne_zero hq hs) (by omega)
  rw [e] at l
  rw [run_succ]
  simp [f_product_in, argsOk, atI, ixN, m1, m3, l]

@[simp] theorem r_is_under [Has T i_is_under f_is_under] {k : Nat} {p q r s : Int} {n1 n2 n3 n4 : Nat} [Bits p n1] [Bits q n2] [Bits r n3] [Bits s n4] (h : n1 + n2 + n3 + n4 < 8990) :
    run T (k + 1) i_is_under [.v (.tup [.int p, .int q]), .v (.tup [.int r, .int s])] = .ok (.bl (decide (p * s < r * q)), false) .non := by
  have m1 : mulOk p s = true := mulOk_bd (by omega)
  have m2 : mulOk r q = true := mulOk_bd (by omega)
  rw [run_succ]
  simp [f_is_under, argsOk, m1, m2]
theorem gc_reduced (x : Rat) : gc x.num (x.den : Int) = 1 := by
  unfold gc
  have : Int.gcd x.num (x.den : Int) = 1 := x.reduced
  rw [this]; rfl
@[simp] theorem r_fits_fraction [Has T i_is_integer f_is_integer] [Has T i_is_tuple_of f_is_tuple_of] [Has T i_divisor_of f_divisor_of] [Has T i_fits_fraction f_fits_fraction] {k : Nat} {x : Rat} {n : Nat} [hx : RBits x n] (hn : n ≤ 199) : run T (k + 2) i_fits_fraction [.v (.tup [.int x.num, .int (x.den : Int)])] = .ok (.bl true, false) .non := by
  rw [run_succ]
  have b1 : x.num.natAbs < 2 ^ 199 := Nat.lt_of_lt_of_le hx.num (Nat.pow_le_pow_right (by omega) hn)
  have b2 : x.den < 2 ^ 199 := Nat.lt_of_lt_of_le hx.den (Nat.pow_le_pow_right (by omega) hn)
  have d0 : (1 : Int) ≤ (x.den : Int) := by have := x.den_nz; omega
  have l1 : -1000000000000000000000000000000000000000000000000000000000000 < x.num := by omega
  have l2 : x.num < 1000000000000000000000000000000000000000000000000000000000000 := by omega
  have l3 : -1000000000000000000000000000000000000000000000000000000000000 < (x.den : Int) := by omega
  have l4 : (x.den : Int) < 1000000000000000000000000000000000000000000000000000000000000 := by omega
  have hg := gc_reduced x
  generalize (x.den : Int) = q at *
  simp [f_fits_fraction, argsOk, turns, l1, l2, l3, l4, d0, line, hg]
/-! ### the number whose root is four times the area -/
def sqn (a b c : Int) : Int := (a + b + c) * (b + c - a) * (a + c - b) * (a + b - c)
theorem tri_bits {a b c : Int} (h : Tri a b c) : Bits a 31 ∧ Bits b 31 ∧ Bits c 31 := by
  obtain ⟨h1, h2, h3, h4, h5⟩ := h
  exact ⟨⟨by omega⟩, ⟨by omega⟩, ⟨by omega⟩⟩
@[simp] theorem r_square_number_in [Has T i_square_number_in f_square_number_in] {k : Nat} {a b c : Int} (h : Tri a b c) : run T (k + 1) i_square_number_in [.v (.tup [.int a, .int b, .int c])] = .ok (.int (sqn a b c), false) .non := by
  obtain ⟨b1, b2, b3⟩ := tri_bits h
  rw [run_succ]
  simp (decide := true) [f_square_number_in, argsOk, sqn]
@[simp] theorem r__law_square_number [Has T i__law_square_number f__law_square_number] {k : Nat} {a b c : Int} (h : Tri a b c) : run T (k + 1) i__law_square_number [.v (.tup [.int a, .int b, .int c])] = .ok (.int (sqn a b c), false) .non := by
  obtain ⟨b1, b2, b3⟩ := tri_bits h
  have e : sqn a b c = (a + b + c) * (a + b - c) * (a + c - b) * (b + c - a) := by unfold sqn; grind
  rw [run_succ, e]
  simp (decide := true) [f__law_square_number, argsOk]
theorem sqn_bits {a b c : Int} (h : Tri a b c) : Bits (sqn a b c) 132 := by
  obtain ⟨b1, b2, b3⟩ := tri_bits h
  have := (inferInstance : Bits ((a + b + c) * (b + c - a) * (a + c - b) * (a + b - c)) _)
  exact ⟨Nat.lt_of_lt_of_le this.lt (Nat.pow_le_pow_right (by omega) (by decide))⟩
theorem sqn_pos {a b c : Int} (h : Tri a b c) : 0 < sqn a b c := by
  obtain ⟨h1, h2, h3, h4, h5⟩ := h
  unfold sqn
  exact Int.mul_pos (Int.mul_pos (Int.mul_pos (by omega) (by omega)) (by omega)) (by omega)
/-! kinds -/
def kindD (a b c : Int) : D := if a * a + b * b - c * c = 0 then .str (PySem.Str.ofString "right") else if 0 < a * a + b * b - c * c then .str (PySem.Str.ofString "sharp") else .str (PySem.Str.ofString "blunt")
@[simp] theorem r_kind_in [Has T i_kind_in f_kind_in] {k : Nat} {a b c : Int} (h : Tri a b c) : run T (k + 1) i_kind_in [.v (.tup [.int a, .int b, .int c])] = .ok (kindD a b c, false) .non := by
  obtain ⟨b1, b2, b3⟩ := tri_bits h
  rw [run_succ]
  unfold kindD
  by_cases h1 : a * a + b * b - c * c = 0
  · simp (decide := true) [f_kind_in, argsOk, h1]
  · by_cases h2 : 0 < a * a + b * b - c * c
    · have h3 : c * c < a * a + b * b := by omega
      simp (decide := true) [f_kind_in, argsOk, h1, h3]
    · have h3 : ¬ c * c < a * a + b * b := by omega
      simp (decide := true) [f_kind_in, argsOk, h1, h3]
@[simp] theorem r_kind_of [Has T i_is_integer f_is_integer] [Has T i_is_whole f_is_whole] [Has T i_is_side f_is_side] [Has T i_is_tuple_of f_is_tuple_of] [Has T i_fits_triangle f_fits_triangle] [Has T i_need_triangle f_need_triangle] [Has T i_kind_in f_kind_in] [Has T i_kind_of f_kind_of] {k : Nat} {a b c : Int} (h : Tri a b c) : run T (k + 6) i_kind_of [.v (.tup [.int a, .int b, .int c])] = .ok (kindD a b c, false) .non := by
  rw [run_succ]
  simp [f_kind_of, argsOk, h]
/-- is the area a fraction -/
theorem r_area_of [Has T i_is_integer f_is_integer] [Has T i_is_whole f_is_whole] [Has T i_is_side f_is_side] [Has T i_is_tuple_of f_is_tuple_of] [Has T i_fits_triangle f_fits_triangle] [Has T i_need_triangle f_need_triangle] [Has T i_square_number_in f_square_number_in] [Has T i_divisor_of f_divisor_of] [Has T i_lowest f_lowest] [Has T i_root_in f_root_in] [Has T i_is_square_in f_is_square_in] [Has T i_area_in f_area_in] [Has T i_area_of f_area_of] {k : Nat} {a b c : Int} (h : Tri a b c) :
    run T (k + 6) i_area_of [.v (.tup [.int a, .int b, .int c])] = .ok (if Sq (sqn a b c) then .tup [.int ((rt (sqn a b c) : Rat) / ((4 : Int) : Rat)).num, .int (((rt (sqn a b c) : Rat) / ((4 : Int) : Rat)).den : Int)] else .non, false) .non := by
  have bn := sqn_bits h
  have hin : run T (k + 5) i_area_in [.v (.tup [.int a, .int b, .int c])] = .ok (if Sq (sqn a b c) then .tup [.int ((rt (sqn a b c) : Rat) / ((4 : Int) : Rat)).num, .int (((rt (sqn a b c) : Rat) / ((4 : Int) : Rat)).den : Int)] else .non, false) .non := by
    have hl := r_lowestR (T := T) (k := k + 2) (a := rt (sqn a b c)) (b := 4) (by omega) (by decide)
    generalize (rt (sqn a b c) : Rat) / ((4 : Int) : Rat) = y at *
    rw [run_succ]
    by_cases hq : Sq (sqn a b c)
    · simp (decide := true) [f_area_in, argsOk, h, hq, hl]
    · simp (decide := true) [f_area_in, argsOk, h, hq]
  rw [run_succ]
  simp [f_area_of, argsOk, h, hin]
/-! ### heights and feet -/
def hsq (n s : Int) : Rat := (n : Rat) / ((4 * s * s : Int) : Rat)
def ftq (s o t : Int) : Rat := ((s * s + o * o - t * t : Int) : Rat) / ((2 * s : Int) : Rat)
theorem at_side {a b c i : Int} (h0 : 0 ≤ i) (h2 : i ≤ 2) : atI [.int a, .int b, .int c] i = some (.int (sideI a b c i)) := by
  rcases three h0 h2 with rfl | rfl | rfl <;> simp [sideI]
@[simp] theorem r_height_square_in [Has T i_square_number_in f_square_number_in] [Has T i_divisor_of f_divisor_of] [Has T i_lowest f_lowest] [Has T i_height_square_in f_height_square_in] {k : Nat} {a b c i : Int} (h : Tri a b c) (h0 : 0 ≤ i) (h2 : i ≤ 2) :
    run T (k + 3) i_height_square_in [.v (.tup [.int a, .int b, .int c]), .v (.int i)] = .ok (.tup [.int (hsq (sqn a b c) (sideI a b c i)).num, .int ((hsq (sqn a b c) (sideI a b c i)).den : Int)], false) .non := by
  obtain ⟨s1, s2, s3, s4, s5, s6, _⟩ := sides_ok (i := i) h
  have bn := sqn_bits h
  have hat := at_side (a := a) (b := b) (c := c) h0 h2
  unfold hsq
  generalize sideI a b c i = s at *
  have b1 : Bits s 31 := ⟨by omega⟩
  have hl := r_lowestR (T := T) (k := k) (a := sqn a b c) (b := 4 * s * s) (Int.mul_ne_zero (Int.mul_ne_zero (by omega) (by omega)) (by omega)) (by decide)
  generalize (sqn a b c : Rat) / ((4 * s * s : Int) : Rat) = y at *
  rw [run_succ]
  simp (decide := true) [f_height_square_in, argsOk, h, hat, hl]
@[simp] theorem r_foot_in [Has T i_sides_at f_sides_at] [Has T i_divisor_of f_divisor_of] [Has T i_lowest f_lowest] [Has T i_foot_in f_foot_in] {k : Nat} {a b c i : Int} (h : Tri a b c) (h0 : 0 ≤ i) (h2 : i ≤ 2) :
    run T (k + 3) i_foot_in [.v (.tup [.int a, .int b, .int c]), .v (.int i)] = .ok (.tup [.int (ftq (sideI a b c i) (oneI a b c i) (otherI a b c i)).num, .int ((ftq (sideI a b c i) (oneI a b c i) (otherI a b c i)).den : Int)], false) .non := by
  obtain ⟨s1, s2, s3, s4, s5, s6, _⟩ := sides_ok (i := i) h
  have hsd := r_sides_at (T := T) (k := k + 1) (a := a) (b := b) (c := c) h0 h2
  unfold ftq
  generalize sideI a b c i = s at *
  generalize oneI a b c i = o at *
  generalize otherI a b c i = t at *
  have b1 : Bits s 31 := ⟨by omega⟩
  have b2 : Bits o 31 := ⟨by omega⟩
  have b3 : Bits t 31 := ⟨by omega⟩
  have hl := r_lowestR (T := T) (k := k) (a := s * s + o * o - t * t) (b := 2 * s) (by omega) (by decide)
  generalize ((s * s + o * o - t * t : Int) : Rat) / ((2 * s : Int) : Rat) = y at *
  rw [run_succ]
  simp (decide := true) [f_foot_in, argsOk, hsd, hl]
theorem rbits_hsq {a b c i : Int} (h : Tri a b c) : RBits (hsq (sqn a b c) (sideI a b c i)) 140 := by
  obtain ⟨s1, s2, s3, s4, s5, s6, _⟩ := sides_ok (i := i) h
  have bn := sqn_bits h
  have b1 : Bits (sideI a b c i) 31 := ⟨by omega⟩
  have := (inferInstance : RBits ((sqn a b c : Rat) / ((4 * sideI a b c i * sideI a b c i : Int) : Rat)) _)
  exact rb_up this (by decide)
theorem rbits_ftq {a b c i : Int} (h : Tri a b c) : RBits (ftq (sideI a b c i) (oneI a b c i) (otherI a b c i)) 70 := by
  obtain ⟨s1, s2, s3, s4, s5, s6, _⟩ := sides_ok (i := i) h
  unfold ftq
  generalize sideI a b c i = s at *
  generalize oneI a b c i = o at *
  generalize otherI a b c i = t at *
  have b1 : Bits s 31 := ⟨by omega⟩
  have b2 : Bits o 31 := ⟨by omega⟩
  have b3 : Bits t 31 := ⟨by omega⟩
  have := (inferInstance : RBits (((s * s + o * o - t * t : Int) : Rat) / ((2 * s : Int) : Rat)) _)
  exact rb_up this (by decide)
end G
end

section
set_option maxHeartbeats 4000000
/-! Law 30: angles compared and taken. -/
namespace G
def i_opening_in : Nat := 39
def i_openings_of : Nat := 45
def i_opening_by_place : Nat := 302
def i_need_two_angles : Nat := 303
def i_angle_order : Nat := 306
def i_are_straight : Nat := 307
def i_are_upright : Nat := 308
def i_need_often : Nat := 304
def i_rows_by : Nat := 305
def i_turned_openings : Nat := 309
def i_fits_round : Nat := 310
def i_need_degrees : Nat := 278
def i_across_square : Nat := 279
def i_place_with : Nat := 280
def i_degrees_place : Nat := 283
def i__law_opening : Nat := 53
def i__law_two_right : Nat := 313
def i__law_turned : Nat := 311
def i__law_rounds : Nat := 312
def i__law_taken_right : Nat := 314
def i_law : Nat := 30
def f_opening_in : Fn := ⟨3, 3, false, [
  .ret (.call i_lowest [(.op2 .sub (.op2 .add (.op2 .mul (.v 1) (.v 1)) (.op2 .mul (.v 2) (.v 2))) (.op2 .mul (.v 0) (.v 0))), (.op2 .mul (.op2 .mul (.c (.int 2)) (.v 1)) (.v 2))])]⟩
def f_openings_of : Fn := ⟨1, 4, false, [
  .expr (.call i_need_triangle [(.v 0)]),
  .set (.t [(.n 1), (.n 2), (.n 3)]) (.v 0),
  .ret (.tup [(.call i_opening_in [(.v 1), (.v 2), (.v 3)]), (.call i_opening_in [(.v 2), (.v 1), (.v 3)]), (.call i_opening_in [(.v 3), (.v 1), (.v 2)])])]⟩
def f_opening_by_place : Fn := ⟨2, 6, false, [
  .set (.t [(.n 2), (.n 3)]) (.comp [4, 5] (.v 5) (.t [(.n 4), (.n 5)]) (.enum (.v 0)) [(.b (.op2 .ne (.v 4) (.v 1)))] []),
  .ret (.call i_opening_in [(.op2 .idx (.v 0) (.v 1)), (.v 2), (.v 3)])]⟩
def f_need_two_angles : Fn := ⟨4, 4, false, [
  .expr (.call i_need_triangle [(.v 0)]),
  .expr (.call i_need_whole [(.v 1), (.c (.int 0)), (.c (.int 2))]),
  .expr (.call i_need_triangle [(.v 2)]),
  .expr (.call i_need_whole [(.v 3), (.c (.int 0)), (.c (.int 2))])]⟩
def f_angle_order : Fn := ⟨4, 6, false, [
  .expr (.call i_need_two_angles [(.v 0), (.v 1), (.v 2), (.v 3)]),
  .par [4, 5] [(.call i_opening_by_place [(.v 0), (.v 1)]), (.call i_opening_by_place [(.v 2), (.v 3)])],
  .ret (.ifx (.b (.op2 .eq (.v 4) (.v 5))) (.c (.int 0)) (.ifx (.e (.call i_is_under [(.v 4), (.v 5)])) (.c (.int 1)) (.op1 .neg (.c (.int 1)))))]⟩
def f_are_straight : Fn := ⟨4, 4, false, [
  .expr (.call i_need_two_angles [(.v 0), (.v 1), (.v 2), (.v 3)]),
  .ret (.op2 .eq (.call i_sum_in [(.call i_opening_by_place [(.v 0), (.v 1)]), (.call i_opening_by_place [(.v 2), (.v 3)])]) (.tup [(.c (.int 0)), (.c (.int 1))]))]⟩
def f_are_upright : Fn := ⟨4, 6, false, [
  .expr (.call i_need_two_angles [(.v 0), (.v 1), (.v 2), (.v 3)]),
  .par [4, 5] [(.call i_opening_by_place [(.v 0), (.v 1)]), (.call i_opening_by_place [(.v 2), (.v 3)])],
  .ret (.and (.op2 .gt (.op2 .min (.op2 .idx (.v 4) (.c (.int 0))) (.op2 .idx (.v 5) (.c (.int 0)))) (.c (.int 0))) (.op2 .eq (.call i_sum_in [(.call i_product_in [(.v 4), (.v 4)]), (.call i_product_in [(.v 5), (.v 5)])]) (.tup [(.c (.int 1)), (.c (.int 1))])))]⟩
def f_need_often : Fn := ⟨3, 3, false, [
  .expr (.call i_need_triangle [(.v 0)]),
  .expr (.call i_need_whole [(.v 1), (.c (.int 0)), (.c (.int 2))]),
  .expr (.call i_need_whole [(.v 2), (.c (.int 1)), (.c (.int 12))])]⟩
def f_rows_by : Fn := ⟨3, 4, false, [
  .set (.n 3) (.op1 .list (.v 2)),
  .whil (.b (.op2 .lt (.op1 .len (.v 3)) (.op2 .add (.v 1) (.c (.int 1))))) [.append 3 (.call i_less_by [(.call i_product_in [(.call i_product_in [(.c (.tup [(.int 2), (.int 1)])), (.v 0)]), (.op2 .idx (.v 3) (.op1 .neg (.c (.int 1))))]), (.op2 .idx (.v 3) (.op1 .neg (.c (.int 2))))])],
  .retV 3]⟩
def f_turned_openings : Fn := ⟨3, 4, false, [
  .expr (.call i_need_often [(.v 0), (.v 1), (.v 2)]),
  .set (.n 3) (.call i_opening_by_place [(.v 0), (.v 1)]),
  .ret (.op1 .tuple (.from (.call i_rows_by [(.v 3), (.v 2), (.lst [(.tup [(.c (.int 1)), (.c (.int 1))]), (.v 3)])]) (.c (.int 1))))]⟩
def f_fits_round : Fn := ⟨3, 7, false, [
  .expr (.call i_need_often [(.v 0), (.v 1), (.v 2)]),
  .par [3, 4] [(.call i_rows_by [(.call i_opening_by_place [(.v 0), (.v 1)]), (.v 2), (.lst [(.tup [(.c (.int 0)), (.c (.int 1))]), (.tup [(.c (.int 1)), (.c (.int 1))])])]), (.c (.int 0))],
  .forr (.t [(.n 5), (.n 6)]) (.e (.from (.v 3) (.c (.int 2)))) [.ifs (.or (.b (.op2 .eq (.v 5) (.c (.int 0)))) (.b (.op2 .ne (.op2 .gt (.v 5) (.c (.int 0))) (.op2 .eq (.op2 .mod (.v 4) (.c (.int 2))) (.c (.int 0)))))) [.set (.n 4) (.op2 .add (.v 4) (.c (.int 1)))] []],
  .ret (.or (.op2 .lt (.v 4) (.c (.int 2))) (.and (.op2 .eq (.v 4) (.c (.int 2))) (.op2 .eq (.op2 .idx (.v 3) (.op1 .neg (.c (.int 1)))) (.tup [(.c (.int 0)), (.c (.int 1))]))))]⟩
def f_need_degrees : Fn := ⟨1, 1, false, [
  .ifs (.or (.not (.e (.call i_is_whole [(.v 0), (.c (.int 60)), (.c (.int 120))]))) (.b (.op2 .notin (.v 0) (.c (.tup [(.int 60), (.int 120)]))))) [.rais 11 [(.c (.str (PySem.Str.ofString "neither 60 nor 120")))]] []]⟩
def f_across_square : Fn := ⟨3, 3, false, [
  .ret (.op2 .add (.op2 .add (.op2 .mul (.v 0) (.v 0)) (.op2 .mul (.v 1) (.v 1))) (.ifx (.b (.op2 .eq (.v 2) (.c (.int 120)))) (.op2 .mul (.v 0) (.v 1)) (.op2 .mul (.op1 .neg (.v 0)) (.v 1))))]⟩
def f_place_with : Fn := ⟨2, 7, false, [
  .forr (.n 2) (.range [(.c (.int 3))]) [.set (.t [(.n 3), (.n 4)]) (.comp [5, 6] (.v 6) (.t [(.n 5), (.n 6)]) (.enum (.v 0)) [(.b (.op2 .ne (.v 5) (.v 2)))] []), .ifs (.b (.op2 .eq (.call i_across_square [(.v 3), (.v 4), (.v 1)]) (.op2 .mul (.op2 .idx (.v 0) (.v 2)) (.op2 .idx (.v 0) (.v 2))))) [.retV 2] []],
  .ret (.c .non)]⟩
def f_degrees_place : Fn := ⟨2, 2, false, [
  .expr (.call i_need_triangle [(.v 0)]),
  .expr (.call i_need_degrees [(.v 1)]),
  .ret (.call i_place_with [(.v 0), (.v 1)])]⟩
def f__law_opening : Fn := ⟨2, 5, false, [
  .set (.t [(.n 2), (.n 3)]) (.comp [4] (.op2 .idx (.v 0) (.v 4)) (.n 4) (.range [(.c (.int 3))]) [(.b (.op2 .ne (.v 4) (.v 1)))] []),
  .ret (.call i__law_least [(.op2 .sub (.op2 .add (.op2 .mul (.v 2) (.v 2)) (.op2 .mul (.v 3) (.v 3))) (.op2 .mul (.op2 .idx (.v 0) (.v 1)) (.op2 .idx (.v 0) (.v 1)))), (.op2 .mul (.op2 .mul (.c (.int 2)) (.v 2)) (.v 3))])]⟩
def f__law_two_right : Fn := ⟨4, 12, false, [
  .par [4, 5] [(.call i__law_opening [(.v 0), (.v 1)]), (.call i__law_opening [(.v 2), (.v 3)])],
  .set (.n 6) (.op2 .sub (.op2 .mul (.op2 .idx (.v 4) (.c (.int 0))) (.op2 .idx (.v 5) (.c (.int 1)))) (.op2 .mul (.op2 .idx (.v 5) (.c (.int 0))) (.op2 .idx (.v 4) (.c (.int 1))))),
  .set (.n 7) (.lst [(.call i_angle_order [(.v 0), (.v 1), (.v 2), (.v 3)]), (.call i_angle_order [(.v 2), (.v 3), (.v 0), (.v 1)])]),
  .set (.n 8) (.ifx (.b (.op2 .eq (.v 6) (.c (.int 0)))) (.c (.int 0)) (.ifx (.b (.op2 .lt (.v 6) (.c (.int 0)))) (.c (.int 1)) (.op1 .neg (.c (.int 1))))),
  .ifs (.not (.e (.call i__law_like [(.v 7), (.lst [(.v 8), (.op2 .sub (.c (.int 0)) (.v 8))])]))) [.ret (.c (.bl false))] [],
  .set (.n 9) (.op2 .eq (.op2 .add (.op2 .mul (.op2 .idx (.v 4) (.c (.int 0))) (.op2 .idx (.v 5) (.c (.int 1)))) (.op2 .mul (.op2 .idx (.v 5) (.c (.int 0))) (.op2 .idx (.v 4) (.c (.int 1))))) (.c (.int 0))),
  .set (.n 10) (.call i__law_least [(.op2 .add (.op2 .mul (.op2 .mul (.op2 .mul (.op2 .idx (.v 4) (.c (.int 0))) (.op2 .idx (.v 4) (.c (.int 0)))) (.op2 .idx (.v 5) (.c (.int 1)))) (.op2 .idx (.v 5) (.c (.int 1)))) (.op2 .mul (.op2 .mul (.op2 .mul (.op2 .idx (.v 5) (.c (.int 0))) (.op2 .idx (.v 5) (.c (.int 0)))) (.op2 .idx (.v 4) (.c (.int 1)))) (.op2 .idx (.v 4) (.c (.int 1))))), (.op2 .mul (.op2 .mul (.op2 .mul (.op2 .idx (.v 4) (.c (.int 1))) (.op2 .idx (.v 4) (.c (.int 1)))) (.op2 .idx (.v 5) (.c (.int 1)))) (.op2 .idx (.v 5) (.c (.int 1))))]),
  .set (.n 11) (.and (.op2 .gt (.op2 .idx (.v 4) (.c (.int 0))) (.c (.int 0))) (.and (.op2 .gt (.op2 .idx (.v 5) (.c (.int 0))) (.c (.int 0))) (.op2 .eq (.v 10) (.tup [(.c (.int 1)), (.c (.int 1))])))),
  .ret (.call i__law_like [(.lst [(.call i_are_straight [(.v 0), (.v 1), (.v 2), (.v 3)]), (.call i_are_upright [(.v 0), (.v 1), (.v 2), (.v 3)])]), (.lst [(.v 9), (.v 11)])])]⟩
def f__law_turned : Fn := ⟨2, 11, false, [
  .set (.t [(.n 2), (.n 3)]) (.v 0),
  .par [4, 5, 6] [(.tup [(.v 2), (.v 3)]), (.tup [(.c (.int 1)), (.c (.int 1))]), (.lst [(.tup [(.tup [(.v 2), (.v 3)]), (.tup [(.c (.int 1)), (.c (.int 1))])])])],
  .forr (.n 7) (.range [(.op2 .sub (.v 1) (.c (.int 1)))]) [.set (.n 8) (.call i__law_least [(.op2 .sub (.op2 .mul (.v 3) (.v 3)) (.op2 .mul (.v 2) (.v 2))), (.op2 .mul (.v 3) (.v 3))]), .set (.n 9) (.call i__law_least [(.op2 .sub (.op2 .mul (.op2 .mul (.op2 .mul (.op2 .idx (.v 4) (.c (.int 0))) (.v 2)) (.op2 .idx (.v 5) (.c (.int 1)))) (.op2 .idx (.v 8) (.c (.int 1)))) (.op2 .mul (.op2 .mul (.op2 .mul (.op2 .idx (.v 5) (.c (.int 0))) (.op2 .idx (.v 8) (.c (.int 0)))) (.op2 .idx (.v 4) (.c (.int 1)))) (.v 3))), (.op2 .mul (.op2 .mul (.op2 .mul (.op2 .idx (.v 4) (.c (.int 1))) (.v 3)) (.op2 .idx (.v 5) (.c (.int 1)))) (.op2 .idx (.v 8) (.c (.int 1))))]), .set (.n 10) (.call i__law_least [(.op2 .add (.op2 .mul (.op2 .mul (.op2 .idx (.v 5) (.c (.int 0))) (.v 2)) (.op2 .idx (.v 4) (.c (.int 1)))) (.op2 .mul (.op2 .mul (.op2 .idx (.v 4) (.c (.int 0))) (.op2 .idx (.v 5) (.c (.int 1)))) (.v 3))), (.op2 .mul (.op2 .mul (.op2 .idx (.v 5) (.c (.int 1))) (.v 3)) (.op2 .idx (.v 4) (.c (.int 1))))]), .par [4, 5] [(.v 9), (.v 10)], .append 6 (.tup [(.v 4), (.v 5)])],
  .retV 6]⟩
def f__law_rounds : Fn := ⟨1, 6, false, [
  .par [1, 2] [(.c (.int 1)), (.c (.int 1))],
  .forr (.t [(.n 3), (.n 4)]) (.e (.v 0)) [.set (.n 5) (.ifx (.b (.op2 .eq (.op2 .idx (.v 4) (.c (.int 0))) (.c (.int 0)))) (.c (.int 0)) (.ifx (.b (.op2 .gt (.op2 .idx (.v 4) (.c (.int 0))) (.c (.int 0)))) (.c (.int 1)) (.op1 .neg (.c (.int 1))))), .ifs (.b (.op2 .eq (.v 2) (.c (.int 0)))) [.set (.n 1) (.op2 .add (.v 1) (.c (.int 1)))] [.ifs (.and (.b (.op2 .ne (.v 5) (.c (.int 0)))) (.b (.op2 .ne (.v 5) (.v 2)))) [.set (.n 1) (.op2 .add (.v 1) (.c (.int 1)))] []], .set (.n 2) (.v 5)],
  .retV 1]⟩
def f__law_taken_right : Fn := ⟨3, 6, false, [
  .set (.n 3) (.call i__law_turned [(.call i__law_opening [(.v 0), (.v 1)]), (.v 2)]),
  .ifs (.not (.e (.call i__law_like [(.call i_turned_openings [(.v 0), (.v 1), (.v 2)]), (.op1 .tuple (.comp [4, 5] (.v 4) (.t [(.n 4), (.n 5)]) (.e (.v 3)) [] []))]))) [.ret (.c (.bl false))] [],
  .ret (.call i__law_like [(.call i_fits_round [(.v 0), (.v 1), (.v 2)]), (.op2 .lt (.call i__law_rounds [(.v 3)]) (.c (.int 3)))])]⟩
def f_law_30 : Fn := ⟨1, 14, false, [
  .set (.n 1) (.call i__law_cup [(.v 0)]),
  .set (.n 2) (.tup [(.c (.int 3)), (.c (.int 4)), (.c (.int 5))]),
  .set (.n 3) (.lst [(.call i_angle_order [(.v 2), (.c (.int 2)), (.tup [(.c (.int 5)), (.c (.int 12)), (.c (.int 13))]), (.c (.int 2))]), (.call i_angle_order [(.v 2), (.c (.int 0)), (.tup [(.c (.int 4)), (.c (.int 5)), (.c (.int 6))]), (.c (.int 0))]), (.call i_angle_order [(.tup [(.c (.int 3)), (.c (.int 5)), (.c (.int 7))]), (.c (.int 2)), (.v 2), (.c (.int 2))])]),
  .set (.n 3) (.op2 .add (.v 3) (.lst [(.call i_are_straight [(.tup [(.c (.int 3)), (.c (.int 5)), (.c (.int 7))]), (.c (.int 2)), (.tup [(.c (.int 1)), (.c (.int 1)), (.c (.int 1))]), (.c (.int 0))]), (.call i_are_straight [(.v 2), (.c (.int 2)), (.v 2), (.c (.int 2))]), (.call i_are_upright [(.v 2), (.c (.int 0)), (.v 2), (.c (.int 1))])])),
  .append 3 (.call i_are_upright [(.tup [(.c (.int 4)), (.c (.int 5)), (.c (.int 6))]), (.c (.int 0)), (.tup [(.c (.int 4)), (.c (.int 5)), (.c (.int 6))]), (.c (.int 1))]),
  .ifs (.not (.e (.call i__law_like [(.v 3), (.lst [(.c (.int 0)), (.op1 .neg (.c (.int 1))), (.c (.int 1)), (.c (.bl true)), (.c (.bl true)), (.c (.bl true)), (.c (.bl false))])]))) [.ret (.c (.bl false))] [],
  .set (.n 3) (.lst [(.call i_turned_openings [(.v 2), (.c (.int 0)), (.c (.int 3))]), (.call i_turned_openings [(.tup [(.c (.int 1)), (.c (.int 1)), (.c (.int 1))]), (.c (.int 0)), (.c (.int 4))]), (.call i_fits_round [(.tup [(.c (.int 1)), (.c (.int 1)), (.c (.int 1))]), (.c (.int 0)), (.c (.int 6))]), (.call i_fits_round [(.tup [(.c (.int 1)), (.c (.int 1)), (.c (.int 1))]), (.c (.int 0)), (.c (.int 7))])]),
  .set (.n 3) (.op2 .add (.v 3) (.lst [(.call i_fits_round [(.tup [(.c (.int 3)), (.c (.int 5)), (.c (.int 7))]), (.c (.int 2)), (.c (.int 3))]), (.call i_fits_round [(.tup [(.c (.int 3)), (.c (.int 5)), (.c (.int 7))]), (.c (.int 2)), (.c (.int 4))]), (.call i_fits_round [(.v 2), (.c (.int 2)), (.c (.int 4))]), (.call i_fits_round [(.v 2), (.c (.int 2)), (.c (.int 5))])])),
  .set (.n 4) (.lst [(.tup [(.tup [(.c (.int 4)), (.c (.int 5))]), (.tup [(.c (.int 7)), (.c (.int 25))]), (.tup [(.op1 .neg (.c (.int 44))), (.c (.int 125))])]), (.tup [(.tup [(.c (.int 1)), (.c (.int 2))]), (.tup [(.op1 .neg (.c (.int 1))), (.c (.int 2))]), (.tup [(.op1 .neg (.c (.int 1))), (.c (.int 1))]), (.tup [(.op1 .neg (.c (.int 1))), (.c (.int 2))])]), (.c (.bl true)), (.c (.bl false)), (.c (.bl true)), (.c (.bl false)), (.c (.bl true)), (.c (.bl false))]),
  .ifs (.not (.e (.call i__law_like [(.v 3), (.v 4)]))) [.ret (.c (.bl false))] [],
  .ifs (.b (.op2 .ne (.op1 .len (.call i_turned_openings [(.v 2), (.c (.int 0)), (.c (.int 12))])) (.c (.int 12)))) [.ret (.c (.bl false))] [],
  .ifs (.or (.b (.op1 (.notB false) (.call i_are_upright [(.v 2), (.c (.int 0)), (.tup [(.c (.int 55)), (.c (.int 84)), (.c (.int 125))]), (.c (.int 2))]))) (.b (.op2 .ne (.op2 .idx (.call i_turned_openings [(.v 2), (.c (.int 0)), (.c (.int 12))]) (.c (.int 11))) (.op2 .idx (.call i_turned_openings [(.v 2), (.c (.int 0)), (.c (.int 12))]) (.op1 .neg (.c (.int 1))))))) [.ret (.c (.bl false))] [],
  .set (.n 5) (.tup [(.c (.int 1)), (.op2 .pow (.c (.int 10)) (.c (.int 9))), (.op2 .pow (.c (.int 10)) (.c (.int 9)))]),
  .set (.n 3) (.lst [(.call i_are_straight [(.tup [(.c (.int 7)), (.c (.int 8)), (.c (.int 13))]), (.c (.int 2)), (.tup [(.c (.int 3)), (.c (.int 7)), (.c (.int 8))]), (.call i_degrees_place [(.tup [(.c (.int 3)), (.c (.int 7)), (.c (.int 8))]), (.c (.int 60))])]), (.call i_fits_round [(.v 5), (.c (.int 0)), (.c (.int 12))]), (.call i_fits_round [(.v 5), (.c (.int 1)), (.c (.int 4))])]),
  .ifs (.not (.e (.call i__law_like [(.v 3), (.lst [(.c (.bl true)), (.c (.bl true)), (.c (.bl true))])]))) [.ret (.c (.bl false))] [],
  .forr (.n 6) (.e (.tup [(.c (.int 4)), (.c (.int 12)), (.c (.int 60)), (.op2 .pow (.c (.int 10)) (.c (.int 4))), (.op2 .pow (.c (.int 10)) (.c (.int 9)))])) [.par [7, 8] [(.callr i__law_triangle 1 [(.v 6)]), (.callr i__law_triangle 1 [(.callr i__law_some 1 [(.lst [(.c (.int 5)), (.v 6)])])])], .par [9, 10] [(.callr i__law_roll 1 [(.c (.int 3))]), (.callr i__law_roll 1 [(.c (.int 3))])], .ifs (.or (.not (.e (.call i__law_two_right [(.v 7), (.v 9), (.v 8), (.v 10)]))) (.not (.e (.call i__law_two_right [(.v 7), (.c (.int 0)), (.v 7), (.c (.int 1))])))) [.ret (.c (.bl false))] [], .ifs (.not (.e (.call i__law_two_right [(.v 7), (.v 9), (.v 7), (.v 9)]))) [.ret (.c (.bl false))] [], .ifs (.not (.e (.call i__law_taken_right [(.v 7), (.v 9), (.op2 .add (.c (.int 1)) (.callr i__law_roll 1 [(.c (.int 12))]))]))) [.ret (.c (.bl false))] [], .set (.n 11) (.lst [(.call i_angle_order [(.v 7), (.c (.int 0)), (.v 7), (.c (.int 1))]), (.call i_angle_order [(.v 7), (.c (.int 1)), (.v 7), (.c (.int 2))])]), .ifs (.not (.e (.call i__law_like [(.v 11), (.lst [(.ifx (.b (.op2 .eq (.op2 .idx (.v 7) (.c (.int 0))) (.op2 .idx (.v 7) (.c (.int 1))))) (.c (.int 0)) (.op1 .neg (.c (.int 1)))), (.ifx (.b (.op2 .eq (.op2 .idx (.v 7) (.c (.int 1))) (.op2 .idx (.v 7) (.c (.int 2))))) (.c (.int 0)) (.op1 .neg (.c (.int 1))))])]))) [.ret (.c (.bl false))] []],
  .par [12, 10] [(.op2 .add (.c (.int 2)) (.callr i__law_roll 1 [(.c (.int 30))])), (.op2 .add (.c (.int 1)) (.callr i__law_roll 1 [(.c (.int 30))]))],
  .set (.n 13) (.call i__law_right [(.op2 .add (.op2 .max (.v 12) (.v 10)) (.c (.int 1))), (.op2 .min (.v 12) (.v 10))]),
  .ifs (.not (.e (.call i__law_like [(.lst [(.call i_are_upright [(.v 13), (.c (.int 0)), (.v 13), (.c (.int 1))]), (.call i_are_straight [(.v 13), (.c (.int 2)), (.v 2), (.c (.int 2))]), (.op2 .idx (.call i_openings_of [(.v 13)]) (.c (.int 2)))]), (.lst [(.c (.bl true)), (.c (.bl true)), (.tup [(.c (.int 0)), (.c (.int 1))])])]))) [.ret (.c (.bl false))] [],
  .ret (.c (.bl true))]⟩
class H_is_tuple_of (T : Table) : Prop where
  s : Has T i_is_tuple_of f_is_tuple_of
instance {T : Table} [h : H_is_tuple_of T] : Has T i_is_tuple_of f_is_tuple_of := h.s
class H_is_integer (T : Table) : Prop where
  s : Has T i_is_integer f_is_integer
instance {T : Table} [h : H_is_integer T] : Has T i_is_integer f_is_integer := h.s
class H_is_whole (T : Table) : Prop where
  s : Has T i_is_whole f_is_whole
  c0 : H_is_integer T
instance {T : Table} [h : H_is_whole T] : Has T i_is_whole f_is_whole := h.s
instance {T : Table} [h : H_is_whole T] : H_is_integer T := h.c0
class H_is_side (T : Table) : Prop where
  s : Has T i_is_side f_is_side
  c0 : H_is_whole T
instance {T : Table} [h : H_is_side T] : Has T i_is_side f_is_side := h.s
instance {T : Table} [h : H_is_side T] : H_is_whole T := h.c0
class H_fits_triangle (T : Table) : Prop where
  s : Has T i_fits_triangle f_fits_triangle
  c0 : H_is_tuple_of T
  c1 : H_is_side T
instance {T : Table} [h : H_fits_triangle T] : Has T i_fits_triangle f_fits_triangle := h.s
instance {T : Table} [h : H_fits_triangle T] : H_is_tuple_of T := h.c0
instance {T : Table} [h : H_fits_triangle T] : H_is_side T := h.c1
class H_need_triangle (T : Table) : Prop where
  s : Has T i_need_triangle f_need_triangle
  c0 : H_fits_triangle T
instance {T : Table} [h : H_need_triangle T] : Has T i_need_triangle f_need_triangle := h.s
instance {T : Table} [h : H_need_triangle T] : H_fits_triangle T := h.c0
class H_divisor_of (T : Table) : Prop where
  s : Has T i_divisor_of f_divisor_of
instance {T : Table} [h : H_divisor_of T] : Has T i_divisor_of f_divisor_of := h.s
class H_lowest (T : Table) : Prop where
  s : Has T i_lowest f_lowest
  c0 : H_divisor_of T
instance {T : Table} [h : H_lowest T] : Has T i_lowest f_lowest := h.s
instance {T : Table} [h : H_lowest T] : H_divisor_of T := h.c0
class H_opening_in (T : Table) : Prop where
  s : Has T i_opening_in f_opening_in
  c0 : H_lowest T
instance {T : Table} [h : H_opening_in T] : Has T i_opening_in f_opening_in := h.s
instance {T : Table} [h : H_opening_in T] : H_lowest T := h.c0
class H_openings_of (T : Table) : Prop where
  s : Has T i_openings_of f_openings_of
  c0 : H_need_triangle T
  c1 : H_opening_in T
instance {T : Table} [h : H_openings_of T] : Has T i_openings_of f_openings_of := h.s
instance {T : Table} [h : H_openings_of T] : H_need_triangle T := h.c0
instance {T : Table} [h : H_openings_of T] : H_opening_in T := h.c1
class H_is_under (T : Table) : Prop where
  s : Has T i_is_under f_is_under
instance {T : Table} [h : H_is_under T] : Has T i_is_under f_is_under := h.s
class H_opening_by_place (T : Table) : Prop where
  s : Has T i_opening_by_place f_opening_by_place
  c0 : H_opening_in T
instance {T : Table} [h : H_opening_by_place T] : Has T i_opening_by_place f_opening_by_place := h.s
instance {T : Table} [h : H_opening_by_place T] : H_opening_in T := h.c0
class H_need_whole (T : Table) : Prop where
  s : Has T i_need_whole f_need_whole
  c0 : H_is_whole T
instance {T : Table} [h : H_need_whole T] : Has T i_need_whole f_need_whole := h.s
instance {T : Table} [h : H_need_whole T] : H_is_whole T := h.c0
class H_need_two_angles (T : Table) : Prop where
  s : Has T i_need_two_angles f_need_two_angles
  c0 : H_need_whole T
  c1 : H_need_triangle T
instance {T : Table} [h : H_need_two_angles T] : Has T i_need_two_angles f_need_two_angles := h.s
instance {T : Table} [h : H_need_two_angles T] : H_need_whole T := h.c0
instance {T : Table} [h : H_need_two_angles T] : H_need_triangle T := h.c1
class H_angle_order (T : Table) : Prop where
  s : Has T i_angle_order f_angle_order
  c0 : H_is_under T
  c1 : H_opening_by_place T
  c2 : H_need_two_angles T
instance {T : Table} [h : H_angle_order T] : Has T i_angle_order f_angle_order := h.s
instance {T : Table} [h : H_angle_order T] : H_is_under T := h.c0
instance {T : Table} [h : H_angle_order T] : H_opening_by_place T := h.c1
instance {T : Table} [h : H_angle_order T] : H_need_two_angles T := h.c2
class H_sum_in (T : Table) : Prop where
  s : Has T i_sum_in f_sum_in
  c0 : H_lowest T
instance {T : Table} [h : H_sum_in T] : Has T i_sum_in f_sum_in := h.s
instance {T : Table} [h : H_sum_in T] : H_lowest T := h.c0
class H_are_straight (T : Table) : Prop where
  s : Has T i_are_straight f_are_straight
  c0 : H_sum_in T
  c1 : H_opening_by_place T
  c2 : H_need_two_angles T
instance {T : Table} [h : H_are_straight T] : Has T i_are_straight f_are_straight := h.s
instance {T : Table} [h : H_are_straight T] : H_sum_in T := h.c0
instance {T : Table} [h : H_are_straight T] : H_opening_by_place T := h.c1
instance {T : Table} [h : H_are_straight T] : H_need_two_angles T := h.c2
class H_product_in (T : Table) : Prop where
  s : Has T i_product_in f_product_in
  c0 : H_lowest T
instance {T : Table} [h : H_product_in T] : Has T i_product_in f_product_in := h.s
instance {T : Table} [h : H_product_in T] : H_lowest T := h.c0
class H_are_upright (T : Table) : Prop where
  s : Has T i_are_upright f_are_upright
  c0 : H_sum_in T
  c1 : H_product_in T
  c2 : H_opening_by_place T
  c3 : H_need_two_angles T
instance {T : Table} [h : H_are_upright T] : Has T i_are_upright f_are_upright := h.s
instance {T : Table} [h : H_are_upright T] : H_sum_in T := h.c0
instance {T : Table} [h : H_are_upright T] : H_product_in T := h.c1
instance {T : Table} [h : H_are_upright T] : H_opening_by_place T := h.c2
instance {T : Table} [h : H_are_upright T] : H_need_two_angles T := h.c3
class H_need_often (T : Table) : Prop where
  s : Has T i_need_often f_need_often
  c0 : H_need_whole T
  c1 : H_need_triangle T
instance {T : Table} [h : H_need_often T] : Has T i_need_often f_need_often := h.s
instance {T : Table} [h : H_need_often T] : H_need_whole T := h.c0
instance {T : Table} [h : H_need_often T] : H_need_triangle T := h.c1
class H_less_by (T : Table) : Prop where
  s : Has T i_less_by f_less_by
  c0 : H_lowest T
instance {T : Table} [h : H_less_by T] : Has T i_less_by f_less_by := h.s
instance {T : Table} [h : H_less_by T] : H_lowest T := h.c0
class H_rows_by (T : Table) : Prop where
  s : Has T i_rows_by f_rows_by
  c0 : H_less_by T
  c1 : H_product_in T
instance {T : Table} [h : H_rows_by T] : Has T i_rows_by f_rows_by := h.s
instance {T : Table} [h : H_rows_by T] : H_less_by T := h.c0
instance {T : Table} [h : H_rows_by T] : H_product_in T := h.c1
class H_turned_openings (T : Table) : Prop where
  s : Has T i_turned_openings f_turned_openings
  c0 : H_opening_by_place T
  c1 : H_need_often T
  c2 : H_rows_by T
instance {T : Table} [h : H_turned_openings T] : Has T i_turned_openings f_turned_openings := h.s
instance {T : Table} [h : H_turned_openings T] : H_opening_by_place T := h.c0
instance {T : Table} [h : H_turned_openings T] : H_need_often T := h.c1
instance {T : Table} [h : H_turned_openings T] : H_rows_by T := h.c2
class H_fits_round (T : Table) : Prop where
  s : Has T i_fits_round f_fits_round
  c0 : H_opening_by_place T
  c1 : H_need_often T
  c2 : H_rows_by T
instance {T : Table} [h : H_fits_round T] : Has T i_fits_round f_fits_round := h.s
instance {T : Table} [h : H_fits_round T] : H_opening_by_place T := h.c0
instance {T : Table} [h : H_fits_round T] : H_need_often T := h.c1
instance {T : Table} [h : H_fits_round T] : H_rows_by T := h.c2
class H_need_degrees (T : Table) : Prop where
  s : Has T i_need_degrees f_need_degrees
  c0 : H_is_whole T
instance {T : Table} [h : H_need_degrees T] : Has T i_need_degrees f_need_degrees := h.s
instance {T : Table} [h : H_need_degrees T] : H_is_whole T := h.c0
class H_across_square (T : Table) : Prop where
  s : Has T i_across_square f_across_square
instance {T : Table} [h : H_across_square T] : Has T i_across_square f_across_square := h.s
class H_place_with (T : Table) : Prop where
  s : Has T i_place_with f_place_with
  c0 : H_across_square T
instance {T : Table} [h : H_place_with T] : Has T i_place_with f_place_with := h.s
instance {T : Table} [h : H_place_with T] : H_across_square T := h.c0
class H_degrees_place (T : Table) : Prop where
  s : Has T i_degrees_place f_degrees_place
  c0 : H_need_triangle T
  c1 : H_need_degrees T
  c2 : H_place_with T
instance {T : Table} [h : H_degrees_place T] : Has T i_degrees_place f_degrees_place := h.s
instance {T : Table} [h : H_degrees_place T] : H_need_triangle T := h.c0
instance {T : Table} [h : H_degrees_place T] : H_need_degrees T := h.c1
instance {T : Table} [h : H_degrees_place T] : H_place_with T := h.c2
class H__law_cup (T : Table) : Prop where
  s : Has T i__law_cup f__law_cup
instance {T : Table} [h : H__law_cup T] : Has T i__law_cup f__law_cup := h.s
class H__law_roll (T : Table) : Prop where
  s : Has T i__law_roll f__law_roll
instance {T : Table} [h : H__law_roll T] : Has T i__law_roll f__law_roll := h.s
class H__law_some (T : Table) : Prop where
  s : Has T i__law_some f__law_some
  c0 : H__law_roll T
instance {T : Table} [h : H__law_some T] : Has T i__law_some f__law_some := h.s
instance {T : Table} [h : H__law_some T] : H__law_roll T := h.c0
class H__law_sort (T : Table) : Prop where
  s : Has T i__law_sort f__law_sort
instance {T : Table} [h : H__law_sort T] : Has T i__law_sort f__law_sort := h.s
class H__law_like (T : Table) : Prop where
  s : Has T i__law_like f__law_like
  c0 : H__law_sort T
instance {T : Table} [h : H__law_like T] : Has T i__law_like f__law_like := h.s
instance {T : Table} [h : H__law_like T] : H__law_sort T := h.c0
class H__law_triangle (T : Table) : Prop where
  s : Has T i__law_triangle f__law_triangle
  c0 : H__law_roll T
instance {T : Table} [h : H__law_triangle T] : Has T i__law_triangle f__law_triangle := h.s
instance {T : Table} [h : H__law_triangle T] : H__law_roll T := h.c0
class H__law_right (T : Table) : Prop where
  s : Has T i__law_right f__law_right
instance {T : Table} [h : H__law_right T] : Has T i__law_right f__law_right := h.s
class H__law_divisor (T : Table) : Prop where
  s : Has T i__law_divisor f__law_divisor
instance {T : Table} [h : H__law_divisor T] : Has T i__law_divisor f__law_divisor := h.s
class H__law_least (T : Table) : Prop where
  s : Has T i__law_least f__law_least
  c0 : H__law_divisor T
instance {T : Table} [h : H__law_least T] : Has T i__law_least f__law_least := h.s
instance {T : Table} [h : H__law_least T] : H__law_divisor T := h.c0
class H__law_opening (T : Table) : Prop where
  s : Has T i__law_opening f__law_opening
  c0 : H__law_least T
instance {T : Table} [h : H__law_opening T] : Has T i__law_opening f__law_opening := h.s
instance {T : Table} [h : H__law_opening T] : H__law_least T := h.c0
class H__law_two_right (T : Table) : Prop where
  s : Has T i__law_two_right f__law_two_right
  c0 : H_angle_order T
  c1 : H_are_straight T
  c2 : H_are_upright T
  c3 : H__law_like T
  c4 : H__law_least T
  c5 : H__law_opening T
instance {T : Table} [h : H__law_two_right T] : Has T i__law_two_right f__law_two_right := h.s
instance {T : Table} [h : H__law_two_right T] : H_angle_order T := h.c0
instance {T : Table} [h : H__law_two_right T] : H_are_straight T := h.c1
instance {T : Table} [h : H__law_two_right T] : H_are_upright T := h.c2
instance {T : Table} [h : H__law_two_right T] : H__law_like T := h.c3
instance {T : Table} [h : H__law_two_right T] : H__law_least T := h.c4
instance {T : Table} [h : H__law_two_right T] : H__law_opening T := h.c5
class H__law_turned (T : Table) : Prop where
  s : Has T i__law_turned f__law_turned
  c0 : H__law_least T
instance {T : Table} [h : H__law_turned T] : Has T i__law_turned f__law_turned := h.s
instance {T : Table} [h : H__law_turned T] : H__law_least T := h.c0
class H__law_rounds (T : Table) : Prop where
  s : Has T i__law_rounds f__law_rounds
instance {T : Table} [h : H__law_rounds T] : Has T i__law_rounds f__law_rounds := h.s
class H__law_taken_right (T : Table) : Prop where
  s : Has T i__law_taken_right f__law_taken_right
  c0 : H_turned_openings T
  c1 : H_fits_round T
  c2 : H__law_like T
  c3 : H__law_opening T
  c4 : H__law_turned T
  c5 : H__law_rounds T
instance {T : Table} [h : H__law_taken_right T] : Has T i__law_taken_right f__law_taken_right := h.s
instance {T : Table} [h : H__law_taken_right T] : H_turned_openings T := h.c0
instance {T : Table} [h : H__law_taken_right T] : H_fits_round T := h.c1
instance {T : Table} [h : H__law_taken_right T] : H__law_like T := h.c2
instance {T : Table} [h : H__law_taken_right T] : H__law_opening T := h.c3
instance {T : Table} [h : H__law_taken_right T] : H__law_turned T := h.c4
instance {T : Table} [h : H__law_taken_right T] : H__law_rounds T := h.c5
class H_law_30 (T : Table) : Prop where
  s : Has T i_law f_law_30
  c0 : H_openings_of T
  c1 : H_angle_order T
  c2 : H_are_straight T
  c3 : H_are_upright T
  c4 : H_turned_openings T
  c5 : H_fits_round T
  c6 : H_degrees_place T
  c7 : H__law_cup T
  c8 : H__law_roll T
  c9 : H__law_some T
  c10 : H__law_like T
  c11 : H__law_triangle T
  c12 : H__law_right T
  c13 : H__law_two_right T
  c14 : H__law_taken_right T
instance {T : Table} [h : H_law_30 T] : Has T i_law f_law_30 := h.s
instance {T : Table} [h : H_law_30 T] : H_openings_of T := h.c0
instance {T : Table} [h : H_law_30 T] : H_angle_order T := h.c1
instance {T : Table} [h : H_law_30 T] : H_are_straight T := h.c2
instance {T : Table} [h : H_law_30 T] : H_are_upright T := h.c3
instance {T : Table} [h : H_law_30 T] : H_turned_openings T := h.c4
instance {T : Table} [h : H_law_30 T] : H_fits_round T := h.c5
instance {T : Table} [h : H_law_30 T] : H_degrees_place T := h.c6
instance {T : Table} [h : H_law_30 T] : H__law_cup T := h.c7
instance {T : Table} [h : H_law_30 T] : H__law_roll T := h.c8
instance {T : Table} [h : H_law_30 T] : H__law_some T := h.c9
instance {T : Table} [h : H_law_30 T] : H__law_like T := h.c10
instance {T : Table} [h : H_law_30 T] : H__law_triangle T := h.c11
instance {T : Table} [h : H_law_30 T] : H__law_right T := h.c12
instance {T : Table} [h : H_law_30 T] : H__law_two_right T := h.c13
instance {T : Table} [h : H_law_30 T] : H__law_taken_right T := h.c14
variable {T : Table}
/-! ### openings -/
theorem fr_ext {x y : Rat} : (D.tup [.int x.num, .int (x.den : Int)] = D.tup [.int y.num, .int (y.den : Int)]) ↔ x = y := by
  constructor
  · intro h
    injection h with h; injection h with h1 h; injection h with h2 _
    injection h1 with h1
    injection h2 with h2
    rw [← num_den x, ← num_den y, h1, h2]
  · rintro rfl; rfl
theorem rat_eq_iff {x y : Rat} : x = y ↔ x.num * (y.den : Int) = y.num * (x.den : Int) := by
  constructor
  · rintro rfl; rfl
  · intro h
    have hx := rat_ne (den0 x)
    have hy := rat_ne (den0 y)
    rw [← num_den x, ← num_den y]
    have : (x.num : Rat) * ((y.den : Int) : Rat) = (y.num : Rat) * ((x.den : Int) : Rat) := by rw [← Rat.intCast_mul, ← Rat.intCast_mul, h]
    generalize ((x.den : Int) : Rat) = q at *
    generalize ((y.den : Int) : Rat) = s at *
    grind
theorem rat_add_zero {x y : Rat} : x + y = 0 ↔ x.num * (y.den : Int) + y.num * (x.den : Int) = 0 := by
  have hx := rat_ne (den0 x)
  have hy := rat_ne (den0 y)
  have e : x + y = ((x.num * (y.den : Int) + y.num * (x.den : Int) : Int) : Rat) / (((x.den : Int) * (y.den : Int) : Int) : Rat) := by
    conv => lhs; rw [← num_den x, ← num_den y]
    rw [Rat.intCast_add, Rat.intCast_mul, Rat.intCast_mul, Rat.intCast_mul]
    generalize ((x.den : Int) : Rat) = q at *
    generalize ((y.den : Int) : Rat) = s at *
    grind
  have hd := rat_ne (Int.mul_ne_zero (den0 x) (den0 y))
  constructor
  · intro h
    rw [h] at e
    have : ((x.num * (y.den : Int) + y.num * (x.den : Int) : Int) : Rat) = 0 := by
      generalize ((x.num * (y.den : Int) + y.num * (x.den : Int) : Int) : Rat) = A at *
      generalize (((x.den : Int) * (y.den : Int) : Int) : Rat) = B at *
      grind
    exact_mod_cast this
  · intro h
    rw [e, h]
    generalize (((x.den : Int) * (y.den : Int) : Int) : Rat) = B at *
    rw [show ((0 : Int) : Rat) = 0 from rfl]
    grind
/-- the opening at a place -/
def opq (s o t : Int) : Rat := ((o * o + t * t - s * s : Int) : Rat) / ((2 * o * t : Int) : Rat)
theorem rbits_opq {s o t : Int} (hs : 1 ≤ s) (ho : 1 ≤ o) (ht : 1 ≤ t) (hs9 : s ≤ 1000000000) (ho9 : o ≤ 1000000000) (ht9 : t ≤ 1000000000) : RBits (opq s o t) 64 ∧ Bits (2 * o * t) 62 ∧ Bits (o * o + t * t - s * s) 62 ∧ 1 ≤ 2 * o * t := by
  have h1 := sq_le (show 0 ≤ s by omega) hs9
  have h2 := sq_le (show 0 ≤ o by omega) ho9
  have h3 := sq_le (show 0 ≤ t by omega) ht9
  have h4 : 1 * 1 ≤ o * t := Int.mul_le_mul ho ht (by omega) (by omega)
  have h5 : o * t ≤ 1000000000 * 1000000000 := Int.mul_le_mul ho9 ht9 (by omega) (by omega)
  have n1 := Int.mul_nonneg (show 0 ≤ s by omega) (show 0 ≤ s by omega)
  have n2 := Int.mul_nonneg (show 0 ≤ o by omega) (show 0 ≤ o by omega)
  have n3 := Int.mul_nonneg (show 0 ≤ t by omega) (show 0 ≤ t by omega)
  have e : 2 * o * t = 2 * (o * t) := by grind
  have b1 : Bits (o * o + t * t - s * s) 62 := ⟨by omega⟩
  have b2 : Bits (2 * o * t) 62 := ⟨by omega⟩
  obtain ⟨d1, d2⟩ := rbits_div (a := o * o + t * t - s * s) (b := 2 * o * t) (by omega)
  exact ⟨⟨Nat.lt_of_lt_of_le d1 (Nat.pow_le_pow_right (by omega) (by omega)), Nat.lt_of_lt_of_le d2 (Nat.pow_le_pow_right (by omega) (by omega))⟩, b2, b1, by omega⟩
theorem r_opening_in [H_opening_in T] {k : Nat} {s o t : Int} (hs : 1 ≤ s) (ho : 1 ≤ o) (ht : 1 ≤ t) (hs9 : s ≤ 1000000000) (ho9 : o ≤ 1000000000) (ht9 : t ≤ 1000000000) :
    run T (k + 3) i_opening_in [.v (.int s), .v (.int o), .v (.int t)] = .ok (.tup [.int (opq s o t).num, .int ((opq s o t).den : Int)], false) .non := by
  have b1 : Bits s 31 := ⟨by omega⟩
  have b2 : Bits o 31 := ⟨by omega⟩
  have b3 : Bits t 31 := ⟨by omega⟩
  obtain ⟨_, bb, _, hp⟩ := rbits_opq hs ho ht hs9 ho9 ht9
  have e := r_lowestR (T := T) (k := k) (a := o * o + t * t - s * s) (b := 2 * o * t) (by omega) (by omega)
  have m1 : mulOk (2 * o) t = true := mulOk_r (by omega)
  rw [run_succ]
  simp [f_opening_in, argsOk, mulOk_l, m1, e, opq]
def lowI (a b c : Int) (i : Int) : Int := if i = 0 then b else a
def highI (a b c : Int) (i : Int) : Int := if i = 2 then b else c
def opI (a b c i : Int) : Rat := opq (sideI a b c i) (lowI a b c i) (highI a b c i)
theorem op_ok {a b c i : Int} (h : Tri a b c) (h0 : 0 ≤ i) (h2 : i ≤ 2) : 1 ≤ sideI a b c i ∧ 1 ≤ lowI a b c i ∧ 1 ≤ highI a b c i ∧ sideI a b c i ≤ 1000000000 ∧ lowI a b c i ≤ 1000000000 ∧ highI a b c i ≤ 1000000000 := by
  obtain ⟨h1, h2', h3, h4, h5⟩ := h
  rcases three h0 h2 with rfl | rfl | rfl <;> simp [sideI, lowI, highI] <;> omega
theorem rb_op {a b c i : Int} (h : Tri a b c) (h0 : 0 ≤ i) (h2 : i ≤ 2) : RBits (opI a b c i) 64 := by
  obtain ⟨h1, h2, h3, h4, h5, h6⟩ := op_ok h h0 h2
  exact (rbits_opq h1 h2 h3 h4 h5 h6).1
theorem r_opening_by_place [H_opening_by_place T] {k : Nat} {a b c i : Int} (h : Tri a b c) (h0 : 0 ≤ i) (h2 : i ≤ 2) :
    run T (k + 4) i_opening_by_place [.v (.tup [.int a, .int b, .int c]), .v (.int i)] = .ok (.tup [.int (opI a b c i).num, .int ((opI a b c i).den : Int)], false) .non := by
  obtain ⟨x1, x2, x3, x4, x5, x6⟩ := op_ok h h0 h2
  have e := r_opening_in (T := T) (k := k) x1 x2 x3 x4 x5 x6
  rw [run_succ]
  rcases three h0 h2 with rfl | rfl | rfl <;> simp [sideI, lowI, highI] at e <;> simp [f_opening_by_place, argsOk, enumE, turns, line, e, opI, sideI, lowI, highI]
theorem r__law_opening [H__law_opening T] {k : Nat} {a b c i : Int} (h : Tri a b c) (h0 : 0 ≤ i) (h2 : i ≤ 2) :
    run T (k + 4) i__law_opening [.v (.tup [.int a, .int b, .int c]), .v (.int i)] = .ok (.tup [.int (opI a b c i).num, .int ((opI a b c i).den : Int)], false) .non := by
  obtain ⟨x1, x2, x3, x4, x5, x6⟩ := op_ok h h0 h2
  obtain ⟨_, bb, _, hp⟩ := rbits_opq x1 x2 x3 x4 x5 x6
  have e := r__law_leastR (T := T) (k := k + 1) (a := lowI a b c i * lowI a b c i + highI a b c i * highI a b c i - sideI a b c i * sideI a b c i) (b := 2 * lowI a b c i * highI a b c i) (by omega) (by omega)
  obtain ⟨b1, b2, b3⟩ := tri_bits h
  have m1 : ∀ x y : Int, Bits x 31 → Bits y 31 → mulOk (2 * x) y = true := fun x y hx hy => by have : Bits (2 : Int) 2 := ⟨by decide⟩; exact mulOk_bd (by omega)
  have hr : rng 0 3 = [0, 1, 2] := by decide
  have hg : rgOk 3 = true := by decide
  rw [run_succ]
  rcases three h0 h2 with rfl | rfl | rfl <;> simp [sideI, lowI, highI] at e <;> simp [f__law_opening, argsOk, hr, hg, turns, line, e, opI, opq, sideI, lowI, highI, mulOk_l, m1]
/-! ### two angles -/
def ordQ (x y : Rat) : Int := if x = y then 0 else if x.num * (y.den : Int) < y.num * (x.den : Int) then 1 else -1
theorem eqG_fr {x y : Rat} : eqG (.tup [.int x.num, .int (x.den : Int)]) (.tup [.int y.num, .int (y.den : Int)]) = some (decide (x = y)) := by
  have e : D.eqv (.tup [.int x.num, .int (x.den : Int)]) (.tup [.int y.num, .int (y.den : Int)]) = decide (x = y) := by
    by_cases h : x = y
    · subst h; simp [D.eqv, D.eqvs]
    · have h2 : ¬ (x.num = y.num ∧ (x.den : Int) = (y.den : Int)) := fun q => h (by rw [← num_den x, ← num_den y, q.1, q.2])
      simp only [D.eqv, D.eqvs, h]
      by_cases h3 : x.num = y.num
      · have h4 : ¬ ((x.den : Int) = (y.den : Int)) := fun q => h2 ⟨h3, q⟩
        simp [h3]
        omega
      · simp [h3]
  unfold eqG
  rw [e]
  simp
theorem r_need_two_angles [H_need_two_angles T] {k : Nat} {a b c a' b' c' i j : Int} (h : Tri a b c) (h' : Tri a' b' c') (i0 : 0 ≤ i) (i2 : i ≤ 2) (j0 : 0 ≤ j) (j2 : j ≤ 2) :
    run T (k + 6) i_need_two_angles [.v (.tup [.int a, .int b, .int c]), .v (.int i), .v (.tup [.int a', .int b', .int c']), .v (.int j)] = .ok (.non, false) .non := by
  rw [run_succ]
  simp [f_need_two_angles, argsOk, h, h', i0, i2, j0, j2]
section
variable {k : Nat} {a b c a' b' c' i j : Int} (h : Tri a b c) (h' : Tri a' b' c') (i0 : 0 ≤ i) (i2 : i ≤ 2) (j0 : 0 ≤ j) (j2 : j ≤ 2)
include h h' i0 i2 j0 j2
theorem r_angle_order [H_angle_order T] : run T (k + 7) i_angle_order [.v (.tup [.int a, .int b, .int c]), .v (.int i), .v (.tup [.int a', .int b', .int c']), .v (.int j)] = .ok (.int (ordQ (opI a b c i) (opI a' b' c' j)), false) .non := by
  have e1 := r_need_two_angles (T := T) (k := k) h h' i0 i2 j0 j2
  have e2 := r_opening_by_place (T := T) (k := k + 2) h i0 i2
  have e3 := r_opening_by_place (T := T) (k := k + 2) h' j0 j2
  have b1 := rb_op h i0 i2
  have b2 := rb_op h' j0 j2
  generalize opI a b c i = x at *
  generalize opI a' b' c' j = y at *
  have e4 := r_is_under (T := T) (k := k + 5) (p := x.num) (q := (x.den : Int)) (r := y.num) (s := (y.den : Int)) (by omega)
  rw [run_succ]
  by_cases h1 : x = y
  · simp [f_angle_order, argsOk, e1, e2, e3, e4, eqG_fr, h1, ordQ]
  · by_cases h2 : x.num * (y.den : Int) < y.num * (x.den : Int) <;> simp [f_angle_order, argsOk, e1, e2, e3, e4, eqG_fr, h1, ordQ, h2]
theorem r_are_straight [H_are_straight T] : run T (k + 7) i_are_straight [.v (.tup [.int a, .int b, .int c]), .v (.int i), .v (.tup [.int a', .int b', .int c']), .v (.int j)] = .ok (.bl (decide (opI a b c i + opI a' b' c' j = 0)), false) .non := by
  have e1 := r_need_two_angles (T := T) (k := k) h h' i0 i2 j0 j2
  have e2 := r_opening_by_place (T := T) (k := k + 2) h i0 i2
  have e3 := r_opening_by_place (T := T) (k := k + 2) h' j0 j2
  have b1 := rb_op h i0 i2
  have b2 := rb_op h' j0 j2
  generalize opI a b c i = x at *
  generalize opI a' b' c' j = y at *
  have e4 := r_sum_in (T := T) (k := k + 3) (p := x.num) (q := (x.den : Int)) (r := y.num) (s := (y.den : Int)) (den0 x) (den0 y) (by omega)
  rw [num_den, num_den] at e4
  have e5 := eqG_fr (x := x + y) (y := 0)
  have z0 : ((0 : Rat).num = 0) ∧ ((0 : Rat).den : Int) = 1 := ⟨rfl, rfl⟩
  rw [z0.1, z0.2] at e5
  rw [run_succ]
  simp [f_are_straight, argsOk, e1, e2, e3, e4, e5]
theorem r_are_upright [H_are_upright T] : run T (k + 7) i_are_upright [.v (.tup [.int a, .int b, .int c]), .v (.int i), .v (.tup [.int a', .int b', .int c']), .v (.int j)] = .ok (.bl (decide (0 < (opI a b c i).num) && (decide (0 < (opI a' b' c' j).num) && decide (opI a b c i * opI a b c i + opI a' b' c' j * opI a' b' c' j = 1))), false) .non := by
  have e1 := r_need_two_angles (T := T) (k := k) h h' i0 i2 j0 j2
  have e2 := r_opening_by_place (T := T) (k := k + 2) h i0 i2
  have e3 := r_opening_by_place (T := T) (k := k + 2) h' j0 j2
  have b1 := rb_op h i0 i2
  have b2 := rb_op h' j0 j2
  generalize opI a b c i = x at *
  generalize opI a' b' c' j = y at *
  have e4 := r_product_in (T := T) (k := k + 3) (p := x.num) (q := (x.den : Int)) (r := x.num) (s := (x.den : Int)) (den0 x) (den0 x) (by omega)
  have e5 := r_product_in (T := T) (k := k + 3) (p := y.num) (q := (y.den : Int)) (r := y.num) (s := (y.den : Int)) (den0 y) (den0 y) (by omega)
  rw [num_den] at e4 e5
  have b3 : RBits (x * x) 128 := inferInstance
  have b4 : RBits (y * y) 128 := inferInstance
  have e6 := r_sum_in (T := T) (k := k + 3) (p := (x * x).num) (q := ((x * x).den : Int)) (r := (y * y).num) (s := ((y * y).den : Int)) (den0 _) (den0 _) (by omega)
  rw [num_den, num_den] at e6
  have e7 := eqG_fr (x := x * x + y * y) (y := 1)
  have z0 : ((1 : Rat).num = 1) ∧ ((1 : Rat).den : Int) = 1 := ⟨rfl, rfl⟩
  rw [z0.1, z0.2] at e7
  rw [run_succ]
  obtain ⟨m, hm⟩ : ∃ m, (if y.num < x.num then y.num else x.num) = m := ⟨_, rfl⟩
  have hmin : 0 < m ↔ (0 < x.num ∧ 0 < y.num) := by rw [← hm]; split <;> omega
  by_cases g1 : 0 < x.num <;> by_cases g2 : 0 < y.num
  · have g' : 0 < m := hmin.mpr ⟨g1, g2⟩
    simp [f_are_upright, argsOk, e1, e2, e3, e4, e5, e6, e7, hm, g', g1, g2]
  all_goals
    have g' : ¬ 0 < m := fun q => by have := hmin.mp q; omega
    simp [f_are_upright, argsOk, e1, e2, e3, e4, e5, e6, e7, hm, g', g1, g2]
/-- two angles compared and added -/
theorem r__law_two_right [H__law_two_right T] : run T (k + 12) i__law_two_right [.v (.tup [.int a, .int b, .int c]), .v (.int i), .v (.tup [.int a', .int b', .int c']), .v (.int j)] = .ok (.bl true, false) .non := by
  have e1 := r__law_opening (T := T) (k := k + 7) h i0 i2
  have e2 := r__law_opening (T := T) (k := k + 7) h' j0 j2
  have e3 := r_angle_order (T := T) (k := k + 4) h h' i0 i2 j0 j2
  have e4 := r_angle_order (T := T) (k := k + 4) h' h j0 j2 i0 i2
  have e5 := r_are_straight (T := T) (k := k + 4) h h' i0 i2 j0 j2
  have e6 := r_are_upright (T := T) (k := k + 4) h h' i0 i2 j0 j2
  have b1 := rb_op h i0 i2
  have b2 := rb_op h' j0 j2
  generalize opI a b c i = x at *
  generalize opI a' b' c' j = y at *
  have l1 := fun (d : D) (hd : D.fit 6 d = true) => like_s (T := T) (k := k + 11) hd (by omega)
  have dx := den0 x
  have dy := den0 y
  have m1 : mulOk x.num (y.den : Int) = true := mulOk_bd (by omega)
  have m2 : mulOk y.num (x.den : Int) = true := mulOk_bd (by omega)
  have m3 : mulOk x.num x.num = true := mulOk_bd (by omega)
  have m4 : mulOk y.num y.num = true := mulOk_bd (by omega)
  have m5 : mulOk (x.num * x.num) (y.den : Int) = true := mulOk_bd (by omega)
  have m6 : mulOk (y.num * y.num) (x.den : Int) = true := mulOk_bd (by omega)
  have m7 : mulOk (x.num * x.num * (y.den : Int)) (y.den : Int) = true := mulOk_bd (by omega)
  have m8 : mulOk (y.num * y.num * (x.den : Int)) (x.den : Int) = true := mulOk_bd (by omega)
  have m9 : mulOk (x.den : Int) (x.den : Int) = true := mulOk_bd (by omega)
  have m10 : mulOk ((x.den : Int) * (x.den : Int)) (y.den : Int) = true := mulOk_bd (by omega)
  have m11 : mulOk ((x.den : Int) * (x.den : Int) * (y.den : Int)) (y.den : Int) = true := mulOk_bd (by omega)
  have hle := r__law_leastR (T := T) (k := k + 9) (a := x.num * x.num * (y.den : Int) * (y.den : Int) + y.num * y.num * (x.den : Int) * (x.den : Int)) (b := (x.den : Int) * (x.den : Int) * (y.den : Int) * (y.den : Int)) (Int.mul_ne_zero (Int.mul_ne_zero (Int.mul_ne_zero dx dx) dy) dy) (by omega)
  have eqs : ((x.num * x.num * (y.den : Int) * (y.den : Int) + y.num * y.num * (x.den : Int) * (x.den : Int) : Int) : Rat) / (((x.den : Int) * (x.den : Int) * (y.den : Int) * (y.den : Int) : Int) : Rat) = x * x + y * y := by
    have hx := rat_ne dx
    have hy := rat_ne dy
    conv => rhs; rw [← num_den x, ← num_den y]
    simp only [Rat.intCast_add, Rat.intCast_mul]
    generalize ((x.den : Int) : Rat) = q at *
    generalize ((y.den : Int) : Rat) = s at *
    grind
  rw [eqs] at hle
  have e7 := eqG_fr (x := x * x + y * y) (y := 1)
  have z0 : ((1 : Rat).num = 1) ∧ ((1 : Rat).den : Int) = 1 := ⟨rfl, rfl⟩
  rw [z0.1, z0.2] at e7
  have hz := rat_add_zero (x := x) (y := y)
  have hq := rat_eq_iff (x := x) (y := y)
  have hq2 := rat_eq_iff (x := y) (y := x)
  have hzb : decide (x + y = 0) = (x.num * (y.den : Int) + y.num * (x.den : Int) == 0) := by
    by_cases q : x + y = 0
    · simp [q, hz.mp q]
    · have w : ¬ (x.num * (y.den : Int) + y.num * (x.den : Int) = 0) := fun w => q (hz.mpr w)
      rw [decide_eq_false q, beq_eq_false_iff_ne.mpr w]
  rw [hzb] at e5
  have o1 : ordQ x y = if x.num * (y.den : Int) - y.num * (x.den : Int) = 0 then 0 else if x.num * (y.den : Int) - y.num * (x.den : Int) < 0 then 1 else -1 := by
    unfold ordQ
    by_cases q : x = y
    · rw [if_pos q, if_pos (by have := hq.mp q; omega)]
    · have : ¬ x.num * (y.den : Int) - y.num * (x.den : Int) = 0 := fun w => q (hq.mpr (by omega))
      rw [if_neg q, if_neg this]
      split <;> split <;> omega
  have o2 : ordQ y x = 0 - ordQ x y := by
    rw [o1]
    unfold ordQ
    by_cases q : y = x
    · rw [if_pos q, if_pos (by have := hq2.mp q; omega)]; rfl
    · have : ¬ x.num * (y.den : Int) - y.num * (x.den : Int) = 0 := fun w => q (hq2.mpr (by omega))
      rw [if_neg q, if_neg this]
      split <;> split <;> omega
  rw [o2] at e4
  generalize ordQ x y = o at *
  clear hz hq hq2 hzb o2 eqs
  have hm1 : op1 .neg (.int 1) = some (.int (-1), false) := rfl
  generalize x * x + y * y = z at *
  obtain ⟨u, hu⟩ : ∃ u, x.num * (y.den : Int) = u := ⟨_, rfl⟩
  obtain ⟨v, hv⟩ : ∃ v, y.num * (x.den : Int) = v := ⟨_, rfl⟩
  rw [hu, hv] at e5 o1
  rw [run_succ]
  by_cases c1 : u - v = 0
  · rw [if_pos c1] at o1
    subst o1
    by_cases g1 : 0 < x.num <;> by_cases g2 : 0 < y.num <;>
      simp [g1, g2] at e6 <;> simp [f__law_two_right, argsOk, e1, e2, e3, e4, e5, e6, l1, m1, m2, m3, m4, m5, m6, m7, m8, m9, m10, m11, hle, e7, hu, hv, c1, g1, g2]
  · rw [if_neg c1] at o1
    by_cases c2 : u - v < 0
    · rw [if_pos c2] at o1
      subst o1
      by_cases g1 : 0 < x.num <;> by_cases g2 : 0 < y.num <;>
        simp [g1, g2] at e6 <;> simp [f__law_two_right, argsOk, e1, e2, e3, e4, e5, e6, l1, m1, m2, m3, m4, m5, m6, m7, m8, m9, m10, m11, hle, e7, hu, hv, c1, c2, g1, g2]
    · rw [if_neg c2] at o1
      subst o1
      by_cases g1 : 0 < x.num <;> by_cases g2 : 0 < y.num <;>
        simp [g1, g2] at e6 <;> simp [f__law_two_right, argsOk, e1, e2, e3, e4, e5, e6, l1, m1, m2, m3, m4, m5, m6, m7, m8, m9, m10, m11, hle, e7, hu, hv, c1, c2, g1, g2]
end
/-! ### an angle taken again and again -/
def che (f g x : Rat) : Nat → Rat
  | 0 => f
  | 1 => g
  | n + 2 => 2 * x * che f g x (n + 1) - che f g x n
def chA (a0 a1 p q : Int) : Nat → Int
  | 0 => a0
  | 1 => a1
  | n + 2 => 2 * p * chA a0 a1 p q (n + 1) - q * q * chA a0 a1 p q n
theorem che_A {a0 a1 : Int} {f g x : Rat} (hf : f = (a0 : Rat)) (hg : g = (a1 : Rat) / ((x.den : Int) : Rat)) : ∀ n, che f g x n = ((chA a0 a1 x.num (x.den : Int) n : Int) : Rat) / (((x.den : Int) ^ n : Int) : Rat) := by
  have hd := rat_ne (den0 x)
  have key : ∀ n, che f g x n = ((chA a0 a1 x.num (x.den : Int) n : Int) : Rat) / (((x.den : Int) ^ n : Int) : Rat) ∧ che f g x (n + 1) = ((chA a0 a1 x.num (x.den : Int) (n + 1) : Int) : Rat) / (((x.den : Int) ^ (n + 1) : Int) : Rat) := by
    intro n
    induction n with
    | zero =>
      refine ⟨?_, ?_⟩
      · show f = (a0 : Rat) / (((x.den : Int) ^ 0 : Int) : Rat)
        rw [hf, Int.pow_zero]
        exact (rat_div_one _).symm
      · show g = (a1 : Rat) / (((x.den : Int) ^ 1 : Int) : Rat)
        rw [hg, Int.pow_succ, Int.pow_zero, Int.one_mul]
    | succ n ih =>
      refine ⟨ih.2, ?_⟩
      rw [che, chA, ih.1, ih.2]
      have hq : (((x.den : Int) ^ n : Int) : Rat) ≠ 0 := rat_ne (Int.pow_ne_zero (den0 x))
      rw [Int.pow_succ (x.den : Int) (n + 1), Int.pow_succ (x.den : Int) n]
      conv => lhs; rw [← num_den x]
      simp only [num_den, Rat.intCast_mul, Rat.intCast_sub]
      rw [show ((2 : Int) : Rat) = 2 from rfl]
      generalize (((x.den : Int) ^ n : Int) : Rat) = Q at *
      generalize hz : ((x.den : Int) : Rat) = q at *
      have hx : x = (x.num : Rat) / q := by rw [← hz]; exact (num_den x).symm
      generalize (x.num : Rat) = p at *
      generalize ((chA a0 a1 x.num (x.den : Int) n : Int) : Rat) = A at *
      generalize ((chA a0 a1 x.num (x.den : Int) (n + 1) : Int) : Rat) = B at *
      clear ih
      subst hx
      grind
  exact fun n => (key n).1
theorem chA_bits {a0 a1 p q : Int} (h0 : a0.natAbs < 2) (h1 : a1.natAbs < 2 ^ 64) (hp : p.natAbs < 2 ^ 64) (hq : q.natAbs < 2 ^ 64) : ∀ n, (chA a0 a1 p q n).natAbs < 2 ^ (66 * n + 1) ∧ (chA a0 a1 p q (n + 1)).natAbs < 2 ^ (66 * (n + 1) + 1) := by
  intro n
  induction n with
  | zero => exact ⟨h0, Nat.lt_of_lt_of_le h1 (Nat.pow_le_pow_right (by omega) (by omega))⟩
  | succ n ih =>
    refine ⟨ih.2, ?_⟩
    obtain ⟨i1, i2⟩ := ih
    rw [chA]
    generalize chA a0 a1 p q n = A at *
    generalize chA a0 a1 p q (n + 1) = B at *
    rw [show 66 * (n + 1 + 1) + 1 = 132 + (66 * n + 1) by omega, Nat.pow_add]
    rw [show 66 * (n + 1) + 1 = 66 + (66 * n + 1) by omega, Nat.pow_add] at i2
    generalize 2 ^ (66 * n + 1) = W at *
    have m1 : (2 * p * B).natAbs ≤ 2 * 2 ^ 64 * (2 ^ 66 * W) := by
      rw [Int.natAbs_mul, Int.natAbs_mul]
      exact Nat.mul_le_mul (Nat.mul_le_mul (Nat.le_refl 2) (Nat.le_of_lt hp)) (Nat.le_of_lt i2)
    have m2 : (q * q * A).natAbs ≤ 2 ^ 64 * 2 ^ 64 * W := by
      rw [Int.natAbs_mul, Int.natAbs_mul]
      exact Nat.mul_le_mul (Nat.mul_le_mul (Nat.le_of_lt hq) (Nat.le_of_lt hq)) (Nat.le_of_lt i1)
    omega
theorem rb_che {a0 a1 : Int} {f g x : Rat} (hf : f = (a0 : Rat)) (hg : g = (a1 : Rat) / ((x.den : Int) : Rat)) (h0 : a0.natAbs < 2) (h1 : a1.natAbs < 2 ^ 64) (bx : RBits x 64) {n : Nat} (hn : n ≤ 12) : RBits (che f g x n) 800 := by
  have e := che_A (x := x) hf hg n
  have b1 : Bits (chA a0 a1 x.num (x.den : Int) n) (66 * n + 1) := ⟨(chA_bits h0 h1 bx.num (bits_den bx) n).1⟩
  have b2 : Bits ((x.den : Int) ^ n) (64 * n + 1) := ⟨by
    rw [Int.natAbs_pow]
    have := Nat.pow_le_pow_left (Nat.le_of_lt (bits_den bx)) n
    rw [← Nat.pow_mul] at this
    exact Nat.lt_of_le_of_lt this (Nat.pow_lt_pow_right (by omega) (by omega))⟩
  obtain ⟨d1, d2⟩ := rbits_div (a := chA a0 a1 x.num (x.den : Int) n) (b := (x.den : Int) ^ n) (Int.pow_ne_zero (den0 x))
  rw [← e] at d1 d2
  exact ⟨Nat.lt_of_lt_of_le d1 (Nat.pow_le_pow_right (by omega) (by omega)), Nat.lt_of_lt_of_le d2 (Nat.pow_le_pow_right (by omega) (by omega))⟩
abbrev cosT (x : Rat) : Nat → Rat := che 1 x x
abbrev sinU (x : Rat) : Nat → Rat := che 0 1 x
theorem rb_cos {x : Rat} (bx : RBits x 64) {n : Nat} (hn : n ≤ 12) : RBits (cosT x n) 800 := rb_che (a0 := 1) (a1 := x.num) rfl (num_den x).symm (by decide) bx.num bx hn
theorem rb_sin {x : Rat} (bx : RBits x 64) {n : Nat} (hn : n ≤ 12) : RBits (sinU x n) 800 := rb_che (a0 := 0) (a1 := (x.den : Int)) rfl (by
  have hd := rat_ne (den0 x)
  generalize ((x.den : Int) : Rat) = q at *
  grind) (by decide) (bits_den bx) bx hn
/-- the law's own step -/
theorem cos_sin (x : Rat) : ∀ n, (cosT x (n + 1) = cosT x n * x - sinU x n * (1 - x * x) ∧ sinU x (n + 1) = sinU x n * x + cosT x n) ∧ (cosT x (n + 2) = cosT x (n + 1) * x - sinU x (n + 1) * (1 - x * x) ∧ sinU x (n + 2) = sinU x (n + 1) * x + cosT x (n + 1)) := by
  intro n
  induction n with
  | zero =>
    simp only [cosT, sinU, che]
    refine ⟨⟨?_, ?_⟩, ⟨?_, ?_⟩⟩ <;> grind
  | succ n ih =>
    refine ⟨ih.2, ?_⟩
    obtain ⟨⟨a, b⟩, ⟨c, d⟩⟩ := ih
    have e1 : cosT x (n + 1 + 2) = 2 * x * cosT x (n + 2) - cosT x (n + 1) := rfl
    have e2 : sinU x (n + 1 + 2) = 2 * x * sinU x (n + 2) - sinU x (n + 1) := rfl
    have e3 : cosT x (n + 1 + 1) = 2 * x * cosT x (n + 1) - cosT x n := rfl
    have e4 : sinU x (n + 1 + 1) = 2 * x * sinU x (n + 1) - sinU x n := rfl
    rw [e1, e2]
    rw [show n + 2 = n + 1 + 1 from rfl] at *
    generalize cosT x n = c0 at *
    generalize cosT x (n + 1) = c1 at *
    generalize cosT x (n + 1 + 1) = c2 at *
    generalize sinU x n = s0 at *
    generalize sinU x (n + 1) = s1 at *
    generalize sinU x (n + 1 + 1) = s2 at *
    constructor <;> grind
def rowL (s : Nat → Rat) (n : Nat) : List D := (List.range n).map fun i => D.tup [.int (s i).num, .int ((s i).den : Int)]
theorem rowL_len {s : Nat → Rat} {n : Nat} : (rowL s n).length = n := by unfold rowL; simp
theorem rowL_succ {s : Nat → Rat} {n : Nat} : rowL s (n + 1) = rowL s n ++ [.tup [.int (s n).num, .int ((s n).den : Int)]] := by
  unfold rowL; rw [List.range_succ, List.map_append]; rfl
theorem rowL_get {s : Nat → Rat} {n i : Nat} (h : i < n) : (rowL s n)[i]? = some (.tup [.int (s i).num, .int ((s i).den : Int)]) := by
  unfold rowL
  rw [List.getElem?_map, List.getElem?_range h]
  rfl
def rowsBody : List Sm := [.append 3 (.call i_less_by [(.call i_product_in [(.call i_product_in [(.c (.tup [(.int 2), (.int 1)])), (.v 0)]), (.op2 .idx (.v 3) (.op1 .neg (.c (.int 1))))]), (.op2 .idx (.v 3) (.op1 .neg (.c (.int 2))))])]
theorem rows_loop [H_rows_by T] {k : Nat} {f g x : Rat} {m : Nat} {X : D} (bx : RBits x 64) (hb : ∀ n, n ≤ 12 → RBits (che f g x n) 800) (hm : m ≤ 12) : ∀ (j n : Nat), 2 ≤ n → n + j = m + 1 →
    whileS (evalT (run T (k + 3)) (.b (.op2 .lt (.op1 .len (.v 3)) (.op2 .add (.v 1) (.c (.int 1)))))) (execs (run T (k + 3)) rowsBody) [.v (.tup [.int x.num, .int (x.den : Int)]), .v (.int (m : Int)), .v X, .own (.lst (rowL (che f g x) n))] =
      .nx [.v (.tup [.int x.num, .int (x.den : Int)]), .v (.int (m : Int)), .v X, .own (.lst (rowL (che f g x) (m + 1)))] := by
  intro j
  induction j with
  | zero =>
    intro n h2 e
    have : n = m + 1 := by omega
    subst this
    rw [whileS_eq]
    simp [rowL_len]
  | succ j ih =>
    intro n h2 e
    obtain ⟨n, rfl⟩ : ∃ i, n = i + 2 := ⟨n - 2, by omega⟩
    have ih := ih (n + 2 + 1) (by omega) (by omega)
    rw [whileS_eq]
    have hlt : ((n : Int) + 2 < (m : Int) + 1) := by omega
    have b1 := hb (n + 1) (by omega)
    have b0 := hb n (by omega)
    have e2 : che f g x (n + 2) = 2 * x * che f g x (n + 1) - che f g x n := rfl
    have bt : Bits (2 : Int) 2 := ⟨by decide⟩
    have bo : Bits (1 : Int) 1 := ⟨by decide⟩
    have p1 := r_product_in (T := T) (k := k) (p := 2) (q := 1) (r := x.num) (s := (x.den : Int)) (by omega) (den0 x) (by omega)
    have q1 : ((2 : Int) : Rat) / ((1 : Int) : Rat) * ((x.num : Rat) / ((x.den : Int) : Rat)) = 2 * x := by
      rw [num_den, show ((1 : Int) : Rat) = 1 from rfl, rat_div_one]; rfl
    rw [q1] at p1
    have b2 : RBits (2 * x) 70 := by
      have : RBits (2 : Rat) 2 := ⟨by decide, by decide⟩
      exact rb_up (inferInstance : RBits (2 * x) _) (by omega)
    have p2 := r_product_in (T := T) (k := k) (p := (2 * x).num) (q := ((2 * x).den : Int)) (r := (che f g x (n + 1)).num) (s := ((che f g x (n + 1)).den : Int)) (den0 _) (den0 _) (by omega)
    rw [num_den, num_den] at p2
    have b3 : RBits (2 * x * che f g x (n + 1)) 870 := inferInstance
    have p3 := r_less_by (T := T) (k := k) (p := (2 * x * che f g x (n + 1)).num) (q := ((2 * x * che f g x (n + 1)).den : Int)) (r := (che f g x n).num) (s := ((che f g x n).den : Int)) (den0 _) (den0 _) (by omega)
    rw [num_den, num_den, ← e2] at p3
    have g1 := atI_m1 (xs := rowL (che f g x) (n + 2)) (by rw [rowL_len]; omega)
    have g2 := atI_m2 (xs := rowL (che f g x) (n + 2)) (by rw [rowL_len]; omega)
    rw [rowL_len, rowL_get (by omega), show n + 2 - 1 = n + 1 by omega] at g1
    rw [rowL_len, rowL_get (by omega), show n + 2 - 2 = n by omega] at g2
    have hl : n + 2 < line := by unfold line; omega
    rw [rowL_succ] at ih
    simp [rowL_len, hlt, rowsBody, g1, g2, p1, p2, p3, hl]
    simpa [rowsBody] using ih
theorem r_rows_by [H_rows_by T] {k : Nat} {f g x : Rat} {m : Nat} (bx : RBits x 64) (hb : ∀ n, n ≤ 12 → RBits (che f g x n) 800) (h1 : 1 ≤ m) (hm : m ≤ 12) :
    run T (k + 4) i_rows_by [.v (.tup [.int x.num, .int (x.den : Int)]), .v (.int (m : Int)), .v (.lst [.tup [.int f.num, .int (f.den : Int)], .tup [.int g.num, .int (g.den : Int)]])] = .ok (.lst (rowL (che f g x) (m + 1)), true) .non := by
  have e := rows_loop (T := T) (k := k) (X := .lst [.tup [.int f.num, .int (f.den : Int)], .tup [.int g.num, .int (g.den : Int)]]) bx hb hm (m - 1) 2 (by omega) (by omega)
  have e0 : rowL (che f g x) 2 = [.tup [.int f.num, .int (f.den : Int)], .tup [.int g.num, .int (g.den : Int)]] := rfl
  rw [e0] at e
  have hB : f_rows_by = ⟨3, 4, false, [.set (.n 3) (.op1 .list (.v 2)), .whil (.b (.op2 .lt (.op1 .len (.v 3)) (.op2 .add (.v 1) (.c (.int 1))))) rowsBody, .retV 3]⟩ := rfl
  rw [run_succ, hB]
  simp [argsOk]
  rw [e]
  simp
/-! ### half rounds -/
def hvs (s : Nat → Int) : Nat → Int
  | 0 => 0
  | 1 => 0
  | n + 2 => if s (n + 2) = 0 ∨ ¬ (0 < s (n + 2) ↔ hvs s (n + 1) % 2 = 0) then hvs s (n + 1) + 1 else hvs s (n + 1)
theorem hvs_ok {s : Nat → Int} (h1 : 0 < s 1) (hz : ∀ n, 1 ≤ n → s n = 0 → (s (n - 1) ≠ 0 ∨ n = 1) ∧ (0 < s (n + 1) ↔ s (n - 1) < 0) ∧ (s (n + 1) < 0 ↔ 0 < s (n - 1))) : ∀ n, 0 ≤ hvs s (n + 1) ∧
    (s (n + 1) ≠ 0 → (0 < s (n + 1) ↔ hvs s (n + 1) % 2 = 0)) ∧ (s (n + 1) = 0 → 1 ≤ n ∧ s n ≠ 0 ∧ (0 < s n ↔ hvs s (n + 1) % 2 = 1)) := by
  intro n
  induction n with
  | zero =>
    refine ⟨by simp [hvs], fun _ => ?_, fun h => by simp at h; omega⟩
    simp [hvs, h1]
  | succ n ih =>
    obtain ⟨p0, p1, p2⟩ := ih
    rw [hvs]
    generalize hvs s (n + 1) = P at *
    by_cases c0 : s (n + 1) = 0
    · obtain ⟨q1, q2, q3⟩ := p2 c0
      obtain ⟨_, z1, z2⟩ := hz (n + 1) (by omega) c0
      rw [show n + 1 - 1 = n by omega, show n + 1 + 1 = n + 2 by omega] at z1 z2
      have ne : s (n + 2) ≠ 0 := by
        intro e
        rw [e] at z1 z2
        omega
      have par : 0 < s (n + 2) ↔ P % 2 = 0 := by
        rw [z1]
        omega
      rw [if_neg (by simp [ne, par])]
      exact ⟨p0, fun _ => par, fun e => absurd e ne⟩
    · have p1 := p1 c0
      by_cases c1 : s (n + 2) = 0
      · rw [if_pos (.inl c1)]
        refine ⟨by omega, fun e => absurd c1 e, fun _ => ⟨by omega, c0, ?_⟩⟩
        rw [p1]; omega
      · by_cases c2 : 0 < s (n + 2) ↔ P % 2 = 0
        · rw [if_neg (by simp [c1, c2])]
          exact ⟨p0, fun _ => c2, fun e => absurd e c1⟩
        · rw [if_pos (.inr c2)]
          refine ⟨by omega, fun _ => ?_, fun e => absurd e c1⟩
          constructor
          · intro h
            refine Classical.byContradiction fun w => c2 ⟨fun _ => by omega, fun _ => h⟩
          · intro h
            refine Classical.byContradiction fun w => c2 ⟨fun v => absurd v w, fun v => by omega⟩
def sgn (a : Int) : Int := if a = 0 then 0 else if 0 < a then 1 else -1
def rds (s : Nat → Int) (n : Nat) : Int := if s n = 0 then hvs s n else hvs s n + 1
/-- the law's own counting of half rounds -/
theorem rds_step {s : Nat → Int} (h1 : 0 < s 1) (hz : ∀ n, 1 ≤ n → s n = 0 → (s (n - 1) ≠ 0 ∨ n = 1) ∧ (0 < s (n + 1) ↔ s (n - 1) < 0) ∧ (s (n + 1) < 0 ↔ 0 < s (n - 1))) (n : Nat) :
    rds s (n + 2) = if sgn (s (n + 1)) = 0 then rds s (n + 1) + 1 else if sgn (s (n + 2)) ≠ 0 ∧ sgn (s (n + 2)) ≠ sgn (s (n + 1)) then rds s (n + 1) + 1 else rds s (n + 1) := by
  obtain ⟨p0, p1, p2⟩ := hvs_ok h1 hz n
  obtain ⟨q0, q1, q2⟩ := hvs_ok h1 hz (n + 1)
  rw [show n + 1 + 1 = n + 2 by omega] at q0 q1 q2
  have e : hvs s (n + 2) = if s (n + 2) = 0 ∨ ¬ (0 < s (n + 2) ↔ hvs s (n + 1) % 2 = 0) then hvs s (n + 1) + 1 else hvs s (n + 1) := by rw [hvs]
  unfold rds
  rw [e] at q1 q2 ⊢
  generalize hvs s (n + 1) = P at *
  unfold sgn
  by_cases c0 : s (n + 1) = 0
  · obtain ⟨r1, r2, r3⟩ := p2 c0
    obtain ⟨_, z1, z2⟩ := hz (n + 1) (by omega) c0
    rw [show n + 1 - 1 = n by omega, show n + 1 + 1 = n + 2 by omega] at z1 z2
    have ne : s (n + 2) ≠ 0 := by
      intro e
      rw [e] at z1 z2
      omega
    have par : 0 < s (n + 2) ↔ P % 2 = 0 := by
      rw [z1]; omega
    simp [c0, ne, par]
  · have p1 := p1 c0
    by_cases c1 : s (n + 2) = 0
    · by_cases c3 : 0 < s (n + 1) <;> simp [c0, c1, c3]
    · by_cases c2 : 0 < s (n + 2) <;> by_cases c3 : 0 < s (n + 1)
      · have : P % 2 = 0 := p1.mp c3
        simp [c0, c1, c2, c3, this]
      · have : ¬ P % 2 = 0 := fun w => c3 (p1.mpr w)
        simp [c0, c1, c2, c3, this]
      · have : P % 2 = 0 := p1.mp c3
        simp [c0, c1, c2, c3, this]
      · have : ¬ P % 2 = 0 := fun w => c3 (p1.mpr w)
        simp [c0, c1, c2, c3, this]
theorem sin_zero {x : Rat} : 0 < (sinU x 1).num ∧ ∀ n, 1 ≤ n → (sinU x n).num = 0 → ((sinU x (n - 1)).num ≠ 0 ∨ n = 1) ∧ (0 < (sinU x (n + 1)).num ↔ (sinU x (n - 1)).num < 0) ∧ ((sinU x (n + 1)).num < 0 ↔ 0 < (sinU x (n - 1)).num) := by
  refine ⟨by show (0 : Int) < 1; decide, fun n h1 h => ?_⟩
  obtain ⟨n, rfl⟩ : ∃ j, n = j + 1 := ⟨n - 1, by omega⟩
  have hz : sinU x (n + 1) = 0 := Rat.num_eq_zero.mp h
  have e : sinU x (n + 1 + 1) = - sinU x n := by
    show 2 * x * sinU x (n + 1) - sinU x n = _
    rw [hz]; grind
  rw [show n + 1 - 1 = n by omega, e, show (-sinU x n).num = -(sinU x n).num from rfl]
  refine ⟨.inl fun w => ?_, by omega, by omega⟩
  have key : ∀ j, sinU x j = 0 → sinU x (j + 1) = 0 → False := by
    intro j
    induction j with
    | zero => intro _ h; exact absurd h (by show (1 : Rat) ≠ 0; decide)
    | succ j ih =>
      intro a b
      refine ih ?_ a
      have : sinU x (j + 1 + 1) = 2 * x * sinU x (j + 1) - sinU x j := rfl
      rw [b, a] at this
      grind
  exact key n (Rat.num_eq_zero.mp w) hz
/-! ### the program: taken -/
section
variable {k : Nat} {a b c i : Int} {m : Nat} (h : Tri a b c) (i0 : 0 ≤ i) (i2 : i ≤ 2) (h1 : 1 ≤ m) (hm : m ≤ 12)
include h i0 i2 h1 hm
theorem r_need_often [H_need_often T] : run T (k + 6) i_need_often [.v (.tup [.int a, .int b, .int c]), .v (.int i), .v (.int (m : Int))] = .ok (.non, false) .non := by
  have e1 := r_need_whole (T := T) (k := k + 2) (a := (m : Int)) (lo := 1) (hi := 12) (by omega) (by omega)
  rw [run_succ]
  simp [f_need_often, argsOk, h, i0, i2, e1]
theorem r_turned_openings [H_turned_openings T] : run T (k + 7) i_turned_openings [.v (.tup [.int a, .int b, .int c]), .v (.int i), .v (.int (m : Int))] = .ok (.tup ((rowL (cosT (opI a b c i)) (m + 1)).drop 1), false) .non := by
  have e1 := r_need_often (T := T) (k := k) h i0 i2 h1 hm
  have e2 := r_opening_by_place (T := T) (k := k + 2) h i0 i2
  have bx := rb_op h i0 i2
  generalize opI a b c i = x at *
  have e3 := r_rows_by (T := T) (k := k + 2) (f := 1) (g := x) (x := x) (m := m) bx (fun n hn => rb_cos bx hn) h1 hm
  have z0 : ((1 : Rat).num = 1) ∧ ((1 : Rat).den : Int) = 1 := ⟨rfl, rfl⟩
  rw [z0.1, z0.2] at e3
  rw [run_succ]
  simp [f_turned_openings, argsOk, e1, e2, e3, cut, sIx, rowL_len]
  rw [List.take_of_length_le]
  simp [rowL_len]
def roundB (s : Nat → Int) (m : Nat) : Bool := decide (hvs s m < 2) || (decide (hvs s m = 2) && decide (s m = 0))
theorem r_fits_round [H_fits_round T] : run T (k + 7) i_fits_round [.v (.tup [.int a, .int b, .int c]), .v (.int i), .v (.int (m : Int))] = .ok (.bl (roundB (fun n => (sinU (opI a b c i) n).num) m), false) .non := by
  have e1 := r_need_often (T := T) (k := k) h i0 i2 h1 hm
  have e2 := r_opening_by_place (T := T) (k := k + 2) h i0 i2
  have bx := rb_op h i0 i2
  generalize opI a b c i = x at *
  have e3 := r_rows_by (T := T) (k := k + 2) (f := 0) (g := 1) (x := x) (m := m) bx (fun n hn => rb_sin bx hn) h1 hm
  have z0 : ((1 : Rat).num = 1) ∧ ((1 : Rat).den : Int) = 1 := ⟨rfl, rfl⟩
  have z1 : ((0 : Rat).num = 0) ∧ ((0 : Rat).den : Int) = 1 := ⟨rfl, rfl⟩
  rw [z0.1, z0.2, z1.1, z1.2] at e3
  have e4 : cut (rowL (sinU x) (m + 1)) (some 2) none = (rowL (sinU x) (m + 1)).drop 2 := by
    unfold cut sIx
    simp [rowL_len]
    rw [show min 2 (m + 1) = 2 by omega, List.take_of_length_le (by simp [rowL_len])]
  have len2 : ((rowL (sinU x) (m + 1)).drop 2).length = m - 1 := by rw [List.length_drop, rowL_len]; omega
  have m2 := fun X (s5 s6 : S) (n5 : S.nr s5) (n6 : S.nr s6) => for_idx (p := .t [.n 5, .n 6]) (b := execs (run T (k + 6)) [.ifs (.or (.b (.op2 .eq (.v 5) (.c (.int 0)))) (.b (.op2 .ne (.op2 .gt (.v 5) (.c (.int 0))) (.op2 .eq (.op2 .mod (.v 4) (.c (.int 2))) (.c (.int 0)))))) [.set (.n 4) (.op2 .add (.v 4) (.c (.int 1)))] []])
    (fun j ρ => ∃ s5 s6, S.nr s5 ∧ S.nr s6 ∧ ρ = [.v (.tup [.int a, .int b, .int c]), .v (.int i), .v (.int (m : Int)), X, .v (.int (hvs (fun n => (sinU x n).num) (j + 1))), s5, s6]) ((rowL (sinU x) (m + 1)).drop 2) [.v (.tup [.int a, .int b, .int c]), .v (.int i), .v (.int (m : Int)), X, .v (.int 0), s5, s6] ⟨s5, s6, n5, n6, rfl⟩ fun j hj ρ ⟨s5, s6, n5, n6, hr⟩ => by
      subst hr
      have hg : ((rowL (sinU x) (m + 1)).drop 2)[j] = .tup [.int (sinU x (j + 2)).num, .int ((sinU x (j + 2)).den : Int)] := by
        have : ((rowL (sinU x) (m + 1)).drop 2)[j]? = some (.tup [.int (sinU x (j + 2)).num, .int ((sinU x (j + 2)).den : Int)]) := by
          rw [List.getElem?_drop, rowL_get (by omega), Nat.add_comm]
        rw [List.getElem?_eq_getElem hj] at this
        exact Option.some.inj this
      refine ⟨[.v (.tup [.int a, .int b, .int c]), .v (.int i), .v (.int (m : Int)), X, .v (.int (hvs (fun n => (sinU x n).num) (j + 1))), .v (.int (sinU x (j + 2)).num), .v (.int ((sinU x (j + 2)).den : Int))], [.v (.tup [.int a, .int b, .int c]), .v (.int i), .v (.int (m : Int)), X, .v (.int (hvs (fun n => (sinU x n).num) (j + 2))), .v (.int (sinU x (j + 2)).num), .v (.int ((sinU x (j + 2)).den : Int))], by rw [hg]; simp, ?_, _, _, nr_v, nr_v, rfl⟩
      have hP := (hvs_ok (s := fun n => (sinU x n).num) sin_zero.1 sin_zero.2 j).1
      have e : hvs (fun n => (sinU x n).num) (j + 2) = if (sinU x (j + 2)).num = 0 ∨ ¬ (0 < (sinU x (j + 2)).num ↔ hvs (fun n => (sinU x n).num) (j + 1) % 2 = 0) then hvs (fun n => (sinU x n).num) (j + 1) + 1 else hvs (fun n => (sinU x n).num) (j + 1) := by rw [hvs]
      rw [e]
      generalize hvs (fun n => (sinU x n).num) (j + 1) = P at *
      generalize (sinU x (j + 2)).num = u at *
      have f2 : P.fmod 2 = P % 2 := Int.fmod_eq_emod_of_nonneg _ (by omega)
      by_cases c1 : u = 0
      · simp [c1]
      · by_cases c2 : 0 < u <;> by_cases c3 : P % 2 = 0 <;> simp [c1, c2, c3, f2]
  obtain ⟨ρ', e5, s5, s6, _, _, rfl⟩ := m2 (.own (.lst (rowL (sinU x) (m + 1)))) .no .no nr_no nr_no
  rw [len2, show m - 1 + 1 = m by omega] at e5
  have g1 := atI_m1 (xs := rowL (sinU x) (m + 1)) (by rw [rowL_len]; omega)
  rw [rowL_len, rowL_get (by omega), show m + 1 - 1 = m by omega] at g1
  have e6 := eqG_fr (x := sinU x m) (y := 0)
  rw [z1.1, z1.2, show decide (sinU x m = 0) = decide ((sinU x m).num = 0) from decide_eq_decide.mpr Rat.num_eq_zero.symm] at e6
  rw [run_succ]
  simp [f_fits_round, argsOk, e1, e2, e3]
  rw [e4, e5]
  unfold roundB
  by_cases c1 : hvs (fun n => (sinU x n).num) m < 2
  · simp [c1]
  · by_cases c2 : hvs (fun n => (sinU x n).num) m = 2
    · simp [c1, c2, g1, e6]
    · simp [c1, c2]
end
/-! ### the law's own -/
def foundL (x : Rat) (n : Nat) : List D := (List.range n).map fun i => D.tup [.tup [.int (cosT x (i + 1)).num, .int ((cosT x (i + 1)).den : Int)], .tup [.int (sinU x (i + 1)).num, .int ((sinU x (i + 1)).den : Int)]]
theorem foundL_len {x : Rat} {n : Nat} : (foundL x n).length = n := by unfold foundL; simp
theorem foundL_succ {x : Rat} {n : Nat} : foundL x (n + 1) = foundL x n ++ [.tup [.tup [.int (cosT x (n + 1)).num, .int ((cosT x (n + 1)).den : Int)], .tup [.int (sinU x (n + 1)).num, .int ((sinU x (n + 1)).den : Int)]]] := by
  unfold foundL; rw [List.range_succ, List.map_append]; rfl
theorem foundL_get {x : Rat} {n i : Nat} (h : i < n) : (foundL x n)[i]? = some (.tup [.tup [.int (cosT x (i + 1)).num, .int ((cosT x (i + 1)).den : Int)], .tup [.int (sinU x (i + 1)).num, .int ((sinU x (i + 1)).den : Int)]]) := by
  unfold foundL
  rw [List.getElem?_map, List.getElem?_range h]
  rfl
theorem fld_two {p1 p2 p3 p4 q1 q2 q3 q4 : Rat} (h1 : q1 ≠ 0) (h2 : q2 ≠ 0) (h3 : q3 ≠ 0) (h4 : q4 ≠ 0) : (p1 * p2 * q3 * q4 - p3 * p4 * q1 * q2) / (q1 * q2 * q3 * q4) = p1 / q1 * (p2 / q2) - p3 / q3 * (p4 / q4) := by grind
theorem fld_three {p1 p2 p3 q1 q2 q3 : Rat} (h1 : q1 ≠ 0) (h2 : q2 ≠ 0) (h3 : q3 ≠ 0) : (p1 * p2 * q3 + p3 * q1 * q2) / (q1 * q2 * q3) = p1 / q1 * (p2 / q2) + p3 / q3 := by grind
theorem rat_two (u x v w : Rat) : ((u.num * x.num * (v.den : Int) * (w.den : Int) - v.num * w.num * (u.den : Int) * (x.den : Int) : Int) : Rat) / (((u.den : Int) * (x.den : Int) * (v.den : Int) * (w.den : Int) : Int) : Rat) = u * x - v * w := by
  have := fld_two (p1 := (u.num : Rat)) (p2 := (x.num : Rat)) (p3 := (v.num : Rat)) (p4 := (w.num : Rat)) (rat_ne (den0 u)) (rat_ne (den0 x)) (rat_ne (den0 v)) (rat_ne (den0 w))
  simp only [num_den] at this
  simp only [Rat.intCast_sub, Rat.intCast_mul]
  exact this
theorem rat_three (v x u : Rat) : ((v.num * x.num * (u.den : Int) + u.num * (v.den : Int) * (x.den : Int) : Int) : Rat) / (((v.den : Int) * (x.den : Int) * (u.den : Int) : Int) : Rat) = v * x + u := by
  have := fld_three (p1 := (v.num : Rat)) (p2 := (x.num : Rat)) (p3 := (u.num : Rat)) (rat_ne (den0 v)) (rat_ne (den0 x)) (rat_ne (den0 u))
  simp only [num_den] at this
  simp only [Rat.intCast_add, Rat.intCast_mul]
  exact this
def turnedBody : List Sm := [.set (.n 8) (.call i__law_least [(.op2 .sub (.op2 .mul (.v 3) (.v 3)) (.op2 .mul (.v 2) (.v 2))), (.op2 .mul (.v 3) (.v 3))]), .set (.n 9) (.call i__law_least [(.op2 .sub (.op2 .mul (.op2 .mul (.op2 .mul (.op2 .idx (.v 4) (.c (.int 0))) (.v 2)) (.op2 .idx (.v 5) (.c (.int 1)))) (.op2 .idx (.v 8) (.c (.int 1)))) (.op2 .mul (.op2 .mul (.op2 .mul (.op2 .idx (.v 5) (.c (.int 0))) (.op2 .idx (.v 8) (.c (.int 0)))) (.op2 .idx (.v 4) (.c (.int 1)))) (.v 3))), (.op2 .mul (.op2 .mul (.op2 .mul (.op2 .idx (.v 4) (.c (.int 1))) (.v 3)) (.op2 .idx (.v 5) (.c (.int 1)))) (.op2 .idx (.v 8) (.c (.int 1))))]), .set (.n 10) (.call i__law_least [(.op2 .add (.op2 .mul (.op2 .mul (.op2 .idx (.v 5) (.c (.int 0))) (.v 2)) (.op2 .idx (.v 4) (.c (.int 1)))) (.op2 .mul (.op2 .mul (.op2 .idx (.v 4) (.c (.int 0))) (.op2 .idx (.v 5) (.c (.int 1)))) (.v 3))), (.op2 .mul (.op2 .mul (.op2 .idx (.v 5) (.c (.int 1))) (.v 3)) (.op2 .idx (.v 4) (.c (.int 1))))]), .par [4, 5] [(.v 9), (.v 10)], .append 6 (.tup [(.v 4), (.v 5)])]
theorem turned_body [H__law_turned T] {k : Nat} {x : Rat} {n : Nat} {X0 X1 s7 s8 s9 s10 : S} (bx : RBits x 64) (hn : n + 2 ≤ 12) (n8 : S.nr s8) (n9 : S.nr s9) (n10 : S.nr s10) :
    ∃ d8 d9 d10, execs (run T (k + 2)) turnedBody [X0, X1, .v (.int x.num), .v (.int (x.den : Int)), .v (.tup [.int (cosT x (n + 1)).num, .int ((cosT x (n + 1)).den : Int)]), .v (.tup [.int (sinU x (n + 1)).num, .int ((sinU x (n + 1)).den : Int)]), .own (.lst (foundL x (n + 1))), s7, s8, s9, s10] =
      .nx [X0, X1, .v (.int x.num), .v (.int (x.den : Int)), .v (.tup [.int (cosT x (n + 2)).num, .int ((cosT x (n + 2)).den : Int)]), .v (.tup [.int (sinU x (n + 2)).num, .int ((sinU x (n + 2)).den : Int)]), .own (.lst (foundL x (n + 2))), s7, .v d8, .v d9, .v d10] := by
  have b1 := rb_cos bx (n := n + 1) (by omega)
  have b2 := rb_sin bx (n := n + 1) (by omega)
  have cs := (cos_sin x n).2
  have fs := foundL_succ (x := x) (n := n + 1)
  have fl := foundL_len (x := x) (n := n + 1)
  rw [show n + 1 + 1 = n + 2 by omega] at fs
  generalize foundL x (n + 1) = F at *
  rw [fs, cs.1, cs.2]
  generalize cosT x (n + 1) = u at *
  generalize sinU x (n + 1) = v at *
  clear cs fs
  have dx := den0 x
  have du := den0 u
  have dv := den0 v
  have w1 : ((x.den : Int) * (x.den : Int)) ≠ 0 := Int.mul_ne_zero dx dx
  have l1 := r__law_leastR (T := T) (k := k) (a := (x.den : Int) * (x.den : Int) - x.num * x.num) (b := (x.den : Int) * (x.den : Int)) w1 (by omega)
  have q1 : (((x.den : Int) * (x.den : Int) - x.num * x.num : Int) : Rat) / (((x.den : Int) * (x.den : Int) : Int) : Rat) = 1 - x * x := by
    conv => rhs; rw [← num_den x]
    have hx := rat_ne dx
    simp only [Rat.intCast_sub, Rat.intCast_mul]
    generalize ((x.den : Int) : Rat) = q at *
    grind
  rw [q1] at l1
  have bw : RBits (1 - x * x) 200 := by
    have : RBits (1 : Rat) 1 := ⟨by decide, by decide⟩
    exact rb_up (inferInstance : RBits (1 - x * x) _) (by omega)
  generalize 1 - x * x = w at *
  have dw := den0 w
  have l2 := r__law_leastR (T := T) (k := k) (a := u.num * x.num * (v.den : Int) * (w.den : Int) - v.num * w.num * (u.den : Int) * (x.den : Int)) (b := (u.den : Int) * (x.den : Int) * (v.den : Int) * (w.den : Int)) (Int.mul_ne_zero (Int.mul_ne_zero (Int.mul_ne_zero du dx) dv) dw) (by omega)
  have q2 := rat_two u x v w
  rw [q2] at l2
  have l3 := r__law_leastR (T := T) (k := k) (a := v.num * x.num * (u.den : Int) + u.num * (v.den : Int) * (x.den : Int)) (b := (v.den : Int) * (x.den : Int) * (u.den : Int)) (Int.mul_ne_zero (Int.mul_ne_zero dv dx) du) (by omega)
  have q3 := rat_three v x u
  rw [q3] at l3
  have hl : F.length < line := by rw [fl]; unfold line; omega
  have n8' : ∀ d, ¬ s8 = .ref d := n8
  have n9' : ∀ d, ¬ s9 = .ref d := n9
  have n10' : ∀ d, ¬ s10 = .ref d := n10
  refine ⟨.tup [.int w.num, .int (w.den : Int)], .tup [.int (u * x - v * w).num, .int ((u * x - v * w).den : Int)], .tup [.int (v * x + u).num, .int ((v * x + u).den : Int)], ?_⟩
  simp [turnedBody, l1, l2, l3, hl, n8', n9', n10']
theorem r__law_turned [H__law_turned T] {k : Nat} {x : Rat} {m : Nat} (bx : RBits x 64) (h1 : 1 ≤ m) (hm : m ≤ 12) :
    run T (k + 3) i__law_turned [.v (.tup [.int x.num, .int (x.den : Int)]), .v (.int (m : Int))] = .ok (.lst (foundL x m), true) .non := by
  obtain ⟨ρ', e, s7, s8, s9, s10, _, _, _, _, rfl⟩ := for_rngI (j := 7) (b := execs (run T (k + 2)) turnedBody) (fun i ρ => ∃ s7 s8 s9 s10, S.nr s7 ∧ S.nr s8 ∧ S.nr s9 ∧ S.nr s10 ∧ ρ = [.v (.tup [.int x.num, .int (x.den : Int)]), .v (.int (m : Int)), .v (.int x.num), .v (.int (x.den : Int)), .v (.tup [.int (cosT x (i.toNat + 1)).num, .int ((cosT x (i.toNat + 1)).den : Int)]), .v (.tup [.int (sinU x (i.toNat + 1)).num, .int ((sinU x (i.toNat + 1)).den : Int)]), .own (.lst (foundL x (i.toNat + 1))), s7, s8, s9, s10]) (lo := 0) (hi := (m : Int) - 1) (by omega) (ρ := [.v (.tup [.int x.num, .int (x.den : Int)]), .v (.int (m : Int)), .v (.int x.num), .v (.int (x.den : Int)), .v (.tup [.int x.num, .int (x.den : Int)]), .v (.tup [.int 1, .int 1]), .own (.lst [.tup [.tup [.int x.num, .int (x.den : Int)], .tup [.int 1, .int 1]]]), .no, .no, .no, .no]) ⟨.no, .no, .no, .no, nr_no, nr_no, nr_no, nr_no, rfl⟩ fun i ρ ha hb ⟨s7, s8, s9, s10, n7, n8, n9, n10, hr⟩ => by
    subst hr
    obtain ⟨n, rfl⟩ : ∃ n : Nat, i = n := ⟨i.toNat, by omega⟩
    obtain ⟨d8, d9, d10, e⟩ := turned_body (T := T) (k := k) (x := x) (n := n) (X0 := .v (.tup [.int x.num, .int (x.den : Int)])) (X1 := .v (.int (m : Int))) (s7 := .v (.int (n : Int))) bx (by omega) n8 n9 n10
    refine ⟨by simp, _, by simpa using e, .v (.int (n : Int)), .v d8, .v d9, .v d10, nr_v, nr_v, nr_v, nr_v, ?_⟩
    rw [show ((n : Int) + 1).toNat + 1 = n + 2 by omega]
  rw [show ((m : Int) - 1).toNat + 1 = m by omega] at e
  have hg : rgOk ((m : Int) - 1) = true := rgOk_of (by omega) (by omega)
  have hB : f__law_turned = ⟨2, 11, false, [.set (.t [(.n 2), (.n 3)]) (.v 0), .par [4, 5, 6] [(.tup [(.v 2), (.v 3)]), (.tup [(.c (.int 1)), (.c (.int 1))]), (.lst [(.tup [(.tup [(.v 2), (.v 3)]), (.tup [(.c (.int 1)), (.c (.int 1))])])])], .forr (.n 7) (.range [(.op2 .sub (.v 1) (.c (.int 1)))]) turnedBody, .retV 6]⟩ := rfl
  rw [run_succ, hB]
  generalize turnedBody = B at *
  simp [argsOk, hg]
  rw [e]
  simp
theorem r__law_rounds [H__law_rounds T] {k : Nat} {x : Rat} {m : Nat} (h1 : 1 ≤ m) :
    run T (k + 1) i__law_rounds [.v (.lst (foundL x m))] = .ok (.int (rds (fun n => (sinU x n).num) m), false) .non := by
  obtain ⟨ρ', e, s3, s4, s5, _, _, _, rfl⟩ := for_idx (p := .t [.n 3, .n 4]) (b := execs (run T k) [.set (.n 5) (.ifx (.b (.op2 .eq (.op2 .idx (.v 4) (.c (.int 0))) (.c (.int 0)))) (.c (.int 0)) (.ifx (.b (.op2 .gt (.op2 .idx (.v 4) (.c (.int 0))) (.c (.int 0)))) (.c (.int 1)) (.op1 .neg (.c (.int 1))))), .ifs (.b (.op2 .eq (.v 2) (.c (.int 0)))) [.set (.n 1) (.op2 .add (.v 1) (.c (.int 1)))] [.ifs (.and (.b (.op2 .ne (.v 5) (.c (.int 0)))) (.b (.op2 .ne (.v 5) (.v 2)))) [.set (.n 1) (.op2 .add (.v 1) (.c (.int 1)))] []], .set (.n 2) (.v 5)])
    (fun j ρ => ∃ s3 s4 s5, S.nr s3 ∧ S.nr s4 ∧ S.nr s5 ∧ ρ = [.v (.lst (foundL x m)), .v (.int (if j = 0 then 1 else rds (fun n => (sinU x n).num) j)), .v (.int (if j = 0 then 1 else sgn (sinU x j).num)), s3, s4, s5]) (foundL x m) [.v (.lst (foundL x m)), .v (.int 1), .v (.int 1), .no, .no, .no] ⟨.no, .no, .no, nr_no, nr_no, nr_no, rfl⟩ fun j hj ρ ⟨s3, s4, s5, n3, n4, n5, hr⟩ => by
    subst hr
    rw [foundL_len] at hj
    have hg : ∀ h, (foundL x m)[j]'h = .tup [.tup [.int (cosT x (j + 1)).num, .int ((cosT x (j + 1)).den : Int)], .tup [.int (sinU x (j + 1)).num, .int ((sinU x (j + 1)).den : Int)]] := fun h => by
      have := foundL_get (x := x) hj
      rw [List.getElem?_eq_getElem h] at this
      exact Option.some.inj this
    rw [hg]
    have n5' : ∀ d, ¬ s5 = .ref d := n5
    refine ⟨_, [.v (.lst (foundL x m)), .v (.int (rds (fun n => (sinU x n).num) (j + 1))), .v (.int (sgn (sinU x (j + 1)).num)), .v (.tup [.int (cosT x (j + 1)).num, .int ((cosT x (j + 1)).den : Int)]), .v (.tup [.int (sinU x (j + 1)).num, .int ((sinU x (j + 1)).den : Int)]), .v (.int (sgn (sinU x (j + 1)).num))], by simp; rfl, ?_, _, _, _, nr_v, nr_v, nr_v, by rw [if_neg (by omega), if_neg (by omega)]⟩
    cases j with
    | zero =>
      have z : (sinU x (0 + 1)).num = 1 := rfl
      have z2 : rds (fun n => (sinU x n).num) (0 + 1) = 1 := rfl
      rw [z, z2]
      simp [n5', sgn]
    | succ j =>
      have st := rds_step (s := fun n => (sinU x n).num) sin_zero.1 sin_zero.2 j
      rw [show j + 1 + 1 = j + 2 by omega, st]
      generalize rds (fun n => (sinU x n).num) (j + 1) = L at *
      generalize sgn (sinU x (j + 1)).num = A at *
      generalize (sinU x (j + 2)).num = u at *
      by_cases c1 : u = 0
      · by_cases c3 : A = 0 <;> simp [c1, c3, n5', sgn]
      · by_cases c2 : 0 < u
        · by_cases c3 : A = 0
          · simp [c1, c2, c3, n5', sgn]
          · by_cases c4 : (1 : Int) = A <;> simp [c1, c2, c3, c4, n5', sgn]
        · by_cases c3 : A = 0
          · simp [c1, c2, c3, n5', sgn]
          · by_cases c4 : (-1 : Int) = A <;> simp [c1, c2, c3, c4, n5', sgn]
  rw [foundL_len, if_neg (by omega)] at e
  rw [run_succ]
  simp [f__law_rounds, argsOk]
  rw [e]
  simp
theorem round_rds {s : Nat → Int} {m : Nat} : roundB s m = decide (rds s m < 3) := by
  unfold roundB rds
  generalize hvs s m = P
  have e : (if s m = 0 then P else P + 1) < 3 ↔ (P < 2 ∨ (P = 2 ∧ s m = 0)) := by split <;> omega
  rw [decide_eq_decide.mpr e, Bool.decide_or, Bool.decide_and]
theorem tail_eq {s : Nat → Rat} {n : Nat} : (rowL s (n + 1)).drop 1 = (List.range n).map fun i => D.tup [.int (s (i + 1)).num, .int ((s (i + 1)).den : Int)] := by
  unfold rowL
  rw [List.range_succ_eq_map, List.map_cons, List.drop_one, List.tail_cons, List.map_map]
  rfl
theorem first_turns {cal : Call} {x : Rat} {m : Nat} {ρ : Env} (h4 : ρ[4]? = some .no) (h5 : ρ[5]? = some .no) :
    turns [4, 5] (.t [.n 4, .n 5]) (evalFs cal []) (compE cal (evalE cal (.v 4)) []) (foundL x m) ρ = .ok ((rowL (cosT x) (m + 1)).drop 1) ρ := by
  have l4 := (List.getElem?_eq_some_iff.mp h4).1
  have l5 := (List.getElem?_eq_some_iff.mp h5).1
  unfold foundL
  rw [turns_gen (fun i => D.tup [.tup [.int (cosT x (i + 1)).num, .int ((cosT x (i + 1)).den : Int)], .tup [.int (sinU x (i + 1)).num, .int ((sinU x (i + 1)).den : Int)]]) (fun _ => true) (fun i => [D.tup [.int (cosT x (i + 1)).num, .int ((cosT x (i + 1)).den : Int)]]) (List.range m) fun i hi => ?_]
  · rw [tail_eq, List.filter_eq_self.mpr fun _ _ => rfl]
    congr 1
    induction List.range m with
    | nil => rfl
    | cons a l ih => rw [List.flatMap_cons, List.map_cons, ih]; rfl
  · obtain ⟨U, hU⟩ : ∃ U : Env, U = (ρ.set 4 (.v (.tup [.int (cosT x (i + 1)).num, .int ((cosT x (i + 1)).den : Int)]))).set 5 (.v (.tup [.int (sinU x (i + 1)).num, .int ((sinU x (i + 1)).den : Int)])) := ⟨_, rfl⟩
    have e4 : U[4]? = some (.v (.tup [.int (cosT x (i + 1)).num, .int ((cosT x (i + 1)).den : Int)])) := by
      rw [hU, List.getElem?_set_ne (by omega), List.getElem?_set_self l4]
    have e5 : U[5]? = some (.v (.tup [.int (sinU x (i + 1)).num, .int ((sinU x (i + 1)).den : Int)])) := by
      rw [hU, List.getElem?_set_self (by rw [List.length_set]; exact l5)]
    have hw : wipe U [4, 5] = ρ := by
      simp only [wipe_cons, wipe_nil]
      rw [hU, List.set_set, List.set_comm _ _ (by omega), List.set_set]
      obtain ⟨_, q4⟩ := List.getElem?_eq_some_iff.mp h4
      obtain ⟨_, q5⟩ := List.getElem?_eq_some_iff.mp h5
      have r4 : ρ.set 4 .no = ρ := by
        conv => lhs; arg 3; rw [← q4]
        exact List.set_getElem_self _
      have r5 : ρ.set 5 .no = ρ := by
        conv => lhs; arg 3; rw [← q5]
        exact List.set_getElem_self _
      rw [r4, r5]
    have hh : hides U [4, 5] = true := by
      simp only [hides_cons, hides_nil, List.getD_eq_getElem?_getD, e4, e5, Option.getD_some, Bool.and_true]
    refine ⟨U, U, U, by rw [hU]; simp [l4, l5], by simp only [evalFs], fun _ => ⟨?_, hh, hw⟩, fun h => nomatch h⟩
    have hr : readAt 4 U = .ok (.tup [.int (cosT x (i + 1)).num, .int ((cosT x (i + 1)).den : Int)]) U := by unfold readAt; rw [e4]
    simp only [compE, ev_v, hr, bind_ok]
theorem r__law_taken_right [H__law_taken_right T] {k : Nat} {a b c i : Int} {m : Nat} (h : Tri a b c) (i0 : 0 ≤ i) (i2 : i ≤ 2) (h1 : 1 ≤ m) (hm : m ≤ 12) :
    run T (k + 12) i__law_taken_right [.v (.tup [.int a, .int b, .int c]), .v (.int i), .v (.int (m : Int))] = .ok (.bl true, false) .non := by
  have e1 := r__law_opening (T := T) (k := k + 7) h i0 i2
  have e2 := r_turned_openings (T := T) (k := k + 4) h i0 i2 h1 hm
  have e3 := r_fits_round (T := T) (k := k + 4) h i0 i2 h1 hm
  have bx := rb_op h i0 i2
  generalize opI a b c i = x at *
  have e4 := r__law_turned (T := T) (k := k + 8) (x := x) bx h1 hm
  have e5 := r__law_rounds (T := T) (k := k + 10) (x := x) h1
  have l1 := fun (d : D) (hd : D.fit 6 d = true) => like_s (T := T) (k := k + 11) hd (by omega)
  have hf : D.fit 6 (.tup ((rowL (cosT x) (m + 1)).drop 1)) = true := by
    rw [tail_eq, fit_tup]
    refine fits_iff.mpr fun d hd => ?_
    obtain ⟨j, _, rfl⟩ := List.mem_map.mp hd
    simp
  have hlen : ((rowL (cosT x) (m + 1)).drop 1).length ≤ 16777216 := by rw [List.length_drop, rowL_len]; omega
  have ft := fun ρ h4 h5 => first_turns (cal := run T (k + 11)) (x := x) (m := m) (ρ := ρ) h4 h5
  rw [round_rds] at e3
  generalize (rowL (cosT x) (m + 1)).drop 1 = R at *
  have lr := l1 _ hf
  rw [run_succ]
  simp [f__law_taken_right, argsOk, e1, e4, e2, ft, line, hlen, lr, e3, e5, l1]
/-! ### the law -/
theorem frac_num {A B : Int} (hB : 0 < B) : ∃ g, 0 < g ∧ A = ((A : Rat) / (B : Rat)).num * g ∧ B = (((A : Rat) / (B : Rat)).den : Int) * g := by
  obtain ⟨g, g0, e1, e2⟩ := lo_mul (a := A) (b := B) (by omega)
  obtain ⟨f1, f2⟩ := low_rat (a := A) (b := B) (by omega)
  rw [f1] at e1
  rw [f2] at e2
  refine ⟨g, ?_, e1, e2⟩
  have hd : 0 < ((((A : Rat) / (B : Rat)).den : Nat) : Int) := by have := ((A : Rat) / (B : Rat)).den_nz; omega
  refine Classical.byContradiction fun w => ?_
  have := Int.mul_nonneg (show 0 ≤ ((((A : Rat) / (B : Rat)).den : Nat) : Int) by omega) (show 0 ≤ -g by omega)
  rw [Int.mul_neg] at this
  omega
theorem ordQ_frac {A B C D : Int} (hB : 0 < B) (hD : 0 < D) : ordQ ((A : Rat) / (B : Rat)) ((C : Rat) / (D : Rat)) = if A * D = C * B then 0 else if A * D < C * B then 1 else -1 := by
  obtain ⟨g, g0, e1, e2⟩ := frac_num (A := A) hB
  obtain ⟨f, f0, e3, e4⟩ := frac_num (A := C) hD
  have hq := rat_eq_iff (x := (A : Rat) / (B : Rat)) (y := (C : Rat) / (D : Rat))
  unfold ordQ
  generalize (A : Rat) / (B : Rat) = x at *
  generalize (C : Rat) / (D : Rat) = y at *
  have k : A * D - C * B = (x.num * (y.den : Int) - y.num * (x.den : Int)) * (g * f) := by rw [e1, e2, e3, e4]; grind
  have gf : 0 < g * f := Int.mul_pos g0 f0
  generalize x.num * (y.den : Int) = u at *
  generalize y.num * (x.den : Int) = v at *
  rcases Int.lt_trichotomy u v with w | w | w
  · have := Int.mul_neg_of_neg_of_pos (show u - v < 0 by omega) gf
    have ne : ¬ x = y := fun q => by have := hq.mp q; omega
    rw [if_neg ne, if_pos w, if_neg (by omega), if_pos (by omega)]
  · have : (u - v) * (g * f) = 0 := by rw [show u - v = 0 by omega, Int.zero_mul]
    rw [if_pos (hq.mpr w), if_pos (by omega)]
  · have := Int.mul_pos (show 0 < u - v by omega) gf
    have ne : ¬ x = y := fun q => by have := hq.mp q; omega
    rw [if_neg ne, if_neg (by omega), if_neg (by omega), if_neg (by omega)]
theorem order_sides {a b c : Int} (h : Tri a b c) : ordQ (opI a b c 0) (opI a b c 1) = (if a = b then 0 else -1) ∧ ordQ (opI a b c 1) (opI a b c 2) = (if b = c then 0 else -1) := by
  obtain ⟨h1, h2, h3, h4, h5⟩ := h
  have p1 := Int.mul_pos (show 0 < b by omega) (show 0 < c by omega)
  have p2 := Int.mul_pos (show 0 < a by omega) (show 0 < c by omega)
  have p3 := Int.mul_pos (show 0 < a by omega) (show 0 < b by omega)
  have d1 : 0 < 2 * b * c := by rw [Int.mul_assoc]; omega
  have d2 : 0 < 2 * a * c := by rw [Int.mul_assoc]; omega
  have d3 : 0 < 2 * a * b := by rw [Int.mul_assoc]; omega
  constructor
  · show ordQ (opq a b c) (opq b a c) = _
    unfold opq
    rw [ordQ_frac d1 d2]
    have k : (b * b + c * c - a * a) * (2 * a * c) - (a * a + c * c - b * b) * (2 * b * c) = (2 * c * (b - a)) * ((a + b - c) * (a + b + c)) := by grind
    by_cases e : a = b
    · subst e
      rw [if_pos rfl, if_pos rfl]
    · have := Int.mul_pos (Int.mul_pos (show 0 < 2 * c by omega) (show 0 < b - a by omega)) (Int.mul_pos (show 0 < a + b - c by omega) (show 0 < a + b + c by omega))
      rw [if_neg (by omega), if_neg (by omega), if_neg e]
  · show ordQ (opq b a c) (opq c a b) = _
    unfold opq
    rw [ordQ_frac d2 d3]
    have k : (a * a + c * c - b * b) * (2 * a * b) - (a * a + b * b - c * c) * (2 * a * c) = (2 * a * (c - b)) * ((b + c - a) * (a + b + c)) := by grind
    by_cases e : b = c
    · subst e
      rw [if_pos rfl, if_pos rfl]
    · have := Int.mul_pos (Int.mul_pos (show 0 < 2 * a by omega) (show 0 < c - b by omega)) (Int.mul_pos (show 0 < b + c - a by omega) (show 0 < a + b + c by omega))
      rw [if_neg (by omega), if_neg (by omega), if_neg e]
theorem num_pos {A B : Int} (hA : 0 < A) (hB : 0 < B) : 0 < ((A : Rat) / (B : Rat)).num := by
  obtain ⟨g, g0, e1, e2⟩ := frac_num (A := A) hB
  generalize (A : Rat) / (B : Rat) = x at *
  refine Classical.byContradiction fun w => ?_
  have := Int.mul_nonneg (show 0 ≤ -x.num by omega) (show 0 ≤ g by omega)
  rw [Int.neg_mul] at this
  omega
theorem right_open {a b c : Int} (h1 : 1 ≤ a) (h2 : 1 ≤ b) (h3 : 1 ≤ c) (h : a * a + b * b = c * c) : 0 < (opI a b c 0).num ∧ 0 < (opI a b c 1).num ∧ opI a b c 0 * opI a b c 0 + opI a b c 1 * opI a b c 1 = 1 ∧ opI a b c 2 = 0 := by
  have p1 := Int.mul_pos (show 0 < b by omega) (show 0 < c by omega)
  have p2 := Int.mul_pos (show 0 < a by omega) (show 0 < c by omega)
  have p3 := Int.mul_pos (show 0 < a by omega) (show 0 < b by omega)
  have q1 := Int.mul_pos (show 0 < a by omega) (show 0 < a by omega)
  have q2 := Int.mul_pos (show 0 < b by omega) (show 0 < b by omega)
  have d1 : 0 < 2 * b * c := by rw [Int.mul_assoc]; omega
  have d2 : 0 < 2 * a * c := by rw [Int.mul_assoc]; omega
  have d3 : 0 < 2 * a * b := by rw [Int.mul_assoc]; omega
  have ra := rat_ne (show a ≠ 0 by omega)
  have rb := rat_ne (show b ≠ 0 by omega)
  have rc := rat_ne (show c ≠ 0 by omega)
  refine ⟨num_pos (A := b * b + c * c - a * a) (by omega) d1, num_pos (A := a * a + c * c - b * b) (by omega) d2, ?_, ?_⟩
  · show opq a b c * opq a b c + opq b a c * opq b a c = 1
    unfold opq
    rw [show b * b + c * c - a * a = 2 * b * b by grind, show a * a + c * c - b * b = 2 * a * a by grind]
    have hc : (a : Rat) * a + b * b = c * c := by rw [← Rat.intCast_mul, ← Rat.intCast_mul, ← Rat.intCast_mul, ← Rat.intCast_add, h]
    simp only [Rat.intCast_mul]
    rw [show ((2 : Int) : Rat) = 2 from rfl]
    generalize (a : Rat) = x at *
    generalize (b : Rat) = y at *
    generalize (c : Rat) = z at *
    clear p1 p2 p3 q1 q2 d1 d2 d3
    have e1 : 2 * y * y / (2 * y * z) = y / z := by grind
    have e2 : 2 * x * x / (2 * x * z) = x / z := by grind
    rw [e1, e2]
    grind
  · show opq c a b = 0
    unfold opq
    rw [show a * a + b * b - c * c = 0 by omega]
    have := rat_ne (show 2 * a * b ≠ 0 by omega)
    generalize ((2 * a * b : Int) : Rat) = x at *
    rw [show ((0 : Int) : Rat) = 0 from rfl]
    grind
theorem r_openings_of [H_openings_of T] {k : Nat} {a b c : Int} (h : Tri a b c) : run T (k + 6) i_openings_of [.v (.tup [.int a, .int b, .int c])] = .ok (.tup [.tup [.int (opI a b c 0).num, .int ((opI a b c 0).den : Int)], .tup [.int (opI a b c 1).num, .int ((opI a b c 1).den : Int)], .tup [.int (opI a b c 2).num, .int ((opI a b c 2).den : Int)]], false) .non := by
  obtain ⟨h1, h2, h3, h4, h5⟩ := id h
  have e0 := r_opening_in (T := T) (k := k + 2) (s := a) (o := b) (t := c) (by omega) (by omega) (by omega) (by omega) (by omega) (by omega)
  have e1 := r_opening_in (T := T) (k := k + 2) (s := b) (o := a) (t := c) (by omega) (by omega) (by omega) (by omega) (by omega) (by omega)
  have e2 := r_opening_in (T := T) (k := k + 2) (s := c) (o := a) (t := b) (by omega) (by omega) (by omega) (by omega) (by omega) (by omega)
  rw [run_succ]
  simp [f_openings_of, argsOk, h, e0, e1, e2, opI, sideI, lowI, highI]
def pre30 : List Sm := (f_law_30.body.drop 1).take 14
def body30 : List Sm := [.par [7, 8] [(.callr i__law_triangle 1 [(.v 6)]), (.callr i__law_triangle 1 [(.callr i__law_some 1 [(.lst [(.c (.int 5)), (.v 6)])])])], .par [9, 10] [(.callr i__law_roll 1 [(.c (.int 3))]), (.callr i__law_roll 1 [(.c (.int 3))])], .ifs (.or (.not (.e (.call i__law_two_right [(.v 7), (.v 9), (.v 8), (.v 10)]))) (.not (.e (.call i__law_two_right [(.v 7), (.c (.int 0)), (.v 7), (.c (.int 1))])))) [.ret (.c (.bl false))] [], .ifs (.not (.e (.call i__law_two_right [(.v 7), (.v 9), (.v 7), (.v 9)]))) [.ret (.c (.bl false))] [], .ifs (.not (.e (.call i__law_taken_right [(.v 7), (.v 9), (.op2 .add (.c (.int 1)) (.callr i__law_roll 1 [(.c (.int 12))]))]))) [.ret (.c (.bl false))] [], .set (.n 11) (.lst [(.call i_angle_order [(.v 7), (.c (.int 0)), (.v 7), (.c (.int 1))]), (.call i_angle_order [(.v 7), (.c (.int 1)), (.v 7), (.c (.int 2))])]), .ifs (.not (.e (.call i__law_like [(.v 11), (.lst [(.ifx (.b (.op2 .eq (.op2 .idx (.v 7) (.c (.int 0))) (.op2 .idx (.v 7) (.c (.int 1))))) (.c (.int 0)) (.op1 .neg (.c (.int 1)))), (.ifx (.b (.op2 .eq (.op2 .idx (.v 7) (.c (.int 1))) (.op2 .idx (.v 7) (.c (.int 2))))) (.c (.int 0)) (.op1 .neg (.c (.int 1))))])]))) [.ret (.c (.bl false))] []]
theorem body_30 [H_law_30 T] {k : Nat} {cu : Cup} {m : Int} {X0 X2 X3 X4 X5 s7 s8 s9 s10 s11 s12 s13 : S} (h1 : 1 ≤ m) (h9 : m ≤ 1000000000) (n7 : S.nr s7) (n8 : S.nr s8) (n9 : S.nr s9) (n10 : S.nr s10) (n11 : S.nr s11) :
    ∃ cu' : Cup, ∃ d7 d8 d9 d10 d11, execs (run T (k + 13)) body30 [X0, .own cu.d, X2, X3, X4, X5, .v (.int m), s7, s8, s9, s10, s11, s12, s13] = .nx [X0, .own cu'.d, X2, X3, X4, X5, .v (.int m), .v d7, .v d8, .v d9, .v d10, .v d11, s12, s13] := by
  obtain ⟨a, b, c, c1, t1, _, e1⟩ := r__law_triangle (T := T) (k := k + 11) (c := cu) h1 h9
  obtain ⟨ix, hix, e2⟩ := r__law_some (T := T) (k := k + 11) (c := c1) (xs := [.int 5, .int m]) (by simp) (by simp)
  obtain ⟨u, hu, u1, u9⟩ : ∃ u, ([.int 5, .int m] : List D)[ix] = .int u ∧ 1 ≤ u ∧ u ≤ 1000000000 := by
    have : ix < 2 := hix
    match ix, this with
    | 0, _ => exact ⟨5, rfl, by omega, by omega⟩
    | 1, _ => exact ⟨m, rfl, h1, h9⟩
  rw [hu] at e2
  generalize c1.next _ = c2 at e2
  obtain ⟨a', b', c', c3, t2, _, e3⟩ := r__law_triangle (T := T) (k := k + 11) (c := c2) u1 u9
  have b3 : Bits (3 : Int) 2 := ⟨by decide⟩
  have b12 : Bits (12 : Int) 4 := ⟨by decide⟩
  have r1 := r__law_roll (T := T) (k := k + 12) (c := c3) (m := 3) (by omega) (by omega)
  have p0 := roll_nonneg (c := c3) (m := 3) (by omega)
  have p1 := roll_lt (c := c3) (m := 3) (by omega)
  generalize c3.roll 3 = p at *
  generalize c3.next 3 = c4 at *
  have r2 := r__law_roll (T := T) (k := k + 12) (c := c4) (m := 3) (by omega) (by omega)
  have q0 := roll_nonneg (c := c4) (m := 3) (by omega)
  have q1 := roll_lt (c := c4) (m := 3) (by omega)
  generalize c4.roll 3 = q at *
  generalize c4.next 3 = c5 at *
  have r3 := r__law_roll (T := T) (k := k + 12) (c := c5) (m := 12) (by omega) (by omega)
  have w0 := roll_nonneg (c := c5) (m := 12) (by omega)
  have w1 := roll_lt (c := c5) (m := 12) (by omega)
  generalize c5.roll 12 = w at *
  generalize c5.next 12 = c6 at *
  have g1 := r__law_two_right (T := T) (k := k + 1) t1 t2 (i := p) (j := q) p0 (by omega) q0 (by omega)
  have g2 := r__law_two_right (T := T) (k := k + 1) t1 t1 (i := 0) (j := 1) (by omega) (by omega) (by omega) (by omega)
  have g3 := r__law_two_right (T := T) (k := k + 1) t1 t1 (i := p) (j := p) p0 (by omega) p0 (by omega)
  obtain ⟨n, hn⟩ : ∃ n : Nat, (n : Int) = 1 + w := ⟨(1 + w).toNat, by omega⟩
  have g4 := r__law_taken_right (T := T) (k := k + 1) (m := n) t1 (i := p) p0 (by omega) (by omega) (by omega)
  rw [hn] at g4
  have g5 := r_angle_order (T := T) (k := k + 6) t1 t1 (i := 0) (j := 1) (by omega) (by omega) (by omega) (by omega)
  have g6 := r_angle_order (T := T) (k := k + 6) t1 t1 (i := 1) (j := 2) (by omega) (by omega) (by omega) (by omega)
  obtain ⟨o1, o2⟩ := order_sides t1
  rw [o1] at g5
  rw [o2] at g6
  have l1 := fun (d : D) (hd : D.fit 6 d = true) => like_s (T := T) (k := k + 13) hd (by omega)
  have n7' : ∀ d, ¬ s7 = .ref d := n7
  have n8' : ∀ d, ¬ s8 = .ref d := n8
  have n9' : ∀ d, ¬ s9 = .ref d := n9
  have n10' : ∀ d, ¬ s10 = .ref d := n10
  have n11' : ∀ d, ¬ s11 = .ref d := n11
  refine ⟨c6, .tup [.int a, .int b, .int c], .tup [.int a', .int b', .int c'], .int p, .int q, .lst [.int (if a = b then 0 else -1), .int (if b = c then 0 else -1)], ?_⟩
  by_cases k1 : a = b <;> by_cases k2 : b = c
  · subst k1; subst k2
    simp only [if_true] at g5 g6 ⊢
    simp [body30, e1, e2, e3, r1, r2, r3, g1, g2, g3, g4, g5, g6, l1, n7', n8', n9', n10', n11']
  · subst k1
    simp only [if_true, k2, if_false] at g5 g6 ⊢
    simp [body30, e1, e2, e3, r1, r2, r3, g1, g2, g3, g4, g5, g6, l1, n7', n8', n9', n10', n11', k2]
  · subst k2
    simp only [if_true, k1, if_false] at g5 g6 ⊢
    simp [body30, e1, e2, e3, r1, r2, r3, g1, g2, g3, g4, g5, g6, l1, n7', n8', n9', n10', n11', k1]
  · simp only [k1, k2, if_false] at g5 g6 ⊢
    simp [body30, e1, e2, e3, r1, r2, r3, g1, g2, g3, g4, g5, g6, l1, n7', n8', n9', n10', n11', k1, k2]
theorem law30 [H_law_30 T] {k : Nat} {ns : List Int} (hns : ns.length ≤ 63) {s3 s4 s5 : S}
    (hpre : ∀ X : D, execs (run T (k + 20)) pre30 [.v (.scr ns), .own X, .no, .no, .no, .no, .no, .no, .no, .no, .no, .no, .no, .no] = .nx [.v (.scr ns), .own X, .v (.tup [.int 3, .int 4, .int 5]), s3, s4, s5, .no, .no, .no, .no, .no, .no, .no, .no]) :
    run T (k + 21) i_law [.v (.scr ns)] = .ok (.bl true, false) .non := by
  obtain ⟨c0, e0⟩ := r__law_cup (T := T) (k := k + 19) (ns := ns) hns
  have b := fun (c : Cup) (m : Int) (s7 s8 s9 s10 s11 : S) h1 h9 n7 n8 n9 n10 n11 => body_30 (T := T) (k := k + 7) (cu := c) (m := m) (X0 := .v (.scr ns)) (X2 := .v (.tup [.int 3, .int 4, .int 5])) (X3 := s3) (X4 := s4) (X5 := s5) (s7 := s7) (s8 := s8) (s9 := s9) (s10 := s10) (s11 := s11) (s12 := .no) (s13 := .no) h1 h9 n7 n8 n9 n10 n11
  obtain ⟨c1, d17, d18, d19, d110, d111, k1⟩ := b c0 4 .no .no .no .no .no (by omega) (by omega) nr_no nr_no nr_no nr_no nr_no
  obtain ⟨c2, d27, d28, d29, d210, d211, k2⟩ := b c1 12 (.v d17) (.v d18) (.v d19) (.v d110) (.v d111) (by omega) (by omega) nr_v nr_v nr_v nr_v nr_v
  obtain ⟨c3, d37, d38, d39, d310, d311, k3⟩ := b c2 60 (.v d27) (.v d28) (.v d29) (.v d210) (.v d211) (by omega) (by omega) nr_v nr_v nr_v nr_v nr_v
  obtain ⟨c4, d47, d48, d49, d410, d411, k4⟩ := b c3 10000 (.v d37) (.v d38) (.v d39) (.v d310) (.v d311) (by omega) (by omega) nr_v nr_v nr_v nr_v nr_v
  obtain ⟨c5, d57, d58, d59, d510, d511, k5⟩ := b c4 1000000000 (.v d47) (.v d48) (.v d49) (.v d410) (.v d411) (by omega) (by omega) nr_v nr_v nr_v nr_v nr_v
  have b30 : Bits (30 : Int) 5 := ⟨by decide⟩
  have r1 := r__law_roll (T := T) (k := k + 19) (c := c5) (m := 30) (by omega) (by omega)
  have p0 := roll_nonneg (c := c5) (m := 30) (by omega)
  have p1 := roll_lt (c := c5) (m := 30) (by omega)
  generalize c5.roll 30 = p at *
  generalize c5.next 30 = c6 at *
  have r2 := r__law_roll (T := T) (k := k + 19) (c := c6) (m := 30) (by omega) (by omega)
  have q0 := roll_nonneg (c := c6) (m := 30) (by omega)
  have q1 := roll_lt (c := c6) (m := 30) (by omega)
  generalize c6.roll 30 = q at *
  generalize c6.next 30 = c7 at *
  obtain ⟨u, hu⟩ : ∃ u, (if 2 + p < 1 + q then 1 + q else 2 + p) = u := ⟨_, rfl⟩
  obtain ⟨v, hv⟩ : ∃ v, (if 1 + q < 2 + p then 1 + q else 2 + p) = v := ⟨_, rfl⟩
  have hv1 : 1 ≤ v ∧ v ≤ u ∧ u ≤ 40 := by rw [← hu, ← hv]; split <;> split <;> omega
  obtain ⟨a, b', h1, h2, h3, h4, e1⟩ := r__law_right (T := T) (k := k + 19) (o := u + 1) (t := v) (by omega) (by omega) (by omega)
  obtain ⟨c, hc⟩ : ∃ c, (u + 1) * (u + 1) + v * v = c := ⟨_, rfl⟩
  have cb : c ≤ 4000 := by
    have := sq_le (show 0 ≤ u + 1 by omega) (show u + 1 ≤ 41 by omega)
    have := sq_le (show 0 ≤ v by omega) (show v ≤ 40 by omega)
    omega
  rw [hc] at h3 h4 e1
  have tr : Tri a b' c := ⟨h1, h2, by omega, pyth_lt h1 (by omega) (by omega) h4, by omega⟩
  obtain ⟨o1, o2, o3, o4⟩ := right_open h1 (show 1 ≤ b' by omega) (show 1 ≤ c by omega) h4
  have t345 : Tri 3 4 5 := by constructor <;> omega
  obtain ⟨_, _, _, o5⟩ := right_open (a := 3) (b := 4) (c := 5) (by omega) (by omega) (by omega) (by omega)
  have g1 := r_are_upright (T := T) (k := k + 13) tr tr (i := 0) (j := 1) (by omega) (by omega) (by omega) (by omega)
  have g2 := r_are_straight (T := T) (k := k + 13) tr t345 (i := 2) (j := 2) (by omega) (by omega) (by omega) (by omega)
  have g3 := r_openings_of (T := T) (k := k + 14) tr
  rw [o3] at g1
  rw [o4, o5, decide_eq_true (Rat.add_zero 0)] at g2
  rw [o4] at g3
  have z1 : ((0 : Rat).num = 0) ∧ ((0 : Rat).den : Int) = 1 := ⟨rfl, rfl⟩
  rw [z1.1, z1.2] at g3
  simp [o1, o2] at g1 g2
  have l1 := fun (d : D) (hd : D.fit 6 d = true) => like_s (T := T) (k := k + 20) hd (by omega)
  have hp4 : powOk 10 4 = true := by decide
  have hp9 : powOk 10 9 = true := by decide
  have hB : f_law_30.body = [.set (.n 1) (.call i__law_cup [(.v 0)])] ++ (pre30 ++ ([.forr (.n 6) (.e (.tup [(.c (.int 4)), (.c (.int 12)), (.c (.int 60)), (.op2 .pow (.c (.int 10)) (.c (.int 4))), (.op2 .pow (.c (.int 10)) (.c (.int 9)))])) body30] ++ f_law_30.body.drop 16)) := rfl
  have hB2 : f_law_30.body.drop 16 = [.par [12, 10] [(.op2 .add (.c (.int 2)) (.callr i__law_roll 1 [(.c (.int 30))])), (.op2 .add (.c (.int 1)) (.callr i__law_roll 1 [(.c (.int 30))]))], .set (.n 13) (.call i__law_right [(.op2 .add (.op2 .max (.v 12) (.v 10)) (.c (.int 1))), (.op2 .min (.v 12) (.v 10))]), .ifs (.not (.e (.call i__law_like [(.lst [(.call i_are_upright [(.v 13), (.c (.int 0)), (.v 13), (.c (.int 1))]), (.call i_are_straight [(.v 13), (.c (.int 2)), (.v 2), (.c (.int 2))]), (.op2 .idx (.call i_openings_of [(.v 13)]) (.c (.int 2)))]), (.lst [(.c (.bl true)), (.c (.bl true)), (.tup [(.c (.int 0)), (.c (.int 1))])])]))) [.ret (.c (.bl false))] [], .ret (.c (.bl true))] := rfl
  rw [run_succ, hB, hB2]
  have hargs : argsOk f_law_30 [.v (.scr ns)] = true := rfl
  have hst : start f_law_30.slots [.v (.scr ns)] = [.v (.scr ns), .no, .no, .no, .no, .no, .no, .no, .no, .no, .no, .no, .no, .no] := rfl
  have hby : f_law_30.byref = false := rfl
  rw [hargs, hst, hby]
  simp only [execs_append]
  generalize pre30 = PR at *
  generalize body30 = BD at *
  clear b
  simp only [Nat.reduceAdd, Nat.add_assoc] at k1 k2 k3 k4 k5
  simp [e0, setP_cup, hpre, hp4, hp9, forS, k1, k2, k3, k4, k5, r1, r2, hu, hv, e1, g1, g2, g3, l1]
end G
end

section
set_option maxHeartbeats 4000000
/-! Law 28: sixty and a hundred and twenty degrees. -/
namespace G
def i_side_across : Nat := 284
def i_joined_in : Nat := 281
def i_joined_sixties : Nat := 285
def i_parted_sixty : Nat := 286
def i_part_in : Nat := 36
def i_plain_in : Nat := 37
def i_by_numbers : Nat := 282
def i_by_two : Nat := 287
def i__law_place : Nat := 288
def i__law_across : Nat := 289
def i__law_two : Nat := 69
def i__law_part : Nat := 269
def i__law_plain : Nat := 205
def i__law_made_right : Nat := 290
def f_side_across : Fn := ⟨3, 4, false, [
  .expr (.call i_need_side [(.v 0)]),
  .expr (.call i_need_side [(.v 1)]),
  .expr (.call i_need_degrees [(.v 2)]),
  .set (.n 3) (.call i_across_square [(.v 0), (.v 1), (.v 2)]),
  .ret (.ifx (.and (.e (.call i_is_square_in [(.v 3)])) (.b (.op2 .le (.v 3) (.op2 .mul (.c (.int 1000000000)) (.c (.int 1000000000)))))) (.call i_root_in [(.v 3)]) (.c .non))]⟩
def f_joined_in : Fn := ⟨1, 5, false, [
  .set (.t [(.n 1), (.n 2), (.n 3)]) (.v 0),
  .ret (.op1 .sorted (.comp [4] (.op1 .tuple (.op1 .sorted (.lst [(.v 4), (.op2 .add (.v 1) (.v 2)), (.v 3)]))) (.n 4) (.e (.tup [(.v 1), (.v 2)])) [] []))]⟩
def f_joined_sixties : Fn := ⟨1, 1, false, [
  .expr (.call i_need_triangle [(.v 0)]),
  .ifs (.b (.op1 .isNone (.call i_place_with [(.v 0), (.c (.int 120))]))) [.rais 11 [(.c (.str (PySem.Str.ofString "no angle of 120 degrees")))]] [],
  .ifs (.b (.op2 .gt (.op2 .add (.op2 .idx (.v 0) (.c (.int 0))) (.op2 .idx (.v 0) (.c (.int 1)))) (.c (.int 1000000000)))) [.rais 1 [(.c (.str (PySem.Str.ofString "too great")))]] [],
  .ret (.op1 .tuple (.call i_joined_in [(.v 0)]))]⟩
def f_parted_sixty : Fn := ⟨1, 6, false, [
  .expr (.call i_need_triangle [(.v 0)]),
  .set (.n 1) (.call i_place_with [(.v 0), (.c (.int 60))]),
  .ifs (.or (.b (.op1 .isNone (.v 1))) (.b (.op2 .eq (.op2 .idx (.v 0) (.c (.int 0))) (.op2 .idx (.v 0) (.c (.int 2)))))) [.rais 11 [(.c (.str (PySem.Str.ofString "no angle of 60 degrees, or three")))]] [],
  .set (.t [(.n 2), (.n 3)]) (.comp [4, 5] (.v 5) (.t [(.n 4), (.n 5)]) (.enum (.v 0)) [(.b (.op2 .ne (.v 4) (.v 1)))] []),
  .ret (.op1 .tuple (.op1 .sorted (.lst [(.op2 .sub (.v 3) (.v 2)), (.v 2), (.op2 .idx (.v 0) (.v 1))])))]⟩
def f_part_in : Fn := ⟨1, 1, false, [
  .ret (.call i_divisor_of [(.call i_divisor_of [(.op2 .idx (.v 0) (.c (.int 0))), (.op2 .idx (.v 0) (.c (.int 1)))]), (.op2 .idx (.v 0) (.c (.int 2)))])]⟩
def f_plain_in : Fn := ⟨1, 3, false, [
  .set (.n 1) (.call i_part_in [(.v 0)]),
  .ret (.op1 .tuple (.comp [2] (.op2 .fdiv (.v 2) (.v 1)) (.n 2) (.e (.v 0)) [] []))]⟩
def f_by_numbers : Fn := ⟨2, 4, false, [
  .par [2, 3] [(.op2 .sub (.op2 .mul (.v 1) (.v 1)) (.op2 .mul (.v 0) (.v 0))), (.op2 .add (.op2 .mul (.op2 .mul (.c (.int 2)) (.v 1)) (.v 0)) (.op2 .mul (.v 0) (.v 0)))],
  .ret (.call i_plain_in [(.op1 .tuple (.op1 .sorted (.lst [(.v 2), (.v 3), (.op2 .add (.op2 .add (.op2 .mul (.v 1) (.v 1)) (.op2 .mul (.v 1) (.v 0))) (.op2 .mul (.v 0) (.v 0)))])))])]⟩
def f_by_two : Fn := ⟨3, 5, false, [
  .expr (.call i_need_whole [(.v 0), (.c (.int 1)), (.c (.int 10000))]),
  .expr (.call i_need_whole [(.v 1), (.c (.int 1)), (.c (.int 10000))]),
  .ifs (.b (.op2 .ge (.v 0) (.v 1))) [.rais 3 [(.c (.str (PySem.Str.ofString "not less")))]] [],
  .expr (.call i_need_degrees [(.v 2)]),
  .set (.n 3) (.call i_by_numbers [(.v 0), (.v 1)]),
  .ret (.ifx (.b (.op2 .eq (.v 2) (.c (.int 120)))) (.tup [(.v 3)]) (.op1 .tuple (.comp [4] (.call i_plain_in [(.v 4)]) (.n 4) (.e (.call i_joined_in [(.v 3)])) [] [])))]⟩
def f__law_place : Fn := ⟨2, 5, false, [
  .set (.n 2) (.ifx (.b (.op2 .eq (.v 1) (.c (.int 60)))) (.tup [(.c (.int 1)), (.c (.int 2))]) (.tup [(.op1 .neg (.c (.int 1))), (.c (.int 2))])),
  .set (.n 3) (.comp [4] (.v 4) (.n 4) (.range [(.c (.int 3))]) [(.b (.op2 .eq (.call i__law_opening [(.v 0), (.v 4)]) (.v 2)))] []),
  .ret (.ifx (.b (.op2 .ne (.v 3) (.lst []))) (.op2 .idx (.v 3) (.c (.int 0))) (.c .non))]⟩
def f__law_across : Fn := ⟨3, 5, false, [
  .set (.n 3) (.op2 .add (.op2 .add (.op2 .mul (.v 0) (.v 0)) (.op2 .mul (.v 1) (.v 1))) (.ifx (.b (.op2 .eq (.v 2) (.c (.int 120)))) (.op2 .mul (.v 0) (.v 1)) (.op2 .sub (.c (.int 0)) (.op2 .mul (.v 0) (.v 1))))),
  .set (.n 4) (.call i__law_root [(.v 3)]),
  .ret (.ifx (.and (.b (.op2 .eq (.op2 .mul (.v 4) (.v 4)) (.v 3))) (.b (.op2 .le (.v 4) (.op2 .pow (.c (.int 10)) (.c (.int 9)))))) (.v 4) (.c .non))]⟩
def f__law_two_28 : Fn := ⟨2, 2, false, [
  .ret (.op1 .tuple (.op1 .sorted (.lst [(.op2 .sub (.op2 .mul (.v 1) (.v 1)) (.op2 .mul (.v 0) (.v 0))), (.op2 .add (.op2 .mul (.op2 .mul (.c (.int 2)) (.v 1)) (.v 0)) (.op2 .mul (.v 0) (.v 0))), (.op2 .add (.op2 .add (.op2 .mul (.v 1) (.v 1)) (.op2 .mul (.v 1) (.v 0))) (.op2 .mul (.v 0) (.v 0)))])))]⟩
def f__law_part : Fn := ⟨1, 1, false, [
  .ret (.call i__law_divisor [(.call i__law_divisor [(.op2 .idx (.v 0) (.c (.int 0))), (.op2 .idx (.v 0) (.c (.int 1)))]), (.op2 .idx (.v 0) (.c (.int 2)))])]⟩
def f__law_plain_28 : Fn := ⟨1, 3, false, [
  .set (.n 1) (.call i__law_part [(.v 0)]),
  .ret (.op1 .tuple (.comp [2] (.op1 .int (.op2 .fdiv (.v 2) (.v 1))) (.n 2) (.e (.v 0)) [] []))]⟩
def f__law_made_right : Fn := ⟨4, 13, true, [
  .set (.n 4) (.call i__law_two [(.v 1), (.v 2)]),
  .par [5, 6] [(.op1 .tuple (.op1 .sorted (.lst [(.op2 .idx (.v 4) (.c (.int 0))), (.op2 .add (.op2 .idx (.v 4) (.c (.int 0))) (.op2 .idx (.v 4) (.c (.int 1)))), (.op2 .idx (.v 4) (.c (.int 2)))]))), (.op1 .tuple (.op1 .sorted (.lst [(.op2 .idx (.v 4) (.c (.int 1))), (.op2 .add (.op2 .idx (.v 4) (.c (.int 0))) (.op2 .idx (.v 4) (.c (.int 1)))), (.op2 .idx (.v 4) (.c (.int 2)))])))],
  .set (.n 7) (.lst [(.call i_by_two [(.v 1), (.v 2), (.c (.int 120))]), (.call i_by_two [(.v 1), (.v 2), (.c (.int 60))])]),
  .ifs (.not (.e (.call i__law_like [(.v 7), (.lst [(.tup [(.call i__law_plain [(.v 4)])]), (.op1 .tuple (.op1 .sorted (.lst [(.call i__law_plain [(.v 5)]), (.call i__law_plain [(.v 6)])])))])]))) [.ret (.c (.bl false))] [],
  .set (.n 8) (.op1 .tuple (.comp [12] (.op2 .mul (.v 3) (.v 12)) (.n 12) (.e (.v 4)) [] [])),
  .set (.n 7) (.lst [(.call i_degrees_place [(.v 8), (.c (.int 120))]), (.call i_side_across [(.op2 .idx (.v 8) (.c (.int 0))), (.op2 .idx (.v 8) (.c (.int 1))), (.c (.int 120))]), (.call i_side_across [(.op2 .idx (.v 8) (.c (.int 1))), (.op2 .idx (.v 8) (.c (.int 0))), (.c (.int 120))])]),
  .ifs (.or (.not (.e (.call i_is_triangle [(.v 8)]))) (.not (.e (.call i__law_like [(.v 7), (.lst [(.c (.int 2)), (.op2 .idx (.v 8) (.c (.int 2))), (.op2 .idx (.v 8) (.c (.int 2)))])])))) [.ret (.c (.bl false))] [],
  .set (.n 9) (.call i_joined_sixties [(.v 8)]),
  .set (.n 10) (.op1 .sorted (.comp [11] (.op1 .tuple (.comp [12] (.op2 .mul (.v 3) (.v 12)) (.n 12) (.e (.v 11)) [] [])) (.n 11) (.e (.tup [(.v 5), (.v 6)])) [] [])),
  .ifs (.not (.e (.call i__law_like [(.v 9), (.op1 .tuple (.v 10))]))) [.ret (.c (.bl false))] [],
  .forr (.n 11) (.e (.v 9)) [.ifs (.not (.e (.call i__law_like [(.lst [(.call i_is_triangle [(.v 11)]), (.call i_degrees_place [(.v 11), (.c (.int 60))]), (.call i_degrees_place [(.v 11), (.c (.int 120))]), (.call i_parted_sixty [(.v 11)])]), (.lst [(.c (.bl true)), (.c (.int 1)), (.c .non), (.v 8)])]))) [.ret (.c (.bl false))] []],
  .ret (.c (.bl true))]⟩
def f_law_28 : Fn := ⟨1, 13, false, [
  .set (.n 1) (.call i__law_cup [(.v 0)]),
  .set (.n 2) (.lst [(.call i_degrees_place [(.tup [(.c (.int 3)), (.c (.int 5)), (.c (.int 7))]), (.c (.int 120))]), (.call i_degrees_place [(.tup [(.c (.int 5)), (.c (.int 7)), (.c (.int 8))]), (.c (.int 60))]), (.call i_degrees_place [(.tup [(.c (.int 1)), (.c (.int 1)), (.c (.int 1))]), (.c (.int 60))]), (.call i_degrees_place [(.tup [(.c (.int 3)), (.c (.int 4)), (.c (.int 5))]), (.c (.int 60))]), (.call i_side_across [(.c (.int 3)), (.c (.int 5)), (.c (.int 120))])]),
  .set (.n 2) (.op2 .add (.v 2) (.lst [(.call i_side_across [(.c (.int 5)), (.c (.int 8)), (.c (.int 60))]), (.call i_side_across [(.c (.int 1)), (.c (.int 2)), (.c (.int 60))]), (.call i_joined_sixties [(.tup [(.c (.int 3)), (.c (.int 5)), (.c (.int 7))])]), (.call i_parted_sixty [(.tup [(.c (.int 5)), (.c (.int 7)), (.c (.int 8))])]), (.call i_by_two [(.c (.int 1)), (.c (.int 2)), (.c (.int 120))])])),
  .set (.n 2) (.op2 .add (.v 2) (.lst [(.call i_by_two [(.c (.int 1)), (.c (.int 2)), (.c (.int 60))]), (.call i_by_two [(.c (.int 1)), (.c (.int 4)), (.c (.int 120))]), (.call i_by_two [(.c (.int 2)), (.c (.int 4)), (.c (.int 120))])])),
  .set (.n 3) (.lst [(.c (.int 2)), (.c (.int 1)), (.c (.int 0)), (.c .non), (.c (.int 7)), (.c (.int 7)), (.c .non), (.tup [(.tup [(.c (.int 3)), (.c (.int 7)), (.c (.int 8))]), (.tup [(.c (.int 5)), (.c (.int 7)), (.c (.int 8))])]), (.tup [(.c (.int 3)), (.c (.int 5)), (.c (.int 7))]), (.tup [(.tup [(.c (.int 3)), (.c (.int 5)), (.c (.int 7))])]), (.tup [(.tup [(.c (.int 3)), (.c (.int 7)), (.c (.int 8))]), (.tup [(.c (.int 5)), (.c (.int 7)), (.c (.int 8))])]), (.tup [(.tup [(.c (.int 3)), (.c (.int 5)), (.c (.int 7))])]), (.tup [(.tup [(.c (.int 3)), (.c (.int 5)), (.c (.int 7))])])]),
  .ifs (.not (.e (.call i__law_like [(.v 2), (.v 3)]))) [.ret (.c (.bl false))] [],
  .forr (.n 4) (.e (.tup [(.c (.int 3)), (.c (.int 8)), (.c (.int 30)), (.c (.int 1000)), (.op2 .pow (.c (.int 10)) (.c (.int 9)))])) [.set (.n 5) (.callr i__law_triangle 1 [(.v 4)]), .forr (.n 6) (.e (.tup [(.c (.int 60)), (.c (.int 120))])) [.ifs (.not (.e (.call i__law_like [(.call i_degrees_place [(.v 5), (.v 6)]), (.call i__law_place [(.v 5), (.v 6)])]))) [.ret (.c (.bl false))] [], .par [7, 8] [(.op2 .add (.c (.int 1)) (.callr i__law_roll 1 [(.v 4)])), (.op2 .add (.c (.int 1)) (.callr i__law_roll 1 [(.v 4)]))], .ifs (.not (.e (.call i__law_like [(.call i_side_across [(.v 7), (.v 8), (.v 6)]), (.call i__law_across [(.v 7), (.v 8), (.v 6)])]))) [.ret (.c (.bl false))] []]],
  .forr (.t [(.n 4), (.n 9)]) (.e (.tup [(.tup [(.c (.int 3)), (.c (.int 9))]), (.tup [(.c (.int 12)), (.c (.int 1000))]), (.tup [(.c (.int 100)), (.c (.int 300))]), (.tup [(.c (.int 9999)), (.c (.int 1))])])) [.set (.n 10) (.op2 .add (.c (.int 1)) (.callr i__law_roll 1 [(.v 4)])), .set (.n 11) (.op2 .add (.op2 .add (.v 10) (.c (.int 1))) (.callr i__law_roll 1 [(.op2 .min (.v 4) (.op2 .sub (.op2 .pow (.c (.int 10)) (.c (.int 4))) (.v 10)))])), .ifs (.not (.e (.callr i__law_made_right 1 [(.v 10), (.v 11), (.op2 .add (.c (.int 1)) (.callr i__law_roll 1 [(.v 9)]))]))) [.ret (.c (.bl false))] []],
  .set (.n 12) (.op2 .add (.c (.int 1)) (.callr i__law_roll 1 [(.op2 .pow (.c (.int 10)) (.c (.int 9)))])),
  .set (.n 2) (.lst [(.call i_side_across [(.v 12), (.v 12), (.c (.int 60))]), (.call i_degrees_place [(.tup [(.v 12), (.v 12), (.v 12)]), (.c (.int 60))]), (.call i_degrees_place [(.tup [(.v 12), (.v 12), (.v 12)]), (.c (.int 120))])]),
  .ret (.call i__law_like [(.op2 .add (.v 2) (.lst [(.call i_side_across [(.op2 .mul (.c (.int 3)) (.op2 .pow (.c (.int 10)) (.c (.int 8)))), (.op2 .mul (.c (.int 5)) (.op2 .pow (.c (.int 10)) (.c (.int 8)))), (.c (.int 120))])])), (.lst [(.v 12), (.c (.int 0)), (.c .non), (.op2 .mul (.c (.int 7)) (.op2 .pow (.c (.int 10)) (.c (.int 8))))])])]⟩
class H_root_in (T : Table) : Prop where
  s : Has T i_root_in f_root_in
instance {T : Table} [h : H_root_in T] : Has T i_root_in f_root_in := h.s
class H_is_square_in (T : Table) : Prop where
  s : Has T i_is_square_in f_is_square_in
  c0 : H_root_in T
instance {T : Table} [h : H_is_square_in T] : Has T i_is_square_in f_is_square_in := h.s
instance {T : Table} [h : H_is_square_in T] : H_root_in T := h.c0
class H_need_side (T : Table) : Prop where
  s : Has T i_need_side f_need_side
  c0 : H_is_side T
instance {T : Table} [h : H_need_side T] : Has T i_need_side f_need_side := h.s
instance {T : Table} [h : H_need_side T] : H_is_side T := h.c0
class H_side_across (T : Table) : Prop where
  s : Has T i_side_across f_side_across
  c0 : H_root_in T
  c1 : H_is_square_in T
  c2 : H_need_side T
  c3 : H_need_degrees T
  c4 : H_across_square T
instance {T : Table} [h : H_side_across T] : Has T i_side_across f_side_across := h.s
instance {T : Table} [h : H_side_across T] : H_root_in T := h.c0
instance {T : Table} [h : H_side_across T] : H_is_square_in T := h.c1
instance {T : Table} [h : H_side_across T] : H_need_side T := h.c2
instance {T : Table} [h : H_side_across T] : H_need_degrees T := h.c3
instance {T : Table} [h : H_side_across T] : H_across_square T := h.c4
class H_joined_in (T : Table) : Prop where
  s : Has T i_joined_in f_joined_in
instance {T : Table} [h : H_joined_in T] : Has T i_joined_in f_joined_in := h.s
class H_joined_sixties (T : Table) : Prop where
  s : Has T i_joined_sixties f_joined_sixties
  c0 : H_need_triangle T
  c1 : H_place_with T
  c2 : H_joined_in T
instance {T : Table} [h : H_joined_sixties T] : Has T i_joined_sixties f_joined_sixties := h.s
instance {T : Table} [h : H_joined_sixties T] : H_need_triangle T := h.c0
instance {T : Table} [h : H_joined_sixties T] : H_place_with T := h.c1
instance {T : Table} [h : H_joined_sixties T] : H_joined_in T := h.c2
class H_parted_sixty (T : Table) : Prop where
  s : Has T i_parted_sixty f_parted_sixty
  c0 : H_need_triangle T
  c1 : H_place_with T
instance {T : Table} [h : H_parted_sixty T] : Has T i_parted_sixty f_parted_sixty := h.s
instance {T : Table} [h : H_parted_sixty T] : H_need_triangle T := h.c0
instance {T : Table} [h : H_parted_sixty T] : H_place_with T := h.c1
class H_part_in (T : Table) : Prop where
  s : Has T i_part_in f_part_in
  c0 : H_divisor_of T
instance {T : Table} [h : H_part_in T] : Has T i_part_in f_part_in := h.s
instance {T : Table} [h : H_part_in T] : H_divisor_of T := h.c0
class H_plain_in (T : Table) : Prop where
  s : Has T i_plain_in f_plain_in
  c0 : H_part_in T
instance {T : Table} [h : H_plain_in T] : Has T i_plain_in f_plain_in := h.s
instance {T : Table} [h : H_plain_in T] : H_part_in T := h.c0
class H_by_numbers (T : Table) : Prop where
  s : Has T i_by_numbers f_by_numbers
  c0 : H_plain_in T
instance {T : Table} [h : H_by_numbers T] : Has T i_by_numbers f_by_numbers := h.s
instance {T : Table} [h : H_by_numbers T] : H_plain_in T := h.c0
class H_by_two (T : Table) : Prop where
  s : Has T i_by_two f_by_two
  c0 : H_need_whole T
  c1 : H_plain_in T
  c2 : H_need_degrees T
  c3 : H_joined_in T
  c4 : H_by_numbers T
instance {T : Table} [h : H_by_two T] : Has T i_by_two f_by_two := h.s
instance {T : Table} [h : H_by_two T] : H_need_whole T := h.c0
instance {T : Table} [h : H_by_two T] : H_plain_in T := h.c1
instance {T : Table} [h : H_by_two T] : H_need_degrees T := h.c2
instance {T : Table} [h : H_by_two T] : H_joined_in T := h.c3
instance {T : Table} [h : H_by_two T] : H_by_numbers T := h.c4
class H__law_place (T : Table) : Prop where
  s : Has T i__law_place f__law_place
  c0 : H__law_opening T
instance {T : Table} [h : H__law_place T] : Has T i__law_place f__law_place := h.s
instance {T : Table} [h : H__law_place T] : H__law_opening T := h.c0
class H__law_root (T : Table) : Prop where
  s : Has T i__law_root f__law_root
instance {T : Table} [h : H__law_root T] : Has T i__law_root f__law_root := h.s
class H__law_across (T : Table) : Prop where
  s : Has T i__law_across f__law_across
  c0 : H__law_root T
instance {T : Table} [h : H__law_across T] : Has T i__law_across f__law_across := h.s
instance {T : Table} [h : H__law_across T] : H__law_root T := h.c0
class H_is_triangle (T : Table) : Prop where
  s : Has T i_is_triangle f_is_triangle
  c0 : H_fits_triangle T
instance {T : Table} [h : H_is_triangle T] : Has T i_is_triangle f_is_triangle := h.s
instance {T : Table} [h : H_is_triangle T] : H_fits_triangle T := h.c0
class H__law_two_28 (T : Table) : Prop where
  s : Has T i__law_two f__law_two_28
instance {T : Table} [h : H__law_two_28 T] : Has T i__law_two f__law_two_28 := h.s
class H__law_part (T : Table) : Prop where
  s : Has T i__law_part f__law_part
  c0 : H__law_divisor T
instance {T : Table} [h : H__law_part T] : Has T i__law_part f__law_part := h.s
instance {T : Table} [h : H__law_part T] : H__law_divisor T := h.c0
class H__law_plain_28 (T : Table) : Prop where
  s : Has T i__law_plain f__law_plain_28
  c0 : H__law_part T
instance {T : Table} [h : H__law_plain_28 T] : Has T i__law_plain f__law_plain_28 := h.s
instance {T : Table} [h : H__law_plain_28 T] : H__law_part T := h.c0
class H__law_made_right (T : Table) : Prop where
  s : Has T i__law_made_right f__law_made_right
  c0 : H_is_triangle T
  c1 : H_degrees_place T
  c2 : H_side_across T
  c3 : H_joined_sixties T
  c4 : H_parted_sixty T
  c5 : H_by_two T
  c6 : H__law_like T
  c7 : H__law_two_28 T
  c8 : H__law_plain_28 T
instance {T : Table} [h : H__law_made_right T] : Has T i__law_made_right f__law_made_right := h.s
instance {T : Table} [h : H__law_made_right T] : H_is_triangle T := h.c0
instance {T : Table} [h : H__law_made_right T] : H_degrees_place T := h.c1
instance {T : Table} [h : H__law_made_right T] : H_side_across T := h.c2
instance {T : Table} [h : H__law_made_right T] : H_joined_sixties T := h.c3
instance {T : Table} [h : H__law_made_right T] : H_parted_sixty T := h.c4
instance {T : Table} [h : H__law_made_right T] : H_by_two T := h.c5
instance {T : Table} [h : H__law_made_right T] : H__law_like T := h.c6
instance {T : Table} [h : H__law_made_right T] : H__law_two_28 T := h.c7
instance {T : Table} [h : H__law_made_right T] : H__law_plain_28 T := h.c8
class H_law_28 (T : Table) : Prop where
  s : Has T i_law f_law_28
  c0 : H_degrees_place T
  c1 : H_side_across T
  c2 : H_joined_sixties T
  c3 : H_parted_sixty T
  c4 : H_by_two T
  c5 : H__law_cup T
  c6 : H__law_roll T
  c7 : H__law_like T
  c8 : H__law_triangle T
  c9 : H__law_place T
  c10 : H__law_across T
  c11 : H__law_made_right T
instance {T : Table} [h : H_law_28 T] : Has T i_law f_law_28 := h.s
instance {T : Table} [h : H_law_28 T] : H_degrees_place T := h.c0
instance {T : Table} [h : H_law_28 T] : H_side_across T := h.c1
instance {T : Table} [h : H_law_28 T] : H_joined_sixties T := h.c2
instance {T : Table} [h : H_law_28 T] : H_parted_sixty T := h.c3
instance {T : Table} [h : H_law_28 T] : H_by_two T := h.c4
instance {T : Table} [h : H_law_28 T] : H__law_cup T := h.c5
instance {T : Table} [h : H_law_28 T] : H__law_roll T := h.c6
instance {T : Table} [h : H_law_28 T] : H__law_like T := h.c7
instance {T : Table} [h : H_law_28 T] : H__law_triangle T := h.c8
instance {T : Table} [h : H_law_28 T] : H__law_place T := h.c9
instance {T : Table} [h : H_law_28 T] : H__law_across T := h.c10
instance {T : Table} [h : H_law_28 T] : H__law_made_right T := h.c11
variable {T : Table}
def acr (o t d : Int) : Int := o * o + t * t + (if d = 120 then o * t else -o * t)
def plc (a b c d : Int) : D := if acr b c d = a * a then .int 0 else if acr a c d = b * b then .int 1 else if acr a b d = c * c then .int 2 else .non
theorem r_across_square [H_across_square T] {k : Nat} {o t d : Int} (ho : 1 ≤ o) (ht : 1 ≤ t) (ho9 : o ≤ 1000000000) (ht9 : t ≤ 1000000000) :
    run T (k + 1) i_across_square [.v (.int o), .v (.int t), .v (.int d)] = .ok (.int (acr o t d), false) .non := by
  have b1 : Bits o 31 := ⟨by omega⟩
  have b2 : Bits t 31 := ⟨by omega⟩
  rw [run_succ]
  by_cases h : d = 120 <;> simp [f_across_square, argsOk, acr, h]
theorem r_place_with [H_place_with T] {k : Nat} {a b c d : Int} (h : Tri a b c) : run T (k + 2) i_place_with [.v (.tup [.int a, .int b, .int c]), .v (.int d)] = .ok (plc a b c d, false) .non := by
  obtain ⟨b1, b2, b3⟩ := tri_bits h
  obtain ⟨h1, h2, h3, h4, h5⟩ := h
  have hr : rng 0 3 = [0, 1, 2] := by decide
  have hg : rgOk 3 = true := by decide
  have e0 := r_across_square (T := T) (k := k) (o := b) (t := c) (d := d) (by omega) (by omega) (by omega) (by omega)
  have e1 := r_across_square (T := T) (k := k) (o := a) (t := c) (d := d) (by omega) (by omega) (by omega) (by omega)
  have e2 := r_across_square (T := T) (k := k) (o := a) (t := b) (d := d) (by omega) (by omega) (by omega) (by omega)
  rw [run_succ]
  by_cases c0 : acr b c d = a * a
  · simp [f_place_with, argsOk, hr, hg, forS, enumE, turns, line, e0, c0, plc]
  · by_cases c1 : acr a c d = b * b
    · simp [f_place_with, argsOk, hr, hg, forS, enumE, turns, line, e0, e1, c0, c1, plc]
    · by_cases c2 : acr a b d = c * c
      · simp [f_place_with, argsOk, hr, hg, forS, enumE, turns, line, e0, e1, e2, c0, c1, c2, plc]
      · simp [f_place_with, argsOk, hr, hg, forS, enumE, turns, line, e0, e1, e2, c0, c1, c2, plc]
theorem r_need_degrees [H_need_degrees T] {k : Nat} {d : Int} (hd : d = 60 ∨ d = 120) : run T (k + 3) i_need_degrees [.v (.int d)] = .ok (.non, false) .non := by
  rw [run_succ]
  rcases hd with rfl | rfl <;> simp [f_need_degrees, argsOk, inn, seq, D.eqv]
theorem r_degrees_place [H_degrees_place T] {k : Nat} {a b c d : Int} (h : Tri a b c) (hd : d = 60 ∨ d = 120) : run T (k + 6) i_degrees_place [.v (.tup [.int a, .int b, .int c]), .v (.int d)] = .ok (plc a b c d, false) .non := by
  have e := r_need_degrees (T := T) (k := k + 2) hd
  rw [run_succ]
  simp [f_degrees_place, argsOk, h, e, r_place_with (T := T) (k := k + 3) h]
/-! the law's own place -/
theorem frac_eq {A B C D : Int} (hB : 0 < B) (hD : 0 < D) : (A : Rat) / (B : Rat) = (C : Rat) / (D : Rat) ↔ A * D = C * B := by
  have h1 := rat_ne (show B ≠ 0 by omega)
  have h2 := rat_ne (show D ≠ 0 by omega)
  constructor
  · intro h
    have : ((A * D : Int) : Rat) = ((C * B : Int) : Rat) := by
      simp only [Rat.intCast_mul]
      generalize (A : Rat) = x at *
      generalize (B : Rat) = y at *
      generalize (C : Rat) = z at *
      generalize (D : Rat) = w at *
      grind
    exact Rat.intCast_inj.mp this
  · intro h
    have : ((A * D : Int) : Rat) = ((C * B : Int) : Rat) := by rw [h]
    simp only [Rat.intCast_mul] at this
    generalize (A : Rat) = x at *
    generalize (B : Rat) = y at *
    generalize (C : Rat) = z at *
    generalize (D : Rat) = w at *
    grind
theorem half_num : (((1 : Int) : Rat) / ((2 : Int) : Rat)).num = 1 ∧ ((((1 : Int) : Rat) / ((2 : Int) : Rat)).den : Int) = 2 := by
  obtain ⟨e1, e2⟩ := low_rat (a := 1) (b := 2) (by omega)
  exact ⟨e1.symm.trans (by decide), e2.symm.trans (by decide)⟩
theorem mhalf_num : (((-1 : Int) : Rat) / ((2 : Int) : Rat)).num = -1 ∧ ((((-1 : Int) : Rat) / ((2 : Int) : Rat)).den : Int) = 2 := by
  obtain ⟨e1, e2⟩ := low_rat (a := -1) (b := 2) (by omega)
  exact ⟨e1.symm.trans (by decide), e2.symm.trans (by decide)⟩
theorem op_half {s o t : Int} (ho : 1 ≤ o) (ht : 1 ≤ t) : (opq s o t = ((1 : Int) : Rat) / ((2 : Int) : Rat) ↔ acr o t 60 = s * s) ∧ (opq s o t = ((-1 : Int) : Rat) / ((2 : Int) : Rat) ↔ acr o t 120 = s * s) := by
  have p := Int.mul_pos (show 0 < o by omega) (show 0 < t by omega)
  have d : 0 < 2 * o * t := by rw [Int.mul_assoc]; omega
  unfold opq
  rw [frac_eq d (by omega), frac_eq d (by omega)]
  unfold acr
  rw [if_neg (by omega), if_pos rfl, Int.mul_assoc, Int.neg_mul]
  constructor <;> constructor <;> intro h <;> omega
def dueD (d : Int) : Rat := if d = 60 then ((1 : Int) : Rat) / ((2 : Int) : Rat) else ((-1 : Int) : Rat) / ((2 : Int) : Rat)
theorem dueD_ok {d s o t : Int} (hd : d = 60 ∨ d = 120) (ho : 1 ≤ o) (ht : 1 ≤ t) : opq s o t = dueD d ↔ acr o t d = s * s := by
  obtain ⟨h1, h2⟩ := op_half (s := s) ho ht
  rcases hd with rfl | rfl
  · exact h1
  · exact h2
theorem r__law_place_28 [H__law_place T] {k : Nat} {a b c d : Int} (h : Tri a b c) (hd : d = 60 ∨ d = 120) : run T (k + 5) i__law_place [.v (.tup [.int a, .int b, .int c]), .v (.int d)] = .ok (plc a b c d, false) .non := by
  have e0 := r__law_opening (T := T) (k := k) h (i := 0) (by omega) (by omega)
  have e1 := r__law_opening (T := T) (k := k) h (i := 1) (by omega) (by omega)
  have e2 := r__law_opening (T := T) (k := k) h (i := 2) (by omega) (by omega)
  have k0 : opI a b c 0 = dueD d ↔ acr b c d = a * a := by obtain ⟨h1, h2, h3, h4, h5⟩ := h; exact dueD_ok (s := a) (o := b) (t := c) hd (by omega) (by omega)
  have k1 : opI a b c 1 = dueD d ↔ acr a c d = b * b := by obtain ⟨h1, h2, h3, h4, h5⟩ := h; exact dueD_ok (s := b) (o := a) (t := c) hd (by omega) (by omega)
  have k2 : opI a b c 2 = dueD d ↔ acr a b d = c * c := by obtain ⟨h1, h2, h3, h4, h5⟩ := h; exact dueD_ok (s := c) (o := a) (t := b) hd (by omega) (by omega)
  have hr : rng 0 3 = [0, 1, 2] := by decide
  have hg : rgOk 3 = true := by decide
  have q0 := eqG_fr (x := opI a b c 0) (y := dueD d)
  have q1 := eqG_fr (x := opI a b c 1) (y := dueD d)
  have q2 := eqG_fr (x := opI a b c 2) (y := dueD d)
  have ne1 : ∀ x : D, ∀ l, D.fits 4 (x :: l) = true → eqG (.lst (x :: l)) (.lst []) = some false := fun x l hl => eqG_lnil (n := 4) hl (by omega)
  rw [run_succ]
  have hdd : (dueD d).num = (if d = 60 then 1 else -1) ∧ ((dueD d).den : Int) = 2 := by
    rcases hd with rfl | rfl
    · exact half_num
    · exact mhalf_num
  rw [hdd.1, hdd.2] at q0 q1 q2
  generalize opI a b c 0 = x0 at *
  generalize opI a b c 1 = x1 at *
  generalize opI a b c 2 = x2 at *
  generalize dueD d = y at *
  unfold plc
  rcases hd with rfl | rfl
  · rw [if_pos rfl] at q0 q1 q2
    by_cases c0 : x0 = y <;> by_cases c1 : x1 = y <;> by_cases c2 : x2 = y <;>
    (have w0 := c0; have w1 := c1; have w2 := c2
     rw [k0] at w0; rw [k1] at w1; rw [k2] at w2
     first | rw [decide_eq_true c0] at q0 | rw [decide_eq_false c0] at q0
     first | rw [decide_eq_true c1] at q1 | rw [decide_eq_false c1] at q1
     first | rw [decide_eq_true c2] at q2 | rw [decide_eq_false c2] at q2
     simp only [w0, w1, w2, if_true, if_false]
     simp [f__law_place, argsOk, hr, hg, turns, line, e0, e1, e2, q0, q1, q2, ne1])
  · rw [if_neg (by omega)] at q0 q1 q2
    by_cases c0 : x0 = y <;> by_cases c1 : x1 = y <;> by_cases c2 : x2 = y <;>
    (have w0 := c0; have w1 := c1; have w2 := c2
     rw [k0] at w0; rw [k1] at w1; rw [k2] at w2
     first | rw [decide_eq_true c0] at q0 | rw [decide_eq_false c0] at q0
     first | rw [decide_eq_true c1] at q1 | rw [decide_eq_false c1] at q1
     first | rw [decide_eq_true c2] at q2 | rw [decide_eq_false c2] at q2
     simp only [w0, w1, w2, if_true, if_false]
     simp [f__law_place, argsOk, hr, hg, turns, line, e0, e1, e2, q0, q1, q2, ne1])
/-! ### sides across -/
noncomputable def acd (o t d : Int) : D := if Sq (acr o t d) ∧ acr o t d ≤ 1000000000000000000 then .int (rt (acr o t d)) else .non
theorem acr_bits {o t d : Int} (ho : 1 ≤ o) (ht : 1 ≤ t) (ho9 : o ≤ 1000000000) (ht9 : t ≤ 1000000000) : Bits (acr o t d) 64 ∧ 0 ≤ acr o t d := by
  have h1 := sq_le (show 0 ≤ o by omega) ho9
  have h2 := sq_le (show 0 ≤ t by omega) ht9
  have h4 : 1 * 1 ≤ o * t := Int.mul_le_mul ho ht (by omega) (by omega)
  have h5 : o * t ≤ 1000000000 * 1000000000 := Int.mul_le_mul ho9 ht9 (by omega) (by omega)
  have n2 := Int.mul_nonneg (show 0 ≤ o by omega) (show 0 ≤ o by omega)
  have n3 := Int.mul_nonneg (show 0 ≤ t by omega) (show 0 ≤ t by omega)
  have k : 0 ≤ (o - t) * (o - t) := by
    by_cases w : 0 ≤ o - t
    · exact Int.mul_nonneg w w
    · have := Int.mul_nonneg (show 0 ≤ t - o by omega) (show 0 ≤ t - o by omega)
      rwa [show (o - t) * (o - t) = (t - o) * (t - o) by grind]
  have e : (o - t) * (o - t) = o * o + t * t - 2 * (o * t) := by grind
  unfold acr
  rw [Int.neg_mul]
  split
  · exact ⟨⟨by omega⟩, by omega⟩
  · exact ⟨⟨by omega⟩, by omega⟩
theorem r_side_across [H_side_across T] {k : Nat} {o t d : Int} (ho : 1 ≤ o) (ht : 1 ≤ t) (ho9 : o ≤ 1000000000) (ht9 : t ≤ 1000000000) (hd : d = 60 ∨ d = 120) :
    run T (k + 5) i_side_across [.v (.int o), .v (.int t), .v (.int d)] = .ok (acd o t d, false) .non := by
  have e1 := r_across_square (T := T) (k := k + 3) (d := d) ho ht ho9 ht9
  have e2 := r_need_degrees (T := T) (k := k + 1) hd
  have bb := (acr_bits (d := d) ho ht ho9 ht9).1
  have e3 := r_is_square_in (T := T) (k := k + 2) (n := acr o t d) (by omega)
  have e4 := r_root_in (T := T) (k := k + 3) (n := acr o t d) (by omega)
  rw [run_succ]
  unfold acd
  generalize acr o t d = n at *
  by_cases c1 : Sq n
  · by_cases c2 : n ≤ 1000000000000000000 <;> simp [f_side_across, argsOk, ho, ht, ho9, ht9, e1, e2, e3, e4, mulOk_l, c1, c2]
  · simp [f_side_across, argsOk, ho, ht, ho9, ht9, e1, e2, e3, e4, mulOk_l, c1]
theorem r__law_across [H__law_across T] {k : Nat} {o t d : Int} (ho : 1 ≤ o) (ht : 1 ≤ t) (ho9 : o ≤ 1000000000) (ht9 : t ≤ 1000000000) :
    run T (k + 2) i__law_across [.v (.int o), .v (.int t), .v (.int d)] = .ok (acd o t d, false) .non := by
  have hp9 : powOk 10 9 = true := by decide
  have b1 : Bits o 31 := ⟨by omega⟩
  have b2 : Bits t 31 := ⟨by omega⟩
  obtain ⟨bb, h0⟩ := acr_bits (d := d) ho ht ho9 ht9
  have e4 := r__law_root (T := T) (k := k) (n := acr o t d) (by omega)
  have ea : (if d = 120 then o * o + t * t + o * t else o * o + t * t + (0 - o * t)) = acr o t d := by
    unfold acr
    rw [Int.neg_mul]
    split <;> omega
  have hs : Sq (acr o t d) ↔ rt (acr o t d) * rt (acr o t d) = acr o t d := ⟨fun q => q.2, fun q => ⟨h0, q⟩⟩
  have hr := rt_nonneg (acr o t d)
  have hm : mulOk (rt (acr o t d)) (rt (acr o t d)) = true := mulOk_bd (by omega)
  rw [run_succ]
  unfold acd
  simp only [hs]
  have hle : rt (acr o t d) * rt (acr o t d) = acr o t d → (rt (acr o t d) ≤ 1000000000 ↔ acr o t d ≤ 1000000000000000000) := fun q => by
    constructor
    · intro w
      have := sq_le hr w
      omega
    · intro w
      refine Classical.byContradiction fun z => ?_
      have := sq_lt (show (0 : Int) ≤ 1000000000 by omega) (show 1000000000 < rt (acr o t d) by omega)
      omega
  by_cases cd : d = 120
  · rw [if_pos cd] at ea
    generalize acr o t d = n at *
    generalize rt n = m at *
    by_cases c1 : m * m = n
    · have hle := hle c1
      by_cases c2 : m ≤ 1000000000
      · have c3 := hle.mp c2
        simp [f__law_across, argsOk, cd, ea, e4, hm, c1, c2, c3, hp9]
      · have c3 : ¬ n ≤ 1000000000000000000 := fun w => c2 (hle.mpr w)
        simp [f__law_across, argsOk, cd, ea, e4, hm, c1, c2, c3, hp9]
    · simp [f__law_across, argsOk, cd, ea, e4, hm, c1, hp9]
  · rw [if_neg cd, Int.zero_sub] at ea
    generalize acr o t d = n at *
    generalize rt n = m at *
    by_cases c1 : m * m = n
    · have hle := hle c1
      by_cases c2 : m ≤ 1000000000
      · have c3 := hle.mp c2
        simp [f__law_across, argsOk, cd, ea, e4, hm, c1, c2, c3, hp9]
      · have c3 : ¬ n ≤ 1000000000000000000 := fun w => c2 (hle.mpr w)
        simp [f__law_across, argsOk, cd, ea, e4, hm, c1, c2, c3, hp9]
    · simp [f__law_across, argsOk, cd, ea, e4, hm, c1, hp9]
/-! ### blunt ones and the two that come of each -/
structure Blunt (a b c : Int) : Prop where
  a1 : 1 ≤ a
  ab : a ≤ b
  c1 : 1 ≤ c
  eq : a * a + b * b + a * b = c * c
theorem Blunt.lt {a b c : Int} (h : Blunt a b c) : b < c ∧ c < a + b := by
  obtain ⟨h1, h2, h3, h4⟩ := h
  have p := Int.mul_pos (show 0 < a by omega) (show 0 < b by omega)
  have p2 := Int.mul_pos (show 0 < a by omega) (show 0 < a by omega)
  constructor
  · refine Classical.byContradiction fun w => ?_
    have := sq_le (show 0 ≤ c by omega) (show c ≤ b by omega)
    omega
  · refine Classical.byContradiction fun w => ?_
    have := sq_le (show 0 ≤ a + b by omega) (show a + b ≤ c by omega)
    have e : (a + b) * (a + b) = a * a + b * b + 2 * (a * b) := by grind
    omega
theorem Blunt.tri {a b c : Int} (h : Blunt a b c) (h9 : c ≤ 1000000000) : Tri a b c := by
  obtain ⟨l1, l2⟩ := h.lt
  exact ⟨h.a1, h.ab, by omega, l2, h9⟩
theorem Blunt.times {a b c n : Int} (h : Blunt a b c) (hn : 1 ≤ n) : Blunt (n * a) (n * b) (n * c) := by
  obtain ⟨h1, h2, h3, h4⟩ := h
  have p1 := Int.mul_pos (show 0 < n by omega) (show 0 < a by omega)
  have p3 := Int.mul_pos (show 0 < n by omega) (show 0 < c by omega)
  refine ⟨by omega, Int.mul_le_mul_of_nonneg_left h2 (by omega), by omega, ?_⟩
  have : (n * a) * (n * a) + (n * b) * (n * b) + (n * a) * (n * b) = n * n * (a * a + b * b + a * b) := by grind
  rw [this, h4]
  grind
theorem Blunt.place {a b c : Int} (h : Blunt a b c) : plc a b c 120 = .int 2 := by
  obtain ⟨l1, l2⟩ := h.lt
  obtain ⟨h1, h2, h3, h4⟩ := h
  have p := Int.mul_pos (show 0 < a by omega) (show 0 < b by omega)
  have p2 := Int.mul_pos (show 0 < a by omega) (show 0 < c by omega)
  have p3 := Int.mul_pos (show 0 < b by omega) (show 0 < c by omega)
  have q1 := sq_le (show 0 ≤ a by omega) h2
  have q2 := sq_lt (show 0 ≤ b by omega) l1
  have q3 := Int.mul_pos (show 0 < a by omega) (show 0 < a by omega)
  unfold plc acr
  simp only [if_true]
  rw [if_neg (by omega), if_neg (by omega), if_pos (by omega)]
/-- a triangle with 60 degrees that comes of a blunt one -/
theorem Blunt.own {a b c x : Int} (h : Blunt a b c) (hx : x = a ∨ x = b) : 1 ≤ x ∧ x < c ∧ c < a + b ∧ plc x c (a + b) 60 = .int 1 ∧ plc x c (a + b) 120 = .non := by
  obtain ⟨l1, l2⟩ := h.lt
  obtain ⟨h1, h2, h3, h4⟩ := h
  have hx1 : 1 ≤ x := by omega
  have hxc : x < c := by omega
  have p0 := Int.mul_pos (show 0 < a by omega) (show 0 < b by omega)
  have e1 : acr x (a + b) 60 = c * c := by
    unfold acr
    rw [if_neg (by omega), ← h4]
    rcases hx with rfl | rfl <;> grind
  have px := Int.mul_pos (show 0 < x by omega) (show 0 < c by omega)
  have ps := Int.mul_pos (show 0 < x by omega) (show 0 < a + b by omega)
  have pc := Int.mul_pos (show 0 < c by omega) (show 0 < a + b by omega)
  have qx := sq_lt (show 0 ≤ x by omega) hxc
  have qc := sq_lt (show 0 ≤ c by omega) l2
  have q3 := Int.mul_pos (show 0 < x by omega) (show 0 < x by omega)
  refine ⟨hx1, hxc, l2, ?_, ?_⟩
  · have e0 : ¬ acr c (a + b) 60 = x * x := by
      intro w
      unfold acr at e1 w
      rw [if_neg (by omega)] at e1 w
      have k : (c - x) * (2 * (c + x) - (a + b)) = 0 := by grind
      rcases Int.mul_eq_zero.mp k with z | z
      · omega
      · have : 2 * (c + x) = a + b := by omega
        rcases hx with rfl | rfl <;> omega
    unfold plc
    rw [if_neg e0, if_pos e1]
  · have n0 : ¬ acr c (a + b) 120 = x * x := by unfold acr; rw [if_pos rfl]; omega
    have n1 : ¬ acr x (a + b) 120 = c * c := by unfold acr; rw [if_pos rfl]; omega
    have n2 : ¬ acr x c 120 = (a + b) * (a + b) := by
      unfold acr
      rw [if_pos rfl, ← h4]
      intro w
      have e : (a + b) * (a + b) = a * a + b * b + 2 * (a * b) := by grind
      rcases hx with rfl | rfl
      · have k : x * (c + x - b) = 0 := by grind
        rcases Int.mul_eq_zero.mp k with z | z <;> omega
      · have k : x * (c + x - a) = 0 := by grind
        rcases Int.mul_eq_zero.mp k with z | z <;> omega
    unfold plc
    rw [if_neg n0, if_neg n1, if_neg n2]
theorem sort_own {x c s : Int} (h1 : x < c) (h2 : c < s) : sort3 x s c = [x, c, s] := by
  unfold sort3
  rw [if_pos (by omega), if_neg (by omega), if_pos (by omega)]
theorem sort2_rows {a b c s c' s' : Int} (h : a < b ∨ (a = b ∧ c = c' ∧ s = s')) : sortD [.tup [.int a, .int c, .int s], .tup [.int b, .int c', .int s']] = some [.tup [.int a, .int c, .int s], .tup [.int b, .int c', .int s']] := by
  have e : lexLt [b, c', s'] [a, c, s] = false := by
    unfold lexLt
    rcases h with h | ⟨rfl, rfl, rfl⟩
    · rw [if_neg (by omega)]; simp; omega
    · simp [lexLt]
  simp [sortD, intsD, rows, sortR, insR, e]
theorem r_joined_in [H_joined_in T] {k : Nat} {a b c : Int} (h : Blunt a b c) : run T (k + 1) i_joined_in [.v (.tup [.int a, .int b, .int c])] = .ok (.lst [.tup [.int a, .int c, .int (a + b)], .tup [.int b, .int c, .int (a + b)]], true) .non := by
  obtain ⟨l1, l2⟩ := h.lt
  have s1 := sort_own (x := a) (c := c) (s := a + b) (by have := h.ab; omega) l2
  have s2 := sort_own (x := b) (c := c) (s := a + b) l1 l2
  have s3 := sort2_rows (a := a) (b := b) (c := c) (s := a + b) (c' := c) (s' := a + b) (by have := h.ab; omega)
  rw [run_succ]
  simp [f_joined_in, argsOk, turns, line, sort3_d, s1, s2, s3]
theorem r_joined_sixties [H_joined_sixties T] {k : Nat} {a b c : Int} (h : Blunt a b c) (h9 : a + b ≤ 1000000000) : run T (k + 6) i_joined_sixties [.v (.tup [.int a, .int b, .int c])] = .ok (.tup [.tup [.int a, .int c, .int (a + b)], .tup [.int b, .int c, .int (a + b)]], false) .non := by
  obtain ⟨l1, l2⟩ := h.lt
  have t := h.tri (by omega)
  have e1 := r_place_with (T := T) (k := k + 3) (d := 120) t
  have e2 := r_joined_in (T := T) (k := k + 4) h
  rw [h.place] at e1
  have : ¬ 1000000000 < a + b := by omega
  rw [run_succ]
  simp [f_joined_sixties, argsOk, t, e1, e2, this]
theorem sort_back {a b c x : Int} (h : Blunt a b c) (hx : x = a ∨ x = b) : sort3 (a + b - x) x c = [a, b, c] := by
  obtain ⟨l1, l2⟩ := h.lt
  have := h.ab
  rcases hx with rfl | rfl
  · rw [show x + b - x = b by omega]
    unfold sort3
    by_cases e : b = x
    · subst e
      rw [if_pos (by omega), if_pos (by omega)]
    · rw [if_neg (by omega), if_pos (by omega)]
  · rw [show a + x - x = a by omega]
    unfold sort3
    rw [if_pos (by omega), if_pos (by omega)]
theorem r_parted_sixty [H_parted_sixty T] {k : Nat} {a b c x : Int} (h : Blunt a b c) (hx : x = a ∨ x = b) (h9 : a + b ≤ 1000000000) : run T (k + 6) i_parted_sixty [.v (.tup [.int x, .int c, .int (a + b)])] = .ok (.tup [.int a, .int b, .int c], false) .non := by
  obtain ⟨o1, o2, o3, o4, o5⟩ := h.own hx
  have t : Tri x c (a + b) := ⟨o1, by omega, by omega, by have := h.lt; have := h.a1; have := h.ab; omega, h9⟩
  have e1 := r_place_with (T := T) (k := k + 3) (d := 60) t
  rw [o4] at e1
  have ne : ¬ x = a + b := by omega
  have s := sort_back h hx
  rw [run_succ]
  simp [f_parted_sixty, argsOk, t, e1, ne, enumE, turns, line, sort3_d, s]
/-! ### plain ones -/
def g3 (a b c : Int) : Int := gc (gc a b) c
theorem dvd_g3 {d a b c : Int} : d ∣ g3 a b c ↔ d ∣ a ∧ d ∣ b ∧ d ∣ c := by
  unfold g3 gc
  constructor
  · intro h
    have h1 : d ∣ ((Int.gcd a b : Nat) : Int) := Int.dvd_trans h (Int.gcd_dvd_left ..)
    exact ⟨Int.dvd_trans h1 (Int.gcd_dvd_left ..), Int.dvd_trans h1 (Int.gcd_dvd_right ..), Int.dvd_trans h (Int.gcd_dvd_right ..)⟩
  · rintro ⟨h1, h2, h3⟩
    exact Int.dvd_coe_gcd (Int.dvd_coe_gcd h1 h2) h3
theorem g3_nonneg (a b c : Int) : 0 ≤ g3 a b c := Int.natCast_nonneg _
theorem g3_ext {a b c a' b' c' : Int} (h : ∀ d, (d ∣ a ∧ d ∣ b ∧ d ∣ c) ↔ (d ∣ a' ∧ d ∣ b' ∧ d ∣ c')) : g3 a b c = g3 a' b' c' := by
  refine Int.dvd_antisymm (g3_nonneg _ _ _) (g3_nonneg _ _ _) ?_ ?_
  · exact dvd_g3.mpr ((h _).mp (dvd_g3.mp (Int.dvd_refl _)))
  · exact dvd_g3.mpr ((h _).mpr (dvd_g3.mp (Int.dvd_refl _)))
theorem g3_pos {a b c : Int} (h : c ≠ 0) : 0 < g3 a b c := gc_pos h
theorem g3_own {u v c x : Int} (hx : x = u ∨ x = v) : g3 x c (u + v) = g3 u v c := by
  refine g3_ext fun d => ?_
  rcases hx with rfl | rfl
  · constructor
    · rintro ⟨h1, h2, h3⟩
      exact ⟨h1, by have := Int.dvd_sub h3 h1; rwa [show x + v - x = v by omega] at this, h2⟩
    · rintro ⟨h1, h2, h3⟩
      exact ⟨h1, h3, Int.dvd_add h1 h2⟩
  · constructor
    · rintro ⟨h1, h2, h3⟩
      exact ⟨by have := Int.dvd_sub h3 h1; rwa [show u + x - x = u by omega] at this, h1, h2⟩
    · rintro ⟨h1, h2, h3⟩
      exact ⟨h2, h3, Int.dvd_add h1 h2⟩
theorem g3_div {a b c : Int} (hc : c ≠ 0) : g3 (a / g3 a b c) (b / g3 a b c) (c / g3 a b c) = 1 := by
  have hg := g3_pos (a := a) (b := b) hc
  obtain ⟨⟨x, hx⟩, ⟨y, hy⟩, ⟨z, hz⟩⟩ := dvd_g3.mp (Int.dvd_refl (g3 a b c))
  generalize hG : g3 a b c = g at *
  have q1 : a / g = x := by rw [hx]; exact Int.mul_ediv_cancel_left _ (by omega)
  have q2 : b / g = y := by rw [hy]; exact Int.mul_ediv_cancel_left _ (by omega)
  have q3 : c / g = z := by rw [hz]; exact Int.mul_ediv_cancel_left _ (by omega)
  rw [q1, q2, q3]
  obtain ⟨⟨x', hx'⟩, ⟨y', hy'⟩, ⟨z', hz'⟩⟩ := dvd_g3.mp (Int.dvd_refl (g3 x y z))
  have hz0 : z ≠ 0 := fun w => by rw [w] at hz; omega
  have hd := g3_pos (a := x) (b := y) hz0
  generalize g3 x y z = d at *
  have : g * d ∣ g := by
    have := dvd_g3.mpr (show g * d ∣ a ∧ g * d ∣ b ∧ g * d ∣ c from ⟨⟨x', by rw [hx, hx']; grind⟩, ⟨y', by rw [hy, hy']; grind⟩, ⟨z', by rw [hz, hz']; grind⟩⟩)
    rwa [hG] at this
  obtain ⟨w, hw⟩ := this
  have k : g * (d * w) = g * 1 := by rw [Int.mul_one, ← Int.mul_assoc]; exact hw.symm
  have := Int.eq_of_mul_eq_mul_left (by omega) k
  have := Int.eq_one_of_mul_eq_one_right (by omega) this
  exact this
section
variable {k : Nat} {a b c : Int} (ha : 1 ≤ a) (hb : 1 ≤ b) (hc : 1 ≤ c) (h9 : c ≤ 1000000000)
include ha hb hc h9
theorem r_plain_in [H_plain_in T] : run T (k + 3) i_plain_in [.v (.tup [.int a, .int b, .int c])] = .ok (.tup [.int (a / g3 a b c), .int (b / g3 a b c), .int (c / g3 a b c)], false) .non := by
  have hg := g3_pos (a := a) (b := b) (show c ≠ 0 by omega)
  have bc : Bits c 31 := ⟨by omega⟩
  have bg : Bits (g3 a b c) 31 := ⟨gc_bits (by omega) bc.lt⟩
  have dv : divOk (g3 a b c) = true := divOk_bd (by omega) (by omega)
  have f : ∀ x : Int, x.fdiv (g3 a b c) = x / g3 a b c := fun x => Int.fdiv_eq_ediv_of_nonneg _ (by omega)
  have e : run T (k + 2) i_part_in [.v (.tup [.int a, .int b, .int c])] = .ok (.int (g3 a b c), false) .non := by
    rw [run_succ]
    simp [f_part_in, argsOk, g3]
  rw [run_succ]
  simp [f_plain_in, argsOk, e, turns, line, dv, f]
theorem r__law_plain_28 [H__law_plain_28 T] : run T (k + 3) i__law_plain [.v (.tup [.int a, .int b, .int c])] = .ok (.tup [.int (a / g3 a b c), .int (b / g3 a b c), .int (c / g3 a b c)], false) .non := by
  have hg := g3_pos (a := a) (b := b) (show c ≠ 0 by omega)
  have bc : Bits c 31 := ⟨by omega⟩
  have bg : Bits (g3 a b c) 31 := ⟨gc_bits (by omega) bc.lt⟩
  have dv : divOk (g3 a b c) = true := divOk_bd (by omega) (by omega)
  have f : ∀ x : Int, x.fdiv (g3 a b c) = x / g3 a b c := fun x => Int.fdiv_eq_ediv_of_nonneg _ (by omega)
  have e : run T (k + 2) i__law_part [.v (.tup [.int a, .int b, .int c])] = .ok (.int (g3 a b c), false) .non := by
    rw [run_succ]
    simp [f__law_part, argsOk, g3]
  rw [run_succ]
  simp [f__law_plain_28, argsOk, e, turns, line, dv, f]
end
/-- the triangle of two integers -/
theorem two_blunt {e v : Int} (he : 1 ≤ e) (hv : e < v) (h4 : v ≤ 10000) : ∃ a b c, sort3 (v * v - e * e) (2 * v * e + e * e) (v * v + v * e + e * e) = [a, b, c] ∧ c = v * v + v * e + e * e ∧ Blunt a b c ∧ c ≤ 300000000 ∧ a + b ≤ 300000000 := by
  have p1 := sq_lt (show 0 ≤ e by omega) hv
  have p2 := sq_le (show 0 ≤ v by omega) h4
  have p3 := Int.mul_pos (show 0 < v by omega) (show 0 < e by omega)
  have p4 := Int.mul_pos (show 0 < e by omega) (show 0 < e by omega)
  have p5 : v * e ≤ 10000 * 10000 := Int.mul_le_mul h4 (by omega) (by omega) (by omega)
  have k1 : 2 * v * e = 2 * (v * e) := by rw [Int.mul_assoc]
  have p6 : v * e < v * v := Int.mul_lt_mul_of_pos_left hv (by omega)
  obtain ⟨A, hA⟩ : ∃ A, A = v * v - e * e := ⟨_, rfl⟩
  obtain ⟨B, hB⟩ : ∃ B, B = 2 * v * e + e * e := ⟨_, rfl⟩
  obtain ⟨C, hC⟩ : ∃ C, C = v * v + v * e + e * e := ⟨_, rfl⟩
  rw [← hA, ← hB, ← hC]
  have e1 : A * A + B * B + A * B = C * C := by rw [hA, hB, hC]; grind
  have e2 : A < C ∧ B < C ∧ 1 ≤ A ∧ 1 ≤ B ∧ 1 ≤ C := by omega
  by_cases w : A ≤ B
  · refine ⟨A, B, C, ?_, rfl, ⟨by omega, w, by omega, e1⟩, by omega, by omega⟩
    unfold sort3
    rw [if_pos w, if_pos (by omega)]
  · refine ⟨B, A, C, ?_, rfl, ⟨by omega, by omega, by omega, by rw [← e1]; grind⟩, by omega, by omega⟩
    unfold sort3
    rw [if_neg w, if_pos (by omega)]
theorem pos_of_mulL {g x : Int} (hg : 0 < g) (h : 1 ≤ g * x) : 1 ≤ x := by
  refine Classical.byContradiction fun w => ?_
  have := Int.mul_nonneg (show 0 ≤ g by omega) (show 0 ≤ -x by omega)
  rw [Int.mul_neg] at this
  omega
theorem Blunt.plain {a b c : Int} (h : Blunt a b c) : Blunt (a / g3 a b c) (b / g3 a b c) (c / g3 a b c) ∧ (a + b) / g3 a b c = a / g3 a b c + b / g3 a b c ∧ a / g3 a b c + b / g3 a b c ≤ a + b := by
  obtain ⟨l1, l2⟩ := h.lt
  obtain ⟨h1, h2, h3, h4⟩ := h
  have hg := g3_pos (a := a) (b := b) (show c ≠ 0 by omega)
  obtain ⟨⟨x, hx⟩, ⟨y, hy⟩, ⟨z, hz⟩⟩ := dvd_g3.mp (Int.dvd_refl (g3 a b c))
  generalize g3 a b c = g at *
  have q1 : a / g = x := by rw [hx]; exact Int.mul_ediv_cancel_left _ (by omega)
  have q2 : b / g = y := by rw [hy]; exact Int.mul_ediv_cancel_left _ (by omega)
  have q3 : c / g = z := by rw [hz]; exact Int.mul_ediv_cancel_left _ (by omega)
  have q4 : (a + b) / g = x + y := by rw [hx, hy, ← Int.mul_add]; exact Int.mul_ediv_cancel_left _ (by omega)
  have px : 1 ≤ x := pos_of_mulL (by omega) (by rw [← hx]; omega)
  have py : 1 ≤ y := pos_of_mulL (by omega) (by rw [← hy]; omega)
  have pz : 1 ≤ z := pos_of_mulL (by omega) (by rw [← hz]; omega)
  have gx : x ≤ g * x := by have := Int.mul_nonneg (show 0 ≤ g - 1 by omega) (show 0 ≤ x by omega); rw [Int.sub_mul] at this; omega
  have gy : y ≤ g * y := by have := Int.mul_nonneg (show 0 ≤ g - 1 by omega) (show 0 ≤ y by omega); rw [Int.sub_mul] at this; omega
  rw [q1, q2, q3, q4]
  refine ⟨⟨px, ?_, pz, ?_⟩, rfl, by omega⟩
  · refine Classical.byContradiction fun w => ?_
    have := Int.mul_pos (show 0 < g by omega) (show 0 < x - y by omega)
    rw [Int.mul_sub] at this
    omega
  · have k : (g * g) * (x * x + y * y + x * y) = (g * g) * (z * z) := by
      have : a * a + b * b + a * b = c * c := h4
      rw [hx, hy, hz] at this
      grind
    exact Int.eq_of_mul_eq_mul_left (by have := Int.mul_pos hg hg; omega) k
theorem r_by_numbers [H_by_numbers T] {k : Nat} {e v a b c : Int} (he : 1 ≤ e) (hv : e < v) (h4 : v ≤ 10000) (hs : sort3 (v * v - e * e) (2 * v * e + e * e) (v * v + v * e + e * e) = [a, b, c]) (hb : Blunt a b c) (h9 : c ≤ 300000000) :
    run T (k + 4) i_by_numbers [.v (.int e), .v (.int v)] = .ok (.tup [.int (a / g3 a b c), .int (b / g3 a b c), .int (c / g3 a b c)], false) .non := by
  have b1 : Bits e 14 := ⟨by omega⟩
  have b2 : Bits v 14 := ⟨by omega⟩
  have m1 : mulOk (2 * v) e = true := mulOk_r (by omega)
  have := hb.ab
  have := hb.a1
  have e1 := r_plain_in (T := T) (k := k) (a := a) (b := b) (c := c) (by omega) (by omega) hb.c1 (by omega)
  rw [run_succ]
  simp [f_by_numbers, argsOk, mulOk_l, m1, sort3_d, hs, e1]
theorem r_by_two_120 [H_by_two T] {k : Nat} {e v a b c : Int} (he : 1 ≤ e) (hv : e < v) (h4 : v ≤ 10000) (hs : sort3 (v * v - e * e) (2 * v * e + e * e) (v * v + v * e + e * e) = [a, b, c]) (hb : Blunt a b c) (h9 : c ≤ 300000000) :
    run T (k + 5) i_by_two [.v (.int e), .v (.int v), .v (.int 120)] = .ok (.tup [.tup [.int (a / g3 a b c), .int (b / g3 a b c), .int (c / g3 a b c)]], false) .non := by
  have e1 := r_by_numbers (T := T) (k := k) he hv h4 hs hb h9
  have e2 := r_need_degrees (T := T) (k := k + 1) (d := 120) (.inr rfl)
  have n1 := r_need_whole (T := T) (k := k + 1) (a := e) (lo := 1) (hi := 10000) he (by omega)
  have n2 := r_need_whole (T := T) (k := k + 1) (a := v) (lo := 1) (hi := 10000) (by omega) h4
  have n3 : ¬ v ≤ e := by omega
  rw [run_succ]
  simp [f_by_two, argsOk, e1, e2, n1, n2, n3]
theorem r_by_two_60 [H_by_two T] {k : Nat} {e v a b c : Int} (he : 1 ≤ e) (hv : e < v) (h4 : v ≤ 10000) (hs : sort3 (v * v - e * e) (2 * v * e + e * e) (v * v + v * e + e * e) = [a, b, c]) (hb : Blunt a b c) (h9 : c ≤ 300000000) (h8 : a + b ≤ 300000000) :
    run T (k + 5) i_by_two [.v (.int e), .v (.int v), .v (.int 60)] = .ok (.tup [.tup [.int (a / g3 a b c), .int (c / g3 a b c), .int ((a + b) / g3 a b c)], .tup [.int (b / g3 a b c), .int (c / g3 a b c), .int ((a + b) / g3 a b c)]], false) .non := by
  have e1 := r_by_numbers (T := T) (k := k) he hv h4 hs hb h9
  have e2 := r_need_degrees (T := T) (k := k + 1) (d := 60) (.inl rfl)
  have n1 := r_need_whole (T := T) (k := k + 1) (a := e) (lo := 1) (hi := 10000) he (by omega)
  have n2 := r_need_whole (T := T) (k := k + 1) (a := v) (lo := 1) (hi := 10000) (by omega) h4
  have n3 : ¬ v ≤ e := by omega
  obtain ⟨hp, hq, hr⟩ := hb.plain
  have g1 := g3_div (a := a) (b := b) (c := c) (by have := hb.c1; omega)
  rw [hq]
  generalize a / g3 a b c = x at *
  generalize b / g3 a b c = y at *
  generalize c / g3 a b c = z at *
  have e3 := r_joined_in (T := T) (k := k + 3) hp
  obtain ⟨l1, l2⟩ := hp.lt
  have := hp.ab
  have := hp.a1
  have e4 := r_plain_in (T := T) (k := k + 1) (a := x) (b := z) (c := x + y) (by omega) (by omega) (by omega) (by omega)
  have e5 := r_plain_in (T := T) (k := k + 1) (a := y) (b := z) (c := x + y) (by omega) (by omega) (by omega) (by omega)
  rw [g3_own (.inl rfl), g1] at e4
  rw [g3_own (.inr rfl), g1] at e5
  simp only [Int.ediv_one] at e4 e5
  rw [run_succ]
  simp [f_by_two, argsOk, e1, e2, n1, n2, n3, e3, turns, line, e4, e5]
theorem sort3_sum {x y z a b c : Int} (h : sort3 x y z = [a, b, c]) : a + b + c = x + y + z := by
  unfold sort3 at h
  split at h
  · split at h
    · injection h with h1 h; injection h with h2 h; injection h with h3 _; omega
    · split at h
      · injection h with h1 h; injection h with h2 h; injection h with h3 _; omega
      · injection h with h1 h; injection h with h2 h; injection h with h3 _; omega
  · split at h
    · injection h with h1 h; injection h with h2 h; injection h with h3 _; omega
    · split at h
      · injection h with h1 h; injection h with h2 h; injection h with h3 _; omega
      · injection h with h1 h; injection h with h2 h; injection h with h3 _; omega
theorem r__law_made_right_28 [H__law_made_right T] {k : Nat} {cu : D} {e v n : Int} (he : 1 ≤ e) (hv : e < v) (h4 : v ≤ 10000) (hn : 1 ≤ n) (h9 : (v * v + 2 * (v * e)) * n ≤ 1000000000) :
    run T (k + 12) i__law_made_right [.ref cu, .v (.int e), .v (.int v), .v (.int n)] = .ok (.bl true, false) cu := by
  obtain ⟨a, b, c, hs, hc, hb, hc9, hs9⟩ := two_blunt he hv h4
  have hsum : a + b = v * v + 2 * (v * e) := by
    have := sort3_sum hs
    have k1 : 2 * v * e = 2 * (v * e) := by rw [Int.mul_assoc]
    omega
  rw [← hsum] at h9
  obtain ⟨l1, l2⟩ := hb.lt
  have ha1 := hb.a1
  have hab := hb.ab
  have hw := hb.times hn
  obtain ⟨w1, w2⟩ := hw.lt
  have hws : n * a + n * b ≤ 1000000000 := by rw [← Int.mul_add, Int.mul_comm]; exact h9
  have b1 : Bits e 14 := ⟨by omega⟩
  have b2 : Bits v 14 := ⟨by omega⟩
  have m1 : mulOk (2 * v) e = true := mulOk_r (by omega)
  have f1 := r_by_two_120 (T := T) (k := k + 6) he hv h4 hs hb hc9
  have f2 := r_by_two_60 (T := T) (k := k + 6) he hv h4 hs hb hc9 hs9
  have f3 := r__law_plain_28 (T := T) (k := k + 8) (a := a) (b := b) (c := c) (by omega) (by omega) (by omega) (by omega)
  have f4 := r__law_plain_28 (T := T) (k := k + 8) (a := a) (b := c) (c := a + b) (by omega) (by omega) (by omega) (by omega)
  have f5 := r__law_plain_28 (T := T) (k := k + 8) (a := b) (b := c) (c := a + b) (by omega) (by omega) (by omega) (by omega)
  rw [g3_own (.inl rfl)] at f4
  rw [g3_own (.inr rfl)] at f5
  obtain ⟨hp, _, _⟩ := hb.plain
  have hpab := hp.ab
  have s1 := sort2_rows (a := a / g3 a b c) (b := b / g3 a b c) (c := c / g3 a b c) (s := (a + b) / g3 a b c) (c' := c / g3 a b c) (s' := (a + b) / g3 a b c) (by omega)
  generalize a / g3 a b c = x at *
  generalize b / g3 a b c = y at *
  generalize c / g3 a b c = z at *
  generalize (a + b) / g3 a b c = s at *
  have o1 := sort_own (x := a) (c := c) (s := a + b) (by omega) l2
  have o2 := sort_own (x := b) (c := c) (s := a + b) l1 l2
  have tw := hw.tri (by omega)
  have p1 := r_degrees_place (T := T) (k := k + 5) (d := 120) tw (.inr rfl)
  rw [hw.place] at p1
  have hwa := hw.a1
  have hwab := hw.ab
  have p2 := r_side_across (T := T) (k := k + 6) (o := n * a) (t := n * b) (d := 120) (by omega) (by omega) (by omega) (by omega) (.inr rfl)
  have p3 := r_side_across (T := T) (k := k + 6) (o := n * b) (t := n * a) (d := 120) (by omega) (by omega) (by omega) (by omega) (.inr rfl)
  have q2 : acd (n * a) (n * b) 120 = .int (n * c) := by
    have : acr (n * a) (n * b) 120 = n * c * (n * c) := by rw [← hw.eq]; unfold acr; rw [if_pos rfl]
    unfold acd
    have hcc := sq_le (show 0 ≤ n * c by omega) (show n * c ≤ 1000000000 by omega)
    rw [this, if_pos ⟨sq_of rfl, by omega⟩, rt_sq (by omega)]
  have q3 : acd (n * b) (n * a) 120 = .int (n * c) := by
    have : acr (n * b) (n * a) 120 = n * c * (n * c) := by rw [← hw.eq]; unfold acr; rw [if_pos rfl]; grind
    unfold acd
    have hcc := sq_le (show 0 ≤ n * c by omega) (show n * c ≤ 1000000000 by omega)
    rw [this, if_pos ⟨sq_of rfl, by omega⟩, rt_sq (by omega)]
  rw [q2] at p2
  rw [q3] at p3
  have p4 := r_is_triangle (T := T) (k := k + 6) tw
  have p5 := r_joined_sixties (T := T) (k := k + 5) hw hws
  have s2 := sort2_rows (a := n * a) (b := n * b) (c := n * c) (s := n * a + n * b) (c' := n * c) (s' := n * a + n * b) (by omega)
  obtain ⟨u1, u2, u3, u4, u5⟩ := hw.own (.inl rfl)
  obtain ⟨v1, v2, v3, v4, v5⟩ := hw.own (.inr rfl)
  have t1 : Tri (n * a) (n * c) (n * a + n * b) := ⟨u1, by omega, by omega, by omega, hws⟩
  have t2 : Tri (n * b) (n * c) (n * a + n * b) := ⟨v1, by omega, by omega, by omega, hws⟩
  have x1 := r_is_triangle (T := T) (k := k + 6) t1
  have x2 := r_degrees_place (T := T) (k := k + 5) (d := 60) t1 (.inl rfl)
  have x3 := r_degrees_place (T := T) (k := k + 5) (d := 120) t1 (.inr rfl)
  have x4 := r_parted_sixty (T := T) (k := k + 5) hw (.inl rfl) hws
  have y1 := r_is_triangle (T := T) (k := k + 6) t2
  have y2 := r_degrees_place (T := T) (k := k + 5) (d := 60) t2 (.inl rfl)
  have y3 := r_degrees_place (T := T) (k := k + 5) (d := 120) t2 (.inr rfl)
  have y4 := r_parted_sixty (T := T) (k := k + 5) hw (.inr rfl) hws
  rw [u4] at x2
  rw [u5] at x3
  rw [v4] at y2
  rw [v5] at y3
  have l1 := fun (d : D) (hd : D.fit 6 d = true) => like_s (T := T) (k := k + 11) hd (by omega)
  have mn : ∀ w : Int, mulOk n w = true := fun w => mulOk_l (by
    have := Int.mul_le_mul_of_nonneg_left (show 1 ≤ a by omega) (show 0 ≤ n by omega)
    omega)
  have lt : run T (k + 11) i__law_two [.v (.int e), .v (.int v)] = .ok (.tup [.int a, .int b, .int c], false) .non := by
    rw [run_succ]
    simp [f__law_two_28, argsOk, mulOk_l, m1, sort3_d, hs]
  have hna : n * (a + b) = n * a + n * b := Int.mul_add _ _ _
  rw [run_succ]
  simp [f__law_made_right, argsOk, lt, sort3_d, o1, o2, f1, f2, f3, f4, f5, s1, l1, turns, line, mn, p1, p2, p3, p4, p5, hna, s2, forS, x1, x2, x3, x4, y1, y2, y3, y4]
/-! ### the law -/
def pre28 : List Sm := (f_law_28.body.drop 1).take 5
def in28 : List Sm := [.ifs (.not (.e (.call i__law_like [(.call i_degrees_place [(.v 5), (.v 6)]), (.call i__law_place [(.v 5), (.v 6)])]))) [.ret (.c (.bl false))] [], .par [7, 8] [(.op2 .add (.c (.int 1)) (.callr i__law_roll 1 [(.v 4)])), (.op2 .add (.c (.int 1)) (.callr i__law_roll 1 [(.v 4)]))], .ifs (.not (.e (.call i__law_like [(.call i_side_across [(.v 7), (.v 8), (.v 6)]), (.call i__law_across [(.v 7), (.v 8), (.v 6)])]))) [.ret (.c (.bl false))] []]
@[simp] theorem fit_plc {n : Nat} {a b c d : Int} : D.fit n (plc a b c d) = true := by unfold plc; split <;> (try split) <;> (try split) <;> simp
@[simp] theorem fit_acd {n : Nat} {o t d : Int} : D.fit n (acd o t d) = true := by unfold acd; split <;> simp
theorem in_28 [H_law_28 T] {k : Nat} {cu : Cup} {m a b c d : Int} {X0 X2 X3 s7 s8 s9 s10 s11 s12 : S} (h1 : 1 ≤ m) (h9 : m ≤ 1000000000) (t : Tri a b c) (hd : d = 60 ∨ d = 120) (n7 : S.nr s7) (n8 : S.nr s8) :
    ∃ cu' : Cup, ∃ x y, execs (run T (k + 13)) in28 [X0, .own cu.d, X2, X3, .v (.int m), .v (.tup [.int a, .int b, .int c]), .v (.int d), s7, s8, s9, s10, s11, s12] = .nx [X0, .own cu'.d, X2, X3, .v (.int m), .v (.tup [.int a, .int b, .int c]), .v (.int d), .v (.int x), .v (.int y), s9, s10, s11, s12] := by
  have bm : Bits m 31 := ⟨by omega⟩
  have r1 := r__law_roll (T := T) (k := k + 12) (c := cu) (m := m) (by omega) (by omega)
  have p0 := roll_nonneg (c := cu) (m := m) (by omega)
  have p1 := roll_lt (c := cu) (m := m) (by omega)
  generalize cu.roll m = p at *
  generalize cu.next m = c1 at *
  have r2 := r__law_roll (T := T) (k := k + 12) (c := c1) (m := m) (by omega) (by omega)
  have q0 := roll_nonneg (c := c1) (m := m) (by omega)
  have q1 := roll_lt (c := c1) (m := m) (by omega)
  generalize c1.roll m = q at *
  generalize c1.next m = c2 at *
  have e1 := r_degrees_place (T := T) (k := k + 7) t hd
  have e2 := r__law_place_28 (T := T) (k := k + 8) t hd
  have e3 := r_side_across (T := T) (k := k + 8) (o := 1 + p) (t := 1 + q) (by omega) (by omega) (by omega) (by omega) hd
  have e4 := r__law_across (T := T) (k := k + 11) (o := 1 + p) (t := 1 + q) (d := d) (by omega) (by omega) (by omega) (by omega)
  have l1 := fun (d : D) (hd : D.fit 6 d = true) => like_s (T := T) (k := k + 13) hd (by omega)
  have n7' : ∀ d, ¬ s7 = .ref d := n7
  have n8' : ∀ d, ¬ s8 = .ref d := n8
  exact ⟨c2, 1 + p, 1 + q, by simp [in28, r1, r2, e1, e2, e3, e4, l1, n7', n8']⟩
theorem loop_28 [H_law_28 T] {k : Nat} {cu : Cup} {m : Int} {X0 X2 X3 s5 s6 s7 s8 s9 s10 s11 s12 : S} (h1 : 1 ≤ m) (h9 : m ≤ 1000000000) (n5 : S.nr s5) (n7 : S.nr s7) (n8 : S.nr s8) :
    ∃ cu' : Cup, ∃ d5 d6 d7 d8, execs (run T (k + 13)) [.set (.n 5) (.callr i__law_triangle 1 [(.v 4)]), .forr (.n 6) (.e (.tup [(.c (.int 60)), (.c (.int 120))])) in28] [X0, .own cu.d, X2, X3, .v (.int m), s5, s6, s7, s8, s9, s10, s11, s12] = .nx [X0, .own cu'.d, X2, X3, .v (.int m), .v d5, .v d6, .v d7, .v d8, s9, s10, s11, s12] := by
  obtain ⟨a, b, c, c1, t, _, e1⟩ := r__law_triangle (T := T) (k := k + 11) (c := cu) h1 h9
  obtain ⟨c2, x1, y1, k1⟩ := in_28 (T := T) (k := k) (cu := c1) (X0 := X0) (X2 := X2) (X3 := X3) (s9 := s9) (s10 := s10) (s11 := s11) (s12 := s12) (d := 60) h1 h9 t (.inl rfl) n7 n8
  obtain ⟨c3, x2, y2, k2⟩ := in_28 (T := T) (k := k) (cu := c2) (X0 := X0) (X2 := X2) (X3 := X3) (s9 := s9) (s10 := s10) (s11 := s11) (s12 := s12) (d := 120) h1 h9 t (.inr rfl) (nr_v (d := .int x1)) (nr_v (d := .int y1))
  have n5' : ∀ d, ¬ s5 = .ref d := n5
  generalize in28 = B at *
  exact ⟨c3, .tup [.int a, .int b, .int c], .int 120, .int x2, .int y2, by simp [e1, n5', forS, k1, k2]⟩
def made28 : List Sm := [.set (.n 10) (.op2 .add (.c (.int 1)) (.callr i__law_roll 1 [(.v 4)])), .set (.n 11) (.op2 .add (.op2 .add (.v 10) (.c (.int 1))) (.callr i__law_roll 1 [(.op2 .min (.v 4) (.op2 .sub (.op2 .pow (.c (.int 10)) (.c (.int 4))) (.v 10)))])), .ifs (.not (.e (.callr i__law_made_right 1 [(.v 10), (.v 11), (.op2 .add (.c (.int 1)) (.callr i__law_roll 1 [(.v 9)]))]))) [.ret (.c (.bl false))] []]
theorem made_28 [H_law_28 T] {k : Nat} {cu : Cup} {m n V : Int} {X0 X2 X3 s5 s6 s7 s8 s10 s11 s12 : S} (h1 : 1 ≤ m) (h9 : m ≤ 9999) (hn : 1 ≤ n) (hn9 : n ≤ 1000) (hV : 2 * m ≤ V ∨ 10000 ≤ V) (hV0 : 1 ≤ V) (hb : (V * V + 2 * (V * V)) * n ≤ 1000000000) (n10 : S.nr s10) (n11 : S.nr s11) :
    ∃ cu' : Cup, ∃ d10 d11, execs (run T (k + 13)) made28 [X0, .own cu.d, X2, X3, .v (.int m), s5, s6, s7, s8, .v (.int n), s10, s11, s12] = .nx [X0, .own cu'.d, X2, X3, .v (.int m), s5, s6, s7, s8, .v (.int n), .v d10, .v d11, s12] := by
  have hp4 : powOk 10 4 = true := by decide
  have bm : Bits m 31 := ⟨by omega⟩
  have r1 := r__law_roll (T := T) (k := k + 12) (c := cu) (m := m) (by omega) (by omega)
  have p0 := roll_nonneg (c := cu) (m := m) (by omega)
  have p1 := roll_lt (c := cu) (m := m) (by omega)
  generalize cu.roll m = p at *
  generalize cu.next m = c1 at *
  obtain ⟨w, hw⟩ : ∃ w, (if 10000 - (1 + p) < m then 10000 - (1 + p) else m) = w := ⟨_, rfl⟩
  have w1 : 1 ≤ w ∧ w ≤ m ∧ w ≤ 10000 - (1 + p) := by rw [← hw]; split <;> omega
  have bw : Bits w 31 := ⟨by omega⟩
  have r2 := r__law_roll (T := T) (k := k + 12) (c := c1) (m := w) (by omega) (by omega)
  have q0 := roll_nonneg (c := c1) (m := w) (by omega)
  have q1 := roll_lt (c := c1) (m := w) (by omega)
  generalize c1.roll w = q at *
  generalize c1.next w = c2 at *
  have bn : Bits n 31 := ⟨by omega⟩
  have r3 := r__law_roll (T := T) (k := k + 12) (c := c2) (m := n) (by omega) (by omega)
  have u0 := roll_nonneg (c := c2) (m := n) (by omega)
  have u1 := roll_lt (c := c2) (m := n) (by omega)
  generalize c2.roll n = u at *
  generalize c2.next n = c3 at *
  obtain ⟨e, he⟩ : ∃ e, e = 1 + p := ⟨_, rfl⟩
  obtain ⟨v, hv⟩ : ∃ v, v = 1 + p + 1 + q := ⟨_, rfl⟩
  have hv9 : v ≤ V := by omega
  have bound : (v * v + 2 * (v * e)) * (1 + u) ≤ 1000000000 := by
    have k1 := sq_le (show 0 ≤ v by omega) hv9
    have k2 : v * e ≤ V * V := Int.mul_le_mul hv9 (by omega) (by omega) (by omega)
    have k3 := Int.mul_nonneg (show 0 ≤ v by omega) (show 0 ≤ v by omega)
    have k4 := Int.mul_nonneg (show 0 ≤ v by omega) (show 0 ≤ e by omega)
    have : (v * v + 2 * (v * e)) * (1 + u) ≤ (V * V + 2 * (V * V)) * n := Int.mul_le_mul (by omega) (by omega) (by omega) (by omega)
    omega
  have f := r__law_made_right_28 (T := T) (k := k + 1) (cu := c3.d) (e := e) (v := v) (n := 1 + u) (by omega) (by omega) (by omega) (by omega) bound
  rw [he, hv] at f
  have n10' : ∀ d, ¬ s10 = .ref d := n10
  have n11' : ∀ d, ¬ s11 = .ref d := n11
  exact ⟨c3, .int (1 + p), .int (1 + p + 1 + q), by simp [made28, r1, hp4, hw, r2, r3, f, n10', n11']⟩
theorem law28 [H_law_28 T] {k : Nat} {ns : List Int} (hns : ns.length ≤ 63) {s2 s3 : S} (n2 : S.nr s2)
    (hpre : ∀ X : D, execs (run T (k + 20)) pre28 [.v (.scr ns), .own X, .no, .no, .no, .no, .no, .no, .no, .no, .no, .no, .no] = .nx [.v (.scr ns), .own X, s2, s3, .no, .no, .no, .no, .no, .no, .no, .no, .no]) :
    run T (k + 21) i_law [.v (.scr ns)] = .ok (.bl true, false) .non := by
  obtain ⟨c0, e0⟩ := r__law_cup (T := T) (k := k + 19) (ns := ns) hns
  have b := fun (c : Cup) (m : Int) (s5 s6 s7 s8 : S) h1 h9 n5 n7 n8 => loop_28 (T := T) (k := k + 7) (cu := c) (m := m) (X0 := .v (.scr ns)) (X2 := s2) (X3 := s3) (s5 := s5) (s6 := s6) (s7 := s7) (s8 := s8) (s9 := .no) (s10 := .no) (s11 := .no) (s12 := .no) h1 h9 n5 n7 n8
  obtain ⟨c1, a5, a6, a7, a8, k1⟩ := b c0 3 .no .no .no .no (by omega) (by omega) nr_no nr_no nr_no
  obtain ⟨c2, b5, b6, b7, b8, k2⟩ := b c1 8 (.v a5) (.v a6) (.v a7) (.v a8) (by omega) (by omega) nr_v nr_v nr_v
  obtain ⟨c3, d5, d6, d7, d8, k3⟩ := b c2 30 (.v b5) (.v b6) (.v b7) (.v b8) (by omega) (by omega) nr_v nr_v nr_v
  obtain ⟨c4, e5, e6, e7, e8, k4⟩ := b c3 1000 (.v d5) (.v d6) (.v d7) (.v d8) (by omega) (by omega) nr_v nr_v nr_v
  obtain ⟨c5, g5, g6, g7, g8, k5⟩ := b c4 1000000000 (.v e5) (.v e6) (.v e7) (.v e8) (by omega) (by omega) nr_v nr_v nr_v
  have m := fun (c : Cup) (w n V : Int) (s10 s11 : S) h1 h9 hn hn9 hV hV0 hb n10 n11 => made_28 (T := T) (k := k + 7) (cu := c) (m := w) (n := n) (V := V) (X0 := .v (.scr ns)) (X2 := s2) (X3 := s3) (s5 := .v g5) (s6 := .v g6) (s7 := .v g7) (s8 := .v g8) (s10 := s10) (s11 := s11) (s12 := .no) h1 h9 hn hn9 hV hV0 hb n10 n11
  obtain ⟨c6, x10, x11, j1⟩ := m c5 3 9 6 .no .no (by omega) (by omega) (by omega) (by omega) (by omega) (by omega) (by omega) nr_no nr_no
  obtain ⟨c7, y10, y11, j2⟩ := m c6 12 1000 24 (.v x10) (.v x11) (by omega) (by omega) (by omega) (by omega) (by omega) (by omega) (by omega) nr_v nr_v
  obtain ⟨c8, z10, z11, j3⟩ := m c7 100 300 200 (.v y10) (.v y11) (by omega) (by omega) (by omega) (by omega) (by omega) (by omega) (by omega) nr_v nr_v
  obtain ⟨c9, w10, w11, j4⟩ := m c8 9999 1 10000 (.v z10) (.v z11) (by omega) (by omega) (by omega) (by omega) (by omega) (by omega) (by omega) nr_v nr_v
  have b9 : Bits (1000000000 : Int) 30 := ⟨by decide⟩
  have r1 := r__law_roll (T := T) (k := k + 19) (c := c9) (m := 1000000000) (by omega) (by omega)
  have p0 := roll_nonneg (c := c9) (m := 1000000000) (by omega)
  have p1 := roll_lt (c := c9) (m := 1000000000) (by omega)
  generalize c9.roll 1000000000 = p at *
  generalize c9.next 1000000000 = c10 at *
  obtain ⟨s, hs⟩ : ∃ s, 1 + p = s := ⟨_, rfl⟩
  have ts : Tri s s s := by constructor <;> omega
  have f1 := r_side_across (T := T) (k := k + 15) (o := s) (t := s) (d := 60) (by omega) (by omega) (by omega) (by omega) (.inl rfl)
  have f2 := r_degrees_place (T := T) (k := k + 14) (d := 60) ts (.inl rfl)
  have f3 := r_degrees_place (T := T) (k := k + 14) (d := 120) ts (.inr rfl)
  have f4 := r_side_across (T := T) (k := k + 15) (o := 300000000) (t := 500000000) (d := 120) (by omega) (by omega) (by omega) (by omega) (.inr rfl)
  have ss := Int.mul_pos (show 0 < s by omega) (show 0 < s by omega)
  have ss9 := sq_le (show 0 ≤ s by omega) (show s ≤ 1000000000 by omega)
  have a1 : acr s s 60 = s * s := by unfold acr; rw [if_neg (by omega), Int.neg_mul]; omega
  have a2 : acr s s 120 = 3 * (s * s) := by unfold acr; rw [if_pos rfl]; omega
  have q1 : acd s s 60 = .int s := by unfold acd; rw [a1, if_pos ⟨sq_of rfl, by omega⟩, rt_sq (by omega)]
  have q2 : plc s s s 60 = .int 0 := by unfold plc; rw [a1, if_pos rfl]
  have q3 : plc s s s 120 = .non := by unfold plc; rw [a2, if_neg (by omega), if_neg (by omega), if_neg (by omega)]
  have q4 : acd 300000000 500000000 120 = .int 700000000 := by
    have : acr 300000000 500000000 120 = 700000000 * 700000000 := by decide
    unfold acd; rw [this, if_pos ⟨sq_of rfl, by omega⟩, rt_sq (by omega)]
  rw [q1] at f1
  rw [q2] at f2
  rw [q3] at f3
  rw [q4] at f4
  have l1 := fun (d : D) (hd : D.fit 6 d = true) => like_s (T := T) (k := k + 20) hd (by omega)
  have hp4 : powOk 10 4 = true := by decide
  have hp9 : powOk 10 9 = true := by decide
  have hp8 : powOk 10 8 = true := by decide
  have hB : f_law_28.body = [.set (.n 1) (.call i__law_cup [(.v 0)])] ++ (pre28 ++ ([.forr (.n 4) (.e (.tup [(.c (.int 3)), (.c (.int 8)), (.c (.int 30)), (.c (.int 1000)), (.op2 .pow (.c (.int 10)) (.c (.int 9)))])) [.set (.n 5) (.callr i__law_triangle 1 [(.v 4)]), .forr (.n 6) (.e (.tup [(.c (.int 60)), (.c (.int 120))])) in28], .forr (.t [(.n 4), (.n 9)]) (.e (.tup [(.tup [(.c (.int 3)), (.c (.int 9))]), (.tup [(.c (.int 12)), (.c (.int 1000))]), (.tup [(.c (.int 100)), (.c (.int 300))]), (.tup [(.c (.int 9999)), (.c (.int 1))])])) made28] ++ f_law_28.body.drop 8)) := rfl
  have hB2 : f_law_28.body.drop 8 = [.set (.n 12) (.op2 .add (.c (.int 1)) (.callr i__law_roll 1 [(.op2 .pow (.c (.int 10)) (.c (.int 9)))])), .set (.n 2) (.lst [(.call i_side_across [(.v 12), (.v 12), (.c (.int 60))]), (.call i_degrees_place [(.tup [(.v 12), (.v 12), (.v 12)]), (.c (.int 60))]), (.call i_degrees_place [(.tup [(.v 12), (.v 12), (.v 12)]), (.c (.int 120))])]), .ret (.call i__law_like [(.op2 .add (.v 2) (.lst [(.call i_side_across [(.op2 .mul (.c (.int 3)) (.op2 .pow (.c (.int 10)) (.c (.int 8)))), (.op2 .mul (.c (.int 5)) (.op2 .pow (.c (.int 10)) (.c (.int 8)))), (.c (.int 120))])])), (.lst [(.v 12), (.c (.int 0)), (.c .non), (.op2 .mul (.c (.int 7)) (.op2 .pow (.c (.int 10)) (.c (.int 8))))])])] := rfl
  rw [run_succ, hB, hB2]
  have hargs : argsOk f_law_28 [.v (.scr ns)] = true := rfl
  have hst : start f_law_28.slots [.v (.scr ns)] = [.v (.scr ns), .no, .no, .no, .no, .no, .no, .no, .no, .no, .no, .no, .no] := rfl
  have hby : f_law_28.byref = false := rfl
  rw [hargs, hst, hby]
  simp only [execs_append]
  generalize hI : ([.set (.n 5) (.callr i__law_triangle 1 [(.v 4)]), .forr (.n 6) (.e (.tup [(.c (.int 60)), (.c (.int 120))])) in28] : List Sm) = LI at *
  generalize pre28 = PR at *
  generalize made28 = MD at *
  clear b m
  have n2' : ∀ d, ¬ s2 = .ref d := n2
  simp only [Nat.reduceAdd, Nat.add_assoc] at k1 k2 k3 k4 k5 j1 j2 j3 j4
  simp [e0, setP_cup, hpre, hp4, hp9, hp8, hI, forS, k1, k2, k3, k4, k5, j1, j2, j3, j4, r1, hs, f1, f2, f3, f4, l1, n2', mulOk_l, line]
end G
end

section
set_option maxHeartbeats 4000000
/-! Law 82: slant rows. -/
namespace G
def i_is_plain : Nat := 41
def i_slants_in : Nat := 502
def i_need_gap_and_most : Nat := 819
def i_slants_up_to : Nat := 820
def i_count_slants_up_to : Nat := 821
def i_need_right : Nat := 62
def i_slant_gaps : Nat := 822
def i__law_all : Nat := 270
def i__law_right_by : Nat := 823
def i__law_is_triangle : Nat := 25
def i__law_is_right : Nat := 818
def i__law_gaps_right : Nat := 73
def f_is_plain : Fn := ⟨1, 1, false, [
  .expr (.call i_need_triangle [(.v 0)]),
  .ret (.op2 .eq (.call i_part_in [(.v 0)]) (.c (.int 1)))]⟩
def f_slants_in_82 : Fn := ⟨2, 5, false, [
  .par [2, 3] [(.lst []), (.op2 .add (.v 0) (.c (.int 1)))],
  .whil (.b (.op2 .le (.op2 .mul (.v 3) (.v 3)) (.op2 .mul (.v 0) (.op2 .sub (.op2 .mul (.c (.int 2)) (.v 1)) (.v 0))))) [.ifs (.b (.op2 .eq (.op2 .mod (.op2 .sub (.op2 .mul (.v 3) (.v 3)) (.op2 .mul (.v 0) (.v 0))) (.op2 .mul (.c (.int 2)) (.v 0))) (.c (.int 0)))) [.set (.n 4) (.op2 .fdiv (.op2 .sub (.op2 .mul (.v 3) (.v 3)) (.op2 .mul (.v 0) (.v 0))) (.op2 .mul (.c (.int 2)) (.v 0))), .append 2 (.tup [(.op2 .min (.v 3) (.v 4)), (.op2 .max (.v 3) (.v 4)), (.op2 .add (.v 4) (.v 0))])] [], .set (.n 3) (.op2 .add (.v 3) (.c (.int 1)))],
  .ret (.op1 .sorted (.v 2))]⟩
def f_need_gap_and_most : Fn := ⟨2, 2, false, [
  .expr (.call i_need_whole [(.v 0), (.c (.int 1)), (.c (.int 1000))]),
  .ifs (.or (.not (.e (.call i_is_side [(.v 1)]))) (.b (.op2 .gt (.v 1) (.c (.int 1000000))))) [.rais 2 [(.c (.str (PySem.Str.ofString "no side, or too great")))]] []]⟩
def f_slants_up_to : Fn := ⟨2, 2, false, [
  .expr (.call i_need_gap_and_most [(.v 0), (.v 1)]),
  .ret (.op1 .tuple (.call i_slants_in [(.v 0), (.v 1)]))]⟩
def f_count_slants_up_to : Fn := ⟨2, 2, false, [
  .expr (.call i_need_gap_and_most [(.v 0), (.v 1)]),
  .ret (.op1 .len (.call i_slants_in [(.v 0), (.v 1)]))]⟩
def f_need_right_81 : Fn := ⟨1, 1, false, [
  .ifs (.or (.not (.e (.call i_fits_triangle [(.v 0)]))) (.b (.op2 .ne (.call i_kind_in [(.v 0)]) (.c (.str (PySem.Str.ofString "right")))))) [.rais 1 [(.c (.str (PySem.Str.ofString "no right triangle")))]] []]⟩
def f_slant_gaps : Fn := ⟨1, 1, false, [
  .expr (.call i_need_right [(.v 0)]),
  .ret (.tup [(.op2 .sub (.op2 .idx (.v 0) (.c (.int 2))) (.op2 .idx (.v 0) (.c (.int 1)))), (.op2 .sub (.op2 .idx (.v 0) (.c (.int 2))) (.op2 .idx (.v 0) (.c (.int 0))))])]⟩
def f__law_all_82 : Fn := ⟨2, 6, false, [
  .set (.n 2) (.lst []),
  .forr (.n 3) (.range [(.op2 .add (.v 0) (.c (.int 1))), (.op2 .add (.v 1) (.c (.int 1)))]) [.set (.n 4) (.op2 .sub (.v 3) (.v 0)), .set (.n 5) (.call i__law_root [(.op2 .sub (.op2 .mul (.v 3) (.v 3)) (.op2 .mul (.v 4) (.v 4)))]), .ifs (.and (.b (.op2 .gt (.v 5) (.c (.int 0)))) (.b (.op2 .eq (.op2 .add (.op2 .mul (.v 5) (.v 5)) (.op2 .mul (.v 4) (.v 4))) (.op2 .mul (.v 3) (.v 3))))) [.append 2 (.op2 .add (.op1 .tuple (.op1 .sorted (.lst [(.v 4), (.v 5)]))) (.tup [(.v 3)]))] []],
  .ret (.op1 .sorted (.v 2))]⟩
def f__law_right_by : Fn := ⟨3, 5, true, [
  .set (.n 3) (.call i__law_all [(.v 1), (.v 2)]),
  .ifs (.not (.e (.call i__law_like [(.lst [(.call i_slants_up_to [(.v 1), (.v 2)]), (.call i_count_slants_up_to [(.v 1), (.v 2)])]), (.lst [(.op1 .tuple (.v 3)), (.op1 .len (.v 3))])]))) [.ret (.c (.bl false))] [],
  .forr (.n 4) (.e (.v 3)) [.ifs (.or (.b (.op2 .notin (.v 1) (.call i_slant_gaps [(.v 4)]))) (.b (.op2 .ne (.call i_kind_of [(.v 4)]) (.c (.str (PySem.Str.ofString "right")))))) [.ret (.c (.bl false))] []],
  .ret (.c (.bl true))]⟩
def f__law_is_triangle : Fn := ⟨1, 2, false, [
  .ifs (.or (.not (.e (.op1 (.isTy 3) (.v 0)))) (.or (.b (.op2 .ne (.op1 .len (.v 0)) (.c (.int 3)))) (.b (.op2 .ne (.comp [1] (.v 1) (.n 1) (.e (.v 0)) [(.or (.b (.op2 .ne (.call i__law_sort [(.v 1)]) (.c (.int 2)))) (.not (.b (.chain .le .le (.c (.int 1)) (.v 1) (.op2 .pow (.c (.int 10)) (.c (.int 9)))))))] []) (.lst []))))) [.ret (.c (.bl false))] [],
  .ret (.chain3 .le .le .lt (.op2 .idx (.v 0) (.c (.int 0))) (.op2 .idx (.v 0) (.c (.int 1))) (.op2 .idx (.v 0) (.c (.int 2))) (.op2 .add (.op2 .idx (.v 0) (.c (.int 0))) (.op2 .idx (.v 0) (.c (.int 1)))))]⟩
def f__law_is_right : Fn := ⟨1, 1, false, [
  .ret (.and (.call i__law_is_triangle [(.v 0)]) (.op2 .eq (.op2 .add (.op2 .mul (.op2 .idx (.v 0) (.c (.int 0))) (.op2 .idx (.v 0) (.c (.int 0)))) (.op2 .mul (.op2 .idx (.v 0) (.c (.int 1))) (.op2 .idx (.v 0) (.c (.int 1))))) (.op2 .mul (.op2 .idx (.v 0) (.c (.int 2))) (.op2 .idx (.v 0) (.c (.int 2))))))]⟩
def f__law_gaps_right_82 : Fn := ⟨2, 8, true, [
  .set (.n 2) (.op2 .add (.c (.int 1)) (.callr i__law_roll 0 [(.v 1)])),
  .set (.n 3) (.call i__law_right [(.op2 .add (.op2 .add (.v 2) (.c (.int 1))) (.callr i__law_roll 0 [(.v 1)])), (.v 2)]),
  .par [4, 5] [(.op2 .sub (.op2 .idx (.v 3) (.c (.int 2))) (.op2 .idx (.v 3) (.c (.int 1)))), (.op2 .sub (.op2 .idx (.v 3) (.c (.int 2))) (.op2 .idx (.v 3) (.c (.int 0))))],
  .ifs (.or (.not (.e (.call i__law_like [(.call i_slant_gaps [(.v 3)]), (.tup [(.v 4), (.v 5)])]))) (.not (.e (.call i__law_is_right [(.v 3)])))) [.ret (.c (.bl false))] [],
  .set (.n 6) (.op2 .sub (.op2 .add (.op2 .idx (.v 3) (.c (.int 0))) (.op2 .idx (.v 3) (.c (.int 1)))) (.op2 .idx (.v 3) (.c (.int 2)))),
  .ifs (.b (.op2 .ne (.op2 .mul (.v 6) (.v 6)) (.op2 .mul (.op2 .mul (.c (.int 2)) (.v 4)) (.v 5)))) [.ret (.c (.bl false))] [],
  .forr (.n 7) (.e (.tup [(.v 4), (.v 5)])) [.ifs (.and (.b (.op2 .le (.v 7) (.c (.int 1000)))) (.and (.b (.op2 .le (.op2 .idx (.v 3) (.c (.int 2))) (.c (.int 3000)))) (.b (.op2 .notin (.v 3) (.call i_slants_up_to [(.v 7), (.op2 .idx (.v 3) (.c (.int 2)))]))))) [.ret (.c (.bl false))] []],
  .ret (.c (.bl true))]⟩
def f_law_82 : Fn := ⟨1, 10, false, [
  .set (.n 1) (.call i__law_cup [(.v 0)]),
  .ifs (.not (.e (.call i__law_like [(.call i_slants_up_to [(.c (.int 1)), (.c (.int 5))]), (.tup [(.tup [(.c (.int 3)), (.c (.int 4)), (.c (.int 5))])])]))) [.ret (.c (.bl false))] [],
  .set (.n 2) (.lst [(.call i_slants_up_to [(.c (.int 1)), (.c (.int 50))]), (.call i_count_slants_up_to [(.c (.int 2)), (.c (.int 40))]), (.call i_slant_gaps [(.tup [(.c (.int 5)), (.c (.int 12)), (.c (.int 13))])])]),
  .set (.n 3) (.lst [(.tup [(.tup [(.c (.int 3)), (.c (.int 4)), (.c (.int 5))]), (.tup [(.c (.int 5)), (.c (.int 12)), (.c (.int 13))]), (.tup [(.c (.int 7)), (.c (.int 24)), (.c (.int 25))]), (.tup [(.c (.int 9)), (.c (.int 40)), (.c (.int 41))])]), (.c (.int 5)), (.tup [(.c (.int 1)), (.c (.int 8))])]),
  .ifs (.not (.e (.call i__law_like [(.op2 .add (.v 2) (.lst [(.call i_slants_up_to [(.c (.int 9)), (.c (.int 40))])])), (.op2 .add (.v 3) (.lst [(.tup [(.tup [(.c (.int 8)), (.c (.int 15)), (.c (.int 17))]), (.tup [(.c (.int 20)), (.c (.int 21)), (.c (.int 29))])])]))]))) [.ret (.c (.bl false))] [],
  .forr (.t [(.n 4), (.n 5)]) (.e (.tup [(.tup [(.c (.int 1)), (.c (.int 200))]), (.tup [(.op2 .add (.c (.int 1)) (.callr i__law_roll 1 [(.c (.int 12))])), (.c (.int 300))]), (.tup [(.op2 .add (.c (.int 1)) (.callr i__law_roll 1 [(.c (.int 100))])), (.c (.int 600))]), (.tup [(.op2 .add (.c (.int 1)) (.callr i__law_roll 1 [(.c (.int 1000))])), (.c (.int 1500))])])) [.ifs (.not (.e (.callr i__law_right_by 1 [(.v 4), (.op2 .add (.c (.int 1)) (.callr i__law_roll 1 [(.v 5)]))]))) [.ret (.c (.bl false))] []],
  .forr (.n 5) (.e (.tup [(.c (.int 3)), (.c (.int 9)), (.c (.int 30)), (.c (.int 9000))])) [.ifs (.not (.e (.callr i__law_gaps_right 1 [(.v 5)]))) [.ret (.c (.bl false))] []],
  .set (.n 6) (.op2 .add (.c (.int 1)) (.callr i__law_roll 1 [(.c (.int 700))])),
  .set (.n 7) (.op2 .add (.op2 .mul (.c (.int 2)) (.v 6)) (.c (.int 1))),
  .set (.n 8) (.tup [(.v 7), (.op1 .int (.op2 .fdiv (.op2 .sub (.op2 .mul (.v 7) (.v 7)) (.c (.int 1))) (.c (.int 2)))), (.op1 .int (.op2 .fdiv (.op2 .add (.op2 .mul (.v 7) (.v 7)) (.c (.int 1))) (.c (.int 2))))]),
  .ifs (.not (.e (.call i__law_like [(.lst [(.op2 .inn (.v 8) (.call i_slants_up_to [(.c (.int 1)), (.op2 .pow (.c (.int 10)) (.c (.int 6)))])), (.call i_count_slants_up_to [(.c (.int 1)), (.op2 .idx (.v 8) (.c (.int 2)))]), (.call i_is_plain [(.v 8)])]), (.lst [(.c (.bl true)), (.v 6), (.c (.bl true))])]))) [.ret (.c (.bl false))] [],
  .set (.n 9) (.op2 .add (.c (.int 2)) (.callr i__law_roll 1 [(.c (.int 900))])),
  .ret (.call i__law_like [(.call i_count_slants_up_to [(.c (.int 2)), (.op2 .add (.op2 .mul (.v 9) (.v 9)) (.c (.int 1)))]), (.op2 .sub (.v 9) (.c (.int 1)))])]⟩
class H_is_plain (T : Table) : Prop where
  s : Has T i_is_plain f_is_plain
  c0 : H_need_triangle T
  c1 : H_part_in T
instance {T : Table} [h : H_is_plain T] : Has T i_is_plain f_is_plain := h.s
instance {T : Table} [h : H_is_plain T] : H_need_triangle T := h.c0
instance {T : Table} [h : H_is_plain T] : H_part_in T := h.c1
class H_slants_in_82 (T : Table) : Prop where
  s : Has T i_slants_in f_slants_in_82
instance {T : Table} [h : H_slants_in_82 T] : Has T i_slants_in f_slants_in_82 := h.s
class H_need_gap_and_most (T : Table) : Prop where
  s : Has T i_need_gap_and_most f_need_gap_and_most
  c0 : H_need_whole T
  c1 : H_is_side T
instance {T : Table} [h : H_need_gap_and_most T] : Has T i_need_gap_and_most f_need_gap_and_most := h.s
instance {T : Table} [h : H_need_gap_and_most T] : H_need_whole T := h.c0
instance {T : Table} [h : H_need_gap_and_most T] : H_is_side T := h.c1
class H_slants_up_to (T : Table) : Prop where
  s : Has T i_slants_up_to f_slants_up_to
  c0 : H_slants_in_82 T
  c1 : H_need_gap_and_most T
instance {T : Table} [h : H_slants_up_to T] : Has T i_slants_up_to f_slants_up_to := h.s
instance {T : Table} [h : H_slants_up_to T] : H_slants_in_82 T := h.c0
instance {T : Table} [h : H_slants_up_to T] : H_need_gap_and_most T := h.c1
class H_count_slants_up_to (T : Table) : Prop where
  s : Has T i_count_slants_up_to f_count_slants_up_to
  c0 : H_slants_in_82 T
  c1 : H_need_gap_and_most T
instance {T : Table} [h : H_count_slants_up_to T] : Has T i_count_slants_up_to f_count_slants_up_to := h.s
instance {T : Table} [h : H_count_slants_up_to T] : H_slants_in_82 T := h.c0
instance {T : Table} [h : H_count_slants_up_to T] : H_need_gap_and_most T := h.c1
class H_kind_in (T : Table) : Prop where
  s : Has T i_kind_in f_kind_in
instance {T : Table} [h : H_kind_in T] : Has T i_kind_in f_kind_in := h.s
class H_need_right_81 (T : Table) : Prop where
  s : Has T i_need_right f_need_right_81
  c0 : H_fits_triangle T
  c1 : H_kind_in T
instance {T : Table} [h : H_need_right_81 T] : Has T i_need_right f_need_right_81 := h.s
instance {T : Table} [h : H_need_right_81 T] : H_fits_triangle T := h.c0
instance {T : Table} [h : H_need_right_81 T] : H_kind_in T := h.c1
class H_slant_gaps (T : Table) : Prop where
  s : Has T i_slant_gaps f_slant_gaps
  c0 : H_need_right_81 T
instance {T : Table} [h : H_slant_gaps T] : Has T i_slant_gaps f_slant_gaps := h.s
instance {T : Table} [h : H_slant_gaps T] : H_need_right_81 T := h.c0
class H_kind_of (T : Table) : Prop where
  s : Has T i_kind_of f_kind_of
  c0 : H_need_triangle T
  c1 : H_kind_in T
instance {T : Table} [h : H_kind_of T] : Has T i_kind_of f_kind_of := h.s
instance {T : Table} [h : H_kind_of T] : H_need_triangle T := h.c0
instance {T : Table} [h : H_kind_of T] : H_kind_in T := h.c1
class H__law_all_82 (T : Table) : Prop where
  s : Has T i__law_all f__law_all_82
  c0 : H__law_root T
instance {T : Table} [h : H__law_all_82 T] : Has T i__law_all f__law_all_82 := h.s
instance {T : Table} [h : H__law_all_82 T] : H__law_root T := h.c0
class H__law_right_by (T : Table) : Prop where
  s : Has T i__law_right_by f__law_right_by
  c0 : H_kind_of T
  c1 : H_slants_up_to T
  c2 : H_count_slants_up_to T
  c3 : H_slant_gaps T
  c4 : H__law_like T
  c5 : H__law_all_82 T
instance {T : Table} [h : H__law_right_by T] : Has T i__law_right_by f__law_right_by := h.s
instance {T : Table} [h : H__law_right_by T] : H_kind_of T := h.c0
instance {T : Table} [h : H__law_right_by T] : H_slants_up_to T := h.c1
instance {T : Table} [h : H__law_right_by T] : H_count_slants_up_to T := h.c2
instance {T : Table} [h : H__law_right_by T] : H_slant_gaps T := h.c3
instance {T : Table} [h : H__law_right_by T] : H__law_like T := h.c4
instance {T : Table} [h : H__law_right_by T] : H__law_all_82 T := h.c5
class H__law_is_triangle (T : Table) : Prop where
  s : Has T i__law_is_triangle f__law_is_triangle
  c0 : H__law_sort T
instance {T : Table} [h : H__law_is_triangle T] : Has T i__law_is_triangle f__law_is_triangle := h.s
instance {T : Table} [h : H__law_is_triangle T] : H__law_sort T := h.c0
class H__law_is_right (T : Table) : Prop where
  s : Has T i__law_is_right f__law_is_right
  c0 : H__law_is_triangle T
instance {T : Table} [h : H__law_is_right T] : Has T i__law_is_right f__law_is_right := h.s
instance {T : Table} [h : H__law_is_right T] : H__law_is_triangle T := h.c0
class H__law_gaps_right_82 (T : Table) : Prop where
  s : Has T i__law_gaps_right f__law_gaps_right_82
  c0 : H_slants_up_to T
  c1 : H_slant_gaps T
  c2 : H__law_roll T
  c3 : H__law_like T
  c4 : H__law_right T
  c5 : H__law_is_right T
instance {T : Table} [h : H__law_gaps_right_82 T] : Has T i__law_gaps_right f__law_gaps_right_82 := h.s
instance {T : Table} [h : H__law_gaps_right_82 T] : H_slants_up_to T := h.c0
instance {T : Table} [h : H__law_gaps_right_82 T] : H_slant_gaps T := h.c1
instance {T : Table} [h : H__law_gaps_right_82 T] : H__law_roll T := h.c2
instance {T : Table} [h : H__law_gaps_right_82 T] : H__law_like T := h.c3
instance {T : Table} [h : H__law_gaps_right_82 T] : H__law_right T := h.c4
instance {T : Table} [h : H__law_gaps_right_82 T] : H__law_is_right T := h.c5
class H_law_82 (T : Table) : Prop where
  s : Has T i_law f_law_82
  c0 : H_is_plain T
  c1 : H_slants_up_to T
  c2 : H_count_slants_up_to T
  c3 : H_slant_gaps T
  c4 : H__law_cup T
  c5 : H__law_roll T
  c6 : H__law_like T
  c7 : H__law_right_by T
  c8 : H__law_gaps_right_82 T
instance {T : Table} [h : H_law_82 T] : Has T i_law f_law_82 := h.s
instance {T : Table} [h : H_law_82 T] : H_is_plain T := h.c0
instance {T : Table} [h : H_law_82 T] : H_slants_up_to T := h.c1
instance {T : Table} [h : H_law_82 T] : H_count_slants_up_to T := h.c2
instance {T : Table} [h : H_law_82 T] : H_slant_gaps T := h.c3
instance {T : Table} [h : H_law_82 T] : H__law_cup T := h.c4
instance {T : Table} [h : H_law_82 T] : H__law_roll T := h.c5
instance {T : Table} [h : H_law_82 T] : H__law_like T := h.c6
instance {T : Table} [h : H_law_82 T] : H__law_right_by T := h.c7
instance {T : Table} [h : H_law_82 T] : H__law_gaps_right_82 T := h.c8
variable {T : Table}
/-! ### ascending lists -/
theorem asc_ext : ∀ {l1 l2 : List Int}, l1.Pairwise (· < ·) → l2.Pairwise (· < ·) → (∀ x, x ∈ l1 ↔ x ∈ l2) → l1 = l2
  | [], [], _, _, _ => rfl
  | [], y :: ys, _, _, h => absurd ((h y).mpr List.mem_cons_self) (by simp)
  | x :: xs, [], _, _, h => absurd ((h x).mp List.mem_cons_self) (by simp)
  | x :: xs, y :: ys, p1, p2, h => by
    obtain ⟨a1, a2⟩ := List.pairwise_cons.mp p1
    obtain ⟨b1, b2⟩ := List.pairwise_cons.mp p2
    have e : x = y := by
      rcases List.mem_cons.mp ((h x).mp List.mem_cons_self) with e | e
      · exact e
      · rcases List.mem_cons.mp ((h y).mpr List.mem_cons_self) with f | f
        · exact f.symm
        · have := a1 y f
          have := b1 x e
          omega
    subst e
    refine congrArg (x :: ·) (asc_ext a2 b2 fun z => ⟨fun hz => ?_, fun hz => ?_⟩)
    · rcases List.mem_cons.mp ((h z).mp (List.mem_cons_of_mem _ hz)) with e | e
      · have := a1 z hz; omega
      · exact e
    · rcases List.mem_cons.mp ((h z).mpr (List.mem_cons_of_mem _ hz)) with e | e
      · have := b1 z hz; omega
      · exact e
theorem rng_asc {lo hi : Int} : (rng lo hi).Pairwise (· < ·) := by
  by_cases h : lo ≤ hi
  · refine int_up (P := fun hi => (rng lo hi).Pairwise (· < ·)) (by rw [rng_empty (Int.le_refl _)]; exact .nil) (fun i hi ih => ?_) hi h
    rw [rng_succ hi]
    exact List.pairwise_append.mpr ⟨ih, List.pairwise_singleton _ _, fun x hx y hy => by
      have := (mem_rng.mp hx).2
      simp at hy
      omega⟩
  · rw [rng_empty (by omega)]; exact .nil
/-! ### right triangles with a gap, by their slants -/
def cA (g l : Int) : Bool := decide ((l * l - g * g) % (2 * g) = 0)
def oA (g l : Int) : Int := (l * l - g * g) / (2 * g)
def slA (g L : Int) : List Int := ((rng (g + 1) L).filter (cA g)).map fun l => oA g l + g
noncomputable def cB (g c : Int) : Bool := decide (Sq (g * (2 * c - g)))
noncomputable def slB (g m : Int) : List Int := (rng (g + 1) (m + 1)).filter (cB g)
noncomputable def rowS (g c : Int) : List Int := [min (rt (g * (2 * c - g))) (c - g), max (rt (g * (2 * c - g))) (c - g), c]
theorem cA_mul {g l : Int} (hg : 1 ≤ g) (h : cA g l = true) : l * l = g * (2 * (oA g l + g) - g) := by
  have h1 : (l * l - g * g) % (2 * g) = 0 := by simpa [cA] using h
  have h2 : 2 * g * oA g l = l * l - g * g := Int.mul_ediv_cancel' (Int.dvd_of_emod_eq_zero h1)
  generalize oA g l = o at *
  have : g * (2 * (o + g) - g) = 2 * g * o + g * g := by grind
  omega
theorem mulS_lt {g x y : Int} (hg : 1 ≤ g) (h : g * x < g * y) : x < y := by
  refine Classical.byContradiction fun w => ?_
  have := Int.mul_le_mul_of_nonneg_left (show y ≤ x by omega) (show 0 ≤ g by omega)
  omega
theorem mulS_le {g x y : Int} (hg : 1 ≤ g) (h : g * x ≤ g * y) : x ≤ y := by
  refine Classical.byContradiction fun w => ?_
  have := Int.mul_lt_mul_of_pos_left (show y < x by omega) (show 0 < g by omega)
  omega
theorem slA_asc {g L : Int} (hg : 1 ≤ g) : (slA g L).Pairwise (· < ·) := by
  unfold slA
  refine List.pairwise_map.mpr ?_
  have hp : ((rng (g + 1) L).filter (cA g)).Pairwise (· < ·) := List.Pairwise.filter _ rng_asc
  refine List.Pairwise.imp_of_mem (fun {a b} ha hb hab => ?_) hp
  obtain ⟨ha1, ha2⟩ := List.mem_filter.mp ha
  obtain ⟨hb1, hb2⟩ := List.mem_filter.mp hb
  have e1 := cA_mul hg ha2
  have e2 := cA_mul hg hb2
  have := (mem_rng.mp ha1).1
  have := sq_lt (show 0 ≤ a by omega) hab
  rw [e1, e2] at this
  have := mulS_lt hg this
  omega
theorem sl_eq {g m : Int} (hg : 1 ≤ g) : slA g (rt (g * (2 * m - g)) + 1) = slB g m := by
  refine asc_ext (slA_asc hg) (List.Pairwise.filter _ rng_asc) fun c => ?_
  unfold slA slB
  rw [List.mem_map, List.mem_filter]
  constructor
  · rintro ⟨l, hl, rfl⟩
    obtain ⟨hl1, hl2⟩ := List.mem_filter.mp hl
    obtain ⟨a1, a2⟩ := mem_rng.mp hl1
    have e1 := cA_mul hg hl2
    have hm0 : 0 ≤ g * (2 * m - g) := by
      refine Classical.byContradiction fun w => ?_
      rw [rt_neg (by omega)] at a2
      omega
    have hle : l * l ≤ g * (2 * m - g) := by
      have h1 := sq_le (show 0 ≤ l by omega) (show l ≤ rt (g * (2 * m - g)) by omega)
      have h2 := (rt_spec hm0).2.1
      omega
    generalize oA g l + g = c at *
    rw [e1] at hle
    have h1 := mulS_le hg hle
    have h2 := sq_lt (show 0 ≤ g by omega) (show g < l by omega)
    rw [e1] at h2
    have h3 := mulS_lt hg h2
    exact ⟨mem_rng.mpr ⟨by omega, by omega⟩, by simp only [cB, decide_eq_true_eq]; exact sq_of e1.symm⟩
  · rintro ⟨hc1, hc2⟩
    obtain ⟨a1, a2⟩ := mem_rng.mp hc1
    have hs : Sq (g * (2 * c - g)) := by simpa [cB] using hc2
    obtain ⟨l, l0, hl⟩ := hs.ex
    have hlg : g < l := by
      refine Classical.byContradiction fun w => ?_
      have h1 := sq_le l0 (show l ≤ g by omega)
      rw [← hl] at h1
      have := mulS_le hg h1
      omega
    have hlm : l ≤ rt (g * (2 * m - g)) := by
      have h1 : g * (2 * c - g) ≤ g * (2 * m - g) := Int.mul_le_mul_of_nonneg_left (by omega) (by omega)
      have h2 := Int.mul_pos (show 0 < l by omega) (show 0 < l by omega)
      have h3 := (rt_spec (show 0 ≤ g * (2 * m - g) by omega))
      refine Classical.byContradiction fun w => ?_
      have h4 := sq_le (show 0 ≤ rt (g * (2 * m - g)) + 1 by have := h3.1; omega) (show rt (g * (2 * m - g)) + 1 ≤ l by omega)
      have := h3.2.2
      omega
    have hd : l * l - g * g = 2 * g * (c - g) := by rw [← hl]; grind
    have hA : cA g l = true := by
      simp only [cA, decide_eq_true_eq, hd]
      exact Int.mul_emod_right _ _
    have hO : oA g l = c - g := by
      unfold oA
      rw [hd]
      exact Int.mul_ediv_cancel_left _ (by omega)
    exact ⟨l, List.mem_filter.mpr ⟨mem_rng.mpr ⟨by omega, by omega⟩, hA⟩, by omega⟩
def tupD (r : List Int) : D := .tup (r.map D.int)
theorem rows_tup : ∀ rs : List (List Int), rows (rs.map tupD) = some rs
  | [] => rfl
  | r :: rs => by
    rw [List.map_cons]
    show (match intsD (r.map D.int), rows (rs.map tupD) with | some a, some b => some (a :: b) | _, _ => none) = _
    rw [ints_map, rows_tup rs]
theorem sortD_rows {rs : List (List Int)} (h : ∀ r ∈ rs, r.isEmpty = false) : sortD (rs.map tupD) = some ((sortR rs).map tupD) := by
  cases rs with
  | nil => rfl
  | cons r rs =>
    have e1 : intsD ((r :: rs).map tupD) = none := rfl
    have e2 : (r :: rs).all (fun r => !r.isEmpty) = true := List.all_eq_true.mpr fun x hx => by rw [h x hx]; rfl
    unfold sortD
    rw [e1, rows_tup]
    simp only [e2, if_true]
    rfl
theorem rt_le_iff {N l : Int} (hl : 1 ≤ l) : l * l ≤ N ↔ l ≤ rt N := by
  constructor
  · intro h
    have p := Int.mul_pos (show 0 < l by omega) (show 0 < l by omega)
    have s := rt_spec (show 0 ≤ N by omega)
    refine Classical.byContradiction fun w => ?_
    have := sq_le (show 0 ≤ rt N + 1 by have := s.1; omega) (show rt N + 1 ≤ l by omega)
    have := s.2.2
    omega
  · intro h
    have h0 : 0 ≤ N := by
      refine Classical.byContradiction fun w => ?_
      rw [rt_neg (by omega)] at h
      omega
    have := sq_le (show 0 ≤ l by omega) h
    have := (rt_spec h0).2.1
    omega
theorem slA_succ {g l : Int} (h : g + 1 ≤ l) : slA g (l + 1) = slA g l ++ (if cA g l then [oA g l + g] else []) := by
  unfold slA
  rw [rng_succ h, List.filter_append, List.map_append]
  congr 1
  by_cases c : cA g l = true <;> simp [List.filter_cons, c]
theorem slA_len {g l : Int} : (slA g l).length ≤ (l - (g + 1)).toNat := by
  unfold slA
  rw [List.length_map]
  exact Nat.le_trans (List.length_filter_le _ _) (by rw [rng_len]; exact Nat.le_refl _)
theorem rowS_A {g l : Int} (hg : 1 ≤ g) (hl : 0 ≤ l) (h : cA g l = true) : rowS g (oA g l + g) = [min l (oA g l), max l (oA g l), oA g l + g] := by
  unfold rowS
  rw [← cA_mul hg h, rt_sq hl, show oA g l + g - g = oA g l by omega]
def slBody : List Sm := [.ifs (.b (.op2 .eq (.op2 .mod (.op2 .sub (.op2 .mul (.v 3) (.v 3)) (.op2 .mul (.v 0) (.v 0))) (.op2 .mul (.c (.int 2)) (.v 0))) (.c (.int 0)))) [.set (.n 4) (.op2 .fdiv (.op2 .sub (.op2 .mul (.v 3) (.v 3)) (.op2 .mul (.v 0) (.v 0))) (.op2 .mul (.c (.int 2)) (.v 0))), .append 2 (.tup [(.op2 .min (.v 3) (.v 4)), (.op2 .max (.v 3) (.v 4)), (.op2 .add (.v 4) (.v 0))])] [], .set (.n 3) (.op2 .add (.v 3) (.c (.int 1)))]
def slT : G.T := .b (.op2 .le (.op2 .mul (.v 3) (.v 3)) (.op2 .mul (.v 0) (.op2 .sub (.op2 .mul (.c (.int 2)) (.v 1)) (.v 0))))
theorem sl_loop {cal : Call} {g m : Int} (hg : 1 ≤ g) (hg9 : g ≤ 1000) (hm : 1 ≤ m) (hm9 : m ≤ 1000000) : ∀ (j : Nat) (l : Int) (s4 : S), g + 1 ≤ l → l ≤ 50000 → S.nr s4 → (rt (g * (2 * m - g)) + 1 - l).toNat ≤ j →
    ∃ l' s4', S.nr s4' ∧ whileS (evalT cal slT) (execs cal slBody) [.v (.int g), .v (.int m), .own (.lst (((slA g l).map (rowS g)).map tupD)), .v (.int l), s4] = .nx [.v (.int g), .v (.int m), .own (.lst (((slA g (max l (rt (g * (2 * m - g)) + 1))).map (rowS g)).map tupD)), .v (.int l'), s4'] := by
  have bnd : rt (g * (2 * m - g)) ≤ 45000 := by
    refine Classical.byContradiction fun w => ?_
    have h1 := (rt_le_iff (N := g * (2 * m - g)) (l := 45000) (by omega)).mpr (by omega)
    have h2 : g * (2 * m - g) ≤ 1000 * 2000000 := by
      by_cases c : 0 ≤ 2 * m - g
      · exact Int.mul_le_mul hg9 (by omega) c (by omega)
      · have := Int.mul_nonneg (show 0 ≤ g by omega) (show 0 ≤ -(2 * m - g) by omega)
        rw [Int.mul_neg] at this
        omega
    omega
  have m1 : ∀ w : Int, mulOk g w = true := fun w => mulOk_l (by omega)
  intro j
  induction j with
  | zero =>
    intro l s4 h1 h9 n4 hj
    have mo : mulOk l l = true := mulOk_l (by omega)
    have hc : ¬ l * l ≤ g * (2 * m - g) := fun w => by have := (rt_le_iff (by omega)).mp w; omega
    refine ⟨l, s4, n4, ?_⟩
    rw [whileS_eq, show max l (rt (g * (2 * m - g)) + 1) = l by omega]
    simp [slT, mo, m1, mulOk_l, hc]
  | succ j ih =>
    intro l s4 h1 h9 n4 hj
    have mo : mulOk l l = true := mulOk_l (by omega)
    by_cases hc : l * l ≤ g * (2 * m - g)
    · have hlt := (rt_le_iff (by omega)).mp hc
      have f1 : (l * l - g * g).fmod (2 * g) = (l * l - g * g) % (2 * g) := Int.fmod_eq_emod_of_nonneg _ (by omega)
      have f2 : (l * l - g * g).fdiv (2 * g) = oA g l := Int.fdiv_eq_ediv_of_nonneg _ (by omega)
      have n0 : ¬ (2 * g = 0) := by omega
      have n00 : ¬ g = 0 := by omega
      have b2g : Bits (2 * g) 12 := ⟨by omega⟩
      have dv : divOk (2 * g) = true := divOk_bd (by omega) (by omega)
      have hlen : (slA g l).length < line := by
        have := slA_len (g := g) (l := l)
        unfold line
        omega
      have mn : ∀ x y : Int, (if y < x then y else x) = min x y := fun x y => by split <;> omega
      have mx : ∀ x y : Int, (if x < y then y else x) = max x y := fun x y => by split <;> omega
      have n4' : ∀ d, ¬ s4 = .ref d := n4
      have hmax : max l (rt (g * (2 * m - g)) + 1) = max (l + 1) (rt (g * (2 * m - g)) + 1) := by omega
      by_cases cc : (l * l - g * g) % (2 * g) = 0
      · have hA : cA g l = true := by simp [cA, cc]
        obtain ⟨l', s4', nr, e⟩ := ih (l + 1) (.v (.int (oA g l))) (by omega) (by omega) nr_v (by omega)
        refine ⟨l', s4', nr, ?_⟩
        rw [slA_succ h1, hA, if_pos rfl, List.map_append, List.map_append] at e
        simp only [List.map_cons, List.map_nil, rowS_A hg (by omega) hA] at e
        rw [whileS_eq, hmax]
        simp [slT, mo, m1, mulOk_l, hc, slBody, f1, n0, n00, cc, f2, dv, mn, mx, hlen, n4']
        simpa [slT, slBody, tupD] using e
      · have hA : cA g l = false := by simp [cA, cc]
        obtain ⟨l', s4', nr, e⟩ := ih (l + 1) s4 (by omega) (by omega) n4 (by omega)
        refine ⟨l', s4', nr, ?_⟩
        rw [slA_succ h1, hA, if_neg (by simp), List.append_nil] at e
        rw [whileS_eq, hmax]
        simp [slT, mo, m1, mulOk_l, hc, slBody, f1, n0, n00, cc]
        simpa [slT, slBody] using e
    · have hlt : ¬ l ≤ rt (g * (2 * m - g)) := fun w => hc ((rt_le_iff (by omega)).mpr w)
      refine ⟨l, s4, n4, ?_⟩
      rw [whileS_eq, show max l (rt (g * (2 * m - g)) + 1) = l by omega]
      simp [slT, mo, m1, mulOk_l, hc]
end G
end

section
set_option maxHeartbeats 4000000
/-! Law 82: slant rows, the program's defs. -/
namespace G
variable {T : Table}
noncomputable def srt (g m : Int) : List D := (sortR ((slB g m).map (rowS g))).map tupD
theorem srt_len {g m : Int} : (srt g m).length = (slB g m).length := by
  unfold srt
  rw [List.length_map, (sortR_perm _).length_eq, List.length_map]
theorem slB_len {g m : Int} : (slB g m).length ≤ (m - g).toNat := by
  unfold slB
  exact Nat.le_trans (List.length_filter_le _ _) (by rw [rng_len]; omega)
theorem mem_srt {g m : Int} {d : D} : d ∈ srt g m ↔ ∃ c, c ∈ slB g m ∧ d = tupD (rowS g c) := by
  unfold srt
  rw [List.mem_map]
  constructor
  · rintro ⟨r, hr, rfl⟩
    obtain ⟨c, hc, rfl⟩ := List.mem_map.mp ((sortR_perm _).mem_iff.mp hr)
    exact ⟨c, hc, rfl⟩
  · rintro ⟨c, hc, rfl⟩
    exact ⟨_, (sortR_perm _).mem_iff.mpr (List.mem_map.mpr ⟨c, hc, rfl⟩), rfl⟩
theorem fits_tupD {n : Nat} : ∀ {rs : List (List Int)}, D.fits (n + 1) (rs.map tupD) = true
  | [] => by simp
  | r :: rs => by
    have h : ∀ r : List Int, D.fits n (r.map D.int) = true := by
      intro r
      induction r with
      | nil => simp
      | cons x xs ih => simp [ih]
    simp [tupD, h, fits_tupD (rs := rs)]
theorem fits_srt {n : Nat} {g m : Int} : D.fits (n + 1) (srt g m) = true := fits_tupD
theorem rowS_ne {g : Int} (l : List Int) : ∀ r ∈ l.map (rowS g), r.isEmpty = false := by
  intro r hr
  obtain ⟨c, _, rfl⟩ := List.mem_map.mp hr
  rfl
theorem r_slants_in_82 [H_slants_in_82 T] {k : Nat} {g m : Int} (hg : 1 ≤ g) (hg9 : g ≤ 1000) (hm : 1 ≤ m) (hm9 : m ≤ 1000000) : run T (k + 1) i_slants_in [.v (.int g), .v (.int m)] = .ok (.lst (srt g m), true) .non := by
  obtain ⟨l', s4', nr, e⟩ := sl_loop (cal := run T k) hg hg9 hm hm9 _ (g + 1) .no (by omega) (by omega) nr_no (Nat.le_refl _)
  have h0 : slA g (g + 1) = [] := by unfold slA; rw [rng_empty (Int.le_refl _)]; rfl
  have h1 : slA g (max (g + 1) (rt (g * (2 * m - g)) + 1)) = slB g m := by
    rw [← sl_eq hg]
    by_cases c : g + 1 ≤ rt (g * (2 * m - g)) + 1
    · rw [show max (g + 1) (rt (g * (2 * m - g)) + 1) = rt (g * (2 * m - g)) + 1 by omega]
    · rw [show max (g + 1) (rt (g * (2 * m - g)) + 1) = g + 1 by omega, h0]
      unfold slA
      rw [rng_empty (by omega)]; rfl
  rw [h0, h1] at e
  simp only [List.map_nil] at e
  have hs := sortD_rows (rowS_ne (g := g) (slB g m))
  have hB : f_slants_in_82.body = [.par [2, 3] [(.lst []), (.op2 .add (.v 0) (.c (.int 1)))], .whil slT slBody, .ret (.op1 .sorted (.v 2))] := rfl
  rw [run_succ, hB]
  have hargs : argsOk f_slants_in_82 [.v (.int g), .v (.int m)] = true := rfl
  have hst : start f_slants_in_82.slots [.v (.int g), .v (.int m)] = [.v (.int g), .v (.int m), .no, .no, .no] := rfl
  have hby : f_slants_in_82.byref = false := rfl
  rw [hargs, hst, hby]
  generalize slT = TT at *
  generalize slBody = BB at *
  simp [e, hs, srt, -List.map_map]
theorem r_need_gap_and_most [H_need_gap_and_most T] {k : Nat} {g m : Int} (hg : 1 ≤ g) (hg9 : g ≤ 1000) (hm : 1 ≤ m) (hm9 : m ≤ 1000000) : run T (k + 4) i_need_gap_and_most [.v (.int g), .v (.int m)] = .ok (.non, false) .non := by
  have n1 := r_need_whole (T := T) (k := k) (a := g) (lo := 1) (hi := 1000) hg hg9
  have h1 : ¬ 1000000 < m := by omega
  have h2 : m ≤ 1000000000 := by omega
  rw [run_succ]
  simp [f_need_gap_and_most, argsOk, n1, hm, h1, h2]
theorem r_slants_up_to [H_slants_up_to T] {k : Nat} {g m : Int} (hg : 1 ≤ g) (hg9 : g ≤ 1000) (hm : 1 ≤ m) (hm9 : m ≤ 1000000) : run T (k + 5) i_slants_up_to [.v (.int g), .v (.int m)] = .ok (.tup (srt g m), false) .non := by
  have e1 := r_need_gap_and_most (T := T) (k := k) hg hg9 hm hm9
  have e2 := r_slants_in_82 (T := T) (k := k + 3) hg hg9 hm hm9
  rw [run_succ]
  simp [f_slants_up_to, argsOk, e1, e2]
theorem r_count_slants_up_to [H_count_slants_up_to T] {k : Nat} {g m : Int} (hg : 1 ≤ g) (hg9 : g ≤ 1000) (hm : 1 ≤ m) (hm9 : m ≤ 1000000) : run T (k + 5) i_count_slants_up_to [.v (.int g), .v (.int m)] = .ok (.int ((slB g m).length : Int), false) .non := by
  have e1 := r_need_gap_and_most (T := T) (k := k) hg hg9 hm hm9
  have e2 := r_slants_in_82 (T := T) (k := k + 3) hg hg9 hm hm9
  rw [run_succ]
  simp [f_count_slants_up_to, argsOk, e1, e2, srt_len]
theorem eq_right : eqG (.str (PySem.Str.ofString "right")) (.str (PySem.Str.ofString "right")) = some true := by decide +kernel
theorem r_slant_gaps [H_slant_gaps T] {k : Nat} {a b c : Int} (t : Tri a b c) (r : a * a + b * b = c * c) : run T (k + 6) i_slant_gaps [.v (.tup [.int a, .int b, .int c])] = .ok (.tup [.int (c - b), .int (c - a)], false) .non := by
  have e1 := r_fits_triangle (T := T) (k := k) t
  have e2 := r_kind_in (T := T) (k := k + 3) t
  have hk : kindD a b c = .str (PySem.Str.ofString "right") := by unfold kindD; rw [if_pos (by omega)]
  rw [hk] at e2
  have e3 : run T (k + 5) i_need_right [.v (.tup [.int a, .int b, .int c])] = .ok (.non, false) .non := by
    rw [run_succ]
    simp (decide := true) [f_need_right_81, argsOk, e1, e2, eq_right]
  rw [run_succ]
  simp [f_slant_gaps, argsOk, e3]
theorem r_kind_right [H_kind_of T] {k : Nat} {a b c : Int} (t : Tri a b c) (r : a * a + b * b = c * c) : run T (k + 6) i_kind_of [.v (.tup [.int a, .int b, .int c])] = .ok (.str (PySem.Str.ofString "right"), false) .non := by
  have e2 := r_kind_of (T := T) (k := k) t
  have hk : kindD a b c = .str (PySem.Str.ofString "right") := by unfold kindD; rw [if_pos (by omega)]
  rw [hk] at e2
  exact e2
theorem sort2_d {x y : Int} : sortD [.int x, .int y] = some [.int (min x y), .int (max x y)] := by
  have h : intsD [.int x, .int y] = some [x, y] := rfl
  unfold sortD
  rw [h]
  simp only [sortI, insI]
  by_cases c : x ≤ y
  · rw [Int.min_eq_left c, Int.max_eq_right c]; simp [c, sortI, insI]
  · rw [Int.min_eq_right (by omega), Int.max_eq_left (by omega)]; simp [c, sortI, insI]
theorem row_right {g c : Int} (hg : 1 ≤ g) (hc : g + 1 ≤ c) (hs : Sq (g * (2 * c - g))) : 1 ≤ rt (g * (2 * c - g)) ∧ rt (g * (2 * c - g)) * rt (g * (2 * c - g)) + (c - g) * (c - g) = c * c := by
  have h1 : rt (g * (2 * c - g)) * rt (g * (2 * c - g)) = g * (2 * c - g) := hs.2
  have h2 : 1 * 1 ≤ g * (2 * c - g) := Int.mul_le_mul hg (by omega) (by omega) (by omega)
  refine ⟨?_, by rw [h1]; grind⟩
  have := (rt_le_iff (N := g * (2 * c - g)) (l := 1) (by omega)).mp (by omega)
  exact this
theorem mem_right {g m : Int} (hg : 1 ≤ g) (hm9 : m ≤ 1000000) {d : D} (h : d ∈ srt g m) : ∃ a b c, d = .tup [.int a, .int b, .int c] ∧ Tri a b c ∧ a * a + b * b = c * c ∧ (c - b = g ∨ c - a = g) := by
  obtain ⟨c, hc, rfl⟩ := mem_srt.mp h
  obtain ⟨h1, h2⟩ := List.mem_filter.mp (show c ∈ (rng (g + 1) (m + 1)).filter (cB g) from hc)
  obtain ⟨a1, a2⟩ := mem_rng.mp h1
  have hs : Sq (g * (2 * c - g)) := by simpa [cB] using h2
  obtain ⟨p1, p2⟩ := row_right hg a1 hs
  refine ⟨_, _, _, rfl, ?_, ?_, ?_⟩
  · generalize rt (g * (2 * c - g)) = l at *
    have k1 := pyth_lt p1 (show 1 ≤ c - g by omega) (show 1 ≤ c by omega) p2
    have k2 : l < c := by
      refine Classical.byContradiction fun w => ?_
      have := sq_le (show 0 ≤ c by omega) (show c ≤ l by omega)
      have := Int.mul_pos (show 0 < c - g by omega) (show 0 < c - g by omega)
      omega
    constructor <;> omega
  · generalize rt (g * (2 * c - g)) = l at *
    by_cases q : l ≤ c - g
    · rw [Int.min_eq_left q, Int.max_eq_right q]; omega
    · rw [Int.min_eq_right (by omega), Int.max_eq_left (by omega)]; omega
  · generalize rt (g * (2 * c - g)) = l at *
    by_cases q : l ≤ c - g
    · rw [Int.max_eq_right q]; omega
    · rw [Int.min_eq_right (by omega)]; omega
end G
end

section
set_option maxHeartbeats 4000000
namespace G
variable {T : Table}
@[simp] theorem r_height_square [Has T i_is_integer f_is_integer] [Has T i_is_whole f_is_whole] [Has T i_is_side f_is_side] [Has T i_is_tuple_of f_is_tuple_of] [Has T i_fits_triangle f_fits_triangle] [Has T i_need_triangle f_need_triangle] [Has T i_need_whole f_need_whole] [Has T i_need_vertex f_need_vertex] [Has T i_square_number_in f_square_number_in] [Has T i_divisor_of f_divisor_of] [Has T i_lowest f_lowest] [Has T i_height_square_in f_height_square_in] [Has T i_height_square f_height_square] {k : Nat} {a b c i : Int} (h : Tri a b c) (h0 : 0 ≤ i) (h2 : i ≤ 2) :
    run T (k + 7) i_height_square [.v (.tup [.int a, .int b, .int c]), .v (.int i)] = .ok (.tup [.int (hsq (sqn a b c) (sideI a b c i)).num, .int ((hsq (sqn a b c) (sideI a b c i)).den : Int)], false) .non := by
  rw [run_succ]
  simp [f_height_square, argsOk, h, h0, h2]
@[simp] theorem r_height_of [Has T i_is_integer f_is_integer] [Has T i_is_whole f_is_whole] [Has T i_is_side f_is_side] [Has T i_is_tuple_of f_is_tuple_of] [Has T i_fits_triangle f_fits_triangle] [Has T i_need_triangle f_need_triangle] [Has T i_need_whole f_need_whole] [Has T i_need_vertex f_need_vertex] [Has T i_square_number_in f_square_number_in] [Has T i_divisor_of f_divisor_of] [Has T i_lowest f_lowest] [Has T i_height_square_in f_height_square_in] [Has T i_root_in f_root_in] [Has T i_is_square_in f_is_square_in] [Has T i_root_of_fraction f_root_of_fraction] [Has T i_height_of f_height_of] {k : Nat} {a b c i : Int} (h : Tri a b c) (h0 : 0 ≤ i) (h2 : i ≤ 2) :
    run T (k + 7) i_height_of [.v (.tup [.int a, .int b, .int c]), .v (.int i)] = .ok (rootD (hsq (sqn a b c) (sideI a b c i)), false) .non := by
  rw [run_succ]
  have := rbits_hsq (i := i) h
  simp [f_height_of, argsOk, h, h0, h2]
@[simp] theorem r_foot_of [Has T i_is_integer f_is_integer] [Has T i_is_whole f_is_whole] [Has T i_is_side f_is_side] [Has T i_is_tuple_of f_is_tuple_of] [Has T i_fits_triangle f_fits_triangle] [Has T i_need_triangle f_need_triangle] [Has T i_need_whole f_need_whole] [Has T i_need_vertex f_need_vertex] [Has T i_sides_at f_sides_at] [Has T i_divisor_of f_divisor_of] [Has T i_lowest f_lowest] [Has T i_foot_in f_foot_in] [Has T i_foot_of f_foot_of] {k : Nat} {a b c i : Int} (h : Tri a b c) (h0 : 0 ≤ i) (h2 : i ≤ 2) :
    run T (k + 7) i_foot_of [.v (.tup [.int a, .int b, .int c]), .v (.int i)] = .ok (.tup [.int (ftq (sideI a b c i) (oneI a b c i) (otherI a b c i)).num, .int ((ftq (sideI a b c i) (oneI a b c i) (otherI a b c i)).den : Int)], false) .non := by
  rw [run_succ]
  simp [f_foot_of, argsOk, h, h0, h2]
@[simp] theorem r_heights_that_are_whole [Has T i_is_integer f_is_integer] [Has T i_is_whole f_is_whole] [Has T i_is_side f_is_side] [Has T i_is_tuple_of f_is_tuple_of] [Has T i_fits_triangle f_fits_triangle] [Has T i_need_triangle f_need_triangle] [Has T i_square_number_in f_square_number_in] [Has T i_divisor_of f_divisor_of] [Has T i_lowest f_lowest] [Has T i_height_square_in f_height_square_in] [Has T i_root_in f_root_in] [Has T i_is_square_in f_is_square_in] [Has T i_root_of_fraction f_root_of_fraction] [Has T i_whole_ones f_whole_ones] [Has T i_heights_that_are_whole f_heights_that_are_whole] {k : Nat} {a b c : Int} (h : Tri a b c) :
    run T (k + 6) i_heights_that_are_whole [.v (.tup [.int a, .int b, .int c])] = .ok (.tup ((wholes (hsq (sqn a b c) a) (hsq (sqn a b c) b) (hsq (sqn a b c) c)).map D.int), false) .non := by
  rw [run_succ]
  have r0 := rbits_hsq (i := 0) h
  have r1 := rbits_hsq (i := 1) h
  have r2 := rbits_hsq (i := 2) h
  have m0 := r_height_square_in (T := T) (k := k + 2) (i := 0) h (by omega) (by omega)
  have m1 := r_height_square_in (T := T) (k := k + 2) (i := 1) h (by omega) (by omega)
  have m2 := r_height_square_in (T := T) (k := k + 2) (i := 2) h (by omega) (by omega)
  simp [sideI] at r0 r1 r2 m0 m1 m2
  simp (decide := true) [f_heights_that_are_whole, argsOk, h, rangeE, rgOk, rangeI, List.range, List.range.loop, turns, m0, m1, m2, line]
/-! ### places on a side -/
@[simp] theorem r_fits_place [Has T i_is_integer f_is_integer] [Has T i_is_tuple_of f_is_tuple_of] [Has T i_divisor_of f_divisor_of] [Has T i_fits_fraction f_fits_fraction] [Has T i_is_under f_is_under] [Has T i_fits_place f_fits_place] {k : Nat} {a b c i : Int} (h : Tri a b c) (h0 : 0 ≤ i) (h2 : i ≤ 2) {x : Rat} {n : Nat} [RBits x n] (hn : n ≤ 199) :
    run T (k + 3) i_fits_place [.v (.tup [.int a, .int b, .int c]), .v (.int i), .v (.tup [.int x.num, .int (x.den : Int)])] = .ok (.bl (decide (0 ≤ x.num) && decide (x.num ≤ sideI a b c i * (x.den : Int))), false) .non := by
  obtain ⟨s1, s2, s3, s4, s5, s6, _⟩ := sides_ok (i := i) h
  have hat := at_side (a := a) (b := b) (c := c) h0 h2
  have b1 : Bits (sideI a b c i) 31 := ⟨by omega⟩
  have z0 : Bits (0 : Int) 1 := ⟨by decide⟩
  have z1 : Bits (1 : Int) 1 := ⟨by decide⟩
  have u1 := r_is_under (T := T) (k := k + 1) (p := x.num) (q := (x.den : Int)) (r := 0) (s := 1) (by omega)
  have u2 := r_is_under (T := T) (k := k + 1) (p := sideI a b c i) (q := 1) (r := x.num) (s := (x.den : Int)) (by omega)
  rw [run_succ]
  generalize sideI a b c i = s at *
  simp at u1 u2
  by_cases k1 : 0 ≤ x.num
  · have k1' : ¬ x.num < 0 := by omega
    by_cases k2 : x.num ≤ s * (x.den : Int)
    · have k2' : ¬ s * (x.den : Int) < x.num := by omega
      simp [f_fits_place, argsOk, hn, u1, u2, hat, k1', k2', k1, k2]
    · have k2' : s * (x.den : Int) < x.num := by omega
      simp [f_fits_place, argsOk, hn, u1, u2, hat, k1', k2', k1, k2]
  · have k1' : x.num < 0 := by omega
    simp [f_fits_place, argsOk, hn, u1, u2, hat, k1', k1]
@[simp] theorem r_is_place_on [Has T i_is_integer f_is_integer] [Has T i_is_whole f_is_whole] [Has T i_is_side f_is_side] [Has T i_is_tuple_of f_is_tuple_of] [Has T i_fits_triangle f_fits_triangle] [Has T i_need_triangle f_need_triangle] [Has T i_need_whole f_need_whole] [Has T i_need_vertex f_need_vertex] [Has T i_divisor_of f_divisor_of] [Has T i_fits_fraction f_fits_fraction] [Has T i_is_under f_is_under] [Has T i_fits_place f_fits_place] [Has T i_is_place_on f_is_place_on] {k : Nat} {a b c i : Int} (h : Tri a b c) (h0 : 0 ≤ i) (h2 : i ≤ 2) {x : Rat} {n : Nat} [RBits x n] (hn : n ≤ 199) :
    run T (k + 7) i_is_place_on [.v (.tup [.int a, .int b, .int c]), .v (.int i), .v (.tup [.int x.num, .int (x.den : Int)])] = .ok (.bl (decide (0 ≤ x.num) && decide (x.num ≤ sideI a b c i * (x.den : Int))), false) .non := by
  have e := r_fits_place (T := T) (k := k + 3) h h0 h2 (x := x) hn
  rw [run_succ]
  generalize sideI a b c i = s at *
  simp only [r_need_vertex, h, h0, h2, f_is_place_on, argsOk]
  simp [h, h0, h2, e]
theorem zero_sq (x y : Rat) : x + (y - y) * (y - y) = x := by grind
@[simp] theorem r_line_square_foot [Has T i_is_integer f_is_integer] [Has T i_is_whole f_is_whole] [Has T i_is_side f_is_side] [Has T i_is_tuple_of f_is_tuple_of] [Has T i_fits_triangle f_fits_triangle] [Has T i_need_triangle f_need_triangle] [Has T i_need_whole f_need_whole] [Has T i_need_vertex f_need_vertex] [Has T i_divisor_of f_divisor_of] [Has T i_fits_fraction f_fits_fraction] [Has T i_is_under f_is_under] [Has T i_fits_place f_fits_place] [Has T i_need_place_on f_need_place_on] [Has T i_sides_at f_sides_at] [Has T i_lowest f_lowest] [Has T i_foot_in f_foot_in] [Has T i_square_number_in f_square_number_in] [Has T i_height_square_in f_height_square_in] [Has T i_less_by f_less_by] [Has T i_sum_in f_sum_in] [Has T i_product_in f_product_in] [Has T i_line_square_in f_line_square_in] [Has T i_line_square f_line_square]
    {k : Nat} {a b c i : Int} (h : Tri a b c) (h0 : 0 ≤ i) (h2 : i ≤ 2) {x : Rat} (hx : x = ftq (sideI a b c i) (oneI a b c i) (otherI a b c i)) (p1 : 0 ≤ x.num) (p2 : x.num ≤ sideI a b c i * (x.den : Int)) :
    run T (k + 8) i_line_square [.v (.tup [.int a, .int b, .int c]), .v (.int i), .v (.tup [.int x.num, .int (x.den : Int)])] = .ok (.tup [.int (hsq (sqn a b c) (sideI a b c i)).num, .int ((hsq (sqn a b c) (sideI a b c i)).den : Int)], false) .non := by
  have bx : RBits x 70 := by rw [hx]; exact rbits_ftq h
  have bh := rbits_hsq (i := i) h
  have e := r_fits_place (T := T) (k := k + 3) h h0 h2 (x := x) (by omega)
  have ev := r_need_vertex (T := T) (k := k) h h0 h2
  have hf := r_foot_in (T := T) (k := k + 3) h h0 h2
  rw [← hx] at hf
  have hh := r_height_square_in (T := T) (k := k + 3) h h0 h2
  generalize hsq (sqn a b c) (sideI a b c i) = y at *
  have l1 := r_less_by (T := T) (k := k + 3) (p := x.num) (q := (x.den : Int)) (r := x.num) (s := (x.den : Int)) (den0 x) (den0 x) (by omega)
  rw [num_den] at l1
  have hz : x - x = 0 := Rat.sub_self
  rw [hz] at l1
  have l2 := r_product_in (T := T) (k := k + 3) (p := 0) (q := 1) (r := 0) (s := 1) (by omega) (by omega) (by decide)
  have hz2 : (((0 : Int) : Rat) / ((1 : Int) : Rat) * (((0 : Int) : Rat) / ((1 : Int) : Rat))) = 0 := by decide +kernel
  rw [hz2] at l2
  have z0 : Bits (0 : Int) 1 := ⟨by decide⟩
  have z1 : Bits (1 : Int) 1 := ⟨by decide⟩
  have l3 := r_sum_in (T := T) (k := k + 3) (p := y.num) (q := (y.den : Int)) (r := 0) (s := 1) (den0 y) (by omega) (by omega)
  have hz3 : (y.num : Rat) / ((y.den : Int) : Rat) + ((0 : Int) : Rat) / ((1 : Int) : Rat) = y := by
    rw [num_den, show ((0 : Int) : Rat) / ((1 : Int) : Rat) = 0 by decide +kernel, Rat.add_zero]
  rw [hz3] at l3
  have hin : run T (k + 7) i_line_square_in [.v (.tup [.int a, .int b, .int c]), .v (.int i), .v (.tup [.int x.num, .int (x.den : Int)])] = .ok (.tup [.int y.num, .int (y.den : Int)], false) .non := by
    rw [run_succ]
    simp [f_line_square_in, argsOk, hf, hh, l1, l2, l3]
  have hne : run T (k + 7) i_need_place_on [.v (.tup [.int a, .int b, .int c]), .v (.int i), .v (.tup [.int x.num, .int (x.den : Int)])] = .ok (.non, false) .non := by
    rw [run_succ]
    simp [f_need_place_on, argsOk, ev, e, p1, p2]
  rw [run_succ]
  simp [f_line_square, argsOk, hne, hin]
end G
end

section
set_option maxHeartbeats 8000000
namespace G
variable {T : Table}
theorem heron {a b c i : Int} (h0 : 0 ≤ i) (h2 : i ≤ 2) : sqn a b c = 4 * (sideI a b c i * sideI a b c i) * (oneI a b c i * oneI a b c i) - (sideI a b c i * sideI a b c i + oneI a b c i * oneI a b c i - otherI a b c i * otherI a b c i) * (sideI a b c i * sideI a b c i + oneI a b c i * oneI a b c i - otherI a b c i * otherI a b c i) := by
  unfold sqn
  rcases three h0 h2 with rfl | rfl | rfl <;> simp [sideI, oneI, otherI] <;> grind
theorem foot_one {n s o t : Int} (hs : s ≠ 0) (h : n = 4 * (s * s) * (o * o) - (s * s + o * o - t * t) * (s * s + o * o - t * t)) : hsq n s + ftq s o t * ftq s o t = ((o * o : Int) : Rat) := by
  unfold hsq ftq
  have := rat_ne hs
  rw [h]
  have e2 : ((2 : Int) : Rat) = 2 := rfl
  have e4 : ((4 : Int) : Rat) = 4 := rfl
  simp only [Rat.intCast_sub, Rat.intCast_add, Rat.intCast_mul, e2, e4]
  grind
theorem foot_two {n s o t : Int} (hs : s ≠ 0) (h : n = 4 * (s * s) * (o * o) - (s * s + o * o - t * t) * (s * s + o * o - t * t)) : hsq n s + ((s : Rat) - ftq s o t) * ((s : Rat) - ftq s o t) = ((t * t : Int) : Rat) := by
  unfold hsq ftq
  have := rat_ne hs
  rw [h]
  have e2 : ((2 : Int) : Rat) = 2 := rfl
  have e4 : ((4 : Int) : Rat) = 4 := rfl
  simp only [Rat.intCast_sub, Rat.intCast_add, Rat.intCast_mul, e2, e4]
  grind
theorem ftq_cross {s o t : Int} (hs : s ≠ 0) : (ftq s o t).num * (2 * s) = (s * s + o * o - t * t) * ((ftq s o t).den : Int) := by
  obtain ⟨e1, e2⟩ := low_rat (a := s * s + o * o - t * t) (b := 2 * s) (by omega)
  have := lo_cross (a := s * s + o * o - t * t) (b := 2 * s) (by omega)
  rw [e1, e2] at this
  exact this
theorem den_pos (x : Rat) : 0 < (x.den : Int) := by have := x.den_nz; omega
theorem pos_of_mul {x y : Int} (hy : 0 < y) (h : 0 ≤ x * y) : 0 ≤ x := by
  refine Classical.byContradiction fun n => ?_
  have : x * y < 0 := Int.mul_neg_of_neg_of_pos (by omega) hy
  omega
/-- the foot lies beyond the middle -/
theorem foot_mid {s o t : Int} (hs : 1 ≤ s) (ho : 1 ≤ o) (ht : 1 ≤ t) (h : t ≤ o) : 0 ≤ (ftq s o t).num ∧ ¬ 2 * (ftq s o t).num < s * ((ftq s o t).den : Int) := by
  have c := ftq_cross (s := s) (o := o) (t := t) (by omega)
  have d := den_pos (ftq s o t)
  have q := sq_le (show 0 ≤ t by omega) h
  generalize (ftq s o t).num = n at *
  generalize ((ftq s o t).den : Int) = e at *
  have k1 : 0 ≤ (o * o - t * t) * e := Int.mul_nonneg (by omega) (by omega)
  have k2 : (2 * n - s * e) * s = (o * o - t * t) * e := by grind
  have k3 : 0 ≤ 2 * n - s * e := pos_of_mul (y := s) (by omega) (by omega)
  have k4 : 0 ≤ s * e := Int.mul_nonneg (by omega) (by omega)
  omega
/-- beyond the side: the angle there is blunt -/
theorem foot_far {s o t : Int} (hs : 1 ≤ s) (h : ¬ (ftq s o t).num ≤ s * ((ftq s o t).den : Int)) : s * s + t * t < o * o := by
  have c := ftq_cross (s := s) (o := o) (t := t) (by omega)
  have d := den_pos (ftq s o t)
  generalize (ftq s o t).num = n at *
  generalize ((ftq s o t).den : Int) = e at *
  refine Classical.byContradiction fun m => ?_
  have k1 : 0 ≤ (s * s + t * t - o * o) * e := Int.mul_nonneg (by omega) (by omega)
  have k2 : (s * e - n) * (2 * s) = (s * s + t * t - o * o) * e := by grind
  have k3 := pos_of_mul (x := s * e - n) (y := 2 * s) (by omega) (by omega)
  omega
theorem rest_iff {s : Int} {f : Rat} : 0 ≤ ((s : Rat) - f).num ↔ f.num ≤ s * (f.den : Int) := by
  rw [Rat.num_nonneg, ← Rat.le_iff_sub_nonneg, Rat.le_iff, Rat.num_intCast, Rat.den_intCast]
  simp
theorem kind_blunt {a b c i : Int} (h : Tri a b c) (h0 : 0 ≤ i) (h2 : i ≤ 2) (hb : sideI a b c i * sideI a b c i + otherI a b c i * otherI a b c i < oneI a b c i * oneI a b c i) : kindD a b c = .str (PySem.Str.ofString "blunt") := by
  obtain ⟨h1, h3, h4, h5, h6⟩ := h
  have s1 := sq_le (show 0 ≤ b by omega) h4
  have s2 : 0 < a * a := Int.mul_pos (by omega) (by omega)
  unfold kindD
  rcases three h0 h2 with rfl | rfl | rfl <;> simp [sideI, oneI, otherI] at hb
  · rw [if_neg (by omega), if_neg (by omega)]
  · rw [if_neg (by omega), if_neg (by omega)]
  · omega
theorem other_one {a b c i : Int} (h : Tri a b c) (h0 : 0 ≤ i) (h2 : i ≤ 2) : otherI a b c i ≤ oneI a b c i := by
  obtain ⟨h1, h3, h4, h5, h6⟩ := h
  rcases three h0 h2 with rfl | rfl | rfl <;> simp [oneI, otherI] <;> omega
/-- a fraction's root is there just where the number is a square -/
theorem root_hsq {n s : Int} (hs : 1 ≤ s) (hn : 0 ≤ n) : (rootD (hsq n s) = .non) ↔ ¬ Sq n := by
  have hs0 := rat_ne (show s ≠ 0 by omega)
  constructor
  · intro h hq
    have e : hsq n s = ((rt n : Rat) / ((2 * s : Int) : Rat)) * ((rt n : Rat) / ((2 * s : Int) : Rat)) := by
      unfold hsq
      have hn2 : (n : Rat) = (rt n : Rat) * (rt n : Rat) := by rw [← Rat.intCast_mul, hq.2]
      rw [hn2]
      have e2 : ((2 : Int) : Rat) = 2 := rfl
      have e4 : ((4 : Int) : Rat) = 4 := rfl
      simp only [Rat.intCast_mul, e2, e4]
      grind
    have h0 : 0 ≤ ((rt n : Rat) / ((2 * s : Int) : Rat)).num := by
      rw [Rat.num_nonneg, ← Rat.divInt_eq_div]
      exact Rat.divInt_nonneg (rt_nonneg n) (by omega)
    rw [e] at h
    generalize (rt n : Rat) / ((2 * s : Int) : Rat) = y at *
    have e3 : y * y = y ^ 2 := by rw [Rat.pow_succ, Rat.pow_succ, Rat.pow_zero, Rat.one_mul]
    unfold rootD at h
    rw [if_pos] at h
    · cases h
    · rw [e3, Rat.num_pow, Rat.den_pow]
      have k1 : y.num ^ 2 = y.num * y.num := by grind
      have k2 : ((y.den ^ 2 : Nat) : Int) = (y.den : Int) * (y.den : Int) := by rw [Nat.pow_two]; exact Int.natCast_mul ..
      rw [k1, k2]
      exact ⟨⟨Int.mul_nonneg h0 h0, by rw [rt_sq h0]⟩, ⟨Int.mul_nonneg (by omega) (by omega), by rw [rt_sq (by omega)]⟩⟩
  · intro hq
    unfold rootD
    rw [if_neg]
    rintro ⟨h1, h2⟩
    -- num = p p, den = q q, n q q = (2 s p) (2 s p)
    obtain ⟨e1, e2⟩ := low_rat (a := n) (b := 4 * s * s) (Int.mul_ne_zero (Int.mul_ne_zero (by omega) (by omega)) (by omega))
    have c := lo_cross (a := n) (b := 4 * s * s) (Int.mul_ne_zero (Int.mul_ne_zero (by omega) (by omega)) (by omega))
    rw [e1, e2] at c
    have d := den_pos (hsq n s)
    change (hsq n s).num * (4 * s * s) = n * ((hsq n s).den : Int) at c
    have h1' := h1.2
    have h2' := h2.2
    have p0 := rt_nonneg (hsq n s).num
    have q0 := rt_nonneg ((hsq n s).den : Int)
    generalize rt (hsq n s).num = p at *
    generalize rt ((hsq n s).den : Int) = q at *
    rw [← h1', ← h2'] at c
    have qne : q ≠ 0 := fun z => by subst z; omega
    have c2 : (2 * s * p) * (2 * s * p) = n * (q * q) := by grind
    have dv : q * q ∣ (2 * s * p) * (2 * s * p) := ⟨n, by rw [c2, Int.mul_comm]⟩
    have dv2 : q ∣ 2 * s * p := by
      have := Int.natAbs_dvd_natAbs.mpr dv
      rw [Int.natAbs_mul, Int.natAbs_mul, ← Nat.pow_two, ← Nat.pow_two] at this
      exact Int.natAbs_dvd_natAbs.mp ((Nat.pow_dvd_pow_iff (by omega)).mp this)
    obtain ⟨w, hw⟩ := dv2
    have c3 : n = w * w := by
      rw [hw] at c2
      have : (w * w) * (q * q) = n * (q * q) := by grind
      exact (Int.eq_of_mul_eq_mul_right (Int.mul_ne_zero qne qne) this).symm
    apply hq
    rw [c3]
    by_cases w0 : 0 ≤ w
    · exact ⟨Int.mul_nonneg w0 w0, by rw [rt_sq w0]⟩
    · have : w * w = (-w) * (-w) := by grind
      rw [this]
      exact ⟨Int.mul_nonneg (by omega) (by omega), by rw [rt_sq (by omega)]⟩
end G
end

section
set_option maxHeartbeats 4000000
/-! Law 20: heights and radii of triangles with whole areas. -/
namespace G
def i_plain_of : Nat := 42
def i_times_in : Nat := 38
def i_times_of : Nat := 43
def i_whole_area_in : Nat := 198
def i_need_whole_area : Nat := 215
def i_height_in : Nat := 216
def i_heights_of : Nat := 220
def i_whole_height_sides : Nat := 221
def i_inner_radius : Nat := 222
def i_round_radius : Nat := 223
def i_outer_radii : Nat := 224
def i_others_of : Nat := 217
def i_parts_in : Nat := 218
def i_need_place : Nat := 219
def i_right_parts : Nat := 225
def i__law_whole_drawn : Nat := 206
def i_is_fraction : Nat := 12
def i_square_number : Nat := 15
def i__law_area : Nat := 204
def i__law_times : Nat := 227
def i__law_parts : Nat := 228
def i__law_sides_right : Nat := 229
def f_plain_of : Fn := ⟨1, 1, false, [
  .expr (.call i_need_triangle [(.v 0)]),
  .ret (.call i_plain_in [(.v 0)])]⟩
def f_times_in : Fn := ⟨2, 3, false, [
  .ret (.op1 .tuple (.comp [2] (.op2 .mul (.v 2) (.v 1)) (.n 2) (.e (.v 0)) [] []))]⟩
def f_times_of : Fn := ⟨2, 2, false, [
  .expr (.call i_need_triangle [(.v 0)]),
  .expr (.call i_need_whole [(.v 1), (.c (.int 1)), (.c (.int 1000000))]),
  .ifs (.b (.op2 .gt (.op2 .mul (.op2 .idx (.v 0) (.c (.int 2))) (.v 1)) (.c (.int 1000000000)))) [.rais 3 [(.c (.str (PySem.Str.ofString "a side would be too great")))]] [],
  .ret (.call i_times_in [(.v 0), (.v 1)])]⟩
def f_whole_area_in : Fn := ⟨1, 3, false, [
  .set (.n 1) (.call i_square_number_in [(.v 0)]),
  .set (.n 2) (.call i_root_in [(.v 1)]),
  .ret (.ifx (.and (.b (.op2 .eq (.op2 .mul (.v 2) (.v 2)) (.v 1))) (.b (.op2 .eq (.op2 .mod (.v 2) (.c (.int 4))) (.c (.int 0))))) (.op2 .fdiv (.v 2) (.c (.int 4))) (.c .non))]⟩
def f_need_whole_area : Fn := ⟨1, 1, false, [
  .expr (.call i_need_triangle [(.v 0)]),
  .ifs (.b (.op1 .isNone (.call i_whole_area_in [(.v 0)]))) [.rais 1 [(.c (.str (PySem.Str.ofString "no whole area")))]] []]⟩
def f_height_in : Fn := ⟨2, 2, false, [
  .ret (.call i_lowest [(.op2 .mul (.c (.int 2)) (.call i_whole_area_in [(.v 0)])), (.op2 .idx (.v 0) (.v 1))])]⟩
def f_heights_of : Fn := ⟨1, 2, false, [
  .expr (.call i_need_whole_area [(.v 0)]),
  .ret (.op1 .tuple (.comp [1] (.call i_height_in [(.v 0), (.v 1)]) (.n 1) (.range [(.c (.int 3))]) [] []))]⟩
def f_whole_height_sides : Fn := ⟨1, 2, false, [
  .expr (.call i_need_whole_area [(.v 0)]),
  .ret (.op1 .tuple (.comp [1] (.v 1) (.n 1) (.range [(.c (.int 3))]) [(.b (.op2 .eq (.op2 .mod (.op2 .mul (.c (.int 2)) (.call i_whole_area_in [(.v 0)])) (.op2 .idx (.v 0) (.v 1))) (.c (.int 0))))] []))]⟩
def f_inner_radius : Fn := ⟨1, 1, false, [
  .expr (.call i_need_whole_area [(.v 0)]),
  .ret (.call i_lowest [(.op2 .mul (.c (.int 2)) (.call i_whole_area_in [(.v 0)])), (.op1 .sum (.v 0))])]⟩
def f_round_radius : Fn := ⟨1, 1, false, [
  .expr (.call i_need_whole_area [(.v 0)]),
  .ret (.call i_lowest [(.op2 .mul (.op2 .mul (.op2 .idx (.v 0) (.c (.int 0))) (.op2 .idx (.v 0) (.c (.int 1)))) (.op2 .idx (.v 0) (.c (.int 2)))), (.op2 .mul (.c (.int 4)) (.call i_whole_area_in [(.v 0)]))])]⟩
def f_outer_radii : Fn := ⟨1, 2, false, [
  .expr (.call i_need_whole_area [(.v 0)]),
  .ret (.op1 .tuple (.comp [1] (.call i_lowest [(.op2 .mul (.c (.int 2)) (.call i_whole_area_in [(.v 0)])), (.op2 .sub (.op1 .sum (.v 0)) (.op2 .mul (.c (.int 2)) (.v 1)))]) (.n 1) (.e (.v 0)) [] []))]⟩
def f_others_of : Fn := ⟨2, 4, false, [
  .ret (.comp [2, 3] (.v 3) (.t [(.n 2), (.n 3)]) (.enum (.v 0)) [(.b (.op2 .ne (.v 2) (.v 1)))] [])]⟩
def f_parts_in : Fn := ⟨2, 8, false, [
  .par [2, 3] [(.op2 .idx (.v 0) (.v 1)), (.call i_height_in [(.v 0), (.v 1)])],
  .set (.t [(.n 4), (.n 5)]) (.call i_others_of [(.v 0), (.v 1)]),
  .set (.n 6) (.call i_lowest [(.op2 .add (.op2 .sub (.op2 .mul (.v 4) (.v 4)) (.op2 .mul (.v 5) (.v 5))) (.op2 .mul (.v 2) (.v 2))), (.op2 .mul (.c (.int 2)) (.v 2))]),
  .set (.n 7) (.call i_lowest [(.op2 .add (.op2 .sub (.op2 .mul (.v 5) (.v 5)) (.op2 .mul (.v 4) (.v 4))) (.op2 .mul (.v 2) (.v 2))), (.op2 .mul (.c (.int 2)) (.v 2))]),
  .ret (.tup [(.tup [(.v 6), (.v 3), (.tup [(.v 4), (.c (.int 1))])]), (.tup [(.v 7), (.v 3), (.tup [(.v 5), (.c (.int 1))])])])]⟩
def f_need_place : Fn := ⟨1, 1, false, [
  .ifs (.not (.e (.call i_is_whole [(.v 0), (.c (.int 0)), (.c (.int 2))]))) [.rais 3 [(.c (.str (PySem.Str.ofString "no index of a side")))]] []]⟩
def f_right_parts : Fn := ⟨2, 2, false, [
  .expr (.call i_need_whole_area [(.v 0)]),
  .expr (.call i_need_place [(.v 1)]),
  .ret (.call i_parts_in [(.v 0), (.v 1)])]⟩
def f__law_plain : Fn := ⟨1, 3, false, [
  .set (.n 1) (.call i__law_divisor [(.call i__law_divisor [(.op2 .idx (.v 0) (.c (.int 0))), (.op2 .idx (.v 0) (.c (.int 1)))]), (.op2 .idx (.v 0) (.c (.int 2)))]),
  .ret (.op1 .tuple (.comp [2] (.op1 .int (.op2 .fdiv (.v 2) (.v 1))) (.n 2) (.e (.v 0)) [] []))]⟩
def f__law_whole_drawn : Fn := ⟨2, 9, true, [
  .par [2, 3] [(.op2 .add (.c (.int 1)) (.callr i__law_roll 0 [(.v 1)])), (.op2 .add (.c (.int 1)) (.callr i__law_roll 0 [(.v 1)]))],
  .set (.n 4) (.c (.int 1)),
  .whil (.and (.b (.op2 .lt (.op2 .mul (.op2 .add (.v 4) (.c (.int 1))) (.op2 .add (.v 4) (.c (.int 1)))) (.op2 .mul (.v 2) (.v 3)))) (.b (.op2 .gt (.callr i__law_roll 0 [(.c (.int 4))]) (.c (.int 0))))) [.set (.n 4) (.op2 .add (.v 4) (.c (.int 1)))],
  .ifs (.and (.b (.op2 .eq (.v 2) (.c (.int 1)))) (.b (.op2 .eq (.v 3) (.c (.int 1))))) [.set (.n 3) (.c (.int 2))] [],
  .set (.n 5) (.lst [(.op2 .mul (.v 3) (.op2 .add (.op2 .mul (.v 2) (.v 2)) (.op2 .mul (.v 4) (.v 4)))), (.op2 .mul (.v 2) (.op2 .add (.op2 .mul (.v 3) (.v 3)) (.op2 .mul (.v 4) (.v 4)))), (.op2 .mul (.op2 .add (.v 2) (.v 3)) (.op2 .sub (.op2 .mul (.v 2) (.v 3)) (.op2 .mul (.v 4) (.v 4))))]),
  .set (.n 6) (.call i__law_plain [(.v 5)]),
  .set (.n 7) (.op2 .add (.c (.int 1)) (.callr i__law_roll 0 [(.c (.int 3))])),
  .ret (.op1 .tuple (.op1 .sorted (.comp [8] (.op2 .mul (.v 7) (.v 8)) (.n 8) (.e (.v 6)) [] [])))]⟩
def f_is_fraction : Fn := ⟨1, 1, false, [
  .ret (.call i_fits_fraction [(.v 0)])]⟩
def f_square_number : Fn := ⟨1, 1, false, [
  .expr (.call i_need_triangle [(.v 0)]),
  .ret (.call i_square_number_in [(.v 0)])]⟩
def f__law_area : Fn := ⟨1, 3, false, [
  .set (.n 1) (.call i__law_square_number [(.v 0)]),
  .set (.n 2) (.call i__law_root [(.v 1)]),
  .ret (.ifx (.and (.b (.op2 .eq (.op2 .mul (.v 2) (.v 2)) (.v 1))) (.b (.op2 .eq (.op2 .mod (.op1 .int (.v 2)) (.c (.int 4))) (.c (.int 0))))) (.op1 .int (.op2 .fdiv (.v 2) (.c (.int 4)))) (.c .non))]⟩
def f__law_times : Fn := ⟨2, 2, false, [
  .ret (.call i__law_least [(.op2 .mul (.op2 .idx (.v 0) (.c (.int 0))) (.op2 .idx (.v 1) (.c (.int 0)))), (.op2 .mul (.op2 .idx (.v 0) (.c (.int 1))) (.op2 .idx (.v 1) (.c (.int 1))))])]⟩
def f__law_parts : Fn := ⟨2, 10, false, [
  .par [2, 3] [(.op2 .idx (.v 0) (.v 1)), (.comp [8, 9] (.v 9) (.t [(.n 8), (.n 9)]) (.enum (.v 0)) [(.b (.op2 .ne (.v 8) (.v 1)))] [])],
  .set (.n 4) (.call i__law_least [(.op2 .mul (.c (.int 2)) (.call i__law_area [(.v 0)])), (.v 2)]),
  .set (.n 5) (.lst []),
  .forr (.t [(.n 6), (.n 7)]) (.e (.tup [(.tup [(.op2 .idx (.v 3) (.c (.int 0))), (.op2 .idx (.v 3) (.c (.int 1)))]), (.tup [(.op2 .idx (.v 3) (.c (.int 1))), (.op2 .idx (.v 3) (.c (.int 0)))])])) [.append 5 (.tup [(.call i__law_least [(.op2 .add (.op2 .sub (.op2 .mul (.v 6) (.v 6)) (.op2 .mul (.v 7) (.v 7))) (.op2 .mul (.v 2) (.v 2))), (.op2 .mul (.c (.int 2)) (.v 2))]), (.v 4), (.tup [(.v 6), (.c (.int 1))])])],
  .ret (.op1 .tuple (.v 5))]⟩
def f__law_sides_right : Fn := ⟨1, 6, false, [
  .forr (.n 1) (.range [(.c (.int 3))]) [.set (.n 2) (.call i__law_parts [(.v 0), (.v 1)]), .ifs (.not (.e (.call i__law_like [(.call i_right_parts [(.v 0), (.v 1)]), (.v 2)]))) [.ret (.c (.bl false))] [], .ifs (.b (.op2 .ne (.call i__law_sum [(.op2 .idx (.op2 .idx (.v 2) (.c (.int 0))) (.c (.int 0))), (.op2 .idx (.op2 .idx (.v 2) (.c (.int 1))) (.c (.int 0)))]) (.tup [(.op2 .idx (.v 0) (.v 1)), (.c (.int 1))]))) [.ret (.c (.bl false))] [], .forr (.t [(.n 3), (.n 4), (.n 5)]) (.e (.v 2)) [.ifs (.b (.op2 .ne (.call i__law_sum [(.call i__law_times [(.v 3), (.v 3)]), (.call i__law_times [(.v 4), (.v 4)])]) (.call i__law_times [(.v 5), (.v 5)]))) [.ret (.c (.bl false))] []]],
  .ret (.c (.bl true))]⟩
def f__law_right_20 : Fn := ⟨1, 13, false, [
  .par [1, 2] [(.call i__law_area [(.v 0)]), (.op1 .sum (.v 0))],
  .set (.n 3) (.op1 .tuple (.comp [11] (.call i__law_least [(.op2 .mul (.c (.int 2)) (.v 1)), (.v 11)]) (.n 11) (.e (.v 0)) [] [])),
  .set (.n 4) (.op1 .tuple (.comp [11] (.call i__law_least [(.op2 .mul (.c (.int 2)) (.v 1)), (.op2 .sub (.v 2) (.op2 .mul (.c (.int 2)) (.v 11)))]) (.n 11) (.e (.v 0)) [] [])),
  .par [5, 6] [(.call i__law_least [(.op2 .mul (.c (.int 2)) (.v 1)), (.v 2)]), (.call i__law_least [(.op2 .mul (.op2 .mul (.op2 .idx (.v 0) (.c (.int 0))) (.op2 .idx (.v 0) (.c (.int 1)))) (.op2 .idx (.v 0) (.c (.int 2)))), (.op2 .mul (.c (.int 4)) (.v 1))])],
  .set (.n 7) (.lst [(.call i_heights_of [(.v 0)]), (.call i_outer_radii [(.v 0)]), (.call i_inner_radius [(.v 0)]), (.call i_round_radius [(.v 0)])]),
  .ifs (.or (.not (.e (.call i__law_like [(.v 7), (.lst [(.v 3), (.v 4), (.v 5), (.v 6)])]))) (.b (.op2 .ne (.comp [10] (.v 10) (.n 10) (.e (.op2 .add (.v 3) (.v 4))) [(.b (.op1 (.notB true) (.call i_is_fraction [(.v 10)])))] []) (.lst [])))) [.ret (.c (.bl false))] [],
  .ifs (.not (.e (.call i__law_like [(.call i_whole_height_sides [(.v 0)]), (.op1 .tuple (.comp [12] (.v 12) (.n 12) (.range [(.c (.int 3))]) [(.b (.op2 .eq (.op2 .idx (.op2 .idx (.v 3) (.v 12)) (.c (.int 1))) (.c (.int 1))))] []))]))) [.ret (.c (.bl false))] [],
  .forr (.n 8) (.e (.tup [(.v 3), (.v 4)])) [.set (.n 9) (.tup [(.c (.int 0)), (.c (.int 1))]), .forr (.n 10) (.e (.v 8)) [.set (.n 9) (.call i__law_sum [(.v 9), (.tup [(.op2 .idx (.v 10) (.c (.int 1))), (.op2 .idx (.v 10) (.c (.int 0)))])])], .ifs (.b (.op2 .ne (.v 9) (.tup [(.op2 .idx (.v 5) (.c (.int 1))), (.op2 .idx (.v 5) (.c (.int 0)))]))) [.ret (.c (.bl false))] []],
  .ret (.and (.op2 .eq (.call i_square_number [(.v 0)]) (.op2 .mul (.op2 .mul (.c (.int 16)) (.v 1)) (.v 1))) (.call i__law_sides_right [(.v 0)]))]⟩
def f_law_20 : Fn := ⟨1, 12, false, [
  .set (.n 1) (.tup [(.c (.int 13)), (.c (.int 14)), (.c (.int 15))]),
  .set (.n 2) (.lst [(.call i_heights_of [(.v 1)]), (.call i_whole_height_sides [(.v 1)]), (.call i_inner_radius [(.v 1)]), (.call i_round_radius [(.v 1)]), (.call i_outer_radii [(.v 1)]), (.call i_right_parts [(.v 1), (.c (.int 2))])]),
  .set (.n 3) (.lst [(.tup [(.tup [(.c (.int 168)), (.c (.int 13))]), (.tup [(.c (.int 12)), (.c (.int 1))]), (.tup [(.c (.int 56)), (.c (.int 5))])]), (.tup [(.c (.int 1))]), (.tup [(.c (.int 4)), (.c (.int 1))]), (.tup [(.c (.int 65)), (.c (.int 8))]), (.tup [(.tup [(.c (.int 21)), (.c (.int 2))]), (.tup [(.c (.int 12)), (.c (.int 1))]), (.tup [(.c (.int 14)), (.c (.int 1))])]), (.tup [(.tup [(.tup [(.c (.int 33)), (.c (.int 5))]), (.tup [(.c (.int 56)), (.c (.int 5))]), (.tup [(.c (.int 13)), (.c (.int 1))])]), (.tup [(.tup [(.c (.int 42)), (.c (.int 5))]), (.tup [(.c (.int 56)), (.c (.int 5))]), (.tup [(.c (.int 14)), (.c (.int 1))])])])]),
  .ifs (.not (.e (.call i__law_like [(.v 2), (.v 3)]))) [.ret (.c (.bl false))] [],
  .set (.n 2) (.lst [(.call i_right_parts [(.tup [(.c (.int 3)), (.c (.int 4)), (.c (.int 5))]), (.c (.int 0))]), (.call i_right_parts [(.tup [(.c (.int 4)), (.c (.int 13)), (.c (.int 15))]), (.c (.int 0))]), (.call i_whole_height_sides [(.tup [(.c (.int 3)), (.c (.int 4)), (.c (.int 5))])])]),
  .ifs (.not (.e (.call i__law_like [(.v 2), (.lst [(.tup [(.tup [(.tup [(.c (.int 0)), (.c (.int 1))]), (.tup [(.c (.int 4)), (.c (.int 1))]), (.tup [(.c (.int 4)), (.c (.int 1))])]), (.tup [(.tup [(.c (.int 3)), (.c (.int 1))]), (.tup [(.c (.int 4)), (.c (.int 1))]), (.tup [(.c (.int 5)), (.c (.int 1))])])]), (.tup [(.tup [(.tup [(.op1 .neg (.c (.int 5))), (.c (.int 1))]), (.tup [(.c (.int 12)), (.c (.int 1))]), (.tup [(.c (.int 13)), (.c (.int 1))])]), (.tup [(.tup [(.c (.int 9)), (.c (.int 1))]), (.tup [(.c (.int 12)), (.c (.int 1))]), (.tup [(.c (.int 15)), (.c (.int 1))])])]), (.tup [(.c (.int 0)), (.c (.int 1))])])]))) [.ret (.c (.bl false))] [],
  .set (.n 4) (.call i__law_cup [(.v 0)]),
  .forr (.n 5) (.e (.tup [(.c (.int 2)), (.c (.int 4)), (.c (.int 9)), (.c (.int 30))])) [.set (.n 6) (.callr i__law_whole_drawn 4 [(.v 5)]), .ifs (.not (.e (.call i__law_right [(.v 6)]))) [.ret (.c (.bl false))] [], .set (.n 7) (.op2 .add (.c (.int 1)) (.callr i__law_roll 4 [(.op2 .min (.op2 .pow (.c (.int 10)) (.c (.int 6))) (.op1 .int (.op2 .fdiv (.op2 .pow (.c (.int 10)) (.c (.int 9))) (.op2 .idx (.v 6) (.c (.int 2))))))])), .set (.n 8) (.call i_times_of [(.v 6), (.v 7)]), .ifs (.or (.not (.e (.call i__law_like [(.lst [(.v 8), (.call i_plain_of [(.v 8)])]), (.lst [(.op1 .tuple (.comp [11] (.op2 .mul (.v 7) (.v 11)) (.n 11) (.e (.v 6)) [] [])), (.call i__law_plain [(.v 6)])])]))) (.not (.e (.call i__law_right [(.v 8)])))) [.ret (.c (.bl false))] []],
  .set (.n 9) (.op2 .add (.c (.int 1)) (.callr i__law_roll 4 [(.op2 .mul (.c (.int 2)) (.op2 .pow (.c (.int 10)) (.c (.int 8))))])),
  .set (.n 10) (.tup [(.op2 .mul (.c (.int 3)) (.v 9)), (.op2 .mul (.c (.int 4)) (.v 9)), (.op2 .mul (.c (.int 5)) (.v 9))]),
  .set (.n 2) (.lst [(.call i_inner_radius [(.v 10)]), (.call i_round_radius [(.v 10)]), (.call i_outer_radii [(.v 10)]), (.to (.call i_heights_of [(.v 10)]) (.c (.int 2)))]),
  .ret (.call i__law_like [(.v 2), (.lst [(.tup [(.v 9), (.c (.int 1))]), (.call i__law_least [(.op2 .mul (.c (.int 5)) (.v 9)), (.c (.int 2))]), (.tup [(.tup [(.op2 .mul (.c (.int 2)) (.v 9)), (.c (.int 1))]), (.tup [(.op2 .mul (.c (.int 3)) (.v 9)), (.c (.int 1))]), (.tup [(.op2 .mul (.c (.int 6)) (.v 9)), (.c (.int 1))])]), (.tup [(.tup [(.op2 .mul (.c (.int 4)) (.v 9)), (.c (.int 1))]), (.tup [(.op2 .mul (.c (.int 3)) (.v 9)), (.c (.int 1))])])])])]⟩
class H_plain_of (T : Table) : Prop where
  s : Has T i_plain_of f_plain_of
  c0 : H_need_triangle T
  c1 : H_plain_in T
instance {T : Table} [h : H_plain_of T] : Has T i_plain_of f_plain_of := h.s
instance {T : Table} [h : H_plain_of T] : H_need_triangle T := h.c0
instance {T : Table} [h : H_plain_of T] : H_plain_in T := h.c1
class H_times_in (T : Table) : Prop where
  s : Has T i_times_in f_times_in
instance {T : Table} [h : H_times_in T] : Has T i_times_in f_times_in := h.s
class H_times_of (T : Table) : Prop where
  s : Has T i_times_of f_times_of
  c0 : H_need_whole T
  c1 : H_need_triangle T
  c2 : H_times_in T
instance {T : Table} [h : H_times_of T] : Has T i_times_of f_times_of := h.s
instance {T : Table} [h : H_times_of T] : H_need_whole T := h.c0
instance {T : Table} [h : H_times_of T] : H_need_triangle T := h.c1
instance {T : Table} [h : H_times_of T] : H_times_in T := h.c2
class H_square_number_in (T : Table) : Prop where
  s : Has T i_square_number_in f_square_number_in
instance {T : Table} [h : H_square_number_in T] : Has T i_square_number_in f_square_number_in := h.s
class H_whole_area_in (T : Table) : Prop where
  s : Has T i_whole_area_in f_whole_area_in
  c0 : H_root_in T
  c1 : H_square_number_in T
instance {T : Table} [h : H_whole_area_in T] : Has T i_whole_area_in f_whole_area_in := h.s
instance {T : Table} [h : H_whole_area_in T] : H_root_in T := h.c0
instance {T : Table} [h : H_whole_area_in T] : H_square_number_in T := h.c1
class H_need_whole_area (T : Table) : Prop where
  s : Has T i_need_whole_area f_need_whole_area
  c0 : H_need_triangle T
  c1 : H_whole_area_in T
instance {T : Table} [h : H_need_whole_area T] : Has T i_need_whole_area f_need_whole_area := h.s
instance {T : Table} [h : H_need_whole_area T] : H_need_triangle T := h.c0
instance {T : Table} [h : H_need_whole_area T] : H_whole_area_in T := h.c1
class H_height_in (T : Table) : Prop where
  s : Has T i_height_in f_height_in
  c0 : H_lowest T
  c1 : H_whole_area_in T
instance {T : Table} [h : H_height_in T] : Has T i_height_in f_height_in := h.s
instance {T : Table} [h : H_height_in T] : H_lowest T := h.c0
instance {T : Table} [h : H_height_in T] : H_whole_area_in T := h.c1
class H_heights_of (T : Table) : Prop where
  s : Has T i_heights_of f_heights_of
  c0 : H_need_whole_area T
  c1 : H_height_in T
instance {T : Table} [h : H_heights_of T] : Has T i_heights_of f_heights_of := h.s
instance {T : Table} [h : H_heights_of T] : H_need_whole_area T := h.c0
instance {T : Table} [h : H_heights_of T] : H_height_in T := h.c1
class H_whole_height_sides (T : Table) : Prop where
  s : Has T i_whole_height_sides f_whole_height_sides
  c0 : H_whole_area_in T
  c1 : H_need_whole_area T
instance {T : Table} [h : H_whole_height_sides T] : Has T i_whole_height_sides f_whole_height_sides := h.s
instance {T : Table} [h : H_whole_height_sides T] : H_whole_area_in T := h.c0
instance {T : Table} [h : H_whole_height_sides T] : H_need_whole_area T := h.c1
class H_inner_radius (T : Table) : Prop where
  s : Has T i_inner_radius f_inner_radius
  c0 : H_lowest T
  c1 : H_whole_area_in T
  c2 : H_need_whole_area T
instance {T : Table} [h : H_inner_radius T] : Has T i_inner_radius f_inner_radius := h.s
instance {T : Table} [h : H_inner_radius T] : H_lowest T := h.c0
instance {T : Table} [h : H_inner_radius T] : H_whole_area_in T := h.c1
instance {T : Table} [h : H_inner_radius T] : H_need_whole_area T := h.c2
class H_round_radius (T : Table) : Prop where
  s : Has T i_round_radius f_round_radius
  c0 : H_lowest T
  c1 : H_whole_area_in T
  c2 : H_need_whole_area T
instance {T : Table} [h : H_round_radius T] : Has T i_round_radius f_round_radius := h.s
instance {T : Table} [h : H_round_radius T] : H_lowest T := h.c0
instance {T : Table} [h : H_round_radius T] : H_whole_area_in T := h.c1
instance {T : Table} [h : H_round_radius T] : H_need_whole_area T := h.c2
class H_outer_radii (T : Table) : Prop where
  s : Has T i_outer_radii f_outer_radii
  c0 : H_lowest T
  c1 : H_whole_area_in T
  c2 : H_need_whole_area T
instance {T : Table} [h : H_outer_radii T] : Has T i_outer_radii f_outer_radii := h.s
instance {T : Table} [h : H_outer_radii T] : H_lowest T := h.c0
instance {T : Table} [h : H_outer_radii T] : H_whole_area_in T := h.c1
instance {T : Table} [h : H_outer_radii T] : H_need_whole_area T := h.c2
class H_others_of (T : Table) : Prop where
  s : Has T i_others_of f_others_of
instance {T : Table} [h : H_others_of T] : Has T i_others_of f_others_of := h.s
class H_parts_in (T : Table) : Prop where
  s : Has T i_parts_in f_parts_in
  c0 : H_lowest T
  c1 : H_height_in T
  c2 : H_others_of T
instance {T : Table} [h : H_parts_in T] : Has T i_parts_in f_parts_in := h.s
instance {T : Table} [h : H_parts_in T] : H_lowest T := h.c0
instance {T : Table} [h : H_parts_in T] : H_height_in T := h.c1
instance {T : Table} [h : H_parts_in T] : H_others_of T := h.c2
class H_need_place (T : Table) : Prop where
  s : Has T i_need_place f_need_place
  c0 : H_is_whole T
instance {T : Table} [h : H_need_place T] : Has T i_need_place f_need_place := h.s
instance {T : Table} [h : H_need_place T] : H_is_whole T := h.c0
class H_right_parts (T : Table) : Prop where
  s : Has T i_right_parts f_right_parts
  c0 : H_need_whole_area T
  c1 : H_parts_in T
  c2 : H_need_place T
instance {T : Table} [h : H_right_parts T] : Has T i_right_parts f_right_parts := h.s
instance {T : Table} [h : H_right_parts T] : H_need_whole_area T := h.c0
instance {T : Table} [h : H_right_parts T] : H_parts_in T := h.c1
instance {T : Table} [h : H_right_parts T] : H_need_place T := h.c2
class H__law_plain (T : Table) : Prop where
  s : Has T i__law_plain f__law_plain
  c0 : H__law_divisor T
instance {T : Table} [h : H__law_plain T] : Has T i__law_plain f__law_plain := h.s
instance {T : Table} [h : H__law_plain T] : H__law_divisor T := h.c0
class H__law_whole_drawn (T : Table) : Prop where
  s : Has T i__law_whole_drawn f__law_whole_drawn
  c0 : H__law_roll T
  c1 : H__law_plain T
instance {T : Table} [h : H__law_whole_drawn T] : Has T i__law_whole_drawn f__law_whole_drawn := h.s
instance {T : Table} [h : H__law_whole_drawn T] : H__law_roll T := h.c0
instance {T : Table} [h : H__law_whole_drawn T] : H__law_plain T := h.c1
class H_fits_fraction (T : Table) : Prop where
  s : Has T i_fits_fraction f_fits_fraction
  c0 : H_is_integer T
  c1 : H_is_tuple_of T
  c2 : H_divisor_of T
instance {T : Table} [h : H_fits_fraction T] : Has T i_fits_fraction f_fits_fraction := h.s
instance {T : Table} [h : H_fits_fraction T] : H_is_integer T := h.c0
instance {T : Table} [h : H_fits_fraction T] : H_is_tuple_of T := h.c1
instance {T : Table} [h : H_fits_fraction T] : H_divisor_of T := h.c2
class H_is_fraction (T : Table) : Prop where
  s : Has T i_is_fraction f_is_fraction
  c0 : H_fits_fraction T
instance {T : Table} [h : H_is_fraction T] : Has T i_is_fraction f_is_fraction := h.s
instance {T : Table} [h : H_is_fraction T] : H_fits_fraction T := h.c0
class H_square_number (T : Table) : Prop where
  s : Has T i_square_number f_square_number
  c0 : H_need_triangle T
  c1 : H_square_number_in T
instance {T : Table} [h : H_square_number T] : Has T i_square_number f_square_number := h.s
instance {T : Table} [h : H_square_number T] : H_need_triangle T := h.c0
instance {T : Table} [h : H_square_number T] : H_square_number_in T := h.c1
class H__law_square_number (T : Table) : Prop where
  s : Has T i__law_square_number f__law_square_number
instance {T : Table} [h : H__law_square_number T] : Has T i__law_square_number f__law_square_number := h.s
class H__law_area (T : Table) : Prop where
  s : Has T i__law_area f__law_area
  c0 : H__law_root T
  c1 : H__law_square_number T
instance {T : Table} [h : H__law_area T] : Has T i__law_area f__law_area := h.s
instance {T : Table} [h : H__law_area T] : H__law_root T := h.c0
instance {T : Table} [h : H__law_area T] : H__law_square_number T := h.c1
class H__law_sum (T : Table) : Prop where
  s : Has T i__law_sum f__law_sum
  c0 : H__law_least T
instance {T : Table} [h : H__law_sum T] : Has T i__law_sum f__law_sum := h.s
instance {T : Table} [h : H__law_sum T] : H__law_least T := h.c0
class H__law_times (T : Table) : Prop where
  s : Has T i__law_times f__law_times
  c0 : H__law_least T
instance {T : Table} [h : H__law_times T] : Has T i__law_times f__law_times := h.s
instance {T : Table} [h : H__law_times T] : H__law_least T := h.c0
class H__law_parts (T : Table) : Prop where
  s : Has T i__law_parts f__law_parts
  c0 : H__law_least T
  c1 : H__law_area T
instance {T : Table} [h : H__law_parts T] : Has T i__law_parts f__law_parts := h.s
instance {T : Table} [h : H__law_parts T] : H__law_least T := h.c0
instance {T : Table} [h : H__law_parts T] : H__law_area T := h.c1
class H__law_sides_right (T : Table) : Prop where
  s : Has T i__law_sides_right f__law_sides_right
  c0 : H_right_parts T
  c1 : H__law_like T
  c2 : H__law_sum T
  c3 : H__law_times T
  c4 : H__law_parts T
instance {T : Table} [h : H__law_sides_right T] : Has T i__law_sides_right f__law_sides_right := h.s
instance {T : Table} [h : H__law_sides_right T] : H_right_parts T := h.c0
instance {T : Table} [h : H__law_sides_right T] : H__law_like T := h.c1
instance {T : Table} [h : H__law_sides_right T] : H__law_sum T := h.c2
instance {T : Table} [h : H__law_sides_right T] : H__law_times T := h.c3
instance {T : Table} [h : H__law_sides_right T] : H__law_parts T := h.c4
class H__law_right_20 (T : Table) : Prop where
  s : Has T i__law_right f__law_right_20
  c0 : H_is_fraction T
  c1 : H_square_number T
  c2 : H_heights_of T
  c3 : H_whole_height_sides T
  c4 : H_inner_radius T
  c5 : H_round_radius T
  c6 : H_outer_radii T
  c7 : H__law_like T
  c8 : H__law_least T
  c9 : H__law_area T
  c10 : H__law_sum T
  c11 : H__law_sides_right T
instance {T : Table} [h : H__law_right_20 T] : Has T i__law_right f__law_right_20 := h.s
instance {T : Table} [h : H__law_right_20 T] : H_is_fraction T := h.c0
instance {T : Table} [h : H__law_right_20 T] : H_square_number T := h.c1
instance {T : Table} [h : H__law_right_20 T] : H_heights_of T := h.c2
instance {T : Table} [h : H__law_right_20 T] : H_whole_height_sides T := h.c3
instance {T : Table} [h : H__law_right_20 T] : H_inner_radius T := h.c4
instance {T : Table} [h : H__law_right_20 T] : H_round_radius T := h.c5
instance {T : Table} [h : H__law_right_20 T] : H_outer_radii T := h.c6
instance {T : Table} [h : H__law_right_20 T] : H__law_like T := h.c7
instance {T : Table} [h : H__law_right_20 T] : H__law_least T := h.c8
instance {T : Table} [h : H__law_right_20 T] : H__law_area T := h.c9
instance {T : Table} [h : H__law_right_20 T] : H__law_sum T := h.c10
instance {T : Table} [h : H__law_right_20 T] : H__law_sides_right T := h.c11
class H_law_20 (T : Table) : Prop where
  s : Has T i_law f_law_20
  c0 : H_plain_of T
  c1 : H_times_of T
  c2 : H_heights_of T
  c3 : H_whole_height_sides T
  c4 : H_inner_radius T
  c5 : H_round_radius T
  c6 : H_outer_radii T
  c7 : H_right_parts T
  c8 : H__law_cup T
  c9 : H__law_roll T
  c10 : H__law_like T
  c11 : H__law_least T
  c12 : H__law_plain T
  c13 : H__law_whole_drawn T
  c14 : H__law_right_20 T
instance {T : Table} [h : H_law_20 T] : Has T i_law f_law_20 := h.s
instance {T : Table} [h : H_law_20 T] : H_plain_of T := h.c0
instance {T : Table} [h : H_law_20 T] : H_times_of T := h.c1
instance {T : Table} [h : H_law_20 T] : H_heights_of T := h.c2
instance {T : Table} [h : H_law_20 T] : H_whole_height_sides T := h.c3
instance {T : Table} [h : H_law_20 T] : H_inner_radius T := h.c4
instance {T : Table} [h : H_law_20 T] : H_round_radius T := h.c5
instance {T : Table} [h : H_law_20 T] : H_outer_radii T := h.c6
instance {T : Table} [h : H_law_20 T] : H_right_parts T := h.c7
instance {T : Table} [h : H_law_20 T] : H__law_cup T := h.c8
instance {T : Table} [h : H_law_20 T] : H__law_roll T := h.c9
instance {T : Table} [h : H_law_20 T] : H__law_like T := h.c10
instance {T : Table} [h : H_law_20 T] : H__law_least T := h.c11
instance {T : Table} [h : H_law_20 T] : H__law_plain T := h.c12
instance {T : Table} [h : H_law_20 T] : H__law_whole_drawn T := h.c13
instance {T : Table} [h : H_law_20 T] : H__law_right_20 T := h.c14
variable {T : Table}
/-- a triangle with a whole area -/
structure WT (a b c A : Int) : Prop where
  t : Tri a b c
  A1 : 1 ≤ A
  eq : 16 * A * A = sqn a b c
theorem WT.bits {a b c A : Int} (h : WT a b c A) : Bits A 64 := ⟨by
  have hb := (sqn_bits h.t).lt
  rw [← h.eq] at hb
  have h1 := h.A1
  refine Classical.byContradiction fun w => ?_
  have w2 : (2 ^ 64 : Int) ≤ A := by omega
  have := Int.mul_le_mul w2 w2 (by omega) (by omega)
  have e : 16 * A * A = 16 * (A * A) := Int.mul_assoc _ _ _
  omega⟩
theorem WT.rt4 {a b c A : Int} (h : WT a b c A) : rt (sqn a b c) = 4 * A := by
  have := h.A1
  rw [← h.eq, show 16 * A * A = (4 * A) * (4 * A) by grind, rt_sq (by omega)]
section
variable {k : Nat} {a b c A : Int} (h : WT a b c A)
include h
theorem r_whole_area_in [H_whole_area_in T] : run T (k + 2) i_whole_area_in [.v (.tup [.int a, .int b, .int c])] = .ok (.int A, false) .non := by
  have e1 := r_square_number_in (T := T) (k := k) h.t
  have bs := sqn_bits h.t
  have e2 := r_root_in (T := T) (k := k) (n := sqn a b c) (by omega)
  rw [h.rt4] at e2
  have ba := h.bits
  have := h.A1
  have m : mulOk (4 * A) (4 * A) = true := by have : Bits (4 * A) 66 := ⟨by have := ba.lt; omega⟩; exact mulOk_bd (by omega)
  have f : (4 * A).fdiv 4 = A := by rw [Int.fdiv_eq_ediv_of_nonneg _ (by omega)]; omega
  have f2 : (4 * A).fmod 4 = 0 := by rw [Int.fmod_eq_emod_of_nonneg _ (by omega)]; omega
  have q : 4 * A * (4 * A) = sqn a b c := by rw [← h.eq]; grind
  have d4 : divOk 4 = true := by decide
  rw [run_succ]
  simp [f_whole_area_in, argsOk, e1, e2, m, f, f2, q, d4]
theorem r__law_area [H__law_area T] : run T (k + 2) i__law_area [.v (.tup [.int a, .int b, .int c])] = .ok (.int A, false) .non := by
  have e1 := r__law_square_number (T := T) (k := k) h.t
  have bs := sqn_bits h.t
  have e2 := r__law_root (T := T) (k := k) (n := sqn a b c) (by omega)
  rw [h.rt4] at e2
  have ba := h.bits
  have := h.A1
  have m : mulOk (4 * A) (4 * A) = true := by have : Bits (4 * A) 66 := ⟨by have := ba.lt; omega⟩; exact mulOk_bd (by omega)
  have f : (4 * A).fdiv 4 = A := by rw [Int.fdiv_eq_ediv_of_nonneg _ (by omega)]; omega
  have f2 : (4 * A).fmod 4 = 0 := by rw [Int.fmod_eq_emod_of_nonneg _ (by omega)]; omega
  have q : 4 * A * (4 * A) = sqn a b c := by rw [← h.eq]; grind
  have d4 : divOk 4 = true := by decide
  rw [run_succ]
  simp [f__law_area, argsOk, e1, e2, m, f, f2, q, d4]
theorem r_need_whole_area [H_need_whole_area T] : run T (k + 6) i_need_whole_area [.v (.tup [.int a, .int b, .int c])] = .ok (.non, false) .non := by
  have e := r_whole_area_in (T := T) (k := k + 3) h
  rw [run_succ]
  simp [f_need_whole_area, argsOk, h.t, e]
end
def qq (n d : Int) : Rat := (n : Rat) / (d : Rat)
section
variable {k : Nat} {a b c A i : Int} (h : WT a b c A)
include h
theorem r_height_in [H_height_in T] (i0 : 0 ≤ i) (i2 : i ≤ 2) : run T (k + 3) i_height_in [.v (.tup [.int a, .int b, .int c]), .v (.int i)] = .ok (.tup [.int (qq (2 * A) (sideI a b c i)).num, .int ((qq (2 * A) (sideI a b c i)).den : Int)], false) .non := by
  have e1 := r_whole_area_in (T := T) (k := k) h
  obtain ⟨s1, _, _, s4, _⟩ := sides_ok (i := i) h.t
  have hat := at_side (a := a) (b := b) (c := c) i0 i2
  generalize sideI a b c i = s at *
  have bs : Bits s 31 := ⟨by omega⟩
  have e2 := r_lowestR (T := T) (k := k) (a := 2 * A) (b := s) (by omega) (by omega)
  rw [run_succ]
  simp [f_height_in, argsOk, e1, mulOk_l, hat, e2, qq]
theorem r_heights_of [H_heights_of T] : run T (k + 7) i_heights_of [.v (.tup [.int a, .int b, .int c])] = .ok (.tup [fr3 (qq (2 * A) a), fr3 (qq (2 * A) b), fr3 (qq (2 * A) c)], false) .non := by
  have e1 := r_need_whole_area (T := T) (k := k) h
  have g0 := r_height_in (T := T) (k := k + 3) h (i := 0) (by omega) (by omega)
  have g1 := r_height_in (T := T) (k := k + 3) h (i := 1) (by omega) (by omega)
  have g2 := r_height_in (T := T) (k := k + 3) h (i := 2) (by omega) (by omega)
  simp [sideI] at g0 g1 g2
  have hr : rng 0 3 = [0, 1, 2] := by decide
  have hg : rgOk 3 = true := by decide
  rw [run_succ]
  simp [f_heights_of, argsOk, e1, hr, hg, turns, line, g0, g1, g2]
theorem tri_sum : intsD [.int a, .int b, .int c] = some [a, b, c] := rfl
theorem r_inner_radius [H_inner_radius T] : run T (k + 7) i_inner_radius [.v (.tup [.int a, .int b, .int c])] = .ok (fr3 (qq (2 * A) (a + b + c)), false) .non := by
  have e1 := r_need_whole_area (T := T) (k := k) h
  have e2 := r_whole_area_in (T := T) (k := k + 4) h
  obtain ⟨h1, h2, h3, h4, h5⟩ := h.t
  have hs : a + (b + (c + 0)) = a + b + c := by omega
  have hs2 : a + (b + c) = a + b + c := by omega
  have bs : Bits (a + b + c) 32 := ⟨by omega⟩
  have e3 := r_lowestR (T := T) (k := k + 4) (a := 2 * A) (b := a + b + c) (by omega) (by omega)
  rw [run_succ]
  simp [f_inner_radius, argsOk, e1, e2, mulOk_l, hs, hs2, e3, qq]
theorem r_round_radius [H_round_radius T] : run T (k + 7) i_round_radius [.v (.tup [.int a, .int b, .int c])] = .ok (fr3 (qq (a * b * c) (4 * A)), false) .non := by
  have e1 := r_need_whole_area (T := T) (k := k) h
  have e2 := r_whole_area_in (T := T) (k := k + 4) h
  obtain ⟨b1, b2, b3⟩ := tri_bits h.t
  have ba := h.bits
  have hA := h.A1
  have b4 : Bits (4 * A) 66 := ⟨by have := ba.lt; omega⟩
  have e3 := r_lowestR (T := T) (k := k + 4) (a := a * b * c) (b := 4 * A) (by omega) (by omega)
  rw [run_succ]
  simp [f_round_radius, argsOk, e1, e2, mulOk_l, e3, qq]
theorem r_outer_radii [H_outer_radii T] : run T (k + 7) i_outer_radii [.v (.tup [.int a, .int b, .int c])] = .ok (.tup [fr3 (qq (2 * A) (a + b + c - 2 * a)), fr3 (qq (2 * A) (a + b + c - 2 * b)), fr3 (qq (2 * A) (a + b + c - 2 * c))], false) .non := by
  have e1 := r_need_whole_area (T := T) (k := k) h
  have e2 := r_whole_area_in (T := T) (k := k + 4) h
  obtain ⟨h1, h2, h3, h4, h5⟩ := h.t
  have hs : a + (b + (c + 0)) = a + b + c := by omega
  have hs2 : a + (b + c) = a + b + c := by omega
  have bs : ∀ s : Int, 1 ≤ s → s ≤ 1000000000 → s < a + b + c - s → run T (k + 6) i_lowest [.v (.int (2 * A)), .v (.int (a + b + c - 2 * s))] = .ok (fr3 (qq (2 * A) (a + b + c - 2 * s)), false) .non := fun s s1 s9 sl => by
    have bb : Bits (a + b + c - 2 * s) 33 := ⟨by omega⟩
    exact r_lowestR (T := T) (k := k + 4) (a := 2 * A) (b := a + b + c - 2 * s) (by omega) (by omega)
  have x1 := bs a (by omega) (by omega) (by omega)
  have x2 := bs b (by omega) (by omega) (by omega)
  have x3 := bs c (by omega) (by omega) (by omega)
  rw [run_succ]
  simp [f_outer_radii, argsOk, e1, e2, mulOk_l, hs, hs2, turns, line, x1, x2, x3]
theorem r_whole_height_sides [H_whole_height_sides T] : run T (k + 7) i_whole_height_sides [.v (.tup [.int a, .int b, .int c])] = .ok (.tup ((if (2 * A) % a = 0 then [.int 0] else []) ++ (if (2 * A) % b = 0 then [.int 1] else []) ++ (if (2 * A) % c = 0 then [.int 2] else [])), false) .non := by
  have e1 := r_need_whole_area (T := T) (k := k) h
  have e2 := r_whole_area_in (T := T) (k := k + 4) h
  obtain ⟨h1, h2, h3, h4, h5⟩ := h.t
  have hr : rng 0 3 = [0, 1, 2] := by decide
  have hg : rgOk 3 = true := by decide
  have fm : ∀ s : Int, 1 ≤ s → (2 * A).fmod s = (2 * A) % s := fun s hs => Int.fmod_eq_emod_of_nonneg _ (by omega)
  have f1 := fm a (by omega)
  have f2 := fm b (by omega)
  have f3 := fm c (by omega)
  have n1 : ¬ a = 0 := by omega
  have n2 : ¬ b = 0 := by omega
  have n3 : ¬ c = 0 := by omega
  rw [run_succ]
  by_cases c1 : (2 * A) % a = 0 <;> by_cases c2 : (2 * A) % b = 0 <;> by_cases c3 : (2 * A) % c = 0 <;>
    simp [f_whole_height_sides, argsOk, e1, e2, hr, hg, turns, line, mulOk_l, f1, f2, f3, n1, n2, n3, c1, c2, c3]
end
/-! ### right parts -/
theorem rbits_qq {n d : Int} {m l : Nat} [hn : Bits n m] [hd : Bits d l] (h0 : d ≠ 0) {j : Nat} (h1 : m ≤ j) (h2 : l ≤ j) : RBits (qq n d) j := by
  obtain ⟨d1, d2⟩ := rbits_div (a := n) (b := d) h0
  exact ⟨Nat.lt_of_lt_of_le d1 (Nat.pow_le_pow_right (by omega) h1), Nat.lt_of_lt_of_le d2 (Nat.pow_le_pow_right (by omega) h2)⟩
theorem heron2 {a b c i : Int} (h0 : 0 ≤ i) (h2 : i ≤ 2) : sqn a b c = 4 * (sideI a b c i * sideI a b c i) * (lowI a b c i * lowI a b c i) - (lowI a b c i * lowI a b c i - highI a b c i * highI a b c i + sideI a b c i * sideI a b c i) * (lowI a b c i * lowI a b c i - highI a b c i * highI a b c i + sideI a b c i * sideI a b c i) ∧
    sqn a b c = 4 * (sideI a b c i * sideI a b c i) * (highI a b c i * highI a b c i) - (highI a b c i * highI a b c i - lowI a b c i * lowI a b c i + sideI a b c i * sideI a b c i) * (highI a b c i * highI a b c i - lowI a b c i * lowI a b c i + sideI a b c i * sideI a b c i) := by
  unfold sqn
  rcases three h0 h2 with rfl | rfl | rfl <;> simp [sideI, lowI, highI] <;> constructor <;> grind
def nearQ (s o t : Int) : Rat := qq (o * o - t * t + s * s) (2 * s)
theorem near_sum {s o t : Int} (hs : 1 ≤ s) : nearQ s o t + nearQ s t o = (s : Rat) := by
  unfold nearQ qq
  have h1 := rat_ne (show s ≠ 0 by omega)
  simp only [Rat.intCast_add, Rat.intCast_sub, Rat.intCast_mul]
  rw [show ((2 : Int) : Rat) = 2 from rfl]
  generalize (s : Rat) = x at *
  generalize (o : Rat) = y at *
  generalize (t : Rat) = z at *
  grind
theorem near_sq {s o t A : Int} (hs : 1 ≤ s) (h : 16 * A * A = 4 * (s * s) * (o * o) - (o * o - t * t + s * s) * (o * o - t * t + s * s)) : nearQ s o t * nearQ s o t + qq (2 * A) s * qq (2 * A) s = (o : Rat) * (o : Rat) := by
  unfold nearQ qq
  have h1 := rat_ne (show s ≠ 0 by omega)
  generalize hN : o * o - t * t + s * s = N at *
  have h2 : (16 : Rat) * A * A = 4 * ((s : Rat) * s) * ((o : Rat) * o) - (N : Rat) * N := by
    have : ((16 * A * A : Int) : Rat) = ((4 * (s * s) * (o * o) - N * N : Int) : Rat) := by rw [h]
    simp only [Rat.intCast_sub, Rat.intCast_mul] at this
    exact this
  simp only [Rat.intCast_mul]
  rw [show ((2 : Int) : Rat) = 2 from rfl]
  generalize (s : Rat) = x at *
  generalize (o : Rat) = y at *
  generalize (N : Rat) = z at *
  generalize (A : Rat) = w at *
  clear h hN
  grind
def partsD (a b c A i : Int) : D := .tup [.tup [fr3 (nearQ (sideI a b c i) (lowI a b c i) (highI a b c i)), fr3 (qq (2 * A) (sideI a b c i)), .tup [.int (lowI a b c i), .int 1]], .tup [fr3 (nearQ (sideI a b c i) (highI a b c i) (lowI a b c i)), fr3 (qq (2 * A) (sideI a b c i)), .tup [.int (highI a b c i), .int 1]]]
theorem near_bits {s o t : Int} (hs : 1 ≤ s) (ho : 1 ≤ o) (ht : 1 ≤ t) (hs9 : s ≤ 1000000000) (ho9 : o ≤ 1000000000) (ht9 : t ≤ 1000000000) : Bits (o * o - t * t + s * s) 62 ∧ Bits (2 * s) 33 := by
  have h1 := sq_le (show 0 ≤ s by omega) hs9
  have h2 := sq_le (show 0 ≤ o by omega) ho9
  have h3 := sq_le (show 0 ≤ t by omega) ht9
  have n1 := Int.mul_nonneg (show 0 ≤ s by omega) (show 0 ≤ s by omega)
  have n2 := Int.mul_nonneg (show 0 ≤ o by omega) (show 0 ≤ o by omega)
  have n3 := Int.mul_nonneg (show 0 ≤ t by omega) (show 0 ≤ t by omega)
  exact ⟨⟨by omega⟩, ⟨by omega⟩⟩
section
variable {k : Nat} {a b c A i : Int} (h : WT a b c A) (i0 : 0 ≤ i) (i2 : i ≤ 2)
include h i0 i2
theorem r_right_parts [H_right_parts T] : run T (k + 7) i_right_parts [.v (.tup [.int a, .int b, .int c]), .v (.int i)] = .ok (partsD a b c A i, false) .non := by
  have e1 := r_need_whole_area (T := T) (k := k) h
  have e2 := r_height_in (T := T) (k := k + 2) h i0 i2
  obtain ⟨s1, s2, s3, s4, s5, s6⟩ := op_ok h.t i0 i2
  obtain ⟨b1, b2⟩ := near_bits s1 s2 s3 s4 s5 s6
  obtain ⟨b3, _⟩ := near_bits s1 s3 s2 s4 s6 s5
  have e3 := r_lowestR (T := T) (k := k + 3) (a := lowI a b c i * lowI a b c i - highI a b c i * highI a b c i + sideI a b c i * sideI a b c i) (b := 2 * sideI a b c i) (by omega) (by omega)
  have e4 := r_lowestR (T := T) (k := k + 3) (a := highI a b c i * highI a b c i - lowI a b c i * lowI a b c i + sideI a b c i * sideI a b c i) (b := 2 * sideI a b c i) (by omega) (by omega)
  have bb1 : Bits a 31 := (tri_bits h.t).1
  have bb2 : Bits b 31 := (tri_bits h.t).2.1
  have bb3 : Bits c 31 := (tri_bits h.t).2.2
  have e5 : run T (k + 6) i_need_place [.v (.int i)] = .ok (.non, false) .non := by
    rw [run_succ]
    simp [f_need_place, argsOk, i0, i2]
  have e6 : run T (k + 5) i_others_of [.v (.tup [.int a, .int b, .int c]), .v (.int i)] = .ok (.lst [.int (lowI a b c i), .int (highI a b c i)], true) .non := by
    rw [run_succ]
    rcases three i0 i2 with rfl | rfl | rfl <;> simp [f_others_of, argsOk, enumE, turns, line, lowI, highI]
  have hat := at_side (a := a) (b := b) (c := c) i0 i2
  have e7 : run T (k + 6) i_parts_in [.v (.tup [.int a, .int b, .int c]), .v (.int i)] = .ok (partsD a b c A i, false) .non := by
    rw [run_succ]
    unfold partsD nearQ
    generalize sideI a b c i = s at *
    generalize lowI a b c i = o at *
    generalize highI a b c i = t at *
    have b4 : Bits s 31 := ⟨by omega⟩
    have b5 : Bits o 31 := ⟨by omega⟩
    have b6 : Bits t 31 := ⟨by omega⟩
    simp [f_parts_in, argsOk, hat, e2, e6, mulOk_l, e3, e4]
    simp [qq]
  rw [run_succ]
  simp [f_right_parts, argsOk, e1, e5, e7]
theorem r__law_parts [H__law_parts T] : run T (k + 7) i__law_parts [.v (.tup [.int a, .int b, .int c]), .v (.int i)] = .ok (partsD a b c A i, false) .non := by
  have e2 := r__law_area (T := T) (k := k + 4) h
  obtain ⟨s1, s2, s3, s4, s5, s6⟩ := op_ok h.t i0 i2
  obtain ⟨b1, b2⟩ := near_bits s1 s2 s3 s4 s5 s6
  obtain ⟨b3, _⟩ := near_bits s1 s3 s2 s4 s6 s5
  have e3 := r__law_leastR (T := T) (k := k + 4) (a := lowI a b c i * lowI a b c i - highI a b c i * highI a b c i + sideI a b c i * sideI a b c i) (b := 2 * sideI a b c i) (by omega) (by omega)
  have e4 := r__law_leastR (T := T) (k := k + 4) (a := highI a b c i * highI a b c i - lowI a b c i * lowI a b c i + sideI a b c i * sideI a b c i) (b := 2 * sideI a b c i) (by omega) (by omega)
  have bs : Bits (sideI a b c i) 31 := ⟨by omega⟩
  have e5 := r__law_leastR (T := T) (k := k + 4) (a := 2 * A) (b := sideI a b c i) (by omega) (by omega)
  have bb1 : Bits a 31 := (tri_bits h.t).1
  have bb2 : Bits b 31 := (tri_bits h.t).2.1
  have bb3 : Bits c 31 := (tri_bits h.t).2.2
  have ap : ∀ x : D, appendTo x [] = some [x] := fun x => by unfold appendTo; rw [if_pos (by unfold line; simp)]; rfl
  have ap2 : ∀ x y : D, appendTo x [y] = some [y, x] := fun x y => by unfold appendTo; rw [if_pos (by unfold line; simp)]; rfl
  rw [run_succ]
  unfold partsD nearQ
  rcases three i0 i2 with rfl | rfl | rfl <;> simp [sideI, lowI, highI] at e3 e4 e5 <;> (simp [f__law_parts, argsOk, enumE, turns, line, forS, mulOk_l, sideI, lowI, highI, e2, e3, e4, e5, ap, ap2]; simp [qq])
end
theorem r__law_times [H__law_times T] {k : Nat} {p q r s : Int} {n1 n2 n3 n4 : Nat} [Bits p n1] [Bits q n2] [Bits r n3] [Bits s n4] (hq : q ≠ 0) (hs : s ≠ 0) (h : n1 + n2 + n3 + n4 < 8990) :
    run T (k + 3) i__law_times [.v (.tup [.int p, .int q]), .v (.tup [.int r, .int s])] = .ok (.tup [.int ((p : Rat) / q * (r / s)).num, .int (((p : Rat) / q * (r / s)).den : Int)], false) .non := by
  have m1 : mulOk p r = true := mulOk_bd (by omega)
  have m2 : mulOk q s = true := mulOk_bd (by omega)
  have e1 := r__law_leastR (T := T) (k := k) (a := p * r) (b := q * s) (Int.mul_ne_zero hq hs) (by omega)
  have e2 : ((p * r : Int) : Rat) / ((q * s : Int) : Rat) = (p : Rat) / q * (r / s) := by
    have h1 := rat_ne hq
    have h2 := rat_ne hs
    simp only [Rat.intCast_mul]
    generalize (p : Rat) = x at *
    generalize (q : Rat) = y at *
    generalize (r : Rat) = z at *
    generalize (s : Rat) = w at *
    clear e1 m1 m2
    grind
  rw [e2] at e1
  rw [run_succ]
  simp [f__law_times, argsOk, m1, m2, e1]
def partBody : List Sm := [.ifs (.b (.op2 .ne (.call i__law_sum [(.call i__law_times [(.v 3), (.v 3)]), (.call i__law_times [(.v 4), (.v 4)])]) (.call i__law_times [(.v 5), (.v 5)]))) [.ret (.c (.bl false))] []]
theorem part_body [H__law_sides_right T] {k : Nat} {x y : Rat} {o : Int} {X0 X1 X2 : S} (bx : RBits x 64) (b_y : RBits y 70) (bo : Bits o 31) (e : x * x + y * y = (o : Rat) * (o : Rat)) :
    execs (run T (k + 6)) partBody [X0, X1, X2, .v (fr3 x), .v (fr3 y), .v (.tup [.int o, .int 1])] = .nx [X0, X1, X2, .v (fr3 x), .v (fr3 y), .v (.tup [.int o, .int 1])] := by
  have e1 := r__law_times (T := T) (k := k + 3) (p := x.num) (q := (x.den : Int)) (r := x.num) (s := (x.den : Int)) (den0 x) (den0 x) (by omega)
  have e2 := r__law_times (T := T) (k := k + 3) (p := y.num) (q := (y.den : Int)) (r := y.num) (s := (y.den : Int)) (den0 y) (den0 y) (by omega)
  have e3 := r__law_times (T := T) (k := k + 3) (p := o) (q := 1) (r := o) (s := 1) (n2 := 1) (n4 := 1) (by omega) (by omega) (by omega)
  rw [num_den] at e1 e2
  rw [show ((1 : Int) : Rat) = 1 from rfl, rat_div_one] at e3
  have b3 : RBits (x * x) 128 := inferInstance
  have b4 : RBits (y * y) 140 := inferInstance
  have e4 := r__law_sum (T := T) (k := k + 3) (p := (x * x).num) (q := ((x * x).den : Int)) (r := (y * y).num) (s := ((y * y).den : Int)) (den0 _) (den0 _) (by omega)
  rw [num_den, num_den, e] at e4
  have e5 := eqG_fr (x := (o : Rat) * (o : Rat)) (y := (o : Rat) * (o : Rat))
  simp [partBody, fr3, e1, e2, e3, e4, e5]
theorem r__law_sides_right [H__law_sides_right T] {k : Nat} {a b c A : Int} (h : WT a b c A) : run T (k + 12) i__law_sides_right [.v (.tup [.int a, .int b, .int c])] = .ok (.bl true, false) .non := by
  have body : ∀ (i : Int) (s2 s3 s4 s5 : S), 0 ≤ i → i ≤ 2 → S.nr s2 → ∃ d2 d3 d4 d5, execs (run T (k + 11)) [.set (.n 2) (.call i__law_parts [(.v 0), (.v 1)]), .ifs (.not (.e (.call i__law_like [(.call i_right_parts [(.v 0), (.v 1)]), (.v 2)]))) [.ret (.c (.bl false))] [], .ifs (.b (.op2 .ne (.call i__law_sum [(.op2 .idx (.op2 .idx (.v 2) (.c (.int 0))) (.c (.int 0))), (.op2 .idx (.op2 .idx (.v 2) (.c (.int 1))) (.c (.int 0)))]) (.tup [(.op2 .idx (.v 0) (.v 1)), (.c (.int 1))]))) [.ret (.c (.bl false))] [], .forr (.t [(.n 3), (.n 4), (.n 5)]) (.e (.v 2)) partBody]
      [.v (.tup [.int a, .int b, .int c]), .v (.int i), s2, s3, s4, s5] = .nx [.v (.tup [.int a, .int b, .int c]), .v (.int i), .v d2, .v d3, .v d4, .v d5] := fun i s2 s3 s4 s5 i0 i2 n2 => by
    have e1 := r__law_parts (T := T) (k := k + 4) h i0 i2
    have e2 := r_right_parts (T := T) (k := k + 4) h i0 i2
    obtain ⟨s1, s2', s3', s4', s5', s6'⟩ := op_ok h.t i0 i2
    obtain ⟨b1, b2⟩ := near_bits s1 s2' s3' s4' s5' s6'
    obtain ⟨b3, _⟩ := near_bits s1 s3' s2' s4' s6' s5'
    have hat := at_side (a := a) (b := b) (c := c) i0 i2
    obtain ⟨g1, g2⟩ := heron2 (a := a) (b := b) (c := c) i0 i2
    rw [← h.eq] at g1 g2
    have l1 := fun (d : D) (hd : D.fit 6 d = true) => like_s (T := T) (k := k + 11) hd (by omega)
    have ba := h.bits
    unfold partsD at e1 e2
    generalize sideI a b c i = s at *
    generalize lowI a b c i = o at *
    generalize highI a b c i = t at *
    have bs : Bits s 31 := ⟨by omega⟩
    have bo : Bits o 31 := ⟨by omega⟩
    have bt : Bits t 31 := ⟨by omega⟩
    have r1 : RBits (nearQ s o t) 64 := rbits_qq (by omega) (by omega) (by omega)
    have r2 : RBits (nearQ s t o) 64 := rbits_qq (by omega) (by omega) (by omega)
    have b2A : Bits (2 * A) 65 := ⟨by have := ba.lt; omega⟩
    have r3 : RBits (qq (2 * A) s) 70 := rbits_qq (by omega) (by omega) (by omega)
    have q1 := near_sq (s := s) (o := o) (t := t) (A := A) s1 g1
    have q2 := near_sq (s := s) (o := t) (t := o) (A := A) s1 g2
    have qs := near_sum (s := s) (o := o) (t := t) s1
    have e3 := r__law_sum (T := T) (k := k + 8) (p := (nearQ s o t).num) (q := ((nearQ s o t).den : Int)) (r := (nearQ s t o).num) (s := ((nearQ s t o).den : Int)) (den0 _) (den0 _) (by omega)
    rw [num_den, num_den, qs] at e3
    have e4 : eqG (.tup [.int s, .int 1]) (.tup [.int s, .int 1]) = some true := (eqG_fr (x := (s : Rat)) (y := (s : Rat))).trans (by rw [decide_eq_true rfl])
    have x1 := part_body (T := T) (k := k + 5) (X0 := .v (.tup [.int a, .int b, .int c])) (X1 := .v (.int i)) (X2 := .v (.tup [.tup [fr3 (nearQ s o t), fr3 (qq (2 * A) s), .tup [.int o, .int 1]], .tup [fr3 (nearQ s t o), fr3 (qq (2 * A) s), .tup [.int t, .int 1]]])) r1 r3 bo q1
    have x2 := part_body (T := T) (k := k + 5) (X0 := .v (.tup [.int a, .int b, .int c])) (X1 := .v (.int i)) (X2 := .v (.tup [.tup [fr3 (nearQ s o t), fr3 (qq (2 * A) s), .tup [.int o, .int 1]], .tup [fr3 (nearQ s t o), fr3 (qq (2 * A) s), .tup [.int t, .int 1]]])) r2 r3 bt q2
    generalize partBody = PB at *
    have n2' : ∀ d, ¬ s2 = .ref d := n2
    refine ⟨.tup [.tup [fr3 (nearQ s o t), fr3 (qq (2 * A) s), .tup [.int o, .int 1]], .tup [fr3 (nearQ s t o), fr3 (qq (2 * A) s), .tup [.int t, .int 1]]], fr3 (nearQ s t o), fr3 (qq (2 * A) s), .tup [.int t, .int 1], ?_⟩
    simp only [fr3] at x1 x2 e1 e2 ⊢
    simp [e1, n2', e2, l1, e3, hat, e4, forS, x1, x2]
  obtain ⟨a2, a3, a4, a5, k1⟩ := body 0 .no .no .no .no (by omega) (by omega) nr_no
  obtain ⟨b2, b3, b4, b5, k2⟩ := body 1 (.v a2) (.v a3) (.v a4) (.v a5) (by omega) (by omega) nr_v
  obtain ⟨c2, c3, c4, c5, k3⟩ := body 2 (.v b2) (.v b3) (.v b4) (.v b5) (by omega) (by omega) nr_v
  have hr : rng 0 3 = [0, 1, 2] := by decide
  have hg : rgOk 3 = true := by decide
  have hB : f__law_sides_right = ⟨1, 6, false, [.forr (.n 1) (.range [(.c (.int 3))]) [.set (.n 2) (.call i__law_parts [(.v 0), (.v 1)]), .ifs (.not (.e (.call i__law_like [(.call i_right_parts [(.v 0), (.v 1)]), (.v 2)]))) [.ret (.c (.bl false))] [], .ifs (.b (.op2 .ne (.call i__law_sum [(.op2 .idx (.op2 .idx (.v 2) (.c (.int 0))) (.c (.int 0))), (.op2 .idx (.op2 .idx (.v 2) (.c (.int 1))) (.c (.int 0)))]) (.tup [(.op2 .idx (.v 0) (.v 1)), (.c (.int 1))]))) [.ret (.c (.bl false))] [], .forr (.t [(.n 3), (.n 4), (.n 5)]) (.e (.v 2)) partBody], .ret (.c (.bl true))]⟩ := rfl
  rw [run_succ, hB]
  generalize hL : ([.set (.n 2) (.call i__law_parts [(.v 0), (.v 1)]), .ifs (.not (.e (.call i__law_like [(.call i_right_parts [(.v 0), (.v 1)]), (.v 2)]))) [.ret (.c (.bl false))] [], .ifs (.b (.op2 .ne (.call i__law_sum [(.op2 .idx (.op2 .idx (.v 2) (.c (.int 0))) (.c (.int 0))), (.op2 .idx (.op2 .idx (.v 2) (.c (.int 1))) (.c (.int 0)))]) (.tup [(.op2 .idx (.v 0) (.v 1)), (.c (.int 1))]))) [.ret (.c (.bl false))] [], .forr (.t [(.n 3), (.n 4), (.n 5)]) (.e (.v 2)) partBody] : List Sm) = L at *
  clear body
  simp [argsOk, hr, hg, forS, k1, k2, k3]
/-! ### sums of what is turned over -/
def iq (x : Rat) : Rat := ((x.den : Int) : Rat) / ((x.num : Int) : Rat)
theorem iq_num {x : Rat} (h : 0 < x.num) : (iq x).num = (x.den : Int) ∧ ((iq x).den : Int) = x.num := by
  obtain ⟨e1, e2⟩ := low_rat (a := (x.den : Int)) (b := x.num) (by omega)
  have hc : Int.gcd (x.den : Int) x.num = 1 := by
    have := gc_reduced x
    unfold gc at this
    rw [Int.gcd_comm]
    omega
  obtain ⟨k1, k2⟩ := lo_of (a := (x.den : Int)) (b := x.num) (p := (x.den : Int)) (q := x.num) (by omega) h hc rfl
  unfold iq
  rw [← e1, ← e2, k1, k2]
  exact ⟨rfl, rfl⟩
theorem iq_qq {n d : Int} (hn : 0 < n) (hd : 0 < d) : iq (qq n d) = qq d n := by
  obtain ⟨g, g0, e1, e2⟩ := frac_num (A := n) hd
  have hx : 0 < (qq n d).num := num_pos hn hd
  have hq := den_pos (qq n d)
  unfold iq
  change n = (qq n d).num * g at e1
  change d = ((qq n d).den : Int) * g at e2
  generalize (qq n d).num = p at *
  generalize ((qq n d).den : Int) = q at *
  unfold qq
  exact (frac_eq hx hn).mpr (by rw [e1, e2]; grind)
theorem qq_den {n s : Int} (hs : 0 < s) : ((qq n s).den : Int) = 1 ↔ n % s = 0 := by
  obtain ⟨g, g0, e1, e2⟩ := frac_num (A := n) hs
  change n = (qq n s).num * g at e1
  change s = ((qq n s).den : Int) * g at e2
  constructor
  · intro h
    rw [h, Int.one_mul] at e2
    rw [e1, ← e2]
    exact Int.mul_emod_left _ _
  · intro h
    obtain ⟨m, hm⟩ := Int.dvd_of_emod_eq_zero h
    obtain ⟨f1, f2⟩ := low_rat (a := n) (b := s) (by omega)
    obtain ⟨k1, k2⟩ := lo_of (a := n) (b := s) (p := m) (q := 1) (by omega) (by omega) (Int.gcd_one_right _) (by rw [hm]; grind)
    unfold qq
    rw [← f2, k2]
theorem sum_heights {a b c A : Int} (ha : 0 < a) (hb : 0 < b) (hc : 0 < c) (hA : 0 < A) : 0 + iq (qq (2 * A) a) + iq (qq (2 * A) b) + iq (qq (2 * A) c) = iq (qq (2 * A) (a + b + c)) := by
  rw [iq_qq (by omega) ha, iq_qq (by omega) hb, iq_qq (by omega) hc, iq_qq (by omega) (by omega)]
  unfold qq
  have := rat_ne (show 2 * A ≠ 0 by omega)
  simp only [Rat.intCast_add]
  generalize ((2 * A : Int) : Rat) = w at *
  grind
theorem sum_outer {a b c A : Int} (h1 : 0 < b + c - a) (h2 : 0 < a + c - b) (h3 : 0 < a + b - c) (hA : 0 < A) : 0 + iq (qq (2 * A) (a + b + c - 2 * a)) + iq (qq (2 * A) (a + b + c - 2 * b)) + iq (qq (2 * A) (a + b + c - 2 * c)) = iq (qq (2 * A) (a + b + c)) := by
  rw [iq_qq (by omega) (by omega), iq_qq (by omega) (by omega), iq_qq (by omega) (by omega), iq_qq (by omega) (by omega)]
  unfold qq
  have := rat_ne (show 2 * A ≠ 0 by omega)
  simp only [Rat.intCast_add, Rat.intCast_sub, Rat.intCast_mul] at this ⊢
  rw [show ((2 : Int) : Rat) = 2 from rfl] at *
  generalize (2 : Rat) * (A : Rat) = w at *
  grind
def sumBody : List Sm := [.set (.n 9) (.call i__law_sum [(.v 9), (.tup [(.op2 .idx (.v 10) (.c (.int 1))), (.op2 .idx (.v 10) (.c (.int 0)))])])]
theorem sum_row [H__law_right_20 T] {k : Nat} {x y z : Rat} {X0 X1 X2 X3 X4 X5 X6 X7 X8 s10 X11 X12 : S} (bx : RBits x 70) (b_y : RBits y 70) (bz : RBits z 70) (hx : 0 < x.num) (hy : 0 < y.num) (hz : 0 < z.num) :
    forS (.n 10) (execs (run T (k + 3)) sumBody) [fr3 x, fr3 y, fr3 z] [X0, X1, X2, X3, X4, X5, X6, X7, X8, .v (.tup [.int 0, .int 1]), s10, X11, X12] = .nx [X0, X1, X2, X3, X4, X5, X6, X7, X8, .v (fr3 (0 + iq x + iq y + iq z)), .v (fr3 z), X11, X12] := by
  have r0 : RBits (0 : Rat) 1 := ⟨by decide, by decide⟩
  have q : ∀ w : Rat, RBits w 70 → 0 < w.num → RBits (iq w) 70 := fun w hw h0 => by
    obtain ⟨i1, i2⟩ := iq_num h0
    refine ⟨by rw [i1]; exact bits_den hw, ?_⟩
    have := hw.num
    omega
  have b1 := q x bx hx
  have b2 := q y b_y hy
  have b3 := q z bz hz
  have e1 := r__law_sum (T := T) (k := k) (p := 0) (q := 1) (r := (x.den : Int)) (s := x.num) (n1 := 1) (n2 := 1) (by omega) (by omega) (by omega)
  have z0 : ((0 : Int) : Rat) / ((1 : Int) : Rat) + ((x.den : Int) : Rat) / (x.num : Rat) = 0 + iq x := by
    rw [show ((1 : Int) : Rat) = 1 from rfl, rat_div_one]; rfl
  rw [z0] at e1
  have b4 : RBits (0 + iq x) 80 := rb_up (inferInstance : RBits (0 + iq x) _) (by omega)
  have e2 := r__law_sum (T := T) (k := k) (p := (0 + iq x).num) (q := ((0 + iq x).den : Int)) (r := (y.den : Int)) (s := y.num) (den0 _) (by omega) (by omega)
  rw [num_den] at e2
  change _ = FRes.ok (.tup [.int (0 + iq x + iq y).num, .int ((0 + iq x + iq y).den : Int)], false) .non at e2
  have b5 : RBits (0 + iq x + iq y) 160 := rb_up (inferInstance : RBits (0 + iq x + iq y) _) (by omega)
  have e3 := r__law_sum (T := T) (k := k) (p := (0 + iq x + iq y).num) (q := ((0 + iq x + iq y).den : Int)) (r := (z.den : Int)) (s := z.num) (den0 _) (by omega) (by omega)
  rw [num_den] at e3
  change _ = FRes.ok (.tup [.int (0 + iq x + iq y + iq z).num, .int ((0 + iq x + iq y + iq z).den : Int)], false) .non at e3
  generalize 0 + iq x + iq y + iq z = w3 at *
  generalize 0 + iq x + iq y = w2 at *
  generalize 0 + iq x = w1 at *
  simp [sumBody, forS, fr3, e1, e2, e3]
theorem r_is_fraction [H_is_fraction T] {k : Nat} {x : Rat} (bx : RBits x 199) : run T (k + 3) i_is_fraction [.v (fr3 x)] = .ok (.bl true, false) .non := by
  have e := r_fits_fraction (T := T) (k := k) (x := x) (n := 199) (by omega)
  rw [run_succ]
  simp [f_is_fraction, argsOk, fr3, e]
theorem fit_fr3 {n : Nat} {x : Rat} : D.fit (n + 1) (fr3 x) = true := by simp [fr3]
theorem r__law_right_20 [H__law_right_20 T] {k : Nat} {a b c A : Int} (h : WT a b c A) : run T (k + 14) i__law_right [.v (.tup [.int a, .int b, .int c])] = .ok (.bl true, false) .non := by
  obtain ⟨h1, h2, h3, h4, h5⟩ := h.t
  have hA := h.A1
  have ba := h.bits
  have ba' := h.bits
  have b2A : Bits (2 * A) 65 := ⟨by have := ba.lt; omega⟩
  have b4A : Bits (4 * A) 66 := ⟨by have := ba.lt; omega⟩
  obtain ⟨ba1, ba2, ba3⟩ := tri_bits h.t
  have bs : Bits (a + b + c) 32 := ⟨by omega⟩
  have bo1 : Bits (a + b + c - 2 * a) 33 := ⟨by omega⟩
  have bo2 : Bits (a + b + c - 2 * b) 33 := ⟨by omega⟩
  have bo3 : Bits (a + b + c - 2 * c) 33 := ⟨by omega⟩
  have e1 := r__law_area (T := T) (k := k + 11) h
  have ll := fun (n d : Int) (m : Nat) (hm : m < 8999) (bd : Bits d m) (h0 : d ≠ 0) => r__law_leastR (T := T) (k := k + 11) (a := n) (b := d) h0 hm
  have g1 := ll (2 * A) a 31 (by omega) ba1 (by omega)
  have g2 := ll (2 * A) b 31 (by omega) ba2 (by omega)
  have g3 := ll (2 * A) c 31 (by omega) ba3 (by omega)
  have g4 := ll (2 * A) (a + b + c - 2 * a) 33 (by omega) bo1 (by omega)
  have g5 := ll (2 * A) (a + b + c - 2 * b) 33 (by omega) bo2 (by omega)
  have g6 := ll (2 * A) (a + b + c - 2 * c) 33 (by omega) bo3 (by omega)
  have g7 := ll (2 * A) (a + b + c) 32 (by omega) bs (by omega)
  have g8 := ll (a * b * c) (4 * A) 66 (by omega) b4A (by omega)
  clear ll
  have q1 := r_heights_of (T := T) (k := k + 6) h
  have q2 := r_outer_radii (T := T) (k := k + 6) h
  have q3 := r_inner_radius (T := T) (k := k + 6) h
  have q4 := r_round_radius (T := T) (k := k + 6) h
  have q5 := r_whole_height_sides (T := T) (k := k + 6) h
  have q6 := r__law_sides_right (T := T) (k := k + 1) h
  have q7 : run T (k + 13) i_square_number [.v (.tup [.int a, .int b, .int c])] = .ok (.int (16 * A * A), false) .non := by
    have e := r_square_number_in (T := T) (k := k + 11) h.t
    rw [h.eq]
    rw [run_succ]
    simp [f_square_number, argsOk, h.t, e]
  have l1 := fun (d : D) (hd : D.fit 6 d = true) => like_s (T := T) (k := k + 13) hd (by omega)
  have r1 : RBits (qq (2 * A) a) 70 := rbits_qq (by omega) (by omega) (by omega)
  have r2 : RBits (qq (2 * A) b) 70 := rbits_qq (by omega) (by omega) (by omega)
  have r3 : RBits (qq (2 * A) c) 70 := rbits_qq (by omega) (by omega) (by omega)
  have r4 : RBits (qq (2 * A) (a + b + c - 2 * a)) 70 := rbits_qq (by omega) (by omega) (by omega)
  have r5 : RBits (qq (2 * A) (a + b + c - 2 * b)) 70 := rbits_qq (by omega) (by omega) (by omega)
  have r6 : RBits (qq (2 * A) (a + b + c - 2 * c)) 70 := rbits_qq (by omega) (by omega) (by omega)
  have w1 := r_is_fraction (T := T) (k := k + 10) (rb_up r1 (by omega))
  have w2 := r_is_fraction (T := T) (k := k + 10) (rb_up r2 (by omega))
  have w3 := r_is_fraction (T := T) (k := k + 10) (rb_up r3 (by omega))
  have w4 := r_is_fraction (T := T) (k := k + 10) (rb_up r4 (by omega))
  have w5 := r_is_fraction (T := T) (k := k + 10) (rb_up r5 (by omega))
  have w6 := r_is_fraction (T := T) (k := k + 10) (rb_up r6 (by omega))
  have d1 := qq_den (n := 2 * A) (show 0 < a by omega)
  have d2 := qq_den (n := 2 * A) (show 0 < b by omega)
  have d3 := qq_den (n := 2 * A) (show 0 < c by omega)
  have p1 : 0 < (qq (2 * A) a).num := num_pos (by omega) (by omega)
  have p2 : 0 < (qq (2 * A) b).num := num_pos (by omega) (by omega)
  have p3 : 0 < (qq (2 * A) c).num := num_pos (by omega) (by omega)
  have p4 : 0 < (qq (2 * A) (a + b + c - 2 * a)).num := num_pos (by omega) (by omega)
  have p5 : 0 < (qq (2 * A) (a + b + c - 2 * b)).num := num_pos (by omega) (by omega)
  have p6 : 0 < (qq (2 * A) (a + b + c - 2 * c)).num := num_pos (by omega) (by omega)
  have p7 : 0 < (qq (2 * A) (a + b + c)).num := num_pos (by omega) (by omega)
  have s1 := fun (X0 X1 X2 X3 X4 X5 X6 X7 X8 s10 X11 X12 : S) => sum_row (T := T) (k := k + 10) (X0 := X0) (X1 := X1) (X2 := X2) (X3 := X3) (X4 := X4) (X5 := X5) (X6 := X6) (X7 := X7) (X8 := X8) (s10 := s10) (X11 := X11) (X12 := X12) r1 r2 r3 p1 p2 p3
  have s2 := fun (X0 X1 X2 X3 X4 X5 X6 X7 X8 s10 X11 X12 : S) => sum_row (T := T) (k := k + 10) (X0 := X0) (X1 := X1) (X2 := X2) (X3 := X3) (X4 := X4) (X5 := X5) (X6 := X6) (X7 := X7) (X8 := X8) (s10 := s10) (X11 := X11) (X12 := X12) r4 r5 r6 p4 p5 p6
  rw [sum_heights (by omega) (by omega) (by omega) (by omega)] at s1
  rw [sum_outer (by omega) (by omega) (by omega) (by omega)] at s2
  obtain ⟨i1, i2⟩ := iq_num p7
  have e9 := eqG_fr (x := iq (qq (2 * A) (a + b + c))) (y := iq (qq (2 * A) (a + b + c)))
  rw [decide_eq_true rfl] at e9
  simp only [fr3, i1, i2] at e9 s1 s2
  have hs : a + (b + c) = a + b + c := by omega
  have hr : rng 0 3 = [0, 1, 2] := by decide
  have hg : rgOk 3 = true := by decide
  change run T (k + 13) i__law_least _ = .ok (fr3 (qq (2 * A) a), false) .non at g1
  change run T (k + 13) i__law_least _ = .ok (fr3 (qq (2 * A) b), false) .non at g2
  change run T (k + 13) i__law_least _ = .ok (fr3 (qq (2 * A) c), false) .non at g3
  change run T (k + 13) i__law_least _ = .ok (fr3 (qq (2 * A) (a + b + c - 2 * a)), false) .non at g4
  change run T (k + 13) i__law_least _ = .ok (fr3 (qq (2 * A) (a + b + c - 2 * b)), false) .non at g5
  change run T (k + 13) i__law_least _ = .ok (fr3 (qq (2 * A) (a + b + c - 2 * c)), false) .non at g6
  change run T (k + 13) i__law_least _ = .ok (fr3 (qq (2 * A) (a + b + c)), false) .non at g7
  change run T (k + 13) i__law_least _ = .ok (fr3 (qq (a * b * c) (4 * A)), false) .non at g8
  clear h r1 r2 r3 r4 r5 r6 b2A b4A ba1 ba2 ba3 bs bo1 bo2 bo3 ba p1 p2 p3 p4 p5 p6 p7 i1 i2
  generalize qq (2 * A) a = x1 at *
  generalize qq (2 * A) b = x2 at *
  generalize qq (2 * A) c = x3 at *
  generalize qq (2 * A) (a + b + c - 2 * a) = x4 at *
  generalize qq (2 * A) (a + b + c - 2 * b) = x5 at *
  generalize qq (2 * A) (a + b + c - 2 * c) = x6 at *
  generalize qq (2 * A) (a + b + c) = x7 at *
  generalize qq (a * b * c) (4 * A) = x8 at *
  have t11 := turns.eq_2 [11]
  have t11n := turns.eq_1 [11]
  have t10 := turns.eq_2 [10]
  have t10n := turns.eq_1 [10]
  have t12 := turns.eq_2 [12]
  have t12n := turns.eq_1 [12]
  simp only [fr3] at g1 g2 g3 g4 g5 g6 g7 g8 q1 q2 q3 q4 w1 w2 w3 w4 w5 w6
  have dd1 : ((x1.den : Int) == 1) = decide ((2 * A) % a = 0) := by rw [← decide_eq_decide.mpr d1]; rfl
  have dd2 : ((x2.den : Int) == 1) = decide ((2 * A) % b = 0) := by rw [← decide_eq_decide.mpr d2]; rfl
  have dd3 : ((x3.den : Int) == 1) = decide ((2 * A) % c = 0) := by rw [← decide_eq_decide.mpr d3]; rfl
  have hB : f__law_right_20 = ⟨1, 13, false, f__law_right_20.body.take 7 ++ ([.forr (.n 8) (.e (.tup [(.v 3), (.v 4)])) [.set (.n 9) (.tup [(.c (.int 0)), (.c (.int 1))]), .forr (.n 10) (.e (.v 8)) sumBody, .ifs (.b (.op2 .ne (.v 9) (.tup [(.op2 .idx (.v 5) (.c (.int 1))), (.op2 .idx (.v 5) (.c (.int 0)))]))) [.ret (.c (.bl false))] []]] ++ [.ret (.and (.op2 .eq (.call i_square_number [(.v 0)]) (.op2 .mul (.op2 .mul (.c (.int 16)) (.v 1)) (.v 1))) (.call i__law_sides_right [(.v 0)]))])⟩ := rfl
  have hb7 : f__law_right_20.body.take 7 = [.par [1, 2] [(.call i__law_area [(.v 0)]), (.op1 .sum (.v 0))], .set (.n 3) (.op1 .tuple (.comp [11] (.call i__law_least [(.op2 .mul (.c (.int 2)) (.v 1)), (.v 11)]) (.n 11) (.e (.v 0)) [] [])), .set (.n 4) (.op1 .tuple (.comp [11] (.call i__law_least [(.op2 .mul (.c (.int 2)) (.v 1)), (.op2 .sub (.v 2) (.op2 .mul (.c (.int 2)) (.v 11)))]) (.n 11) (.e (.v 0)) [] [])), .par [5, 6] [(.call i__law_least [(.op2 .mul (.c (.int 2)) (.v 1)), (.v 2)]), (.call i__law_least [(.op2 .mul (.op2 .mul (.op2 .idx (.v 0) (.c (.int 0))) (.op2 .idx (.v 0) (.c (.int 1)))) (.op2 .idx (.v 0) (.c (.int 2)))), (.op2 .mul (.c (.int 4)) (.v 1))])], .set (.n 7) (.lst [(.call i_heights_of [(.v 0)]), (.call i_outer_radii [(.v 0)]), (.call i_inner_radius [(.v 0)]), (.call i_round_radius [(.v 0)])]), .ifs (.or (.not (.e (.call i__law_like [(.v 7), (.lst [(.v 3), (.v 4), (.v 5), (.v 6)])]))) (.b (.op2 .ne (.comp [10] (.v 10) (.n 10) (.e (.op2 .add (.v 3) (.v 4))) [(.b (.op1 (.notB true) (.call i_is_fraction [(.v 10)])))] []) (.lst [])))) [.ret (.c (.bl false))] [], .ifs (.not (.e (.call i__law_like [(.call i_whole_height_sides [(.v 0)]), (.op1 .tuple (.comp [12] (.v 12) (.n 12) (.range [(.c (.int 3))]) [(.b (.op2 .eq (.op2 .idx (.op2 .idx (.v 3) (.v 12)) (.c (.int 1))) (.c (.int 1))))] []))]))) [.ret (.c (.bl false))] []] := rfl
  have mA : mulOk a b = true := mulOk_l (by omega)
  have mAB : mulOk (a * b) c = true := mulOk_r (by omega)
  have m16 : mulOk (16 * A) A = true := mulOk_r (by have := ba'.lt; omega)
  have f8 := forS.eq_2 (.n 8)
  have f8n := forS.eq_1 (.n 8)
  rw [run_succ, hB, hb7]
  simp only [argsOk, execs_append]
  by_cases c1 : (2 * A) % a = 0 <;> by_cases c2 : (2 * A) % b = 0 <;> by_cases c3 : (2 * A) % c = 0 <;>
    simp only [c1, c2, c3, if_true, if_false, decide_true, decide_false] at q5 dd1 dd2 dd3 <;>
    simp [e1, hs, t11, t11n, t10, t10n, t12, t12n, g1, g2, g3, g4, g5, g6, g7, g8, q1, q2, q3, q4, q5, l1, w1, w2, w3, w4, w5, w6, line, mulOk_l, mA, mAB, hr, hg, dd1, dd2, dd3, f8, f8n, s1, s2, e9, q7, q6, m16]
/-! ### whole areas -/
theorem sq_mod4 (x : Int) : (x * x % 4 = 0 ∧ x % 2 = 0) ∨ (x * x % 4 = 1 ∧ x % 2 = 1) := by
  obtain ⟨q, hq | hq⟩ : ∃ q, x = 2 * q ∨ x = 2 * q + 1 := ⟨x / 2, by omega⟩
  · left
    have : x * x = 4 * (q * q) := by rw [hq]; grind
    omega
  · right
    have : x * x = 4 * (q * q) + 4 * q + 1 := by rw [hq]; grind
    omega
theorem area4 {a b c r : Int} (h : sqn a b c = r * r) : r % 4 = 0 := by
  have he := heron (a := a) (b := b) (c := c) (i := 0) (by omega) (by omega)
  simp only [sideI, oneI, otherI, if_true] at he
  obtain ⟨N, hN⟩ : ∃ N, N = a * a + c * c - b * b := ⟨_, rfl⟩
  obtain ⟨X, hX⟩ : ∃ X, X = a * c := ⟨_, rfl⟩
  rw [← hN, h] at he
  have he2 : r * r + N * N = 4 * (X * X) := by rw [he, hX]; grind
  have r1 := sq_mod4 r
  have n1 := sq_mod4 N
  have r0 : r % 2 = 0 := by omega
  have n0 : N % 2 = 0 := by omega
  obtain ⟨s, hs⟩ : ∃ s, r = 2 * s := ⟨r / 2, by omega⟩
  obtain ⟨M, hM⟩ : ∃ M, N = 2 * M := ⟨N / 2, by omega⟩
  have he3 : s * s + M * M = X * X := by
    rw [hs, hM] at he2
    have : (2 * s) * (2 * s) = 4 * (s * s) := by grind
    have : (2 * M) * (2 * M) = 4 * (M * M) := by grind
    omega
  have s1 := sq_mod4 s
  have m1 := sq_mod4 M
  have x1 := sq_mod4 X
  have a1 := sq_mod4 a
  have b1 := sq_mod4 b
  have c1 := sq_mod4 c
  have hXX : X * X = (a * a) * (c * c) := by rw [hX]; grind
  by_cases w : s % 2 = 0
  · omega
  · exfalso
    have y1 : X * X % 4 = 1 := by omega
    have y2 : M % 2 = 0 := by omega
    have hac : a * a % 4 = 1 ∧ c * c % 4 = 1 := by
      rcases a1 with ⟨a0, _⟩ | ⟨a0, _⟩
      · rw [hXX, Int.mul_emod, a0, Int.zero_mul] at y1
        omega
      · rcases c1 with ⟨c0, _⟩ | ⟨c0, _⟩
        · rw [hXX, Int.mul_emod, c0, Int.mul_zero] at y1
          omega
        · exact ⟨a0, c0⟩
    omega
theorem sqn_perm (a b c : Int) : sqn a b c = sqn b a c ∧ sqn a b c = sqn a c b ∧ sqn a b c = sqn c b a ∧ sqn a b c = sqn b c a ∧ sqn a b c = sqn c a b := by
  unfold sqn
  refine ⟨?_, ?_, ?_, ?_, ?_⟩ <;> grind
theorem sqn_sort {x y z a b c : Int} (h : sort3 x y z = [a, b, c]) : sqn a b c = sqn x y z := by
  obtain ⟨p1, p2, p3, p4, p5⟩ := sqn_perm x y z
  unfold sort3 at h
  split at h
  · split at h
    · injection h with h1 h; injection h with h2 h; injection h with h3 _; subst h1 h2 h3; rfl
    · split at h
      · injection h with h1 h; injection h with h2 h; injection h with h3 _; subst h1 h2 h3; exact p2.symm
      · injection h with h1 h; injection h with h2 h; injection h with h3 _; subst h1 h2 h3; exact p5.symm
  · split at h
    · injection h with h1 h; injection h with h2 h; injection h with h3 _; subst h1 h2 h3; exact p1.symm
    · split at h
      · injection h with h1 h; injection h with h2 h; injection h with h3 _; subst h1 h2 h3; exact p4.symm
      · injection h with h1 h; injection h with h2 h; injection h with h3 _; subst h1 h2 h3; exact p3.symm
theorem sqn_times (n a b c : Int) : sqn (n * a) (n * b) (n * c) = (n * n) * (n * n) * sqn a b c := by unfold sqn; grind
/-- times the plain one of a triangle with a square -/
theorem whole_plain {s0 s1 s2 R n : Int} (h0 : 1 ≤ s0) (h1 : 1 ≤ s1) (h2 : 1 ≤ s2) (l1 : s0 < s1 + s2) (l2 : s1 < s0 + s2) (l3 : s2 < s0 + s1) (m0 : s0 ≤ 300000000) (m1 : s1 ≤ 300000000) (m2 : s2 ≤ 300000000) (hR : sqn s0 s1 s2 = R * R) (hn : 1 ≤ n) (hn3 : n ≤ 3) :
    ∃ a b c A, sort3 (n * (s0 / g3 s0 s1 s2)) (n * (s1 / g3 s0 s1 s2)) (n * (s2 / g3 s0 s1 s2)) = [a, b, c] ∧ WT a b c A := by
  have hg := g3_pos (a := s0) (b := s1) (show s2 ≠ 0 by omega)
  obtain ⟨⟨x, hx⟩, ⟨y, hy⟩, ⟨z, hz⟩⟩ := dvd_g3.mp (Int.dvd_refl (g3 s0 s1 s2))
  generalize g3 s0 s1 s2 = g at *
  have q1 : s0 / g = x := by rw [hx]; exact Int.mul_ediv_cancel_left _ (by omega)
  have q2 : s1 / g = y := by rw [hy]; exact Int.mul_ediv_cancel_left _ (by omega)
  have q3 : s2 / g = z := by rw [hz]; exact Int.mul_ediv_cancel_left _ (by omega)
  rw [q1, q2, q3]
  have px : 1 ≤ x := pos_of_mulL (by omega) (by rw [← hx]; omega)
  have py : 1 ≤ y := pos_of_mulL (by omega) (by rw [← hy]; omega)
  have pz : 1 ≤ z := pos_of_mulL (by omega) (by rw [← hz]; omega)
  have cut : ∀ u : Int, 0 < g * u → 0 < u := fun u hu => pos_of_mulL hg (by omega)
  have t1 := cut (y + z - x) (by have : g * (y + z - x) = g * y + g * z - g * x := by grind
                                 omega)
  have t2 := cut (x + z - y) (by have : g * (x + z - y) = g * x + g * z - g * y := by grind
                                 omega)
  have t3 := cut (x + y - z) (by have : g * (x + y - z) = g * x + g * y - g * z := by grind
                                 omega)
  have up : ∀ u : Int, 1 ≤ u → g * u ≤ 300000000 → n * u ≤ 1000000000 ∧ 1 ≤ n * u := fun u hu hl => by
    have k1 := Int.mul_le_mul_of_nonneg_right (show 1 ≤ g by omega) (show 0 ≤ u by omega)
    have k2 := Int.mul_le_mul_of_nonneg_right hn3 (show 0 ≤ u by omega)
    have k3 := Int.mul_le_mul_of_nonneg_right hn (show 0 ≤ u by omega)
    omega
  obtain ⟨ux, ux1⟩ := up x px (by omega)
  obtain ⟨uy, uy1⟩ := up y py (by omega)
  obtain ⟨uz, uz1⟩ := up z pz (by omega)
  have n1 := Int.mul_pos (show 0 < n by omega) t1
  have n2 := Int.mul_pos (show 0 < n by omega) t2
  have n3 := Int.mul_pos (show 0 < n by omega) t3
  have f1 : n * (y + z - x) = n * y + n * z - n * x := by grind
  have f2 : n * (x + z - y) = n * x + n * z - n * y := by grind
  have f3 : n * (x + y - z) = n * x + n * y - n * z := by grind
  obtain ⟨a, b, c, hs, tr⟩ := tri_sort ux1 uy1 uz1 (by omega) (by omega) (by omega) ux uy uz
  have sq : Sq (sqn x y z) := by
    rw [hx, hy, hz, sqn_times] at hR
    have h1 : Sq (g * g * (g * g)) := sq_of (r := g * g) rfl
    exact Sq.cancel (by have := Int.mul_pos (Int.mul_pos hg hg) (Int.mul_pos hg hg); omega) h1 (by rw [hR]; exact sq_of rfl)
  obtain ⟨r, r0, hr⟩ := sq.ex
  have r4 := area4 hr
  have hsq : sqn a b c = (n * n) * (n * n) * (r * r) := by rw [sqn_sort hs, sqn_times, hr]
  have hp := sqn_pos tr
  have rne : r ≠ 0 := fun w => by rw [w] at hsq; simp at hsq; omega
  refine ⟨a, b, c, n * n * (r / 4), hs, tr, ?_, ?_⟩
  · have := Int.mul_pos (Int.mul_pos (show 0 < n by omega) (show 0 < n by omega)) (show 0 < r / 4 by omega)
    omega
  · rw [hsq]
    obtain ⟨w, hw⟩ : ∃ w, r = 4 * w := ⟨r / 4, by omega⟩
    rw [hw, Int.mul_ediv_cancel_left _ (by omega)]
    grind
theorem r__law_plain20 [H__law_plain T] {k : Nat} {X : D} {a b c : Int} (hX : X = .lst [.int a, .int b, .int c] ∨ X = .tup [.int a, .int b, .int c]) (ha : 1 ≤ a) (hb : 1 ≤ b) (hc : 1 ≤ c) (h9 : c ≤ 1000000000) :
    run T (k + 3) i__law_plain [.v X] = .ok (.tup [.int (a / g3 a b c), .int (b / g3 a b c), .int (c / g3 a b c)], false) .non := by
  have hg := g3_pos (a := a) (b := b) (show c ≠ 0 by omega)
  have bc : Bits c 31 := ⟨by omega⟩
  have bg : Bits (g3 a b c) 31 := ⟨gc_bits (by omega) bc.lt⟩
  have dv : divOk (g3 a b c) = true := divOk_bd (by omega) (by omega)
  have f : ∀ x : Int, x.fdiv (g3 a b c) = x / g3 a b c := fun x => Int.fdiv_eq_ediv_of_nonneg _ (by omega)
  have e : gc (gc a b) c = g3 a b c := rfl
  rw [run_succ]
  rcases hX with rfl | rfl <;> simp [f__law_plain, argsOk, e, turns, line, dv, f]
def drawnT : G.T := .and (.b (.op2 .lt (.op2 .mul (.op2 .add (.v 4) (.c (.int 1))) (.op2 .add (.v 4) (.c (.int 1)))) (.op2 .mul (.v 2) (.v 3)))) (.b (.op2 .gt (.callr i__law_roll 0 [(.c (.int 4))]) (.c (.int 0))))
theorem drawn_loop [H__law_whole_drawn T] {k : Nat} {m x y : Int} (hx : 1 ≤ x) (hy : 1 ≤ y) (hx9 : x ≤ 30) (hy9 : y ≤ 30) : ∀ (j : Nat) (cu : Cup) (t : Int), 1 ≤ t → (t = 1 ∨ t * t < x * y) → (x * y - t).toNat ≤ j → t ≤ 1000 →
    ∃ cu' : Cup, ∃ t', 1 ≤ t' ∧ (t' = 1 ∨ t' * t' < x * y) ∧ whileS (evalT (run T (k + 1)) drawnT) (execs (run T (k + 1)) [.set (.n 4) (.op2 .add (.v 4) (.c (.int 1)))]) [.ref cu.d, .v (.int m), .v (.int x), .v (.int y), .v (.int t), .no, .no, .no, .no] = .nx [.ref cu'.d, .v (.int m), .v (.int x), .v (.int y), .v (.int t'), .no, .no, .no, .no] := by
  have b4 : Bits (4 : Int) 3 := ⟨by decide⟩
  have hxy : x * y ≤ 30 * 30 := Int.mul_le_mul hx9 hy9 (by omega) (by omega)
  have mxy : mulOk x y = true := mulOk_l (by omega)
  intro j
  induction j with
  | zero =>
    intro cu t h1 h2 hj h9
    have mt : mulOk (t + 1) (t + 1) = true := mulOk_l (by omega)
    have hc : ¬ (t + 1) * (t + 1) < x * y := by
      have := Int.mul_le_mul_of_nonneg_right (show 1 ≤ t + 1 by omega) (show 0 ≤ t + 1 by omega)
      omega
    refine ⟨cu, t, h1, h2, ?_⟩
    rw [whileS_eq]
    simp [drawnT, mt, mxy, hc]
  | succ j ih =>
    intro cu t h1 h2 hj h9
    have mt : mulOk (t + 1) (t + 1) = true := mulOk_l (by omega)
    by_cases hc : (t + 1) * (t + 1) < x * y
    · have r1 := r__law_roll (T := T) (k := k) (c := cu) (m := 4) (by omega) (by omega)
      have p0 := roll_nonneg (c := cu) (m := 4) (by omega)
      have p1 := roll_lt (c := cu) (m := 4) (by omega)
      generalize cu.roll 4 = p at *
      generalize cu.next 4 = c1 at *
      by_cases hp : 0 < p
      · have hlt : t + 1 < x * y := by
          have := Int.mul_le_mul_of_nonneg_right (show 1 ≤ t + 1 by omega) (show 0 ≤ t + 1 by omega)
          omega
        obtain ⟨c2, t', a1, a2, e⟩ := ih c1 (t + 1) (by omega) (.inr hc) (by omega) (by omega)
        refine ⟨c2, t', a1, a2, ?_⟩
        rw [whileS_eq]
        simp [drawnT, mt, mxy, hc, r1, hp]
        simpa [drawnT] using e
      · refine ⟨c1, t, h1, h2, ?_⟩
        rw [whileS_eq]
        simp [drawnT, mt, mxy, hc, r1, hp]
    · refine ⟨cu, t, h1, h2, ?_⟩
      rw [whileS_eq]
      simp [drawnT, mt, mxy, hc]
theorem r__law_whole_drawn [H__law_whole_drawn T] {k : Nat} {cu : Cup} {m : Int} (h1 : 1 ≤ m) (h9 : m ≤ 30) :
    ∃ a b c A, ∃ cu' : Cup, WT a b c A ∧ run T (k + 5) i__law_whole_drawn [.ref cu.d, .v (.int m)] = .ok (.tup [.int a, .int b, .int c], false) cu'.d := by
  have bm : Bits m 31 := ⟨by omega⟩
  have r1 := r__law_roll (T := T) (k := k + 3) (c := cu) (m := m) (by omega) (by omega)
  have p0 := roll_nonneg (c := cu) (m := m) (by omega)
  have p1 := roll_lt (c := cu) (m := m) (by omega)
  generalize cu.roll m = p at *
  generalize cu.next m = c1 at *
  have r2 := r__law_roll (T := T) (k := k + 3) (c := c1) (m := m) (by omega) (by omega)
  have q0 := roll_nonneg (c := c1) (m := m) (by omega)
  have q1 := roll_lt (c := c1) (m := m) (by omega)
  generalize c1.roll m = q at *
  generalize c1.next m = c2 at *
  obtain ⟨x, hx⟩ : ∃ x, 1 + p = x := ⟨_, rfl⟩
  obtain ⟨y, hy⟩ : ∃ y, 1 + q = y := ⟨_, rfl⟩
  obtain ⟨c3, t, t1, t2, e1⟩ := drawn_loop (T := T) (k := k + 3) (m := m) (x := x) (y := y) (by omega) (by omega) (by omega) (by omega) _ c2 1 (by omega) (.inl rfl) (Nat.le_refl _) (by omega)
  have b3 : Bits (3 : Int) 2 := ⟨by decide⟩
  have r3 := r__law_roll (T := T) (k := k + 3) (c := c3) (m := 3) (by omega) (by omega)
  have u0 := roll_nonneg (c := c3) (m := 3) (by omega)
  have u1 := roll_lt (c := c3) (m := 3) (by omega)
  generalize c3.roll 3 = u at *
  generalize c3.next 3 = c4 at *
  obtain ⟨n, hn⟩ : ∃ n, 1 + u = n := ⟨_, rfl⟩
  obtain ⟨y', hy'⟩ : ∃ y', y' = if x = 1 ∧ y = 1 then 2 else y := ⟨_, rfl⟩
  have yb : 1 ≤ y' ∧ y' ≤ 30 ∧ t * t < x * y' := by
    rw [hy']
    split
    · rename_i hc
      obtain ⟨rfl, rfl⟩ := hc
      rcases t2 with rfl | t2
      · omega
      · have := Int.mul_pos (show 0 < t by omega) (show 0 < t by omega)
        omega
    · rename_i hc
      refine ⟨by omega, by omega, ?_⟩
      rcases t2 with rfl | t2
      · by_cases w : x = 1
        · subst w
          have : y ≠ 1 := fun z => hc ⟨rfl, z⟩
          omega
        · have := Int.mul_le_mul (show 2 ≤ x by omega) (show 1 ≤ y by omega) (by omega) (by omega)
          omega
      · exact t2
  obtain ⟨y1, y9, hD⟩ := yb
  have x1 : 1 ≤ x := by omega
  have x9 : x ≤ 30 := by omega
  have hxy : x * y' ≤ 30 * 30 := Int.mul_le_mul x9 y9 (by omega) (by omega)
  have tt := Int.mul_pos (show 0 < t by omega) (show 0 < t by omega)
  have t9 : t ≤ 30 := by
    refine Classical.byContradiction fun w => ?_
    have := sq_le (show (0 : Int) ≤ 30 by omega) (show 30 ≤ t by omega)
    omega
  have hxx := sq_le (show 0 ≤ x by omega) x9
  have hyy := sq_le (show 0 ≤ y' by omega) y9
  have hxx0 := Int.mul_pos (show 0 < x by omega) (show 0 < x by omega)
  have hyy0 := Int.mul_pos (show 0 < y' by omega) (show 0 < y' by omega)
  obtain ⟨s0, hs0⟩ : ∃ s, y' * (x * x + t * t) = s := ⟨_, rfl⟩
  obtain ⟨s1, hs1⟩ : ∃ s, x * (y' * y' + t * t) = s := ⟨_, rfl⟩
  obtain ⟨s2, hs2⟩ : ∃ s, (x + y') * (x * y' - t * t) = s := ⟨_, rfl⟩
  have i0 : 1 * 1 ≤ y' * (x * x + t * t) := Int.mul_le_mul y1 (by omega) (by omega) (by omega)
  have i1 : 1 * 1 ≤ x * (y' * y' + t * t) := Int.mul_le_mul x1 (by omega) (by omega) (by omega)
  have i2 : 1 * 1 ≤ (x + y') * (x * y' - t * t) := Int.mul_le_mul (by omega) (by omega) (by omega) (by omega)
  have j0 : y' * (x * x + t * t) ≤ 30 * 2000 := Int.mul_le_mul y9 (by omega) (by omega) (by omega)
  have j1 : x * (y' * y' + t * t) ≤ 30 * 2000 := Int.mul_le_mul x9 (by omega) (by omega) (by omega)
  have j2 : (x + y') * (x * y' - t * t) ≤ 60 * 2000 := Int.mul_le_mul (by omega) (by omega) (by omega) (by omega)
  have w0 : s0 + s1 - s2 = 2 * ((x + y') * (t * t)) := by rw [← hs0, ← hs1, ← hs2]; grind
  have w1 : s0 + s2 - s1 = 2 * (x * (x * y' - t * t)) := by rw [← hs0, ← hs1, ← hs2]; grind
  have w2 : s1 + s2 - s0 = 2 * (y' * (x * y' - t * t)) := by rw [← hs0, ← hs1, ← hs2]; grind
  have v0 := Int.mul_pos (show 0 < x + y' by omega) tt
  have v1 := Int.mul_pos (show 0 < x by omega) (show 0 < x * y' - t * t by omega)
  have v2 := Int.mul_pos (show 0 < y' by omega) (show 0 < x * y' - t * t by omega)
  have hR : sqn s0 s1 s2 = (4 * (x * y' * t * (x + y') * (x * y' - t * t))) * (4 * (x * y' * t * (x + y') * (x * y' - t * t))) := by
    rw [← hs0, ← hs1, ← hs2]; unfold sqn; grind
  obtain ⟨a, b, c, A, es, wt⟩ := whole_plain (s0 := s0) (s1 := s1) (s2 := s2) (n := n) (by omega) (by omega) (by omega) (by omega) (by omega) (by omega) (by omega) (by omega) (by omega) hR (by omega) (by omega)
  have e2 := r__law_plain20 (T := T) (k := k + 1) (X := .lst [.int s0, .int s1, .int s2]) (.inl rfl) (by omega) (by omega) (by omega) (by omega)
  refine ⟨a, b, c, A, c4, wt, ?_⟩
  generalize s0 / g3 s0 s1 s2 = z0 at *
  generalize s1 / g3 s0 s1 s2 = z1 at *
  generalize s2 / g3 s0 s1 s2 = z2 at *
  have mn : ∀ w : Int, mulOk n w = true := fun w => mulOk_l (by omega)
  have mx : ∀ w : Int, mulOk x w = true := fun w => mulOk_l (by omega)
  have my : ∀ w : Int, mulOk y' w = true := fun w => mulOk_l (by omega)
  have mt : ∀ w : Int, mulOk t w = true := fun w => mulOk_l (by omega)
  have mxy : ∀ w : Int, mulOk (x + y') w = true := fun w => mulOk_l (by omega)
  have hB : f__law_whole_drawn = ⟨2, 9, true, [.par [2, 3] [(.op2 .add (.c (.int 1)) (.callr i__law_roll 0 [(.v 1)])), (.op2 .add (.c (.int 1)) (.callr i__law_roll 0 [(.v 1)]))], .set (.n 4) (.c (.int 1)), .whil drawnT [.set (.n 4) (.op2 .add (.v 4) (.c (.int 1)))]] ++ f__law_whole_drawn.body.drop 3⟩ := rfl
  have hB2 : f__law_whole_drawn.body.drop 3 = [.ifs (.and (.b (.op2 .eq (.v 2) (.c (.int 1)))) (.b (.op2 .eq (.v 3) (.c (.int 1))))) [.set (.n 3) (.c (.int 2))] [], .set (.n 5) (.lst [(.op2 .mul (.v 3) (.op2 .add (.op2 .mul (.v 2) (.v 2)) (.op2 .mul (.v 4) (.v 4)))), (.op2 .mul (.v 2) (.op2 .add (.op2 .mul (.v 3) (.v 3)) (.op2 .mul (.v 4) (.v 4)))), (.op2 .mul (.op2 .add (.v 2) (.v 3)) (.op2 .sub (.op2 .mul (.v 2) (.v 3)) (.op2 .mul (.v 4) (.v 4))))]), .set (.n 6) (.call i__law_plain [(.v 5)]), .set (.n 7) (.op2 .add (.c (.int 1)) (.callr i__law_roll 0 [(.c (.int 3))])), .ret (.op1 .tuple (.op1 .sorted (.comp [8] (.op2 .mul (.v 7) (.v 8)) (.n 8) (.e (.v 6)) [] [])))] := rfl
  rw [run_succ, hB, hB2]
  simp only [argsOk, execs_append]
  simp [r1, hx, r2, hy]
  rw [e1]
  by_cases cx : x = 1 ∧ y = 1
  · rw [if_pos cx] at hy'
    obtain ⟨cx1, cy1⟩ := cx
    subst hy'
    subst cx1
    subst cy1
    simp at hs0 hs1 hs2
    simp [mulOk_l, mulOk_r, mt, hs0, hs1, hs2, e2, r3, hn, turns, line, mn, sort3_d, es]
  · rw [if_neg cx] at hy'
    subst hy'
    by_cases c1 : x = 1
    · have c2 : ¬ y' = 1 := fun z => cx ⟨c1, z⟩
      subst c1
      simp at hs0 hs1 hs2
      simp [c2, mulOk_l, my, mt, mxy, hs0, hs1, hs2, e2, r3, hn, turns, line, mn, sort3_d, es]
    · simp [c1, mx, my, mt, mxy, hs0, hs1, hs2, e2, r3, hn, turns, line, mn, sort3_d, es]
/-! ### the law -/
theorem r_times_of [H_times_of T] {k : Nat} {a b c n : Int} (h : Tri a b c) (hn : 1 ≤ n) (hn6 : n ≤ 1000000) (h9 : c * n ≤ 1000000000) : run T (k + 6) i_times_of [.v (.tup [.int a, .int b, .int c]), .v (.int n)] = .ok (.tup [.int (a * n), .int (b * n), .int (c * n)], false) .non := by
  obtain ⟨b1, b2, b3⟩ := tri_bits h
  have n1 := r_need_whole (T := T) (k := k + 2) (a := n) (lo := 1) (hi := 1000000) hn hn6
  have mo : ∀ w : Int, mulOk w n = true := fun w => mulOk_r (by omega)
  have ne : ¬ 1000000000 < c * n := by omega
  have e : run T (k + 5) i_times_in [.v (.tup [.int a, .int b, .int c]), .v (.int n)] = .ok (.tup [.int (a * n), .int (b * n), .int (c * n)], false) .non := by
    rw [run_succ]
    simp [f_times_in, argsOk, turns, line, mo]
  rw [run_succ]
  simp [f_times_of, argsOk, h, n1, mo, ne, e]
theorem WT.times {a b c A n : Int} (h : WT a b c A) (hn : 1 ≤ n) (h9 : c * n ≤ 1000000000) : WT (a * n) (b * n) (c * n) (A * (n * n)) := by
  obtain ⟨⟨h1, h2, h3, h4, h5⟩, hA, he⟩ := h
  have k1 := Int.mul_le_mul_of_nonneg_right h2 (show 0 ≤ n by omega)
  have k2 := Int.mul_le_mul_of_nonneg_right h3 (show 0 ≤ n by omega)
  have k3 := Int.mul_pos (show 0 < a by omega) (show 0 < n by omega)
  have k4 := Int.mul_pos (show 0 < a + b - c by omega) (show 0 < n by omega)
  have k5 : (a + b - c) * n = a * n + b * n - c * n := by grind
  have k6 := Int.mul_pos (show 0 < A by omega) (Int.mul_pos (show 0 < n by omega) (show 0 < n by omega))
  refine ⟨⟨by omega, k1, k2, by omega, h9⟩, by omega, ?_⟩
  rw [Int.mul_comm a n, Int.mul_comm b n, Int.mul_comm c n, sqn_times, ← he]
  grind
theorem g3_times {a b c n : Int} (hc : c ≠ 0) (hn : 1 ≤ n) : (a * n) / g3 (a * n) (b * n) (c * n) = a / g3 a b c ∧ (b * n) / g3 (a * n) (b * n) (c * n) = b / g3 a b c ∧ (c * n) / g3 (a * n) (b * n) (c * n) = c / g3 a b c := by
  have hg := g3_pos (a := a) (b := b) hc
  obtain ⟨⟨x, hx⟩, ⟨y, hy⟩, ⟨z, hz⟩⟩ := dvd_g3.mp (Int.dvd_refl (g3 a b c))
  have e1 := g3_div (a := a) (b := b) hc
  have key : g3 (a * n) (b * n) (c * n) = g3 a b c * n := by
    refine Int.dvd_antisymm (g3_nonneg _ _ _) (Int.mul_nonneg (by omega) (by omega)) ?_ (dvd_g3.mpr ⟨Int.mul_dvd_mul_right _ (dvd_g3.mp (Int.dvd_refl _)).1, Int.mul_dvd_mul_right _ (dvd_g3.mp (Int.dvd_refl _)).2.1, Int.mul_dvd_mul_right _ (dvd_g3.mp (Int.dvd_refl _)).2.2⟩)
    unfold g3 gc
    rw [Int.gcd_mul_right, Int.natCast_mul, show ((n.natAbs : Nat) : Int) = n by omega, Int.gcd_mul_right, Int.natCast_mul, show ((n.natAbs : Nat) : Int) = n by omega]
    exact Int.dvd_refl _
  rw [key]
  have dv : ∀ w : Int, w * n / (g3 a b c * n) = w / g3 a b c := fun w => Int.mul_ediv_mul_of_pos_left _ _ (by omega)
  exact ⟨dv a, dv b, dv c⟩
theorem r_plain_of [H_plain_of T] {k : Nat} {a b c : Int} (h : Tri a b c) : run T (k + 6) i_plain_of [.v (.tup [.int a, .int b, .int c])] = .ok (.tup [.int (a / g3 a b c), .int (b / g3 a b c), .int (c / g3 a b c)], false) .non := by
  obtain ⟨h1, h2, h3, h4, h5⟩ := id h
  have e := r_plain_in (T := T) (k := k + 2) (a := a) (b := b) (c := c) (by omega) (by omega) (by omega) (by omega)
  rw [run_succ]
  simp [f_plain_of, argsOk, h, e]
def pre20 : List Sm := f_law_20.body.take 6
def loop20 : List Sm := [.set (.n 6) (.callr i__law_whole_drawn 4 [(.v 5)]), .ifs (.not (.e (.call i__law_right [(.v 6)]))) [.ret (.c (.bl false))] [], .set (.n 7) (.op2 .add (.c (.int 1)) (.callr i__law_roll 4 [(.op2 .min (.op2 .pow (.c (.int 10)) (.c (.int 6))) (.op1 .int (.op2 .fdiv (.op2 .pow (.c (.int 10)) (.c (.int 9))) (.op2 .idx (.v 6) (.c (.int 2))))))])), .set (.n 8) (.call i_times_of [(.v 6), (.v 7)]), .ifs (.or (.not (.e (.call i__law_like [(.lst [(.v 8), (.call i_plain_of [(.v 8)])]), (.lst [(.op1 .tuple (.comp [11] (.op2 .mul (.v 7) (.v 11)) (.n 11) (.e (.v 6)) [] [])), (.call i__law_plain [(.v 6)])])]))) (.not (.e (.call i__law_right [(.v 8)])))) [.ret (.c (.bl false))] []]
theorem loop_20 [H_law_20 T] {k : Nat} {cu : Cup} {m : Int} {X0 X1 X2 X3 s6 s7 s8 s9 s10 : S} (h1 : 1 ≤ m) (h9 : m ≤ 30) (n6 : S.nr s6) (n7 : S.nr s7) (n8 : S.nr s8) :
    ∃ cu' : Cup, ∃ d6 d7 d8, execs (run T (k + 15)) loop20 [X0, X1, X2, X3, .own cu.d, .v (.int m), s6, s7, s8, s9, s10, .no] = .nx [X0, X1, X2, X3, .own cu'.d, .v (.int m), .v d6, .v d7, .v d8, s9, s10, .no] := by
  obtain ⟨a, b, c, A, c1, wt, e1⟩ := r__law_whole_drawn (T := T) (k := k + 10) (cu := cu) h1 h9
  obtain ⟨t1, t2, t3, t4, t5⟩ := wt.t
  have e2 := r__law_right_20 (T := T) (k := k + 1) wt
  have hp6 : powOk 10 6 = true := by decide
  have hp9 : powOk 10 9 = true := by decide
  have q1 : (1000000000 : Int).fdiv c = 1000000000 / c := Int.fdiv_eq_ediv_of_nonneg _ (by omega)
  have q2 : 1 ≤ 1000000000 / c := by rw [Int.le_ediv_iff_mul_le (by omega)]; omega
  have q3 : 1000000000 / c * c ≤ 1000000000 := Int.ediv_mul_le _ (by omega)
  generalize 1000000000 / c = M at *
  obtain ⟨w, hw⟩ : ∃ w, (if M < 1000000 then M else 1000000) = w := ⟨_, rfl⟩
  have w1 : 1 ≤ w ∧ w ≤ M ∧ w ≤ 1000000 := by rw [← hw]; split <;> omega
  have bw : Bits w 31 := ⟨by omega⟩
  have r1 := r__law_roll (T := T) (k := k + 14) (c := c1) (m := w) (by omega) (by omega)
  have p0 := roll_nonneg (c := c1) (m := w) (by omega)
  have p1 := roll_lt (c := c1) (m := w) (by omega)
  generalize c1.roll w = p at *
  generalize c1.next w = c2 at *
  obtain ⟨n, hn⟩ : ∃ n, 1 + p = n := ⟨_, rfl⟩
  have hcn : c * n ≤ 1000000000 := by
    have := Int.mul_le_mul_of_nonneg_left (show n ≤ M by omega) (show 0 ≤ c by omega)
    rw [Int.mul_comm c M] at this
    omega
  have wt2 := wt.times (n := n) (by omega) hcn
  have e3 := r_times_of (T := T) (k := k + 9) (n := n) wt.t (by omega) (by omega) hcn
  have e4 := r_plain_of (T := T) (k := k + 9) wt2.t
  obtain ⟨g1, g2, g3'⟩ := g3_times (a := a) (b := b) (c := c) (n := n) (by omega) (by omega)
  rw [g1, g2, g3'] at e4
  have e5 := r__law_plain20 (T := T) (k := k + 12) (X := .tup [.int a, .int b, .int c]) (.inr rfl) (by omega) (by omega) (by omega) (by omega)
  have e6 := r__law_right_20 (T := T) (k := k + 1) wt2
  have l1 := fun (d : D) (hd : D.fit 6 d = true) => like_s (T := T) (k := k + 15) hd (by omega)
  have mo : ∀ w : Int, mulOk n w = true := fun w => mulOk_l (by omega)
  have cm : ∀ w : Int, n * w = w * n := fun w => Int.mul_comm _ _
  have bc : Bits c 31 := ⟨by omega⟩
  have dv : divOk c = true := divOk_bd (by omega) (by omega)
  have n6' : ∀ d, ¬ s6 = .ref d := n6
  have n7' : ∀ d, ¬ s7 = .ref d := n7
  have n8' : ∀ d, ¬ s8 = .ref d := n8
  exact ⟨c2, .tup [.int a, .int b, .int c], .int n, .tup [.int (a * n), .int (b * n), .int (c * n)], by simp [loop20, e1, e2, hp6, hp9, q1, hw, r1, hn, e3, e4, e5, e6, l1, turns, line, mo, cm, dv, n6', n7', n8']⟩
theorem qq_int {n d m : Int} (hd : d ≠ 0) (h : n = m * d) : qq n d = (m : Rat) := by
  unfold qq
  rw [h, Rat.intCast_mul]
  have := rat_ne hd
  generalize (d : Rat) = x at *
  generalize (m : Rat) = y at *
  grind
theorem qq_eq {n d p q : Int} (hd : 0 < d) (hq : 0 < q) (h : n * q = p * d) : qq n d = qq p q := (frac_eq hd hq).mpr h
theorem law20 [H_law_20 T] {k : Nat} {ns : List Int} (hns : ns.length ≤ 63) {s1 s2 s3 : S} (n2 : S.nr s2)
    (hpre : execs (run T (k + 20)) pre20 [.v (.scr ns), .no, .no, .no, .no, .no, .no, .no, .no, .no, .no, .no] = .nx [.v (.scr ns), s1, s2, s3, .no, .no, .no, .no, .no, .no, .no, .no]) :
    run T (k + 21) i_law [.v (.scr ns)] = .ok (.bl true, false) .non := by
  obtain ⟨c0, e0⟩ := r__law_cup (T := T) (k := k + 19) (ns := ns) hns
  have b := fun (c : Cup) (m : Int) (s6 s7 s8 : S) h1 h9 n6 n7 n8 => loop_20 (T := T) (k := k + 5) (cu := c) (m := m) (X0 := .v (.scr ns)) (X1 := s1) (X2 := s2) (X3 := s3) (s6 := s6) (s7 := s7) (s8 := s8) (s9 := .no) (s10 := .no) h1 h9 n6 n7 n8
  obtain ⟨c1, a6, a7, a8, k1⟩ := b c0 2 .no .no .no (by omega) (by omega) nr_no nr_no nr_no
  obtain ⟨c2, b6, b7, b8, k2⟩ := b c1 4 (.v a6) (.v a7) (.v a8) (by omega) (by omega) nr_v nr_v nr_v
  obtain ⟨c3, d6, d7, d8, k3⟩ := b c2 9 (.v b6) (.v b7) (.v b8) (by omega) (by omega) nr_v nr_v nr_v
  obtain ⟨c4, e6, e7, e8, k4⟩ := b c3 30 (.v d6) (.v d7) (.v d8) (by omega) (by omega) nr_v nr_v nr_v
  have b8' : Bits (200000000 : Int) 28 := ⟨by decide⟩
  have r1 := r__law_roll (T := T) (k := k + 19) (c := c4) (m := 200000000) (by omega) (by omega)
  have p0 := roll_nonneg (c := c4) (m := 200000000) (by omega)
  have p1 := roll_lt (c := c4) (m := 200000000) (by omega)
  generalize c4.roll 200000000 = p at *
  generalize c4.next 200000000 = c5 at *
  obtain ⟨t, ht⟩ : ∃ t, 1 + p = t := ⟨_, rfl⟩
  have tt := Int.mul_pos (show 0 < t by omega) (show 0 < t by omega)
  have wt : WT (3 * t) (4 * t) (5 * t) (6 * (t * t)) := ⟨⟨by omega, by omega, by omega, by omega, by omega⟩, by omega, by unfold sqn; grind⟩
  have f1 := r_inner_radius (T := T) (k := k + 13) wt
  have f2 := r_round_radius (T := T) (k := k + 13) wt
  have f3 := r_outer_radii (T := T) (k := k + 13) wt
  have f4 := r_heights_of (T := T) (k := k + 13) wt
  rw [qq_int (n := 2 * (6 * (t * t))) (d := 3 * t + 4 * t + 5 * t) (m := t) (by omega) (by grind)] at f1
  have hq2 : (5 * t * 2 : Int) = 5 * t * 2 := rfl
  rw [qq_eq (n := 3 * t * (4 * t) * (5 * t)) (d := 4 * (6 * (t * t))) (p := 5 * t) (q := 2) (by omega) (by omega) (by grind)] at f2
  rw [qq_int (n := 2 * (6 * (t * t))) (d := 3 * t + 4 * t + 5 * t - 2 * (3 * t)) (m := 2 * t) (by omega) (by grind), qq_int (n := 2 * (6 * (t * t))) (d := 3 * t + 4 * t + 5 * t - 2 * (4 * t)) (m := 3 * t) (by omega) (by grind), qq_int (n := 2 * (6 * (t * t))) (d := 3 * t + 4 * t + 5 * t - 2 * (5 * t)) (m := 6 * t) (by omega) (by grind)] at f3
  rw [qq_int (n := 2 * (6 * (t * t))) (d := 3 * t) (m := 4 * t) (by omega) (by grind), qq_int (n := 2 * (6 * (t * t))) (d := 4 * t) (m := 3 * t) (by omega) (by grind)] at f4
  have hl := r__law_leastR (T := T) (k := k + 18) (a := 5 * t) (b := 2) (m := 2) (hbits := ⟨by decide⟩) (by omega) (by omega)
  change run T (k + 20) i__law_least _ = .ok (fr3 (qq (5 * t) 2), false) .non at hl
  have g : ∀ m : Int, fr3 (m : Rat) = .tup [.int m, .int 1] := fun _ => rfl
  simp only [g] at f1 f3 f4
  have l1 := fun (d : D) (hd : D.fit 6 d = true) => like_s (T := T) (k := k + 20) hd (by omega)
  have hp8 : powOk 10 8 = true := by decide
  have hB : f_law_20.body = pre20 ++ ([.set (.n 4) (.call i__law_cup [(.v 0)]), .forr (.n 5) (.e (.tup [(.c (.int 2)), (.c (.int 4)), (.c (.int 9)), (.c (.int 30))])) loop20] ++ f_law_20.body.drop 8) := rfl
  have hB2 : f_law_20.body.drop 8 = [.set (.n 9) (.op2 .add (.c (.int 1)) (.callr i__law_roll 4 [(.op2 .mul (.c (.int 2)) (.op2 .pow (.c (.int 10)) (.c (.int 8))))])), .set (.n 10) (.tup [(.op2 .mul (.c (.int 3)) (.v 9)), (.op2 .mul (.c (.int 4)) (.v 9)), (.op2 .mul (.c (.int 5)) (.v 9))]), .set (.n 2) (.lst [(.call i_inner_radius [(.v 10)]), (.call i_round_radius [(.v 10)]), (.call i_outer_radii [(.v 10)]), (.to (.call i_heights_of [(.v 10)]) (.c (.int 2)))]), .ret (.call i__law_like [(.v 2), (.lst [(.tup [(.v 9), (.c (.int 1))]), (.call i__law_least [(.op2 .mul (.c (.int 5)) (.v 9)), (.c (.int 2))]), (.tup [(.tup [(.op2 .mul (.c (.int 2)) (.v 9)), (.c (.int 1))]), (.tup [(.op2 .mul (.c (.int 3)) (.v 9)), (.c (.int 1))]), (.tup [(.op2 .mul (.c (.int 6)) (.v 9)), (.c (.int 1))])]), (.tup [(.tup [(.op2 .mul (.c (.int 4)) (.v 9)), (.c (.int 1))]), (.tup [(.op2 .mul (.c (.int 3)) (.v 9)), (.c (.int 1))])])])])] := rfl
  rw [run_succ, hB, hB2]
  have hargs : argsOk f_law_20 [.v (.scr ns)] = true := rfl
  have hst : start f_law_20.slots [.v (.scr ns)] = [.v (.scr ns), .no, .no, .no, .no, .no, .no, .no, .no, .no, .no, .no] := rfl
  have hby : f_law_20.byref = false := rfl
  rw [hargs, hst, hby]
  simp only [execs_append]
  generalize pre20 = PR at *
  generalize loop20 = LP at *
  clear b
  have n2' : ∀ d, ¬ s2 = .ref d := n2
  simp only [Nat.reduceAdd, Nat.add_assoc] at k1 k2 k3 k4
  simp [hpre, e0, setP_cup, forS, k1, k2, k3, k4, hp8, mulOk_l, r1, ht, f1, f2, f3, f4, hl, l1, n2', cut, sIx]
end G
end

section
set_option maxHeartbeats 4000000
/-! Law 3: right triangles and their two numbers. -/
namespace G
def i__law_drawn_right : Nat := 70
def i_fits_right : Nat := 61
def i_is_right : Nat := 65
def i_right_by : Nat := 63
def i_right_of : Nat := 66
def i_numbers_in : Nat := 64
def i_numbers_of : Nat := 67
def i__law_right_one : Nat := 72
def i_right_of_gaps : Nat := 68
def i__law_fits_right : Nat := 71
def i__law_bent : Nat := 27
def i__law_values_right : Nat := 74
def i__law_written : Nat := 75
def f__law_two : Fn := ⟨2, 5, true, [
  .set (.n 2) (.op2 .add (.c (.int 2)) (.callr i__law_roll 0 [(.op2 .sub (.v 1) (.c (.int 1)))])),
  .set (.n 3) (.comp [4] (.v 4) (.n 4) (.range [(.op2 .max (.c (.int 1)) (.op2 .sub (.op2 .sub (.v 2) (.c (.int 1))) (.callr i__law_roll 0 [(.c (.int 40))]))), (.v 2)]) [(.and (.b (.op2 .eq (.op2 .mod (.op1 .int (.op2 .add (.v 2) (.v 4))) (.c (.int 2))) (.c (.int 1)))) (.b (.op2 .eq (.call i__law_divisor [(.v 2), (.v 4)]) (.c (.int 1)))))] []),
  .ret (.tup [(.v 2), (.ifx (.b (.op2 .ne (.v 3) (.lst []))) (.callr i__law_some 0 [(.v 3)]) (.op2 .sub (.v 2) (.c (.int 1))))])]⟩
def f__law_drawn_right : Fn := ⟨2, 7, true, [
  .set (.t [(.n 2), (.n 3)]) (.callr i__law_two 0 [(.v 1)]),
  .set (.n 4) (.call i__law_right [(.v 2), (.v 3)]),
  .set (.n 5) (.op2 .add (.c (.int 1)) (.callr i__law_roll 0 [(.op2 .min (.c (.int 1000)) (.op1 .int (.op2 .fdiv (.op2 .pow (.c (.int 10)) (.c (.int 9))) (.op2 .idx (.v 4) (.c (.int 2))))))])),
  .ret (.op1 .tuple (.comp [6] (.op2 .mul (.v 6) (.v 5)) (.n 6) (.e (.v 4)) [] []))]⟩
def f_fits_right : Fn := ⟨1, 1, false, [
  .ret (.and (.call i_fits_triangle [(.v 0)]) (.op2 .eq (.call i_kind_in [(.v 0)]) (.c (.str (PySem.Str.ofString "right")))))]⟩
def f_is_right : Fn := ⟨1, 1, false, [
  .ret (.call i_fits_right [(.v 0)])]⟩
def f_right_by : Fn := ⟨2, 2, false, [
  .ret (.op2 .add (.op1 .tuple (.op1 .sorted (.lst [(.op2 .sub (.op2 .mul (.v 0) (.v 0)) (.op2 .mul (.v 1) (.v 1))), (.op2 .mul (.op2 .mul (.c (.int 2)) (.v 0)) (.v 1))]))) (.tup [(.op2 .add (.op2 .mul (.v 0) (.v 0)) (.op2 .mul (.v 1) (.v 1)))]))]⟩
def f_right_of : Fn := ⟨2, 2, false, [
  .expr (.call i_need_whole [(.v 0), (.c (.int 2)), (.c (.int 31622))]),
  .expr (.call i_need_whole [(.v 1), (.c (.int 1)), (.op2 .sub (.v 0) (.c (.int 1)))]),
  .ifs (.b (.op2 .gt (.op2 .add (.op2 .mul (.v 0) (.v 0)) (.op2 .mul (.v 1) (.v 1))) (.c (.int 1000000000)))) [.rais 3 [(.c (.str (PySem.Str.ofString "a side would be too great")))]] [],
  .ret (.call i_right_by [(.v 0), (.v 1)])]⟩
def f_need_right : Fn := ⟨1, 1, false, [
  .ifs (.not (.e (.call i_fits_right [(.v 0)]))) [.rais 1 [(.c (.str (PySem.Str.ofString "no right triangle")))]] []]⟩
def f_numbers_in : Fn := ⟨1, 2, false, [
  .set (.n 1) (.ifx (.b (.op2 .eq (.op2 .mod (.op2 .idx (.v 0) (.c (.int 0))) (.c (.int 2))) (.c (.int 1)))) (.op2 .idx (.v 0) (.c (.int 0))) (.op2 .idx (.v 0) (.c (.int 1)))),
  .ret (.tup [(.call i_root_in [(.op2 .fdiv (.op2 .add (.op2 .idx (.v 0) (.c (.int 2))) (.v 1)) (.c (.int 2)))]), (.call i_root_in [(.op2 .fdiv (.op2 .sub (.op2 .idx (.v 0) (.c (.int 2))) (.v 1)) (.c (.int 2)))])])]⟩
def f_numbers_of : Fn := ⟨1, 1, false, [
  .expr (.call i_need_right [(.v 0)]),
  .ret (.op2 .add (.tup [(.call i_part_in [(.v 0)])]) (.call i_numbers_in [(.call i_plain_in [(.v 0)])]))]⟩
def f__law_right_one : Fn := ⟨3, 13, true, [
  .set (.n 3) (.call i__law_right [(.v 1), (.v 2)]),
  .set (.n 4) (.op1 .int (.op2 .fdiv (.op2 .pow (.c (.int 10)) (.c (.int 9))) (.op2 .idx (.v 3) (.c (.int 2))))),
  .set (.n 5) (.op2 .add (.c (.int 1)) (.callr i__law_roll 0 [(.op2 .min (.v 4) (.op2 .pow (.c (.int 10)) (.c (.int 6))))])),
  .set (.n 6) (.call i_times_of [(.v 3), (.v 5)]),
  .set (.n 7) (.lst [(.call i_right_of [(.v 1), (.v 2)]), (.call i_is_right [(.v 3)]), (.call i_is_plain [(.v 3)]), (.call i_numbers_of [(.v 3)]), (.call i_is_right [(.v 6)]), (.call i_numbers_of [(.v 6)]), (.call i_kind_of [(.v 6)])]),
  .ifs (.not (.e (.call i__law_like [(.v 7), (.lst [(.v 3), (.c (.bl true)), (.c (.bl true)), (.tup [(.c (.int 1)), (.v 1), (.v 2)]), (.c (.bl true)), (.tup [(.v 5), (.v 1), (.v 2)]), (.c (.str (PySem.Str.ofString "right")))])]))) [.ret (.c (.bl false))] [],
  .set (.n 8) (.op2 .add (.c (.int 2)) (.callr i__law_roll 0 [(.c (.int 2000))])),
  .set (.n 9) (.op2 .add (.c (.int 1)) (.callr i__law_roll 0 [(.op2 .sub (.v 8) (.c (.int 1)))])),
  .set (.n 10) (.call i_right_of [(.v 8), (.v 9)]),
  .ifs (.not (.e (.call i__law_like [(.lst [(.v 10), (.call i_is_triangle [(.v 10)]), (.call i_is_right [(.v 10)])]), (.lst [(.call i__law_right [(.v 8), (.v 9)]), (.c (.bl true)), (.c (.bl true))])]))) [.ret (.c (.bl false))] [],
  .set (.n 11) (.call i_numbers_of [(.v 10)]),
  .ret (.and (.call i__law_like [(.op1 .tuple (.comp [12] (.op2 .mul (.op2 .idx (.v 11) (.c (.int 0))) (.v 12)) (.n 12) (.e (.call i__law_right [(.op2 .idx (.v 11) (.c (.int 1))), (.op2 .idx (.v 11) (.c (.int 2)))])) [] [])), (.v 10)]) (.and (.op2 .eq (.call i__law_divisor [(.op2 .idx (.v 11) (.c (.int 1))), (.op2 .idx (.v 11) (.c (.int 2)))]) (.c (.int 1))) (.op2 .eq (.op2 .mod (.op1 .int (.op2 .add (.op2 .idx (.v 11) (.c (.int 1))) (.op2 .idx (.v 11) (.c (.int 2))))) (.c (.int 2))) (.c (.int 1)))))]⟩
def f_right_of_gaps : Fn := ⟨2, 3, false, [
  .expr (.call i_need_whole [(.v 0), (.c (.int 1)), (.c (.int 200000000))]),
  .expr (.call i_need_whole [(.v 1), (.c (.int 1)), (.c (.int 200000000))]),
  .ifs (.not (.e (.call i_is_square_in [(.op2 .mul (.op2 .mul (.c (.int 2)) (.v 0)) (.v 1))]))) [.ret (.c .non)] [],
  .set (.n 2) (.call i_root_in [(.op2 .mul (.op2 .mul (.c (.int 2)) (.v 0)) (.v 1))]),
  .ret (.op2 .add (.op1 .tuple (.op1 .sorted (.lst [(.op2 .add (.v 0) (.v 2)), (.op2 .add (.v 1) (.v 2))]))) (.tup [(.op2 .add (.op2 .add (.v 0) (.v 1)) (.v 2))]))]⟩
def f__law_fits_right : Fn := ⟨1, 2, false, [
  .ifs (.or (.not (.e (.op1 (.isTy 3) (.v 0)))) (.or (.b (.op2 .ne (.op1 .len (.v 0)) (.c (.int 3)))) (.b (.op2 .ne (.comp [1] (.v 1) (.n 1) (.e (.v 0)) [(.or (.b (.op2 .ne (.call i__law_sort [(.v 1)]) (.c (.int 2)))) (.not (.b (.chain .le .le (.c (.int 1)) (.v 1) (.op2 .pow (.c (.int 10)) (.c (.int 9)))))))] []) (.lst []))))) [.ret (.c (.bl false))] [],
  .ret (.and (.chain .le .le (.op2 .idx (.v 0) (.c (.int 0))) (.op2 .idx (.v 0) (.c (.int 1))) (.op2 .idx (.v 0) (.c (.int 2)))) (.op2 .eq (.op2 .add (.op2 .mul (.op2 .idx (.v 0) (.c (.int 0))) (.op2 .idx (.v 0) (.c (.int 0)))) (.op2 .mul (.op2 .idx (.v 0) (.c (.int 1))) (.op2 .idx (.v 0) (.c (.int 1))))) (.op2 .mul (.op2 .idx (.v 0) (.c (.int 2))) (.op2 .idx (.v 0) (.c (.int 2))))))]⟩
def f__law_gaps_right : Fn := ⟨2, 9, true, [
  .par [2, 3] [(.op2 .sub (.op2 .idx (.v 1) (.c (.int 2))) (.op2 .idx (.v 1) (.c (.int 1)))), (.op2 .sub (.op2 .idx (.v 1) (.c (.int 2))) (.op2 .idx (.v 1) (.c (.int 0))))],
  .ifs (.and (.b (.op2 .le (.v 3) (.op2 .mul (.c (.int 2)) (.op2 .pow (.c (.int 10)) (.c (.int 8)))))) (.not (.e (.call i__law_like [(.lst [(.call i_right_of_gaps [(.v 2), (.v 3)]), (.call i_right_of_gaps [(.v 3), (.v 2)])]), (.lst [(.v 1), (.v 1)])])))) [.ret (.c (.bl false))] [],
  .par [2, 3] [(.op2 .add (.c (.int 1)) (.callr i__law_roll 0 [(.op2 .mul (.c (.int 2)) (.op2 .pow (.c (.int 10)) (.c (.int 8))))])), (.op2 .add (.c (.int 1)) (.callr i__law_roll 0 [(.callr i__law_some 0 [(.lst [(.c (.int 10)), (.c (.int 1000)), (.op2 .mul (.c (.int 2)) (.op2 .pow (.c (.int 10)) (.c (.int 8))))])])]))],
  .set (.n 4) (.call i__law_root [(.op2 .mul (.op2 .mul (.c (.int 2)) (.v 2)) (.v 3))]),
  .set (.n 5) (.ifx (.b (.op2 .eq (.op2 .mul (.v 4) (.v 4)) (.op2 .mul (.op2 .mul (.c (.int 2)) (.v 2)) (.v 3)))) (.op1 .tuple (.op1 .sorted (.lst [(.op2 .add (.v 2) (.v 4)), (.op2 .add (.v 3) (.v 4)), (.op2 .add (.op2 .add (.v 2) (.v 3)) (.v 4))]))) (.c .non)),
  .ifs (.not (.e (.call i__law_like [(.call i_right_of_gaps [(.v 2), (.v 3)]), (.v 5)]))) [.ret (.c (.bl false))] [],
  .par [6, 7] [(.op2 .add (.c (.int 1)) (.callr i__law_roll 0 [(.c (.int 12))])), (.op2 .add (.c (.int 1)) (.callr i__law_roll 0 [(.c (.int 30))]))],
  .set (.n 8) (.call i_right_of_gaps [(.op2 .mul (.op2 .mul (.op2 .mul (.c (.int 2)) (.v 6)) (.v 6)) (.v 7)), (.op2 .mul (.op2 .mul (.v 7) (.op2 .add (.v 6) (.c (.int 1)))) (.op2 .add (.v 6) (.c (.int 1))))]),
  .ret (.and (.op1 .notNone (.v 8)) (.call i__law_fits_right [(.v 8)]))]⟩
def f__law_bent : Fn := ⟨2, 5, true, [
  .set (.n 2) (.lst [(.c .non), (.c (.bl true)), (.c (.int 0)), (.c (.int 1)), (.c (.int 3)), (.c (.int 5)), (.op1 .neg (.c (.int 1))), (.op2 .pow (.c (.int 10)) (.c (.int 9))), (.op2 .add (.op2 .pow (.c (.int 10)) (.c (.int 9))) (.c (.int 1))), (.c (.str (PySem.Str.ofString "3"))), (.tup []), (.lst []), (.tup [(.c (.int 3))])]),
  .ifs (.or (.not (.e (.op1 (.isTy 3) (.v 1)))) (.b (.op2 .eq (.v 1) (.tup [])))) [.ret (.callr i__law_some 0 [(.v 2)])] [],
  .par [3, 4] [(.callr i__law_roll 0 [(.op1 .len (.v 1))]), (.callr i__law_roll 0 [(.c (.int 7))])],
  .ifs (.b (.op2 .lt (.v 4) (.c (.int 4)))) [.ret (.op2 .idx (.lst [(.op2 .add (.to (.v 1) (.v 3)) (.from (.v 1) (.op2 .add (.v 3) (.c (.int 1))))), (.op2 .add (.to (.v 1) (.op2 .add (.v 3) (.c (.int 1)))) (.from (.v 1) (.v 3))), (.op1 .list (.v 1)), (.op1 .rev (.v 1))]) (.v 4))] [],
  .ret (.op2 .add (.op2 .add (.to (.v 1) (.v 3)) (.tup [(.callr i__law_some 0 [(.v 2)])])) (.from (.v 1) (.op2 .add (.v 3) (.c (.int 1)))))]⟩
def f__law_values_right : Fn := ⟨2, 7, true, [
  .set (.t [(.n 2), (.n 3), (.n 4)]) (.v 1),
  .set (.n 5) (.lst [(.v 1), (.op1 .rev (.v 1)), (.op1 .list (.v 1)), (.to (.v 1) (.c (.int 2))), (.op2 .add (.v 1) (.tup [(.c (.int 1))])), (.tup [(.v 3), (.v 2), (.v 4)]), (.tup [(.v 2), (.v 3), (.op2 .add (.v 4) (.c (.int 1)))]), (.tup [(.v 2), (.op2 .add (.v 3) (.c (.int 1))), (.v 4)]), (.tup [(.op2 .sub (.v 2) (.c (.int 1))), (.v 3), (.v 4)]), (.c .non), (.tup []), (.c (.int 0)), (.c (.str (PySem.Str.ofString "345"))), (.tup [(.c (.int 0)), (.c (.int 5)), (.c (.int 5))]), (.tup [(.c (.int 3)), (.c (.int 4)), (.c (.bl true))])]),
  .set (.n 5) (.op2 .add (.v 5) (.lst [(.callr i__law_bent 0 [(.v 1)]), (.callr i__law_bent 0 [(.v 1)]), (.callr i__law_triangle 0 [(.c (.int 60))]), (.callr i__law_triangle 0 [(.op2 .pow (.c (.int 10)) (.c (.int 9)))]), (.tup [(.op2 .mul (.c (.int 3)) (.op2 .pow (.c (.int 10)) (.c (.int 9)))), (.op2 .mul (.c (.int 4)) (.op2 .pow (.c (.int 10)) (.c (.int 9)))), (.op2 .mul (.c (.int 5)) (.op2 .pow (.c (.int 10)) (.c (.int 9))))]), (.tup [(.c (.int 5)), (.c (.int 5)), (.c (.int 5))])])),
  .ret (.op2 .eq (.comp [6] (.v 6) (.n 6) (.e (.v 5)) [(.not (.e (.call i__law_like [(.call i_is_right [(.v 6)]), (.call i__law_fits_right [(.v 6)])])))] []) (.lst []))]⟩
def f__law_written : Fn := ⟨0, 1, false, [
  .set (.n 0) (.lst [(.call i_is_right [(.tup [(.c (.int 3)), (.c (.int 4)), (.c (.int 5))])]), (.call i_is_right [(.tup [(.c (.int 5)), (.c (.int 5)), (.c (.int 7))])]), (.call i_right_of [(.c (.int 3)), (.c (.int 2))]), (.call i_right_of [(.c (.int 3)), (.c (.int 1))]), (.call i_numbers_of [(.tup [(.c (.int 5)), (.c (.int 12)), (.c (.int 13))])]), (.call i_numbers_of [(.tup [(.c (.int 6)), (.c (.int 8)), (.c (.int 10))])])]),
  .ifs (.not (.e (.call i__law_like [(.v 0), (.lst [(.c (.bl true)), (.c (.bl false)), (.tup [(.c (.int 5)), (.c (.int 12)), (.c (.int 13))]), (.tup [(.c (.int 6)), (.c (.int 8)), (.c (.int 10))]), (.tup [(.c (.int 1)), (.c (.int 3)), (.c (.int 2))]), (.tup [(.c (.int 2)), (.c (.int 2)), (.c (.int 1))])])]))) [.ret (.c (.bl false))] [],
  .ifs (.not (.e (.call i__law_like [(.lst [(.call i_is_right [(.tup [(.c (.int 2)), (.c (.int 2)), (.c (.int 3))])]), (.call i_numbers_of [(.tup [(.c (.int 8)), (.c (.int 15)), (.c (.int 17))])]), (.call i_right_of_gaps [(.c (.int 7)), (.c (.int 14))])]), (.lst [(.c (.bl false)), (.tup [(.c (.int 1)), (.c (.int 4)), (.c (.int 1))]), (.tup [(.c (.int 21)), (.c (.int 28)), (.c (.int 35))])])]))) [.ret (.c (.bl false))] [],
  .set (.n 0) (.lst [(.call i_right_of_gaps [(.c (.int 1)), (.c (.int 2))]), (.call i_right_of_gaps [(.c (.int 8)), (.c (.int 1))]), (.call i_right_of_gaps [(.c (.int 1)), (.c (.int 3))]), (.call i_right_of_gaps [(.op2 .pow (.c (.int 10)) (.c (.int 8))), (.op2 .mul (.c (.int 2)) (.op2 .pow (.c (.int 10)) (.c (.int 8))))]), (.call i_right_of [(.c (.int 2)), (.c (.int 1))]), (.call i_right_of [(.c (.int 31622)), (.c (.int 1))])]),
  .ret (.call i__law_like [(.v 0), (.lst [(.tup [(.c (.int 3)), (.c (.int 4)), (.c (.int 5))]), (.tup [(.c (.int 5)), (.c (.int 12)), (.c (.int 13))]), (.c .non), (.tup [(.op2 .mul (.c (.int 3)) (.op2 .pow (.c (.int 10)) (.c (.int 8)))), (.op2 .mul (.c (.int 4)) (.op2 .pow (.c (.int 10)) (.c (.int 8)))), (.op2 .mul (.c (.int 5)) (.op2 .pow (.c (.int 10)) (.c (.int 8))))]), (.tup [(.c (.int 3)), (.c (.int 4)), (.c (.int 5))]), (.tup [(.c (.int 63244)), (.c (.int 999950883)), (.c (.int 999950885))])])])]⟩
def f_law_03 : Fn := ⟨1, 6, false, [
  .ifs (.not (.e (.call i__law_written []))) [.ret (.c (.bl false))] [],
  .set (.n 1) (.call i__law_cup [(.v 0)]),
  .forr (.n 2) (.e (.tup [(.c (.int 3)), (.c (.int 20)), (.c (.int 900)), (.c (.int 22000))])) [.set (.t [(.n 3), (.n 4)]) (.callr i__law_two 1 [(.v 2)]), .ifs (.not (.e (.callr i__law_right_one 1 [(.v 3), (.v 4)]))) [.ret (.c (.bl false))] [], .set (.n 5) (.callr i__law_drawn_right 1 [(.v 2)]), .ifs (.or (.not (.e (.callr i__law_gaps_right 1 [(.v 5)]))) (.not (.e (.callr i__law_values_right 1 [(.v 5)])))) [.ret (.c (.bl false))] []],
  .ret (.c (.bl true))]⟩
class H__law_two (T : Table) : Prop where
  s : Has T i__law_two f__law_two
  c0 : H__law_roll T
  c1 : H__law_some T
  c2 : H__law_divisor T
instance {T : Table} [h : H__law_two T] : Has T i__law_two f__law_two := h.s
instance {T : Table} [h : H__law_two T] : H__law_roll T := h.c0
instance {T : Table} [h : H__law_two T] : H__law_some T := h.c1
instance {T : Table} [h : H__law_two T] : H__law_divisor T := h.c2
class H__law_drawn_right (T : Table) : Prop where
  s : Has T i__law_drawn_right f__law_drawn_right
  c0 : H__law_roll T
  c1 : H__law_right T
  c2 : H__law_two T
instance {T : Table} [h : H__law_drawn_right T] : Has T i__law_drawn_right f__law_drawn_right := h.s
instance {T : Table} [h : H__law_drawn_right T] : H__law_roll T := h.c0
instance {T : Table} [h : H__law_drawn_right T] : H__law_right T := h.c1
instance {T : Table} [h : H__law_drawn_right T] : H__law_two T := h.c2
class H_fits_right (T : Table) : Prop where
  s : Has T i_fits_right f_fits_right
  c0 : H_fits_triangle T
  c1 : H_kind_in T
instance {T : Table} [h : H_fits_right T] : Has T i_fits_right f_fits_right := h.s
instance {T : Table} [h : H_fits_right T] : H_fits_triangle T := h.c0
instance {T : Table} [h : H_fits_right T] : H_kind_in T := h.c1
class H_is_right (T : Table) : Prop where
  s : Has T i_is_right f_is_right
  c0 : H_fits_right T
instance {T : Table} [h : H_is_right T] : Has T i_is_right f_is_right := h.s
instance {T : Table} [h : H_is_right T] : H_fits_right T := h.c0
class H_right_by (T : Table) : Prop where
  s : Has T i_right_by f_right_by
instance {T : Table} [h : H_right_by T] : Has T i_right_by f_right_by := h.s
class H_right_of (T : Table) : Prop where
  s : Has T i_right_of f_right_of
  c0 : H_need_whole T
  c1 : H_right_by T
instance {T : Table} [h : H_right_of T] : Has T i_right_of f_right_of := h.s
instance {T : Table} [h : H_right_of T] : H_need_whole T := h.c0
instance {T : Table} [h : H_right_of T] : H_right_by T := h.c1
class H_need_right (T : Table) : Prop where
  s : Has T i_need_right f_need_right
  c0 : H_fits_right T
instance {T : Table} [h : H_need_right T] : Has T i_need_right f_need_right := h.s
instance {T : Table} [h : H_need_right T] : H_fits_right T := h.c0
class H_numbers_in (T : Table) : Prop where
  s : Has T i_numbers_in f_numbers_in
  c0 : H_root_in T
instance {T : Table} [h : H_numbers_in T] : Has T i_numbers_in f_numbers_in := h.s
instance {T : Table} [h : H_numbers_in T] : H_root_in T := h.c0
class H_numbers_of (T : Table) : Prop where
  s : Has T i_numbers_of f_numbers_of
  c0 : H_part_in T
  c1 : H_plain_in T
  c2 : H_need_right T
  c3 : H_numbers_in T
instance {T : Table} [h : H_numbers_of T] : Has T i_numbers_of f_numbers_of := h.s
instance {T : Table} [h : H_numbers_of T] : H_part_in T := h.c0
instance {T : Table} [h : H_numbers_of T] : H_plain_in T := h.c1
instance {T : Table} [h : H_numbers_of T] : H_need_right T := h.c2
instance {T : Table} [h : H_numbers_of T] : H_numbers_in T := h.c3
class H__law_right_one (T : Table) : Prop where
  s : Has T i__law_right_one f__law_right_one
  c0 : H_is_triangle T
  c1 : H_kind_of T
  c2 : H_is_plain T
  c3 : H_times_of T
  c4 : H_is_right T
  c5 : H_right_of T
  c6 : H_numbers_of T
  c7 : H__law_roll T
  c8 : H__law_like T
  c9 : H__law_divisor T
  c10 : H__law_right T
instance {T : Table} [h : H__law_right_one T] : Has T i__law_right_one f__law_right_one := h.s
instance {T : Table} [h : H__law_right_one T] : H_is_triangle T := h.c0
instance {T : Table} [h : H__law_right_one T] : H_kind_of T := h.c1
instance {T : Table} [h : H__law_right_one T] : H_is_plain T := h.c2
instance {T : Table} [h : H__law_right_one T] : H_times_of T := h.c3
instance {T : Table} [h : H__law_right_one T] : H_is_right T := h.c4
instance {T : Table} [h : H__law_right_one T] : H_right_of T := h.c5
instance {T : Table} [h : H__law_right_one T] : H_numbers_of T := h.c6
instance {T : Table} [h : H__law_right_one T] : H__law_roll T := h.c7
instance {T : Table} [h : H__law_right_one T] : H__law_like T := h.c8
instance {T : Table} [h : H__law_right_one T] : H__law_divisor T := h.c9
instance {T : Table} [h : H__law_right_one T] : H__law_right T := h.c10
class H_right_of_gaps (T : Table) : Prop where
  s : Has T i_right_of_gaps f_right_of_gaps
  c0 : H_need_whole T
  c1 : H_root_in T
  c2 : H_is_square_in T
instance {T : Table} [h : H_right_of_gaps T] : Has T i_right_of_gaps f_right_of_gaps := h.s
instance {T : Table} [h : H_right_of_gaps T] : H_need_whole T := h.c0
instance {T : Table} [h : H_right_of_gaps T] : H_root_in T := h.c1
instance {T : Table} [h : H_right_of_gaps T] : H_is_square_in T := h.c2
class H__law_fits_right (T : Table) : Prop where
  s : Has T i__law_fits_right f__law_fits_right
  c0 : H__law_sort T
instance {T : Table} [h : H__law_fits_right T] : Has T i__law_fits_right f__law_fits_right := h.s
instance {T : Table} [h : H__law_fits_right T] : H__law_sort T := h.c0
class H__law_gaps_right (T : Table) : Prop where
  s : Has T i__law_gaps_right f__law_gaps_right
  c0 : H_right_of_gaps T
  c1 : H__law_roll T
  c2 : H__law_some T
  c3 : H__law_like T
  c4 : H__law_root T
  c5 : H__law_fits_right T
instance {T : Table} [h : H__law_gaps_right T] : Has T i__law_gaps_right f__law_gaps_right := h.s
instance {T : Table} [h : H__law_gaps_right T] : H_right_of_gaps T := h.c0
instance {T : Table} [h : H__law_gaps_right T] : H__law_roll T := h.c1
instance {T : Table} [h : H__law_gaps_right T] : H__law_some T := h.c2
instance {T : Table} [h : H__law_gaps_right T] : H__law_like T := h.c3
instance {T : Table} [h : H__law_gaps_right T] : H__law_root T := h.c4
instance {T : Table} [h : H__law_gaps_right T] : H__law_fits_right T := h.c5
class H__law_bent (T : Table) : Prop where
  s : Has T i__law_bent f__law_bent
  c0 : H__law_roll T
  c1 : H__law_some T
instance {T : Table} [h : H__law_bent T] : Has T i__law_bent f__law_bent := h.s
instance {T : Table} [h : H__law_bent T] : H__law_roll T := h.c0
instance {T : Table} [h : H__law_bent T] : H__law_some T := h.c1
class H__law_values_right (T : Table) : Prop where
  s : Has T i__law_values_right f__law_values_right
  c0 : H_is_right T
  c1 : H__law_like T
  c2 : H__law_triangle T
  c3 : H__law_fits_right T
  c4 : H__law_bent T
instance {T : Table} [h : H__law_values_right T] : Has T i__law_values_right f__law_values_right := h.s
instance {T : Table} [h : H__law_values_right T] : H_is_right T := h.c0
instance {T : Table} [h : H__law_values_right T] : H__law_like T := h.c1
instance {T : Table} [h : H__law_values_right T] : H__law_triangle T := h.c2
instance {T : Table} [h : H__law_values_right T] : H__law_fits_right T := h.c3
instance {T : Table} [h : H__law_values_right T] : H__law_bent T := h.c4
class H__law_written (T : Table) : Prop where
  s : Has T i__law_written f__law_written
  c0 : H_is_right T
  c1 : H_right_of T
  c2 : H_numbers_of T
  c3 : H_right_of_gaps T
  c4 : H__law_like T
instance {T : Table} [h : H__law_written T] : Has T i__law_written f__law_written := h.s
instance {T : Table} [h : H__law_written T] : H_is_right T := h.c0
instance {T : Table} [h : H__law_written T] : H_right_of T := h.c1
instance {T : Table} [h : H__law_written T] : H_numbers_of T := h.c2
instance {T : Table} [h : H__law_written T] : H_right_of_gaps T := h.c3
instance {T : Table} [h : H__law_written T] : H__law_like T := h.c4
class H_law_03 (T : Table) : Prop where
  s : Has T i_law f_law_03
  c0 : H__law_cup T
  c1 : H__law_two T
  c2 : H__law_drawn_right T
  c3 : H__law_right_one T
  c4 : H__law_gaps_right T
  c5 : H__law_values_right T
  c6 : H__law_written T
instance {T : Table} [h : H_law_03 T] : Has T i_law f_law_03 := h.s
instance {T : Table} [h : H_law_03 T] : H__law_cup T := h.c0
instance {T : Table} [h : H_law_03 T] : H__law_two T := h.c1
instance {T : Table} [h : H_law_03 T] : H__law_drawn_right T := h.c2
instance {T : Table} [h : H_law_03 T] : H__law_right_one T := h.c3
instance {T : Table} [h : H_law_03 T] : H__law_gaps_right T := h.c4
instance {T : Table} [h : H_law_03 T] : H__law_values_right T := h.c5
instance {T : Table} [h : H_law_03 T] : H__law_written T := h.c6

variable {T : Table}
/-! ### numbers of a right triangle -/
structure Cop (o t : Int) : Prop where
  t1 : 1 ≤ t
  lt : t < o
  g : gc o t = 1
  par : (o + t) % 2 = 1
theorem sort3_right {u v c : Int} (h1 : u < c) (h2 : v < c) : sort3 u v c = [min u v, max u v, c] := by
  unfold sort3
  by_cases h3 : u ≤ v
  · rw [if_pos h3, if_pos (by omega), Int.min_eq_left h3, Int.max_eq_right h3]
  · rw [if_neg h3, if_pos (by omega), Int.min_eq_right (by omega), Int.max_eq_left (by omega)]
theorem ot_lt {o t : Int} (h1 : 1 ≤ t) (h2 : t < o) : 1 ≤ o * o - t * t ∧ o * o - t * t < o * o + t * t ∧ 1 ≤ 2 * o * t ∧ 2 * o * t < o * o + t * t := by
  have k1 := sq_lt (show 0 ≤ t by omega) h2
  have k2 : 1 * 1 ≤ t * t := sq_le (by omega) h1
  have k3 : 1 * 1 ≤ o * t := Int.mul_le_mul (by omega) h1 (by omega) (by omega)
  have k4 : 1 * 1 ≤ (o - t) * (o - t) := sq_le (by omega) (show 1 ≤ o - t by omega)
  have e1 : (o - t) * (o - t) = o * o + t * t - 2 * o * t := by grind
  have e2 : 2 * o * t = 2 * (o * t) := by grind
  omega
def rA (o t : Int) : Int := min (o * o - t * t) (2 * o * t)
def rB (o t : Int) : Int := max (o * o - t * t) (2 * o * t)
def rC (o t : Int) : Int := o * o + t * t
theorem r_right {o t : Int} (h1 : 1 ≤ t) (h2 : t < o) : 1 ≤ rA o t ∧ rA o t ≤ rB o t ∧ rB o t < rC o t ∧ rA o t * rA o t + rB o t * rB o t = rC o t * rC o t := by
  obtain ⟨k1, k2, k3, k4⟩ := ot_lt h1 h2
  have e : (o * o - t * t) * (o * o - t * t) + (2 * o * t) * (2 * o * t) = (o * o + t * t) * (o * o + t * t) := by grind
  unfold rA rB rC
  generalize o * o - t * t = u at *
  generalize 2 * o * t = v at *
  generalize o * o + t * t = c at *
  refine ⟨by omega, by omega, by omega, ?_⟩
  by_cases h3 : u ≤ v
  · rw [Int.min_eq_left h3, Int.max_eq_right h3]; exact e
  · rw [Int.min_eq_right (by omega), Int.max_eq_left (by omega)]; omega
theorem r__law_right_ot [H__law_right T] {k : Nat} {o t : Int} (h1 : 1 ≤ t) (h2 : t < o) (h3 : o ≤ 1000000) : run T (k + 1) i__law_right [.v (.int o), .v (.int t)] = .ok (.tup [.int (rA o t), .int (rB o t), .int (rC o t)], false) .non := by
  have b1 : Bits o 31 := ⟨by omega⟩
  have b2 : Bits t 31 := ⟨by omega⟩
  obtain ⟨k1, k2, k3, k4⟩ := ot_lt h1 h2
  rw [run_succ]
  simp (decide := true) [f__law_right, argsOk, sort3_d, sort3_right k2 k4, rA, rB, rC]
/-- the greatest common part of the three -/
theorem cop_g3 {o t : Int} (h : Cop o t) : g3 (rA o t) (rB o t) (rC o t) = 1 := by
  obtain ⟨d1, d2, d3⟩ := dvd_g3.mp (Int.dvd_refl (g3 (rA o t) (rB o t) (rC o t)))
  have hd0 := g3_nonneg (rA o t) (rB o t) (rC o t)
  generalize g3 (rA o t) (rB o t) (rC o t) = d at *
  have du : d ∣ o * o - t * t := by
    by_cases c : o * o - t * t ≤ 2 * o * t
    · unfold rA at d1; rwa [Int.min_eq_left c] at d1
    · unfold rB at d2; rwa [Int.max_eq_left (by omega)] at d2
  have dc : d ∣ o * o + t * t := d3
  have o2 : d ∣ 2 * (o * o) := by
    have := Int.dvd_add dc du
    rwa [show o * o + t * t + (o * o - t * t) = 2 * (o * o) by omega] at this
  have t2 : d ∣ 2 * (t * t) := by
    have := Int.dvd_sub dc du
    rwa [show o * o + t * t - (o * o - t * t) = 2 * (t * t) by omega] at this
  have odd : (o * o + t * t) % 2 = 1 := by
    have hp := h.par
    rw [Int.add_emod, Int.mul_emod o o, Int.mul_emod t t]
    rcases Int.emod_two_eq o with a | a <;> rcases Int.emod_two_eq t with b | b <;> rw [a, b] <;> first | rfl | omega
  have dodd : d % 2 = 1 := by
    rcases Int.emod_two_eq d with a | a
    · have : (2 : Int) ∣ o * o + t * t := Int.dvd_trans (Int.dvd_of_emod_eq_zero a) dc
      have := Int.emod_eq_zero_of_dvd this
      omega
    · exact a
  have n1 : Nat.Coprime d.natAbs 2 := by
    have : Nat.gcd d.natAbs 2 = 1 := by
      have h1 : Nat.gcd d.natAbs 2 ∣ 2 := Nat.gcd_dvd_right _ _
      have h2 : Nat.gcd d.natAbs 2 ∣ d.natAbs := Nat.gcd_dvd_left _ _
      have h3 := Nat.le_of_dvd (by omega) h1
      have h4 : Nat.gcd d.natAbs 2 ≠ 0 := by
        intro w
        rw [w] at h1
        exact absurd (Nat.eq_zero_of_zero_dvd h1) (by omega)
      have h5 : Nat.gcd d.natAbs 2 ≠ 2 := by
        intro w
        rw [w] at h2
        omega
      omega
    exact this
  have p1 : d.natAbs ∣ o.natAbs * o.natAbs := by
    have := Int.natAbs_dvd_natAbs.mpr o2
    rw [Int.natAbs_mul, Int.natAbs_mul] at this
    exact n1.dvd_of_dvd_mul_left this
  have p2 : d.natAbs ∣ t.natAbs * t.natAbs := by
    have := Int.natAbs_dvd_natAbs.mpr t2
    rw [Int.natAbs_mul, Int.natAbs_mul] at this
    exact n1.dvd_of_dvd_mul_left this
  have hg : Nat.Coprime o.natAbs t.natAbs := by
    have := h.g
    unfold gc at this
    rw [Int.gcd_eq_natAbs_gcd_natAbs] at this
    exact Int.ofNat.inj this
  have hc : Nat.Coprime (o.natAbs * o.natAbs) (t.natAbs * t.natAbs) := (hg.mul_right hg).mul_left (hg.mul_right hg)
  have := Nat.dvd_gcd p1 p2
  rw [hc] at this
  have := Nat.dvd_one.mp this
  omega
theorem g3_mul {n a b c : Int} (hn : 0 ≤ n) : g3 (n * a) (n * b) (n * c) = n * g3 a b c := by
  unfold g3 gc
  rw [Int.gcd_mul_left]
  have : ((n.natAbs * Int.gcd a b : Nat) : Int) = n * (Int.gcd a b : Int) := by
    rw [Int.natCast_mul, Int.natAbs_of_nonneg hn]
  rw [this, Int.gcd_mul_left, Int.natCast_mul, Int.natAbs_of_nonneg hn]
theorem right_tri {a b c : Int} (h1 : 1 ≤ a) (h2 : a ≤ b) (h3 : b < c) (r : a * a + b * b = c * c) (h9 : c ≤ 1000000000) : Tri a b c := ⟨h1, h2, by omega, pyth_lt h1 (by omega) (by omega) r, h9⟩
theorem r_numbers_in [H_numbers_in T] {k : Nat} {o t : Int} (h : Cop o t) (h9 : rC o t ≤ 1000000000) : run T (k + 2) i_numbers_in [.v (.tup [.int (rA o t), .int (rB o t), .int (rC o t)])] = .ok (.tup [.int o, .int t], false) .non := by
  obtain ⟨k1, k2, k3, k4⟩ := ot_lt h.t1 h.lt
  have ho : o ≤ 1000000000 := by
    have := h.t1
    have := h.lt
    have := sq_le (show 0 ≤ (1 : Int) by omega) (show 1 ≤ t by omega)
    have h5 := Int.mul_le_mul_of_nonneg_left (show 1 ≤ o by omega) (show 0 ≤ o by omega)
    unfold rC at h9
    omega
  have t1 := h.t1
  have lt := h.lt
  have e1 : (rC o t + (o * o - t * t)) / 2 = o * o := by unfold rC; omega
  have e2 : (rC o t - (o * o - t * t)) / 2 = t * t := by unfold rC; omega
  have f2 : ∀ x : Int, x.fdiv 2 = x / 2 := fun x => Int.fdiv_eq_ediv_of_nonneg _ (by omega)
  have m2 : ∀ x : Int, x.fmod 2 = x % 2 := fun x => Int.fmod_eq_emod_of_nonneg _ (by omega)
  have d2 : divOk 2 = true := by decide
  have bo : Bits o 31 := ⟨by omega⟩
  have bt : Bits t 31 := ⟨by omega⟩
  have s1 := r_root_in (T := T) (k := k) (n := o * o) (by decide)
  have s2 := r_root_in (T := T) (k := k) (n := t * t) (by decide)
  rw [rt_sq (by omega)] at s1 s2
  have hv : (2 * o * t) % 2 = 0 := by rw [Int.mul_assoc]; omega
  have hu : (o * o - t * t) % 2 = 1 := by
    have hp := h.par
    rw [Int.sub_emod, Int.mul_emod o o, Int.mul_emod t t]
    rcases Int.emod_two_eq o with a | a <;> rcases Int.emod_two_eq t with b | b <;> rw [a, b] <;> first | rfl | omega
  rw [run_succ]
  by_cases c : o * o - t * t ≤ 2 * o * t
  · have ea : rA o t = o * o - t * t := Int.min_eq_left c
    rw [ea]
    simp [f_numbers_in, argsOk, m2, d2, hu, f2, e1, e2, s1, s2]
  · have ea : rA o t = 2 * o * t := Int.min_eq_right (by omega)
    have eb : rB o t = o * o - t * t := Int.max_eq_left (by omega)
    rw [ea, eb]
    simp [f_numbers_in, argsOk, m2, d2, hv, f2, e1, e2, s1, s2]
end G
end

section
set_option maxHeartbeats 4000000
/-! Law 3: right triangles of any value; the two numbers. -/
namespace G
variable {T : Table}
def le3 : D → D → D → Bool
  | .int a, .int b, .int c => decide (a ≤ b) && decide (b ≤ c)
  | _, _, _ => false
def triS : D → D → D → Bool
  | .int a, .int b, .int c => decide (a ≤ b) && decide (b ≤ c) && decide (c < a + b)
  | _, _, _ => false
def sqS : D → D → D → Bool
  | .int a, .int b, .int c => decide (a * a + b * b = c * c)
  | _, _, _ => false
def triB : D → Bool
  | .tup [x, y, z] => sideB x && sideB y && sideB z && triS x y z
  | _ => false
def rightB : D → Bool
  | .tup [x, y, z] => sideB x && sideB y && sideB z && le3 x y z && sqS x y z
  | _ => false
theorem side3 {x y z : D} (h : (sideB x && sideB y && sideB z) = true) : ∃ a b c, x = .int a ∧ y = .int b ∧ z = .int c ∧ 1 ≤ a ∧ 1 ≤ b ∧ 1 ≤ c ∧ a ≤ 1000000000 ∧ b ≤ 1000000000 ∧ c ≤ 1000000000 := by
  simp only [Bool.and_eq_true] at h
  obtain ⟨a, rfl, a1, a2⟩ := wholeD_int h.1.1
  obtain ⟨b, rfl, b1, b2⟩ := wholeD_int h.1.2
  obtain ⟨c, rfl, c1, c2⟩ := wholeD_int h.2
  exact ⟨a, b, c, rfl, rfl, rfl, a1, b1, c1, a2, b2, c2⟩
theorem r_fits_tri_any [H_fits_triangle T] {k m : Nat} {d : D} (hd : D.fit (m + 1) d = true) : run T (k + 4) i_fits_triangle [.v d] = .ok (.bl (triB d), false) .non := by
  rw [run_succ]
  by_cases ht : ∃ xs, d = .tup xs
  · obtain ⟨xs, rfl⟩ := ht
    have hx : D.fits m xs = true := by simpa [D.fit] using hd
    have hm := turns_map (cal := run T (k + 3)) (elt := .call i_is_side [.v 1]) (j := 1) (ρ := [.v (.tup xs), .no]) rfl (fun x => .bl (sideB x)) xs fun x h => ⟨false, by
      have e := r_side_any (T := T) (k := k) (fits_iff.mp hx x h)
      simp [e]⟩
    match xs, hx, hm with
    | [], hx, hm => simp [f_fits_triangle, argsOk, triB]
    | [x], hx, hm => simp [f_fits_triangle, argsOk, triB]
    | [x, y], hx, hm => simp [f_fits_triangle, argsOk, triB]
    | x :: y :: z :: w :: r, hx, hm =>
      have l : ¬ ((r.length : Int) + 1 + 1 + 1 + 1 ≤ 3) := by omega
      simp [f_fits_triangle, argsOk, triB, l]
    | [x, y, z], hx, hm =>
      simp only [List.map_cons, List.map_nil] at hm
      simp [f_fits_triangle, argsOk, hm, line]
      cases bx : sideB x <;> cases by' : sideB y <;> cases bz : sideB z <;> simp [triB, bx, by', bz]
      obtain ⟨a, rfl, _⟩ := wholeD_int bx
      obtain ⟨b, rfl, _⟩ := wholeD_int by'
      obtain ⟨c, rfl, _⟩ := wholeD_int bz
      by_cases h : a ≤ b <;> by_cases h2 : b ≤ c <;> simp [triS, h, h2]
  · have e := r_tuple_any (T := T) (k := k + 2) (lo := 3) (hi := 3) hd fun xs h => ht ⟨xs, h⟩
    have hf : triB d = false := by
      cases d <;> first | rfl | exact absurd ⟨_, rfl⟩ ht
    simp [f_fits_triangle, argsOk, e, hf]
theorem triB_tri {d : D} (h : triB d = true) : ∃ a b c, d = .tup [.int a, .int b, .int c] ∧ Tri a b c := by
  unfold triB at h
  split at h
  · rename_i x y z
    rw [Bool.and_eq_true] at h
    obtain ⟨a, b, c, rfl, rfl, rfl, a1, b1, c1, a2, b2, c2⟩ := side3 h.1
    have h2 := h.2
    simp only [triS, Bool.and_eq_true, decide_eq_true_eq] at h2
    exact ⟨a, b, c, rfl, a1, h2.1.1, h2.1.2, h2.2, c2⟩
  · cases h
theorem rightB_int {a b c : Int} (t : Tri a b c) : rightB (.tup [.int a, .int b, .int c]) = decide (a * a + b * b = c * c) := by
  obtain ⟨a1, ab, bc, lt, c9⟩ := t
  have h1 : 1 ≤ b := by omega
  have h2 : 1 ≤ c := by omega
  have h3 : a ≤ 1000000000 := by omega
  have h4 : b ≤ 1000000000 := by omega
  simp [rightB, sideB, wholeD, le3, sqS, a1, ab, bc, c9, h1, h2, h3, h4]
theorem rightB_tri {d : D} (h : rightB d = true) : triB d = true := by
  unfold rightB at h
  split at h
  · rename_i x y z
    simp only [Bool.and_eq_true] at h
    obtain ⟨a, b, c, rfl, rfl, rfl, a1, b1, c1, a2, b2, c2⟩ := side3 (by simp only [Bool.and_eq_true]; exact h.1.1)
    have h2 := h.1.2
    have h3 := h.2
    simp only [le3, sqS, Bool.and_eq_true, decide_eq_true_eq] at h2 h3
    have := pyth_lt a1 b1 c1 h3
    simp [triB, sideB, wholeD, triS, a1, b1, c1, a2, b2, c2, h2, this]
  · cases h
theorem eq_sharp : eqG (.str (PySem.Str.ofString "sharp")) (.str (PySem.Str.ofString "right")) = some false := by decide +kernel
theorem eq_blunt : eqG (.str (PySem.Str.ofString "blunt")) (.str (PySem.Str.ofString "right")) = some false := by decide +kernel
theorem r_fits_right_any [H_fits_right T] {k m : Nat} {d : D} (hd : D.fit (m + 1) d = true) : run T (k + 5) i_fits_right [.v d] = .ok (.bl (rightB d), false) .non := by
  have e := r_fits_tri_any (T := T) (k := k) hd
  rw [run_succ]
  by_cases h : triB d = true
  · obtain ⟨a, b, c, rfl, t⟩ := triB_tri h
    have e2 := r_kind_in (T := T) (k := k + 3) t
    rw [h] at e
    rw [rightB_int t]
    unfold kindD at e2
    by_cases h1 : a * a + b * b = c * c
    · rw [if_pos (by omega)] at e2
      simp [f_fits_right, argsOk, e, e2, eq_right, h1]
    · rw [if_neg (by omega)] at e2
      by_cases h3 : 0 < a * a + b * b - c * c
      · rw [if_pos h3] at e2
        simp [f_fits_right, argsOk, e, e2, eq_sharp, h1]
      · rw [if_neg h3] at e2
        simp [f_fits_right, argsOk, e, e2, eq_blunt, h1]
  · have hr : rightB d = false := by
      cases q : rightB d
      · rfl
      · exact absurd (rightB_tri q) h
    have h : triB d = false := by simpa using h
    simp [f_fits_right, argsOk, e, h, hr]
theorem r_is_right_any [H_is_right T] {k m : Nat} {d : D} (hd : D.fit (m + 1) d = true) : run T (k + 6) i_is_right [.v d] = .ok (.bl (rightB d), false) .non := by
  have e := r_fits_right_any (T := T) (k := k) hd
  rw [run_succ]
  simp [f_is_right, argsOk, e]
theorem r_law_fits_right [H__law_fits_right T] {k m : Nat} {d : D} (hd : D.fit (m + 1) d = true) (hm : m ≤ 60) : run T (k + 2) i__law_fits_right [.v d] = .ok (.bl (rightB d), false) .non := by
  have hp : powOk 10 9 = true := by decide
  rw [run_succ]
  by_cases ht : ∃ xs, d = .tup xs
  · obtain ⟨xs, rfl⟩ := ht
    have hx : D.fits m xs = true := by simpa [D.fit] using hd
    have hmm := turns_filt (cal := run T (k + 1)) (ts := [.or (.b (.op2 .ne (.call i__law_sort [(.v 1)]) (.c (.int 2)))) (.not (.b (.chain .le .le (.c (.int 1)) (.v 1) (.op2 .pow (.c (.int 10)) (.c (.int 9))))))]) (elt := .v 1) (j := 1) (ρ := [.v (.tup xs), .no]) rfl (fun x => !sideB x) id xs fun x h => by
      have hf := fits_iff.mp hx x h
      have e := r__law_sort (T := T) (k := k) hf
      refine ⟨?_, fun _ => ⟨false, by simp⟩⟩
      cases x with
      | int a =>
        by_cases h1 : 1 ≤ a
        · by_cases h2 : 1000000000 < a
          · have h3 : ¬ a ≤ 1000000000 := by omega
            simp (decide := true) [e, sortOf, hp, h1, sideB, wholeD, h2, h3]
          · have h3 : a ≤ 1000000000 := by omega
            simp (decide := true) [e, sortOf, hp, h1, sideB, wholeD, h2, h3]
        · simp (decide := true) [e, sortOf, hp, h1, sideB, wholeD]
      | fn f => simp [D.fit] at hf
      | scr f => simp [D.fit] at hf
      | _ => simp [e, sortOf, sideB, wholeD]
    rw [List.map_id] at hmm
    have hq := eqG_lnil (fits_filter (p := fun x => !sideB x) hx) (by omega)
    match xs, hx, hmm, hq with
    | [], hx, hmm, hq => simp [f__law_fits_right, argsOk, rightB]
    | [x], hx, hmm, hq => simp [f__law_fits_right, argsOk, rightB]
    | [x, y], hx, hmm, hq => simp [f__law_fits_right, argsOk, rightB]
    | x :: y :: z :: w :: r, hx, hmm, hq =>
      have l : ¬ ((r.length : Int) + 1 + 1 + 1 + 1 = 3) := by omega
      simp [f__law_fits_right, argsOk, rightB, l]
    | [x, y, z], hx, hmm, hq =>
      simp only [List.filter_cons, List.filter_nil] at hmm hq
      simp [f__law_fits_right, argsOk]
      rw [hmm]
      simp
      cases bx : sideB x <;> cases by' : sideB y <;> cases bz : sideB z <;> simp [bx, by', bz] at hq <;> simp [rightB, bx, by', bz, hq, line]
      obtain ⟨a, rfl, a1, a2⟩ := wholeD_int bx
      obtain ⟨b, rfl, b1, b2⟩ := wholeD_int by'
      obtain ⟨c, rfl, c1, c2⟩ := wholeD_int bz
      have m1 : mulOk a a = true := mulOk_l (by omega)
      have m2 : mulOk b b = true := mulOk_l (by omega)
      have m3 : mulOk c c = true := mulOk_l (by omega)
      by_cases h : a ≤ b <;> by_cases h2 : b ≤ c <;> by_cases h3 : a * a + b * b = c * c <;> simp [le3, sqS, h, h2, h3, m1, m2, m3]
  · have hf : rightB d = false := by
      cases d <;> first | rfl | exact absurd ⟨_, rfl⟩ ht
    cases d with
    | tup xs => exact absurd ⟨_, rfl⟩ ht
    | fn f => simp [D.fit] at hd
    | scr f => simp [D.fit] at hd
    | _ => simp [f__law_fits_right, argsOk, hf]
end G
end

section
set_option maxHeartbeats 4000000
/-! Law 3: the numbers of a right triangle. -/
namespace G
variable {T : Table}
theorem min_mulS {n p q : Int} (hn : 0 ≤ n) : min (p * n) (q * n) = min p q * n := by
  by_cases h : p ≤ q
  · rw [Int.min_eq_left h, Int.min_eq_left (Int.mul_le_mul_of_nonneg_right h hn)]
  · rw [Int.min_eq_right (show q ≤ p by omega), Int.min_eq_right (Int.mul_le_mul_of_nonneg_right (show q ≤ p by omega) hn)]
theorem max_mulS {n p q : Int} (hn : 0 ≤ n) : max (p * n) (q * n) = max p q * n := by
  by_cases h : p ≤ q
  · rw [Int.max_eq_right h, Int.max_eq_right (Int.mul_le_mul_of_nonneg_right h hn)]
  · rw [Int.max_eq_left (show q ≤ p by omega), Int.max_eq_left (Int.mul_le_mul_of_nonneg_right (show q ≤ p by omega) hn)]
theorem gc_one {x y x' y' : Int} (h : gc x' y' = 1) (h1 : ∀ d : Int, d ∣ x → d ∣ y → d ∣ x' ∧ d ∣ y') : gc x y = 1 := by
  obtain ⟨a, b⟩ := h1 (gc x y) (gc_dvd1 x y) (gc_dvd2 x y)
  have : gc x y ∣ gc x' y' := Int.dvd_coe_gcd a b
  rw [h] at this
  exact Int.eq_one_of_dvd_one (gc_nonneg x y) this
theorem scale_ex {o t : Int} (h1 : 1 ≤ t) (h2 : t < o) : ∃ n x y, 1 ≤ n ∧ Cop x y ∧ x ≤ o ∧ rA o t = rA x y * n ∧ rB o t = rB x y * n ∧ rC o t = rC x y * n := by
  have hd := gc_pos (a := o) (b := t) (by omega)
  obtain ⟨x', hx⟩ := gc_dvd1 o t
  obtain ⟨y', hy⟩ := gc_dvd2 o t
  have hg : gc x' y' = 1 := by
    have h3 : gc o t * gc x' y' ∣ gc o t * 1 := by
      rw [Int.mul_one]
      refine Int.dvd_coe_gcd ?_ ?_
      · obtain ⟨w, hw⟩ := gc_dvd1 x' y'
        exact ⟨w, by rw [Int.mul_assoc, ← hw]; exact hx⟩
      · obtain ⟨w, hw⟩ := gc_dvd2 x' y'
        exact ⟨w, by rw [Int.mul_assoc, ← hw]; exact hy⟩
    have h4 := Int.dvd_of_mul_dvd_mul_left (by omega) h3
    exact Int.eq_one_of_dvd_one (gc_nonneg _ _) h4
  generalize gc o t = d at *
  have y1 : 1 ≤ y' := by
    refine Classical.byContradiction fun w => ?_
    have := Int.mul_nonpos_of_nonneg_of_nonpos (show 0 ≤ d by omega) (show y' ≤ 0 by omega)
    omega
  have xy : y' < x' := by
    refine Classical.byContradiction fun w => ?_
    have := Int.mul_le_mul_of_nonneg_left (show x' ≤ y' by omega) (show 0 ≤ d by omega)
    omega
  have xo : x' ≤ o := by
    have := Int.mul_le_mul_of_nonneg_right (show 1 ≤ d by omega) (show 0 ≤ x' by omega)
    omega
  have dd : 1 * 1 ≤ d * d := sq_le (by omega) (show 1 ≤ d by omega)
  by_cases p : (x' + y') % 2 = 1
  · refine ⟨d * d, x', y', by omega, ⟨y1, xy, hg, p⟩, xo, ?_, ?_, ?_⟩
    · unfold rA
      rw [← min_mulS (by omega), hx, hy]
      congr 1 <;> grind
    · unfold rB
      rw [← max_mulS (by omega), hx, hy]
      congr 1 <;> grind
    · unfold rC
      rw [hx, hy]; grind
  · have ev : ¬ (x' % 2 = 0 ∧ y' % 2 = 0) := by
      intro ⟨a, b⟩
      have : (2 : Int) ∣ gc x' y' := Int.dvd_coe_gcd (Int.dvd_of_emod_eq_zero a) (Int.dvd_of_emod_eq_zero b)
      rw [hg] at this
      exact absurd this (by decide)
    obtain ⟨x, hx2⟩ : ∃ x, x' + y' = 2 * x := ⟨(x' + y') / 2, by omega⟩
    obtain ⟨y, hy2⟩ : ∃ y, x' - y' = 2 * y := ⟨(x' - y') / 2, by omega⟩
    have ex : x' = x + y := by omega
    have ey : y' = x - y := by omega
    have hg2 : gc x y = 1 := gc_one hg fun d h1 h2 => ⟨by rw [ex]; exact Int.dvd_add h1 h2, by rw [ey]; exact Int.dvd_sub h1 h2⟩
    refine ⟨2 * (d * d), x, y, by omega, ⟨by omega, by omega, hg2, by omega⟩, by omega, ?_, ?_, ?_⟩
    · unfold rA
      rw [← min_mulS (by omega), hx, hy, ex, ey, Int.min_comm]
      congr 1 <;> grind
    · unfold rB
      rw [← max_mulS (by omega), hx, hy, ex, ey, Int.max_comm]
      congr 1 <;> grind
    · unfold rC
      rw [hx, hy, ex, ey]; grind
theorem rt_scale {o t n : Int} (h : Cop o t) (hn : 1 ≤ n) (h9 : rC o t * n ≤ 1000000000) : Tri (rA o t * n) (rB o t * n) (rC o t * n) ∧ (rA o t * n) * (rA o t * n) + (rB o t * n) * (rB o t * n) = (rC o t * n) * (rC o t * n) := by
  obtain ⟨k1, k2, k3, k4⟩ := r_right h.t1 h.lt
  have e : (rA o t * n) * (rA o t * n) + (rB o t * n) * (rB o t * n) = (rC o t * n) * (rC o t * n) := by
    have : (rA o t * n) * (rA o t * n) + (rB o t * n) * (rB o t * n) = (rA o t * rA o t + rB o t * rB o t) * (n * n) := by grind
    rw [this, k4]; grind
  refine ⟨right_tri ?_ ?_ ?_ e h9, e⟩
  · have := Int.mul_le_mul k1 hn (by omega) (by omega); omega
  · exact Int.mul_le_mul_of_nonneg_right k2 (by omega)
  · exact Int.mul_lt_mul_of_pos_right k3 (by omega)
theorem r_need_right_any [H_need_right T] {k : Nat} {a b c : Int} (t : Tri a b c) (r : a * a + b * b = c * c) : run T (k + 6) i_need_right [.v (.tup [.int a, .int b, .int c])] = .ok (.non, false) .non := by
  have e := r_fits_right_any (T := T) (k := k) (m := 1) (d := .tup [.int a, .int b, .int c]) (by simp)
  rw [rightB_int t] at e
  rw [run_succ]
  simp [f_need_right, argsOk, e, r]
theorem r_part_in [H_part_in T] {k : Nat} {a b c : Int} (t : Tri a b c) : run T (k + 2) i_part_in [.v (.tup [.int a, .int b, .int c])] = .ok (.int (g3 a b c), false) .non := by
  have bc : Bits c 31 := ⟨by have := t.a1; have := t.ab; have := t.bc; have := t.c9; omega⟩
  have bb : Bits b 31 := ⟨by have := t.a1; have := t.ab; have := t.bc; have := t.c9; omega⟩
  rw [run_succ]
  simp [f_part_in, argsOk, g3]
theorem g3_scale {o t n : Int} (h : Cop o t) (hn : 1 ≤ n) : g3 (rA o t * n) (rB o t * n) (rC o t * n) = n := by
  rw [Int.mul_comm _ n, Int.mul_comm _ n, Int.mul_comm _ n, g3_mul (by omega), cop_g3 h, Int.mul_one]
theorem r_numbers_of [H_numbers_of T] {k : Nat} {o t n : Int} (h : Cop o t) (hn : 1 ≤ n) (h9 : rC o t * n ≤ 1000000000) : run T (k + 7) i_numbers_of [.v (.tup [.int (rA o t * n), .int (rB o t * n), .int (rC o t * n)])] = .ok (.tup [.int n, .int o, .int t], false) .non := by
  obtain ⟨tr, r⟩ := rt_scale h hn h9
  have a1 := tr.a1
  have ab := tr.ab
  have bc := tr.bc
  have e1 := r_need_right_any (T := T) (k := k) tr r
  have e2 := r_part_in (T := T) (k := k + 4) tr
  have e3 := r_plain_in (T := T) (k := k + 3) (a := rA o t * n) (b := rB o t * n) (c := rC o t * n) a1 (by omega) (by omega) h9
  rw [g3_scale h hn] at e2 e3
  have n0 : n ≠ 0 := by omega
  rw [Int.mul_ediv_cancel _ n0, Int.mul_ediv_cancel _ n0, Int.mul_ediv_cancel _ n0] at e3
  have hC : rC o t ≤ 1000000000 := by
    obtain ⟨k1, k2, k3, k4⟩ := r_right h.t1 h.lt
    have := Int.mul_le_mul_of_nonneg_left hn (show 0 ≤ rC o t by omega)
    omega
  have e4 := r_numbers_in (T := T) (k := k + 4) h hC
  have l3 : (1 : Nat) + 2 ≤ line := by unfold line; omega
  rw [run_succ]
  simp [f_numbers_of, argsOk, e1, e2, e3, e4, line]
theorem r_right_of [H_right_of T] {k : Nat} {o t : Int} (h1 : 1 ≤ t) (h2 : t < o) (h3 : o ≤ 31622) (h9 : rC o t ≤ 1000000000) : run T (k + 4) i_right_of [.v (.int o), .v (.int t)] = .ok (.tup [.int (rA o t), .int (rB o t), .int (rC o t)], false) .non := by
  have n1 := r_need_whole (T := T) (k := k) (a := o) (lo := 2) (hi := 31622) (by omega) h3
  have n2 := r_need_whole (T := T) (k := k) (a := t) (lo := 1) (hi := o - 1) h1 (by omega)
  have b1 : Bits o 31 := ⟨by omega⟩
  have b2 : Bits t 31 := ⟨by omega⟩
  have e : run T (k + 3) i_right_by [.v (.int o), .v (.int t)] = .ok (.tup [.int (rA o t), .int (rB o t), .int (rC o t)], false) .non := by
    rw [run_succ]
    simp (decide := true) [f_right_by, argsOk, sort2_d, rA, rB, rC]
  have hn : ¬ 1000000000 < o * o + t * t := by unfold rC at h9; omega
  rw [run_succ]
  simp (decide := true) [f_right_of, argsOk, n1, n2, e, hn]
end G
end

section
set_option maxHeartbeats 4000000
/-! Law 3: the law's helpers. -/
namespace G
variable {T : Table}
def copB (o y : Int) : Bool := decide ((o + y) % 2 = 1) && decide (gc o y = 1)
theorem cop_next {o : Int} (h : 2 ≤ o) : Cop o (o - 1) := by
  refine ⟨by omega, by omega, ?_, by omega⟩
  have := Int.dvd_sub (gc_dvd1 o (o - 1)) (gc_dvd2 o (o - 1))
  rw [show o - (o - 1) = 1 by omega] at this
  exact Int.eq_one_of_dvd_one (gc_nonneg _ _) this
theorem r__law_two_03 [H__law_two T] {k : Nat} {cu : Cup} {m : Int} (h1 : 3 ≤ m) (h9 : m ≤ 1000000) : ∃ o t, ∃ c' : Cup, Cop o t ∧ o ≤ m ∧ run T (k + 4) i__law_two [.ref cu.d, .v (.int m)] = .ok (.tup [.int o, .int t], false) c'.d := by
  have bm : Bits (m - 1) 31 := ⟨by omega⟩
  have r1 := r__law_roll (T := T) (k := k + 2) (c := cu) (m := m - 1) (by omega) (by omega)
  have p0 := roll_nonneg (c := cu) (m := m - 1) (by omega)
  have p1 := roll_lt (c := cu) (m := m - 1) (by omega)
  generalize cu.roll (m - 1) = p at *
  generalize cu.next (m - 1) = c1 at *
  have r2 := r__law_roll (T := T) (k := k + 2) (c := c1) (m := 40) (by omega) (by decide)
  have q0 := roll_nonneg (c := c1) (m := 40) (by omega)
  have q1 := roll_lt (c := c1) (m := 40) (by omega)
  generalize c1.roll 40 = q at *
  generalize c1.next 40 = c2 at *
  obtain ⟨o, ho⟩ : ∃ o, 2 + p = o := ⟨_, rfl⟩
  obtain ⟨lo, hlo⟩ : ∃ lo, (if 1 < o - 1 - q then o - 1 - q else 1) = lo := ⟨_, rfl⟩
  have lo1 : 1 ≤ lo ∧ lo ≤ o := by rw [← hlo]; split <;> omega
  have bo : Bits o 31 := ⟨by omega⟩
  have d2 : divOk 2 = true := by decide
  have m2 : ∀ x : Int, x.fmod 2 = x % 2 := fun x => Int.fmod_eq_emod_of_nonneg _ (by omega)
  have e1 : turns [4] (.n 4) (evalFs (run T (k + 3)) [(.and (.b (.op2 .eq (.op2 .mod (.op1 .int (.op2 .add (.v 2) (.v 4))) (.c (.int 2))) (.c (.int 1)))) (.b (.op2 .eq (.call i__law_divisor [(.v 2), (.v 4)]) (.c (.int 1)))))]) (compE (run T (k + 3)) (evalE (run T (k + 3)) (.v 4)) []) ((rng lo o).map D.int) [.ref c2.d, .v (.int m), .v (.int o), .no, .no] = .ok (((rng lo o).filter (copB o)).map D.int) [.ref c2.d, .v (.int m), .v (.int o), .no, .no] := by
    refine turns_filtI (j := 4) rfl (copB o) D.int (rng lo o) fun y hy => ⟨?_, fun _ => ⟨false, by simp⟩⟩
    obtain ⟨y1, y2⟩ := mem_rng.mp hy
    have by' : Bits y 31 := ⟨by omega⟩
    by_cases c : (o + y) % 2 = 1
    · by_cases g : gc o y = 1
      · simp [copB, m2, d2, c, g]
      · simp [copB, m2, d2, c, g]
    · simp [copB, m2, d2, c]
  have g1 : rgOk lo = true := rgOk_of (by omega) (by omega)
  have g2 : rgOk o = true := rgOk_of (by omega) (by omega)
  have hl : (((rng lo o).filter (copB o)).map D.int).length ≤ line ∧ (((rng lo o).filter (copB o)).map D.int).length < 1000000 := by
    have := List.length_filter_le (copB o) (rng lo o)
    rw [rng_len] at this
    rw [List.length_map]
    unfold line
    omega
  have hfit : D.fits 5 (((rng lo o).filter (copB o)).map D.int) = true := by
    generalize (rng lo o).filter (copB o) = l
    induction l with
    | nil => simp
    | cons x xs ih => simp [ih]
  have hn := eqG_lnil hfit (by omega)
  by_cases em : (rng lo o).filter (copB o) = []
  · rw [em] at e1 hl hn
    refine ⟨o, o - 1, c2, cop_next (by omega), by omega, ?_⟩
    have l0 : 0 ≤ line := by unfold line; omega
    rw [run_succ]
    simp [f__law_two, argsOk, r1, r2, ho, hlo, g1, g2, e1, l0]
  · obtain ⟨i, hi, r3⟩ := r__law_some (T := T) (k := k + 1) (c := c2) (xs := ((rng lo o).filter (copB o)).map D.int) (by simpa using em) hl.2
    generalize hxs : ((rng lo o).filter (copB o)).map D.int = xs at *
    have hmem : xs[i] ∈ ((rng lo o).filter (copB o)).map D.int := by rw [hxs]; exact List.getElem_mem hi
    obtain ⟨y, hy, hyx⟩ := List.mem_map.mp hmem
    rw [← hyx] at r3
    obtain ⟨ya, yb⟩ := List.mem_filter.mp hy
    obtain ⟨y1, y2⟩ := mem_rng.mp ya
    simp only [copB, Bool.and_eq_true, decide_eq_true_eq] at yb
    have hne : xs.isEmpty = false := by
      cases xs with
      | nil => simp at hi
      | cons _ _ => rfl
    rw [hne] at hn
    refine ⟨o, y, c2.next xs.length, ⟨by omega, y2, yb.2, yb.1⟩, by omega, ?_⟩
    rw [run_succ]
    simp [f__law_two, argsOk, r1, r2, ho, hlo, g1, g2, e1, hl.1, hn, r3]
theorem r_is_plain_cop [H_is_plain T] {k : Nat} {a b c : Int} (t : Tri a b c) (h : g3 a b c = 1) : run T (k + 6) i_is_plain [.v (.tup [.int a, .int b, .int c])] = .ok (.bl true, false) .non := by
  have e1 := r_need_triangle (T := T) (k := k) t
  have e := r_part_in (T := T) (k := k + 3) t
  rw [h] at e
  rw [run_succ]
  simp [f_is_plain, argsOk, e1, e]
theorem fit_right : strOk (PySem.Str.ofString "right") = true := by decide +kernel
theorem r__law_right_one [H__law_right_one T] {k : Nat} {cu : Cup} {o t : Int} (h : Cop o t) (h9 : o ≤ 22000) : ∃ c' : Cup, run T (k + 12) i__law_right_one [.ref cu.d, .v (.int o), .v (.int t)] = .ok (.bl true, false) c'.d := by
  obtain ⟨k1, k2, k3, k4⟩ := r_right h.t1 h.lt
  have t1 := h.t1
  have lt := h.lt
  have hC : rC o t ≤ 1000000000 := by
    have := sq_le (show 0 ≤ o by omega) h9
    have := sq_le (show 0 ≤ t by omega) (show t ≤ 22000 by omega)
    unfold rC; omega
  have e1 := r__law_right_ot (T := T) (k := k + 10) t1 lt (by omega)
  have hp9 : powOk 10 9 = true := by decide
  have hp6 : powOk 10 6 = true := by decide
  have dc : divOk (rC o t) = true := by have : Bits (rC o t) 31 := ⟨by omega⟩; exact divOk_bd (by omega) (by omega)
  have fd : (1000000000 : Int).fdiv (rC o t) = 1000000000 / rC o t := Int.fdiv_eq_ediv_of_nonneg _ (by omega)
  have hv1 : 1 ≤ 1000000000 / rC o t := Int.le_ediv_of_mul_le (by omega) (by omega)
  have hv2 := Int.ediv_mul_le 1000000000 (show rC o t ≠ 0 by omega)
  obtain ⟨v, hv⟩ : ∃ v, v = 1000000000 / rC o t := ⟨_, rfl⟩
  rw [← hv] at hv1 hv2 fd
  obtain ⟨w, hw⟩ : ∃ w, (if 1000000 < v then 1000000 else v) = w := ⟨_, rfl⟩
  have w1 : 1 ≤ w ∧ w ≤ v ∧ w ≤ 1000000 := by rw [← hw]; split <;> omega
  have bw : Bits w 31 := ⟨by omega⟩
  have r1 := r__law_roll (T := T) (k := k + 10) (c := cu) (m := w) (by omega) (by omega)
  have p0 := roll_nonneg (c := cu) (m := w) (by omega)
  have p1 := roll_lt (c := cu) (m := w) (by omega)
  generalize cu.roll w = p at *
  generalize cu.next w = c1 at *
  obtain ⟨n, hn⟩ : ∃ n, 1 + p = n := ⟨_, rfl⟩
  have hn9 : rC o t * n ≤ 1000000000 := by
    have := Int.mul_le_mul_of_nonneg_left (show n ≤ v by omega) (show 0 ≤ rC o t by omega)
    rw [Int.mul_comm v] at hv2
    omega
  obtain ⟨tn, rn⟩ := rt_scale h (show 1 ≤ n by omega) hn9
  have t0 : Tri (rA o t) (rB o t) (rC o t) := right_tri k1 k2 k3 k4 hC
  have e2 := r_times_of (T := T) (k := k + 5) t0 (show 1 ≤ n by omega) (by omega) hn9
  have e3 := r_right_of (T := T) (k := k + 7) t1 lt (by omega) hC
  have e4 := r_is_right_any (T := T) (k := k + 5) (m := 1) (d := .tup [.int (rA o t), .int (rB o t), .int (rC o t)]) (by simp)
  rw [rightB_int t0] at e4
  have e5 := r_is_plain_cop (T := T) (k := k + 5) t0 (cop_g3 h)
  have e6 := r_numbers_of (T := T) (k := k + 4) h (n := 1) (by omega) (by omega)
  simp only [Int.mul_one] at e6
  have e7 := r_is_right_any (T := T) (k := k + 5) (m := 1) (d := .tup [.int (rA o t * n), .int (rB o t * n), .int (rC o t * n)]) (by simp)
  rw [rightB_int tn] at e7
  have e8 := r_numbers_of (T := T) (k := k + 4) h (show 1 ≤ n by omega) hn9
  have e9 := r_kind_right (T := T) (k := k + 5) tn rn
  have l1 := fun (d : D) (hd : D.fit 6 d = true) => like_s (T := T) (k := k + 11) hd (by omega)
  have r2 := r__law_roll (T := T) (k := k + 10) (c := c1) (m := 2000) (by omega) (by decide)
  have q0 := roll_nonneg (c := c1) (m := 2000) (by omega)
  have q1 := roll_lt (c := c1) (m := 2000) (by omega)
  generalize c1.roll 2000 = q at *
  generalize c1.next 2000 = c2 at *
  obtain ⟨o', ho'⟩ : ∃ o', 2 + q = o' := ⟨_, rfl⟩
  have bo' : Bits (o' - 1) 31 := ⟨by omega⟩
  have r3 := r__law_roll (T := T) (k := k + 10) (c := c2) (m := o' - 1) (by omega) (by omega)
  have u0 := roll_nonneg (c := c2) (m := o' - 1) (by omega)
  have u1 := roll_lt (c := c2) (m := o' - 1) (by omega)
  generalize c2.roll (o' - 1) = u at *
  generalize c2.next (o' - 1) = c3 at *
  obtain ⟨t', ht'⟩ : ∃ t', 1 + u = t' := ⟨_, rfl⟩
  have hC' : rC o' t' ≤ 1000000000 := by
    have := sq_le (show 0 ≤ o' by omega) (show o' ≤ 2002 by omega)
    have := sq_le (show 0 ≤ t' by omega) (show t' ≤ 2002 by omega)
    unfold rC; omega
  obtain ⟨n', x, y, n1, hxy, hxo, hA, hB, hCC⟩ := scale_ex (o := o') (t := t') (by omega) (by omega)
  have f1 := r_right_of (T := T) (k := k + 7) (o := o') (t := t') (by omega) (by omega) (by omega) hC'
  have f2 := r__law_right_ot (T := T) (k := k + 10) (o := o') (t := t') (by omega) (by omega) (by omega)
  rw [hCC] at hC'
  obtain ⟨tx, rx⟩ := rt_scale hxy n1 hC'
  rw [hA, hB, hCC] at f1 f2
  have f3 := r_is_triangle (T := T) (k := k + 6) tx
  have f4 := r_is_right_any (T := T) (k := k + 5) (m := 1) (d := .tup [.int (rA x y * n'), .int (rB x y * n'), .int (rC x y * n')]) (by simp)
  rw [rightB_int tx] at f4
  have f5 := r_numbers_of (T := T) (k := k + 4) hxy n1 hC'
  have x1 := hxy.t1
  have x2 := hxy.lt
  have f6 := r__law_right_ot (T := T) (k := k + 10) (o := x) (t := y) x1 x2 (by omega)
  have bx : Bits x 31 := ⟨by omega⟩
  have by' : Bits y 31 := ⟨by omega⟩
  have gg := hxy.g
  have pp := hxy.par
  have c1' : n' * rA x y = rA x y * n' := Int.mul_comm _ _
  have c2' : n' * rB x y = rB x y * n' := Int.mul_comm _ _
  have c3' : n' * rC x y = rC x y * n' := Int.mul_comm _ _
  have tx9 := tx.c9
  have m0 : ∀ z : Int, mulOk n' z = true := fun z => mulOk_l (by
    obtain ⟨j1, j2, j3, j4⟩ := r_right x1 x2
    have := Int.mul_le_mul_of_nonneg_right (show 1 ≤ rC x y by omega) (show 0 ≤ n' by omega)
    omega)
  have d2 : divOk 2 = true := by decide
  have m2 : (x + y).fmod 2 = (x + y) % 2 := Int.fmod_eq_emod_of_nonneg _ (by omega)
  refine ⟨c3, ?_⟩
  have hB1 : f__law_right_one.body = f__law_right_one.body.take 6 ++ f__law_right_one.body.drop 6 := rfl
  rw [run_succ, hB1]
  simp only [execs_append]
  simp [f__law_right_one, argsOk, e1, hp9, hp6, dc, fd, hw, r1, hn, e2, e3, e4, e5, e6, e7, e8, e9, k4, rn, l1, fit_right, r2, ho', r3, ht', f1, f2, f3, f4, rx, f5, f6, turns, c1', c2', c3', m0, gg, pp, m2, d2, line]
end G
end

section
set_option maxHeartbeats 4000000
/-! Law 3: the law's own helpers, second part. -/
namespace G
variable {T : Table}
theorem fit_at {n : Nat} {xs : List D} (h : D.fits n xs = true) {i : Nat} (hi : i < xs.length) : D.fit n xs[i] = true := fits_iff.mp h _ (List.getElem_mem hi)
theorem r__law_bent [H__law_bent T] {k : Nat} {c : Cup} {xs : List D} {m : Nat} (h : xs ≠ []) (hl : xs.length < 1000) (hf : D.fits m xs = true) (h1 : 1 ≤ m) (hm : m ≤ 60) :
    ∃ d, ∃ c' : Cup, run T (k + 3) i__law_bent [.ref c.d, .v (.tup xs)] = .ok (d, false) c'.d ∧ D.fit (m + 2) d = true := by
  have h0 : (0 : Int) < (xs.length : Int) := by
    cases xs with
    | nil => exact absurd rfl h
    | cons x xs => simp
  have hp : powOk 10 9 = true := by decide
  have b0 : Bits (xs.length : Int) 20 := ⟨by omega⟩
  have r1 := r__law_roll (T := T) (k := k + 1) (c := c) (m := (xs.length : Int)) h0 (by omega)
  have p0 := roll_nonneg (c := c) h0
  have p1 := roll_lt (c := c) h0
  generalize c.roll xs.length = p at *
  generalize c.next xs.length = c1 at *
  have r2 := r__law_roll (T := T) (k := k + 1) (c := c1) (m := 7) (by omega) (by decide)
  have q0 := roll_nonneg (c := c1) (m := 7) (by omega)
  have q1 := roll_lt (c := c1) (m := 7) (by omega)
  generalize c1.roll 7 = q at *
  generalize c1.next 7 = c2 at *
  obtain ⟨i, hi, r3⟩ := r__law_some (T := T) (k := k) (c := c2) (xs := [.non, .bl true, .int 0, .int 1, .int 3, .int 5, .int (-1), .int 1000000000, .int 1000000001, .str (PySem.Str.ofString "3"), .tup [], .lst [], .tup [.int 3]]) (by simp) (by simp)
  have fi := fit_at (n := 2) (xs := [.non, .bl true, .int 0, .int 1, .int 3, .int 5, .int (-1), .int 1000000000, .int 1000000001, .str (PySem.Str.ofString "3"), .tup [], .lst [], .tup [.int 3]]) (by decide +kernel) hi
  generalize ([.non, .bl true, .int 0, .int 1, .int 3, .int 5, .int (-1), .int 1000000000, .int 1000000001, .str (PySem.Str.ofString "3"), .tup [], .lst [], .tup [.int 3]] : List D)[i] = e at r3 fi
  have g1 := eqG_tnil hf (by omega)
  have hne : xs.isEmpty = false := by cases xs <;> simp at h ⊢
  have hne' : ¬ xs = [] := h
  have l1 : (cut xs none (some p)).length ≤ xs.length := cut_len
  have l2 : (cut xs (some (p + 1)) none).length ≤ xs.length := cut_len
  have l3 : (cut xs none (some (p + 1))).length ≤ xs.length := cut_len
  have l4 : (cut xs (some p) none).length ≤ xs.length := cut_len
  have w1 : (cut xs none (some p)).length + (cut xs (some (p + 1)) none).length ≤ line := by unfold line; omega
  have w2 : (cut xs none (some (p + 1))).length + (cut xs (some p) none).length ≤ line := by unfold line; omega
  have w3 : (cut xs none (some p)).length + 1 ≤ line := by unfold line; omega
  have w4 : (cut xs none (some p)).length + 1 + (cut xs (some (p + 1)) none).length ≤ line := by unfold line; omega
  have hq : q = 0 ∨ q = 1 ∨ q = 2 ∨ q = 3 ∨ 4 ≤ q := by omega
  have fm : ∀ {ys : List D}, D.fits m ys = true → D.fits (m + 1) ys = true := fun h => fits_up _ _ _ (by omega) h
  rw [run_succ]
  simp only [Nat.reduceAdd, Nat.add_assoc] at r1 r2 r3
  rcases hq with rfl | rfl | rfl | rfl | hq
  · refine ⟨.tup (cut xs none (some p) ++ cut xs (some (p + 1)) none), c2, ?_, by simpa [D.fit] using fm (fits_append (fits_cut hf) (fits_cut hf))⟩
    simp [f__law_bent, argsOk, hp, g1, hne, hne', r1, r2, w1, w2]
  · refine ⟨.tup (cut xs none (some (p + 1)) ++ cut xs (some p) none), c2, ?_, by simpa [D.fit] using fm (fits_append (fits_cut hf) (fits_cut hf))⟩
    simp [f__law_bent, argsOk, hp, g1, hne, hne', r1, r2, w1, w2]
  · refine ⟨.lst xs, c2, ?_, by simpa [D.fit] using fm hf⟩
    simp [f__law_bent, argsOk, hp, g1, hne, hne', r1, r2, w1, w2]
  · refine ⟨.tup xs.reverse, c2, ?_, ?_⟩
    · simp [f__law_bent, argsOk, hp, g1, hne, hne', r1, r2, w1, w2]
    · have : D.fits m xs.reverse = true := fits_iff.mpr fun x hx => fits_iff.mp hf x (by simpa using hx)
      simpa [D.fit] using fm this
  · have hq' : ¬ q < 4 := by omega
    refine ⟨.tup (cut xs none (some p) ++ [e] ++ cut xs (some (p + 1)) none), c2.next 13, ?_, ?_⟩
    · simp [f__law_bent, argsOk, hp, g1, hne, hne', r1, r2, w1, w2, w3, w4, hq', r3]
    · have := fits_append (fits_append (fm (fits_cut (lo := none) (hi := some p) hf)) (show D.fits (m + 1) [e] = true by simp [D.fits]; exact fit_up e 2 _ (by omega) fi)) (fm (fits_cut (lo := some (p + 1)) (hi := none) hf))
      simpa [D.fit] using this

theorem r__law_drawn_right [H__law_drawn_right T] {k : Nat} {cu : Cup} {m : Int} (h1 : 3 ≤ m) (h9 : m ≤ 22000) : ∃ a b c, ∃ c' : Cup, Tri a b c ∧ b < c ∧ a * a + b * b = c * c ∧ run T (k + 6) i__law_drawn_right [.ref cu.d, .v (.int m)] = .ok (.tup [.int a, .int b, .int c], false) c'.d := by
  obtain ⟨o, t, c1, h, ho, e1⟩ := r__law_two_03 (T := T) (k := k + 1) (cu := cu) h1 (by omega)
  obtain ⟨k1, k2, k3, k4⟩ := r_right h.t1 h.lt
  have t1 := h.t1
  have lt := h.lt
  have hC : rC o t ≤ 1000000000 := by
    have := sq_le (show 0 ≤ o by omega) (show o ≤ 22000 by omega)
    have := sq_le (show 0 ≤ t by omega) (show t ≤ 22000 by omega)
    unfold rC; omega
  have e2 := r__law_right_ot (T := T) (k := k + 4) t1 lt (by omega)
  have hp9 : powOk 10 9 = true := by decide
  have dc : divOk (rC o t) = true := by have : Bits (rC o t) 31 := ⟨by omega⟩; exact divOk_bd (by omega) (by omega)
  have fd : (1000000000 : Int).fdiv (rC o t) = 1000000000 / rC o t := Int.fdiv_eq_ediv_of_nonneg _ (by omega)
  have hv1 : 1 ≤ 1000000000 / rC o t := Int.le_ediv_of_mul_le (by omega) (by omega)
  have hv2 := Int.ediv_mul_le 1000000000 (show rC o t ≠ 0 by omega)
  obtain ⟨v, hv⟩ : ∃ v, v = 1000000000 / rC o t := ⟨_, rfl⟩
  rw [← hv] at hv1 hv2 fd
  obtain ⟨w, hw⟩ : ∃ w, (if v < 1000 then v else 1000) = w := ⟨_, rfl⟩
  have w1 : 1 ≤ w ∧ w ≤ v ∧ w ≤ 1000 := by rw [← hw]; split <;> omega
  have bw : Bits w 31 := ⟨by omega⟩
  have r1 := r__law_roll (T := T) (k := k + 4) (c := c1) (m := w) (by omega) (by omega)
  have p0 := roll_nonneg (c := c1) (m := w) (by omega)
  have p1 := roll_lt (c := c1) (m := w) (by omega)
  generalize c1.roll w = p at *
  generalize c1.next w = c2 at *
  obtain ⟨n, hn⟩ : ∃ n, 1 + p = n := ⟨_, rfl⟩
  have hn9 : rC o t * n ≤ 1000000000 := by
    have := Int.mul_le_mul_of_nonneg_left (show n ≤ v by omega) (show 0 ≤ rC o t by omega)
    rw [Int.mul_comm v] at hv2
    omega
  obtain ⟨tn, rn⟩ := rt_scale h (show 1 ≤ n by omega) hn9
  have m0 : ∀ z : Int, mulOk z n = true := fun z => mulOk_r (by omega)
  refine ⟨rA o t * n, rB o t * n, rC o t * n, c2, tn, Int.mul_lt_mul_of_pos_right k3 (by omega), rn, ?_⟩
  simp only [Nat.reduceAdd, Nat.add_assoc] at e1
  rw [run_succ]
  simp [f__law_drawn_right, argsOk, e1, e2, hp9, dc, fd, hw, r1, hn, turns, m0, line]
/-! ### right triangles by their gaps -/
noncomputable def rog (g h : Int) : D := if Sq (2 * g * h) then .tup [.int (min (g + rt (2 * g * h)) (h + rt (2 * g * h))), .int (max (g + rt (2 * g * h)) (h + rt (2 * g * h))), .int (g + h + rt (2 * g * h))] else .non
theorem r_right_of_gaps [H_right_of_gaps T] {k : Nat} {g h : Int} (g1 : 1 ≤ g) (h1 : 1 ≤ h) (g9 : g ≤ 200000000) (h9 : h ≤ 200000000) : run T (k + 4) i_right_of_gaps [.v (.int g), .v (.int h)] = .ok (rog g h, false) .non := by
  have n1 := r_need_whole (T := T) (k := k) (a := g) (lo := 1) (hi := 200000000) g1 g9
  have n2 := r_need_whole (T := T) (k := k) (a := h) (lo := 1) (hi := 200000000) h1 h9
  have bg : Bits g 31 := ⟨by omega⟩
  have bh : Bits h 31 := ⟨by omega⟩
  rw [run_succ]
  by_cases s : Sq (2 * g * h)
  · simp (decide := true) [f_right_of_gaps, argsOk, n1, n2, s, sort2_d, rog]
  · simp (decide := true) [f_right_of_gaps, argsOk, n1, n2, s, rog]
theorem rog_right {g h : Int} (g1 : 1 ≤ g) (h1 : 1 ≤ h) (s : Sq (2 * g * h)) : 1 ≤ rt (2 * g * h) ∧ (g + rt (2 * g * h)) * (g + rt (2 * g * h)) + (h + rt (2 * g * h)) * (h + rt (2 * g * h)) = (g + h + rt (2 * g * h)) * (g + h + rt (2 * g * h)) := by
  have e : rt (2 * g * h) * rt (2 * g * h) = 2 * g * h := s.2
  have p : 1 * 1 ≤ g * h := Int.mul_le_mul g1 h1 (by omega) (by omega)
  have q : 2 * g * h = 2 * (g * h) := Int.mul_assoc _ _ _
  have hr := (rt_le_iff (N := 2 * g * h) (l := 1) (by omega)).mp (by omega)
  refine ⟨hr, ?_⟩
  generalize rt (2 * g * h) = r at *
  have : (g + h + r) * (g + h + r) - (g + r) * (g + r) - (h + r) * (h + r) = 2 * g * h - r * r := by grind
  omega
theorem rog_of {a b c : Int} (t : Tri a b c) (lt : b < c) (r : a * a + b * b = c * c) : rog (c - b) (c - a) = .tup [.int a, .int b, .int c] ∧ rog (c - a) (c - b) = .tup [.int a, .int b, .int c] := by
  have ab := t.ab
  have hl := t.lt
  have e1 : 2 * (c - b) * (c - a) = (a + b - c) * (a + b - c) := by grind
  have e2 : 2 * (c - a) * (c - b) = (a + b - c) * (a + b - c) := by grind
  unfold rog
  rw [e1, e2, rt_sq (by omega), if_pos (sq_of rfl), if_pos (sq_of rfl)]
  rw [show c - b + (a + b - c) = a by omega, show c - a + (a + b - c) = b by omega, show c - b + (c - a) + (a + b - c) = c by omega, show c - a + (c - b) + (a + b - c) = c by omega, Int.min_eq_left ab, Int.max_eq_right ab, Int.min_eq_right ab, Int.max_eq_left ab]
  exact ⟨rfl, rfl⟩
theorem r__law_gaps_right_03 [H__law_gaps_right T] {k : Nat} {cu : Cup} {a b c : Int} (t : Tri a b c) (lt : b < c) (r : a * a + b * b = c * c) : ∃ c' : Cup, run T (k + 12) i__law_gaps_right [.ref cu.d, .v (.tup [.int a, .int b, .int c])] = .ok (.bl true, false) c'.d := by
  have a1 := t.a1
  have ab := t.ab
  have c9 := t.c9
  have hp8 : powOk 10 8 = true := by decide
  obtain ⟨rg1, rg2⟩ := rog_of t lt r
  have l1 := fun (d : D) (hd : D.fit 6 d = true) => like_s (T := T) (k := k + 11) hd (by omega)
  have b8 : Bits (200000000 : Int) 31 := ⟨by decide⟩
  have r1 := r__law_roll (T := T) (k := k + 10) (c := cu) (m := 200000000) (by omega) (by omega)
  have p0 := roll_nonneg (c := cu) (m := 200000000) (by omega)
  have p1 := roll_lt (c := cu) (m := 200000000) (by omega)
  generalize cu.roll 200000000 = p at *
  generalize cu.next 200000000 = c1 at *
  obtain ⟨i, hi, r2⟩ := r__law_some (T := T) (k := k + 9) (c := c1) (xs := [.int 10, .int 1000, .int 200000000]) (by simp) (by simp)
  obtain ⟨w, hw, w1, w9⟩ : ∃ w, ([.int 10, .int 1000, .int 200000000] : List D)[i] = .int w ∧ 1 ≤ w ∧ w ≤ 200000000 := by
    match i, hi with
    | 0, _ => exact ⟨10, rfl, by omega, by omega⟩
    | 1, _ => exact ⟨1000, rfl, by omega, by omega⟩
    | 2, _ => exact ⟨200000000, rfl, by omega, by omega⟩
    | n + 3, h => simp at h; omega
  rw [hw] at r2
  generalize c1.next (([.int 10, .int 1000, .int 200000000] : List D).length : Int) = c2 at *
  have bw : Bits w 31 := ⟨by omega⟩
  have r3 := r__law_roll (T := T) (k := k + 10) (c := c2) (m := w) (by omega) (by omega)
  have q0 := roll_nonneg (c := c2) (m := w) (by omega)
  have q1 := roll_lt (c := c2) (m := w) (by omega)
  generalize c2.roll w = q at *
  generalize c2.next w = c3 at *
  obtain ⟨g, hg⟩ : ∃ g, 1 + p = g := ⟨_, rfl⟩
  obtain ⟨h, hh⟩ : ∃ h, 1 + q = h := ⟨_, rfl⟩
  have bg : Bits g 31 := ⟨by omega⟩
  have bh : Bits h 31 := ⟨by omega⟩
  have e3 := r_right_of_gaps (T := T) (k := k + 7) (g := g) (h := h) (by omega) (by omega) (by omega) (by omega)
  have e4 := r__law_root (T := T) (k := k + 10) (n := 2 * g * h) (by decide)
  have r4 := r__law_roll (T := T) (k := k + 10) (c := c3) (m := 12) (by omega) (by decide)
  have u0 := roll_nonneg (c := c3) (m := 12) (by omega)
  have u1 := roll_lt (c := c3) (m := 12) (by omega)
  generalize c3.roll 12 = u at *
  generalize c3.next 12 = c4 at *
  have r5 := r__law_roll (T := T) (k := k + 10) (c := c4) (m := 30) (by omega) (by decide)
  have v0 := roll_nonneg (c := c4) (m := 30) (by omega)
  have v1 := roll_lt (c := c4) (m := 30) (by omega)
  generalize c4.roll 30 = v at *
  generalize c4.next 30 = c5 at *
  obtain ⟨x, hx⟩ : ∃ x, 1 + u = x := ⟨_, rfl⟩
  obtain ⟨y, hy⟩ : ∃ y, 1 + v = y := ⟨_, rfl⟩
  have bx : Bits x 31 := ⟨by omega⟩
  have by' : Bits y 31 := ⟨by omega⟩
  have gb : 1 ≤ 2 * x * x * y ∧ 2 * x * x * y ≤ 200000000 ∧ 1 ≤ y * (x + 1) * (x + 1) ∧ y * (x + 1) * (x + 1) ≤ 200000000 := by
    have i1 : 1 * 1 ≤ x * x := sq_le (by omega) (by omega)
    have i2 := sq_le (show 0 ≤ x by omega) (show x ≤ 12 by omega)
    have i3 : 1 * 1 ≤ (x + 1) * (x + 1) := sq_le (by omega) (by omega)
    have i4 := sq_le (show 0 ≤ x + 1 by omega) (show x + 1 ≤ 13 by omega)
    have i5 : 1 * 1 ≤ x * x * y := Int.mul_le_mul i1 (by omega) (by omega) (by omega)
    have i6 : x * x * y ≤ 144 * 30 := Int.mul_le_mul i2 (by omega) (by omega) (by omega)
    have i7 : 1 * 1 ≤ (x + 1) * (x + 1) * y := Int.mul_le_mul i3 (by omega) (by omega) (by omega)
    have i8 : (x + 1) * (x + 1) * y ≤ 169 * 30 := Int.mul_le_mul i4 (by omega) (by omega) (by omega)
    have j1 : 2 * x * x * y = 2 * (x * x * y) := by grind
    have j2 : y * (x + 1) * (x + 1) = (x + 1) * (x + 1) * y := by grind
    omega
  have e5 := r_right_of_gaps (T := T) (k := k + 7) (g := 2 * x * x * y) (h := y * (x + 1) * (x + 1)) gb.1 gb.2.2.1 gb.2.1 gb.2.2.2
  have s5 : Sq (2 * (2 * x * x * y) * (y * (x + 1) * (x + 1))) := sq_of (r := 2 * x * y * (x + 1)) (by grind)
  have q5 := rog_right gb.1 gb.2.2.1 s5
  have z5 : rt (2 * (2 * x * x * y) * (y * (x + 1) * (x + 1))) ≤ 400000000 := by
    have e : 2 * (2 * x * x * y) * (y * (x + 1) * (x + 1)) = (2 * x * y * (x + 1)) * (2 * x * y * (x + 1)) := by grind
    have i1 : x * y ≤ 12 * 30 := Int.mul_le_mul (by omega) (by omega) (by omega) (by omega)
    have i2 : 0 ≤ x * y := Int.mul_nonneg (by omega) (by omega)
    have i3 : x * y * (x + 1) ≤ 360 * 13 := Int.mul_le_mul i1 (by omega) (by omega) (by omega)
    have i4 : 0 ≤ x * y * (x + 1) := Int.mul_nonneg i2 (by omega)
    have i5 : 2 * x * y * (x + 1) = 2 * (x * y * (x + 1)) := by grind
    rw [e, rt_sq (by omega)]
    omega
  have d5 : rog (2 * x * x * y) (y * (x + 1) * (x + 1)) = .tup [.int (min (2 * x * x * y + rt (2 * (2 * x * x * y) * (y * (x + 1) * (x + 1)))) (y * (x + 1) * (x + 1) + rt (2 * (2 * x * x * y) * (y * (x + 1) * (x + 1))))), .int (max (2 * x * x * y + rt (2 * (2 * x * x * y) * (y * (x + 1) * (x + 1)))) (y * (x + 1) * (x + 1) + rt (2 * (2 * x * x * y) * (y * (x + 1) * (x + 1))))), .int (2 * x * x * y + y * (x + 1) * (x + 1) + rt (2 * (2 * x * x * y) * (y * (x + 1) * (x + 1))))] := by unfold rog; rw [if_pos s5]
  rw [d5] at e5
  generalize rt (2 * (2 * x * x * y) * (y * (x + 1) * (x + 1))) = rr at *
  obtain ⟨G1, hG⟩ : ∃ G1, 2 * x * x * y = G1 := ⟨_, rfl⟩
  obtain ⟨H1, hH⟩ : ∃ H1, y * (x + 1) * (x + 1) = H1 := ⟨_, rfl⟩
  rw [hG, hH] at e5 gb q5
  have t5 : Tri (min (G1 + rr) (H1 + rr)) (max (G1 + rr) (H1 + rr)) (G1 + H1 + rr) := by
    have q1 := q5.1
    constructor <;> omega
  have s6 : min (G1 + rr) (H1 + rr) * min (G1 + rr) (H1 + rr) + max (G1 + rr) (H1 + rr) * max (G1 + rr) (H1 + rr) = (G1 + H1 + rr) * (G1 + H1 + rr) := by
    have q2 := q5.2
    by_cases z : G1 + rr ≤ H1 + rr
    · rw [Int.min_eq_left z, Int.max_eq_right z]; exact q2
    · rw [Int.min_eq_right (by omega), Int.max_eq_left (by omega)]; omega
  clear d5
  generalize min (G1 + rr) (H1 + rr) = A1 at *
  generalize max (G1 + rr) (H1 + rr) = B1 at *
  generalize G1 + H1 + rr = C1 at *
  have e6 := r_law_fits_right (T := T) (k := k + 9) (m := 1) (d := .tup [.int A1, .int B1, .int C1]) (by simp) (by omega)
  rw [rightB_int t5] at e6
  have key : ∀ (S5 : D), S5 = rog g h → True := fun _ _ => trivial
  have ba : Bits a 31 := ⟨by omega⟩
  have rb : 0 ≤ rt (2 * g * h) := rt_nonneg _
  have rb9 : rt (2 * g * h) ≤ 1000000000 := by
    have i1 : g * h ≤ 200000000 * 200000000 := Int.mul_le_mul (by omega) (by omega) (by omega) (by omega)
    have q : 2 * g * h = 2 * (g * h) := Int.mul_assoc _ _ _
    refine Classical.byContradiction fun w => ?_
    have := (rt_le_iff (N := 2 * g * h) (l := 1000000000) (by omega)).mpr (by omega)
    omega
  have mr : mulOk (rt (2 * g * h)) (rt (2 * g * h)) = true := mulOk_l (by omega)
  have f5 : D.fit 5 (rog g h) = true := by unfold rog; split <;> simp
  refine ⟨c5, ?_⟩
  have hs3 : sortD [.int (g + rt (2 * g * h)), .int (h + rt (2 * g * h)), .int (g + h + rt (2 * g * h))] = some [.int (min (g + rt (2 * g * h)) (h + rt (2 * g * h))), .int (max (g + rt (2 * g * h)) (h + rt (2 * g * h))), .int (g + h + rt (2 * g * h))] := by
    rw [sort3_d, sort3_right (by omega) (by omega)]; rfl
  have hS : (rt (2 * g * h) * rt (2 * g * h) = 2 * g * h) ↔ Sq (2 * g * h) := ⟨fun w => sq_of w.symm, fun w => w.2⟩
  have hB1 : f__law_gaps_right.body = f__law_gaps_right.body.take 2 ++ f__law_gaps_right.body.drop 2 := rfl
  rw [run_succ, hB1]
  simp only [execs_append]
  by_cases z : c - a ≤ 200000000
  · have e1 := r_right_of_gaps (T := T) (k := k + 7) (g := c - b) (h := c - a) (by omega) (by omega) (by omega) (by omega)
    have e2 := r_right_of_gaps (T := T) (k := k + 7) (g := c - a) (h := c - b) (by omega) (by omega) (by omega) (by omega)
    rw [rg1] at e1
    rw [rg2] at e2
    by_cases s : Sq (2 * g * h)
    · have hR : rog g h = .tup [.int (min (g + rt (2 * g * h)) (h + rt (2 * g * h))), .int (max (g + rt (2 * g * h)) (h + rt (2 * g * h))), .int (g + h + rt (2 * g * h))] := by unfold rog; rw [if_pos s]
      rw [hR] at e3
      simp (decide := true) [f__law_gaps_right, argsOk, hp8, z, e1, e2, l1, r1, r2, r3, hg, hh, e4, mr, hS, s, hs3, e3, r4, r5, hx, hy, hG, hH, e5, e6, s6]
    · have hR : rog g h = .non := by unfold rog; rw [if_neg s]
      rw [hR] at e3
      simp (decide := true) [f__law_gaps_right, argsOk, hp8, z, e1, e2, l1, r1, r2, r3, hg, hh, e4, mr, hS, s, e3, r4, r5, hx, hy, hG, hH, e5, e6, s6]
  · by_cases s : Sq (2 * g * h)
    · have hR : rog g h = .tup [.int (min (g + rt (2 * g * h)) (h + rt (2 * g * h))), .int (max (g + rt (2 * g * h)) (h + rt (2 * g * h))), .int (g + h + rt (2 * g * h))] := by unfold rog; rw [if_pos s]
      rw [hR] at e3
      simp (decide := true) [f__law_gaps_right, argsOk, hp8, z, l1, r1, r2, r3, hg, hh, e4, mr, hS, s, hs3, e3, r4, r5, hx, hy, hG, hH, e5, e6, s6]
    · have hR : rog g h = .non := by unfold rog; rw [if_neg s]
      rw [hR] at e3
      simp (decide := true) [f__law_gaps_right, argsOk, hp8, z, l1, r1, r2, r3, hg, hh, e4, mr, hS, s, e3, r4, r5, hx, hy, hG, hH, e5, e6, s6]
end G
end

section
set_option maxHeartbeats 4000000
/-! Law 3. -/
namespace G
variable {T : Table}
theorem fit_345 : strOk (PySem.Str.ofString "345") = true := by decide +kernel
theorem r__law_values_right [H__law_values_right T] {k : Nat} {cu : Cup} {a b c : Int} (t : Tri a b c) : ∃ c' : Cup, run T (k + 12) i__law_values_right [.ref cu.d, .v (.tup [.int a, .int b, .int c])] = .ok (.bl true, false) c'.d := by
  have hp8 : powOk 10 9 = true := by decide
  obtain ⟨d1, c1, e1, w1⟩ := r__law_bent (T := T) (k := k + 8) (c := cu) (xs := [.int a, .int b, .int c]) (m := 1) (by simp) (by simp) (by simp) (by omega) (by omega)
  obtain ⟨d2, c2, e2, w2⟩ := r__law_bent (T := T) (k := k + 8) (c := c1) (xs := [.int a, .int b, .int c]) (m := 1) (by simp) (by simp) (by simp) (by omega) (by omega)
  obtain ⟨x, y, z, c3, _, _, e3⟩ := r__law_triangle (T := T) (k := k + 9) (c := c2) (m := 60) (by omega) (by omega)
  obtain ⟨x', y', z', c4, _, _, e4⟩ := r__law_triangle (T := T) (k := k + 9) (c := c3) (m := 1000000000) (by omega) (by omega)
  obtain ⟨L, hL⟩ : ∃ L : List D, L = [.tup [.int a, .int b, .int c], .tup [.int c, .int b, .int a], .lst [.int a, .int b, .int c], .tup [.int a, .int b], .tup [.int a, .int b, .int c, .int 1], .tup [.int b, .int a, .int c], .tup [.int a, .int b, .int (c + 1)], .tup [.int a, .int (b + 1), .int c], .tup [.int (a - 1), .int b, .int c], .non, .tup [], .int 0, .str (PySem.Str.ofString "345"), .tup [.int 0, .int 5, .int 5], .tup [.int 3, .int 4, .bl true], d1, d2, .tup [.int x, .int y, .int z], .tup [.int x', .int y', .int z'], .tup [.int 3000000000, .int 4000000000, .int 5000000000], .tup [.int 5, .int 5, .int 5]] := ⟨_, rfl⟩
  have hfit : ∀ d ∈ L, D.fit 3 d = true := by
    have : D.fits 3 L = true := by
      rw [hL]
      simp [w1, w2, fit_345]
    exact fits_iff.mp this
  have l1 := fun (d : D) (hd : D.fit 6 d = true) => like_s (T := T) (k := k + 11) hd (by omega)
  have key : turns [6] (.n 6) (evalFs (run T (k + 11)) [(.not (.e (.call i__law_like [(.call i_is_right [(.v 6)]), (.call i__law_fits_right [(.v 6)])])))]) (compE (run T (k + 11)) (evalE (run T (k + 11)) (.v 6)) []) L [.ref c4.d, .v (.tup [.int a, .int b, .int c]), .v (.int a), .v (.int b), .v (.int c), .v (.lst L), .no] = .ok [] [.ref c4.d, .v (.tup [.int a, .int b, .int c]), .v (.int a), .v (.int b), .v (.int c), .v (.lst L), .no] := by
    refine turns_none rfl L fun d hd => ?_
    have hf := hfit d hd
    have f1 := r_is_right_any (T := T) (k := k + 5) (m := 2) hf
    have f2 := r_law_fits_right (T := T) (k := k + 9) (m := 2) hf (by omega)
    simp [f1, f2, l1]
  have m9 : ∀ u v : Int, 0 ≤ u → u ≤ 100 → mulOk u v = true := fun u v h1 h2 => mulOk_l (by omega)
  refine ⟨c4, ?_⟩
  have hB1 : f__law_values_right.body = f__law_values_right.body.take 3 ++ f__law_values_right.body.drop 3 := rfl
  have hB2 : f__law_values_right.body.drop 3 = [.ret (.op2 .eq (.comp [6] (.v 6) (.n 6) (.e (.v 5)) [(.not (.e (.call i__law_like [(.call i_is_right [(.v 6)]), (.call i__law_fits_right [(.v 6)])])))] []) (.lst []))] := rfl
  have hT : execs (run T (k + 11)) (f__law_values_right.body.take 3) [.ref cu.d, .v (.tup [.int a, .int b, .int c]), .no, .no, .no, .no, .no] = .nx [.ref c4.d, .v (.tup [.int a, .int b, .int c]), .v (.int a), .v (.int b), .v (.int c), .own (.lst L), .no] := by
    rw [hL]
    simp (decide := true) [f__law_values_right, hp8, e1, e2, e3, e4, m9, line, cut, sIx]
  have hargs : argsOk f__law_values_right [.ref cu.d, .v (.tup [.int a, .int b, .int c])] = true := rfl
  have hst : start f__law_values_right.slots [.ref cu.d, .v (.tup [.int a, .int b, .int c])] = [.ref cu.d, .v (.tup [.int a, .int b, .int c]), .no, .no, .no, .no, .no] := rfl
  have hby : f__law_values_right.byref = true := rfl
  rw [run_succ, hB1, hB2, hargs, hst, hby]
  simp only [execs_append]
  generalize f__law_values_right.body.take 3 = PR at *
  clear hL
  simp [hT, key]
def loop03 : List Sm := [.set (.t [(.n 3), (.n 4)]) (.callr i__law_two 1 [(.v 2)]), .ifs (.not (.e (.callr i__law_right_one 1 [(.v 3), (.v 4)]))) [.ret (.c (.bl false))] [], .set (.n 5) (.callr i__law_drawn_right 1 [(.v 2)]), .ifs (.or (.not (.e (.callr i__law_gaps_right 1 [(.v 5)]))) (.not (.e (.callr i__law_values_right 1 [(.v 5)])))) [.ret (.c (.bl false))] []]
theorem loop_03 [H_law_03 T] {k : Nat} {cu : Cup} {m : Int} {X0 s3 s4 s5 : S} (h1 : 3 ≤ m) (h9 : m ≤ 22000) (n3 : S.nr s3) (n4 : S.nr s4) (n5 : S.nr s5) :
    ∃ cu' : Cup, ∃ d3 d4 d5, execs (run T (k + 12)) loop03 [X0, .own cu.d, .v (.int m), s3, s4, s5] = .nx [X0, .own cu'.d, .v (.int m), .v d3, .v d4, .v d5] := by
  obtain ⟨o, t, c1, hot, ho, e1⟩ := r__law_two_03 (T := T) (k := k + 8) (cu := cu) h1 (by omega)
  obtain ⟨c2, e2⟩ := r__law_right_one (T := T) (k := k) (cu := c1) hot (by omega)
  obtain ⟨a, b, c, c3, tr, lt, r, e3⟩ := r__law_drawn_right (T := T) (k := k + 6) (cu := c2) h1 h9
  obtain ⟨c4, e4⟩ := r__law_gaps_right_03 (T := T) (k := k) (cu := c3) tr lt r
  obtain ⟨c5, e5⟩ := r__law_values_right (T := T) (k := k) (cu := c4) tr
  have n3' : ∀ d, ¬ s3 = .ref d := n3
  have n4' : ∀ d, ¬ s4 = .ref d := n4
  have n5' : ∀ d, ¬ s5 = .ref d := n5
  simp only [Nat.reduceAdd, Nat.add_assoc] at e1 e3
  exact ⟨c5, .int o, .int t, .tup [.int a, .int b, .int c], by simp [loop03, e1, e2, e3, e4, e5, n3', n4', n5']⟩
def pre03 : List Sm := [.ifs (.not (.e (.call i__law_written []))) [.ret (.c (.bl false))] []]
theorem law03 [H_law_03 T] {k : Nat} {ns : List Int} (hns : ns.length ≤ 63)
    (hpre : execs (run T (k + 20)) pre03 [.v (.scr ns), .no, .no, .no, .no, .no] = .nx [.v (.scr ns), .no, .no, .no, .no, .no]) :
    run T (k + 21) i_law [.v (.scr ns)] = .ok (.bl true, false) .non := by
  obtain ⟨c0, e0⟩ := r__law_cup (T := T) (k := k + 19) (ns := ns) hns
  have b := fun (c : Cup) (m : Int) (s3 s4 s5 : S) h1 h9 n3 n4 n5 => loop_03 (T := T) (k := k + 8) (cu := c) (m := m) (X0 := .v (.scr ns)) (s3 := s3) (s4 := s4) (s5 := s5) h1 h9 n3 n4 n5
  obtain ⟨c1, a3, a4, a5, k1⟩ := b c0 3 .no .no .no (by omega) (by omega) nr_no nr_no nr_no
  obtain ⟨c2, b3, b4, b5, k2⟩ := b c1 20 (.v a3) (.v a4) (.v a5) (by omega) (by omega) nr_v nr_v nr_v
  obtain ⟨c3, d3, d4, d5, k3⟩ := b c2 900 (.v b3) (.v b4) (.v b5) (by omega) (by omega) nr_v nr_v nr_v
  obtain ⟨c4, g3, g4, g5, k4⟩ := b c3 22000 (.v d3) (.v d4) (.v d5) (by omega) (by omega) nr_v nr_v nr_v
  have hB : f_law_03.body = pre03 ++ [.set (.n 1) (.call i__law_cup [(.v 0)]), .forr (.n 2) (.e (.tup [(.c (.int 3)), (.c (.int 20)), (.c (.int 900)), (.c (.int 22000))])) loop03, .ret (.c (.bl true))] := rfl
  have hargs : argsOk f_law_03 [.v (.scr ns)] = true := rfl
  have hst : start f_law_03.slots [.v (.scr ns)] = [.v (.scr ns), .no, .no, .no, .no, .no] := rfl
  have hby : f_law_03.byref = false := rfl
  rw [run_succ, hB, hargs, hst, hby]
  simp only [execs_append]
  generalize pre03 = PR at *
  generalize loop03 = LP at *
  clear b
  simp only [Nat.reduceAdd, Nat.add_assoc] at k1 k2 k3 k4
  simp [e0, setP_cup, hpre, forS, k1, k2, k3, k4]
end G
end

section
set_option maxHeartbeats 200000
namespace G
open PySem L2
def tabL : List (Nat × Fn) := [(i_is_integer, f_is_integer), (i_is_whole, f_is_whole), (i_need_whole, f_need_whole), (i_is_tuple_of, f_is_tuple_of), (i_divisor_of, f_divisor_of), (i_root_in, f_root_in), (i_is_square_in, f_is_square_in), (i_is_side, f_is_side), (i_fits_triangle, f_fits_triangle), (i_need_triangle, f_need_triangle), (i_kind_in, f_kind_in), (i_part_in, f_part_in), (i_plain_in, f_plain_in), (i_times_in, f_times_in), (i_is_triangle, f_is_triangle), (i_kind_of, f_kind_of), (i_is_plain, f_is_plain), (i_times_of, f_times_of), (i_fits_right, f_fits_right), (i_need_right, f_need_right), (i_right_by, f_right_by), (i_numbers_in, f_numbers_in), (i_is_right, f_is_right), (i_right_of, f_right_of), (i_numbers_of, f_numbers_of), (i_right_of_gaps, f_right_of_gaps), (i__law_cup, f__law_cup), (i__law_roll, f__law_roll), (i__law_some, f__law_some), (i__law_sort, f__law_sort), (i__law_like, f__law_like), (i__law_divisor, f__law_divisor), (i__law_root, f__law_root), (i__law_right, f__law_right), (i__law_triangle, f__law_triangle), (i__law_two, f__law_two), (i__law_drawn_right, f__law_drawn_right), (i__law_fits_right, f__law_fits_right), (i__law_bent, f__law_bent), (i__law_right_one, f__law_right_one), (i__law_gaps_right, f__law_gaps_right), (i__law_values_right, f__law_values_right), (i__law_written, f__law_written), (i_law, f_law_03)]
def tab : Table := fun i => tabL.lookup i
instance : Has tab i_is_integer f_is_integer := ⟨rfl⟩
instance : Has tab i_is_whole f_is_whole := ⟨rfl⟩
instance : Has tab i_need_whole f_need_whole := ⟨rfl⟩
instance : Has tab i_is_tuple_of f_is_tuple_of := ⟨rfl⟩
instance : Has tab i_divisor_of f_divisor_of := ⟨rfl⟩
instance : Has tab i_root_in f_root_in := ⟨rfl⟩
instance : Has tab i_is_square_in f_is_square_in := ⟨rfl⟩
instance : Has tab i_is_side f_is_side := ⟨rfl⟩
instance : Has tab i_fits_triangle f_fits_triangle := ⟨rfl⟩
instance : Has tab i_need_triangle f_need_triangle := ⟨rfl⟩
instance : Has tab i_kind_in f_kind_in := ⟨rfl⟩
instance : Has tab i_part_in f_part_in := ⟨rfl⟩
instance : Has tab i_plain_in f_plain_in := ⟨rfl⟩
instance : Has tab i_times_in f_times_in := ⟨rfl⟩
instance : Has tab i_is_triangle f_is_triangle := ⟨rfl⟩
instance : Has tab i_kind_of f_kind_of := ⟨rfl⟩
instance : Has tab i_is_plain f_is_plain := ⟨rfl⟩
instance : Has tab i_times_of f_times_of := ⟨rfl⟩
instance : Has tab i_fits_right f_fits_right := ⟨rfl⟩
instance : Has tab i_need_right f_need_right := ⟨rfl⟩
instance : Has tab i_right_by f_right_by := ⟨rfl⟩
instance : Has tab i_numbers_in f_numbers_in := ⟨rfl⟩
instance : Has tab i_is_right f_is_right := ⟨rfl⟩
instance : Has tab i_right_of f_right_of := ⟨rfl⟩
instance : Has tab i_numbers_of f_numbers_of := ⟨rfl⟩
instance : Has tab i_right_of_gaps f_right_of_gaps := ⟨rfl⟩
instance : Has tab i__law_cup f__law_cup := ⟨rfl⟩
instance : Has tab i__law_roll f__law_roll := ⟨rfl⟩
instance : Has tab i__law_some f__law_some := ⟨rfl⟩
instance : Has tab i__law_sort f__law_sort := ⟨rfl⟩
instance : Has tab i__law_like f__law_like := ⟨rfl⟩
instance : Has tab i__law_divisor f__law_divisor := ⟨rfl⟩
instance : Has tab i__law_root f__law_root := ⟨rfl⟩
instance : Has tab i__law_right f__law_right := ⟨rfl⟩
instance : Has tab i__law_triangle f__law_triangle := ⟨rfl⟩
instance : Has tab i__law_two f__law_two := ⟨rfl⟩
instance : Has tab i__law_drawn_right f__law_drawn_right := ⟨rfl⟩
instance : Has tab i__law_fits_right f__law_fits_right := ⟨rfl⟩
instance : Has tab i__law_bent f__law_bent := ⟨rfl⟩
instance : Has tab i__law_right_one f__law_right_one := ⟨rfl⟩
instance : Has tab i__law_gaps_right f__law_gaps_right := ⟨rfl⟩
instance : Has tab i__law_values_right f__law_values_right := ⟨rfl⟩
instance : Has tab i__law_written f__law_written := ⟨rfl⟩
instance : Has tab i_law f_law_03 := ⟨rfl⟩
instance : H_is_tuple_of tab := ⟨inferInstance⟩
instance : H_is_integer tab := ⟨inferInstance⟩
instance : H_is_whole tab := ⟨inferInstance, inferInstance⟩
instance : H_is_side tab := ⟨inferInstance, inferInstance⟩
instance : H_fits_triangle tab := ⟨inferInstance, inferInstance, inferInstance⟩
instance : H_need_triangle tab := ⟨inferInstance, inferInstance⟩
instance : H_divisor_of tab := ⟨inferInstance⟩
instance : H_need_whole tab := ⟨inferInstance, inferInstance⟩
instance : H__law_cup tab := ⟨inferInstance⟩
instance : H__law_roll tab := ⟨inferInstance⟩
instance : H__law_some tab := ⟨inferInstance, inferInstance⟩
instance : H__law_sort tab := ⟨inferInstance⟩
instance : H__law_like tab := ⟨inferInstance, inferInstance⟩
instance : H__law_triangle tab := ⟨inferInstance, inferInstance⟩
instance : H__law_right tab := ⟨inferInstance⟩
instance : H__law_divisor tab := ⟨inferInstance⟩
instance : H_root_in tab := ⟨inferInstance⟩
instance : H_is_square_in tab := ⟨inferInstance, inferInstance⟩
instance : H_part_in tab := ⟨inferInstance, inferInstance⟩
instance : H_plain_in tab := ⟨inferInstance, inferInstance⟩
instance : H__law_root tab := ⟨inferInstance⟩
instance : H_is_triangle tab := ⟨inferInstance, inferInstance⟩
instance : H_is_plain tab := ⟨inferInstance, inferInstance, inferInstance⟩
instance : H_kind_in tab := ⟨inferInstance⟩
instance : H_kind_of tab := ⟨inferInstance, inferInstance, inferInstance⟩
instance : H_times_in tab := ⟨inferInstance⟩
instance : H_times_of tab := ⟨inferInstance, inferInstance, inferInstance, inferInstance⟩
instance : H__law_two tab := ⟨inferInstance, inferInstance, inferInstance, inferInstance⟩
instance : H__law_drawn_right tab := ⟨inferInstance, inferInstance, inferInstance, inferInstance⟩
instance : H_fits_right tab := ⟨inferInstance, inferInstance, inferInstance⟩
instance : H_is_right tab := ⟨inferInstance, inferInstance⟩
instance : H_right_by tab := ⟨inferInstance⟩
instance : H_right_of tab := ⟨inferInstance, inferInstance, inferInstance⟩
instance : H_need_right tab := ⟨inferInstance, inferInstance⟩
instance : H_numbers_in tab := ⟨inferInstance, inferInstance⟩
instance : H_numbers_of tab := ⟨inferInstance, inferInstance, inferInstance, inferInstance, inferInstance⟩
instance : H__law_right_one tab := ⟨inferInstance, inferInstance, inferInstance, inferInstance, inferInstance, inferInstance, inferInstance, inferInstance, inferInstance, inferInstance, inferInstance, inferInstance⟩
instance : H_right_of_gaps tab := ⟨inferInstance, inferInstance, inferInstance, inferInstance⟩
instance : H__law_fits_right tab := ⟨inferInstance, inferInstance⟩
instance : H__law_gaps_right tab := ⟨inferInstance, inferInstance, inferInstance, inferInstance, inferInstance, inferInstance, inferInstance⟩
instance : H__law_bent tab := ⟨inferInstance, inferInstance, inferInstance⟩
instance : H__law_values_right tab := ⟨inferInstance, inferInstance, inferInstance, inferInstance, inferInstance, inferInstance⟩
instance : H__law_written tab := ⟨inferInstance, inferInstance, inferInstance, inferInstance, inferInstance, inferInstance⟩
instance : H_law_03 tab := ⟨inferInstance, inferInstance, inferInstance, inferInstance, inferInstance, inferInstance, inferInstance, inferInstance⟩
theorem pre03_tab (ns : List Int) : execsC 3000 (runC 3000 tab 59) pre03 [.v (.scr ns), .no, .no, .no, .no, .no] = .nx [.v (.scr ns), .no, .no, .no, .no, .no] := by kernel_rfl
theorem law_pure : ∀ ns : List Int, ns.length ≤ 63 → ∃ b d, run tab 60 i_law [.v (.scr ns)] = .ok (.bl true, b) d := fun ns h => ⟨_, _, law03 (T := tab) (k := 39) h (execs_of (pre03_tab ns) (by simp))⟩

def topS (i : Nat) : Stmt := PySem.Challenge.pw_wholesides_k03_whole_right_triangles.main.body.getD i (.Pass ⟨0, 0, 0, 0⟩)
def constsL : List (Str × D) := [(("MOST" : Str), (.int 1000000000)), (("MOST_TIMES" : Str), (.int 1000000)), (("ROOT" : Str), (.int 31622)), (("GAP" : Str), (.int 200000000))]
def exL : List (Str × Nat) := [(("SideError" : Str), 0), (("InvalidTriangle" : Str), 1), (("InvalidNumber" : Str), 3)]
def row_is_integer : Row := ⟨i_is_integer, "is_integer", topS 7, ["value"], 1, false, exL⟩
def row_is_whole : Row := ⟨i_is_whole, "is_whole", topS 8, ["value", "low", "high"], 3, false, exL⟩
def row_need_whole : Row := ⟨i_need_whole, "need_whole", topS 9, ["value", "low", "high"], 3, false, exL⟩
def row_is_tuple_of : Row := ⟨i_is_tuple_of, "is_tuple_of", topS 10, ["value", "low", "high"], 3, false, exL⟩
def row_divisor_of : Row := ⟨i_divisor_of, "divisor_of", topS 11, ["one", "other"], 2, false, exL⟩
def row_root_in : Row := ⟨i_root_in, "root_in", topS 12, ["number", "low", "high", "middle"], 1, false, exL⟩
def row_is_square_in : Row := ⟨i_is_square_in, "is_square_in", topS 13, ["number"], 1, false, exL⟩
def row_is_side : Row := ⟨i_is_side, "is_side", topS 14, ["value"], 1, false, exL⟩
def row_fits_triangle : Row := ⟨i_fits_triangle, "fits_triangle", topS 15, ["value", "side"], 1, false, exL⟩
def row_need_triangle : Row := ⟨i_need_triangle, "need_triangle", topS 16, ["value"], 1, false, exL⟩
def row_kind_in : Row := ⟨i_kind_in, "kind_in", topS 17, ["triangle", "a", "b", "c", "less"], 1, false, exL⟩
def row_part_in : Row := ⟨i_part_in, "part_in", topS 18, ["triangle"], 1, false, exL⟩
def row_plain_in : Row := ⟨i_plain_in, "plain_in", topS 19, ["triangle", "part", "side"], 1, false, exL⟩
def row_times_in : Row := ⟨i_times_in, "times_in", topS 20, ["triangle", "number", "side"], 2, false, exL⟩
def row_is_triangle : Row := ⟨i_is_triangle, "is_triangle", topS 21, ["value"], 1, false, exL⟩
def row_kind_of : Row := ⟨i_kind_of, "kind_of", topS 22, ["triangle"], 1, false, exL⟩
def row_is_plain : Row := ⟨i_is_plain, "is_plain", topS 23, ["triangle"], 1, false, exL⟩
def row_times_of : Row := ⟨i_times_of, "times_of", topS 24, ["triangle", "number"], 2, false, exL⟩
def row_fits_right : Row := ⟨i_fits_right, "fits_right", topS 28, ["value"], 1, false, exL⟩
def row_need_right : Row := ⟨i_need_right, "need_right", topS 29, ["right"], 1, false, exL⟩
def row_right_by : Row := ⟨i_right_by, "right_by", topS 30, ["one", "other"], 2, false, exL⟩
def row_numbers_in : Row := ⟨i_numbers_in, "numbers_in", topS 31, ["bare", "odd"], 1, false, exL⟩
def row_is_right : Row := ⟨i_is_right, "is_right", topS 32, ["value"], 1, false, exL⟩
def row_right_of : Row := ⟨i_right_of, "right_of", topS 33, ["one", "other"], 2, false, exL⟩
def row_numbers_of : Row := ⟨i_numbers_of, "numbers_of", topS 34, ["right"], 1, false, exL⟩
def row_right_of_gaps : Row := ⟨i_right_of_gaps, "right_of_gaps", topS 35, ["one", "other", "root"], 2, false, exL⟩
def row__law_cup : Row := ⟨i__law_cup, "_law_cup", topS 37, ["script", "cell"], 1, false, exL⟩
def row__law_roll : Row := ⟨i__law_roll, "_law_roll", topS 38, ["cup", "many", "found", "deep"], 2, true, exL⟩
def row__law_some : Row := ⟨i__law_some, "_law_some", topS 39, ["cup", "things"], 2, true, exL⟩
def row__law_sort : Row := ⟨i__law_sort, "_law_sort", topS 40, ["value"], 1, false, exL⟩
def row__law_like : Row := ⟨i__law_like, "_law_like", topS 41, ["one", "other", "sort", "first", "second"], 2, false, exL⟩
def row__law_divisor : Row := ⟨i__law_divisor, "_law_divisor", topS 42, ["one", "other"], 2, false, exL⟩
def row__law_root : Row := ⟨i__law_root, "_law_root", topS 43, ["number", "low", "high", "middle"], 1, false, exL⟩
def row__law_right : Row := ⟨i__law_right, "_law_right", topS 44, ["one", "other"], 2, false, exL⟩
def row__law_triangle : Row := ⟨i__law_triangle, "_law_triangle", topS 45, ["cup", "most", "way", "size", "one", "other", "times", "low", "high", "third"], 2, true, exL⟩
def row__law_two : Row := ⟨i__law_two, "_law_two", topS 46, ["cup", "most", "m", "good", "n"], 2, true, exL⟩
def row__law_drawn_right : Row := ⟨i__law_drawn_right, "_law_drawn_right", topS 47, ["cup", "most", "m", "n", "one", "times", "side"], 2, true, exL⟩
def row__law_fits_right : Row := ⟨i__law_fits_right, "_law_fits_right", topS 48, ["value", "side"], 1, false, exL⟩
def row__law_bent : Row := ⟨i__law_bent, "_law_bent", topS 49, ["cup", "value", "some", "at", "way"], 2, true, exL⟩
def row__law_right_one : Row := ⟨i__law_right_one, "_law_right_one", topS 50, ["cup", "m", "n", "due", "most", "times", "own", "told", "one", "other", "drawn", "back", "side"], 3, true, exL⟩
def row__law_gaps_right : Row := ⟨i__law_gaps_right, "_law_gaps_right", topS 51, ["cup", "right", "one", "other", "root", "due", "small", "more", "own"], 2, true, exL⟩
def row__law_values_right : Row := ⟨i__law_values_right, "_law_values_right", topS 52, ["cup", "right", "a", "b", "c", "odds", "odd"], 2, true, exL⟩
def row__law_written : Row := ⟨i__law_written, "_law_written", topS 53, ["told"], 0, false, exL⟩
def row_law : Row := ⟨i_law, "law", topS 54, ["script", "cup", "most", "m", "n", "right"], 1, false, exL⟩
def rowsL : List Row := [row_is_integer, row_is_whole, row_need_whole, row_is_tuple_of, row_divisor_of, row_root_in, row_is_square_in, row_is_side, row_fits_triangle, row_need_triangle, row_kind_in, row_part_in, row_plain_in, row_times_in, row_is_triangle, row_kind_of, row_is_plain, row_times_of, row_fits_right, row_need_right, row_right_by, row_numbers_in, row_is_right, row_right_of, row_numbers_of, row_right_of_gaps, row__law_cup, row__law_roll, row__law_some, row__law_sort, row__law_like, row__law_divisor, row__law_root, row__law_right, row__law_triangle, row__law_two, row__law_drawn_right, row__law_fits_right, row__law_bent, row__law_right_one, row__law_gaps_right, row__law_values_right, row__law_written, row_law]
def fnsL : List (Str × Nat × Bool × Nat) := [(("is_integer" : Str), i_is_integer, false, 1), (("is_whole" : Str), i_is_whole, false, 3), (("need_whole" : Str), i_need_whole, false, 3), (("is_tuple_of" : Str), i_is_tuple_of, false, 3), (("divisor_of" : Str), i_divisor_of, false, 2), (("root_in" : Str), i_root_in, false, 1), (("is_square_in" : Str), i_is_square_in, false, 1), (("is_side" : Str), i_is_side, false, 1), (("fits_triangle" : Str), i_fits_triangle, false, 1), (("need_triangle" : Str), i_need_triangle, false, 1), (("kind_in" : Str), i_kind_in, false, 1), (("part_in" : Str), i_part_in, false, 1), (("plain_in" : Str), i_plain_in, false, 1), (("times_in" : Str), i_times_in, false, 2), (("is_triangle" : Str), i_is_triangle, false, 1), (("kind_of" : Str), i_kind_of, false, 1), (("is_plain" : Str), i_is_plain, false, 1), (("times_of" : Str), i_times_of, false, 2), (("fits_right" : Str), i_fits_right, false, 1), (("need_right" : Str), i_need_right, false, 1), (("right_by" : Str), i_right_by, false, 2), (("numbers_in" : Str), i_numbers_in, false, 1), (("is_right" : Str), i_is_right, false, 1), (("right_of" : Str), i_right_of, false, 2), (("numbers_of" : Str), i_numbers_of, false, 1), (("right_of_gaps" : Str), i_right_of_gaps, false, 2), (("_law_cup" : Str), i__law_cup, false, 1), (("_law_roll" : Str), i__law_roll, true, 2), (("_law_some" : Str), i__law_some, true, 2), (("_law_sort" : Str), i__law_sort, false, 1), (("_law_like" : Str), i__law_like, false, 2), (("_law_divisor" : Str), i__law_divisor, false, 2), (("_law_root" : Str), i__law_root, false, 1), (("_law_right" : Str), i__law_right, false, 2), (("_law_triangle" : Str), i__law_triangle, true, 2), (("_law_two" : Str), i__law_two, true, 2), (("_law_drawn_right" : Str), i__law_drawn_right, true, 2), (("_law_fits_right" : Str), i__law_fits_right, false, 1), (("_law_bent" : Str), i__law_bent, true, 2), (("_law_right_one" : Str), i__law_right_one, true, 3), (("_law_gaps_right" : Str), i__law_gaps_right, true, 2), (("_law_values_right" : Str), i__law_values_right, true, 2), (("_law_written" : Str), i__law_written, false, 0), (("law" : Str), i_law, false, 1)]
def txt : Text := ⟨tab, fnsL, constsL⟩
theorem xok_is_integer : xFn fnsL constsL exL ["value"] false ["value"] (topS 7) = some f_is_integer := by kernel_rfl
theorem rok_is_integer : RowOk txt row_is_integer := ⟨rfl, ⟨rfl, rfl, rfl, by decide +kernel, rfl, by decide +kernel, by decide +kernel⟩, fun _ _ _ _ _ _ us hl => match us, hl with | [_], _ => rfl, ⟨_, rfl, xok_is_integer⟩⟩
theorem xok_is_whole : xFn fnsL constsL exL ["value", "low", "high"] false ["value", "low", "high"] (topS 8) = some f_is_whole := by kernel_rfl
theorem rok_is_whole : RowOk txt row_is_whole := ⟨rfl, ⟨rfl, rfl, rfl, by decide +kernel, rfl, by decide +kernel, by decide +kernel⟩, fun _ _ _ _ _ _ us hl => match us, hl with | [_, _, _], _ => rfl, ⟨_, rfl, xok_is_whole⟩⟩
theorem xok_need_whole : xFn fnsL constsL exL ["value", "low", "high"] false ["value", "low", "high"] (topS 9) = some f_need_whole := by kernel_rfl
theorem rok_need_whole : RowOk txt row_need_whole := ⟨rfl, ⟨rfl, rfl, rfl, by decide +kernel, rfl, by decide +kernel, by decide +kernel⟩, fun _ _ _ _ _ _ us hl => match us, hl with | [_, _, _], _ => rfl, ⟨_, rfl, xok_need_whole⟩⟩
theorem xok_is_tuple_of : xFn fnsL constsL exL ["value", "low", "high"] false ["value", "low", "high"] (topS 10) = some f_is_tuple_of := by kernel_rfl
theorem rok_is_tuple_of : RowOk txt row_is_tuple_of := ⟨rfl, ⟨rfl, rfl, rfl, by decide +kernel, rfl, by decide +kernel, by decide +kernel⟩, fun _ _ _ _ _ _ us hl => match us, hl with | [_, _, _], _ => rfl, ⟨_, rfl, xok_is_tuple_of⟩⟩
theorem xok_divisor_of : xFn fnsL constsL exL ["one", "other"] false ["one", "other"] (topS 11) = some f_divisor_of := by kernel_rfl
theorem rok_divisor_of : RowOk txt row_divisor_of := ⟨rfl, ⟨rfl, rfl, rfl, by decide +kernel, rfl, by decide +kernel, by decide +kernel⟩, fun _ _ _ _ _ _ us hl => match us, hl with | [_, _], _ => rfl, ⟨_, rfl, xok_divisor_of⟩⟩
theorem xok_root_in : xFn fnsL constsL exL ["number", "low", "high", "middle"] false ["number"] (topS 12) = some f_root_in := by kernel_rfl
theorem rok_root_in : RowOk txt row_root_in := ⟨rfl, ⟨rfl, rfl, rfl, by decide +kernel, rfl, by decide +kernel, by decide +kernel⟩, fun _ _ _ _ _ _ us hl => match us, hl with | [_], _ => rfl, ⟨_, rfl, xok_root_in⟩⟩
theorem xok_is_square_in : xFn fnsL constsL exL ["number"] false ["number"] (topS 13) = some f_is_square_in := by kernel_rfl
theorem rok_is_square_in : RowOk txt row_is_square_in := ⟨rfl, ⟨rfl, rfl, rfl, by decide +kernel, rfl, by decide +kernel, by decide +kernel⟩, fun _ _ _ _ _ _ us hl => match us, hl with | [_], _ => rfl, ⟨_, rfl, xok_is_square_in⟩⟩
theorem xok_is_side : xFn fnsL constsL exL ["value"] false ["value"] (topS 14) = some f_is_side := by kernel_rfl
theorem rok_is_side : RowOk txt row_is_side := ⟨rfl, ⟨rfl, rfl, rfl, by decide +kernel, rfl, by decide +kernel, by decide +kernel⟩, fun _ _ _ _ _ _ us hl => match us, hl with | [_], _ => rfl, ⟨_, rfl, xok_is_side⟩⟩
theorem xok_fits_triangle : xFn fnsL constsL exL ["value", "side"] false ["value"] (topS 15) = some f_fits_triangle := by kernel_rfl
theorem rok_fits_triangle : RowOk txt row_fits_triangle := ⟨rfl, ⟨rfl, rfl, rfl, by decide +kernel, rfl, by decide +kernel, by decide +kernel⟩, fun _ _ _ _ _ _ us hl => match us, hl with | [_], _ => rfl, ⟨_, rfl, xok_fits_triangle⟩⟩
theorem xok_need_triangle : xFn fnsL constsL exL ["value"] false ["value"] (topS 16) = some f_need_triangle := by kernel_rfl
theorem rok_need_triangle : RowOk txt row_need_triangle := ⟨rfl, ⟨rfl, rfl, rfl, by decide +kernel, rfl, by decide +kernel, by decide +kernel⟩, fun _ _ _ _ _ _ us hl => match us, hl with | [_], _ => rfl, ⟨_, rfl, xok_need_triangle⟩⟩
theorem xok_kind_in : xFn fnsL constsL exL ["triangle", "a", "b", "c", "less"] false ["triangle"] (topS 17) = some f_kind_in := by kernel_rfl
theorem rok_kind_in : RowOk txt row_kind_in := ⟨rfl, ⟨rfl, rfl, rfl, by decide +kernel, rfl, by decide +kernel, by decide +kernel⟩, fun _ _ _ _ _ _ us hl => match us, hl with | [_], _ => rfl, ⟨_, rfl, xok_kind_in⟩⟩
theorem xok_part_in : xFn fnsL constsL exL ["triangle"] false ["triangle"] (topS 18) = some f_part_in := by kernel_rfl
theorem rok_part_in : RowOk txt row_part_in := ⟨rfl, ⟨rfl, rfl, rfl, by decide +kernel, rfl, by decide +kernel, by decide +kernel⟩, fun _ _ _ _ _ _ us hl => match us, hl with | [_], _ => rfl, ⟨_, rfl, xok_part_in⟩⟩
theorem xok_plain_in : xFn fnsL constsL exL ["triangle", "part", "side"] false ["triangle"] (topS 19) = some f_plain_in := by kernel_rfl
theorem rok_plain_in : RowOk txt row_plain_in := ⟨rfl, ⟨rfl, rfl, rfl, by decide +kernel, rfl, by decide +kernel, by decide +kernel⟩, fun _ _ _ _ _ _ us hl => match us, hl with | [_], _ => rfl, ⟨_, rfl, xok_plain_in⟩⟩
theorem xok_times_in : xFn fnsL constsL exL ["triangle", "number", "side"] false ["triangle", "number"] (topS 20) = some f_times_in := by kernel_rfl
theorem rok_times_in : RowOk txt row_times_in := ⟨rfl, ⟨rfl, rfl, rfl, by decide +kernel, rfl, by decide +kernel, by decide +kernel⟩, fun _ _ _ _ _ _ us hl => match us, hl with | [_, _], _ => rfl, ⟨_, rfl, xok_times_in⟩⟩
theorem xok_is_triangle : xFn fnsL constsL exL ["value"] false ["value"] (topS 21) = some f_is_triangle := by kernel_rfl
theorem rok_is_triangle : RowOk txt row_is_triangle := ⟨rfl, ⟨rfl, rfl, rfl, by decide +kernel, rfl, by decide +kernel, by decide +kernel⟩, fun _ _ _ _ _ _ us hl => match us, hl with | [_], _ => rfl, ⟨_, rfl, xok_is_triangle⟩⟩
theorem xok_kind_of : xFn fnsL constsL exL ["triangle"] false ["triangle"] (topS 22) = some f_kind_of := by kernel_rfl
theorem rok_kind_of : RowOk txt row_kind_of := ⟨rfl, ⟨rfl, rfl, rfl, by decide +kernel, rfl, by decide +kernel, by decide +kernel⟩, fun _ _ _ _ _ _ us hl => match us, hl with | [_], _ => rfl, ⟨_, rfl, xok_kind_of⟩⟩
theorem xok_is_plain : xFn fnsL constsL exL ["triangle"] false ["triangle"] (topS 23) = some f_is_plain := by kernel_rfl
theorem rok_is_plain : RowOk txt row_is_plain := ⟨rfl, ⟨rfl, rfl, rfl, by decide +kernel, rfl, by decide +kernel, by decide +kernel⟩, fun _ _ _ _ _ _ us hl => match us, hl with | [_], _ => rfl, ⟨_, rfl, xok_is_plain⟩⟩
theorem xok_times_of : xFn fnsL constsL exL ["triangle", "number"] false ["triangle", "number"] (topS 24) = some f_times_of := by kernel_rfl
theorem rok_times_of : RowOk txt row_times_of := ⟨rfl, ⟨rfl, rfl, rfl, by decide +kernel, rfl, by decide +kernel, by decide +kernel⟩, fun _ _ _ _ _ _ us hl => match us, hl with | [_, _], _ => rfl, ⟨_, rfl, xok_times_of⟩⟩
theorem xok_fits_right : xFn fnsL constsL exL ["value"] false ["value"] (topS 28) = some f_fits_right := by kernel_rfl
theorem rok_fits_right : RowOk txt row_fits_right := ⟨rfl, ⟨rfl, rfl, rfl, by decide +kernel, rfl, by decide +kernel, by decide +kernel⟩, fun _ _ _ _ _ _ us hl => match us, hl with | [_], _ => rfl, ⟨_, rfl, xok_fits_right⟩⟩
theorem xok_need_right : xFn fnsL constsL exL ["right"] false ["right"] (topS 29) = some f_need_right := by kernel_rfl
theorem rok_need_right : RowOk txt row_need_right := ⟨rfl, ⟨rfl, rfl, rfl, by decide +kernel, rfl, by decide +kernel, by decide +kernel⟩, fun _ _ _ _ _ _ us hl => match us, hl with | [_], _ => rfl, ⟨_, rfl, xok_need_right⟩⟩
theorem xok_right_by : xFn fnsL constsL exL ["one", "other"] false ["one", "other"] (topS 30) = some f_right_by := by kernel_rfl
theorem rok_right_by : RowOk txt row_right_by := ⟨rfl, ⟨rfl, rfl, rfl, by decide +kernel, rfl, by decide +kernel, by decide +kernel⟩, fun _ _ _ _ _ _ us hl => match us, hl with | [_, _], _ => rfl, ⟨_, rfl, xok_right_by⟩⟩
theorem xok_numbers_in : xFn fnsL constsL exL ["bare", "odd"] false ["bare"] (topS 31) = some f_numbers_in := by kernel_rfl
theorem rok_numbers_in : RowOk txt row_numbers_in := ⟨rfl, ⟨rfl, rfl, rfl, by decide +kernel, rfl, by decide +kernel, by decide +kernel⟩, fun _ _ _ _ _ _ us hl => match us, hl with | [_], _ => rfl, ⟨_, rfl, xok_numbers_in⟩⟩
theorem xok_is_right : xFn fnsL constsL exL ["value"] false ["value"] (topS 32) = some f_is_right := by kernel_rfl
theorem rok_is_right : RowOk txt row_is_right := ⟨rfl, ⟨rfl, rfl, rfl, by decide +kernel, rfl, by decide +kernel, by decide +kernel⟩, fun _ _ _ _ _ _ us hl => match us, hl with | [_], _ => rfl, ⟨_, rfl, xok_is_right⟩⟩
theorem xok_right_of : xFn fnsL constsL exL ["one", "other"] false ["one", "other"] (topS 33) = some f_right_of := by kernel_rfl
theorem rok_right_of : RowOk txt row_right_of := ⟨rfl, ⟨rfl, rfl, rfl, by decide +kernel, rfl, by decide +kernel, by decide +kernel⟩, fun _ _ _ _ _ _ us hl => match us, hl with | [_, _], _ => rfl, ⟨_, rfl, xok_right_of⟩⟩
theorem xok_numbers_of : xFn fnsL constsL exL ["right"] false ["right"] (topS 34) = some f_numbers_of := by kernel_rfl
theorem rok_numbers_of : RowOk txt row_numbers_of := ⟨rfl, ⟨rfl, rfl, rfl, by decide +kernel, rfl, by decide +kernel, by decide +kernel⟩, fun _ _ _ _ _ _ us hl => match us, hl with | [_], _ => rfl, ⟨_, rfl, xok_numbers_of⟩⟩
theorem xok_right_of_gaps : xFn fnsL constsL exL ["one", "other", "root"] false ["one", "other"] (topS 35) = some f_right_of_gaps := by kernel_rfl
theorem rok_right_of_gaps : RowOk txt row_right_of_gaps := ⟨rfl, ⟨rfl, rfl, rfl, by decide +kernel, rfl, by decide +kernel, by decide +kernel⟩, fun _ _ _ _ _ _ us hl => match us, hl with | [_, _], _ => rfl, ⟨_, rfl, xok_right_of_gaps⟩⟩
theorem xok__law_cup : xFn fnsL constsL exL ["script", "cell"] false ["script"] (topS 37) = some f__law_cup := by kernel_rfl
theorem rok__law_cup : RowOk txt row__law_cup := ⟨rfl, ⟨rfl, rfl, rfl, by decide +kernel, rfl, by decide +kernel, by decide +kernel⟩, fun _ _ _ _ _ _ us hl => match us, hl with | [_], _ => rfl, ⟨_, rfl, xok__law_cup⟩⟩
theorem xok__law_roll : xFn fnsL constsL exL ["cup", "many", "found", "deep"] true ["cup", "many"] (topS 38) = some f__law_roll := by kernel_rfl
theorem rok__law_roll : RowOk txt row__law_roll := ⟨rfl, ⟨rfl, rfl, rfl, by decide +kernel, rfl, by decide +kernel, by decide +kernel⟩, fun _ _ _ _ _ _ us hl => match us, hl with | [_, _], _ => rfl, ⟨_, rfl, xok__law_roll⟩⟩
theorem xok__law_some : xFn fnsL constsL exL ["cup", "things"] true ["cup", "things"] (topS 39) = some f__law_some := by kernel_rfl
theorem rok__law_some : RowOk txt row__law_some := ⟨rfl, ⟨rfl, rfl, rfl, by decide +kernel, rfl, by decide +kernel, by decide +kernel⟩, fun _ _ _ _ _ _ us hl => match us, hl with | [_, _], _ => rfl, ⟨_, rfl, xok__law_some⟩⟩
theorem xok__law_sort : xFn fnsL constsL exL ["value"] false ["value"] (topS 40) = some f__law_sort := by kernel_rfl
theorem rok__law_sort : RowOk txt row__law_sort := ⟨rfl, ⟨rfl, rfl, rfl, by decide +kernel, rfl, by decide +kernel, by decide +kernel⟩, fun _ _ _ _ _ _ us hl => match us, hl with | [_], _ => rfl, ⟨_, rfl, xok__law_sort⟩⟩
theorem xok__law_like : xFn fnsL constsL exL ["one", "other", "sort", "first", "second"] false ["one", "other"] (topS 41) = some f__law_like := by kernel_rfl
theorem rok__law_like : RowOk txt row__law_like := ⟨rfl, ⟨rfl, rfl, rfl, by decide +kernel, rfl, by decide +kernel, by decide +kernel⟩, fun _ _ _ _ _ _ us hl => match us, hl with | [_, _], _ => rfl, ⟨_, rfl, xok__law_like⟩⟩
theorem xok__law_divisor : xFn fnsL constsL exL ["one", "other"] false ["one", "other"] (topS 42) = some f__law_divisor := by kernel_rfl
theorem rok__law_divisor : RowOk txt row__law_divisor := ⟨rfl, ⟨rfl, rfl, rfl, by decide +kernel, rfl, by decide +kernel, by decide +kernel⟩, fun _ _ _ _ _ _ us hl => match us, hl with | [_, _], _ => rfl, ⟨_, rfl, xok__law_divisor⟩⟩
theorem xok__law_root : xFn fnsL constsL exL ["number", "low", "high", "middle"] false ["number"] (topS 43) = some f__law_root := by kernel_rfl
theorem rok__law_root : RowOk txt row__law_root := ⟨rfl, ⟨rfl, rfl, rfl, by decide +kernel, rfl, by decide +kernel, by decide +kernel⟩, fun _ _ _ _ _ _ us hl => match us, hl with | [_], _ => rfl, ⟨_, rfl, xok__law_root⟩⟩
theorem xok__law_right : xFn fnsL constsL exL ["one", "other"] false ["one", "other"] (topS 44) = some f__law_right := by kernel_rfl
theorem rok__law_right : RowOk txt row__law_right := ⟨rfl, ⟨rfl, rfl, rfl, by decide +kernel, rfl, by decide +kernel, by decide +kernel⟩, fun _ _ _ _ _ _ us hl => match us, hl with | [_, _], _ => rfl, ⟨_, rfl, xok__law_right⟩⟩
theorem xok__law_triangle : xFn fnsL constsL exL ["cup", "most", "way", "size", "one", "other", "times", "low", "high", "third"] true ["cup", "most"] (topS 45) = some f__law_triangle := by kernel_rfl
theorem rok__law_triangle : RowOk txt row__law_triangle := ⟨rfl, ⟨rfl, rfl, rfl, by decide +kernel, rfl, by decide +kernel, by decide +kernel⟩, fun _ _ _ _ _ _ us hl => match us, hl with | [_, _], _ => rfl, ⟨_, rfl, xok__law_triangle⟩⟩
theorem xok__law_two : xFn fnsL constsL exL ["cup", "most", "m", "good", "n"] true ["cup", "most"] (topS 46) = some f__law_two := by kernel_rfl
theorem rok__law_two : RowOk txt row__law_two := ⟨rfl, ⟨rfl, rfl, rfl, by decide +kernel, rfl, by decide +kernel, by decide +kernel⟩, fun _ _ _ _ _ _ us hl => match us, hl with | [_, _], _ => rfl, ⟨_, rfl, xok__law_two⟩⟩
theorem xok__law_drawn_right : xFn fnsL constsL exL ["cup", "most", "m", "n", "one", "times", "side"] true ["cup", "most"] (topS 47) = some f__law_drawn_right := by kernel_rfl
theorem rok__law_drawn_right : RowOk txt row__law_drawn_right := ⟨rfl, ⟨rfl, rfl, rfl, by decide +kernel, rfl, by decide +kernel, by decide +kernel⟩, fun _ _ _ _ _ _ us hl => match us, hl with | [_, _], _ => rfl, ⟨_, rfl, xok__law_drawn_right⟩⟩
theorem xok__law_fits_right : xFn fnsL constsL exL ["value", "side"] false ["value"] (topS 48) = some f__law_fits_right := by kernel_rfl
theorem rok__law_fits_right : RowOk txt row__law_fits_right := ⟨rfl, ⟨rfl, rfl, rfl, by decide +kernel, rfl, by decide +kernel, by decide +kernel⟩, fun _ _ _ _ _ _ us hl => match us, hl with | [_], _ => rfl, ⟨_, rfl, xok__law_fits_right⟩⟩
theorem xok__law_bent : xFn fnsL constsL exL ["cup", "value", "some", "at", "way"] true ["cup", "value"] (topS 49) = some f__law_bent := by kernel_rfl
theorem rok__law_bent : RowOk txt row__law_bent := ⟨rfl, ⟨rfl, rfl, rfl, by decide +kernel, rfl, by decide +kernel, by decide +kernel⟩, fun _ _ _ _ _ _ us hl => match us, hl with | [_, _], _ => rfl, ⟨_, rfl, xok__law_bent⟩⟩
theorem xok__law_right_one : xFn fnsL constsL exL ["cup", "m", "n", "due", "most", "times", "own", "told", "one", "other", "drawn", "back", "side"] true ["cup", "m", "n"] (topS 50) = some f__law_right_one := by kernel_rfl
theorem rok__law_right_one : RowOk txt row__law_right_one := ⟨rfl, ⟨rfl, rfl, rfl, by decide +kernel, rfl, by decide +kernel, by decide +kernel⟩, fun _ _ _ _ _ _ us hl => match us, hl with | [_, _, _], _ => rfl, ⟨_, rfl, xok__law_right_one⟩⟩
theorem xok__law_gaps_right : xFn fnsL constsL exL ["cup", "right", "one", "other", "root", "due", "small", "more", "own"] true ["cup", "right"] (topS 51) = some f__law_gaps_right := by kernel_rfl
theorem rok__law_gaps_right : RowOk txt row__law_gaps_right := ⟨rfl, ⟨rfl, rfl, rfl, by decide +kernel, rfl, by decide +kernel, by decide +kernel⟩, fun _ _ _ _ _ _ us hl => match us, hl with | [_, _], _ => rfl, ⟨_, rfl, xok__law_gaps_right⟩⟩
theorem xok__law_values_right : xFn fnsL constsL exL ["cup", "right", "a", "b", "c", "odds", "odd"] true ["cup", "right"] (topS 52) = some f__law_values_right := by kernel_rfl
theorem rok__law_values_right : RowOk txt row__law_values_right := ⟨rfl, ⟨rfl, rfl, rfl, by decide +kernel, rfl, by decide +kernel, by decide +kernel⟩, fun _ _ _ _ _ _ us hl => match us, hl with | [_, _], _ => rfl, ⟨_, rfl, xok__law_values_right⟩⟩
theorem xok__law_written : xFn fnsL constsL exL ["told"] false [] (topS 53) = some f__law_written := by kernel_rfl
theorem rok__law_written : RowOk txt row__law_written := ⟨rfl, ⟨rfl, rfl, rfl, by decide +kernel, rfl, by decide +kernel, by decide +kernel⟩, fun _ _ _ _ _ _ us hl => match us, hl with | [], _ => rfl, ⟨_, rfl, xok__law_written⟩⟩
theorem xok_law : xFn fnsL constsL exL ["script", "cup", "most", "m", "n", "right"] false ["script"] (topS 54) = some f_law_03 := by kernel_rfl
theorem rok_law : RowOk txt row_law := ⟨rfl, ⟨rfl, rfl, rfl, by decide +kernel, rfl, by decide +kernel, by decide +kernel⟩, fun _ _ _ _ _ _ us hl => match us, hl with | [_], _ => rfl, ⟨_, rfl, xok_law⟩⟩
theorem rows_ok : ∀ r ∈ rowsL, RowOk txt r := fa_cons rok_is_integer (fa_cons rok_is_whole (fa_cons rok_need_whole (fa_cons rok_is_tuple_of (fa_cons rok_divisor_of (fa_cons rok_root_in (fa_cons rok_is_square_in (fa_cons rok_is_side (fa_cons rok_fits_triangle (fa_cons rok_need_triangle (fa_cons rok_kind_in (fa_cons rok_part_in (fa_cons rok_plain_in (fa_cons rok_times_in (fa_cons rok_is_triangle (fa_cons rok_kind_of (fa_cons rok_is_plain (fa_cons rok_times_of (fa_cons rok_fits_right (fa_cons rok_need_right (fa_cons rok_right_by (fa_cons rok_numbers_in (fa_cons rok_is_right (fa_cons rok_right_of (fa_cons rok_numbers_of (fa_cons rok_right_of_gaps (fa_cons rok__law_cup (fa_cons rok__law_roll (fa_cons rok__law_some (fa_cons rok__law_sort (fa_cons rok__law_like (fa_cons rok__law_divisor (fa_cons rok__law_root (fa_cons rok__law_right (fa_cons rok__law_triangle (fa_cons rok__law_two (fa_cons rok__law_drawn_right (fa_cons rok__law_fits_right (fa_cons rok__law_bent (fa_cons rok__law_right_one (fa_cons rok__law_gaps_right (fa_cons rok__law_values_right (fa_cons rok__law_written (fa_cons rok_law (fa_nil))))))))))))))))))))))))))))))))))))))))))))
end G
open PySem PySem.W PyProof.Rows
set_option maxHeartbeats 0 in
theorem PySem.Challenge.cw_wholesides_k03_whole_right_triangles_holds : PySem.Challenge.rw_wholesides_k03_whole_right_triangles.Holds := by
  w_on; o_law; k_head; (case hw => w_witness2)
  k_fill
  refine L2.walk_of (l := PySem.Challenge.rw_wholesides_k03_whole_right_triangles) (n := 63) (k := 60) (x := "script") (CX := fun _ => L2.CX0) (sp := fun w => G.spLaw _) rfl (by decide) rfl ⟨rfl, by decide, by decide⟩ (fun w h Y => PySem.W.kIn_of Y) ?F (fun _ _ a ns hl _ hS => ⟨a, ns, rfl, hS, hl, fun _ => rfl⟩) (fun _ _ _ _ _ h => h)
  case F =>
    intro w mg fa h KX Gh hmg
    refine' G.law_ok KX Gh (G.text_ok KX Gh (rs := G.rowsL) rfl G.rows_ok ?D ?B ?C) hmg (r := G.row_law) rfl rfl G.rok_law ?L G.law_pure
    case D =>
      refine' G.fa_cons ?d0 (G.fa_cons ?d1 (G.fa_cons ?d2 (G.fa_cons ?d3 (G.fa_cons ?d4 (G.fa_cons ?d5 (G.fa_cons ?d6 (G.fa_cons ?d7 (G.fa_cons ?d8 (G.fa_cons ?d9 (G.fa_cons ?d10 (G.fa_cons ?d11 (G.fa_cons ?d12 (G.fa_cons ?d13 (G.fa_cons ?d14 (G.fa_cons ?d15 (G.fa_cons ?d16 (G.fa_cons ?d17 (G.fa_cons ?d18 (G.fa_cons ?d19 (G.fa_cons ?d20 (G.fa_cons ?d21 (G.fa_cons ?d22 (G.fa_cons ?d23 (G.fa_cons ?d24 (G.fa_cons ?d25 (G.fa_cons ?d26 (G.fa_cons ?d27 (G.fa_cons ?d28 (G.fa_cons ?d29 (G.fa_cons ?d30 (G.fa_cons ?d31 (G.fa_cons ?d32 (G.fa_cons ?d33 (G.fa_cons ?d34 (G.fa_cons ?d35 (G.fa_cons ?d36 (G.fa_cons ?d37 (G.fa_cons ?d38 (G.fa_cons ?d39 (G.fa_cons ?d40 (G.fa_cons ?d41 (G.fa_cons ?d42 (G.fa_cons ?d43 (G.fa_nil))))))))))))))))))))))))))))))))))))))))))))
      case d0 => (refine' G.def_mk (x := "is_integer") (qual := "is_integer") (st := G.topS 7) ?a ?l ?c ?k; (case a => k_is); (case l => k_is); (case c => k_is); (case k => k_is))
      case d1 => (refine' G.def_mk (x := "is_whole") (qual := "is_whole") (st := G.topS 8) ?a ?l ?c ?k; (case a => k_is); (case l => k_is); (case c => k_is); (case k => k_is))
      case d2 => (refine' G.def_mk (x := "need_whole") (qual := "need_whole") (st := G.topS 9) ?a ?l ?c ?k; (case a => k_is); (case l => k_is); (case c => k_is); (case k => k_is))
      case d3 => (refine' G.def_mk (x := "is_tuple_of") (qual := "is_tuple_of") (st := G.topS 10) ?a ?l ?c ?k; (case a => k_is); (case l => k_is); (case c => k_is); (case k => k_is))
      case d4 => (refine' G.def_mk (x := "divisor_of") (qual := "divisor_of") (st := G.topS 11) ?a ?l ?c ?k; (case a => k_is); (case l => k_is); (case c => k_is); (case k => k_is))
      case d5 => (refine' G.def_mk (x := "root_in") (qual := "root_in") (st := G.topS 12) ?a ?l ?c ?k; (case a => k_is); (case l => k_is); (case c => k_is); (case k => k_is))
      case d6 => (refine' G.def_mk (x := "is_square_in") (qual := "is_square_in") (st := G.topS 13) ?a ?l ?c ?k; (case a => k_is); (case l => k_is); (case c => k_is); (case k => k_is))
      case d7 => (refine' G.def_mk (x := "is_side") (qual := "is_side") (st := G.topS 14) ?a ?l ?c ?k; (case a => k_is); (case l => k_is); (case c => k_is); (case k => k_is))
      case d8 => (refine' G.def_mk (x := "fits_triangle") (qual := "fits_triangle") (st := G.topS 15) ?a ?l ?c ?k; (case a => k_is); (case l => k_is); (case c => k_is); (case k => k_is))
      case d9 => (refine' G.def_mk (x := "need_triangle") (qual := "need_triangle") (st := G.topS 16) ?a ?l ?c ?k; (case a => k_is); (case l => k_is); (case c => k_is); (case k => k_is))
      case d10 => (refine' G.def_mk (x := "kind_in") (qual := "kind_in") (st := G.topS 17) ?a ?l ?c ?k; (case a => k_is); (case l => k_is); (case c => k_is); (case k => k_is))
      case d11 => (refine' G.def_mk (x := "part_in") (qual := "part_in") (st := G.topS 18) ?a ?l ?c ?k; (case a => k_is); (case l => k_is); (case c => k_is); (case k => k_is))
      case d12 => (refine' G.def_mk (x := "plain_in") (qual := "plain_in") (st := G.topS 19) ?a ?l ?c ?k; (case a => k_is); (case l => k_is); (case c => k_is); (case k => k_is))
      case d13 => (refine' G.def_mk (x := "times_in") (qual := "times_in") (st := G.topS 20) ?a ?l ?c ?k; (case a => k_is); (case l => k_is); (case c => k_is); (case k => k_is))
      case d14 => (refine' G.def_mk (x := "is_triangle") (qual := "is_triangle") (st := G.topS 21) ?a ?l ?c ?k; (case a => k_is); (case l => k_is); (case c => k_is); (case k => k_is))
      case d15 => (refine' G.def_mk (x := "kind_of") (qual := "kind_of") (st := G.topS 22) ?a ?l ?c ?k; (case a => k_is); (case l => k_is); (case c => k_is); (case k => k_is))
      case d16 => (refine' G.def_mk (x := "is_plain") (qual := "is_plain") (st := G.topS 23) ?a ?l ?c ?k; (case a => k_is); (case l => k_is); (case c => k_is); (case k => k_is))
      case d17 => (refine' G.def_mk (x := "times_of") (qual := "times_of") (st := G.topS 24) ?a ?l ?c ?k; (case a => k_is); (case l => k_is); (case c => k_is); (case k => k_is))
      case d18 => (refine' G.def_mk (x := "fits_right") (qual := "fits_right") (st := G.topS 28) ?a ?l ?c ?k; (case a => k_is); (case l => k_is); (case c => k_is); (case k => k_is))
      case d19 => (refine' G.def_mk (x := "need_right") (qual := "need_right") (st := G.topS 29) ?a ?l ?c ?k; (case a => k_is); (case l => k_is); (case c => k_is); (case k => k_is))
      case d20 => (refine' G.def_mk (x := "right_by") (qual := "right_by") (st := G.topS 30) ?a ?l ?c ?k; (case a => k_is); (case l => k_is); (case c => k_is); (case k => k_is))
      case d21 => (refine' G.def_mk (x := "numbers_in") (qual := "numbers_in") (st := G.topS 31) ?a ?l ?c ?k; (case a => k_is); (case l => k_is); (case c => k_is); (case k => k_is))
      case d22 => (refine' G.def_mk (x := "is_right") (qual := "is_right") (st := G.topS 32) ?a ?l ?c ?k; (case a => k_is); (case l => k_is); (case c => k_is); (case k => k_is))
      case d23 => (refine' G.def_mk (x := "right_of") (qual := "right_of") (st := G.topS 33) ?a ?l ?c ?k; (case a => k_is); (case l => k_is); (case c => k_is); (case k => k_is))
      case d24 => (refine' G.def_mk (x := "numbers_of") (qual := "numbers_of") (st := G.topS 34) ?a ?l ?c ?k; (case a => k_is); (case l => k_is); (case c => k_is); (case k => k_is))
      case d25 => (refine' G.def_mk (x := "right_of_gaps") (qual := "right_of_gaps") (st := G.topS 35) ?a ?l ?c ?k; (case a => k_is); (case l => k_is); (case c => k_is); (case k => k_is))
      case d26 => (refine' G.def_mk (x := "_law_cup") (qual := "_law_cup") (st := G.topS 37) ?a ?l ?c ?k; (case a => k_is); (case l => k_is); (case c => k_is); (case k => k_is))
      case d27 => (refine' G.def_mk (x := "_law_roll") (qual := "_law_roll") (st := G.topS 38) ?a ?l ?c ?k; (case a => k_is); (case l => k_is); (case c => k_is); (case k => k_is))
      case d28 => (refine' G.def_mk (x := "_law_some") (qual := "_law_some") (st := G.topS 39) ?a ?l ?c ?k; (case a => k_is); (case l => k_is); (case c => k_is); (case k => k_is))
      case d29 => (refine' G.def_mk (x := "_law_sort") (qual := "_law_sort") (st := G.topS 40) ?a ?l ?c ?k; (case a => k_is); (case l => k_is); (case c => k_is); (case k => k_is))
      case d30 => (refine' G.def_mk (x := "_law_like") (qual := "_law_like") (st := G.topS 41) ?a ?l ?c ?k; (case a => k_is); (case l => k_is); (case c => k_is); (case k => k_is))
      case d31 => (refine' G.def_mk (x := "_law_divisor") (qual := "_law_divisor") (st := G.topS 42) ?a ?l ?c ?k; (case a => k_is); (case l => k_is); (case c => k_is); (case k => k_is))
      case d32 => (refine' G.def_mk (x := "_law_root") (qual := "_law_root") (st := G.topS 43) ?a ?l ?c ?k; (case a => k_is); (case l => k_is); (case c => k_is); (case k => k_is))
      case d33 => (refine' G.def_mk (x := "_law_right") (qual := "_law_right") (st := G.topS 44) ?a ?l ?c ?k; (case a => k_is); (case l => k_is); (case c => k_is); (case k => k_is))
      case d34 => (refine' G.def_mk (x := "_law_triangle") (qual := "_law_triangle") (st := G.topS 45) ?a ?l ?c ?k; (case a => k_is); (case l => k_is); (case c => k_is); (case k => k_is))
      case d35 => (refine' G.def_mk (x := "_law_two") (qual := "_law_two") (st := G.topS 46) ?a ?l ?c ?k; (case a => k_is); (case l => k_is); (case c => k_is); (case k => k_is))
      case d36 => (refine' G.def_mk (x := "_law_drawn_right") (qual := "_law_drawn_right") (st := G.topS 47) ?a ?l ?c ?k; (case a => k_is); (case l => k_is); (case c => k_is); (case k => k_is))
      case d37 => (refine' G.def_mk (x := "_law_fits_right") (qual := "_law_fits_right") (st := G.topS 48) ?a ?l ?c ?k; (case a => k_is); (case l => k_is); (case c => k_is); (case k => k_is))
      case d38 => (refine' G.def_mk (x := "_law_bent") (qual := "_law_bent") (st := G.topS 49) ?a ?l ?c ?k; (case a => k_is); (case l => k_is); (case c => k_is); (case k => k_is))
      case d39 => (refine' G.def_mk (x := "_law_right_one") (qual := "_law_right_one") (st := G.topS 50) ?a ?l ?c ?k; (case a => k_is); (case l => k_is); (case c => k_is); (case k => k_is))
      case d40 => (refine' G.def_mk (x := "_law_gaps_right") (qual := "_law_gaps_right") (st := G.topS 51) ?a ?l ?c ?k; (case a => k_is); (case l => k_is); (case c => k_is); (case k => k_is))
      case d41 => (refine' G.def_mk (x := "_law_values_right") (qual := "_law_values_right") (st := G.topS 52) ?a ?l ?c ?k; (case a => k_is); (case l => k_is); (case c => k_is); (case k => k_is))
      case d42 => (refine' G.def_mk (x := "_law_written") (qual := "_law_written") (st := G.topS 53) ?a ?l ?c ?k; (case a => k_is); (case l => k_is); (case c => k_is); (case k => k_is))
      case d43 => (refine' G.def_mk (x := "law") (qual := "law") (st := G.topS 54) ?a ?l ?c ?k; (case a => k_is); (case l => k_is); (case c => k_is); (case k => k_is))
    case L => (refine' G.def_mk (x := "law") (qual := "law") (st := G.topS 54) ?a ?l ?c ?k; (case a => k_is); (case l => k_is); (case c => k_is); (case k => k_is))
    case B =>
      refine' G.AllB.cons (x := "len") ?b0 (G.AllB.cons (x := "abs") ?b1 (G.AllB.cons (x := "int") ?b2 (G.AllB.cons (x := "str") ?b3 (G.AllB.cons (x := "bool") ?b4 (G.AllB.cons (x := "tuple") ?b5 (G.AllB.cons (x := "list") ?b6 (G.AllB.cons (x := "sorted") ?b7 (G.AllB.cons (x := "sum") ?b8 (G.AllB.cons (x := "max") ?b9 (G.AllB.cons (x := "min") ?b10 (G.AllB.cons (x := "all") ?b11 (G.AllB.cons (x := "any") ?b12 (G.AllB.cons (x := "range") ?b13 (G.AllB.cons (x := "zip") ?b14 (G.AllB.cons (x := "enumerate") ?b15 (G.AllB.cons (x := "isinstance") ?b16 (G.AllB.nil)))))))))))))))))
      case b0 => k_is
      case b1 => k_is
      case b2 => k_is
      case b3 => k_is
      case b4 => k_is
      case b5 => k_is
      case b6 => k_is
      case b7 => k_is
      case b8 => k_is
      case b9 => k_is
      case b10 => k_is
      case b11 => k_is
      case b12 => k_is
      case b13 => k_is
      case b14 => k_is
      case b15 => k_is
      case b16 => k_is
    case C =>
      refine' G.AllC.cons (x := "MOST") ?c0 (G.AllC.cons (x := "MOST_TIMES") ?c1 (G.AllC.cons (x := "ROOT") ?c2 (G.AllC.cons (x := "GAP") ?c3 (G.AllC.nil))))
      case c0 => (refine' G.const_int (x := "MOST") (n := 1000000000) ?a; (case a => k_is))
      case c1 => (refine' G.const_int (x := "MOST_TIMES") (n := 1000000) ?a; (case a => k_is))
      case c2 => (refine' G.const_int (x := "ROOT") (n := 31622) ?a; (case a => k_is))
      case c3 => (refine' G.const_int (x := "GAP") (n := 200000000) ?a; (case a => k_is))
end
