import PyProof.Rows.All
import Wide.All
import OpenK.AllK
import Wide.FinOn
import HandS.ForMost
import HandS.ForExc
import HandS.IsInst
import HandS.Flow
import HandS.TupAny
import HandS.Codes
import PySem.Challenge.RW_sayso_k06_names_are_tested
/-! Mi1: a small language for the programs at hand, its values, its store, and what it computes. Core Lean alone. -/
set_option autoImplicit false
namespace Mi

/-- a text: its code points -/
abbrev Tx := List Nat
def st (s : String) : Tx := s.toList.map Char.toNat

/-- data: whatever never changes; fzl: a list that is only read (the script); loc: a place of the store; xc: an error that was caught, by its class -/
inductive D where
  | non | bl (b : Bool) | int (i : Int) | str (s : Tx) | tup (xs : List D) | fzl (xs : List D) | loc (n : Nat) | xc (c : String)
  deriving Inhabited

mutual
def D.beq : D → D → Bool
  | .non, .non => true
  | .bl a, .bl b => a == b
  | .int a, .int b => decide (a = b)
  | .str a, .str b => decide (a = b)
  | .tup a, .tup b => D.beqs a b
  | .fzl a, .fzl b => D.beqs a b
  | .loc a, .loc b => decide (a = b)
  | .xc a, .xc b => decide (a = b)
  | _, _ => false
def D.beqs : List D → List D → Bool
  | [], [] => true
  | a :: as, b :: bs => D.beq a b && D.beqs as bs
  | _, _ => false
end
mutual
theorem D.beq_self : ∀ a : D, D.beq a a = true
  | .non => rfl
  | .bl a => by simp [D.beq]
  | .int a => by simp [D.beq]
  | .str a => by simp [D.beq]
  | .tup a => by rw [D.beq]; exact D.beqs_self a
  | .fzl a => by rw [D.beq]; exact D.beqs_self a
  | .loc a => by simp [D.beq]
  | .xc a => by simp [D.beq]
theorem D.beqs_self : ∀ a : List D, D.beqs a a = true
  | [] => rfl
  | a :: as => by rw [D.beqs, D.beq_self a, D.beqs_self as]; rfl
end
mutual
theorem D.eq_of_beq : ∀ a b : D, D.beq a b = true → a = b
  | .non, b, h => by cases b <;> simp_all [D.beq]
  | .bl a, b, h => by cases b <;> simp_all [D.beq]
  | .int a, b, h => by cases b <;> simp_all [D.beq]
  | .str a, b, h => by cases b <;> simp_all [D.beq]
  | .tup a, .tup b, h => by rw [D.beq] at h; rw [D.eq_of_beqs a b h]
  | .tup a, .non, h => by simp [D.beq] at h
  | .tup a, .bl _, h => by simp [D.beq] at h
  | .tup a, .int _, h => by simp [D.beq] at h
  | .tup a, .str _, h => by simp [D.beq] at h
  | .tup a, .loc _, h => by simp [D.beq] at h
  | .tup a, .xc _, h => by simp [D.beq] at h
  | .tup a, .fzl _, h => by simp [D.beq] at h
  | .fzl a, .fzl b, h => by rw [D.beq] at h; rw [D.eq_of_beqs a b h]
  | .fzl a, .non, h => by simp [D.beq] at h
  | .fzl a, .bl _, h => by simp [D.beq] at h
  | .fzl a, .int _, h => by simp [D.beq] at h
  | .fzl a, .str _, h => by simp [D.beq] at h
  | .fzl a, .loc _, h => by simp [D.beq] at h
  | .fzl a, .xc _, h => by simp [D.beq] at h
  | .fzl a, .tup _, h => by simp [D.beq] at h
  | .loc a, b, h => by cases b <;> simp_all [D.beq]
  | .xc a, b, h => by cases b <;> simp_all [D.beq]
theorem D.eq_of_beqs : ∀ a b : List D, D.beqs a b = true → a = b
  | [], [], _ => rfl
  | a :: as, b :: bs, h => by
    rw [D.beqs, Bool.and_eq_true] at h
    rw [D.eq_of_beq a b h.1, D.eq_of_beqs as bs h.2]
  | [], _ :: _, h => by simp [D.beqs] at h
  | _ :: _, [], h => by simp [D.beqs] at h
end
instance : DecidableEq D := fun a b => if h : D.beq a b = true then .isTrue (D.eq_of_beq a b h) else .isFalse fun e => h (e ▸ D.beq_self a)

/-- what stands at a place: a list, a list that is only read, a dict, a set, an object of a class -/
inductive Cell where
  | lst (xs : List D) | dct (kvs : List (D × D)) | set (xs : List D) | obj (c : String) (fs : List (String × D))
  deriving DecidableEq, Inhabited

abbrev Store := List Cell
abbrev Env := List (Option D)
inductive Out (α : Type) where
  | ok (a : α) | ex (c : String)
abbrev M (α : Type) := Store → Option (Out α × Store)

namespace M
variable {α β : Type}
def ret (a : α) : M α := fun S => some (.ok a, S)
def fail : M α := fun _ => none
def raise (c : String) : M α := fun S => some (.ex c, S)
def bnd (m : M α) (f : α → M β) : M β := fun S => match m S with
  | none => none
  | some (.ex c, S') => some (.ex c, S')
  | some (.ok a, S') => f a S'
/-- stuck unless -/
def need (p : Prop) [Decidable p] (m : M α) : M α := fun S => if p then m S else none
def of (o : Option α) : M α := fun S => match o with
  | none => none
  | some a => some (.ok a, S)
def new (c : Cell) : M D := fun S => some (.ok (.loc S.length), S ++ [c])
def get (n : Nat) : M Cell := fun S => match S[n]? with
  | none => none
  | some c => some (.ok c, S)
def put (n : Nat) (c : Cell) : M Unit := fun S => if n < S.length then some (.ok (), S.set n c) else none
end M
open M

inductive O2 where | add | sub | mul | fdiv | mod | pow | shl | shr | band
  deriving DecidableEq
inductive Cp where | eq | ne | lt | le | gt | ge | inn | nin | isN | notN
  deriving DecidableEq
inductive Ty where | int | str | bool | list | tuple | dict | cls (c : String)
  deriving DecidableEq
inductive Bi where | len | list | tuple | sum | max | min | max2 | min2 | str | int | all | sorted | set | dict
  deriving DecidableEq
inductive Mt where | append | extend | pop | popAt | popD | get1 | get2 | setdefault | add | join | split | upper | index | count | find | isdigit | replace | insert
  deriving DecidableEq

inductive Tg where
  | nm (i : Nat) | tup (ts : List Tg)

/-- expressions -/
inductive Ex where
  | non | bl (b : Bool) | int (i : Int) | str (s : Tx)
  | var (i : Nat)
  | glob (x : String)
  | op (o : O2) (a b : Ex)
  | neg (a : Ex)
  | cmp (c : Cp) (a b : Ex)
  | chain (c c' : Cp) (a b d : Ex)
  | not (a : Ex)
  | and (a b : Ex)
  | or (a b : Ex)
  | ite (c a b : Ex)
  | tup (xs : List Ex)
  | lst (xs : List Ex)
  | dct (ks vs : List Ex)
  | ix (a b : Ex)
  | slice (a : Ex) (lo hi : Option Ex)
  | call (f : String) (xs : List Ex)
  | bi (f : Bi) (xs : List Ex)
  | mt (m : Mt) (o : Ex) (xs : List Ex)
  | meth (o : Ex) (m : String) (xs : List Ex)
  | fld (o : Ex) (f : String)
  | new (c : String) (xs : List Ex)
  | isi (a : Ex) (ts : List Ty)
  | lc (elt : Ex) (t : Tg) (k : Nat) (xs : List Ex) (cs : List Ex) (vs : List Nat)
  | dc (key val : Ex) (t : Tg) (k : Nat) (xs : List Ex) (cs : List Ex)
  | fstr (xs : List Ex)

/-- what a for walks: 0 a value, 1 range(a), 2 range(a, b), 3 range(a, b, c), 4 enumerate(a), 5 zip(a, b) -/
abbrev ItK := Nat

inductive St where
  | asg (t : Tg) (e : Ex)
  | asgIx (o i e : Ex)
  | asgFld (o : Ex) (f : String) (e : Ex)
  | aug (i : Nat) (o : O2) (e : Ex)
  | augIx (a i : Ex) (o : O2) (e : Ex)
  | augFld (a : Ex) (f : String) (o : O2) (e : Ex)
  | expr (e : Ex)
  | ite (c : Ex) (a b : List St)
  | for (t : Tg) (k : ItK) (xs : List Ex) (body : List St)
  | while (c : Ex) (body : List St)
  | ret (e : Ex)
  | retN
  | raise (c : String)
  | try (body : List St) (hs : List (String × Option Nat × List St))
  | brk | cont | pass

/-- the most items of a list or signs of a text -/
def szl : Nat := 16777216

/-! ### values -/
/-- a whole number's or a truth value's number -/
def D.num : D → Option Int
  | .int i => some i
  | .bl b => some (if b then 1 else 0)
  | _ => none
mutual
/-- == of data without places -/
def D.eqv : D → D → Bool
  | .non, .non => true
  | .str a, .str b => decide (a = b)
  | .tup a, .tup b => D.eqvs a b
  | .bl a, .bl b => a == b
  | .int a, .int b => decide (a = b)
  | .bl a, .int b => decide ((if a then 1 else 0) = b)
  | .int a, .bl b => decide (a = (if b then 1 else 0))
  | _, _ => false
def D.eqvs : List D → List D → Bool
  | [], [] => true
  | a :: as, b :: bs => D.eqv a b && D.eqvs as bs
  | _, _ => false
end
mutual
/-- how deep tuples stand within one another -/
def D.deep : D → Nat
  | .tup xs => D.deeps xs + 1
  | _ => 0
def D.deeps : List D → Nat
  | [] => 0
  | a :: as => max (D.deep a) (D.deeps as)
end
mutual
/-- data without places (and without errors) -/
def D.flat : D → Bool
  | .loc _ => false
  | .xc _ => false
  | .fzl _ => false
  | .tup xs => D.flats xs
  | _ => true
def D.flats : List D → Bool
  | [] => true
  | a :: as => D.flat a && D.flats as
end
mutual
/-- the places in a value are below n -/
def D.bel (n : Nat) : D → Bool
  | .loc i => decide (i < n)
  | .tup xs => D.bels n xs
  | .fzl xs => D.bels n xs
  | _ => true
def D.bels (n : Nat) : List D → Bool
  | [] => true
  | a :: as => D.bel n a && D.bels n as
end
def Cell.bel (n : Nat) : Cell → Bool
  | .lst xs => D.bels n xs
  | .dct kvs => D.bels n (kvs.map (·.1)) && D.bels n (kvs.map (·.2))
  | .set xs => D.bels n xs
  | .obj _ fs => D.bels n (fs.map (·.2))

def D.isNon : D → Bool
  | .non => true
  | _ => false
def truthy : D → M Bool
  | .non => ret false
  | .bl b => ret b
  | .int i => ret (i != 0)
  | .str s => ret (!s.isEmpty)
  | .tup xs => ret (!xs.isEmpty)
  | .fzl xs => ret (!xs.isEmpty)
  | .loc n => bnd (get n) fun c => match c with
    | .lst xs => ret (!xs.isEmpty)
    | .dct kvs => ret (!kvs.isEmpty)
    | _ => fail
  | .xc _ => fail

/-- the places of an index -/
def ixN (n : Nat) (i : Int) : Option Nat := if 0 ≤ i then (if i < n then some i.toNat else none) else if -(n : Int) ≤ i then some (i + n).toNat else none
def atI {α : Type} (xs : List α) (i : Int) : Option α := (ixN xs.length i).bind fun j => xs[j]?
/-- a slice's bound -/
def sIx (n d : Nat) : Option Int → Nat
  | none => d
  | some v => if v < 0 then (v + n).toNat else min v.toNat n
def cut {α : Type} (xs : List α) (lo hi : Option Int) : List α := (xs.drop (sIx xs.length 0 lo)).take (sIx xs.length xs.length hi - sIx xs.length 0 lo)

def lookD (k : D) : List (D × D) → Option D
  | [] => none
  | (x, v) :: r => if D.eqv x k then some v else lookD k r
def putD (k v : D) : List (D × D) → List (D × D)
  | [] => [(k, v)]
  | (x, u) :: r => if D.eqv x k then (x, v) :: r else (x, u) :: putD k v r

def i64 (i : Int) : Bool := decide (-(2 ^ 64) < i ∧ i < 2 ^ 64)
def binop : O2 → D → D → M D
  | .add, .int a, .int b => ret (.int (a + b))
  | .sub, .int a, .int b => ret (.int (a - b))
  | .mul, .int a, .int b => need (i64 a = true ∨ i64 b = true) (ret (.int (a * b)))
  | .fdiv, .int a, .int b => need (0 < b ∧ b < 1073741824) (ret (.int (a / b)))
  | .mod, .int a, .int b => need (0 < b) (ret (.int (a % b)))
  | .pow, .int a, .int b => need (0 ≤ b ∧ b ≤ 1000000 ∧ a.natAbs < 2 ^ 64) (ret (.int (a ^ b.toNat)))
  | .shl, .int a, .int b => need (0 ≤ b ∧ b ≤ 1000000 ∧ a.natAbs < 2 ^ 64) (ret (.int (a * 2 ^ b.toNat)))
  | .shr, .int a, .int b => need (0 ≤ b) (ret (.int (a / 2 ^ b.toNat)))
  | .add, .str a, .str b => need (a.length + b.length ≤ szl) (ret (.str (a ++ b)))
  | .add, .tup a, .tup b => need (a.length + b.length ≤ szl) (ret (.tup (a ++ b)))
  | .add, .loc a, .loc b => bnd (get a) fun x => bnd (get b) fun y => match x, y with
    | .lst xs, .lst ys => need (xs.length + ys.length ≤ szl) (new (.lst (xs ++ ys)))
    | _, _ => fail
  | _, _, _ => fail

/-- x op= y -/
def iopM (o : O2) : D → D → M D
  | .int a, .int b => binop o (.int a) (.int b)
  | .str a, .str b => binop o (.str a) (.str b)
  | _, _ => fail
/-- x == y: of data, or of two lists of data -/
def eqM : D → D → M Bool
  | .loc a, .loc b => bnd (get a) fun x => bnd (get b) fun y => match x, y with
    | .lst xs, .lst ys => need (D.flats xs = true ∧ D.flats ys = true ∧ D.deeps xs < 64 ∧ D.deeps ys < 64) (ret (D.eqvs xs ys))
    | _, _ => fail
  | x, y => need (D.flat x = true ∧ D.flat y = true ∧ D.deep x ≤ 64 ∧ D.deep y ≤ 64) (ret (D.eqv x y))
def inM : D → D → M Bool
  | .str [c], .str b => ret (decide (c ∈ b))
  | x, .tup ys => need (D.flat x = true ∧ D.flats ys = true ∧ D.deep x ≤ 64 ∧ D.deeps ys < 64) (ret (ys.any fun y => D.eqv y x))
  | x, .loc n => bnd (get n) fun c => match c with
    | .lst ys => need (D.flat x = true ∧ D.flats ys = true ∧ D.deep x ≤ 64 ∧ D.deeps ys < 64) (ret (ys.any fun y => D.eqv y x))
    | _ => fail
  | _, _ => fail
def cmpM : Cp → D → D → M Bool
  | .eq, x, y => eqM x y
  | .ne, x, y => bnd (eqM x y) fun b => ret (!b)
  | .lt, .int a, .int b => ret (decide (a < b))
  | .le, .int a, .int b => ret (decide (a ≤ b))
  | .gt, .int a, .int b => ret (decide (b < a))
  | .ge, .int a, .int b => ret (decide (b ≤ a))
  | .inn, x, y => inM x y
  | .nin, x, y => bnd (inM x y) fun b => ret (!b)
  | .isN, x, .non => ret x.isNon
  | .notN, x, .non => ret (!x.isNon)
  | _, _, _ => fail

def indexM : D → D → M D
  | .tup xs, .int i => of (atI xs i)
  | .fzl xs, .int i => of (atI xs i)
  | .str s, .int i => of ((atI s i).map fun c => .str [c])
  | .loc n, .int i => bnd (get n) fun c => match c with
    | .lst xs => of (atI xs i)
    | _ => fail
  | _, _ => fail
def sliceM : D → Option Int → Option Int → M D
  | .tup xs, lo, hi => ret (.tup (cut xs lo hi))
  | .fzl xs, lo, hi => new (.lst (cut xs lo hi))
  | .loc n, lo, hi => bnd (get n) fun c => match c with
    | .lst xs => new (.lst (cut xs lo hi))
    | _ => fail
  | .str s, lo, hi => ret (.str (cut s lo hi))
  | _, _, _ => fail
def setIxM : D → D → D → M Unit
  | .loc n, .int i, v => bnd (get n) fun c => match c with
    | .lst xs => bnd (of (ixN xs.length i)) fun j => put n (.lst (xs.set j v))
    | _ => fail
  | _, _, _ => fail

def isTy (S : Store) : D → Ty → Option Bool
  | .non, _ => some false
  | .bl _, t => some (decide (t = .bool ∨ t = .int))
  | .int _, t => some (decide (t = .int))
  | .str _, t => some (decide (t = .str))
  | .tup _, t => some (decide (t = .tuple))
  | .fzl _, t => some (decide (t = .list))
  | .loc n, t => match S[n]? with
    | some (.lst _) => some (decide (t = .list))
    | some (.dct _) => some (decide (t = .dict))
    | some (.obj c _) => some (decide (t = .cls c))
    | _ => none
  | .xc _, _ => none
def isiM (d : D) : List Ty → M Bool
  | [] => ret false
  | t :: ts => fun S => match isTy S d t with
    | none => none
    | some true => some (.ok true, S)
    | some false => isiM d ts S

def lenM : List D → M D
  | [.str s] => ret (.int s.length)
  | [.tup xs] => ret (.int xs.length)
  | [.fzl xs] => ret (.int xs.length)
  | [.loc n] => bnd (get n) fun c => match c with
    | .lst xs => ret (.int xs.length)
    | .dct kvs => ret (.int kvs.length)
    | .set xs => ret (.int xs.length)
    | _ => fail
  | _ => fail
def listM : List D → M D
  | [.tup xs] => new (.lst xs)
  | [.fzl xs] => new (.lst xs)
  | [.loc n] => bnd (get n) fun c => match c with
    | .lst xs => new (.lst xs)
    | _ => fail
  | _ => fail
def tupleM : List D → M D
  | [.tup xs] => ret (.tup xs)
  | [.fzl xs] => ret (.tup xs)
  | [.loc n] => bnd (get n) fun c => match c with
    | .lst xs => ret (.tup xs)
    | _ => fail
  | _ => fail
def biM : Bi → List D → M D
  | .len, ds => lenM ds
  | .list, ds => listM ds
  | .tuple, ds => tupleM ds
  | _, _ => fail
/-- what a method's receiver must be, ahead of the arguments -/
def isLst (d : D) : M Unit := match d with
  | .loc n => bnd (get n) fun c => match c with
    | .lst _ => ret ()
    | _ => fail
  | _ => fail
def isStr (d : D) : M Unit := match d with
  | .str _ => ret ()
  | _ => fail
def mtPre : Mt → D → M Unit
  | .append, d => isLst d
  | .upper, d => isStr d
  | _, _ => fail
/-- upper of signs below 128 -/
def upTx (s : Tx) : Tx := s.map fun c => if 97 ≤ c ∧ c ≤ 122 then c - 32 else c
def appendM : D → List D → M D
  | .loc n, [v] => bnd (get n) fun c => match c with
    | .lst xs => need (xs.length < szl) (bnd (put n (.lst (xs ++ [v]))) fun _ => ret .non)
    | _ => fail
  | _, _ => fail
def upperM : D → List D → M D
  | .str s, [] => need (s.all (fun c => decide (c < 128)) = true ∧ s.length ≤ 5592405) (ret (.str (upTx s)))
  | _, _ => fail
def mtM : Mt → D → List D → M D
  | .append, x, ds => appendM x ds
  | .upper, x, ds => upperM x ds
  | _, _, _ => fail

mutual
def bindT : Tg → D → Env → Option Env
  | .nm i, d, ρ => if i < ρ.length then some (ρ.set i (some d)) else none
  | .tup ts, .tup xs, ρ => bindTs ts xs ρ
  | .tup _, _, _ => none
def bindTs : List Tg → List D → Env → Option Env
  | [], [], ρ => some ρ
  | t :: ts, x :: xs, ρ => (bindT t x ρ).bind fun ρ' => bindTs ts xs ρ'
  | _, _, _ => none
end

/-- the items that a for walks, and what must stay meanwhile -/
abbrev Src := List D × List (Nat × Cell)
def rangeD (lo : Int) (n : Nat) : List D := (List.range n).map fun (k : Nat) => .int (lo + (k : Int))
def r62 (i : Int) : Bool := decide (-(2 ^ 62) ≤ i ∧ i < 2 ^ 62)
def seqM : D → M Src
  | .tup xs => ret (xs, [])
  | .fzl xs => ret (xs, [])
  | .str s => ret (s.map fun c => .str [c], [])
  | .loc n => bnd (get n) fun c => match c with
    | .lst xs => ret (xs, [(n, c)])
    | _ => fail
  | _ => fail
def seq1 : List D → M Src
  | [d] => seqM d
  | _ => fail
def rng1 : List D → M Src
  | [.int a] => need (r62 a = true) (ret (rangeD 0 a.toNat, []))
  | _ => fail
def rng2 : List D → M Src
  | [.int a, .int b] => need (r62 a = true ∧ r62 b = true) (ret (rangeD a (b - a).toNat, []))
  | _ => fail
def itM : ItK → List D → M Src
  | 0, ds => seq1 ds
  | 1, ds => rng1 ds
  | 2, ds => rng2 ds
  | _, _ => fail
def stays (S : Store) (g : List (Nat × Cell)) : Bool := g.all fun p => decide (S[p.1]? = some p.2)

/-- the calls: a def by its name, a method by class and name, a new object -/
structure Cl where
  fn : String → List D → M D
  mt : String → String → List D → M D
  gl : String → Option D

/-- slots forgotten -/
def wipeE (ρ : Env) : List Nat → Env
  | [] => ρ
  | v :: vs => (wipeE ρ vs).set v none
/-- no error is let out -/
def noex {α : Type} (m : M α) : M α := fun S => match m S with
  | some (.ok a, S') => some (.ok a, S')
  | _ => none
/-- a comprehension's turns: what the element is worth, what is done with it -/
def compL (g : List (Nat × Cell)) (one : D → M (Option D)) : List D → List D → M (List D)
  | [], acc => fun S => if stays S g = true then some (.ok acc, S) else none
  | x :: xs, acc => fun S => if stays S g = true then match one x S with
      | some (.ok none, S') => compL g one xs acc S'
      | some (.ok (some y), S') => if acc.length < szl then compL g one xs (acc ++ [y]) S' else none
      | _ => none
    else none

mutual
def evE (cl : Cl) : Ex → Env → M D
  | .non, _ => ret .non
  | .bl b, _ => ret (.bl b)
  | .int i, _ => ret (.int i)
  | .str s, _ => ret (.str s)
  | .var i, ρ => of (ρ[i]?.join)
  | .glob x, _ => of (cl.gl x)
  | .op o a b, ρ => bnd (evE cl a ρ) fun x => bnd (evE cl b ρ) fun y => binop o x y
  | .neg a, ρ => bnd (evE cl a ρ) fun x => match x with
    | .int i => ret (.int (-i))
    | _ => fail
  | .cmp c a b, ρ => bnd (evE cl a ρ) fun x => bnd (evE cl b ρ) fun y => bnd (cmpM c x y) fun k => ret (.bl k)
  | .chain c c' a b d, ρ => bnd (evE cl a ρ) fun x => bnd (evE cl b ρ) fun y => bnd (cmpM c x y) fun k =>
      if k then bnd (evE cl d ρ) fun z => bnd (cmpM c' y z) fun k' => ret (.bl k') else ret (.bl false)
  | .not a, ρ => bnd (evE cl a ρ) fun x => bnd (truthy x) fun k => ret (.bl (!k))
  | .and a b, ρ => bnd (evE cl a ρ) fun x => bnd (truthy x) fun k => if k then evE cl b ρ else ret x
  | .or a b, ρ => bnd (evE cl a ρ) fun x => bnd (truthy x) fun k => if k then ret x else evE cl b ρ
  | .ite c a b, ρ => bnd (evE cl c ρ) fun x => bnd (truthy x) fun k => if k then evE cl a ρ else evE cl b ρ
  | .tup xs, ρ => bnd (evEs cl xs ρ) fun ds => ret (.tup ds)
  | .lst xs, ρ => bnd (evEs cl xs ρ) fun ds => new (.lst ds)
  | .dct _ _, _ => fail
  | .ix a b, ρ => bnd (evE cl a ρ) fun x => bnd (evE cl b ρ) fun y => indexM x y
  | .slice a lo hi, ρ => bnd (evE cl a ρ) fun x => bnd (evO cl lo ρ) fun l => bnd (evO cl hi ρ) fun h => sliceM x l h
  | .call f xs, ρ => bnd (evEs cl xs ρ) fun ds => cl.fn f ds
  | .bi f xs, ρ => bnd (evEs cl xs ρ) fun ds => biM f ds
  | .mt m o xs, ρ => bnd (evE cl o ρ) fun x => bnd (mtPre m x) fun _ => bnd (evEs cl xs ρ) fun ds => mtM m x ds
  | .meth _ _ _, _ => fail
  | .fld _ _, _ => fail
  | .new _ _, _ => fail
  | .isi a ts, ρ => bnd (evE cl a ρ) fun x => bnd (isiM x ts) fun k => ret (.bl k)
  | .lc elt t k xs cs vs, ρ => bnd (bnd (evEs cl xs ρ) (itM k)) fun src =>
      bnd (compL src.2 (fun x => bnd (of (bindT t x (wipeE ρ vs))) fun ρ' => noex (bnd (evCs cl cs ρ') fun c => if c then bnd (evE cl elt ρ') fun y => ret (some y) else ret none)) src.1 []) fun ys => new (.lst ys)
  | .dc _ _ _ _ _ _, _ => fail
  | .fstr _, _ => fail
def evEs (cl : Cl) : List Ex → Env → M (List D)
  | [], _ => ret []
  | e :: es, ρ => bnd (evE cl e ρ) fun x => bnd (evEs cl es ρ) fun xs => ret (x :: xs)
def evO (cl : Cl) : Option Ex → Env → M (Option Int)
  | none, _ => ret none
  | some e, ρ => bnd (evE cl e ρ) fun x => match x with
    | .int i => ret (some i)
    | _ => fail
def evCs (cl : Cl) : List Ex → Env → M Bool
  | [], _ => ret true
  | c :: cs, ρ => bnd (evE cl c ρ) fun x => bnd (truthy x) fun k => if k then evCs cl cs ρ else ret false
end

/-! ### statements -/
inductive Ctl where
  | nx (ρ : Env) | rt (d : D) | bk (ρ : Env) | ct (ρ : Env) | ex (c : String) (ρ : Env)
abbrev MS := Store → Option (Ctl × Store)
/-- an expression first -/
def MS.bnd {α : Type} (ρ : Env) (m : M α) (f : α → MS) : MS := fun S => match m S with
  | none => none
  | some (.ex c, S') => some (.ex c ρ, S')
  | some (.ok a, S') => f a S'
def MS.seq (m : MS) (f : Env → MS) : MS := fun S => match m S with
  | some (.nx ρ, S') => f ρ S'
  | r => r
def forL (t : Tg) (g : List (Nat × Cell)) (body : Env → MS) : List D → Env → MS
  | [], ρ => fun S => if stays S g = true then some (.nx ρ, S) else none
  | x :: xs, ρ => fun S => if stays S g = true then match bindT t x ρ with
      | none => none
      | some ρ' => match body ρ' S with
        | some (.nx ρ2, S2) => forL t g body xs ρ2 S2
        | some (.ct ρ2, S2) => forL t g body xs ρ2 S2
        | some (.bk ρ2, S2) => some (.nx ρ2, S2)
        | r => r
    else none
/-- at most so many turns -/
def whileL (c : Env → M Bool) (body : Env → MS) : Nat → Env → MS
  | 0, _ => fun _ => none
  | n + 1, ρ => MS.bnd ρ (c ρ) fun k => if k then (fun S => match body ρ S with
        | some (.nx ρ2, S2) => whileL c body n ρ2 S2
        | some (.ct ρ2, S2) => whileL c body n ρ2 S2
        | some (.bk ρ2, S2) => some (.nx ρ2, S2)
        | r => r)
      else fun S => some (.nx ρ, S)
/-- the most turns of a while that are looked at -/
def wmax : Nat := 2 ^ 100

def evT (cl : Cl) (e : Ex) (ρ : Env) : M Bool := bnd (evE cl e ρ) truthy

mutual
def exS (cl : Cl) : St → Env → MS
  | .asg t e, ρ => .bnd ρ (evE cl e ρ) fun x S => match bindT t x ρ with
    | none => none
    | some ρ' => some (.nx ρ', S)
  | .asgIx o i e, ρ => .bnd ρ (evE cl e ρ) fun v => .bnd ρ (evE cl o ρ) fun x => .bnd ρ (evE cl i ρ) fun k => .bnd ρ (setIxM x k v) fun _ S => some (.nx ρ, S)
  | .asgFld _ _ _, _ => fun _ => none
  | .aug i o e, ρ => .bnd ρ (of (ρ[i]?.join)) fun x => .bnd ρ (evE cl e ρ) fun y => .bnd ρ (iopM o x y) fun z S => some (.nx (ρ.set i (some z)), S)
  | .augIx _ _ _ _, _ => fun _ => none
  | .augFld _ _ _ _, _ => fun _ => none
  | .expr e, ρ => .bnd ρ (evE cl e ρ) fun _ S => some (.nx ρ, S)
  | .ite c a b, ρ => .bnd ρ (evT cl c ρ) fun k => if k then exSs cl a ρ else exSs cl b ρ
  | .for t k xs body, ρ => .bnd ρ (bnd (evEs cl xs ρ) (itM k)) fun src => forL t src.2 (exSs cl body) src.1 ρ
  | .while c body, ρ => whileL (evT cl c) (exSs cl body) wmax ρ
  | .ret e, ρ => .bnd ρ (evE cl e ρ) fun x S => some (.rt x, S)
  | .retN, _ => fun S => some (.rt .non, S)
  | .raise c, ρ => fun S => some (.ex c ρ, S)
  | .try _ _, _ => fun _ => none
  | .brk, ρ => fun S => some (.bk ρ, S)
  | .cont, ρ => fun S => some (.ct ρ, S)
  | .pass, ρ => fun S => some (.nx ρ, S)
def exSs (cl : Cl) : List St → Env → MS
  | [], ρ => fun S => some (.nx ρ, S)
  | s :: ss, ρ => .seq (exS cl s ρ) (exSs cl ss)
end

/-- a def: its parameters, all its names, its body -/
structure Fn where
  np : Nat
  n : Nat
  body : List St
structure Prog where
  fns : List (String × Fn)
  gls : List (String × D)

/-- behind a call: places that were made within are dropped where nothing that stays tells of them -/
def gcOk (S : Store) (v : D) (S' : Store) : Bool :=
  v.bel S.length && decide (S.length ≤ S'.length) && (List.range S.length).all fun i => decide (S'[i]? = S[i]?) || (match S'[i]? with | some c => c.bel S.length | none => false)
def gc (S : Store) (v : D) (S' : Store) : Store := if gcOk S v S' = true then S'.take S.length else S'
/-- a def's call, where the calls within are cl's -/
def callB (cl : Cl) (f : Fn) (ds : List D) : M D := fun S => if ds.length = f.np ∧ f.np ≤ f.n then
    match exSs cl f.body (ds.map some ++ List.replicate (f.n - f.np) none) S with
    | some (.nx _, S') => some (.ok .non, gc S .non S')
    | some (.rt d, S') => some (.ok d, gc S d S')
    | some (.ex c _, S') => some (.ex c, gc S .non S')
    | _ => none
  else none
/-- the calls, at most so many within one another -/
def callK (p : Prog) : Nat → Cl
  | 0 => ⟨fun _ _ => fail, fun _ _ _ => fail, fun x => p.gls.lookup x⟩
  | k + 1 => ⟨fun f ds => match p.fns.lookup f with
      | none => fail
      | some fn => callB (callK p k) fn ds, fun _ _ _ => fail, fun x => p.gls.lookup x⟩
end Mi

set_option Elab.async false
set_option linter.all false
set_option maxRecDepth 100000
/-! Mi2: how the values and the store of Mi1 stand in the hand layer's heap, and the carrying of it. -/
namespace Mi
open PySem L2

def txS (s : Tx) : PySem.Str := ⟨s.toArray⟩
abbrev nm (s : String) : PySem.Str := PySem.Str.ofString s
abbrev Al := Nat → Addr

/-- a list that is only read: known to the object, or an object of the module -/
def FzL (K : PySem.W.Frag) (H : Hp) (a : Addr) (vs : List V) : Prop := (∃ o, H a = some (.frz o (.lst vs))) ∨
  ∃ (o : Obj) (its : Array Value) (n : Nat), K.lookup a = some o ∧ o.cls = .type "list" ∧ o.dict = none ∧ o.data = .seq its n ∧ its.size ≤ sizeLine ∧ Vals vs its.toList
theorem FzL.sq {K : PySem.W.Frag} {H : Hp} {a : Addr} {vs : List V} (h : FzL K H a vs) : SqL K H a vs := h.elim (fun ⟨o, e⟩ => .inl (.inr ⟨o, e⟩)) .inr
/-! ### values in the heap -/
mutual
def RV (K : PySem.W.Frag) (al : Al) (n : Nat) (H : Hp) : D → V → Prop
  | .non, v => v = .non
  | .bl b, v => v = .bl b
  | .int i, v => v = .int i
  | .str s, v => v = .str (txS s) ∧ s.length ≤ szl ∧ s.all (fun c => decide (c < 1114112)) = true
  | .tup xs, v => ∃ a vs, v = .ref a ∧ SqT K H a vs ∧ RVs K al n H xs vs
  | .fzl xs, v => ∃ a vs, v = .ref a ∧ FzL K H a vs ∧ RVs K al n H xs vs
  | .loc i, v => v = .ref (al i) ∧ i < n
  | .xc _, _ => False
def RVs (K : PySem.W.Frag) (al : Al) (n : Nat) (H : Hp) : List D → List V → Prop
  | [], vs => vs = []
  | x :: xs, vs => ∃ v r, vs = v :: r ∧ RV K al n H x v ∧ RVs K al n H xs r
end

/-- the module's facts that all defs of a law share -/
structure Bs where
  P : Program
  w : World
  K : PySem.W.Frag
  mg : Str → Option Value
  base : Heap

def RC (B : Bs) (al : Al) (n : Nat) (H : Hp) (a : Addr) : Cell → Prop
  | .lst xs => ∃ vs, H a = some (.lst vs) ∧ RVs B.K al n H xs vs
  | .dct _ => False
  | .set _ => False
  | .obj _ _ => False

structure SR (B : Bs) (al : Al) (S : Store) (H : Hp) : Prop where
  cell : ∀ i c, S[i]? = some c → RC B al S.length H (al i) c
  inj : ∀ i j, i < S.length → j < S.length → al i = al j → i = j

structure Xt (al : Al) (n : Nat) (H : Hp) (al' : Al) (n' : Nat) (H' : Hp) : Prop where
  ag : ∀ i, i < n → al' i = al i
  le : n ≤ n'
  fr : ∀ b o, H b = some o → (∀ i, i < n → al i ≠ b) → H' b = some o
  nw : ∀ i, n ≤ i → i < n' → H (al' i) = none

def RE (K : PySem.W.Frag) (al : Al) (n : Nat) (H : Hp) (ρ : Env) (σ : L2.St) : Prop :=
  ρ.length = σ.length ∧ ∀ (i : Nat) (d : D), ρ[i]? = some (some d) → ∃ v, σ[i]? = some (some v) ∧ RV K al n H d v

section
variable {B : Bs} {K : PySem.W.Frag} {al al' al1 al2 : Al} {n n' n1 n2 : Nat} {H H' H1 H2 : Hp} {S S' S1 S2 : Store}

theorem RVs.length : ∀ {xs : List D} {vs : List V}, RVs K al n H xs vs → xs.length = vs.length
  | [], vs, h => by simp only [RVs] at h; subst h; rfl
  | x :: xs, vs, h => by
    simp only [RVs] at h
    obtain ⟨v, r, rfl, _, h2⟩ := h
    simp [RVs.length h2]
theorem RVs.get : ∀ {xs : List D} {vs : List V}, RVs K al n H xs vs → ∀ {i : Nat} {x : D}, xs[i]? = some x → ∃ v, vs[i]? = some v ∧ RV K al n H x v
  | [], vs, h, i, x, e => by simp at e
  | x :: xs, vs, h, i, y, e => by
    simp only [RVs] at h
    obtain ⟨v, r, rfl, h1, h2⟩ := h
    cases i with
    | zero => simp at e; subst e; exact ⟨v, rfl, h1⟩
    | succ i => exact RVs.get h2 (i := i) (by simpa using e)
theorem RVs.append : ∀ {xs ys : List D} {vs ws : List V}, RVs K al n H xs vs → RVs K al n H ys ws → RVs K al n H (xs ++ ys) (vs ++ ws)
  | [], _, _, _, h, h' => by simp only [RVs] at h; subst h; exact h'
  | x :: xs, _, _, _, h, h' => by
    simp only [RVs] at h
    obtain ⟨v, r, rfl, h1, h2⟩ := h
    simp only [List.cons_append, RVs]
    exact ⟨v, _, rfl, h1, RVs.append h2 h'⟩
theorem RVs.drop : ∀ {xs : List D} {vs : List V} (k : Nat), RVs K al n H xs vs → RVs K al n H (xs.drop k) (vs.drop k)
  | [], _, k, h => by simp only [RVs] at h; subst h; simp [RVs]
  | x :: xs, _, 0, h => h
  | x :: xs, _, k + 1, h => by
    simp only [RVs] at h
    obtain ⟨v, r, rfl, h1, h2⟩ := h
    simpa using RVs.drop k h2
theorem RVs.take : ∀ {xs : List D} {vs : List V} (k : Nat), RVs K al n H xs vs → RVs K al n H (xs.take k) (vs.take k)
  | [], _, k, h => by simp only [RVs] at h; subst h; simp [RVs]
  | x :: xs, _, 0, h => by simp [RVs]
  | x :: xs, _, k + 1, h => by
    simp only [RVs] at h
    obtain ⟨v, r, rfl, h1, h2⟩ := h
    simp only [List.take_succ_cons, RVs]
    exact ⟨v, _, rfl, h1, RVs.take k h2⟩
theorem RVs.set : ∀ {xs : List D} {vs : List V} (k : Nat) {x : D} {v : V}, RVs K al n H xs vs → RV K al n H x v → RVs K al n H (xs.set k x) (vs.set k v)
  | [], _, k, _, _, h, _ => by simp only [RVs] at h; subst h; simp [RVs]
  | y :: xs, _, 0, x, v, h, q => by
    simp only [RVs] at h
    obtain ⟨v', r, rfl, h1, h2⟩ := h
    simp only [List.set_cons_zero, RVs]
    exact ⟨v, r, rfl, q, h2⟩
  | y :: xs, _, k + 1, x, v, h, q => by
    simp only [RVs] at h
    obtain ⟨v', r, rfl, h1, h2⟩ := h
    simp only [List.set_cons_succ, RVs]
    exact ⟨v', _, rfl, h1, RVs.set k h2 q⟩
theorem RVs.one {x : D} {v : V} (h : RV K al n H x v) : RVs K al n H [x] [v] := by simp only [RVs]; exact ⟨v, [], rfl, h, rfl⟩
theorem RVs.nil : RVs K al n H [] [] := by simp [RVs]
theorem RVs.cons {x : D} {v : V} {xs : List D} {vs : List V} (h : RV K al n H x v) (t : RVs K al n H xs vs) : RVs K al n H (x :: xs) (v :: vs) := by
  simp only [RVs]; exact ⟨v, vs, rfl, h, t⟩

theorem RC.some {a : Addr} {c : Cell} (h : RC B al n H a c) : ∃ o, H a = some o ∧ (∀ xs, o ≠ .tup xs) ∧ ∀ o' u, o ≠ .frz o' u := by
  cases c with
  | lst xs => obtain ⟨vs, e, _⟩ := h; exact ⟨_, e, (by intro _ z; cases z), (by intro _ _ z; cases z)⟩
  | _ => exact False.elim h
theorem SR.some (r : SR B al S H) {i : Nat} (hi : i < S.length) : ∃ o, H (al i) = some o ∧ (∀ xs, o ≠ .tup xs) ∧ ∀ o' u, o ≠ .frz o' u :=
  (r.cell i S[i] (by simp [hi])).some

/-- a tuple stays -/
theorem SqT.mono (r : SR B al S H) (x : Xt al S.length H al' n' H') {a : Addr} {vs : List V} (h : SqT K H a vs) : SqT K H' a vs := by
  rcases h with h | h
  · refine .inl ?_
    have ne : ∀ o, H a = some o → (o = .tup vs ∨ ∃ o', o = .frz o' (.tup vs)) → ∀ i, i < S.length → al i ≠ a := fun o e q i hi z => by
      obtain ⟨o2, e2, q1, q2⟩ := r.some hi
      rw [z, e] at e2
      cases e2
      rcases q with q | ⟨o', q⟩
      · exact q1 _ q
      · exact q2 _ _ q
    rcases h with h | ⟨o, h⟩
    · exact .inl (x.fr a _ h (ne _ h (.inl rfl)))
    · exact .inr ⟨o, x.fr a _ h (ne _ h (.inr ⟨o, rfl⟩))⟩
  · exact .inr h
theorem FzL.mono (r : SR B al S H) (x : Xt al S.length H al' n' H') {a : Addr} {vs : List V} (h : FzL K H a vs) : FzL K H' a vs := by
  rcases h with ⟨o, h⟩ | h
  · refine .inl ⟨o, x.fr a _ h fun i hi z => ?_⟩
    obtain ⟨o2, e2, q1, q2⟩ := r.some hi
    rw [z, h] at e2
    cases e2
    exact q2 _ _ rfl
  · exact .inr h
mutual
theorem RV.mono (r : SR B al S H) (x : Xt al S.length H al' n' H') : ∀ {d : D} {v : V}, RV K al S.length H d v → RV K al' n' H' d v
  | .non, v, h => h
  | .bl _, v, h => h
  | .int _, v, h => h
  | .str _, v, h => h
  | .tup xs, v, h => by
    simp only [RV] at h ⊢
    obtain ⟨a, vs, e, q, t⟩ := h
    exact ⟨a, vs, e, SqT.mono r x q, RVs.mono r x t⟩
  | .fzl xs, v, h => by
    simp only [RV] at h ⊢
    obtain ⟨a, vs, e, q, t⟩ := h
    exact ⟨a, vs, e, FzL.mono r x q, RVs.mono r x t⟩
  | .loc i, v, h => by
    simp only [RV] at h ⊢
    obtain ⟨e, hi⟩ := h
    exact ⟨by rw [x.ag i hi]; exact e, Nat.lt_of_lt_of_le hi x.le⟩
  | .xc _, v, h => h
theorem RVs.mono (r : SR B al S H) (x : Xt al S.length H al' n' H') : ∀ {ds : List D} {vs : List V}, RVs K al S.length H ds vs → RVs K al' n' H' ds vs
  | [], vs, h => by simp only [RVs] at h ⊢; exact h
  | d :: ds, vs, h => by
    simp only [RVs] at h ⊢
    obtain ⟨v, t, e, h1, h2⟩ := h
    exact ⟨v, t, e, RV.mono r x h1, RVs.mono r x h2⟩
end
theorem RE.mono (r : SR B al S H) (x : Xt al S.length H al' n' H') {ρ : Env} {σ : L2.St} (h : RE K al S.length H ρ σ) : RE K al' n' H' ρ σ :=
  ⟨h.1, fun i d e => let ⟨v, e1, h1⟩ := h.2 i d e; ⟨v, e1, RV.mono r x h1⟩⟩

theorem Xt.refl : Xt al n H al n H := ⟨fun _ _ => rfl, Nat.le_refl _, fun _ _ e _ => e, fun i h1 h2 => absurd h2 (Nat.not_lt.mpr h1)⟩
theorem Xt.trans (r1 : SR B al1 S1 H1) (x : Xt al n H al1 S1.length H1) (y : Xt al1 S1.length H1 al2 n2 H2) : Xt al n H al2 n2 H2 := by
  refine ⟨fun i hi => (y.ag i (Nat.lt_of_lt_of_le hi x.le)).trans (x.ag i hi), Nat.le_trans x.le y.le, fun b o e hb => y.fr b o (x.fr b o e hb) fun i hi z => ?_, fun i h1 h2 => ?_⟩
  · by_cases hin : i < n
    · exact hb i hin (by rw [← x.ag i hin]; exact z)
    · have q := x.nw i (Nat.le_of_not_lt hin) hi
      rw [z, e] at q
      cases q
  · by_cases hin : i < S1.length
    · rw [y.ag i hin]
      exact x.nw i h1 hin
    · have q := y.nw i (Nat.le_of_not_lt hin) h2
      cases e : H (al2 i) with
      | none => rfl
      | some o =>
        exfalso
        by_cases hz : ∃ j, j < n ∧ al j = al2 i
        · obtain ⟨j, hj, z⟩ := hz
          obtain ⟨o2, e2, _⟩ := r1.some (Nat.lt_of_lt_of_le hj x.le)
          rw [x.ag j hj, z, q] at e2
          cases e2
        · have q2 := x.fr (al2 i) o e fun j hj z => hz ⟨j, hj, z⟩
          rw [q] at q2
          cases q2

/-! ### steps of the heap -/
/-- something new that the store does not tell of -/
theorem Xt.side {p : Addr} {o : HO} (hp : H p = none) : Xt al n H al n (upd H p o) :=
  ⟨fun _ _ => rfl, Nat.le_refl _, fun b u e _ => by rw [upd_ne (ne_of_none e hp)]; exact e, fun i h1 h2 => absurd h2 (Nat.not_lt.mpr h1)⟩
theorem RC.mono (r : SR B al S H) (x : Xt al S.length H al' n' H') {a : Addr} {c : Cell} (h : RC B al S.length H a c) (hH : H' a = H a) : RC B al' n' H' a c := by
  cases c with
  | lst xs => obtain ⟨vs, e, q⟩ := h; exact ⟨vs, by rw [hH]; exact e, RVs.mono r x q⟩
  | _ => exact False.elim h
theorem SR.side {p : Addr} {o : HO} (r : SR B al S H) (hp : H p = none) : SR B al S (upd H p o) :=
  ⟨fun i c e => RC.mono r (Xt.side hp) (r.cell i c e) (by
    have hi : i < S.length := (List.getElem?_eq_some_iff.mp e).1
    obtain ⟨o2, e2, _⟩ := r.some hi
    rw [upd_ne (ne_of_none e2 hp)]), r.inj⟩
/-- a new place -/
def alN (al : Al) (n : Nat) (p : Addr) : Al := fun i => if i = n then p else al i
theorem alN_lt {p : Addr} {i : Nat} (h : i < n) : alN al n p i = al i := by unfold alN; rw [if_neg (Nat.ne_of_lt h)]
theorem alN_eq {p : Addr} : alN al n p n = p := by unfold alN; rw [if_pos rfl]
theorem Xt.fresh {p : Addr} {o : HO} (hp : H p = none) : Xt al n H (alN al n p) (n + 1) (upd H p o) :=
  ⟨fun i h => alN_lt h, Nat.le_succ _, fun b u e _ => by rw [upd_ne (ne_of_none e hp)]; exact e, fun i h1 h2 => by
    have : i = n := by omega
    subst this
    rw [alN_eq]; exact hp⟩
theorem SR.fresh {p : Addr} {o : HO} {c : Cell} (r : SR B al S H) (hp : H p = none) (hc : RC B (alN al S.length p) (S.length + 1) (upd H p o) p c) : SR B (alN al S.length p) (S ++ [c]) (upd H p o) := by
  have x : Xt al S.length H (alN al S.length p) (S.length + 1) (upd H p o) := Xt.fresh hp
  have nep : ∀ {i}, i < S.length → al i ≠ p := fun {i} hi z => by
    obtain ⟨o2, e2, _⟩ := r.some hi
    rw [z, hp] at e2; cases e2
  refine ⟨fun i c' e => ?_, fun i j hi hj z => ?_⟩
  · rw [List.length_append, List.length_singleton]
    by_cases hi : i < S.length
    · rw [List.getElem?_append_left hi] at e
      rw [alN_lt hi]
      exact RC.mono r x (r.cell i c' e) (upd_ne (nep hi))
    · have h2 : i < (S ++ [c]).length := (List.getElem?_eq_some_iff.mp e).1
      rw [List.length_append, List.length_singleton] at h2
      have : i = S.length := by omega
      subst this
      rw [List.getElem?_append_right (Nat.le_refl _)] at e
      simp at e
      subst e
      rw [alN_eq]
      exact hc
  · rw [List.length_append, List.length_singleton] at hi hj
    by_cases h1 : i < S.length <;> by_cases h2 : j < S.length
    · rw [alN_lt h1, alN_lt h2] at z; exact r.inj i j h1 h2 z
    · have : j = S.length := by omega
      subst this
      rw [alN_lt h1, alN_eq] at z
      exact absurd z (nep h1)
    · have : i = S.length := by omega
      subst this
      rw [alN_lt h2, alN_eq] at z
      exact absurd z.symm (nep h2)
    · omega
/-- a place is written -/
theorem Xt.write {i : Nat} {o : HO} (hi : i < n) : Xt al n H al n (upd H (al i) o) :=
  ⟨fun _ _ => rfl, Nat.le_refl _, fun b u e hb => by rw [upd_ne (Ne.symm (hb i hi))]; exact e, fun i h1 h2 => absurd h2 (Nat.not_lt.mpr h1)⟩
theorem SR.write {i : Nat} {o : HO} {c : Cell} (r : SR B al S H) (hi : i < S.length) (hc : RC B al S.length (upd H (al i) o) (al i) c) : SR B al (S.set i c) (upd H (al i) o) := by
  refine ⟨fun j c' e => ?_, fun a b ha hb z => ?_⟩
  · rw [List.length_set]
    by_cases hj : i = j
    · subst hj
      rw [List.getElem?_set_self hi] at e
      cases e
      exact hc
    · rw [List.getElem?_set_ne hj] at e
      have hjl : j < S.length := (List.getElem?_eq_some_iff.mp e).1
      exact RC.mono r (Xt.write hi) (r.cell j c' e) (upd_ne fun z => hj (r.inj j i hjl hi z).symm)
  · rw [List.length_set] at ha hb
    exact r.inj a b ha hb z

/-! ### forgetting places -/
mutual
theorem RV.bel : ∀ {d : D} {v : V}, RV K al n H d v → D.bel n d = true
  | .non, _, _ => by simp [D.bel]
  | .bl _, _, _ => by simp [D.bel]
  | .int _, _, _ => by simp [D.bel]
  | .str _, _, _ => by simp [D.bel]
  | .tup xs, _, h => by
    simp only [RV] at h
    obtain ⟨a, vs, e, q, t⟩ := h
    rw [D.bel]
    exact RVs.bel t
  | .fzl xs, _, h => by
    simp only [RV] at h
    obtain ⟨a, vs, e, q, t⟩ := h
    rw [D.bel]
    exact RVs.bel t
  | .loc i, _, h => by
    simp only [RV] at h
    simp [D.bel, h.2]
  | .xc _, _, h => by simp only [RV] at h
theorem RVs.bel : ∀ {ds : List D} {vs : List V}, RVs K al n H ds vs → D.bels n ds = true
  | [], _, _ => by simp [D.bels]
  | d :: ds, _, h => by
    simp only [RVs] at h
    obtain ⟨v, t, e, h1, h2⟩ := h
    rw [D.bels, RV.bel h1, RVs.bel h2]; rfl
end
mutual
theorem RV.down : ∀ {d : D} {v : V}, RV K al n H d v → D.bel n' d = true → RV K al n' H d v
  | .non, _, h, _ => h
  | .bl _, _, h, _ => h
  | .int _, _, h, _ => h
  | .str _, _, h, _ => h
  | .tup xs, _, h, b => by
    simp only [RV] at h ⊢
    obtain ⟨a, vs, e, q, t⟩ := h
    rw [D.bel] at b
    exact ⟨a, vs, e, q, RVs.down t b⟩
  | .fzl xs, _, h, b => by
    simp only [RV] at h ⊢
    obtain ⟨a, vs, e, q, t⟩ := h
    rw [D.bel] at b
    exact ⟨a, vs, e, q, RVs.down t b⟩
  | .loc i, _, h, b => by
    simp only [RV] at h ⊢
    simp only [D.bel, decide_eq_true_eq] at b
    exact ⟨h.1, b⟩
  | .xc _, _, h, _ => by simp only [RV] at h
theorem RVs.down : ∀ {ds : List D} {vs : List V}, RVs K al n H ds vs → D.bels n' ds = true → RVs K al n' H ds vs
  | [], _, h, _ => by simp only [RVs] at h ⊢; exact h
  | d :: ds, _, h, b => by
    simp only [RVs] at h ⊢
    obtain ⟨v, t, e, h1, h2⟩ := h
    rw [D.bels, Bool.and_eq_true] at b
    exact ⟨v, t, e, RV.down h1 b.1, RVs.down h2 b.2⟩
end
theorem RC.bel {a : Addr} {c : Cell} (h : RC B al n H a c) : c.bel n = true := by
  cases c with
  | lst xs => obtain ⟨vs, e, q⟩ := h; exact RVs.bel q
  | _ => exact False.elim h
theorem RC.down {a : Addr} {c : Cell} (h : RC B al n H a c) (b : c.bel n' = true) : RC B al n' H a c := by
  cases c with
  | lst xs => obtain ⟨vs, e, q⟩ := h; exact ⟨vs, e, RVs.down q b⟩
  | _ => exact False.elim h
theorem gc_length_le (hl : S.length ≤ S'.length) (v : D) : S.length ≤ (gc S v S').length ∧ (gc S v S').length ≤ S'.length := by
  unfold gc
  split
  · rw [List.length_take]; omega
  · exact ⟨hl, Nat.le_refl _⟩
theorem gc_ok (r : SR B al S H) (x : Xt al S.length H al' S'.length H') (r' : SR B al' S' H') (d : D) :
    Xt al S.length H al' (gc S d S').length H' ∧ SR B al' (gc S d S') H' ∧ ∀ v, RV K al' S'.length H' d v → RV K al' (gc S d S').length H' d v := by
  by_cases hg : gcOk S d S' = true
  · have e : gc S d S' = S'.take S.length := by unfold gc; rw [if_pos hg]
    have el : (S'.take S.length).length = S.length := by rw [List.length_take]; have := x.le; omega
    rw [e, el]
    unfold gcOk at hg
    simp only [Bool.and_eq_true, decide_eq_true_eq, List.all_eq_true, List.mem_range, Bool.or_eq_true] at hg
    obtain ⟨⟨h1, h2⟩, h3⟩ := hg
    refine ⟨⟨x.ag, Nat.le_refl _, x.fr, fun i a b => absurd b (Nat.not_lt.mpr a)⟩, ⟨fun i c q => ?_, fun i j hi hj z => ?_⟩, fun v q => RV.down q h1⟩
    · rw [el]
      have hi : i < S.length := by
        have := (List.getElem?_eq_some_iff.mp q).1
        rw [el] at this; exact this
      rw [List.getElem?_take_of_lt hi] at q
      refine RC.down (r'.cell i c q) ?_
      rcases h3 i hi with z | z
      · rw [q] at z
        exact (r.cell i c z.symm).bel
      · rw [q] at z
        exact z
    · rw [el] at hi hj
      exact r'.inj i j (by omega) (by omega) z
  · have e : gc S d S' = S' := by unfold gc; rw [if_neg hg]
    rw [e]
    exact ⟨x, r', fun v q => q⟩
end
end Mi

set_option Elab.async false
set_option linter.all false
set_option maxRecDepth 100000
/-! Mi3: what Mi1 computes is what the program does: expressions, by the hand layer's rules. -/
namespace Mi
open PySem PySem.Spec PyProof.Rows L2

abbrev bs (X : Cx) : Bs := ⟨X.prog, X.w, X.K, X.mg, X.base⟩

/-! ### a computation's end -/
def Res {α : Type} (B : Bs) (W : WX) (σ : L2.St) (al : Al) (S : Store) (H : Hp) (r : Option (Out α × Store)) (k : Al → Store → Hp → α → Prop) : Prop :=
  ∃ o S', r = some (o, S') ∧ (∀ d, o = .ok d → ∀ al' H', Xt al S.length H al' S'.length H' → SR B al' S' H' → k al' S' H' d) ∧
    (∀ c, o = .ex c → ∀ al' H' C, Xt al S.length H al' S'.length H' → SR B al' S' H' → B.mg (nm c) = some (.ref C) → W (.ref C) none σ H')
section
variable {α β : Type} {B : Bs} {W : WX} {σ : L2.St} {al : Al} {S : Store} {H : Hp}
theorem Res.imp {r : Option (Out α × Store)} {k k' : Al → Store → Hp → α → Prop} (h : Res B W σ al S H r k) (f : ∀ al' S' H' d, Xt al S.length H al' S'.length H' → SR B al' S' H' → r = some (.ok d, S') → k al' S' H' d → k' al' S' H' d) : Res B W σ al S H r k' := by
  obtain ⟨o, S', e, h1, h2⟩ := h
  exact ⟨o, S', e, fun d q al' H' x y => f _ _ _ _ x y (by rw [e, q]) (h1 d q al' H' x y), h2⟩
theorem Res.bnd {m : M α} {f : α → M β} {k : Al → Store → Hp → β → Prop} (h : Res B W σ al S H (M.bnd m f S) k) :
    Res B W σ al S H (m S) (fun al1 S1 H1 d => Res B W σ al1 S1 H1 (f d S1) k) := by
  obtain ⟨o, S', e, h1, h2⟩ := h
  unfold M.bnd at e
  cases hm : m S with
  | none => rw [hm] at e; cases e
  | some p =>
    obtain ⟨o1, S1⟩ := p
    rw [hm] at e
    cases o1 with
    | ex c =>
      simp only [Option.some.injEq, Prod.mk.injEq] at e
      obtain ⟨e1, e2⟩ := e
      subst e1; subst e2
      exact ⟨_, _, rfl, (fun d q => nomatch q), fun c' q al' H' C x y z => h2 c' (by cases q; rfl) al' H' C x y z⟩
    | ok a =>
      refine ⟨_, _, rfl, fun d q al1 H1 x y => ?_, (fun c q => nomatch q)⟩
      cases q
      exact ⟨o, S', e, fun d q al' H' x' y' => h1 d q al' H' (Xt.trans y x x') y', fun c q al' H' C x' y' z => h2 c q al' H' C (Xt.trans y x x') y' z⟩
theorem Res.ok {d : α} {S' : Store} {k : Al → Store → Hp → α → Prop} (h : Res B W σ al S H (some (.ok d, S')) k) {al' : Al} {H' : Hp} (x : Xt al S.length H al' S'.length H') (y : SR B al' S' H') : k al' S' H' d := by
  obtain ⟨o, S1, e, h1, h2⟩ := h
  cases e
  exact h1 d rfl al' H' x y
theorem Res.none {k : Al → Store → Hp → α → Prop} (h : Res B W σ al S H none k) : False := by
  obtain ⟨o, S1, e, _⟩ := h
  cases e
theorem Res.ret {d : α} {k : Al → Store → Hp → α → Prop} (r : SR B al S H) (h : Res B W σ al S H (M.ret d S) k) : k al S H d := Res.ok h Xt.refl r
theorem Res.need {p : Prop} [Decidable p] {m : M α} {k : Al → Store → Hp → α → Prop} (h : Res B W σ al S H (M.need p m S) k) : p ∧ Res B W σ al S H (m S) k := by
  unfold M.need at h
  by_cases hp : p
  · rw [if_pos hp] at h; exact ⟨hp, h⟩
  · rw [if_neg hp] at h; exact h.none.elim
theorem Res.get {n : Nat} {f : Cell → M β} {k : Al → Store → Hp → β → Prop} (r : SR B al S H) (h : Res B W σ al S H (M.bnd (M.get n) f S) k) : ∃ c, S[n]? = some c ∧ RC B al S.length H (al n) c ∧ Res B W σ al S H (f c S) k := by
  obtain ⟨o, S', e, h1, h2⟩ := h.bnd
  unfold M.get at e
  cases hc : S[n]? with
  | none => rw [hc] at e; cases e
  | some c =>
    rw [hc] at e
    cases e
    exact ⟨c, rfl, r.cell n c hc, h1 c rfl al H Xt.refl r⟩
theorem Res.of {o : Option α} {f : α → M β} {k : Al → Store → Hp → β → Prop} (r : SR B al S H) (h : Res B W σ al S H (M.bnd (M.of o) f S) k) : ∃ a, o = some a ∧ Res B W σ al S H (f a S) k := by
  obtain ⟨o', S', e, h1, h2⟩ := h.bnd
  unfold M.of at e
  cases o with
  | none => cases e
  | some a => cases e; exact ⟨a, rfl, h1 a rfl al H Xt.refl r⟩
theorem Res.of' {o : Option α} {k : Al → Store → Hp → α → Prop} (r : SR B al S H) (h : Res B W σ al S H (M.of o S) k) : ∃ a, o = some a ∧ k al S H a := by
  unfold M.of at h
  cases o with
  | none => exact h.none.elim
  | some a => exact ⟨a, rfl, Res.ok h Xt.refl r⟩
end

/-! ### readings -/
def tE (B : Bs) (W : WX) (m : Env → M D) : TE := fun σ H Q => ∃ al ρ S, SR B al S H ∧ RE B.K al S.length H ρ σ ∧ Res B W σ al S H (m ρ S) (fun al' S' H' d => ∀ v, RV B.K al' S'.length H' d v → Q v H')
def tA (B : Bs) (W : WX) (m : Env → M (List D)) : TA := fun σ H Q => ∃ al ρ S, SR B al S H ∧ RE B.K al S.length H ρ σ ∧ Res B W σ al S H (m ρ S) (fun al' S' H' ds => ∀ vs, RVs B.K al' S'.length H' ds vs → Q vs H')
def tT (B : Bs) (W : WX) (m : Env → M Bool) : TT := fun σ H Q => ∃ al ρ S, SR B al S H ∧ RE B.K al S.length H ρ σ ∧ Res B W σ al S H (m ρ S) (fun al' S' H' b => Q b H')
def tO (B : Bs) (W : WX) (m : Env → M (Option Int)) : TO := fun σ H Q => ∃ al ρ S, SR B al S H ∧ RE B.K al S.length H ρ σ ∧ Res B W σ al S H (m ρ S) (fun al' S' H' o => Q o H')
theorem PE.imp {X : Cx} {e : Expr} {t t' : TE} (h : PE X e t) (f : ∀ σ H Q, t' σ H Q → t σ H Q) : PE X e t' := ⟨fun pins s σ H Q I q => h.run pins s σ H Q I (f σ H Q q)⟩
theorem PT.imp {X : Cx} {e : Expr} {t t' : TT} (h : PT X e t) (f : ∀ σ H Q, t' σ H Q → t σ H Q) : PT X e t' := ⟨fun pins s σ H Q I q => h.run pins s σ H Q I (f σ H Q q)⟩
theorem PW.imp {X : Cx} {e : Expr} {t t' : TT} (h : PW X e t) (f : ∀ σ H Q, t' σ H Q → t σ H Q) : PW X e t' := ⟨fun wh pins s σ H Q I q => h.run wh pins s σ H Q I (f σ H Q q)⟩
theorem PA.imp {X : Cx} {e : List Expr} {t t' : TA} (h : PA X e t) (f : ∀ σ H Q, t' σ H Q → t σ H Q) : PA X e t' := ⟨fun p pins s σ H Q I q => h.run p pins s σ H Q I (f σ H Q q)⟩
theorem PO.imp {X : Cx} {e : Option Expr} {t t' : TO} (h : PO X e t) (f : ∀ σ H Q, t' σ H Q → t σ H Q) : PO X e t' := ⟨fun pins s σ H Q I q => h.run pins s σ H Q I (f σ H Q q)⟩

section
variable {B : Bs} {W : WX} {σ : L2.St} {al : Al} {S : Store} {H : Hp} {ρ : Env}
/-- two values first -/
theorem two {ma mb : Env → M D} {f : D → D → M D} {r : R2} {Q : VK}
    (h : tE B W (fun ρ => M.bnd (ma ρ) fun x => M.bnd (mb ρ) fun y => f x y) σ H Q)
    (k : ∀ al S H x y v u, SR B al S H → RV B.K al S.length H x v → RV B.K al S.length H y u → Res B W σ al S H (f x y S) (fun al' S' H' d => ∀ v, RV B.K al' S'.length H' d v → Q v H') → r v u H Q) :
    tOp r (tE B W ma) (tE B W mb) σ H Q := by
  obtain ⟨al, ρ, S, sr, re, R⟩ := h
  refine ⟨al, ρ, S, sr, re, R.bnd.imp fun al1 S1 H1 x x1 sr1 _ R1 v rv => ?_⟩
  refine ⟨al1, ρ, S1, sr1, re.mono sr x1, R1.bnd.imp fun al2 S2 H2 y x2 sr2 _ R2 u ru => ?_⟩
  exact k al2 S2 H2 x y v u sr2 (rv.mono sr1 x2) ru R2
/-- one value first -/
theorem one {ma : Env → M D} {f : D → M D} {Q R : VK} (h : tE B W (fun ρ => M.bnd (ma ρ) f) σ H Q)
    (k : ∀ al S H ρ x v, SR B al S H → RE B.K al S.length H ρ σ → RV B.K al S.length H x v → Res B W σ al S H (f x S) (fun al' S' H' d => ∀ v, RV B.K al' S'.length H' d v → Q v H') → R v H) : tE B W ma σ H R := by
  obtain ⟨al, ρ, S, sr, re, R⟩ := h
  exact ⟨al, ρ, S, sr, re, R.bnd.imp fun al1 S1 H1 x x1 sr1 _ R1 v rv => k al1 S1 H1 ρ x v sr1 (re.mono sr x1) rv R1⟩
end

/-! ### truth -/
theorem isEmpty_len {xs : List D} {vs : List V} {K al n H} (h : RVs K al n H xs vs) : xs.isEmpty = vs.isEmpty := by
  have := h.length
  cases xs <;> cases vs <;> simp_all
theorem truthy_ok {B : Bs} {W : WX} {σ : L2.St} {al : Al} {S : Store} {H : Hp} {x : D} {v : V} {k : Al → Store → Hp → Bool → Prop} (sr : SR B al S H) (rv : RV B.K al S.length H x v) (h : Res B W σ al S H (truthy x S) k) :
    ∃ b, TruV B.K v H b ∧ k al S H b := by
  cases x with
  | non => simp only [RV] at rv; subst rv; exact ⟨false, rfl, h.ret sr⟩
  | bl b => simp only [RV] at rv; subst rv; exact ⟨b, rfl, h.ret sr⟩
  | int i => simp only [RV] at rv; subst rv; exact ⟨i != 0, rfl, h.ret sr⟩
  | str s =>
    simp only [RV] at rv
    obtain ⟨rfl, hl, _⟩ := rv
    refine ⟨!s.isEmpty, ⟨hl, ?_⟩, h.ret sr⟩
    cases s with
    | nil => rfl
    | cons a r =>
      have : (txS (a :: r)).length ≠ 0 := by
        show (r.length + 1 : Nat) ≠ 0
        omega
      simp [this]
  | tup xs =>
    simp only [RV] at rv
    obtain ⟨a, vs, rfl, q, t⟩ := rv
    exact ⟨!xs.isEmpty, .inr (.inl ⟨vs, q, by rw [isEmpty_len t]⟩), h.ret sr⟩
  | fzl xs =>
    simp only [RV] at rv
    obtain ⟨a, vs, rfl, q, t⟩ := rv
    exact ⟨!xs.isEmpty, .inl ⟨vs, q.sq, by rw [isEmpty_len t]⟩, h.ret sr⟩
  | loc n =>
    simp only [RV] at rv
    obtain ⟨rfl, hn⟩ := rv
    obtain ⟨c, hc, rc, R⟩ := Res.get sr h
    cases c with
    | lst xs => obtain ⟨vs, e, t⟩ := rc; exact ⟨!xs.isEmpty, .inl ⟨vs, .of e, by rw [isEmpty_len t]⟩, R.ret sr⟩
    | dct kvs => exact False.elim rc
    | set xs => exact R.none.elim
    | obj c fs => exact R.none.elim
  | xc c => exact h.none.elim

/-! ### operators -/
def rCat0 (K : PySem.W.Frag) : R2 := fun x y H Q => ∃ a b ys, x = .ref a ∧ y = .ref b ∧ SqT K H a [] ∧ SqT K H b ys ∧ Q (.ref b) H
theorem op_cat0 {X : Cx} : OpR X (binaryOp .Add) (rCat0 X.K) := by
  intro pins s σ H x y v u Q I rx ry h
  obtain ⟨a, b, ys, rfl, rfl, ha, hb, q⟩ := h
  cases rx
  cases ry
  obtain ⟨its, r1, p1, _⟩ := I.tuple ha
  obtain ⟨its2, r2, p2, _⟩ := I.tuple hb
  cases r1
  exact cat_tup0 p1 p2 ⟨.ref b, H, I, rfl, q⟩

def opN : O2 → Operator
  | .add => .Add | .sub => .Sub | .mul => .Mult | .fdiv => .FloorDiv | .mod => .Mod | .pow => .Pow | .shl => .LShift | .shr => .RShift | .band => .BitAnd
theorem sz_eq : szl = sizeLine := rfl
theorem txS_append (a b : Tx) : txS a ++ txS b = txS (a ++ b) := by
  show PySem.Str.append (txS a) (txS b) = _
  simp [txS, PySem.Str.append]
theorem txS_length (a : Tx) : (txS a).length = a.length := by simp [txS, PySem.Str.length]
/-- an operator by values -/
def rOp (B : Bs) (W : WX) (σ : L2.St) (o : O2) : R2 := fun v u H Q => ∃ al S x y, SR B al S H ∧ RV B.K al S.length H x v ∧ RV B.K al S.length H y u ∧ Res B W σ al S H (binop o x y S) (fun al' S' H' d => ∀ v, RV B.K al' S'.length H' d v → Q v H')
theorem rv_int {K al n H} {v : V} {i : Int} : RV K al n H (.int i) v ↔ v = .int i := by simp [RV]
theorem rv_bl {K al n H} {v : V} {i : Bool} : RV K al n H (.bl i) v ↔ v = .bl i := by simp [RV]
theorem rv_non {K al n H} {v : V} : RV K al n H .non v ↔ v = .non := by simp [RV]
theorem rv_str {K al n H} {v : V} {s : Tx} : RV K al n H (.str s) v ↔ v = .str (txS s) ∧ s.length ≤ szl ∧ s.all (fun c => decide (c < 1114112)) = true := by simp [RV]
theorem rv_tup {K al n H} {v : V} {xs : List D} : RV K al n H (.tup xs) v ↔ ∃ a vs, v = .ref a ∧ SqT K H a vs ∧ RVs K al n H xs vs := by simp [RV]
theorem rv_fzl {K al n H} {v : V} {xs : List D} : RV K al n H (.fzl xs) v ↔ ∃ a vs, v = .ref a ∧ FzL K H a vs ∧ RVs K al n H xs vs := by simp [RV]
theorem rv_loc {K al n H} {v : V} {i : Nat} : RV K al n H (.loc i) v ↔ v = .ref (al i) ∧ i < n := by simp [RV]
/-- a new list (or dict ..) is a new place -/
theorem new_ok {B : Bs} {W : WX} {σ : L2.St} {al : Al} {S : Store} {H : Hp} {c : Cell} {o : HO} {Q : VK} {p : Addr} (sr : SR B al S H) (R : Res B W σ al S H (M.new c S) (fun al' S' H' d => ∀ v, RV B.K al' S'.length H' d v → Q v H')) (hp : H p = none)
    (hc : RC B (alN al S.length p) (S.length + 1) (upd H p o) p c) : Q (.ref p) (upd H p o) := by
  refine Res.ok R (al' := alN al S.length p) (H' := upd H p o) (by rw [List.length_append]; exact Xt.fresh hp) (SR.fresh sr hp hc) (.ref p) ?_
  rw [rv_loc]
  exact ⟨by rw [alN_eq], by simp⟩
/-- a new tuple -/
theorem tup_ok {B : Bs} {W : WX} {σ : L2.St} {al : Al} {S : Store} {H : Hp} {xs : List D} {vs : List V} {Q : VK} {p : Addr} (sr : SR B al S H) (R : Res B W σ al S H (M.ret (.tup xs) S) (fun al' S' H' d => ∀ v, RV B.K al' S'.length H' d v → Q v H')) (hp : H p = none)
    (hv : RVs B.K al S.length H xs vs) : Q (.ref p) (upd H p (.tup vs)) := by
  have x : Xt al S.length H al S.length (upd H p (.tup vs)) := Xt.side hp
  refine Res.ok R (al' := al) (H' := upd H p (.tup vs)) x (SR.side sr hp) (.ref p) ?_
  rw [rv_tup]
  exact ⟨p, vs, rfl, .of upd_same, hv.mono sr x⟩
theorem op_ok {X : Cx} {W : WX} {σ : L2.St} {o : O2} (ho : o ≠ .band) : OpR X (binaryOp (opN o)) (rOp (bs X) W σ o) := by
  intro pins s σ' H v u v' u' Q I rv ru h
  obtain ⟨al, S, x, y, sr, hx, hy, R⟩ := h
  have bad : ∀ {P : Prop}, Res (bs X) W σ al S H none (fun al' S' H' d => ∀ v, RV X.K al' S'.length H' d v → Q v H') → P := fun h => h.none.elim
  cases o with
  | band => exact absurd rfl ho
  | add =>
    cases x <;> cases y <;> first | exact bad R | skip
    · rw [rv_int] at hx hy
      exact op_add pins s σ' H v u v' u' Q I rv ru ⟨_, _, hx, hy, R.ret sr _ (by simp [RV])⟩
    · rw [rv_str] at hx hy
      obtain ⟨hz, R⟩ := R.need
      exact op_add_str pins s σ' H v u v' u' Q I rv ru ⟨_, _, hx.1, hy.1, by rw [txS_length, txS_length]; exact hz, by rw [txS_append]; exact R.ret sr _ (by rw [rv_str]; exact ⟨rfl, by rw [List.length_append]; exact hz, by rw [List.all_append, hx.2.2, hy.2.2]; rfl⟩)⟩
    · rename_i xs ys
      rw [rv_tup] at hx hy
      obtain ⟨a, vs, rfl, qa, ta⟩ := hx
      obtain ⟨b, ws, rfl, qb, tb⟩ := hy
      obtain ⟨hz, R⟩ := R.need
      have la := ta.length
      have lb := tb.length
      by_cases hv : vs = []
      · subst hv
        have : xs = [] := List.eq_nil_of_length_eq_zero (by simpa using la)
        subst this
        exact op_cat0 pins s σ' H _ _ v' u' Q I rv ru ⟨a, b, ws, rfl, rfl, qa, qb, R.ret sr _ (by rw [rv_tup]; exact ⟨b, ws, rfl, qb, by simpa using tb⟩)⟩
      · refine op_catT pins s σ' H _ _ v' u' Q I rv ru ⟨a, b, vs, ws, rfl, rfl, qa, qb, hv, by rw [← la, ← lb]; exact hz, fun hw => ?_, fun hw p hp => tup_ok sr R hp (ta.append tb)⟩
        subst hw
        have : ys = [] := List.eq_nil_of_length_eq_zero (by simpa using lb)
        subst this
        exact R.ret sr _ (by rw [rv_tup]; exact ⟨a, vs, rfl, qa, by simpa using ta⟩)
    · rw [rv_loc] at hx hy
      obtain ⟨rfl, hx⟩ := hx
      obtain ⟨rfl, hy⟩ := hy
      obtain ⟨c, hc, rc, R⟩ := Res.get sr R
      obtain ⟨c', hc', rc', R⟩ := Res.get sr R
      cases c <;> cases c' <;> first | exact R.none.elim | skip
      obtain ⟨vs, e, t⟩ := rc
      obtain ⟨ws, e', t'⟩ := rc'
      obtain ⟨hz, R⟩ := R.need
      refine op_cat pins s σ' H _ _ v' u' Q I rv ru ⟨_, _, vs, ws, rfl, rfl, e, e', by rw [← t.length, ← t'.length]; exact hz, fun p hp => new_ok sr R hp ?_⟩
      have x : Xt al S.length H (alN al S.length p) (S.length + 1) (upd H p (.lst (vs ++ ws))) := Xt.fresh hp
      exact ⟨_, upd_same, (t.append t').mono sr x⟩
  | sub =>
    cases x <;> cases y <;> first | exact bad R | skip
    rw [rv_int] at hx hy
    exact op_sub pins s σ' H v u v' u' Q I rv ru ⟨_, _, hx, hy, R.ret sr _ (by simp [RV])⟩
  | mul =>
    cases x <;> cases y <;> first | exact bad R | skip
    rw [rv_int] at hx hy
    obtain ⟨hz, R⟩ := R.need
    exact op_mul pins s σ' H v u v' u' Q I rv ru ⟨_, _, hx, hy, by simpa [i64, CMul] using hz, R.ret sr _ (by simp [RV])⟩
  | fdiv =>
    cases x <;> cases y <;> first | exact bad R | skip
    rw [rv_int] at hx hy
    obtain ⟨hz, R⟩ := R.need
    exact op_fdiv pins s σ' H v u v' u' Q I rv ru ⟨_, _, hx, hy, hz, R.ret sr _ (by simp [RV])⟩
  | mod =>
    cases x <;> cases y <;> first | exact bad R | skip
    rw [rv_int] at hx hy
    obtain ⟨hz, R⟩ := R.need
    exact op_mod pins s σ' H v u v' u' Q I rv ru ⟨_, _, hx, hy, hz, R.ret sr _ (by simp [RV])⟩
  | pow =>
    cases x <;> cases y <;> first | exact bad R | skip
    rw [rv_int] at hx hy
    obtain ⟨hz, R⟩ := R.need
    exact op_pow pins s σ' H v u v' u' Q I rv ru ⟨_, _, hx, hy, hz, R.ret sr _ (by simp [RV])⟩
  | shl =>
    cases x <;> cases y <;> first | exact bad R | skip
    rw [rv_int] at hx hy
    obtain ⟨hz, R⟩ := R.need
    exact op_shl pins s σ' H v u v' u' Q I rv ru ⟨_, _, hx, hy, hz, R.ret sr _ (by simp [RV])⟩
  | shr =>
    cases x <;> cases y <;> first | exact bad R | skip
    rw [rv_int] at hx hy
    obtain ⟨hz, R⟩ := R.need
    exact op_shr pins s σ' H v u v' u' Q I rv ru ⟨_, _, hx, hy, hz, R.ret sr _ (by simp [RV])⟩
end Mi

set_option Elab.async false
set_option linter.all false
set_option maxRecDepth 100000
/-! Mi4: comparisons, places, slices, built-in calls and methods. -/
namespace Mi
open PySem PySem.Spec PyProof.Rows L2

/-! ### data as the library's data -/
mutual
def pd : D → PyData
  | .non => .none
  | .bl b => .bool b
  | .int i => .int i
  | .str s => .str (txS s)
  | .tup xs => .tuple (pds xs)
  | .fzl _ => .none
  | .loc _ => .none
  | .xc _ => .none
def pds : List D → List PyData
  | [] => []
  | x :: xs => pd x :: pds xs
end
theorem txS_inj {a b : Tx} : txS a = txS b ↔ a = b := by
  constructor
  · intro h
    have : (txS a).cps.toList = (txS b).cps.toList := by rw [h]
    simpa [txS] using this
  · intro h; rw [h]
mutual
theorem eqv_pd : ∀ a b : D, a.flat = true → b.flat = true → PyData.eqv (pd a) (pd b) = D.eqv a b
  | .tup xs, .tup ys, h1, h2 => by
    rw [D.flat] at h1 h2
    simp only [pd, PyData.eqv, D.eqv]
    exact eqvs_pd xs ys h1 h2
  | .non, b, _, h => by cases b <;> simp_all [pd, PyData.eqv, D.eqv, D.flat]
  | .bl _, b, _, h => by cases b <;> simp_all [pd, PyData.eqv, D.eqv, D.flat, Bool.beq_eq_decide_eq]
  | .int _, b, _, h => by cases b <;> simp_all [pd, PyData.eqv, D.eqv, D.flat, Bool.beq_eq_decide_eq]
  | .str s, b, _, h => by
    cases b <;> simp_all [pd, PyData.eqv, D.eqv, D.flat]
    rw [Bool.eq_iff_iff]; simp [txS_inj]
  | .tup xs, .non, _, _ => by simp [pd, PyData.eqv, D.eqv]
  | .tup xs, .bl _, _, _ => by simp [pd, PyData.eqv, D.eqv]
  | .tup xs, .int _, _, _ => by simp [pd, PyData.eqv, D.eqv]
  | .tup xs, .str _, _, _ => by simp [pd, PyData.eqv, D.eqv]
  | .tup xs, .fzl _, _, h => by simp [D.flat] at h
  | .tup xs, .loc _, _, h => by simp [D.flat] at h
  | .tup xs, .xc _, _, h => by simp [D.flat] at h
  | .fzl _, _, h, _ => by simp [D.flat] at h
  | .loc _, _, h, _ => by simp [D.flat] at h
  | .xc _, _, h, _ => by simp [D.flat] at h
theorem eqvs_pd : ∀ a b : List D, D.flats a = true → D.flats b = true → PyData.eqvAll (pds a) (pds b) = D.eqvs a b
  | [], [], _, _ => by simp [pds, PyData.eqvAll, D.eqvs]
  | [], _ :: _, _, _ => by simp [pds, PyData.eqvAll, D.eqvs]
  | _ :: _, [], _, _ => by simp [pds, PyData.eqvAll, D.eqvs]
  | a :: as, b :: bs, h1, h2 => by
    rw [D.flats, Bool.and_eq_true] at h1 h2
    simp only [pds, PyData.eqvAll, D.eqvs]
    rw [eqv_pd a b h1.1 h2.1, eqvs_pd as bs h1.2 h2.2]
end
mutual
theorem depth_pd : ∀ a : D, (pd a).depth = a.deep
  | .tup xs => by simp only [pd, PyData.depth, D.deep]; rw [depths_pd xs]
  | .non => by simp [pd, PyData.depth, D.deep]
  | .bl _ => by simp [pd, PyData.depth, D.deep]
  | .int _ => by simp [pd, PyData.depth, D.deep]
  | .str _ => by simp [pd, PyData.depth, D.deep]
  | .fzl _ => by simp [pd, PyData.depth, D.deep]
  | .loc _ => by simp [pd, PyData.depth, D.deep]
  | .xc _ => by simp [pd, PyData.depth, D.deep]
theorem depths_pd : ∀ a : List D, PyData.depthAll (pds a) = D.deeps a
  | [] => by simp [pds, PyData.depthAll, D.deeps]
  | a :: as => by simp only [pds, PyData.depthAll, D.deeps]; rw [depth_pd a, depths_pd as]
end
section
variable {K : PySem.W.Frag} {al : Al} {n : Nat} {H : Hp}
mutual
theorem dp_pd : ∀ {a : D} {v : V}, a.flat = true → RV K al n H a v → Dp K H v (pd a) ∧ (pd a).canLay0 = true
  | .non, v, _, h => by rw [rv_non] at h; subst h; exact ⟨.non, by simp [pd, PyData.canLay0]⟩
  | .bl b, v, _, h => by rw [rv_bl] at h; subst h; exact ⟨.bl _, by simp [pd, PyData.canLay0]⟩
  | .int i, v, _, h => by rw [rv_int] at h; subst h; exact ⟨.int _, by simp [pd, PyData.canLay0]⟩
  | .str s, v, _, h => by
    rw [rv_str] at h
    obtain ⟨rfl, _, q⟩ := h
    refine ⟨.str _, ?_⟩
    simp only [pd, PyData.canLay0]
    show (txS s).cps.all (fun c => decide (c < 0x110000)) = true
    simpa [txS] using q
  | .tup xs, v, f, h => by
    rw [rv_tup] at h
    obtain ⟨a, vs, rfl, q, t⟩ := h
    rw [D.flat] at f
    obtain ⟨h1, h2⟩ := dps_pd f t
    exact ⟨.tup q h1, by simpa only [pd, PyData.canLay0] using h2⟩
  | .fzl _, _, f, _ => by simp [D.flat] at f
  | .loc _, _, f, _ => by simp [D.flat] at f
  | .xc _, _, f, _ => by simp [D.flat] at f
theorem dps_pd : ∀ {as : List D} {vs : List V}, D.flats as = true → RVs K al n H as vs → DpAll K H vs (pds as) ∧ PyData.canLayAll0 (pds as) = true
  | [], vs, _, h => by simp only [RVs] at h; subst h; exact ⟨.nil, by simp [pds, PyData.canLayAll0]⟩
  | a :: as, vs, f, h => by
    simp only [RVs] at h
    obtain ⟨v, r, rfl, h1, h2⟩ := h
    rw [D.flats, Bool.and_eq_true] at f
    obtain ⟨q1, q2⟩ := dp_pd f.1 h1
    obtain ⟨q3, q4⟩ := dps_pd f.2 h2
    exact ⟨.cons q1 q3, by simp only [pds, PyData.canLayAll0, q2, q4]; rfl⟩
end
theorem shaped_pd {a : D} {v : V} (f : a.flat = true) (d : a.deep ≤ 64) (h : RV K al n H a v) : SeqAt.shaped (pd a) = true := by
  unfold SeqAt.shaped
  rw [(dp_pd f h).2, depth_pd, decide_eq_true d]; rfl
end

/-- a comparison by values -/
def rCmp (B : Bs) (W : WX) (σ : L2.St) (m : D → D → M Bool) : R2 := fun v u H Q => ∃ al S x y, SR B al S H ∧ RV B.K al S.length H x v ∧ RV B.K al S.length H y u ∧ Res B W σ al S H (m x y S) (fun al' S' H' k => Q (.bl k) H')
def cpN : Cp → CmpOp
  | .eq => .Eq | .ne => .NotEq | .lt => .Lt | .le => .LtE | .gt => .Gt | .ge => .GtE | .inn => .In | .nin => .NotIn | .isN => .Is | .notN => .IsNot

/-- what == answers, before it is turned -/
theorem eqM_ok {X : Cx} {W : WX} {σ : L2.St} {al : Al} {S : Store} {H : Hp} {x y : D} {v u : V} {k : Al → Store → Hp → Bool → Prop} (sr : SR (bs X) al S H) (hx : RV X.K al S.length H x v) (hy : RV X.K al S.length H y u)
    (R : Res (bs X) W σ al S H (eqM x y S) k) : ∃ d e, Dp X.K H v d ∧ Dp X.K H u e ∧ SeqAt.shaped d = true ∧ SeqAt.shaped e = true ∧ k al S H (PyData.eqv d e) := by
  have easy : ∀ x y : D, RV X.K al S.length H x v → RV X.K al S.length H y u → Res (bs X) W σ al S H (M.need (D.flat x = true ∧ D.flat y = true ∧ D.deep x ≤ 64 ∧ D.deep y ≤ 64) (M.ret (D.eqv x y)) S) k →
      ∃ d e, Dp X.K H v d ∧ Dp X.K H u e ∧ SeqAt.shaped d = true ∧ SeqAt.shaped e = true ∧ k al S H (PyData.eqv d e) := fun x y hx hy R => by
    obtain ⟨⟨f1, f2, d1, d2⟩, R⟩ := R.need
    exact ⟨pd x, pd y, (dp_pd f1 hx).1, (dp_pd f2 hy).1, shaped_pd f1 d1 hx, shaped_pd f2 d2 hy, by rw [eqv_pd x y f1 f2]; exact R.ret sr⟩
  by_cases hl : ∃ a b, x = .loc a ∧ y = .loc b
  · obtain ⟨a, b, rfl, rfl⟩ := hl
    rw [rv_loc] at hx hy
    obtain ⟨rfl, hx⟩ := hx
    obtain ⟨rfl, hy⟩ := hy
    unfold eqM at R
    obtain ⟨c, hc, rc, R⟩ := Res.get sr R
    obtain ⟨c', hc', rc', R⟩ := Res.get sr R
    obtain ⟨xs, rfl⟩ : ∃ xs, c = .lst xs := by cases c <;> first | exact ⟨_, rfl⟩ | exact R.none.elim
    obtain ⟨ys, rfl⟩ : ∃ xs, c' = .lst xs := by cases c' <;> first | exact ⟨_, rfl⟩ | exact R.none.elim
    obtain ⟨vs, e, t⟩ := rc
    obtain ⟨ws, e', t'⟩ := rc'
    obtain ⟨⟨f1, f2, d1, d2⟩, R⟩ := R.need
    have sh : ∀ {as : List D} {vs : List V}, D.flats as = true → D.deeps as < 64 → RVs X.K al S.length H as vs → SeqAt.shaped (.list (pds as)) = true := fun {as vs} f d h => by
      unfold SeqAt.shaped
      simp only [PyData.canLay0, PyData.depth, (dps_pd f h).2, depths_pd, Bool.true_and, decide_eq_true_eq]
      omega
    refine ⟨.list (pds xs), .list (pds ys), .lst (.of e) (dps_pd f1 t).1, .lst (.of e') (dps_pd f2 t').1, sh f1 d1 t, sh f2 d2 t', ?_⟩
    simp only [PyData.eqv]
    rw [eqvs_pd xs ys f1 f2]
    exact R.ret sr
  · unfold eqM at R
    split at R
    · rename_i a b
      exact absurd ⟨a, b, rfl, rfl⟩ hl
    · exact easy x y hx hy R
theorem eq_ok {X : Cx} {W : WX} {σ : L2.St} (hu : X.A.units + 64 < cLine) : OpR X (compareOp .Eq) (rCmp (bs X) W σ eqM) := by
  intro pins s σ' H v u v' u' Q I rv ru h
  obtain ⟨al, S, x, y, sr, hx, hy, R⟩ := h
  exact op_eqD hu pins s σ' H v u v' u' Q I rv ru (eqM_ok sr hx hy R)
theorem ne_ok {X : Cx} {W : WX} {σ : L2.St} (hu : X.A.units + 64 < cLine) : OpR X (compareOp .NotEq) (rCmp (bs X) W σ fun x y => M.bnd (eqM x y) fun b => M.ret (!b)) := by
  intro pins s σ' H v u v' u' Q I rv ru h
  obtain ⟨al, S, x, y, sr, hx, hy, R⟩ := h
  have R := R.bnd.imp (k' := fun al' S' H' b => al' = al ∧ S' = S ∧ H' = H → Q (.bl (!b)) H') fun al' S' H' b x1 y1 _ q => fun ⟨e1, e2, e3⟩ => by subst e1 e2 e3; exact q.ret sr
  obtain ⟨d, e, h1, h2, h3, h4, q⟩ := eqM_ok sr hx hy R
  exact op_neD hu pins s σ' H v u v' u' Q I rv ru ⟨d, e, h1, h2, h3, h4, q ⟨rfl, rfl, rfl⟩⟩
theorem flat_V : ∀ {x : D} {v : V} {K al n H}, (match x with | .tup _ => False | .fzl _ => False | .loc _ => False | .xc _ => False | _ => True) → RV K al n H x v → flatV v = true := fun {x v K al n H} f h => by
  cases x <;> simp only [RV] at h f <;> first | exact False.elim f | (subst h; rfl) | (obtain ⟨rfl, _⟩ := h; rfl)
/-- numbers -/
theorem num_ok {X : Cx} {W : WX} {σ : L2.St} {f : Value → Value → Sem Value} {p : Int → Int → Bool} {m : D → D → M Bool} (ho : OpR X f (rI0 fun i j => .bl (p i j)))
    (hm : ∀ x y, (∃ i j, x = .int i ∧ y = .int j ∧ m x y = M.ret (p i j)) ∨ m x y = M.fail) : OpR X f (rCmp (bs X) W σ m) := by
  intro pins s σ' H v u v' u' Q I rv ru h
  obtain ⟨al, S, x, y, sr, hx, hy, R⟩ := h
  rcases hm x y with ⟨i, j, rfl, rfl, e⟩ | e
  · rw [e] at R
    rw [rv_int] at hx hy
    exact ho pins s σ' H v u v' u' Q I rv ru ⟨i, j, hx, hy, R.ret sr⟩
  · rw [e] at R
    exact R.none.elim
theorem lt_ok {X : Cx} {W : WX} {σ : L2.St} : OpR X (compareOp .Lt) (rCmp (bs X) W σ (cmpM .lt)) := num_ok op_lt fun x y => by
  cases x <;> cases y <;> first | exact .inl ⟨_, _, rfl, rfl, rfl⟩ | exact .inr rfl
theorem le_ok {X : Cx} {W : WX} {σ : L2.St} : OpR X (compareOp .LtE) (rCmp (bs X) W σ (cmpM .le)) := num_ok op_le fun x y => by
  cases x <;> cases y <;> first | exact .inl ⟨_, _, rfl, rfl, rfl⟩ | exact .inr rfl
theorem gt_ok {X : Cx} {W : WX} {σ : L2.St} : OpR X (compareOp .Gt) (rCmp (bs X) W σ (cmpM .gt)) := num_ok op_gt fun x y => by
  cases x <;> cases y <;> first | exact .inl ⟨_, _, rfl, rfl, rfl⟩ | exact .inr rfl
theorem ge_ok {X : Cx} {W : WX} {σ : L2.St} : OpR X (compareOp .GtE) (rCmp (bs X) W σ (cmpM .ge)) := num_ok op_ge fun x y => by
  cases x <;> cases y <;> first | exact .inl ⟨_, _, rfl, rfl, rfl⟩ | exact .inr rfl
theorem isN_ok {X : Cx} {W : WX} {σ : L2.St} : OpR X (compareOp .Is) (rCmp (bs X) W σ (cmpM .isN)) := by
  intro pins s σ' H v u v' u' Q I rv ru h
  obtain ⟨al, S, x, y, sr, hx, hy, R⟩ := h
  cases y <;> first | exact R.none.elim | skip
  rw [rv_non] at hy
  refine op_isN pins s σ' H v u v' u' Q I rv ru ⟨hy, ?_⟩
  have q := R.ret sr
  have e : decide (v = .non) = x.isNon := by
    cases x <;> simp only [RV] at hx <;> first | exact False.elim hx | (subst hx; rfl) | (obtain ⟨rfl, _⟩ := hx; rfl) | (obtain ⟨a, vs, rfl, _⟩ := hx; rfl)
  rw [e]; exact q
theorem notN_ok {X : Cx} {W : WX} {σ : L2.St} : OpR X (compareOp .IsNot) (rCmp (bs X) W σ (cmpM .notN)) := by
  intro pins s σ' H v u v' u' Q I rv ru h
  obtain ⟨al, S, x, y, sr, hx, hy, R⟩ := h
  cases y <;> first | exact R.none.elim | skip
  rw [rv_non] at hy
  refine op_notN pins s σ' H v u v' u' Q I rv ru ⟨hy, ?_⟩
  have q := R.ret sr
  have e : (!decide (v = .non)) = !x.isNon := by
    cases x <;> simp only [RV] at hx <;> first | exact False.elim hx | (subst hx; rfl) | (obtain ⟨rfl, _⟩ := hx; rfl) | (obtain ⟨a, vs, rfl, _⟩ := hx; rfl)
  rw [e]; exact q
/-! ### in -/
theorem any_pd {x : D} (fx : x.flat = true) : ∀ {ys : List D}, D.flats ys = true → ((pds ys).any fun z => PyData.eqv z (pd x)) = ys.any fun y => D.eqv y x
  | [], _ => rfl
  | y :: ys, f => by
    rw [D.flats, Bool.and_eq_true] at f
    rw [pds, List.any_cons, List.any_cons, eqv_pd y x f.1 fx, any_pd fx f.2]
theorem shaped_tup {K : PySem.W.Frag} {al : Al} {n : Nat} {H : Hp} {ys : List D} {vs : List V} (f : D.flats ys = true) (d : D.deeps ys < 64) (h : RVs K al n H ys vs) : SeqAt.shaped (.tuple (pds ys)) = true ∧ SeqAt.shaped (.list (pds ys)) = true := by
  unfold SeqAt.shaped
  simp only [PyData.canLay0, PyData.depth, (dps_pd f h).2, depths_pd, Bool.true_and, decide_eq_true_eq]
  omega
theorem inM_ok {X : Cx} {W : WX} {σ : L2.St} {al : Al} {S : Store} {H : Hp} {x y : D} {v u : V} {k : Al → Store → Hp → Bool → Prop} (sr : SR (bs X) al S H) (hx : RV X.K al S.length H x v) (hy : RV X.K al S.length H y u)
    (R : Res (bs X) W σ al S H (inM x y S) k) : (∃ d ds, Dp X.K H v d ∧ (Dp X.K H u (.list ds) ∨ Dp X.K H u (.tuple ds)) ∧ SeqAt.shaped d = true ∧ SeqAt.shaped (.list ds) = true ∧ SeqAt.shaped (.tuple ds) = true ∧ k al S H (ds.any fun z => PyData.eqv z d)) ∨
      ∃ c b, v = .str (txS [c]) ∧ u = .str (txS b) ∧ k al S H (decide (c ∈ b)) := by
  unfold inM at R
  split at R
  · rename_i c b
    rw [rv_str] at hx hy
    exact .inr ⟨c, b, hx.1, hy.1, R.ret sr⟩
  · rename_i ys
    rw [rv_tup] at hy
    obtain ⟨a, vs, rfl, q, t⟩ := hy
    obtain ⟨⟨f1, f2, d1, d2⟩, R⟩ := R.need
    refine .inl ⟨pd x, pds ys, (dp_pd f1 hx).1, .inr (.tup q (dps_pd f2 t).1), shaped_pd f1 d1 hx, (shaped_tup f2 d2 t).2, (shaped_tup f2 d2 t).1, ?_⟩
    rw [any_pd f1 f2]
    exact R.ret sr
  · rename_i n _
    rw [rv_loc] at hy
    obtain ⟨rfl, hy⟩ := hy
    obtain ⟨c, hc, rc, R⟩ := Res.get sr R
    obtain ⟨ys, rfl⟩ : ∃ xs, c = .lst xs := by cases c <;> first | exact ⟨_, rfl⟩ | exact R.none.elim
    obtain ⟨vs, e, t⟩ := rc
    obtain ⟨⟨f1, f2, d1, d2⟩, R⟩ := R.need
    refine .inl ⟨pd x, pds ys, (dp_pd f1 hx).1, .inl (.lst (.of e) (dps_pd f2 t).1), shaped_pd f1 d1 hx, (shaped_tup f2 d2 t).2, (shaped_tup f2 d2 t).1, ?_⟩
    rw [any_pd f1 f2]
    exact R.ret sr
  · exact R.none.elim
theorem in_ok {X : Cx} {W : WX} {σ : L2.St} (hu : X.A.units + 65 < cLine) : OpR X (compareOp .In) (rCmp (bs X) W σ inM) := by
  intro pins s σ' H v u v' u' Q I rv ru h
  obtain ⟨al, S, x, y, sr, hx, hy, R⟩ := h
  rcases inM_ok sr hx hy R with ⟨d, ds, h1, h2, h3, h4, h5, q⟩ | ⟨c, b, rfl, rfl, q⟩
  · obtain ⟨as, r1⟩ := Dp.reads I d v v' h1 rv
    rcases h2 with h2 | h2
    · obtain ⟨bs, r2⟩ := Dp.reads I (.list ds) u u' h2 ru
      exact SeqAt.in_list_reads r2 r1 (SeqAt.canLay_of_shaped h4) (SeqAt.canLay_of_shaped h3) (room_in_shaped h3 hu) ⟨.bl _, H, I, rfl, q⟩
    · obtain ⟨bs, r2⟩ := Dp.reads I (.tuple ds) u u' h2 ru
      exact SeqAt.in_tuple_reads r2 r1 (SeqAt.canLay_of_shaped h5) (SeqAt.canLay_of_shaped h3) (room_in_shaped h3 hu) ⟨.bl _, H, I, rfl, q⟩
  · refine op_in_str pins s σ' H _ _ v' u' Q I rv ru ⟨_, _, rfl, rfl, ?_⟩
    have e := PySem.StrLaws.found_one (txS b) c
    have e2 : (txS [c]) = (⟨#[c]⟩ : PySem.Str) := rfl
    rw [e2, e, decide_eq_decide.mpr (show c ∈ (txS b).cps.toList ↔ c ∈ b from Iff.rfl)]
    exact q
theorem nin_ok {X : Cx} {W : WX} {σ : L2.St} (hu : X.A.units + 65 < cLine) : OpR X (compareOp .NotIn) (rCmp (bs X) W σ fun x y => M.bnd (inM x y) fun b => M.ret (!b)) := by
  intro pins s σ' H v u v' u' Q I rv ru h
  obtain ⟨al, S, x, y, sr, hx, hy, R⟩ := h
  have R := R.bnd.imp (k' := fun al' S' H' b => al' = al ∧ S' = S ∧ H' = H → Q (.bl (!b)) H') fun al' S' H' b x1 y1 _ q => fun ⟨e1, e2, e3⟩ => by subst e1 e2 e3; exact q.ret sr
  rcases inM_ok sr hx hy R with ⟨d, ds, h1, h2, h3, h4, h5, q⟩ | ⟨c, b, rfl, rfl, q⟩
  · obtain ⟨as, r1⟩ := Dp.reads I d v v' h1 rv
    rcases h2 with h2 | h2
    · obtain ⟨bs, r2⟩ := Dp.reads I (.list ds) u u' h2 ru
      exact SeqAt.notIn_list_reads r2 r1 (SeqAt.canLay_of_shaped h4) (SeqAt.canLay_of_shaped h3) (room_in_shaped h3 hu) ⟨.bl _, H, I, rfl, q ⟨rfl, rfl, rfl⟩⟩
    · obtain ⟨bs, r2⟩ := Dp.reads I (.tuple ds) u u' h2 ru
      exact SeqAt.notIn_tuple_reads r2 r1 (SeqAt.canLay_of_shaped h5) (SeqAt.canLay_of_shaped h3) (room_in_shaped h3 hu) ⟨.bl _, H, I, rfl, q ⟨rfl, rfl, rfl⟩⟩
  · refine op_notin_str pins s σ' H _ _ v' u' Q I rv ru ⟨_, _, rfl, rfl, ?_⟩
    have e := PySem.StrLaws.found_one (txS b) c
    have e2 : (txS [c]) = (⟨#[c]⟩ : PySem.Str) := rfl
    rw [e2, e, decide_eq_decide.mpr (show c ∈ (txS b).cps.toList ↔ c ∈ b from Iff.rfl)]
    exact q ⟨rfl, rfl, rfl⟩
theorem cmp_ok {X : Cx} {W : WX} {σ : L2.St} (hu : X.A.units + 65 < cLine) (c : Cp) : OpR X (compareOp (cpN c)) (rCmp (bs X) W σ (cmpM c)) := by
  have h64 : X.A.units + 64 < cLine := by omega
  cases c with
  | eq => exact eq_ok h64
  | ne => exact ne_ok h64
  | lt => exact lt_ok
  | le => exact le_ok
  | gt => exact gt_ok
  | ge => exact ge_ok
  | inn => exact in_ok hu
  | nin => exact nin_ok hu
  | isN => exact isN_ok
  | notN => exact notN_ok
end Mi

set_option Elab.async false
set_option linter.all false
set_option maxRecDepth 100000
/-! Mi5: places, slices, built-in calls and methods. -/
namespace Mi
open PySem PySem.Spec PyProof.Rows L2

theorem ixN_eq (n : Nat) (i : Int) : ixN n i = L2.ixN n i := rfl
theorem atI_eq {α : Type} (xs : List α) (i : Int) : atI xs i = L2.atI xs i := rfl
theorem sIx_eq (n d : Nat) (o : Option Int) : sIx n d o = HT.sIx n d o := by cases o <;> rfl
section
variable {K : PySem.W.Frag} {al : Al} {n : Nat} {H : Hp}
theorem RVs.atI {xs : List D} {vs : List V} (h : RVs K al n H xs vs) {i : Int} {x : D} (e : Mi.atI xs i = some x) : ∃ v, L2.atI vs i = some v ∧ RV K al n H x v := by
  unfold Mi.atI at e
  unfold L2.atI
  rw [← h.length, ← ixN_eq]
  cases hj : Mi.ixN xs.length i with
  | none => rw [hj] at e; cases e
  | some j =>
    rw [hj] at e
    exact h.get (i := j) e
theorem RVs.cut {xs : List D} {vs : List V} (h : RVs K al n H xs vs) (lo hi : Option Int) : RVs K al n H (Mi.cut xs lo hi) (cutV vs lo hi) := by
  unfold Mi.cut cutV
  rw [← h.length, sIx_eq, sIx_eq]
  exact (h.drop _).take _
end
def rIxM (B : Bs) (W : WX) (σ : L2.St) : R2 := fun v u H Q => ∃ al S x y, SR B al S H ∧ RV B.K al S.length H x v ∧ RV B.K al S.length H y u ∧ Res B W σ al S H (indexM x y S) (fun al' S' H' d => ∀ v, RV B.K al' S'.length H' d v → Q v H')
theorem all_at {p : Nat → Bool} {s : Tx} (h : s.all p = true) {i : Int} {c : Nat} (e : atI s i = some c) : p c = true := by
  unfold atI at e
  cases hj : Mi.ixN s.length i with
  | none => rw [hj] at e; cases e
  | some j => rw [hj] at e; exact List.all_eq_true.mp h c (List.mem_of_getElem? e)
theorem ix_ok {X : Cx} {W : WX} {σ : L2.St} : IxR X (rIxM (bs X) W σ) := by
  intro value slice pins s σ' H v u v' u' Q I rv ru h hs
  obtain ⟨al, S, x, y, sr, hx, hy, R⟩ := h
  unfold indexM at R
  split at R
  · rename_i xs i
    rw [rv_int] at hy
    rw [rv_tup] at hx
    obtain ⟨a, vs, rfl, q, t⟩ := hx
    obtain ⟨d, e, k⟩ := Res.of' sr R
    obtain ⟨w, e2, r2⟩ := t.atI e
    exact ix_tup value slice pins s σ' H _ u v' u' Q I rv ru ⟨a, vs, i, w, rfl, hy, q, e2, k w r2⟩ hs
  · rename_i xs i
    rw [rv_int] at hy
    rw [rv_fzl] at hx
    obtain ⟨a, vs, rfl, q, t⟩ := hx
    obtain ⟨d, e, k⟩ := Res.of' sr R
    obtain ⟨w, e2, r2⟩ := t.atI e
    exact ix_list value slice pins s σ' H _ u v' u' Q I rv ru ⟨a, vs, i, w, rfl, hy, q.sq, e2, k w r2⟩ hs
  · rename_i z i
    rw [rv_int] at hy
    rw [rv_str] at hx
    obtain ⟨d, e, k⟩ := Res.of' sr R
    cases hc : atI z i with
    | none => rw [hc] at e; cases e
    | some c =>
      rw [hc] at e
      cases e
      refine ix_str value slice pins s σ' H v u v' u' Q I rv ru ⟨txS z, i, c, hx.1, hy, by rw [txS_length]; exact hx.2.1, by show L2.atI z i = some c; exact hc, k _ ?_⟩ hs
      rw [rv_str]
      exact ⟨rfl, by show 1 ≤ szl; decide, by simpa using all_at hx.2.2 hc⟩
  · rename_i n i
    rw [rv_int] at hy
    rw [rv_loc] at hx
    obtain ⟨rfl, hx⟩ := hx
    obtain ⟨c, hc, rc, R⟩ := Res.get sr R
    have fin : ∀ {xs : List D} {vs : List V}, SqL X.K H (al n) vs → RVs X.K al S.length H xs vs → Res (bs X) W σ al S H (M.of (atI xs i) S) (fun al' S' H' d => ∀ v, RV X.K al' S'.length H' d v → Q v H') →
        wpAny (model X.prog X.w) X.A (subscriptTail value slice v' u') (EP X pins σ' Q) X.xe s := fun {xs vs} q t R => by
      obtain ⟨d, e, k⟩ := Res.of' sr R
      obtain ⟨w, e2, r2⟩ := t.atI e
      exact ix_list value slice pins s σ' H _ u v' u' Q I rv ru ⟨_, vs, i, w, rfl, hy, q, e2, k w r2⟩ hs
    cases c with
    | lst xs => obtain ⟨vs, e, t⟩ := rc; exact fin (.of e) t R
    | _ => exact R.none.elim
  · exact R.none.elim

def rSlM (B : Bs) (W : WX) (σ : L2.St) : V → Option Int → Option Int → Hp → VK → Prop := fun v lo hi H Q => ∃ al S x, SR B al S H ∧ RV B.K al S.length H x v ∧ Res B W σ al S H (sliceM x lo hi S) (fun al' S' H' d => ∀ v, RV B.K al' S'.length H' d v → Q v H')
theorem sl_ok {X : Cx} {W : WX} {σ : L2.St} : SlR X (rSlM (bs X) W σ) := by
  intro pins s σ' H v v' vl vu lo hi sl Q I rv hs pl pu h
  obtain ⟨al, S, x, sr, hx, R⟩ := h
  unfold sliceM at R
  split at R
  · rename_i xs
    rw [rv_tup] at hx
    obtain ⟨a, vs, rfl, q, t⟩ := hx
    refine sl_tupA pins s σ' H _ v' vl vu lo hi sl Q I rv hs pl pu ⟨a, vs, rfl, q, fun hw => ?_, fun hw p hp => tup_ok sr R hp (t.cut lo hi)⟩
    have e : cutV vs lo hi = vs := by
      unfold cutV
      rw [hw.1, hw.2]
      simp
    refine R.ret sr _ ?_
    rw [rv_tup]
    exact ⟨a, vs, rfl, q, by have := t.cut lo hi; rw [e] at this; exact this⟩
  · rename_i xs
    rw [rv_fzl] at hx
    obtain ⟨a, vs, rfl, q, t⟩ := hx
    refine sl_list pins s σ' H _ v' vl vu lo hi sl Q I rv hs pl pu ⟨_, vs, rfl, q.sq, fun p hp => new_ok sr R hp ?_⟩
    have x : Xt al S.length H (alN al S.length p) (S.length + 1) (upd H p (.lst (cutV vs lo hi))) := Xt.fresh hp
    exact ⟨_, upd_same, (t.cut lo hi).mono sr x⟩
  · rename_i n
    rw [rv_loc] at hx
    obtain ⟨rfl, hx⟩ := hx
    obtain ⟨c, hc, rc, R⟩ := Res.get sr R
    have fin : ∀ {xs : List D} {vs : List V}, SqL X.K H (al n) vs → RVs X.K al S.length H xs vs → Res (bs X) W σ al S H (M.new (.lst (Mi.cut xs lo hi)) S) (fun al' S' H' d => ∀ v, RV X.K al' S'.length H' d v → Q v H') →
        ∃ T id, typeLookup (.type T) "__getitem__" = pure (some (.builtin id)) ∧ s.TypeIs v' T ∧ wpAny (model X.prog X.w) X.A (getItem v' (.ref sl)) (EP X pins σ' Q) X.xe s := fun {xs vs} q t R => by
      refine sl_list pins s σ' H _ v' vl vu lo hi sl Q I rv hs pl pu ⟨_, vs, rfl, q, fun p hp => new_ok sr R hp ?_⟩
      have x : Xt al S.length H (alN al S.length p) (S.length + 1) (upd H p (.lst (cutV vs lo hi))) := Xt.fresh hp
      exact ⟨_, upd_same, (t.cut lo hi).mono sr x⟩
    cases c with
    | lst xs => obtain ⟨vs, e, t⟩ := rc; exact fin (.of e) t R
    | _ => exact R.none.elim
  · rename_i z
    rw [rv_str] at hx
    obtain ⟨rfl, hl, ha⟩ := hx
    refine sl_str pins s σ' H _ v' vl vu lo hi sl Q I rv hs pl pu ⟨txS z, rfl, by rw [txS_length]; exact hl, R.ret sr _ ?_⟩
    rw [rv_str]
    refine ⟨?_, ?_, ?_⟩
    · unfold cutS txS Mi.cut
      simp only [PySem.Str.length, List.size_toArray, sIx_eq]
    · unfold Mi.cut; rw [List.length_take, List.length_drop]; omega
    · rw [List.all_eq_true]
      intro c hc
      exact List.all_eq_true.mp ha c (List.mem_of_mem_drop (List.mem_of_mem_take hc))
  · exact R.none.elim

/-! ### isinstance -/
def tyN : Ty → Option String
  | .int => some "int" | .str => some "str" | .bool => some "bool" | .list => some "list" | .tuple => some "tuple" | .dict => some "dict"
  | .cls _ => none
/-- the type of a value, as a word -/
theorem isTy_ok {X : Cx} {al : Al} {S : Store} {H : Hp} {x : D} {v : V} {t : Ty} {b : Bool} {T : String} (sr : SR (bs X) al S H) (hx : RV X.K al S.length H x v) (h : isTy S x t = some b) (ht : tyN t = some T) :
    ∃ c : Value, TyX X.K H v c ∧ PySem.W.kitOne X.K c (.type T) = some b := by
  have go : ∀ (a : String), TyX X.K H v (.type a) → kitB a T = some b → ∃ c : Value, TyX X.K H v c ∧ PySem.W.kitOne X.K c (.type T) = some b := fun a ty e => ⟨_, ty, kit_ty e⟩
  have list_go : ∀ vs, SqL X.K H (match v with | .ref a => a | _ => 0) vs → (∃ a, v = .ref a) → TyX X.K H v (.type "list") := fun vs q ⟨a, e⟩ => by
    subst e
    rcases q with (q | ⟨o, q⟩) | ⟨o, its, n, q1, q2, _⟩
    · exact .base (.lst q)
    · exact .base (.frz q)
    · exact .kList q1 q2
  cases x with
  | non =>
    rw [rv_non] at hx; subst hx
    cases h
    refine go "NoneType" (.base .non) ?_
    cases t <;> cases ht <;> decide +kernel
  | bl c =>
    rw [rv_bl] at hx; subst hx
    refine go "bool" (.base (.bl c)) ?_
    cases t <;> cases ht <;> cases h <;> decide +kernel
  | int i =>
    rw [rv_int] at hx; subst hx
    refine go "int" (.base (.int i)) ?_
    cases t <;> cases ht <;> cases h <;> decide +kernel
  | str s =>
    rw [rv_str] at hx
    obtain ⟨rfl, _⟩ := hx
    refine go "str" (.base (.str _)) ?_
    cases t <;> cases ht <;> cases h <;> decide +kernel
  | tup xs =>
    rw [rv_tup] at hx
    obtain ⟨a, vs, rfl, q, _⟩ := hx
    have ty : TyX X.K H (.ref a) (.type "tuple") := by
      rcases q with (q | ⟨o, q⟩) | ⟨o, its, n, q1, q2, _⟩
      · exact .base (.tup q)
      · exact .fTuple q
      · exact .kTuple q1 q2
    refine go "tuple" ty ?_
    cases t <;> cases ht <;> cases h <;> decide +kernel
  | fzl xs =>
    rw [rv_fzl] at hx
    obtain ⟨a, vs, rfl, q, _⟩ := hx
    have ty : TyX X.K H (.ref a) (.type "list") := by
      rcases q with ⟨o, q⟩ | ⟨o, its, n, q1, q2, _⟩
      · exact .base (.frz q)
      · exact .kList q1 q2
    refine go "list" ty ?_
    cases t <;> cases ht <;> cases h <;> decide +kernel
  | loc n =>
    rw [rv_loc] at hx
    obtain ⟨rfl, hn⟩ := hx
    unfold isTy at h
    cases hc : S[n]? with
    | none => simp only [hc] at h; cases h
    | some c =>
      have rc := sr.cell n c hc
      simp only [hc] at h
      cases c with
      | lst xs =>
        obtain ⟨vs, e, _⟩ := rc
        refine go "list" (.base (.lst e)) ?_
        cases t <;> cases ht <;> cases h <;> decide +kernel
      | dct _ => exact False.elim rc
      | set _ => exact False.elim rc
      | obj _ _ => exact False.elim rc
  | xc c => simp only [RV] at hx
/-! ### argument lists -/
def noStar : Expr → Bool
  | .Starred _ _ => false
  | _ => true
theorem starEach_cons {e : Expr} {es : List Expr} {env : PySem.Env} (h : noStar e = true) : starEach (e :: es) env = (false, eval e env) :: starEach es env := by
  cases e <;> first | rfl | (simp [noStar] at h)
theorem any_backTo (pos : Pos) : ∀ l : List (Bool × Sem Value), (backTo pos l).any (·.1) = l.any (·.1)
  | [] => rfl
  | [(b, x)] => by simp [backTo]
  | (b, x) :: y :: r => by
    have := any_backTo pos (y :: r)
    simp_all [backTo]
theorem starEach_any {env : PySem.Env} : ∀ {es : List Expr}, es.all noStar = true → (starEach es env).any (·.1) = false
  | [], _ => rfl
  | e :: es, h => by
    rw [List.all_cons, Bool.and_eq_true] at h
    rw [starEach_cons h.1, List.any_cons, starEach_any h.2]
    rfl
theorem starEach_plain {env : PySem.Env} {es : List Expr} (h : es.all noStar = true) (pos : Pos) : (backTo pos (starEach es env)).any (·.1) = false := by
  rw [any_backTo, starEach_any h]
theorem pa_cons' {X : Cx} {e : Expr} {es : List Expr} {te : TE} {t : TA} (ha : PE X e te) (hr : PA X es t) (h : noStar e = true) : PA X (e :: es) (tCons te t) := pa_cons ha hr (starEach_cons h)

section
variable {X : Cx} {W : WX} {p pos : Pos} {e : Expr} {m : PySem.Expr → Env → M D} {ma : Env → M D}
theorem isi1_ok {T : String} {t : Ty} {p2 : Pos} (ht : tyN t = some T) (he : PE X e (tE (bs X) W ma)) (hs : noStar e = true) (hg : Gl X "isinstance") (hm : X.mg "isinstance" = none)
    (hg2 : Gl X (nm T)) (hm2 : X.mg (nm T) = none) (hb2 : bootBuiltins (nm T) = some (.type T)) (hn : nm T ≠ "__name__") (hd : (nm T == ("__debug__" : Str)) = false) :
    PE X (.Call (.Name "isinstance" p) [e, .Name (nm T) p2] [] pos) (tE (bs X) W fun ρ => M.bnd (ma ρ) fun x => M.bnd (isiM x [t]) fun k => M.ret (.bl k)) := by
  refine PE.imp (pe_callB call_isi hg hm boot_isinstance (pa_cons' he (pa_cons (pe_bltn (v := .ty T) hg2 hm2 hb2 rfl hn hd) pa_nil) hs) (by decide) (by decide) (starEach_cons hs) rfl) fun σ H Q h => ?_
  refine one h fun al S H ρ x v sr re rv R => ?_
  show ∃ (x c : V) (t u : Value) (b : Bool), [v, .ty T] = [x, c] ∧ _
  obtain ⟨o, S', eq, h1, h2⟩ := R.bnd
  unfold isiM at eq
  cases hi : isTy S x t with
  | none => rw [hi] at eq; cases eq
  | some b =>
    obtain ⟨c, ty, k⟩ := isTy_ok sr rv hi ht
    refine ⟨v, .ty T, c, .type T, b, rfl, .ty T, ty, k, ?_⟩
    cases b with
    | true =>
      rw [hi] at eq
      cases eq
      exact (h1 true rfl al H Xt.refl sr).ret sr _ (by simp [RV])
    | false =>
      rw [hi] at eq
      simp only [isiM] at eq
      cases eq
      exact (h1 false rfl al H Xt.refl sr).ret sr _ (by simp [RV])
end
end Mi

set_option Elab.async false
set_option linter.all false
set_option maxRecDepth 100000
/-! Mi6: built-in calls, methods, what is walked. -/
namespace Mi
open PySem PySem.Spec PyProof.Rows L2

/-! ### built-in calls, by values -/
def rBi (B : Bs) (W : WX) (σ : L2.St) (f : Bi) : List V → Hp → VK → Prop := fun vs H Q => ∃ al S ds, SR B al S H ∧ RVs B.K al S.length H ds vs ∧ Res B W σ al S H (biM f ds S) (fun al' S' H' d => ∀ v, RV B.K al' S'.length H' d v → Q v H')
theorem rvs1 {K al n H} {d : D} {vs : List V} (h : RVs K al n H [d] vs) : ∃ v, vs = [v] ∧ RV K al n H d v := by
  simp only [RVs] at h
  obtain ⟨v, r, rfl, h1, rfl⟩ := h
  exact ⟨v, rfl, h1⟩
theorem rvs2 {K al n H} {d e : D} {vs : List V} (h : RVs K al n H [d, e] vs) : ∃ v u, vs = [v, u] ∧ RV K al n H d v ∧ RV K al n H e u := by
  simp only [RVs] at h
  obtain ⟨v, r, rfl, h1, u, r', rfl, h2, rfl⟩ := h
  exact ⟨v, u, rfl, h1, h2⟩
theorem rvs3 {K al n H} {d e f : D} {vs : List V} (h : RVs K al n H [d, e, f] vs) : ∃ v u w, vs = [v, u, w] ∧ RV K al n H d v ∧ RV K al n H e u ∧ RV K al n H f w := by
  simp only [RVs] at h
  obtain ⟨v, r, rfl, h1, u, r', rfl, h2, w, r'', rfl, h3, rfl⟩ := h
  exact ⟨v, u, w, rfl, h1, h2, h3⟩
theorem rvs0 {K al n H} {vs : List V} (h : RVs K al n H [] vs) : vs = [] := by
  simpa only [RVs] using h
theorem len_ok {X : Cx} {W : WX} {σ : L2.St} : CallR X (.builtin "len") (rBi (bs X) W σ .len) := by
  intro pins s σ' H vs us Q I r h
  obtain ⟨al, S, ds, sr, rs, R⟩ := h
  have R : Res (bs X) W σ al S H (lenM ds S) (fun al' S' H' d => ∀ v, RV X.K al' S'.length H' d v → Q v H') := R
  unfold lenM at R
  split at R
  · obtain ⟨v, rfl, rv⟩ := rvs1 rs
    rw [rv_str] at rv
    exact call_len pins s σ' H _ us Q I r ⟨v, _, rfl, by rw [rv.1]; exact ⟨by rw [txS_length]; exact rv.2.1, rfl⟩, R.ret sr _ (by rw [rv_int, txS_length])⟩
  · obtain ⟨v, rfl, rv⟩ := rvs1 rs
    rw [rv_tup] at rv
    obtain ⟨a, vs, rfl, q, t⟩ := rv
    exact call_len pins s σ' H _ us Q I r ⟨_, _, rfl, .inr ⟨vs, q, t.length⟩, R.ret sr _ (by simp [RV])⟩
  · obtain ⟨v, rfl, rv⟩ := rvs1 rs
    rw [rv_fzl] at rv
    obtain ⟨a, vs, rfl, q, t⟩ := rv
    exact call_len pins s σ' H _ us Q I r ⟨_, _, rfl, .inl ⟨vs, q.sq, t.length⟩, R.ret sr _ (by simp [RV])⟩
  · obtain ⟨v, rfl, rv⟩ := rvs1 rs
    rw [rv_loc] at rv
    obtain ⟨rfl, hn⟩ := rv
    obtain ⟨c, hc, rc, R⟩ := Res.get sr R
    cases c with
    | lst xs => obtain ⟨vs, e, t⟩ := rc; exact call_len pins s σ' H _ us Q I r ⟨_, _, rfl, .inl ⟨vs, .of e, t.length⟩, R.ret sr _ (by simp [RV])⟩
    | dct _ => exact False.elim rc
    | set _ => exact False.elim rc
    | obj _ _ => exact False.elim rc
  all_goals exact R.none.elim
theorem list_ok {X : Cx} {W : WX} {σ : L2.St} : CallR X (.type "list") (rBi (bs X) W σ .list) := by
  intro pins s σ' H vs us Q I r h
  obtain ⟨al, S, ds, sr, rs, R⟩ := h
  have R : Res (bs X) W σ al S H (listM ds S) (fun al' S' H' d => ∀ v, RV X.K al' S'.length H' d v → Q v H') := R
  unfold listM at R
  split at R
  · obtain ⟨v, rfl, rv⟩ := rvs1 rs
    rw [rv_tup] at rv
    obtain ⟨a, vs, rfl, q, t⟩ := rv
    exact call_list_of pins s σ' H _ us Q I r ⟨a, vs, rfl, .inr q, fun p hp => new_ok sr R hp ⟨vs, upd_same, t.mono sr (Xt.fresh hp)⟩⟩
  · obtain ⟨v, rfl, rv⟩ := rvs1 rs
    rw [rv_fzl] at rv
    obtain ⟨a, vs, rfl, q, t⟩ := rv
    exact call_list_of pins s σ' H _ us Q I r ⟨a, vs, rfl, .inl q.sq, fun p hp => new_ok sr R hp ⟨vs, upd_same, t.mono sr (Xt.fresh hp)⟩⟩
  · obtain ⟨v, rfl, rv⟩ := rvs1 rs
    rw [rv_loc] at rv
    obtain ⟨rfl, hn⟩ := rv
    obtain ⟨c, hc, rc, R⟩ := Res.get sr R
    cases c with
    | lst xs => obtain ⟨vs, e, t⟩ := rc; exact call_list_of pins s σ' H _ us Q I r ⟨_, vs, rfl, .inl (.of e), fun p hp => new_ok sr R hp ⟨vs, upd_same, t.mono sr (Xt.fresh hp)⟩⟩
    | _ => exact R.none.elim
  all_goals exact R.none.elim
theorem tuple_ok {X : Cx} {W : WX} {σ : L2.St} : CallR X (.type "tuple") (rBi (bs X) W σ .tuple) := by
  intro pins s σ' H vs us Q I r h
  obtain ⟨al, S, ds, sr, rs, R⟩ := h
  have R : Res (bs X) W σ al S H (tupleM ds S) (fun al' S' H' d => ∀ v, RV X.K al' S'.length H' d v → Q v H') := R
  unfold tupleM at R
  split at R
  · obtain ⟨v, rfl, rv⟩ := rvs1 rs
    have rv0 := rv
    rw [rv_tup] at rv
    obtain ⟨a, vs, rfl, q, t⟩ := rv
    exact call_tuple_of pins s σ' H _ us Q I r ⟨a, vs, rfl, .inr ⟨q, R.ret sr _ rv0⟩⟩
  · obtain ⟨v, rfl, rv⟩ := rvs1 rs
    rw [rv_fzl] at rv
    obtain ⟨a, vs, rfl, q, t⟩ := rv
    exact call_tuple_of pins s σ' H _ us Q I r ⟨a, vs, rfl, .inl ⟨q.sq, fun p hp => tup_ok sr R hp t⟩⟩
  · obtain ⟨v, rfl, rv⟩ := rvs1 rs
    rw [rv_loc] at rv
    obtain ⟨rfl, hn⟩ := rv
    obtain ⟨c, hc, rc, R⟩ := Res.get sr R
    cases c with
    | lst xs => obtain ⟨vs, e, t⟩ := rc; exact call_tuple_of pins s σ' H _ us Q I r ⟨_, vs, rfl, .inl ⟨.of e, fun p hp => tup_ok sr R hp t⟩⟩
    | _ => exact R.none.elim
  all_goals exact R.none.elim
/-- the built-in's name, and what it is -/
def biN : Bi → Option (String × Value)
  | .len => some ("len", .builtin "len")
  | .list => some ("list", .type "list")
  | .tuple => some ("tuple", .type "tuple")
  | _ => none
theorem bi_rule {X : Cx} {W : WX} {σ : L2.St} {f : Bi} {s : String} {v : Value} (h : biN f = some (s, v)) : CallR X v (rBi (bs X) W σ f) ∧ bootBuiltins (nm s) = some v ∧ nm s ≠ "__name__" ∧ (nm s == ("__debug__" : Str)) = false ∧ ((∃ id, v = .builtin id) ∨ ∃ T, v = .type T) := by
  cases f <;> first | (cases h; done) | skip
  · cases h; exact ⟨len_ok, boot_len, by decide, by decide, .inl ⟨_, rfl⟩⟩
  · cases h; exact ⟨list_ok, boot_list, by decide, by decide, .inr ⟨_, rfl⟩⟩
  · cases h; exact ⟨tuple_ok, boot_tuple, by decide, by decide, .inr ⟨_, rfl⟩⟩
theorem PE.of_st {X : Cx} {e : Expr} {t : TE} (h : ∀ σ0 : L2.St, PE X e (fun σ H Q => σ = σ0 ∧ t σ H Q)) : PE X e t := ⟨fun pins s σ H Q I q => (h σ).run pins s σ H Q I ⟨rfl, q⟩⟩
theorem bi_ok {X : Cx} {W : WX} {f : Bi} {s : String} {v : Value} {p pos : Pos} {e : Expr} {es : List Expr} {ma : Env → M (List D)} (h : biN f = some (s, v)) (ha : PA X (e :: es) (tA (bs X) W ma)) (hs : (e :: es).all noStar = true)
    (hg : Gl X (nm s)) (hm : X.mg (nm s) = none) : PE X (.Call (.Name (nm s) p) (e :: es) [] pos) (tE (bs X) W fun ρ => M.bnd (ma ρ) fun ds => biM f ds) := by
  refine PE.of_st fun σ0 => ?_
  obtain ⟨rule, hb, hn, hd, hv⟩ := bi_rule (X := X) (W := W) (σ := σ0) h
  rw [List.all_cons, Bool.and_eq_true] at hs
  have go : ∀ σ H Q, (σ = σ0 ∧ tE (bs X) W (fun ρ => M.bnd (ma ρ) fun ds => biM f ds) σ H Q) → tCB (rBi (bs X) W σ0 f) (tA (bs X) W ma) σ H Q := fun σ H Q ⟨e, h⟩ => by
    subst e
    obtain ⟨al, ρ, S, sr, re, R⟩ := h
    exact ⟨al, ρ, S, sr, re, R.bnd.imp fun al1 S1 H1 ds x1 sr1 _ R1 vs rs => ⟨al1, S1, ds, sr1, rs, R1⟩⟩
  rcases hv with ⟨id, rfl⟩ | ⟨T, rfl⟩
  · exact PE.imp (pe_callB rule hg hm hb ha hn hd (starEach_cons hs.1) (starEach_plain hs.2 _)) go
  · exact PE.imp (pe_callTy rule hg hm hb ha hn hd (starEach_cons hs.1) (starEach_plain hs.2 _)) go

/-! ### methods of lists and texts -/
def abOk : Expr → Bool
  | .Call (.Name _ _) [] [] _ => false
  | _ => true
theorem abase {o : Expr} {a : Str} {env : PySem.Env} {w : Sem Value} (h : abOk o = true) : attributeBase o a env w = w := by
  unfold attributeBase
  split
  · simp [abOk] at h
  · rfl
theorem few_of {e : Expr} {es : List Expr} {cpos : Pos} {env : PySem.Env} (h : (e :: es).all noStar = true) (hl : (e :: es).length < 30) :
    ((backTo cpos (starEach (e :: es) env)).all (fun x => !x.1) && (backToKw cpos (keywordEach [] env)).all (fun x => x.1.isSome) && decide ((e :: es).length + ([] : List Keyword).length + (if ([] : List Keyword).isEmpty then 0 else 1) < 30)) = true := by
  have q := starEach_plain (env := env) h cpos
  have e1 : (backTo cpos (starEach (e :: es) env)).all (fun x => !x.1) = true := by
    rw [List.all_eq_not_any_not]
    simpa using q
  rw [e1]
  simpa [keywordEach, backToKw] using hl
section
variable {X : Cx} {W : WX} {apos cpos : Pos} {o e : Expr} {es : List Expr} {mo : Env → M D} {ma : Env → M (List D)}
theorem append_ok (ho : PE X o (tE (bs X) W mo)) (ha : PA X [e] (tA (bs X) W ma)) (hb : abOk o = true) (hs : noStar e = true) (hl : (apos.endLine == cpos.line) = true) :
    PE X (.Call (.Attribute o "append" apos) [e] [] cpos) (tE (bs X) W fun ρ => M.bnd (mo ρ) fun x => M.bnd (mtPre .append x) fun _ => M.bnd (ma ρ) fun ds => mtM .append x ds) := by
  have hs' : [e].all noStar = true := by simp [hs]
  refine PE.imp (pe_bm PySem.F.plainAttrs_list PySem.F.slot_list_append PySem.F.type_list_append mt_append ho ha (abase hb) (few_of hs' (by show 1 < 30; decide)) hl (starEach_cons hs) (starEach_plain (es := []) rfl _)) fun σ H Q h => ?_
  obtain ⟨al, ρ, S, sr, re, R⟩ := h
  refine ⟨al, ρ, S, sr, re, R.bnd.imp fun al1 S1 H1 x x1 sr1 _ R1 v rv => ?_⟩
  have re1 := re.mono sr x1
  obtain ⟨n, rfl⟩ : ∃ n, x = .loc n := by cases x <;> first | exact ⟨_, rfl⟩ | exact R1.bnd.none.elim
  obtain ⟨o', S', e', h1, h2⟩ := R1.bnd
  unfold mtPre isLst M.bnd M.get at e'
  cases hc : S1[n]? with
  | none => simp only [hc] at e'; cases e'
  | some c =>
    simp only [hc] at e'
    cases c <;> first | (cases e'; done) | skip
    rename_i xs
    cases e'
    have R2 := h1 () rfl al1 H1 Xt.refl sr1
    rw [rv_loc] at rv
    obtain ⟨rfl, hn⟩ := rv
    obtain ⟨vs, ev, t⟩ := sr1.cell n _ hc
    refine ⟨.inl ⟨rfl, vs, .of ev⟩, al1, ρ, S1, sr1, re1, R2.bnd.imp fun al2 S2 H2 ds x2 sr2 _ R3 us ru => ?_⟩
    have R3 : Res (bs X) W σ al2 S2 H2 (appendM (.loc n) ds S2) (fun al' S' H' d => ∀ v, RV X.K al' S'.length H' d v → Q v H') := R3
    obtain ⟨d, rfl⟩ : ∃ d, ds = [d] := by
      match ds, R3 with
      | [], R3 => exact R3.none.elim
      | [d], R3 => exact ⟨d, rfl⟩
      | _ :: _ :: _, R3 => exact R3.none.elim
    obtain ⟨u, rfl, ru1⟩ := rvs1 ru
    obtain ⟨c2, hc2, rc2, R3⟩ := Res.get sr2 R3
    obtain ⟨ys, rfl⟩ : ∃ xs, c2 = .lst xs := by cases c2 <;> first | exact ⟨_, rfl⟩ | exact R3.none.elim
    obtain ⟨ws, ew, tw⟩ := rc2
    obtain ⟨hz, R3⟩ := R3.need
    have hn2 : n < S2.length := (List.getElem?_eq_some_iff.mp hc2).1
    refine ⟨al1 n, ws, u, rfl, rfl, by rw [← x2.ag n hn]; exact ew, by rw [← tw.length]; exact hz, ?_⟩
    rw [← x2.ag n hn]
    unfold M.bnd M.put at R3
    simp only [hn2, if_true] at R3
    exact Res.ok R3 (al' := al2) (H' := upd H2 (al2 n) (.lst (ws ++ [u]))) (by rw [List.length_set]; exact Xt.write hn2) (SR.write sr2 hn2 ⟨_, upd_same, (tw.append (.one ru1)).mono sr2 (Xt.write hn2)⟩) _ (by simp [RV])
theorem upper_ok (ho : PE X o (tE (bs X) W mo)) (hb : abOk o = true) (hl : (apos.endLine == cpos.line) = true) :
    PE X (.Call (.Attribute o "upper" apos) [] [] cpos) (tE (bs X) W fun ρ => M.bnd (mo ρ) fun x => M.bnd (mtPre .upper x) fun _ => M.bnd (M.ret []) fun ds => mtM .upper x ds) := by
  refine PE.imp (pe_upper ho (abase hb) hl) fun σ H Q h => ?_
  refine one h fun al S H ρ x v sr re rv R => ?_
  obtain ⟨s, rfl⟩ : ∃ n, x = .str n := by cases x <;> first | exact ⟨_, rfl⟩ | exact R.bnd.none.elim
  rw [rv_str] at rv
  obtain ⟨rfl, h1, h2⟩ := rv
  refine ⟨⟨_, rfl⟩, txS s, rfl, rfl, ?_⟩
  obtain ⟨⟨a1, a2⟩, R⟩ := Res.need (p := s.all (fun c => decide (c < 128)) = true ∧ s.length ≤ 5592405) R
  refine ⟨by rw [txS_length]; exact a2, ?_⟩
  have e : Txt.upper (txS s) = txS (upTx s) := SX.upper_S a1
  rw [e]
  refine R.ret sr _ ?_
  rw [rv_str]
  refine ⟨rfl, by unfold upTx; rw [List.length_map]; exact h1, ?_⟩
  unfold upTx
  rw [List.all_map, List.all_eq_true]
  intro c hc
  have := of_decide_eq_true (List.all_eq_true.mp a1 c hc)
  simp only [Function.comp_apply, decide_eq_true_eq]
  split <;> omega
end
end Mi

set_option Elab.async false
set_option linter.all false
set_option maxRecDepth 100000
/-! Mi7: what is walked; list comprehensions. -/
namespace Mi
open PySem PySem.Spec PyProof.Rows L2

/-! ### what a for walks -/
structure SrcJ (B : Bs) (al0 : Al) (S0 : Store) (H0 : Hp) (J : It) (items : List D) (g : List (Nat × Cell)) : Prop where
  go : ∀ al S H i, Xt al0 S0.length H0 al S.length H → SR B al S H → stays S g = true → i < items.length → J.go i H
  stop : ∀ al S H, Xt al0 S0.length H0 al S.length H → SR B al S H → stays S g = true → J.stop items.length H
  yld : ∀ al S H i d x H', Xt al0 S0.length H0 al S.length H → SR B al S H → stays S g = true → items[i]? = some d → J.yld i H x H' →
    Xt al S.length H al S.length H' ∧ SR B al S H' ∧ RV B.K al S.length H' d x
def tI (B : Bs) (W : WX) (m : Env → M Src) : TI := fun σ H R => ∃ al ρ S, SR B al S H ∧ RE B.K al S.length H ρ σ ∧ Res B W σ al S H (m ρ S) (fun al' S' H' src => stays S' src.2 = true ∧ ∀ J, SrcJ B al' S' H' J src.1 src.2 → R J H')
theorem PI.imp {X : Cx} {tg e : Expr} {t t' : TI} (h : PI X tg e t) (f : ∀ σ H R, t' σ H R → t σ H R) : PI X tg e t' := ⟨fun pins s σ H R I q => h.run pins s σ H R I (f σ H R q)⟩
theorem PI.or {X : Cx} {tg e : Expr} {t t' : TI} (h : PI X tg e t) (h' : PI X tg e t') : PI X tg e (fun σ H R => t σ H R ∨ t' σ H R) :=
  ⟨fun pins s σ H R I q => q.elim (h.run pins s σ H R I) (h'.run pins s σ H R I)⟩

section
variable {B : Bs} {al : Al} {S : Store} {H : Hp}
theorem stays_get {g : List (Nat × Cell)} {n : Nat} {c : Cell} (h : stays S g = true) (hm : (n, c) ∈ g) : S[n]? = some c := by
  unfold stays at h
  exact of_decide_eq_true (List.all_eq_true.mp h _ hm)
theorem src_list {n : Nat} {xs : List D} {c : Cell} (hc : c = .lst xs) (sr : SR B al S H) (hn : n < S.length) : SrcJ B al S H (Itl B.K (al n)) xs [(n, c)] := by
  have key : ∀ al' S' H', Xt al S.length H al' S'.length H' → SR B al' S' H' → stays S' [(n, c)] = true → ∃ vs, SqL B.K H' (al n) vs ∧ RVs B.K al' S'.length H' xs vs := fun al' S' H' x sr' st => by
    have e := stays_get st (List.mem_singleton.mpr rfl)
    have rc := sr'.cell n c e
    rw [x.ag n hn] at rc
    subst hc
    obtain ⟨vs, e, t⟩ := rc
    exact ⟨vs, .of e, t⟩
  refine ⟨fun al' S' H' i x sr' st hi => ?_, fun al' S' H' x sr' st => ?_, fun al' S' H' i d v H2 x sr' st e y => ?_⟩
  · obtain ⟨vs, q, t⟩ := key al' S' H' x sr' st
    have : i < vs.length := by rw [← t.length]; exact hi
    exact ⟨vs, vs[i], q, by simp [this]⟩
  · obtain ⟨vs, q, t⟩ := key al' S' H' x sr' st
    exact ⟨vs, q, by rw [t.length]; exact Nat.le_refl _⟩
  · obtain ⟨vs, q, t⟩ := key al' S' H' x sr' st
    obtain ⟨e1, y⟩ := y
    subst e1
    obtain ⟨w, e2, r⟩ := t.get e
    have := y vs q
    rw [e2] at this
    cases this
    exact ⟨Xt.refl, sr', r⟩
theorem src_fzl {a : Addr} {xs : List D} {vs : List V} (sr : SR B al S H) (q : FzL B.K H a vs) (t : RVs B.K al S.length H xs vs) : SrcJ B al S H (Itl B.K a) xs [] := by
  refine ⟨fun al' S' H' i x sr' st hi => ?_, fun al' S' H' x sr' st => ?_, fun al' S' H' i d v H2 x sr' st e y => ?_⟩
  · have : i < vs.length := by rw [← t.length]; exact hi
    exact ⟨vs, vs[i], (FzL.mono sr x q).sq, by simp [this]⟩
  · exact ⟨vs, (FzL.mono sr x q).sq, by rw [t.length]; exact Nat.le_refl _⟩
  · obtain ⟨e1, y⟩ := y
    subst e1
    obtain ⟨w, e2, r⟩ := (t.mono sr x).get e
    have := y vs (FzL.mono sr x q).sq
    rw [e2] at this
    cases this
    exact ⟨Xt.refl, sr', r⟩
theorem src_tup {a : Addr} {xs : List D} {vs : List V} (sr : SR B al S H) (q : SqT B.K H a vs) (t : RVs B.K al S.length H xs vs) : SrcJ B al S H (Itt B.K a) xs [] := by
  refine ⟨fun al' S' H' i x sr' st hi => ?_, fun al' S' H' x sr' st => ?_, fun al' S' H' i d v H2 x sr' st e y => ?_⟩
  · have : i < vs.length := by rw [← t.length]; exact hi
    exact ⟨vs, vs[i], SqT.mono sr x q, by simp [this]⟩
  · exact ⟨vs, SqT.mono sr x q, by rw [t.length]; exact Nat.le_refl _⟩
  · obtain ⟨e1, y⟩ := y
    subst e1
    obtain ⟨w, e2, r⟩ := (t.mono sr x).get e
    have := y vs (SqT.mono sr x q)
    rw [e2] at this
    cases this
    exact ⟨Xt.refl, sr', r⟩
theorem src_str {s : Tx} (h1 : s.all (fun c => decide (c < 1114112)) = true) : SrcJ B al S H (Its (txS s)) (s.map fun c => D.str [c]) [] := by
  refine ⟨fun al' S' H' i x sr' st hi => ?_, fun al' S' H' x sr' st => ?_, fun al' S' H' i d v H2 x sr' st e y => ?_⟩
  · show i < (txS s).cps.size
    simpa [txS] using hi
  · show (txS s).cps.size ≤ _
    simp [txS]
  · obtain ⟨e1, c, e2, e3⟩ := y
    subst e1; subst e3
    have e4 : s[i]? = some c := by simpa [txS] using e2
    rw [List.getElem?_map, e4] at e
    cases e
    refine ⟨Xt.refl, sr', ?_⟩
    rw [rv_str]
    exact ⟨rfl, (by show 1 ≤ szl; decide), by simpa using of_decide_eq_true (List.all_eq_true.mp h1 c (List.mem_of_getElem? e4))⟩
theorem src_range {lo : Int} {n : Nat} : SrcJ B al S H (Itr lo n) (rangeD lo n) [] := by
  have hl : (rangeD lo n).length = n := by simp [rangeD]
  refine ⟨fun al' S' H' i x sr' st hi => ?_, fun al' S' H' x sr' st => ?_, fun al' S' H' i d v H2 x sr' st e y => ?_⟩
  · show i < n
    rw [hl] at hi; exact hi
  · show n ≤ _
    rw [hl]; exact Nat.le_refl _
  · obtain ⟨e1, e2⟩ := y
    subst e1; subst e2
    unfold rangeD at e
    rw [List.getElem?_map] at e
    cases q : (List.range n)[i]? with
    | none => rw [q] at e; cases e
    | some k =>
      rw [q] at e
      cases e
      have : k = i := by
        obtain ⟨h1, h2⟩ := List.getElem?_eq_some_iff.mp q
        simp at h2
        exact h2.symm
      subst this
      exact ⟨Xt.refl, sr', by rw [rv_int]⟩
theorem stays_nil : stays S [] = true := rfl
theorem stays_one {n : Nat} {c : Cell} (h : S[n]? = some c) : stays S [(n, c)] = true := by
  unfold stays; simp [h]
end

section
variable {X : Cx} {W : WX} {p pos : Pos} {tg e e2 : Expr} {me : Env → M D} {ma : Env → M (List D)}
theorem it_seq (he : PE X e (tE (bs X) W me)) : PI X tg e (tI (bs X) W fun ρ => M.bnd (me ρ) seqM) := by
  refine PI.imp (PI.or (pi_list he) (PI.or (pi_tup he) (pi_str he))) fun σ H R h => ?_
  obtain ⟨al, ρ, S, sr, re, RR⟩ := h
  obtain ⟨o, S', eq, h1, h2⟩ := RR.bnd
  cases o with
  | ex c => exact .inl ⟨al, ρ, S, sr, re, _, S', eq, (fun d q => nomatch q), h2⟩
  | ok d =>
    have nx : ∀ {k : Al → Store → Hp → D → Prop}, (∀ al' H', Xt al S.length H al' S'.length H' → SR (bs X) al' S' H' → k al' S' H' d) → Res (bs X) W σ al S H (me ρ S) k := fun {k} h =>
      ⟨_, S', eq, (fun d' q al' H' x y => by cases q; exact h al' H' x y), fun c q => nomatch q⟩
    cases d with
    | tup xs =>
      refine .inr (.inl ⟨al, ρ, S, sr, re, nx fun al' H' x y v rv => ?_⟩)
      have R1 := h1 _ rfl al' H' x y
      rw [rv_tup] at rv
      obtain ⟨a, vs, rfl, q, t⟩ := rv
      exact ⟨a, rfl, ⟨vs, q⟩, (R1.ret y).2 _ (src_tup y q t)⟩
    | fzl xs =>
      refine .inl ⟨al, ρ, S, sr, re, nx fun al' H' x y v rv => ?_⟩
      have R1 := h1 _ rfl al' H' x y
      rw [rv_fzl] at rv
      obtain ⟨a, vs, rfl, q, t⟩ := rv
      exact ⟨a, rfl, ⟨vs, q.sq⟩, (R1.ret y).2 _ (src_fzl y q t)⟩
    | str s =>
      refine .inr (.inr ⟨al, ρ, S, sr, re, nx fun al' H' x y v rv => ?_⟩)
      have R1 := h1 _ rfl al' H' x y
      rw [rv_str] at rv
      obtain ⟨rfl, a1, a2⟩ := rv
      exact ⟨_, rfl, (R1.ret y).2 _ (src_str a2)⟩
    | loc n =>
      refine .inl ⟨al, ρ, S, sr, re, nx fun al' H' x y v rv => ?_⟩
      have R1 := h1 _ rfl al' H' x y
      rw [rv_loc] at rv
      obtain ⟨rfl, hn⟩ := rv
      obtain ⟨c, hc, rc, R1⟩ := Res.get y R1
      cases c with
      | lst xs => obtain ⟨vs, e, t⟩ := rc; exact ⟨_, rfl, ⟨vs, .of e⟩, (R1.ret y).2 _ (src_list rfl y hn)⟩
      | _ => exact R1.none.elim
    | non => exact .inl ⟨al, ρ, S, sr, re, nx fun al' H' x y v rv => (h1 _ rfl al' H' x y).none.elim⟩
    | bl b => exact .inl ⟨al, ρ, S, sr, re, nx fun al' H' x y v rv => (h1 _ rfl al' H' x y).none.elim⟩
    | int b => exact .inl ⟨al, ρ, S, sr, re, nx fun al' H' x y v rv => (h1 _ rfl al' H' x y).none.elim⟩
    | xc b => exact .inl ⟨al, ρ, S, sr, re, nx fun al' H' x y v rv => (h1 _ rfl al' H' x y).none.elim⟩
theorem r62_ok {i : Int} (h : r62 i = true) : -(2 ^ 62) ≤ i ∧ i < 2 ^ 62 := of_decide_eq_true h
theorem it_range1 (hg : Gl X "range") (hm : X.mg "range" = none) (ha : PA X [e] (tA (bs X) W ma)) (hs : noStar e = true) :
    PI X tg (.Call (.Name "range" p) [e] [] pos) (tI (bs X) W fun ρ => M.bnd (ma ρ) (itM 1)) := by
  refine PI.imp (pi_range1 hg hm ha (starEach_cons hs)) fun σ H R h => ?_
  obtain ⟨al, ρ, S, sr, re, RR⟩ := h
  refine ⟨al, ρ, S, sr, re, RR.bnd.imp fun al1 S1 H1 ds x1 sr1 _ R1 vs rs => ?_⟩
  have R1 : Res (bs X) W σ al1 S1 H1 (rng1 ds S1) _ := R1
  unfold rng1 at R1
  split at R1
  · rename_i a
    obtain ⟨v, rfl, rv⟩ := rvs1 rs
    rw [rv_int] at rv
    subst rv
    obtain ⟨hz, R1⟩ := R1.need
    obtain ⟨z1, z2⟩ := r62_ok hz
    exact ⟨_, rfl, z1, z2, (R1.ret sr1).2 _ src_range⟩
  · exact R1.none.elim
theorem it_range2 (hg : Gl X "range") (hm : X.mg "range" = none) (ha : PA X [e, e2] (tA (bs X) W ma)) (hs : noStar e = true) (hs2 : noStar e2 = true) :
    PI X tg (.Call (.Name "range" p) [e, e2] [] pos) (tI (bs X) W fun ρ => M.bnd (ma ρ) (itM 2)) := by
  refine PI.imp (pi_range2 hg hm ha (by rw [starEach_cons hs, starEach_cons hs2]; rfl) (starEach_cons hs2)) fun σ H R h => ?_
  obtain ⟨al, ρ, S, sr, re, RR⟩ := h
  refine ⟨al, ρ, S, sr, re, RR.bnd.imp fun al1 S1 H1 ds x1 sr1 _ R1 vs rs => ?_⟩
  have R1 : Res (bs X) W σ al1 S1 H1 (rng2 ds S1) _ := R1
  unfold rng2 at R1
  split at R1
  · rename_i a b
    obtain ⟨v, u, rfl, rv, ru⟩ := rvs2 rs
    rw [rv_int] at rv ru
    subst rv; subst ru
    obtain ⟨⟨hz, hz2⟩, R1⟩ := R1.need
    obtain ⟨z1, z2⟩ := r62_ok hz
    obtain ⟨z3, z4⟩ := r62_ok hz2
    exact ⟨_, _, rfl, ⟨z1, z2, z3, z4⟩, (R1.ret sr1).2 _ src_range⟩
  · exact R1.none.elim
end

/-! ### more places -/
mutual
theorem bel_le {n n' : Nat} (hn : n ≤ n') : ∀ {d : D}, d.bel n = true → d.bel n' = true
  | .non, _ => by simp [D.bel]
  | .bl _, _ => by simp [D.bel]
  | .int _, _ => by simp [D.bel]
  | .str _, _ => by simp [D.bel]
  | .tup xs, h => by rw [D.bel] at h ⊢; exact bels_le' hn h
  | .fzl xs, h => by rw [D.bel] at h ⊢; exact bels_le' hn h
  | .loc i, h => by simp only [D.bel, decide_eq_true_eq] at h ⊢; omega
  | .xc _, _ => by simp [D.bel]
theorem bels_le' {n n' : Nat} (hn : n ≤ n') : ∀ {ds : List D}, D.bels n ds = true → D.bels n' ds = true
  | [], _ => by simp [D.bels]
  | d :: ds, h => by
    rw [D.bels, Bool.and_eq_true] at h ⊢
    exact ⟨bel_le hn h.1, bels_le' hn h.2⟩
end
theorem bels_le {n n' : Nat} {ds : List D} (h : D.bels n ds = true) (hn : n ≤ n') : D.bels n' ds = true := bels_le' hn h

/-! ### targets -/
mutual
def gTg (K : PySem.W.Frag) : Tg → TG
  | .nm i => gName i
  | .tup ts => gTup K ts.length (gTgs K ts)
def gTgs (K : PySem.W.Frag) : List Tg → TGs
  | [] => gNil
  | t :: ts => gCons (gTg K t) (gTgs K ts)
end
mutual
def tgV : Tg → List Nat
  | .nm i => [i]
  | .tup ts => tgVs ts
def tgVs : List Tg → List Nat
  | [] => []
  | t :: ts => tgV t ++ tgVs ts
end
theorem bindTs_len : ∀ {ts : List Tg} {xs : List D} {ρ ρ' : Env}, bindTs ts xs ρ = some ρ' → xs.length = ts.length
  | [], [], _, _, _ => rfl
  | [], _ :: _, _, _, h => by simp [bindTs] at h
  | _ :: _, [], _, _, h => by simp [bindTs] at h
  | t :: ts, x :: xs, ρ, ρ', h => by
    simp only [bindTs, Option.bind_eq_some_iff] at h
    obtain ⟨ρ1, _, h2⟩ := h
    simp [bindTs_len h2]
section
variable {K : PySem.W.Frag} {al : Al} {n : Nat} {H : Hp}
theorem RE.set {ρ : Env} {σ : L2.St} (h : RE K al n H ρ σ) {i : Nat} {d : D} {v : V} (r : RV K al n H d v) : RE K al n H (ρ.set i (some d)) (σ.set i (some v)) := by
  refine ⟨by rw [List.length_set, List.length_set]; exact h.1, fun j d' e => ?_⟩
  by_cases hj : i = j
  · subst hj
    have hi : i < ρ.length := by
      have := (List.getElem?_eq_some_iff.mp e).1
      rwa [List.length_set] at this
    rw [List.getElem?_set_self hi] at e
    cases e
    exact ⟨v, List.getElem?_set_self (by rw [← h.1]; exact hi), r⟩
  · rw [List.getElem?_set_ne hj] at e
    rw [List.getElem?_set_ne hj]
    exact h.2 j d' e
mutual
theorem bindT_ok : ∀ {t : Tg} {d : D} {v : V} {ρ ρ' : Env} {σ : L2.St} {Q : L2.St → Hp → Prop}, bindT t d ρ = some ρ' → RE K al n H ρ σ → RV K al n H d v →
    (∀ σ', RE K al n H ρ' σ' → (∀ j, j ∉ tgV t → σ'[j]? = σ[j]?) → Q σ' H) → gTg K t v σ H Q
  | .nm i, d, v, ρ, ρ', σ, Q, h, re, rv, q => by
    simp only [bindT] at h
    split at h
    · cases h
      simp only [gTg, gName]
      refine q _ (re.set rv) fun j hj => ?_
      rw [List.getElem?_set_ne]
      intro z
      exact hj (by simp [tgV, z])
    · cases h
  | .tup ts, d, v, ρ, ρ', σ, Q, h, re, rv, q => by
    cases d with
    | tup xs =>
      simp only [bindT] at h
      rw [rv_tup] at rv
      obtain ⟨a, vs, rfl, qa, t⟩ := rv
      simp only [gTg]
      exact ⟨a, vs, rfl, qa, by rw [← t.length]; exact bindTs_len h, bindTs_ok h re t fun σ' r1 r2 => q σ' r1 (by simpa only [tgV] using r2)⟩
    | _ => simp [bindT] at h
theorem bindTs_ok : ∀ {ts : List Tg} {ds : List D} {vs : List V} {ρ ρ' : Env} {σ : L2.St} {Q : L2.St → Hp → Prop}, bindTs ts ds ρ = some ρ' → RE K al n H ρ σ → RVs K al n H ds vs →
    (∀ σ', RE K al n H ρ' σ' → (∀ j, j ∉ tgVs ts → σ'[j]? = σ[j]?) → Q σ' H) → gTgs K ts vs σ H Q
  | [], [], vs, ρ, ρ', σ, Q, h, re, rs, q => by
    simp only [bindTs] at h
    cases h
    have := rvs0 rs
    subst this
    simp only [gTgs, gNil]
    exact ⟨trivial, q σ re fun _ _ => rfl⟩
  | [], _ :: _, _, _, _, _, _, h, _, _, _ => by simp [bindTs] at h
  | _ :: _, [], _, _, _, _, _, h, _, _, _ => by simp [bindTs] at h
  | t :: ts, d :: ds, vs, ρ, ρ', σ, Q, h, re, rs, q => by
    simp only [bindTs, Option.bind_eq_some_iff] at h
    obtain ⟨ρ1, h1, h2⟩ := h
    simp only [RVs] at rs
    obtain ⟨v, r, rfl, r1, r2⟩ := rs
    simp only [gTgs, gCons]
    refine ⟨v, r, rfl, bindT_ok h1 re r1 fun σ1 re1 k1 => bindTs_ok h2 re1 r2 fun σ2 re2 k2 => q σ2 re2 fun j hj => ?_⟩
    simp only [tgVs, List.mem_append, not_or] at hj
    rw [k2 j hj.2, k1 j hj.1]
end
end

mutual
theorem bindT_len : ∀ {t : Tg} {d : D} {ρ ρ' : Env}, bindT t d ρ = some ρ' → ρ'.length = ρ.length
  | .nm i, d, ρ, ρ', h => by
    simp only [bindT] at h
    split at h
    · cases h; rw [List.length_set]
    · cases h
  | .tup ts, d, ρ, ρ', h => by
    cases d with
    | tup xs => simp only [bindT] at h; exact bindTs_lenE h
    | _ => simp [bindT] at h
theorem bindTs_lenE : ∀ {ts : List Tg} {ds : List D} {ρ ρ' : Env}, bindTs ts ds ρ = some ρ' → ρ'.length = ρ.length
  | [], [], _, _, h => by simp only [bindTs] at h; cases h; rfl
  | [], _ :: _, _, _, h => by simp [bindTs] at h
  | _ :: _, [], _, _, h => by simp [bindTs] at h
  | t :: ts, d :: ds, ρ, ρ', h => by
    simp only [bindTs, Option.bind_eq_some_iff] at h
    obtain ⟨ρ1, h1, h2⟩ := h
    rw [bindTs_lenE h2, bindT_len h1]
end
/-! ### a comprehension's slots -/
theorem wipe_none {σ : L2.St} {i : Nat} : ∀ {vs : List Nat}, i ∈ vs → ∀ x : V, (wipe σ vs)[i]? ≠ some (some x)
  | [], h, _ => by simp at h
  | v :: vs, h, x => by
    unfold wipe
    intro e
    by_cases hv : v = i
    · subst hv
      by_cases hl : v < (wipe σ vs).length
      · rw [List.getElem?_set_self hl] at e; cases e
      · rw [List.getElem?_eq_none (by simpa using hl)] at e; cases e
    · rw [List.getElem?_set_ne hv] at e
      rcases List.mem_cons.mp h with z | z
      · exact hv z.symm
      · exact wipe_none z x e
theorem wipeE_length (ρ : Env) : ∀ vs : List Nat, (wipeE ρ vs).length = ρ.length
  | [] => rfl
  | v :: vs => by unfold wipeE; rw [List.length_set, wipeE_length ρ vs]
theorem wipeE_some {ρ : Env} {i : Nat} {x : D} : ∀ {vs : List Nat}, (wipeE ρ vs)[i]? = some (some x) → ρ[i]? = some (some x) ∧ i ∉ vs
  | [], h => ⟨h, by simp⟩
  | v :: vs, h => by
    unfold wipeE at h
    by_cases hi : v = i
    · subst hi
      by_cases hv : v < (wipeE ρ vs).length
      · rw [List.getElem?_set_self hv] at h; cases h
      · rw [List.getElem?_eq_none (by simpa using hv)] at h; cases h
    · rw [List.getElem?_set_ne hi] at h
      obtain ⟨h1, h2⟩ := wipeE_some h
      exact ⟨h1, by simp only [List.mem_cons, not_or]; exact ⟨fun e => hi e.symm, h2⟩⟩
theorem wipe_at {σ : L2.St} {i : Nat} : ∀ {vs : List Nat}, i ∉ vs → (wipe σ vs)[i]? = σ[i]?
  | [], _ => rfl
  | v :: vs, h => by
    simp only [List.mem_cons, not_or] at h
    unfold wipe
    rw [List.getElem?_set_ne (Ne.symm h.1), wipe_at h.2]
theorem RE.wipe {K al n H} {ρ : Env} {σ : L2.St} (h : RE K al n H ρ σ) (vs : List Nat) : RE K al n H (wipeE ρ vs) (L2.wipe σ vs) := by
  refine ⟨by rw [wipeE_length, wipe_length]; exact h.1, fun i d e => ?_⟩
  obtain ⟨e1, e2⟩ := wipeE_some e
  rw [wipe_at e2]
  exact h.2 i d e1
/-- two rows of slots that differ in vs alone -/
theorem wipe_same {σ σ' : L2.St} : ∀ {vs : List Nat}, σ'.length = σ.length → (∀ j, j ∉ vs → σ'[j]? = σ[j]?) → L2.wipe σ' vs = L2.wipe σ vs := fun {vs} hl h => by
  apply List.ext_getElem?
  intro i
  by_cases hi : i ∈ vs
  · have q : ∀ τ : L2.St, τ.length = σ.length → (L2.wipe τ vs)[i]? = if i < σ.length then some none else none := fun τ ht => by
      have hl2 : (L2.wipe τ vs).length = σ.length := by rw [wipe_length]; exact ht
      by_cases hb : i < σ.length
      · rw [if_pos hb]
        have : i < (L2.wipe τ vs).length := by rw [hl2]; exact hb
        rw [List.getElem?_eq_getElem this]
        cases e : (L2.wipe τ vs)[i] with
        | none => rfl
        | some x => exact absurd (by rw [List.getElem?_eq_getElem this, e]) (wipe_none (σ := τ) hi x)
      · rw [if_neg hb]
        exact List.getElem?_eq_none (by rw [hl2]; omega)
    rw [q σ' hl, q σ rfl]
  · rw [wipe_at hi, wipe_at hi, h i hi]
end Mi

set_option Elab.async false
set_option linter.all false
set_option maxRecDepth 100000
/-! Mi8: list comprehensions. -/
namespace Mi
open PySem PySem.Spec PyProof.Rows L2

abbrev W0 : WX := fun _ _ _ _ => False
def tC' (B : Bs) (m : Env → M Bool) : TT := tT B W0 m
section
variable {B : Bs} {W : WX} {σ σ0 : L2.St} {al : Al} {S : Store} {H : Hp} {α : Type}
theorem Res.mk_ok {r : Option (Out α × Store)} {d : α} {S' : Store} {k : Al → Store → Hp → α → Prop} (e : r = some (.ok d, S')) (h : ∀ al' H', Xt al S.length H al' S'.length H' → SR B al' S' H' → k al' S' H' d) : Res B W σ al S H r k :=
  ⟨.ok d, S', e, (fun d' q al' H' x y => by cases q; exact h al' H' x y), fun c q => nomatch q⟩
end
theorem noex_ok {α : Type} {m : M α} {S : Store} {r : Out α × Store} (h : noex m S = some r) : ∃ a S', m S = some (.ok a, S') ∧ r = (.ok a, S') := by
  unfold noex at h
  split at h
  · cases h; exact ⟨_, _, by assumption, rfl⟩
  · cases h
theorem bnd_ok {α β : Type} {m : M α} {f : α → M β} {S S' : Store} {b : β} (h : M.bnd m f S = some (.ok b, S')) : ∃ a S1, m S = some (.ok a, S1) ∧ f a S1 = some (.ok b, S') := by
  unfold M.bnd at h
  split at h
  · cases h
  · cases h
  · exact ⟨_, _, by assumption, h⟩
theorem bnd_inv {α β : Type} {m : M α} {f : α → M β} {S S' : Store} {o : Out β} (h : M.bnd m f S = some (o, S')) : (∃ c, m S = some (.ex c, S') ∧ o = .ex c) ∨ ∃ a S1, m S = some (.ok a, S1) ∧ f a S1 = some (o, S') := by
  unfold M.bnd at h
  split at h
  · cases h
  · cases h; exact .inl ⟨_, by assumption, rfl⟩
  · exact .inr ⟨_, _, by assumption, h⟩
theorem compL_ok {g : List (Nat × Cell)} {one : D → M (Option D)} : ∀ {xs acc : List D} {S : Store} {o : Out (List D)} {S' : Store}, compL g one xs acc S = some (o, S') → ∃ ys, o = .ok ys
  | [], acc, S, o, S', h => by
    unfold compL at h
    split at h
    · cases h; exact ⟨_, rfl⟩
    · cases h
  | x :: xs, acc, S, o, S', h => by
    unfold compL at h
    split at h
    · split at h
      · exact compL_ok h
      · split at h
        · exact compL_ok h
        · cases h
      · cases h
    · cases h

/-- one object beside the store changes: what stands in the store stays -/
theorem sqT_upd {K : PySem.W.Frag} {H : Hp} {D : Addr} {vs0 : List V} {o : HO} (hD : H D = some (.lst vs0)) {a : Addr} {vs : List V} (h : SqT K H a vs) : SqT K (upd H D o) a vs := by
  rcases h with (h | ⟨o', h⟩) | h
  · exact .inl (.inl (by rw [upd_ne (fun z => by rw [z, hD] at h; cases h)]; exact h))
  · exact .inl (.inr ⟨o', by rw [upd_ne (fun z => by rw [z, hD] at h; cases h)]; exact h⟩)
  · exact .inr h
theorem fzl_upd {K : PySem.W.Frag} {H : Hp} {D : Addr} {vs0 : List V} {o : HO} (hD : H D = some (.lst vs0)) {a : Addr} {vs : List V} (h : FzL K H a vs) : FzL K (upd H D o) a vs := by
  rcases h with ⟨o', h⟩ | h
  · exact .inl ⟨o', by rw [upd_ne (fun z => by rw [z, hD] at h; cases h)]; exact h⟩
  · exact .inr h
mutual
theorem RV.upd {K : PySem.W.Frag} {al : Al} {n : Nat} {H : Hp} {D : Addr} {vs0 : List V} {o : HO} (hD : H D = some (.lst vs0)) : ∀ {d : Mi.D} {v : V}, RV K al n H d v → RV K al n (L2.upd H D o) d v
  | .non, _, h => h
  | .bl _, _, h => h
  | .int _, _, h => h
  | .str _, _, h => h
  | .tup xs, _, h => by
    simp only [RV] at h ⊢
    obtain ⟨a, vs, e, q, t⟩ := h
    exact ⟨a, vs, e, sqT_upd hD q, RVs.upd hD t⟩
  | .fzl xs, _, h => by
    simp only [RV] at h ⊢
    obtain ⟨a, vs, e, q, t⟩ := h
    exact ⟨a, vs, e, fzl_upd hD q, RVs.upd hD t⟩
  | .loc _, _, h => h
  | .xc _, _, h => h
theorem RVs.upd {K : PySem.W.Frag} {al : Al} {n : Nat} {H : Hp} {D : Addr} {vs0 : List V} {o : HO} (hD : H D = some (.lst vs0)) : ∀ {ds : List Mi.D} {vs : List V}, RVs K al n H ds vs → RVs K al n (L2.upd H D o) ds vs
  | [], _, h => by simp only [RVs] at h ⊢; exact h
  | d :: ds, _, h => by
    simp only [RVs] at h ⊢
    obtain ⟨v, t, e, h1, h2⟩ := h
    exact ⟨v, t, e, RV.upd hD h1, RVs.upd hD h2⟩
end
theorem RC.upd {B : Bs} {al : Al} {n : Nat} {H : Hp} {D : Addr} {vs0 : List V} {o : HO} (hD : H D = Option.some (.lst vs0)) {a : Addr} {c : Cell} (ha : a ≠ D) (h : RC B al n H a c) : RC B al n (L2.upd H D o) a c := by
  cases c with
  | lst xs => obtain ⟨vs, e, q⟩ := h; exact ⟨vs, by rw [upd_ne ha]; exact e, RVs.upd hD q⟩
  | _ => exact False.elim h
theorem SR.upd {B : Bs} {al : Al} {S : Store} {H : Hp} {D : Addr} {vs0 : List V} {o : HO} (r : SR B al S H) (hD : H D = Option.some (.lst vs0)) (hn : ∀ j, j < S.length → al j ≠ D) : SR B al S (L2.upd H D o) :=
  ⟨fun i c e => RC.upd hD (hn i (List.getElem?_eq_some_iff.mp e).1) (r.cell i c e), r.inj⟩
theorem Xt.upd {al al' : Al} {n n' : Nat} {H H' : Hp} {D : Addr} {o : HO} (x : Xt al n H al' n' H') (hD : H D = none) : Xt al n H al' n' (L2.upd H' D o) :=
  ⟨x.ag, x.le, fun b u e hb => by rw [upd_ne (ne_of_none e hD)]; exact x.fr b u e hb, x.nw⟩
/-- an object that stands is taken as a new place -/
theorem SR.adopt {B : Bs} {al : Al} {S : Store} {H : Hp} {D : Addr} {ys : List Mi.D} {vs : List V} (r : SR B al S H) (hD : H D = Option.some (.lst vs)) (hn : ∀ j, j < S.length → al j ≠ D) (t : RVs B.K al S.length H ys vs) :
    SR B (alN al S.length D) (S ++ [.lst ys]) H ∧ Xt al S.length H al S.length H := by
  have x : Xt al S.length H (alN al S.length D) S.length H := ⟨fun i h => alN_lt h, Nat.le_refl _, fun _ _ e _ => e, fun i h1 h2 => absurd h2 (Nat.not_lt.mpr h1)⟩
  have rvup : ∀ {ds : List Mi.D} {vs}, RVs B.K al S.length H ds vs → RVs B.K (alN al S.length D) (S.length + 1) H ds vs := fun {ds vs} h => by
    have h1 := RVs.mono r x h
    have hb : Mi.D.bels (S.length + 1) ds = true := by
      have := RVs.bel h1
      exact bels_le this (Nat.le_succ _)
    exact RVs.down h1 hb
  refine ⟨⟨fun i c e => ?_, fun i j hi hj z => ?_⟩, Xt.refl⟩
  · rw [List.length_append, List.length_singleton]
    by_cases hi : i < S.length
    · rw [List.getElem?_append_left hi] at e
      rw [alN_lt hi]
      have rc := r.cell i c e
      cases c with
      | lst xs => obtain ⟨ws, e1, q⟩ := rc; exact ⟨ws, e1, rvup q⟩
      | _ => exact False.elim rc
    · have h2 : i < (S ++ [Cell.lst ys]).length := (List.getElem?_eq_some_iff.mp e).1
      rw [List.length_append, List.length_singleton] at h2
      have : i = S.length := by omega
      subst this
      rw [List.getElem?_append_right (Nat.le_refl _)] at e
      simp at e
      subst e
      rw [alN_eq]
      exact ⟨vs, hD, rvup t⟩
  · rw [List.length_append, List.length_singleton] at hi hj
    by_cases h1 : i < S.length <;> by_cases h2 : j < S.length
    · rw [alN_lt h1, alN_lt h2] at z; exact r.inj i j h1 h2 z
    · have : j = S.length := by omega
      subst this
      rw [alN_lt h1, alN_eq] at z
      exact absurd z (hn i h1)
    · have : i = S.length := by omega
      subst this
      rw [alN_lt h2, alN_eq] at z
      exact absurd z.symm (hn j h2)
    · omega

/-- a turn of a comprehension -/
def lcOne (t : Tg) (vs : List Nat) (mc : Env → M Bool) (me : Env → M D) (ρ : Env) : D → M (Option D) :=
  fun x => M.bnd (M.of (bindT t x (wipeE ρ vs))) fun ρ' => noex (M.bnd (mc ρ') fun c => if c then M.bnd (me ρ') fun y => M.ret (some y) else M.ret none)
section
variable {X : Cx} {W : WX} {tg iter elt : Expr} {ifs : List Expr} {scope : Scope} {own : List (Str × Nat)} {pos : Pos} {t : Tg} {mi : Env → M Src} {mc : Env → M Bool} {me : Env → M D}
/-- the reading of a comprehension -/
theorem lc_read {σ : L2.St} {H : Hp} {Q : VK} {vs : List Nat} (hv : ∀ j, j ∈ tgV t → j ∈ vs)
    (h : tE (bs X) W (fun ρ => M.bnd (mi ρ) fun src => M.bnd (compL src.2 (lcOne t vs mc me ρ) src.1 []) fun ys => M.new (.lst ys)) σ H Q) :
    tLc (tI (bs X) W mi) (gTg X.K t) (tT (bs X) W0 mc) (tE (bs X) W0 me) vs σ H Q := by
  obtain ⟨al, ρ, S, sr, re, R⟩ := h
  refine ⟨al, ρ, S, sr, re, R.bnd.imp fun al1 S1 H1 src x1 sr1 _ R1 => ?_⟩
  have re1 := re.mono sr x1
  obtain ⟨o, Sf, eq, h1, h2⟩ := R1
  rcases bnd_inv eq with ⟨c, hc, _⟩ | ⟨ys, S2, hc, eq2⟩
  · obtain ⟨ys, z⟩ := compL_ok hc
    cases z
  clear eq
  obtain ⟨items, g⟩ := src
  simp only at hc h1
  unfold M.new at eq2
  cases eq2
  have st0 : stays S1 g = true := by
    cases items <;> (unfold compL at hc; split at hc <;> first | assumption | (cases hc; done))
  refine ⟨st0, fun J SJ D hD => ?_⟩
  have nD : ∀ j, j < S1.length → al1 j ≠ D := fun j hj z => by
    obtain ⟨o2, e2, _⟩ := sr1.some hj
    rw [z, hD] at e2; cases e2
  refine ⟨fun i m Hc => m = items.length - i ∧ i ≤ items.length ∧ ∃ al' S' acc ws, Xt al1 S1.length H1 al' S'.length Hc ∧ SR (bs X) al' S' Hc ∧ (∀ j, j < S'.length → al' j ≠ D) ∧ Hc D = some (.lst ws) ∧ RVs X.K al' S'.length Hc acc ws ∧
    compL g (lcOne t vs mc me ρ) (items.drop i) acc S' = some (.ok ys, S2),
    ⟨items.length, by simp, Nat.zero_le _, al1, S1, [], [], (Xt.side hD), SR.side sr1 hD, nD, upd_same, RVs.nil, by simpa using hc⟩, ?_⟩
  rintro i m Hc ⟨rfl, hi, al', S', acc, ws, x, sr', nD', hDc, ta, ec⟩
  by_cases hlt : i < items.length
  · refine .inr ?_
    obtain ⟨it, hit⟩ : ∃ it, items[i]? = some it := ⟨items[i], by simp [hlt]⟩
    have ed : items.drop i = it :: items.drop (i + 1) := by
      rw [List.drop_eq_getElem_cons hlt]
      congr 1
      have := List.getElem?_eq_getElem hlt
      rw [this] at hit
      exact Option.some.inj hit
    rw [ed] at ec
    unfold compL at ec
    split at ec
    case isFalse => cases ec
    rename_i hst
    refine ⟨SJ.go al' S' Hc i x sr' hst hlt, _, fun H' q => ⟨items.length - (i + 1), by omega, q⟩, fun v H' y => ?_⟩
    obtain ⟨xy, sry, rvy⟩ := SJ.yld al' S' Hc i it v H' x sr' hst hit y
    have hDy : H' D = some (.lst ws) := xy.fr D _ hDc nD'
    have re' : RE X.K al' S'.length H' ρ σ := (re1.mono sr1 x).mono sr' xy
    have xH : Xt al1 S1.length H1 al' S'.length H' := Xt.trans sr' x xy
    have taH := ta.mono sr' xy
    -- the element's run
    have key : ∃ ρ' r S3, bindT t it (wipeE ρ vs) = some ρ' ∧ M.bnd (mc ρ') (fun c => if c then M.bnd (me ρ') fun y => M.ret (some y) else M.ret none) S' = some (.ok r, S3) ∧
        ((r = none ∧ compL g (lcOne t vs mc me ρ) (items.drop (i + 1)) acc S3 = some (.ok ys, S2)) ∨
          ∃ y, r = some y ∧ acc.length < szl ∧ compL g (lcOne t vs mc me ρ) (items.drop (i + 1)) (acc ++ [y]) S3 = some (.ok ys, S2)) := by
      split at ec
      · rename_i S3 ho
        obtain ⟨ρ', S4, e1, e2⟩ := bnd_ok ho
        unfold M.of at e1
        split at e1
        · cases e1
        · rename_i ρ1 hb
          cases e1
          obtain ⟨a, S5, e3, e4⟩ := noex_ok e2
          cases e4
          exact ⟨_, _, _, hb, e3, .inl ⟨rfl, ec⟩⟩
      · rename_i y S3 ho
        split at ec
        case isFalse => cases ec
        rename_i hz
        obtain ⟨ρ', S4, e1, e2⟩ := bnd_ok ho
        unfold M.of at e1
        split at e1
        · cases e1
        · rename_i ρ1 hb
          cases e1
          obtain ⟨a, S5, e3, e4⟩ := noex_ok e2
          cases e4
          exact ⟨_, _, _, hb, e3, .inr ⟨_, rfl, hz, ec⟩⟩
      · cases ec
    obtain ⟨ρ', r, S3, hb, e3, ek⟩ := key
    refine bindT_ok hb (re'.wipe vs) rvy fun σ2 re2 k2 => ?_
    have hl2 : σ2.length = (L2.wipe σ vs).length := by rw [← re2.1, ← (re'.wipe vs).1]; exact bindT_len hb
    refine ⟨?_, ?_⟩
    · have e1 : L2.wipe σ2 vs = L2.wipe (L2.wipe σ vs) vs := wipe_same hl2 fun j hj => k2 j fun z => hj (hv j z)
      rw [e1]
      exact wipe_same (by rw [wipe_length]) fun j hj => wipe_at hj
    · obtain ⟨c, S4, e4, e5⟩ := bnd_ok e3
      refine ⟨al', ρ', S', sry, re2, Res.mk_ok e4 fun al4 H4 x4 sr4 => ?_⟩
      have xH4 : Xt al1 S1.length H1 al4 S4.length H4 := Xt.trans sry xH x4
      have nD4 : ∀ j, j < S4.length → al4 j ≠ D := fun j hj z => by
        by_cases hj' : j < S'.length
        · rw [x4.ag j hj'] at z; exact nD' j hj' z
        · have := x4.nw j (Nat.le_of_not_lt hj') hj
          rw [z, hDy] at this; cases this
      have hD4 : H4 D = some (.lst ws) := x4.fr D _ hDy nD'
      have ta4 := taH.mono sry x4
      cases c with
      | false =>
        simp only [Bool.false_eq_true, if_false] at e5 ⊢
        cases e5
        rcases ek with ⟨_, ek⟩ | ⟨y, z, _⟩
        · exact ⟨(by trivial), hlt, al4, _, acc, ws, xH4, sr4, nD4, hD4, ta4, ek⟩
        · cases z
      | true =>
        simp only [if_true] at e5 ⊢
        obtain ⟨y, S5, e6, e7⟩ := bnd_ok e5
        cases e7
        rcases ek with ⟨z, _⟩ | ⟨y', z, ek⟩
        · cases z
        cases z
        refine ⟨al4, ρ', S4, sr4, re2.mono sry x4, Res.mk_ok e6 fun al5 H5 x5 sr5 u ru => ?_⟩
        have xH5 : Xt al1 S1.length H1 al5 S3.length H5 := Xt.trans sr4 xH4 x5
        have nD5 : ∀ j, j < S3.length → al5 j ≠ D := fun j hj z => by
          by_cases hj' : j < S4.length
          · rw [x5.ag j hj'] at z; exact nD4 j hj' z
          · have := x5.nw j (Nat.le_of_not_lt hj') hj
            rw [z, hD4] at this; cases this
        have hD5 : H5 D = some (.lst ws) := x5.fr D _ hD4 nD4
        have ta5 := ta4.mono sr4 x5
        refine ⟨ws, hD5, by rw [← ta5.length]; exact ek.1, (by trivial), hlt, al5, _, acc ++ [y], ws ++ [u], Xt.upd xH5 hD, SR.upd sr5 hD5 nD5, nD5, upd_same, RVs.upd hD5 (ta5.append (.one ru)), ek.2⟩
  · refine .inl ?_
    have hie : i = items.length := by omega
    subst hie
    rw [List.drop_length] at ec
    unfold compL at ec
    split at ec
    case isFalse => cases ec
    rename_i hst
    obtain ⟨e8, e9⟩ : Out.ok acc = Out.ok ys ∧ S' = S2 := by cases ec; exact ⟨rfl, rfl⟩
    subst e9
    cases e8
    refine ⟨SJ.stop al' S' Hc x sr' hst, ?_⟩
    refine h1 _ rfl (alN al' S'.length D) Hc ?_ (SR.adopt sr' hDc nD' ta).1 (.ref D) ?_
    · rw [List.length_append, List.length_singleton]
      refine ⟨fun j hj => by rw [alN_lt (Nat.lt_of_lt_of_le hj x.le)]; exact x.ag j hj, Nat.le_succ_of_le x.le, x.fr, fun j hj1 hj2 => ?_⟩
      by_cases hj : j < S'.length
      · rw [alN_lt hj]; exact x.nw j hj1 hj
      · have : j = S'.length := by omega
        subst this
        rw [alN_eq]; exact hD
    · rw [rv_loc, List.length_append, List.length_singleton]
      exact ⟨by rw [alN_eq], Nat.lt_succ_self _⟩
end
end Mi

set_option Elab.async false
set_option linter.all false
set_option maxRecDepth 100000
/-! Mi9: which program text an expression of Mi1 stands for, and that it does what it says. -/
namespace Mi
open PySem PySem.Spec PyProof.Rows L2

structure Pk where
  fs : List String
  bis : List String
  gls : List String

def visB (sc : Scope) (x : Str) : Bool := match sc.names.lookup x with
  | some .local => true
  | some .cell => true
  | some .free => true
  | _ => false
def glB (sc : Scope) (x : Str) : Bool := decide (sc.names.lookup x = some .globalImplicit) && !(x == ("__debug__" : Str)) && !decide (x = ("__name__" : Str))
def locB (sc : Scope) (fnm : Str → Bool) (x : Str) : Bool := match sc.names.lookup x with
  | some .local => true
  | some .cell => fnm x
  | _ => false
def isSlice : Expr → Bool
  | .Slice _ _ _ _ => true
  | _ => false
def eqN (a b : Expr) : Bool := match a, b with
  | .Constant .none _ _, _ => true
  | _, _ => true
/-- the own slots of a comprehension -/
def ownOf (N : List Str) (scope : Scope) : List (Str × Nat) := scope.names.filterMap fun y => match y.2 with
  | .local => (N.idxOf? y.1).map fun i => (y.1, i)
  | .cell => (N.idxOf? y.1).map fun i => (y.1, i)
  | _ => none

def chkTg (N : List Str) (sc : Scope) (fnm : Str → Bool) : Nat → Expr → Tg → Bool
  | 0, _, _ => false
  | n + 1, e, t => match e, t with
    | .Name x _, .nm i => decide (N[i]? = some x) && locB sc fnm x
    | .Tuple es _ _, .tup ts => decide (es.length = ts.length) && es.all noStar && (es.zip ts).all fun p => chkTg N sc fnm n p.1 p.2
    | _, _ => false

def notIf : Expr → Bool
  | .IfExp _ _ _ _ => false
  | _ => true
def solo : Expr → Option Expr
  | .BoolOp _ [a] _ => some a
  | _ => none
def zipAll (p : Expr → Ex → Bool) : List Expr → List Ex → Bool
  | [], [] => true
  | e :: es, i :: is => noStar e && p e i && zipAll p es is
  | _, _ => false
/-- what is walked, by a check of expressions -/
def chkIt (pk : Pk) (p : Expr → Ex → Bool) (sc : Scope) (iter : Expr) (k : Nat) (xs : List Ex) : Bool := match k with
  | 0 => (match iter with | .Set _ _ _ => false | _ => (match xs with | [x] => p iter x | _ => false))
  | 1 => (match iter with
    | .Call (.Name x _) [e] [] _ => decide (x = nm "range") && glB sc x && pk.bis.contains "range" && zipAll p [e] xs
    | _ => false)
  | 2 => (match iter with
    | .Call (.Name x _) [e, f] [] _ => decide (x = nm "range") && glB sc x && pk.bis.contains "range" && zipAll p [e, f] xs
    | _ => false)
  | _ => false
def chkE (pk : Pk) (N : List Str) : Nat → Scope → Expr → Ex → Bool
  | 0, _, _, _ => false
  | n + 1, sc, e, ir => match solo e with
    | some a => notIf a && chkE pk N n sc a ir
    | none => match ir with
      | .non => (match e with | .Constant .none _ _ => true | _ => false)
      | .bl b' => (match e with | .Constant (.bool b) _ _ => decide (b = b') | _ => false)
      | .int j => (match e with | .Constant (.int i) _ _ => decide (i = j) | _ => false)
      | .str s => (match e with | .Constant (.str x) _ _ => decide (x = txS s) && decide (s.length ≤ 1000) && s.all (fun c => decide (c < 1114112)) | _ => false)
      | .var i => (match e with | .Name x _ => decide (N[i]? = some x) && visB sc x && !(x == ("__debug__" : Str)) && !(x == ("__classdict__" : Str)) | _ => false)
      | .glob g => (match e with | .Name x _ => decide (x = nm g) && glB sc x && pk.gls.contains g | _ => false)
      | .op o' a' b' => (match e with | .BinOp a o b _ => decide (o = opN o') && decide (o' ≠ .band) && chkE pk N n sc a a' && chkE pk N n sc b b' | _ => false)
      | .neg a' => (match e with | .UnaryOp .USub a _ => chkE pk N n sc a a' | _ => false)
      | .not a' => (match e with | .UnaryOp .Not a _ => notIf a && chkE pk N n sc a a' | _ => false)
      | .cmp c' a' b' => (match e with | .Compare a [c] [b] _ => decide (c = cpN c') && !behindInMarks c b && chkE pk N n sc a a' && chkE pk N n sc b b' | _ => false)
      | .chain c' d' a' b' f' => (match e with
          | .Compare a [c, d] [b, f] _ => decide (c = cpN c') && decide (d = cpN d') && !lastMarks [c, d] [b, f] && chkE pk N n sc a a' && chkE pk N n sc b b' && chkE pk N n sc f f'
          | _ => false)
      | .and a' r' => (match e with | .BoolOp .And (a :: b :: r) p => notIf a && chkE pk N n sc a a' && chkE pk N n sc (.BoolOp .And (b :: r) p) r' | _ => false)
      | .or a' r' => (match e with | .BoolOp .Or (a :: b :: r) p => notIf a && chkE pk N n sc a a' && chkE pk N n sc (.BoolOp .Or (b :: r) p) r' | _ => false)
      | .ite c' a' b' => (match e with | .IfExp c a b _ => notIf c && chkE pk N n sc c c' && chkE pk N n sc a a' && chkE pk N n sc b b' | _ => false)
      | .tup es' => (match e with | .Tuple es _ _ => decide (es'.length ≤ 1000) && zipAll (chkE pk N n sc) es es' | _ => false)
      | .lst es' => (match e with | .List es _ => decide (es'.length ≤ 1000) && zipAll (chkE pk N n sc) es es' | _ => false)
      | .slice a' lo' hi' => (match e with
          | .Subscript a (.Slice lo hi none _) _ => chkE pk N n sc a a' &&
            (match lo, lo' with | none, none => true | some l, some l' => chkE pk N n sc l l' | _, _ => false) &&
            (match hi, hi' with | none, none => true | some l, some l' => chkE pk N n sc l l' | _, _ => false)
          | _ => false)
      | .ix a' b' => (match e with | .Subscript a b _ => !isSlice b && chkE pk N n sc a a' && chkE pk N n sc b b' | _ => false)
      | .call g es' => (match e with | .Call (.Name x _) (a :: es) [] _ => decide (x = nm g) && glB sc x && pk.fs.contains g && zipAll (chkE pk N n sc) (a :: es) es' | _ => false)
      | .bi b es' => (match e, biN b with
          | .Call (.Name x _) (a :: es) [] _, some (s, _) => decide (x = nm s) && glB sc x && pk.bis.contains s && zipAll (chkE pk N n sc) (a :: es) es'
          | _, _ => false)
      | .isi e' ts => (match e, ts with
          | .Call (.Name x _) [a, .Name y _] [] _, [t] => (match tyN t with
            | some T => decide (x = nm "isinstance") && glB sc x && pk.bis.contains "isinstance" && decide (y = nm T) && glB sc y && pk.bis.contains T && noStar a && chkE pk N n sc a e'
            | none => false)
          | _, _ => false)
      | .mt m o' es' => (match e, m with
          | .Call (.Attribute o x ap) [a] [] cp, .append => decide (x = nm "append") && (ap.endLine == cp.line) && abOk o && chkE pk N n sc o o' && zipAll (chkE pk N n sc) [a] es'
          | .Call (.Attribute o x ap) [] [] cp, .upper => decide (x = nm "upper") && (ap.endLine == cp.line) && abOk o && chkE pk N n sc o o' && es'.isEmpty
          | _, _ => false)
      | .lc elt' t k xs cs vs => (match e with
          | .ListComp elt [⟨tg, iter, ifs, 0⟩] scope _ => blkC N sc scope (ownOf N scope) && decide ((ownOf N scope).map (·.2) = vs) && (tgV t).all (fun j => vs.contains j) && chkTg N (relS scope sc) (fun x => scope.names.lookup x == some .cell) n tg t &&
            chkIt pk (chkE pk N n sc) sc iter k xs &&
            (match ifs, cs with
              | [], [] => true
              | [c], [c'] => notIf c && chkE pk N n (relS scope sc) c c'
              | _, _ => false) &&
            chkE pk N n (relS scope sc) elt elt'
          | _ => false)
      | _ => false
/-! ### what the context gives -/
def spF (B : Bs) (m : List D → M D) : Sp := fun vs H Q E => ∃ al S ds, SR B al S H ∧ RVs B.K al S.length H ds vs ∧
  Res B (fun c d _ H => E c d H) [] al S H (m ds S) (fun al' S' H' d => ∀ v, RV B.K al' S'.length H' d v → Q v H')
structure Lk (B : Bs) (cl : Cl) (k : Nat) (pk : Pk) : Prop where
  fns : ∀ f, pk.fs.contains f = true → ∃ a fd ps, B.mg (nm f) = some (.ref a) ∧ PySem.W.keepIn B.K (.ref a) = true ∧ Binds B.K fd ps [] ∧ FnOk B.P B.w B.K B.mg B.base (L2.CX B.P B.w) k a fd ps (spF B (cl.fn f))
  bis : ∀ x, pk.bis.contains x = true → B.mg (nm x) = none
  gl : ∀ x d, pk.gls.contains x = true → cl.gl x = some d → ∃ u v, B.mg (nm x) = some u ∧ RelV v u ∧ ∀ al n H, RV B.K al n H d v
structure XOk (pk : Pk) (N : List Str) (cl : Cl) (X : Cx) : Prop where
  hN : X.N = N
  nd : N.Nodup
  calm : X.calm = true
  room : ∃ k, Room k X.A ∧ Lk (bs X) cl k pk
theorem XOk.blk {pk : Pk} {N : List Str} {cl : Cl} {X : Cx} (h : XOk pk N cl X) (s : Shared) (H : Hp) (scope : Scope) (cenv : PySem.Env) (fp : List Addr) : XOk pk N cl (X.blk s H scope cenv fp) :=
  ⟨h.hN, h.nd, h.calm, h.room⟩
section
variable {pk : Pk} {N : List Str} {cl : Cl} {X : Cx}
theorem XOk.units (h : XOk pk N cl X) : X.A.units + 65 < cLine := by
  obtain ⟨k, r, _⟩ := h.room
  have := r.un
  omega
theorem visB_ok {sc : Scope} {x : Str} (h : visB sc x = true) : Vis sc x := by
  unfold visB at h
  split at h
  · exact .inl (by assumption)
  · exact .inr (.inl (by assumption))
  · exact .inr (.inr (by assumption))
  · cases h
theorem glB_ok {x : Str} (h : glB X.env.scope x = true) : Gl X x ∧ (x == ("__debug__" : Str)) = false ∧ x ≠ "__name__" := by
  unfold glB at h
  simp only [Bool.and_eq_true, decide_eq_true_eq, Bool.not_eq_true'] at h
  exact ⟨h.1.1, h.1.2, of_decide_eq_false h.2⟩
theorem locB_ok {sc : Scope} {fnm : Str → Bool} {x : Str} (h : locB sc fnm x = true) : Loc sc x ∧ (fnm x = true ∨ sc.names.lookup x = some .local) := by
  unfold locB at h
  split at h
  · exact ⟨.inl (by assumption), .inr (by assumption)⟩
  · exact ⟨.inr (by assumption), .inl h⟩
  · cases h
theorem assignEach_len {env : PySem.Env} : ∀ {es : List Expr}, es.all noStar = true → (assignEach es env).length = es.length ∧ (assignEach es env).findIdx? (·.1) = none ∧ True
  | [], _ => ⟨rfl, rfl, trivial⟩
  | e :: es, h => by
    rw [List.all_cons, Bool.and_eq_true] at h
    obtain ⟨h1, h2, _⟩ := assignEach_len (env := env) h.2
    have e1 : assignEach (e :: es) env = (false, assign e env) :: assignEach es env := by
      cases e <;> first | rfl | (exfalso; simp [noStar] at h)
    rw [e1]
    refine ⟨by simp [h1], ?_, trivial⟩
    rw [List.findIdx?_cons]
    simp [h2]
theorem pgs_ok {ts : List Tg} : ∀ {es : List Expr} {ts : List Tg}, es.length = ts.length → es.all noStar = true → (∀ p ∈ es.zip ts, PG X p.1 (gTg X.K p.2)) → PGs X es (gTgs X.K ts)
  | [], [], _, _, _ => by simp only [gTgs]; exact pgs_nil
  | e :: es, t :: ts, hl, hs, h => by
    simp only [gTgs]
    rw [List.all_cons, Bool.and_eq_true] at hs
    refine pgs_cons (h (e, t) (by simp)) (pgs_ok (ts := ts) (by simpa using hl) hs.2 fun p hp => h p (by simp [hp])) ?_
    cases e <;> first | rfl | (exfalso; simp [noStar] at hs)
  | [], _ :: _, hl, _, _ => by simp at hl
  | _ :: _, [], hl, _, _ => by simp at hl
theorem pg_ok {fnm : Str → Bool} (h : XOk pk N cl X) (hf : ∀ x, fnm x = true → X.fn x = true) : ∀ {n : Nat} {e : Expr} {t : Tg}, chkTg N X.env.scope fnm n e t = true → PG X e (gTg X.K t)
  | 0, _, _, q => by simp [chkTg] at q
  | n + 1, e, t, q => by
    unfold chkTg at q
    split at q
    · rename_i x _ i
      simp only [Bool.and_eq_true, decide_eq_true_eq] at q
      obtain ⟨h1, h2⟩ := locB_ok q.2
      simp only [gTg]
      exact pg_name (by rw [h.hN]; exact h.nd) (by rw [h.hN]; exact q.1) h1 (h2.imp (hf x) id)
    · rename_i es _ _ ts
      simp only [Bool.and_eq_true, decide_eq_true_eq, List.all_eq_true] at q
      obtain ⟨⟨q1, q2⟩, q3⟩ := q
      have q2' : es.all noStar = true := List.all_eq_true.mpr q2
      simp only [gTg]
      refine pg_tup h.calm (pgs_ok (ts := ts) q1 q2' fun p hp => pg_ok h hf (q3 p hp)) ?_ ?_
      · rw [(assignEach_len q2').1, q1]
      · exact (assignEach_len q2').2.1
    · cases q
end
end Mi

set_option Elab.async false
set_option linter.all false
set_option maxRecDepth 100000
/-! Mi10: expressions do what Mi1 says. -/
namespace Mi
open PySem PySem.Spec PyProof.Rows L2

section
variable {pk : Pk} {N : List Str} {cl : Cl} {X : Cx} {W : WX}
/-- an argument list, item by item -/
theorem zipAll_star {p : Expr → Ex → Bool} : ∀ {es : List Expr} {irs : List Ex}, zipAll p es irs = true → es.all noStar = true ∧ es.length = irs.length
  | [], [], _ => ⟨rfl, rfl⟩
  | e :: es, i :: irs, h => by
    simp only [zipAll, Bool.and_eq_true] at h
    obtain ⟨h1, h2⟩ := zipAll_star h.2
    exact ⟨by rw [List.all_cons, h.1.1, h1]; rfl, by simp [h2]⟩
  | [], _ :: _, h => by simp [zipAll] at h
  | _ :: _, [], h => by simp [zipAll] at h
theorem pa_ok {cl : Cl} {p : Expr → Ex → Bool} (hp : ∀ e i, p e i = true → PE X e (tE (bs X) W (evE cl i))) : ∀ {es : List Expr} {irs : List Ex}, zipAll p es irs = true → PA X es (tA (bs X) W (evEs cl irs))
  | [], [], _ => PA.imp pa_nil fun σ H Q h => by
    obtain ⟨al, ρ, S, sr, re, R⟩ := h
    simp only [evEs] at R
    exact R.ret sr [] .nil
  | e :: es, i :: irs, h => by
    simp only [zipAll, Bool.and_eq_true] at h
    refine PA.imp (pa_cons' (hp e i h.1.2) (pa_ok hp h.2) h.1.1) fun σ H Q hh => ?_
    obtain ⟨al, ρ, S, sr, re, R⟩ := hh
    simp only [evEs] at R
    refine ⟨al, ρ, S, sr, re, R.bnd.imp fun al1 S1 H1 x x1 sr1 _ R1 v rv => ?_⟩
    refine ⟨al1, ρ, S1, sr1, re.mono sr x1, R1.bnd.imp fun al2 S2 H2 xs x2 sr2 _ R2 vs rs => ?_⟩
    exact R2.ret sr2 (v :: vs) (.cons (rv.mono sr1 x2) rs)
  | [], _ :: _, h => by simp [zipAll] at h
  | _ :: _, [], h => by simp [zipAll] at h
/-- a test of a value -/
def plainT : Expr → Bool
  | .Compare _ _ _ _ => false
  | .BoolOp _ _ _ => false
  | .UnaryOp .Not _ _ => false
  | _ => true
theorem pt_of {e : Expr} {m : Env → M D} (h : PE X e (tE (bs X) W m)) (he : ∀ whole, isTrue e X.env whole = (do let v ← whole; standAt e.pos; holding [v] (PySem.truthy v))) : PT X e (tT (bs X) W fun ρ => M.bnd (m ρ) Mi.truthy) := by
  refine PT.imp (pt_truth h he) fun σ H Q hh => ?_
  obtain ⟨al, ρ, S, sr, re, R⟩ := hh
  exact ⟨al, ρ, S, sr, re, R.bnd.imp fun al1 S1 H1 x x1 sr1 _ R1 v rv => truthy_ok sr1 rv R1⟩

theorem bnd_assoc {α β γ : Type} (m : M α) (f : α → M β) (g : β → M γ) (S : Store) : M.bnd m (fun a => M.bnd (f a) g) S = M.bnd (M.bnd m f) g S := by
  unfold M.bnd
  cases m S with
  | none => rfl
  | some p =>
    obtain ⟨o, S1⟩ := p
    cases o <;> rfl
theorem bnd_congr {α β : Type} {m : M α} {f g : α → M β} {S : Store} (h : ∀ a S, f a S = g a S) : M.bnd m f S = M.bnd m g S := by
  unfold M.bnd
  cases m S with
  | none => rfl
  | some p =>
    obtain ⟨o, S1⟩ := p
    cases o with
    | ex c => rfl
    | ok a => exact h a S1
theorem truthy_pure {x : D} {S S' : Store} {o : Out Bool} (h : Mi.truthy x S = some (o, S')) : ∃ b, o = .ok b ∧ S' = S := by
  unfold Mi.truthy at h
  cases x <;> first | (cases h; exact ⟨_, rfl, rfl⟩) | (cases h; done) | skip
  rename_i n
  unfold M.bnd M.get at h
  cases hc : S[n]? with
  | none => simp only [hc] at h; cases h
  | some c => simp only [hc] at h; cases c <;> first | (cases h; exact ⟨_, rfl, rfl⟩) | (cases h; done)
theorem evEs_len {cl : Cl} : ∀ {irs : List Ex} {ρ : Env} {S S' : Store} {ds : List D}, evEs cl irs ρ S = some (.ok ds, S') → ds.length = irs.length
  | [], _, _, _, _, h => by simp only [evEs] at h; cases h; rfl
  | i :: irs, ρ, S, S', ds, h => by
    simp only [evEs] at h
    obtain ⟨x, S1, e1, e2⟩ := bnd_ok h
    obtain ⟨xs, S2, e3, e4⟩ := bnd_ok e2
    cases e4
    simp [evEs_len e3]
theorem lookup_ok {cl : Cl} {f : String} {p pos : Pos} {e : Expr} {es : List Expr} {ma : Env → M (List D)} (h : XOk pk N cl X) (tk : Takes X W) (hf : pk.fs.contains f = true) (hg : glB X.env.scope (nm f) = true)
    (ha : PA X (e :: es) (tA (bs X) W ma)) (hs : (e :: es).all noStar = true) : PE X (.Call (.Name (nm f) p) (e :: es) [] pos) (tE (bs X) W fun ρ => M.bnd (ma ρ) fun ds => cl.fn f ds) := by
  obtain ⟨k, hr, L⟩ := h.room
  obtain ⟨a, fd, ps, h1, h2, h3, F⟩ := L.fns f hf
  obtain ⟨g1, g2, g3⟩ := glB_ok hg
  rw [List.all_cons, Bool.and_eq_true] at hs
  refine PE.imp (pe_callS (E := WE W) F hr g1 h1 h2 h3 (fun σ => passAt tk σ) ha g2 (starEach_cons hs.1) (starEach_plain hs.2 _)) fun σ H Q hh => ?_
  obtain ⟨al, ρ, S, sr, re, R⟩ := hh
  exact ⟨al, ρ, S, sr, re, R.bnd.imp fun al1 S1 H1 ds x1 sr1 _ R1 vs rs => ⟨al1, S1, ds, sr1, rs, R1⟩⟩
end

section
variable {pk : Pk} {N : List Str} {cl : Cl} {X : Cx} {W : WX}
/-- a constant -/
theorem pe_const {e : Expr} {d : D} {v : V} {m : Env → M D} (h : PE X e (L2.tC v)) (hm : ∀ ρ S, m ρ S = some (.ok d, S)) (rv : ∀ al n H, RV X.K al n H d v) : PE X e (tE (bs X) W m) := PE.imp h fun σ H Q h => by
  obtain ⟨al, ρ, S, sr, re, R⟩ := h
  rw [hm] at R
  exact Res.ok R Xt.refl sr v (rv _ _ _)
def isBoolOp : Expr → Bool
  | .BoolOp _ _ _ => true
  | _ => false
structure SE (X : Cx) (W : WX) (cl : Cl) (e : Expr) (ir : Ex) : Prop where
  pe : PE X e (tE (bs X) W (evE cl ir))
  pt : notIf e = true → PT X e (tT (bs X) W (evT cl ir))
  pw : isBoolOp e = true → PW X e (tT (bs X) W (evT cl ir))
theorem SE.of {cl : Cl} {e : Expr} {ir : Ex} (p : PE X e (tE (bs X) W (evE cl ir))) (he : ∀ whole, isTrue e X.env whole = (do let v ← whole; standAt e.pos; holding [v] (PySem.truthy v)) := by intro _; rfl) (hb : isBoolOp e = false := by rfl) : SE X W cl e ir := ⟨p, fun _ => pt_of p he, fun z => by rw [hb] at z; cases z⟩
theorem se_none {cl : Cl} {k : Nat} {pos : Pos} : SE X W cl (.Constant .none k pos) .non := .of (pe_const pe_non (fun _ _ => rfl) fun _ _ _ => by simp [RV])
theorem se_bl {cl : Cl} {k : Nat} {pos : Pos} {b : Bool} : SE X W cl (.Constant (.bool b) k pos) (.bl b) := .of (pe_const pe_bl (fun _ _ => rfl) fun _ _ _ => by simp [RV])
theorem se_int {cl : Cl} {k : Nat} {pos : Pos} {i : Int} : SE X W cl (.Constant (.int i) k pos) (.int i) := .of (pe_const pe_int (fun _ _ => rfl) fun _ _ _ => by simp [RV])
theorem se_str {cl : Cl} {k : Nat} {pos : Pos} {s : Tx} (h1 : s.length ≤ 1000) (h2 : s.all (fun c => decide (c < 1114112)) = true) : SE X W cl (.Constant (.str (txS s)) k pos) (.str s) :=
  .of (pe_const pe_str (fun _ _ => rfl) fun _ _ _ => by rw [rv_str]; exact ⟨rfl, by unfold szl; omega, h2⟩)
theorem se_var {cl : Cl} {x : Str} {pos : Pos} {i : Nat} (hN : X.N[i]? = some x) (hv : visB X.env.scope x = true) (h1 : (x == ("__debug__" : Str)) = false) (h2 : (x == ("__classdict__" : Str)) = false) : SE X W cl (.Name x pos) (.var i) :=
  .of (PE.imp (pe_var hN (visB_ok hv) h1 h2) fun σ H Q h => by
    obtain ⟨al, ρ, S, sr, re, R⟩ := h
    simp only [evE] at R
    obtain ⟨d, e, k⟩ := Res.of' sr R
    have e' : ρ[i]? = some (some d) := by
      cases h : ρ[i]? with
      | none => rw [h] at e; cases e
      | some o => rw [h] at e; exact congrArg some e
    obtain ⟨v, e2, rv⟩ := re.2 i d e'
    exact ⟨v, e2, k v rv⟩)
theorem se_glob {cl : Cl} {g : String} {pos : Pos} (hX : XOk pk N cl X) (q2 : glB X.env.scope (nm g) = true) (q3 : pk.gls.contains g = true) : SE X W cl (.Name (nm g) pos) (.glob g) := by
  obtain ⟨g1, g2, g3⟩ := glB_ok q2
  obtain ⟨k, hr, L⟩ := hX.room
  refine .of ?_
  cases hd : cl.gl g with
  | none =>
    refine ⟨fun pins s σ H Q I h => ?_⟩
    obtain ⟨al, ρ, S, sr, re, R⟩ := h
    simp only [evE, hd] at R
    exact R.none.elim
  | some d =>
    obtain ⟨u, v, m1, m2, m3⟩ := L.gl g d q3 hd
    exact pe_const (pe_glob g1 m1 m2 g2) (fun _ _ => by simp only [evE, hd]; rfl) m3
theorem se_op {cl : Cl} {a b : Expr} {a' b' : Ex} {o : O2} {pos : Pos} (ho : o ≠ .band) (ha : SE X W cl a a') (hb : SE X W cl b b') : SE X W cl (.BinOp a (opN o) b pos) (.op o a' b') :=
  .of (PE.of_st fun σ0 => PE.imp (pe_op (op_ok (W := W) (σ := σ0) ho) ha.1 hb.1) fun σ H Q h => by
    obtain ⟨rfl, h⟩ := h
    simp only [evE] at h
    exact two h fun al S H x y v u sr rv ru R => ⟨al, S, x, y, sr, rv, ru, R⟩)
theorem se_neg {cl : Cl} {a : Expr} {a' : Ex} {pos : Pos} (ha : SE X W cl a a') : SE X W cl (.UnaryOp .USub a pos) (.neg a') :=
  .of (PE.imp (pe_un un_neg ha.1) fun σ H Q h => by
    simp only [evE] at h
    refine one h fun al S H ρ x v sr re rv R => ?_
    cases x <;> first | exact R.none.elim | skip
    rw [rv_int] at rv
    exact ⟨_, rv, R.ret sr _ (by simp [RV])⟩)
theorem se_not {cl : Cl} {a : Expr} {a' : Ex} {pos : Pos} (ni : notIf a = true) (ha : SE X W cl a a') : SE X W cl (.UnaryOp .Not a pos) (.not a') :=
  ⟨PE.imp (pe_notT ha.1) fun σ H Q h => by
    simp only [evE] at h
    refine one h fun al S H ρ x v sr re rv R => ?_
    obtain ⟨b, tv, R1⟩ := truthy_ok sr rv R.bnd
    exact ⟨b, tv, R1.ret sr _ (by simp [RV])⟩,
  fun _ => PT.imp (pt_not (ha.pt ni)) fun σ H Q h => by
    obtain ⟨al, ρ, S, sr, re, R⟩ := h
    simp only [evT, evE] at R
    refine ⟨al, ρ, S, sr, re, ?_⟩
    have R1 := R.bnd
    have e : M.bnd (evE cl a' ρ) (fun x => M.bnd (Mi.truthy x) fun k => M.ret (D.bl (!k))) S = M.bnd (evT cl a' ρ) (fun k => M.ret (D.bl (!k))) S := by
      simp only [evT]
      exact bnd_assoc _ _ _ _
    rw [e] at R1
    exact R1.bnd.imp fun al1 S1 H1 b x1 sr1 _ R2 => (R2.ret sr1).ret sr1, fun z => by cases z⟩
/-- a value, then its truth -/
theorem evT_of {cl : Cl} {ir : Ex} {ρ : Env} : evT cl ir ρ = M.bnd (evE cl ir ρ) Mi.truthy := rfl
theorem se_cmp {cl : Cl} {a b : Expr} {a' b' : Ex} {c : Cp} {pos : Pos} (hu : X.A.units + 65 < cLine) (hm : behindInMarks (cpN c) b = false) (ha : SE X W cl a a') (hb : SE X W cl b b') : SE X W cl (.Compare a [cpN c] [b] pos) (.cmp c a' b') := by
  have key : ∀ σ H (Q : Bool → Hp → Prop) (F : Bool → M D), tE (bs X) W (fun ρ => M.bnd (evE cl a' ρ) fun x => M.bnd (evE cl b' ρ) fun y => M.bnd (cmpM c x y) fun k => M.ret (.bl k)) σ H (fun v H' => ∃ k, v = .bl k ∧ Q k H') →
      tOp (rCmp (bs X) W σ (cmpM c)) (tE (bs X) W (evE cl a')) (tE (bs X) W (evE cl b')) σ H (fun v H' => ∃ k, v = .bl k ∧ Q k H') := fun σ H Q F h =>
    two h fun al S H x y v u sr rv ru R => ⟨al, S, x, y, sr, rv, ru, R.bnd.imp fun al1 S1 H1 k x1 sr1 _ R1 => R1.ret sr1 (.bl k) (by simp [RV])⟩
  refine ⟨PE.of_st fun σ0 => PE.imp (pe_cmpR (cmp_ok (W := W) (σ := σ0) hu c) ha.1 hb.1 hm) fun σ H Q h => ?_, fun _ => ⟨fun pins s σ H Q I h => ?_⟩, fun z => by cases z⟩
  · obtain ⟨rfl, h⟩ := h
    simp only [evE] at h
    exact two h fun al S H x y v u sr rv ru R => ⟨al, S, x, y, sr, rv, ru, R.bnd.imp fun al1 S1 H1 k x1 sr1 _ R1 => R1.ret sr1 (.bl k) (by simp [RV])⟩
  · refine (pt_cmpR (cmp_ok (W := W) (σ := σ) hu c) ha.1 hb.1 hm).run pins s σ H Q I ?_
    obtain ⟨al, ρ, S, sr, re, R⟩ := h
    refine key σ H Q (fun _ => M.fail) ⟨al, ρ, S, sr, re, ?_⟩
    have R' := R.bnd
    simp only [evE] at R'
    exact R'.imp fun al1 S1 H1 d x1 sr1 e1 R1 v rv => by
      obtain ⟨x, S2, e2, e3⟩ := bnd_ok e1
      obtain ⟨y, S3, e4, e5⟩ := bnd_ok e3
      obtain ⟨k, S4, e6, e7⟩ := bnd_ok e5
      cases e7
      rw [rv_bl] at rv
      exact ⟨k, rv, R1.ret sr1⟩
theorem se_chain {cl : Cl} {a b d : Expr} {a' b' d' : Ex} {c c2 : Cp} {pos : Pos} (hu : X.A.units + 65 < cLine) (hm : lastMarks [cpN c, cpN c2] [b, d] = false) (ha : SE X W cl a a') (hb : SE X W cl b b') (hd : SE X W cl d d') :
    SE X W cl (.Compare a [cpN c, cpN c2] [b, d] pos) (.chain c c2 a' b' d') := by
  have key : ∀ σ H (Q : VK), tE (bs X) W (evE cl (.chain c c2 a' b' d')) σ H Q →
      tChain (rCmp (bs X) W σ (cmpM c)) (rCmp (bs X) W σ (cmpM c2)) (tE (bs X) W (evE cl a')) (tE (bs X) W (evE cl b')) (tE (bs X) W (evE cl d')) σ H Q := fun σ H Q h => by
    obtain ⟨al, ρ, S, sr, re, R⟩ := h
    simp only [evE] at R
    refine ⟨al, ρ, S, sr, re, R.bnd.imp fun al1 S1 H1 x x1 sr1 _ R1 v rv => ?_⟩
    refine ⟨al1, ρ, S1, sr1, re.mono sr x1, R1.bnd.imp fun al2 S2 H2 y x2 sr2 _ R2 u ru => ?_⟩
    have re2 := (re.mono sr x1).mono sr1 x2
    refine ⟨al2, S2, x, y, sr2, rv.mono sr1 x2, ru, R2.bnd.imp fun al3 S3 H3 k x3 sr3 _ R3 => ⟨k, rfl, ?_⟩⟩
    cases k with
    | false =>
      simp only [Bool.false_eq_true, if_false] at R3 ⊢
      exact R3.ret sr3 (.bl false) (by simp [RV])
    | true =>
      simp only [if_true] at R3 ⊢
      refine ⟨al3, ρ, S3, sr3, re2.mono sr2 x3, R3.bnd.imp fun al4 S4 H4 z x4 sr4 _ R4 w rw' => ?_⟩
      exact ⟨al4, S4, y, z, sr4, (ru.mono sr2 x3).mono sr3 x4, rw', R4.bnd.imp fun al5 S5 H5 k x5 sr5 _ R5 => R5.ret sr5 (.bl k) (by simp [RV])⟩
  refine ⟨⟨fun pins s σ H Q I h => (pe_chain (cmp_ok (W := W) (σ := σ) hu c) (cmp_ok (W := W) (σ := σ) hu c2) ha.1 hb.1 hd.1 hm).run pins s σ H Q I (key σ H Q h)⟩, fun _ => ⟨fun pins s σ H Q I h => ?_⟩, fun z => by cases z⟩
  refine (pt_chain (cmp_ok (W := W) (σ := σ) hu c) (cmp_ok (W := W) (σ := σ) hu c2) ha.1 hb.1 hd.1 hm).run pins s σ H Q I (key σ H _ ?_)
  obtain ⟨al, ρ, S, sr, re, R⟩ := h
  refine ⟨al, ρ, S, sr, re, R.bnd.imp fun al1 S1 H1 dd x1 sr1 e1 R1 v rv => ?_⟩
  obtain ⟨k, rfl⟩ : ∃ k, dd = .bl k := by
    simp only [evE] at e1
    obtain ⟨x, S2, e2, e3⟩ := bnd_ok e1
    obtain ⟨y, S3, e4, e5⟩ := bnd_ok e3
    obtain ⟨k, S4, e6, e7⟩ := bnd_ok e5
    cases k with
    | false => simp only [Bool.false_eq_true, if_false] at e7; cases e7; exact ⟨_, rfl⟩
    | true =>
      simp only [if_true] at e7
      obtain ⟨z, S5, e8, e9⟩ := bnd_ok e7
      obtain ⟨k', S6, e10, e11⟩ := bnd_ok e9
      cases e11
      exact ⟨_, rfl⟩
  rw [rv_bl] at rv
  exact ⟨k, rv, R1.ret sr1⟩
theorem se_ite {cl : Cl} {c a b : Expr} {c' a' b' : Ex} {pos : Pos} (ni : notIf c = true) (hc : SE X W cl c c') (ha : SE X W cl a a') (hb : SE X W cl b b') : SE X W cl (.IfExp c a b pos) (.ite c' a' b') :=
  ⟨PE.imp (pe_ifExp (hc.pt ni) ha.1 hb.1) fun σ H Q h => by
    obtain ⟨al, ρ, S, sr, re, R⟩ := h
    simp only [evE] at R
    rw [bnd_assoc] at R
    refine ⟨al, ρ, S, sr, re, R.bnd.imp fun al1 S1 H1 k x1 sr1 _ R1 => ?_⟩
    cases k with
    | true => simp only [if_true] at R1 ⊢; exact ⟨al1, ρ, S1, sr1, re.mono sr x1, R1⟩
    | false => simp only [Bool.false_eq_true, if_false] at R1 ⊢; exact ⟨al1, ρ, S1, sr1, re.mono sr x1, R1⟩, (fun z => by cases z), fun z => by cases z⟩
theorem se_solo {cl : Cl} {a : Expr} {a' : Ex} {op : BoolOp} {pos : Pos} (ni : notIf a = true) (ha : SE X W cl a a') : SE X W cl (.BoolOp op [a] pos) a' := by
  have pw : PW X (.BoolOp op [a] pos) (tT (bs X) W (evT cl a')) := by
    cases op with
    | And => exact pw_and1 (ha.pt ni)
    | Or => exact pw_or1 (ha.pt ni)
  exact ⟨pe_one ha.1, fun _ => pw.pt, fun _ => pw⟩
theorem truthy_twice {x : D} {m : M Bool} {S : Store} : M.bnd (Mi.truthy x) (fun k => if k then m else Mi.truthy x) S = M.bnd (Mi.truthy x) (fun k => if k then m else M.ret false) S := by
  unfold M.bnd
  cases e : Mi.truthy x S with
  | none => rfl
  | some p =>
    obtain ⟨o, S1⟩ := p
    obtain ⟨b, rfl, rfl⟩ := truthy_pure e
    cases b with
    | true => rfl
    | false => exact e
theorem truthy_twice' {x : D} {m : M Bool} {S : Store} : M.bnd (Mi.truthy x) (fun k => if k then Mi.truthy x else m) S = M.bnd (Mi.truthy x) (fun k => if k then M.ret true else m) S := by
  unfold M.bnd
  cases e : Mi.truthy x S with
  | none => rfl
  | some p =>
    obtain ⟨o, S1⟩ := p
    obtain ⟨b, rfl, rfl⟩ := truthy_pure e
    cases b with
    | true => exact e
    | false => rfl
theorem evT_and {cl : Cl} {a' r' : Ex} {ρ : Env} {S : Store} : evT cl (.and a' r') ρ S = M.bnd (evT cl a' ρ) (fun k => if k then evT cl r' ρ else M.ret false) S := by
  unfold evT
  simp only [evE]
  rw [← bnd_assoc, ← bnd_assoc]
  refine bnd_congr fun x S => ?_
  rw [← bnd_assoc, ← truthy_twice]
  refine bnd_congr fun k S => ?_
  cases k <;> rfl
theorem evT_or {cl : Cl} {a' r' : Ex} {ρ : Env} {S : Store} : evT cl (.or a' r') ρ S = M.bnd (evT cl a' ρ) (fun k => if k then M.ret true else evT cl r' ρ) S := by
  unfold evT
  simp only [evE]
  rw [← bnd_assoc, ← bnd_assoc]
  refine bnd_congr fun x S => ?_
  rw [← bnd_assoc, ← truthy_twice']
  refine bnd_congr fun k S => ?_
  cases k <;> rfl
theorem se_and {cl : Cl} {a b : Expr} {r : List Expr} {a' r' : Ex} {pos : Pos} (ni : notIf a = true) (ha : SE X W cl a a') (hb : SE X W cl (.BoolOp .And (b :: r) pos) r') : SE X W cl (.BoolOp .And (a :: b :: r) pos) (.and a' r') := by
  have pw : PW X (.BoolOp .And (a :: b :: r) pos) (tT (bs X) W (evT cl (.and a' r'))) := PW.imp (pw_and (ha.pt ni) (hb.pw rfl)) fun σ H Q h => by
    obtain ⟨al, ρ, S, sr, re, R⟩ := h
    rw [evT_and] at R
    refine ⟨al, ρ, S, sr, re, R.bnd.imp fun al1 S1 H1 k x1 sr1 _ R1 => ?_⟩
    cases k with
    | true => simp only [if_true] at R1 ⊢; exact ⟨al1, ρ, S1, sr1, re.mono sr x1, R1⟩
    | false => simp only [Bool.false_eq_true, if_false] at R1 ⊢; exact R1.ret sr1
  refine ⟨PE.imp (pe_andT ha.1 hb.1) fun σ H Q h => ?_, fun _ => pw.pt, fun _ => pw⟩
  obtain ⟨al, ρ, S, sr, re, R⟩ := h
  simp only [evE] at R
  refine ⟨al, ρ, S, sr, re, R.bnd.imp fun al1 S1 H1 x x1 sr1 _ R1 v rv => ?_⟩
  have re1 := re.mono sr x1
  obtain ⟨o, S2, e2, _⟩ := R1.bnd
  obtain ⟨k, rfl, rfl⟩ := truthy_pure e2
  obtain ⟨k', tv, R2⟩ := truthy_ok sr1 rv R1.bnd
  refine ⟨k', tv, ?_⟩
  cases k' with
  | true => simp only [if_true] at R2 ⊢; exact ⟨al1, ρ, S2, sr1, re1, R2⟩
  | false => simp only [Bool.false_eq_true, if_false] at R2 ⊢; exact R2.ret sr1 v rv
theorem se_or {cl : Cl} {a b : Expr} {r : List Expr} {a' r' : Ex} {pos : Pos} (ni : notIf a = true) (ha : SE X W cl a a') (hb : SE X W cl (.BoolOp .Or (b :: r) pos) r') : SE X W cl (.BoolOp .Or (a :: b :: r) pos) (.or a' r') := by
  have pw : PW X (.BoolOp .Or (a :: b :: r) pos) (tT (bs X) W (evT cl (.or a' r'))) := PW.imp (pw_or (ha.pt ni) (hb.pw rfl)) fun σ H Q h => by
    obtain ⟨al, ρ, S, sr, re, R⟩ := h
    rw [evT_or] at R
    refine ⟨al, ρ, S, sr, re, R.bnd.imp fun al1 S1 H1 k x1 sr1 _ R1 => ?_⟩
    cases k with
    | true => simp only [if_true] at R1 ⊢; exact R1.ret sr1
    | false => simp only [Bool.false_eq_true, if_false] at R1 ⊢; exact ⟨al1, ρ, S1, sr1, re.mono sr x1, R1⟩
  refine ⟨PE.imp (pe_orT ha.1 hb.1) fun σ H Q h => ?_, fun _ => pw.pt, fun _ => pw⟩
  obtain ⟨al, ρ, S, sr, re, R⟩ := h
  simp only [evE] at R
  refine ⟨al, ρ, S, sr, re, R.bnd.imp fun al1 S1 H1 x x1 sr1 _ R1 v rv => ?_⟩
  have re1 := re.mono sr x1
  obtain ⟨k', tv, R2⟩ := truthy_ok sr1 rv R1.bnd
  refine ⟨k', tv, ?_⟩
  cases k' with
  | true => simp only [if_true] at R2 ⊢; exact R2.ret sr1 v rv
  | false => simp only [Bool.false_eq_true, if_false] at R2 ⊢; exact ⟨al1, ρ, S1, sr1, re1, R2⟩
theorem se_tup {cl : Cl} {es : List Expr} {irs : List Ex} {k : Nat} {pos : Pos} (hl : irs.length ≤ 1000) (h : PA X es (tA (bs X) W (evEs cl irs))) : SE X W cl (.Tuple es k pos) (.tup irs) :=
  .of (PE.imp (pe_tup h) fun σ H Q h => by
    obtain ⟨al, ρ, S, sr, re, R⟩ := h
    simp only [evE] at R
    refine ⟨al, ρ, S, sr, re, R.bnd.imp fun al1 S1 H1 ds x1 sr1 e1 R1 vs rs => ⟨?_, fun p hp => tup_ok sr1 R1 hp rs⟩⟩
    rw [← rs.length, evEs_len e1]
    have : (sizeLine : Nat) = szl := rfl
    rw [this]; unfold szl; omega)
theorem se_lst {cl : Cl} {es : List Expr} {irs : List Ex} {pos : Pos} (hl : irs.length ≤ 1000) (h : PA X es (tA (bs X) W (evEs cl irs))) : SE X W cl (.List es pos) (.lst irs) :=
  .of (PE.imp (pe_lst h) fun σ H Q h => by
    obtain ⟨al, ρ, S, sr, re, R⟩ := h
    simp only [evE] at R
    refine ⟨al, ρ, S, sr, re, R.bnd.imp fun al1 S1 H1 ds x1 sr1 e1 R1 vs rs => ⟨?_, fun p hp => new_ok sr1 R1 hp ⟨vs, upd_same, rs.mono sr1 (Xt.fresh hp)⟩⟩⟩
    rw [← rs.length, evEs_len e1]
    have : (sizeLine : Nat) = szl := rfl
    rw [this]; unfold szl; omega)
theorem se_ix {cl : Cl} {a b : Expr} {a' b' : Ex} {pos : Pos} (hs : isSlice b = false) (ha : SE X W cl a a') (hb : SE X W cl b b') : SE X W cl (.Subscript a b pos) (.ix a' b') :=
  .of (PE.of_st fun σ0 => PE.imp (pe_ix (ix_ok (W := W) (σ := σ0)) ha.1 hb.1 (fun o i => by cases b <;> first | rfl | (cases hs; done))) fun σ H Q h => by
    obtain ⟨rfl, h⟩ := h
    simp only [evE] at h
    exact two h fun al S H x y v u sr rv ru R => ⟨al, S, x, y, sr, rv, ru, R⟩)
theorem po_ok {cl : Cl} {lo : Option Expr} {lo' : Option Ex} (h : match lo, lo' with | none, none => True | some l, some l' => SE X W cl l l' | _, _ => False) : PO X lo (tO (bs X) W (evO cl lo')) := by
  cases lo with
  | none =>
    cases lo' with
    | none =>
      refine PO.imp po_none fun σ H Q h => ?_
      obtain ⟨al, ρ, S, sr, re, R⟩ := h
      simp only [evO] at R
      exact R.ret sr
    | some l' => exact h.elim
  | some l =>
    cases lo' with
    | none => exact h.elim
    | some l' =>
      refine PO.imp (po_some h.pe) fun σ H Q h => ?_
      obtain ⟨al, ρ, S, sr, re, R⟩ := h
      simp only [evO] at R
      refine ⟨al, ρ, S, sr, re, R.bnd.imp fun al1 S1 H1 x x1 sr1 e1 R1 v rv => ?_⟩
      cases x <;> first | exact R1.none.elim | skip
      rw [rv_int] at rv
      exact ⟨_, rv, R1.ret sr1⟩
theorem se_slice {cl : Cl} {a : Expr} {a' : Ex} {lo hi : Option Expr} {lo' hi' : Option Ex} {p pos : Pos} (ha : SE X W cl a a') (hl : PO X lo (tO (bs X) W (evO cl lo'))) (hh : PO X hi (tO (bs X) W (evO cl hi'))) :
    SE X W cl (.Subscript a (.Slice lo hi none p) pos) (.slice a' lo' hi') :=
  .of (PE.of_st fun σ0 => PE.imp (pe_slice (sl_ok (W := W) (σ := σ0)) ha.1 hl hh) fun σ H Q h => by
    obtain ⟨rfl, h⟩ := h
    obtain ⟨al, ρ, S, sr, re, R⟩ := h
    simp only [evE] at R
    refine ⟨al, ρ, S, sr, re, R.bnd.imp fun al1 S1 H1 x x1 sr1 _ R1 v rv => ?_⟩
    refine ⟨al1, ρ, S1, sr1, re.mono sr x1, R1.bnd.imp fun al2 S2 H2 l x2 sr2 _ R2 => ?_⟩
    refine ⟨al2, ρ, S2, sr2, (re.mono sr x1).mono sr1 x2, R2.bnd.imp fun al3 S3 H3 u x3 sr3 _ R3 => ?_⟩
    exact ⟨al3, S3, x, sr3, (rv.mono sr1 x2).mono sr2 x3, R3⟩)
theorem se_call {cl : Cl} {f : String} {p pos : Pos} {e : Expr} {es : List Expr} {irs : List Ex} (h : XOk pk N cl X) (tk : Takes X W) (hf : pk.fs.contains f = true) (hg : glB X.env.scope (nm f) = true)
    (ha : PA X (e :: es) (tA (bs X) W (evEs cl irs))) (hs : (e :: es).all noStar = true) : SE X W cl (.Call (.Name (nm f) p) (e :: es) [] pos) (.call f irs) := .of (lookup_ok h tk hf hg ha hs)
theorem se_bi {cl : Cl} {f : Bi} {s : String} {v : Value} {p pos : Pos} {e : Expr} {es : List Expr} {irs : List Ex} (h : XOk pk N cl X) (hb : biN f = some (s, v)) (ha : PA X (e :: es) (tA (bs X) W (evEs cl irs))) (hs : (e :: es).all noStar = true)
    (hg : glB X.env.scope (nm s) = true) (hm : pk.bis.contains s = true) : SE X W cl (.Call (.Name (nm s) p) (e :: es) [] pos) (.bi f irs) := by
  obtain ⟨k, hr, L⟩ := h.room
  exact .of (bi_ok hb ha hs (glB_ok hg).1 (L.bis s hm))
theorem se_isi {cl : Cl} {T : String} {t : Ty} {p p2 pos : Pos} {e : Expr} {ir : Ex} (h : XOk pk N cl X) (ht : tyN t = some T) (he : SE X W cl e ir) (hs : noStar e = true) (hg : glB X.env.scope (nm "isinstance") = true) (hm : pk.bis.contains "isinstance" = true)
    (hg2 : glB X.env.scope (nm T) = true) (hm2 : pk.bis.contains T = true) : SE X W cl (.Call (.Name "isinstance" p) [e, .Name (nm T) p2] [] pos) (.isi ir [t]) := by
  obtain ⟨k, hr, L⟩ := h.room
  obtain ⟨g1, g2, g3⟩ := glB_ok hg2
  refine .of (isi1_ok ht he.1 hs (glB_ok hg).1 (L.bis _ hm) g1 (L.bis _ hm2) ?_ g3 g2)
  cases t <;> cases ht <;> decide +kernel
theorem se_append {cl : Cl} {o e : Expr} {o' : Ex} {irs : List Ex} {apos cpos : Pos} (ho : PE X o (tE (bs X) W (evE cl o'))) (ha : PA X [e] (tA (bs X) W (evEs cl irs))) (hb : abOk o = true) (hs : noStar e = true) (hl : (apos.endLine == cpos.line) = true) :
    SE X W cl (.Call (.Attribute o "append" apos) [e] [] cpos) (.mt .append o' irs) := .of (PE.imp (append_ok ho ha hb hs hl) fun σ H Q h => by simp only [evE] at h; exact h)
theorem se_upper {cl : Cl} {o : Expr} {o' : Ex} {apos cpos : Pos} (ho : PE X o (tE (bs X) W (evE cl o'))) (hb : abOk o = true) (hl : (apos.endLine == cpos.line) = true) :
    SE X W cl (.Call (.Attribute o "upper" apos) [] [] cpos) (.mt .upper o' []) := .of (PE.imp (upper_ok ho hb hl) fun σ H Q h => by simp only [evE, evEs] at h; exact h)
theorem isSet_fold {iter : Expr} {env : PySem.Env} (h : (match iter with | .Set _ _ _ => false | _ => true) = true) : ∀ x, foldedSetIterable iter env x = pure x := by
  intro x
  cases iter <;> first | rfl | (cases h; done)
theorem se_lc {cl : Cl} {elt tg iter : Expr} {ifs : List Expr} {scope : Scope} {own : List (Str × Nat)} {pos : Pos} {elt' : Ex} {t : Tg} {k : Nat} {xs cs : List Ex} (hX : XOk pk N cl X)
    (hi : PI X tg iter (tI (bs X) W fun ρ => M.bnd (evEs cl xs ρ) (itM k))) (ok : BlkOk X.N X.env.scope scope own) (hv : ∀ j, j ∈ tgV t → j ∈ own.map (·.2))
    (hg : ∀ (s : Shared) (H : Hp) (C : Addr) (l : List (Str × Addr)) (fp : List Addr), PG (X.blk s H scope (compEnvC scope l C X.env) fp) tg (gTg X.K t))
    (ht : ∀ (s : Shared) (H : Hp) (C : Addr) (l : List (Str × Addr)) (fp : List Addr), PTs (X.blk s H scope (compEnvC scope l C X.env) fp) ifs (tT (bs X) W0 (evCs cl cs)))
    (he : ∀ (s : Shared) (H : Hp) (C : Addr) (l : List (Str × Addr)) (fp : List Addr), PE (X.blk s H scope (compEnvC scope l C X.env) fp) elt (tE (bs X) W0 (evE cl elt')))
    (hs : ∀ x, foldedSetIterable iter X.env x = pure x) : SE X W cl (.ListComp elt [⟨tg, iter, ifs, 0⟩] scope pos) (.lc elt' t k xs cs (own.map (·.2))) :=
  .of (PE.imp (pe_lc hX.calm (by rw [hX.hN]; exact hX.nd) hi ok hg ht he hs) fun σ H Q h => by
    simp only [evE] at h
    exact lc_read hv h)
/-- what is walked -/
theorem pi_ok {cl : Cl} {p : Expr → Ex → Bool} {tg iter : Expr} {k : Nat} {xs : List Ex} (hX : XOk pk N cl X) (hp : ∀ e i, p e i = true → PE X e (tE (bs X) W (evE cl i))) (q : chkIt pk p X.env.scope iter k xs = true) :
    PI X tg iter (tI (bs X) W fun ρ => M.bnd (evEs cl xs ρ) (itM k)) ∧ ∀ x, foldedSetIterable iter X.env x = pure x := by
  obtain ⟨k0, hr, L⟩ := hX.room
  unfold chkIt at q
  split at q
  · split at q
    · cases q
    · rename_i hns
      split at q
      · rename_i x
        refine ⟨PI.imp (it_seq (hp _ _ q)) fun σ H R h => ?_, ?_⟩
        · obtain ⟨al, ρ, S, sr, re, RR⟩ := h
          refine ⟨al, ρ, S, sr, re, ?_⟩
          have e : M.bnd (evEs cl [x] ρ) (itM 0) S = M.bnd (evE cl x ρ) seqM S := by
            simp only [evEs]
            rw [← bnd_assoc]
            refine bnd_congr fun d S => rfl
          show Res (bs X) W σ al S H (M.bnd (evE cl x ρ) seqM S) _
          rw [← e]
          exact RR
        · exact isSet_fold (by cases iter <;> first | rfl | exact absurd rfl (hns _ _ _))
      · cases q
  · split at q
    · rename_i x _ e _
      simp only [Bool.and_eq_true, decide_eq_true_eq] at q
      obtain ⟨⟨⟨rfl, q2⟩, q3⟩, q4⟩ := q
      have st := (zipAll_star q4).1
      simp only [List.all_cons, Bool.and_eq_true] at st
      exact ⟨it_range1 (glB_ok q2).1 (L.bis _ q3) (pa_ok hp q4) st.1, fun _ => rfl⟩
    · cases q
  · split at q
    · rename_i x _ e f _
      simp only [Bool.and_eq_true, decide_eq_true_eq] at q
      obtain ⟨⟨⟨rfl, q2⟩, q3⟩, q4⟩ := q
      have st := (zipAll_star q4).1
      simp only [List.all_cons, Bool.and_eq_true] at st
      exact ⟨it_range2 (glB_ok q2).1 (L.bis _ q3) (pa_ok hp q4) st.1 st.2.1, fun _ => rfl⟩
    · cases q
  · cases q
end
theorem comp_tests' {pk : Pk} {N : List Str} {cl : Cl} {X : Cx} {n : Nat} {sc : Scope} {ifs : List Expr} {cs : List Ex} (ih : ∀ e ir, chkE pk N n sc e ir = true → SE X W0 cl e ir)
    (q6 : (match ifs, cs with
              | [], [] => true
              | [c], [c'] => notIf c && chkE pk N n sc c c'
              | _, _ => false) = true) : PTs X ifs (tT (bs X) W0 (evCs cl cs)) := by
  split at q6
  · refine ⟨fun pins s1 σ1 H1 Q I h => pts_nil.run pins s1 σ1 H1 Q I ?_⟩
    obtain ⟨al, ρ, S, sr, re, R⟩ := h
    simp only [evCs] at R
    exact R.ret sr
  · rename_i c c'
    simp only [Bool.and_eq_true] at q6
    have hc := (ih c c' q6.2).pt q6.1
    refine ⟨fun pins s1 σ1 H1 Q I h => (pts_one hc).run pins s1 σ1 H1 Q I ?_⟩
    obtain ⟨al, ρ, S, sr, re, R⟩ := h
    refine ⟨al, ρ, S, sr, re, ?_⟩
    have e : evCs cl [c'] ρ S = M.bnd (evT cl c' ρ) (fun k => if k then M.ret true else M.ret false) S := by
      simp only [evCs, evT]
      rw [bnd_assoc]
    rw [e] at R
    exact R.bnd.imp fun al1 S1 H1 k x1 sr1 _ R1 => by
      cases k with
      | true => exact R1.ret sr1
      | false => exact R1.ret sr1
  · cases q6
theorem soundE (pk : Pk) (N : List Str) (cl : Cl) : ∀ (n : Nat) (X : Cx) (W : WX) (e : Expr) (ir : Ex), XOk pk N cl X → Takes X W → chkE pk N n X.env.scope e ir = true → SE X W cl e ir
  | 0, _, _, _, _, _, _, q => absurd (show false = true from q) Bool.false_ne_true
  | n + 1, X, W, e, ir, hX, tk, q => by
    have ih := fun e ir => soundE pk N cl n X W e ir hX tk
    have ihp := fun e ir q => (soundE pk N cl n X W e ir hX tk q).1
    have hu := hX.units
    unfold chkE at q
    split at q
    · rename_i a hs
      simp only [Bool.and_eq_true] at q
      unfold solo at hs
      split at hs
      · cases hs
        exact se_solo q.1 (ih _ _ q.2)
      · cases hs
    · rename_i hso
      clear hso
      cases ir with
      | non => simp only at q; split at q <;> first | exact se_none | cases q
      | bl b => simp only at q; split at q <;> first | (have := of_decide_eq_true q; subst this; exact se_bl) | cases q
      | int b => simp only at q; split at q <;> first | (have := of_decide_eq_true q; subst this; exact se_int) | cases q
      | str s =>
        simp only at q
        split at q
        · simp only [Bool.and_eq_true, decide_eq_true_eq] at q
          obtain ⟨⟨rfl, q2⟩, q3⟩ := q
          exact se_str q2 q3
        · cases q
      | var i =>
        simp only at q
        split at q
        · simp only [Bool.and_eq_true, decide_eq_true_eq, Bool.not_eq_true'] at q
          exact se_var (by rw [hX.hN]; exact q.1.1.1) q.1.1.2 q.1.2 q.2
        · cases q
      | glob g =>
        simp only at q
        split at q
        · simp only [Bool.and_eq_true, decide_eq_true_eq] at q
          obtain ⟨⟨rfl, q2⟩, q3⟩ := q
          exact se_glob hX q2 q3
        · cases q
      | op o a b =>
        simp only at q
        split at q
        · simp only [Bool.and_eq_true, decide_eq_true_eq] at q
          obtain ⟨⟨⟨rfl, q2⟩, q3⟩, q4⟩ := q
          exact se_op q2 (ih _ _ q3) (ih _ _ q4)
        · cases q
      | neg a => simp only at q; split at q <;> first | exact se_neg (ih _ _ q) | cases q
      | not a =>
        simp only at q
        split at q
        · simp only [Bool.and_eq_true] at q
          exact se_not q.1 (ih _ _ q.2)
        · cases q
      | cmp c a b =>
        simp only at q
        split at q
        · simp only [Bool.and_eq_true, decide_eq_true_eq, Bool.not_eq_true'] at q
          obtain ⟨⟨⟨rfl, q2⟩, q3⟩, q4⟩ := q
          exact se_cmp hu q2 (ih _ _ q3) (ih _ _ q4)
        · cases q
      | chain c d a b f =>
        simp only at q
        split at q
        · simp only [Bool.and_eq_true, decide_eq_true_eq, Bool.not_eq_true'] at q
          obtain ⟨⟨⟨⟨⟨rfl, rfl⟩, q2⟩, q3⟩, q4⟩, q5⟩ := q
          exact se_chain hu q2 (ih _ _ q3) (ih _ _ q4) (ih _ _ q5)
        · cases q
      | and a r =>
        simp only at q
        split at q
        · simp only [Bool.and_eq_true] at q
          exact se_and q.1.1 (ih _ _ q.1.2) (ih _ _ q.2)
        · cases q
      | or a r =>
        simp only at q
        split at q
        · simp only [Bool.and_eq_true] at q
          exact se_or q.1.1 (ih _ _ q.1.2) (ih _ _ q.2)
        · cases q
      | ite c a b =>
        simp only at q
        split at q
        · simp only [Bool.and_eq_true] at q
          exact se_ite q.1.1.1 (ih _ _ q.1.1.2) (ih _ _ q.1.2) (ih _ _ q.2)
        · cases q
      | tup xs =>
        simp only at q
        split at q
        · simp only [Bool.and_eq_true, decide_eq_true_eq] at q
          exact se_tup q.1 (pa_ok ihp q.2)
        · cases q
      | lst xs =>
        simp only at q
        split at q
        · simp only [Bool.and_eq_true, decide_eq_true_eq] at q
          exact se_lst q.1 (pa_ok ihp q.2)
        · cases q
      | ix a b =>
        simp only at q
        split at q
        · simp only [Bool.and_eq_true, Bool.not_eq_true'] at q
          exact se_ix q.1.1 (ih _ _ q.1.2) (ih _ _ q.2)
        · cases q
      | slice a lo hi =>
        simp only at q
        split at q
        · simp only [Bool.and_eq_true] at q
          obtain ⟨⟨q1, q2⟩, q3⟩ := q
          have po : ∀ (lo : Option Expr) (lo' : Option Ex), (match lo, lo' with | none, none => true | some l, some l' => chkE pk N n X.env.scope l l' | _, _ => false) = true → PO X lo (tO (bs X) W (evO cl lo')) := fun lo lo' h => po_ok (by
            cases lo <;> cases lo' <;> first | trivial | (cases h; done) | exact ih _ _ h)
          exact se_slice (ih _ _ q1) (po _ _ q2) (po _ _ q3)
        · cases q
      | call f xs =>
        simp only at q
        split at q
        · simp only [Bool.and_eq_true, decide_eq_true_eq] at q
          obtain ⟨⟨⟨rfl, q2⟩, q3⟩, q4⟩ := q
          exact se_call hX tk q3 q2 (pa_ok ihp q4) (zipAll_star q4).1
        · cases q
      | bi f xs =>
        simp only at q
        split at q
        · rename_i hb
          simp only [Bool.and_eq_true, decide_eq_true_eq] at q
          obtain ⟨⟨⟨rfl, q2⟩, q3⟩, q4⟩ := q
          exact se_bi hX hb (pa_ok ihp q4) (zipAll_star q4).1 q2 q3
        · cases q
      | isi a ts =>
        simp only at q
        split at q
        · split at q
          · rename_i ht
            simp only [Bool.and_eq_true, decide_eq_true_eq] at q
            obtain ⟨⟨⟨⟨⟨⟨⟨rfl, q2⟩, q3⟩, rfl⟩, q5⟩, q6⟩, q7⟩, q8⟩ := q
            exact se_isi hX ht (ih _ _ q8) q7 q2 q3 q5 q6
          · cases q
        · cases q
      | mt m o xs =>
        simp only at q
        split at q
        · simp only [Bool.and_eq_true, decide_eq_true_eq] at q
          obtain ⟨⟨⟨⟨rfl, q2⟩, q3⟩, q4⟩, q5⟩ := q
          have st := (zipAll_star q5).1
          simp only [List.all_cons, Bool.and_eq_true] at st
          exact se_append (ihp _ _ q4) (pa_ok ihp q5) q3 st.1 q2
        · simp only [Bool.and_eq_true, decide_eq_true_eq, List.isEmpty_iff] at q
          obtain ⟨⟨⟨⟨rfl, q2⟩, q3⟩, q4⟩, rfl⟩ := q
          exact se_upper (ihp _ _ q4) q3 q2
        · cases q
      | lc elt' t k xs cs vs =>
        simp only at q
        split at q
        · rename_i elt tg iter ifs scope _
          simp only [Bool.and_eq_true, decide_eq_true_eq, List.all_eq_true] at q
          obtain ⟨⟨⟨⟨⟨⟨q1, rfl⟩, q3⟩, q4⟩, q5⟩, q6⟩, q7⟩ := q
          obtain ⟨p1, p2⟩ := pi_ok (tg := tg) hX ihp q5
          have blkX : ∀ (s : Shared) (H : Hp) (C : Addr) (l : List (Str × Addr)) (fp : List Addr), XOk pk N cl (X.blk s H scope (compEnvC scope l C X.env) fp) := fun s H C l fp => hX.blk s H scope _ fp
          refine se_lc hX p1 (by rw [hX.hN]; exact blkOk_by q1) (fun j hj => by have := q3 j hj; simpa using this)
            (fun s H C l fp => pg_ok (blkX s H C l fp) (fnm := fun x => scope.names.lookup x == some .cell) (fun x h => h) q4) (fun s H C l fp => ?_) (fun s H C l fp => ?_) p2
          · exact comp_tests' (fun e ir q => soundE pk N cl n _ W0 e ir (blkX s H C l fp) takes0 q) q6
          · exact (soundE pk N cl n (X.blk s H scope (compEnvC scope l C X.env) fp) W0 elt elt' (blkX s H C l fp) takes0 q7).1
        · cases q
      | dct _ _ => cases q
      | meth _ _ _ => cases q
      | fld _ _ => cases q
      | new _ _ => cases q
      | dc _ _ _ _ _ _ => cases q
      | fstr _ => cases q
end Mi

set_option Elab.async false
set_option linter.all false
set_option maxRecDepth 100000
/-! Mi11: statements do what Mi1 says. -/
namespace Mi
open PySem PySem.Spec PyProof.Rows L2

def ResS (B : Bs) (W : WX) (al : Al) (S : Store) (H : Hp) (r : Option (Ctl × Store)) (D : Ends) : Prop :=
  ∃ c S', r = some (c, S') ∧ ∀ al' H', Xt al S.length H al' S'.length H' → SR B al' S' H' → (match c with
    | .nx ρ' => ∀ σ', RE B.K al' S'.length H' ρ' σ' → D.nx σ' H'
    | .rt d => ∀ v, RV B.K al' S'.length H' d v → D.rt v H'
    | .bk ρ' => ∀ σ', RE B.K al' S'.length H' ρ' σ' → D.bk σ' H'
    | .ct ρ' => ∀ σ', RE B.K al' S'.length H' ρ' σ' → D.ct σ' H'
    | .ex c ρ' => ∀ σ' C, RE B.K al' S'.length H' ρ' σ' → B.mg (nm c) = some (.ref C) → W (.ref C) none σ' H')
def tS (B : Bs) (W : WX) (m : Env → MS) : TS := fun D σ H => ∃ al ρ S, SR B al S H ∧ RE B.K al S.length H ρ σ ∧ ResS B W al S H (m ρ S) D
theorem PS.imp {X : Cx} {e : Stmt} {t t' : TS} (h : PS X e t) (f : ∀ D σ H, t' D σ H → t D σ H) : PS X e t' := ⟨fun pins s σ H D I q => h.run pins s σ H D I (f D σ H q)⟩
theorem PSs.imp {X : Cx} {e : List Stmt} {t t' : TS} (h : PSs X e t) (f : ∀ D σ H, t' D σ H → t D σ H) : PSs X e t' := ⟨fun pins s σ H D I q => h.run pins s σ H D I (f D σ H q)⟩

section
variable {B : Bs} {W : WX} {σ : L2.St} {al : Al} {S : Store} {H : Hp} {ρ : Env} {D : Ends} {α : Type}
/-- an expression, then a statement's rest -/
theorem ResS.bnd {m : M α} {f : α → MS} (sr : SR B al S H) (re : RE B.K al S.length H ρ σ) (h : ResS B W al S H (MS.bnd ρ m f S) D) :
    Res B W σ al S H (m S) (fun al1 S1 H1 d => ResS B W al1 S1 H1 (f d S1) D) := by
  obtain ⟨c, S', e, h1⟩ := h
  unfold MS.bnd at e
  cases hm : m S with
  | none => rw [hm] at e; cases e
  | some p =>
    obtain ⟨o1, S1⟩ := p
    rw [hm] at e
    cases o1 with
    | ex x =>
      cases e
      exact ⟨_, _, rfl, (fun d q => nomatch q), fun c' q al' H' C x y z => h1 al' H' x y σ C (re.mono sr x) (by cases q; exact z)⟩
    | ok a =>
      refine ⟨_, _, rfl, fun d q al1 H1 x y => ?_, fun c q => nomatch q⟩
      cases q
      exact ⟨c, S', e, fun al' H' x' y' => h1 al' H' (Xt.trans y x x') y'⟩
theorem ResS.nx (sr : SR B al S H) (h : ResS B W al S H (some (.nx ρ, S)) D) (re : RE B.K al S.length H ρ σ) : D.nx σ H := by
  obtain ⟨c, S', e, h1⟩ := h
  cases e
  exact h1 al H Xt.refl sr σ re
theorem ResS.none {P : Prop} (h : ResS B W al S H none D) : P := by
  obtain ⟨c, S', e, h1⟩ := h
  cases e
end
/-! ### single statements -/
section
variable {pk : Pk} {N : List Str} {cl : Cl} {X : Cx} {W : WX} {pos : Pos}
theorem asg_read {t : Tg} {e' : Ex} {D : Ends} {σ : L2.St} {H : Hp} (h : tS (bs X) W (exS cl (.asg t e')) D σ H) : tE (bs X) W (evE cl e') σ H (fun x H1 => gTg X.K t x σ H1 D.nx) := by
  obtain ⟨al, ρ, S, sr, re, R⟩ := h
  simp only [exS] at R
  refine ⟨al, ρ, S, sr, re, (R.bnd sr re).imp fun al1 S1 H1 d x1 sr1 _ R1 v rv => ?_⟩
  cases hb : bindT t d ρ with
  | none => simp only [hb] at R1; exact R1.none
  | some ρ' =>
    simp only [hb] at R1
    exact bindT_ok hb (re.mono sr x1) rv fun σ' re' _ => R1.nx sr1 re'
theorem ss_asg {tg e : Expr} {t : Tg} {e' : Ex} (he : SE X W cl e e') (hg : PG X tg (gTg X.K t)) (hn : noStar tg = true) (hs : swapsWithSole [tg] e pos.line X.env = pure false) (hw : swappedStores [tg] e X.env = pure none) :
    PS X (.Assign [tg] e pos) (tS (bs X) W (exS cl (.asg t e'))) :=
  PS.imp (ps_asg he.pe hg hs hw (by cases tg <;> first | rfl | (cases hn; done))) fun D σ H h => asg_read h
/-- o[i] = e -/
def rSetM (B : Bs) (W : WX) : TSet := fun o i v H Q => ∃ al S x k d ρ D σ, SR B al S H ∧ RE B.K al S.length H ρ σ ∧ RV B.K al S.length H x o ∧ RV B.K al S.length H k i ∧ RV B.K al S.length H d v ∧
  ResS B W al S H (MS.bnd ρ (setIxM x k d) (fun _ S => some (.nx ρ, S)) S) D ∧ ∀ H', D.nx σ H' → Q H'
theorem set_ok : PSet X (rSetM (bs X) W) := by
  intro pins s σ0 H o i v ov iv u Q I ro ri rv h
  obtain ⟨al, S, x, k, d, ρ, D, σ, sr, re, hx, hk, hd, R, hQ⟩ := h
  have R := R.bnd sr re
  unfold setIxM at R
  split at R
  · rename_i n k' _
    rw [rv_loc] at hx
    rw [rv_int] at hk
    obtain ⟨rfl, hn⟩ := hx
    obtain ⟨c, hc, rc, R⟩ := Res.get sr R
    obtain ⟨xs, rfl⟩ : ∃ xs, c = .lst xs := by cases c <;> first | exact ⟨_, rfl⟩ | exact R.none.elim
    obtain ⟨vs, e, t⟩ := rc
    obtain ⟨j, hj, R⟩ := Res.of sr R
    refine set_list pins s σ0 H _ i v ov iv u Q I ro ri rv ⟨_, vs, _, j, rfl, hk, e, by rw [← t.length]; exact hj, ?_⟩
    unfold M.put at R
    simp only [hn, if_true] at R
    have sr2 : SR (bs X) al (S.set n (.lst (xs.set j d))) (upd H (al n) (.lst (vs.set j v))) := SR.write sr hn ⟨_, upd_same, (t.set j hd).mono sr (Xt.write hn)⟩
    have x2 : Xt al S.length H al (S.set n (.lst (xs.set j d))).length (upd H (al n) (.lst (vs.set j v))) := by rw [List.length_set]; exact Xt.write hn
    exact hQ _ ((Res.ok R x2 sr2).nx sr2 (re.mono sr x2))
  · exact R.none.elim
theorem ss_asgIx {o i e : Expr} {o' i' e' : Ex} {tpos : Pos} (ho : SE X W cl o o') (hi : SE X W cl i i') (he : SE X W cl e e') (hns : isSlice i = false) (hs : swapsWithSole [.Subscript o i tpos] e pos.line X.env = pure false) :
    PS X (.Assign [.Subscript o i tpos] e pos) (tS (bs X) W (exS cl (.asgIx o' i' e'))) := by
  refine PS.imp (ps_asg he.pe (pg_sub ho.pe hi.pe (set_ok (W := W)) (fun v => by cases i <;> first | rfl | (cases hns; done))) hs rfl rfl) fun D σ H h => ?_
  obtain ⟨al, ρ, S, sr, re, R⟩ := h
  simp only [exS] at R
  refine ⟨al, ρ, S, sr, re, (R.bnd sr re).imp fun al1 S1 H1 d x1 sr1 _ R1 v rv => ?_⟩
  have re1 := re.mono sr x1
  refine ⟨al1, ρ, S1, sr1, re1, (R1.bnd sr1 re1).imp fun al2 S2 H2 x x2 sr2 _ R2 w rw' => ?_⟩
  have re2 := re1.mono sr1 x2
  refine ⟨al2, ρ, S2, sr2, re2, (R2.bnd sr2 re2).imp fun al3 S3 H3 k x3 sr3 _ R3 z rz => ?_⟩
  exact ⟨al3, S3, x, k, d, ρ, D, σ, sr3, re2.mono sr2 x3, rw'.mono sr2 x3, rz, (rv.mono sr1 x2).mono sr2 x3, R3, fun H' h => h⟩
theorem ss_expr {e : Expr} {e' : Ex} (he : SE X W cl e e') (hs : swapsWith e none pos.line X.env = pure false) : PS X (.Expr e pos) (tS (bs X) W (exS cl (.expr e'))) :=
  PS.imp (ps_expr he.pe hs) fun D σ H h => by
    obtain ⟨al, ρ, S, sr, re, R⟩ := h
    simp only [exS] at R
    exact ⟨al, ρ, S, sr, re, (R.bnd sr re).imp fun al1 S1 H1 d x1 sr1 _ R1 v rv => R1.nx sr1 (re.mono sr x1)⟩
theorem ss_ret {e : Expr} {e' : Ex} (he : SE X W cl e e') : PS X (.Return (some e) pos) (tS (bs X) W (exS cl (.ret e'))) :=
  PS.imp (ps_ret he.pe) fun D σ H h => by
    obtain ⟨al, ρ, S, sr, re, R⟩ := h
    simp only [exS] at R
    refine ⟨al, ρ, S, sr, re, (R.bnd sr re).imp fun al1 S1 H1 d x1 sr1 _ R1 v rv => ?_⟩
    obtain ⟨c, S', e, h1⟩ := R1
    cases e
    exact h1 al1 H1 Xt.refl sr1 v rv
theorem ss_retN : PS X (.Return none pos) (tS (bs X) W (exS cl .retN)) :=
  PS.imp ps_retN fun D σ H h => by
    obtain ⟨al, ρ, S, sr, re, R⟩ := h
    simp only [exS] at R
    obtain ⟨c, S', e, h1⟩ := R
    cases e
    exact h1 al H Xt.refl sr _ (by simp [RV])
theorem ss_pass : PS X (.Pass pos) (tS (bs X) W (exS cl .pass)) :=
  PS.imp ps_pass fun D σ H h => by
    obtain ⟨al, ρ, S, sr, re, R⟩ := h
    simp only [exS] at R
    exact R.nx sr re
theorem ss_brk : PS X (.Break pos) (tS (bs X) W (exS cl .brk)) :=
  PS.imp ps_break fun D σ H h => by
    obtain ⟨al, ρ, S, sr, re, R⟩ := h
    simp only [exS] at R
    obtain ⟨c, S', e, h1⟩ := R
    cases e
    exact h1 al H Xt.refl sr σ re
theorem ss_cont : PS X (.Continue pos) (tS (bs X) W (exS cl .cont)) :=
  PS.imp ps_continue fun D σ H h => by
    obtain ⟨al, ρ, S, sr, re, R⟩ := h
    simp only [exS] at R
    obtain ⟨c, S', e, h1⟩ := R
    cases e
    exact h1 al H Xt.refl sr σ re
theorem ss_ite {c : Expr} {c' : Ex} {a b : List Stmt} {a' b' : List St} (ni : notIf c = true) (hc : SE X W cl c c') (ha : PSs X a (tS (bs X) W (exSs cl a'))) (hb : PSs X b (tS (bs X) W (exSs cl b'))) :
    PS X (.If c a b pos) (tS (bs X) W (exS cl (.ite c' a' b'))) :=
  PS.imp (ps_if (hc.pt ni) ha hb) fun D σ H h => by
    obtain ⟨al, ρ, S, sr, re, R⟩ := h
    simp only [exS] at R
    refine ⟨al, ρ, S, sr, re, (R.bnd sr re).imp fun al1 S1 H1 k x1 sr1 _ R1 => ?_⟩
    cases k with
    | true => simp only [if_true] at R1 ⊢; exact ⟨al1, ρ, S1, sr1, re.mono sr x1, R1⟩
    | false => simp only [Bool.false_eq_true, if_false] at R1 ⊢; exact ⟨al1, ρ, S1, sr1, re.mono sr x1, R1⟩
/-! ### op= -/
def rIop (B : Bs) (W : WX) (o : O2) : TIp := fun v u H Q => ∃ al S x y ρ D i σ, SR B al S H ∧ RE B.K al S.length H ρ σ ∧ RV B.K al S.length H x v ∧ RV B.K al S.length H y u ∧
  ResS B W al S H (MS.bnd ρ (iopM o x y) (fun z S => some (.nx (ρ.set i (some z)), S)) S) D ∧ ∀ z H', D.nx (σ.set i (some z)) H' → Q z H'
theorem iop_ok {o : O2} (ho : o = .add ∨ o = .sub ∨ o = .mul) : PIp X (opN o) (rIop (bs X) W o) := by
  intro pins s σ0 H v u v' u' Q I rv ru h
  obtain ⟨al, S, x, y, ρ, D, i, σ, sr, re, hx, hy, R, hQ⟩ := h
  have R := R.bnd sr re
  unfold iopM at R
  have fin : ∀ {d : Mi.D} {z : V}, Res (bs X) W σ al S H (M.ret d S) (fun al1 S1 H1 d => ResS (bs X) W al1 S1 H1 (some (.nx (ρ.set i (some d)), S1)) D) → RV X.K al S.length H d z → Q z H := fun {d z} R r =>
    hQ z H ((R.ret sr).nx sr (re.set r))
  split at R
  · rename_i a b
    rw [rv_int] at hx hy
    rcases ho with rfl | rfl | rfl
    · exact iop_add pins s σ0 H v u v' u' Q I rv ru ⟨_, _, hx, hy, fin R (by simp [RV])⟩
    · exact iop_sub pins s σ0 H v u v' u' Q I rv ru ⟨_, _, hx, hy, fin R (by simp [RV])⟩
    · obtain ⟨hz, R⟩ := R.need
      exact iop_mul pins s σ0 H v u v' u' Q I rv ru ⟨_, _, hx, hy, by simpa [i64, CMul] using hz, fin R (by simp [RV])⟩
  · rename_i a b
    rw [rv_str] at hx hy
    rcases ho with rfl | rfl | rfl
    · obtain ⟨hz, R⟩ := R.need
      exact iop_add_str pins s σ0 H v u v' u' Q I rv ru ⟨_, _, hx.1, hy.1, by rw [txS_length, txS_length]; exact hz, by rw [txS_append]; exact fin R (by rw [rv_str]; exact ⟨rfl, by rw [List.length_append]; exact hz, by rw [List.all_append, hx.2.2, hy.2.2]; rfl⟩)⟩
    · exact R.none.elim
    · exact R.none.elim
  · exact R.none.elim
theorem ss_aug {x : Str} {i : Nat} {o : O2} {e : Expr} {e' : Ex} {p : Pos} (hX : XOk pk N cl X) (ho : o = .add ∨ o = .sub ∨ o = .mul) (hi : X.N[i]? = some x) (hx : Loc X.env.scope x) (hf : X.fn x = true ∨ X.env.scope.names.lookup x = some .local) (he : SE X W cl e e') :
    PS X (.AugAssign (.Name x p) (opN o) e pos) (tS (bs X) W (exS cl (.aug i o e'))) :=
  PS.imp (ps_aug (by rw [hX.hN]; exact hX.nd) hi hx he.pe (iop_ok (W := W) ho) hf) fun D σ H h => by
    obtain ⟨al, ρ, S, sr, re, R⟩ := h
    simp only [exS] at R
    obtain ⟨d, hd, R⟩ := Res.of' sr (R.bnd sr re)
    have e' : ρ[i]? = some (some d) := by
      cases h : ρ[i]? with
      | none => rw [h] at hd; cases hd
      | some o => rw [h] at hd; exact congrArg some hd
    obtain ⟨v, e2, rv⟩ := re.2 i d e'
    refine ⟨v, e2, al, ρ, S, sr, re, (R.bnd sr re).imp fun al1 S1 H1 y x1 sr1 _ R1 u ru => ?_⟩
    exact ⟨al1, S1, d, y, ρ, D, i, σ, sr1, re.mono sr x1, rv.mono sr x1, ru, R1, fun z H' h => h⟩
/-! ### loops -/
theorem forL_stay {t : Tg} {g : List (Nat × Cell)} {body : Env → MS} {xs : List D} {ρ : Env} {S : Store} {r : Ctl × Store} (h : forL t g body xs ρ S = some r) : stays S g = true := by
  cases xs <;> (unfold forL at h; split at h <;> first | assumption | (cases h; done))
theorem for_read {t : Tg} {k : Nat} {xs : List Ex} {body : List St} {D : Ends} {σ : L2.St} {H : Hp} (h : tS (bs X) W (exS cl (.for t k xs body)) D σ H) :
    tFor (tI (bs X) W fun ρ => M.bnd (evEs cl xs ρ) (itM k)) (gTg X.K t) (tS (bs X) W (exSs cl body)) D σ H := by
  obtain ⟨al, ρ, S, sr, re, R⟩ := h
  simp only [exS] at R
  refine ⟨al, ρ, S, sr, re, (R.bnd sr re).imp fun al1 S1 H1 src x1 sr1 _ R1 => ?_⟩
  have re1 := re.mono sr x1
  obtain ⟨items, g⟩ := src
  obtain ⟨c, Sf, ec, hf⟩ := R1
  simp only at ec ⊢
  refine ⟨forL_stay ec, fun J SJ => ?_⟩
  refine ⟨fun i m σ' H' => m = items.length - i ∧ i ≤ items.length ∧ ∃ al' S' ρ', Xt al1 S1.length H1 al' S'.length H' ∧ SR (bs X) al' S' H' ∧ RE X.K al' S'.length H' ρ' σ' ∧ forL t g (exSs cl body) (items.drop i) ρ' S' = some (c, Sf),
    ⟨items.length, by simp, Nat.zero_le _, al1, S1, ρ, Xt.refl, sr1, re1, by simpa using ec⟩, ?_⟩
  rintro i m σ' H' ⟨rfl, hi, al', S', ρ', x, sr', re', e⟩
  by_cases hlt : i < items.length
  · refine .inr ?_
    obtain ⟨it, hit⟩ : ∃ it, items[i]? = some it := ⟨items[i], by simp [hlt]⟩
    have ed : items.drop i = it :: items.drop (i + 1) := by
      rw [List.drop_eq_getElem_cons hlt]
      congr 1
      have := List.getElem?_eq_getElem hlt
      rw [this] at hit
      exact Option.some.inj hit
    rw [ed] at e
    have hst := forL_stay e
    unfold forL at e
    rw [if_pos hst] at e
    refine ⟨SJ.go al' S' H' i x sr' hst hlt, _, fun σ2 H2 q => ⟨items.length - (i + 1), by omega, q⟩, fun v H2 y => ?_⟩
    obtain ⟨xy, sry, rvy⟩ := SJ.yld al' S' H' i it v H2 x sr' hst hit y
    have xH : Xt al1 S1.length H1 al' S'.length H2 := Xt.trans sr' x xy
    cases hb : bindT t it ρ' with
    | none => simp only [hb] at e; cases e
    | some ρ2 =>
      simp only [hb] at e
      refine bindT_ok hb (re'.mono sr' xy) rvy fun σ2 re2 _ => ⟨al', ρ2, S', sry, re2, ?_⟩
      cases hbd : exSs cl body ρ2 S' with
      | none => rw [hbd] at e; cases e
      | some p =>
        obtain ⟨c2, S2⟩ := p
        rw [hbd] at e
        refine ⟨c2, S2, rfl, fun al3 H3 x3 sr3 => ?_⟩
        have xf : Xt al1 S1.length H1 al3 S2.length H3 := Xt.trans sry xH x3
        cases c2 with
        | nx ρ3 => exact fun σ3 re3 => ⟨(by trivial), hlt, al3, S2, ρ3, xf, sr3, re3, e⟩
        | ct ρ3 => exact fun σ3 re3 => ⟨(by trivial), hlt, al3, S2, ρ3, xf, sr3, re3, e⟩
        | bk ρ3 =>
          cases e
          exact fun σ3 re3 => hf al3 H3 xf sr3 σ3 re3
        | rt d =>
          cases e
          exact fun v rv => hf al3 H3 xf sr3 v rv
        | ex y ρ3 =>
          cases e
          exact fun σ3 C re3 hC => hf al3 H3 xf sr3 σ3 C re3 hC
  · refine .inl ?_
    have hie : i = items.length := by omega
    subst hie
    rw [List.drop_length] at e
    have hst := forL_stay e
    unfold forL at e
    rw [if_pos hst] at e
    refine ⟨SJ.stop al' S' H' x sr' hst, ?_⟩
    cases e
    exact hf al' H' x sr' σ' re'
theorem ss_for {tg iter : Expr} {body : List Stmt} {t : Tg} {k : Nat} {xs : List Ex} {body' : List St} (hX : XOk pk N cl X) (hp : PassesOwn (model X.prog X.w) X.A X.env X.xe) (hi : PI X tg iter (tI (bs X) W fun ρ => M.bnd (evEs cl xs ρ) (itM k))) (hg : PG X tg (gTg X.K t))
    (hb : PSs X body (tS (bs X) W (exSs cl body'))) (hs : ∀ x, foldedSetIterable iter X.env x = pure x) : PS X (.For tg iter body [] pos) (tS (bs X) W (exS cl (.for t k xs body'))) :=
  PS.imp (ps_for hp hX.calm hi hg hb hs) fun D σ H h => for_read h
theorem while_read {c : Ex} {body : List St} {D : Ends} {σ : L2.St} {H : Hp} (h : tS (bs X) W (exS cl (.while c body)) D σ H) :
    tWhile (tT (bs X) W (evT cl c)) (tS (bs X) W (exSs cl body)) D σ H := by
  obtain ⟨al, ρ, S, sr, re, R⟩ := h
  simp only [exS] at R
  obtain ⟨ctl, Sf, ec, hf⟩ := R
  refine ⟨fun m σ' H' => ∃ al' S' ρ', Xt al S.length H al' S'.length H' ∧ SR (bs X) al' S' H' ∧ RE X.K al' S'.length H' ρ' σ' ∧ whileL (evT cl c) (exSs cl body) m ρ' S' = some (ctl, Sf),
    ⟨wmax, al, S, ρ, Xt.refl, sr, re, ec⟩, ?_⟩
  rintro m σ' H' ⟨al', S', ρ', x, sr', re', e⟩
  cases m with
  | zero => unfold whileL at e; cases e
  | succ m =>
    unfold whileL at e
    have R : ResS (bs X) W al' S' H' (MS.bnd ρ' (evT cl c ρ') (fun k => if k then (fun S => match exSs cl body ρ' S with
        | some (.nx ρ2, S2) => whileL (evT cl c) (exSs cl body) m ρ2 S2
        | some (.ct ρ2, S2) => whileL (evT cl c) (exSs cl body) m ρ2 S2
        | some (.bk ρ2, S2) => some (.nx ρ2, S2)
        | r => r)
      else fun S => some (.nx ρ', S)) S') D := ⟨ctl, Sf, e, fun al2 H2 x2 sr2 => hf al2 H2 (Xt.trans sr' x x2) sr2⟩
    refine ⟨al', ρ', S', sr', re', (R.bnd sr' re').imp fun al1 S1 H1 k x1 sr1 ek R1 => ?_⟩
    have re1 := re'.mono sr' x1
    cases k with
    | false =>
      simp only [Bool.false_eq_true, if_false] at R1 ⊢
      exact R1.nx sr1 re1
    | true =>
      simp only [if_true] at R1 ⊢
      have e2 : (match exSs cl body ρ' S1 with
        | some (.nx ρ2, S2) => whileL (evT cl c) (exSs cl body) m ρ2 S2
        | some (.ct ρ2, S2) => whileL (evT cl c) (exSs cl body) m ρ2 S2
        | some (.bk ρ2, S2) => some (.nx ρ2, S2)
        | r => r) = some (ctl, Sf) := by
        unfold MS.bnd at e
        rw [ek] at e
        exact e
      have xf0 : Xt al S.length H al1 S1.length H1 := Xt.trans sr' x x1
      refine ⟨_, fun σ2 H2 q => ⟨m, Nat.lt_succ_self m, q⟩, al1, ρ', S1, sr1, re1, ?_⟩
      cases hbd : exSs cl body ρ' S1 with
      | none => rw [hbd] at e2; cases e2
      | some p =>
        obtain ⟨c2, S2⟩ := p
        rw [hbd] at e2
        refine ⟨c2, S2, rfl, fun al3 H3 x3 sr3 => ?_⟩
        have xf : Xt al S.length H al3 S2.length H3 := Xt.trans sr1 xf0 x3
        cases c2 with
        | nx ρ3 => exact fun σ3 re3 => ⟨al3, S2, ρ3, xf, sr3, re3, e2⟩
        | ct ρ3 => exact fun σ3 re3 => ⟨al3, S2, ρ3, xf, sr3, re3, e2⟩
        | bk ρ3 =>
          cases e2
          exact fun σ3 re3 => hf al3 H3 xf sr3 σ3 re3
        | rt d =>
          cases e2
          exact fun v rv => hf al3 H3 xf sr3 v rv
        | ex y ρ3 =>
          cases e2
          exact fun σ3 C re3 hC => hf al3 H3 xf sr3 σ3 C re3 hC
theorem ss_while {c : Expr} {c' : Ex} {body : List Stmt} {body' : List St} (hp : PassesOwn (model X.prog X.w) X.A X.env X.xe) (ni : notIf c = true) (hc : SE X W cl c c') (hb : PSs X body (tS (bs X) W (exSs cl body'))) :
    PS X (.While c body [] pos) (tS (bs X) W (exS cl (.while c' body'))) := PS.imp (ps_while hp (hc.pt ni) hb) fun D σ H h => while_read h
/-! ### blocks -/
theorem ss_nil : PSs X [] (tS (bs X) W (exSs cl [])) := PSs.imp pss_nil fun D σ H h => by
  obtain ⟨al, ρ, S, sr, re, R⟩ := h
  simp only [exSs] at R
  exact R.nx sr re
theorem ss_cons {st : Stmt} {rest : List Stmt} {s : St} {ss : List St} (h1 : PS X st (tS (bs X) W (exS cl s))) (h2 : PSs X rest (tS (bs X) W (exSs cl ss))) : PSs X (st :: rest) (tS (bs X) W (exSs cl (s :: ss))) :=
  PSs.imp (pss_cons h1 h2) fun D σ H h => by
    obtain ⟨al, ρ, S, sr, re, R⟩ := h
    simp only [exSs] at R
    obtain ⟨c, Sf, e, hf⟩ := R
    unfold MS.seq at e
    refine ⟨al, ρ, S, sr, re, ?_⟩
    cases hs : exS cl s ρ S with
    | none => rw [hs] at e; cases e
    | some p =>
      obtain ⟨c1, S1⟩ := p
      rw [hs] at e
      refine ⟨c1, S1, rfl, fun al1 H1 x1 sr1 => ?_⟩
      cases c1 with
      | nx ρ1 => exact fun σ1 re1 => ⟨al1, ρ1, S1, sr1, re1, c, Sf, e, fun al2 H2 x2 sr2 => hf al2 H2 (Xt.trans sr1 x1 x2) sr2⟩
      | rt d => cases e; exact hf al1 H1 x1 sr1
      | bk ρ1 => cases e; exact hf al1 H1 x1 sr1
      | ct ρ1 => cases e; exact hf al1 H1 x1 sr1
      | ex y ρ1 => cases e; exact hf al1 H1 x1 sr1
end
end Mi

set_option Elab.async false
set_option linter.all false
set_option maxRecDepth 100000
/-! Mi12: bodies of defs, and the defs themselves. -/
namespace Mi
open PySem PySem.Spec PyProof.Rows L2

/-! ### how arguments bind -/
theorem fm_congr {α β : Type} {f g : α → Option β} : ∀ {l : List α}, (∀ x ∈ l, f x = g x) → l.filterMap f = l.filterMap g
  | [], _ => rfl
  | a :: l, h => by
    rw [List.filterMap_cons, List.filterMap_cons, h a (by simp), fm_congr fun x hx => h x (by simp [hx])]
theorem lookup_zip {ps : List Str} : ∀ {us : List Value} (_ : ps.Nodup) (_ : us.length = ps.length) {x : Str}, x ∈ ps → ((ps.zip us).lookup x).isSome = true := by
  induction ps with
  | nil => intro us nd hl x h; simp at h
  | cons p ps ih =>
    intro us nd hl x h
    cases us with
    | nil => simp at hl
    | cons u us =>
      simp only [List.zip_cons_cons, List.lookup_cons]
      by_cases e : x = p
      · subst e; simp
      · have : (x == p) = false := by simpa using e
        rw [this]
        exact ih (List.nodup_cons.mp nd).2 (by simpa using hl) (by simpa [e] using h)
theorem filterMap_zip {ps : List Str} : ∀ {us : List Value} (_ : ps.Nodup) (_ : us.length = ps.length), ps.filterMap (fun n => ((ps.zip us).lookup n).map (n, ·)) = ps.zip us := by
  induction ps with
  | nil => intro us nd hl; simp
  | cons p ps ih =>
    intro us nd hl
    cases us with
    | nil => simp at hl
    | cons u us =>
      have nd' := List.nodup_cons.mp nd
      rw [List.filterMap_cons]
      simp only [List.zip_cons_cons, List.lookup_cons, beq_self_eq_true, Option.map_some]
      congr 1
      refine Eq.trans (fm_congr fun x hx => ?_) (ih nd'.2 (by simpa using hl))
      have e : x ≠ p := fun z => nd'.1 (z ▸ hx)
      have : (x == p) = false := by simpa using e
      rw [this]
theorem bind_plain {fd : FuncData} {ps : List Str} (h1 : fd.params.posonlyargs = []) (h2 : fd.params.vararg = none) (h3 : fd.params.kwonlyargs = []) (h4 : fd.params.kwarg = none) (h5 : fd.defaults = .none) (h6 : fd.params.args.map (·.arg) = ps) (nd : ps.Nodup)
    {us : List Value} (hl : us.length = ps.length) : bindArgs fd ⟨us, []⟩ = pure (ps.zip us) := by
  unfold bindArgs
  simp only [h1, h2, h3, h4, h5, h6, List.map_nil, List.nil_append, List.append_nil]
  have e1 : (ps.filter fun n => ((ps.zip us).lookup n).isNone) = [] := by
    rw [List.filter_eq_nil_iff]
    intro x hx
    have := lookup_zip nd hl hx
    cases q : (ps.zip us).lookup x with
    | none => rw [q] at this; cases this
    | some v => simp
  simp [hl, e1, seqItems?, notAStandIn]
  rw [filterMap_zip nd hl]

/-! ### the check of statements -/
def noComp : Expr → Bool
  | .ListComp _ _ _ _ => false
  | .SetComp _ _ _ _ => false
  | .DictComp _ _ _ _ _ => false
  | _ => true
def isTuple : Expr → Bool
  | .Tuple _ _ _ => true
  | .List _ _ => true
  | _ => false
/-- does y = [..] store out of the comprehension itself -/
def swB (sc scope : Scope) (y : Str) (py lp : Pos) : Bool := (sc.names.lookup y == some .local) && (py.line == lp.line) && !(scope.names.any fun (n, k) => n == y && (k == .local || k == .cell))
def asgOk (sc : Scope) (tg e : Expr) : Bool := match e with
  | .ListComp _ _ scope lp => (match tg with
    | .Name y py => !swB sc scope y py lp
    | _ => true)
  | .SetComp _ _ _ _ => false
  | .DictComp _ _ _ _ _ => false
  | .Tuple _ _ _ => !isTuple tg
  | _ => true
def chkSs (p : Stmt → St → Bool) : List Stmt → List St → Bool
  | [], [] => true
  | e :: es, i :: is => p e i && chkSs p es is
  | _, _ => false
def augOp (o : O2) : Bool := match o with
  | .add => true | .sub => true | .mul => true
  | _ => false
def chkS (pk : Pk) (N : List Str) (sc : Scope) : Nat → Stmt → St → Bool
  | 0, _, _ => false
  | n + 1, st, s => match s with
    | .asg t e' => (match st with
      | .Assign [tg] e _ => noStar tg && chkTg N sc (fun _ => true) n tg t && chkE pk N n sc e e' &&
          (asgOk sc tg e || (match tg, e with
            | .Name y py, .ListComp _ [_] scope lp => swB sc scope y py lp
            | _, _ => false))
      | _ => false)
    | .asgIx o' i' e' => (match st with
      | .Assign [.Subscript o i _] e _ => !isSlice i && chkE pk N n sc o o' && chkE pk N n sc i i' && chkE pk N n sc e e'
      | _ => false)
    | .aug i o e' => (match st with
      | .AugAssign (.Name x _) op e _ => decide (op = opN o) && augOp o && decide (N[i]? = some x) && locB sc (fun _ => true) x && chkE pk N n sc e e'
      | _ => false)
    | .expr e' => (match st with | .Expr e _ => noComp e && chkE pk N n sc e e' | _ => false)
    | .ite c' a' b' => (match st with | .If c a b _ => notIf c && chkE pk N n sc c c' && chkSs (chkS pk N sc n) a a' && chkSs (chkS pk N sc n) b b' | _ => false)
    | .for t k xs body' => (match st with
      | .For tg iter body [] _ => chkTg N sc (fun _ => true) n tg t && chkIt pk (chkE pk N n sc) sc iter k xs && chkSs (chkS pk N sc n) body body'
      | _ => false)
    | .while c' body' => (match st with | .While c body [] _ => notIf c && chkE pk N n sc c c' && chkSs (chkS pk N sc n) body body' | _ => false)
    | .ret e' => (match st with | .Return (some e) _ => chkE pk N n sc e e' | _ => false)
    | .retN => (match st with | .Return none _ => true | _ => false)
    | .brk => (match st with | .Break _ => true | _ => false)
    | .cont => (match st with | .Continue _ => true | _ => false)
    | .pass => (match st with | .Pass _ => true | _ => false)
    | _ => false

theorem augOp_ok {o : O2} (h : augOp o = true) : o = .add ∨ o = .sub ∨ o = .mul := by
  cases o <;> first | (cases h; done) | simp
/-- the context of a def's body -/
structure SOk (pk : Pk) (N : List Str) (cl : Cl) (X : Cx) : Prop where
  ok : XOk pk N cl X
  kind : X.env.scope.kind = .function
  fn : ∀ x, X.fn x = true
  po : PassesOwn (model X.prog X.w) X.A X.env X.xe
theorem swaps_no {e : Expr} (h : noComp e = true) (t : Option Expr) (l : Nat) (env : PySem.Env) : swapsWith e t l env = pure false := by
  cases e <;> first | rfl | (cases h; done)
theorem swaps_lc {elt : Expr} {gs : List Comprehension} {scope : Scope} {lp py : Pos} {y : Str} {l : Nat} {env : PySem.Env} (hk : env.scope.kind = .function) : swapsWith (.ListComp elt gs scope lp) (some (.Name y py)) l env = pure (swB env.scope scope y py lp) := by
  have hb : env.blockKind = .function := by unfold Env.blockKind; rw [hk]; rfl
  unfold swapsWith swB
  simp only [hb, Expr.pos, Env.kindOf]
  rfl
theorem asgOk_ok {env : PySem.Env} {tg e : Expr} {l : Nat} (hk : env.scope.kind = .function) (h : asgOk env.scope tg e = true) : swapsWithSole [tg] e l env = pure false ∧ swappedStores [tg] e env = pure none := by
  constructor
  · show swapsWith e (some tg) l env = pure false
    unfold asgOk at h
    split at h
    · split at h
      · rw [swaps_lc hk]
        rw [Bool.not_eq_true'] at h
        rw [h]
      · rename_i hn
        cases tg <;> first | rfl | exact absurd rfl (hn _ _)
    · cases h
    · cases h
    · rfl
    · rename_i h1 h2 h3 h4
      refine swaps_no ?_ _ _ _
      cases e <;> first | rfl | exact absurd rfl (h1 _ _ _ _) | exact absurd rfl (h2 _ _ _ _) | exact absurd rfl (h3 _ _ _ _ _)
  · unfold swappedStores
    cases e <;> first | rfl | skip
    all_goals (cases tg <;> first | rfl | (exfalso; simp [asgOk, isTuple] at h))

section
variable {pk : Pk} {N : List Str} {cl : Cl} {X : Cx} {W : WX} {pos : Pos}
/-- y = [..], stored by the comprehension -/
theorem ss_lc {elt tg iter : Expr} {ifs : List Expr} {scope : Scope} {lp py : Pos} {y : Str} {i : Nat} {e' : Ex} {n : Nat} (hX : SOk pk N cl X) (tk : Takes X W) (hN : N[i]? = some y)
    (q : chkE pk N (n + 1) X.env.scope (.ListComp elt [⟨tg, iter, ifs, 0⟩] scope lp) e' = true) (hs : swB X.env.scope scope y py lp = true) :
    PS X (.Assign [.Name y py] (.ListComp elt [⟨tg, iter, ifs, 0⟩] scope lp) pos) (tS (bs X) W (exS cl (.asg (.nm i) e'))) := by
  have ihp := fun e ir q => (soundE pk N cl n X W e ir hX.ok tk q).1
  have hsl := hs
  unfold swB at hsl
  simp only [Bool.and_eq_true, beq_iff_eq] at hsl
  unfold chkE at q
  simp only [solo] at q
  cases e' <;> simp only at q <;> first | (cases q; done) | skip
  rename_i elt' t k xs cs vs
  simp only [Bool.and_eq_true, decide_eq_true_eq, List.all_eq_true] at q
  obtain ⟨⟨⟨⟨⟨⟨q1, rfl⟩, q3⟩, q4⟩, q5⟩, q6⟩, q7⟩ := q
  obtain ⟨p1, p2⟩ := pi_ok (tg := tg) hX.ok ihp q5
  have blkX : ∀ (s : Shared) (H : Hp) (C : Addr) (l : List (Str × Addr)) (fp : List Addr), XOk pk N cl (X.blk s H scope (compEnvC scope l C X.env) fp) := fun s H C l fp => hX.ok.blk s H scope _ fp
  refine PS.imp (ps_setLc (i := i) hX.ok.calm (by rw [hX.ok.hN]; exact hX.ok.nd) (by rw [hX.ok.hN]; exact hN) hsl.1.1 (by rw [swaps_lc hX.kind, hs]) p1 (own := ownOf N scope) (te := tE (bs X) W0 (evE cl elt')) (tt := tT (bs X) W0 (evCs cl cs)) (g := gTg X.K t) (by rw [hX.ok.hN]; exact blkOk_by q1)
    (fun s H C l fp => pg_ok (blkX s H C l fp) (fnm := fun x => scope.names.lookup x == some .cell) (fun x h => h) q4) (fun s H C l fp => ?_)
    (fun s H C l fp => (soundE pk N cl n (X.blk s H scope (compEnvC scope l C X.env) fp) W0 elt elt' (blkX s H C l fp) takes0 q7).1) p2) fun D σ H h => ?_
  · exact comp_tests' (fun e ir q => soundE pk N cl n _ W0 e ir (blkX s H C l fp) takes0 q) q6
  · have h1 := asg_read h
    simp only [evE] at h1
    exact lc_read (fun j hj => by have := q3 j hj; simpa using this) h1

theorem soundSs {p : Stmt → St → Bool} (hp : ∀ st s, p st s = true → PS X st (tS (bs X) W (exS cl s))) : ∀ {es : List Stmt} {is : List St}, chkSs p es is = true → PSs X es (tS (bs X) W (exSs cl is))
  | [], [], _ => ss_nil
  | e :: es, i :: is, h => by
    simp only [chkSs, Bool.and_eq_true] at h
    exact ss_cons (hp e i h.1) (soundSs hp h.2)
  | [], _ :: _, h => by simp [chkSs] at h
  | _ :: _, [], h => by simp [chkSs] at h
theorem soundS (hX : SOk pk N cl X) (tk : Takes X W) : ∀ (n : Nat) (st : Stmt) (s : St), chkS pk N X.env.scope n st s = true → PS X st (tS (bs X) W (exS cl s))
  | 0, _, _, q => absurd (show false = true from q) Bool.false_ne_true
  | n + 1, st, s, q => by
    have ih := soundS hX tk n
    have ihE := fun e ir => soundE pk N cl n X W e ir hX.ok tk
    unfold chkS at q
    cases s <;> simp only at q <;> first | (cases q; done) | skip
    · -- asg
      rename_i t e'
      split at q
      · rename_i tg e _
        simp only [Bool.and_eq_true] at q
        obtain ⟨⟨⟨q1, q2⟩, q3⟩, q4⟩ := q
        rw [Bool.or_eq_true] at q4
        rcases q4 with q4 | q4
        · obtain ⟨a1, a2⟩ := asgOk_ok (l := _) hX.kind q4
          exact ss_asg (ihE _ _ q3) (pg_ok hX.ok (fun x _ => hX.fn x) q2) q1 a1 a2
        · split at q4
          · rename_i y py elt g scope lp
            obtain ⟨tg2, iter, ifs, as⟩ := g
            cases n with
            | zero => exact absurd (show false = true from q3) Bool.false_ne_true
            | succ n =>
              obtain ⟨i, rfl, hi⟩ : ∃ i, t = .nm i ∧ N[i]? = some y := by
                unfold chkTg at q2
                split at q2
                · rename_i h; cases h
                  simp only [Bool.and_eq_true, decide_eq_true_eq] at q2
                  exact ⟨_, rfl, q2.1⟩
                · rename_i h; cases h
                · cases q2
              have has : as = 0 := by
                unfold chkE at q3
                simp only [solo] at q3
                cases e' <;> simp only at q3 <;> first | (cases q3; done) | skip
                split at q3
                · rename_i h; cases h; rfl
                · cases q3
              subst has
              exact ss_lc hX tk hi q3 q4
          · cases q4
      · cases q
    · -- asgIx
      split at q
      · rename_i o i tpos e _
        simp only [Bool.and_eq_true, Bool.not_eq_true'] at q
        exact ss_asgIx (ihE _ _ q.1.1.2) (ihE _ _ q.1.2) (ihE _ _ q.2) q.1.1.1 (by cases e <;> rfl)
      · cases q
    · -- aug
      split at q
      · simp only [Bool.and_eq_true, decide_eq_true_eq] at q
        obtain ⟨⟨⟨⟨rfl, q2⟩, q3⟩, q4⟩, q5⟩ := q
        exact ss_aug hX.ok (augOp_ok q2) (by rw [hX.ok.hN]; exact q3) (locB_ok q4).1 ((locB_ok q4).2.imp (fun _ => hX.fn _) id) (ihE _ _ q5)
      · cases q
    · -- expr
      split at q
      · simp only [Bool.and_eq_true] at q
        exact ss_expr (ihE _ _ q.2) (swaps_no q.1 _ _ _)
      · cases q
    · -- if
      split at q
      · simp only [Bool.and_eq_true] at q
        exact ss_ite q.1.1.1 (ihE _ _ q.1.1.2) (soundSs ih q.1.2) (soundSs ih q.2)
      · cases q
    · -- for
      split at q
      · simp only [Bool.and_eq_true] at q
        obtain ⟨p1, p2⟩ := pi_ok (cl := cl) (W := W) hX.ok (fun e i h => (ihE e i h).1) q.1.2
        exact ss_for hX.ok hX.po p1 (pg_ok hX.ok (fun x _ => hX.fn x) q.1.1) (soundSs ih q.2) p2
      · cases q
    · -- while
      split at q
      · simp only [Bool.and_eq_true] at q
        exact ss_while hX.po q.1.1 (ihE _ _ q.1.2) (soundSs ih q.2)
      · cases q
    · split at q
      · exact ss_ret (ihE _ _ q)
      · cases q
    · split at q
      · exact ss_retN
      · cases q
    · split at q
      · exact ss_brk
      · cases q
    · split at q
      · exact ss_cont
      · cases q
    · split at q
      · exact ss_pass
      · cases q
end
end Mi

set_option Elab.async false
set_option linter.all false
set_option maxRecDepth 100000
/-! Mi13: the defs of a program, and a law. -/
namespace Mi
open PySem PySem.Spec PyProof.Rows L2

/-- the check of a def's text -/
def scopeB (N ps : List Str) (sc : Scope) : Bool :=
  (match sc.kind with | .function => true | _ => false) && !sc.isCoroutine && !sc.isGenerator && decide (N.Nodup) && decide (N.take ps.length = ps) &&
    ps.all (fun x => match sc.names.lookup x with | some .local => true | some .cell => true | _ => false) && sc.names.all (fun y => match y.2 with | .free => false | _ => true)
theorem scopeB_ok {N ps : List Str} {sc : Scope} (h : scopeB N ps sc = true) : FnScope N ps sc := by
  unfold scopeB at h
  simp only [Bool.and_eq_true, decide_eq_true_eq, Bool.not_eq_true', List.all_eq_true] at h
  obtain ⟨⟨⟨⟨⟨⟨h1, h2⟩, h3⟩, h4⟩, h5⟩, h6⟩, h7⟩ := h
  refine ⟨?_, h2, h3, h4, h5, fun x hx => ?_, fun y hy e => ?_⟩
  · split at h1
    · assumption
    · cases h1
  · have := h6 x hx
    split at this
    · exact .inl (by assumption)
    · exact .inr (by assumption)
    · cases this
  · have := h7 y hy
    rw [e] at this
    cases this
def argsB (a : Arguments) (ps : List Str) : Bool := a.posonlyargs.isEmpty && a.vararg.isNone && a.kwonlyargs.isEmpty && a.kwarg.isNone && a.defaults.isEmpty && decide (a.args.map (·.arg) = ps)
def fuel : Nat := 60
/-- a def's text stands for f; N: its names, the parameters first -/
def chkFn (pk : Pk) (st : Stmt) (N ps : List Str) (f : Fn) : Bool :=
  scopeB N ps (defScope st) && argsB (defArgs st) ps && decide (N.length = f.n) && decide (ps.length = f.np) && chkSs (chkS pk N (defScope st) fuel) (defBody st) f.body

section
variable {P : Program} {w : World} {K : PySem.W.Frag} {mg : Str → Option Value} {base : Heap}
theorem start_get {N : List Str} {vs : List V} {i : Nat} {v : V} (h : vs[i]? = some v) : (L2.start N vs)[i]? = some (some v) := by
  unfold L2.start
  have hi : i < vs.length := (List.getElem?_eq_some_iff.mp h).1
  rw [List.getElem?_append_left (by simpa using hi), List.getElem?_map, h]
  rfl
theorem fn_ok {pk : Pk} {cl : Cl} {k : Nat} {x : Str} {st : Stmt} {a : Addr} {fd : FuncData} {N ps : List Str} {f : Fn} (F : L2.Fun K x x st a fd) (L : Lk ⟨P, w, K, mg, base⟩ cl k pk) (q : chkFn pk st N ps f = true) :
    FnOk P w K mg base (L2.CX P w) (k + 1) a fd ps (spF ⟨P, w, K, mg, base⟩ (callB cl f)) := by
  unfold chkFn at q
  simp only [Bool.and_eq_true, decide_eq_true_eq] at q
  obtain ⟨⟨⟨⟨q1, q2⟩, q3⟩, q4⟩, q5⟩ := q
  have S := scopeB_ok q1
  refine Fun.okX F S (fun vs H Q E h => ?_) (fun cdv A outer s H vs Q E hr h => ?_)
  · obtain ⟨al, S, ds, sr, rs, o, S', e, _⟩ := h
    unfold callB at e
    split at e
    · rename_i hl
      rw [← rs.length, hl.1, q4]
    · cases e
  · generalize hX : cxOf (L2.CX P w) P w K mg base N x (defScope st) a cdv A outer s H E = X
    have eB : bs X = ⟨P, w, K, mg, base⟩ := by rw [← hX]; rfl
    have ok : SOk pk N cl X := by
      rw [← hX]
      exact ⟨⟨rfl, S.nd, rfl, k, hr, L⟩, S.kind, fun _ => rfl, passes_of rfl⟩
    have tk : Takes X (fun c d _ H => E c d H) := by
      rw [← hX]
      exact takes_of rfl rfl rfl rfl
    have hsc : X.env.scope = defScope st := by rw [← hX]; rfl
    refine ⟨tS (bs X) (fun c d _ H => E c d H) (exSs cl f.body), soundSs (fun st' s' h => soundS ok tk fuel st' s' (by rw [hsc]; exact h)) q5, ?_⟩
    rw [eB]
    obtain ⟨al, S0, ds, sr, rs, o, S', e, h1, h2⟩ := h
    unfold callB at e
    split at e
    case isFalse => cases e
    rename_i hl
    have lv := rs.length
    refine ⟨al, ds.map some ++ List.replicate (f.n - f.np) none, S0, sr, ⟨?_, fun i d hd => ?_⟩, ?_⟩
    · unfold L2.start
      simp only [List.length_append, List.length_map, List.length_replicate]
      omega
    · have hi : i < ds.length := by
        by_cases hi : i < ds.length
        · exact hi
        · rw [List.getElem?_append_right (by simpa using hi)] at hd
          rw [List.getElem?_replicate] at hd
          split at hd <;> cases hd
      rw [List.getElem?_append_left (by simpa using hi), List.getElem?_map] at hd
      cases hds : ds[i]? with
      | none => rw [hds] at hd; cases hd
      | some d' =>
        rw [hds] at hd
        cases hd
        obtain ⟨v, hv, rv⟩ := rs.get hds
        exact ⟨v, start_get hv, rv⟩
    · cases hb : exSs cl f.body (ds.map some ++ List.replicate (f.n - f.np) none) S0 with
      | none => rw [hb] at e; cases e
      | some p =>
        obtain ⟨c, S1⟩ := p
        rw [hb] at e
        refine ⟨c, S1, rfl, fun al' H' x1 sr1 => ?_⟩
        cases c with
        | nx ρ' =>
          cases e
          intro σ' _
          obtain ⟨g1, g2, g3⟩ := gc_ok (K := K) sr x1 sr1 .non
          exact h1 .non rfl al' H' g1 g2 .non (by simp [RV])
        | rt d =>
          cases e
          intro v rv
          obtain ⟨g1, g2, g3⟩ := gc_ok (K := K) sr x1 sr1 d
          exact h1 d rfl al' H' g1 g2 v (g3 v rv)
        | ex y ρ' =>
          cases e
          intro σ' C _ hC
          obtain ⟨g1, g2, g3⟩ := gc_ok (K := K) sr x1 sr1 .non
          exact h2 y rfl al' H' C g1 g2 hC
        | bk ρ' => cases e
        | ct ρ' => cases e
theorem fn_binds {x : Str} {st : Stmt} {a : Addr} {fd : FuncData} {N ps : List Str} {f : Fn} {pk : Pk} (F : L2.Fun K x x st a fd) (q : chkFn pk st N ps f = true) : Binds K fd ps [] := by
  unfold chkFn at q
  simp only [Bool.and_eq_true, decide_eq_true_eq] at q
  obtain ⟨⟨⟨⟨q1, q2⟩, q3⟩, q4⟩, q5⟩ := q
  have S := scopeB_ok q1
  unfold argsB at q2
  simp only [Bool.and_eq_true, decide_eq_true_eq, List.isEmpty_iff, Option.isNone_iff_eq_none] at q2
  obtain ⟨oc, od, kV, doc, pm, an, cdv, ct, osl, rfl, lk, hcd⟩ := F.ex
  refine .all fun us hl => bind_plain q2.1.1.1.1.1 q2.1.1.1.1.2 q2.1.1.1.2 q2.1.1.2 rfl q2.2 ?_ hl
  rw [← S.pre]
  exact S.nd.sublist (List.take_sublist _ _)
/-- what the head gives of one def -/
structure DefAt (P : Program) (K : PySem.W.Frag) (mg : Str → Option Value) (p : Prog) (pk : Pk) (f : String) : Prop where
  at_ : ∃ st N ps fn a fd, p.fns.lookup f = some fn ∧ mg (nm f) = some (.ref a) ∧ L2.Fun K (nm f) (nm f) st a fd ∧ chkFn pk st N ps fn = true
/-- what the head gives of a program -/
structure PrOk (P : Program) (w : World) (K : PySem.W.Frag) (mg : Str → Option Value) (base : Heap) (p : Prog) (pk : Pk) : Prop where
  fns : ∀ f, pk.fs.contains f = true → DefAt P K mg p pk f
  bis : ∀ x, pk.bis.contains x = true → mg (nm x) = none
  gl : ∀ x d, pk.gls.contains x = true → p.gls.lookup x = some d → ∃ u v, mg (nm x) = some u ∧ RelV v u ∧ ∀ al n H, RV K al n H d v
theorem callK_gl (p : Prog) : ∀ k, (callK p k).gl = fun x => p.gls.lookup x
  | 0 => rfl
  | _ + 1 => rfl
theorem all_ok {p : Prog} {pk : Pk} (h : PrOk P w K mg base p pk) : ∀ k, Lk ⟨P, w, K, mg, base⟩ (callK p k) k pk
  | 0 => by
    refine ⟨fun f hf => ?_, h.bis, fun x d hx hd => h.gl x d hx (by rw [callK_gl] at hd; exact hd)⟩
    obtain ⟨st, N, ps, fn, a, fd, h1, h2, F, q⟩ := (h.fns f hf).at_
    have no : ∀ vs H Q E, ¬ spF ⟨P, w, K, mg, base⟩ ((callK p 0).fn f) vs H Q E := fun vs H Q E z => by
      obtain ⟨al, S, ds, _, _, R⟩ := z
      exact R.none
    exact ⟨a, fd, ps, h2, F.kp, fn_binds F q, ⟨fun vs H Q E z => absurd z (no vs H Q E), fun A outer s H args us vs Q E _ _ _ _ z => absurd z (no vs H Q E)⟩⟩
  | k + 1 => by
    have ih := all_ok h k
    refine ⟨fun f hf => ?_, h.bis, fun x d hx hd => h.gl x d hx (by rw [callK_gl] at hd; exact hd)⟩
    obtain ⟨st, N, ps, fn, a, fd, h1, h2, F, q⟩ := (h.fns f hf).at_
    refine ⟨a, fd, ps, h2, F.kp, fn_binds F q, ?_⟩
    have e : (callK p (k + 1)).fn f = callB (callK p k) fn := by
      funext ds
      show (match p.fns.lookup f with | none => M.fail | some fn => callB (callK p k) fn ds) = _
      rw [h1]
    rw [e]
    exact fn_ok F ih q

/-- the law's def at k + 1 calls: it answers True -/
def spTrue (K : PySem.W.Frag) : Sp := fun vs H Q _ => ∃ (a : Addr) (ns : List Int), vs = [.ref a] ∧ FzL K H a (ns.map V.int) ∧ ns.length ≤ 63 ∧ ∀ H', Q (.bl true) H'
theorem ints_rv {al : Al} {n : Nat} {H : Hp} : ∀ ns : List Int, RVs K al n H (ns.map D.int) (ns.map V.int)
  | [] => .nil
  | i :: ns => .cons (by simp [RV]) (ints_rv ns)
theorem law_true {m : List D → M D} {CX : CXT} {k : Nat} {a : Addr} {fd : FuncData} {ps : List Str} (hlen : ps.length = 1)
    (hm : ∀ ns : List Int, ns.length ≤ 63 → ∃ S', m [.fzl (ns.map .int)] [] = some (.ok (.bl true), S')) (F : FnOk P w K mg base CX k a fd ps (spF ⟨P, w, K, mg, base⟩ m)) : FnOk P w K mg base CX k a fd ps (spTrue K) :=
  F.imp fun vs H Q E h => by
    obtain ⟨b, ns, rfl, hf, hl, q⟩ := h
    obtain ⟨S', e⟩ := hm ns hl
    refine ⟨fun _ => 0, [], [.fzl (ns.map .int)], ⟨fun i c z => by simp at z, fun i j hi => absurd hi (Nat.not_lt_zero _)⟩, .one ?_, .ok (.bl true), S', e, fun d z al' H' _ _ v rv => ?_, fun c z => nomatch z⟩
    · rw [rv_fzl]
      exact ⟨b, _, rfl, hf, ints_rv ns⟩
    · cases z
      rw [rv_bl] at rv
      subst rv
      exact q H'
end
section
variable {P : Program} {w : World} {K : PySem.W.Frag} {mg : Str → Option Value} {h : Heap}
abbrev kOf {K : PySem.W.Frag} {h : Heap} (_ : K.In h) : PySem.W.Frag := K
theorem defAt_mk {p : Prog} {pk : Pk} {f : String} {st : Stmt} {N ps : List Str} {fn : Fn} {a : Addr} {oc : Value} {od an : Option Addr} {osl : Array (Option Value)} {kV doc pm cdv ct : Value} (X : K.In h) (G : h.Ns mainGlobals mg)
    (e1 : PySem.W.nsIn K mainGlobals (nm f) = some (some (.ref a))) (l : K.lookup a = some ⟨oc, od, .func (PySem.W.fnOf (nm f) (nm f) (defArgs st) (defBody st) (defScope st) .none kV doc pm an cdv ct), osl⟩)
    (c : PySem.W.codeIn K cdv (nm f) = true) (k : PySem.W.keepIn K (.ref a) = true) (hl : p.fns.lookup f = some fn) (q : chkFn pk st N ps fn = true) : DefAt P K mg p pk f :=
  ⟨st, N, ps, fn, a, _, hl, PySem.W.mg_of X G e1, fun_mk (st := st) l c k, q⟩
theorem fun_ex {f : String} {st : Stmt} {a : Addr} {oc : Value} {od an : Option Addr} {osl : Array (Option Value)} {kV doc pm cdv ct : Value} (X : K.In h) (G : h.Ns mainGlobals mg)
    (e1 : PySem.W.nsIn K mainGlobals (nm f) = some (some (.ref a))) (l : K.lookup a = some ⟨oc, od, .func (PySem.W.fnOf (nm f) (nm f) (defArgs st) (defBody st) (defScope st) .none kV doc pm an cdv ct), osl⟩)
    (c : PySem.W.codeIn K cdv (nm f) = true) (k : PySem.W.keepIn K (.ref a) = true) : ∃ a fd, mg (nm f) = some (.ref a) ∧ L2.Fun K (nm f) (nm f) st a fd :=
  ⟨a, _, PySem.W.mg_of X G e1, fun_mk (st := st) l c k⟩
/-- a constant of the module -/
def GlAt (K : PySem.W.Frag) (mg : Str → Option Value) (x : String) (d : D) : Prop := ∃ u v, mg (nm x) = some u ∧ RelV v u ∧ ∀ al n H, RV K al n H d v
theorem gl_int {x : String} {i : Int} {t : Tok} (X : K.In h) (G : h.Ns mainGlobals mg) (e : PySem.W.nsIn K mainGlobals (nm x) = some (some (.int i t))) : GlAt K mg x (.int i) :=
  ⟨_, .int i, PySem.W.mg_of X G e, ⟨t, rfl⟩, fun _ _ _ => by simp [RV]⟩
theorem gl_str {x : String} {s : Tx} {z : PySem.Str} {t : Tok} (X : K.In h) (G : h.Ns mainGlobals mg) (e : PySem.W.nsIn K mainGlobals (nm x) = some (some (.str z t))) (hz : z = txS s) (h1 : s.length ≤ szl) (h2 : s.all (fun c => decide (c < 1114112)) = true) : GlAt K mg x (.str s) :=
  ⟨_, .str (txS s), PySem.W.mg_of X G e, ⟨t, by rw [hz]⟩, fun _ _ _ => by rw [rv_str]; exact ⟨rfl, h1, h2⟩⟩
/-- flat values of the written part -/
def flatB : List D → List Value → Bool
  | [], [] => true
  | .int i :: ds, .int j _ :: us => decide (i = j) && flatB ds us
  | .str s :: ds, .str z _ :: us => decide (z = txS s) && decide (s.length ≤ 1000) && s.all (fun c => decide (c < 1114112)) && flatB ds us
  | _, _ => false
theorem flatB_ok {al : Al} {n : Nat} {H : Hp} : ∀ {ds : List D} {us : List Value}, flatB ds us = true → ∃ vs, Vals vs us ∧ ∀ al n H, RVs K al n H ds vs
  | [], [], _ => ⟨[], .nil, fun _ _ _ => .nil⟩
  | .int i :: ds, .int j t :: us, q => by
    simp only [flatB, Bool.and_eq_true, decide_eq_true_eq] at q
    obtain ⟨vs, h1, h2⟩ := flatB_ok (al := al) (n := n) (H := H) q.2
    exact ⟨.int i :: vs, .cons ⟨t, by rw [q.1]⟩ h1, fun _ _ _ => .cons (by simp [RV]) (h2 _ _ _)⟩
  | .str s :: ds, .str z t :: us, q => by
    simp only [flatB, Bool.and_eq_true, decide_eq_true_eq] at q
    obtain ⟨vs, h1, h2⟩ := flatB_ok (al := al) (n := n) (H := H) q.2
    exact ⟨.str (txS s) :: vs, .cons ⟨t, by rw [q.1.1.1]⟩ h1, fun _ _ _ => .cons (by rw [rv_str]; exact ⟨rfl, by unfold szl; omega, q.1.2⟩) (h2 _ _ _)⟩
theorem gl_tup {x : String} {ds : List D} {a : Addr} {dd : Option Addr} {its : Array Value} {n : Nat} {sl : Array (Option Value)} (X : K.In h) (G : h.Ns mainGlobals mg) (e : PySem.W.nsIn K mainGlobals (nm x) = some (some (.ref a)))
    (l : K.lookup a = some ⟨.type "tuple", dd, .seq its n, sl⟩) (hz : its.size ≤ sizeLine) (hf : flatB ds its.toList = true) : GlAt K mg x (.tup ds) := by
  obtain ⟨vs, h1, h2⟩ := flatB_ok (K := K) (al := fun _ => 0) (n := 0) (H := fun _ => none) hf
  refine ⟨_, .ref a, PySem.W.mg_of X G e, rfl, fun al n' H => ?_⟩
  rw [rv_tup]
  exact ⟨a, vs, rfl, .inr ⟨_, its, n, l, rfl, rfl, hz, h1⟩, h2 _ _ _⟩
end
theorem callerRoom : Room 230 callerA := ⟨rfl, by decide, by decide⟩

theorem hCX0 (w : World) (P : Program) (H : Hp) (s : Shared) (e : Value) (s' : Shared) : L2.CX P w [] H s (fun _ _ _ => False) e s' → False := fun h => by
  obtain ⟨_, _, _, _, _, _, _, _, _, _, _, _, z⟩ := h
  exact z
/-- the end: what is left of a law's row behind its head -/
theorem law_end {l : PySem.W.OpenLaw} {q : Program} {loose : List Str} {XP : (Str → Option Value) → Heap → Prop} {YP : World → Heap → Prop} {d : DefRec} {K : Params → PySem.W.Frag} {p : Prog} {pk : Pk} {k : Nat} {x : String} {fn : Fn} {px : Str} {st : Stmt} {N : List Str}
    (hn : l.most = some 63) (hdf : d.params.defaults = []) (hY : ∀ (w : World) (h : Heap), YP w h → (K w.params).In h) (hx : d.name = nm x) (hk : k ≤ 229) (hq : chkFn pk st N [px] fn = true)
    (hfn : p.fns.lookup x = some fn) (hpk : pk.fs.contains x = true)
    (hm : ∀ ns : List Int, ns.length ≤ 63 → ∃ S', callB (callK p k) fn [.fzl (ns.map .int)] [] = some (.ok (.bl true), S'))
    (F : ∀ (w : World) (mg : Str → Option Value) (h : Heap), (K w.params).In h → h.Ns mainGlobals mg → (∀ base, PrOk l.prog w (K w.params) mg base p pk) ∧ ∃ a fd, mg (nm x) = some (.ref a) ∧ L2.Fun (K w.params) (nm x) (nm x) st a fd) :
    PySem.W.WalkO q loose XP YP l.row.toRowW d [] (fun f vs => PySem.call f vs) :=
  L2.walk_of (n := 63) (k := k + 1) (x := px) (CX := fun w => L2.CX l.prog w) (sp := fun w => spTrue (K w.params)) hn (by decide) hdf (callerRoom.mono (by omega)) hY
    (fun w mg fa h KX G hmg => by
      obtain ⟨PO, a, fd, h1, F1⟩ := F w mg h KX G
      have e : fa = a := by
        rw [hx, h1] at hmg
        cases hmg
        rfl
      subst e
      have hb := fn_binds F1 hq
      refine ⟨fd, ?_, fun base h2 h3 => law_true (ps := [px]) rfl hm (fn_ok F1 (all_ok (PO base) k) hq)⟩
      obtain ⟨oc, od, kV, doc, pm, an, cdv, ct, osl, rfl, lk, hcd⟩ := F1.ex
      intro s u
      unfold chkFn at hq
      simp only [Bool.and_eq_true, decide_eq_true_eq] at hq
      obtain ⟨⟨⟨⟨q1, q2⟩, q3⟩, q4⟩, q5⟩ := hq
      unfold argsB at q2
      simp only [Bool.and_eq_true, decide_eq_true_eq, List.isEmpty_iff, Option.isNone_iff_eq_none] at q2
      exact .of_eq (bind_plain (ps := [px]) (us := [u]) q2.1.1.1.1.1 q2.1.1.1.1.2 q2.1.1.1.2 q2.1.1.2 rfl q2.2 (List.nodup_cons.mpr ⟨by simp, List.nodup_nil⟩) rfl))
    (fun w H a ns hl hO hS => ⟨a, ns, rfl, by
      rcases hS with (hS | hS) | hS
      · rcases hO a with z | ⟨o, xs, z⟩
        · rw [z] at hS; cases hS
        · rw [z] at hS; cases hS
      · exact .inl hS
      · exact .inr hS, hl, fun _ => rfl⟩)
    (fun w H s e s' => hCX0 w l.prog H s e s')

theorem all_of {Q : String → Prop} {l : List String} (h : ∀ x ∈ l, Q x) : ∀ x, l.contains x = true → Q x := fun x hx => h x (by simpa using hx)
theorem mem_lookup' {α : Type} : ∀ {l : List (String × α)} {x : String} {a : α}, l.lookup x = some a → (x, a) ∈ l
  | [], _, _, h => by simp at h
  | (y, b) :: l, x, a, h => by
    rw [List.lookup_cons] at h
    split at h
    · rename_i e
      have : x = y := by simpa using e
      subst this
      cases h
      simp
    · simp [mem_lookup' h]
theorem pr_mk {P : Program} {w : World} {K : PySem.W.Frag} {mg : Str → Option Value} {base : Heap} {p : Prog} {pk : Pk} (h1 : ∀ f ∈ pk.fs, DefAt P K mg p pk f) (h2 : ∀ x ∈ pk.bis, mg (nm x) = none) (h3 : ∀ q ∈ p.gls, GlAt K mg q.1 q.2) : PrOk P w K mg base p pk :=
  ⟨all_of h1, all_of h2, fun x d _ e => h3 (x, d) (mem_lookup' e)⟩
theorem ball_nil {α : Type} {Q : α → Prop} : ∀ x ∈ ([] : List α), Q x := fun _ h => by simp at h
theorem ball_cons {α : Type} {Q : α → Prop} {a : α} {l : List α} (h1 : Q a) (h2 : ∀ x ∈ l, Q x) : ∀ x ∈ a :: l, Q x := fun x h => by
  rcases List.mem_cons.mp h with rfl | h
  · exact h1
  · exact h2 x h
end Mi

set_option Elab.async false
set_option autoImplicit false
set_option linter.unusedSimpArgs false
namespace Mi
open M
/-! Mi14: running the interpreter, in plain Lean: the loop's rule, the draws -/
/-- _law_mixed: 0 _law_number, 1 _law_k, 2 _law_step -/
def f__law_mixed : Fn :=
  ⟨2, 3,
  [.asg (.nm 2) (.op .mod (.op .add (.op .add (.op .mul (.var 0) (.int 48271)) (.op .mul (.var 1) (.int 69621))) (.int 12345)) (.int 2147483647)),
   .ret (.op .mod (.op .add (.op .mul (.var 2) (.op .add (.op .fdiv (.var 2) (.int 65536)) (.int 3))) (.var 1)) (.int 2147483647))]⟩
/-- _law_numbers: 0 _law_script, 1 _law_numbers_here, 2 _law_cell, 3 _law_rest, 4 _law_k -/
def f__law_numbers : Fn :=
  ⟨1, 5,
  [.asg (.nm 1) (.lst []),
   .for (.nm 2) 0 [.var 0]
    [.ite (.cmp .ge (.var 2) (.op .pow (.int 10) (.int 18)))
      [.asg (.nm 3) (.var 2),
       .for (.nm 4) 1 [.int 60]
        [.ite (.cmp .gt (.var 3) (.int 0))
          [.expr (.mt .append (.var 1) [.op .mod (.var 3) (.int 1000000)]),
           .asg (.nm 3) (.op .fdiv (.var 3) (.int 1000000))]
          []]]
      [.expr (.mt .append (.var 1) [.op .mod (.var 2) (.int 1000000)]),
       .for (.nm 4) 1 [.int 5]
        [.expr (.mt .append (.var 1) [.op .mod (.call "_law_mixed" [.call "_law_mixed" [.op .mod (.var 2) (.int 2147483647), .var 4], .op .add (.var 4) (.int 7)]) (.int 1000000)])]]],
   .ret (.var 1)]⟩
/-- _law_draw: 0 _law_draws, 1 _law_at, 2 _law_first -/
def f__law_draw : Fn :=
  ⟨1, 3,
  [.asg (.nm 1) (.ix (.var 0) (.int 1)),
   .asgIx (.var 0) (.int 1) (.op .add (.var 1) (.int 1)),
   .ite (.cmp .lt (.var 1) (.bi .len [.ix (.var 0) (.int 0)]))
    [.ret (.ix (.ix (.var 0) (.int 0)) (.var 1))]
    [],
   .asg (.nm 2) (.op .add (.int 1) (.var 1)),
   .ite (.cmp .gt (.bi .len [.ix (.var 0) (.int 0)]) (.int 0))
    [.asg (.nm 2) (.op .add (.var 2) (.op .mul (.int 1009) (.ix (.ix (.var 0) (.int 0)) (.int 0))))]
    [],
   .ret (.op .mod (.call "_law_mixed" [.call "_law_mixed" [.var 2, .var 1], .int 5]) (.int 1000000))]⟩
/-- _law_equal: 0 _law_actual, 1 _law_due -/
def f__law_equal : Fn :=
  ⟨2, 2,
  [.ite (.isi (.var 1) [.list])
    [.ite (.or (.not (.isi (.var 0) [.list])) (.cmp .ne (.bi .len [.var 0]) (.bi .len [.var 1])))
      [.ret (.bl false)]
      [],
     .ret (.call "_law_all_equal" [.var 0, .var 1])]
    [],
   .ite (.isi (.var 1) [.tuple])
    [.ite (.or (.not (.isi (.var 0) [.tuple])) (.cmp .ne (.bi .len [.var 0]) (.bi .len [.var 1])))
      [.ret (.bl false)]
      [],
     .ret (.call "_law_all_equal" [.var 0, .var 1])]
    [],
   .ite (.isi (.var 1) [.bool])
    [.ret (.and (.isi (.var 0) [.bool]) (.cmp .eq (.var 0) (.var 1)))]
    [],
   .ite (.isi (.var 1) [.int])
    [.ret (.and (.isi (.var 0) [.int]) (.and (.not (.isi (.var 0) [.bool])) (.cmp .eq (.var 0) (.var 1))))]
    [],
   .ite (.isi (.var 1) [.str])
    [.ret (.and (.isi (.var 0) [.str]) (.cmp .eq (.var 0) (.var 1)))]
    [],
   .ret (.cmp .isN (.var 0) (.non))]⟩
/-- _law_all_equal: 0 _law_actual, 1 _law_due, 2 _law_k -/
def f__law_all_equal : Fn :=
  ⟨2, 3,
  [.for (.nm 2) 1 [.bi .len [.var 1]]
    [.ite (.not (.call "_law_equal" [.ix (.var 0) (.var 2), .ix (.var 1) (.var 2)]))
      [.ret (.bl false)]
      []],
   .ret (.bl true)]⟩

/-! ### small equations -/
theorem lt0 (n : Nat) : (0 < n + 1) = True := eq_true (by omega)
theorem lt1 (n : Nat) : (1 < n + 1 + 1) = True := eq_true (by omega)
theorem lt2 (n : Nat) : (2 < n + 1 + 1 + 1) = True := eq_true (by omega)
theorem lt3 (n : Nat) : (3 < n + 1 + 1 + 1 + 1) = True := eq_true (by omega)
theorem atI0 {α : Type} (a : α) (r : List α) : atI (a :: r) 0 = some a := by
  have h : (0 : Int) < ((r.length + 1 : Nat) : Int) := by omega
  simp [atI, ixN, h]
theorem atI1 {α : Type} (a b : α) (r : List α) : atI (a :: b :: r) 1 = some b := by
  have h : (1 : Int) < ((r.length + 1 + 1 : Nat) : Int) := by omega
  simp only [atI, ixN, List.length_cons, h]
  rfl
theorem atI2 {α : Type} (a b c : α) (r : List α) : atI (a :: b :: c :: r) 2 = some c := by
  have h : (2 : Int) < ((r.length + 1 + 1 + 1 : Nat) : Int) := by omega
  simp only [atI, ixN, List.length_cons, h]
  rfl
theorem atI3 {α : Type} (a b c d : α) (r : List α) : atI (a :: b :: c :: d :: r) 3 = some d := by
  have h : (3 : Int) < ((r.length + 1 + 1 + 1 + 1 : Nat) : Int) := by omega
  simp only [atI, ixN, List.length_cons, h]
  rfl
theorem ixN0 (n : Nat) : ixN (n + 1) 0 = some 0 := by
  have h : (0 : Int) < ((n + 1 : Nat) : Int) := by omega
  simp only [ixN, h]
  rfl
theorem ixN1 (n : Nat) : ixN (n + 1 + 1) 1 = some 1 := by
  have h : (1 : Int) < ((n + 1 + 1 : Nat) : Int) := by omega
  simp only [ixN, h]
  rfl
theorem ixN2 (n : Nat) : ixN (n + 1 + 1 + 1) 2 = some 2 := by
  have h : (2 : Int) < ((n + 1 + 1 + 1 : Nat) : Int) := by omega
  simp only [ixN, h]
  rfl
theorem ixN3 (n : Nat) : ixN (n + 1 + 1 + 1 + 1) 3 = some 3 := by
  have h : (3 : Int) < ((n + 1 + 1 + 1 + 1 : Nat) : Int) := by omega
  simp only [ixN, h]
  rfl
theorem getc0 {α : Type} (x0 : α) (r : List α) : (x0 :: r)[0]? = some x0 := rfl
theorem setc0 {α : Type} (x0 z : α) (r : List α) : (x0 :: r).set 0 z = z :: r := rfl
theorem getc1 {α : Type} (x0 x1 : α) (r : List α) : (x0 :: x1 :: r)[1]? = some x1 := rfl
theorem setc1 {α : Type} (x0 x1 z : α) (r : List α) : (x0 :: x1 :: r).set 1 z = x0 :: z :: r := rfl
theorem getc2 {α : Type} (x0 x1 x2 : α) (r : List α) : (x0 :: x1 :: x2 :: r)[2]? = some x2 := rfl
theorem setc2 {α : Type} (x0 x1 x2 z : α) (r : List α) : (x0 :: x1 :: x2 :: r).set 2 z = x0 :: x1 :: z :: r := rfl
theorem getc3 {α : Type} (x0 x1 x2 x3 : α) (r : List α) : (x0 :: x1 :: x2 :: x3 :: r)[3]? = some x3 := rfl
theorem setc3 {α : Type} (x0 x1 x2 x3 z : α) (r : List α) : (x0 :: x1 :: x2 :: x3 :: r).set 3 z = x0 :: x1 :: x2 :: z :: r := rfl
theorem getc4 {α : Type} (x0 x1 x2 x3 x4 : α) (r : List α) : (x0 :: x1 :: x2 :: x3 :: x4 :: r)[4]? = some x4 := rfl
theorem setc4 {α : Type} (x0 x1 x2 x3 x4 z : α) (r : List α) : (x0 :: x1 :: x2 :: x3 :: x4 :: r).set 4 z = x0 :: x1 :: x2 :: x3 :: z :: r := rfl
theorem getc5 {α : Type} (x0 x1 x2 x3 x4 x5 : α) (r : List α) : (x0 :: x1 :: x2 :: x3 :: x4 :: x5 :: r)[5]? = some x5 := rfl
theorem setc5 {α : Type} (x0 x1 x2 x3 x4 x5 z : α) (r : List α) : (x0 :: x1 :: x2 :: x3 :: x4 :: x5 :: r).set 5 z = x0 :: x1 :: x2 :: x3 :: x4 :: z :: r := rfl
theorem getc6 {α : Type} (x0 x1 x2 x3 x4 x5 x6 : α) (r : List α) : (x0 :: x1 :: x2 :: x3 :: x4 :: x5 :: x6 :: r)[6]? = some x6 := rfl
theorem setc6 {α : Type} (x0 x1 x2 x3 x4 x5 x6 z : α) (r : List α) : (x0 :: x1 :: x2 :: x3 :: x4 :: x5 :: x6 :: r).set 6 z = x0 :: x1 :: x2 :: x3 :: x4 :: x5 :: z :: r := rfl
theorem getc7 {α : Type} (x0 x1 x2 x3 x4 x5 x6 x7 : α) (r : List α) : (x0 :: x1 :: x2 :: x3 :: x4 :: x5 :: x6 :: x7 :: r)[7]? = some x7 := rfl
theorem setc7 {α : Type} (x0 x1 x2 x3 x4 x5 x6 x7 z : α) (r : List α) : (x0 :: x1 :: x2 :: x3 :: x4 :: x5 :: x6 :: x7 :: r).set 7 z = x0 :: x1 :: x2 :: x3 :: x4 :: x5 :: x6 :: z :: r := rfl
theorem getc8 {α : Type} (x0 x1 x2 x3 x4 x5 x6 x7 x8 : α) (r : List α) : (x0 :: x1 :: x2 :: x3 :: x4 :: x5 :: x6 :: x7 :: x8 :: r)[8]? = some x8 := rfl
theorem setc8 {α : Type} (x0 x1 x2 x3 x4 x5 x6 x7 x8 z : α) (r : List α) : (x0 :: x1 :: x2 :: x3 :: x4 :: x5 :: x6 :: x7 :: x8 :: r).set 8 z = x0 :: x1 :: x2 :: x3 :: x4 :: x5 :: x6 :: x7 :: z :: r := rfl

/-! ### one step after the other -/
def bndR {α β : Type} (r : Option (Out α × Store)) (f : α → M β) : Option (Out β × Store) := match r with
  | none => none
  | some (.ex c, S') => some (.ex c, S')
  | some (.ok a, S') => f a S'
theorem bnd_at {α β : Type} (m : M α) (f : α → M β) (S : Store) : bnd m f S = bndR (m S) f := rfl
theorem bndR_ok {α β : Type} (a : α) (S : Store) (f : α → M β) : bndR (some (.ok a, S)) f = f a S := rfl
theorem bndR_ex {α β : Type} (c : String) (S : Store) (f : α → M β) : bndR (some (.ex c, S)) f = some (.ex c, S) := rfl
theorem ret_at {α : Type} (a : α) (S : Store) : M.ret a S = some (.ok a, S) := rfl
theorem of_some {α : Type} (a : α) (S : Store) : M.of (some a) S = some (.ok a, S) := rfl
theorem need_at {α : Type} (p : Prop) [Decidable p] (m : M α) (S : Store) : M.need p m S = if p then m S else none := rfl
theorem get_at (n : Nat) (S : Store) : M.get n S = M.of S[n]? S := by
  unfold M.get M.of
  cases S[n]? <;> rfl
theorem put_at (n : Nat) (c : Cell) (S : Store) : M.put n c S = if n < S.length then some (.ok (), S.set n c) else none := rfl
theorem new_at (c : Cell) (S : Store) : M.new c S = some (.ok (.loc S.length), S ++ [c]) := rfl
def msB {α : Type} (ρ : Env) (r : Option (Out α × Store)) (f : α → MS) : Option (Ctl × Store) := match r with
  | none => none
  | some (.ex c, S') => some (.ex c ρ, S')
  | some (.ok a, S') => f a S'
theorem msB_at {α : Type} (ρ : Env) (m : M α) (f : α → MS) (S : Store) : MS.bnd ρ m f S = msB ρ (m S) f := rfl
theorem msB_ok {α : Type} (ρ : Env) (a : α) (S : Store) (f : α → MS) : msB ρ (some (.ok a, S)) f = f a S := rfl
theorem msB_ex {α : Type} (ρ : Env) (c : String) (S : Store) (f : α → MS) : msB ρ (some (.ex c, S)) f = some (.ex c ρ, S) := rfl
def msS (r : Option (Ctl × Store)) (f : Env → MS) : Option (Ctl × Store) := match r with
  | some (.nx ρ, S') => f ρ S'
  | r => r
theorem msS_at (m : MS) (f : Env → MS) (S : Store) : MS.seq m f S = msS (m S) f := rfl
def seqK (f g : Env → MS) (ρ : Env) : MS := fun S => msS (f ρ S) g
theorem seqK_at (f g : Env → MS) (ρ : Env) (S : Store) : seqK f g ρ S = msS (f ρ S) g := rfl
theorem msS_msS (r : Option (Ctl × Store)) (f g : Env → MS) : msS (msS r f) g = msS r (seqK f g) := by
  match r with
  | none => rfl
  | some (.nx ρ, S) => rfl
  | some (.rt d, S) => rfl
  | some (.ex c ρ, S) => rfl
  | some (.bk ρ, S) => rfl
  | some (.ct ρ, S) => rfl
def forS (t : Tg) (b : Env → MS) (ρ : Env) (src : Src) : MS := forL t src.2 b src.1 ρ
theorem for_at (cl : Cl) (t : Tg) (k : ItK) (xs : List Ex) (body : List St) (ρ : Env) (S : Store) : exS cl (.for t k xs body) ρ S = msB ρ (bndR (evEs cl xs ρ S) (itM k)) (forS t (exSs cl body) ρ) := by
  rw [exS]
  rfl
theorem forS_at (t : Tg) (b : Env → MS) (ρ : Env) (xs : List D) (g : List (Nat × Cell)) (S : Store) : forS t b ρ (xs, g) S = forL t g b xs ρ S := rfl
theorem msS_nx (ρ : Env) (S : Store) (f : Env → MS) : msS (some (.nx ρ, S)) f = f ρ S := rfl
theorem msS_rt (d : D) (S : Store) (f : Env → MS) : msS (some (.rt d, S)) f = some (.rt d, S) := rfl
theorem msS_ex (c : String) (ρ : Env) (S : Store) (f : Env → MS) : msS (some (.ex c ρ, S)) f = some (.ex c ρ, S) := rfl
theorem msS_bk (ρ : Env) (S : Store) (f : Env → MS) : msS (some (.bk ρ, S)) f = some (.bk ρ, S) := rfl
theorem msS_ct (ρ : Env) (S : Store) (f : Env → MS) : msS (some (.ct ρ, S)) f = some (.ct ρ, S) := rfl

/-! ### the equations, each at a store -/
def negM (x : D) : M D := match x with
  | .int i => M.ret (.int (-i))
  | _ => M.fail
def intM (x : D) : M (Option Int) := match x with
  | .int i => M.ret (some i)
  | _ => M.fail
def blK (k : Bool) : M D := ret (.bl k)
theorem blK_at (k : Bool) (S : Store) : blK k S = some (.ok (.bl k), S) := rfl
def nbK (k : Bool) : M D := ret (.bl (!k))
theorem nbK_at (k : Bool) (S : Store) : nbK k S = some (.ok (.bl (!k)), S) := rfl
def opK (cl : Cl) (o : O2) (b : Ex) (ρ : Env) (x : D) : M D := bnd (evE cl b ρ) (binop o x)
theorem opK_at (cl : Cl) (o : O2) (b : Ex) (ρ : Env) (x : D) (S : Store) : opK cl o b ρ x S = bndR (evE cl b ρ S) (binop o x) := rfl
def cmpK2 (c : Cp) (x y : D) : M D := bnd (cmpM c x y) blK
theorem cmpK2_at (c : Cp) (x y : D) (S : Store) : cmpK2 c x y S = bndR (cmpM c x y S) blK := rfl
def cmpK (cl : Cl) (c : Cp) (b : Ex) (ρ : Env) (x : D) : M D := bnd (evE cl b ρ) (cmpK2 c x)
theorem cmpK_at (cl : Cl) (c : Cp) (b : Ex) (ρ : Env) (x : D) (S : Store) : cmpK cl c b ρ x S = bndR (evE cl b ρ S) (cmpK2 c x) := rfl
def chK3 (cl : Cl) (c' : Cp) (d : Ex) (ρ : Env) (y : D) (k : Bool) : M D := if k then bnd (evE cl d ρ) (cmpK2 c' y) else ret (.bl false)
theorem chK3_t (cl : Cl) (c' : Cp) (d : Ex) (ρ : Env) (y : D) (S : Store) : chK3 cl c' d ρ y true S = bndR (evE cl d ρ S) (cmpK2 c' y) := rfl
theorem chK3_f (cl : Cl) (c' : Cp) (d : Ex) (ρ : Env) (y : D) (S : Store) : chK3 cl c' d ρ y false S = some (.ok (.bl false), S) := rfl
def chK2 (cl : Cl) (c c' : Cp) (d : Ex) (ρ : Env) (x y : D) : M D := bnd (cmpM c x y) (chK3 cl c' d ρ y)
theorem chK2_at (cl : Cl) (c c' : Cp) (d : Ex) (ρ : Env) (x y : D) (S : Store) : chK2 cl c c' d ρ x y S = bndR (cmpM c x y S) (chK3 cl c' d ρ y) := rfl
def chK (cl : Cl) (c c' : Cp) (b d : Ex) (ρ : Env) (x : D) : M D := bnd (evE cl b ρ) (chK2 cl c c' d ρ x)
theorem chK_at (cl : Cl) (c c' : Cp) (b d : Ex) (ρ : Env) (x : D) (S : Store) : chK cl c c' b d ρ x S = bndR (evE cl b ρ S) (chK2 cl c c' d ρ x) := rfl
def notK (x : D) : M D := bnd (truthy x) nbK
theorem notK_at (x : D) (S : Store) : notK x S = bndR (truthy x S) nbK := rfl
def andK2 (cl : Cl) (b : Ex) (ρ : Env) (x : D) (k : Bool) : M D := if k then evE cl b ρ else ret x
theorem andK2_t (cl : Cl) (b : Ex) (ρ : Env) (x : D) (S : Store) : andK2 cl b ρ x true S = evE cl b ρ S := rfl
theorem andK2_f (cl : Cl) (b : Ex) (ρ : Env) (x : D) (S : Store) : andK2 cl b ρ x false S = some (.ok x, S) := rfl
def andK (cl : Cl) (b : Ex) (ρ : Env) (x : D) : M D := bnd (truthy x) (andK2 cl b ρ x)
theorem andK_at (cl : Cl) (b : Ex) (ρ : Env) (x : D) (S : Store) : andK cl b ρ x S = bndR (truthy x S) (andK2 cl b ρ x) := rfl
def orK2 (cl : Cl) (b : Ex) (ρ : Env) (x : D) (k : Bool) : M D := if k then ret x else evE cl b ρ
theorem orK2_t (cl : Cl) (b : Ex) (ρ : Env) (x : D) (S : Store) : orK2 cl b ρ x true S = some (.ok x, S) := rfl
theorem orK2_f (cl : Cl) (b : Ex) (ρ : Env) (x : D) (S : Store) : orK2 cl b ρ x false S = evE cl b ρ S := rfl
def orK (cl : Cl) (b : Ex) (ρ : Env) (x : D) : M D := bnd (truthy x) (orK2 cl b ρ x)
theorem orK_at (cl : Cl) (b : Ex) (ρ : Env) (x : D) (S : Store) : orK cl b ρ x S = bndR (truthy x S) (orK2 cl b ρ x) := rfl
def ifK2 (cl : Cl) (a b : Ex) (ρ : Env) (k : Bool) : M D := if k then evE cl a ρ else evE cl b ρ
theorem ifK2_t (cl : Cl) (a b : Ex) (ρ : Env) (S : Store) : ifK2 cl a b ρ true S = evE cl a ρ S := rfl
theorem ifK2_f (cl : Cl) (a b : Ex) (ρ : Env) (S : Store) : ifK2 cl a b ρ false S = evE cl b ρ S := rfl
def ifK (cl : Cl) (a b : Ex) (ρ : Env) (x : D) : M D := bnd (truthy x) (ifK2 cl a b ρ)
theorem ifK_at (cl : Cl) (a b : Ex) (ρ : Env) (x : D) (S : Store) : ifK cl a b ρ x S = bndR (truthy x S) (ifK2 cl a b ρ) := rfl
def tupK (ds : List D) : M D := ret (.tup ds)
theorem tupK_at (ds : List D) (S : Store) : tupK ds S = some (.ok (.tup ds), S) := rfl
def lstK (ds : List D) : M D := new (.lst ds)
theorem lstK_at (ds : List D) (S : Store) : lstK ds S = some (.ok (.loc S.length), S ++ [.lst ds]) := rfl
def ixK (cl : Cl) (b : Ex) (ρ : Env) (x : D) : M D := bnd (evE cl b ρ) (indexM x)
theorem ixK_at (cl : Cl) (b : Ex) (ρ : Env) (x : D) (S : Store) : ixK cl b ρ x S = bndR (evE cl b ρ S) (indexM x) := rfl
def slK2 (cl : Cl) (hi : Option Ex) (ρ : Env) (x : D) (l : Option Int) : M D := bnd (evO cl hi ρ) (sliceM x l)
theorem slK2_at (cl : Cl) (hi : Option Ex) (ρ : Env) (x : D) (l : Option Int) (S : Store) : slK2 cl hi ρ x l S = bndR (evO cl hi ρ S) (sliceM x l) := rfl
def slK (cl : Cl) (lo hi : Option Ex) (ρ : Env) (x : D) : M D := bnd (evO cl lo ρ) (slK2 cl hi ρ x)
theorem slK_at (cl : Cl) (lo hi : Option Ex) (ρ : Env) (x : D) (S : Store) : slK cl lo hi ρ x S = bndR (evO cl lo ρ S) (slK2 cl hi ρ x) := rfl
def mtK2 (cl : Cl) (m : Mt) (xs : List Ex) (ρ : Env) (x : D) (_ : Unit) : M D := bnd (evEs cl xs ρ) (mtM m x)
theorem mtK2_at (cl : Cl) (m : Mt) (xs : List Ex) (ρ : Env) (x : D) (u : Unit) (S : Store) : mtK2 cl m xs ρ x u S = bndR (evEs cl xs ρ S) (mtM m x) := rfl
def mtK (cl : Cl) (m : Mt) (xs : List Ex) (ρ : Env) (x : D) : M D := bnd (mtPre m x) (mtK2 cl m xs ρ x)
theorem mtK_at (cl : Cl) (m : Mt) (xs : List Ex) (ρ : Env) (x : D) (S : Store) : mtK cl m xs ρ x S = bndR (mtPre m x S) (mtK2 cl m xs ρ x) := rfl
def isiK (ts : List Ty) (x : D) : M D := bnd (isiM x ts) blK
theorem isiK_at (ts : List Ty) (x : D) (S : Store) : isiK ts x S = bndR (isiM x ts S) blK := rfl
def consK2 (x : D) (xs : List D) : M (List D) := ret (x :: xs)
theorem consK2_at (x : D) (xs : List D) (S : Store) : consK2 x xs S = some (.ok (x :: xs), S) := rfl
def consK (cl : Cl) (es : List Ex) (ρ : Env) (x : D) : M (List D) := bnd (evEs cl es ρ) (consK2 x)
theorem consK_at (cl : Cl) (es : List Ex) (ρ : Env) (x : D) (S : Store) : consK cl es ρ x S = bndR (evEs cl es ρ S) (consK2 x) := rfl
def csK2 (cl : Cl) (cs : List Ex) (ρ : Env) (k : Bool) : M Bool := if k then evCs cl cs ρ else ret false
theorem csK2_t (cl : Cl) (cs : List Ex) (ρ : Env) (S : Store) : csK2 cl cs ρ true S = evCs cl cs ρ S := rfl
theorem csK2_f (cl : Cl) (cs : List Ex) (ρ : Env) (S : Store) : csK2 cl cs ρ false S = some (.ok false, S) := rfl
def csK (cl : Cl) (cs : List Ex) (ρ : Env) (x : D) : M Bool := bnd (truthy x) (csK2 cl cs ρ)
theorem csK_at (cl : Cl) (cs : List Ex) (ρ : Env) (x : D) (S : Store) : csK cl cs ρ x S = bndR (truthy x S) (csK2 cl cs ρ) := rfl
def someK (y : D) : M (Option D) := ret (some y)
theorem someK_at (y : D) (S : Store) : someK y S = some (.ok (some y), S) := rfl
def eltK (cl : Cl) (elt : Ex) (ρ : Env) (c : Bool) : M (Option D) := if c then bnd (evE cl elt ρ) someK else ret none
theorem eltK_t (cl : Cl) (elt : Ex) (ρ : Env) (S : Store) : eltK cl elt ρ true S = bndR (evE cl elt ρ S) someK := rfl
theorem eltK_f (cl : Cl) (elt : Ex) (ρ : Env) (S : Store) : eltK cl elt ρ false S = some (.ok none, S) := rfl
def noexR {α : Type} : Option (Out α × Store) → Option (Out α × Store)
  | some (.ok a, S') => some (.ok a, S')
  | _ => none
theorem noexR_ok {α : Type} (a : α) (S : Store) : noexR (some (.ok a, S)) = some (.ok a, S) := rfl
def oneK (cl : Cl) (elt : Ex) (cs : List Ex) (ρ : Env) : M (Option D) := noex (bnd (evCs cl cs ρ) (eltK cl elt ρ))
theorem oneK_at (cl : Cl) (elt : Ex) (cs : List Ex) (ρ : Env) (S : Store) : oneK cl elt cs ρ S = noexR (bndR (evCs cl cs ρ S) (eltK cl elt ρ)) := rfl
def oneL (cl : Cl) (elt : Ex) (t : Tg) (cs : List Ex) (vs : List Nat) (ρ : Env) (x : D) : M (Option D) := bnd (of (bindT t x (wipeE ρ vs))) (oneK cl elt cs)
theorem oneL_at (cl : Cl) (elt : Ex) (t : Tg) (cs : List Ex) (vs : List Nat) (ρ : Env) (x : D) (S : Store) : oneL cl elt t cs vs ρ x S = bndR (of (bindT t x (wipeE ρ vs)) S) (oneK cl elt cs) := rfl
def lcS (cl : Cl) (elt : Ex) (t : Tg) (cs : List Ex) (vs : List Nat) (ρ : Env) (src : Src) : M D := bnd (compL src.2 (oneL cl elt t cs vs ρ) src.1 []) lstK
theorem lcS_at (cl : Cl) (elt : Ex) (t : Tg) (cs : List Ex) (vs : List Nat) (ρ : Env) (xs : List D) (g : List (Nat × Cell)) (S : Store) : lcS cl elt t cs vs ρ (xs, g) S = bndR (compL g (oneL cl elt t cs vs ρ) xs [] S) lstK := rfl
theorem ev_non_at (cl : Cl)  (ρ : Env) (S : Store) : evE cl Ex.non ρ S = some (.ok .non, S) := by rw [evE]; first | done | rfl
theorem ev_bl_at (cl : Cl) (b : Bool) (ρ : Env) (S : Store) : evE cl (Ex.bl b) ρ S = some (.ok (.bl b), S) := by rw [evE]; first | done | rfl
theorem ev_int_at (cl : Cl) (i : Int) (ρ : Env) (S : Store) : evE cl (Ex.int i) ρ S = some (.ok (.int i), S) := by rw [evE]; first | done | rfl
theorem ev_str_at (cl : Cl) (s : Tx) (ρ : Env) (S : Store) : evE cl (Ex.str s) ρ S = some (.ok (.str s), S) := by rw [evE]; first | done | rfl
theorem ev_var_at (cl : Cl) (i : Nat) (ρ : Env) (S : Store) : evE cl (Ex.var i) ρ S = M.of (ρ[i]?.join) S := by rw [evE]; first | done | rfl
theorem ev_glob_at (cl : Cl) (x : String) (ρ : Env) (S : Store) : evE cl (Ex.glob x) ρ S = M.of (cl.gl x) S := by rw [evE]; first | done | rfl
theorem ev_op_at (cl : Cl) (o : O2) (a b : Ex) (ρ : Env) (S : Store) : evE cl (Ex.op o a b) ρ S = bndR (evE cl a ρ S) (opK cl o b ρ) := by rw [evE]; first | done | rfl
theorem ev_neg_at (cl : Cl) (a : Ex) (ρ : Env) (S : Store) : evE cl (Ex.neg a) ρ S = bndR (evE cl a ρ S) negM := by rw [evE]; first | done | rfl
theorem ev_cmp_at (cl : Cl) (c : Cp) (a b : Ex) (ρ : Env) (S : Store) : evE cl (Ex.cmp c a b) ρ S = bndR (evE cl a ρ S) (cmpK cl c b ρ) := by rw [evE]; first | done | rfl
theorem ev_chain_at (cl : Cl) (c c' : Cp) (a b d : Ex) (ρ : Env) (S : Store) : evE cl (Ex.chain c c' a b d) ρ S = bndR (evE cl a ρ S) (chK cl c c' b d ρ) := by rw [evE]; first | done | rfl
theorem ev_not_at (cl : Cl) (a : Ex) (ρ : Env) (S : Store) : evE cl (Ex.not a) ρ S = bndR (evE cl a ρ S) notK := by rw [evE]; first | done | rfl
theorem ev_and_at (cl : Cl) (a b : Ex) (ρ : Env) (S : Store) : evE cl (Ex.and a b) ρ S = bndR (evE cl a ρ S) (andK cl b ρ) := by rw [evE]; first | done | rfl
theorem ev_or_at (cl : Cl) (a b : Ex) (ρ : Env) (S : Store) : evE cl (Ex.or a b) ρ S = bndR (evE cl a ρ S) (orK cl b ρ) := by rw [evE]; first | done | rfl
theorem ev_ite_at (cl : Cl) (c a b : Ex) (ρ : Env) (S : Store) : evE cl (Ex.ite c a b) ρ S = bndR (evE cl c ρ S) (ifK cl a b ρ) := by rw [evE]; first | done | rfl
theorem ev_tup_at (cl : Cl) (xs : List Ex) (ρ : Env) (S : Store) : evE cl (Ex.tup xs) ρ S = bndR (evEs cl xs ρ S) tupK := by rw [evE]; first | done | rfl
theorem ev_lst_at (cl : Cl) (xs : List Ex) (ρ : Env) (S : Store) : evE cl (Ex.lst xs) ρ S = bndR (evEs cl xs ρ S) lstK := by rw [evE]; first | done | rfl
theorem ev_ix_at (cl : Cl) (a b : Ex) (ρ : Env) (S : Store) : evE cl (Ex.ix a b) ρ S = bndR (evE cl a ρ S) (ixK cl b ρ) := by rw [evE]; first | done | rfl
theorem ev_slice_at (cl : Cl) (a : Ex) (lo hi : Option Ex) (ρ : Env) (S : Store) : evE cl (Ex.slice a lo hi) ρ S = bndR (evE cl a ρ S) (slK cl lo hi ρ) := by rw [evE]; first | done | rfl
theorem ev_call_at (cl : Cl) (f : String) (xs : List Ex) (ρ : Env) (S : Store) : evE cl (Ex.call f xs) ρ S = bndR (evEs cl xs ρ S) (cl.fn f) := by rw [evE]; first | done | rfl
theorem ev_bi_at (cl : Cl) (f : Bi) (xs : List Ex) (ρ : Env) (S : Store) : evE cl (Ex.bi f xs) ρ S = bndR (evEs cl xs ρ S) (biM f) := by rw [evE]; first | done | rfl
theorem ev_mt_at (cl : Cl) (m : Mt) (o : Ex) (xs : List Ex) (ρ : Env) (S : Store) : evE cl (Ex.mt m o xs) ρ S = bndR (evE cl o ρ S) (mtK cl m xs ρ) := by rw [evE]; first | done | rfl
theorem ev_isi_at (cl : Cl) (a : Ex) (ts : List Ty) (ρ : Env) (S : Store) : evE cl (Ex.isi a ts) ρ S = bndR (evE cl a ρ S) (isiK ts) := by rw [evE]; first | done | rfl
theorem ev_lc_at (cl : Cl) (elt : Ex) (t : Tg) (k : Nat) (xs : List Ex) (cs : List Ex) (vs : List Nat) (ρ : Env) (S : Store) : evE cl (Ex.lc elt t k xs cs vs) ρ S = bndR (bndR (evEs cl xs ρ S) (itM k)) (lcS cl elt t cs vs ρ) := by rw [evE]; first | done | rfl
theorem evs_nil_at (cl : Cl)  (ρ : Env) (S : Store) : evEs cl [] ρ S = some (.ok [], S) := by rw [evEs]; first | done | rfl
theorem evs_cons_at (cl : Cl) (e : Ex) (es : List Ex) (ρ : Env) (S : Store) : evEs cl (e :: es) ρ S = bndR (evE cl e ρ S) (consK cl es ρ) := by rw [evEs]; first | done | rfl
theorem evo_none_at (cl : Cl) (ρ : Env) (S : Store) : evO cl none ρ S = some (.ok none, S) := by rw [evO]; rfl
theorem evo_some_at (cl : Cl) (e : Ex) (ρ : Env) (S : Store) : evO cl (some e) ρ S = bndR (evE cl e ρ S) intM := by rw [evO]; rfl
theorem evc_nil_at (cl : Cl) (ρ : Env) (S : Store) : evCs cl [] ρ S = some (.ok true, S) := by rw [evCs]; rfl
theorem evc_cons_at (cl : Cl) (c : Ex) (cs : List Ex) (ρ : Env) (S : Store) : evCs cl (c :: cs) ρ S = bndR (evE cl c ρ S) (csK cl cs ρ) := by rw [evCs]; rfl
def asgIxK3 (ρ : Env) (v x k : D) : MS := MS.bnd ρ (setIxM x k v) (fun _ S => some (.nx ρ, S))
theorem asgIxK3_at (ρ : Env) (v x k : D) (S : Store) : asgIxK3 ρ v x k S = msB ρ (setIxM x k v S) (fun _ S => some (.nx ρ, S)) := rfl
def asgIxK2 (cl : Cl) (i : Ex) (ρ : Env) (v x : D) : MS := MS.bnd ρ (evE cl i ρ) (asgIxK3 ρ v x)
theorem asgIxK2_at (cl : Cl) (i : Ex) (ρ : Env) (v x : D) (S : Store) : asgIxK2 cl i ρ v x S = msB ρ (evE cl i ρ S) (asgIxK3 ρ v x) := rfl
def asgIxK (cl : Cl) (o i : Ex) (ρ : Env) (v : D) : MS := MS.bnd ρ (evE cl o ρ) (asgIxK2 cl i ρ v)
theorem asgIxK_at (cl : Cl) (o i : Ex) (ρ : Env) (v : D) (S : Store) : asgIxK cl o i ρ v S = msB ρ (evE cl o ρ S) (asgIxK2 cl i ρ v) := rfl
def augK1 (i : Nat) (ρ : Env) (z : D) : MS := fun S => some (.nx (ρ.set i (some z)), S)
def augK3 (o : O2) (i : Nat) (ρ : Env) (x y : D) : MS := MS.bnd ρ (iopM o x y) (augK1 i ρ)
theorem augK3_at (o : O2) (i : Nat) (ρ : Env) (x y : D) (S : Store) : augK3 o i ρ x y S = msB ρ (iopM o x y S) (augK1 i ρ) := rfl
def augK2 (cl : Cl) (e : Ex) (o : O2) (i : Nat) (ρ : Env) (x : D) : MS := MS.bnd ρ (evE cl e ρ) (augK3 o i ρ x)
theorem augK2_at (cl : Cl) (e : Ex) (o : O2) (i : Nat) (ρ : Env) (x : D) (S : Store) : augK2 cl e o i ρ x S = msB ρ (evE cl e ρ S) (augK3 o i ρ x) := rfl
theorem augK1_at (i : Nat) (ρ : Env) (z : D) (S : Store) : augK1 i ρ z S = some (.nx (ρ.set i (some z)), S) := rfl
def asgK (t : Tg) (ρ : Env) (x : D) : MS := fun S => match bindT t x ρ with
  | none => none
  | some ρ' => some (.nx ρ', S)
def goOn {α : Type} (ρ : Env) (_ : α) : MS := fun S => some (.nx ρ, S)
def iteK (a b : MS) (k : Bool) : MS := if k then a else b
def retK (d : D) : MS := fun S => some (.rt d, S)
def asgR (S : Store) : Option Env → Option (Ctl × Store)
  | none => none
  | some ρ' => some (.nx ρ', S)
theorem asgR_ok (S : Store) (ρ : Env) : asgR S (some ρ) = some (.nx ρ, S) := rfl
theorem asgK_at (t : Tg) (ρ : Env) (x : D) (S : Store) : asgK t ρ x S = asgR S (bindT t x ρ) := by
  unfold asgK asgR
  cases bindT t x ρ <;> rfl
theorem goOn_at {α : Type} (ρ : Env) (a : α) (S : Store) : goOn ρ a S = some (.nx ρ, S) := rfl
theorem iteK_t (a b : MS) (S : Store) : iteK a b true S = a S := rfl
theorem iteK_f (a b : MS) (S : Store) : iteK a b false S = b S := rfl
theorem retK_at (d : D) (S : Store) : retK d S = some (.rt d, S) := rfl
theorem ex_asg_at (cl : Cl) (t : Tg) (e : Ex) (ρ : Env) (S : Store) : exS cl (.asg t e) ρ S = msB ρ (evE cl e ρ S) (asgK t ρ) := by rw [exS]; first | done | rfl
theorem ex_asgIx_at (cl : Cl) (o i e : Ex) (ρ : Env) (S : Store) : exS cl (.asgIx o i e) ρ S = msB ρ (evE cl e ρ S) (asgIxK cl o i ρ) := by rw [exS]; first | done | rfl
theorem ex_aug_at (cl : Cl) (i : Nat) (o : O2) (e : Ex) (ρ : Env) (S : Store) : exS cl (.aug i o e) ρ S = msB ρ (M.of (ρ[i]?.join) S) (augK2 cl e o i ρ) := by rw [exS]; first | done | rfl
theorem ex_expr_at (cl : Cl) (e : Ex) (ρ : Env) (S : Store) : exS cl (.expr e) ρ S = msB ρ (evE cl e ρ S) (goOn ρ) := by rw [exS]; first | done | rfl
theorem ex_ite_at (cl : Cl) (c : Ex) (a b : List St) (ρ : Env) (S : Store) : exS cl (.ite c a b) ρ S = msB ρ (bndR (evE cl c ρ S) truthy) (iteK (exSs cl a ρ) (exSs cl b ρ)) := by rw [exS]; first | done | rfl
theorem ex_ret_at (cl : Cl) (e : Ex) (ρ : Env) (S : Store) : exS cl (.ret e) ρ S = msB ρ (evE cl e ρ S) retK := by rw [exS]; first | done | rfl
theorem ex_retN_at (cl : Cl)  (ρ : Env) (S : Store) : exS cl .retN ρ S = some (.rt .non, S) := by rw [exS]; first | done | rfl
theorem ex_raise_at (cl : Cl) (c : String) (ρ : Env) (S : Store) : exS cl (.raise c) ρ S = some (.ex c ρ, S) := by rw [exS]; first | done | rfl
theorem ex_brk_at (cl : Cl)  (ρ : Env) (S : Store) : exS cl .brk ρ S = some (.bk ρ, S) := by rw [exS]; first | done | rfl
theorem ex_cont_at (cl : Cl)  (ρ : Env) (S : Store) : exS cl .cont ρ S = some (.ct ρ, S) := by rw [exS]; first | done | rfl
theorem ex_pass_at (cl : Cl)  (ρ : Env) (S : Store) : exS cl .pass ρ S = some (.nx ρ, S) := by rw [exS]; first | done | rfl
theorem ex_while_at (cl : Cl) (c : Ex) (b : List St) (ρ : Env) (S : Store) : exS cl (.while c b) ρ S = whileL (evT cl c) (exSs cl b) wmax ρ S := by rw [exS]; first | done | rfl
theorem exs_nil_at (cl : Cl) (ρ : Env) (S : Store) : exSs cl [] ρ S = some (.nx ρ, S) := by rw [exSs]
theorem exs_cons_at (cl : Cl) (s : St) (ss : List St) (ρ : Env) (S : Store) : exSs cl (s :: ss) ρ S = msS (exS cl s ρ S) (exSs cl ss) := by rw [exSs]; rfl

def isiR (d : D) (ts : List Ty) (S : Store) : Option Bool → Option (Out Bool × Store)
  | none => none
  | some true => some (.ok true, S)
  | some false => isiM d ts S
theorem isi_nil_at (d : D) (S : Store) : isiM d [] S = some (.ok false, S) := rfl
theorem isi_cons_at (d : D) (t : Ty) (ts : List Ty) (S : Store) : isiM d (t :: ts) S = isiR d ts S (isTy S d t) := by
  rw [isiM]
  unfold isiR
  rfl
theorem isiR_t (d : D) (ts : List Ty) (S : Store) : isiR d ts S (some true) = some (.ok true, S) := rfl
theorem isiR_f (d : D) (ts : List Ty) (S : Store) : isiR d ts S (some false) = isiM d ts S := rfl

/-! ### what is dropped behind a call -/
/-- a call's end -/
def fin (S : Store) : Option (Ctl × Store) → Option (Out D × Store)
  | some (.nx _, S') => some (.ok .non, gc S .non S')
  | some (.rt d, S') => some (.ok d, gc S d S')
  | some (.ex c _, S') => some (.ex c, gc S .non S')
  | _ => none
theorem callB_of (cl : Cl) (f : Fn) (ds : List D) (S : Store) (h : ds.length = f.np) (h2 : f.np ≤ f.n) :
    callB cl f ds S = fin S (exSs cl f.body (ds.map some ++ List.replicate (f.n - f.np) none) S) := by
  unfold callB
  rw [if_pos ⟨h, h2⟩]
  unfold fin
  rfl

theorem gc_self (S : Store) (v : D) : gc S v S = S := by
  unfold gc
  split
  · exact List.take_length
  · rfl
theorem gc_new (S S' : Store) (v : D) (h : v.bel S.length = false) : gc S v S' = S' := by
  unfold gc gcOk
  simp [h]
theorem gc_app (S T G : Store) (v : D) (hv : v.bel S.length = true) (hl : T.length = S.length)
    (h : ∀ i : Nat, i < S.length → S[i]? = T[i]? ∨ ∃ c, T[i]? = some c ∧ c.bel S.length = true) : gc S v (T ++ G) = T := by
  have e : gcOk S v (T ++ G) = true := by
    unfold gcOk
    simp only [hv, Bool.true_and, Bool.and_eq_true, decide_eq_true_eq, List.length_append, List.all_eq_true, List.mem_range, Bool.or_eq_true]
    refine ⟨by omega, fun i hi => ?_⟩
    have e1 : (T ++ G)[i]? = T[i]? := List.getElem?_append_left (by omega)
    rw [e1]
    rcases h i hi with h | ⟨c, h1, h2⟩
    · exact .inl h.symm
    · right
      rw [h1]
      exact h2
  unfold gc
  rw [if_pos e, ← hl]
  exact List.take_left' rfl

/-! ### the loop's rule -/
/-- a for: P says what stands ahead of turn k, Q what is handed out early -/
theorem forL_rule {t : Tg} {g : List (Nat × Cell)} {body : Env → MS} (xs : List D) (P : Nat → Env → Store → Prop) (Q : Ctl → Store → Prop)
    (hs : ∀ k ρ S, k ≤ xs.length → P k ρ S → stays S g = true)
    (ht : ∀ k x ρ S, xs[k]? = some x → P k ρ S → ∃ ρ1, bindT t x ρ = some ρ1 ∧ ∃ c S2, body ρ1 S = some (c, S2) ∧ (match c with
      | .nx ρ2 => P (k + 1) ρ2 S2
      | .ct ρ2 => P (k + 1) ρ2 S2
      | .bk ρ2 => Q (.nx ρ2) S2
      | c => Q c S2)) :
    ∀ (ρ : Env) (S : Store), P 0 ρ S → ∃ c S2, forL t g body xs ρ S = some (c, S2) ∧ (Q c S2 ∨ ∃ ρ2, c = .nx ρ2 ∧ P xs.length ρ2 S2) := by
  have key : ∀ (ys : List D) (k : Nat), xs.drop k = ys → k + ys.length = xs.length → ∀ (ρ : Env) (S : Store), P k ρ S → ∃ c S2, forL t g body ys ρ S = some (c, S2) ∧ (Q c S2 ∨ ∃ ρ2, c = .nx ρ2 ∧ P xs.length ρ2 S2) := by
    intro ys
    induction ys with
    | nil =>
      intro k _ hl ρ S p
      have hk : k = xs.length := by simpa using hl
      refine ⟨.nx ρ, S, ?_, .inr ⟨ρ, rfl, hk ▸ p⟩⟩
      rw [forL]
      simp [hs k ρ S (by omega) p]
    | cons y ys ih =>
      intro k hd hl ρ S p
      have hl' : k + ys.length + 1 = xs.length := by simp only [List.length_cons] at hl; omega
      have hx : xs[k]? = some y := by
        have := List.getElem?_drop (xs := xs) (i := k) (j := 0)
        rw [hd] at this
        simpa using this.symm
      have hd' : xs.drop (k + 1) = ys := by
        have := List.drop_drop (l := xs) (i := 1) (j := k)
        rw [hd] at this
        simpa [Nat.add_comm] using this.symm
      obtain ⟨ρ1, h1, c, S2, h2, h3⟩ := ht k y ρ S hx p
      have st := hs k ρ S (by omega) p
      cases c with
      | nx ρ2 =>
        obtain ⟨c, S3, h4, h5⟩ := ih (k + 1) hd' (by omega) ρ2 S2 h3
        refine ⟨c, S3, ?_, h5⟩
        rw [forL]
        simp [st, h1, h2, h4]
      | ct ρ2 =>
        obtain ⟨c, S3, h4, h5⟩ := ih (k + 1) hd' (by omega) ρ2 S2 h3
        refine ⟨c, S3, ?_, h5⟩
        rw [forL]
        simp [st, h1, h2, h4]
      | bk ρ2 =>
        refine ⟨.nx ρ2, S2, ?_, .inl h3⟩
        rw [forL]
        simp [st, h1, h2]
      | rt d =>
        refine ⟨.rt d, S2, ?_, .inl h3⟩
        rw [forL]
        simp [st, h1, h2]
      | ex d ρ2 =>
        refine ⟨.ex d ρ2, S2, ?_, .inl h3⟩
        rw [forL]
        simp [st, h1, h2]
  intro ρ S p
  exact key xs 0 rfl (by simp) ρ S p
/-- a for that goes through to its end -/
theorem forL_all {t : Tg} {g : List (Nat × Cell)} {body : Env → MS} (xs : List D) (P : Nat → Env → Store → Prop)
    (hs : ∀ k ρ S, k ≤ xs.length → P k ρ S → stays S g = true)
    (ht : ∀ k x ρ S, xs[k]? = some x → P k ρ S → ∃ ρ1, bindT t x ρ = some ρ1 ∧ ∃ ρ2 S2, body ρ1 S = some (.nx ρ2, S2) ∧ P (k + 1) ρ2 S2)
    (ρ : Env) (S : Store) (p : P 0 ρ S) : ∃ ρ2 S2, forL t g body xs ρ S = some (.nx ρ2, S2) ∧ P xs.length ρ2 S2 := by
  obtain ⟨c, S2, h, q⟩ := forL_rule (t := t) (g := g) (body := body) xs P (fun _ _ => False) hs
    (fun k x ρ S hx p => by
      obtain ⟨ρ1, h1, ρ2, S2, h2, h3⟩ := ht k x ρ S hx p
      exact ⟨ρ1, h1, .nx ρ2, S2, h2, h3⟩) ρ S p
  rcases q with q | ⟨ρ2, rfl, q⟩
  · exact q.elim
  · exact ⟨ρ2, S2, h, q⟩
/-- r comes to an end, and Q holds of it -/
def Wp (r : Option (Ctl × Store)) (Q : Ctl → Store → Prop) : Prop := ∃ c S', r = some (c, S') ∧ Q c S'
theorem wp_some (c : Ctl) (S : Store) (Q : Ctl → Store → Prop) : Wp (some (c, S)) Q = Q c S := by
  apply propext
  constructor
  · rintro ⟨c, S, h, q⟩
    cases h
    exact q
  · exact fun q => ⟨c, S, rfl, q⟩
/-- what a turn's end must be -/
def turnEnd (P B : Env → Store → Prop) (Q : Ctl → Store → Prop) : Ctl → Store → Prop
  | .nx ρ, S => P ρ S
  | .ct ρ, S => P ρ S
  | .bk ρ, S => B ρ S
  | c, S => Q c S
theorem turn_nx (P B : Env → Store → Prop) (Q : Ctl → Store → Prop) (ρ : Env) (S : Store) : turnEnd P B Q (.nx ρ) S = P ρ S := rfl
theorem turn_ct (P B : Env → Store → Prop) (Q : Ctl → Store → Prop) (ρ : Env) (S : Store) : turnEnd P B Q (.ct ρ) S = P ρ S := rfl
theorem turn_bk (P B : Env → Store → Prop) (Q : Ctl → Store → Prop) (ρ : Env) (S : Store) : turnEnd P B Q (.bk ρ) S = B ρ S := rfl
theorem turn_rt (P B : Env → Store → Prop) (Q : Ctl → Store → Prop) (d : D) (S : Store) : turnEnd P B Q (.rt d) S = Q (.rt d) S := rfl
theorem turn_ex (P B : Env → Store → Prop) (Q : Ctl → Store → Prop) (c : String) (ρ : Env) (S : Store) : turnEnd P B Q (.ex c ρ) S = Q (.ex c ρ) S := rfl
/-- a for, and what comes behind it -/
theorem wp_for {t : Tg} {g : List (Nat × Cell)} {body : Env → MS} {xs : List D} {ρ : Env} {S : Store} {f : Env → MS} {Q : Ctl → Store → Prop}
    (P : Nat → Env → Store → Prop) (B : Env → Store → Prop) (p : P 0 ρ S)
    (hs : ∀ k ρ S, k ≤ xs.length → P k ρ S → stays S g = true)
    (ht : ∀ k x ρ S, xs[k]? = some x → P k ρ S → ∃ ρ1, bindT t x ρ = some ρ1 ∧ Wp (body ρ1 S) (turnEnd (P (k + 1)) B Q))
    (hf : ∀ ρ S, B ρ S ∨ P xs.length ρ S → Wp (f ρ S) Q) : Wp (msS (forL t g body xs ρ S) f) Q := by
  obtain ⟨c, S2, h, q⟩ := forL_rule (t := t) (g := g) (body := body) xs P (fun c S => match c with
      | .nx ρ => B ρ S
      | .rt d => Q (.rt d) S
      | .ex d ρ => Q (.ex d ρ) S
      | _ => False) hs
    (fun k x ρ S hx p => by
      obtain ⟨ρ1, h1, c, S2, h2, h3⟩ := ht k x ρ S hx p
      refine ⟨ρ1, h1, c, S2, h2, ?_⟩
      cases c <;> exact h3) ρ S p
  rw [h]
  rcases q with q | ⟨ρ2, rfl, q⟩
  · cases c with
    | nx ρ2 => exact hf ρ2 S2 (.inl q)
    | rt d => exact ⟨_, _, rfl, q⟩
    | ex d ρ2 => exact ⟨_, _, rfl, q⟩
    | bk ρ2 => exact q.elim
    | ct ρ2 => exact q.elim
  · exact hf ρ2 S2 (.inr q)
theorem wp_mono {r : Option (Ctl × Store)} {Q Q' : Ctl → Store → Prop} (h : Wp r Q) (i : ∀ c S, Q c S → Q' c S) : Wp r Q' := by
  obtain ⟨c, S, e, q⟩ := h
  exact ⟨c, S, e, i _ _ q⟩
/-- a def's call -/
theorem call_wp {cl : Cl} {f : Fn} {ds : List D} {S : Store} {R : Out D → Store → Prop} (h : ds.length = f.np) (h2 : f.np ≤ f.n)
    (w : Wp (exSs cl f.body (ds.map some ++ List.replicate (f.n - f.np) none) S) fun c S' => match c with
      | .nx _ => R (.ok .non) (gc S .non S')
      | .rt d => R (.ok d) (gc S d S')
      | .ex c _ => R (.ex c) (gc S .non S')
      | _ => False) : ∃ o S', callB cl f ds S = some (o, S') ∧ R o S' := by
  obtain ⟨c, S', e, q⟩ := w
  rw [callB_of cl f ds S h h2, e]
  cases c with
  | nx ρ => exact ⟨_, _, rfl, q⟩
  | rt d => exact ⟨_, _, rfl, q⟩
  | ex c ρ => exact ⟨_, _, rfl, q⟩
  | bk ρ => exact q.elim
  | ct ρ => exact q.elim
theorem rangeD_len (lo : Int) (n : Nat) : (rangeD lo n).length = n := by simp [rangeD]
theorem rangeD_at {lo : Int} {n k : Nat} {x : D} (h : (rangeD lo n)[k]? = some x) : k < n ∧ x = .int (lo + (k : Int)) := by
  unfold rangeD at h
  rw [List.getElem?_map] at h
  have hk : k < n := by
    rcases Nat.lt_or_ge k n with q | q
    · exact q
    · rw [List.getElem?_eq_none (by simpa using q)] at h
      cases h
  refine ⟨hk, ?_⟩
  rw [List.getElem?_eq_getElem (by simpa using hk)] at h
  simp at h
  exact h.symm

/-! ### the draws -/
def mixed (a b : Int) : Int := let s := (a * 48271 + b * 69621 + 12345) % 2147483647; (s * (s / 65536 + 3) + b) % 2147483647
theorem mixed_run (cl : Cl) (a b : Int) (S : Store) : callB cl f__law_mixed [.int a, .int b] S = some (.ok (.int (mixed a b)), S) := by
  have h2 : i64 ((a * 48271 + b * 69621 + 12345) % 2147483647) = true := by
    unfold i64
    rw [decide_eq_true_eq]
    have := Int.emod_nonneg (a * 48271 + b * 69621 + 12345) (by decide : (2147483647 : Int) ≠ 0)
    have := Int.emod_lt_of_pos (a * 48271 + b * 69621 + 12345) (by decide : (0 : Int) < 2147483647)
    omega
  have h3 : i64 48271 = true := by decide
  have h4 : i64 69621 = true := by decide
  rw [callB_of _ _ _ _ rfl (by decide)]
  show fin S (exSs cl f__law_mixed.body [some (.int a), some (.int b), none] S) = _
  simp only [f__law_mixed, ↓for_at, forS_at, lcS_at, ↓ev_non_at, ↓ev_bl_at, ↓ev_int_at, ↓ev_str_at, ↓ev_var_at, ↓ev_glob_at, ↓ev_op_at, ↓ev_neg_at, ↓ev_cmp_at, ↓ev_chain_at, ↓ev_not_at, ↓ev_and_at, ↓ev_or_at, ↓ev_ite_at, ↓ev_tup_at, ↓ev_lst_at, ↓ev_ix_at, ↓ev_slice_at, ↓ev_call_at, ↓ev_bi_at, ↓ev_mt_at, ↓ev_isi_at, ↓ev_lc_at, ↓evs_nil_at, ↓evs_cons_at, ↓evo_none_at, ↓evo_some_at, ↓evc_nil_at, ↓evc_cons_at, ↓ex_asg_at, ↓ex_asgIx_at, ↓ex_aug_at, ↓ex_expr_at, ↓ex_ite_at, ↓ex_ret_at, ↓ex_retN_at, ↓ex_raise_at, ↓ex_brk_at, ↓ex_cont_at, ↓ex_pass_at, ↓ex_while_at, ↓exs_nil_at, ↓exs_cons_at, asgK_at, asgR_ok, goOn_at, augK1_at, augK2_at, augK3_at, asgIxK_at, asgIxK2_at, asgIxK3_at, blK_at, nbK_at, opK_at, cmpK_at, cmpK2_at, chK_at, chK2_at, chK3_t, chK3_f, notK_at, andK_at, andK2_t, andK2_f, orK_at, orK2_t, orK2_f, ifK_at, ifK2_t, ifK2_f, tupK_at, lstK_at, ixK_at, slK_at, slK2_at, mtK_at, mtK2_at, isiK_at, consK_at, consK2_at, csK_at, csK2_t, csK2_f, someK_at, eltK_t, eltK_f, oneK_at, oneL_at, seqK_at, iteK_t, iteK_f, retK_at, noexR_ok, negM, intM, ↓msB_at, ↓msS_at, msB_ok, msB_ex, msS_msS, msS_nx, msS_rt, msS_ex, msS_bk, msS_ct, truthy, ↓bnd_at, bndR_ok, bndR_ex, of_some, ret_at, binop, iopM, ↓need_at, bindT, bindTs, indexM, setIxM, cmpM, eqM, inM, biM, lenM, listM, tupleM, get_at, put_at, new_at, ↓isi_cons_at, isi_nil_at, isiR_t, isiR_f, isTy, mtM, mtPre, appendM, upperM, isLst, isStr, itM, seq1, seqM, rng1, rng2, D.isNon, D.flat, D.flats, D.deep, D.deeps, D.eqv, D.eqvs, Nat.zero_le, Nat.max_self, and_self, lt0, lt1, lt2, lt3, atI0, atI1, atI2, atI3, ixN0, ixN1, ixN2, ixN3, getc0, getc1, getc2, getc3, getc4, getc5, getc6, getc7, getc8, setc0, setc1, setc2, setc3, setc4, setc5, setc6, setc7, setc8, id, Option.join_some, Option.join, Option.bind, Option.map, List.map_cons, List.map_nil, List.length_map, List.length_cons, List.length_nil, List.getElem?_cons_zero, List.getElem?_cons_succ, List.set_cons_zero, List.set_cons_succ, Nat.zero_add, List.append_nil, List.nil_append, List.cons_append, Int.reducePow, Int.reduceToNat, Int.zero_add, Int.cast_ofNat_Int, decide_true, decide_false, Bool.not_true, Bool.not_false, Bool.and_self, Bool.true_and, Bool.false_and, Bool.and_true, Nat.zero_max, Nat.max_zero, if_true, if_false, ite_true, ite_false, reduceIte, reduceCtorEq, Bool.false_eq_true, Bool.true_eq_false, or_true, true_or, and_true, true_and, or_false, false_or, Nat.reduceLT, Nat.reduceAdd, Nat.reduceLeDiff, Int.reduceLT, Int.reduceLE, Int.reduceAdd, Nat.zero_lt_succ, beq_self_eq_true, decide_eq_true_eq, h2, h3, h4, fin, gc_self, mixed]
theorem mixed_pos (a b : Int) : 0 ≤ mixed a b := Int.emod_nonneg _ (by decide)

/-- the store's head: the numbers, the pair of draws -/
abbrev drw (l : List Int) (t : Nat) (R : Store) : Store := .lst (l.map .int) :: .lst [.loc 0, .int (t : Int)] :: R
/-- the number drawn at t -/
def drawV (l : List Int) (t : Nat) : Int := if t < l.length then l.getD t 0 else
  mixed (mixed (if 0 < l.length then 1 + (t : Int) + 1009 * l.getD 0 0 else 1 + (t : Int)) t) 5 % 1000000
theorem drawV_pos {l : List Int} (h : ∀ x ∈ l, 0 ≤ x) (t : Nat) : 0 ≤ drawV l t := by
  unfold drawV
  split
  · next q =>
    rw [List.getD_eq_getElem?_getD, List.getElem?_eq_getElem q]
    exact h _ (List.getElem_mem q)
  · exact Int.emod_nonneg _ (by decide)
theorem atI_nat {α : Type} (xs : List α) (k : Nat) : atI xs (k : Int) = xs[k]? := by
  unfold atI ixN
  rcases Nat.lt_or_ge k xs.length with h | h
  · rw [if_pos (by omega), if_pos (by omega)]
    simp
  · rw [if_pos (by omega), if_neg (by omega)]
    simp [List.getElem?_eq_none h]
theorem atI_int {l : List Int} {t : Nat} (q : t < l.length) : atI (l.map D.int) (t : Int) = some (.int (l.getD t 0)) := by
  rw [atI_nat, List.getElem?_map, List.getElem?_eq_getElem q, List.getD_eq_getElem?_getD, List.getElem?_eq_getElem q]
  rfl
/-- a call that draws, and makes what it drops -/
theorem gc_drw (l : List Int) (t t' : Nat) (R G : Store) (v : D) (hv : v.bel (R.length + 1 + 1) = true) : gc (drw l t R) v (drw l t' R ++ G) = drw l t' R :=
  gc_app (drw l t R) (drw l t' R) G v hv rfl (by
    intro i hi
    match i with
    | 0 => exact .inl rfl
    | 1 => exact .inr ⟨_, rfl, by simp [Cell.bel, D.bels, D.bel]⟩
    | i + 2 => exact .inl rfl)
theorem draw_run (cl cl' : Cl) (hm : cl.fn "_law_mixed" = callB cl' f__law_mixed) (l : List Int) (t : Nat) (R : Store) :
    callB cl f__law_draw [.loc 1] (drw l t R) = some (.ok (.int (drawV l t)), drw l (t + 1) R) := by
  have hM : ∀ a b S, cl.fn "_law_mixed" [.int a, .int b] S = some (.ok (.int (mixed a b)), S) := by
    intro a b S
    rw [hm]
    exact mixed_run cl' a b S
  unfold drawV
  generalize mixed = mix at hM
  generalize hv : (if t < l.length then l.getD t 0 else mix (mix (if 0 < l.length then 1 + (t : Int) + 1009 * l.getD 0 0 else 1 + (t : Int)) t) 5 % 1000000) = v
  have hg := gc_drw l t (t + 1) R [] (.int v) rfl
  rw [List.append_nil] at hg
  have h3 : i64 1009 = true := by decide
  rw [callB_of _ _ _ _ rfl (by decide)]
  show fin _ (exSs cl f__law_draw.body [some (.loc 1), none, none] _) = _
  simp only [drw, Int.natCast_add, Int.natCast_one] at hg ⊢
  by_cases q : t < l.length
  · have q' : (t : Int) < (l.length : Int) := by omega
    rw [if_pos q] at hv
    subst hv
    simp only [f__law_draw, ↓for_at, forS_at, lcS_at, ↓ev_non_at, ↓ev_bl_at, ↓ev_int_at, ↓ev_str_at, ↓ev_var_at, ↓ev_glob_at, ↓ev_op_at, ↓ev_neg_at, ↓ev_cmp_at, ↓ev_chain_at, ↓ev_not_at, ↓ev_and_at, ↓ev_or_at, ↓ev_ite_at, ↓ev_tup_at, ↓ev_lst_at, ↓ev_ix_at, ↓ev_slice_at, ↓ev_call_at, ↓ev_bi_at, ↓ev_mt_at, ↓ev_isi_at, ↓ev_lc_at, ↓evs_nil_at, ↓evs_cons_at, ↓evo_none_at, ↓evo_some_at, ↓evc_nil_at, ↓evc_cons_at, ↓ex_asg_at, ↓ex_asgIx_at, ↓ex_aug_at, ↓ex_expr_at, ↓ex_ite_at, ↓ex_ret_at, ↓ex_retN_at, ↓ex_raise_at, ↓ex_brk_at, ↓ex_cont_at, ↓ex_pass_at, ↓ex_while_at, ↓exs_nil_at, ↓exs_cons_at, asgK_at, asgR_ok, goOn_at, augK1_at, augK2_at, augK3_at, asgIxK_at, asgIxK2_at, asgIxK3_at, blK_at, nbK_at, opK_at, cmpK_at, cmpK2_at, chK_at, chK2_at, chK3_t, chK3_f, notK_at, andK_at, andK2_t, andK2_f, orK_at, orK2_t, orK2_f, ifK_at, ifK2_t, ifK2_f, tupK_at, lstK_at, ixK_at, slK_at, slK2_at, mtK_at, mtK2_at, isiK_at, consK_at, consK2_at, csK_at, csK2_t, csK2_f, someK_at, eltK_t, eltK_f, oneK_at, oneL_at, seqK_at, iteK_t, iteK_f, retK_at, noexR_ok, negM, intM, ↓msB_at, ↓msS_at, msB_ok, msB_ex, msS_msS, msS_nx, msS_rt, msS_ex, msS_bk, msS_ct, truthy, ↓bnd_at, bndR_ok, bndR_ex, of_some, ret_at, binop, iopM, ↓need_at, bindT, bindTs, indexM, setIxM, cmpM, eqM, inM, biM, lenM, listM, tupleM, get_at, put_at, new_at, ↓isi_cons_at, isi_nil_at, isiR_t, isiR_f, isTy, mtM, mtPre, appendM, upperM, isLst, isStr, itM, seq1, seqM, rng1, rng2, D.isNon, D.flat, D.flats, D.deep, D.deeps, D.eqv, D.eqvs, Nat.zero_le, Nat.max_self, and_self, lt0, lt1, lt2, lt3, atI0, atI1, atI2, atI3, ixN0, ixN1, ixN2, ixN3, getc0, getc1, getc2, getc3, getc4, getc5, getc6, getc7, getc8, setc0, setc1, setc2, setc3, setc4, setc5, setc6, setc7, setc8, id, Option.join_some, Option.join, Option.bind, Option.map, List.map_cons, List.map_nil, List.length_map, List.length_cons, List.length_nil, List.getElem?_cons_zero, List.getElem?_cons_succ, List.set_cons_zero, List.set_cons_succ, Nat.zero_add, List.append_nil, List.nil_append, List.cons_append, Int.reducePow, Int.reduceToNat, Int.zero_add, Int.cast_ofNat_Int, decide_true, decide_false, Bool.not_true, Bool.not_false, Bool.and_self, Bool.true_and, Bool.false_and, Bool.and_true, Nat.zero_max, Nat.max_zero, if_true, if_false, ite_true, ite_false, reduceIte, reduceCtorEq, Bool.false_eq_true, Bool.true_eq_false, or_true, true_or, and_true, true_and, or_false, false_or, Nat.reduceLT, Nat.reduceAdd, Nat.reduceLeDiff, Int.reduceLT, Int.reduceLE, Int.reduceAdd, Nat.zero_lt_succ, beq_self_eq_true, decide_eq_true_eq, atI_int q, q', fin, hg]
  · have q' : ¬ (t : Int) < (l.length : Int) := by omega
    rw [if_neg q] at hv
    by_cases z : 0 < l.length
    · have z' : (0 : Int) < (l.length : Int) := by omega
      have a0 : atI (l.map D.int) 0 = some (.int (l.getD 0 0)) := atI_int (t := 0) z
      rw [if_pos z] at hv
      subst hv
      simp only [f__law_draw, ↓for_at, forS_at, lcS_at, ↓ev_non_at, ↓ev_bl_at, ↓ev_int_at, ↓ev_str_at, ↓ev_var_at, ↓ev_glob_at, ↓ev_op_at, ↓ev_neg_at, ↓ev_cmp_at, ↓ev_chain_at, ↓ev_not_at, ↓ev_and_at, ↓ev_or_at, ↓ev_ite_at, ↓ev_tup_at, ↓ev_lst_at, ↓ev_ix_at, ↓ev_slice_at, ↓ev_call_at, ↓ev_bi_at, ↓ev_mt_at, ↓ev_isi_at, ↓ev_lc_at, ↓evs_nil_at, ↓evs_cons_at, ↓evo_none_at, ↓evo_some_at, ↓evc_nil_at, ↓evc_cons_at, ↓ex_asg_at, ↓ex_asgIx_at, ↓ex_aug_at, ↓ex_expr_at, ↓ex_ite_at, ↓ex_ret_at, ↓ex_retN_at, ↓ex_raise_at, ↓ex_brk_at, ↓ex_cont_at, ↓ex_pass_at, ↓ex_while_at, ↓exs_nil_at, ↓exs_cons_at, asgK_at, asgR_ok, goOn_at, augK1_at, augK2_at, augK3_at, asgIxK_at, asgIxK2_at, asgIxK3_at, blK_at, nbK_at, opK_at, cmpK_at, cmpK2_at, chK_at, chK2_at, chK3_t, chK3_f, notK_at, andK_at, andK2_t, andK2_f, orK_at, orK2_t, orK2_f, ifK_at, ifK2_t, ifK2_f, tupK_at, lstK_at, ixK_at, slK_at, slK2_at, mtK_at, mtK2_at, isiK_at, consK_at, consK2_at, csK_at, csK2_t, csK2_f, someK_at, eltK_t, eltK_f, oneK_at, oneL_at, seqK_at, iteK_t, iteK_f, retK_at, noexR_ok, negM, intM, ↓msB_at, ↓msS_at, msB_ok, msB_ex, msS_msS, msS_nx, msS_rt, msS_ex, msS_bk, msS_ct, truthy, ↓bnd_at, bndR_ok, bndR_ex, of_some, ret_at, binop, iopM, ↓need_at, bindT, bindTs, indexM, setIxM, cmpM, eqM, inM, biM, lenM, listM, tupleM, get_at, put_at, new_at, ↓isi_cons_at, isi_nil_at, isiR_t, isiR_f, isTy, mtM, mtPre, appendM, upperM, isLst, isStr, itM, seq1, seqM, rng1, rng2, D.isNon, D.flat, D.flats, D.deep, D.deeps, D.eqv, D.eqvs, Nat.zero_le, Nat.max_self, and_self, lt0, lt1, lt2, lt3, atI0, atI1, atI2, atI3, ixN0, ixN1, ixN2, ixN3, getc0, getc1, getc2, getc3, getc4, getc5, getc6, getc7, getc8, setc0, setc1, setc2, setc3, setc4, setc5, setc6, setc7, setc8, id, Option.join_some, Option.join, Option.bind, Option.map, List.map_cons, List.map_nil, List.length_map, List.length_cons, List.length_nil, List.getElem?_cons_zero, List.getElem?_cons_succ, List.set_cons_zero, List.set_cons_succ, Nat.zero_add, List.append_nil, List.nil_append, List.cons_append, Int.reducePow, Int.reduceToNat, Int.zero_add, Int.cast_ofNat_Int, decide_true, decide_false, Bool.not_true, Bool.not_false, Bool.and_self, Bool.true_and, Bool.false_and, Bool.and_true, Nat.zero_max, Nat.max_zero, if_true, if_false, ite_true, ite_false, reduceIte, reduceCtorEq, Bool.false_eq_true, Bool.true_eq_false, or_true, true_or, and_true, true_and, or_false, false_or, Nat.reduceLT, Nat.reduceAdd, Nat.reduceLeDiff, Int.reduceLT, Int.reduceLE, Int.reduceAdd, Nat.zero_lt_succ, beq_self_eq_true, decide_eq_true_eq, q', z', a0, h3, hM, fin, hg]
    · have z' : ¬ (0 : Int) < (l.length : Int) := by omega
      rw [if_neg z] at hv
      subst hv
      simp only [f__law_draw, ↓for_at, forS_at, lcS_at, ↓ev_non_at, ↓ev_bl_at, ↓ev_int_at, ↓ev_str_at, ↓ev_var_at, ↓ev_glob_at, ↓ev_op_at, ↓ev_neg_at, ↓ev_cmp_at, ↓ev_chain_at, ↓ev_not_at, ↓ev_and_at, ↓ev_or_at, ↓ev_ite_at, ↓ev_tup_at, ↓ev_lst_at, ↓ev_ix_at, ↓ev_slice_at, ↓ev_call_at, ↓ev_bi_at, ↓ev_mt_at, ↓ev_isi_at, ↓ev_lc_at, ↓evs_nil_at, ↓evs_cons_at, ↓evo_none_at, ↓evo_some_at, ↓evc_nil_at, ↓evc_cons_at, ↓ex_asg_at, ↓ex_asgIx_at, ↓ex_aug_at, ↓ex_expr_at, ↓ex_ite_at, ↓ex_ret_at, ↓ex_retN_at, ↓ex_raise_at, ↓ex_brk_at, ↓ex_cont_at, ↓ex_pass_at, ↓ex_while_at, ↓exs_nil_at, ↓exs_cons_at, asgK_at, asgR_ok, goOn_at, augK1_at, augK2_at, augK3_at, asgIxK_at, asgIxK2_at, asgIxK3_at, blK_at, nbK_at, opK_at, cmpK_at, cmpK2_at, chK_at, chK2_at, chK3_t, chK3_f, notK_at, andK_at, andK2_t, andK2_f, orK_at, orK2_t, orK2_f, ifK_at, ifK2_t, ifK2_f, tupK_at, lstK_at, ixK_at, slK_at, slK2_at, mtK_at, mtK2_at, isiK_at, consK_at, consK2_at, csK_at, csK2_t, csK2_f, someK_at, eltK_t, eltK_f, oneK_at, oneL_at, seqK_at, iteK_t, iteK_f, retK_at, noexR_ok, negM, intM, ↓msB_at, ↓msS_at, msB_ok, msB_ex, msS_msS, msS_nx, msS_rt, msS_ex, msS_bk, msS_ct, truthy, ↓bnd_at, bndR_ok, bndR_ex, of_some, ret_at, binop, iopM, ↓need_at, bindT, bindTs, indexM, setIxM, cmpM, eqM, inM, biM, lenM, listM, tupleM, get_at, put_at, new_at, ↓isi_cons_at, isi_nil_at, isiR_t, isiR_f, isTy, mtM, mtPre, appendM, upperM, isLst, isStr, itM, seq1, seqM, rng1, rng2, D.isNon, D.flat, D.flats, D.deep, D.deeps, D.eqv, D.eqvs, Nat.zero_le, Nat.max_self, and_self, lt0, lt1, lt2, lt3, atI0, atI1, atI2, atI3, ixN0, ixN1, ixN2, ixN3, getc0, getc1, getc2, getc3, getc4, getc5, getc6, getc7, getc8, setc0, setc1, setc2, setc3, setc4, setc5, setc6, setc7, setc8, id, Option.join_some, Option.join, Option.bind, Option.map, List.map_cons, List.map_nil, List.length_map, List.length_cons, List.length_nil, List.getElem?_cons_zero, List.getElem?_cons_succ, List.set_cons_zero, List.set_cons_succ, Nat.zero_add, List.append_nil, List.nil_append, List.cons_append, Int.reducePow, Int.reduceToNat, Int.zero_add, Int.cast_ofNat_Int, decide_true, decide_false, Bool.not_true, Bool.not_false, Bool.and_self, Bool.true_and, Bool.false_and, Bool.and_true, Nat.zero_max, Nat.max_zero, if_true, if_false, ite_true, ite_false, reduceIte, reduceCtorEq, Bool.false_eq_true, Bool.true_eq_false, or_true, true_or, and_true, true_and, or_false, false_or, Nat.reduceLT, Nat.reduceAdd, Nat.reduceLeDiff, Int.reduceLT, Int.reduceLE, Int.reduceAdd, Nat.zero_lt_succ, beq_self_eq_true, decide_eq_true_eq, q', z', h3, hM, fin, hg]

theorem numbers_run (cl cl' : Cl) (hm : cl.fn "_law_mixed" = callB cl' f__law_mixed) (ns : List Int) (hn : ns.length ≤ 63) :
    ∃ l : List Int, (∀ x ∈ l, 0 ≤ x) ∧ callB cl f__law_numbers [.fzl (ns.map .int)] [] = some (.ok (.loc 0), [.lst (l.map .int)]) := by
  have hM : ∀ a b S, cl.fn "_law_mixed" [.int a, .int b] S = some (.ok (.int (mixed a b)), S) := by
    intro a b S
    rw [hm]
    exact mixed_run cl' a b S
  have hz : ((10 : Int).natAbs < 2 ^ 64) = True := eq_true (by decide)
  have h60 : r62 60 = true := by decide
  have h5 : r62 5 = true := by decide
  have hpow : (10 : Int) ^ (18 : Int).toNat = 1000000000000000000 := by decide
  suffices h : ∃ o S', callB cl f__law_numbers [.fzl (ns.map .int)] [] = some (o, S') ∧ ∃ l : List Int, (∀ x ∈ l, 0 ≤ x) ∧ o = .ok (.loc 0) ∧ S' = [.lst (l.map .int)] by
    obtain ⟨o, S', e, l, h1, rfl, rfl⟩ := h
    exact ⟨l, h1, e⟩
  generalize mixed = mix at hM
  apply call_wp rfl (by decide)
  show Wp (exSs cl f__law_numbers.body [some (.fzl (ns.map .int)), none, none, none, none] []) _
  simp only [f__law_numbers, ↓for_at, forS_at, lcS_at, ↓ev_non_at, ↓ev_bl_at, ↓ev_int_at, ↓ev_str_at, ↓ev_var_at, ↓ev_glob_at, ↓ev_op_at, ↓ev_neg_at, ↓ev_cmp_at, ↓ev_chain_at, ↓ev_not_at, ↓ev_and_at, ↓ev_or_at, ↓ev_ite_at, ↓ev_tup_at, ↓ev_lst_at, ↓ev_ix_at, ↓ev_slice_at, ↓ev_call_at, ↓ev_bi_at, ↓ev_mt_at, ↓ev_isi_at, ↓ev_lc_at, ↓evs_nil_at, ↓evs_cons_at, ↓evo_none_at, ↓evo_some_at, ↓evc_nil_at, ↓evc_cons_at, ↓ex_asg_at, ↓ex_asgIx_at, ↓ex_aug_at, ↓ex_expr_at, ↓ex_ite_at, ↓ex_ret_at, ↓ex_retN_at, ↓ex_raise_at, ↓ex_brk_at, ↓ex_cont_at, ↓ex_pass_at, ↓ex_while_at, ↓exs_nil_at, ↓exs_cons_at, asgK_at, asgR_ok, goOn_at, augK1_at, augK2_at, augK3_at, asgIxK_at, asgIxK2_at, asgIxK3_at, blK_at, nbK_at, opK_at, cmpK_at, cmpK2_at, chK_at, chK2_at, chK3_t, chK3_f, notK_at, andK_at, andK2_t, andK2_f, orK_at, orK2_t, orK2_f, ifK_at, ifK2_t, ifK2_f, tupK_at, lstK_at, ixK_at, slK_at, slK2_at, mtK_at, mtK2_at, isiK_at, consK_at, consK2_at, csK_at, csK2_t, csK2_f, someK_at, eltK_t, eltK_f, oneK_at, oneL_at, seqK_at, iteK_t, iteK_f, retK_at, noexR_ok, negM, intM, ↓msB_at, ↓msS_at, msB_ok, msB_ex, msS_msS, msS_nx, msS_rt, msS_ex, msS_bk, msS_ct, truthy, ↓bnd_at, bndR_ok, bndR_ex, of_some, ret_at, binop, iopM, ↓need_at, bindT, bindTs, indexM, setIxM, cmpM, eqM, inM, biM, lenM, listM, tupleM, get_at, put_at, new_at, ↓isi_cons_at, isi_nil_at, isiR_t, isiR_f, isTy, mtM, mtPre, appendM, upperM, isLst, isStr, itM, seq1, seqM, rng1, rng2, D.isNon, D.flat, D.flats, D.deep, D.deeps, D.eqv, D.eqvs, Nat.zero_le, Nat.max_self, and_self, lt0, lt1, lt2, lt3, atI0, atI1, atI2, atI3, ixN0, ixN1, ixN2, ixN3, getc0, getc1, getc2, getc3, getc4, getc5, getc6, getc7, getc8, setc0, setc1, setc2, setc3, setc4, setc5, setc6, setc7, setc8, id, Option.join_some, Option.join, Option.bind, Option.map, List.map_cons, List.map_nil, List.length_map, List.length_cons, List.length_nil, List.getElem?_cons_zero, List.getElem?_cons_succ, List.set_cons_zero, List.set_cons_succ, Nat.zero_add, List.append_nil, List.nil_append, List.cons_append, Int.reducePow, Int.reduceToNat, Int.zero_add, Int.cast_ofNat_Int, decide_true, decide_false, Bool.not_true, Bool.not_false, Bool.and_self, Bool.true_and, Bool.false_and, Bool.and_true, Nat.zero_max, Nat.max_zero, if_true, if_false, ite_true, ite_false, reduceIte, reduceCtorEq, Bool.false_eq_true, Bool.true_eq_false, or_true, true_or, and_true, true_and, or_false, false_or, Nat.reduceLT, Nat.reduceAdd, Nat.reduceLeDiff, Int.reduceLT, Int.reduceLE, Int.reduceAdd, Nat.zero_lt_succ, beq_self_eq_true, decide_eq_true_eq, List.nil_append]
  have hP : ∀ (l : List Int) (m : Nat), l.length ≤ 60 * 63 + 60 → l.length < szl := by
    intro l _ h
    show l.length < 16777216
    omega
  refine wp_for (P := fun k ρ S => ∃ (l : List Int) (c r q : Option D), (∀ x ∈ l, 0 ≤ x) ∧ l.length ≤ 60 * k ∧ ρ = [some (.fzl (ns.map .int)), some (.loc 0), c, r, q] ∧ S = [.lst (l.map .int)]) (B := fun _ _ => False) ⟨[], none, none, none, by simp, by simp, rfl, rfl⟩ (by intros; rfl) ?_ ?_
  · rintro k x ρ S hx ⟨l, c, r, q, h1, h2, rfl, rfl⟩
    have hk : k < ns.length := by
      rcases Nat.lt_or_ge k ns.length with z | z
      · exact z
      · rw [List.getElem?_eq_none (by simpa using z)] at hx
        cases hx
    obtain ⟨i, rfl⟩ : ∃ i, x = .int i := by
      rw [List.getElem?_map, List.getElem?_eq_getElem hk] at hx
      exact ⟨_, (Option.some.inj hx).symm⟩
    refine ⟨[some (.fzl (ns.map .int)), some (.loc 0), some (.int i), r, q], rfl, ?_⟩
    by_cases hi : 1000000000000000000 ≤ i
    · simp only [↓for_at, forS_at, lcS_at, ↓ev_non_at, ↓ev_bl_at, ↓ev_int_at, ↓ev_str_at, ↓ev_var_at, ↓ev_glob_at, ↓ev_op_at, ↓ev_neg_at, ↓ev_cmp_at, ↓ev_chain_at, ↓ev_not_at, ↓ev_and_at, ↓ev_or_at, ↓ev_ite_at, ↓ev_tup_at, ↓ev_lst_at, ↓ev_ix_at, ↓ev_slice_at, ↓ev_call_at, ↓ev_bi_at, ↓ev_mt_at, ↓ev_isi_at, ↓ev_lc_at, ↓evs_nil_at, ↓evs_cons_at, ↓evo_none_at, ↓evo_some_at, ↓evc_nil_at, ↓evc_cons_at, ↓ex_asg_at, ↓ex_asgIx_at, ↓ex_aug_at, ↓ex_expr_at, ↓ex_ite_at, ↓ex_ret_at, ↓ex_retN_at, ↓ex_raise_at, ↓ex_brk_at, ↓ex_cont_at, ↓ex_pass_at, ↓ex_while_at, ↓exs_nil_at, ↓exs_cons_at, asgK_at, asgR_ok, goOn_at, augK1_at, augK2_at, augK3_at, asgIxK_at, asgIxK2_at, asgIxK3_at, blK_at, nbK_at, opK_at, cmpK_at, cmpK2_at, chK_at, chK2_at, chK3_t, chK3_f, notK_at, andK_at, andK2_t, andK2_f, orK_at, orK2_t, orK2_f, ifK_at, ifK2_t, ifK2_f, tupK_at, lstK_at, ixK_at, slK_at, slK2_at, mtK_at, mtK2_at, isiK_at, consK_at, consK2_at, csK_at, csK2_t, csK2_f, someK_at, eltK_t, eltK_f, oneK_at, oneL_at, seqK_at, iteK_t, iteK_f, retK_at, noexR_ok, negM, intM, ↓msB_at, ↓msS_at, msB_ok, msB_ex, msS_msS, msS_nx, msS_rt, msS_ex, msS_bk, msS_ct, truthy, ↓bnd_at, bndR_ok, bndR_ex, of_some, ret_at, binop, iopM, ↓need_at, bindT, bindTs, indexM, setIxM, cmpM, eqM, inM, biM, lenM, listM, tupleM, get_at, put_at, new_at, ↓isi_cons_at, isi_nil_at, isiR_t, isiR_f, isTy, mtM, mtPre, appendM, upperM, isLst, isStr, itM, seq1, seqM, rng1, rng2, D.isNon, D.flat, D.flats, D.deep, D.deeps, D.eqv, D.eqvs, Nat.zero_le, Nat.max_self, and_self, lt0, lt1, lt2, lt3, atI0, atI1, atI2, atI3, ixN0, ixN1, ixN2, ixN3, getc0, getc1, getc2, getc3, getc4, getc5, getc6, getc7, getc8, setc0, setc1, setc2, setc3, setc4, setc5, setc6, setc7, setc8, id, Option.join_some, Option.join, Option.bind, Option.map, List.map_cons, List.map_nil, List.length_map, List.length_cons, List.length_nil, List.getElem?_cons_zero, List.getElem?_cons_succ, List.set_cons_zero, List.set_cons_succ, Nat.zero_add, List.append_nil, List.nil_append, List.cons_append, Int.reducePow, Int.reduceToNat, Int.zero_add, Int.cast_ofNat_Int, decide_true, decide_false, Bool.not_true, Bool.not_false, Bool.and_self, Bool.true_and, Bool.false_and, Bool.and_true, Nat.zero_max, Nat.max_zero, if_true, if_false, ite_true, ite_false, reduceIte, reduceCtorEq, Bool.false_eq_true, Bool.true_eq_false, or_true, true_or, and_true, true_and, or_false, false_or, Nat.reduceLT, Nat.reduceAdd, Nat.reduceLeDiff, Int.reduceLT, Int.reduceLE, Int.reduceAdd, Nat.zero_lt_succ, beq_self_eq_true, decide_eq_true_eq, hz, hpow, hi, h60]
      refine wp_for (P := fun j ρ S => ∃ (l : List Int) (r : Int) (q : Option D), (∀ x ∈ l, 0 ≤ x) ∧ l.length ≤ 60 * k + j ∧ ρ = [some (.fzl (ns.map .int)), some (.loc 0), some (.int i), some (.int r), q] ∧ S = [.lst (l.map .int)]) (B := fun _ _ => False) ⟨l, i, q, h1, h2, rfl, rfl⟩ (by intros; rfl) ?_ ?_
      · rintro j x ρ S hx ⟨l, r, q, h1, h2, rfl, rfl⟩
        obtain ⟨hj, rfl⟩ := rangeD_at hx
        refine ⟨[some (.fzl (ns.map .int)), some (.loc 0), some (.int i), some (.int r), some (.int (0 + (j : Int)))], rfl, ?_⟩
        by_cases hr : 0 < r
        · have hl : l.length < szl := hP l 0 (by have : (60 : Int).toNat = 60 := rfl; omega)
          simp only [↓for_at, forS_at, lcS_at, ↓ev_non_at, ↓ev_bl_at, ↓ev_int_at, ↓ev_str_at, ↓ev_var_at, ↓ev_glob_at, ↓ev_op_at, ↓ev_neg_at, ↓ev_cmp_at, ↓ev_chain_at, ↓ev_not_at, ↓ev_and_at, ↓ev_or_at, ↓ev_ite_at, ↓ev_tup_at, ↓ev_lst_at, ↓ev_ix_at, ↓ev_slice_at, ↓ev_call_at, ↓ev_bi_at, ↓ev_mt_at, ↓ev_isi_at, ↓ev_lc_at, ↓evs_nil_at, ↓evs_cons_at, ↓evo_none_at, ↓evo_some_at, ↓evc_nil_at, ↓evc_cons_at, ↓ex_asg_at, ↓ex_asgIx_at, ↓ex_aug_at, ↓ex_expr_at, ↓ex_ite_at, ↓ex_ret_at, ↓ex_retN_at, ↓ex_raise_at, ↓ex_brk_at, ↓ex_cont_at, ↓ex_pass_at, ↓ex_while_at, ↓exs_nil_at, ↓exs_cons_at, asgK_at, asgR_ok, goOn_at, augK1_at, augK2_at, augK3_at, asgIxK_at, asgIxK2_at, asgIxK3_at, blK_at, nbK_at, opK_at, cmpK_at, cmpK2_at, chK_at, chK2_at, chK3_t, chK3_f, notK_at, andK_at, andK2_t, andK2_f, orK_at, orK2_t, orK2_f, ifK_at, ifK2_t, ifK2_f, tupK_at, lstK_at, ixK_at, slK_at, slK2_at, mtK_at, mtK2_at, isiK_at, consK_at, consK2_at, csK_at, csK2_t, csK2_f, someK_at, eltK_t, eltK_f, oneK_at, oneL_at, seqK_at, iteK_t, iteK_f, retK_at, noexR_ok, negM, intM, ↓msB_at, ↓msS_at, msB_ok, msB_ex, msS_msS, msS_nx, msS_rt, msS_ex, msS_bk, msS_ct, truthy, ↓bnd_at, bndR_ok, bndR_ex, of_some, ret_at, binop, iopM, ↓need_at, bindT, bindTs, indexM, setIxM, cmpM, eqM, inM, biM, lenM, listM, tupleM, get_at, put_at, new_at, ↓isi_cons_at, isi_nil_at, isiR_t, isiR_f, isTy, mtM, mtPre, appendM, upperM, isLst, isStr, itM, seq1, seqM, rng1, rng2, D.isNon, D.flat, D.flats, D.deep, D.deeps, D.eqv, D.eqvs, Nat.zero_le, Nat.max_self, and_self, lt0, lt1, lt2, lt3, atI0, atI1, atI2, atI3, ixN0, ixN1, ixN2, ixN3, getc0, getc1, getc2, getc3, getc4, getc5, getc6, getc7, getc8, setc0, setc1, setc2, setc3, setc4, setc5, setc6, setc7, setc8, id, Option.join_some, Option.join, Option.bind, Option.map, List.map_cons, List.map_nil, List.length_map, List.length_cons, List.length_nil, List.getElem?_cons_zero, List.getElem?_cons_succ, List.set_cons_zero, List.set_cons_succ, Nat.zero_add, List.append_nil, List.nil_append, List.cons_append, Int.reducePow, Int.reduceToNat, Int.zero_add, Int.cast_ofNat_Int, decide_true, decide_false, Bool.not_true, Bool.not_false, Bool.and_self, Bool.true_and, Bool.false_and, Bool.and_true, Nat.zero_max, Nat.max_zero, if_true, if_false, ite_true, ite_false, reduceIte, reduceCtorEq, Bool.false_eq_true, Bool.true_eq_false, or_true, true_or, and_true, true_and, or_false, false_or, Nat.reduceLT, Nat.reduceAdd, Nat.reduceLeDiff, Int.reduceLT, Int.reduceLE, Int.reduceAdd, Nat.zero_lt_succ, beq_self_eq_true, decide_eq_true_eq, hr, hl, wp_some, turn_nx]
          refine ⟨l ++ [r % 1000000], r / 1000000, _, ?_, ?_, rfl, ?_⟩
          · intro x hx
            rcases List.mem_append.1 hx with hx | hx
            · exact h1 x hx
            · rw [List.mem_singleton.1 hx]
              exact Int.emod_nonneg _ (by decide)
          · simp
            omega
          · simp
        · simp only [↓for_at, forS_at, lcS_at, ↓ev_non_at, ↓ev_bl_at, ↓ev_int_at, ↓ev_str_at, ↓ev_var_at, ↓ev_glob_at, ↓ev_op_at, ↓ev_neg_at, ↓ev_cmp_at, ↓ev_chain_at, ↓ev_not_at, ↓ev_and_at, ↓ev_or_at, ↓ev_ite_at, ↓ev_tup_at, ↓ev_lst_at, ↓ev_ix_at, ↓ev_slice_at, ↓ev_call_at, ↓ev_bi_at, ↓ev_mt_at, ↓ev_isi_at, ↓ev_lc_at, ↓evs_nil_at, ↓evs_cons_at, ↓evo_none_at, ↓evo_some_at, ↓evc_nil_at, ↓evc_cons_at, ↓ex_asg_at, ↓ex_asgIx_at, ↓ex_aug_at, ↓ex_expr_at, ↓ex_ite_at, ↓ex_ret_at, ↓ex_retN_at, ↓ex_raise_at, ↓ex_brk_at, ↓ex_cont_at, ↓ex_pass_at, ↓ex_while_at, ↓exs_nil_at, ↓exs_cons_at, asgK_at, asgR_ok, goOn_at, augK1_at, augK2_at, augK3_at, asgIxK_at, asgIxK2_at, asgIxK3_at, blK_at, nbK_at, opK_at, cmpK_at, cmpK2_at, chK_at, chK2_at, chK3_t, chK3_f, notK_at, andK_at, andK2_t, andK2_f, orK_at, orK2_t, orK2_f, ifK_at, ifK2_t, ifK2_f, tupK_at, lstK_at, ixK_at, slK_at, slK2_at, mtK_at, mtK2_at, isiK_at, consK_at, consK2_at, csK_at, csK2_t, csK2_f, someK_at, eltK_t, eltK_f, oneK_at, oneL_at, seqK_at, iteK_t, iteK_f, retK_at, noexR_ok, negM, intM, ↓msB_at, ↓msS_at, msB_ok, msB_ex, msS_msS, msS_nx, msS_rt, msS_ex, msS_bk, msS_ct, truthy, ↓bnd_at, bndR_ok, bndR_ex, of_some, ret_at, binop, iopM, ↓need_at, bindT, bindTs, indexM, setIxM, cmpM, eqM, inM, biM, lenM, listM, tupleM, get_at, put_at, new_at, ↓isi_cons_at, isi_nil_at, isiR_t, isiR_f, isTy, mtM, mtPre, appendM, upperM, isLst, isStr, itM, seq1, seqM, rng1, rng2, D.isNon, D.flat, D.flats, D.deep, D.deeps, D.eqv, D.eqvs, Nat.zero_le, Nat.max_self, and_self, lt0, lt1, lt2, lt3, atI0, atI1, atI2, atI3, ixN0, ixN1, ixN2, ixN3, getc0, getc1, getc2, getc3, getc4, getc5, getc6, getc7, getc8, setc0, setc1, setc2, setc3, setc4, setc5, setc6, setc7, setc8, id, Option.join_some, Option.join, Option.bind, Option.map, List.map_cons, List.map_nil, List.length_map, List.length_cons, List.length_nil, List.getElem?_cons_zero, List.getElem?_cons_succ, List.set_cons_zero, List.set_cons_succ, Nat.zero_add, List.append_nil, List.nil_append, List.cons_append, Int.reducePow, Int.reduceToNat, Int.zero_add, Int.cast_ofNat_Int, decide_true, decide_false, Bool.not_true, Bool.not_false, Bool.and_self, Bool.true_and, Bool.false_and, Bool.and_true, Nat.zero_max, Nat.max_zero, if_true, if_false, ite_true, ite_false, reduceIte, reduceCtorEq, Bool.false_eq_true, Bool.true_eq_false, or_true, true_or, and_true, true_and, or_false, false_or, Nat.reduceLT, Nat.reduceAdd, Nat.reduceLeDiff, Int.reduceLT, Int.reduceLE, Int.reduceAdd, Nat.zero_lt_succ, beq_self_eq_true, decide_eq_true_eq, hr, wp_some, turn_nx]
          exact ⟨l, r, _, h1, by omega, rfl, rfl⟩
      · rintro ρ S (⟨⟨⟩⟩ | ⟨l, r, q, h1, h2, rfl, rfl⟩)
        simp only [↓for_at, forS_at, lcS_at, ↓ev_non_at, ↓ev_bl_at, ↓ev_int_at, ↓ev_str_at, ↓ev_var_at, ↓ev_glob_at, ↓ev_op_at, ↓ev_neg_at, ↓ev_cmp_at, ↓ev_chain_at, ↓ev_not_at, ↓ev_and_at, ↓ev_or_at, ↓ev_ite_at, ↓ev_tup_at, ↓ev_lst_at, ↓ev_ix_at, ↓ev_slice_at, ↓ev_call_at, ↓ev_bi_at, ↓ev_mt_at, ↓ev_isi_at, ↓ev_lc_at, ↓evs_nil_at, ↓evs_cons_at, ↓evo_none_at, ↓evo_some_at, ↓evc_nil_at, ↓evc_cons_at, ↓ex_asg_at, ↓ex_asgIx_at, ↓ex_aug_at, ↓ex_expr_at, ↓ex_ite_at, ↓ex_ret_at, ↓ex_retN_at, ↓ex_raise_at, ↓ex_brk_at, ↓ex_cont_at, ↓ex_pass_at, ↓ex_while_at, ↓exs_nil_at, ↓exs_cons_at, asgK_at, asgR_ok, goOn_at, augK1_at, augK2_at, augK3_at, asgIxK_at, asgIxK2_at, asgIxK3_at, blK_at, nbK_at, opK_at, cmpK_at, cmpK2_at, chK_at, chK2_at, chK3_t, chK3_f, notK_at, andK_at, andK2_t, andK2_f, orK_at, orK2_t, orK2_f, ifK_at, ifK2_t, ifK2_f, tupK_at, lstK_at, ixK_at, slK_at, slK2_at, mtK_at, mtK2_at, isiK_at, consK_at, consK2_at, csK_at, csK2_t, csK2_f, someK_at, eltK_t, eltK_f, oneK_at, oneL_at, seqK_at, iteK_t, iteK_f, retK_at, noexR_ok, negM, intM, ↓msB_at, ↓msS_at, msB_ok, msB_ex, msS_msS, msS_nx, msS_rt, msS_ex, msS_bk, msS_ct, truthy, ↓bnd_at, bndR_ok, bndR_ex, of_some, ret_at, binop, iopM, ↓need_at, bindT, bindTs, indexM, setIxM, cmpM, eqM, inM, biM, lenM, listM, tupleM, get_at, put_at, new_at, ↓isi_cons_at, isi_nil_at, isiR_t, isiR_f, isTy, mtM, mtPre, appendM, upperM, isLst, isStr, itM, seq1, seqM, rng1, rng2, D.isNon, D.flat, D.flats, D.deep, D.deeps, D.eqv, D.eqvs, Nat.zero_le, Nat.max_self, and_self, lt0, lt1, lt2, lt3, atI0, atI1, atI2, atI3, ixN0, ixN1, ixN2, ixN3, getc0, getc1, getc2, getc3, getc4, getc5, getc6, getc7, getc8, setc0, setc1, setc2, setc3, setc4, setc5, setc6, setc7, setc8, id, Option.join_some, Option.join, Option.bind, Option.map, List.map_cons, List.map_nil, List.length_map, List.length_cons, List.length_nil, List.getElem?_cons_zero, List.getElem?_cons_succ, List.set_cons_zero, List.set_cons_succ, Nat.zero_add, List.append_nil, List.nil_append, List.cons_append, Int.reducePow, Int.reduceToNat, Int.zero_add, Int.cast_ofNat_Int, decide_true, decide_false, Bool.not_true, Bool.not_false, Bool.and_self, Bool.true_and, Bool.false_and, Bool.and_true, Nat.zero_max, Nat.max_zero, if_true, if_false, ite_true, ite_false, reduceIte, reduceCtorEq, Bool.false_eq_true, Bool.true_eq_false, or_true, true_or, and_true, true_and, or_false, false_or, Nat.reduceLT, Nat.reduceAdd, Nat.reduceLeDiff, Int.reduceLT, Int.reduceLE, Int.reduceAdd, Nat.zero_lt_succ, beq_self_eq_true, decide_eq_true_eq, wp_some, turn_nx]
        exact ⟨l, _, _, _, h1, by rw [rangeD_len] at h2; have : (60 : Int).toNat = 60 := rfl; omega, rfl, rfl⟩
    · have hl : l.length < szl := hP l 0 (by omega)
      simp only [↓for_at, forS_at, lcS_at, ↓ev_non_at, ↓ev_bl_at, ↓ev_int_at, ↓ev_str_at, ↓ev_var_at, ↓ev_glob_at, ↓ev_op_at, ↓ev_neg_at, ↓ev_cmp_at, ↓ev_chain_at, ↓ev_not_at, ↓ev_and_at, ↓ev_or_at, ↓ev_ite_at, ↓ev_tup_at, ↓ev_lst_at, ↓ev_ix_at, ↓ev_slice_at, ↓ev_call_at, ↓ev_bi_at, ↓ev_mt_at, ↓ev_isi_at, ↓ev_lc_at, ↓evs_nil_at, ↓evs_cons_at, ↓evo_none_at, ↓evo_some_at, ↓evc_nil_at, ↓evc_cons_at, ↓ex_asg_at, ↓ex_asgIx_at, ↓ex_aug_at, ↓ex_expr_at, ↓ex_ite_at, ↓ex_ret_at, ↓ex_retN_at, ↓ex_raise_at, ↓ex_brk_at, ↓ex_cont_at, ↓ex_pass_at, ↓ex_while_at, ↓exs_nil_at, ↓exs_cons_at, asgK_at, asgR_ok, goOn_at, augK1_at, augK2_at, augK3_at, asgIxK_at, asgIxK2_at, asgIxK3_at, blK_at, nbK_at, opK_at, cmpK_at, cmpK2_at, chK_at, chK2_at, chK3_t, chK3_f, notK_at, andK_at, andK2_t, andK2_f, orK_at, orK2_t, orK2_f, ifK_at, ifK2_t, ifK2_f, tupK_at, lstK_at, ixK_at, slK_at, slK2_at, mtK_at, mtK2_at, isiK_at, consK_at, consK2_at, csK_at, csK2_t, csK2_f, someK_at, eltK_t, eltK_f, oneK_at, oneL_at, seqK_at, iteK_t, iteK_f, retK_at, noexR_ok, negM, intM, ↓msB_at, ↓msS_at, msB_ok, msB_ex, msS_msS, msS_nx, msS_rt, msS_ex, msS_bk, msS_ct, truthy, ↓bnd_at, bndR_ok, bndR_ex, of_some, ret_at, binop, iopM, ↓need_at, bindT, bindTs, indexM, setIxM, cmpM, eqM, inM, biM, lenM, listM, tupleM, get_at, put_at, new_at, ↓isi_cons_at, isi_nil_at, isiR_t, isiR_f, isTy, mtM, mtPre, appendM, upperM, isLst, isStr, itM, seq1, seqM, rng1, rng2, D.isNon, D.flat, D.flats, D.deep, D.deeps, D.eqv, D.eqvs, Nat.zero_le, Nat.max_self, and_self, lt0, lt1, lt2, lt3, atI0, atI1, atI2, atI3, ixN0, ixN1, ixN2, ixN3, getc0, getc1, getc2, getc3, getc4, getc5, getc6, getc7, getc8, setc0, setc1, setc2, setc3, setc4, setc5, setc6, setc7, setc8, id, Option.join_some, Option.join, Option.bind, Option.map, List.map_cons, List.map_nil, List.length_map, List.length_cons, List.length_nil, List.getElem?_cons_zero, List.getElem?_cons_succ, List.set_cons_zero, List.set_cons_succ, Nat.zero_add, List.append_nil, List.nil_append, List.cons_append, Int.reducePow, Int.reduceToNat, Int.zero_add, Int.cast_ofNat_Int, decide_true, decide_false, Bool.not_true, Bool.not_false, Bool.and_self, Bool.true_and, Bool.false_and, Bool.and_true, Nat.zero_max, Nat.max_zero, if_true, if_false, ite_true, ite_false, reduceIte, reduceCtorEq, Bool.false_eq_true, Bool.true_eq_false, or_true, true_or, and_true, true_and, or_false, false_or, Nat.reduceLT, Nat.reduceAdd, Nat.reduceLeDiff, Int.reduceLT, Int.reduceLE, Int.reduceAdd, Nat.zero_lt_succ, beq_self_eq_true, decide_eq_true_eq, hz, hpow, hi, h5, hl]
      refine wp_for (P := fun j ρ S => ∃ (l : List Int) (q : Option D), (∀ x ∈ l, 0 ≤ x) ∧ l.length ≤ 60 * k + 1 + j ∧ ρ = [some (.fzl (ns.map .int)), some (.loc 0), some (.int i), r, q] ∧ S = [.lst (l.map .int)]) (B := fun _ _ => False) ⟨l ++ [i % 1000000], q, ?_, by simp; omega, rfl, by simp⟩ (by intros; rfl) ?_ ?_
      · intro x hx
        rcases List.mem_append.1 hx with hx | hx
        · exact h1 x hx
        · rw [List.mem_singleton.1 hx]
          exact Int.emod_nonneg _ (by decide)
      · rintro j x ρ S hx ⟨l, q, h1, h2, rfl, rfl⟩
        obtain ⟨hj, rfl⟩ := rangeD_at hx
        have h5' : (5 : Int).toNat = 5 := rfl
        have hl : l.length < szl := hP l 0 (by omega)
        refine ⟨[some (.fzl (ns.map .int)), some (.loc 0), some (.int i), r, some (.int (0 + (j : Int)))], rfl, ?_⟩
        simp only [↓for_at, forS_at, lcS_at, ↓ev_non_at, ↓ev_bl_at, ↓ev_int_at, ↓ev_str_at, ↓ev_var_at, ↓ev_glob_at, ↓ev_op_at, ↓ev_neg_at, ↓ev_cmp_at, ↓ev_chain_at, ↓ev_not_at, ↓ev_and_at, ↓ev_or_at, ↓ev_ite_at, ↓ev_tup_at, ↓ev_lst_at, ↓ev_ix_at, ↓ev_slice_at, ↓ev_call_at, ↓ev_bi_at, ↓ev_mt_at, ↓ev_isi_at, ↓ev_lc_at, ↓evs_nil_at, ↓evs_cons_at, ↓evo_none_at, ↓evo_some_at, ↓evc_nil_at, ↓evc_cons_at, ↓ex_asg_at, ↓ex_asgIx_at, ↓ex_aug_at, ↓ex_expr_at, ↓ex_ite_at, ↓ex_ret_at, ↓ex_retN_at, ↓ex_raise_at, ↓ex_brk_at, ↓ex_cont_at, ↓ex_pass_at, ↓ex_while_at, ↓exs_nil_at, ↓exs_cons_at, asgK_at, asgR_ok, goOn_at, augK1_at, augK2_at, augK3_at, asgIxK_at, asgIxK2_at, asgIxK3_at, blK_at, nbK_at, opK_at, cmpK_at, cmpK2_at, chK_at, chK2_at, chK3_t, chK3_f, notK_at, andK_at, andK2_t, andK2_f, orK_at, orK2_t, orK2_f, ifK_at, ifK2_t, ifK2_f, tupK_at, lstK_at, ixK_at, slK_at, slK2_at, mtK_at, mtK2_at, isiK_at, consK_at, consK2_at, csK_at, csK2_t, csK2_f, someK_at, eltK_t, eltK_f, oneK_at, oneL_at, seqK_at, iteK_t, iteK_f, retK_at, noexR_ok, negM, intM, ↓msB_at, ↓msS_at, msB_ok, msB_ex, msS_msS, msS_nx, msS_rt, msS_ex, msS_bk, msS_ct, truthy, ↓bnd_at, bndR_ok, bndR_ex, of_some, ret_at, binop, iopM, ↓need_at, bindT, bindTs, indexM, setIxM, cmpM, eqM, inM, biM, lenM, listM, tupleM, get_at, put_at, new_at, ↓isi_cons_at, isi_nil_at, isiR_t, isiR_f, isTy, mtM, mtPre, appendM, upperM, isLst, isStr, itM, seq1, seqM, rng1, rng2, D.isNon, D.flat, D.flats, D.deep, D.deeps, D.eqv, D.eqvs, Nat.zero_le, Nat.max_self, and_self, lt0, lt1, lt2, lt3, atI0, atI1, atI2, atI3, ixN0, ixN1, ixN2, ixN3, getc0, getc1, getc2, getc3, getc4, getc5, getc6, getc7, getc8, setc0, setc1, setc2, setc3, setc4, setc5, setc6, setc7, setc8, id, Option.join_some, Option.join, Option.bind, Option.map, List.map_cons, List.map_nil, List.length_map, List.length_cons, List.length_nil, List.getElem?_cons_zero, List.getElem?_cons_succ, List.set_cons_zero, List.set_cons_succ, Nat.zero_add, List.append_nil, List.nil_append, List.cons_append, Int.reducePow, Int.reduceToNat, Int.zero_add, Int.cast_ofNat_Int, decide_true, decide_false, Bool.not_true, Bool.not_false, Bool.and_self, Bool.true_and, Bool.false_and, Bool.and_true, Nat.zero_max, Nat.max_zero, if_true, if_false, ite_true, ite_false, reduceIte, reduceCtorEq, Bool.false_eq_true, Bool.true_eq_false, or_true, true_or, and_true, true_and, or_false, false_or, Nat.reduceLT, Nat.reduceAdd, Nat.reduceLeDiff, Int.reduceLT, Int.reduceLE, Int.reduceAdd, Nat.zero_lt_succ, beq_self_eq_true, decide_eq_true_eq, hl, hM, wp_some, turn_nx]
        refine ⟨l ++ [mix (mix (i % 2147483647) j) (j + 7) % 1000000], _, ?_, ?_, rfl, ?_⟩
        · intro x hx
          rcases List.mem_append.1 hx with hx | hx
          · exact h1 x hx
          · rw [List.mem_singleton.1 hx]
            exact Int.emod_nonneg _ (by decide)
        · simp
          omega
        · simp
      · rintro ρ S (⟨⟨⟩⟩ | ⟨l, q, h1, h2, rfl, rfl⟩)
        have h5' : (5 : Int).toNat = 5 := rfl
        rw [rangeD_len] at h2
        simp only [↓for_at, forS_at, lcS_at, ↓ev_non_at, ↓ev_bl_at, ↓ev_int_at, ↓ev_str_at, ↓ev_var_at, ↓ev_glob_at, ↓ev_op_at, ↓ev_neg_at, ↓ev_cmp_at, ↓ev_chain_at, ↓ev_not_at, ↓ev_and_at, ↓ev_or_at, ↓ev_ite_at, ↓ev_tup_at, ↓ev_lst_at, ↓ev_ix_at, ↓ev_slice_at, ↓ev_call_at, ↓ev_bi_at, ↓ev_mt_at, ↓ev_isi_at, ↓ev_lc_at, ↓evs_nil_at, ↓evs_cons_at, ↓evo_none_at, ↓evo_some_at, ↓evc_nil_at, ↓evc_cons_at, ↓ex_asg_at, ↓ex_asgIx_at, ↓ex_aug_at, ↓ex_expr_at, ↓ex_ite_at, ↓ex_ret_at, ↓ex_retN_at, ↓ex_raise_at, ↓ex_brk_at, ↓ex_cont_at, ↓ex_pass_at, ↓ex_while_at, ↓exs_nil_at, ↓exs_cons_at, asgK_at, asgR_ok, goOn_at, augK1_at, augK2_at, augK3_at, asgIxK_at, asgIxK2_at, asgIxK3_at, blK_at, nbK_at, opK_at, cmpK_at, cmpK2_at, chK_at, chK2_at, chK3_t, chK3_f, notK_at, andK_at, andK2_t, andK2_f, orK_at, orK2_t, orK2_f, ifK_at, ifK2_t, ifK2_f, tupK_at, lstK_at, ixK_at, slK_at, slK2_at, mtK_at, mtK2_at, isiK_at, consK_at, consK2_at, csK_at, csK2_t, csK2_f, someK_at, eltK_t, eltK_f, oneK_at, oneL_at, seqK_at, iteK_t, iteK_f, retK_at, noexR_ok, negM, intM, ↓msB_at, ↓msS_at, msB_ok, msB_ex, msS_msS, msS_nx, msS_rt, msS_ex, msS_bk, msS_ct, truthy, ↓bnd_at, bndR_ok, bndR_ex, of_some, ret_at, binop, iopM, ↓need_at, bindT, bindTs, indexM, setIxM, cmpM, eqM, inM, biM, lenM, listM, tupleM, get_at, put_at, new_at, ↓isi_cons_at, isi_nil_at, isiR_t, isiR_f, isTy, mtM, mtPre, appendM, upperM, isLst, isStr, itM, seq1, seqM, rng1, rng2, D.isNon, D.flat, D.flats, D.deep, D.deeps, D.eqv, D.eqvs, Nat.zero_le, Nat.max_self, and_self, lt0, lt1, lt2, lt3, atI0, atI1, atI2, atI3, ixN0, ixN1, ixN2, ixN3, getc0, getc1, getc2, getc3, getc4, getc5, getc6, getc7, getc8, setc0, setc1, setc2, setc3, setc4, setc5, setc6, setc7, setc8, id, Option.join_some, Option.join, Option.bind, Option.map, List.map_cons, List.map_nil, List.length_map, List.length_cons, List.length_nil, List.getElem?_cons_zero, List.getElem?_cons_succ, List.set_cons_zero, List.set_cons_succ, Nat.zero_add, List.append_nil, List.nil_append, List.cons_append, Int.reducePow, Int.reduceToNat, Int.zero_add, Int.cast_ofNat_Int, decide_true, decide_false, Bool.not_true, Bool.not_false, Bool.and_self, Bool.true_and, Bool.false_and, Bool.and_true, Nat.zero_max, Nat.max_zero, if_true, if_false, ite_true, ite_false, reduceIte, reduceCtorEq, Bool.false_eq_true, Bool.true_eq_false, or_true, true_or, and_true, true_and, or_false, false_or, Nat.reduceLT, Nat.reduceAdd, Nat.reduceLeDiff, Int.reduceLT, Int.reduceLE, Int.reduceAdd, Nat.zero_lt_succ, beq_self_eq_true, decide_eq_true_eq, wp_some, turn_nx]
        exact ⟨l, _, _, _, h1, by omega, rfl, rfl⟩
  · rintro ρ S (⟨⟨⟩⟩ | ⟨l, c, r, q, h1, h2, rfl, rfl⟩)
    simp only [↓for_at, forS_at, lcS_at, ↓ev_non_at, ↓ev_bl_at, ↓ev_int_at, ↓ev_str_at, ↓ev_var_at, ↓ev_glob_at, ↓ev_op_at, ↓ev_neg_at, ↓ev_cmp_at, ↓ev_chain_at, ↓ev_not_at, ↓ev_and_at, ↓ev_or_at, ↓ev_ite_at, ↓ev_tup_at, ↓ev_lst_at, ↓ev_ix_at, ↓ev_slice_at, ↓ev_call_at, ↓ev_bi_at, ↓ev_mt_at, ↓ev_isi_at, ↓ev_lc_at, ↓evs_nil_at, ↓evs_cons_at, ↓evo_none_at, ↓evo_some_at, ↓evc_nil_at, ↓evc_cons_at, ↓ex_asg_at, ↓ex_asgIx_at, ↓ex_aug_at, ↓ex_expr_at, ↓ex_ite_at, ↓ex_ret_at, ↓ex_retN_at, ↓ex_raise_at, ↓ex_brk_at, ↓ex_cont_at, ↓ex_pass_at, ↓ex_while_at, ↓exs_nil_at, ↓exs_cons_at, asgK_at, asgR_ok, goOn_at, augK1_at, augK2_at, augK3_at, asgIxK_at, asgIxK2_at, asgIxK3_at, blK_at, nbK_at, opK_at, cmpK_at, cmpK2_at, chK_at, chK2_at, chK3_t, chK3_f, notK_at, andK_at, andK2_t, andK2_f, orK_at, orK2_t, orK2_f, ifK_at, ifK2_t, ifK2_f, tupK_at, lstK_at, ixK_at, slK_at, slK2_at, mtK_at, mtK2_at, isiK_at, consK_at, consK2_at, csK_at, csK2_t, csK2_f, someK_at, eltK_t, eltK_f, oneK_at, oneL_at, seqK_at, iteK_t, iteK_f, retK_at, noexR_ok, negM, intM, ↓msB_at, ↓msS_at, msB_ok, msB_ex, msS_msS, msS_nx, msS_rt, msS_ex, msS_bk, msS_ct, truthy, ↓bnd_at, bndR_ok, bndR_ex, of_some, ret_at, binop, iopM, ↓need_at, bindT, bindTs, indexM, setIxM, cmpM, eqM, inM, biM, lenM, listM, tupleM, get_at, put_at, new_at, ↓isi_cons_at, isi_nil_at, isiR_t, isiR_f, isTy, mtM, mtPre, appendM, upperM, isLst, isStr, itM, seq1, seqM, rng1, rng2, D.isNon, D.flat, D.flats, D.deep, D.deeps, D.eqv, D.eqvs, Nat.zero_le, Nat.max_self, and_self, lt0, lt1, lt2, lt3, atI0, atI1, atI2, atI3, ixN0, ixN1, ixN2, ixN3, getc0, getc1, getc2, getc3, getc4, getc5, getc6, getc7, getc8, setc0, setc1, setc2, setc3, setc4, setc5, setc6, setc7, setc8, id, Option.join_some, Option.join, Option.bind, Option.map, List.map_cons, List.map_nil, List.length_map, List.length_cons, List.length_nil, List.getElem?_cons_zero, List.getElem?_cons_succ, List.set_cons_zero, List.set_cons_succ, Nat.zero_add, List.append_nil, List.nil_append, List.cons_append, Int.reducePow, Int.reduceToNat, Int.zero_add, Int.cast_ofNat_Int, decide_true, decide_false, Bool.not_true, Bool.not_false, Bool.and_self, Bool.true_and, Bool.false_and, Bool.and_true, Nat.zero_max, Nat.max_zero, if_true, if_false, ite_true, ite_false, reduceIte, reduceCtorEq, Bool.false_eq_true, Bool.true_eq_false, or_true, true_or, and_true, true_and, or_false, false_or, Nat.reduceLT, Nat.reduceAdd, Nat.reduceLeDiff, Int.reduceLT, Int.reduceLE, Int.reduceAdd, Nat.zero_lt_succ, beq_self_eq_true, decide_eq_true_eq, wp_some]
    exact ⟨l, h1, gc_new _ _ _ rfl⟩

/-! ### the law's own == of truth values, numbers, texts -/
theorem equal_bl (cl : Cl) (a b : Bool) (S : Store) : callB cl f__law_equal [.bl a, .bl b] S = some (.ok (.bl (a == b)), S) := by
  rw [callB_of _ _ _ _ rfl (by decide)]
  show fin S (exSs cl f__law_equal.body [some (.bl a), some (.bl b)] S) = _
  cases a <;> cases b <;> simp only [f__law_equal, ↓for_at, forS_at, lcS_at, ↓ev_non_at, ↓ev_bl_at, ↓ev_int_at, ↓ev_str_at, ↓ev_var_at, ↓ev_glob_at, ↓ev_op_at, ↓ev_neg_at, ↓ev_cmp_at, ↓ev_chain_at, ↓ev_not_at, ↓ev_and_at, ↓ev_or_at, ↓ev_ite_at, ↓ev_tup_at, ↓ev_lst_at, ↓ev_ix_at, ↓ev_slice_at, ↓ev_call_at, ↓ev_bi_at, ↓ev_mt_at, ↓ev_isi_at, ↓ev_lc_at, ↓evs_nil_at, ↓evs_cons_at, ↓evo_none_at, ↓evo_some_at, ↓evc_nil_at, ↓evc_cons_at, ↓ex_asg_at, ↓ex_asgIx_at, ↓ex_aug_at, ↓ex_expr_at, ↓ex_ite_at, ↓ex_ret_at, ↓ex_retN_at, ↓ex_raise_at, ↓ex_brk_at, ↓ex_cont_at, ↓ex_pass_at, ↓ex_while_at, ↓exs_nil_at, ↓exs_cons_at, asgK_at, asgR_ok, goOn_at, augK1_at, augK2_at, augK3_at, asgIxK_at, asgIxK2_at, asgIxK3_at, blK_at, nbK_at, opK_at, cmpK_at, cmpK2_at, chK_at, chK2_at, chK3_t, chK3_f, notK_at, andK_at, andK2_t, andK2_f, orK_at, orK2_t, orK2_f, ifK_at, ifK2_t, ifK2_f, tupK_at, lstK_at, ixK_at, slK_at, slK2_at, mtK_at, mtK2_at, isiK_at, consK_at, consK2_at, csK_at, csK2_t, csK2_f, someK_at, eltK_t, eltK_f, oneK_at, oneL_at, seqK_at, iteK_t, iteK_f, retK_at, noexR_ok, negM, intM, ↓msB_at, ↓msS_at, msB_ok, msB_ex, msS_msS, msS_nx, msS_rt, msS_ex, msS_bk, msS_ct, truthy, ↓bnd_at, bndR_ok, bndR_ex, of_some, ret_at, binop, iopM, ↓need_at, bindT, bindTs, indexM, setIxM, cmpM, eqM, inM, biM, lenM, listM, tupleM, get_at, put_at, new_at, ↓isi_cons_at, isi_nil_at, isiR_t, isiR_f, isTy, mtM, mtPre, appendM, upperM, isLst, isStr, itM, seq1, seqM, rng1, rng2, D.isNon, D.flat, D.flats, D.deep, D.deeps, D.eqv, D.eqvs, Nat.zero_le, Nat.max_self, and_self, lt0, lt1, lt2, lt3, atI0, atI1, atI2, atI3, ixN0, ixN1, ixN2, ixN3, getc0, getc1, getc2, getc3, getc4, getc5, getc6, getc7, getc8, setc0, setc1, setc2, setc3, setc4, setc5, setc6, setc7, setc8, id, Option.join_some, Option.join, Option.bind, Option.map, List.map_cons, List.map_nil, List.length_map, List.length_cons, List.length_nil, List.getElem?_cons_zero, List.getElem?_cons_succ, List.set_cons_zero, List.set_cons_succ, Nat.zero_add, List.append_nil, List.nil_append, List.cons_append, Int.reducePow, Int.reduceToNat, Int.zero_add, Int.cast_ofNat_Int, decide_true, decide_false, Bool.not_true, Bool.not_false, Bool.and_self, Bool.true_and, Bool.false_and, Bool.and_true, Nat.zero_max, Nat.max_zero, if_true, if_false, ite_true, ite_false, reduceIte, reduceCtorEq, Bool.false_eq_true, Bool.true_eq_false, or_true, true_or, and_true, true_and, or_false, false_or, Nat.reduceLT, Nat.reduceAdd, Nat.reduceLeDiff, Int.reduceLT, Int.reduceLE, Int.reduceAdd, Nat.zero_lt_succ, beq_self_eq_true, decide_eq_true_eq, fin, gc_self] <;> rfl
theorem equal_int (cl : Cl) (a b : Int) (S : Store) : callB cl f__law_equal [.int a, .int b] S = some (.ok (.bl (decide (a = b))), S) := by
  rw [callB_of _ _ _ _ rfl (by decide)]
  show fin S (exSs cl f__law_equal.body [some (.int a), some (.int b)] S) = _
  simp only [f__law_equal, ↓for_at, forS_at, lcS_at, ↓ev_non_at, ↓ev_bl_at, ↓ev_int_at, ↓ev_str_at, ↓ev_var_at, ↓ev_glob_at, ↓ev_op_at, ↓ev_neg_at, ↓ev_cmp_at, ↓ev_chain_at, ↓ev_not_at, ↓ev_and_at, ↓ev_or_at, ↓ev_ite_at, ↓ev_tup_at, ↓ev_lst_at, ↓ev_ix_at, ↓ev_slice_at, ↓ev_call_at, ↓ev_bi_at, ↓ev_mt_at, ↓ev_isi_at, ↓ev_lc_at, ↓evs_nil_at, ↓evs_cons_at, ↓evo_none_at, ↓evo_some_at, ↓evc_nil_at, ↓evc_cons_at, ↓ex_asg_at, ↓ex_asgIx_at, ↓ex_aug_at, ↓ex_expr_at, ↓ex_ite_at, ↓ex_ret_at, ↓ex_retN_at, ↓ex_raise_at, ↓ex_brk_at, ↓ex_cont_at, ↓ex_pass_at, ↓ex_while_at, ↓exs_nil_at, ↓exs_cons_at, asgK_at, asgR_ok, goOn_at, augK1_at, augK2_at, augK3_at, asgIxK_at, asgIxK2_at, asgIxK3_at, blK_at, nbK_at, opK_at, cmpK_at, cmpK2_at, chK_at, chK2_at, chK3_t, chK3_f, notK_at, andK_at, andK2_t, andK2_f, orK_at, orK2_t, orK2_f, ifK_at, ifK2_t, ifK2_f, tupK_at, lstK_at, ixK_at, slK_at, slK2_at, mtK_at, mtK2_at, isiK_at, consK_at, consK2_at, csK_at, csK2_t, csK2_f, someK_at, eltK_t, eltK_f, oneK_at, oneL_at, seqK_at, iteK_t, iteK_f, retK_at, noexR_ok, negM, intM, ↓msB_at, ↓msS_at, msB_ok, msB_ex, msS_msS, msS_nx, msS_rt, msS_ex, msS_bk, msS_ct, truthy, ↓bnd_at, bndR_ok, bndR_ex, of_some, ret_at, binop, iopM, ↓need_at, bindT, bindTs, indexM, setIxM, cmpM, eqM, inM, biM, lenM, listM, tupleM, get_at, put_at, new_at, ↓isi_cons_at, isi_nil_at, isiR_t, isiR_f, isTy, mtM, mtPre, appendM, upperM, isLst, isStr, itM, seq1, seqM, rng1, rng2, D.isNon, D.flat, D.flats, D.deep, D.deeps, D.eqv, D.eqvs, Nat.zero_le, Nat.max_self, and_self, lt0, lt1, lt2, lt3, atI0, atI1, atI2, atI3, ixN0, ixN1, ixN2, ixN3, getc0, getc1, getc2, getc3, getc4, getc5, getc6, getc7, getc8, setc0, setc1, setc2, setc3, setc4, setc5, setc6, setc7, setc8, id, Option.join_some, Option.join, Option.bind, Option.map, List.map_cons, List.map_nil, List.length_map, List.length_cons, List.length_nil, List.getElem?_cons_zero, List.getElem?_cons_succ, List.set_cons_zero, List.set_cons_succ, Nat.zero_add, List.append_nil, List.nil_append, List.cons_append, Int.reducePow, Int.reduceToNat, Int.zero_add, Int.cast_ofNat_Int, decide_true, decide_false, Bool.not_true, Bool.not_false, Bool.and_self, Bool.true_and, Bool.false_and, Bool.and_true, Nat.zero_max, Nat.max_zero, if_true, if_false, ite_true, ite_false, reduceIte, reduceCtorEq, Bool.false_eq_true, Bool.true_eq_false, or_true, true_or, and_true, true_and, or_false, false_or, Nat.reduceLT, Nat.reduceAdd, Nat.reduceLeDiff, Int.reduceLT, Int.reduceLE, Int.reduceAdd, Nat.zero_lt_succ, beq_self_eq_true, decide_eq_true_eq, fin, gc_self]
theorem equal_str (cl : Cl) (a b : Tx) (S : Store) : callB cl f__law_equal [.str a, .str b] S = some (.ok (.bl (decide (a = b))), S) := by
  rw [callB_of _ _ _ _ rfl (by decide)]
  show fin S (exSs cl f__law_equal.body [some (.str a), some (.str b)] S) = _
  simp only [f__law_equal, ↓for_at, forS_at, lcS_at, ↓ev_non_at, ↓ev_bl_at, ↓ev_int_at, ↓ev_str_at, ↓ev_var_at, ↓ev_glob_at, ↓ev_op_at, ↓ev_neg_at, ↓ev_cmp_at, ↓ev_chain_at, ↓ev_not_at, ↓ev_and_at, ↓ev_or_at, ↓ev_ite_at, ↓ev_tup_at, ↓ev_lst_at, ↓ev_ix_at, ↓ev_slice_at, ↓ev_call_at, ↓ev_bi_at, ↓ev_mt_at, ↓ev_isi_at, ↓ev_lc_at, ↓evs_nil_at, ↓evs_cons_at, ↓evo_none_at, ↓evo_some_at, ↓evc_nil_at, ↓evc_cons_at, ↓ex_asg_at, ↓ex_asgIx_at, ↓ex_aug_at, ↓ex_expr_at, ↓ex_ite_at, ↓ex_ret_at, ↓ex_retN_at, ↓ex_raise_at, ↓ex_brk_at, ↓ex_cont_at, ↓ex_pass_at, ↓ex_while_at, ↓exs_nil_at, ↓exs_cons_at, asgK_at, asgR_ok, goOn_at, augK1_at, augK2_at, augK3_at, asgIxK_at, asgIxK2_at, asgIxK3_at, blK_at, nbK_at, opK_at, cmpK_at, cmpK2_at, chK_at, chK2_at, chK3_t, chK3_f, notK_at, andK_at, andK2_t, andK2_f, orK_at, orK2_t, orK2_f, ifK_at, ifK2_t, ifK2_f, tupK_at, lstK_at, ixK_at, slK_at, slK2_at, mtK_at, mtK2_at, isiK_at, consK_at, consK2_at, csK_at, csK2_t, csK2_f, someK_at, eltK_t, eltK_f, oneK_at, oneL_at, seqK_at, iteK_t, iteK_f, retK_at, noexR_ok, negM, intM, ↓msB_at, ↓msS_at, msB_ok, msB_ex, msS_msS, msS_nx, msS_rt, msS_ex, msS_bk, msS_ct, truthy, ↓bnd_at, bndR_ok, bndR_ex, of_some, ret_at, binop, iopM, ↓need_at, bindT, bindTs, indexM, setIxM, cmpM, eqM, inM, biM, lenM, listM, tupleM, get_at, put_at, new_at, ↓isi_cons_at, isi_nil_at, isiR_t, isiR_f, isTy, mtM, mtPre, appendM, upperM, isLst, isStr, itM, seq1, seqM, rng1, rng2, D.isNon, D.flat, D.flats, D.deep, D.deeps, D.eqv, D.eqvs, Nat.zero_le, Nat.max_self, and_self, lt0, lt1, lt2, lt3, atI0, atI1, atI2, atI3, ixN0, ixN1, ixN2, ixN3, getc0, getc1, getc2, getc3, getc4, getc5, getc6, getc7, getc8, setc0, setc1, setc2, setc3, setc4, setc5, setc6, setc7, setc8, id, Option.join_some, Option.join, Option.bind, Option.map, List.map_cons, List.map_nil, List.length_map, List.length_cons, List.length_nil, List.getElem?_cons_zero, List.getElem?_cons_succ, List.set_cons_zero, List.set_cons_succ, Nat.zero_add, List.append_nil, List.nil_append, List.cons_append, Int.reducePow, Int.reduceToNat, Int.zero_add, Int.cast_ofNat_Int, decide_true, decide_false, Bool.not_true, Bool.not_false, Bool.and_self, Bool.true_and, Bool.false_and, Bool.and_true, Nat.zero_max, Nat.max_zero, if_true, if_false, ite_true, ite_false, reduceIte, reduceCtorEq, Bool.false_eq_true, Bool.true_eq_false, or_true, true_or, and_true, true_and, or_false, false_or, Nat.reduceLT, Nat.reduceAdd, Nat.reduceLeDiff, Int.reduceLT, Int.reduceLE, Int.reduceAdd, Nat.zero_lt_succ, beq_self_eq_true, decide_eq_true_eq, fin, gc_self]

/-! ### a for over a list that stands written -/
def forR (t : Tg) (g : List (Nat × Cell)) (b : Env → MS) (xs : List D) : Option (Ctl × Store) → Option (Ctl × Store)
  | some (.nx ρ2, S2) => forL t g b xs ρ2 S2
  | some (.ct ρ2, S2) => forL t g b xs ρ2 S2
  | some (.bk ρ2, S2) => some (.nx ρ2, S2)
  | r => r
def forT (t : Tg) (g : List (Nat × Cell)) (b : Env → MS) (xs : List D) (S : Store) : Option Env → Option (Ctl × Store)
  | none => none
  | some ρ => forR t g b xs (b ρ S)
theorem forT_some (t : Tg) (g : List (Nat × Cell)) (b : Env → MS) (xs : List D) (S : Store) (ρ : Env) : forT t g b xs S (some ρ) = forR t g b xs (b ρ S) := rfl
theorem forR_nx (t : Tg) (g : List (Nat × Cell)) (b : Env → MS) (xs : List D) (S : Store) (ρ : Env) : forR t g b xs (some (.nx ρ, S)) = forL t g b xs ρ S := rfl
theorem forR_ct (t : Tg) (g : List (Nat × Cell)) (b : Env → MS) (xs : List D) (S : Store) (ρ : Env) : forR t g b xs (some (.ct ρ, S)) = forL t g b xs ρ S := rfl
theorem forR_bk (t : Tg) (g : List (Nat × Cell)) (b : Env → MS) (xs : List D) (S : Store) (ρ : Env) : forR t g b xs (some (.bk ρ, S)) = some (.nx ρ, S) := rfl
theorem forR_rt (t : Tg) (g : List (Nat × Cell)) (b : Env → MS) (xs : List D) (S : Store) (d : D) : forR t g b xs (some (.rt d, S)) = some (.rt d, S) := rfl
theorem forR_ex (t : Tg) (g : List (Nat × Cell)) (b : Env → MS) (xs : List D) (S : Store) (c : String) (ρ : Env) : forR t g b xs (some (.ex c ρ, S)) = some (.ex c ρ, S) := rfl
theorem forL_nil (t : Tg) (g : List (Nat × Cell)) (b : Env → MS) (ρ : Env) (S : Store) : forL t g b [] ρ S = if stays S g = true then some (.nx ρ, S) else none := by rw [forL]
theorem forL_cons (t : Tg) (g : List (Nat × Cell)) (b : Env → MS) (x : D) (xs : List D) (ρ : Env) (S : Store) :
    forL t g b (x :: xs) ρ S = if stays S g = true then forT t g b xs S (bindT t x ρ) else none := by
  by_cases h : stays S g = true
  · cases e : bindT t x ρ with
    | none => simp [forL, h, e, forT]
    | some ρ' =>
      cases e2 : b ρ' S with
      | none => simp [forL, h, e, forT, e2, forR]
      | some p => obtain ⟨c, S2⟩ := p; cases c <;> simp [forL, h, e, forT, e2, forR]
  · simp [forL, h]

/-! ### comprehensions and indices -/
theorem get_last (S : Store) (c : Cell) : (S ++ [c])[S.length]? = some c := by simp
theorem compL_pure {g : List (Nat × Cell)} {one : D → M (Option D)} (f : D → Option D) (S : Store) (hg : stays S g = true) :
    ∀ (xs acc : List D), (∀ x ∈ xs, one x S = some (.ok (f x), S)) → acc.length + xs.length ≤ szl → compL g one xs acc S = some (.ok (acc ++ xs.filterMap f), S)
  | [], acc, _, _ => by simp [compL, hg]
  | x :: xs, acc, h, hl => by
    have h1 := h x (by simp)
    simp only [List.length_cons] at hl
    have h2 : ∀ y ∈ xs, one y S = some (.ok (f y), S) := fun y hy => h y (by simp [hy])
    rw [compL]
    simp only [hg, if_true, h1]
    cases e : f x with
    | none =>
      have := compL_pure f S hg xs acc h2 (by omega)
      simp [this, e]
    | some y =>
      have := compL_pure f S hg xs (acc ++ [y]) h2 (by simp; omega)
      have ha : acc.length < szl := by omega
      simp [this, e, ha]
theorem atI_mem {α : Type} {xs : List α} {i : Int} (h0 : 0 ≤ i) (h1 : i < xs.length) : ∃ d, atI xs i = some d ∧ d ∈ xs := by
  obtain ⟨k, rfl⟩ := Int.eq_ofNat_of_zero_le h0
  have hk : k < xs.length := by omega
  refine ⟨xs[k], ?_, List.getElem_mem hk⟩
  show atI xs (k : Int) = _
  rw [atI_nat, List.getElem?_eq_getElem hk]

end Mi

set_option Elab.async false
set_option maxRecDepth 100000
namespace Mi

/-- is_name: 0 text, 1 sign -/
def f_is_name : Fn :=
  ⟨1, 2,
  [.ite (.or (.not (.isi (.var 0) [.str])) (.not (.chain .le .le (.int 1) (.bi .len [.var 0]) (.glob "LONGEST"))))
    [.ret (.bl false)]
    [],
   .ite (.or (.cmp .nin (.ix (.var 0) (.int 0)) (.glob "LETTERS")) (.cmp .inn (.var 0) (.glob "WORDS")))
    [.ret (.bl false)]
    [],
   .for (.nm 1) 0 [.var 0]
    [.ite (.and (.cmp .nin (.var 1) (.glob "LETTERS")) (.cmp .nin (.var 1) (.glob "FIGURES")))
      [.ret (.bl false)]
      []],
   .ret (.bl true)]⟩
/-- _law_is_name: 0 _law_word_here, 1 _law_sign -/
def f__law_is_name : Fn :=
  ⟨1, 2,
  [.ite (.or (.cmp .lt (.bi .len [.var 0]) (.int 1)) (.or (.cmp .gt (.bi .len [.var 0]) (.int 12)) (.cmp .nin (.ix (.var 0) (.int 0)) (.str [97, 98, 99, 100, 101, 102, 103, 104, 105, 106, 107, 108, 109, 110, 111, 112, 113, 114, 115, 116, 117, 118, 119, 120, 121, 122]))))
    [.ret (.bl false)]
    [],
   .ite (.cmp .inn (.var 0) (.lst [.str [97, 110, 100], .str [111, 114], .str [110, 111, 116], .str [115, 111, 109, 101], .str [97, 108, 108], .str [108, 102, 112], .str [112, 102, 112], .str [116, 99], .str [103, 117, 101, 115, 115], .str [116, 114, 117, 101], .str [102, 97, 108, 115, 101]]))
    [.ret (.bl false)]
    [],
   .ret (.cmp .eq (.bi .len [.lc (.var 1) (.nm 1) 0 [.var 0] [.cmp .nin (.var 1) (.str [97, 98, 99, 100, 101, 102, 103, 104, 105, 106, 107, 108, 109, 110, 111, 112, 113, 114, 115, 116, 117, 118, 119, 120, 121, 122, 48, 49, 50, 51, 52, 53, 54, 55, 56, 57])] [1]]) (.int 0))]⟩
/-- _law_word: 0 _law_draws, 1 _law_pick, 2 _law_word_here, 3 _law_k, 4 _law_signs -/
def f__law_word : Fn :=
  ⟨1, 5,
  [.asg (.nm 1) (.op .mod (.call "_law_draw" [.var 0]) (.int 4)),
   .ite (.cmp .eq (.var 1) (.int 0))
    [.asg (.nm 2) (.ix (.lst [.str [97, 110, 100], .str [111, 114], .str [110, 111, 116], .str [115, 111, 109, 101], .str [97, 108, 108], .str [108, 102, 112], .str [112, 102, 112], .str [116, 99], .str [103, 117, 101, 115, 115], .str [116, 114, 117, 101], .str [102, 97, 108, 115, 101]]) (.op .mod (.call "_law_draw" [.var 0]) (.int 11))),
     .ret (.ix (.lst [.var 2, .var 2, .op .add (.var 2) (.str [48]), .op .add (.str [97]) (.var 2), .op .add (.var 2) (.str [115]), .mt .upper (.var 2) []]) (.op .mod (.call "_law_draw" [.var 0]) (.int 6)))]
    [],
   .asg (.nm 2) (.str []),
   .for (.nm 3) 1 [.op .mod (.call "_law_draw" [.var 0]) (.int 15)]
    [.asg (.nm 4) (.str [97, 98, 99, 120, 121, 122, 48, 49, 57]),
     .ite (.cmp .eq (.op .mod (.call "_law_draw" [.var 0]) (.int 16)) (.int 0))
      [.asg (.nm 4) (.str [65, 90, 95, 32, 45, 46, 10, 9, 40, 44, 59])]
      [],
     .asg (.nm 2) (.op .add (.var 2) (.ix (.var 4) (.op .mod (.call "_law_draw" [.var 0]) (.bi .len [.var 4]))))],
   .ret (.var 2)]⟩
/-- law: 0 _law_script, 1 _law_draws, 2 _law_turn, 3 _law_word_here, 4 _law_bad -/
def f_law : Fn :=
  ⟨1, 5,
  [.asg (.nm 1) (.lst [.call "_law_numbers" [.var 0], .int 0]),
   .for (.nm 2) 1 [.int 8]
    [.asg (.nm 3) (.call "_law_word" [.var 1]),
     .ite (.not (.call "_law_equal" [.call "is_name" [.var 3], .call "_law_is_name" [.var 3]]))
      [.ret (.bl false)]
      []],
   .for (.nm 4) 0 [.lst [.non, .int 5, .tup [.str [97]], .lst [.str [97]], .bl true]]
    [.ite (.not (.call "_law_equal" [.call "is_name" [.var 4], .bl false]))
      [.ret (.bl false)]
      []],
   .ret (.bl true)]⟩
def prog : Prog :=
  ⟨[("is_name", f_is_name),
    ("_law_mixed", f__law_mixed),
    ("_law_numbers", f__law_numbers),
    ("_law_draw", f__law_draw),
    ("_law_equal", f__law_equal),
    ("_law_all_equal", f__law_all_equal),
    ("_law_is_name", f__law_is_name),
    ("_law_word", f__law_word),
    ("law", f_law)],
   [("FIGURES", .str [48, 49, 50, 51, 52, 53, 54, 55, 56, 57]),
    ("LETTERS", .str [97, 98, 99, 100, 101, 102, 103, 104, 105, 106, 107, 108, 109, 110, 111, 112, 113, 114, 115, 116, 117, 118, 119, 120, 121, 122]),
    ("LONGEST", .int 12),
    ("WORDS", .tup [.str [97, 110, 100], .str [111, 114], .str [110, 111, 116], .str [115, 111, 109, 101], .str [97, 108, 108], .str [108, 102, 112], .str [112, 102, 112], .str [116, 99], .str [103, 117, 101, 115, 115], .str [116, 114, 117, 101], .str [102, 97, 108, 115, 101]])]⟩
def pk : Pk := ⟨["is_name", "_law_mixed", "_law_numbers", "_law_draw", "_law_equal", "_law_all_equal", "_law_is_name", "_law_word", "law"],
  ["bool", "int", "isinstance", "len", "list", "range", "str", "tuple"],
  ["FIGURES", "LETTERS", "LONGEST", "WORDS"]⟩
def top (i : Nat) : PySem.Stmt := PySem.Challenge.pw_sayso_k06_names_are_tested.main.body.getD i (.Pass ⟨0, 0, 0, 0⟩)
abbrev n_is_name : List PySem.Str := [PySem.Str.ofString "text", PySem.Str.ofString "sign"]
abbrev p_is_name : List PySem.Str := [PySem.Str.ofString "text"]
theorem q_is_name : chkFn pk (top 5) n_is_name p_is_name f_is_name = true := by decide +kernel
abbrev n__law_mixed : List PySem.Str := [PySem.Str.ofString "_law_number", PySem.Str.ofString "_law_k", PySem.Str.ofString "_law_step"]
abbrev p__law_mixed : List PySem.Str := [PySem.Str.ofString "_law_number", PySem.Str.ofString "_law_k"]
theorem q__law_mixed : chkFn pk (top 7) n__law_mixed p__law_mixed f__law_mixed = true := by decide +kernel
abbrev n__law_numbers : List PySem.Str := [PySem.Str.ofString "_law_script", PySem.Str.ofString "_law_numbers_here", PySem.Str.ofString "_law_cell", PySem.Str.ofString "_law_rest", PySem.Str.ofString "_law_k"]
abbrev p__law_numbers : List PySem.Str := [PySem.Str.ofString "_law_script"]
theorem q__law_numbers : chkFn pk (top 8) n__law_numbers p__law_numbers f__law_numbers = true := by decide +kernel
abbrev n__law_draw : List PySem.Str := [PySem.Str.ofString "_law_draws", PySem.Str.ofString "_law_at", PySem.Str.ofString "_law_first"]
abbrev p__law_draw : List PySem.Str := [PySem.Str.ofString "_law_draws"]
theorem q__law_draw : chkFn pk (top 9) n__law_draw p__law_draw f__law_draw = true := by decide +kernel
abbrev n__law_equal : List PySem.Str := [PySem.Str.ofString "_law_actual", PySem.Str.ofString "_law_due"]
abbrev p__law_equal : List PySem.Str := [PySem.Str.ofString "_law_actual", PySem.Str.ofString "_law_due"]
theorem q__law_equal : chkFn pk (top 10) n__law_equal p__law_equal f__law_equal = true := by decide +kernel
abbrev n__law_all_equal : List PySem.Str := [PySem.Str.ofString "_law_actual", PySem.Str.ofString "_law_due", PySem.Str.ofString "_law_k"]
abbrev p__law_all_equal : List PySem.Str := [PySem.Str.ofString "_law_actual", PySem.Str.ofString "_law_due"]
theorem q__law_all_equal : chkFn pk (top 11) n__law_all_equal p__law_all_equal f__law_all_equal = true := by decide +kernel
abbrev n__law_is_name : List PySem.Str := [PySem.Str.ofString "_law_word_here", PySem.Str.ofString "_law_sign"]
abbrev p__law_is_name : List PySem.Str := [PySem.Str.ofString "_law_word_here"]
theorem q__law_is_name : chkFn pk (top 12) n__law_is_name p__law_is_name f__law_is_name = true := by decide +kernel
abbrev n__law_word : List PySem.Str := [PySem.Str.ofString "_law_draws", PySem.Str.ofString "_law_pick", PySem.Str.ofString "_law_word_here", PySem.Str.ofString "_law_k", PySem.Str.ofString "_law_signs"]
abbrev p__law_word : List PySem.Str := [PySem.Str.ofString "_law_draws"]
theorem q__law_word : chkFn pk (top 13) n__law_word p__law_word f__law_word = true := by decide +kernel
abbrev n_law : List PySem.Str := [PySem.Str.ofString "_law_script", PySem.Str.ofString "_law_draws", PySem.Str.ofString "_law_turn", PySem.Str.ofString "_law_word_here", PySem.Str.ofString "_law_bad"]
abbrev p_law : List PySem.Str := [PySem.Str.ofString "_law_script"]
theorem q_law : chkFn pk (top 14) n_law p_law f_law = true := by decide +kernel

end Mi

set_option Elab.async false
set_option autoImplicit false
set_option linter.unusedSimpArgs false
namespace Mi
open M
/-- a sign of a name -/
def sgn (c : Nat) : Bool := decide (c ∈ [97, 98, 99, 100, 101, 102, 103, 104, 105, 106, 107, 108, 109, 110, 111, 112, 113, 114, 115, 116, 117, 118, 119, 120, 121, 122]) || decide (c ∈ [48, 49, 50, 51, 52, 53, 54, 55, 56, 57])
/-- what a name is -/
def isN (w : Tx) : Bool := match w with
  | [] => false
  | c :: r => decide ((c :: r).length ≤ 12) && decide (c ∈ [97, 98, 99, 100, 101, 102, 103, 104, 105, 106, 107, 108, 109, 110, 111, 112, 113, 114, 115, 116, 117, 118, 119, 120, 121, 122]) && !([D.str [97, 110, 100], D.str [111, 114], D.str [110, 111, 116], D.str [115, 111, 109, 101], D.str [97, 108, 108], D.str [108, 102, 112], D.str [112, 102, 112], D.str [116, 99], D.str [103, 117, 101, 115, 115], D.str [116, 114, 117, 101], D.str [102, 97, 108, 115, 101]].any fun y => D.eqv y (.str (c :: r))) && (c :: r).all sgn
theorem gl_of (k : Nat) (p : Prog) : (callK p k).gl = fun x => p.gls.lookup x := by cases k <;> rfl
theorem g_longest (k : Nat) : (callK prog k).gl "LONGEST" = some (.int 12) := by rw [gl_of]; rfl
theorem g_letters (k : Nat) : (callK prog k).gl "LETTERS" = some (.str [97, 98, 99, 100, 101, 102, 103, 104, 105, 106, 107, 108, 109, 110, 111, 112, 113, 114, 115, 116, 117, 118, 119, 120, 121, 122]) := by rw [gl_of]; rfl
theorem g_figures (k : Nat) : (callK prog k).gl "FIGURES" = some (.str [48, 49, 50, 51, 52, 53, 54, 55, 56, 57]) := by rw [gl_of]; rfl
theorem g_words (k : Nat) : (callK prog k).gl "WORDS" = some (.tup [D.str [97, 110, 100], D.str [111, 114], D.str [110, 111, 116], D.str [115, 111, 109, 101], D.str [97, 108, 108], D.str [108, 102, 112], D.str [112, 102, 112], D.str [116, 99], D.str [103, 117, 101, 115, 115], D.str [116, 114, 117, 101], D.str [102, 97, 108, 115, 101]]) := by rw [gl_of]; rfl

theorem is_name_str (k : Nat) (w : Tx) (S : Store) : callB (callK prog k) f_is_name [.str w] S = some (.ok (.bl (isN w)), S) := by
  suffices h : ∃ o S', callB (callK prog k) f_is_name [.str w] S = some (o, S') ∧ (o = .ok (.bl (isN w)) ∧ S' = S) by
    obtain ⟨o, S', e, rfl, rfl⟩ := h
    exact e
  apply call_wp rfl (by decide)
  show Wp (exSs _ f_is_name.body [some (.str w), none] S) _
  match w with
  | [] =>
    simp only [f_is_name, ↓for_at, forS_at, lcS_at, ↓ev_non_at, ↓ev_bl_at, ↓ev_int_at, ↓ev_str_at, ↓ev_var_at, ↓ev_glob_at, ↓ev_op_at, ↓ev_neg_at, ↓ev_cmp_at, ↓ev_chain_at, ↓ev_not_at, ↓ev_and_at, ↓ev_or_at, ↓ev_ite_at, ↓ev_tup_at, ↓ev_lst_at, ↓ev_ix_at, ↓ev_slice_at, ↓ev_call_at, ↓ev_bi_at, ↓ev_mt_at, ↓ev_isi_at, ↓ev_lc_at, ↓evs_nil_at, ↓evs_cons_at, ↓evo_none_at, ↓evo_some_at, ↓evc_nil_at, ↓evc_cons_at, ↓ex_asg_at, ↓ex_asgIx_at, ↓ex_aug_at, ↓ex_expr_at, ↓ex_ite_at, ↓ex_ret_at, ↓ex_retN_at, ↓ex_raise_at, ↓ex_brk_at, ↓ex_cont_at, ↓ex_pass_at, ↓ex_while_at, ↓exs_nil_at, ↓exs_cons_at, asgK_at, asgR_ok, goOn_at, augK1_at, augK2_at, augK3_at, asgIxK_at, asgIxK2_at, asgIxK3_at, blK_at, nbK_at, opK_at, cmpK_at, cmpK2_at, chK_at, chK2_at, chK3_t, chK3_f, notK_at, andK_at, andK2_t, andK2_f, orK_at, orK2_t, orK2_f, ifK_at, ifK2_t, ifK2_f, tupK_at, lstK_at, ixK_at, slK_at, slK2_at, mtK_at, mtK2_at, isiK_at, consK_at, consK2_at, csK_at, csK2_t, csK2_f, someK_at, eltK_t, eltK_f, oneK_at, oneL_at, seqK_at, iteK_t, iteK_f, retK_at, noexR_ok, negM, intM, ↓msB_at, ↓msS_at, msB_ok, msB_ex, msS_msS, msS_nx, msS_rt, msS_ex, msS_bk, msS_ct, truthy, ↓bnd_at, bndR_ok, bndR_ex, of_some, ret_at, binop, iopM, ↓need_at, bindT, bindTs, indexM, setIxM, cmpM, eqM, inM, biM, lenM, listM, tupleM, get_at, put_at, new_at, ↓isi_cons_at, isi_nil_at, isiR_t, isiR_f, isTy, mtM, mtPre, appendM, upperM, isLst, isStr, itM, seq1, seqM, rng1, rng2, D.isNon, D.flat, D.flats, D.deep, D.deeps, D.eqv, D.eqvs, Nat.zero_le, Nat.max_self, and_self, lt0, lt1, lt2, lt3, atI0, atI1, atI2, atI3, ixN0, ixN1, ixN2, ixN3, getc0, getc1, getc2, getc3, getc4, getc5, getc6, getc7, getc8, setc0, setc1, setc2, setc3, setc4, setc5, setc6, setc7, setc8, id, Option.join_some, Option.join, Option.bind, Option.map, List.map_cons, List.map_nil, List.length_map, List.length_cons, List.length_nil, List.getElem?_cons_zero, List.getElem?_cons_succ, List.set_cons_zero, List.set_cons_succ, Nat.zero_add, List.append_nil, List.nil_append, List.cons_append, Int.reducePow, Int.reduceToNat, Int.zero_add, Int.cast_ofNat_Int, decide_true, decide_false, Bool.not_true, Bool.not_false, Bool.and_self, Bool.true_and, Bool.false_and, Bool.and_true, Nat.zero_max, Nat.max_zero, if_true, if_false, ite_true, ite_false, reduceIte, reduceCtorEq, Bool.false_eq_true, Bool.true_eq_false, or_true, true_or, and_true, true_and, or_false, false_or, Nat.reduceLT, Nat.reduceAdd, Nat.reduceLeDiff, Int.reduceLT, Int.reduceLE, Int.reduceAdd, Nat.zero_lt_succ, beq_self_eq_true, decide_eq_true_eq, g_longest, wp_some, gc_self, Int.natCast_zero, Int.reduceLE, Int.reduceNeg, isN, Int.cast_ofNat_Int, Int.ofNat_zero]
  | c :: r =>
    have p1 : (1 : Int) ≤ ((r.length + 1 : Nat) : Int) := by omega
    by_cases p2 : ((r.length + 1 : Nat) : Int) ≤ 12
    case neg =>
      have p3 : ¬ (r.length + 1 ≤ 12) := by omega
      simp only [f_is_name, ↓for_at, forS_at, lcS_at, ↓ev_non_at, ↓ev_bl_at, ↓ev_int_at, ↓ev_str_at, ↓ev_var_at, ↓ev_glob_at, ↓ev_op_at, ↓ev_neg_at, ↓ev_cmp_at, ↓ev_chain_at, ↓ev_not_at, ↓ev_and_at, ↓ev_or_at, ↓ev_ite_at, ↓ev_tup_at, ↓ev_lst_at, ↓ev_ix_at, ↓ev_slice_at, ↓ev_call_at, ↓ev_bi_at, ↓ev_mt_at, ↓ev_isi_at, ↓ev_lc_at, ↓evs_nil_at, ↓evs_cons_at, ↓evo_none_at, ↓evo_some_at, ↓evc_nil_at, ↓evc_cons_at, ↓ex_asg_at, ↓ex_asgIx_at, ↓ex_aug_at, ↓ex_expr_at, ↓ex_ite_at, ↓ex_ret_at, ↓ex_retN_at, ↓ex_raise_at, ↓ex_brk_at, ↓ex_cont_at, ↓ex_pass_at, ↓ex_while_at, ↓exs_nil_at, ↓exs_cons_at, asgK_at, asgR_ok, goOn_at, augK1_at, augK2_at, augK3_at, asgIxK_at, asgIxK2_at, asgIxK3_at, blK_at, nbK_at, opK_at, cmpK_at, cmpK2_at, chK_at, chK2_at, chK3_t, chK3_f, notK_at, andK_at, andK2_t, andK2_f, orK_at, orK2_t, orK2_f, ifK_at, ifK2_t, ifK2_f, tupK_at, lstK_at, ixK_at, slK_at, slK2_at, mtK_at, mtK2_at, isiK_at, consK_at, consK2_at, csK_at, csK2_t, csK2_f, someK_at, eltK_t, eltK_f, oneK_at, oneL_at, seqK_at, iteK_t, iteK_f, retK_at, noexR_ok, negM, intM, ↓msB_at, ↓msS_at, msB_ok, msB_ex, msS_msS, msS_nx, msS_rt, msS_ex, msS_bk, msS_ct, truthy, ↓bnd_at, bndR_ok, bndR_ex, of_some, ret_at, binop, iopM, ↓need_at, bindT, bindTs, indexM, setIxM, cmpM, eqM, inM, biM, lenM, listM, tupleM, get_at, put_at, new_at, ↓isi_cons_at, isi_nil_at, isiR_t, isiR_f, isTy, mtM, mtPre, appendM, upperM, isLst, isStr, itM, seq1, seqM, rng1, rng2, D.isNon, D.flat, D.flats, D.deep, D.deeps, D.eqv, D.eqvs, Nat.zero_le, Nat.max_self, and_self, lt0, lt1, lt2, lt3, atI0, atI1, atI2, atI3, ixN0, ixN1, ixN2, ixN3, getc0, getc1, getc2, getc3, getc4, getc5, getc6, getc7, getc8, setc0, setc1, setc2, setc3, setc4, setc5, setc6, setc7, setc8, id, Option.join_some, Option.join, Option.bind, Option.map, List.map_cons, List.map_nil, List.length_map, List.length_cons, List.length_nil, List.getElem?_cons_zero, List.getElem?_cons_succ, List.set_cons_zero, List.set_cons_succ, Nat.zero_add, List.append_nil, List.nil_append, List.cons_append, Int.reducePow, Int.reduceToNat, Int.zero_add, Int.cast_ofNat_Int, decide_true, decide_false, Bool.not_true, Bool.not_false, Bool.and_self, Bool.true_and, Bool.false_and, Bool.and_true, Nat.zero_max, Nat.max_zero, if_true, if_false, ite_true, ite_false, reduceIte, reduceCtorEq, Bool.false_eq_true, Bool.true_eq_false, or_true, true_or, and_true, true_and, or_false, false_or, Nat.reduceLT, Nat.reduceAdd, Nat.reduceLeDiff, Int.reduceLT, Int.reduceLE, Int.reduceAdd, Nat.zero_lt_succ, beq_self_eq_true, decide_eq_true_eq, g_longest, p1, p2, wp_some, gc_self, isN, p3, Bool.false_and]
    have p3 : r.length + 1 ≤ 12 := by omega
    by_cases p4 : c ∈ [97, 98, 99, 100, 101, 102, 103, 104, 105, 106, 107, 108, 109, 110, 111, 112, 113, 114, 115, 116, 117, 118, 119, 120, 121, 122]
    case neg =>
      simp only [f_is_name, ↓for_at, forS_at, lcS_at, ↓ev_non_at, ↓ev_bl_at, ↓ev_int_at, ↓ev_str_at, ↓ev_var_at, ↓ev_glob_at, ↓ev_op_at, ↓ev_neg_at, ↓ev_cmp_at, ↓ev_chain_at, ↓ev_not_at, ↓ev_and_at, ↓ev_or_at, ↓ev_ite_at, ↓ev_tup_at, ↓ev_lst_at, ↓ev_ix_at, ↓ev_slice_at, ↓ev_call_at, ↓ev_bi_at, ↓ev_mt_at, ↓ev_isi_at, ↓ev_lc_at, ↓evs_nil_at, ↓evs_cons_at, ↓evo_none_at, ↓evo_some_at, ↓evc_nil_at, ↓evc_cons_at, ↓ex_asg_at, ↓ex_asgIx_at, ↓ex_aug_at, ↓ex_expr_at, ↓ex_ite_at, ↓ex_ret_at, ↓ex_retN_at, ↓ex_raise_at, ↓ex_brk_at, ↓ex_cont_at, ↓ex_pass_at, ↓ex_while_at, ↓exs_nil_at, ↓exs_cons_at, asgK_at, asgR_ok, goOn_at, augK1_at, augK2_at, augK3_at, asgIxK_at, asgIxK2_at, asgIxK3_at, blK_at, nbK_at, opK_at, cmpK_at, cmpK2_at, chK_at, chK2_at, chK3_t, chK3_f, notK_at, andK_at, andK2_t, andK2_f, orK_at, orK2_t, orK2_f, ifK_at, ifK2_t, ifK2_f, tupK_at, lstK_at, ixK_at, slK_at, slK2_at, mtK_at, mtK2_at, isiK_at, consK_at, consK2_at, csK_at, csK2_t, csK2_f, someK_at, eltK_t, eltK_f, oneK_at, oneL_at, seqK_at, iteK_t, iteK_f, retK_at, noexR_ok, negM, intM, ↓msB_at, ↓msS_at, msB_ok, msB_ex, msS_msS, msS_nx, msS_rt, msS_ex, msS_bk, msS_ct, truthy, ↓bnd_at, bndR_ok, bndR_ex, of_some, ret_at, binop, iopM, ↓need_at, bindT, bindTs, indexM, setIxM, cmpM, eqM, inM, biM, lenM, listM, tupleM, get_at, put_at, new_at, ↓isi_cons_at, isi_nil_at, isiR_t, isiR_f, isTy, mtM, mtPre, appendM, upperM, isLst, isStr, itM, seq1, seqM, rng1, rng2, D.isNon, D.flat, D.flats, D.deep, D.deeps, D.eqv, D.eqvs, Nat.zero_le, Nat.max_self, and_self, lt0, lt1, lt2, lt3, atI0, atI1, atI2, atI3, ixN0, ixN1, ixN2, ixN3, getc0, getc1, getc2, getc3, getc4, getc5, getc6, getc7, getc8, setc0, setc1, setc2, setc3, setc4, setc5, setc6, setc7, setc8, id, Option.join_some, Option.join, Option.bind, Option.map, List.map_cons, List.map_nil, List.length_map, List.length_cons, List.length_nil, List.getElem?_cons_zero, List.getElem?_cons_succ, List.set_cons_zero, List.set_cons_succ, Nat.zero_add, List.append_nil, List.nil_append, List.cons_append, Int.reducePow, Int.reduceToNat, Int.zero_add, Int.cast_ofNat_Int, decide_true, decide_false, Bool.not_true, Bool.not_false, Bool.and_self, Bool.true_and, Bool.false_and, Bool.and_true, Nat.zero_max, Nat.max_zero, if_true, if_false, ite_true, ite_false, reduceIte, reduceCtorEq, Bool.false_eq_true, Bool.true_eq_false, or_true, true_or, and_true, true_and, or_false, false_or, Nat.reduceLT, Nat.reduceAdd, Nat.reduceLeDiff, Int.reduceLT, Int.reduceLE, Int.reduceAdd, Nat.zero_lt_succ, beq_self_eq_true, decide_eq_true_eq, g_longest, g_letters, p1, p2, p4, wp_some, gc_self, isN, p3, Bool.false_and, Bool.true_and]
    by_cases p5 : ([D.str [97, 110, 100], D.str [111, 114], D.str [110, 111, 116], D.str [115, 111, 109, 101], D.str [97, 108, 108], D.str [108, 102, 112], D.str [112, 102, 112], D.str [116, 99], D.str [103, 117, 101, 115, 115], D.str [116, 114, 117, 101], D.str [102, 97, 108, 115, 101]].any fun y => D.eqv y (.str (c :: r))) = true
    case pos =>
      simp only [f_is_name, ↓for_at, forS_at, lcS_at, ↓ev_non_at, ↓ev_bl_at, ↓ev_int_at, ↓ev_str_at, ↓ev_var_at, ↓ev_glob_at, ↓ev_op_at, ↓ev_neg_at, ↓ev_cmp_at, ↓ev_chain_at, ↓ev_not_at, ↓ev_and_at, ↓ev_or_at, ↓ev_ite_at, ↓ev_tup_at, ↓ev_lst_at, ↓ev_ix_at, ↓ev_slice_at, ↓ev_call_at, ↓ev_bi_at, ↓ev_mt_at, ↓ev_isi_at, ↓ev_lc_at, ↓evs_nil_at, ↓evs_cons_at, ↓evo_none_at, ↓evo_some_at, ↓evc_nil_at, ↓evc_cons_at, ↓ex_asg_at, ↓ex_asgIx_at, ↓ex_aug_at, ↓ex_expr_at, ↓ex_ite_at, ↓ex_ret_at, ↓ex_retN_at, ↓ex_raise_at, ↓ex_brk_at, ↓ex_cont_at, ↓ex_pass_at, ↓ex_while_at, ↓exs_nil_at, ↓exs_cons_at, asgK_at, asgR_ok, goOn_at, augK1_at, augK2_at, augK3_at, asgIxK_at, asgIxK2_at, asgIxK3_at, blK_at, nbK_at, opK_at, cmpK_at, cmpK2_at, chK_at, chK2_at, chK3_t, chK3_f, notK_at, andK_at, andK2_t, andK2_f, orK_at, orK2_t, orK2_f, ifK_at, ifK2_t, ifK2_f, tupK_at, lstK_at, ixK_at, slK_at, slK2_at, mtK_at, mtK2_at, isiK_at, consK_at, consK2_at, csK_at, csK2_t, csK2_f, someK_at, eltK_t, eltK_f, oneK_at, oneL_at, seqK_at, iteK_t, iteK_f, retK_at, noexR_ok, negM, intM, ↓msB_at, ↓msS_at, msB_ok, msB_ex, msS_msS, msS_nx, msS_rt, msS_ex, msS_bk, msS_ct, truthy, ↓bnd_at, bndR_ok, bndR_ex, of_some, ret_at, binop, iopM, ↓need_at, bindT, bindTs, indexM, setIxM, cmpM, eqM, inM, biM, lenM, listM, tupleM, get_at, put_at, new_at, ↓isi_cons_at, isi_nil_at, isiR_t, isiR_f, isTy, mtM, mtPre, appendM, upperM, isLst, isStr, itM, seq1, seqM, rng1, rng2, D.isNon, D.flat, D.flats, D.deep, D.deeps, D.eqv, D.eqvs, Nat.zero_le, Nat.max_self, and_self, lt0, lt1, lt2, lt3, atI0, atI1, atI2, atI3, ixN0, ixN1, ixN2, ixN3, getc0, getc1, getc2, getc3, getc4, getc5, getc6, getc7, getc8, setc0, setc1, setc2, setc3, setc4, setc5, setc6, setc7, setc8, id, Option.join_some, Option.join, Option.bind, Option.map, List.map_cons, List.map_nil, List.length_map, List.length_cons, List.length_nil, List.getElem?_cons_zero, List.getElem?_cons_succ, List.set_cons_zero, List.set_cons_succ, Nat.zero_add, List.append_nil, List.nil_append, List.cons_append, Int.reducePow, Int.reduceToNat, Int.zero_add, Int.cast_ofNat_Int, decide_true, decide_false, Bool.not_true, Bool.not_false, Bool.and_self, Bool.true_and, Bool.false_and, Bool.and_true, Nat.zero_max, Nat.max_zero, if_true, if_false, ite_true, ite_false, reduceIte, reduceCtorEq, Bool.false_eq_true, Bool.true_eq_false, or_true, true_or, and_true, true_and, or_false, false_or, Nat.reduceLT, Nat.reduceAdd, Nat.reduceLeDiff, Int.reduceLT, Int.reduceLE, Int.reduceAdd, Nat.zero_lt_succ, beq_self_eq_true, decide_eq_true_eq, g_longest, g_letters, g_words, p1, p2, p4, p5, wp_some, gc_self, isN, p3, Bool.false_and, Bool.true_and]
    have p6 : ([D.str [97, 110, 100], D.str [111, 114], D.str [110, 111, 116], D.str [115, 111, 109, 101], D.str [97, 108, 108], D.str [108, 102, 112], D.str [112, 102, 112], D.str [116, 99], D.str [103, 117, 101, 115, 115], D.str [116, 114, 117, 101], D.str [102, 97, 108, 115, 101]].any fun y => D.eqv y (.str (c :: r))) = false := by simpa using p5
    have hv : isN (c :: r) = (c :: r).all sgn := by
      rw [isN, p6]
      simp only [List.length_cons, p3, p4, decide_true, Bool.true_and, Bool.not_false]
    rw [hv]
    simp only [f_is_name, ↓for_at, forS_at, lcS_at, ↓ev_non_at, ↓ev_bl_at, ↓ev_int_at, ↓ev_str_at, ↓ev_var_at, ↓ev_glob_at, ↓ev_op_at, ↓ev_neg_at, ↓ev_cmp_at, ↓ev_chain_at, ↓ev_not_at, ↓ev_and_at, ↓ev_or_at, ↓ev_ite_at, ↓ev_tup_at, ↓ev_lst_at, ↓ev_ix_at, ↓ev_slice_at, ↓ev_call_at, ↓ev_bi_at, ↓ev_mt_at, ↓ev_isi_at, ↓ev_lc_at, ↓evs_nil_at, ↓evs_cons_at, ↓evo_none_at, ↓evo_some_at, ↓evc_nil_at, ↓evc_cons_at, ↓ex_asg_at, ↓ex_asgIx_at, ↓ex_aug_at, ↓ex_expr_at, ↓ex_ite_at, ↓ex_ret_at, ↓ex_retN_at, ↓ex_raise_at, ↓ex_brk_at, ↓ex_cont_at, ↓ex_pass_at, ↓ex_while_at, ↓exs_nil_at, ↓exs_cons_at, asgK_at, asgR_ok, goOn_at, augK1_at, augK2_at, augK3_at, asgIxK_at, asgIxK2_at, asgIxK3_at, blK_at, nbK_at, opK_at, cmpK_at, cmpK2_at, chK_at, chK2_at, chK3_t, chK3_f, notK_at, andK_at, andK2_t, andK2_f, orK_at, orK2_t, orK2_f, ifK_at, ifK2_t, ifK2_f, tupK_at, lstK_at, ixK_at, slK_at, slK2_at, mtK_at, mtK2_at, isiK_at, consK_at, consK2_at, csK_at, csK2_t, csK2_f, someK_at, eltK_t, eltK_f, oneK_at, oneL_at, seqK_at, iteK_t, iteK_f, retK_at, noexR_ok, negM, intM, ↓msB_at, ↓msS_at, msB_ok, msB_ex, msS_msS, msS_nx, msS_rt, msS_ex, msS_bk, msS_ct, truthy, ↓bnd_at, bndR_ok, bndR_ex, of_some, ret_at, binop, iopM, ↓need_at, bindT, bindTs, indexM, setIxM, cmpM, eqM, inM, biM, lenM, listM, tupleM, get_at, put_at, new_at, ↓isi_cons_at, isi_nil_at, isiR_t, isiR_f, isTy, mtM, mtPre, appendM, upperM, isLst, isStr, itM, seq1, seqM, rng1, rng2, D.isNon, D.flat, D.flats, D.deep, D.deeps, D.eqv, D.eqvs, Nat.zero_le, Nat.max_self, and_self, lt0, lt1, lt2, lt3, atI0, atI1, atI2, atI3, ixN0, ixN1, ixN2, ixN3, getc0, getc1, getc2, getc3, getc4, getc5, getc6, getc7, getc8, setc0, setc1, setc2, setc3, setc4, setc5, setc6, setc7, setc8, id, Option.join_some, Option.join, Option.bind, Option.map, List.map_cons, List.map_nil, List.length_map, List.length_cons, List.length_nil, List.getElem?_cons_zero, List.getElem?_cons_succ, List.set_cons_zero, List.set_cons_succ, Nat.zero_add, List.append_nil, List.nil_append, List.cons_append, Int.reducePow, Int.reduceToNat, Int.zero_add, Int.cast_ofNat_Int, decide_true, decide_false, Bool.not_true, Bool.not_false, Bool.and_self, Bool.true_and, Bool.false_and, Bool.and_true, Nat.zero_max, Nat.max_zero, if_true, if_false, ite_true, ite_false, reduceIte, reduceCtorEq, Bool.false_eq_true, Bool.true_eq_false, or_true, true_or, and_true, true_and, or_false, false_or, Nat.reduceLT, Nat.reduceAdd, Nat.reduceLeDiff, Int.reduceLT, Int.reduceLE, Int.reduceAdd, Nat.zero_lt_succ, beq_self_eq_true, decide_eq_true_eq, g_longest, g_letters, g_words, p1, p2, p4, p6]
    refine wp_for (P := fun k ρ T => T = S ∧ ((c :: r).take k).all sgn = true ∧ ∃ q, ρ = [some (.str (c :: r)), q]) (B := fun _ _ => False) ⟨rfl, rfl, none, rfl⟩ (by intros; rfl) ?_ ?_
    · rintro j x ρ T hx ⟨rfl, h1, q, rfl⟩
      obtain ⟨s, hs, rfl⟩ : ∃ s, (c :: r)[j]? = some s ∧ x = .str [s] := by
        change ((c :: r).map fun c => D.str [c])[j]? = some x at hx
        rw [List.getElem?_map] at hx
        cases e : (c :: r)[j]? with
        | none => rw [e] at hx; cases hx
        | some s => rw [e] at hx; exact ⟨s, rfl, (Option.some.inj hx).symm⟩
      refine ⟨[some (.str (c :: r)), some (.str [s])], rfl, ?_⟩
      have ht : (c :: r).take (j + 1) = (c :: r).take j ++ [s] := by rw [List.take_add_one, hs]; rfl
      by_cases q1 : s ∈ [97, 98, 99, 100, 101, 102, 103, 104, 105, 106, 107, 108, 109, 110, 111, 112, 113, 114, 115, 116, 117, 118, 119, 120, 121, 122]
      · simp only [↓for_at, forS_at, lcS_at, ↓ev_non_at, ↓ev_bl_at, ↓ev_int_at, ↓ev_str_at, ↓ev_var_at, ↓ev_glob_at, ↓ev_op_at, ↓ev_neg_at, ↓ev_cmp_at, ↓ev_chain_at, ↓ev_not_at, ↓ev_and_at, ↓ev_or_at, ↓ev_ite_at, ↓ev_tup_at, ↓ev_lst_at, ↓ev_ix_at, ↓ev_slice_at, ↓ev_call_at, ↓ev_bi_at, ↓ev_mt_at, ↓ev_isi_at, ↓ev_lc_at, ↓evs_nil_at, ↓evs_cons_at, ↓evo_none_at, ↓evo_some_at, ↓evc_nil_at, ↓evc_cons_at, ↓ex_asg_at, ↓ex_asgIx_at, ↓ex_aug_at, ↓ex_expr_at, ↓ex_ite_at, ↓ex_ret_at, ↓ex_retN_at, ↓ex_raise_at, ↓ex_brk_at, ↓ex_cont_at, ↓ex_pass_at, ↓ex_while_at, ↓exs_nil_at, ↓exs_cons_at, asgK_at, asgR_ok, goOn_at, augK1_at, augK2_at, augK3_at, asgIxK_at, asgIxK2_at, asgIxK3_at, blK_at, nbK_at, opK_at, cmpK_at, cmpK2_at, chK_at, chK2_at, chK3_t, chK3_f, notK_at, andK_at, andK2_t, andK2_f, orK_at, orK2_t, orK2_f, ifK_at, ifK2_t, ifK2_f, tupK_at, lstK_at, ixK_at, slK_at, slK2_at, mtK_at, mtK2_at, isiK_at, consK_at, consK2_at, csK_at, csK2_t, csK2_f, someK_at, eltK_t, eltK_f, oneK_at, oneL_at, seqK_at, iteK_t, iteK_f, retK_at, noexR_ok, negM, intM, ↓msB_at, ↓msS_at, msB_ok, msB_ex, msS_msS, msS_nx, msS_rt, msS_ex, msS_bk, msS_ct, truthy, ↓bnd_at, bndR_ok, bndR_ex, of_some, ret_at, binop, iopM, ↓need_at, bindT, bindTs, indexM, setIxM, cmpM, eqM, inM, biM, lenM, listM, tupleM, get_at, put_at, new_at, ↓isi_cons_at, isi_nil_at, isiR_t, isiR_f, isTy, mtM, mtPre, appendM, upperM, isLst, isStr, itM, seq1, seqM, rng1, rng2, D.isNon, D.flat, D.flats, D.deep, D.deeps, D.eqv, D.eqvs, Nat.zero_le, Nat.max_self, and_self, lt0, lt1, lt2, lt3, atI0, atI1, atI2, atI3, ixN0, ixN1, ixN2, ixN3, getc0, getc1, getc2, getc3, getc4, getc5, getc6, getc7, getc8, setc0, setc1, setc2, setc3, setc4, setc5, setc6, setc7, setc8, id, Option.join_some, Option.join, Option.bind, Option.map, List.map_cons, List.map_nil, List.length_map, List.length_cons, List.length_nil, List.getElem?_cons_zero, List.getElem?_cons_succ, List.set_cons_zero, List.set_cons_succ, Nat.zero_add, List.append_nil, List.nil_append, List.cons_append, Int.reducePow, Int.reduceToNat, Int.zero_add, Int.cast_ofNat_Int, decide_true, decide_false, Bool.not_true, Bool.not_false, Bool.and_self, Bool.true_and, Bool.false_and, Bool.and_true, Nat.zero_max, Nat.max_zero, if_true, if_false, ite_true, ite_false, reduceIte, reduceCtorEq, Bool.false_eq_true, Bool.true_eq_false, or_true, true_or, and_true, true_and, or_false, false_or, Nat.reduceLT, Nat.reduceAdd, Nat.reduceLeDiff, Int.reduceLT, Int.reduceLE, Int.reduceAdd, Nat.zero_lt_succ, beq_self_eq_true, decide_eq_true_eq, g_letters, q1, wp_some, turn_nx]
        refine ⟨?_, _, rfl⟩
        rw [ht, List.all_append, h1]
        simp only [List.all_cons, List.all_nil, sgn, q1, decide_true, Bool.true_or, Bool.and_true]
      · by_cases q2 : s ∈ [48, 49, 50, 51, 52, 53, 54, 55, 56, 57]
        · simp only [↓for_at, forS_at, lcS_at, ↓ev_non_at, ↓ev_bl_at, ↓ev_int_at, ↓ev_str_at, ↓ev_var_at, ↓ev_glob_at, ↓ev_op_at, ↓ev_neg_at, ↓ev_cmp_at, ↓ev_chain_at, ↓ev_not_at, ↓ev_and_at, ↓ev_or_at, ↓ev_ite_at, ↓ev_tup_at, ↓ev_lst_at, ↓ev_ix_at, ↓ev_slice_at, ↓ev_call_at, ↓ev_bi_at, ↓ev_mt_at, ↓ev_isi_at, ↓ev_lc_at, ↓evs_nil_at, ↓evs_cons_at, ↓evo_none_at, ↓evo_some_at, ↓evc_nil_at, ↓evc_cons_at, ↓ex_asg_at, ↓ex_asgIx_at, ↓ex_aug_at, ↓ex_expr_at, ↓ex_ite_at, ↓ex_ret_at, ↓ex_retN_at, ↓ex_raise_at, ↓ex_brk_at, ↓ex_cont_at, ↓ex_pass_at, ↓ex_while_at, ↓exs_nil_at, ↓exs_cons_at, asgK_at, asgR_ok, goOn_at, augK1_at, augK2_at, augK3_at, asgIxK_at, asgIxK2_at, asgIxK3_at, blK_at, nbK_at, opK_at, cmpK_at, cmpK2_at, chK_at, chK2_at, chK3_t, chK3_f, notK_at, andK_at, andK2_t, andK2_f, orK_at, orK2_t, orK2_f, ifK_at, ifK2_t, ifK2_f, tupK_at, lstK_at, ixK_at, slK_at, slK2_at, mtK_at, mtK2_at, isiK_at, consK_at, consK2_at, csK_at, csK2_t, csK2_f, someK_at, eltK_t, eltK_f, oneK_at, oneL_at, seqK_at, iteK_t, iteK_f, retK_at, noexR_ok, negM, intM, ↓msB_at, ↓msS_at, msB_ok, msB_ex, msS_msS, msS_nx, msS_rt, msS_ex, msS_bk, msS_ct, truthy, ↓bnd_at, bndR_ok, bndR_ex, of_some, ret_at, binop, iopM, ↓need_at, bindT, bindTs, indexM, setIxM, cmpM, eqM, inM, biM, lenM, listM, tupleM, get_at, put_at, new_at, ↓isi_cons_at, isi_nil_at, isiR_t, isiR_f, isTy, mtM, mtPre, appendM, upperM, isLst, isStr, itM, seq1, seqM, rng1, rng2, D.isNon, D.flat, D.flats, D.deep, D.deeps, D.eqv, D.eqvs, Nat.zero_le, Nat.max_self, and_self, lt0, lt1, lt2, lt3, atI0, atI1, atI2, atI3, ixN0, ixN1, ixN2, ixN3, getc0, getc1, getc2, getc3, getc4, getc5, getc6, getc7, getc8, setc0, setc1, setc2, setc3, setc4, setc5, setc6, setc7, setc8, id, Option.join_some, Option.join, Option.bind, Option.map, List.map_cons, List.map_nil, List.length_map, List.length_cons, List.length_nil, List.getElem?_cons_zero, List.getElem?_cons_succ, List.set_cons_zero, List.set_cons_succ, Nat.zero_add, List.append_nil, List.nil_append, List.cons_append, Int.reducePow, Int.reduceToNat, Int.zero_add, Int.cast_ofNat_Int, decide_true, decide_false, Bool.not_true, Bool.not_false, Bool.and_self, Bool.true_and, Bool.false_and, Bool.and_true, Nat.zero_max, Nat.max_zero, if_true, if_false, ite_true, ite_false, reduceIte, reduceCtorEq, Bool.false_eq_true, Bool.true_eq_false, or_true, true_or, and_true, true_and, or_false, false_or, Nat.reduceLT, Nat.reduceAdd, Nat.reduceLeDiff, Int.reduceLT, Int.reduceLE, Int.reduceAdd, Nat.zero_lt_succ, beq_self_eq_true, decide_eq_true_eq, g_letters, g_figures, q1, q2, wp_some, turn_nx]
          refine ⟨?_, _, rfl⟩
          rw [ht, List.all_append, h1]
          simp only [List.all_cons, List.all_nil, sgn, q2, decide_true, Bool.or_true, Bool.and_true]
        · simp only [↓for_at, forS_at, lcS_at, ↓ev_non_at, ↓ev_bl_at, ↓ev_int_at, ↓ev_str_at, ↓ev_var_at, ↓ev_glob_at, ↓ev_op_at, ↓ev_neg_at, ↓ev_cmp_at, ↓ev_chain_at, ↓ev_not_at, ↓ev_and_at, ↓ev_or_at, ↓ev_ite_at, ↓ev_tup_at, ↓ev_lst_at, ↓ev_ix_at, ↓ev_slice_at, ↓ev_call_at, ↓ev_bi_at, ↓ev_mt_at, ↓ev_isi_at, ↓ev_lc_at, ↓evs_nil_at, ↓evs_cons_at, ↓evo_none_at, ↓evo_some_at, ↓evc_nil_at, ↓evc_cons_at, ↓ex_asg_at, ↓ex_asgIx_at, ↓ex_aug_at, ↓ex_expr_at, ↓ex_ite_at, ↓ex_ret_at, ↓ex_retN_at, ↓ex_raise_at, ↓ex_brk_at, ↓ex_cont_at, ↓ex_pass_at, ↓ex_while_at, ↓exs_nil_at, ↓exs_cons_at, asgK_at, asgR_ok, goOn_at, augK1_at, augK2_at, augK3_at, asgIxK_at, asgIxK2_at, asgIxK3_at, blK_at, nbK_at, opK_at, cmpK_at, cmpK2_at, chK_at, chK2_at, chK3_t, chK3_f, notK_at, andK_at, andK2_t, andK2_f, orK_at, orK2_t, orK2_f, ifK_at, ifK2_t, ifK2_f, tupK_at, lstK_at, ixK_at, slK_at, slK2_at, mtK_at, mtK2_at, isiK_at, consK_at, consK2_at, csK_at, csK2_t, csK2_f, someK_at, eltK_t, eltK_f, oneK_at, oneL_at, seqK_at, iteK_t, iteK_f, retK_at, noexR_ok, negM, intM, ↓msB_at, ↓msS_at, msB_ok, msB_ex, msS_msS, msS_nx, msS_rt, msS_ex, msS_bk, msS_ct, truthy, ↓bnd_at, bndR_ok, bndR_ex, of_some, ret_at, binop, iopM, ↓need_at, bindT, bindTs, indexM, setIxM, cmpM, eqM, inM, biM, lenM, listM, tupleM, get_at, put_at, new_at, ↓isi_cons_at, isi_nil_at, isiR_t, isiR_f, isTy, mtM, mtPre, appendM, upperM, isLst, isStr, itM, seq1, seqM, rng1, rng2, D.isNon, D.flat, D.flats, D.deep, D.deeps, D.eqv, D.eqvs, Nat.zero_le, Nat.max_self, and_self, lt0, lt1, lt2, lt3, atI0, atI1, atI2, atI3, ixN0, ixN1, ixN2, ixN3, getc0, getc1, getc2, getc3, getc4, getc5, getc6, getc7, getc8, setc0, setc1, setc2, setc3, setc4, setc5, setc6, setc7, setc8, id, Option.join_some, Option.join, Option.bind, Option.map, List.map_cons, List.map_nil, List.length_map, List.length_cons, List.length_nil, List.getElem?_cons_zero, List.getElem?_cons_succ, List.set_cons_zero, List.set_cons_succ, Nat.zero_add, List.append_nil, List.nil_append, List.cons_append, Int.reducePow, Int.reduceToNat, Int.zero_add, Int.cast_ofNat_Int, decide_true, decide_false, Bool.not_true, Bool.not_false, Bool.and_self, Bool.true_and, Bool.false_and, Bool.and_true, Nat.zero_max, Nat.max_zero, if_true, if_false, ite_true, ite_false, reduceIte, reduceCtorEq, Bool.false_eq_true, Bool.true_eq_false, or_true, true_or, and_true, true_and, or_false, false_or, Nat.reduceLT, Nat.reduceAdd, Nat.reduceLeDiff, Int.reduceLT, Int.reduceLE, Int.reduceAdd, Nat.zero_lt_succ, beq_self_eq_true, decide_eq_true_eq, g_letters, g_figures, q1, q2, wp_some, turn_rt, gc_self]
          have : (c :: r).all sgn = false := by
            rw [List.all_eq_false]
            refine ⟨s, List.mem_of_getElem? hs, ?_⟩
            simp only [sgn, q1, q2, decide_false, Bool.or_false]
            decide
          rw [this]
    · rintro ρ T (⟨⟨⟩⟩ | ⟨rfl, h1, q, rfl⟩)
      rw [show (D.str [c] :: List.map (fun c => D.str [c]) r).length = (c :: r).length from by simp, List.take_length] at h1
      simp only [↓for_at, forS_at, lcS_at, ↓ev_non_at, ↓ev_bl_at, ↓ev_int_at, ↓ev_str_at, ↓ev_var_at, ↓ev_glob_at, ↓ev_op_at, ↓ev_neg_at, ↓ev_cmp_at, ↓ev_chain_at, ↓ev_not_at, ↓ev_and_at, ↓ev_or_at, ↓ev_ite_at, ↓ev_tup_at, ↓ev_lst_at, ↓ev_ix_at, ↓ev_slice_at, ↓ev_call_at, ↓ev_bi_at, ↓ev_mt_at, ↓ev_isi_at, ↓ev_lc_at, ↓evs_nil_at, ↓evs_cons_at, ↓evo_none_at, ↓evo_some_at, ↓evc_nil_at, ↓evc_cons_at, ↓ex_asg_at, ↓ex_asgIx_at, ↓ex_aug_at, ↓ex_expr_at, ↓ex_ite_at, ↓ex_ret_at, ↓ex_retN_at, ↓ex_raise_at, ↓ex_brk_at, ↓ex_cont_at, ↓ex_pass_at, ↓ex_while_at, ↓exs_nil_at, ↓exs_cons_at, asgK_at, asgR_ok, goOn_at, augK1_at, augK2_at, augK3_at, asgIxK_at, asgIxK2_at, asgIxK3_at, blK_at, nbK_at, opK_at, cmpK_at, cmpK2_at, chK_at, chK2_at, chK3_t, chK3_f, notK_at, andK_at, andK2_t, andK2_f, orK_at, orK2_t, orK2_f, ifK_at, ifK2_t, ifK2_f, tupK_at, lstK_at, ixK_at, slK_at, slK2_at, mtK_at, mtK2_at, isiK_at, consK_at, consK2_at, csK_at, csK2_t, csK2_f, someK_at, eltK_t, eltK_f, oneK_at, oneL_at, seqK_at, iteK_t, iteK_f, retK_at, noexR_ok, negM, intM, ↓msB_at, ↓msS_at, msB_ok, msB_ex, msS_msS, msS_nx, msS_rt, msS_ex, msS_bk, msS_ct, truthy, ↓bnd_at, bndR_ok, bndR_ex, of_some, ret_at, binop, iopM, ↓need_at, bindT, bindTs, indexM, setIxM, cmpM, eqM, inM, biM, lenM, listM, tupleM, get_at, put_at, new_at, ↓isi_cons_at, isi_nil_at, isiR_t, isiR_f, isTy, mtM, mtPre, appendM, upperM, isLst, isStr, itM, seq1, seqM, rng1, rng2, D.isNon, D.flat, D.flats, D.deep, D.deeps, D.eqv, D.eqvs, Nat.zero_le, Nat.max_self, and_self, lt0, lt1, lt2, lt3, atI0, atI1, atI2, atI3, ixN0, ixN1, ixN2, ixN3, getc0, getc1, getc2, getc3, getc4, getc5, getc6, getc7, getc8, setc0, setc1, setc2, setc3, setc4, setc5, setc6, setc7, setc8, id, Option.join_some, Option.join, Option.bind, Option.map, List.map_cons, List.map_nil, List.length_map, List.length_cons, List.length_nil, List.getElem?_cons_zero, List.getElem?_cons_succ, List.set_cons_zero, List.set_cons_succ, Nat.zero_add, List.append_nil, List.nil_append, List.cons_append, Int.reducePow, Int.reduceToNat, Int.zero_add, Int.cast_ofNat_Int, decide_true, decide_false, Bool.not_true, Bool.not_false, Bool.and_self, Bool.true_and, Bool.false_and, Bool.and_true, Nat.zero_max, Nat.max_zero, if_true, if_false, ite_true, ite_false, reduceIte, reduceCtorEq, Bool.false_eq_true, Bool.true_eq_false, or_true, true_or, and_true, true_and, or_false, false_or, Nat.reduceLT, Nat.reduceAdd, Nat.reduceLeDiff, Int.reduceLT, Int.reduceLE, Int.reduceAdd, Nat.zero_lt_succ, beq_self_eq_true, decide_eq_true_eq, wp_some, gc_self, h1]

theorem sgn_mem (s : Nat) : sgn s = decide (s ∈ [97, 98, 99, 100, 101, 102, 103, 104, 105, 106, 107, 108, 109, 110, 111, 112, 113, 114, 115, 116, 117, 118, 119, 120, 121, 122, 48, 49, 50, 51, 52, 53, 54, 55, 56, 57]) := by
  unfold sgn
  rw [← Bool.decide_or]
  congr 1
  rw [← List.mem_append]
  rfl
/-- the signs that no name has -/
def badF (x : D) : Option D := match x with
  | .str [s] => if s ∈ [97, 98, 99, 100, 101, 102, 103, 104, 105, 106, 107, 108, 109, 110, 111, 112, 113, 114, 115, 116, 117, 118, 119, 120, 121, 122, 48, 49, 50, 51, 52, 53, 54, 55, 56, 57] then none else some (.str [s])
  | x => some x
theorem bad_cnt : ∀ u : Tx, decide ((((u.map fun c => D.str [c]).filterMap badF).length : Int) = 0) = u.all sgn
  | [] => rfl
  | s :: u => by
    have ih := bad_cnt u
    rw [List.all_cons, sgn_mem, ← ih]
    by_cases q : s ∈ [97, 98, 99, 100, 101, 102, 103, 104, 105, 106, 107, 108, 109, 110, 111, 112, 113, 114, 115, 116, 117, 118, 119, 120, 121, 122, 48, 49, 50, 51, 52, 53, 54, 55, 56, 57]
    · rw [List.map_cons, List.filterMap_cons_none (by simp only [badF, q, if_true])]
      simp only [q, decide_true, Bool.true_and]
    · rw [List.map_cons, List.filterMap_cons_some (b := .str [s]) (by simp only [badF, q, if_false])]
      simp only [q, decide_false, Bool.false_and, List.length_cons]
      exact decide_eq_false (by omega)
theorem law_is_name_str (k : Nat) (w : Tx) (S : Store) : callB (callK prog k) f__law_is_name [.str w] S = some (.ok (.bl (isN w)), S) := by
  have hg : ∀ (b : Bool) (G : Store), gc S (.bl b) (S ++ G) = S := fun b G => gc_app S S G (.bl b) rfl rfl fun i _ => .inl rfl
  suffices h : ∃ o S', callB (callK prog k) f__law_is_name [.str w] S = some (o, S') ∧ (o = .ok (.bl (isN w)) ∧ S' = S) by
    obtain ⟨o, S', e, rfl, rfl⟩ := h
    exact e
  apply call_wp rfl (by decide)
  show Wp (exSs _ f__law_is_name.body [some (.str w), none] S) _
  match w with
  | [] =>
    simp only [f__law_is_name, ↓for_at, forS_at, lcS_at, ↓ev_non_at, ↓ev_bl_at, ↓ev_int_at, ↓ev_str_at, ↓ev_var_at, ↓ev_glob_at, ↓ev_op_at, ↓ev_neg_at, ↓ev_cmp_at, ↓ev_chain_at, ↓ev_not_at, ↓ev_and_at, ↓ev_or_at, ↓ev_ite_at, ↓ev_tup_at, ↓ev_lst_at, ↓ev_ix_at, ↓ev_slice_at, ↓ev_call_at, ↓ev_bi_at, ↓ev_mt_at, ↓ev_isi_at, ↓ev_lc_at, ↓evs_nil_at, ↓evs_cons_at, ↓evo_none_at, ↓evo_some_at, ↓evc_nil_at, ↓evc_cons_at, ↓ex_asg_at, ↓ex_asgIx_at, ↓ex_aug_at, ↓ex_expr_at, ↓ex_ite_at, ↓ex_ret_at, ↓ex_retN_at, ↓ex_raise_at, ↓ex_brk_at, ↓ex_cont_at, ↓ex_pass_at, ↓ex_while_at, ↓exs_nil_at, ↓exs_cons_at, asgK_at, asgR_ok, goOn_at, augK1_at, augK2_at, augK3_at, asgIxK_at, asgIxK2_at, asgIxK3_at, blK_at, nbK_at, opK_at, cmpK_at, cmpK2_at, chK_at, chK2_at, chK3_t, chK3_f, notK_at, andK_at, andK2_t, andK2_f, orK_at, orK2_t, orK2_f, ifK_at, ifK2_t, ifK2_f, tupK_at, lstK_at, ixK_at, slK_at, slK2_at, mtK_at, mtK2_at, isiK_at, consK_at, consK2_at, csK_at, csK2_t, csK2_f, someK_at, eltK_t, eltK_f, oneK_at, oneL_at, seqK_at, iteK_t, iteK_f, retK_at, noexR_ok, negM, intM, ↓msB_at, ↓msS_at, msB_ok, msB_ex, msS_msS, msS_nx, msS_rt, msS_ex, msS_bk, msS_ct, truthy, ↓bnd_at, bndR_ok, bndR_ex, of_some, ret_at, binop, iopM, ↓need_at, bindT, bindTs, indexM, setIxM, cmpM, eqM, inM, biM, lenM, listM, tupleM, get_at, put_at, new_at, ↓isi_cons_at, isi_nil_at, isiR_t, isiR_f, isTy, mtM, mtPre, appendM, upperM, isLst, isStr, itM, seq1, seqM, rng1, rng2, D.isNon, D.flat, D.flats, D.deep, D.deeps, D.eqv, D.eqvs, Nat.zero_le, Nat.max_self, and_self, lt0, lt1, lt2, lt3, atI0, atI1, atI2, atI3, ixN0, ixN1, ixN2, ixN3, getc0, getc1, getc2, getc3, getc4, getc5, getc6, getc7, getc8, setc0, setc1, setc2, setc3, setc4, setc5, setc6, setc7, setc8, id, Option.join_some, Option.join, Option.bind, Option.map, List.map_cons, List.map_nil, List.length_map, List.length_cons, List.length_nil, List.getElem?_cons_zero, List.getElem?_cons_succ, List.set_cons_zero, List.set_cons_succ, Nat.zero_add, List.append_nil, List.nil_append, List.cons_append, Int.reducePow, Int.reduceToNat, Int.zero_add, Int.cast_ofNat_Int, decide_true, decide_false, Bool.not_true, Bool.not_false, Bool.and_self, Bool.true_and, Bool.false_and, Bool.and_true, Nat.zero_max, Nat.max_zero, if_true, if_false, ite_true, ite_false, reduceIte, reduceCtorEq, Bool.false_eq_true, Bool.true_eq_false, or_true, true_or, and_true, true_and, or_false, false_or, Nat.reduceLT, Nat.reduceAdd, Nat.reduceLeDiff, Int.reduceLT, Int.reduceLE, Int.reduceAdd, Nat.zero_lt_succ, beq_self_eq_true, decide_eq_true_eq, wp_some, gc_self, Int.natCast_zero, isN, Int.cast_ofNat_Int, Int.ofNat_zero]
  | c :: r =>
    have p1 : ¬ ((r.length + 1 : Nat) : Int) < 1 := by omega
    by_cases p2 : (12 : Int) < ((r.length + 1 : Nat) : Int)
    case pos =>
      have p3 : ¬ (r.length + 1 ≤ 12) := by omega
      simp only [f__law_is_name, ↓for_at, forS_at, lcS_at, ↓ev_non_at, ↓ev_bl_at, ↓ev_int_at, ↓ev_str_at, ↓ev_var_at, ↓ev_glob_at, ↓ev_op_at, ↓ev_neg_at, ↓ev_cmp_at, ↓ev_chain_at, ↓ev_not_at, ↓ev_and_at, ↓ev_or_at, ↓ev_ite_at, ↓ev_tup_at, ↓ev_lst_at, ↓ev_ix_at, ↓ev_slice_at, ↓ev_call_at, ↓ev_bi_at, ↓ev_mt_at, ↓ev_isi_at, ↓ev_lc_at, ↓evs_nil_at, ↓evs_cons_at, ↓evo_none_at, ↓evo_some_at, ↓evc_nil_at, ↓evc_cons_at, ↓ex_asg_at, ↓ex_asgIx_at, ↓ex_aug_at, ↓ex_expr_at, ↓ex_ite_at, ↓ex_ret_at, ↓ex_retN_at, ↓ex_raise_at, ↓ex_brk_at, ↓ex_cont_at, ↓ex_pass_at, ↓ex_while_at, ↓exs_nil_at, ↓exs_cons_at, asgK_at, asgR_ok, goOn_at, augK1_at, augK2_at, augK3_at, asgIxK_at, asgIxK2_at, asgIxK3_at, blK_at, nbK_at, opK_at, cmpK_at, cmpK2_at, chK_at, chK2_at, chK3_t, chK3_f, notK_at, andK_at, andK2_t, andK2_f, orK_at, orK2_t, orK2_f, ifK_at, ifK2_t, ifK2_f, tupK_at, lstK_at, ixK_at, slK_at, slK2_at, mtK_at, mtK2_at, isiK_at, consK_at, consK2_at, csK_at, csK2_t, csK2_f, someK_at, eltK_t, eltK_f, oneK_at, oneL_at, seqK_at, iteK_t, iteK_f, retK_at, noexR_ok, negM, intM, ↓msB_at, ↓msS_at, msB_ok, msB_ex, msS_msS, msS_nx, msS_rt, msS_ex, msS_bk, msS_ct, truthy, ↓bnd_at, bndR_ok, bndR_ex, of_some, ret_at, binop, iopM, ↓need_at, bindT, bindTs, indexM, setIxM, cmpM, eqM, inM, biM, lenM, listM, tupleM, get_at, put_at, new_at, ↓isi_cons_at, isi_nil_at, isiR_t, isiR_f, isTy, mtM, mtPre, appendM, upperM, isLst, isStr, itM, seq1, seqM, rng1, rng2, D.isNon, D.flat, D.flats, D.deep, D.deeps, D.eqv, D.eqvs, Nat.zero_le, Nat.max_self, and_self, lt0, lt1, lt2, lt3, atI0, atI1, atI2, atI3, ixN0, ixN1, ixN2, ixN3, getc0, getc1, getc2, getc3, getc4, getc5, getc6, getc7, getc8, setc0, setc1, setc2, setc3, setc4, setc5, setc6, setc7, setc8, id, Option.join_some, Option.join, Option.bind, Option.map, List.map_cons, List.map_nil, List.length_map, List.length_cons, List.length_nil, List.getElem?_cons_zero, List.getElem?_cons_succ, List.set_cons_zero, List.set_cons_succ, Nat.zero_add, List.append_nil, List.nil_append, List.cons_append, Int.reducePow, Int.reduceToNat, Int.zero_add, Int.cast_ofNat_Int, decide_true, decide_false, Bool.not_true, Bool.not_false, Bool.and_self, Bool.true_and, Bool.false_and, Bool.and_true, Nat.zero_max, Nat.max_zero, if_true, if_false, ite_true, ite_false, reduceIte, reduceCtorEq, Bool.false_eq_true, Bool.true_eq_false, or_true, true_or, and_true, true_and, or_false, false_or, Nat.reduceLT, Nat.reduceAdd, Nat.reduceLeDiff, Int.reduceLT, Int.reduceLE, Int.reduceAdd, Nat.zero_lt_succ, beq_self_eq_true, decide_eq_true_eq, p1, p2, wp_some, gc_self, isN, p3]
    have p3 : r.length + 1 ≤ 12 := by omega
    by_cases p4 : c ∈ [97, 98, 99, 100, 101, 102, 103, 104, 105, 106, 107, 108, 109, 110, 111, 112, 113, 114, 115, 116, 117, 118, 119, 120, 121, 122]
    case neg =>
      simp only [f__law_is_name, ↓for_at, forS_at, lcS_at, ↓ev_non_at, ↓ev_bl_at, ↓ev_int_at, ↓ev_str_at, ↓ev_var_at, ↓ev_glob_at, ↓ev_op_at, ↓ev_neg_at, ↓ev_cmp_at, ↓ev_chain_at, ↓ev_not_at, ↓ev_and_at, ↓ev_or_at, ↓ev_ite_at, ↓ev_tup_at, ↓ev_lst_at, ↓ev_ix_at, ↓ev_slice_at, ↓ev_call_at, ↓ev_bi_at, ↓ev_mt_at, ↓ev_isi_at, ↓ev_lc_at, ↓evs_nil_at, ↓evs_cons_at, ↓evo_none_at, ↓evo_some_at, ↓evc_nil_at, ↓evc_cons_at, ↓ex_asg_at, ↓ex_asgIx_at, ↓ex_aug_at, ↓ex_expr_at, ↓ex_ite_at, ↓ex_ret_at, ↓ex_retN_at, ↓ex_raise_at, ↓ex_brk_at, ↓ex_cont_at, ↓ex_pass_at, ↓ex_while_at, ↓exs_nil_at, ↓exs_cons_at, asgK_at, asgR_ok, goOn_at, augK1_at, augK2_at, augK3_at, asgIxK_at, asgIxK2_at, asgIxK3_at, blK_at, nbK_at, opK_at, cmpK_at, cmpK2_at, chK_at, chK2_at, chK3_t, chK3_f, notK_at, andK_at, andK2_t, andK2_f, orK_at, orK2_t, orK2_f, ifK_at, ifK2_t, ifK2_f, tupK_at, lstK_at, ixK_at, slK_at, slK2_at, mtK_at, mtK2_at, isiK_at, consK_at, consK2_at, csK_at, csK2_t, csK2_f, someK_at, eltK_t, eltK_f, oneK_at, oneL_at, seqK_at, iteK_t, iteK_f, retK_at, noexR_ok, negM, intM, ↓msB_at, ↓msS_at, msB_ok, msB_ex, msS_msS, msS_nx, msS_rt, msS_ex, msS_bk, msS_ct, truthy, ↓bnd_at, bndR_ok, bndR_ex, of_some, ret_at, binop, iopM, ↓need_at, bindT, bindTs, indexM, setIxM, cmpM, eqM, inM, biM, lenM, listM, tupleM, get_at, put_at, new_at, ↓isi_cons_at, isi_nil_at, isiR_t, isiR_f, isTy, mtM, mtPre, appendM, upperM, isLst, isStr, itM, seq1, seqM, rng1, rng2, D.isNon, D.flat, D.flats, D.deep, D.deeps, D.eqv, D.eqvs, Nat.zero_le, Nat.max_self, and_self, lt0, lt1, lt2, lt3, atI0, atI1, atI2, atI3, ixN0, ixN1, ixN2, ixN3, getc0, getc1, getc2, getc3, getc4, getc5, getc6, getc7, getc8, setc0, setc1, setc2, setc3, setc4, setc5, setc6, setc7, setc8, id, Option.join_some, Option.join, Option.bind, Option.map, List.map_cons, List.map_nil, List.length_map, List.length_cons, List.length_nil, List.getElem?_cons_zero, List.getElem?_cons_succ, List.set_cons_zero, List.set_cons_succ, Nat.zero_add, List.append_nil, List.nil_append, List.cons_append, Int.reducePow, Int.reduceToNat, Int.zero_add, Int.cast_ofNat_Int, decide_true, decide_false, Bool.not_true, Bool.not_false, Bool.and_self, Bool.true_and, Bool.false_and, Bool.and_true, Nat.zero_max, Nat.max_zero, if_true, if_false, ite_true, ite_false, reduceIte, reduceCtorEq, Bool.false_eq_true, Bool.true_eq_false, or_true, true_or, and_true, true_and, or_false, false_or, Nat.reduceLT, Nat.reduceAdd, Nat.reduceLeDiff, Int.reduceLT, Int.reduceLE, Int.reduceAdd, Nat.zero_lt_succ, beq_self_eq_true, decide_eq_true_eq, p1, p2, p4, wp_some, gc_self, isN, p3]
    by_cases p5 : ([D.str [97, 110, 100], D.str [111, 114], D.str [110, 111, 116], D.str [115, 111, 109, 101], D.str [97, 108, 108], D.str [108, 102, 112], D.str [112, 102, 112], D.str [116, 99], D.str [103, 117, 101, 115, 115], D.str [116, 114, 117, 101], D.str [102, 97, 108, 115, 101]].any fun y => D.eqv y (.str (c :: r))) = true
    case pos =>
      simp only [f__law_is_name, ↓for_at, forS_at, lcS_at, ↓ev_non_at, ↓ev_bl_at, ↓ev_int_at, ↓ev_str_at, ↓ev_var_at, ↓ev_glob_at, ↓ev_op_at, ↓ev_neg_at, ↓ev_cmp_at, ↓ev_chain_at, ↓ev_not_at, ↓ev_and_at, ↓ev_or_at, ↓ev_ite_at, ↓ev_tup_at, ↓ev_lst_at, ↓ev_ix_at, ↓ev_slice_at, ↓ev_call_at, ↓ev_bi_at, ↓ev_mt_at, ↓ev_isi_at, ↓ev_lc_at, ↓evs_nil_at, ↓evs_cons_at, ↓evo_none_at, ↓evo_some_at, ↓evc_nil_at, ↓evc_cons_at, ↓ex_asg_at, ↓ex_asgIx_at, ↓ex_aug_at, ↓ex_expr_at, ↓ex_ite_at, ↓ex_ret_at, ↓ex_retN_at, ↓ex_raise_at, ↓ex_brk_at, ↓ex_cont_at, ↓ex_pass_at, ↓ex_while_at, ↓exs_nil_at, ↓exs_cons_at, asgK_at, asgR_ok, goOn_at, augK1_at, augK2_at, augK3_at, asgIxK_at, asgIxK2_at, asgIxK3_at, blK_at, nbK_at, opK_at, cmpK_at, cmpK2_at, chK_at, chK2_at, chK3_t, chK3_f, notK_at, andK_at, andK2_t, andK2_f, orK_at, orK2_t, orK2_f, ifK_at, ifK2_t, ifK2_f, tupK_at, lstK_at, ixK_at, slK_at, slK2_at, mtK_at, mtK2_at, isiK_at, consK_at, consK2_at, csK_at, csK2_t, csK2_f, someK_at, eltK_t, eltK_f, oneK_at, oneL_at, seqK_at, iteK_t, iteK_f, retK_at, noexR_ok, negM, intM, ↓msB_at, ↓msS_at, msB_ok, msB_ex, msS_msS, msS_nx, msS_rt, msS_ex, msS_bk, msS_ct, truthy, ↓bnd_at, bndR_ok, bndR_ex, of_some, ret_at, binop, iopM, ↓need_at, bindT, bindTs, indexM, setIxM, cmpM, eqM, inM, biM, lenM, listM, tupleM, get_at, put_at, new_at, ↓isi_cons_at, isi_nil_at, isiR_t, isiR_f, isTy, mtM, mtPre, appendM, upperM, isLst, isStr, itM, seq1, seqM, rng1, rng2, D.isNon, D.flat, D.flats, D.deep, D.deeps, D.eqv, D.eqvs, Nat.zero_le, Nat.max_self, and_self, lt0, lt1, lt2, lt3, atI0, atI1, atI2, atI3, ixN0, ixN1, ixN2, ixN3, getc0, getc1, getc2, getc3, getc4, getc5, getc6, getc7, getc8, setc0, setc1, setc2, setc3, setc4, setc5, setc6, setc7, setc8, id, Option.join_some, Option.join, Option.bind, Option.map, List.map_cons, List.map_nil, List.length_map, List.length_cons, List.length_nil, List.getElem?_cons_zero, List.getElem?_cons_succ, List.set_cons_zero, List.set_cons_succ, Nat.zero_add, List.append_nil, List.nil_append, List.cons_append, Int.reducePow, Int.reduceToNat, Int.zero_add, Int.cast_ofNat_Int, decide_true, decide_false, Bool.not_true, Bool.not_false, Bool.and_self, Bool.true_and, Bool.false_and, Bool.and_true, Nat.zero_max, Nat.max_zero, if_true, if_false, ite_true, ite_false, reduceIte, reduceCtorEq, Bool.false_eq_true, Bool.true_eq_false, or_true, true_or, and_true, true_and, or_false, false_or, Nat.reduceLT, Nat.reduceAdd, Nat.reduceLeDiff, Int.reduceLT, Int.reduceLE, Int.reduceAdd, Nat.zero_lt_succ, beq_self_eq_true, decide_eq_true_eq, p1, p2, p4, p5, get_last, hg, wp_some, gc_self, isN, p3]
    have p6 : ([D.str [97, 110, 100], D.str [111, 114], D.str [110, 111, 116], D.str [115, 111, 109, 101], D.str [97, 108, 108], D.str [108, 102, 112], D.str [112, 102, 112], D.str [116, 99], D.str [103, 117, 101, 115, 115], D.str [116, 114, 117, 101], D.str [102, 97, 108, 115, 101]].any fun y => D.eqv y (.str (c :: r))) = false := by simpa using p5
    have hv : isN (c :: r) = (c :: r).all sgn := by
      rw [isN, p6]
      simp only [List.length_cons, p3, p4, decide_true, Bool.true_and, Bool.not_false]
    rw [hv]
    have hc : ∀ T : Store, compL [] (oneL (callK prog k) (.var 1) (.nm 1) [.cmp .nin (.var 1) (.str [97, 98, 99, 100, 101, 102, 103, 104, 105, 106, 107, 108, 109, 110, 111, 112, 113, 114, 115, 116, 117, 118, 119, 120, 121, 122, 48, 49, 50, 51, 52, 53, 54, 55, 56, 57])] [1] [some (.str (c :: r)), none]) ((c :: r).map fun c => .str [c]) [] T = some (.ok (((c :: r).map fun c => D.str [c]).filterMap badF), T) := by
      intro T
      have := compL_pure (g := []) (one := oneL (callK prog k) (.var 1) (.nm 1) [.cmp .nin (.var 1) (.str [97, 98, 99, 100, 101, 102, 103, 104, 105, 106, 107, 108, 109, 110, 111, 112, 113, 114, 115, 116, 117, 118, 119, 120, 121, 122, 48, 49, 50, 51, 52, 53, 54, 55, 56, 57])] [1] [some (.str (c :: r)), none]) badF T rfl ((c :: r).map fun c => .str [c]) [] (by
          intro x hx
          obtain ⟨s, hs, rfl⟩ := List.mem_map.1 hx
          by_cases q : s ∈ [97, 98, 99, 100, 101, 102, 103, 104, 105, 106, 107, 108, 109, 110, 111, 112, 113, 114, 115, 116, 117, 118, 119, 120, 121, 122, 48, 49, 50, 51, 52, 53, 54, 55, 56, 57]
          · simp only [↓for_at, forS_at, lcS_at, ↓ev_non_at, ↓ev_bl_at, ↓ev_int_at, ↓ev_str_at, ↓ev_var_at, ↓ev_glob_at, ↓ev_op_at, ↓ev_neg_at, ↓ev_cmp_at, ↓ev_chain_at, ↓ev_not_at, ↓ev_and_at, ↓ev_or_at, ↓ev_ite_at, ↓ev_tup_at, ↓ev_lst_at, ↓ev_ix_at, ↓ev_slice_at, ↓ev_call_at, ↓ev_bi_at, ↓ev_mt_at, ↓ev_isi_at, ↓ev_lc_at, ↓evs_nil_at, ↓evs_cons_at, ↓evo_none_at, ↓evo_some_at, ↓evc_nil_at, ↓evc_cons_at, ↓ex_asg_at, ↓ex_asgIx_at, ↓ex_aug_at, ↓ex_expr_at, ↓ex_ite_at, ↓ex_ret_at, ↓ex_retN_at, ↓ex_raise_at, ↓ex_brk_at, ↓ex_cont_at, ↓ex_pass_at, ↓ex_while_at, ↓exs_nil_at, ↓exs_cons_at, asgK_at, asgR_ok, goOn_at, augK1_at, augK2_at, augK3_at, asgIxK_at, asgIxK2_at, asgIxK3_at, blK_at, nbK_at, opK_at, cmpK_at, cmpK2_at, chK_at, chK2_at, chK3_t, chK3_f, notK_at, andK_at, andK2_t, andK2_f, orK_at, orK2_t, orK2_f, ifK_at, ifK2_t, ifK2_f, tupK_at, lstK_at, ixK_at, slK_at, slK2_at, mtK_at, mtK2_at, isiK_at, consK_at, consK2_at, csK_at, csK2_t, csK2_f, someK_at, eltK_t, eltK_f, oneK_at, oneL_at, seqK_at, iteK_t, iteK_f, retK_at, noexR_ok, negM, intM, ↓msB_at, ↓msS_at, msB_ok, msB_ex, msS_msS, msS_nx, msS_rt, msS_ex, msS_bk, msS_ct, truthy, ↓bnd_at, bndR_ok, bndR_ex, of_some, ret_at, binop, iopM, ↓need_at, bindT, bindTs, indexM, setIxM, cmpM, eqM, inM, biM, lenM, listM, tupleM, get_at, put_at, new_at, ↓isi_cons_at, isi_nil_at, isiR_t, isiR_f, isTy, mtM, mtPre, appendM, upperM, isLst, isStr, itM, seq1, seqM, rng1, rng2, D.isNon, D.flat, D.flats, D.deep, D.deeps, D.eqv, D.eqvs, Nat.zero_le, Nat.max_self, and_self, lt0, lt1, lt2, lt3, atI0, atI1, atI2, atI3, ixN0, ixN1, ixN2, ixN3, getc0, getc1, getc2, getc3, getc4, getc5, getc6, getc7, getc8, setc0, setc1, setc2, setc3, setc4, setc5, setc6, setc7, setc8, id, Option.join_some, Option.join, Option.bind, Option.map, List.map_cons, List.map_nil, List.length_map, List.length_cons, List.length_nil, List.getElem?_cons_zero, List.getElem?_cons_succ, List.set_cons_zero, List.set_cons_succ, Nat.zero_add, List.append_nil, List.nil_append, List.cons_append, Int.reducePow, Int.reduceToNat, Int.zero_add, Int.cast_ofNat_Int, decide_true, decide_false, Bool.not_true, Bool.not_false, Bool.and_self, Bool.true_and, Bool.false_and, Bool.and_true, Nat.zero_max, Nat.max_zero, if_true, if_false, ite_true, ite_false, reduceIte, reduceCtorEq, Bool.false_eq_true, Bool.true_eq_false, or_true, true_or, and_true, true_and, or_false, false_or, Nat.reduceLT, Nat.reduceAdd, Nat.reduceLeDiff, Int.reduceLT, Int.reduceLE, Int.reduceAdd, Nat.zero_lt_succ, beq_self_eq_true, decide_eq_true_eq, wipeE, q, badF]
          · simp only [↓for_at, forS_at, lcS_at, ↓ev_non_at, ↓ev_bl_at, ↓ev_int_at, ↓ev_str_at, ↓ev_var_at, ↓ev_glob_at, ↓ev_op_at, ↓ev_neg_at, ↓ev_cmp_at, ↓ev_chain_at, ↓ev_not_at, ↓ev_and_at, ↓ev_or_at, ↓ev_ite_at, ↓ev_tup_at, ↓ev_lst_at, ↓ev_ix_at, ↓ev_slice_at, ↓ev_call_at, ↓ev_bi_at, ↓ev_mt_at, ↓ev_isi_at, ↓ev_lc_at, ↓evs_nil_at, ↓evs_cons_at, ↓evo_none_at, ↓evo_some_at, ↓evc_nil_at, ↓evc_cons_at, ↓ex_asg_at, ↓ex_asgIx_at, ↓ex_aug_at, ↓ex_expr_at, ↓ex_ite_at, ↓ex_ret_at, ↓ex_retN_at, ↓ex_raise_at, ↓ex_brk_at, ↓ex_cont_at, ↓ex_pass_at, ↓ex_while_at, ↓exs_nil_at, ↓exs_cons_at, asgK_at, asgR_ok, goOn_at, augK1_at, augK2_at, augK3_at, asgIxK_at, asgIxK2_at, asgIxK3_at, blK_at, nbK_at, opK_at, cmpK_at, cmpK2_at, chK_at, chK2_at, chK3_t, chK3_f, notK_at, andK_at, andK2_t, andK2_f, orK_at, orK2_t, orK2_f, ifK_at, ifK2_t, ifK2_f, tupK_at, lstK_at, ixK_at, slK_at, slK2_at, mtK_at, mtK2_at, isiK_at, consK_at, consK2_at, csK_at, csK2_t, csK2_f, someK_at, eltK_t, eltK_f, oneK_at, oneL_at, seqK_at, iteK_t, iteK_f, retK_at, noexR_ok, negM, intM, ↓msB_at, ↓msS_at, msB_ok, msB_ex, msS_msS, msS_nx, msS_rt, msS_ex, msS_bk, msS_ct, truthy, ↓bnd_at, bndR_ok, bndR_ex, of_some, ret_at, binop, iopM, ↓need_at, bindT, bindTs, indexM, setIxM, cmpM, eqM, inM, biM, lenM, listM, tupleM, get_at, put_at, new_at, ↓isi_cons_at, isi_nil_at, isiR_t, isiR_f, isTy, mtM, mtPre, appendM, upperM, isLst, isStr, itM, seq1, seqM, rng1, rng2, D.isNon, D.flat, D.flats, D.deep, D.deeps, D.eqv, D.eqvs, Nat.zero_le, Nat.max_self, and_self, lt0, lt1, lt2, lt3, atI0, atI1, atI2, atI3, ixN0, ixN1, ixN2, ixN3, getc0, getc1, getc2, getc3, getc4, getc5, getc6, getc7, getc8, setc0, setc1, setc2, setc3, setc4, setc5, setc6, setc7, setc8, id, Option.join_some, Option.join, Option.bind, Option.map, List.map_cons, List.map_nil, List.length_map, List.length_cons, List.length_nil, List.getElem?_cons_zero, List.getElem?_cons_succ, List.set_cons_zero, List.set_cons_succ, Nat.zero_add, List.append_nil, List.nil_append, List.cons_append, Int.reducePow, Int.reduceToNat, Int.zero_add, Int.cast_ofNat_Int, decide_true, decide_false, Bool.not_true, Bool.not_false, Bool.and_self, Bool.true_and, Bool.false_and, Bool.and_true, Nat.zero_max, Nat.max_zero, if_true, if_false, ite_true, ite_false, reduceIte, reduceCtorEq, Bool.false_eq_true, Bool.true_eq_false, or_true, true_or, and_true, true_and, or_false, false_or, Nat.reduceLT, Nat.reduceAdd, Nat.reduceLeDiff, Int.reduceLT, Int.reduceLE, Int.reduceAdd, Nat.zero_lt_succ, beq_self_eq_true, decide_eq_true_eq, wipeE, q, badF]) (by
          show 0 + _ ≤ 16777216
          rw [List.length_map, List.length_cons]
          omega)
      simpa only [List.nil_append] using this
    have hb := bad_cnt (c :: r)
    simp only [List.map_cons] at hc hb
    simp only [f__law_is_name, ↓for_at, forS_at, lcS_at, ↓ev_non_at, ↓ev_bl_at, ↓ev_int_at, ↓ev_str_at, ↓ev_var_at, ↓ev_glob_at, ↓ev_op_at, ↓ev_neg_at, ↓ev_cmp_at, ↓ev_chain_at, ↓ev_not_at, ↓ev_and_at, ↓ev_or_at, ↓ev_ite_at, ↓ev_tup_at, ↓ev_lst_at, ↓ev_ix_at, ↓ev_slice_at, ↓ev_call_at, ↓ev_bi_at, ↓ev_mt_at, ↓ev_isi_at, ↓ev_lc_at, ↓evs_nil_at, ↓evs_cons_at, ↓evo_none_at, ↓evo_some_at, ↓evc_nil_at, ↓evc_cons_at, ↓ex_asg_at, ↓ex_asgIx_at, ↓ex_aug_at, ↓ex_expr_at, ↓ex_ite_at, ↓ex_ret_at, ↓ex_retN_at, ↓ex_raise_at, ↓ex_brk_at, ↓ex_cont_at, ↓ex_pass_at, ↓ex_while_at, ↓exs_nil_at, ↓exs_cons_at, asgK_at, asgR_ok, goOn_at, augK1_at, augK2_at, augK3_at, asgIxK_at, asgIxK2_at, asgIxK3_at, blK_at, nbK_at, opK_at, cmpK_at, cmpK2_at, chK_at, chK2_at, chK3_t, chK3_f, notK_at, andK_at, andK2_t, andK2_f, orK_at, orK2_t, orK2_f, ifK_at, ifK2_t, ifK2_f, tupK_at, lstK_at, ixK_at, slK_at, slK2_at, mtK_at, mtK2_at, isiK_at, consK_at, consK2_at, csK_at, csK2_t, csK2_f, someK_at, eltK_t, eltK_f, oneK_at, oneL_at, seqK_at, iteK_t, iteK_f, retK_at, noexR_ok, negM, intM, ↓msB_at, ↓msS_at, msB_ok, msB_ex, msS_msS, msS_nx, msS_rt, msS_ex, msS_bk, msS_ct, truthy, ↓bnd_at, bndR_ok, bndR_ex, of_some, ret_at, binop, iopM, ↓need_at, bindT, bindTs, indexM, setIxM, cmpM, eqM, inM, biM, lenM, listM, tupleM, get_at, put_at, new_at, ↓isi_cons_at, isi_nil_at, isiR_t, isiR_f, isTy, mtM, mtPre, appendM, upperM, isLst, isStr, itM, seq1, seqM, rng1, rng2, D.isNon, D.flat, D.flats, D.deep, D.deeps, D.eqv, D.eqvs, Nat.zero_le, Nat.max_self, and_self, lt0, lt1, lt2, lt3, atI0, atI1, atI2, atI3, ixN0, ixN1, ixN2, ixN3, getc0, getc1, getc2, getc3, getc4, getc5, getc6, getc7, getc8, setc0, setc1, setc2, setc3, setc4, setc5, setc6, setc7, setc8, id, Option.join_some, Option.join, Option.bind, Option.map, List.map_cons, List.map_nil, List.length_map, List.length_cons, List.length_nil, List.getElem?_cons_zero, List.getElem?_cons_succ, List.set_cons_zero, List.set_cons_succ, Nat.zero_add, List.append_nil, List.nil_append, List.cons_append, Int.reducePow, Int.reduceToNat, Int.zero_add, Int.cast_ofNat_Int, decide_true, decide_false, Bool.not_true, Bool.not_false, Bool.and_self, Bool.true_and, Bool.false_and, Bool.and_true, Nat.zero_max, Nat.max_zero, if_true, if_false, ite_true, ite_false, reduceIte, reduceCtorEq, Bool.false_eq_true, Bool.true_eq_false, or_true, true_or, and_true, true_and, or_false, false_or, Nat.reduceLT, Nat.reduceAdd, Nat.reduceLeDiff, Int.reduceLT, Int.reduceLE, Int.reduceAdd, Nat.zero_lt_succ, beq_self_eq_true, decide_eq_true_eq, p1, p2, p4, p6, get_last, hc, hg, wp_some, gc_self]
    rw [hb, List.append_assoc]
    exact ⟨rfl, hg _ _⟩

theorem word_run (k : Nat) (l : List Int) (hl : ∀ x ∈ l, 0 ≤ x) (t : Nat) (R : Store) :
    ∃ w t', callB (callK prog (k + 2)) f__law_word [.loc 1] (drw l t R) = some (.ok (.str w), drw l t' R) := by
  have hD : ∀ (t : Nat) (R : Store), (callK prog (k + 2)).fn "_law_draw" [.loc 1] (Cell.lst (l.map .int) :: Cell.lst [.loc 0, .int (t : Int)] :: R) = some (.ok (.int (drawV l t)), Cell.lst (l.map .int) :: Cell.lst [.loc 0, .int ((t + 1 : Nat) : Int)] :: R) :=
    fun t R => draw_run (callK prog (k + 1)) (callK prog k) rfl l t R
  have hd := fun t => drawV_pos hl t
  generalize drawV l = dr at hD hd
  suffices h : ∃ o S', callB (callK prog (k + 2)) f__law_word [.loc 1] (drw l t R) = some (o, S') ∧ ∃ w t', o = .ok (.str w) ∧ S' = drw l t' R by
    obtain ⟨o, S', e, w, t', rfl, rfl⟩ := h
    exact ⟨w, t', e⟩
  have hg := fun (t' : Nat) (w : Tx) (G : Store) => gc_drw l t t' R G (.str w) rfl
  simp only [drw, List.cons_append] at hg
  apply call_wp rfl (by decide)
  show Wp (exSs _ f__law_word.body [some (.loc 1), none, none, none, none] _) _
  by_cases q : dr t % 4 = 0
  · obtain ⟨d, e1, m1⟩ := atI_mem (xs := [D.str [97, 110, 100], D.str [111, 114], D.str [110, 111, 116], D.str [115, 111, 109, 101], D.str [97, 108, 108], D.str [108, 102, 112], D.str [112, 102, 112], D.str [116, 99], D.str [103, 117, 101, 115, 115], D.str [116, 114, 117, 101], D.str [102, 97, 108, 115, 101]]) (i := dr (t + 1) % 11) (Int.emod_nonneg _ (by decide)) (Int.emod_lt_of_pos _ (by decide))
    obtain ⟨w0, rfl, h1, h2⟩ : ∃ w0, d = .str w0 ∧ w0.length ≤ 5 ∧ w0.all (fun c => decide (c < 128)) = true := by
      simp only [List.mem_cons, List.not_mem_nil, or_false] at m1
      rcases m1 with rfl | rfl | rfl | rfl | rfl | rfl | rfl | rfl | rfl | rfl | rfl <;> exact ⟨_, rfl, by decide, by decide⟩
    obtain ⟨d2, e2, m2⟩ := atI_mem (xs := [D.str w0, .str w0, .str (w0 ++ [48]), .str (97 :: w0), .str (w0 ++ [115]), .str (upTx w0)]) (i := dr (t + 1 + 1) % 6) (Int.emod_nonneg _ (by decide)) (Int.emod_lt_of_pos _ (by decide))
    obtain ⟨w2, rfl⟩ : ∃ w2, d2 = .str w2 := by
      simp only [List.mem_cons, List.not_mem_nil, or_false] at m2
      rcases m2 with rfl | rfl | rfl | rfl | rfl | rfl <;> exact ⟨_, rfl⟩
    have a1 : w0.length + 1 ≤ szl := by show _ ≤ 16777216; omega
    have a2 : 1 + w0.length ≤ szl := by show _ ≤ 16777216; omega
    have a3 : w0.length ≤ 5592405 := by omega
    simp only [f__law_word, ↓for_at, forS_at, lcS_at, ↓ev_non_at, ↓ev_bl_at, ↓ev_int_at, ↓ev_str_at, ↓ev_var_at, ↓ev_glob_at, ↓ev_op_at, ↓ev_neg_at, ↓ev_cmp_at, ↓ev_chain_at, ↓ev_not_at, ↓ev_and_at, ↓ev_or_at, ↓ev_ite_at, ↓ev_tup_at, ↓ev_lst_at, ↓ev_ix_at, ↓ev_slice_at, ↓ev_call_at, ↓ev_bi_at, ↓ev_mt_at, ↓ev_isi_at, ↓ev_lc_at, ↓evs_nil_at, ↓evs_cons_at, ↓evo_none_at, ↓evo_some_at, ↓evc_nil_at, ↓evc_cons_at, ↓ex_asg_at, ↓ex_asgIx_at, ↓ex_aug_at, ↓ex_expr_at, ↓ex_ite_at, ↓ex_ret_at, ↓ex_retN_at, ↓ex_raise_at, ↓ex_brk_at, ↓ex_cont_at, ↓ex_pass_at, ↓ex_while_at, ↓exs_nil_at, ↓exs_cons_at, asgK_at, asgR_ok, goOn_at, augK1_at, augK2_at, augK3_at, asgIxK_at, asgIxK2_at, asgIxK3_at, blK_at, nbK_at, opK_at, cmpK_at, cmpK2_at, chK_at, chK2_at, chK3_t, chK3_f, notK_at, andK_at, andK2_t, andK2_f, orK_at, orK2_t, orK2_f, ifK_at, ifK2_t, ifK2_f, tupK_at, lstK_at, ixK_at, slK_at, slK2_at, mtK_at, mtK2_at, isiK_at, consK_at, consK2_at, csK_at, csK2_t, csK2_f, someK_at, eltK_t, eltK_f, oneK_at, oneL_at, seqK_at, iteK_t, iteK_f, retK_at, noexR_ok, negM, intM, ↓msB_at, ↓msS_at, msB_ok, msB_ex, msS_msS, msS_nx, msS_rt, msS_ex, msS_bk, msS_ct, truthy, ↓bnd_at, bndR_ok, bndR_ex, of_some, ret_at, binop, iopM, ↓need_at, bindT, bindTs, indexM, setIxM, cmpM, eqM, inM, biM, lenM, listM, tupleM, get_at, put_at, new_at, ↓isi_cons_at, isi_nil_at, isiR_t, isiR_f, isTy, mtM, mtPre, appendM, upperM, isLst, isStr, itM, seq1, seqM, rng1, rng2, D.isNon, D.flat, D.flats, D.deep, D.deeps, D.eqv, D.eqvs, Nat.zero_le, Nat.max_self, and_self, lt0, lt1, lt2, lt3, atI0, atI1, atI2, atI3, ixN0, ixN1, ixN2, ixN3, getc0, getc1, getc2, getc3, getc4, getc5, getc6, getc7, getc8, setc0, setc1, setc2, setc3, setc4, setc5, setc6, setc7, setc8, id, Option.join_some, Option.join, Option.bind, Option.map, List.map_cons, List.map_nil, List.length_map, List.length_cons, List.length_nil, List.getElem?_cons_zero, List.getElem?_cons_succ, List.set_cons_zero, List.set_cons_succ, Nat.zero_add, List.append_nil, List.nil_append, List.cons_append, Int.reducePow, Int.reduceToNat, Int.zero_add, Int.cast_ofNat_Int, decide_true, decide_false, Bool.not_true, Bool.not_false, Bool.and_self, Bool.true_and, Bool.false_and, Bool.and_true, Nat.zero_max, Nat.max_zero, if_true, if_false, ite_true, ite_false, reduceIte, reduceCtorEq, Bool.false_eq_true, Bool.true_eq_false, or_true, true_or, and_true, true_and, or_false, false_or, Nat.reduceLT, Nat.reduceAdd, Nat.reduceLeDiff, Int.reduceLT, Int.reduceLE, Int.reduceAdd, Nat.zero_lt_succ, beq_self_eq_true, decide_eq_true_eq, hD, q, get_last, e1, a1, a2, a3, h2, e2, wp_some]
    rw [List.append_assoc, hg]
    exact ⟨w2, _, rfl, rfl⟩
  · have h15 : r62 (dr (t + 1) % 15) = true := by
      have := Int.emod_nonneg (dr (t + 1)) (by decide : (15 : Int) ≠ 0)
      have := Int.emod_lt_of_pos (dr (t + 1)) (by decide : (0 : Int) < 15)
      unfold r62
      rw [decide_eq_true_eq]
      omega
    simp only [f__law_word, ↓for_at, forS_at, lcS_at, ↓ev_non_at, ↓ev_bl_at, ↓ev_int_at, ↓ev_str_at, ↓ev_var_at, ↓ev_glob_at, ↓ev_op_at, ↓ev_neg_at, ↓ev_cmp_at, ↓ev_chain_at, ↓ev_not_at, ↓ev_and_at, ↓ev_or_at, ↓ev_ite_at, ↓ev_tup_at, ↓ev_lst_at, ↓ev_ix_at, ↓ev_slice_at, ↓ev_call_at, ↓ev_bi_at, ↓ev_mt_at, ↓ev_isi_at, ↓ev_lc_at, ↓evs_nil_at, ↓evs_cons_at, ↓evo_none_at, ↓evo_some_at, ↓evc_nil_at, ↓evc_cons_at, ↓ex_asg_at, ↓ex_asgIx_at, ↓ex_aug_at, ↓ex_expr_at, ↓ex_ite_at, ↓ex_ret_at, ↓ex_retN_at, ↓ex_raise_at, ↓ex_brk_at, ↓ex_cont_at, ↓ex_pass_at, ↓ex_while_at, ↓exs_nil_at, ↓exs_cons_at, asgK_at, asgR_ok, goOn_at, augK1_at, augK2_at, augK3_at, asgIxK_at, asgIxK2_at, asgIxK3_at, blK_at, nbK_at, opK_at, cmpK_at, cmpK2_at, chK_at, chK2_at, chK3_t, chK3_f, notK_at, andK_at, andK2_t, andK2_f, orK_at, orK2_t, orK2_f, ifK_at, ifK2_t, ifK2_f, tupK_at, lstK_at, ixK_at, slK_at, slK2_at, mtK_at, mtK2_at, isiK_at, consK_at, consK2_at, csK_at, csK2_t, csK2_f, someK_at, eltK_t, eltK_f, oneK_at, oneL_at, seqK_at, iteK_t, iteK_f, retK_at, noexR_ok, negM, intM, ↓msB_at, ↓msS_at, msB_ok, msB_ex, msS_msS, msS_nx, msS_rt, msS_ex, msS_bk, msS_ct, truthy, ↓bnd_at, bndR_ok, bndR_ex, of_some, ret_at, binop, iopM, ↓need_at, bindT, bindTs, indexM, setIxM, cmpM, eqM, inM, biM, lenM, listM, tupleM, get_at, put_at, new_at, ↓isi_cons_at, isi_nil_at, isiR_t, isiR_f, isTy, mtM, mtPre, appendM, upperM, isLst, isStr, itM, seq1, seqM, rng1, rng2, D.isNon, D.flat, D.flats, D.deep, D.deeps, D.eqv, D.eqvs, Nat.zero_le, Nat.max_self, and_self, lt0, lt1, lt2, lt3, atI0, atI1, atI2, atI3, ixN0, ixN1, ixN2, ixN3, getc0, getc1, getc2, getc3, getc4, getc5, getc6, getc7, getc8, setc0, setc1, setc2, setc3, setc4, setc5, setc6, setc7, setc8, id, Option.join_some, Option.join, Option.bind, Option.map, List.map_cons, List.map_nil, List.length_map, List.length_cons, List.length_nil, List.getElem?_cons_zero, List.getElem?_cons_succ, List.set_cons_zero, List.set_cons_succ, Nat.zero_add, List.append_nil, List.nil_append, List.cons_append, Int.reducePow, Int.reduceToNat, Int.zero_add, Int.cast_ofNat_Int, decide_true, decide_false, Bool.not_true, Bool.not_false, Bool.and_self, Bool.true_and, Bool.false_and, Bool.and_true, Nat.zero_max, Nat.max_zero, if_true, if_false, ite_true, ite_false, reduceIte, reduceCtorEq, Bool.false_eq_true, Bool.true_eq_false, or_true, true_or, and_true, true_and, or_false, false_or, Nat.reduceLT, Nat.reduceAdd, Nat.reduceLeDiff, Int.reduceLT, Int.reduceLE, Int.reduceAdd, Nat.zero_lt_succ, beq_self_eq_true, decide_eq_true_eq, hD, q, h15]
    refine wp_for (P := fun j ρ S => ∃ (w : Tx) (t' : Nat) (a b : Option D), w.length ≤ j ∧ ρ = [some (.loc 1), some (.int (dr t % 4)), some (.str w), a, b] ∧ S = drw l t' R) (B := fun _ _ => False) ⟨[], _, _, _, Nat.le_refl 0, rfl, rfl⟩ (by intros; rfl) ?_ ?_
    · rintro j x ρ S hx ⟨w, t', a, b, h1, rfl, rfl⟩
      obtain ⟨hj, rfl⟩ := rangeD_at hx
      have hj2 : j < 15 := by
        have := Int.emod_lt_of_pos (dr (t + 1)) (by decide : (0 : Int) < 15)
        omega
      refine ⟨[some (.loc 1), some (.int (dr t % 4)), some (.str w), some (.int (0 + (j : Int))), b], rfl, ?_⟩
      have a1 : w.length + 1 ≤ szl := by show _ ≤ 16777216; omega
      by_cases z : dr t' % 16 = 0
      · obtain ⟨s, e1, _⟩ := atI_mem (xs := ([65, 90, 95, 32, 45, 46, 10, 9, 40, 44, 59] : List Nat)) (i := dr (t' + 1) % 11) (Int.emod_nonneg _ (by decide)) (Int.emod_lt_of_pos _ (by decide))
        simp only [↓for_at, forS_at, lcS_at, ↓ev_non_at, ↓ev_bl_at, ↓ev_int_at, ↓ev_str_at, ↓ev_var_at, ↓ev_glob_at, ↓ev_op_at, ↓ev_neg_at, ↓ev_cmp_at, ↓ev_chain_at, ↓ev_not_at, ↓ev_and_at, ↓ev_or_at, ↓ev_ite_at, ↓ev_tup_at, ↓ev_lst_at, ↓ev_ix_at, ↓ev_slice_at, ↓ev_call_at, ↓ev_bi_at, ↓ev_mt_at, ↓ev_isi_at, ↓ev_lc_at, ↓evs_nil_at, ↓evs_cons_at, ↓evo_none_at, ↓evo_some_at, ↓evc_nil_at, ↓evc_cons_at, ↓ex_asg_at, ↓ex_asgIx_at, ↓ex_aug_at, ↓ex_expr_at, ↓ex_ite_at, ↓ex_ret_at, ↓ex_retN_at, ↓ex_raise_at, ↓ex_brk_at, ↓ex_cont_at, ↓ex_pass_at, ↓ex_while_at, ↓exs_nil_at, ↓exs_cons_at, asgK_at, asgR_ok, goOn_at, augK1_at, augK2_at, augK3_at, asgIxK_at, asgIxK2_at, asgIxK3_at, blK_at, nbK_at, opK_at, cmpK_at, cmpK2_at, chK_at, chK2_at, chK3_t, chK3_f, notK_at, andK_at, andK2_t, andK2_f, orK_at, orK2_t, orK2_f, ifK_at, ifK2_t, ifK2_f, tupK_at, lstK_at, ixK_at, slK_at, slK2_at, mtK_at, mtK2_at, isiK_at, consK_at, consK2_at, csK_at, csK2_t, csK2_f, someK_at, eltK_t, eltK_f, oneK_at, oneL_at, seqK_at, iteK_t, iteK_f, retK_at, noexR_ok, negM, intM, ↓msB_at, ↓msS_at, msB_ok, msB_ex, msS_msS, msS_nx, msS_rt, msS_ex, msS_bk, msS_ct, truthy, ↓bnd_at, bndR_ok, bndR_ex, of_some, ret_at, binop, iopM, ↓need_at, bindT, bindTs, indexM, setIxM, cmpM, eqM, inM, biM, lenM, listM, tupleM, get_at, put_at, new_at, ↓isi_cons_at, isi_nil_at, isiR_t, isiR_f, isTy, mtM, mtPre, appendM, upperM, isLst, isStr, itM, seq1, seqM, rng1, rng2, D.isNon, D.flat, D.flats, D.deep, D.deeps, D.eqv, D.eqvs, Nat.zero_le, Nat.max_self, and_self, lt0, lt1, lt2, lt3, atI0, atI1, atI2, atI3, ixN0, ixN1, ixN2, ixN3, getc0, getc1, getc2, getc3, getc4, getc5, getc6, getc7, getc8, setc0, setc1, setc2, setc3, setc4, setc5, setc6, setc7, setc8, id, Option.join_some, Option.join, Option.bind, Option.map, List.map_cons, List.map_nil, List.length_map, List.length_cons, List.length_nil, List.getElem?_cons_zero, List.getElem?_cons_succ, List.set_cons_zero, List.set_cons_succ, Nat.zero_add, List.append_nil, List.nil_append, List.cons_append, Int.reducePow, Int.reduceToNat, Int.zero_add, Int.cast_ofNat_Int, decide_true, decide_false, Bool.not_true, Bool.not_false, Bool.and_self, Bool.true_and, Bool.false_and, Bool.and_true, Nat.zero_max, Nat.max_zero, if_true, if_false, ite_true, ite_false, reduceIte, reduceCtorEq, Bool.false_eq_true, Bool.true_eq_false, or_true, true_or, and_true, true_and, or_false, false_or, Nat.reduceLT, Nat.reduceAdd, Nat.reduceLeDiff, Int.reduceLT, Int.reduceLE, Int.reduceAdd, Nat.zero_lt_succ, beq_self_eq_true, decide_eq_true_eq, hD, z, e1, a1, wp_some, turn_nx]
        exact ⟨w ++ [s], _, _, _, by simp; omega, rfl, rfl⟩
      · obtain ⟨s, e1, _⟩ := atI_mem (xs := ([97, 98, 99, 120, 121, 122, 48, 49, 57] : List Nat)) (i := dr (t' + 1) % 9) (Int.emod_nonneg _ (by decide)) (Int.emod_lt_of_pos _ (by decide))
        simp only [↓for_at, forS_at, lcS_at, ↓ev_non_at, ↓ev_bl_at, ↓ev_int_at, ↓ev_str_at, ↓ev_var_at, ↓ev_glob_at, ↓ev_op_at, ↓ev_neg_at, ↓ev_cmp_at, ↓ev_chain_at, ↓ev_not_at, ↓ev_and_at, ↓ev_or_at, ↓ev_ite_at, ↓ev_tup_at, ↓ev_lst_at, ↓ev_ix_at, ↓ev_slice_at, ↓ev_call_at, ↓ev_bi_at, ↓ev_mt_at, ↓ev_isi_at, ↓ev_lc_at, ↓evs_nil_at, ↓evs_cons_at, ↓evo_none_at, ↓evo_some_at, ↓evc_nil_at, ↓evc_cons_at, ↓ex_asg_at, ↓ex_asgIx_at, ↓ex_aug_at, ↓ex_expr_at, ↓ex_ite_at, ↓ex_ret_at, ↓ex_retN_at, ↓ex_raise_at, ↓ex_brk_at, ↓ex_cont_at, ↓ex_pass_at, ↓ex_while_at, ↓exs_nil_at, ↓exs_cons_at, asgK_at, asgR_ok, goOn_at, augK1_at, augK2_at, augK3_at, asgIxK_at, asgIxK2_at, asgIxK3_at, blK_at, nbK_at, opK_at, cmpK_at, cmpK2_at, chK_at, chK2_at, chK3_t, chK3_f, notK_at, andK_at, andK2_t, andK2_f, orK_at, orK2_t, orK2_f, ifK_at, ifK2_t, ifK2_f, tupK_at, lstK_at, ixK_at, slK_at, slK2_at, mtK_at, mtK2_at, isiK_at, consK_at, consK2_at, csK_at, csK2_t, csK2_f, someK_at, eltK_t, eltK_f, oneK_at, oneL_at, seqK_at, iteK_t, iteK_f, retK_at, noexR_ok, negM, intM, ↓msB_at, ↓msS_at, msB_ok, msB_ex, msS_msS, msS_nx, msS_rt, msS_ex, msS_bk, msS_ct, truthy, ↓bnd_at, bndR_ok, bndR_ex, of_some, ret_at, binop, iopM, ↓need_at, bindT, bindTs, indexM, setIxM, cmpM, eqM, inM, biM, lenM, listM, tupleM, get_at, put_at, new_at, ↓isi_cons_at, isi_nil_at, isiR_t, isiR_f, isTy, mtM, mtPre, appendM, upperM, isLst, isStr, itM, seq1, seqM, rng1, rng2, D.isNon, D.flat, D.flats, D.deep, D.deeps, D.eqv, D.eqvs, Nat.zero_le, Nat.max_self, and_self, lt0, lt1, lt2, lt3, atI0, atI1, atI2, atI3, ixN0, ixN1, ixN2, ixN3, getc0, getc1, getc2, getc3, getc4, getc5, getc6, getc7, getc8, setc0, setc1, setc2, setc3, setc4, setc5, setc6, setc7, setc8, id, Option.join_some, Option.join, Option.bind, Option.map, List.map_cons, List.map_nil, List.length_map, List.length_cons, List.length_nil, List.getElem?_cons_zero, List.getElem?_cons_succ, List.set_cons_zero, List.set_cons_succ, Nat.zero_add, List.append_nil, List.nil_append, List.cons_append, Int.reducePow, Int.reduceToNat, Int.zero_add, Int.cast_ofNat_Int, decide_true, decide_false, Bool.not_true, Bool.not_false, Bool.and_self, Bool.true_and, Bool.false_and, Bool.and_true, Nat.zero_max, Nat.max_zero, if_true, if_false, ite_true, ite_false, reduceIte, reduceCtorEq, Bool.false_eq_true, Bool.true_eq_false, or_true, true_or, and_true, true_and, or_false, false_or, Nat.reduceLT, Nat.reduceAdd, Nat.reduceLeDiff, Int.reduceLT, Int.reduceLE, Int.reduceAdd, Nat.zero_lt_succ, beq_self_eq_true, decide_eq_true_eq, hD, z, e1, a1, wp_some, turn_nx]
        exact ⟨w ++ [s], _, _, _, by simp; omega, rfl, rfl⟩
    · rintro ρ S (⟨⟨⟩⟩ | ⟨w, t', a, b, h1, rfl, rfl⟩)
      have := hg t' w []
      rw [List.append_nil] at this
      simp only [↓for_at, forS_at, lcS_at, ↓ev_non_at, ↓ev_bl_at, ↓ev_int_at, ↓ev_str_at, ↓ev_var_at, ↓ev_glob_at, ↓ev_op_at, ↓ev_neg_at, ↓ev_cmp_at, ↓ev_chain_at, ↓ev_not_at, ↓ev_and_at, ↓ev_or_at, ↓ev_ite_at, ↓ev_tup_at, ↓ev_lst_at, ↓ev_ix_at, ↓ev_slice_at, ↓ev_call_at, ↓ev_bi_at, ↓ev_mt_at, ↓ev_isi_at, ↓ev_lc_at, ↓evs_nil_at, ↓evs_cons_at, ↓evo_none_at, ↓evo_some_at, ↓evc_nil_at, ↓evc_cons_at, ↓ex_asg_at, ↓ex_asgIx_at, ↓ex_aug_at, ↓ex_expr_at, ↓ex_ite_at, ↓ex_ret_at, ↓ex_retN_at, ↓ex_raise_at, ↓ex_brk_at, ↓ex_cont_at, ↓ex_pass_at, ↓ex_while_at, ↓exs_nil_at, ↓exs_cons_at, asgK_at, asgR_ok, goOn_at, augK1_at, augK2_at, augK3_at, asgIxK_at, asgIxK2_at, asgIxK3_at, blK_at, nbK_at, opK_at, cmpK_at, cmpK2_at, chK_at, chK2_at, chK3_t, chK3_f, notK_at, andK_at, andK2_t, andK2_f, orK_at, orK2_t, orK2_f, ifK_at, ifK2_t, ifK2_f, tupK_at, lstK_at, ixK_at, slK_at, slK2_at, mtK_at, mtK2_at, isiK_at, consK_at, consK2_at, csK_at, csK2_t, csK2_f, someK_at, eltK_t, eltK_f, oneK_at, oneL_at, seqK_at, iteK_t, iteK_f, retK_at, noexR_ok, negM, intM, ↓msB_at, ↓msS_at, msB_ok, msB_ex, msS_msS, msS_nx, msS_rt, msS_ex, msS_bk, msS_ct, truthy, ↓bnd_at, bndR_ok, bndR_ex, of_some, ret_at, binop, iopM, ↓need_at, bindT, bindTs, indexM, setIxM, cmpM, eqM, inM, biM, lenM, listM, tupleM, get_at, put_at, new_at, ↓isi_cons_at, isi_nil_at, isiR_t, isiR_f, isTy, mtM, mtPre, appendM, upperM, isLst, isStr, itM, seq1, seqM, rng1, rng2, D.isNon, D.flat, D.flats, D.deep, D.deeps, D.eqv, D.eqvs, Nat.zero_le, Nat.max_self, and_self, lt0, lt1, lt2, lt3, atI0, atI1, atI2, atI3, ixN0, ixN1, ixN2, ixN3, getc0, getc1, getc2, getc3, getc4, getc5, getc6, getc7, getc8, setc0, setc1, setc2, setc3, setc4, setc5, setc6, setc7, setc8, id, Option.join_some, Option.join, Option.bind, Option.map, List.map_cons, List.map_nil, List.length_map, List.length_cons, List.length_nil, List.getElem?_cons_zero, List.getElem?_cons_succ, List.set_cons_zero, List.set_cons_succ, Nat.zero_add, List.append_nil, List.nil_append, List.cons_append, Int.reducePow, Int.reduceToNat, Int.zero_add, Int.cast_ofNat_Int, decide_true, decide_false, Bool.not_true, Bool.not_false, Bool.and_self, Bool.true_and, Bool.false_and, Bool.and_true, Nat.zero_max, Nat.max_zero, if_true, if_false, ite_true, ite_false, reduceIte, reduceCtorEq, Bool.false_eq_true, Bool.true_eq_false, or_true, true_or, and_true, true_and, or_false, false_or, Nat.reduceLT, Nat.reduceAdd, Nat.reduceLeDiff, Int.reduceLT, Int.reduceLE, Int.reduceAdd, Nat.zero_lt_succ, beq_self_eq_true, decide_eq_true_eq, wp_some, this]
      exact ⟨w, _, rfl, rfl⟩

/-- what is no text has no name -/
theorem is_name_non (k : Nat) (d : D) (S : Store) (h : isTy S d .str = some false) : callB (callK prog k) f_is_name [d] S = some (.ok (.bl false), S) := by
  rw [callB_of _ _ _ _ rfl (by decide)]
  show fin S (exSs _ f_is_name.body [some d, none] S) = _
  simp only [f_is_name, ↓h, ↓for_at, forS_at, lcS_at, ↓ev_non_at, ↓ev_bl_at, ↓ev_int_at, ↓ev_str_at, ↓ev_var_at, ↓ev_glob_at, ↓ev_op_at, ↓ev_neg_at, ↓ev_cmp_at, ↓ev_chain_at, ↓ev_not_at, ↓ev_and_at, ↓ev_or_at, ↓ev_ite_at, ↓ev_tup_at, ↓ev_lst_at, ↓ev_ix_at, ↓ev_slice_at, ↓ev_call_at, ↓ev_bi_at, ↓ev_mt_at, ↓ev_isi_at, ↓ev_lc_at, ↓evs_nil_at, ↓evs_cons_at, ↓evo_none_at, ↓evo_some_at, ↓evc_nil_at, ↓evc_cons_at, ↓ex_asg_at, ↓ex_asgIx_at, ↓ex_aug_at, ↓ex_expr_at, ↓ex_ite_at, ↓ex_ret_at, ↓ex_retN_at, ↓ex_raise_at, ↓ex_brk_at, ↓ex_cont_at, ↓ex_pass_at, ↓ex_while_at, ↓exs_nil_at, ↓exs_cons_at, asgK_at, asgR_ok, goOn_at, augK1_at, augK2_at, augK3_at, asgIxK_at, asgIxK2_at, asgIxK3_at, blK_at, nbK_at, opK_at, cmpK_at, cmpK2_at, chK_at, chK2_at, chK3_t, chK3_f, notK_at, andK_at, andK2_t, andK2_f, orK_at, orK2_t, orK2_f, ifK_at, ifK2_t, ifK2_f, tupK_at, lstK_at, ixK_at, slK_at, slK2_at, mtK_at, mtK2_at, isiK_at, consK_at, consK2_at, csK_at, csK2_t, csK2_f, someK_at, eltK_t, eltK_f, oneK_at, oneL_at, seqK_at, iteK_t, iteK_f, retK_at, noexR_ok, negM, intM, ↓msB_at, ↓msS_at, msB_ok, msB_ex, msS_msS, msS_nx, msS_rt, msS_ex, msS_bk, msS_ct, truthy, ↓bnd_at, bndR_ok, bndR_ex, of_some, ret_at, binop, iopM, ↓need_at, bindT, bindTs, indexM, setIxM, cmpM, eqM, inM, biM, lenM, listM, tupleM, get_at, put_at, new_at, ↓isi_cons_at, isi_nil_at, isiR_t, isiR_f, isTy, mtM, mtPre, appendM, upperM, isLst, isStr, itM, seq1, seqM, rng1, rng2, D.isNon, D.flat, D.flats, D.deep, D.deeps, D.eqv, D.eqvs, Nat.zero_le, Nat.max_self, and_self, lt0, lt1, lt2, lt3, atI0, atI1, atI2, atI3, ixN0, ixN1, ixN2, ixN3, getc0, getc1, getc2, getc3, getc4, getc5, getc6, getc7, getc8, setc0, setc1, setc2, setc3, setc4, setc5, setc6, setc7, setc8, id, Option.join_some, Option.join, Option.bind, Option.map, List.map_cons, List.map_nil, List.length_map, List.length_cons, List.length_nil, List.getElem?_cons_zero, List.getElem?_cons_succ, List.set_cons_zero, List.set_cons_succ, Nat.zero_add, List.append_nil, List.nil_append, List.cons_append, Int.reducePow, Int.reduceToNat, Int.zero_add, Int.cast_ofNat_Int, decide_true, decide_false, Bool.not_true, Bool.not_false, Bool.and_self, Bool.true_and, Bool.false_and, Bool.and_true, Nat.zero_max, Nat.max_zero, if_true, if_false, ite_true, ite_false, reduceIte, reduceCtorEq, Bool.false_eq_true, Bool.true_eq_false, or_true, true_or, and_true, true_and, or_false, false_or, Nat.reduceLT, Nat.reduceAdd, Nat.reduceLeDiff, Int.reduceLT, Int.reduceLE, Int.reduceAdd, Nat.zero_lt_succ, beq_self_eq_true, decide_eq_true_eq, fin, gc_self]

theorem law_ok (ns : List Int) (hn : ns.length ≤ 63) : ∃ S', callB (callK prog 30) f_law [.fzl (ns.map .int)] [] = some (.ok (.bl true), S') := by
  have hN := numbers_run (callK prog 29) (callK prog 28) rfl ns hn
  obtain ⟨l, hl, e1⟩ := hN
  have e1' : (callK prog 30).fn "_law_numbers" [.fzl (ns.map .int)] [] = some (.ok (.loc 0), [.lst (l.map .int)]) := e1
  have hW : ∀ (t : Nat), ∃ w t', (callK prog 30).fn "_law_word" [.loc 1] (Cell.lst (l.map .int) :: Cell.lst [.loc 0, .int (t : Int)] :: []) = some (.ok (.str w), Cell.lst (l.map .int) :: Cell.lst [.loc 0, .int ((t' : Nat) : Int)] :: []) :=
    fun t => word_run 27 l hl t []
  have hi : ∀ w S, (callK prog 30).fn "is_name" [.str w] S = some (.ok (.bl (isN w)), S) := is_name_str 29
  have hj : ∀ w S, (callK prog 30).fn "_law_is_name" [.str w] S = some (.ok (.bl (isN w)), S) := law_is_name_str 29
  have hq : ∀ a b S, (callK prog 30).fn "_law_equal" [.bl a, .bl b] S = some (.ok (.bl (a == b)), S) := equal_bl (callK prog 29)
  have hb : ∀ d S, isTy S d .str = some false → (callK prog 30).fn "is_name" [d] S = some (.ok (.bl false), S) := is_name_non 29
  have h8 : r62 8 = true := by decide
  generalize callK prog 30 = cl at *
  suffices h : ∃ o S', callB cl f_law [.fzl (ns.map .int)] [] = some (o, S') ∧ o = .ok (.bl true) by
    obtain ⟨o, S', e, rfl⟩ := h
    exact ⟨S', e⟩
  apply call_wp rfl (by decide)
  show Wp (exSs _ f_law.body [some (.fzl (ns.map .int)), none, none, none, none] _) _
  simp only [f_law, ↓for_at, forS_at, lcS_at, ↓ev_non_at, ↓ev_bl_at, ↓ev_int_at, ↓ev_str_at, ↓ev_var_at, ↓ev_glob_at, ↓ev_op_at, ↓ev_neg_at, ↓ev_cmp_at, ↓ev_chain_at, ↓ev_not_at, ↓ev_and_at, ↓ev_or_at, ↓ev_ite_at, ↓ev_tup_at, ↓ev_lst_at, ↓ev_ix_at, ↓ev_slice_at, ↓ev_call_at, ↓ev_bi_at, ↓ev_mt_at, ↓ev_isi_at, ↓ev_lc_at, ↓evs_nil_at, ↓evs_cons_at, ↓evo_none_at, ↓evo_some_at, ↓evc_nil_at, ↓evc_cons_at, ↓ex_asg_at, ↓ex_asgIx_at, ↓ex_aug_at, ↓ex_expr_at, ↓ex_ite_at, ↓ex_ret_at, ↓ex_retN_at, ↓ex_raise_at, ↓ex_brk_at, ↓ex_cont_at, ↓ex_pass_at, ↓ex_while_at, ↓exs_nil_at, ↓exs_cons_at, asgK_at, asgR_ok, goOn_at, augK1_at, augK2_at, augK3_at, asgIxK_at, asgIxK2_at, asgIxK3_at, blK_at, nbK_at, opK_at, cmpK_at, cmpK2_at, chK_at, chK2_at, chK3_t, chK3_f, notK_at, andK_at, andK2_t, andK2_f, orK_at, orK2_t, orK2_f, ifK_at, ifK2_t, ifK2_f, tupK_at, lstK_at, ixK_at, slK_at, slK2_at, mtK_at, mtK2_at, isiK_at, consK_at, consK2_at, csK_at, csK2_t, csK2_f, someK_at, eltK_t, eltK_f, oneK_at, oneL_at, seqK_at, iteK_t, iteK_f, retK_at, noexR_ok, negM, intM, ↓msB_at, ↓msS_at, msB_ok, msB_ex, msS_msS, msS_nx, msS_rt, msS_ex, msS_bk, msS_ct, truthy, ↓bnd_at, bndR_ok, bndR_ex, of_some, ret_at, binop, iopM, ↓need_at, bindT, bindTs, indexM, setIxM, cmpM, eqM, inM, biM, lenM, listM, tupleM, get_at, put_at, new_at, ↓isi_cons_at, isi_nil_at, isiR_t, isiR_f, isTy, mtM, mtPre, appendM, upperM, isLst, isStr, itM, seq1, seqM, rng1, rng2, D.isNon, D.flat, D.flats, D.deep, D.deeps, D.eqv, D.eqvs, Nat.zero_le, Nat.max_self, and_self, lt0, lt1, lt2, lt3, atI0, atI1, atI2, atI3, ixN0, ixN1, ixN2, ixN3, getc0, getc1, getc2, getc3, getc4, getc5, getc6, getc7, getc8, setc0, setc1, setc2, setc3, setc4, setc5, setc6, setc7, setc8, id, Option.join_some, Option.join, Option.bind, Option.map, List.map_cons, List.map_nil, List.length_map, List.length_cons, List.length_nil, List.getElem?_cons_zero, List.getElem?_cons_succ, List.set_cons_zero, List.set_cons_succ, Nat.zero_add, List.append_nil, List.nil_append, List.cons_append, Int.reducePow, Int.reduceToNat, Int.zero_add, Int.cast_ofNat_Int, decide_true, decide_false, Bool.not_true, Bool.not_false, Bool.and_self, Bool.true_and, Bool.false_and, Bool.and_true, Nat.zero_max, Nat.max_zero, if_true, if_false, ite_true, ite_false, reduceIte, reduceCtorEq, Bool.false_eq_true, Bool.true_eq_false, or_true, true_or, and_true, true_and, or_false, false_or, Nat.reduceLT, Nat.reduceAdd, Nat.reduceLeDiff, Int.reduceLT, Int.reduceLE, Int.reduceAdd, Nat.zero_lt_succ, beq_self_eq_true, decide_eq_true_eq, e1', h8]
  refine wp_for (P := fun j ρ S => ∃ (t : Nat) (a b : Option D), ρ = [some (.fzl (ns.map .int)), some (.loc 1), a, b, none] ∧ S = drw l t []) (B := fun _ _ => False) ⟨0, none, none, rfl, rfl⟩ (by intros; rfl) ?_ ?_
  · rintro j x ρ S hx ⟨t, a, b, rfl, rfl⟩
    refine ⟨[some (.fzl (ns.map .int)), some (.loc 1), some x, b, none], rfl, ?_⟩
    obtain ⟨w, t', e2⟩ := hW t
    simp only [↓for_at, forS_at, lcS_at, ↓ev_non_at, ↓ev_bl_at, ↓ev_int_at, ↓ev_str_at, ↓ev_var_at, ↓ev_glob_at, ↓ev_op_at, ↓ev_neg_at, ↓ev_cmp_at, ↓ev_chain_at, ↓ev_not_at, ↓ev_and_at, ↓ev_or_at, ↓ev_ite_at, ↓ev_tup_at, ↓ev_lst_at, ↓ev_ix_at, ↓ev_slice_at, ↓ev_call_at, ↓ev_bi_at, ↓ev_mt_at, ↓ev_isi_at, ↓ev_lc_at, ↓evs_nil_at, ↓evs_cons_at, ↓evo_none_at, ↓evo_some_at, ↓evc_nil_at, ↓evc_cons_at, ↓ex_asg_at, ↓ex_asgIx_at, ↓ex_aug_at, ↓ex_expr_at, ↓ex_ite_at, ↓ex_ret_at, ↓ex_retN_at, ↓ex_raise_at, ↓ex_brk_at, ↓ex_cont_at, ↓ex_pass_at, ↓ex_while_at, ↓exs_nil_at, ↓exs_cons_at, asgK_at, asgR_ok, goOn_at, augK1_at, augK2_at, augK3_at, asgIxK_at, asgIxK2_at, asgIxK3_at, blK_at, nbK_at, opK_at, cmpK_at, cmpK2_at, chK_at, chK2_at, chK3_t, chK3_f, notK_at, andK_at, andK2_t, andK2_f, orK_at, orK2_t, orK2_f, ifK_at, ifK2_t, ifK2_f, tupK_at, lstK_at, ixK_at, slK_at, slK2_at, mtK_at, mtK2_at, isiK_at, consK_at, consK2_at, csK_at, csK2_t, csK2_f, someK_at, eltK_t, eltK_f, oneK_at, oneL_at, seqK_at, iteK_t, iteK_f, retK_at, noexR_ok, negM, intM, ↓msB_at, ↓msS_at, msB_ok, msB_ex, msS_msS, msS_nx, msS_rt, msS_ex, msS_bk, msS_ct, truthy, ↓bnd_at, bndR_ok, bndR_ex, of_some, ret_at, binop, iopM, ↓need_at, bindT, bindTs, indexM, setIxM, cmpM, eqM, inM, biM, lenM, listM, tupleM, get_at, put_at, new_at, ↓isi_cons_at, isi_nil_at, isiR_t, isiR_f, isTy, mtM, mtPre, appendM, upperM, isLst, isStr, itM, seq1, seqM, rng1, rng2, D.isNon, D.flat, D.flats, D.deep, D.deeps, D.eqv, D.eqvs, Nat.zero_le, Nat.max_self, and_self, lt0, lt1, lt2, lt3, atI0, atI1, atI2, atI3, ixN0, ixN1, ixN2, ixN3, getc0, getc1, getc2, getc3, getc4, getc5, getc6, getc7, getc8, setc0, setc1, setc2, setc3, setc4, setc5, setc6, setc7, setc8, id, Option.join_some, Option.join, Option.bind, Option.map, List.map_cons, List.map_nil, List.length_map, List.length_cons, List.length_nil, List.getElem?_cons_zero, List.getElem?_cons_succ, List.set_cons_zero, List.set_cons_succ, Nat.zero_add, List.append_nil, List.nil_append, List.cons_append, Int.reducePow, Int.reduceToNat, Int.zero_add, Int.cast_ofNat_Int, decide_true, decide_false, Bool.not_true, Bool.not_false, Bool.and_self, Bool.true_and, Bool.false_and, Bool.and_true, Nat.zero_max, Nat.max_zero, if_true, if_false, ite_true, ite_false, reduceIte, reduceCtorEq, Bool.false_eq_true, Bool.true_eq_false, or_true, true_or, and_true, true_and, or_false, false_or, Nat.reduceLT, Nat.reduceAdd, Nat.reduceLeDiff, Int.reduceLT, Int.reduceLE, Int.reduceAdd, Nat.zero_lt_succ, beq_self_eq_true, decide_eq_true_eq, e2, hi, hj, hq, wp_some, turn_nx]
    exact ⟨t', _, _, rfl, rfl⟩
  · rintro ρ S (⟨⟨⟩⟩ | ⟨t, a, b, rfl, rfl⟩)
    have b0 : ∀ S, cl.fn "is_name" [.non] S = some (.ok (.bl false), S) := fun S => hb _ S rfl
    have b1 : ∀ i S, cl.fn "is_name" [.int i] S = some (.ok (.bl false), S) := fun i S => hb _ S rfl
    have b2 : ∀ xs S, cl.fn "is_name" [.tup xs] S = some (.ok (.bl false), S) := fun xs S => hb _ S rfl
    have b3 : ∀ (x y : Cell) (xs : List D) S, cl.fn "is_name" [.loc 2] (x :: y :: .lst xs :: S) = some (.ok (.bl false), x :: y :: .lst xs :: S) := fun x y xs S => hb _ _ rfl
    have b4 : ∀ b S, cl.fn "is_name" [.bl b] S = some (.ok (.bl false), S) := fun b S => hb _ S rfl
    simp only [↓for_at, forS_at, lcS_at, ↓ev_non_at, ↓ev_bl_at, ↓ev_int_at, ↓ev_str_at, ↓ev_var_at, ↓ev_glob_at, ↓ev_op_at, ↓ev_neg_at, ↓ev_cmp_at, ↓ev_chain_at, ↓ev_not_at, ↓ev_and_at, ↓ev_or_at, ↓ev_ite_at, ↓ev_tup_at, ↓ev_lst_at, ↓ev_ix_at, ↓ev_slice_at, ↓ev_call_at, ↓ev_bi_at, ↓ev_mt_at, ↓ev_isi_at, ↓ev_lc_at, ↓evs_nil_at, ↓evs_cons_at, ↓evo_none_at, ↓evo_some_at, ↓evc_nil_at, ↓evc_cons_at, ↓ex_asg_at, ↓ex_asgIx_at, ↓ex_aug_at, ↓ex_expr_at, ↓ex_ite_at, ↓ex_ret_at, ↓ex_retN_at, ↓ex_raise_at, ↓ex_brk_at, ↓ex_cont_at, ↓ex_pass_at, ↓ex_while_at, ↓exs_nil_at, ↓exs_cons_at, asgK_at, asgR_ok, goOn_at, augK1_at, augK2_at, augK3_at, asgIxK_at, asgIxK2_at, asgIxK3_at, blK_at, nbK_at, opK_at, cmpK_at, cmpK2_at, chK_at, chK2_at, chK3_t, chK3_f, notK_at, andK_at, andK2_t, andK2_f, orK_at, orK2_t, orK2_f, ifK_at, ifK2_t, ifK2_f, tupK_at, lstK_at, ixK_at, slK_at, slK2_at, mtK_at, mtK2_at, isiK_at, consK_at, consK2_at, csK_at, csK2_t, csK2_f, someK_at, eltK_t, eltK_f, oneK_at, oneL_at, seqK_at, iteK_t, iteK_f, retK_at, noexR_ok, negM, intM, ↓msB_at, ↓msS_at, msB_ok, msB_ex, msS_msS, msS_nx, msS_rt, msS_ex, msS_bk, msS_ct, truthy, ↓bnd_at, bndR_ok, bndR_ex, of_some, ret_at, binop, iopM, ↓need_at, bindT, bindTs, indexM, setIxM, cmpM, eqM, inM, biM, lenM, listM, tupleM, get_at, put_at, new_at, ↓isi_cons_at, isi_nil_at, isiR_t, isiR_f, isTy, mtM, mtPre, appendM, upperM, isLst, isStr, itM, seq1, seqM, rng1, rng2, D.isNon, D.flat, D.flats, D.deep, D.deeps, D.eqv, D.eqvs, Nat.zero_le, Nat.max_self, and_self, lt0, lt1, lt2, lt3, atI0, atI1, atI2, atI3, ixN0, ixN1, ixN2, ixN3, getc0, getc1, getc2, getc3, getc4, getc5, getc6, getc7, getc8, setc0, setc1, setc2, setc3, setc4, setc5, setc6, setc7, setc8, id, Option.join_some, Option.join, Option.bind, Option.map, List.map_cons, List.map_nil, List.length_map, List.length_cons, List.length_nil, List.getElem?_cons_zero, List.getElem?_cons_succ, List.set_cons_zero, List.set_cons_succ, Nat.zero_add, List.append_nil, List.nil_append, List.cons_append, Int.reducePow, Int.reduceToNat, Int.zero_add, Int.cast_ofNat_Int, decide_true, decide_false, Bool.not_true, Bool.not_false, Bool.and_self, Bool.true_and, Bool.false_and, Bool.and_true, Nat.zero_max, Nat.max_zero, if_true, if_false, ite_true, ite_false, reduceIte, reduceCtorEq, Bool.false_eq_true, Bool.true_eq_false, or_true, true_or, and_true, true_and, or_false, false_or, Nat.reduceLT, Nat.reduceAdd, Nat.reduceLeDiff, Int.reduceLT, Int.reduceLE, Int.reduceAdd, Nat.zero_lt_succ, beq_self_eq_true, decide_eq_true_eq, forL_nil, forL_cons, forT_some, forR_nx, forR_ct, forR_bk, forR_rt, forR_ex, stays, List.all_cons, List.all_nil, b0, b1, b2, b3, b4, hq, wp_some]

end Mi


set_option Elab.async false
open PySem PySem.W PyProof.Rows
set_option maxRecDepth 100000 in
set_option maxHeartbeats 0 in
theorem PySem.Challenge.cw_sayso_k06_names_are_tested_holds : PySem.Challenge.rw_sayso_k06_names_are_tested.Holds := by
  w_on; o_law; k_head; (case hw => w_witness2)
  k_fill
  refine Mi.law_end (l := PySem.Challenge.rw_sayso_k06_names_are_tested) (p := Mi.prog) (pk := Mi.pk) (k := 30) (x := "law") (fn := Mi.f_law) (st := Mi.top 14) rfl rfl (fun w h Y => PySem.W.kIn_of Y) rfl (by decide) Mi.q_law rfl (by decide) Mi.law_ok ?F
  case F =>
    intro w mg h KX G
    have D_is_name : Mi.DefAt PySem.Challenge.rw_sayso_k06_names_are_tested.prog (Mi.kOf KX) mg Mi.prog Mi.pk "is_name" := by
      unfold Mi.kOf
      refine' Mi.defAt_mk KX G ?e ?l ?c ?k rfl Mi.q_is_name
      (case e => k_is); (case l => k_is); (case c => k_is); (case k => k_is)
    have D__law_mixed : Mi.DefAt PySem.Challenge.rw_sayso_k06_names_are_tested.prog (Mi.kOf KX) mg Mi.prog Mi.pk "_law_mixed" := by
      unfold Mi.kOf
      refine' Mi.defAt_mk KX G ?e ?l ?c ?k rfl Mi.q__law_mixed
      (case e => k_is); (case l => k_is); (case c => k_is); (case k => k_is)
    have D__law_numbers : Mi.DefAt PySem.Challenge.rw_sayso_k06_names_are_tested.prog (Mi.kOf KX) mg Mi.prog Mi.pk "_law_numbers" := by
      unfold Mi.kOf
      refine' Mi.defAt_mk KX G ?e ?l ?c ?k rfl Mi.q__law_numbers
      (case e => k_is); (case l => k_is); (case c => k_is); (case k => k_is)
    have D__law_draw : Mi.DefAt PySem.Challenge.rw_sayso_k06_names_are_tested.prog (Mi.kOf KX) mg Mi.prog Mi.pk "_law_draw" := by
      unfold Mi.kOf
      refine' Mi.defAt_mk KX G ?e ?l ?c ?k rfl Mi.q__law_draw
      (case e => k_is); (case l => k_is); (case c => k_is); (case k => k_is)
    have D__law_equal : Mi.DefAt PySem.Challenge.rw_sayso_k06_names_are_tested.prog (Mi.kOf KX) mg Mi.prog Mi.pk "_law_equal" := by
      unfold Mi.kOf
      refine' Mi.defAt_mk KX G ?e ?l ?c ?k rfl Mi.q__law_equal
      (case e => k_is); (case l => k_is); (case c => k_is); (case k => k_is)
    have D__law_all_equal : Mi.DefAt PySem.Challenge.rw_sayso_k06_names_are_tested.prog (Mi.kOf KX) mg Mi.prog Mi.pk "_law_all_equal" := by
      unfold Mi.kOf
      refine' Mi.defAt_mk KX G ?e ?l ?c ?k rfl Mi.q__law_all_equal
      (case e => k_is); (case l => k_is); (case c => k_is); (case k => k_is)
    have D__law_is_name : Mi.DefAt PySem.Challenge.rw_sayso_k06_names_are_tested.prog (Mi.kOf KX) mg Mi.prog Mi.pk "_law_is_name" := by
      unfold Mi.kOf
      refine' Mi.defAt_mk KX G ?e ?l ?c ?k rfl Mi.q__law_is_name
      (case e => k_is); (case l => k_is); (case c => k_is); (case k => k_is)
    have D__law_word : Mi.DefAt PySem.Challenge.rw_sayso_k06_names_are_tested.prog (Mi.kOf KX) mg Mi.prog Mi.pk "_law_word" := by
      unfold Mi.kOf
      refine' Mi.defAt_mk KX G ?e ?l ?c ?k rfl Mi.q__law_word
      (case e => k_is); (case l => k_is); (case c => k_is); (case k => k_is)
    have D_law : Mi.DefAt PySem.Challenge.rw_sayso_k06_names_are_tested.prog (Mi.kOf KX) mg Mi.prog Mi.pk "law" := by
      unfold Mi.kOf
      refine' Mi.defAt_mk KX G ?e ?l ?c ?k rfl Mi.q_law
      (case e => k_is); (case l => k_is); (case c => k_is); (case k => k_is)
    have G_FIGURES : Mi.GlAt (Mi.kOf KX) mg "FIGURES" (.str [48, 49, 50, 51, 52, 53, 54, 55, 56, 57]) := by
      unfold Mi.kOf
      refine' Mi.gl_str KX G ?e ?z (by decide) (by decide)
      (case e => k_is); (case z => decide +kernel)
    have G_LETTERS : Mi.GlAt (Mi.kOf KX) mg "LETTERS" (.str [97, 98, 99, 100, 101, 102, 103, 104, 105, 106, 107, 108, 109, 110, 111, 112, 113, 114, 115, 116, 117, 118, 119, 120, 121, 122]) := by
      unfold Mi.kOf
      refine' Mi.gl_str KX G ?e ?z (by decide) (by decide)
      (case e => k_is); (case z => decide +kernel)
    have G_LONGEST : Mi.GlAt (Mi.kOf KX) mg "LONGEST" (.int 12) := by
      unfold Mi.kOf
      refine' Mi.gl_int KX G ?e
      (case e => k_is)
    have G_WORDS : Mi.GlAt (Mi.kOf KX) mg "WORDS" (.tup [.str [97, 110, 100], .str [111, 114], .str [110, 111, 116], .str [115, 111, 109, 101], .str [97, 108, 108], .str [108, 102, 112], .str [112, 102, 112], .str [116, 99], .str [103, 117, 101, 115, 115], .str [116, 114, 117, 101], .str [102, 97, 108, 115, 101]]) := by
      unfold Mi.kOf
      refine' Mi.gl_tup KX G ?e ?l ?z ?f
      (case e => k_is); (case l => k_is); (case z => decide +kernel); (case f => decide +kernel)
    have B_bool : mg (Mi.nm "bool") = none := by
      refine' PySem.W.mg_none_of KX G ?e
      (case e => k_is)
    have B_int : mg (Mi.nm "int") = none := by
      refine' PySem.W.mg_none_of KX G ?e
      (case e => k_is)
    have B_isinstance : mg (Mi.nm "isinstance") = none := by
      refine' PySem.W.mg_none_of KX G ?e
      (case e => k_is)
    have B_len : mg (Mi.nm "len") = none := by
      refine' PySem.W.mg_none_of KX G ?e
      (case e => k_is)
    have B_list : mg (Mi.nm "list") = none := by
      refine' PySem.W.mg_none_of KX G ?e
      (case e => k_is)
    have B_range : mg (Mi.nm "range") = none := by
      refine' PySem.W.mg_none_of KX G ?e
      (case e => k_is)
    have B_str : mg (Mi.nm "str") = none := by
      refine' PySem.W.mg_none_of KX G ?e
      (case e => k_is)
    have B_tuple : mg (Mi.nm "tuple") = none := by
      refine' PySem.W.mg_none_of KX G ?e
      (case e => k_is)
    refine ⟨fun base => Mi.pr_mk (Mi.ball_cons D_is_name <| Mi.ball_cons D__law_mixed <| Mi.ball_cons D__law_numbers <| Mi.ball_cons D__law_draw <| Mi.ball_cons D__law_equal <| Mi.ball_cons D__law_all_equal <| Mi.ball_cons D__law_is_name <| Mi.ball_cons D__law_word <| Mi.ball_cons D_law <| Mi.ball_nil) (Mi.ball_cons B_bool <| Mi.ball_cons B_int <| Mi.ball_cons B_isinstance <| Mi.ball_cons B_len <| Mi.ball_cons B_list <| Mi.ball_cons B_range <| Mi.ball_cons B_str <| Mi.ball_cons B_tuple <| Mi.ball_nil) (Mi.ball_cons G_FIGURES <| Mi.ball_cons G_LETTERS <| Mi.ball_cons G_LONGEST <| Mi.ball_cons G_WORDS <| Mi.ball_nil), ?_⟩
    refine' Mi.fun_ex KX G ?e ?l ?c ?k
    (case e => k_is); (case l => k_is); (case c => k_is); (case k => k_is)

