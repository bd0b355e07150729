import PyProof.Rows.All
import Wide.All
import OpenK.AllK
import Wide.FinOn
import HandS.ForMost
import HandS.ForExc
import HandS.More
import HandS.IsInst
import HandS.Flow
import HandS.TupAny
import HandS.Codes
import HandS.TupMul
import HandS.SortInts
import HandS.SetKeys
import HandS.ExcCtx
import HandS.SuiteRaise
import HandS.RaiseFrom
import HandS.ExcIs
import HandS.Strs
import HandS.TupSets
import PySem.Challenge.RW_sayso_k20_negations_move_inward
set_option autoImplicit true
set_option maxRecDepth 512
set_option maxHeartbeats 200000
/-! Mi1: a small language for the programs at hand, its values, its store, and what it computes. Core Lean alone. -/
set_option autoImplicit false
namespace Mi

/-- a text: its code points -/
abbrev Tx := List Nat
def st (s : String) : Tx := s.toList.map Char.toNat

/-- data: whatever never changes; fzl, fzd, fzo: a list, a dict, an object that is only read; loc: a place of the store; xc: an error that was caught, by its class -/
inductive D where
  | non | bl (b : Bool) | int (i : Int) | str (s : Tx) | tup (xs : List D) | fzl (xs : List D) | scr (xs : List D) | fzd (ks vs : List D) | fzo (c : String) (ns : List String) (vs : List D) | loc (n : Nat) | xc (c : String)
  deriving Inhabited

mutual
def D.beq : D → D → Bool
  | .non, .non => true
  | .bl a, .bl b => a == b
  | .int a, .int b => decide (a = b)
  | .str a, .str b => decide (a = b)
  | .tup a, .tup b => D.beqs a b
  | .fzl a, .fzl b => D.beqs a b
  | .scr a, .scr b => D.beqs a b
  | .fzd a b, .fzd a' b' => D.beqs a a' && D.beqs b b'
  | .fzo c n a, .fzo c' n' a' => decide (c = c') && decide (n = n') && D.beqs a a'
  | .loc a, .loc b => decide (a = b)
  | .xc a, .xc b => decide (a = b)
  | _, _ => false
def D.beqs : List D → List D → Bool
  | [], [] => true
  | a :: as, b :: bs => D.beq a b && D.beqs as bs
  | _, _ => false
end
mutual
theorem D.beq_self : ∀ a : D, D.beq a a = true
  | .non => rfl
  | .bl a => by simp [D.beq]
  | .int a => by simp [D.beq]
  | .str a => by simp [D.beq]
  | .tup a => by rw [D.beq]; exact D.beqs_self a
  | .fzl a => by rw [D.beq]; exact D.beqs_self a
  | .scr a => by rw [D.beq]; exact D.beqs_self a
  | .fzd a b => by rw [D.beq, D.beqs_self a, D.beqs_self b]; rfl
  | .fzo c n a => by rw [D.beq, D.beqs_self a]; simp
  | .loc a => by simp [D.beq]
  | .xc a => by simp [D.beq]
theorem D.beqs_self : ∀ a : List D, D.beqs a a = true
  | [] => rfl
  | a :: as => by rw [D.beqs, D.beq_self a, D.beqs_self as]; rfl
end
mutual
theorem D.eq_of_beq : ∀ a b : D, D.beq a b = true → a = b
  | .non, b, h => by cases b <;> simp_all [D.beq]
  | .bl a, b, h => by cases b <;> simp_all [D.beq]
  | .int a, b, h => by cases b <;> simp_all [D.beq]
  | .str a, b, h => by cases b <;> simp_all [D.beq]
  | .tup a, b, h => by
    cases b <;> simp only [D.beq, Bool.false_eq_true] at h
    rw [D.eq_of_beqs a _ h]
  | .fzl a, b, h => by
    cases b <;> simp only [D.beq, Bool.false_eq_true] at h
    rw [D.eq_of_beqs a _ h]
  | .scr a, b, h => by
    cases b <;> simp only [D.beq, Bool.false_eq_true] at h
    rw [D.eq_of_beqs a _ h]
  | .fzd a a', b, h => by
    cases b <;> simp only [D.beq, Bool.false_eq_true, Bool.and_eq_true] at h
    rw [D.eq_of_beqs a _ h.1, D.eq_of_beqs a' _ h.2]
  | .fzo c n a, b, h => by
    cases b <;> simp only [D.beq, Bool.false_eq_true, Bool.and_eq_true, decide_eq_true_eq] at h
    rw [h.1.1, h.1.2, D.eq_of_beqs a _ h.2]
  | .loc a, b, h => by cases b <;> simp_all [D.beq]
  | .xc a, b, h => by cases b <;> simp_all [D.beq]
theorem D.eq_of_beqs : ∀ a b : List D, D.beqs a b = true → a = b
  | [], [], _ => rfl
  | a :: as, b :: bs, h => by
    rw [D.beqs, Bool.and_eq_true] at h
    rw [D.eq_of_beq a b h.1, D.eq_of_beqs as bs h.2]
  | [], _ :: _, h => by simp [D.beqs] at h
  | _ :: _, [], h => by simp [D.beqs] at h
end
instance : DecidableEq D := fun a b => if h : D.beq a b = true then .isTrue (D.eq_of_beq a b h) else .isFalse fun e => h (e ▸ D.beq_self a)

/-- what stands at a place: a list, a list that is only read, a dict, a set, an object of a class -/
inductive Cell where
  | lst (xs : List D) | dct (kvs : List (D × D)) | set (xs : List D) | obj (c : String) (fs : List (String × D))
  deriving DecidableEq, Inhabited

abbrev Store := List Cell
abbrev Env := List (Option D)
inductive Out (α : Type) where
  | ok (a : α) | ex (c : String)
abbrev M (α : Type) := Store → Option (Out α × Store)

namespace M
variable {α β : Type}
def ret (a : α) : M α := fun S => some (.ok a, S)
def fail : M α := fun _ => none
def raise (c : String) : M α := fun S => some (.ex c, S)
def bnd (m : M α) (f : α → M β) : M β := fun S => match m S with
  | none => none
  | some (.ex c, S') => some (.ex c, S')
  | some (.ok a, S') => f a S'
/-- stuck unless -/
def need (p : Prop) [Decidable p] (m : M α) : M α := fun S => if p then m S else none
def of (o : Option α) : M α := fun S => match o with
  | none => none
  | some a => some (.ok a, S)
def new (c : Cell) : M D := fun S => some (.ok (.loc S.length), S ++ [c])
def get (n : Nat) : M Cell := fun S => match S[n]? with
  | none => none
  | some c => some (.ok c, S)
def put (n : Nat) (c : Cell) : M Unit := fun S => if n < S.length then some (.ok (), S.set n c) else none
end M
open M

inductive O2 where | add | sub | mul | fdiv | mod | pow | shl | shr | band | addm
  deriving DecidableEq
inductive Cp where | eq | ne | lt | le | gt | ge | inn | nin | isN | notN
  deriving DecidableEq
inductive Ty where | int | str | bool | list | tuple | dict | cls (c : String)
  deriving DecidableEq
inductive Bi where | len | list | flist | tuple | sum | max | min | max2 | min2 | str | int | all | sorted | set | dict
  deriving DecidableEq
inductive Mt where | append | extend | pop | popAt | popD | get1 | get2 | setdefault | add | join | split | upper | index | count | find | isdigit | replace | insert
  deriving DecidableEq

inductive Tg where
  | nm (i : Nat) | tup (ts : List Tg)

/-- expressions; hole: one that is never reached -/
inductive Ex where
  | hole
  | non | bl (b : Bool) | int (i : Int) | str (s : Tx)
  | var (i : Nat)
  | glob (x : String)
  | op (o : O2) (a b : Ex)
  | neg (a : Ex)
  | cmp (c : Cp) (a b : Ex)
  | chain (c c' : Cp) (a b d : Ex)
  | not (a : Ex)
  | and (a b : Ex)
  | or (a b : Ex)
  | ite (c a b : Ex)
  | tup (xs : List Ex)
  | lst (xs : List Ex)
  | flst (xs : List Ex)
  | dct (ks vs : List Ex)
  | ix (a b : Ex)
  | slice (a : Ex) (lo hi : Option Ex)
  | fslice (a : Ex) (lo hi : Option Ex)
  | lenset (a : Ex)
  | call (f : String) (xs : List Ex)
  | bi (f : Bi) (xs : List Ex)
  | mt (m : Mt) (o : Ex) (xs : List Ex)
  | meth (o : Ex) (m : String) (xs : List Ex)
  | fld (o : Ex) (f : String)
  | new (c : String) (xs : List Ex)
  | isi (a : Ex) (ts : List Ty)
  | lc (z : Bool) (elt : Ex) (t : Tg) (k : Nat) (xs : List Ex) (cs : List Ex) (vs : List Nat)
  | dc (key val : Ex) (t : Tg) (k : Nat) (xs : List Ex) (cs : List Ex)
  | fstr (xs : List Ex)

/-- what a for walks: 0 a value, 1 range(a), 2 range(a, b), 3 range(a, b, c), 4 enumerate(a), 5 zip(a, b) -/
abbrev ItK := Nat

inductive St where
  | hole
  | asg (t : Tg) (e : Ex)
  | asgIx (o i e : Ex)
  | asgFld (o : Ex) (f : String) (e : Ex)
  | aug (i : Nat) (o : O2) (e : Ex)
  | augIx (a i : Ex) (o : O2) (e : Ex)
  | augFld (a : Ex) (f : String) (o : O2) (e : Ex)
  | expr (e : Ex)
  | ite (c : Ex) (a b : List St)
  | for (t : Tg) (k : ItK) (xs : List Ex) (body : List St)
  | while (c : Ex) (body : List St)
  | ret (e : Ex)
  | retN
  | raise (c : String)
  | raiseN (c : String)
  | try (body : List St) (h : String) (v : Option Nat) (suite : List St)
  | brk | cont | pass

/-- the most items of a list or signs of a text -/
def szl : Nat := 16777216

/-! ### values -/
/-- a whole number's or a truth value's number -/
def D.num : D → Option Int
  | .int i => some i
  | .bl b => some (if b then 1 else 0)
  | _ => none
mutual
/-- == of data without places -/
def D.eqv : D → D → Bool
  | .non, .non => true
  | .str a, .str b => decide (a = b)
  | .tup a, .tup b => D.eqvs a b
  | .fzl a, .fzl b => D.eqvs a b
  | .bl a, .bl b => a == b
  | .int a, .int b => decide (a = b)
  | .bl a, .int b => decide ((if a then 1 else 0) = b)
  | .int a, .bl b => decide (a = (if b then 1 else 0))
  | _, _ => false
def D.eqvs : List D → List D → Bool
  | [], [] => true
  | a :: as, b :: bs => D.eqv a b && D.eqvs as bs
  | _, _ => false
end
mutual
/-- how deep tuples stand within one another -/
def D.deep : D → Nat
  | .tup xs => D.deeps xs + 1
  | .fzl xs => D.deeps xs + 1
  | _ => 0
def D.deeps : List D → Nat
  | [] => 0
  | a :: as => max (D.deep a) (D.deeps as)
end
mutual
/-- data without places (and without errors) -/
def D.flat : D → Bool
  | .non => true
  | .bl _ => true
  | .int _ => true
  | .str _ => true
  | .tup xs => D.flats xs
  | .fzl xs => D.flats xs
  | _ => false
def D.flats : List D → Bool
  | [] => true
  | a :: as => D.flat a && D.flats as
end
mutual
/-- the places in a value are below n -/
def D.bel (n : Nat) : D → Bool
  | .loc i => decide (i < n)
  | .tup xs => D.bels n xs
  | .fzl xs => D.bels n xs
  | .scr xs => D.bels n xs
  | .fzd ks vs => D.bels n ks && D.bels n vs
  | .fzo _ _ vs => D.bels n vs
  | _ => true
def D.bels (n : Nat) : List D → Bool
  | [] => true
  | a :: as => D.bel n a && D.bels n as
end
def Cell.bel (n : Nat) : Cell → Bool
  | .lst xs => D.bels n xs
  | .dct kvs => D.bels n (kvs.map (·.1)) && D.bels n (kvs.map (·.2))
  | .set xs => D.bels n xs
  | .obj _ fs => D.bels n (fs.map (·.2))

def D.isNon : D → Bool
  | .non => true
  | _ => false
def truthy : D → M Bool
  | .non => ret false
  | .bl b => ret b
  | .int i => ret (i != 0)
  | .str s => ret (!s.isEmpty)
  | .tup xs => ret (!xs.isEmpty)
  | .fzl xs => ret (!xs.isEmpty)
  | .loc n => bnd (get n) fun c => match c with
    | .lst xs => ret (!xs.isEmpty)
    | _ => fail
  | _ => fail

/-- the places of an index -/
def ixN (n : Nat) (i : Int) : Option Nat := if 0 ≤ i then (if i < n then some i.toNat else none) else if -(n : Int) ≤ i then some (i + n).toNat else none
def atI {α : Type} (xs : List α) (i : Int) : Option α := (ixN xs.length i).bind fun j => xs[j]?
/-- a slice's bound -/
def sIx (n d : Nat) : Option Int → Nat
  | none => d
  | some v => if v < 0 then (v + n).toNat else min v.toNat n
def cut {α : Type} (xs : List α) (lo hi : Option Int) : List α := (xs.drop (sIx xs.length 0 lo)).take (sIx xs.length xs.length hi - sIx xs.length 0 lo)

/-- a key of a dict: a whole number or a text -/
def D.key : D → Bool
  | .int _ => true
  | .str _ => true
  | _ => false
def D.isStr : D → Bool
  | .str _ => true
  | _ => false
/-- may it be looked up among these keys -/
def keyFit (ks : List D) : D → Bool
  | .str _ => true
  | .int _ => ks.all fun k => !k.isStr
  | _ => false
def lookD (k : D) : List (D × D) → Option D
  | [] => none
  | (x, v) :: r => if x = k then some v else lookD k r
def lookF (k : D) : List D → List D → Option D
  | x :: ks, v :: vs => if x = k then some v else lookF k ks vs
  | _, _ => none
def putD (k v : D) (kvs : List (D × D)) : List (D × D) := if (kvs.any fun p => decide (p.1 = k)) = true then kvs.map fun p => if p.1 = k then (p.1, v) else p else kvs ++ [(k, v)]
/-- a value as it stands to be read: a place's list, dict or object -/
def viewC : Cell → Option D
  | .lst xs => some (.fzl xs)
  | .dct kvs => some (.fzd (kvs.map (·.1)) (kvs.map (·.2)))
  | .obj c fs => some (.fzo c (fs.map (·.1)) (fs.map (·.2)))
  | .set _ => none
def view : D → M D
  | .loc n => bnd (get n) fun c => of (viewC c)
  | d => ret d

def r62 (i : Int) : Bool := decide (-(2 ^ 62) ≤ i ∧ i < 2 ^ 62)
def i64 (i : Int) : Bool := decide (-(2 ^ 64) < i ∧ i < 2 ^ 64)
def catF : D → D → M D
  | .fzl xs, .fzl ys => need (xs.length + ys.length ≤ szl) (ret (.fzl (xs ++ ys)))
  | _, _ => fail
def catP : D → D → M D
  | .fzl xs, .fzl ys => need (xs.length + ys.length ≤ szl) (new (.lst (xs ++ ys)))
  | _, _ => fail
def binop : O2 → D → D → M D
  | .add, .int a, .int b => ret (.int (a + b))
  | .sub, .int a, .int b => ret (.int (a - b))
  | .mul, .int a, .int b => need (i64 a = true ∨ i64 b = true) (ret (.int (a * b)))
  | .fdiv, .int a, .int b => need (0 < b ∧ b < 1073741824) (ret (.int (a / b)))
  | .mod, .int a, .int b => need (0 < b) (ret (.int (a % b)))
  | .pow, .int a, .int b => need (0 ≤ b ∧ b ≤ 1000000 ∧ a.natAbs < 2 ^ 64) (ret (.int (a ^ b.toNat)))
  | .shl, .int a, .int b => need (0 ≤ b ∧ b ≤ 1000000 ∧ a.natAbs < 2 ^ 64) (ret (.int (a * 2 ^ b.toNat)))
  | .shr, .int a, .int b => need (0 ≤ b) (ret (.int (a / 2 ^ b.toNat)))
  | .add, .str a, .str b => need (a.length + b.length ≤ szl) (ret (.str (a ++ b)))
  | .add, .tup a, .tup b => need (a.length + b.length ≤ szl) (ret (.tup (a ++ b)))
  | .add, x, y => bnd (view x) fun x => bnd (view y) (catF x)
  | .addm, x, y => bnd (view x) fun x => bnd (view y) (catP x)
  | .mul, .tup xs, .int k => need (xs ≠ [] ∧ 2 ≤ k ∧ k ≤ 1000 ∧ xs.length ≤ 1000) (ret (.tup (List.replicate k.toNat xs).flatten))
  | _, _, _ => fail

/-- x op= y -/
def iopM (o : O2) : D → D → M D
  | .int a, .int b => binop o (.int a) (.int b)
  | .str a, .str b => binop o (.str a) (.str b)
  | _, _ => fail
def addI : O2 → D → D → M D
  | .add, .int a, .int b => ret (.int (a + b))
  | _, _, _ => fail
/-- x == y: of data, or of two lists of data -/
def eqM (x y : D) : M Bool := bnd (view x) fun x => bnd (view y) fun y => need (D.flat x = true ∧ D.flat y = true ∧ D.deep x ≤ 64 ∧ D.deep y ≤ 64) (ret (D.eqv x y))
def inF : D → D → M Bool
  | .str [c], .str b => ret (decide (c ∈ b))
  | x, .tup ys => need (D.flat x = true ∧ D.flats ys = true ∧ D.deep x ≤ 64 ∧ D.deeps ys < 64) (ret (ys.any fun y => D.eqv y x))
  | x, .fzl ys => need (D.flat x = true ∧ D.flats ys = true ∧ D.deep x ≤ 64 ∧ D.deeps ys < 64) (ret (ys.any fun y => D.eqv y x))
  | x, .fzd ks vs => need (keyFit ks x = true) (ret (lookF x ks vs).isSome)
  | _, _ => fail
def inM (x y : D) : M Bool := bnd (view y) (inF x)
def cmpM : Cp → D → D → M Bool
  | .eq, x, y => eqM x y
  | .ne, x, y => bnd (eqM x y) fun b => ret (!b)
  | .lt, .int a, .int b => ret (decide (a < b))
  | .le, .int a, .int b => ret (decide (a ≤ b))
  | .gt, .int a, .int b => ret (decide (b < a))
  | .ge, .int a, .int b => ret (decide (b ≤ a))
  | .inn, x, y => inM x y
  | .nin, x, y => bnd (inM x y) fun b => ret (!b)
  | .isN, x, .non => ret x.isNon
  | .notN, x, .non => ret (!x.isNon)
  | _, _, _ => fail

def indexF : D → D → M D
  | .tup xs, .int i => of (atI xs i)
  | .fzl xs, .int i => of (atI xs i)
  | .str s, .int i => of ((atI s i).map fun c => .str [c])
  | .fzd ks vs, k => need (keyFit ks k = true) (of (lookF k ks vs))
  | _, _ => fail
def indexM (x k : D) : M D := bnd (view x) fun x => indexF x k
def sliceF : D → Option Int → Option Int → M D
  | .tup xs, lo, hi => ret (.tup (cut xs lo hi))
  | .fzl xs, lo, hi => ret (.fzl (cut xs lo hi))
  | .str s, lo, hi => ret (.str (cut s lo hi))
  | _, _, _ => fail
/-- frozen -/
def sliceM (x : D) (lo hi : Option Int) : M D := bnd (view x) fun x => sliceF x lo hi
/-- a place -/
def slicePF (lo hi : Option Int) : D → M D
  | .fzl xs => new (.lst (cut xs lo hi))
  | _ => fail
def sliceP (x : D) (lo hi : Option Int) : M D := bnd (view x) (slicePF lo hi)
def setIxC (n : Nat) (k v : D) : Cell → M Unit
  | .lst xs => match k with
    | .int i => bnd (of (ixN xs.length i)) fun j => put n (.lst (xs.set j v))
    | _ => fail
  | .dct kvs => need (k.key = true ∧ kvs.length < szl) (put n (.dct (putD k v kvs)))
  | _ => fail
def setIxM : D → D → D → M Unit
  | .loc n, k, v => bnd (get n) (setIxC n k v)
  | _, _, _ => fail

def isTy (S : Store) : D → Ty → Option Bool
  | .non, _ => some false
  | .bl _, t => some (decide (t = .bool ∨ t = .int))
  | .int _, t => some (decide (t = .int))
  | .str _, t => some (decide (t = .str))
  | .tup _, t => some (decide (t = .tuple))
  | .fzl _, t => some (decide (t = .list))
  | .loc n, t => match S[n]? with
    | some (.lst _) => some (decide (t = .list))
    | _ => none
  | _, _ => none
def isiM (d : D) : List Ty → M Bool
  | [] => ret false
  | t :: ts => fun S => match isTy S d t with
    | none => none
    | some true => some (.ok true, S)
    | some false => isiM d ts S

def lenF : D → M D
  | .str s => ret (.int s.length)
  | .tup xs => ret (.int xs.length)
  | .fzl xs => ret (.int xs.length)
  | _ => fail
def lenM : List D → M D
  | [x] => bnd (view x) lenF
  | _ => fail
/-- a sequence's items -/
def itemsF : D → M (List D)
  | .tup xs => ret xs
  | .fzl xs => ret xs
  | _ => fail
def listM : List D → M D
  | [x] => bnd (bnd (view x) itemsF) fun xs => new (.lst xs)
  | _ => fail
def flistM : List D → M D
  | [x] => bnd (bnd (view x) itemsF) fun xs => ret (.fzl xs)
  | _ => fail
def tupleM : List D → M D
  | [x] => bnd (bnd (view x) itemsF) fun xs => ret (.tup xs)
  | _ => fail
/-- whole numbers and nothing else -/
def intsO : List D → Option (List Int)
  | [] => some []
  | .int i :: r => (intsO r).map (i :: ·)
  | _ => none
/-- a list's items -/
def lstF : D → M (List D)
  | .fzl xs => ret xs
  | _ => fail
def sumM : List D → M D
  | [x] => bnd (bnd (view x) lstF) fun xs => bnd (of (intsO xs)) fun is => ret (.int is.sum)
  | _ => fail
def maxI : List Int → Option Int
  | [] => none
  | i :: r => some (r.foldl (fun a b => if b > a then b else a) i)
def maxM : List D → M D
  | [x] => bnd (bnd (view x) lstF) fun xs => bnd (of (intsO xs)) fun is => bnd (of (maxI is)) fun i => ret (.int i)
  | _ => fail
def intF : List D → M D
  | [.int i] => ret (.int i)
  | [.bl k] => ret (.int (if k then 1 else 0))
  | _ => fail
def max2F : List D → M D
  | [.int i, .int j] => ret (.int (if j > i then j else i))
  | _ => fail
def min2F : List D → M D
  | [.int i, .int j] => ret (.int (if j < i then j else i))
  | _ => fail
def dictC : Cell → M D
  | .dct kvs => new (.dct kvs)
  | _ => fail
def dictM : List D → M D
  | [.loc n] => bnd (get n) dictC
  | _ => fail
def biM : Bi → List D → M D
  | .int, ds => intF ds
  | .max2, ds => max2F ds
  | .min2, ds => min2F ds
  | .len, ds => lenM ds
  | .list, ds => listM ds
  | .flist, ds => flistM ds
  | .tuple, ds => tupleM ds
  | .dict, ds => dictM ds
  | .sum, ds => sumM ds
  | .max, ds => maxM ds
  | _, _ => fail
/-- what a method's receiver must be, ahead of the arguments -/
def isLst (d : D) : M Unit := match d with
  | .loc n => bnd (get n) fun c => match c with
    | .lst _ => ret ()
    | _ => fail
  | _ => fail
def isDct (d : D) : M Unit := match d with
  | .loc n => bnd (get n) fun c => match c with
    | .dct _ => ret ()
    | _ => fail
  | _ => fail
def isDF : D → M Unit
  | .fzd _ _ => ret ()
  | _ => fail
def isD (d : D) : M Unit := bnd (view d) isDF
def isStr (d : D) : M Unit := match d with
  | .str _ => ret ()
  | _ => fail
def mtPre : Mt → D → M Unit
  | .append, d => isLst d
  | .extend, d => isLst d
  | .pop, d => isLst d
  | .popAt, d => isLst d
  | .setdefault, d => isDct d
  | .get1, d => isD d
  | .get2, d => isD d
  | .upper, d => isStr d
  | _, _ => fail
/-- upper of signs below 128 -/
def upTx (s : Tx) : Tx := s.map fun c => if 97 ≤ c ∧ c ≤ 122 then c - 32 else c
def appendM : D → List D → M D
  | .loc n, [v] => bnd (get n) fun c => match c with
    | .lst xs => need (xs.length < szl) (bnd (put n (.lst (xs ++ [v]))) fun _ => ret .non)
    | _ => fail
  | _, _ => fail
def retK (d : D) (_ : Unit) : M D := ret d
def extF (n : Nat) (xs : List D) : D → M D
  | .fzl ys => need (xs.length + ys.length ≤ szl) (bnd (put n (.lst (xs ++ ys))) (retK .non))
  | _ => fail
def extC (n : Nat) (v : D) : Cell → M D
  | .lst xs => bnd (view v) (extF n xs)
  | _ => fail
def extendM : D → List D → M D
  | .loc n, [v] => bnd (get n) (extC n v)
  | _, _ => fail
def popC (n : Nat) : Cell → M D
  | .lst xs => bnd (of xs.getLast?) fun d => bnd (put n (.lst xs.dropLast)) (retK d)
  | _ => fail
def popM : D → List D → M D
  | .loc n, [] => bnd (get n) (popC n)
  | _, _ => fail
def popAtC (n : Nat) (i : Int) : Cell → M D
  | .lst xs => need (r62 i = true) (bnd (of (ixN xs.length i)) fun j => bnd (of xs[j]?) fun d => bnd (put n (.lst (xs.eraseIdx j))) (retK d))
  | _ => fail
def popAtM : D → List D → M D
  | .loc n, [.int i] => bnd (get n) (popAtC n i)
  | _, _ => fail
def sdfO (n : Nat) (k v : D) (kvs : List (D × D)) : Option D → M D
  | some u => ret u
  | none => bnd (put n (.dct (kvs ++ [(k, v)]))) (retK v)
def sdfC (n : Nat) (k v : D) : Cell → M D
  | .dct kvs => need (k.key = true ∧ kvs.length < szl) (sdfO n k v kvs (lookD k kvs))
  | _ => fail
def setdefaultM : D → List D → M D
  | .loc n, [k, v] => bnd (get n) (sdfC n k v)
  | _, _ => fail
def getF (x k d : D) : M D := match x with
  | .fzd ks vs => need (keyFit ks k = true) (ret ((lookF k ks vs).getD d))
  | _ => fail
def get1M : D → List D → M D
  | x, [k] => bnd (view x) fun x => getF x k .non
  | _, _ => fail
def get2M : D → List D → M D
  | x, [k, d] => bnd (view x) fun x => getF x k d
  | _, _ => fail
def upperM : D → List D → M D
  | .str s, [] => need (s.all (fun c => decide (c < 128)) = true ∧ s.length ≤ 5592405) (ret (.str (upTx s)))
  | _, _ => fail
def mtM : Mt → D → List D → M D
  | .append, x, ds => appendM x ds
  | .extend, x, ds => extendM x ds
  | .pop, x, ds => popM x ds
  | .popAt, x, ds => popAtM x ds
  | .setdefault, x, ds => setdefaultM x ds
  | .get1, x, ds => get1M x ds
  | .get2, x, ds => get2M x ds
  | .upper, x, ds => upperM x ds
  | _, _, _ => fail

mutual
def bindT : Tg → D → Env → Option Env
  | .nm i, d, ρ => if i < ρ.length then some (ρ.set i (some d)) else none
  | .tup ts, .tup xs, ρ => bindTs ts xs ρ
  | .tup _, _, _ => none
def bindTs : List Tg → List D → Env → Option Env
  | [], [], ρ => some ρ
  | t :: ts, x :: xs, ρ => (bindT t x ρ).bind fun ρ' => bindTs ts xs ρ'
  | _, _, _ => none
end

/-- the items that a for walks, and what must stay meanwhile -/
abbrev Src := List D × List (Nat × Cell)
def rangeD (lo : Int) (n : Nat) : List D := (List.range n).map fun (k : Nat) => .int (lo + (k : Int))
def seqM : D → M Src
  | .tup xs => ret (xs, [])
  | .fzl xs => ret (xs, [])
  | .scr xs => ret (xs, [])
  | .str s => ret (s.map fun c => .str [c], [])
  | .loc n => bnd (get n) fun c => match c with
    | .lst xs => ret (xs, [(n, c)])
    | _ => fail
  | _ => fail
def seq1 : List D → M Src
  | [d] => seqM d
  | _ => fail
def rng1 : List D → M Src
  | [.int a] => need (r62 a = true) (ret (rangeD 0 a.toNat, []))
  | _ => fail
def rng2 : List D → M Src
  | [.int a, .int b] => need (r62 a = true ∧ r62 b = true) (ret (rangeD a (b - a).toNat, []))
  | _ => fail
def itM : ItK → List D → M Src
  | 0, ds => seq1 ds
  | 1, ds => rng1 ds
  | 2, ds => rng2 ds
  | _, _ => fail
def stays (S : Store) (g : List (Nat × Cell)) : Bool := g.all fun p => decide (S[p.1]? = some p.2)

/-- the calls: a def by its name, a method by class and name, a new object -/
structure Cl where
  fn : String → List D → M D
  mt : String → String → List D → M D
  gl : String → Option D
  made : String → List D → M D
  fl : String → String → Bool
  mo : String → String → Bool
  sub : String → String → Option Bool

/-! ### objects -/
/-- the names that an object bears are fields of its class, and so is f -/
def flOk (cl : Cl) (c f : String) (fs : List (String × D)) : Bool := cl.fl c f && fs.all fun p => cl.fl c p.1
def putFd (f : String) (d : D) : List (String × D) → List (String × D)
  | [] => [(f, d)]
  | (g, x) :: r => if g = f then (g, d) :: r else (g, x) :: putFd f d r
def lookN (f : String) : List String → List D → Option D
  | g :: ns, v :: vs => if g = f then some v else lookN f ns vs
  | _, _ => none
def fldF (cl : Cl) (f : String) : D → M D
  | .fzo c ns vs => need (cl.fl c f = true ∧ (ns.all fun g => cl.fl c g) = true) (of (lookN f ns vs))
  | _ => fail
def fldM (cl : Cl) (f : String) (x : D) : M D := bnd (view x) (fldF cl f)
def setFldC (cl : Cl) (n : Nat) (f : String) (v : D) : Cell → M Unit
  | .obj c fs => need (flOk cl c f fs = true ∧ fs.length < 1000) (put n (.obj c (putFd f v fs)))
  | _ => fail
def setFldM (cl : Cl) (f : String) (v : D) : D → M Unit
  | .loc n => bnd (get n) (setFldC cl n f v)
  | _ => fail
/-- the class whose method m is asked -/
def clsF (cl : Cl) (m : String) : D → M String
  | .fzo c ns _ => need (cl.mo c m = true ∧ (ns.all fun g => cl.fl c g) = true) (ret c)
  | _ => fail
def clsM (cl : Cl) (m : String) (x : D) : M String := bnd (view x) (clsF cl m)

def isNonM (o : D) : D → M D
  | .non => ret o
  | _ => fail
def newM (cl : Cl) (c : String) (ds : List D) : M D := bnd (new (.obj c [])) fun o => bnd (cl.made c (o :: ds)) (isNonM o)

/-- len(set(x)) of texts -/
def strsO : List D → Option (List Tx)
  | [] => some []
  | .str s :: r => (strsO r).map (s :: ·)
  | _ => none
/-- each text once -/
def once : List Tx → List Tx
  | [] => []
  | x :: r => if x ∈ r then once r else x :: once r
def lensetM : D → M D
  | .tup xs => bnd (of (strsO xs)) fun ss => need (ss.length < 4000) (ret (.int (once ss).length))
  | _ => fail
/-- slots forgotten -/
def wipeE (ρ : Env) : List Nat → Env
  | [] => ρ
  | v :: vs => (wipeE ρ vs).set v none
/-- no error is let out -/
def noex {α : Type} (m : M α) : M α := fun S => match m S with
  | some (.ok a, S') => some (.ok a, S')
  | _ => none
/-- a comprehension's turns: what the element is worth, what is done with it -/
def compL (g : List (Nat × Cell)) (one : D → M (Option D)) : List D → List D → M (List D)
  | [], acc => fun S => if stays S g = true then some (.ok acc, S) else none
  | x :: xs, acc => fun S => if stays S g = true then match one x S with
      | some (.ok none, S') => compL g one xs acc S'
      | some (.ok (some y), S') => if acc.length < szl then compL g one xs (acc ++ [y]) S' else none
      | _ => none
    else none

/-- a comprehension's list: only read from then on (z), or a place -/
def lcG (z : Bool) (m : M (List D)) : M D := fun S => match m S with
  | none => none
  | some (.ex c, S') => some (.ex c, S')
  | some (.ok ys, S') => if z then some (.ok (.fzl ys), S') else some (.ok (.loc S'.length), S' ++ [.lst ys])
mutual
def evE (cl : Cl) : Ex → Env → M D
  | .hole, _ => fail
  | .non, _ => ret .non
  | .bl b, _ => ret (.bl b)
  | .int i, _ => ret (.int i)
  | .str s, _ => ret (.str s)
  | .var i, ρ => of (ρ[i]?.join)
  | .glob x, _ => of (cl.gl x)
  | .op o a b, ρ => bnd (evE cl a ρ) fun x => bnd (evE cl b ρ) fun y => binop o x y
  | .neg a, ρ => bnd (evE cl a ρ) fun x => match x with
    | .int i => ret (.int (-i))
    | _ => fail
  | .cmp c a b, ρ => bnd (evE cl a ρ) fun x => bnd (evE cl b ρ) fun y => bnd (cmpM c x y) fun k => ret (.bl k)
  | .chain c c' a b d, ρ => bnd (evE cl a ρ) fun x => bnd (evE cl b ρ) fun y => bnd (cmpM c x y) fun k =>
      if k then bnd (evE cl d ρ) fun z => bnd (cmpM c' y z) fun k' => ret (.bl k') else ret (.bl false)
  | .not a, ρ => bnd (evE cl a ρ) fun x => bnd (truthy x) fun k => ret (.bl (!k))
  | .and a b, ρ => bnd (evE cl a ρ) fun x => bnd (truthy x) fun k => if k then evE cl b ρ else ret x
  | .or a b, ρ => bnd (evE cl a ρ) fun x => bnd (truthy x) fun k => if k then ret x else evE cl b ρ
  | .ite c a b, ρ => bnd (evE cl c ρ) fun x => bnd (truthy x) fun k => if k then evE cl a ρ else evE cl b ρ
  | .tup xs, ρ => bnd (evEs cl xs ρ) fun ds => ret (.tup ds)
  | .lst xs, ρ => bnd (evEs cl xs ρ) fun ds => new (.lst ds)
  | .flst xs, ρ => bnd (evEs cl xs ρ) fun ds => ret (.fzl ds)
  | .dct ks _, _ => match ks with
    | [] => new (.dct [])
    | _ => fail
  | .ix a b, ρ => bnd (evE cl a ρ) fun x => bnd (evE cl b ρ) fun y => indexM x y
  | .slice a lo hi, ρ => bnd (evE cl a ρ) fun x => bnd (evO cl lo ρ) fun l => bnd (evO cl hi ρ) fun h => sliceP x l h
  | .fslice a lo hi, ρ => bnd (evE cl a ρ) fun x => bnd (evO cl lo ρ) fun l => bnd (evO cl hi ρ) fun h => sliceM x l h
  | .lenset a, ρ => bnd (evE cl a ρ) lensetM
  | .call f xs, ρ => bnd (evEs cl xs ρ) fun ds => cl.fn f ds
  | .bi f xs, ρ => bnd (evEs cl xs ρ) fun ds => biM f ds
  | .mt m o xs, ρ => bnd (evE cl o ρ) fun x => bnd (mtPre m x) fun _ => bnd (evEs cl xs ρ) fun ds => mtM m x ds
  | .meth o m xs, ρ => bnd (evE cl o ρ) fun x => bnd (clsM cl m x) fun c => bnd (evEs cl xs ρ) fun ds => cl.mt c m (x :: ds)
  | .fld o f, ρ => bnd (evE cl o ρ) (fldM cl f)
  | .new c xs, ρ => bnd (evEs cl xs ρ) (newM cl c)
  | .isi a ts, ρ => bnd (evE cl a ρ) fun x => bnd (isiM x ts) fun k => ret (.bl k)
  | .lc z elt t k xs cs vs, ρ => bnd (bnd (evEs cl xs ρ) (itM k)) fun src =>
      lcG z (compL src.2 (fun x => bnd (of (bindT t x (wipeE ρ vs))) fun ρ' => noex (bnd (evCs cl cs ρ') fun c => if c then bnd (evE cl elt ρ') fun y => ret (some y) else ret none)) src.1 [])
  | .dc _ _ _ _ _ _, _ => fail
  | .fstr _, _ => fail
def evEs (cl : Cl) : List Ex → Env → M (List D)
  | [], _ => ret []
  | e :: es, ρ => bnd (evE cl e ρ) fun x => bnd (evEs cl es ρ) fun xs => ret (x :: xs)
def evO (cl : Cl) : Option Ex → Env → M (Option Int)
  | none, _ => ret none
  | some e, ρ => bnd (evE cl e ρ) fun x => match x with
    | .int i => ret (some i)
    | _ => fail
def evCs (cl : Cl) : List Ex → Env → M Bool
  | [], _ => ret true
  | c :: cs, ρ => bnd (evE cl c ρ) fun x => bnd (truthy x) fun k => if k then evCs cl cs ρ else ret false
end

/-! ### statements -/
inductive Ctl where
  | nx (ρ : Env) | rt (d : D) | bk (ρ : Env) | ct (ρ : Env) | ex (c : String) (ρ : Env)
abbrev MS := Store → Option (Ctl × Store)
/-- an expression first -/
def MS.bnd {α : Type} (ρ : Env) (m : M α) (f : α → MS) : MS := fun S => match m S with
  | none => none
  | some (.ex c, S') => some (.ex c ρ, S')
  | some (.ok a, S') => f a S'
def MS.seq (m : MS) (f : Env → MS) : MS := fun S => match m S with
  | some (.nx ρ, S') => f ρ S'
  | r => r
def forL (t : Tg) (g : List (Nat × Cell)) (body : Env → MS) : List D → Env → MS
  | [], ρ => fun S => if stays S g = true then some (.nx ρ, S) else none
  | x :: xs, ρ => fun S => if stays S g = true then match bindT t x ρ with
      | none => none
      | some ρ' => match body ρ' S with
        | some (.nx ρ2, S2) => forL t g body xs ρ2 S2
        | some (.ct ρ2, S2) => forL t g body xs ρ2 S2
        | some (.bk ρ2, S2) => some (.nx ρ2, S2)
        | r => r
    else none
/-- at most so many turns -/
def whileL (c : Env → M Bool) (body : Env → MS) : Nat → Env → MS
  | 0, _ => fun _ => none
  | n + 1, ρ => MS.bnd ρ (c ρ) fun k => if k then (fun S => match body ρ S with
        | some (.nx ρ2, S2) => whileL c body n ρ2 S2
        | some (.ct ρ2, S2) => whileL c body n ρ2 S2
        | some (.bk ρ2, S2) => some (.nx ρ2, S2)
        | r => r)
      else fun S => some (.nx ρ, S)
/-- the most turns of a while that are looked at -/
def wmax : Nat := 2 ^ 100

def evT (cl : Cl) (e : Ex) (ρ : Env) : M Bool := bnd (evE cl e ρ) truthy

/-! ### suites of except: what they say of the error, and that without the store -/
/-- c: the error's class -/
def quE (sub : String → String → Option Bool) (c : String) (i : Nat) : Ex → Env → Option D
  | .non, _ => some .non
  | .bl b, _ => some (.bl b)
  | .int k, _ => some (.int k)
  | .str s, _ => some (.str s)
  | .var j, ρ => if j = i then none else ρ[j]?.join
  | .isi (.var j) [.cls T], _ => if j = i then (sub c T).map .bl else none
  | .not a, ρ => match quE sub c i a ρ with
    | some (.bl b) => some (.bl (!b))
    | _ => none
  | .and a b, ρ => match quE sub c i a ρ with
    | some (.bl true) => quE sub c i b ρ
    | some (.bl false) => some (.bl false)
    | _ => none
  | .or a b, ρ => match quE sub c i a ρ with
    | some (.bl false) => quE sub c i b ρ
    | some (.bl true) => some (.bl true)
    | _ => none
  | _, _ => none
def quEs (sub : String → String → Option Bool) (c : String) (i : Nat) : List Ex → Env → Option (List D)
  | [], _ => some []
  | e :: es, ρ => match quE sub c i e ρ with
    | some d => (quEs sub c i es ρ).map (d :: ·)
    | none => none
mutual
def quS (sub : String → String → Option Bool) (c : String) (i : Nat) : St → Env → Option Ctl
  | .pass, ρ => some (.nx ρ)
  | .asg (.nm j) e, ρ => if j = i then none else match quE sub c i e ρ with
    | some d => if j < ρ.length then some (.nx (ρ.set j (some d))) else none
    | none => none
  | .ret (.tup es), ρ => (quEs sub c i es ρ).map fun ds => .rt (.tup ds)
  | .ret e, ρ => (quE sub c i e ρ).map .rt
  | .raiseN x, ρ => some (.ex x ρ)
  | .ite a s t, ρ => match quE sub c i a ρ with
    | some (.bl true) => quSs sub c i s ρ
    | some (.bl false) => quSs sub c i t ρ
    | _ => none
  | _, _ => none
def quSs (sub : String → String → Option Bool) (c : String) (i : Nat) : List St → Env → Option Ctl
  | [], ρ => some (.nx ρ)
  | s :: ss, ρ => match quS sub c i s ρ with
    | some (.nx ρ') => quSs sub c i ss ρ'
    | r => r
end
/-- the error's slot is empty behind the suite -/
def Ctl.wipe (i : Nat) : Ctl → Ctl
  | .nx ρ => .nx (ρ.set i none)
  | .ex c ρ => .ex c (ρ.set i none)
  | r => r
/-- a slot that is none of the def's -/
def noSlot : Nat := 2 ^ 40
/-- try .. except h: suite -/
def tryR (cl : Cl) (h : String) (v : Option Nat) (suite : List St) : Option (Ctl × Store) → Option (Ctl × Store)
  | some (.ex c ρ, S) => match cl.sub c h with
    | some true => match v with
      | none => (quSs cl.sub c noSlot suite ρ).map fun r => (r, S)
      | some i => if i < ρ.length then (quSs cl.sub c i suite (ρ.set i none)).map fun r => (r.wipe i, S) else none
    | some false => some (.ex c ρ, S)
    | none => none
  | r => r
def tryL (cl : Cl) (h : String) (v : Option Nat) (suite : List St) (m : MS) : MS := fun S => tryR cl h v suite (m S)

mutual
def exS (cl : Cl) : St → Env → MS
  | .hole, _ => fun _ => none
  | .asg t e, ρ => .bnd ρ (evE cl e ρ) fun x S => match bindT t x ρ with
    | none => none
    | some ρ' => some (.nx ρ', S)
  | .asgIx o i e, ρ => .bnd ρ (evE cl e ρ) fun v => .bnd ρ (evE cl o ρ) fun x => .bnd ρ (evE cl i ρ) fun k => .bnd ρ (setIxM x k v) fun _ S => some (.nx ρ, S)
  | .asgFld o f e, ρ => .bnd ρ (evE cl e ρ) fun v => .bnd ρ (evE cl o ρ) fun x => .bnd ρ (setFldM cl f v x) fun _ S => some (.nx ρ, S)
  | .aug i o e, ρ => .bnd ρ (of (ρ[i]?.join)) fun x => .bnd ρ (evE cl e ρ) fun y => .bnd ρ (iopM o x y) fun z S => some (.nx (ρ.set i (some z)), S)
  | .augIx _ _ _ _, _ => fun _ => none
  | .augFld a f o e, ρ => .bnd ρ (evE cl a ρ) fun x => .bnd ρ (fldM cl f x) fun u => .bnd ρ (evE cl e ρ) fun v => .bnd ρ (addI o u v) fun z => .bnd ρ (setFldM cl f z x) fun _ S => some (.nx ρ, S)
  | .expr e, ρ => .bnd ρ (evE cl e ρ) fun _ S => some (.nx ρ, S)
  | .ite c a b, ρ => .bnd ρ (evT cl c ρ) fun k => if k then exSs cl a ρ else exSs cl b ρ
  | .for t k xs body, ρ => .bnd ρ (bnd (evEs cl xs ρ) (itM k)) fun src => forL t src.2 (exSs cl body) src.1 ρ
  | .while c body, ρ => whileL (evT cl c) (exSs cl body) wmax ρ
  | .ret e, ρ => .bnd ρ (evE cl e ρ) fun x S => some (.rt x, S)
  | .retN, _ => fun S => some (.rt .non, S)
  | .raise c, ρ => fun S => some (.ex c ρ, S)
  | .raiseN _, _ => fun _ => none
  | .try body h v suite, ρ => tryL cl h v suite (exSs cl body ρ)
  | .brk, ρ => fun S => some (.bk ρ, S)
  | .cont, ρ => fun S => some (.ct ρ, S)
  | .pass, ρ => fun S => some (.nx ρ, S)
def exSs (cl : Cl) : List St → Env → MS
  | [], ρ => fun S => some (.nx ρ, S)
  | s :: ss, ρ => .seq (exS cl s ρ) (exSs cl ss)
end

/-- a def: its parameters, all its names, its body -/
structure Fn where
  np : Nat
  n : Nat
  body : List St
  /-- what it returns stays a place of its own -/
  kp : Bool := false
structure Prog where
  fns : List (String × Fn)
  gls : List (String × D)
  mts : List ((String × String) × Fn)
  fls : List (String × List String)
  sbs : List ((String × String) × Bool) := []

/-- behind a call: the places that were made within are dropped, where nothing that stays tells of them; what is returned of them is from then on only read -/
def oldOk (S S' : Store) : Bool := decide (S.length ≤ S'.length) && (List.range S.length).all fun i => decide (S'[i]? = S[i]?) || (match S'[i]? with | some c => c.bel S.length | none => false)
mutual
/-- as it is from then on: k levels of places are looked into, the place ex is not -/
def fz (S : Store) (lo ex : Nat) : Nat → D → Option D
  | 0, d => if d.bel lo = true then some d else none
  | k + 1, d => if d.bel lo = true then some d else match d with
    | .loc i => if i = ex then none else match S[i]? with
      | some c => match viewC c with
        | some (.fzl xs) => (fzs S lo ex k xs).map .fzl
        | some (.fzd ks vs) => (fzs S lo ex k vs).map (.fzd ks)
        | some (.fzo c ns vs) => (fzs S lo ex k vs).map (.fzo c ns)
        | _ => none
      | none => none
    | .tup xs => (fzs S lo ex k xs).map .tup
    | .fzl xs => (fzs S lo ex k xs).map .fzl
    | _ => none
def fzs (S : Store) (lo ex : Nat) : Nat → List D → Option (List D)
  | _, [] => some []
  | k, d :: ds => match fz S lo ex k d, fzs S lo ex k ds with
    | some x, some xs => some (x :: xs)
    | _, _ => none
end
/-- the levels -/
def fzK : Nat := 6
def gc (S : Store) (v : D) (S' : Store) : D × Store := if oldOk S S' = true then match fz S' S.length S'.length fzK v with
    | some v' => (v', S'.take S.length)
    | none => (v, S')
  else (v, S')
/-- the same, but the returned list is a place -/
def gcP (S : Store) (v : D) (S' : Store) : D × Store := if oldOk S S' = true then match v with
    | .loc i => if S.length ≤ i then match S'[i]? with
        | some (.lst xs) => match fzs S' S.length i fzK xs with
          | some ys => (.loc S.length, S'.take S.length ++ [.lst ys])
          | none => (v, S')
        | _ => (v, S')
      else (v, S')
    | _ => (v, S')
  else (v, S')
/-- a def's end -/
def endC (kp : Bool) (S : Store) : Option (Ctl × Store) → Option (Out D × Store)
  | some (.nx _, S') => some (.ok .non, (gc S .non S').2)
  | some (.rt d, S') => if kp then some (.ok (gcP S d S').1, (gcP S d S').2) else some (.ok (gc S d S').1, (gc S d S').2)
  | some (.ex c _, S') => some (.ex c, (gc S .non S').2)
  | _ => none
/-- a def's call, where the calls within are cl's -/
def callB (cl : Cl) (f : Fn) (ds : List D) : M D := fun S => if ds.length = f.np ∧ f.np ≤ f.n then
    endC f.kp S (exSs cl f.body (ds.map some ++ List.replicate (f.n - f.np) none) S)
  else none
/-- the fields and the methods -/
def Prog.fl (p : Prog) (c f : String) : Bool := match p.fls.lookup c with
  | some l => l.contains f
  | none => false
def Prog.sub (p : Prog) (c h : String) : Option Bool := p.sbs.lookup (c, h)
def Prog.mo (p : Prog) (c m : String) : Bool := (p.mts.lookup (c, m)).isSome
/-- the calls, at most so many within one another -/
def callK (p : Prog) : Nat → Cl
  | 0 => ⟨fun _ _ => fail, fun _ _ _ => fail, fun x => p.gls.lookup x, fun _ _ => fail, p.fl, p.mo, p.sub⟩
  | 1 => ⟨fun f ds => match p.fns.lookup f with
      | none => fail
      | some fn => callB (callK p 0) fn ds, fun c m ds => match p.mts.lookup (c, m) with
      | none => fail
      | some fn => callB (callK p 0) fn ds, fun x => p.gls.lookup x, fun _ _ => fail, p.fl, p.mo, p.sub⟩
  | k + 2 => ⟨fun f ds => match p.fns.lookup f with
      | none => fail
      | some fn => callB (callK p (k + 1)) fn ds, fun c m ds => match p.mts.lookup (c, m) with
      | none => fail
      | some fn => callB (callK p (k + 1)) fn ds, fun x => p.gls.lookup x, fun c ds => match p.mts.lookup (c, "__init__") with
      | none => fail
      | some fn => callB (callK p k) fn ds, p.fl, p.mo, p.sub⟩
end Mi

set_option autoImplicit true
set_option maxRecDepth 512
set_option maxHeartbeats 200000
set_option Elab.async false
set_option linter.all false
set_option maxRecDepth 100000
/-! Mi2: how the values and the store of Mi1 stand in the hand layer's heap, and the carrying of it. -/
namespace Mi
open PySem L2

def txS (s : Tx) : PySem.Str := ⟨s.toArray⟩
abbrev nm (s : String) : PySem.Str := PySem.Str.ofString s
abbrev Al := Nat → Addr

/-- the module's facts that all defs of a law share -/
structure Bs where
  P : Program
  w : World
  K : PySem.W.Frag
  mg : Str → Option Value
  base : Heap
  /-- objects that are being made: nothing tells of them yet -/
  hid : Addr → Prop
/-- no place of the store, and none that is being made -/
def NoPl (B : Bs) (al : Al) (n : Nat) (a : Addr) : Prop := (∀ i, i < n → al i ≠ a) ∧ ¬ B.hid a
def Bs.wh (B : Bs) (h : Addr → Prop) : Bs := { B with hid := h }
/-- the script: known to the object, or an object of the module -/
def ScL (K : PySem.W.Frag) (H : Hp) (a : Addr) (vs : List V) : Prop := (∃ o, H a = some (.frz o (.lst vs))) ∨
  ∃ (o : Obj) (its : Array Value) (n : Nat), K.lookup a = some o ∧ o.cls = .type "list" ∧ o.dict = none ∧ o.data = .seq its n ∧ its.size ≤ sizeLine ∧ Vals vs its.toList
theorem ScL.sq {K : PySem.W.Frag} {H : Hp} {a : Addr} {vs : List V} (h : ScL K H a vs) : SqL K H a vs := h.elim (fun ⟨o, e⟩ => .inl (.inr ⟨o, e⟩)) .inr
/-- a list that is only read: no place -/
def FzL (B : Bs) (al : Al) (n : Nat) (H : Hp) (a : Addr) (vs : List V) : Prop := H a = some (.lst vs) ∧ NoPl B al n a
theorem FzL.sq {K : PySem.W.Frag} {B : Bs} {al : Al} {n : Nat} {H : Hp} {a : Addr} {vs : List V} (h : FzL B al n H a vs) : SqL K H a vs := .of h.1
/-- a key of a dict -/
def keyO : D → Option Key
  | .int i => some (.inl i)
  | .str s => some (.inr (txS s))
  | _ => none
/-- a written constant of a dict -/
def litV : D → Value → Prop
  | .int i, u => ∃ t, u = .int i t
  | .str s, u => (∃ t, u = .str (txS s) t) ∧ s.length ≤ szl ∧ s.all (fun c => decide (c < 1114112)) = true
  | _, _ => False
def WrD (B : Bs) (a : Addr) (ks vs : List D) : Prop := D.flats ks = true ∧ D.flats vs = true ∧ ∃ es n, KDict B.K B.w a es n ∧ (∀ i, keyFit ks (.int i) = false) ∧
  ∀ z, ∃ r, PySem.W.nsIn B.K a (txS z) = some r ∧ match lookF (.str z) ks vs, r with
    | some d, some u => litV d u
    | none, none => True
    | _, _ => False
/-! ### values in the heap -/
mutual
def RV (B : Bs) (al : Al) (n : Nat) (H : Hp) : D → V → Prop
  | .non, v => v = .non
  | .bl b, v => v = .bl b
  | .int i, v => v = .int i
  | .str s, v => v = .str (txS s) ∧ s.length ≤ szl ∧ s.all (fun c => decide (c < 1114112)) = true
  | .tup xs, v => ∃ a vs, v = .ref a ∧ SqT B.K H a vs ∧ RVs B al n H xs vs
  | .fzl xs, v => ∃ a vs, v = .ref a ∧ FzL B al n H a vs ∧ RVs B al n H xs vs
  | .scr xs, v => ∃ a vs, v = .ref a ∧ ScL B.K H a vs ∧ RVs B al n H xs vs
  | .fzd ks ds, v => ∃ a, v = .ref a ∧ ((∃ kvs, (Rd H a (.dK kvs) ∧ NoPl B al n a) ∧ ks.map keyO = kvs.map (fun p => some p.1) ∧ RVs B al n H ds (kvs.map (·.2))) ∨ WrD B a ks ds)
  | .fzo c ns ds, v => ∃ a C dx fs', v = .ref a ∧ (H a = some (.ins C dx fs') ∧ NoPl B al n a) ∧ B.mg (nm c) = some (.ref C) ∧ fs'.map (·.1) = ns.map nm ∧ RVs B al n H ds (fs'.map (·.2))
  | .loc i, v => v = .ref (al i) ∧ i < n
  | .xc _, _ => False
def RVs (B : Bs) (al : Al) (n : Nat) (H : Hp) : List D → List V → Prop
  | [], vs => vs = []
  | x :: xs, vs => ∃ v r, vs = v :: r ∧ RV B al n H x v ∧ RVs B al n H xs r
end

def RC (B : Bs) (al : Al) (n : Nat) (H : Hp) (a : Addr) : Cell → Prop
  | .lst xs => ∃ vs, H a = some (.lst vs) ∧ RVs B al n H xs vs
  | .dct kvs => ∃ kvs', H a = some (.dK kvs') ∧ (kvs.map (·.1)).map keyO = kvs'.map (fun p => some p.1) ∧ RVs B al n H (kvs.map (·.2)) (kvs'.map (·.2))
  | .set _ => False
  | .obj c fs => ∃ C dx fs', H a = some (.ins C dx fs') ∧ B.mg (nm c) = some (.ref C) ∧ fs'.map (·.1) = fs.map (fun p => nm p.1) ∧ RVs B al n H (fs.map (·.2)) (fs'.map (·.2))

structure SR (B : Bs) (al : Al) (S : Store) (H : Hp) : Prop where
  cell : ∀ i c, S[i]? = some c → RC B al S.length H (al i) c
  inj : ∀ i j, i < S.length → j < S.length → al i = al j → i = j
  hd : ∀ a, B.hid a → (∃ o, H a = some o) ∧ ∀ i, i < S.length → al i ≠ a

structure Xt (al : Al) (n : Nat) (H : Hp) (al' : Al) (n' : Nat) (H' : Hp) : Prop where
  ag : ∀ i, i < n → al' i = al i
  le : n ≤ n'
  fr : ∀ b o, H b = some o → (∀ i, i < n → al i ≠ b) → H' b = some o
  nw : ∀ i, n ≤ i → i < n' → H (al' i) = none

def RE (B : Bs) (al : Al) (n : Nat) (H : Hp) (ρ : Env) (σ : L2.St) : Prop :=
  ρ.length = σ.length ∧ ∀ (i : Nat) (d : D), ρ[i]? = some (some d) → ∃ v, σ[i]? = some (some v) ∧ RV B al n H d v

section
variable {B : Bs} {K : PySem.W.Frag} {al al' al1 al2 : Al} {n n' n1 n2 : Nat} {H H' H1 H2 : Hp} {S S' S1 S2 : Store}

theorem RVs.length : ∀ {xs : List D} {vs : List V}, RVs B al n H xs vs → xs.length = vs.length
  | [], vs, h => by simp only [RVs] at h; subst h; rfl
  | x :: xs, vs, h => by
    simp only [RVs] at h
    obtain ⟨v, r, rfl, _, h2⟩ := h
    simp [RVs.length h2]
theorem RVs.get : ∀ {xs : List D} {vs : List V}, RVs B al n H xs vs → ∀ {i : Nat} {x : D}, xs[i]? = some x → ∃ v, vs[i]? = some v ∧ RV B al n H x v
  | [], vs, h, i, x, e => by simp at e
  | x :: xs, vs, h, i, y, e => by
    simp only [RVs] at h
    obtain ⟨v, r, rfl, h1, h2⟩ := h
    cases i with
    | zero => simp at e; subst e; exact ⟨v, rfl, h1⟩
    | succ i => exact RVs.get h2 (i := i) (by simpa using e)
theorem RVs.append : ∀ {xs ys : List D} {vs ws : List V}, RVs B al n H xs vs → RVs B al n H ys ws → RVs B al n H (xs ++ ys) (vs ++ ws)
  | [], _, _, _, h, h' => by simp only [RVs] at h; subst h; exact h'
  | x :: xs, _, _, _, h, h' => by
    simp only [RVs] at h
    obtain ⟨v, r, rfl, h1, h2⟩ := h
    simp only [List.cons_append, RVs]
    exact ⟨v, _, rfl, h1, RVs.append h2 h'⟩
theorem RVs.drop : ∀ {xs : List D} {vs : List V} (k : Nat), RVs B al n H xs vs → RVs B al n H (xs.drop k) (vs.drop k)
  | [], _, k, h => by simp only [RVs] at h; subst h; simp [RVs]
  | x :: xs, _, 0, h => h
  | x :: xs, _, k + 1, h => by
    simp only [RVs] at h
    obtain ⟨v, r, rfl, h1, h2⟩ := h
    simpa using RVs.drop k h2
theorem RVs.take : ∀ {xs : List D} {vs : List V} (k : Nat), RVs B al n H xs vs → RVs B al n H (xs.take k) (vs.take k)
  | [], _, k, h => by simp only [RVs] at h; subst h; simp [RVs]
  | x :: xs, _, 0, h => by simp [RVs]
  | x :: xs, _, k + 1, h => by
    simp only [RVs] at h
    obtain ⟨v, r, rfl, h1, h2⟩ := h
    simp only [List.take_succ_cons, RVs]
    exact ⟨v, _, rfl, h1, RVs.take k h2⟩
theorem RVs.set : ∀ {xs : List D} {vs : List V} (k : Nat) {x : D} {v : V}, RVs B al n H xs vs → RV B al n H x v → RVs B al n H (xs.set k x) (vs.set k v)
  | [], _, k, _, _, h, _ => by simp only [RVs] at h; subst h; simp [RVs]
  | y :: xs, _, 0, x, v, h, q => by
    simp only [RVs] at h
    obtain ⟨v', r, rfl, h1, h2⟩ := h
    simp only [List.set_cons_zero, RVs]
    exact ⟨v, r, rfl, q, h2⟩
  | y :: xs, _, k + 1, x, v, h, q => by
    simp only [RVs] at h
    obtain ⟨v', r, rfl, h1, h2⟩ := h
    simp only [List.set_cons_succ, RVs]
    exact ⟨v', _, rfl, h1, RVs.set k h2 q⟩
theorem RVs.one {x : D} {v : V} (h : RV B al n H x v) : RVs B al n H [x] [v] := by simp only [RVs]; exact ⟨v, [], rfl, h, rfl⟩
theorem RVs.nil : RVs B al n H [] [] := by simp [RVs]
theorem RVs.cons {x : D} {v : V} {xs : List D} {vs : List V} (h : RV B al n H x v) (t : RVs B al n H xs vs) : RVs B al n H (x :: xs) (v :: vs) := by
  simp only [RVs]; exact ⟨v, vs, rfl, h, t⟩

theorem RC.some {a : Addr} {c : Cell} (h : RC B al n H a c) : ∃ o, H a = some o ∧ (∀ xs, o ≠ .tup xs) ∧ ∀ o' u, o ≠ .frz o' u := by
  cases c with
  | lst xs => obtain ⟨vs, e, _⟩ := h; exact ⟨_, e, (by intro _ z; cases z), (by intro _ _ z; cases z)⟩
  | dct kvs => obtain ⟨kvs', e, _⟩ := h; exact ⟨_, e, (by intro _ z; cases z), (by intro _ _ z; cases z)⟩
  | obj c fs => obtain ⟨C, dx, fs', e, _⟩ := h; exact ⟨_, e, (by intro _ z; cases z), (by intro _ _ z; cases z)⟩
  | _ => exact False.elim h
theorem SR.some (r : SR B al S H) {i : Nat} (hi : i < S.length) : ∃ o, H (al i) = some o ∧ (∀ xs, o ≠ .tup xs) ∧ ∀ o' u, o ≠ .frz o' u :=
  (r.cell i S[i] (by simp [hi])).some

/-- a tuple stays -/
theorem SqT.mono (r : SR B al S H) (x : Xt al S.length H al' n' H') {a : Addr} {vs : List V} (h : SqT B.K H a vs) : SqT B.K H' a vs := by
  rcases h with h | h
  · refine .inl ?_
    have ne : ∀ o, H a = some o → (o = .tup vs ∨ ∃ o', o = .frz o' (.tup vs)) → ∀ i, i < S.length → al i ≠ a := fun o e q i hi z => by
      obtain ⟨o2, e2, q1, q2⟩ := r.some hi
      rw [z, e] at e2
      cases e2
      rcases q with q | ⟨o', q⟩
      · exact q1 _ q
      · exact q2 _ _ q
    rcases h with h | ⟨o, h⟩
    · exact .inl (x.fr a _ h (ne _ h (.inl rfl)))
    · exact .inr ⟨o, x.fr a _ h (ne _ h (.inr ⟨o, rfl⟩))⟩
  · exact .inr h
/-- what may be hidden later on: what was, or what did not stand -/
def Hid (B : Bs) (H : Hp) (ϑ : Addr → Prop) : Prop := ∀ a, ϑ a → B.hid a ∨ H a = none
theorem Hid.self : Hid B H B.hid := fun a h => .inl h
theorem NoPl.mono {ϑ : Addr → Prop} (hh : Hid B H ϑ) (x : Xt al n H al' n' H') {a : Addr} (q : ∃ o, H a = some o) (h : NoPl B al n a) : NoPl (B.wh ϑ) al' n' a := by
  obtain ⟨o, q⟩ := q
  refine ⟨fun i hi z => ?_, fun z => ?_⟩
  · by_cases hn : i < n
    · rw [x.ag i hn] at z; exact h.1 i hn z
    · have := x.nw i (Nat.le_of_not_lt hn) hi
      rw [z, q] at this; cases this
  · rcases hh a z with z | z
    · exact h.2 z
    · rw [q] at z; cases z
theorem rd_some {H : Hp} {a : Addr} {u : HO} (h : Rd H a u) : ∃ o, H a = some o := h.elim (fun h => ⟨_, h⟩) fun ⟨o, h⟩ => ⟨_, h⟩
theorem rd_keep (x : Xt al n H al' n' H') {a : Addr} {u : HO} (h : Rd H a u) (q : NoPl B al n a) : Rd H' a u := by
  rcases h with h | ⟨o, h⟩
  · exact .inl (x.fr a _ h q.1)
  · exact .inr ⟨o, x.fr a _ h q.1⟩
theorem FzL.mono {ϑ : Addr → Prop} (hh : Hid B H ϑ) (x : Xt al n H al' n' H') {a : Addr} {vs : List V} (h : FzL B al n H a vs) : FzL (B.wh ϑ) al' n' H' a vs := ⟨x.fr a _ h.1 h.2.1, h.2.mono hh x ⟨_, h.1⟩⟩
theorem ScL.mono (r : SR B al S H) (x : Xt al S.length H al' n' H') {a : Addr} {vs : List V} (h : ScL B.K H a vs) : ScL B.K H' a vs := by
  rcases h with ⟨o, h⟩ | h
  · refine .inl ⟨o, x.fr a _ h fun i hi z => ?_⟩
    obtain ⟨o2, e2, q1, q2⟩ := r.some hi
    rw [z, h] at e2
    cases e2
    exact q2 _ _ rfl
  · exact .inr h
mutual
theorem RV.monoH {ϑ : Addr → Prop} (hh : Hid B H ϑ) (r : SR B al S H) (x : Xt al S.length H al' n' H') : ∀ {d : D} {v : V}, RV B al S.length H d v → RV (B.wh ϑ) al' n' H' d v
  | .non, v, h => h
  | .bl _, v, h => h
  | .int _, v, h => h
  | .str _, v, h => h
  | .tup xs, v, h => by
    simp only [RV] at h ⊢
    obtain ⟨a, vs, e, q, t⟩ := h
    exact ⟨a, vs, e, SqT.mono r x q, RVs.monoH hh r x t⟩
  | .fzl xs, v, h => by
    simp only [RV] at h ⊢
    obtain ⟨a, vs, e, q, t⟩ := h
    exact ⟨a, vs, e, FzL.mono hh x q, RVs.monoH hh r x t⟩
  | .scr xs, v, h => by
    simp only [RV] at h ⊢
    obtain ⟨a, vs, e, q, t⟩ := h
    exact ⟨a, vs, e, ScL.mono r x q, RVs.monoH hh r x t⟩
  | .fzd ks ds, v, h => by
    simp only [RV] at h ⊢
    obtain ⟨a, e, h⟩ := h
    refine ⟨a, e, ?_⟩
    rcases h with ⟨kvs, ⟨q, p⟩, k, t⟩ | h
    · exact .inl ⟨kvs, ⟨rd_keep x q p, p.mono hh x (rd_some q)⟩, k, RVs.monoH hh r x t⟩
    · exact .inr h
  | .fzo c ns ds, v, h => by
    simp only [RV] at h ⊢
    obtain ⟨a, C, dx, fs', e, ⟨q, p⟩, k1, k2, t⟩ := h
    exact ⟨a, C, dx, fs', e, ⟨x.fr a _ q p.1, p.mono hh x ⟨_, q⟩⟩, k1, k2, RVs.monoH hh r x t⟩
  | .loc i, v, h => by
    simp only [RV] at h ⊢
    obtain ⟨e, hi⟩ := h
    exact ⟨by rw [x.ag i hi]; exact e, Nat.lt_of_lt_of_le hi x.le⟩
  | .xc _, v, h => h
theorem RVs.monoH {ϑ : Addr → Prop} (hh : Hid B H ϑ) (r : SR B al S H) (x : Xt al S.length H al' n' H') : ∀ {ds : List D} {vs : List V}, RVs B al S.length H ds vs → RVs (B.wh ϑ) al' n' H' ds vs
  | [], vs, h => by simp only [RVs] at h ⊢; exact h
  | d :: ds, vs, h => by
    simp only [RVs] at h ⊢
    obtain ⟨v, t, e, h1, h2⟩ := h
    exact ⟨v, t, e, RV.monoH hh r x h1, RVs.monoH hh r x h2⟩
end
theorem RV.mono (r : SR B al S H) (x : Xt al S.length H al' n' H') {d : D} {v : V} (h : RV B al S.length H d v) : RV B al' n' H' d v := RV.monoH Hid.self r x h
theorem RVs.mono (r : SR B al S H) (x : Xt al S.length H al' n' H') {ds : List D} {vs : List V} (h : RVs B al S.length H ds vs) : RVs B al' n' H' ds vs := RVs.monoH Hid.self r x h
theorem RE.mono (r : SR B al S H) (x : Xt al S.length H al' n' H') {ρ : Env} {σ : L2.St} (h : RE B al S.length H ρ σ) : RE B al' n' H' ρ σ :=
  ⟨h.1, fun i d e => let ⟨v, e1, h1⟩ := h.2 i d e; ⟨v, e1, RV.mono r x h1⟩⟩

theorem Xt.refl : Xt al n H al n H := ⟨fun _ _ => rfl, Nat.le_refl _, fun _ _ e _ => e, fun i h1 h2 => absurd h2 (Nat.not_lt.mpr h1)⟩
theorem Xt.trans (r1 : SR B al1 S1 H1) (x : Xt al n H al1 S1.length H1) (y : Xt al1 S1.length H1 al2 n2 H2) : Xt al n H al2 n2 H2 := by
  refine ⟨fun i hi => (y.ag i (Nat.lt_of_lt_of_le hi x.le)).trans (x.ag i hi), Nat.le_trans x.le y.le, fun b o e hb => y.fr b o (x.fr b o e hb) fun i hi z => ?_, fun i h1 h2 => ?_⟩
  · by_cases hin : i < n
    · exact hb i hin (by rw [← x.ag i hin]; exact z)
    · have q := x.nw i (Nat.le_of_not_lt hin) hi
      rw [z, e] at q
      cases q
  · by_cases hin : i < S1.length
    · rw [y.ag i hin]
      exact x.nw i h1 hin
    · have q := y.nw i (Nat.le_of_not_lt hin) h2
      cases e : H (al2 i) with
      | none => rfl
      | some o =>
        exfalso
        by_cases hz : ∃ j, j < n ∧ al j = al2 i
        · obtain ⟨j, hj, z⟩ := hz
          obtain ⟨o2, e2, _⟩ := r1.some (Nat.lt_of_lt_of_le hj x.le)
          rw [x.ag j hj, z, q] at e2
          cases e2
        · have q2 := x.fr (al2 i) o e fun j hj z => hz ⟨j, hj, z⟩
          rw [q] at q2
          cases q2

/-! ### steps of the heap -/
/-- something new that the store does not tell of -/
theorem Xt.side {p : Addr} {o : HO} (hp : H p = none) : Xt al n H al n (upd H p o) :=
  ⟨fun _ _ => rfl, Nat.le_refl _, fun b u e _ => by rw [upd_ne (ne_of_none e hp)]; exact e, fun i h1 h2 => absurd h2 (Nat.not_lt.mpr h1)⟩
theorem RC.mono (r : SR B al S H) (x : Xt al S.length H al' n' H') {a : Addr} {c : Cell} (h : RC B al S.length H a c) (hH : H' a = H a) : RC B al' n' H' a c := by
  cases c with
  | lst xs => obtain ⟨vs, e, q⟩ := h; exact ⟨vs, by rw [hH]; exact e, RVs.mono r x q⟩
  | dct kvs => obtain ⟨kvs', e, e2, q⟩ := h; exact ⟨kvs', by rw [hH]; exact e, e2, RVs.mono r x q⟩
  | obj c fs => obtain ⟨C, dx, fs', e, e2, e3, q⟩ := h; exact ⟨C, dx, fs', by rw [hH]; exact e, e2, e3, RVs.mono r x q⟩
  | _ => exact False.elim h
theorem SR.side {p : Addr} {o : HO} (r : SR B al S H) (hp : H p = none) : SR B al S (upd H p o) :=
  ⟨fun i c e => RC.mono r (Xt.side hp) (r.cell i c e) (by
    have hi : i < S.length := (List.getElem?_eq_some_iff.mp e).1
    obtain ⟨o2, e2, _⟩ := r.some hi
    rw [upd_ne (ne_of_none e2 hp)]), r.inj, fun a h => by
    obtain ⟨⟨o, e⟩, q⟩ := r.hd a h
    exact ⟨⟨o, by rw [upd_ne (ne_of_none e hp)]; exact e⟩, q⟩⟩
/-- a new place -/
def alN (al : Al) (n : Nat) (p : Addr) : Al := fun i => if i = n then p else al i
theorem alN_lt {p : Addr} {i : Nat} (h : i < n) : alN al n p i = al i := by unfold alN; rw [if_neg (Nat.ne_of_lt h)]
theorem alN_eq {p : Addr} : alN al n p n = p := by unfold alN; rw [if_pos rfl]
theorem Xt.fresh {p : Addr} {o : HO} (hp : H p = none) : Xt al n H (alN al n p) (n + 1) (upd H p o) :=
  ⟨fun i h => alN_lt h, Nat.le_succ _, fun b u e _ => by rw [upd_ne (ne_of_none e hp)]; exact e, fun i h1 h2 => by
    have : i = n := by omega
    subst this
    rw [alN_eq]; exact hp⟩
theorem SR.fresh {p : Addr} {o : HO} {c : Cell} (r : SR B al S H) (hp : H p = none) (hc : RC B (alN al S.length p) (S.length + 1) (upd H p o) p c) : SR B (alN al S.length p) (S ++ [c]) (upd H p o) := by
  have x : Xt al S.length H (alN al S.length p) (S.length + 1) (upd H p o) := Xt.fresh hp
  have nep : ∀ {i}, i < S.length → al i ≠ p := fun {i} hi z => by
    obtain ⟨o2, e2, _⟩ := r.some hi
    rw [z, hp] at e2; cases e2
  refine ⟨fun i c' e => ?_, fun i j hi hj z => ?_, fun a h => ?_⟩
  · rw [List.length_append, List.length_singleton]
    by_cases hi : i < S.length
    · rw [List.getElem?_append_left hi] at e
      rw [alN_lt hi]
      exact RC.mono r x (r.cell i c' e) (upd_ne (nep hi))
    · have h2 : i < (S ++ [c]).length := (List.getElem?_eq_some_iff.mp e).1
      rw [List.length_append, List.length_singleton] at h2
      have : i = S.length := by omega
      subst this
      rw [List.getElem?_append_right (Nat.le_refl _)] at e
      simp at e
      subst e
      rw [alN_eq]
      exact hc
  · rw [List.length_append, List.length_singleton] at hi hj
    by_cases h1 : i < S.length <;> by_cases h2 : j < S.length
    · rw [alN_lt h1, alN_lt h2] at z; exact r.inj i j h1 h2 z
    · have : j = S.length := by omega
      subst this
      rw [alN_lt h1, alN_eq] at z
      exact absurd z (nep h1)
    · have : i = S.length := by omega
      subst this
      rw [alN_lt h2, alN_eq] at z
      exact absurd z.symm (nep h2)
    · omega
  · obtain ⟨⟨o, e⟩, q⟩ := r.hd a h
    refine ⟨⟨o, by rw [upd_ne (ne_of_none e hp)]; exact e⟩, fun i hi z => ?_⟩
    rw [List.length_append, List.length_singleton] at hi
    by_cases h1 : i < S.length
    · rw [alN_lt h1] at z; exact q i h1 z
    · have : i = S.length := by omega
      subst this
      rw [alN_eq] at z
      rw [← z, hp] at e; cases e
/-- a place is written -/
theorem Xt.write {i : Nat} {o : HO} (hi : i < n) : Xt al n H al n (upd H (al i) o) :=
  ⟨fun _ _ => rfl, Nat.le_refl _, fun b u e hb => by rw [upd_ne (Ne.symm (hb i hi))]; exact e, fun i h1 h2 => absurd h2 (Nat.not_lt.mpr h1)⟩
theorem SR.write {i : Nat} {o : HO} {c : Cell} (r : SR B al S H) (hi : i < S.length) (hc : RC B al S.length (upd H (al i) o) (al i) c) : SR B al (S.set i c) (upd H (al i) o) := by
  refine ⟨fun j c' e => ?_, fun a b ha hb z => ?_, fun a h => ?_⟩
  · rw [List.length_set]
    by_cases hj : i = j
    · subst hj
      rw [List.getElem?_set_self hi] at e
      cases e
      exact hc
    · rw [List.getElem?_set_ne hj] at e
      have hjl : j < S.length := (List.getElem?_eq_some_iff.mp e).1
      exact RC.mono r (Xt.write hi) (r.cell j c' e) (upd_ne fun z => hj (r.inj j i hjl hi z).symm)
  · rw [List.length_set] at ha hb
    exact r.inj a b ha hb z
  · obtain ⟨⟨o, e⟩, q⟩ := r.hd a h
    rw [List.length_set]
    exact ⟨⟨o, by rw [upd_ne (fun z => q i hi z.symm)]; exact e⟩, q⟩

/-! ### forgetting places -/
/-- the places of al2 are places of al, and the first lo the same -/
structure Dn (al : Al) (n : Nat) (al2 : Al) (n' lo : Nat) : Prop where
  rg : ∀ j, j < n' → ∃ j', j' < n ∧ al2 j = al j'
  ag : ∀ j, j < lo → al2 j = al j
  le : lo ≤ n'
theorem Dn.same {lo : Nat} (h : lo ≤ n) : Dn al n al lo lo := ⟨fun j hj => ⟨j, Nat.lt_of_lt_of_le hj h, rfl⟩, fun _ _ => rfl, Nat.le_refl _⟩
theorem NoPl.dn {lo : Nat} (h : Dn al n al2 n' lo) {a : Addr} (p : NoPl B al n a) : NoPl B al2 n' a := ⟨fun j hj z => by
  obtain ⟨j', h1, h2⟩ := h.rg j hj
  rw [h2] at z
  exact p.1 j' h1 z, p.2⟩
mutual
/-- a value that needs no place from lo on -/
theorem RV.dn {lo : Nat} (hd : Dn al n al2 n' lo) : ∀ {d : D} {v : V}, RV B al n H d v → D.bel lo d = true → RV B al2 n' H d v
  | .non, _, h, _ => h
  | .bl _, _, h, _ => h
  | .int _, _, h, _ => h
  | .str _, _, h, _ => h
  | .tup xs, _, h, b => by
    simp only [RV] at h ⊢
    obtain ⟨a, vs, e, q, t⟩ := h
    rw [D.bel] at b
    exact ⟨a, vs, e, q, RVs.dn hd t b⟩
  | .fzl xs, _, h, b => by
    simp only [RV] at h ⊢
    obtain ⟨a, vs, e, q, t⟩ := h
    rw [D.bel] at b
    exact ⟨a, vs, e, ⟨q.1, q.2.dn hd⟩, RVs.dn hd t b⟩
  | .scr xs, _, h, b => by
    simp only [RV] at h ⊢
    obtain ⟨a, vs, e, q, t⟩ := h
    rw [D.bel] at b
    exact ⟨a, vs, e, q, RVs.dn hd t b⟩
  | .fzd ks ds, _, h, b => by
    simp only [RV] at h ⊢
    rw [D.bel, Bool.and_eq_true] at b
    obtain ⟨a, e, h⟩ := h
    refine ⟨a, e, ?_⟩
    rcases h with ⟨kvs, ⟨q, p⟩, k, t⟩ | h
    · exact .inl ⟨kvs, ⟨q, p.dn hd⟩, k, RVs.dn hd t b.2⟩
    · exact .inr h
  | .fzo c ns ds, _, h, b => by
    simp only [RV] at h ⊢
    rw [D.bel] at b
    obtain ⟨a, C, dx, fs', e, ⟨q, p⟩, k1, k2, t⟩ := h
    exact ⟨a, C, dx, fs', e, ⟨q, p.dn hd⟩, k1, k2, RVs.dn hd t b⟩
  | .loc i, _, h, b => by
    simp only [RV] at h ⊢
    simp only [D.bel, decide_eq_true_eq] at b
    exact ⟨by rw [hd.ag i b]; exact h.1, Nat.lt_of_lt_of_le b hd.le⟩
  | .xc _, _, h, _ => by simp only [RV] at h
theorem RVs.dn {lo : Nat} (hd : Dn al n al2 n' lo) : ∀ {ds : List D} {vs : List V}, RVs B al n H ds vs → D.bels lo ds = true → RVs B al2 n' H ds vs
  | [], _, h, _ => by simp only [RVs] at h ⊢; exact h
  | d :: ds, _, h, b => by
    simp only [RVs] at h ⊢
    obtain ⟨v, t, e, h1, h2⟩ := h
    rw [D.bels, Bool.and_eq_true] at b
    exact ⟨v, t, e, RV.dn hd h1 b.1, RVs.dn hd h2 b.2⟩
end
theorem RC.dn {lo : Nat} (hd : Dn al n al2 n' lo) {a : Addr} {c : Cell} (h : RC B al n H a c) (b : c.bel lo = true) : RC B al2 n' H a c := by
  cases c with
  | lst xs => obtain ⟨vs, e, q⟩ := h; exact ⟨vs, e, RVs.dn hd q b⟩
  | dct kvs =>
    obtain ⟨kvs', e, e2, q⟩ := h
    simp only [Cell.bel, Bool.and_eq_true] at b
    exact ⟨kvs', e, e2, RVs.dn hd q b.2⟩
  | obj c fs => obtain ⟨C, dx, fs', e, e2, e3, q⟩ := h; exact ⟨C, dx, fs', e, e2, e3, RVs.dn hd q b⟩
  | set _ => exact False.elim h
theorem RV.belLoc : ∀ {i : Nat} {v : V}, RV B al n H (.loc i) v → i < n := fun h => by simp only [RV] at h; exact h.2
mutual
theorem bel_flat {n : Nat} : ∀ {d : D}, d.flat = true → d.bel n = true
  | .non, _ => by simp [D.bel]
  | .bl _, _ => by simp [D.bel]
  | .int _, _ => by simp [D.bel]
  | .str _, _ => by simp [D.bel]
  | .tup xs, h => by rw [D.flat] at h; rw [D.bel]; exact bels_flat h
  | .fzl xs, h => by rw [D.flat] at h; rw [D.bel]; exact bels_flat h
  | .scr _, h => by simp [D.flat] at h
  | .fzd _ _, h => by simp [D.flat] at h
  | .fzo _ _ _, h => by simp [D.flat] at h
  | .loc _, h => by simp [D.flat] at h
  | .xc _, h => by simp [D.flat] at h
theorem bels_flat {n : Nat} : ∀ {ds : List D}, D.flats ds = true → D.bels n ds = true
  | [], _ => by simp [D.bels]
  | d :: ds, h => by
    rw [D.flats, Bool.and_eq_true] at h
    rw [D.bels, bel_flat h.1, bels_flat h.2]; rfl
end
theorem bels_keys {n : Nat} : ∀ {ks : List D} {kvs : List Key}, ks.map keyO = kvs.map some → D.bels n ks = true
  | [], _, _ => by simp [D.bels]
  | d :: ks, [], h => by simp at h
  | d :: ks, k :: kvs, h => by
    simp only [List.map_cons, List.cons.injEq] at h
    rw [D.bels, bels_keys h.2, Bool.and_true]
    cases d <;> simp [keyO] at h <;> simp [D.bel]
theorem bels_keys' {n : Nat} {ks : List D} {kvs : List (Key × V)} (h : ks.map keyO = kvs.map (fun p => some p.1)) : D.bels n ks = true := bels_keys (kvs := kvs.map (·.1)) (by rw [h, List.map_map]; rfl)
mutual
theorem RV.bel : ∀ {d : D} {v : V}, RV B al n H d v → D.bel n d = true
  | .non, _, _ => by simp [D.bel]
  | .bl _, _, _ => by simp [D.bel]
  | .int _, _, _ => by simp [D.bel]
  | .str _, _, _ => by simp [D.bel]
  | .tup xs, _, h => by
    simp only [RV] at h
    obtain ⟨a, vs, e, q, t⟩ := h
    rw [D.bel]
    exact RVs.bel t
  | .fzl xs, _, h => by
    simp only [RV] at h
    obtain ⟨a, vs, e, q, t⟩ := h
    rw [D.bel]
    exact RVs.bel t
  | .scr xs, _, h => by
    simp only [RV] at h
    obtain ⟨a, vs, e, q, t⟩ := h
    rw [D.bel]
    exact RVs.bel t
  | .fzd ks ds, _, h => by
    simp only [RV] at h
    rw [D.bel]
    obtain ⟨a, e, ⟨kvs, _, k, t⟩ | ⟨q1, q2, _⟩⟩ := h
    · rw [bels_keys' k, RVs.bel t]; rfl
    · rw [bels_flat q1, bels_flat q2]; rfl
  | .fzo c ns ds, _, h => by
    simp only [RV] at h
    obtain ⟨a, C, dx, fs', e, _, _, _, t⟩ := h
    rw [D.bel]
    exact RVs.bel t
  | .loc i, _, h => by
    simp only [RV] at h
    simp [D.bel, h.2]
  | .xc _, _, h => by simp only [RV] at h
theorem RVs.bel : ∀ {ds : List D} {vs : List V}, RVs B al n H ds vs → D.bels n ds = true
  | [], _, _ => by simp [D.bels]
  | d :: ds, _, h => by
    simp only [RVs] at h
    obtain ⟨v, t, e, h1, h2⟩ := h
    rw [D.bels, RV.bel h1, RVs.bel h2]; rfl
end
theorem RC.bel {a : Addr} {c : Cell} (h : RC B al n H a c) : c.bel n = true := by
  cases c with
  | lst xs => obtain ⟨vs, e, q⟩ := h; exact RVs.bel q
  | dct kvs =>
    obtain ⟨kvs', e, e2, q⟩ := h
    simp only [Cell.bel, bels_keys' e2, RVs.bel q]
    rfl
  | obj c fs => obtain ⟨C, dx, fs', e, e2, e3, q⟩ := h; exact RVs.bel q
  | set _ => exact False.elim h
/-! ### behind a call -/
theorem fz_bel {S : Store} {lo ex k : Nat} {d : D} (h : d.bel lo = true) : fz S lo ex k d = some d := by
  cases k <;> cases d <;> simp [fz, h]
mutual
theorem fz_ok {lo ex : Nat} (r : SR B al S H) (hd : Dn al S.length al2 n' lo) (hx : ∀ j, j < n' → ∃ j', j' < S.length ∧ al2 j = al j' ∧ (j' < lo ∨ j' = ex)) : ∀ (k : Nat) (d : D) {d' : D} {v : V}, fz S lo ex k d = some d' → RV B al S.length H d v → RV B al2 n' H d' v
  | 0, d, d', v, e, h => by
    rw [fz] at e
    split at e
    · rename_i hb
      cases e
      exact RV.dn hd h hb
    · cases e
  | k + 1, d, d', v, e, h => by
    by_cases hb : d.bel lo = true
    · have e2 : d' = d := by
        rw [fz_bel hb] at e
        exact (Option.some.inj e).symm
      rw [e2]
      exact RV.dn hd h hb
    · cases d with
      | loc i =>
        rw [fz, if_neg hb] at e
        split at e
        · cases e
        rename_i hne
        simp only [RV] at h
        obtain ⟨rfl, hi⟩ := h
        have hb' : ¬ i < lo := by simpa [D.bel] using hb
        have nop : NoPl B al2 n' (al i) := ⟨fun j hj z => by
          obtain ⟨j', h1, h2, h3⟩ := hx j hj
          rw [h2] at z
          have := r.inj j' i h1 hi z
          omega, fun h => (r.hd _ h).2 i hi rfl⟩
        cases hc : S[i]? with
        | none => simp only [hc] at e; cases e
        | some c =>
          simp only [hc] at e
          have rc := r.cell i c hc
          cases c with
          | lst xs =>
            obtain ⟨vs, e1, t⟩ := rc
            simp only [viewC, Option.map_eq_some_iff] at e
            obtain ⟨ys, e2, rfl⟩ := e
            simp only [RV]
            exact ⟨_, vs, rfl, ⟨e1, nop⟩, fzs_ok r hd hx k xs e2 t⟩
          | dct kvs =>
            obtain ⟨kvs', e1, e3, t⟩ := rc
            simp only [viewC, Option.map_eq_some_iff] at e
            obtain ⟨ys, e2, rfl⟩ := e
            simp only [RV]
            exact ⟨_, rfl, .inl ⟨kvs', ⟨.of e1, nop⟩, e3, fzs_ok r hd hx k _ e2 t⟩⟩
          | obj c fs =>
            obtain ⟨C, dx, fs', e1, e3, e4, t⟩ := rc
            simp only [viewC, Option.map_eq_some_iff] at e
            obtain ⟨ys, e2, rfl⟩ := e
            simp only [RV]
            exact ⟨_, C, dx, fs', rfl, ⟨e1, nop⟩, e3, by rw [e4, List.map_map]; rfl, fzs_ok r hd hx k _ e2 t⟩
          | set xs => exact False.elim rc
      | tup xs =>
        rw [fz, if_neg hb] at e
        simp only [Option.map_eq_some_iff] at e
        obtain ⟨ys, e2, rfl⟩ := e
        simp only [RV] at h ⊢
        obtain ⟨a, vs, e1, q, t⟩ := h
        exact ⟨a, vs, e1, q, fzs_ok r hd hx k xs e2 t⟩
      | fzl xs =>
        rw [fz, if_neg hb] at e
        simp only [Option.map_eq_some_iff] at e
        obtain ⟨ys, e2, rfl⟩ := e
        simp only [RV] at h ⊢
        obtain ⟨a, vs, e1, q, t⟩ := h
        exact ⟨a, vs, e1, ⟨q.1, q.2.dn hd⟩, fzs_ok r hd hx k xs e2 t⟩
      | non => exact absurd (by simp [D.bel]) hb
      | bl _ => exact absurd (by simp [D.bel]) hb
      | int _ => exact absurd (by simp [D.bel]) hb
      | str _ => exact absurd (by simp [D.bel]) hb
      | xc _ => exact absurd (by simp [D.bel]) hb
      | scr _ => simp [fz, hb] at e
      | fzd _ _ => simp [fz, hb] at e
      | fzo _ _ _ => simp [fz, hb] at e
theorem fzs_ok {lo ex : Nat} (r : SR B al S H) (hd : Dn al S.length al2 n' lo) (hx : ∀ j, j < n' → ∃ j', j' < S.length ∧ al2 j = al j' ∧ (j' < lo ∨ j' = ex)) : ∀ (k : Nat) (ds : List D) {ds' : List D} {vs : List V}, fzs S lo ex k ds = some ds' → RVs B al S.length H ds vs → RVs B al2 n' H ds' vs
  | _, [], ds', vs, e, h => by
    rw [fzs] at e
    cases e
    simpa only [RVs] using h
  | k, d :: ds, ds', vs, e, h => by
    rw [fzs] at e
    cases e1 : fz S lo ex k d with
    | none => rw [e1] at e; cases e
    | some x =>
      cases e2 : fzs S lo ex k ds with
      | none => rw [e1, e2] at e; cases e
      | some xs =>
        rw [e1, e2] at e
        cases e
        simp only [RVs] at h ⊢
        obtain ⟨v, t, e3, h1, h2⟩ := h
        exact ⟨v, t, e3, fz_ok r hd hx k d e1 h1, fzs_ok r hd hx k ds e2 h2⟩
end
theorem take_len (hl : S.length ≤ S'.length) : (S'.take S.length).length = S.length := by rw [List.length_take]; omega
/-- the old cells, whatever places stand behind them -/
theorem old_cell (r : SR B al S H) (x : Xt al S.length H al' S'.length H') (r' : SR B al' S' H') (h : oldOk S S' = true) (hd : Dn al' S'.length al2 n' S.length) : ∀ i c, (S'.take S.length)[i]? = some c → RC B al2 n' H' (al2 i) c ∧ i < S.length := by
  unfold oldOk at h
  simp only [Bool.and_eq_true, decide_eq_true_eq, List.all_eq_true, List.mem_range, Bool.or_eq_true] at h
  obtain ⟨h2, h3⟩ := h
  intro i c q
  have hi : i < S.length := by
    have := (List.getElem?_eq_some_iff.mp q).1
    rw [take_len h2] at this; exact this
  rw [List.getElem?_take_of_lt hi] at q
  refine ⟨?_, hi⟩
  rw [hd.ag i hi]
  refine RC.dn hd (r'.cell i c q) ?_
  rcases h3 i hi with z | z
  · rw [q] at z
    exact (r.cell i c z.symm).bel
  · rw [q] at z
    exact z
theorem gc_ok (r : SR B al S H) (x : Xt al S.length H al' S'.length H') (r' : SR B al' S' H') (d : D) :
    Xt al S.length H al' (gc S d S').2.length H' ∧ SR B al' (gc S d S').2 H' ∧ ∀ v, RV B al' S'.length H' d v → RV B al' (gc S d S').2.length H' (gc S d S').1 v := by
  unfold gc
  by_cases hg : oldOk S S' = true
  · rw [if_pos hg]
    cases e : fz S' S.length S'.length fzK d with
    | none => exact ⟨x, r', fun v q => q⟩
    | some d' =>
      have hd : Dn al' S'.length al' S.length S.length := Dn.same x.le
      simp only [take_len x.le]
      refine ⟨⟨x.ag, Nat.le_refl _, x.fr, fun i a b => absurd b (Nat.not_lt.mpr a)⟩, ⟨fun i c q => ?_, fun i j hi hj z => ?_, fun a h => ?_⟩, fun v q => fz_ok r' hd (fun j hj => ⟨j, Nat.lt_of_lt_of_le hj x.le, rfl, .inl hj⟩) _ _ e q⟩
      · rw [take_len x.le]
        exact (old_cell r x r' hg hd i c q).1
      · rw [take_len x.le] at hi hj
        exact r'.inj i j (Nat.lt_of_lt_of_le hi x.le) (Nat.lt_of_lt_of_le hj x.le) z
      · obtain ⟨q1, q2⟩ := r'.hd a h
        rw [take_len x.le]
        exact ⟨q1, fun i hi => q2 i (Nat.lt_of_lt_of_le hi x.le)⟩
  · rw [if_neg hg]
    exact ⟨x, r', fun v q => q⟩
theorem gcP_ok (r : SR B al S H) (x : Xt al S.length H al' S'.length H') (r' : SR B al' S' H') (d : D) :
    ∃ al2, Xt al S.length H al2 (gcP S d S').2.length H' ∧ SR B al2 (gcP S d S').2 H' ∧ ∀ v, RV B al' S'.length H' d v → RV B al2 (gcP S d S').2.length H' (gcP S d S').1 v := by
  have dflt : ∃ al2, Xt al S.length H al2 S'.length H' ∧ SR B al2 S' H' ∧ ∀ v, RV B al' S'.length H' d v → RV B al2 S'.length H' d v := ⟨al', x, r', fun v q => q⟩
  unfold gcP
  by_cases hg : oldOk S S' = true
  · rw [if_pos hg]
    cases d <;> try exact dflt
    rename_i i
    simp only
    by_cases hi : S.length ≤ i
    · rw [if_pos hi]
      cases hc : S'[i]? with
      | none => exact dflt
      | some c =>
        cases c <;> try exact dflt
        rename_i xs
        simp only
        cases e : fzs S' S.length i fzK xs with
        | none => exact dflt
        | some ys =>
          have hil : i < S'.length := (List.getElem?_eq_some_iff.mp hc).1
          obtain ⟨vs, ev, t⟩ := r'.cell i _ hc
          have hd : Dn al' S'.length (alN al' S.length (al' i)) (S.length + 1) S.length := ⟨fun j hj => by
            by_cases h : j < S.length
            · exact ⟨j, Nat.lt_of_lt_of_le h x.le, alN_lt h⟩
            · have : j = S.length := by omega
              subst this
              exact ⟨i, hil, alN_eq⟩, fun j hj => alN_lt hj, Nat.le_succ _⟩
          have hx : ∀ j, j < S.length + 1 → ∃ j', j' < S'.length ∧ alN al' S.length (al' i) j = al' j' ∧ (j' < S.length ∨ j' = i) := fun j hj => by
            by_cases h : j < S.length
            · exact ⟨j, Nat.lt_of_lt_of_le h x.le, alN_lt h, .inl h⟩
            · have : j = S.length := by omega
              subst this
              exact ⟨i, hil, alN_eq, .inr rfl⟩
          have el : (S'.take S.length ++ [Cell.lst ys]).length = S.length + 1 := by rw [List.length_append, List.length_singleton, take_len x.le]
          refine ⟨alN al' S.length (al' i), ?_, ⟨fun j c q => ?_, fun j k hj hk z => ?_, fun a h => ?_⟩, fun v q => ?_⟩
          · simp only [el]
            refine ⟨fun j hj => by rw [alN_lt hj]; exact x.ag j hj, Nat.le_succ _, x.fr, fun j h1 h2 => ?_⟩
            have : j = S.length := by omega
            subst this
            rw [alN_eq]
            exact x.nw i hi hil
          · simp only [el]
            simp only at q
            by_cases h : j < S.length
            · rw [List.getElem?_append_left (by rw [take_len x.le]; exact h)] at q
              exact (old_cell r x r' hg hd j c q).1
            · have hl : j < (S'.take S.length ++ [Cell.lst ys]).length := (List.getElem?_eq_some_iff.mp q).1
              rw [el] at hl
              have : j = S.length := by omega
              subst this
              rw [List.getElem?_append_right (by rw [take_len x.le]; exact Nat.le_refl _), take_len x.le] at q
              simp at q
              subst q
              rw [alN_eq]
              exact ⟨vs, ev, fzs_ok r' hd hx _ _ e t⟩
          · simp only [el] at hj hk
            obtain ⟨j', a1, a2, a3⟩ := hx j hj
            obtain ⟨k', b1, b2, b3⟩ := hx k hk
            rw [a2, b2] at z
            have := r'.inj j' k' a1 b1 z
            by_cases h1 : j < S.length <;> by_cases h2 : k < S.length
            · rw [alN_lt h1] at a2
              rw [alN_lt h2] at b2
              have e1 := r'.inj j j' (Nat.lt_of_lt_of_le h1 x.le) a1 a2
              have e2 := r'.inj k k' (Nat.lt_of_lt_of_le h2 x.le) b1 b2
              omega
            · have : k = S.length := by omega
              subst this
              rw [alN_lt h1] at a2
              rw [alN_eq] at b2
              have e1 := r'.inj j j' (Nat.lt_of_lt_of_le h1 x.le) a1 a2
              have e2 := r'.inj i k' hil b1 b2
              omega
            · have : j = S.length := by omega
              subst this
              rw [alN_lt h2] at b2
              rw [alN_eq] at a2
              have e1 := r'.inj k k' (Nat.lt_of_lt_of_le h2 x.le) b1 b2
              have e2 := r'.inj i j' hil a1 a2
              omega
            · omega
          · obtain ⟨q1, q2⟩ := r'.hd a h
            refine ⟨q1, fun j hj z => ?_⟩
            simp only [el] at hj
            obtain ⟨j', a1, a2, a3⟩ := hx j hj
            rw [a2] at z
            exact q2 j' a1 z
          · simp only [el]
            simp only [RV] at q ⊢
            exact ⟨by rw [alN_eq]; exact q.1, Nat.lt_succ_self _⟩
    · rw [if_neg hi]; exact dflt
  · rw [if_neg hg]
    exact dflt
end
end Mi

set_option autoImplicit true
set_option maxRecDepth 512
set_option maxHeartbeats 200000
set_option Elab.async false
set_option linter.all false
set_option maxRecDepth 100000
/-! Mi3: what Mi1 computes is what the program does: expressions, by the hand layer's rules. -/
namespace Mi
open PySem PySem.Spec PyProof.Rows L2

abbrev bs (X : Cx) (ϑ : Addr → Prop) : Bs := ⟨X.prog, X.w, X.K, X.mg, X.base, ϑ⟩

/-! ### a computation's end -/
def Res {α : Type} (B : Bs) (W : WX) (σ : L2.St) (al : Al) (S : Store) (H : Hp) (r : Option (Out α × Store)) (k : Al → Store → Hp → α → Prop) : Prop :=
  ∃ o S', r = some (o, S') ∧ (∀ d, o = .ok d → ∀ al' H', Xt al S.length H al' S'.length H' → SR B al' S' H' → k al' S' H' d) ∧
    (∀ c, o = .ex c → ∀ al' H' C, Xt al S.length H al' S'.length H' → SR B al' S' H' → B.mg (nm c) = some (.ref C) → W (.ref C) none σ H')
section
variable {α β : Type} {B : Bs} {W : WX} {σ : L2.St} {al : Al} {S : Store} {H : Hp}
theorem Res.imp {r : Option (Out α × Store)} {k k' : Al → Store → Hp → α → Prop} (h : Res B W σ al S H r k) (f : ∀ al' S' H' d, Xt al S.length H al' S'.length H' → SR B al' S' H' → r = some (.ok d, S') → k al' S' H' d → k' al' S' H' d) : Res B W σ al S H r k' := by
  obtain ⟨o, S', e, h1, h2⟩ := h
  exact ⟨o, S', e, fun d q al' H' x y => f _ _ _ _ x y (by rw [e, q]) (h1 d q al' H' x y), h2⟩
theorem Res.bnd {m : M α} {f : α → M β} {k : Al → Store → Hp → β → Prop} (h : Res B W σ al S H (M.bnd m f S) k) :
    Res B W σ al S H (m S) (fun al1 S1 H1 d => Res B W σ al1 S1 H1 (f d S1) k) := by
  obtain ⟨o, S', e, h1, h2⟩ := h
  unfold M.bnd at e
  cases hm : m S with
  | none => rw [hm] at e; cases e
  | some p =>
    obtain ⟨o1, S1⟩ := p
    rw [hm] at e
    cases o1 with
    | ex c =>
      simp only [Option.some.injEq, Prod.mk.injEq] at e
      obtain ⟨e1, e2⟩ := e
      subst e1; subst e2
      exact ⟨_, _, rfl, (fun d q => nomatch q), fun c' q al' H' C x y z => h2 c' (by cases q; rfl) al' H' C x y z⟩
    | ok a =>
      refine ⟨_, _, rfl, fun d q al1 H1 x y => ?_, (fun c q => nomatch q)⟩
      cases q
      exact ⟨o, S', e, fun d q al' H' x' y' => h1 d q al' H' (Xt.trans y x x') y', fun c q al' H' C x' y' z => h2 c q al' H' C (Xt.trans y x x') y' z⟩
theorem Res.ok {d : α} {S' : Store} {k : Al → Store → Hp → α → Prop} (h : Res B W σ al S H (some (.ok d, S')) k) {al' : Al} {H' : Hp} (x : Xt al S.length H al' S'.length H') (y : SR B al' S' H') : k al' S' H' d := by
  obtain ⟨o, S1, e, h1, h2⟩ := h
  cases e
  exact h1 d rfl al' H' x y
theorem Res.none {k : Al → Store → Hp → α → Prop} (h : Res B W σ al S H none k) : False := by
  obtain ⟨o, S1, e, _⟩ := h
  cases e
theorem Res.ret {d : α} {k : Al → Store → Hp → α → Prop} (r : SR B al S H) (h : Res B W σ al S H (M.ret d S) k) : k al S H d := Res.ok h Xt.refl r
theorem Res.need {p : Prop} [Decidable p] {m : M α} {k : Al → Store → Hp → α → Prop} (h : Res B W σ al S H (M.need p m S) k) : p ∧ Res B W σ al S H (m S) k := by
  unfold M.need at h
  by_cases hp : p
  · rw [if_pos hp] at h; exact ⟨hp, h⟩
  · rw [if_neg hp] at h; exact h.none.elim
theorem Res.get {n : Nat} {f : Cell → M β} {k : Al → Store → Hp → β → Prop} (r : SR B al S H) (h : Res B W σ al S H (M.bnd (M.get n) f S) k) : ∃ c, S[n]? = some c ∧ RC B al S.length H (al n) c ∧ Res B W σ al S H (f c S) k := by
  obtain ⟨o, S', e, h1, h2⟩ := h.bnd
  unfold M.get at e
  cases hc : S[n]? with
  | none => rw [hc] at e; cases e
  | some c =>
    rw [hc] at e
    cases e
    exact ⟨c, rfl, r.cell n c hc, h1 c rfl al H Xt.refl r⟩
theorem Res.of {o : Option α} {f : α → M β} {k : Al → Store → Hp → β → Prop} (r : SR B al S H) (h : Res B W σ al S H (M.bnd (M.of o) f S) k) : ∃ a, o = some a ∧ Res B W σ al S H (f a S) k := by
  obtain ⟨o', S', e, h1, h2⟩ := h.bnd
  unfold M.of at e
  cases o with
  | none => cases e
  | some a => cases e; exact ⟨a, rfl, h1 a rfl al H Xt.refl r⟩
theorem Res.of' {o : Option α} {k : Al → Store → Hp → α → Prop} (r : SR B al S H) (h : Res B W σ al S H (M.of o S) k) : ∃ a, o = some a ∧ k al S H a := by
  unfold M.of at h
  cases o with
  | none => exact h.none.elim
  | some a => exact ⟨a, rfl, Res.ok h Xt.refl r⟩
end

/-! ### readings -/
def tE (B : Bs) (W : WX) (m : Env → M D) : TE := fun σ H Q => ∃ al ρ S, SR B al S H ∧ RE B al S.length H ρ σ ∧ Res B W σ al S H (m ρ S) (fun al' S' H' d => ∀ v, RV B al' S'.length H' d v → Q v H')
def tA (B : Bs) (W : WX) (m : Env → M (List D)) : TA := fun σ H Q => ∃ al ρ S, SR B al S H ∧ RE B al S.length H ρ σ ∧ Res B W σ al S H (m ρ S) (fun al' S' H' ds => ∀ vs, RVs B al' S'.length H' ds vs → Q vs H')
def tT (B : Bs) (W : WX) (m : Env → M Bool) : TT := fun σ H Q => ∃ al ρ S, SR B al S H ∧ RE B al S.length H ρ σ ∧ Res B W σ al S H (m ρ S) (fun al' S' H' b => Q b H')
def tO (B : Bs) (W : WX) (m : Env → M (Option Int)) : TO := fun σ H Q => ∃ al ρ S, SR B al S H ∧ RE B al S.length H ρ σ ∧ Res B W σ al S H (m ρ S) (fun al' S' H' o => Q o H')
theorem PE.imp {X : Cx} {e : Expr} {t t' : TE} (h : PE X e t) (f : ∀ σ H Q, t' σ H Q → t σ H Q) : PE X e t' := ⟨fun pins s σ H Q I q => h.run pins s σ H Q I (f σ H Q q)⟩
theorem PT.imp {X : Cx} {e : Expr} {t t' : TT} (h : PT X e t) (f : ∀ σ H Q, t' σ H Q → t σ H Q) : PT X e t' := ⟨fun pins s σ H Q I q => h.run pins s σ H Q I (f σ H Q q)⟩
theorem PW.imp {X : Cx} {e : Expr} {t t' : TT} (h : PW X e t) (f : ∀ σ H Q, t' σ H Q → t σ H Q) : PW X e t' := ⟨fun wh pins s σ H Q I q => h.run wh pins s σ H Q I (f σ H Q q)⟩
theorem PA.imp {X : Cx} {e : List Expr} {t t' : TA} (h : PA X e t) (f : ∀ σ H Q, t' σ H Q → t σ H Q) : PA X e t' := ⟨fun p pins s σ H Q I q => h.run p pins s σ H Q I (f σ H Q q)⟩
theorem PO.imp {X : Cx} {e : Option Expr} {t t' : TO} (h : PO X e t) (f : ∀ σ H Q, t' σ H Q → t σ H Q) : PO X e t' := ⟨fun pins s σ H Q I q => h.run pins s σ H Q I (f σ H Q q)⟩

section
variable {B : Bs} {W : WX} {σ : L2.St} {al : Al} {S : Store} {H : Hp} {ρ : Env}
/-- two values first -/
theorem two {ma mb : Env → M D} {f : D → D → M D} {r : R2} {Q : VK}
    (h : tE B W (fun ρ => M.bnd (ma ρ) fun x => M.bnd (mb ρ) fun y => f x y) σ H Q)
    (k : ∀ al S H x y v u, SR B al S H → RV B al S.length H x v → RV B al S.length H y u → Res B W σ al S H (f x y S) (fun al' S' H' d => ∀ v, RV B al' S'.length H' d v → Q v H') → r v u H Q) :
    tOp r (tE B W ma) (tE B W mb) σ H Q := by
  obtain ⟨al, ρ, S, sr, re, R⟩ := h
  refine ⟨al, ρ, S, sr, re, R.bnd.imp fun al1 S1 H1 x x1 sr1 _ R1 v rv => ?_⟩
  refine ⟨al1, ρ, S1, sr1, re.mono sr x1, R1.bnd.imp fun al2 S2 H2 y x2 sr2 _ R2 u ru => ?_⟩
  exact k al2 S2 H2 x y v u sr2 (rv.mono sr1 x2) ru R2
/-- one value first -/
theorem one {ma : Env → M D} {f : D → M D} {Q R : VK} (h : tE B W (fun ρ => M.bnd (ma ρ) f) σ H Q)
    (k : ∀ al S H ρ x v, SR B al S H → RE B al S.length H ρ σ → RV B al S.length H x v → Res B W σ al S H (f x S) (fun al' S' H' d => ∀ v, RV B al' S'.length H' d v → Q v H') → R v H) : tE B W ma σ H R := by
  obtain ⟨al, ρ, S, sr, re, R⟩ := h
  exact ⟨al, ρ, S, sr, re, R.bnd.imp fun al1 S1 H1 x x1 sr1 _ R1 v rv => k al1 S1 H1 ρ x v sr1 (re.mono sr x1) rv R1⟩
end

/-! ### truth -/
theorem isEmpty_len {xs : List D} {vs : List V} {B : Bs} {al n H} (h : RVs B al n H xs vs) : xs.isEmpty = vs.isEmpty := by
  have := h.length
  cases xs <;> cases vs <;> simp_all
theorem truthy_ok {B : Bs} {W : WX} {σ : L2.St} {al : Al} {S : Store} {H : Hp} {x : D} {v : V} {k : Al → Store → Hp → Bool → Prop} (sr : SR B al S H) (rv : RV B al S.length H x v) (h : Res B W σ al S H (truthy x S) k) :
    ∃ b, TruV B.K v H b ∧ k al S H b := by
  cases x with
  | non => simp only [RV] at rv; subst rv; exact ⟨false, rfl, h.ret sr⟩
  | bl b => simp only [RV] at rv; subst rv; exact ⟨b, rfl, h.ret sr⟩
  | int i => simp only [RV] at rv; subst rv; exact ⟨i != 0, rfl, h.ret sr⟩
  | str s =>
    simp only [RV] at rv
    obtain ⟨rfl, hl, _⟩ := rv
    refine ⟨!s.isEmpty, ⟨hl, ?_⟩, h.ret sr⟩
    cases s with
    | nil => rfl
    | cons a r =>
      have : (txS (a :: r)).length ≠ 0 := by
        show (r.length + 1 : Nat) ≠ 0
        omega
      simp [this]
  | tup xs =>
    simp only [RV] at rv
    obtain ⟨a, vs, rfl, q, t⟩ := rv
    exact ⟨!xs.isEmpty, .inr (.inl ⟨vs, q, by rw [isEmpty_len t]⟩), h.ret sr⟩
  | fzl xs =>
    simp only [RV] at rv
    obtain ⟨a, vs, rfl, q, t⟩ := rv
    exact ⟨!xs.isEmpty, .inl ⟨vs, q.sq, by rw [isEmpty_len t]⟩, h.ret sr⟩
  | loc n =>
    simp only [RV] at rv
    obtain ⟨rfl, hn⟩ := rv
    obtain ⟨c, hc, rc, R⟩ := Res.get sr h
    cases c with
    | lst xs => obtain ⟨vs, e, t⟩ := rc; exact ⟨!xs.isEmpty, .inl ⟨vs, .of e, by rw [isEmpty_len t]⟩, R.ret sr⟩
    | _ => exact R.none.elim
  | _ => exact h.none.elim

/-! ### values as they are read -/
theorem rv_int {B : Bs} {al n H} {v : V} {i : Int} : RV B al n H (.int i) v ↔ v = .int i := by simp [RV]
theorem rv_bl {B : Bs} {al n H} {v : V} {i : Bool} : RV B al n H (.bl i) v ↔ v = .bl i := by simp [RV]
theorem rv_non {B : Bs} {al n H} {v : V} : RV B al n H .non v ↔ v = .non := by simp [RV]
theorem rv_str {B : Bs} {al n H} {v : V} {s : Tx} : RV B al n H (.str s) v ↔ v = .str (txS s) ∧ s.length ≤ szl ∧ s.all (fun c => decide (c < 1114112)) = true := by simp [RV]
theorem rv_tup {B : Bs} {al n H} {v : V} {xs : List D} : RV B al n H (.tup xs) v ↔ ∃ a vs, v = .ref a ∧ SqT B.K H a vs ∧ RVs B al n H xs vs := by simp [RV]
theorem rv_fzl {B : Bs} {al n H} {v : V} {xs : List D} : RV B al n H (.fzl xs) v ↔ ∃ a vs, v = .ref a ∧ FzL B al n H a vs ∧ RVs B al n H xs vs := by simp [RV]
theorem rv_scr {B : Bs} {al n H} {v : V} {xs : List D} : RV B al n H (.scr xs) v ↔ ∃ a vs, v = .ref a ∧ ScL B.K H a vs ∧ RVs B al n H xs vs := by simp [RV]
theorem rv_loc {B : Bs} {al n H} {v : V} {i : Nat} : RV B al n H (.loc i) v ↔ v = .ref (al i) ∧ i < n := by simp [RV]
def RW (B : Bs) (al : Al) (n : Nat) (H : Hp) : D → V → Prop
  | .fzl xs, v => ∃ a vs, v = .ref a ∧ Rd H a (.lst vs) ∧ H a = some (.lst vs) ∧ RVs B al n H xs vs
  | .fzd ks ds, v => ∃ a, v = .ref a ∧ ((∃ kvs, Rd H a (.dK kvs) ∧ ks.map keyO = kvs.map (fun p => some p.1) ∧ RVs B al n H ds (kvs.map (·.2))) ∨ WrD B a ks ds)
  | .fzo c ns ds, v => ∃ a C dx fs', v = .ref a ∧ H a = some (.ins C dx fs') ∧ B.mg (nm c) = some (.ref C) ∧ fs'.map (·.1) = ns.map nm ∧ RVs B al n H ds (fs'.map (·.2))
  | .loc _, _ => False
  | d, v => RV B al n H d v
theorem rw_fzl {B : Bs} {al n H} {xs : List D} {v : V} : RW B al n H (.fzl xs) v ↔ ∃ a vs, v = .ref a ∧ Rd H a (.lst vs) ∧ H a = some (.lst vs) ∧ RVs B al n H xs vs := by simp [RW]
theorem rw_fzd {B : Bs} {al n H} {ks ds : List D} {v : V} : RW B al n H (.fzd ks ds) v ↔ ∃ a, v = .ref a ∧ ((∃ kvs, Rd H a (.dK kvs) ∧ ks.map keyO = kvs.map (fun p => some p.1) ∧ RVs B al n H ds (kvs.map (·.2))) ∨ WrD B a ks ds) := by simp [RW]
theorem rw_fzo {B : Bs} {al n H} {c : String} {ns : List String} {ds : List D} {v : V} : RW B al n H (.fzo c ns ds) v ↔ ∃ a C dx fs', v = .ref a ∧ H a = some (.ins C dx fs') ∧ B.mg (nm c) = some (.ref C) ∧ fs'.map (·.1) = ns.map nm ∧ RVs B al n H ds (fs'.map (·.2)) := by simp [RW]
theorem rw_of {B : Bs} {al n H} {d : D} {v : V} (h : RV B al n H d v) (hn : ∀ i, d ≠ .loc i) : RW B al n H d v := by
  cases d with
  | fzl xs =>
    rw [rv_fzl] at h
    obtain ⟨a, vs, e, q, t⟩ := h
    rw [rw_fzl]
    exact ⟨a, vs, e, .of q.1, q.1, t⟩
  | fzd ks ds =>
    simp only [RV] at h
    obtain ⟨a, e, h⟩ := h
    rw [rw_fzd]
    exact ⟨a, e, h.imp (fun ⟨kvs, q, k, t⟩ => ⟨kvs, q.1, k, t⟩) id⟩
  | fzo c ns ds =>
    simp only [RV] at h
    obtain ⟨a, C, dx, fs', e, q, k1, k2, t⟩ := h
    rw [rw_fzo]
    exact ⟨a, C, dx, fs', e, q.1, k1, k2, t⟩
  | loc i => exact absurd rfl (hn i)
  | _ => exact h
section
variable {β : Type} {B : Bs} {W : WX} {σ : L2.St} {al : Al} {S : Store} {H : Hp}
theorem Res.view {x : D} {v : V} {f : D → M β} {k : Al → Store → Hp → β → Prop} (sr : SR B al S H) (rv : RV B al S.length H x v) (h : Res B W σ al S H (M.bnd (Mi.view x) f S) k) :
    ∃ y, RW B al S.length H y v ∧ (∀ i, x = .loc i → ∃ c, S[i]? = Option.some c ∧ viewC c = Option.some y) ∧ ((∀ i, x ≠ .loc i) → y = x) ∧ Mi.view x S = Option.some (.ok y, S) ∧ Res B W σ al S H (f y S) k := by
  by_cases hx : ∃ i, x = .loc i
  · obtain ⟨i, rfl⟩ := hx
    obtain ⟨o, S', e, h1, h2⟩ := h
    rw [rv_loc] at rv
    obtain ⟨rfl, hi⟩ := rv
    have hc : S[i]? = Option.some S[i] := by simp [hi]
    generalize S[i] = c at hc
    have rc := sr.cell i c hc
    have ev : ∀ y, viewC c = Option.some y → Mi.view (.loc i) S = Option.some (.ok y, S) := fun y hy => by
      unfold Mi.view M.bnd M.get
      simp only [hc]
      unfold M.of
      simp only [hy]
    cases hv : viewC c with
    | none =>
      exfalso
      have : Mi.view (.loc i) S = Option.none := by
        unfold Mi.view M.bnd M.get
        simp only [hc]
        unfold M.of
        simp only [hv]
      unfold M.bnd at e
      rw [this] at e
      cases e
    | some y =>
      refine ⟨y, ?_, fun j hj => by cases hj; exact ⟨c, hc, hv⟩, fun q => absurd rfl (q i), ev y hv, ?_⟩
      · cases c with
        | lst xs =>
          obtain ⟨vs, e1, t⟩ := rc
          cases hv
          rw [rw_fzl]
          exact ⟨_, vs, rfl, .of e1, e1, t⟩
        | dct kvs =>
          obtain ⟨kvs', e1, e2, t⟩ := rc
          cases hv
          rw [rw_fzd]
          exact ⟨_, rfl, .inl ⟨kvs', .of e1, e2, t⟩⟩
        | obj c fs =>
          obtain ⟨C, dx, fs', e1, e2, e3, t⟩ := rc
          cases hv
          rw [rw_fzo]
          exact ⟨_, C, dx, fs', rfl, e1, e2, by rw [e3, List.map_map]; rfl, t⟩
        | set xs => exact False.elim rc
      · unfold M.bnd at e
        rw [ev y hv] at e
        exact ⟨o, S', e, h1, h2⟩
  · have hn : ∀ i, x ≠ .loc i := fun i z => hx ⟨i, z⟩
    have ev : Mi.view x S = Option.some (.ok x, S) := by
      unfold Mi.view
      split
      · exact absurd rfl (hn _)
      · rfl
    refine ⟨x, rw_of rv hn, fun i z => absurd z (hn i), fun _ => rfl, ev, ?_⟩
    obtain ⟨o, S', e, h1, h2⟩ := h
    unfold M.bnd at e
    rw [ev] at e
    exact ⟨o, S', e, h1, h2⟩
end
/-! ### operators -/
def rCat0 (K : PySem.W.Frag) : R2 := fun x y H Q => ∃ a b ys, x = .ref a ∧ y = .ref b ∧ SqT K H a [] ∧ SqT K H b ys ∧ Q (.ref b) H
theorem op_cat0 {X : Cx} : OpR X (binaryOp .Add) (rCat0 X.K) := by
  intro pins s σ H x y v u Q I rx ry h
  obtain ⟨a, b, ys, rfl, rfl, ha, hb, q⟩ := h
  cases rx
  cases ry
  obtain ⟨its, r1, p1, _⟩ := I.tuple ha
  obtain ⟨its2, r2, p2, _⟩ := I.tuple hb
  cases r1
  exact cat_tup0 p1 p2 ⟨.ref b, H, I, rfl, q⟩

def opN : O2 → Operator
  | .add => .Add | .sub => .Sub | .mul => .Mult | .fdiv => .FloorDiv | .mod => .Mod | .pow => .Pow | .shl => .LShift | .shr => .RShift | .band => .BitAnd | .addm => .Add
theorem sz_eq : szl = sizeLine := rfl
theorem txS_append (a b : Tx) : txS a ++ txS b = txS (a ++ b) := by
  show PySem.Str.append (txS a) (txS b) = _
  simp [txS, PySem.Str.append]
theorem txS_length (a : Tx) : (txS a).length = a.length := by simp [txS, PySem.Str.length]
/-- an operator by values -/
def rOp (B : Bs) (W : WX) (σ : L2.St) (o : O2) : R2 := fun v u H Q => ∃ al S x y, SR B al S H ∧ RV B al S.length H x v ∧ RV B al S.length H y u ∧ Res B W σ al S H (binop o x y S) (fun al' S' H' d => ∀ v, RV B al' S'.length H' d v → Q v H')
/-- a new list (or dict ..) is a new place -/
theorem new_ok {B : Bs} {W : WX} {σ : L2.St} {al : Al} {S : Store} {H : Hp} {c : Cell} {o : HO} {Q : VK} {p : Addr} (sr : SR B al S H) (R : Res B W σ al S H (M.new c S) (fun al' S' H' d => ∀ v, RV B al' S'.length H' d v → Q v H')) (hp : H p = none)
    (hc : RC B (alN al S.length p) (S.length + 1) (upd H p o) p c) : Q (.ref p) (upd H p o) := by
  refine Res.ok R (al' := alN al S.length p) (H' := upd H p o) (by rw [List.length_append]; exact Xt.fresh hp) (SR.fresh sr hp hc) (.ref p) ?_
  rw [rv_loc]
  exact ⟨by rw [alN_eq], by simp⟩
/-- a new list that is only read -/
theorem fzl_ok {B : Bs} {W : WX} {σ : L2.St} {al : Al} {S : Store} {H : Hp} {xs : List D} {vs : List V} {Q : VK} {p : Addr} (sr : SR B al S H) (R : Res B W σ al S H (M.ret (.fzl xs) S) (fun al' S' H' d => ∀ v, RV B al' S'.length H' d v → Q v H')) (hp : H p = none)
    (hv : RVs B al S.length H xs vs) : Q (.ref p) (upd H p (.lst vs)) := by
  have x : Xt al S.length H al S.length (upd H p (.lst vs)) := Xt.side hp
  refine Res.ok R (al' := al) (H' := upd H p (.lst vs)) x (SR.side sr hp) (.ref p) ?_
  rw [rv_fzl]
  refine ⟨p, vs, rfl, ⟨upd_same, fun i hi z => ?_, fun h => ?_⟩, hv.mono sr x⟩
  · obtain ⟨o, e, _⟩ := sr.some hi
    rw [z, hp] at e
    cases e
  · obtain ⟨⟨o, e⟩, _⟩ := sr.hd p h
    rw [hp] at e
    cases e
/-- a new tuple -/
theorem tup_ok {B : Bs} {W : WX} {σ : L2.St} {al : Al} {S : Store} {H : Hp} {xs : List D} {vs : List V} {Q : VK} {p : Addr} (sr : SR B al S H) (R : Res B W σ al S H (M.ret (.tup xs) S) (fun al' S' H' d => ∀ v, RV B al' S'.length H' d v → Q v H')) (hp : H p = none)
    (hv : RVs B al S.length H xs vs) : Q (.ref p) (upd H p (.tup vs)) := by
  have x : Xt al S.length H al S.length (upd H p (.tup vs)) := Xt.side hp
  refine Res.ok R (al' := al) (H' := upd H p (.tup vs)) x (SR.side sr hp) (.ref p) ?_
  rw [rv_tup]
  exact ⟨p, vs, rfl, .of upd_same, hv.mono sr x⟩
theorem op_ok {X : Cx} {W : WX} {σ : L2.St} {o : O2} (ho : o ≠ .band) : OpR X (binaryOp (opN o)) (rOp (bs X ϑ) W σ o) := by
  intro pins s σ' H v u v' u' Q I rv ru h
  obtain ⟨al, S, x, y, sr, hx, hy, R⟩ := h
  have bad : ∀ {P : Prop}, Res (bs X ϑ) W σ al S H none (fun al' S' H' d => ∀ v, RV (bs X ϑ) al' S'.length H' d v → Q v H') → P := fun h => h.none.elim
  cases o with
  | band => exact absurd rfl ho
  | add =>
    have lists : Res (bs X ϑ) W σ al S H (M.bnd (Mi.view x) (fun x => M.bnd (Mi.view y) (catF x)) S) (fun al' S' H' d => ∀ v, RV (bs X ϑ) al' S'.length H' d v → Q v H') → wpAny (model X.prog X.w) X.A (binaryOp .Add v' u') (EP X pins σ' Q) X.xe s := fun R => by
      obtain ⟨x2, rx, -, -, -, R⟩ := Res.view sr hx R
      obtain ⟨y2, ry, -, -, -, R⟩ := Res.view sr hy R
      cases x2 <;> cases y2 <;> first | exact bad R | skip
      rw [rw_fzl] at rx ry
      obtain ⟨a, vs, rfl, _, e, t⟩ := rx
      obtain ⟨b, ws, rfl, _, e', t'⟩ := ry
      obtain ⟨hz, R⟩ := R.need
      exact op_cat pins s σ' H _ _ v' u' Q I rv ru ⟨_, _, vs, ws, rfl, rfl, e, e', by rw [← t.length, ← t'.length]; exact hz, fun p hp => fzl_ok sr R hp (t.append t')⟩
    cases x <;> cases y <;> first | exact lists R | skip
    · rw [rv_int] at hx hy
      exact op_add pins s σ' H v u v' u' Q I rv ru ⟨_, _, hx, hy, R.ret sr _ (by simp [RV])⟩
    · rw [rv_str] at hx hy
      obtain ⟨hz, R⟩ := R.need
      exact op_add_str pins s σ' H v u v' u' Q I rv ru ⟨_, _, hx.1, hy.1, by rw [txS_length, txS_length]; exact hz, by rw [txS_append]; exact R.ret sr _ (by rw [rv_str]; exact ⟨rfl, by rw [List.length_append]; exact hz, by rw [List.all_append, hx.2.2, hy.2.2]; rfl⟩)⟩
    · rename_i xs ys
      rw [rv_tup] at hx hy
      obtain ⟨a, vs, rfl, qa, ta⟩ := hx
      obtain ⟨b, ws, rfl, qb, tb⟩ := hy
      obtain ⟨hz, R⟩ := R.need
      have la := ta.length
      have lb := tb.length
      by_cases hv : vs = []
      · subst hv
        have : xs = [] := List.eq_nil_of_length_eq_zero (by simpa using la)
        subst this
        exact op_cat0 pins s σ' H _ _ v' u' Q I rv ru ⟨a, b, ws, rfl, rfl, qa, qb, R.ret sr _ (by rw [rv_tup]; exact ⟨b, ws, rfl, qb, by simpa using tb⟩)⟩
      · refine op_catT pins s σ' H _ _ v' u' Q I rv ru ⟨a, b, vs, ws, rfl, rfl, qa, qb, hv, by rw [← la, ← lb]; exact hz, fun hw => ?_, fun hw p hp => tup_ok sr R hp (ta.append tb)⟩
        subst hw
        have : ys = [] := List.eq_nil_of_length_eq_zero (by simpa using lb)
        subst this
        exact R.ret sr _ (by rw [rv_tup]; exact ⟨a, vs, rfl, qa, by simpa using ta⟩)
  | addm =>
    have R : Res (bs X ϑ) W σ al S H (M.bnd (Mi.view x) (fun x => M.bnd (Mi.view y) (catP x)) S) (fun al' S' H' d => ∀ v, RV (bs X ϑ) al' S'.length H' d v → Q v H') := by simpa only [binop] using R
    obtain ⟨x2, rx, -, -, -, R⟩ := Res.view sr hx R
    obtain ⟨y2, ry, -, -, -, R⟩ := Res.view sr hy R
    cases x2 <;> cases y2 <;> first | exact bad R | skip
    rw [rw_fzl] at rx ry
    obtain ⟨a, vs, rfl, _, e, t⟩ := rx
    obtain ⟨b, ws, rfl, _, e', t'⟩ := ry
    obtain ⟨hz, R⟩ := R.need
    exact op_cat pins s σ' H _ _ v' u' Q I rv ru ⟨_, _, vs, ws, rfl, rfl, e, e', by rw [← t.length, ← t'.length]; exact hz, fun p hp => new_ok sr R hp ⟨_, upd_same, (t.append t').mono sr (Xt.fresh hp)⟩⟩
  | sub =>
    cases x <;> cases y <;> first | exact bad R | skip
    rw [rv_int] at hx hy
    exact op_sub pins s σ' H v u v' u' Q I rv ru ⟨_, _, hx, hy, R.ret sr _ (by simp [RV])⟩
  | mul =>
    cases x <;> cases y <;> first | exact bad R | skip
    · rw [rv_int] at hx hy
      obtain ⟨hz, R⟩ := R.need
      exact op_mul pins s σ' H v u v' u' Q I rv ru ⟨_, _, hx, hy, by simpa [i64, CMul] using hz, R.ret sr _ (by simp [RV])⟩
    · rename_i xs k
      rw [rv_tup] at hx
      rw [rv_int] at hy
      obtain ⟨a, vs, rfl, qa, ta⟩ := hx
      obtain ⟨⟨z1, z2, z3, z4⟩, R⟩ := R.need
      have rep : ∀ n : Nat, RVs (bs X ϑ) al S.length H (List.replicate n xs).flatten (List.replicate n vs).flatten := fun n => by
        induction n with
        | zero => exact .nil
        | succ n ih => simp only [List.replicate_succ, List.flatten_cons]; exact ta.append ih
      exact op_repT pins s σ' H _ _ v' u' Q I rv ru ⟨a, k, vs, rfl, hy, qa, fun e => z1 (by subst e; exact List.eq_nil_of_length_eq_zero (by simpa using ta.length)), z2, z3, by rw [← ta.length]; exact z4, fun p hp => tup_ok sr R hp (rep _)⟩
  | fdiv =>
    cases x <;> cases y <;> first | exact bad R | skip
    rw [rv_int] at hx hy
    obtain ⟨hz, R⟩ := R.need
    exact op_fdiv pins s σ' H v u v' u' Q I rv ru ⟨_, _, hx, hy, hz, R.ret sr _ (by simp [RV])⟩
  | mod =>
    cases x <;> cases y <;> first | exact bad R | skip
    rw [rv_int] at hx hy
    obtain ⟨hz, R⟩ := R.need
    exact op_mod pins s σ' H v u v' u' Q I rv ru ⟨_, _, hx, hy, hz, R.ret sr _ (by simp [RV])⟩
  | pow =>
    cases x <;> cases y <;> first | exact bad R | skip
    rw [rv_int] at hx hy
    obtain ⟨hz, R⟩ := R.need
    exact op_pow pins s σ' H v u v' u' Q I rv ru ⟨_, _, hx, hy, hz, R.ret sr _ (by simp [RV])⟩
  | shl =>
    cases x <;> cases y <;> first | exact bad R | skip
    rw [rv_int] at hx hy
    obtain ⟨hz, R⟩ := R.need
    exact op_shl pins s σ' H v u v' u' Q I rv ru ⟨_, _, hx, hy, hz, R.ret sr _ (by simp [RV])⟩
  | shr =>
    cases x <;> cases y <;> first | exact bad R | skip
    rw [rv_int] at hx hy
    obtain ⟨hz, R⟩ := R.need
    exact op_shr pins s σ' H v u v' u' Q I rv ru ⟨_, _, hx, hy, hz, R.ret sr _ (by simp [RV])⟩
end Mi

set_option autoImplicit true
set_option maxRecDepth 512
set_option maxHeartbeats 200000
set_option Elab.async false
set_option linter.all false
set_option maxRecDepth 100000
/-! Mi4: comparisons, places, slices, built-in calls and methods. -/
namespace Mi
open PySem PySem.Spec PyProof.Rows L2

/-! ### data as the library's data -/
mutual
def pd : D → PyData
  | .non => .none
  | .bl b => .bool b
  | .int i => .int i
  | .str s => .str (txS s)
  | .tup xs => .tuple (pds xs)
  | .fzl xs => .list (pds xs)
  | .scr _ => .none
  | .fzd _ _ => .none
  | .fzo _ _ _ => .none
  | .loc _ => .none
  | .xc _ => .none
def pds : List D → List PyData
  | [] => []
  | x :: xs => pd x :: pds xs
end
theorem txS_inj {a b : Tx} : txS a = txS b ↔ a = b := by
  constructor
  · intro h
    have : (txS a).cps.toList = (txS b).cps.toList := by rw [h]
    simpa [txS] using this
  · intro h; rw [h]
mutual
theorem eqv_pd : ∀ a b : D, a.flat = true → b.flat = true → PyData.eqv (pd a) (pd b) = D.eqv a b
  | .tup xs, b, h1, h2 => by
    cases b <;> first | (simp [D.flat] at h2; done) | (simp [pd, PyData.eqv, D.eqv]; done) | skip
    rw [D.flat] at h1 h2
    simp only [pd, PyData.eqv, D.eqv]
    exact eqvs_pd xs _ h1 h2
  | .fzl xs, b, h1, h2 => by
    cases b <;> first | (simp [D.flat] at h2; done) | (simp [pd, PyData.eqv, D.eqv]; done) | skip
    rw [D.flat] at h1 h2
    simp only [pd, PyData.eqv, D.eqv]
    exact eqvs_pd xs _ h1 h2
  | .non, b, _, h => by cases b <;> simp_all [pd, PyData.eqv, D.eqv, D.flat]
  | .bl _, b, _, h => by cases b <;> simp_all [pd, PyData.eqv, D.eqv, D.flat, Bool.beq_eq_decide_eq]
  | .int _, b, _, h => by cases b <;> simp_all [pd, PyData.eqv, D.eqv, D.flat, Bool.beq_eq_decide_eq]
  | .str s, b, _, h => by
    cases b <;> simp_all [pd, PyData.eqv, D.eqv, D.flat]
    rw [Bool.eq_iff_iff]; simp [txS_inj]
  | .scr _, _, h, _ => by simp [D.flat] at h
  | .fzd _ _, _, h, _ => by simp [D.flat] at h
  | .fzo _ _ _, _, h, _ => by simp [D.flat] at h
  | .loc _, _, h, _ => by simp [D.flat] at h
  | .xc _, _, h, _ => by simp [D.flat] at h
theorem eqvs_pd : ∀ a b : List D, D.flats a = true → D.flats b = true → PyData.eqvAll (pds a) (pds b) = D.eqvs a b
  | [], [], _, _ => by simp [pds, PyData.eqvAll, D.eqvs]
  | [], _ :: _, _, _ => by simp [pds, PyData.eqvAll, D.eqvs]
  | _ :: _, [], _, _ => by simp [pds, PyData.eqvAll, D.eqvs]
  | a :: as, b :: bs, h1, h2 => by
    rw [D.flats, Bool.and_eq_true] at h1 h2
    simp only [pds, PyData.eqvAll, D.eqvs]
    rw [eqv_pd a b h1.1 h2.1, eqvs_pd as bs h1.2 h2.2]
end
mutual
theorem depth_pd : ∀ a : D, (pd a).depth = a.deep
  | .tup xs => by simp only [pd, PyData.depth, D.deep]; rw [depths_pd xs]
  | .non => by simp [pd, PyData.depth, D.deep]
  | .bl _ => by simp [pd, PyData.depth, D.deep]
  | .int _ => by simp [pd, PyData.depth, D.deep]
  | .str _ => by simp [pd, PyData.depth, D.deep]
  | .fzl xs => by simp only [pd, PyData.depth, D.deep]; rw [depths_pd xs]
  | .scr _ => by simp [pd, PyData.depth, D.deep]
  | .fzd _ _ => by simp [pd, PyData.depth, D.deep]
  | .fzo _ _ _ => by simp [pd, PyData.depth, D.deep]
  | .loc _ => by simp [pd, PyData.depth, D.deep]
  | .xc _ => by simp [pd, PyData.depth, D.deep]
theorem depths_pd : ∀ a : List D, PyData.depthAll (pds a) = D.deeps a
  | [] => by simp [pds, PyData.depthAll, D.deeps]
  | a :: as => by simp only [pds, PyData.depthAll, D.deeps]; rw [depth_pd a, depths_pd as]
end
section
variable {B : Bs} {al : Al} {n : Nat} {H : Hp}
mutual
theorem dp_pd : ∀ {a : D} {v : V}, a.flat = true → RV B al n H a v → Dp B.K H v (pd a) ∧ (pd a).canLay0 = true
  | .non, v, _, h => by rw [rv_non] at h; subst h; exact ⟨.non, by simp [pd, PyData.canLay0]⟩
  | .bl b, v, _, h => by rw [rv_bl] at h; subst h; exact ⟨.bl _, by simp [pd, PyData.canLay0]⟩
  | .int i, v, _, h => by rw [rv_int] at h; subst h; exact ⟨.int _, by simp [pd, PyData.canLay0]⟩
  | .str s, v, _, h => by
    rw [rv_str] at h
    obtain ⟨rfl, _, q⟩ := h
    refine ⟨.str _, ?_⟩
    simp only [pd, PyData.canLay0]
    show (txS s).cps.all (fun c => decide (c < 0x110000)) = true
    simpa [txS] using q
  | .tup xs, v, f, h => by
    rw [rv_tup] at h
    obtain ⟨a, vs, rfl, q, t⟩ := h
    rw [D.flat] at f
    obtain ⟨h1, h2⟩ := dps_pd f t
    exact ⟨.tup q h1, by simpa only [pd, PyData.canLay0] using h2⟩
  | .fzl xs, v, f, h => by
    rw [rv_fzl] at h
    obtain ⟨a, vs, rfl, q, t⟩ := h
    rw [D.flat] at f
    obtain ⟨h1, h2⟩ := dps_pd f t
    exact ⟨.lst q.sq h1, by simpa only [pd, PyData.canLay0] using h2⟩
  | .scr _, _, f, _ => by simp [D.flat] at f
  | .fzd _ _, _, f, _ => by simp [D.flat] at f
  | .fzo _ _ _, _, f, _ => by simp [D.flat] at f
  | .loc _, _, f, _ => by simp [D.flat] at f
  | .xc _, _, f, _ => by simp [D.flat] at f
theorem dps_pd : ∀ {as : List D} {vs : List V}, D.flats as = true → RVs B al n H as vs → DpAll B.K H vs (pds as) ∧ PyData.canLayAll0 (pds as) = true
  | [], vs, _, h => by simp only [RVs] at h; subst h; exact ⟨.nil, by simp [pds, PyData.canLayAll0]⟩
  | a :: as, vs, f, h => by
    simp only [RVs] at h
    obtain ⟨v, r, rfl, h1, h2⟩ := h
    rw [D.flats, Bool.and_eq_true] at f
    obtain ⟨q1, q2⟩ := dp_pd f.1 h1
    obtain ⟨q3, q4⟩ := dps_pd f.2 h2
    exact ⟨.cons q1 q3, by simp only [pds, PyData.canLayAll0, q2, q4]; rfl⟩
end
theorem dp_rw {a : D} {v : V} (f : a.flat = true) (h : RW B al n H a v) : Dp B.K H v (pd a) ∧ (pd a).canLay0 = true := by
  cases a with
  | fzl xs =>
    rw [rw_fzl] at h
    obtain ⟨a, vs, rfl, _, e, t⟩ := h
    rw [D.flat] at f
    obtain ⟨h1, h2⟩ := dps_pd f t
    exact ⟨.lst (.of e) h1, by simpa only [pd, PyData.canLay0] using h2⟩
  | loc _ => simp [D.flat] at f
  | fzd _ _ => simp [D.flat] at f
  | fzo _ _ _ => simp [D.flat] at f
  | _ => exact dp_pd (al := al) (n := n) f h
theorem shaped_rw {a : D} {v : V} (f : a.flat = true) (d : a.deep ≤ 64) (h : RW B al n H a v) : SeqAt.shaped (pd a) = true := by
  unfold SeqAt.shaped
  rw [(dp_rw f h).2, depth_pd, decide_eq_true d]; rfl
theorem shaped_pd {a : D} {v : V} (f : a.flat = true) (d : a.deep ≤ 64) (h : RV B al n H a v) : SeqAt.shaped (pd a) = true := by
  unfold SeqAt.shaped
  rw [(dp_pd f h).2, depth_pd, decide_eq_true d]; rfl
end

/-- a comparison by values -/
def rCmp (B : Bs) (W : WX) (σ : L2.St) (m : D → D → M Bool) : R2 := fun v u H Q => ∃ al S x y, SR B al S H ∧ RV B al S.length H x v ∧ RV B al S.length H y u ∧ Res B W σ al S H (m x y S) (fun al' S' H' k => Q (.bl k) H')
def cpN : Cp → CmpOp
  | .eq => .Eq | .ne => .NotEq | .lt => .Lt | .le => .LtE | .gt => .Gt | .ge => .GtE | .inn => .In | .nin => .NotIn | .isN => .Is | .notN => .IsNot

/-- what == answers, before it is turned -/
theorem eqM_ok {X : Cx} {W : WX} {σ : L2.St} {al : Al} {S : Store} {H : Hp} {x y : D} {v u : V} {k : Al → Store → Hp → Bool → Prop} (sr : SR (bs X ϑ) al S H) (hx : RV (bs X ϑ) al S.length H x v) (hy : RV (bs X ϑ) al S.length H y u)
    (R : Res (bs X ϑ) W σ al S H (eqM x y S) k) : ∃ d e, Dp X.K H v d ∧ Dp X.K H u e ∧ SeqAt.shaped d = true ∧ SeqAt.shaped e = true ∧ k al S H (PyData.eqv d e) := by
  unfold eqM at R
  obtain ⟨x2, rx, -, -, -, R⟩ := Res.view sr hx R
  obtain ⟨y2, ry, -, -, -, R⟩ := Res.view sr hy R
  obtain ⟨⟨f1, f2, d1, d2⟩, R⟩ := R.need
  exact ⟨pd x2, pd y2, (dp_rw f1 rx).1, (dp_rw f2 ry).1, shaped_rw f1 d1 rx, shaped_rw f2 d2 ry, by rw [eqv_pd x2 y2 f1 f2]; exact R.ret sr⟩
theorem eq_ok {X : Cx} {W : WX} {σ : L2.St} (hu : X.A.units + 64 < cLine) : OpR X (compareOp .Eq) (rCmp (bs X ϑ) W σ eqM) := by
  intro pins s σ' H v u v' u' Q I rv ru h
  obtain ⟨al, S, x, y, sr, hx, hy, R⟩ := h
  exact op_eqD hu pins s σ' H v u v' u' Q I rv ru (eqM_ok sr hx hy R)
theorem ne_ok {X : Cx} {W : WX} {σ : L2.St} (hu : X.A.units + 64 < cLine) : OpR X (compareOp .NotEq) (rCmp (bs X ϑ) W σ fun x y => M.bnd (eqM x y) fun b => M.ret (!b)) := by
  intro pins s σ' H v u v' u' Q I rv ru h
  obtain ⟨al, S, x, y, sr, hx, hy, R⟩ := h
  have R := R.bnd.imp (k' := fun al' S' H' b => al' = al ∧ S' = S ∧ H' = H → Q (.bl (!b)) H') fun al' S' H' b x1 y1 _ q => fun ⟨e1, e2, e3⟩ => by subst e1 e2 e3; exact q.ret sr
  obtain ⟨d, e, h1, h2, h3, h4, q⟩ := eqM_ok sr hx hy R
  exact op_neD hu pins s σ' H v u v' u' Q I rv ru ⟨d, e, h1, h2, h3, h4, q ⟨rfl, rfl, rfl⟩⟩
/-- numbers -/
theorem num_ok {X : Cx} {W : WX} {σ : L2.St} {f : Value → Value → Sem Value} {p : Int → Int → Bool} {m : D → D → M Bool} (ho : OpR X f (rI0 fun i j => .bl (p i j)))
    (hm : ∀ x y, (∃ i j, x = .int i ∧ y = .int j ∧ m x y = M.ret (p i j)) ∨ m x y = M.fail) : OpR X f (rCmp (bs X ϑ) W σ m) := by
  intro pins s σ' H v u v' u' Q I rv ru h
  obtain ⟨al, S, x, y, sr, hx, hy, R⟩ := h
  rcases hm x y with ⟨i, j, rfl, rfl, e⟩ | e
  · rw [e] at R
    rw [rv_int] at hx hy
    exact ho pins s σ' H v u v' u' Q I rv ru ⟨i, j, hx, hy, R.ret sr⟩
  · rw [e] at R
    exact R.none.elim
theorem lt_ok {X : Cx} {W : WX} {σ : L2.St} : OpR X (compareOp .Lt) (rCmp (bs X ϑ) W σ (cmpM .lt)) := num_ok op_lt fun x y => by
  cases x <;> cases y <;> first | exact .inl ⟨_, _, rfl, rfl, rfl⟩ | exact .inr rfl
theorem le_ok {X : Cx} {W : WX} {σ : L2.St} : OpR X (compareOp .LtE) (rCmp (bs X ϑ) W σ (cmpM .le)) := num_ok op_le fun x y => by
  cases x <;> cases y <;> first | exact .inl ⟨_, _, rfl, rfl, rfl⟩ | exact .inr rfl
theorem gt_ok {X : Cx} {W : WX} {σ : L2.St} : OpR X (compareOp .Gt) (rCmp (bs X ϑ) W σ (cmpM .gt)) := num_ok op_gt fun x y => by
  cases x <;> cases y <;> first | exact .inl ⟨_, _, rfl, rfl, rfl⟩ | exact .inr rfl
theorem ge_ok {X : Cx} {W : WX} {σ : L2.St} : OpR X (compareOp .GtE) (rCmp (bs X ϑ) W σ (cmpM .ge)) := num_ok op_ge fun x y => by
  cases x <;> cases y <;> first | exact .inl ⟨_, _, rfl, rfl, rfl⟩ | exact .inr rfl
theorem isN_ok {X : Cx} {W : WX} {σ : L2.St} : OpR X (compareOp .Is) (rCmp (bs X ϑ) W σ (cmpM .isN)) := by
  intro pins s σ' H v u v' u' Q I rv ru h
  obtain ⟨al, S, x, y, sr, hx, hy, R⟩ := h
  cases y <;> first | exact R.none.elim | skip
  rw [rv_non] at hy
  refine op_isN pins s σ' H v u v' u' Q I rv ru ⟨hy, ?_⟩
  have q := R.ret sr
  have e : decide (v = .non) = x.isNon := by
    cases x <;> simp only [RV] at hx <;> first | exact False.elim hx | (subst hx; rfl) | (obtain ⟨rfl, _⟩ := hx; rfl) | (obtain ⟨a, C, dx, fs', rfl, _⟩ := hx; rfl) | (obtain ⟨a, vs, rfl, _⟩ := hx; rfl) | (obtain ⟨a, rfl, _⟩ := hx; rfl) | (obtain ⟨a, C, dx, fs', rfl, _⟩ := hx; rfl)
  rw [e]; exact q
theorem notN_ok {X : Cx} {W : WX} {σ : L2.St} : OpR X (compareOp .IsNot) (rCmp (bs X ϑ) W σ (cmpM .notN)) := by
  intro pins s σ' H v u v' u' Q I rv ru h
  obtain ⟨al, S, x, y, sr, hx, hy, R⟩ := h
  cases y <;> first | exact R.none.elim | skip
  rw [rv_non] at hy
  refine op_notN pins s σ' H v u v' u' Q I rv ru ⟨hy, ?_⟩
  have q := R.ret sr
  have e : (!decide (v = .non)) = !x.isNon := by
    cases x <;> simp only [RV] at hx <;> first | exact False.elim hx | (subst hx; rfl) | (obtain ⟨rfl, _⟩ := hx; rfl) | (obtain ⟨a, C, dx, fs', rfl, _⟩ := hx; rfl) | (obtain ⟨a, vs, rfl, _⟩ := hx; rfl) | (obtain ⟨a, rfl, _⟩ := hx; rfl) | (obtain ⟨a, C, dx, fs', rfl, _⟩ := hx; rfl)
  rw [e]; exact q
/-! ### in -/
theorem any_pd {x : D} (fx : x.flat = true) : ∀ {ys : List D}, D.flats ys = true → ((pds ys).any fun z => PyData.eqv z (pd x)) = ys.any fun y => D.eqv y x
  | [], _ => rfl
  | y :: ys, f => by
    rw [D.flats, Bool.and_eq_true] at f
    rw [pds, List.any_cons, List.any_cons, eqv_pd y x f.1 fx, any_pd fx f.2]
theorem shaped_tup {B : Bs} {al : Al} {n : Nat} {H : Hp} {ys : List D} {vs : List V} (f : D.flats ys = true) (d : D.deeps ys < 64) (h : RVs B al n H ys vs) : SeqAt.shaped (.tuple (pds ys)) = true ∧ SeqAt.shaped (.list (pds ys)) = true := by
  unfold SeqAt.shaped
  simp only [PyData.canLay0, PyData.depth, (dps_pd f h).2, depths_pd, Bool.true_and, decide_eq_true_eq]
  omega
theorem inM_ok {X : Cx} {W : WX} {σ : L2.St} {al : Al} {S : Store} {H : Hp} {x y : D} {v u : V} {k : Al → Store → Hp → Bool → Prop} (sr : SR (bs X ϑ) al S H) (hx : RV (bs X ϑ) al S.length H x v) (hy : RV (bs X ϑ) al S.length H y u)
    (R : Res (bs X ϑ) W σ al S H (inM x y S) k) : (∃ d ds, Dp X.K H v d ∧ (Dp X.K H u (.list ds) ∨ Dp X.K H u (.tuple ds)) ∧ SeqAt.shaped d = true ∧ SeqAt.shaped (.list ds) = true ∧ SeqAt.shaped (.tuple ds) = true ∧ k al S H (ds.any fun z => PyData.eqv z d)) ∨
      (∃ c b, v = .str (txS [c]) ∧ u = .str (txS b) ∧ k al S H (decide (c ∈ b))) ∨ ∃ a ks ds, keyFit ks x = true ∧ u = .ref a ∧ ((∃ kvs, Rd H a (.dK kvs) ∧ ks.map keyO = kvs.map (fun p => some p.1) ∧ RVs (bs X ϑ) al S.length H ds (kvs.map (·.2))) ∨ WrD (bs X ϑ) a ks ds) ∧ k al S H (lookF x ks ds).isSome := by
  unfold inM at R
  obtain ⟨y2, ry, -, -, -, R2⟩ := Res.view sr hy R
  clear R
  unfold inF at R2
  split at R2
  · rename_i c b
    rw [rv_str] at hx
    have ry : RV (bs X ϑ) al S.length H (.str b) u := ry
    rw [rv_str] at ry
    exact .inr (.inl ⟨c, b, hx.1, ry.1, R2.ret sr⟩)
  · rename_i ys
    have ry : RV (bs X ϑ) al S.length H (.tup ys) u := ry
    rw [rv_tup] at ry
    obtain ⟨a, vs, rfl, q, t⟩ := ry
    obtain ⟨⟨f1, f2, d1, d2⟩, R⟩ := R2.need
    refine .inl ⟨pd x, pds ys, (dp_pd f1 hx).1, .inr (.tup q (dps_pd f2 t).1), shaped_pd f1 d1 hx, (shaped_tup f2 d2 t).2, (shaped_tup f2 d2 t).1, ?_⟩
    rw [any_pd f1 f2]
    exact R.ret sr
  · rename_i ys
    rw [rw_fzl] at ry
    obtain ⟨a, vs, rfl, _, e, t⟩ := ry
    obtain ⟨⟨f1, f2, d1, d2⟩, R⟩ := R2.need
    refine .inl ⟨pd x, pds ys, (dp_pd f1 hx).1, .inl (.lst (.of e) (dps_pd f2 t).1), shaped_pd f1 d1 hx, (shaped_tup f2 d2 t).2, (shaped_tup f2 d2 t).1, ?_⟩
    rw [any_pd f1 f2]
    exact R.ret sr
  · rename_i ks ds
    rw [rw_fzd] at ry
    obtain ⟨a, rfl, ry⟩ := ry
    obtain ⟨hk, R⟩ := R2.need
    exact .inr (.inr ⟨a, ks, ds, hk, rfl, ry, R.ret sr⟩)
  · exact R2.none.elim
/-! ### what a dict holds -/
theorem key_V {B : Bs} {al : Al} {n : Nat} {H : Hp} {x : D} {v : V} {ks : List D} (h : keyFit ks x = true) (r : RV B al n H x v) : ∃ k, keyO x = some k ∧ v = kV k := by
  cases x <;> simp [keyFit] at h
  · rw [rv_int] at r; exact ⟨_, rfl, r⟩
  · rw [rv_str] at r; exact ⟨_, rfl, r.1⟩
theorem key_str {B : Bs} {a : Addr} {ks ds : List D} {x : D} (h : keyFit ks x = true) (w : ∀ i, keyFit ks (.int i) = false) : ∃ z, x = .str z := by
  cases x with
  | str z => exact ⟨z, rfl⟩
  | int i => rw [w i] at h; cases h
  | _ => simp [keyFit] at h
/-- d[k], there -/
theorem wr_at {B : Bs} {a : Addr} {ks ds : List D} {z : Tx} {d : D} (h : ∃ r, PySem.W.nsIn B.K a (txS z) = some r ∧ match lookF (.str z) ks ds, r with
    | some d, some u => litV d u
    | none, none => True
    | _, _ => False) (e : lookF (.str z) ks ds = some d) : ∃ u v, PySem.W.nsIn B.K a (txS z) = some (some u) ∧ RelV v u ∧ ∀ al n H, RV B al n H d v := by
  obtain ⟨r, h1, h2⟩ := h
  rw [e] at h2
  cases r with
  | none => exact h2.elim
  | some u =>
    cases d <;> simp only [litV] at h2
    · obtain ⟨t, rfl⟩ := h2
      exact ⟨_, .int _, h1, ⟨t, rfl⟩, fun _ _ _ => by rw [rv_int]⟩
    · obtain ⟨⟨t, rfl⟩, q⟩ := h2
      exact ⟨_, .str _, h1, ⟨t, rfl⟩, fun _ _ _ => by rw [rv_str]; exact ⟨rfl, q⟩⟩
theorem wr_no {B : Bs} {a : Addr} {ks ds : List D} {z : Tx} (h : ∃ r, PySem.W.nsIn B.K a (txS z) = some r ∧ match lookF (.str z) ks ds, r with
    | some d, some u => litV d u
    | none, none => True
    | _, _ => False) (e : lookF (.str z) ks ds = none) : PySem.W.nsIn B.K a (txS z) = some none := by
  obtain ⟨r, h1, h2⟩ := h
  rw [e] at h2
  cases r with
  | none => exact h1
  | some u => exact h2.elim
theorem keyO_inj {x y : D} {k : Key} (hx : keyO x = some k) (hy : keyO y = some k) : x = y := by
  cases x <;> simp [keyO] at hx <;> subst hx <;> cases y <;> simp [keyO, txS_inj] at hy <;> rw [hy]
/-- looking up, here and there -/
theorem look_rd {B : Bs} {al : Al} {n : Nat} {H : Hp} {x : D} {k : Key} (hx : keyO x = some k) : ∀ {ks ds : List D} {kvs : List (Key × V)}, ks.map keyO = kvs.map (fun p => some p.1) → RVs B al n H ds (kvs.map (·.2)) →
    match lookF x ks ds, valV kvs k with
      | some d, some v => RV B al n H d v
      | none, none => True
      | _, _ => False
  | [], ds, [], _, _ => by simp [lookF, valV_nil]
  | [], _, _ :: _, h, _ => by simp at h
  | _ :: _, _, [], h, _ => by simp at h
  | y :: ks, [], p :: kvs, _, t => by simp [RVs] at t
  | y :: ks, d :: ds, p :: kvs, h, t => by
    simp only [List.map_cons, List.cons.injEq] at h
    simp only [List.map_cons, RVs] at t
    obtain ⟨v, r, e, t1, t2⟩ := t
    cases e
    rw [lookF]
    by_cases hp : y = x
    · subst hp
      rw [hx] at h
      have : p.1 = k := (Option.some.inj h.1).symm
      rw [if_pos rfl, valV_pos this]
      exact t1
    · have : ¬ p.1 = k := fun z => hp (keyO_inj (by rw [h.1, z]) hx)
      rw [if_neg hp, valV_neg this]
      exact look_rd hx h.2 t2
theorem in_ok {X : Cx} {W : WX} {σ : L2.St} (hu : X.A.units + 65 < cLine) : OpR X (compareOp .In) (rCmp (bs X ϑ) W σ inM) := by
  intro pins s σ' H v u v' u' Q I rv ru h
  obtain ⟨al, S, x, y, sr, hx, hy, R⟩ := h
  rcases inM_ok sr hx hy R with ⟨d, ds, h1, h2, h3, h4, h5, q⟩ | ⟨c, b, rfl, rfl, q⟩ | ⟨a, ks, ds, hk, rfl, hd, q⟩
  · obtain ⟨as, r1⟩ := Dp.reads I d v v' h1 rv
    rcases h2 with h2 | h2
    · obtain ⟨bs, r2⟩ := Dp.reads I (.list ds) u u' h2 ru
      exact SeqAt.in_list_reads r2 r1 (SeqAt.canLay_of_shaped h4) (SeqAt.canLay_of_shaped h3) (room_in_shaped h3 hu) ⟨.bl _, H, I, rfl, q⟩
    · obtain ⟨bs, r2⟩ := Dp.reads I (.tuple ds) u u' h2 ru
      exact SeqAt.in_tuple_reads r2 r1 (SeqAt.canLay_of_shaped h5) (SeqAt.canLay_of_shaped h3) (room_in_shaped h3 hu) ⟨.bl _, H, I, rfl, q⟩
  · refine op_in_str pins s σ' H _ _ v' u' Q I rv ru ⟨_, _, rfl, rfl, ?_⟩
    have e := PySem.StrLaws.found_one (txS b) c
    have e2 : (txS [c]) = (⟨#[c]⟩ : PySem.Str) := rfl
    rw [e2, e, decide_eq_decide.mpr (show c ∈ (txS b).cps.toList ↔ c ∈ b from Iff.rfl)]
    exact q
  · obtain ⟨ky, k1, rfl⟩ := key_V hk hx
    rcases hd with ⟨kvs, g, k2, t⟩ | ⟨_, _, es, n, KD, w1, w2⟩
    · have L := look_rd k1 k2 t
      have e : (lookF x ks ds).isSome = (valV kvs ky).isSome := by revert L; cases lookF x ks ds <;> cases valV kvs ky <;> simp
      cases ru
      exact d_in (X := X) (A := X.A) (E := X.xe) (show X.A.units + 1 < cLine by omega) I (.inl ⟨kvs, ky, g, rfl, rfl⟩) rv fun s' I' => ⟨.bl _, H, I', rfl, by rw [← e]; exact q⟩
    · obtain ⟨z, rfl⟩ := key_str (B := bs X ϑ) (a := a) (ds := ds) hk w1
      cases k1
      cases e : lookF (.str z) ks ds with
      | none => exact op_in_kd KD pins s σ' H _ _ v' u' Q I rv ru ⟨txS z, none, rfl, rfl, wr_no (w2 z) e, by simp only [e] at q; exact q⟩
      | some d =>
        obtain ⟨u, _, h1, _⟩ := wr_at (w2 z) e
        exact op_in_kd KD pins s σ' H _ _ v' u' Q I rv ru ⟨txS z, some u, rfl, rfl, h1, by simp only [e] at q; exact q⟩
theorem nin_ok {X : Cx} {W : WX} {σ : L2.St} (hu : X.A.units + 65 < cLine) : OpR X (compareOp .NotIn) (rCmp (bs X ϑ) W σ fun x y => M.bnd (inM x y) fun b => M.ret (!b)) := by
  intro pins s σ' H v u v' u' Q I rv ru h
  obtain ⟨al, S, x, y, sr, hx, hy, R⟩ := h
  have R := R.bnd.imp (k' := fun al' S' H' b => al' = al ∧ S' = S ∧ H' = H → Q (.bl (!b)) H') fun al' S' H' b x1 y1 _ q => fun ⟨e1, e2, e3⟩ => by subst e1 e2 e3; exact q.ret sr
  rcases inM_ok sr hx hy R with ⟨d, ds, h1, h2, h3, h4, h5, q⟩ | ⟨c, b, rfl, rfl, q⟩ | ⟨a, ks, ds, hk, rfl, hd, q⟩
  · obtain ⟨as, r1⟩ := Dp.reads I d v v' h1 rv
    rcases h2 with h2 | h2
    · obtain ⟨bs, r2⟩ := Dp.reads I (.list ds) u u' h2 ru
      exact SeqAt.notIn_list_reads r2 r1 (SeqAt.canLay_of_shaped h4) (SeqAt.canLay_of_shaped h3) (room_in_shaped h3 hu) ⟨.bl _, H, I, rfl, q ⟨rfl, rfl, rfl⟩⟩
    · obtain ⟨bs, r2⟩ := Dp.reads I (.tuple ds) u u' h2 ru
      exact SeqAt.notIn_tuple_reads r2 r1 (SeqAt.canLay_of_shaped h5) (SeqAt.canLay_of_shaped h3) (room_in_shaped h3 hu) ⟨.bl _, H, I, rfl, q ⟨rfl, rfl, rfl⟩⟩
  · refine op_notin_str pins s σ' H _ _ v' u' Q I rv ru ⟨_, _, rfl, rfl, ?_⟩
    have e := PySem.StrLaws.found_one (txS b) c
    have e2 : (txS [c]) = (⟨#[c]⟩ : PySem.Str) := rfl
    rw [e2, e, decide_eq_decide.mpr (show c ∈ (txS b).cps.toList ↔ c ∈ b from Iff.rfl)]
    exact q ⟨rfl, rfl, rfl⟩
  · obtain ⟨ky, k1, rfl⟩ := key_V hk hx
    rcases hd with ⟨kvs, g, k2, t⟩ | ⟨_, _, es, n, KD, w1, w2⟩
    · have L := look_rd k1 k2 t
      have e : (lookF x ks ds).isSome = (valV kvs ky).isSome := by revert L; cases lookF x ks ds <;> cases valV kvs ky <;> simp
      cases ru
      exact d_notIn (X := X) (A := X.A) (E := X.xe) (show X.A.units + 1 < cLine by omega) I (.inl ⟨kvs, ky, g, rfl, rfl⟩) rv fun s' I' => ⟨.bl _, H, I', rfl, by rw [← e]; exact q ⟨rfl, rfl, rfl⟩⟩
    · obtain ⟨z, rfl⟩ := key_str (B := bs X ϑ) (a := a) (ds := ds) hk w1
      cases k1
      cases e : lookF (.str z) ks ds with
      | none => exact op_notIn_kd KD pins s σ' H _ _ v' u' Q I rv ru ⟨txS z, none, rfl, rfl, wr_no (w2 z) e, by have q2 := q ⟨rfl, rfl, rfl⟩; rw [e] at q2; exact q2⟩
      | some d =>
        obtain ⟨u, _, h1, _⟩ := wr_at (w2 z) e
        exact op_notIn_kd KD pins s σ' H _ _ v' u' Q I rv ru ⟨txS z, some u, rfl, rfl, h1, by have q2 := q ⟨rfl, rfl, rfl⟩; rw [e] at q2; exact q2⟩
theorem cmp_ok {X : Cx} {W : WX} {σ : L2.St} (hu : X.A.units + 65 < cLine) (c : Cp) : OpR X (compareOp (cpN c)) (rCmp (bs X ϑ) W σ (cmpM c)) := by
  have h64 : X.A.units + 64 < cLine := by omega
  cases c with
  | eq => exact eq_ok h64
  | ne => exact ne_ok h64
  | lt => exact lt_ok
  | le => exact le_ok
  | gt => exact gt_ok
  | ge => exact ge_ok
  | inn => exact in_ok hu
  | nin => exact nin_ok hu
  | isN => exact isN_ok
  | notN => exact notN_ok
end Mi

set_option autoImplicit true
set_option maxRecDepth 512
set_option maxHeartbeats 200000
set_option Elab.async false
set_option linter.all false
set_option maxRecDepth 100000
/-! Mi5: places, slices, built-in calls and methods. -/
namespace Mi
open PySem PySem.Spec PyProof.Rows L2

theorem ixN_eq (n : Nat) (i : Int) : ixN n i = L2.ixN n i := rfl
theorem atI_eq {α : Type} (xs : List α) (i : Int) : atI xs i = L2.atI xs i := rfl
theorem sIx_eq (n d : Nat) (o : Option Int) : sIx n d o = HT.sIx n d o := by cases o <;> rfl
section
variable {B : Bs} {al : Al} {n : Nat} {H : Hp}
theorem RVs.atI {xs : List D} {vs : List V} (h : RVs B al n H xs vs) {i : Int} {x : D} (e : Mi.atI xs i = some x) : ∃ v, L2.atI vs i = some v ∧ RV B al n H x v := by
  unfold Mi.atI at e
  unfold L2.atI
  rw [← h.length, ← ixN_eq]
  cases hj : Mi.ixN xs.length i with
  | none => rw [hj] at e; cases e
  | some j =>
    rw [hj] at e
    exact h.get (i := j) e
theorem RVs.cut {xs : List D} {vs : List V} (h : RVs B al n H xs vs) (lo hi : Option Int) : RVs B al n H (Mi.cut xs lo hi) (cutV vs lo hi) := by
  unfold Mi.cut cutV
  rw [← h.length, sIx_eq, sIx_eq]
  exact (h.drop _).take _
end
def rIxM (B : Bs) (W : WX) (σ : L2.St) : R2 := fun v u H Q => ∃ al S x y, SR B al S H ∧ RV B al S.length H x v ∧ RV B al S.length H y u ∧ Res B W σ al S H (indexM x y S) (fun al' S' H' d => ∀ v, RV B al' S'.length H' d v → Q v H')
theorem all_at {p : Nat → Bool} {s : Tx} (h : s.all p = true) {i : Int} {c : Nat} (e : atI s i = some c) : p c = true := by
  unfold atI at e
  cases hj : Mi.ixN s.length i with
  | none => rw [hj] at e; cases e
  | some j => rw [hj] at e; exact List.all_eq_true.mp h c (List.mem_of_getElem? e)
theorem ix_ok {X : Cx} {W : WX} {σ : L2.St} (hu : X.A.units + 1 < cLine) : IxR X (rIxM (bs X ϑ) W σ) := by
  intro value slice pins s σ' H v u v' u' Q I rv ru h hs
  obtain ⟨al, S, x, y, sr, hx, hy, R⟩ := h
  unfold indexM at R
  obtain ⟨x2, rx, -, -, -, R2⟩ := Res.view sr hx R
  clear R
  unfold indexF at R2
  split at R2
  · rename_i xs i
    rw [rv_int] at hy
    have rx : RV (bs X ϑ) al S.length H (.tup xs) v := rx
    rw [rv_tup] at rx
    obtain ⟨a, vs, rfl, q, t⟩ := rx
    obtain ⟨d, e, k⟩ := Res.of' sr R2
    obtain ⟨w, e2, r2⟩ := t.atI e
    exact ix_tup value slice pins s σ' H _ u v' u' Q I rv ru ⟨a, vs, i, w, rfl, hy, q, e2, k w r2⟩ hs
  · rename_i xs i
    rw [rv_int] at hy
    rw [rw_fzl] at rx
    obtain ⟨a, vs, rfl, _, q, t⟩ := rx
    obtain ⟨d, e, k⟩ := Res.of' sr R2
    obtain ⟨w, e2, r2⟩ := t.atI e
    exact ix_list value slice pins s σ' H _ u v' u' Q I rv ru ⟨a, vs, i, w, rfl, hy, .of q, e2, k w r2⟩ hs
  · rename_i z i
    rw [rv_int] at hy
    have rx : RV (bs X ϑ) al S.length H (.str z) v := rx
    rw [rv_str] at rx
    obtain ⟨d, e, k⟩ := Res.of' sr R2
    cases hc : atI z i with
    | none => rw [hc] at e; cases e
    | some c =>
      rw [hc] at e
      cases e
      refine ix_str value slice pins s σ' H v u v' u' Q I rv ru ⟨txS z, i, c, rx.1, hy, by rw [txS_length]; exact rx.2.1, by show L2.atI z i = some c; exact hc, k _ ?_⟩ hs
      rw [rv_str]
      exact ⟨rfl, by show 1 ≤ szl; decide, by simpa using all_at rx.2.2 hc⟩
  · rename_i ks ds _
    rw [rw_fzd] at rx
    obtain ⟨a, rfl, hd⟩ := rx
    obtain ⟨hk, R3⟩ := R2.need
    obtain ⟨d, e, k⟩ := Res.of' sr R3
    obtain ⟨ky, k1, rfl⟩ := key_V hk hy
    rcases hd with ⟨kvs, g, k2, t⟩ | ⟨_, _, es, n, KD, w1, w2⟩
    · have L := look_rd k1 k2 t
      rw [e] at L
      cases ev : valV kvs ky with
      | none => rw [ev] at L; exact L.elim
      | some w =>
        rw [ev] at L
        cases rv
        have g2 : DGet H a (kV ky) (some w) := .inl ⟨kvs, ky, g, rfl, ev.symm⟩
        exact tail_any (dict_typeIs I g2) PySem.F.slot_dict_getitem.lookup (d_getItem hu I g2 ru fun w' s' I' r' => ⟨w, H, I', r', k w L⟩) hs
    · obtain ⟨z, rfl⟩ := key_str (B := bs X ϑ) (a := a) (ds := ds) hk w1
      cases k1
      obtain ⟨u0, v0, h1, h2, h3⟩ := wr_at (w2 z) e
      exact ix_kdict value slice pins s σ' H _ _ v' u' Q I rv ru ⟨a, txS z, v0, rfl, rfl, ⟨es, n, u0, KD.at_, KD.lit, h1, h2⟩, k v0 (h3 _ _ _)⟩ hs
  · exact R2.none.elim

def rSlM (B : Bs) (W : WX) (σ : L2.St) : V → Option Int → Option Int → Hp → VK → Prop := fun v lo hi H Q => ∃ al S x, SR B al S H ∧ RV B al S.length H x v ∧ Res B W σ al S H (sliceM x lo hi S) (fun al' S' H' d => ∀ v, RV B al' S'.length H' d v → Q v H')
theorem str_cut {al : Al} {n : Nat} {B : Bs} {H : Hp} {z : Tx} {lo hi : Option Int} (hl : z.length ≤ szl) (ha : z.all (fun c => decide (c < 1114112)) = true) : RV B al n H (.str (Mi.cut z lo hi)) (.str (cutS (txS z) lo hi)) := by
  rw [rv_str]
  refine ⟨?_, ?_, ?_⟩
  · unfold cutS txS Mi.cut
    simp only [PySem.Str.length, List.size_toArray, sIx_eq]
  · unfold Mi.cut; rw [List.length_take, List.length_drop]; omega
  · rw [List.all_eq_true]
    intro c hc
    exact List.all_eq_true.mp ha c (List.mem_of_mem_drop (List.mem_of_mem_take hc))
theorem sl_ok {X : Cx} {W : WX} {σ : L2.St} : SlR X (rSlM (bs X ϑ) W σ) := by
  intro pins s σ' H v v' vl vu lo hi sl Q I rv hs pl pu h
  obtain ⟨al, S, x, sr, hx, R⟩ := h
  unfold sliceM at R
  obtain ⟨x2, rx, -, -, -, R2⟩ := Res.view sr hx R
  clear R
  unfold sliceF at R2
  split at R2
  · rename_i xs
    have rx : RV (bs X ϑ) al S.length H (.tup xs) v := rx
    rw [rv_tup] at rx
    obtain ⟨a, vs, rfl, q, t⟩ := rx
    refine sl_tupA pins s σ' H _ v' vl vu lo hi sl Q I rv hs pl pu ⟨a, vs, rfl, q, fun hw => ?_, fun hw p hp => tup_ok sr R2 hp (t.cut lo hi)⟩
    have e : cutV vs lo hi = vs := by
      unfold cutV
      rw [hw.1, hw.2]
      simp
    refine R2.ret sr _ ?_
    rw [rv_tup]
    exact ⟨a, vs, rfl, q, by have := t.cut lo hi; rw [e] at this; exact this⟩
  · rename_i xs
    rw [rw_fzl] at rx
    obtain ⟨a, vs, rfl, _, q, t⟩ := rx
    exact sl_list pins s σ' H _ v' vl vu lo hi sl Q I rv hs pl pu ⟨_, vs, rfl, .of q, fun p hp => fzl_ok sr R2 hp (t.cut lo hi)⟩
  · rename_i z
    have rx : RV (bs X ϑ) al S.length H (.str z) v := rx
    rw [rv_str] at rx
    obtain ⟨rfl, hl, ha⟩ := rx
    exact sl_str pins s σ' H _ v' vl vu lo hi sl Q I rv hs pl pu ⟨txS z, rfl, by rw [txS_length]; exact hl, R2.ret sr _ (str_cut hl ha)⟩
  · exact R2.none.elim
def rSlP (B : Bs) (W : WX) (σ : L2.St) : V → Option Int → Option Int → Hp → VK → Prop := fun v lo hi H Q => ∃ al S x, SR B al S H ∧ RV B al S.length H x v ∧ Res B W σ al S H (sliceP x lo hi S) (fun al' S' H' d => ∀ v, RV B al' S'.length H' d v → Q v H')
theorem slP_ok {X : Cx} {W : WX} {σ : L2.St} : SlR X (rSlP (bs X ϑ) W σ) := by
  intro pins s σ' H v v' vl vu lo hi sl Q I rv hs pl pu h
  obtain ⟨al, S, x, sr, hx, R⟩ := h
  unfold sliceP at R
  obtain ⟨x2, rx, -, -, -, R2⟩ := Res.view sr hx R
  clear R
  unfold slicePF at R2
  split at R2
  · rename_i xs
    rw [rw_fzl] at rx
    obtain ⟨a, vs, rfl, _, q, t⟩ := rx
    exact sl_list pins s σ' H _ v' vl vu lo hi sl Q I rv hs pl pu ⟨_, vs, rfl, .of q, fun p hp => new_ok sr R2 hp ⟨_, upd_same, (t.cut lo hi).mono sr (Xt.fresh hp)⟩⟩
  · exact R2.none.elim

/-! ### isinstance -/
def tyN : Ty → Option String
  | .int => some "int" | .str => some "str" | .bool => some "bool" | .list => some "list" | .tuple => some "tuple" | .dict => some "dict"
  | .cls _ => none
/-- the type of a value, as a word -/
theorem isTy_ok {X : Cx} {al : Al} {S : Store} {H : Hp} {x : D} {v : V} {t : Ty} {b : Bool} {T : String} (sr : SR (bs X ϑ) al S H) (hx : RV (bs X ϑ) al S.length H x v) (h : isTy S x t = some b) (ht : tyN t = some T) :
    ∃ c : Value, TyX X.K H v c ∧ PySem.W.kitOne X.K c (.type T) = some b := by
  have go : ∀ (a : String), TyX X.K H v (.type a) → kitB a T = some b → ∃ c : Value, TyX X.K H v c ∧ PySem.W.kitOne X.K c (.type T) = some b := fun a ty e => ⟨_, ty, kit_ty e⟩
  have list_go : ∀ vs, SqL X.K H (match v with | .ref a => a | _ => 0) vs → (∃ a, v = .ref a) → TyX X.K H v (.type "list") := fun vs q ⟨a, e⟩ => by
    subst e
    rcases q with (q | ⟨o, q⟩) | ⟨o, its, n, q1, q2, _⟩
    · exact .base (.lst q)
    · exact .base (.frz q)
    · exact .kList q1 q2
  cases x with
  | non =>
    rw [rv_non] at hx; subst hx
    cases h
    refine go "NoneType" (.base .non) ?_
    cases t <;> cases ht <;> decide +kernel
  | bl c =>
    rw [rv_bl] at hx; subst hx
    refine go "bool" (.base (.bl c)) ?_
    cases t <;> cases ht <;> cases h <;> decide +kernel
  | int i =>
    rw [rv_int] at hx; subst hx
    refine go "int" (.base (.int i)) ?_
    cases t <;> cases ht <;> cases h <;> decide +kernel
  | str s =>
    rw [rv_str] at hx
    obtain ⟨rfl, _⟩ := hx
    refine go "str" (.base (.str _)) ?_
    cases t <;> cases ht <;> cases h <;> decide +kernel
  | tup xs =>
    rw [rv_tup] at hx
    obtain ⟨a, vs, rfl, q, _⟩ := hx
    have ty : TyX X.K H (.ref a) (.type "tuple") := by
      rcases q with (q | ⟨o, q⟩) | ⟨o, its, n, q1, q2, _⟩
      · exact .base (.tup q)
      · exact .fTuple q
      · exact .kTuple q1 q2
    refine go "tuple" ty ?_
    cases t <;> cases ht <;> cases h <;> decide +kernel
  | fzl xs =>
    rw [rv_fzl] at hx
    obtain ⟨a, vs, rfl, q, _⟩ := hx
    refine go "list" (.base (.lst q.1)) ?_
    cases t <;> cases ht <;> cases h <;> decide +kernel
  | loc n =>
    rw [rv_loc] at hx
    obtain ⟨rfl, hn⟩ := hx
    unfold isTy at h
    cases hc : S[n]? with
    | none => simp only [hc] at h; cases h
    | some c =>
      have rc := sr.cell n c hc
      simp only [hc] at h
      cases c with
      | lst xs =>
        obtain ⟨vs, e, _⟩ := rc
        refine go "list" (.base (.lst e)) ?_
        cases t <;> cases ht <;> cases h <;> decide +kernel
      | _ => cases h
  | _ => cases h
/-! ### argument lists -/
def noStar : Expr → Bool
  | .Starred _ _ => false
  | _ => true
theorem starEach_cons {e : Expr} {es : List Expr} {env : PySem.Env} (h : noStar e = true) : starEach (e :: es) env = (false, eval e env) :: starEach es env := by
  cases e <;> first | rfl | (simp [noStar] at h)
theorem any_backTo (pos : Pos) : ∀ l : List (Bool × Sem Value), (backTo pos l).any (·.1) = l.any (·.1)
  | [] => rfl
  | [(b, x)] => by simp [backTo]
  | (b, x) :: y :: r => by
    have := any_backTo pos (y :: r)
    simp_all [backTo]
theorem starEach_any {env : PySem.Env} : ∀ {es : List Expr}, es.all noStar = true → (starEach es env).any (·.1) = false
  | [], _ => rfl
  | e :: es, h => by
    rw [List.all_cons, Bool.and_eq_true] at h
    rw [starEach_cons h.1, List.any_cons, starEach_any h.2]
    rfl
theorem starEach_plain {env : PySem.Env} {es : List Expr} (h : es.all noStar = true) (pos : Pos) : (backTo pos (starEach es env)).any (·.1) = false := by
  rw [any_backTo, starEach_any h]
theorem pa_cons' {X : Cx} {e : Expr} {es : List Expr} {te : TE} {t : TA} (ha : PE X e te) (hr : PA X es t) (h : noStar e = true) : PA X (e :: es) (tCons te t) := pa_cons ha hr (starEach_cons h)

section
variable {X : Cx} {W : WX} {p pos : Pos} {e : Expr} {m : PySem.Expr → Env → M D} {ma : Env → M D}
theorem isi1_ok {T : String} {t : Ty} {p2 : Pos} (ht : tyN t = some T) (he : PE X e (tE (bs X ϑ) W ma)) (hs : noStar e = true) (hg : Gl X "isinstance") (hm : X.mg "isinstance" = none)
    (hg2 : Gl X (nm T)) (hm2 : X.mg (nm T) = none) (hb2 : bootBuiltins (nm T) = some (.type T)) (hn : nm T ≠ "__name__") (hd : (nm T == ("__debug__" : Str)) = false) :
    PE X (.Call (.Name "isinstance" p) [e, .Name (nm T) p2] [] pos) (tE (bs X ϑ) W fun ρ => M.bnd (ma ρ) fun x => M.bnd (isiM x [t]) fun k => M.ret (.bl k)) := by
  refine PE.imp (pe_callB call_isi hg hm boot_isinstance (pa_cons' he (pa_cons (pe_bltn (v := .ty T) hg2 hm2 hb2 rfl hn hd) pa_nil) hs) (by decide) (by decide) (starEach_cons hs) rfl) fun σ H Q h => ?_
  refine one h fun al S H ρ x v sr re rv R => ?_
  show ∃ (x c : V) (t u : Value) (b : Bool), [v, .ty T] = [x, c] ∧ _
  obtain ⟨o, S', eq, h1, h2⟩ := R.bnd
  unfold isiM at eq
  cases hi : isTy S x t with
  | none => rw [hi] at eq; cases eq
  | some b =>
    obtain ⟨c, ty, k⟩ := isTy_ok sr rv hi ht
    refine ⟨v, .ty T, c, .type T, b, rfl, .ty T, ty, k, ?_⟩
    cases b with
    | true =>
      rw [hi] at eq
      cases eq
      exact (h1 true rfl al H Xt.refl sr).ret sr _ (by simp [RV])
    | false =>
      rw [hi] at eq
      simp only [isiM] at eq
      cases eq
      exact (h1 false rfl al H Xt.refl sr).ret sr _ (by simp [RV])
end
end Mi

set_option autoImplicit true
set_option maxRecDepth 512
set_option maxHeartbeats 200000
set_option Elab.async false
set_option linter.all false
set_option maxRecDepth 100000
/-! Mi6: built-in calls, methods, what is walked. -/
namespace Mi
open PySem PySem.Spec PyProof.Rows L2

/-! ### built-in calls, by values -/
def rBi (B : Bs) (W : WX) (σ : L2.St) (f : Bi) : List V → Hp → VK → Prop := fun vs H Q => ∃ al S ds, SR B al S H ∧ RVs B al S.length H ds vs ∧ Res B W σ al S H (biM f ds S) (fun al' S' H' d => ∀ v, RV B al' S'.length H' d v → Q v H')
theorem rvs1 {B : Bs} {al n H} {d : D} {vs : List V} (h : RVs B al n H [d] vs) : ∃ v, vs = [v] ∧ RV B al n H d v := by
  simp only [RVs] at h
  obtain ⟨v, r, rfl, h1, rfl⟩ := h
  exact ⟨v, rfl, h1⟩
theorem rvs2 {B : Bs} {al n H} {d e : D} {vs : List V} (h : RVs B al n H [d, e] vs) : ∃ v u, vs = [v, u] ∧ RV B al n H d v ∧ RV B al n H e u := by
  simp only [RVs] at h
  obtain ⟨v, r, rfl, h1, u, r', rfl, h2, rfl⟩ := h
  exact ⟨v, u, rfl, h1, h2⟩
theorem rvs3 {B : Bs} {al n H} {d e f : D} {vs : List V} (h : RVs B al n H [d, e, f] vs) : ∃ v u w, vs = [v, u, w] ∧ RV B al n H d v ∧ RV B al n H e u ∧ RV B al n H f w := by
  simp only [RVs] at h
  obtain ⟨v, r, rfl, h1, u, r', rfl, h2, w, r'', rfl, h3, rfl⟩ := h
  exact ⟨v, u, w, rfl, h1, h2, h3⟩
theorem rvs0 {B : Bs} {al n H} {vs : List V} (h : RVs B al n H [] vs) : vs = [] := by
  simpa only [RVs] using h
theorem len_ok {X : Cx} {W : WX} {σ : L2.St} : CallR X (.builtin "len") (rBi (bs X ϑ) W σ .len) := by
  intro pins s σ' H vs us Q I r h
  obtain ⟨al, S, ds, sr, rs, R⟩ := h
  have R : Res (bs X ϑ) W σ al S H (lenM ds S) (fun al' S' H' d => ∀ v, RV (bs X ϑ) al' S'.length H' d v → Q v H') := R
  unfold lenM at R
  split at R
  · obtain ⟨v, rfl, rv⟩ := rvs1 rs
    obtain ⟨y, ry, -, -, -, R2⟩ := Res.view sr rv R
    clear R
    unfold lenF at R2
    split at R2
    · rename_i z
      have ry : RV (bs X ϑ) al S.length H (.str z) v := ry
      rw [rv_str] at ry
      exact call_len pins s σ' H _ us Q I r ⟨v, _, rfl, by rw [ry.1]; exact ⟨by rw [txS_length]; exact ry.2.1, rfl⟩, R2.ret sr _ (by rw [rv_int, txS_length])⟩
    · rename_i xs
      have ry : RV (bs X ϑ) al S.length H (.tup xs) v := ry
      rw [rv_tup] at ry
      obtain ⟨a, vs, rfl, q, t⟩ := ry
      exact call_len pins s σ' H _ us Q I r ⟨_, _, rfl, .inr ⟨vs, q, t.length⟩, R2.ret sr _ (by simp [RV])⟩
    · rw [rw_fzl] at ry
      obtain ⟨a, vs, rfl, _, q, t⟩ := ry
      exact call_len pins s σ' H _ us Q I r ⟨_, _, rfl, .inl ⟨vs, .of q, t.length⟩, R2.ret sr _ (by simp [RV])⟩
    · exact R2.none.elim
  · exact R.none.elim
/-- the items of a list or a tuple -/
theorem Res.items {β : Type} {B : Bs} {W : WX} {σ : L2.St} {al : Al} {S : Store} {H : Hp} {x : D} {v : V} {f : List D → M β} {k : Al → Store → Hp → β → Prop} (sr : SR B al S H) (rv : RV B al S.length H x v)
    (h : Res B W σ al S H (M.bnd (M.bnd (Mi.view x) itemsF) f S) k) : ∃ a xs vs, v = .ref a ∧ ((H a = Option.some (.lst vs)) ∨ (SqT B.K H a vs ∧ x = .tup xs)) ∧ RVs B al S.length H xs vs ∧ Res B W σ al S H (f xs S) k := by
  have h : Res B W σ al S H (M.bnd (Mi.view x) (fun y => M.bnd (itemsF y) f) S) k := by
    have e : M.bnd (M.bnd (Mi.view x) itemsF) f S = M.bnd (Mi.view x) (fun y => M.bnd (itemsF y) f) S := by
      unfold M.bnd
      cases Mi.view x S with
      | none => rfl
      | some p => obtain ⟨o, S1⟩ := p; cases o <;> rfl
    rw [← e]; exact h
  obtain ⟨y, ry, hv, hy, -, R2⟩ := Res.view sr rv h
  clear h
  unfold itemsF at R2
  split at R2
  · rename_i xs
    have ry : RV B al S.length H (.tup xs) v := ry
    rw [rv_tup] at ry
    obtain ⟨a, vs, e, q, t⟩ := ry
    have hx : x = .tup xs := by
      by_cases hl : ∃ i, x = .loc i
      · obtain ⟨i, rfl⟩ := hl
        obtain ⟨c, _, h2⟩ := hv i rfl
        cases c <;> cases h2
      · exact (hy fun i z => hl ⟨i, z⟩).symm
    exact ⟨a, xs, vs, e, .inr ⟨q, hx⟩, t, R2.bnd.ret sr⟩
  · rw [rw_fzl] at ry
    obtain ⟨a, vs, e, _, q, t⟩ := ry
    exact ⟨a, _, vs, e, .inl q, t, R2.bnd.ret sr⟩
  · exact R2.bnd.none.elim
/-- the items of a list -/
theorem Res.litems {β : Type} {B : Bs} {W : WX} {σ : L2.St} {al : Al} {S : Store} {H : Hp} {x : D} {v : V} {f : List D → M β} {k : Al → Store → Hp → β → Prop} (sr : SR B al S H) (rv : RV B al S.length H x v)
    (h : Res B W σ al S H (M.bnd (M.bnd (Mi.view x) lstF) f S) k) : ∃ a xs vs, v = .ref a ∧ H a = Option.some (.lst vs) ∧ RVs B al S.length H xs vs ∧ Res B W σ al S H (f xs S) k := by
  have h : Res B W σ al S H (M.bnd (Mi.view x) (fun y => M.bnd (lstF y) f) S) k := by
    have e : M.bnd (M.bnd (Mi.view x) lstF) f S = M.bnd (Mi.view x) (fun y => M.bnd (lstF y) f) S := by
      unfold M.bnd
      cases Mi.view x S with
      | none => rfl
      | some p => obtain ⟨o, S1⟩ := p; cases o <;> rfl
    rw [← e]; exact h
  obtain ⟨y, ry, -, -, -, R2⟩ := Res.view sr rv h
  clear h
  unfold lstF at R2
  split at R2
  · rw [rw_fzl] at ry
    obtain ⟨a, vs, e, _, q, t⟩ := ry
    exact ⟨a, _, vs, e, q, t, R2.bnd.ret sr⟩
  · exact R2.bnd.none.elim
theorem items_sq {B : Bs} {H : Hp} {a : Addr} {vs : List V} {x : D} {xs : List D} (h : (H a = some (.lst vs)) ∨ (SqT B.K H a vs ∧ x = .tup xs)) : SqL B.K H a vs ∨ SqT B.K H a vs := h.imp .of fun h => h.1
theorem list_ok {X : Cx} {W : WX} {σ : L2.St} : CallR X (.type "list") (rBi (bs X ϑ) W σ .list) := by
  intro pins s σ' H vs us Q I r h
  obtain ⟨al, S, ds, sr, rs, R⟩ := h
  have R : Res (bs X ϑ) W σ al S H (listM ds S) (fun al' S' H' d => ∀ v, RV (bs X ϑ) al' S'.length H' d v → Q v H') := R
  unfold listM at R
  split at R
  · obtain ⟨v, rfl, rv⟩ := rvs1 rs
    obtain ⟨a, xs, vs, rfl, q, t, R2⟩ := Res.items sr rv R
    exact call_list_of pins s σ' H _ us Q I r ⟨a, vs, rfl, items_sq q, fun p hp => new_ok sr R2 hp ⟨vs, upd_same, t.mono sr (Xt.fresh hp)⟩⟩
  · exact R.none.elim
theorem flist_ok {X : Cx} {W : WX} {σ : L2.St} : CallR X (.type "list") (rBi (bs X ϑ) W σ .flist) := by
  intro pins s σ' H vs us Q I r h
  obtain ⟨al, S, ds, sr, rs, R⟩ := h
  have R : Res (bs X ϑ) W σ al S H (flistM ds S) (fun al' S' H' d => ∀ v, RV (bs X ϑ) al' S'.length H' d v → Q v H') := R
  unfold flistM at R
  split at R
  · obtain ⟨v, rfl, rv⟩ := rvs1 rs
    obtain ⟨a, xs, vs, rfl, q, t, R2⟩ := Res.items sr rv R
    exact call_list_of pins s σ' H _ us Q I r ⟨a, vs, rfl, items_sq q, fun p hp => fzl_ok sr R2 hp t⟩
  · exact R.none.elim
theorem tuple_ok {X : Cx} {W : WX} {σ : L2.St} : CallR X (.type "tuple") (rBi (bs X ϑ) W σ .tuple) := by
  intro pins s σ' H vs us Q I r h
  obtain ⟨al, S, ds, sr, rs, R⟩ := h
  have R : Res (bs X ϑ) W σ al S H (tupleM ds S) (fun al' S' H' d => ∀ v, RV (bs X ϑ) al' S'.length H' d v → Q v H') := R
  unfold tupleM at R
  split at R
  · obtain ⟨v, rfl, rv⟩ := rvs1 rs
    obtain ⟨a, xs, vs, rfl, q, t, R2⟩ := Res.items sr rv R
    rcases q with q | ⟨q, rfl⟩
    · exact call_tuple_of pins s σ' H _ us Q I r ⟨a, vs, rfl, .inl ⟨.of q, fun p hp => tup_ok sr R2 hp t⟩⟩
    · exact call_tuple_of pins s σ' H _ us Q I r ⟨a, vs, rfl, .inr ⟨q, R2.ret sr _ rv⟩⟩
  · exact R.none.elim
theorem ints_vals {B : Bs} {al : Al} {n : Nat} {H : Hp} : ∀ {xs : List D} {is : List Int} {vs : List V}, intsO xs = some is → RVs B al n H xs vs → vs = is.map V.int
  | [], is, vs, h, t => by
    simp only [intsO, Option.some.injEq] at h
    subst h
    simpa only [RVs, List.map_nil] using t
  | x :: xs, is, vs, h, t => by
    cases x <;> simp only [intsO] at h <;> try (cases h; done)
    obtain ⟨js, h1, rfl⟩ := Option.map_eq_some_iff.mp h
    simp only [RVs] at t
    obtain ⟨v, r, rfl, t1, t2⟩ := t
    rw [rv_int] at t1
    rw [t1, ints_vals h1 t2]
    rfl
theorem sum_ok {X : Cx} {W : WX} {σ : L2.St} (hc : X.calm = true) : CallR X (.builtin "sum") (rBi (bs X ϑ) W σ .sum) := by
  intro pins s σ' H vs us Q I r h
  obtain ⟨al, S, ds, sr, rs, R⟩ := h
  have R : Res (bs X ϑ) W σ al S H (sumM ds S) (fun al' S' H' d => ∀ v, RV (bs X ϑ) al' S'.length H' d v → Q v H') := R
  unfold sumM at R
  split at R
  · obtain ⟨v, rfl, rv⟩ := rvs1 rs
    obtain ⟨a, xs, vs, rfl, q, t, R2⟩ := Res.litems sr rv R
    obtain ⟨is, h1, R3⟩ := Res.of sr R2
    have e := ints_vals h1 t
    subst e
    exact cr_sum hc pins s σ' H _ us Q I r ⟨a, is, rfl, .of q, R3.ret sr _ (by simp [RV])⟩
  · exact R.none.elim
theorem max_is {is : List Int} {i : Int} (h : maxI is = some i) : i ∈ is ∧ ∀ j ∈ is, j ≤ i := by
  cases is with
  | nil => cases h
  | cons a r =>
    simp only [maxI, Option.some.injEq] at h
    subst h
    have key : ∀ (r : List Int) (a : Int), (r.foldl (fun a b => if b > a then b else a) a = a ∨ r.foldl (fun a b => if b > a then b else a) a ∈ r) ∧ a ≤ r.foldl (fun a b => if b > a then b else a) a ∧ ∀ j ∈ r, j ≤ r.foldl (fun a b => if b > a then b else a) a := by
      intro r
      induction r with
      | nil => intro a; simp
      | cons b r ih =>
        intro a
        simp only [List.foldl_cons, List.mem_cons]
        by_cases h : b > a
        · rw [if_pos h]
          obtain ⟨h1, h2, h3⟩ := ih b
          refine ⟨.inr (h1.imp id id), by omega, ?_⟩
          rintro j (rfl | hj)
          · exact h2
          · exact h3 j hj
        · rw [if_neg h]
          obtain ⟨h1, h2, h3⟩ := ih a
          refine ⟨h1.imp id .inr, h2, ?_⟩
          rintro j (rfl | hj)
          · omega
          · exact h3 j hj
    obtain ⟨h1, h2, h3⟩ := key r a
    simp only [List.mem_cons]
    refine ⟨h1.imp id id, ?_⟩
    rintro j (rfl | hj)
    · exact h2
    · exact h3 j hj
theorem max_ok {X : Cx} {W : WX} {σ : L2.St} (hc : X.calm = true) : CallR X (.builtin "max") (rBi (bs X ϑ) W σ .max) := by
  intro pins s σ' H vs us Q I r h
  obtain ⟨al, S, ds, sr, rs, R⟩ := h
  have R : Res (bs X ϑ) W σ al S H (maxM ds S) (fun al' S' H' d => ∀ v, RV (bs X ϑ) al' S'.length H' d v → Q v H') := R
  unfold maxM at R
  split at R
  · obtain ⟨v, rfl, rv⟩ := rvs1 rs
    obtain ⟨a, xs, vs, rfl, q, t, R2⟩ := Res.litems sr rv R
    obtain ⟨is, h1, R3⟩ := Res.of sr R2
    obtain ⟨i, h2, R4⟩ := Res.of sr R3
    obtain ⟨m1, m2⟩ := max_is h2
    have e := ints_vals h1 t
    subst e
    refine cr_max hc pins s σ' H _ us Q I r ⟨a, is, rfl, .of q, List.length_pos_of_mem m1, fun m hm hle => ?_⟩
    have : m = i := Int.le_antisymm (m2 m hm) (hle i m1)
    subst this
    exact R4.ret sr _ (by simp [RV])
  · exact R.none.elim
theorem dict_ok {X : Cx} {W : WX} {σ : L2.St} : CallR X (.type "dict") (rBi (bs X ϑ) W σ .dict) := by
  intro pins s σ' H vs us Q I r h
  obtain ⟨al, S, ds, sr, rs, R⟩ := h
  have R : Res (bs X ϑ) W σ al S H (dictM ds S) (fun al' S' H' d => ∀ v, RV (bs X ϑ) al' S'.length H' d v → Q v H') := R
  unfold dictM at R
  split at R
  · obtain ⟨v, rfl, rv⟩ := rvs1 rs
    rw [rv_loc] at rv
    obtain ⟨rfl, hn⟩ := rv
    obtain ⟨c, hc, rc, R2⟩ := Res.get sr R
    unfold dictC at R2
    split at R2
    · obtain ⟨kvs', e, k, t⟩ := rc
      exact call_dictD pins s σ' H _ us Q I r ⟨_, kvs', rfl, .of e, fun p hp => new_ok sr R2 hp ⟨kvs', upd_same, k, t.mono sr (Xt.fresh hp)⟩⟩
    · exact R2.none.elim
  · exact R.none.elim
/-- the built-in's name, and what it is -/
def biN : Bi → Option (String × Value)
  | .len => some ("len", .builtin "len")
  | .list => some ("list", .type "list")
  | .tuple => some ("tuple", .type "tuple")
  | .flist => some ("list", .type "list")
  | .sum => some ("sum", .builtin "sum")
  | .max => some ("max", .builtin "max")
  | .dict => some ("dict", .type "dict")
  | .int => some ("int", .type "int")
  | .max2 => some ("max", .builtin "max")
  | .min2 => some ("min", .builtin "min")
  | _ => none
theorem vals_two {B : Bs} {al : Al} {n : Nat} {H : Hp} {i j : Int} {vs : List V} (rs : RVs B al n H [.int i, .int j] vs) : vs = [.int i, .int j] := by
  simp only [RVs, RV] at rs
  obtain ⟨v, r, rfl, rfl, w, r', rfl, rfl, rfl⟩ := rs
  rfl
theorem int_ok {X : Cx} {W : WX} {σ : L2.St} : CallR X (.type "int") (rBi (bs X ϑ) W σ .int) := by
  intro pins s σ' H vs us Q I r h
  obtain ⟨al, S, ds, sr, rs, R⟩ := h
  have R : Res (bs X ϑ) W σ al S H (intF ds S) (fun al' S' H' d => ∀ v, RV (bs X ϑ) al' S'.length H' d v → Q v H') := R
  unfold intF at R
  split at R
  · obtain ⟨v, rfl, rv⟩ := rvs1 rs
    rw [rv_int] at rv
    subst rv
    exact call_int1 pins s σ' H _ us Q I r (.inl ⟨_, rfl, R.ret sr _ (by simp [RV])⟩)
  · obtain ⟨v, rfl, rv⟩ := rvs1 rs
    rw [rv_bl] at rv
    subst rv
    exact call_int1 pins s σ' H _ us Q I r (.inr ⟨_, rfl, R.ret sr _ (by simp [RV])⟩)
  · exact R.none.elim
theorem max2_ok {X : Cx} {W : WX} {σ : L2.St} (hc : X.calm = true) : CallR X (.builtin "max") (rBi (bs X ϑ) W σ .max2) := by
  intro pins s σ' H vs us Q I r h
  obtain ⟨al, S, ds, sr, rs, R⟩ := h
  have R : Res (bs X ϑ) W σ al S H (max2F ds S) (fun al' S' H' d => ∀ v, RV (bs X ϑ) al' S'.length H' d v → Q v H') := R
  unfold max2F at R
  split at R
  · have e := vals_two rs
    subst e
    exact call_max2 hc pins s σ' H _ us Q I r ⟨_, _, rfl, R.ret sr _ (by simp [RV])⟩
  · exact R.none.elim
theorem min2_ok {X : Cx} {W : WX} {σ : L2.St} (hc : X.calm = true) : CallR X (.builtin "min") (rBi (bs X ϑ) W σ .min2) := by
  intro pins s σ' H vs us Q I r h
  obtain ⟨al, S, ds, sr, rs, R⟩ := h
  have R : Res (bs X ϑ) W σ al S H (min2F ds S) (fun al' S' H' d => ∀ v, RV (bs X ϑ) al' S'.length H' d v → Q v H') := R
  unfold min2F at R
  split at R
  · have e := vals_two rs
    subst e
    exact call_min2 hc pins s σ' H _ us Q I r ⟨_, _, rfl, R.ret sr _ (by simp [RV])⟩
  · exact R.none.elim
theorem bi_rule {X : Cx} {W : WX} {σ : L2.St} {f : Bi} {s : String} {v : Value} (hc : X.calm = true) (h : biN f = some (s, v)) : CallR X v (rBi (bs X ϑ) W σ f) ∧ bootBuiltins (nm s) = some v ∧ nm s ≠ "__name__" ∧ (nm s == ("__debug__" : Str)) = false ∧ ((∃ id, v = .builtin id) ∨ ∃ T, v = .type T) := by
  cases f <;> first | (cases h; done) | skip
  · cases h; exact ⟨len_ok, boot_len, by decide, by decide, .inl ⟨_, rfl⟩⟩
  · cases h; exact ⟨list_ok, boot_list, by decide, by decide, .inr ⟨_, rfl⟩⟩
  · cases h; exact ⟨flist_ok, boot_list, by decide, by decide, .inr ⟨_, rfl⟩⟩
  · cases h; exact ⟨tuple_ok, boot_tuple, by decide, by decide, .inr ⟨_, rfl⟩⟩
  · cases h; exact ⟨sum_ok hc, rfl, by decide, by decide, .inl ⟨_, rfl⟩⟩
  · cases h; exact ⟨max_ok hc, rfl, by decide, by decide, .inl ⟨_, rfl⟩⟩
  · cases h; exact ⟨max2_ok hc, rfl, by decide, by decide, .inl ⟨_, rfl⟩⟩
  · cases h; exact ⟨min2_ok hc, rfl, by decide, by decide, .inl ⟨_, rfl⟩⟩
  · cases h; exact ⟨int_ok, rfl, by decide, by decide, .inr ⟨_, rfl⟩⟩
  · cases h; exact ⟨dict_ok, rfl, by decide, by decide, .inr ⟨_, rfl⟩⟩
theorem PE.of_st {X : Cx} {e : Expr} {t : TE} (h : ∀ σ0 : L2.St, PE X e (fun σ H Q => σ = σ0 ∧ t σ H Q)) : PE X e t := ⟨fun pins s σ H Q I q => (h σ).run pins s σ H Q I ⟨rfl, q⟩⟩
theorem bi_ok {X : Cx} {W : WX} {f : Bi} {s : String} {v : Value} {p pos : Pos} {e : Expr} {es : List Expr} {ma : Env → M (List D)} (hc : X.calm = true) (h : biN f = some (s, v)) (ha : PA X (e :: es) (tA (bs X ϑ) W ma)) (hs : (e :: es).all noStar = true)
    (hg : Gl X (nm s)) (hm : X.mg (nm s) = none) : PE X (.Call (.Name (nm s) p) (e :: es) [] pos) (tE (bs X ϑ) W fun ρ => M.bnd (ma ρ) fun ds => biM f ds) := by
  refine PE.of_st fun σ0 => ?_
  obtain ⟨rule, hb, hn, hd, hv⟩ := bi_rule (X := X) (W := W) (σ := σ0) hc h
  rw [List.all_cons, Bool.and_eq_true] at hs
  have go : ∀ σ H Q, (σ = σ0 ∧ tE (bs X ϑ) W (fun ρ => M.bnd (ma ρ) fun ds => biM f ds) σ H Q) → tCB (rBi (bs X ϑ) W σ0 f) (tA (bs X ϑ) W ma) σ H Q := fun σ H Q ⟨e, h⟩ => by
    subst e
    obtain ⟨al, ρ, S, sr, re, R⟩ := h
    exact ⟨al, ρ, S, sr, re, R.bnd.imp fun al1 S1 H1 ds x1 sr1 _ R1 vs rs => ⟨al1, S1, ds, sr1, rs, R1⟩⟩
  rcases hv with ⟨id, rfl⟩ | ⟨T, rfl⟩
  · exact PE.imp (pe_callB rule hg hm hb ha hn hd (starEach_cons hs.1) (starEach_plain hs.2 _)) go
  · exact PE.imp (pe_callTy rule hg hm hb ha hn hd (starEach_cons hs.1) (starEach_plain hs.2 _)) go

/-! ### methods of lists and texts -/
def abOk : Expr → Bool
  | .Call (.Name _ _) [] [] _ => false
  | _ => true
theorem abase {o : Expr} {a : Str} {env : PySem.Env} {w : Sem Value} (h : abOk o = true) : attributeBase o a env w = w := by
  unfold attributeBase
  split
  · simp [abOk] at h
  · rfl
theorem few_of {e : Expr} {es : List Expr} {cpos : Pos} {env : PySem.Env} (h : (e :: es).all noStar = true) (hl : (e :: es).length < 30) :
    ((backTo cpos (starEach (e :: es) env)).all (fun x => !x.1) && (backToKw cpos (keywordEach [] env)).all (fun x => x.1.isSome) && decide ((e :: es).length + ([] : List Keyword).length + (if ([] : List Keyword).isEmpty then 0 else 1) < 30)) = true := by
  have q := starEach_plain (env := env) h cpos
  have e1 : (backTo cpos (starEach (e :: es) env)).all (fun x => !x.1) = true := by
    rw [List.all_eq_not_any_not]
    simpa using q
  rw [e1]
  simpa [keywordEach, backToKw] using hl
section
variable {X : Cx} {W : WX} {apos cpos : Pos} {o e : Expr} {es : List Expr} {mo : Env → M D} {ma : Env → M (List D)}
theorem append_ok (ho : PE X o (tE (bs X ϑ) W mo)) (ha : PA X [e] (tA (bs X ϑ) W ma)) (hb : abOk o = true) (hs : noStar e = true) (hl : (apos.endLine == cpos.line) = true) :
    PE X (.Call (.Attribute o "append" apos) [e] [] cpos) (tE (bs X ϑ) W fun ρ => M.bnd (mo ρ) fun x => M.bnd (mtPre .append x) fun _ => M.bnd (ma ρ) fun ds => mtM .append x ds) := by
  have hs' : [e].all noStar = true := by simp [hs]
  refine PE.imp (pe_bm PySem.F.plainAttrs_list PySem.F.slot_list_append PySem.F.type_list_append mt_append ho ha (abase hb) (few_of hs' (by show 1 < 30; decide)) hl (starEach_cons hs) (starEach_plain (es := []) rfl _)) fun σ H Q h => ?_
  obtain ⟨al, ρ, S, sr, re, R⟩ := h
  refine ⟨al, ρ, S, sr, re, R.bnd.imp fun al1 S1 H1 x x1 sr1 _ R1 v rv => ?_⟩
  have re1 := re.mono sr x1
  obtain ⟨n, rfl⟩ : ∃ n, x = .loc n := by cases x <;> first | exact ⟨_, rfl⟩ | exact R1.bnd.none.elim
  obtain ⟨o', S', e', h1, h2⟩ := R1.bnd
  unfold mtPre isLst M.bnd M.get at e'
  cases hc : S1[n]? with
  | none => simp only [hc] at e'; cases e'
  | some c =>
    simp only [hc] at e'
    cases c <;> first | (cases e'; done) | skip
    rename_i xs
    cases e'
    have R2 := h1 () rfl al1 H1 Xt.refl sr1
    rw [rv_loc] at rv
    obtain ⟨rfl, hn⟩ := rv
    obtain ⟨vs, ev, t⟩ := sr1.cell n _ hc
    refine ⟨.inl ⟨rfl, vs, .of ev⟩, al1, ρ, S1, sr1, re1, R2.bnd.imp fun al2 S2 H2 ds x2 sr2 _ R3 us ru => ?_⟩
    have R3 : Res (bs X ϑ) W σ al2 S2 H2 (appendM (.loc n) ds S2) (fun al' S' H' d => ∀ v, RV (bs X ϑ) al' S'.length H' d v → Q v H') := R3
    obtain ⟨d, rfl⟩ : ∃ d, ds = [d] := by
      match ds, R3 with
      | [], R3 => exact R3.none.elim
      | [d], R3 => exact ⟨d, rfl⟩
      | _ :: _ :: _, R3 => exact R3.none.elim
    obtain ⟨u, rfl, ru1⟩ := rvs1 ru
    obtain ⟨c2, hc2, rc2, R3⟩ := Res.get sr2 R3
    obtain ⟨ys, rfl⟩ : ∃ xs, c2 = .lst xs := by cases c2 <;> first | exact ⟨_, rfl⟩ | exact R3.none.elim
    obtain ⟨ws, ew, tw⟩ := rc2
    obtain ⟨hz, R3⟩ := R3.need
    have hn2 : n < S2.length := (List.getElem?_eq_some_iff.mp hc2).1
    refine ⟨al1 n, ws, u, rfl, rfl, by rw [← x2.ag n hn]; exact ew, by rw [← tw.length]; exact hz, ?_⟩
    rw [← x2.ag n hn]
    unfold M.bnd M.put at R3
    simp only [hn2, if_true] at R3
    exact Res.ok R3 (al' := al2) (H' := upd H2 (al2 n) (.lst (ws ++ [u]))) (by rw [List.length_set]; exact Xt.write hn2) (SR.write sr2 hn2 ⟨_, upd_same, (tw.append (.one ru1)).mono sr2 (Xt.write hn2)⟩) _ (by simp [RV])
theorem upper_ok (ho : PE X o (tE (bs X ϑ) W mo)) (hb : abOk o = true) (hl : (apos.endLine == cpos.line) = true) :
    PE X (.Call (.Attribute o "upper" apos) [] [] cpos) (tE (bs X ϑ) W fun ρ => M.bnd (mo ρ) fun x => M.bnd (mtPre .upper x) fun _ => M.bnd (M.ret []) fun ds => mtM .upper x ds) := by
  refine PE.imp (pe_upper ho (abase hb) hl) fun σ H Q h => ?_
  refine one h fun al S H ρ x v sr re rv R => ?_
  obtain ⟨s, rfl⟩ : ∃ n, x = .str n := by cases x <;> first | exact ⟨_, rfl⟩ | exact R.bnd.none.elim
  rw [rv_str] at rv
  obtain ⟨rfl, h1, h2⟩ := rv
  refine ⟨⟨_, rfl⟩, txS s, rfl, rfl, ?_⟩
  obtain ⟨⟨a1, a2⟩, R⟩ := Res.need (p := s.all (fun c => decide (c < 128)) = true ∧ s.length ≤ 5592405) R
  refine ⟨by rw [txS_length]; exact a2, ?_⟩
  have e : Txt.upper (txS s) = txS (upTx s) := SX.upper_S a1
  rw [e]
  refine R.ret sr _ ?_
  rw [rv_str]
  refine ⟨rfl, by unfold upTx; rw [List.length_map]; exact h1, ?_⟩
  unfold upTx
  rw [List.all_map, List.all_eq_true]
  intro c hc
  have := of_decide_eq_true (List.all_eq_true.mp a1 c hc)
  simp only [Function.comp_apply, decide_eq_true_eq]
  split <;> omega
end
end Mi

set_option autoImplicit true
set_option maxRecDepth 512
set_option maxHeartbeats 200000
set_option Elab.async false
set_option linter.all false
set_option maxRecDepth 100000
/-! MiP: methods of lists and dicts. -/
namespace Mi
open PySem PySem.Spec PyProof.Rows L2

section
variable {X : Cx} {W : WX} {apos cpos : Pos} {o e f : Expr} {es : List Expr} {mo : Env → M D} {ma : Env → M (List D)}
/-- the receiver is a place with a list -/
theorem isLst_inv {B : Bs} {σ : L2.St} {al : Al} {S : Store} {H : Hp} {β : Type} {x : D} {g : Unit → M β} {k : Al → Store → Hp → β → Prop} (sr : SR B al S H) (R : Res B W σ al S H (M.bnd (isLst x) g S) k) : ∃ n xs, x = .loc n ∧ S[n]? = some (.lst xs) ∧ Res B W σ al S H (g () S) k := by
  unfold isLst at R
  split at R
  · rename_i n
    have R : Res B W σ al S H (M.bnd (M.get n) (fun c => M.bnd (match c with | .lst _ => M.ret () | _ => M.fail) g) S) k := by
      have e : M.bnd (M.bnd (M.get n) fun c => match c with | .lst _ => M.ret () | _ => M.fail) g S = M.bnd (M.get n) (fun c => M.bnd (match c with | .lst _ => M.ret () | _ => M.fail) g) S := by
        unfold M.bnd
        cases M.get n S with
        | none => rfl
        | some p => obtain ⟨o, S1⟩ := p; cases o <;> rfl
      rw [← e]; exact R
    obtain ⟨c, hc, rc, R⟩ := Res.get sr R
    cases c <;> first | exact R.bnd.none.elim | skip
    exact ⟨n, _, rfl, hc, R.bnd.ret sr⟩
  · exact R.bnd.none.elim
theorem isDct_inv {B : Bs} {σ : L2.St} {al : Al} {S : Store} {H : Hp} {β : Type} {x : D} {g : Unit → M β} {k : Al → Store → Hp → β → Prop} (sr : SR B al S H) (R : Res B W σ al S H (M.bnd (isDct x) g S) k) : ∃ n kvs, x = .loc n ∧ S[n]? = some (.dct kvs) ∧ Res B W σ al S H (g () S) k := by
  unfold isDct at R
  split at R
  · rename_i n
    have R : Res B W σ al S H (M.bnd (M.get n) (fun c => M.bnd (match c with | .dct _ => M.ret () | _ => M.fail) g) S) k := by
      have e : M.bnd (M.bnd (M.get n) fun c => match c with | .dct _ => M.ret () | _ => M.fail) g S = M.bnd (M.get n) (fun c => M.bnd (match c with | .dct _ => M.ret () | _ => M.fail) g) S := by
        unfold M.bnd
        cases M.get n S with
        | none => rfl
        | some p => obtain ⟨o, S1⟩ := p; cases o <;> rfl
      rw [← e]; exact R
    obtain ⟨c, hc, rc, R⟩ := Res.get sr R
    cases c <;> first | exact R.bnd.none.elim | skip
    exact ⟨n, _, rfl, hc, R.bnd.ret sr⟩
  · exact R.bnd.none.elim
/-- a list's method with arguments -/
theorem lmeth_ok {m : Mt} {name : Str} {id : String} {r : V → List V → Hp → VK → Prop} (slot : Slot "list" name id) (hty : typeOf (.builtin id) = pure (.type "method_descriptor")) (hm : MtR X id r) (hp : ∀ x, mtPre m x = isLst x)
    (rd : ∀ σ al S H n xs ds us Q, SR (bs X ϑ) al S H → n < S.length → RVs (bs X ϑ) al S.length H ds us → Res (bs X ϑ) W σ al S H (mtM m (.loc n) ds S) (fun al' S' H' d => ∀ v, RV (bs X ϑ) al' S'.length H' d v → Q v H') → S[n]? = some (.lst xs) ∨ True → r (.ref (al n)) us H Q)
    (ho : PE X o (tE (bs X ϑ) W mo)) (ha : PA X (e :: es) (tA (bs X ϑ) W ma)) (hb : abOk o = true) (hs : (e :: es).all noStar = true) (h30 : (e :: es).length < 30) (hl : (apos.endLine == cpos.line) = true) :
    PE X (.Call (.Attribute o name apos) (e :: es) [] cpos) (tE (bs X ϑ) W fun ρ => M.bnd (mo ρ) fun x => M.bnd (mtPre m x) fun _ => M.bnd (ma ρ) fun ds => mtM m x ds) := by
  rw [List.all_cons, Bool.and_eq_true] at hs
  refine PE.imp (pe_bm PySem.F.plainAttrs_list slot hty hm ho ha (abase hb) (few_of (by rw [List.all_cons, hs.1, hs.2]; rfl) h30) hl (starEach_cons hs.1) (starEach_plain hs.2 _)) fun σ H Q h => ?_
  obtain ⟨al, ρ, S, sr, re, R⟩ := h
  refine ⟨al, ρ, S, sr, re, R.bnd.imp fun al1 S1 H1 x x1 sr1 _ R1 v rv => ?_⟩
  have re1 := re.mono sr x1
  rw [hp] at R1
  obtain ⟨n, xs, rfl, hc, R2⟩ := isLst_inv sr1 R1
  rw [rv_loc] at rv
  obtain ⟨rfl, hn⟩ := rv
  obtain ⟨vs, ev, t⟩ := sr1.cell n _ hc
  refine ⟨.inl ⟨rfl, vs, .of ev⟩, al1, ρ, S1, sr1, re1, R2.bnd.imp fun al2 S2 H2 ds x2 sr2 _ R3 us ru => ?_⟩
  have := rd σ al2 S2 H2 n [] ds us Q sr2 (Nat.lt_of_lt_of_le hn x2.le) ru R3 (.inr trivial)
  rw [x2.ag n hn] at this
  exact this
theorem put_ok {σ : L2.St} {al : Al} {S : Store} {H : Hp} {n : Nat} {c : Cell} {ho : HO} {β : Type} {g : Unit → M β} {k : Al → Store → Hp → β → Prop} (sr : SR (bs X ϑ) al S H) (hn : n < S.length) (R : Res (bs X ϑ) W σ al S H (M.bnd (M.put n c) g S) k)
    (hc : RC (bs X ϑ) al S.length (upd H (al n) ho) (al n) c) : SR (bs X ϑ) al (S.set n c) (upd H (al n) ho) ∧ Xt al S.length H al (S.set n c).length (upd H (al n) ho) ∧ Res (bs X ϑ) W σ al (S.set n c) (upd H (al n) ho) (g () (S.set n c)) k := by
  have x : Xt al S.length H al (S.set n c).length (upd H (al n) ho) := by rw [List.length_set]; exact Xt.write hn
  have s2 := SR.write (c := c) sr hn hc
  refine ⟨s2, x, ?_⟩
  have R1 := R.bnd
  unfold M.put at R1
  simp only [hn, if_true] at R1
  exact Res.ok R1 x s2
theorem extend_rd {σ : L2.St} {al : Al} {S : Store} {H : Hp} {n : Nat} {ds : List D} {us : List V} {Q : VK} (sr : SR (bs X ϑ) al S H) (hn : n < S.length) (rs : RVs (bs X ϑ) al S.length H ds us)
    (R : Res (bs X ϑ) W σ al S H (extendM (.loc n) ds S) (fun al' S' H' d => ∀ v, RV (bs X ϑ) al' S'.length H' d v → Q v H')) : rExtend (.ref (al n)) us H Q := by
  obtain ⟨v, rfl⟩ : ∃ d, ds = [d] := by
    match ds, R with
    | [], R => exact R.none.elim
    | [d], R => exact ⟨d, rfl⟩
    | _ :: _ :: _, R => exact R.none.elim
  have R : Res (bs X ϑ) W σ al S H (M.bnd (M.get n) (extC n v) S) (fun al' S' H' d => ∀ v, RV (bs X ϑ) al' S'.length H' d v → Q v H') := R
  obtain ⟨u, rfl, ru⟩ := rvs1 rs
  obtain ⟨c, hc, rc, R2⟩ := Res.get sr R
  unfold extC at R2
  split at R2
  · rename_i xs
    obtain ⟨vs, ev, t⟩ := rc
    obtain ⟨y, ry, -, -, -, R3⟩ := Res.view sr ru R2
    unfold extF at R3
    split at R3
    · rename_i ys
      rw [rw_fzl] at ry
      obtain ⟨b, ws, rfl, _, e2, t2⟩ := ry
      obtain ⟨hz, R4⟩ := R3.need
      refine ⟨al n, b, vs, ws, rfl, rfl, ev, e2, by rw [← t.length, ← t2.length]; exact hz, ?_⟩
      obtain ⟨s5, x5, R5⟩ := put_ok (ho := .lst (vs ++ ws)) sr hn R4 ⟨_, upd_same, (t.append t2).mono sr (Xt.write hn)⟩
      exact R5.ret s5 _ (by simp [RV])
    · exact R3.none.elim
  · exact R2.none.elim
theorem popAt_rd {σ : L2.St} {al : Al} {S : Store} {H : Hp} {n : Nat} {ds : List D} {us : List V} {Q : VK} (sr : SR (bs X ϑ) al S H) (hn : n < S.length) (rs : RVs (bs X ϑ) al S.length H ds us)
    (R : Res (bs X ϑ) W σ al S H (popAtM (.loc n) ds S) (fun al' S' H' d => ∀ v, RV (bs X ϑ) al' S'.length H' d v → Q v H')) : rPopAt (.ref (al n)) us H Q := by
  obtain ⟨i, rfl⟩ : ∃ i, ds = [.int i] := by
    match ds, R with
    | [], R => exact R.none.elim
    | [d], R => cases d <;> first | exact ⟨_, rfl⟩ | exact R.none.elim
    | a :: _ :: _, R => cases a <;> exact R.none.elim
  have R : Res (bs X ϑ) W σ al S H (M.bnd (M.get n) (popAtC n i) S) (fun al' S' H' d => ∀ v, RV (bs X ϑ) al' S'.length H' d v → Q v H') := R
  · obtain ⟨u, rfl, ru⟩ := rvs1 rs
    rw [rv_int] at ru
    subst ru
    obtain ⟨c, hc, rc, R2⟩ := Res.get sr R
    unfold popAtC at R2
    split at R2
    · rename_i xs
      obtain ⟨vs, ev, t⟩ := rc
      obtain ⟨hz, R3⟩ := R2.need
      obtain ⟨j, hj, R4⟩ := Res.of sr R3
      obtain ⟨d, hd, R5⟩ := Res.of sr R4
      obtain ⟨w, hw, rw'⟩ := t.get hd
      have hz' : -(2 ^ 62) ≤ i ∧ i < 2 ^ 62 := of_decide_eq_true hz
      refine ⟨al n, vs, i, j, w, rfl, rfl, ev, by omega, by omega, ?_, hw, ?_⟩
      · rw [← t.length]
        unfold ixN at hj
        unfold seqIndex?
        split at hj
        · split at hj
          · cases hj
            rename_i h1 h2
            simp [h1, h2]
            omega
          · cases hj
        · split at hj
          · cases hj
            rename_i h1 h2
            simp
            omega
          · cases hj
      · have er : RVs (bs X ϑ) al S.length H (xs.eraseIdx j) (vs.eraseIdx j) := by
          rw [List.eraseIdx_eq_take_drop_succ, List.eraseIdx_eq_take_drop_succ]
          exact (t.take j).append (t.drop (j + 1))
        obtain ⟨s6, x6, R6⟩ := put_ok (ho := .lst (vs.eraseIdx j)) sr hn R5 ⟨_, upd_same, er.mono sr (Xt.write hn)⟩
        exact R6.ret s6 _ (rw'.mono sr x6)
    · exact R2.none.elim
/-- xs.pop() -/
theorem pop_ok (ho : PE X o (tE (bs X ϑ) W mo)) (hb : abOk o = true) (hl : (apos.endLine == cpos.line) = true) :
    PE X (.Call (.Attribute o "pop" apos) [] [] cpos) (tE (bs X ϑ) W fun ρ => M.bnd (mo ρ) fun x => M.bnd (mtPre .pop x) fun _ => M.bnd (M.ret []) fun ds => mtM .pop x ds) := by
  refine PE.imp (pe_bm0 PySem.F.plainAttrs_list PySem.F.slot_list_pop PySem.F.type_list_pop mt_pop ho (abase hb) hl) fun σ H Q h => ?_
  obtain ⟨al, ρ, S, sr, re, R⟩ := h
  refine ⟨al, ρ, S, sr, re, R.bnd.imp fun al1 S1 H1 x x1 sr1 _ R1 v rv => ?_⟩
  have R1 : Res (bs X ϑ) W σ al1 S1 H1 (M.bnd (isLst x) (fun _ => M.bnd (M.ret []) fun ds => mtM .pop x ds) S1) _ := R1
  obtain ⟨n, xs, rfl, hc, R2⟩ := isLst_inv sr1 R1
  have R3 := R2.bnd.ret sr1
  rw [rv_loc] at rv
  obtain ⟨rfl, hn⟩ := rv
  obtain ⟨vs, ev, t⟩ := sr1.cell n _ hc
  refine ⟨.inl ⟨rfl, vs, .of ev⟩, ?_⟩
  have R3 : Res (bs X ϑ) W σ al1 S1 H1 (M.bnd (M.get n) (popC n) S1) _ := R3
  obtain ⟨c, hc2, rc, R4⟩ := Res.get sr1 R3
  have : c = .lst xs := by rw [hc] at hc2; exact (Option.some.inj hc2).symm
  subst this
  have R4 : Res (bs X ϑ) W σ al1 S1 H1 (M.bnd (M.of xs.getLast?) (fun d => M.bnd (M.put n (.lst xs.dropLast)) (retK d)) S1) _ := R4
  obtain ⟨d, hd, R5⟩ := Res.of sr1 R4
  rw [List.getLast?_eq_getElem?] at hd
  obtain ⟨w, hw, rw'⟩ := t.get hd
  refine ⟨al1 n, vs, w, rfl, rfl, ev, by rw [← t.length]; exact hw, ?_⟩
  have er : RVs (bs X ϑ) al1 S1.length H1 xs.dropLast vs.dropLast := by
    rw [List.dropLast_eq_take, List.dropLast_eq_take, ← t.length]
    exact t.take _
  obtain ⟨s6, x6, R6⟩ := put_ok (ho := .lst vs.dropLast) sr1 hn R5 ⟨_, upd_same, er.mono sr1 (Xt.write hn)⟩
  exact R6.ret s6 _ (rw'.mono sr1 x6)
/-! ### dicts -/
theorem trees1 {env : PySem.Env} (h : noStar e = true) : backTo cpos (starEach [e] env) = [(false, eval e env)] := by
  rw [starEach_cons h]; rfl
theorem m1_of {name : Str} (hb : abOk o = true) (hs : noStar e = true) (hl : (apos.endLine == cpos.line) = true) : M1 X o name apos e cpos :=
  ⟨abase hb, few_of (by simp [hs]) (by show 1 < 30; decide), hl, trees1 hs⟩
theorem getF_dict {B : Bs} {σ : L2.St} {al : Al} {S : Store} {H : Hp} {y k dd : D} {w : V} {kk : Al → Store → Hp → D → Prop} (ry : RW B al S.length H y w) (R : Res B W σ al S H (getF y k dd S) kk) : ∃ ks ds, y = .fzd ks ds ∧ keyFit ks k = true ∧ Res B W σ al S H (M.ret ((lookF k ks ds).getD dd) S) kk := by
  unfold getF at R
  split at R
  · obtain ⟨h1, h2⟩ := R.need
    exact ⟨_, _, rfl, h1, h2⟩
  · exact R.none.elim
/-- it is a dict, tracked or written -/
def IsDW (B : Bs) (H : Hp) (a : Addr) : Prop := (∃ kvs, Rd H a (.dK kvs)) ∨ ∃ es n, KDict B.K B.w a es n
theorem isDW_at {pins : List (Addr × Obj)} {σ : L2.St} {H : Hp} {s : Shared} {a : Addr} (I : Inv X pins σ H s) (d : IsDW (bs X ϑ) H a) :
    s.TypeIs (.ref a) "dict" ∧ (∀ b, Value.ref a = .ref b → ∃ ob, s.heap.get? b = some ob ∧ ob.dict = none) := by
  rcases d with ⟨kvs, e⟩ | ⟨es, n, KD⟩
  · obtain ⟨h1, h2, _⟩ := isD_at I (.inl ⟨kvs, e⟩)
    exact ⟨h1, h2⟩
  · refine ⟨kd_type KD I, fun b q => ?_⟩
    cases q
    exact ⟨_, I.kIn _ _ KD.at_, rfl⟩
theorem call_get1 (hu : X.A.units + 1 < cLine) {pins : List (Addr × Obj)} {σ σ0 : L2.St} {s : Shared} {al : Al} {S : Store} {H : Hp} {a : Addr} {ks ds : List D} {k : D} {u : Value} {kv : V} {Q : VK} (I : Inv X pins σ H s) (sr : SR (bs X ϑ) al S H)
    (hd : (∃ kvs, Rd H a (.dK kvs) ∧ ks.map keyO = kvs.map (fun p => some p.1) ∧ RVs (bs X ϑ) al S.length H ds (kvs.map (·.2))) ∨ WrD (bs X ϑ) a ks ds) (hk : keyFit ks k = true) (rk : RV (bs X ϑ) al S.length H k kv) (ru : RelV kv u)
    (R : Res (bs X ϑ) W σ0 al S H (M.ret ((lookF k ks ds).getD .non) S) (fun al' S' H' d => ∀ v, RV (bs X ϑ) al' S'.length H' d v → Q v H')) : wpAny (model X.prog X.w) X.A (call (.builtin "dict.get") [.ref a, u]) (EP X pins σ Q) X.xe s := by
  have R1 := R.ret sr
  obtain ⟨ky, k1, rfl⟩ := key_V hk rk
  rcases hd with ⟨kvs, g, k2, t⟩ | ⟨_, _, es, n, KD, w1, w2⟩
  · have L := look_rd k1 k2 t
    refine d_get1 hu I (.inl ⟨kvs, ky, g, rfl, rfl⟩) ru fun w' s' I' r' => ⟨_, H, I', r', ?_⟩
    cases e : lookF k ks ds <;> cases e2 : valV kvs ky <;> rw [e, e2] at L <;> first | exact L.elim | skip
    · rw [e] at R1; exact R1 _ (by simp [RV])
    · rw [e] at R1; exact R1 _ L
  · obtain ⟨z, rfl⟩ := key_str (B := bs X ϑ) (a := a) (ds := ds) hk w1
    cases k1
    obtain ⟨t, rfl⟩ := ru
    have mp := PySem.W.mapOf_K (prog := X.prog) (w := X.w) I.kIn KD.at_ KD.lit
    refine call_meetsIn PySem.F.slot_dict_get (kd_type KD I) PySem.F.entry_dict_get (PySem.F.args_dict_get_2 _ _) (meets_dict_get (PySem.strKind X.prog X.w) a (PySem.strKind_is X.prog X.w (txS z) t) KD.low) ⟨_, mp, ?_⟩
    cases e : lookF (.str z) ks ds with
    | none =>
      rw [PySem.W.find_K KD.at_ (wr_no (w2 z) e)]
      rw [e] at R1
      exact ⟨.non, H, I.tok _, rfl, R1 _ (by simp [RV])⟩
    | some d =>
      obtain ⟨u0, v0, h1, h2, h3⟩ := wr_at (w2 z) e
      rw [PySem.W.find_K KD.at_ h1]
      rw [e] at R1
      exact ⟨v0, H, I.tok _, h2, R1 _ (h3 _ _ _)⟩
theorem isD_inv {B : Bs} {σ : L2.St} {al : Al} {S : Store} {H : Hp} {β : Type} {x : D} {v : V} {g : Unit → M β} {k : Al → Store → Hp → β → Prop} (sr : SR B al S H) (rv : RV B al S.length H x v) (R : Res B W σ al S H (M.bnd (isD x) g S) k) : ∃ a, v = .ref a ∧ IsDW B H a ∧ Res B W σ al S H (g () S) k := by
  have R : Res B W σ al S H (M.bnd (Mi.view x) (fun y => M.bnd (isDF y) g) S) k := by
    have e : M.bnd (isD x) g S = M.bnd (Mi.view x) (fun y => M.bnd (isDF y) g) S := by
      unfold isD M.bnd
      cases Mi.view x S with
      | none => rfl
      | some p => obtain ⟨o, S1⟩ := p; cases o <;> rfl
    rw [← e]; exact R
  obtain ⟨y, ry, -, -, -, R2⟩ := Res.view sr rv R
  unfold isDF at R2
  split at R2
  · rw [rw_fzd] at ry
    obtain ⟨a, rfl, ry⟩ := ry
    refine ⟨a, rfl, ?_, R2.bnd.ret sr⟩
    rcases ry with ⟨kvs, g, _⟩ | ⟨_, _, es, n, KD, _⟩
    · exact .inl ⟨kvs, g⟩
    · exact .inr ⟨es, n, KD⟩
  · exact R2.bnd.none.elim
/-- d.get(k) -/
theorem get1_ok {me : Env → M D} (hu : X.A.units + 1 < cLine) (ho : PE X o (tE (bs X ϑ) W mo)) (he : PE X e (tE (bs X ϑ) W me)) (hb : abOk o = true) (hs : noStar e = true) (hl : (apos.endLine == cpos.line) = true) :
    PE X (.Call (.Attribute o "get" apos) [e] [] cpos) (tE (bs X ϑ) W fun ρ => M.bnd (mo ρ) fun x => M.bnd (mtPre .get1 x) fun _ => M.bnd (me ρ) fun k => get1M x [k]) := by
  have m : M1 X o "get" apos e cpos := m1_of hb hs hl
  refine ⟨fun pins s σ H Q I h => ?_⟩
  obtain ⟨al, ρ, S, sr, re, R⟩ := h
  refine wpAny_Call_method m.base m.few m.line PySem.F.plainAttrs_dict PySem.F.slot_dict_get PySem.F.type_dict_get (thn (ho.run pins s σ H (fun v H1 => ∃ al1 S1 x, SR (bs X ϑ) al1 S1 H1 ∧ RE (bs X ϑ) al1 S1.length H1 ρ σ ∧ RV (bs X ϑ) al1 S1.length H1 x v ∧
    Res (bs X ϑ) W σ al1 S1 H1 (M.bnd (mtPre .get1 x) (fun _ => M.bnd (me ρ) fun k => get1M x [k]) S1) (fun al' S' H' d => ∀ v, RV (bs X ϑ) al' S'.length H' d v → Q v H')) I ⟨al, ρ, S, sr, re, R.bnd.imp fun al1 S1 H1 x x1 sr1 _ R1 v rv => ⟨al1, S1, x, sr1, re.mono sr x1, rv, R1⟩⟩) fun u s1 ⟨xv, H1, I1, rx, al1, S1, x, sr1, re1, rv, R1⟩ => ?_)
  have R1 : Res (bs X ϑ) W σ al1 S1 H1 (M.bnd (isD x) (fun _ => M.bnd (me ρ) fun k => get1M x [k]) S1) _ := R1
  obtain ⟨a, rfl, dw, R2⟩ := isD_inv sr1 rv R1
  obtain rfl : u = Value.ref a := rx
  obtain ⟨t1, t2⟩ := isDW_at I1 dw
  refine ⟨t1, t2, ?_⟩
  rw [m.trees]
  refine Calls.callWith_builtin rfl (Calls.evalArgs_plain (Calls.spliced_cons (thn (he.run pins s1 σ H1 (fun v H2 => ∃ al2 S2 k, SR (bs X ϑ) al2 S2 H2 ∧ RV (bs X ϑ) al2 S2.length H2 k v ∧ RV (bs X ϑ) al2 S2.length H2 x (.ref a) ∧
    Res (bs X ϑ) W σ al2 S2 H2 (get1M x [k] S2) (fun al' S' H' d => ∀ v, RV (bs X ϑ) al' S'.length H' d v → Q v H')) I1 ⟨al1, ρ, S1, sr1, re1, R2.bnd.imp fun al2 S2 H2 k x2 sr2 _ R3 v rk => ⟨al2, S2, k, sr2, rk, rv.mono sr1 x2, R3⟩⟩) fun iv s2 ⟨kv, H2, I2, rkv, al2, S2, k, sr2, rk, rx2, R3⟩ => Calls.spliced_nil ?_)))
  have R3 : Res (bs X ϑ) W σ al2 S2 H2 (M.bnd (Mi.view x) (fun x => getF x k .non) S2) _ := R3
  obtain ⟨y, ry, -, -, -, R4⟩ := Res.view sr2 rx2 R3
  obtain ⟨ks, ds, rfl, hk, R5⟩ := getF_dict ry R4
  rw [rw_fzd] at ry
  obtain ⟨a', e', ry⟩ := ry
  cases e'
  exact call_get1 hu I2 sr2 ry hk rk rkv R5
/-- d.setdefault(k, v) -/
theorem keys_new {kvs : List (D × D)} {kvs' : List (Key × V)} {k : D} {ky : Key} (h : (kvs.map (·.1)).map keyO = kvs'.map (fun p => some p.1)) (hk : keyO k = some ky) (v : D) (w : V) : ((kvs ++ [(k, v)]).map (·.1)).map keyO = (kvs' ++ [(ky, w)]).map (fun p => some p.1) := by
  simp only [List.map_append, h, List.map_cons, List.map_nil, hk]
theorem lookD_F (k : D) : ∀ kvs : List (D × D), lookD k kvs = lookF k (kvs.map (·.1)) (kvs.map (·.2))
  | [] => rfl
  | (x, v) :: r => by
    simp only [lookD, List.map_cons, lookF]
    rw [lookD_F k r]
theorem keyO_of {k : D} (h : k.key = true) : ∃ ky, keyO k = some ky := by
  cases k <;> simp [D.key] at h <;> exact ⟨_, rfl⟩
theorem keyO_V {B : Bs} {al : Al} {n : Nat} {H : Hp} {k : D} {ky : Key} {v : V} (h : keyO k = some ky) (r : RV B al n H k v) : v = kV ky := by
  cases k <;> simp [keyO] at h <;> subst h
  · rw [rv_int] at r; exact r
  · rw [rv_str] at r; exact r.1
theorem setdefault_ok {me mf : Env → M D} (ho : PE X o (tE (bs X ϑ) W mo)) (he : PE X e (tE (bs X ϑ) W me)) (hf : PE X f (tE (bs X ϑ) W mf)) (hb : abOk o = true) (hs : noStar e = true) (hs2 : noStar f = true) (hl : (apos.endLine == cpos.line) = true) :
    PE X (.Call (.Attribute o "setdefault" apos) [e, f] [] cpos) (tE (bs X ϑ) W fun ρ => M.bnd (mo ρ) fun x => M.bnd (mtPre .setdefault x) fun _ => M.bnd (me ρ) fun k => M.bnd (mf ρ) fun v => setdefaultM x [k, v]) := by
  have m : M2 X o "setdefault" apos e f cpos := ⟨abase hb, few_of (by simp [hs, hs2]) (by show 2 < 30; decide), hl, by rw [starEach_cons hs, starEach_cons hs2]; rfl⟩
  refine PE.imp (pe_dsetd ho he hf m) fun σ H Q h => ?_
  obtain ⟨al, ρ, S, sr, re, R⟩ := h
  refine ⟨al, ρ, S, sr, re, R.bnd.imp fun al1 S1 H1 x x1 sr1 _ R1 v rv => ?_⟩
  have R1 : Res (bs X ϑ) W σ al1 S1 H1 (M.bnd (isDct x) (fun _ => M.bnd (me ρ) fun k => M.bnd (mf ρ) fun v => setdefaultM x [k, v]) S1) _ := R1
  obtain ⟨n, kvs, rfl, hc, R2⟩ := isDct_inv sr1 R1
  rw [rv_loc] at rv
  obtain ⟨rfl, hn⟩ := rv
  obtain ⟨kvs', ev, k2, t⟩ := sr1.cell n _ hc
  have re1 := re.mono sr x1
  refine ⟨_, rfl, .inl ⟨kvs', .of ev⟩, al1, ρ, S1, sr1, re1, R2.bnd.imp fun al2 S2 H2 k x2 sr2 _ R3 w rk => ?_⟩
  refine ⟨al2, ρ, S2, sr2, re1.mono sr1 x2, R3.bnd.imp fun al3 S3 H3 v x3 sr3 _ R4 z rz => ?_⟩
  have R4 : Res (bs X ϑ) W σ al3 S3 H3 (M.bnd (M.get n) (sdfC n k v) S3) _ := R4
  have hn3 : n < S3.length := Nat.lt_of_lt_of_le (Nat.lt_of_lt_of_le hn x2.le) x3.le
  have ea : al3 n = al1 n := by rw [x3.ag n (Nat.lt_of_lt_of_le hn x2.le), x2.ag n hn]
  obtain ⟨c, hc, rc, R5⟩ := Res.get sr3 R4
  unfold sdfC at R5
  split at R5
  · rename_i kvs3
    obtain ⟨kvs3', e3, k3, t3⟩ := rc
    obtain ⟨⟨hk, hz⟩, R6⟩ := R5.need
    obtain ⟨ky, hky⟩ := keyO_of hk
    have L := look_rd hky k3 t3
    rw [← lookD_F] at L
    have hlen : kvs3'.length < sizeLine := by
      have := congrArg List.length k3
      simp only [List.length_map] at this
      rw [← this]; exact hz
    rw [ea] at e3
    refine ⟨kvs3', ky, e3, keyO_V hky (rk.mono sr2 x3), hlen, fun u hu => ?_, fun hno => ?_⟩
    · rw [hu] at L
      cases el : lookD k kvs3 with
      | none => rw [el] at L; exact L.elim
      | some d =>
        rw [el] at L R6
        exact R6.ret sr3 _ L
    · rw [hno] at L
      cases el : lookD k kvs3 with
      | some d => rw [el] at L; exact L.elim
      | none =>
        rw [el] at R6
        have e4 : putK kvs3' ky z = kvs3' ++ [(ky, z)] := putK_new z hno
        rw [e4, ← ea]
        obtain ⟨s7, x7, R7⟩ := put_ok (ho := .dK (kvs3' ++ [(ky, z)])) sr3 hn3 R6 ⟨_, upd_same, keys_new k3 hky v z, by
          rw [List.map_append, List.map_append]
          exact (t3.append (.one rz)).mono sr3 (Xt.write hn3)⟩
        exact R7.ret s7 _ (rz.mono sr3 x7)
  · exact R5.none.elim
end
end Mi

set_option autoImplicit true
set_option maxRecDepth 512
set_option maxHeartbeats 200000
set_option Elab.async false
set_option linter.all false
set_option maxRecDepth 100000
/-! Mi7: what is walked; list comprehensions. -/
namespace Mi
open PySem PySem.Spec PyProof.Rows L2

/-! ### what a for walks -/
structure SrcJ (B : Bs) (al0 : Al) (S0 : Store) (H0 : Hp) (J : It) (items : List D) (g : List (Nat × Cell)) : Prop where
  go : ∀ ϑ, Hid B H0 ϑ → ∀ al S H i, Xt al0 S0.length H0 al S.length H → SR (B.wh ϑ) al S H → stays S g = true → i < items.length → J.go i H
  stop : ∀ ϑ, Hid B H0 ϑ → ∀ al S H, Xt al0 S0.length H0 al S.length H → SR (B.wh ϑ) al S H → stays S g = true → J.stop items.length H
  yld : ∀ ϑ, Hid B H0 ϑ → ∀ al S H i d x H', Xt al0 S0.length H0 al S.length H → SR (B.wh ϑ) al S H → stays S g = true → items[i]? = some d → J.yld i H x H' →
    Xt al S.length H al S.length H' ∧ SR (B.wh ϑ) al S H' ∧ RV (B.wh ϑ) al S.length H' d x
def tI (B : Bs) (W : WX) (m : Env → M Src) : TI := fun σ H R => ∃ al ρ S, SR B al S H ∧ RE B al S.length H ρ σ ∧ Res B W σ al S H (m ρ S) (fun al' S' H' src => stays S' src.2 = true ∧ ∀ J, SrcJ B al' S' H' J src.1 src.2 → R J H')
theorem PI.imp {X : Cx} {tg e : Expr} {t t' : TI} (h : PI X tg e t) (f : ∀ σ H R, t' σ H R → t σ H R) : PI X tg e t' := ⟨fun pins s σ H R I q => h.run pins s σ H R I (f σ H R q)⟩
theorem PI.or {X : Cx} {tg e : Expr} {t t' : TI} (h : PI X tg e t) (h' : PI X tg e t') : PI X tg e (fun σ H R => t σ H R ∨ t' σ H R) :=
  ⟨fun pins s σ H R I q => q.elim (h.run pins s σ H R I) (h'.run pins s σ H R I)⟩

section
variable {B : Bs} {al : Al} {S : Store} {H : Hp}
theorem stays_get {g : List (Nat × Cell)} {n : Nat} {c : Cell} (h : stays S g = true) (hm : (n, c) ∈ g) : S[n]? = some c := by
  unfold stays at h
  exact of_decide_eq_true (List.all_eq_true.mp h _ hm)
theorem src_list {n : Nat} {xs : List D} {c : Cell} (hc : c = .lst xs) (sr : SR B al S H) (hn : n < S.length) : SrcJ B al S H (Itl B.K (al n)) xs [(n, c)] := by
  have key : ∀ ϑ, Hid B H ϑ → ∀ al' S' H', Xt al S.length H al' S'.length H' → SR (B.wh ϑ) al' S' H' → stays S' [(n, c)] = true → ∃ vs, SqL B.K H' (al n) vs ∧ RVs (B.wh ϑ) al' S'.length H' xs vs := fun ϑ hh al' S' H' x sr' st => by
    have e := stays_get st (List.mem_singleton.mpr rfl)
    have rc := sr'.cell n c e
    rw [x.ag n hn] at rc
    subst hc
    obtain ⟨vs, e, t⟩ := rc
    exact ⟨vs, .of e, t⟩
  refine ⟨fun ϑ hh al' S' H' i x sr' st hi => ?_, fun ϑ hh al' S' H' x sr' st => ?_, fun ϑ hh al' S' H' i d v H2 x sr' st e y => ?_⟩
  · obtain ⟨vs, q, t⟩ := key ϑ hh al' S' H' x sr' st
    have : i < vs.length := by rw [← t.length]; exact hi
    exact ⟨vs, vs[i], q, by simp [this]⟩
  · obtain ⟨vs, q, t⟩ := key ϑ hh al' S' H' x sr' st
    exact ⟨vs, q, by rw [t.length]; exact Nat.le_refl _⟩
  · obtain ⟨vs, q, t⟩ := key ϑ hh al' S' H' x sr' st
    obtain ⟨e1, y⟩ := y
    subst e1
    obtain ⟨w, e2, r⟩ := t.get e
    have := y vs q
    rw [e2] at this
    cases this
    exact ⟨Xt.refl, sr', r⟩
theorem src_fzl {a : Addr} {xs : List D} {vs : List V} (sr : SR B al S H) (q : FzL B al S.length H a vs) (t : RVs B al S.length H xs vs) : SrcJ B al S H (Itl B.K a) xs [] := by
  refine ⟨fun ϑ hh al' S' H' i x sr' st hi => ?_, fun ϑ hh al' S' H' x sr' st => ?_, fun ϑ hh al' S' H' i d v H2 x sr' st e y => ?_⟩
  · have : i < vs.length := by rw [← t.length]; exact hi
    exact ⟨vs, vs[i], (FzL.mono hh x q).sq, by simp [this]⟩
  · exact ⟨vs, (FzL.mono hh x q).sq, by rw [t.length]; exact Nat.le_refl _⟩
  · obtain ⟨e1, y⟩ := y
    subst e1
    obtain ⟨w, e2, r⟩ := (RVs.monoH hh sr x t).get e
    have := y vs (FzL.mono hh x q).sq
    rw [e2] at this
    cases this
    exact ⟨Xt.refl, sr', r⟩
theorem src_scr {a : Addr} {xs : List D} {vs : List V} (sr : SR B al S H) (q : ScL B.K H a vs) (t : RVs B al S.length H xs vs) : SrcJ B al S H (Itl B.K a) xs [] := by
  refine ⟨fun ϑ hh al' S' H' i x sr' st hi => ?_, fun ϑ hh al' S' H' x sr' st => ?_, fun ϑ hh al' S' H' i d v H2 x sr' st e y => ?_⟩
  · have : i < vs.length := by rw [← t.length]; exact hi
    exact ⟨vs, vs[i], (ScL.mono sr x q).sq, by simp [this]⟩
  · exact ⟨vs, (ScL.mono sr x q).sq, by rw [t.length]; exact Nat.le_refl _⟩
  · obtain ⟨e1, y⟩ := y
    subst e1
    obtain ⟨w, e2, r⟩ := (RVs.monoH hh sr x t).get e
    have := y vs (ScL.mono sr x q).sq
    rw [e2] at this
    cases this
    exact ⟨Xt.refl, sr', r⟩
theorem src_tup {a : Addr} {xs : List D} {vs : List V} (sr : SR B al S H) (q : SqT B.K H a vs) (t : RVs B al S.length H xs vs) : SrcJ B al S H (Itt B.K a) xs [] := by
  refine ⟨fun ϑ hh al' S' H' i x sr' st hi => ?_, fun ϑ hh al' S' H' x sr' st => ?_, fun ϑ hh al' S' H' i d v H2 x sr' st e y => ?_⟩
  · have : i < vs.length := by rw [← t.length]; exact hi
    exact ⟨vs, vs[i], SqT.mono sr x q, by simp [this]⟩
  · exact ⟨vs, SqT.mono sr x q, by rw [t.length]; exact Nat.le_refl _⟩
  · obtain ⟨e1, y⟩ := y
    subst e1
    obtain ⟨w, e2, r⟩ := (RVs.monoH hh sr x t).get e
    have := y vs (SqT.mono sr x q)
    rw [e2] at this
    cases this
    exact ⟨Xt.refl, sr', r⟩
theorem src_str {s : Tx} (h1 : s.all (fun c => decide (c < 1114112)) = true) : SrcJ B al S H (Its (txS s)) (s.map fun c => D.str [c]) [] := by
  refine ⟨fun ϑ hh al' S' H' i x sr' st hi => ?_, fun ϑ hh al' S' H' x sr' st => ?_, fun ϑ hh al' S' H' i d v H2 x sr' st e y => ?_⟩
  · show i < (txS s).cps.size
    simpa [txS] using hi
  · show (txS s).cps.size ≤ _
    simp [txS]
  · obtain ⟨e1, c, e2, e3⟩ := y
    subst e1; subst e3
    have e4 : s[i]? = some c := by simpa [txS] using e2
    rw [List.getElem?_map, e4] at e
    cases e
    refine ⟨Xt.refl, sr', ?_⟩
    rw [rv_str]
    exact ⟨rfl, (by show 1 ≤ szl; decide), by simpa using of_decide_eq_true (List.all_eq_true.mp h1 c (List.mem_of_getElem? e4))⟩
theorem src_range {lo : Int} {n : Nat} : SrcJ B al S H (Itr lo n) (rangeD lo n) [] := by
  have hl : (rangeD lo n).length = n := by simp [rangeD]
  refine ⟨fun ϑ hh al' S' H' i x sr' st hi => ?_, fun ϑ hh al' S' H' x sr' st => ?_, fun ϑ hh al' S' H' i d v H2 x sr' st e y => ?_⟩
  · show i < n
    rw [hl] at hi; exact hi
  · show n ≤ _
    rw [hl]; exact Nat.le_refl _
  · obtain ⟨e1, e2⟩ := y
    subst e1; subst e2
    unfold rangeD at e
    rw [List.getElem?_map] at e
    cases q : (List.range n)[i]? with
    | none => rw [q] at e; cases e
    | some k =>
      rw [q] at e
      cases e
      have : k = i := by
        obtain ⟨h1, h2⟩ := List.getElem?_eq_some_iff.mp q
        simp at h2
        exact h2.symm
      subst this
      exact ⟨Xt.refl, sr', by rw [rv_int]⟩
theorem stays_nil : stays S [] = true := rfl
theorem stays_one {n : Nat} {c : Cell} (h : S[n]? = some c) : stays S [(n, c)] = true := by
  unfold stays; simp [h]
end

section
variable {X : Cx} {W : WX} {p pos : Pos} {tg e e2 : Expr} {me : Env → M D} {ma : Env → M (List D)}
theorem it_seq (he : PE X e (tE (bs X ϑ) W me)) : PI X tg e (tI (bs X ϑ) W fun ρ => M.bnd (me ρ) seqM) := by
  refine PI.imp (PI.or (pi_list he) (PI.or (pi_tup he) (pi_str he))) fun σ H R h => ?_
  obtain ⟨al, ρ, S, sr, re, RR⟩ := h
  obtain ⟨o, S', eq, h1, h2⟩ := RR.bnd
  cases o with
  | ex c => exact .inl ⟨al, ρ, S, sr, re, _, S', eq, (fun d q => nomatch q), h2⟩
  | ok d =>
    have nx : ∀ {k : Al → Store → Hp → D → Prop}, (∀ al' H', Xt al S.length H al' S'.length H' → SR (bs X ϑ) al' S' H' → k al' S' H' d) → Res (bs X ϑ) W σ al S H (me ρ S) k := fun {k} h =>
      ⟨_, S', eq, (fun d' q al' H' x y => by cases q; exact h al' H' x y), fun c q => nomatch q⟩
    cases d with
    | tup xs =>
      refine .inr (.inl ⟨al, ρ, S, sr, re, nx fun al' H' x y v rv => ?_⟩)
      have R1 := h1 _ rfl al' H' x y
      rw [rv_tup] at rv
      obtain ⟨a, vs, rfl, q, t⟩ := rv
      exact ⟨a, rfl, ⟨vs, q⟩, (R1.ret y).2 _ (src_tup y q t)⟩
    | fzl xs =>
      refine .inl ⟨al, ρ, S, sr, re, nx fun al' H' x y v rv => ?_⟩
      have R1 := h1 _ rfl al' H' x y
      rw [rv_fzl] at rv
      obtain ⟨a, vs, rfl, q, t⟩ := rv
      exact ⟨a, rfl, ⟨vs, q.sq⟩, (R1.ret y).2 _ (src_fzl y q t)⟩
    | scr xs =>
      refine .inl ⟨al, ρ, S, sr, re, nx fun al' H' x y v rv => ?_⟩
      have R1 := h1 _ rfl al' H' x y
      rw [rv_scr] at rv
      obtain ⟨a, vs, rfl, q, t⟩ := rv
      exact ⟨a, rfl, ⟨vs, q.sq⟩, (R1.ret y).2 _ (src_scr y q t)⟩
    | str s =>
      refine .inr (.inr ⟨al, ρ, S, sr, re, nx fun al' H' x y v rv => ?_⟩)
      have R1 := h1 _ rfl al' H' x y
      rw [rv_str] at rv
      obtain ⟨rfl, a1, a2⟩ := rv
      exact ⟨_, rfl, (R1.ret y).2 _ (src_str a2)⟩
    | loc n =>
      refine .inl ⟨al, ρ, S, sr, re, nx fun al' H' x y v rv => ?_⟩
      have R1 := h1 _ rfl al' H' x y
      rw [rv_loc] at rv
      obtain ⟨rfl, hn⟩ := rv
      obtain ⟨c, hc, rc, R1⟩ := Res.get y R1
      cases c with
      | lst xs => obtain ⟨vs, e, t⟩ := rc; exact ⟨_, rfl, ⟨vs, .of e⟩, (R1.ret y).2 _ (src_list rfl y hn)⟩
      | _ => exact R1.none.elim
    | non => exact .inl ⟨al, ρ, S, sr, re, nx fun al' H' x y v rv => (h1 _ rfl al' H' x y).none.elim⟩
    | bl b => exact .inl ⟨al, ρ, S, sr, re, nx fun al' H' x y v rv => (h1 _ rfl al' H' x y).none.elim⟩
    | int b => exact .inl ⟨al, ρ, S, sr, re, nx fun al' H' x y v rv => (h1 _ rfl al' H' x y).none.elim⟩
    | fzd _ _ => exact .inl ⟨al, ρ, S, sr, re, nx fun al' H' x y v rv => (h1 _ rfl al' H' x y).none.elim⟩
    | fzo _ _ _ => exact .inl ⟨al, ρ, S, sr, re, nx fun al' H' x y v rv => (h1 _ rfl al' H' x y).none.elim⟩
    | xc b => exact .inl ⟨al, ρ, S, sr, re, nx fun al' H' x y v rv => (h1 _ rfl al' H' x y).none.elim⟩
theorem r62_ok {i : Int} (h : r62 i = true) : -(2 ^ 62) ≤ i ∧ i < 2 ^ 62 := of_decide_eq_true h
theorem it_range1 (hg : Gl X "range") (hm : X.mg "range" = none) (ha : PA X [e] (tA (bs X ϑ) W ma)) (hs : noStar e = true) :
    PI X tg (.Call (.Name "range" p) [e] [] pos) (tI (bs X ϑ) W fun ρ => M.bnd (ma ρ) (itM 1)) := by
  refine PI.imp (pi_range1 hg hm ha (starEach_cons hs)) fun σ H R h => ?_
  obtain ⟨al, ρ, S, sr, re, RR⟩ := h
  refine ⟨al, ρ, S, sr, re, RR.bnd.imp fun al1 S1 H1 ds x1 sr1 _ R1 vs rs => ?_⟩
  have R1 : Res (bs X ϑ) W σ al1 S1 H1 (rng1 ds S1) _ := R1
  unfold rng1 at R1
  split at R1
  · rename_i a
    obtain ⟨v, rfl, rv⟩ := rvs1 rs
    rw [rv_int] at rv
    subst rv
    obtain ⟨hz, R1⟩ := R1.need
    obtain ⟨z1, z2⟩ := r62_ok hz
    exact ⟨_, rfl, z1, z2, (R1.ret sr1).2 _ src_range⟩
  · exact R1.none.elim
theorem it_range2 (hg : Gl X "range") (hm : X.mg "range" = none) (ha : PA X [e, e2] (tA (bs X ϑ) W ma)) (hs : noStar e = true) (hs2 : noStar e2 = true) :
    PI X tg (.Call (.Name "range" p) [e, e2] [] pos) (tI (bs X ϑ) W fun ρ => M.bnd (ma ρ) (itM 2)) := by
  refine PI.imp (pi_range2 hg hm ha (by rw [starEach_cons hs, starEach_cons hs2]; rfl) (starEach_cons hs2)) fun σ H R h => ?_
  obtain ⟨al, ρ, S, sr, re, RR⟩ := h
  refine ⟨al, ρ, S, sr, re, RR.bnd.imp fun al1 S1 H1 ds x1 sr1 _ R1 vs rs => ?_⟩
  have R1 : Res (bs X ϑ) W σ al1 S1 H1 (rng2 ds S1) _ := R1
  unfold rng2 at R1
  split at R1
  · rename_i a b
    obtain ⟨v, u, rfl, rv, ru⟩ := rvs2 rs
    rw [rv_int] at rv ru
    subst rv; subst ru
    obtain ⟨⟨hz, hz2⟩, R1⟩ := R1.need
    obtain ⟨z1, z2⟩ := r62_ok hz
    obtain ⟨z3, z4⟩ := r62_ok hz2
    exact ⟨_, _, rfl, ⟨z1, z2, z3, z4⟩, (R1.ret sr1).2 _ src_range⟩
  · exact R1.none.elim
end

/-! ### targets -/
mutual
def gTg (K : PySem.W.Frag) : Tg → TG
  | .nm i => gName i
  | .tup ts => gTup K ts.length (gTgs K ts)
def gTgs (K : PySem.W.Frag) : List Tg → TGs
  | [] => gNil
  | t :: ts => gCons (gTg K t) (gTgs K ts)
end
mutual
def tgV : Tg → List Nat
  | .nm i => [i]
  | .tup ts => tgVs ts
def tgVs : List Tg → List Nat
  | [] => []
  | t :: ts => tgV t ++ tgVs ts
end
theorem bindTs_len : ∀ {ts : List Tg} {xs : List D} {ρ ρ' : Env}, bindTs ts xs ρ = some ρ' → xs.length = ts.length
  | [], [], _, _, _ => rfl
  | [], _ :: _, _, _, h => by simp [bindTs] at h
  | _ :: _, [], _, _, h => by simp [bindTs] at h
  | t :: ts, x :: xs, ρ, ρ', h => by
    simp only [bindTs, Option.bind_eq_some_iff] at h
    obtain ⟨ρ1, _, h2⟩ := h
    simp [bindTs_len h2]
section
variable {B : Bs} {al : Al} {n : Nat} {H : Hp}
theorem RE.set {ρ : Env} {σ : L2.St} (h : RE B al n H ρ σ) {i : Nat} {d : D} {v : V} (r : RV B al n H d v) : RE B al n H (ρ.set i (some d)) (σ.set i (some v)) := by
  refine ⟨by rw [List.length_set, List.length_set]; exact h.1, fun j d' e => ?_⟩
  by_cases hj : i = j
  · subst hj
    have hi : i < ρ.length := by
      have := (List.getElem?_eq_some_iff.mp e).1
      rwa [List.length_set] at this
    rw [List.getElem?_set_self hi] at e
    cases e
    exact ⟨v, List.getElem?_set_self (by rw [← h.1]; exact hi), r⟩
  · rw [List.getElem?_set_ne hj] at e
    rw [List.getElem?_set_ne hj]
    exact h.2 j d' e
mutual
theorem bindT_ok : ∀ {t : Tg} {d : D} {v : V} {ρ ρ' : Env} {σ : L2.St} {Q : L2.St → Hp → Prop}, bindT t d ρ = some ρ' → RE B al n H ρ σ → RV B al n H d v →
    (∀ σ', RE B al n H ρ' σ' → (∀ j, j ∉ tgV t → σ'[j]? = σ[j]?) → Q σ' H) → gTg B.K t v σ H Q
  | .nm i, d, v, ρ, ρ', σ, Q, h, re, rv, q => by
    simp only [bindT] at h
    split at h
    · cases h
      simp only [gTg, gName]
      refine q _ (re.set rv) fun j hj => ?_
      rw [List.getElem?_set_ne]
      intro z
      exact hj (by simp [tgV, z])
    · cases h
  | .tup ts, d, v, ρ, ρ', σ, Q, h, re, rv, q => by
    cases d with
    | tup xs =>
      simp only [bindT] at h
      rw [rv_tup] at rv
      obtain ⟨a, vs, rfl, qa, t⟩ := rv
      simp only [gTg]
      exact ⟨a, vs, rfl, qa, by rw [← t.length]; exact bindTs_len h, bindTs_ok h re t fun σ' r1 r2 => q σ' r1 (by simpa only [tgV] using r2)⟩
    | _ => simp [bindT] at h
theorem bindTs_ok : ∀ {ts : List Tg} {ds : List D} {vs : List V} {ρ ρ' : Env} {σ : L2.St} {Q : L2.St → Hp → Prop}, bindTs ts ds ρ = some ρ' → RE B al n H ρ σ → RVs B al n H ds vs →
    (∀ σ', RE B al n H ρ' σ' → (∀ j, j ∉ tgVs ts → σ'[j]? = σ[j]?) → Q σ' H) → gTgs B.K ts vs σ H Q
  | [], [], vs, ρ, ρ', σ, Q, h, re, rs, q => by
    simp only [bindTs] at h
    cases h
    have := rvs0 rs
    subst this
    simp only [gTgs, gNil]
    exact ⟨trivial, q σ re fun _ _ => rfl⟩
  | [], _ :: _, _, _, _, _, _, h, _, _, _ => by simp [bindTs] at h
  | _ :: _, [], _, _, _, _, _, h, _, _, _ => by simp [bindTs] at h
  | t :: ts, d :: ds, vs, ρ, ρ', σ, Q, h, re, rs, q => by
    simp only [bindTs, Option.bind_eq_some_iff] at h
    obtain ⟨ρ1, h1, h2⟩ := h
    simp only [RVs] at rs
    obtain ⟨v, r, rfl, r1, r2⟩ := rs
    simp only [gTgs, gCons]
    refine ⟨v, r, rfl, bindT_ok h1 re r1 fun σ1 re1 k1 => bindTs_ok h2 re1 r2 fun σ2 re2 k2 => q σ2 re2 fun j hj => ?_⟩
    simp only [tgVs, List.mem_append, not_or] at hj
    rw [k2 j hj.2, k1 j hj.1]
end
end

mutual
theorem bindT_len : ∀ {t : Tg} {d : D} {ρ ρ' : Env}, bindT t d ρ = some ρ' → ρ'.length = ρ.length
  | .nm i, d, ρ, ρ', h => by
    simp only [bindT] at h
    split at h
    · cases h; rw [List.length_set]
    · cases h
  | .tup ts, d, ρ, ρ', h => by
    cases d with
    | tup xs => simp only [bindT] at h; exact bindTs_lenE h
    | _ => simp [bindT] at h
theorem bindTs_lenE : ∀ {ts : List Tg} {ds : List D} {ρ ρ' : Env}, bindTs ts ds ρ = some ρ' → ρ'.length = ρ.length
  | [], [], _, _, h => by simp only [bindTs] at h; cases h; rfl
  | [], _ :: _, _, _, h => by simp [bindTs] at h
  | _ :: _, [], _, _, h => by simp [bindTs] at h
  | t :: ts, d :: ds, ρ, ρ', h => by
    simp only [bindTs, Option.bind_eq_some_iff] at h
    obtain ⟨ρ1, h1, h2⟩ := h
    rw [bindTs_lenE h2, bindT_len h1]
end
/-! ### a comprehension's slots -/
theorem wipe_none {σ : L2.St} {i : Nat} : ∀ {vs : List Nat}, i ∈ vs → ∀ x : V, (wipe σ vs)[i]? ≠ some (some x)
  | [], h, _ => by simp at h
  | v :: vs, h, x => by
    unfold wipe
    intro e
    by_cases hv : v = i
    · subst hv
      by_cases hl : v < (wipe σ vs).length
      · rw [List.getElem?_set_self hl] at e; cases e
      · rw [List.getElem?_eq_none (by simpa using hl)] at e; cases e
    · rw [List.getElem?_set_ne hv] at e
      rcases List.mem_cons.mp h with z | z
      · exact hv z.symm
      · exact wipe_none z x e
theorem wipeE_length (ρ : Env) : ∀ vs : List Nat, (wipeE ρ vs).length = ρ.length
  | [] => rfl
  | v :: vs => by unfold wipeE; rw [List.length_set, wipeE_length ρ vs]
theorem wipeE_some {ρ : Env} {i : Nat} {x : D} : ∀ {vs : List Nat}, (wipeE ρ vs)[i]? = some (some x) → ρ[i]? = some (some x) ∧ i ∉ vs
  | [], h => ⟨h, by simp⟩
  | v :: vs, h => by
    unfold wipeE at h
    by_cases hi : v = i
    · subst hi
      by_cases hv : v < (wipeE ρ vs).length
      · rw [List.getElem?_set_self hv] at h; cases h
      · rw [List.getElem?_eq_none (by simpa using hv)] at h; cases h
    · rw [List.getElem?_set_ne hi] at h
      obtain ⟨h1, h2⟩ := wipeE_some h
      exact ⟨h1, by simp only [List.mem_cons, not_or]; exact ⟨fun e => hi e.symm, h2⟩⟩
theorem wipe_at {σ : L2.St} {i : Nat} : ∀ {vs : List Nat}, i ∉ vs → (wipe σ vs)[i]? = σ[i]?
  | [], _ => rfl
  | v :: vs, h => by
    simp only [List.mem_cons, not_or] at h
    unfold wipe
    rw [List.getElem?_set_ne (Ne.symm h.1), wipe_at h.2]
theorem RE.wipe {B : Bs} {al n H} {ρ : Env} {σ : L2.St} (h : RE B al n H ρ σ) (vs : List Nat) : RE B al n H (wipeE ρ vs) (L2.wipe σ vs) := by
  refine ⟨by rw [wipeE_length, wipe_length]; exact h.1, fun i d e => ?_⟩
  obtain ⟨e1, e2⟩ := wipeE_some e
  rw [wipe_at e2]
  exact h.2 i d e1
/-- two rows of slots that differ in vs alone -/
theorem wipe_same {σ σ' : L2.St} : ∀ {vs : List Nat}, σ'.length = σ.length → (∀ j, j ∉ vs → σ'[j]? = σ[j]?) → L2.wipe σ' vs = L2.wipe σ vs := fun {vs} hl h => by
  apply List.ext_getElem?
  intro i
  by_cases hi : i ∈ vs
  · have q : ∀ τ : L2.St, τ.length = σ.length → (L2.wipe τ vs)[i]? = if i < σ.length then some none else none := fun τ ht => by
      have hl2 : (L2.wipe τ vs).length = σ.length := by rw [wipe_length]; exact ht
      by_cases hb : i < σ.length
      · rw [if_pos hb]
        have : i < (L2.wipe τ vs).length := by rw [hl2]; exact hb
        rw [List.getElem?_eq_getElem this]
        cases e : (L2.wipe τ vs)[i] with
        | none => rfl
        | some x => exact absurd (by rw [List.getElem?_eq_getElem this, e]) (wipe_none (σ := τ) hi x)
      · rw [if_neg hb]
        exact List.getElem?_eq_none (by rw [hl2]; omega)
    rw [q σ' hl, q σ rfl]
  · rw [wipe_at hi, wipe_at hi, h i hi]
end Mi

set_option autoImplicit true
set_option maxRecDepth 512
set_option maxHeartbeats 200000
set_option Elab.async false
set_option linter.all false
set_option maxRecDepth 100000
/-! Mi8: list comprehensions. -/
namespace Mi
open PySem PySem.Spec PyProof.Rows L2

abbrev W0 : WX := fun _ _ _ _ => False
def tC' (B : Bs) (m : Env → M Bool) : TT := tT B W0 m
section
variable {B : Bs} {W : WX} {σ σ0 : L2.St} {al : Al} {S : Store} {H : Hp} {α : Type}
theorem Res.mk_ok {r : Option (Out α × Store)} {d : α} {S' : Store} {k : Al → Store → Hp → α → Prop} (e : r = some (.ok d, S')) (h : ∀ al' H', Xt al S.length H al' S'.length H' → SR B al' S' H' → k al' S' H' d) : Res B W σ al S H r k :=
  ⟨.ok d, S', e, (fun d' q al' H' x y => by cases q; exact h al' H' x y), fun c q => nomatch q⟩
end
theorem noex_ok {α : Type} {m : M α} {S : Store} {r : Out α × Store} (h : noex m S = some r) : ∃ a S', m S = some (.ok a, S') ∧ r = (.ok a, S') := by
  unfold noex at h
  split at h
  · cases h; exact ⟨_, _, by assumption, rfl⟩
  · cases h
theorem bnd_ok {α β : Type} {m : M α} {f : α → M β} {S S' : Store} {b : β} (h : M.bnd m f S = some (.ok b, S')) : ∃ a S1, m S = some (.ok a, S1) ∧ f a S1 = some (.ok b, S') := by
  unfold M.bnd at h
  split at h
  · cases h
  · cases h
  · exact ⟨_, _, by assumption, h⟩
theorem bnd_inv {α β : Type} {m : M α} {f : α → M β} {S S' : Store} {o : Out β} (h : M.bnd m f S = some (o, S')) : (∃ c, m S = some (.ex c, S') ∧ o = .ex c) ∨ ∃ a S1, m S = some (.ok a, S1) ∧ f a S1 = some (o, S') := by
  unfold M.bnd at h
  split at h
  · cases h
  · cases h; exact .inl ⟨_, by assumption, rfl⟩
  · exact .inr ⟨_, _, by assumption, h⟩
theorem compL_ok {g : List (Nat × Cell)} {one : D → M (Option D)} : ∀ {xs acc : List D} {S : Store} {o : Out (List D)} {S' : Store}, compL g one xs acc S = some (o, S') → ∃ ys, o = .ok ys
  | [], acc, S, o, S', h => by
    unfold compL at h
    split at h
    · cases h; exact ⟨_, rfl⟩
    · cases h
  | x :: xs, acc, S, o, S', h => by
    unfold compL at h
    split at h
    · split at h
      · exact compL_ok h
      · split at h
        · exact compL_ok h
        · cases h
      · cases h
    · cases h

/-- one object beside the store changes: what stands in the store stays -/
theorem sqT_upd {K : PySem.W.Frag} {H : Hp} {D : Addr} {vs0 : List V} {o : HO} (hD : H D = some (.lst vs0)) {a : Addr} {vs : List V} (h : SqT K H a vs) : SqT K (upd H D o) a vs := by
  rcases h with (h | ⟨o', h⟩) | h
  · exact .inl (.inl (by rw [upd_ne (fun z => by rw [z, hD] at h; cases h)]; exact h))
  · exact .inl (.inr ⟨o', by rw [upd_ne (fun z => by rw [z, hD] at h; cases h)]; exact h⟩)
  · exact .inr h
theorem scl_upd {K : PySem.W.Frag} {H : Hp} {D : Addr} {vs0 : List V} {o : HO} (hD : H D = some (.lst vs0)) {a : Addr} {vs : List V} (h : ScL K H a vs) : ScL K (upd H D o) a vs := by
  rcases h with ⟨o', h⟩ | h
  · exact .inl ⟨o', by rw [upd_ne (fun z => by rw [z, hD] at h; cases h)]; exact h⟩
  · exact .inr h
mutual
theorem RV.upd {B : Bs} {al : Al} {n : Nat} {H : Hp} {D : Addr} {vs0 : List V} {o : HO} (hD : H D = some (.lst vs0)) (hh : B.hid D) : ∀ {d : Mi.D} {v : V}, RV B al n H d v → RV B al n (L2.upd H D o) d v
  | .non, _, h => h
  | .bl _, _, h => h
  | .int _, _, h => h
  | .str _, _, h => h
  | .tup xs, _, h => by
    simp only [RV] at h ⊢
    obtain ⟨a, vs, e, q, t⟩ := h
    exact ⟨a, vs, e, sqT_upd hD q, RVs.upd hD hh t⟩
  | .fzl xs, _, h => by
    simp only [RV] at h ⊢
    obtain ⟨a, vs, e, q, t⟩ := h
    exact ⟨a, vs, e, ⟨by rw [upd_ne (show a ≠ D from fun z => q.2.2 (z ▸ hh))]; exact q.1, q.2⟩, RVs.upd hD hh t⟩
  | .scr xs, _, h => by
    simp only [RV] at h ⊢
    obtain ⟨a, vs, e, q, t⟩ := h
    exact ⟨a, vs, e, scl_upd hD q, RVs.upd hD hh t⟩
  | .fzd ks ds, _, h => by
    simp only [RV] at h ⊢
    obtain ⟨a, e, h⟩ := h
    refine ⟨a, e, ?_⟩
    rcases h with ⟨kvs, ⟨q, p⟩, k, t⟩ | h
    · refine .inl ⟨kvs, ⟨?_, p⟩, k, RVs.upd hD hh t⟩
      have ne : a ≠ D := fun z => p.2 (z ▸ hh)
      rcases q with q | ⟨o', q⟩
      · exact .inl (by rw [upd_ne ne]; exact q)
      · exact .inr ⟨o', by rw [upd_ne ne]; exact q⟩
    · exact .inr h
  | .fzo c ns ds, _, h => by
    simp only [RV] at h ⊢
    obtain ⟨a, C, dx, fs', e, ⟨q, p⟩, k1, k2, t⟩ := h
    exact ⟨a, C, dx, fs', e, ⟨by rw [upd_ne (show a ≠ D from fun z => p.2 (z ▸ hh))]; exact q, p⟩, k1, k2, RVs.upd hD hh t⟩
  | .loc _, _, h => h
  | .xc _, _, h => by simp only [RV] at h
theorem RVs.upd {B : Bs} {al : Al} {n : Nat} {H : Hp} {D : Addr} {vs0 : List V} {o : HO} (hD : H D = some (.lst vs0)) (hh : B.hid D) : ∀ {ds : List Mi.D} {vs : List V}, RVs B al n H ds vs → RVs B al n (L2.upd H D o) ds vs
  | [], _, h => by simp only [RVs] at h ⊢; exact h
  | d :: ds, _, h => by
    simp only [RVs] at h ⊢
    obtain ⟨v, t, e, h1, h2⟩ := h
    exact ⟨v, t, e, RV.upd hD hh h1, RVs.upd hD hh h2⟩
end
theorem RC.upd {B : Bs} {al : Al} {n : Nat} {H : Hp} {D : Addr} {vs0 : List V} {o : HO} (hD : H D = Option.some (.lst vs0)) (hh : B.hid D) {a : Addr} {c : Cell} (ha : a ≠ D) (h : RC B al n H a c) : RC B al n (L2.upd H D o) a c := by
  cases c with
  | lst xs => obtain ⟨vs, e, q⟩ := h; exact ⟨vs, by rw [upd_ne ha]; exact e, RVs.upd hD hh q⟩
  | dct kvs => obtain ⟨kvs', e, e2, q⟩ := h; exact ⟨kvs', by rw [upd_ne ha]; exact e, e2, RVs.upd hD hh q⟩
  | obj c fs => obtain ⟨C, dx, fs', e, e2, e3, q⟩ := h; exact ⟨C, dx, fs', by rw [upd_ne ha]; exact e, e2, e3, RVs.upd hD hh q⟩
  | set _ => exact False.elim h
theorem SR.upd {B : Bs} {al : Al} {S : Store} {H : Hp} {D : Addr} {vs0 : List V} {o : HO} (r : SR B al S H) (hD : H D = Option.some (.lst vs0)) (hh : B.hid D) : SR B al (S) (L2.upd H D o) :=
  ⟨fun i c e => RC.upd hD hh ((r.hd D hh).2 i (List.getElem?_eq_some_iff.mp e).1) (r.cell i c e), r.inj, fun a h => by
    obtain ⟨⟨o', e⟩, q⟩ := r.hd a h
    refine ⟨?_, q⟩
    by_cases z : a = D
    · subst z; exact ⟨o, upd_same⟩
    · exact ⟨o', by rw [upd_ne z]; exact e⟩⟩
/-- more is hidden: what did not stand -/
theorem hide_cell {B : Bs} {al al' : Al} {n' : Nat} {H H' : Hp} {S : Store} {ϑ : Addr → Prop} (hh : Hid B H ϑ) (r : SR B al S H) (x : Xt al S.length H al' n' H') {a : Addr} {c : Cell} (h : RC B al S.length H a c) (hH : H' a = H a) : RC (B.wh ϑ) al' n' H' a c := by
  cases c with
  | lst xs => obtain ⟨vs, e, q⟩ := h; exact ⟨vs, by rw [hH]; exact e, RVs.monoH hh r x q⟩
  | dct kvs => obtain ⟨kvs', e, e2, q⟩ := h; exact ⟨kvs', by rw [hH]; exact e, e2, RVs.monoH hh r x q⟩
  | obj c fs => obtain ⟨C, dx, fs', e, e2, e3, q⟩ := h; exact ⟨C, dx, fs', by rw [hH]; exact e, e2, e3, RVs.monoH hh r x q⟩
  | set _ => exact False.elim h
/-- a new object beside the store, hidden -/
def wD (ϑ : Addr → Prop) (D : Addr) : Addr → Prop := fun a => ϑ a ∨ a = D
theorem hid_new {B : Bs} {H : Hp} {D : Addr} (hD : H D = none) : Hid B H (wD B.hid D) := fun a h => h.imp id fun e => by rw [e]; exact hD
theorem SR.hide {B : Bs} {al : Al} {S : Store} {H : Hp} {D : Addr} {o : HO} (r : SR B al S H) (hD : H D = none) : SR (B.wh (wD B.hid D)) al S (L2.upd H D o) := by
  have x : Xt al S.length H al S.length (L2.upd H D o) := Xt.side hD
  have ne : ∀ i, i < S.length → al i ≠ D := fun i hi z => by
    obtain ⟨o2, e2, _⟩ := r.some hi
    rw [z, hD] at e2; cases e2
  refine ⟨fun i c e => hide_cell (hid_new hD) r x (r.cell i c e) (upd_ne (ne i (List.getElem?_eq_some_iff.mp e).1)), r.inj, fun a h => ?_⟩
  rcases h with h | rfl
  · obtain ⟨⟨o', e⟩, q⟩ := r.hd a h
    exact ⟨⟨o', by rw [upd_ne (ne_of_none e hD)]; exact e⟩, q⟩
  · exact ⟨⟨o, upd_same⟩, ne⟩
mutual
/-- less is hidden, and a hidden one may be a place -/
theorem RV.bare {B : Bs} {ϑ : Addr → Prop} {al al' : Al} {n n' : Nat} {H : Hp} (hp : ∀ a, NoPl (B.wh ϑ) al n a → NoPl B al' n' a) (ag : ∀ i, i < n → al' i = al i) (le : n ≤ n') : ∀ {d : Mi.D} {v : V}, RV (B.wh ϑ) al n H d v → RV B al' n' H d v
  | .non, _, h => h
  | .bl _, _, h => h
  | .int _, _, h => h
  | .str _, _, h => h
  | .tup xs, _, h => by
    simp only [RV] at h ⊢
    obtain ⟨a, vs, e, q, t⟩ := h
    exact ⟨a, vs, e, q, RVs.bare hp ag le t⟩
  | .fzl xs, _, h => by
    simp only [RV] at h ⊢
    obtain ⟨a, vs, e, q, t⟩ := h
    exact ⟨a, vs, e, ⟨q.1, hp a q.2⟩, RVs.bare hp ag le t⟩
  | .scr xs, _, h => by
    simp only [RV] at h ⊢
    obtain ⟨a, vs, e, q, t⟩ := h
    exact ⟨a, vs, e, q, RVs.bare hp ag le t⟩
  | .fzd ks ds, _, h => by
    simp only [RV] at h ⊢
    obtain ⟨a, e, h⟩ := h
    refine ⟨a, e, ?_⟩
    rcases h with ⟨kvs, ⟨q, p⟩, k, t⟩ | h
    · exact .inl ⟨kvs, ⟨q, hp a p⟩, k, RVs.bare hp ag le t⟩
    · exact .inr h
  | .fzo c ns ds, _, h => by
    simp only [RV] at h ⊢
    obtain ⟨a, C, dx, fs', e, ⟨q, p⟩, k1, k2, t⟩ := h
    exact ⟨a, C, dx, fs', e, ⟨q, hp a p⟩, k1, k2, RVs.bare hp ag le t⟩
  | .loc i, _, h => by
    simp only [RV] at h ⊢
    exact ⟨by rw [ag i h.2]; exact h.1, Nat.lt_of_lt_of_le h.2 le⟩
  | .xc _, _, h => by simp only [RV] at h
theorem RVs.bare {B : Bs} {ϑ : Addr → Prop} {al al' : Al} {n n' : Nat} {H : Hp} (hp : ∀ a, NoPl (B.wh ϑ) al n a → NoPl B al' n' a) (ag : ∀ i, i < n → al' i = al i) (le : n ≤ n') : ∀ {ds : List Mi.D} {vs : List V}, RVs (B.wh ϑ) al n H ds vs → RVs B al' n' H ds vs
  | [], _, h => by simp only [RVs] at h ⊢; exact h
  | d :: ds, _, h => by
    simp only [RVs] at h ⊢
    obtain ⟨v, t, e, h1, h2⟩ := h
    exact ⟨v, t, e, RV.bare hp ag le h1, RVs.bare hp ag le h2⟩
end
theorem RC.bare {B : Bs} {ϑ : Addr → Prop} {al al' : Al} {n n' : Nat} {H : Hp} (hp : ∀ a, NoPl (B.wh ϑ) al n a → NoPl B al' n' a) (ag : ∀ i, i < n → al' i = al i) (le : n ≤ n') {a : Addr} {c : Cell} (h : RC (B.wh ϑ) al n H a c) : RC B al' n' H a c := by
  cases c with
  | lst xs => obtain ⟨vs, e, q⟩ := h; exact ⟨vs, e, RVs.bare hp ag le q⟩
  | dct kvs => obtain ⟨kvs', e, e2, q⟩ := h; exact ⟨kvs', e, e2, RVs.bare hp ag le q⟩
  | obj c fs => obtain ⟨C, dx, fs', e, e2, e3, q⟩ := h; exact ⟨C, dx, fs', e, e2, e3, RVs.bare hp ag le q⟩
  | set _ => exact False.elim h
/-- the hidden one comes to light, beside the store -/
theorem SR.bare {B : Bs} {D : Addr} {al : Al} {S : Store} {H : Hp} (r : SR (B.wh (wD B.hid D)) al S H) : SR B al S H :=
  ⟨fun i c e => RC.bare (fun a p => ⟨p.1, fun h => p.2 (.inl h)⟩) (fun _ _ => rfl) (Nat.le_refl _) (r.cell i c e), r.inj, fun a h => r.hd a (.inl h)⟩
/-- or as a new place -/
theorem SR.adopt {B : Bs} {al : Al} {S : Store} {H : Hp} {D : Addr} {ys : List Mi.D} {vs : List V} (r : SR (B.wh (wD B.hid D)) al S H) (hD : H D = Option.some (.lst vs)) (nh : ¬ B.hid D) (t : RVs (B.wh (wD B.hid D)) al S.length H ys vs) :
    SR B (alN al S.length D) (S ++ [.lst ys]) H := by
  have hn : ∀ j, j < S.length → al j ≠ D := (r.hd D (.inr rfl)).2
  have hp : ∀ a, NoPl (B.wh (wD B.hid D)) al S.length a → NoPl B (alN al S.length D) (S.length + 1) a := fun a p => ⟨fun j hj z => by
    by_cases h : j < S.length
    · rw [alN_lt h] at z; exact p.1 j h z
    · have : j = S.length := by omega
      subst this
      rw [alN_eq] at z
      exact p.2 (.inr z.symm), fun h => p.2 (.inl h)⟩
  have ag : ∀ i, i < S.length → alN al S.length D i = al i := fun i hi => alN_lt hi
  refine ⟨fun i c e => ?_, fun i j hi hj z => ?_, fun a h => ?_⟩
  · rw [List.length_append, List.length_singleton]
    by_cases hi : i < S.length
    · rw [List.getElem?_append_left hi] at e
      rw [alN_lt hi]
      exact RC.bare hp ag (Nat.le_succ _) (r.cell i c e)
    · have h2 : i < (S ++ [Cell.lst ys]).length := (List.getElem?_eq_some_iff.mp e).1
      rw [List.length_append, List.length_singleton] at h2
      have : i = S.length := by omega
      subst this
      rw [List.getElem?_append_right (Nat.le_refl _)] at e
      simp at e
      subst e
      rw [alN_eq]
      exact ⟨vs, hD, RVs.bare hp ag (Nat.le_succ _) t⟩
  · rw [List.length_append, List.length_singleton] at hi hj
    by_cases h1 : i < S.length <;> by_cases h2 : j < S.length
    · rw [alN_lt h1, alN_lt h2] at z; exact r.inj i j h1 h2 z
    · have : j = S.length := by omega
      subst this
      rw [alN_lt h1, alN_eq] at z
      exact absurd z (hn i h1)
    · have : i = S.length := by omega
      subst this
      rw [alN_lt h2, alN_eq] at z
      exact absurd z.symm (hn j h2)
    · omega
  · obtain ⟨q1, q2⟩ := r.hd a (.inl h)
    refine ⟨q1, fun i hi z => ?_⟩
    rw [List.length_append, List.length_singleton] at hi
    by_cases h1 : i < S.length
    · rw [alN_lt h1] at z; exact q2 i h1 z
    · have : i = S.length := by omega
      subst this
      rw [alN_eq] at z
      exact nh (z ▸ h)
theorem Xt.upd {al al' : Al} {n n' : Nat} {H H' : Hp} {D : Addr} {o : HO} (x : Xt al n H al' n' H') (hD : H D = none) : Xt al n H al' n' (L2.upd H' D o) :=
  ⟨x.ag, x.le, fun b u e hb => by rw [upd_ne (ne_of_none e hD)]; exact x.fr b u e hb, x.nw⟩
/-- a turn of a comprehension -/
def lcOne (t : Tg) (vs : List Nat) (mc : Env → M Bool) (me : Env → M D) (ρ : Env) : D → M (Option D) :=
  fun x => M.bnd (M.of (bindT t x (wipeE ρ vs))) fun ρ' => noex (M.bnd (mc ρ') fun c => if c then M.bnd (me ρ') fun y => M.ret (some y) else M.ret none)
section
variable {X : Cx} {W : WX} {tg iter elt : Expr} {ifs : List Expr} {scope : Scope} {own : List (Str × Nat)} {pos : Pos} {t : Tg} {mi : Env → M Src} {mc : Env → M Bool} {me : Env → M D}
/-- the reading of a comprehension -/
theorem lc_read {z : Bool} {σ : L2.St} {H : Hp} {Q : VK} {vs : List Nat} (hv : ∀ j, j ∈ tgV t → j ∈ vs)
    (h : tE (bs X ϑ) W (fun ρ => M.bnd (mi ρ) fun src => lcG z (compL src.2 (lcOne t vs mc me ρ) src.1 [])) σ H Q) :
    tLc (tI (bs X ϑ) W mi) (gTg X.K t) (fun σ H Q => ∃ ϑ', tT (bs X ϑ') W0 mc σ H Q) (fun σ H Q => ∃ ϑ', tE (bs X ϑ') W0 me σ H Q) vs σ H Q := by
  obtain ⟨al, ρ, S, sr, re, R⟩ := h
  refine ⟨al, ρ, S, sr, re, R.bnd.imp fun al1 S1 H1 src x1 sr1 _ R1 => ?_⟩
  have re1 := re.mono sr x1
  obtain ⟨o, Sf, eq, h1, h2⟩ := R1
  obtain ⟨items, g⟩ := src
  simp only at eq h1
  have key0 : ∃ ys S2, compL g (lcOne t vs mc me ρ) items [] S1 = some (.ok ys, S2) ∧ (if z then o = .ok (.fzl ys) ∧ Sf = S2 else o = .ok (.loc S2.length) ∧ Sf = S2 ++ [.lst ys]) := by
    unfold lcG at eq
    split at eq
    · cases eq
    · rename_i hc
      obtain ⟨ys, z⟩ := compL_ok hc
      cases z
    · rename_i ys S2 hc
      refine ⟨ys, S2, hc, ?_⟩
      cases z <;> (simp only [Bool.false_eq_true, if_false, if_true] at eq ⊢; cases eq; exact ⟨rfl, rfl⟩)
  obtain ⟨ys, S2, hc, ho⟩ := key0
  clear eq
  have st0 : stays S1 g = true := by
    cases items <;> (unfold compL at hc; split at hc <;> first | assumption | (cases hc; done))
  refine ⟨st0, fun J SJ D hD => ?_⟩
  have nh : ¬ ϑ D := fun h => by
    obtain ⟨⟨o, e⟩, _⟩ := sr1.hd D h
    rw [hD] at e; cases e
  have hid : Hid (bs X ϑ) H1 (wD ϑ D) := hid_new (B := bs X ϑ) hD
  refine ⟨fun i m Hc => m = items.length - i ∧ i ≤ items.length ∧ ∃ al' S' acc ws, Xt al1 S1.length H1 al' S'.length Hc ∧ SR (bs X (wD ϑ D)) al' S' Hc ∧ Hc D = some (.lst ws) ∧ RVs (bs X (wD ϑ D)) al' S'.length Hc acc ws ∧
    compL g (lcOne t vs mc me ρ) (items.drop i) acc S' = some (.ok ys, S2),
    ⟨items.length, by simp, Nat.zero_le _, al1, S1, [], [], (Xt.side hD), SR.hide sr1 hD, upd_same, RVs.nil, by simpa using hc⟩, ?_⟩
  rintro i m Hc ⟨rfl, hi, al', S', acc, ws, x, sr', hDc, ta, ec⟩
  have nD' : ∀ j, j < S'.length → al' j ≠ D := (sr'.hd D (.inr rfl)).2
  by_cases hlt : i < items.length
  · refine .inr ?_
    obtain ⟨it, hit⟩ : ∃ it, items[i]? = some it := ⟨items[i], by simp [hlt]⟩
    have ed : items.drop i = it :: items.drop (i + 1) := by
      rw [List.drop_eq_getElem_cons hlt]
      congr 1
      have := List.getElem?_eq_getElem hlt
      rw [this] at hit
      exact Option.some.inj hit
    rw [ed] at ec
    unfold compL at ec
    split at ec
    case isFalse => cases ec
    rename_i hst
    refine ⟨SJ.go _ hid al' S' Hc i x sr' hst hlt, _, fun H' q => ⟨items.length - (i + 1), by omega, q⟩, fun v H' y => ?_⟩
    obtain ⟨xy, sry, rvy⟩ := SJ.yld _ hid al' S' Hc i it v H' x sr' hst hit y
    have sry : SR (bs X (wD ϑ D)) al' S' H' := sry
    have rvy : RV (bs X (wD ϑ D)) al' S'.length H' it v := rvy
    have hDy : H' D = some (.lst ws) := xy.fr D _ hDc nD'
    have xH : Xt al1 S1.length H1 al' S'.length H' := Xt.trans sr' x xy
    have re' : RE (bs X (wD ϑ D)) al' S'.length H' ρ σ := ⟨re1.1, fun j d e => let ⟨v, e1, h1⟩ := re1.2 j d e; ⟨v, e1, RV.monoH hid sr1 xH h1⟩⟩
    have taH := ta.mono sr' xy
    -- the element's run
    have key : ∃ ρ' r S3, bindT t it (wipeE ρ vs) = some ρ' ∧ M.bnd (mc ρ') (fun c => if c then M.bnd (me ρ') fun y => M.ret (some y) else M.ret none) S' = some (.ok r, S3) ∧
        ((r = none ∧ compL g (lcOne t vs mc me ρ) (items.drop (i + 1)) acc S3 = some (.ok ys, S2)) ∨
          ∃ y, r = some y ∧ acc.length < szl ∧ compL g (lcOne t vs mc me ρ) (items.drop (i + 1)) (acc ++ [y]) S3 = some (.ok ys, S2)) := by
      split at ec
      · rename_i S3 ho
        obtain ⟨ρ', S4, e1, e2⟩ := bnd_ok ho
        unfold M.of at e1
        split at e1
        · cases e1
        · rename_i ρ1 hb
          cases e1
          obtain ⟨a, S5, e3, e4⟩ := noex_ok e2
          cases e4
          exact ⟨_, _, _, hb, e3, .inl ⟨rfl, ec⟩⟩
      · rename_i y S3 ho
        split at ec
        case isFalse => cases ec
        rename_i hz
        obtain ⟨ρ', S4, e1, e2⟩ := bnd_ok ho
        unfold M.of at e1
        split at e1
        · cases e1
        · rename_i ρ1 hb
          cases e1
          obtain ⟨a, S5, e3, e4⟩ := noex_ok e2
          cases e4
          exact ⟨_, _, _, hb, e3, .inr ⟨_, rfl, hz, ec⟩⟩
      · cases ec
    obtain ⟨ρ', r, S3, hb, e3, ek⟩ := key
    refine bindT_ok hb (re'.wipe vs) rvy fun σ2 re2 k2 => ?_
    have hl2 : σ2.length = (L2.wipe σ vs).length := by rw [← re2.1, ← (re'.wipe vs).1]; exact bindT_len hb
    refine ⟨?_, ?_⟩
    · have e1 : L2.wipe σ2 vs = L2.wipe (L2.wipe σ vs) vs := wipe_same hl2 fun j hj => k2 j fun z => hj (hv j z)
      rw [e1]
      exact wipe_same (by rw [wipe_length]) fun j hj => wipe_at hj
    · obtain ⟨c, S4, e4, e5⟩ := bnd_ok e3
      refine ⟨wD ϑ D, al', ρ', S', sry, re2, Res.mk_ok e4 fun al4 H4 x4 sr4 => ?_⟩
      have xH4 : Xt al1 S1.length H1 al4 S4.length H4 := Xt.trans sry xH x4
      have hD4 : H4 D = some (.lst ws) := x4.fr D _ hDy nD'
      have ta4 := taH.mono sry x4
      cases c with
      | false =>
        simp only [Bool.false_eq_true, if_false] at e5 ⊢
        cases e5
        rcases ek with ⟨_, ek⟩ | ⟨y, z, _⟩
        · exact ⟨(by trivial), hlt, al4, _, acc, ws, xH4, sr4, hD4, ta4, ek⟩
        · cases z
      | true =>
        simp only [if_true] at e5 ⊢
        obtain ⟨y, S5, e6, e7⟩ := bnd_ok e5
        cases e7
        rcases ek with ⟨z, _⟩ | ⟨y', z, ek⟩
        · cases z
        cases z
        refine ⟨wD ϑ D, al4, ρ', S4, sr4, re2.mono sry x4, Res.mk_ok e6 fun al5 H5 x5 sr5 u ru => ?_⟩
        have xH5 : Xt al1 S1.length H1 al5 S3.length H5 := Xt.trans sr4 xH4 x5
        have hD5 : H5 D = some (.lst ws) := x5.fr D _ hD4 (sr4.hd D (.inr rfl)).2
        have ta5 := ta4.mono sr4 x5
        refine ⟨ws, hD5, by rw [← ta5.length]; exact ek.1, (by trivial), hlt, al5, _, acc ++ [y], ws ++ [u], Xt.upd xH5 hD, SR.upd sr5 hD5 (show wD ϑ D D from .inr rfl), upd_same, RVs.upd (B := bs X (wD ϑ D)) hD5 (show wD ϑ D D from .inr rfl) (ta5.append (.one ru)), ek.2⟩
  · refine .inl ?_
    have hie : i = items.length := by omega
    subst hie
    rw [List.drop_length] at ec
    unfold compL at ec
    split at ec
    case isFalse => cases ec
    rename_i hst
    obtain ⟨e8, e9⟩ : Out.ok acc = Out.ok ys ∧ S' = S2 := by cases ec; exact ⟨rfl, rfl⟩
    subst e9
    cases e8
    refine ⟨SJ.stop _ hid al' S' Hc x sr' hst, ?_⟩
    cases z with
    | true =>
      simp only [if_true] at ho
      obtain ⟨rfl, rfl⟩ := ho
      refine h1 _ rfl al' Hc x (SR.bare (B := bs X ϑ) sr') (.ref D) ?_
      rw [rv_fzl]
      exact ⟨D, ws, rfl, ⟨hDc, nD', nh⟩, RVs.bare (B := bs X ϑ) (fun a p => ⟨p.1, fun h => p.2 (.inl h)⟩) (fun _ _ => rfl) (Nat.le_refl _) ta⟩
    | false =>
      simp only [Bool.false_eq_true, if_false] at ho
      obtain ⟨rfl, rfl⟩ := ho
      refine h1 _ rfl (alN al' S'.length D) Hc ?_ (SR.adopt (B := bs X ϑ) sr' hDc nh ta) (.ref D) ?_
      · rw [List.length_append, List.length_singleton]
        refine ⟨fun j hj => by rw [alN_lt (Nat.lt_of_lt_of_le hj x.le)]; exact x.ag j hj, Nat.le_succ_of_le x.le, x.fr, fun j hj1 hj2 => ?_⟩
        by_cases hj : j < S'.length
        · rw [alN_lt hj]; exact x.nw j hj1 hj
        · have : j = S'.length := by omega
          subst this
          rw [alN_eq]; exact hD
      · rw [rv_loc, List.length_append, List.length_singleton]
        exact ⟨by rw [alN_eq], Nat.lt_succ_self _⟩
end
end Mi

set_option autoImplicit true
set_option maxRecDepth 512
set_option maxHeartbeats 200000
set_option Elab.async false
set_option autoImplicit true
set_option linter.all false
/-! MiT: errors without context are errors; a def's promise in the one world gives it in the other. -/
namespace Mi
open PySem PySem.Spec PyProof.Rows L2
theorem cx_n {P : Program} {w : World} {outer : List PySem.Env} {H : Hp} {s : Shared} {E : XK} {u : Value} {s' : Shared} (c : L2N.CX P w outer H s E u s') : L2.CX P w outer H s E u s' := by
  obtain ⟨a, B, H', cls, d, e, fl, r⟩ := c
  exact ⟨a, B, H', cls, d, e, L2H.flyingZ_imp (fun o z => z.zc) fl, r⟩
theorem passAt_n {X : Cx} {W : WX} (tk : L2.Takes X W) (σ : L2.St) : PassesAt (L2N.CX X.prog X.w) X σ (WE W σ) := fun pins s H e s' I c => passAt tk σ pins s H e s' I (cx_n c)
/-- W's errors may have a context (u) or have none -/
def Tk (u : Bool) (X : Cx) (W : WX) : Prop := match u with
  | true => L2.Takes X W
  | false => L2N.Takes X W
def CXm (u : Bool) (P : Program) (w : World) : CXT := match u with
  | true => L2.CX P w
  | false => L2N.CX P w
theorem passU {X : Cx} {W : WX} : ∀ {u v : Bool}, (v = true → u = true) → Tk u X W → ∀ σ, PassesAt (CXm v X.prog X.w) X σ (WE W σ)
  | true, true, _, tk, σ => passAt tk σ
  | true, false, _, tk, σ => passAt_n tk σ
  | false, false, _, tk, σ => L2N.passAt tk σ
  | false, true, h, _, _ => by cases h rfl
theorem tk0 {X : Cx} : ∀ u : Bool, Tk u X (fun _ _ _ _ => False)
  | true => fun _ _ x => by
    obtain ⟨_, _, _, _, _, _, _, _, _, _, _, _, _, _, _, _, z⟩ := x
    exact z.elim
  | false => fun _ _ x => by
    obtain ⟨_, _, _, _, _, _, _, _, _, _, _, _, _, _, _, _, z⟩ := x
    exact z.elim
end Mi

set_option autoImplicit true
set_option maxRecDepth 512
set_option maxHeartbeats 200000
set_option Elab.async false
set_option linter.all false
set_option maxRecDepth 100000
/-! Mi9: which program text an expression of Mi1 stands for, and that it does what it says. -/
namespace Mi
open PySem PySem.Spec PyProof.Rows L2

structure Pk where
  fs : List String
  bis : List String
  gls : List String
  xs : List String
  cs : List String
  u : Bool := false
  /-- the defs whose errors bear no context -/
  f0 : List String := []
  /-- may errors be raised in a suite here -/
  tp : Bool := false
/-- where errors bear no context -/
def Pk.lo (pk : Pk) : Pk := { pk with u := false, fs := pk.f0, tp := false }
/-- within a try -/
def Pk.nt (pk : Pk) : Pk := { pk with tp := false }

def visB (sc : Scope) (x : Str) : Bool := match sc.names.lookup x with
  | some .local => true
  | some .cell => true
  | some .free => true
  | _ => false
def glB (sc : Scope) (x : Str) : Bool := decide (sc.names.lookup x = some .globalImplicit) && !(x == ("__debug__" : Str)) && !decide (x = ("__name__" : Str))
def locB (sc : Scope) (fnm : Str → Bool) (x : Str) : Bool := match sc.names.lookup x with
  | some .local => true
  | some .cell => fnm x
  | _ => false
def isSlice : Expr → Bool
  | .Slice _ _ _ _ => true
  | _ => false
def eqN (a b : Expr) : Bool := match a, b with
  | .Constant .none _ _, _ => true
  | _, _ => true
/-- the own slots of a comprehension -/
def ownOf (N : List Str) (scope : Scope) : List (Str × Nat) := scope.names.filterMap fun y => match y.2 with
  | .local => (N.idxOf? y.1).map fun i => (y.1, i)
  | .cell => (N.idxOf? y.1).map fun i => (y.1, i)
  | _ => none

def chkTg (N : List Str) (sc : Scope) (fnm : Str → Bool) : Nat → Expr → Tg → Bool
  | 0, _, _ => false
  | n + 1, e, t => match e, t with
    | .Name x _, .nm i => decide (N[i]? = some x) && locB sc fnm x
    | .Tuple es _ _, .tup ts => decide (es.length = ts.length) && es.all noStar && (es.zip ts).all fun p => chkTg N sc fnm n p.1 p.2
    | _, _ => false

def notIf : Expr → Bool
  | .IfExp _ _ _ _ => false
  | _ => true
def solo : Expr → Option Expr
  | .BoolOp _ [a] _ => some a
  | _ => none
def zipAll (p : Expr → Ex → Bool) : List Expr → List Ex → Bool
  | [], [] => true
  | e :: es, i :: is => noStar e && p e i && zipAll p es is
  | _, _ => false
/-- what is walked, by a check of expressions -/
def chkIt (pk : Pk) (p : Expr → Ex → Bool) (sc : Scope) (iter : Expr) (k : Nat) (xs : List Ex) : Bool := match k with
  | 0 => (match iter with | .Set _ _ _ => false | _ => (match xs with | [x] => p iter x | _ => false))
  | 1 => (match iter with
    | .Call (.Name x _) [e] [] _ => decide (x = nm "range") && glB sc x && pk.bis.contains "range" && zipAll p [e] xs
    | _ => false)
  | 2 => (match iter with
    | .Call (.Name x _) [e, f] [] _ => decide (x = nm "range") && glB sc x && pk.bis.contains "range" && zipAll p [e, f] xs
    | _ => false)
  | _ => false
def chkE (pk : Pk) (N : List Str) : Nat → Scope → Expr → Ex → Bool
  | 0, _, _, _ => false
  | n + 1, sc, e, ir => match solo e with
    | some a => notIf a && chkE pk N n sc a ir
    | none => match ir with
      | .hole => true
      | .non => (match e with | .Constant .none _ _ => true | _ => false)
      | .bl b' => (match e with | .Constant (.bool b) _ _ => decide (b = b') | _ => false)
      | .int j => (match e with | .Constant (.int i) _ _ => decide (i = j) | _ => false)
      | .str s => (match e with | .Constant (.str x) _ _ => decide (x = txS s) && decide (s.length ≤ 1000) && s.all (fun c => decide (c < 1114112)) | _ => false)
      | .var i => (match e with | .Name x _ => decide (N[i]? = some x) && visB sc x && !(x == ("__debug__" : Str)) && !(x == ("__classdict__" : Str)) | _ => false)
      | .glob g => (match e with | .Name x _ => decide (x = nm g) && glB sc x && pk.gls.contains g | _ => false)
      | .op o' a' b' => (match e with | .BinOp a o b _ => decide (o = opN o') && decide (o' ≠ .band) && chkE pk N n sc a a' && chkE pk N n sc b b' | _ => false)
      | .neg a' => (match e with | .UnaryOp .USub a _ => chkE pk N n sc a a' | _ => false)
      | .not a' => (match e with | .UnaryOp .Not a _ => notIf a && chkE pk N n sc a a' | _ => false)
      | .cmp c' a' b' => (match e with | .Compare a [c] [b] _ => decide (c = cpN c') && !behindInMarks c b && chkE pk N n sc a a' && chkE pk N n sc b b' | _ => false)
      | .chain c' d' a' b' f' => (match e with
          | .Compare a [c, d] [b, f] _ => decide (c = cpN c') && decide (d = cpN d') && !lastMarks [c, d] [b, f] && chkE pk N n sc a a' && chkE pk N n sc b b' && chkE pk N n sc f f'
          | _ => false)
      | .and a' r' => (match e with | .BoolOp .And (a :: b :: r) p => notIf a && chkE pk N n sc a a' && chkE pk N n sc (.BoolOp .And (b :: r) p) r' | _ => false)
      | .or a' r' => (match e with | .BoolOp .Or (a :: b :: r) p => notIf a && chkE pk N n sc a a' && chkE pk N n sc (.BoolOp .Or (b :: r) p) r' | _ => false)
      | .ite c' a' b' => (match e with | .IfExp c a b _ => notIf c && chkE pk N n sc c c' && chkE pk N n sc a a' && chkE pk N n sc b b' | _ => false)
      | .tup es' => (match e with | .Tuple es _ _ => decide (es'.length ≤ 1000) && zipAll (chkE pk N n sc) es es' | _ => false)
      | .lst es' => (match e with | .List es _ => decide (es'.length ≤ 1000) && zipAll (chkE pk N n sc) es es' | _ => false)
      | .flst es' => (match e with | .List es _ => decide (es'.length ≤ 1000) && zipAll (chkE pk N n sc) es es' | _ => false)
      | .dct ks' _ => (match e, ks' with | .Dict [] [] _, [] => true | _, _ => false)
      | .lenset a' => (match e with
          | .Call (.Name x _) [.Call (.Name y _) [a] [] _] [] _ => decide (x = nm "len") && glB sc x && pk.bis.contains "len" && decide (y = nm "set") && glB sc y && pk.bis.contains "set" && noStar a && chkE pk N n sc a a'
          | _ => false)
      | .fslice a' lo' hi' => (match e with
          | .Subscript a (.Slice lo hi none _) _ => chkE pk N n sc a a' &&
            (match lo, lo' with | none, none => true | some l, some l' => chkE pk N n sc l l' | _, _ => false) &&
            (match hi, hi' with | none, none => true | some l, some l' => chkE pk N n sc l l' | _, _ => false)
          | _ => false)
      | .slice a' lo' hi' => (match e with
          | .Subscript a (.Slice lo hi none _) _ => chkE pk N n sc a a' &&
            (match lo, lo' with | none, none => true | some l, some l' => chkE pk N n sc l l' | _, _ => false) &&
            (match hi, hi' with | none, none => true | some l, some l' => chkE pk N n sc l l' | _, _ => false)
          | _ => false)
      | .ix a' b' => (match e with | .Subscript a b _ => !isSlice b && chkE pk N n sc a a' && chkE pk N n sc b b' | _ => false)
      | .call g es' => (match e with | .Call (.Name x _) (a :: es) [] _ => decide (x = nm g) && glB sc x && pk.fs.contains g && zipAll (chkE pk N n sc) (a :: es) es' | _ => false)
      | .bi b es' => (match e, biN b with
          | .Call (.Name x _) (a :: es) [] _, some (s, _) => decide (x = nm s) && glB sc x && pk.bis.contains s && zipAll (chkE pk N n sc) (a :: es) es'
          | _, _ => false)
      | .isi e' ts => (match e, ts with
          | .Call (.Name x _) [a, .Name y _] [] _, [t] => (match tyN t with
            | some T => decide (x = nm "isinstance") && glB sc x && pk.bis.contains "isinstance" && decide (y = nm T) && glB sc y && pk.bis.contains T && noStar a && chkE pk N n sc a e'
            | none => false)
          | _, _ => false)
      | .mt m o' es' => (match e, m with
          | .Call (.Attribute o x ap) [a] [] cp, .append => decide (x = nm "append") && (ap.endLine == cp.line) && abOk o && chkE pk N n sc o o' && zipAll (chkE pk N n sc) [a] es'
          | .Call (.Attribute o x ap) [a] [] cp, .extend => decide (x = nm "extend") && (ap.endLine == cp.line) && abOk o && chkE pk N n sc o o' && zipAll (chkE pk N n sc) [a] es'
          | .Call (.Attribute o x ap) [a] [] cp, .popAt => decide (x = nm "pop") && (ap.endLine == cp.line) && abOk o && chkE pk N n sc o o' && zipAll (chkE pk N n sc) [a] es'
          | .Call (.Attribute o x ap) [a] [] cp, .get1 => decide (x = nm "get") && (ap.endLine == cp.line) && abOk o && chkE pk N n sc o o' && zipAll (chkE pk N n sc) [a] es'
          | .Call (.Attribute o x ap) [a, b] [] cp, .setdefault => decide (x = nm "setdefault") && (ap.endLine == cp.line) && abOk o && chkE pk N n sc o o' && zipAll (chkE pk N n sc) [a, b] es'
          | .Call (.Attribute o x ap) [] [] cp, .pop => decide (x = nm "pop") && (ap.endLine == cp.line) && abOk o && chkE pk N n sc o o' && es'.isEmpty
          | .Call (.Attribute o x ap) [] [] cp, .upper => decide (x = nm "upper") && (ap.endLine == cp.line) && abOk o && chkE pk N n sc o o' && es'.isEmpty
          | _, _ => false)
      | .fld o' f => (match e with | .Attribute o x _ => decide (x = nm f) && abOk o && chkE pk N n sc o o' | _ => false)
      | .meth o' m es' => (match e with
          | .Call (.Attribute o x ap) es [] cp => decide (x = nm m) && abOk o && (ap.endLine == cp.line) && decide (es.length < 30) && chkE pk N n sc o o' && zipAll (chkE pk N n sc) es es'
          | _ => false)
      | .new c es' => (match e with | .Call (.Name x _) es [] _ => decide (x = nm c) && glB sc x && pk.cs.contains c && zipAll (chkE pk N n sc) es es' | _ => false)
      | .lc _ elt' t k xs cs vs => (match e with
          | .ListComp elt [⟨tg, iter, ifs, 0⟩] scope _ => blkC N sc scope (ownOf N scope) && decide ((ownOf N scope).map (·.2) = vs) && (tgV t).all (fun j => vs.contains j) && chkTg N (relS scope sc) (fun x => scope.names.lookup x == some .cell) n tg t &&
            chkIt pk (chkE pk N n sc) sc iter k xs &&
            (match ifs, cs with
              | [], [] => true
              | [c], [c'] => notIf c && chkE pk N n (relS scope sc) c c'
              | _, _ => false) &&
            chkE pk N n (relS scope sc) elt elt'
          | _ => false)
      | _ => false
/-! ### what the context gives -/
def spF (B : Bs) (m : List D → M D) : Sp := fun vs H Q E => ∃ al S ds, SR B al S H ∧ RVs B al S.length H ds vs ∧
  Res B (fun c d _ H => E c d H) [] al S H (m ds S) (fun al' S' H' d => ∀ v, RV B al' S'.length H' d v → Q v H')
/-- a def's promise, where it may be called -/
def FnM (pk : Pk) (B : Bs) (k : Nat) (a : Addr) (fd : FuncData) (ps : List Str) (sp : Sp) : Prop := ∃ v, (v = true → pk.u = true) ∧ FnOk B.P B.w B.K B.mg B.base (CXm v B.P B.w) k a fd ps sp
/-- a class of errors of the program's own -/
def XcAt (K : PySem.W.Frag) (mg : Str → Option Value) (c : String) : Prop := ∃ (C : Addr) (bmB : List Value) (Bn newId initId : String), ExcBaseFacts Bn newId initId bmB ∧ PySem.W.excIn K C bmB newId = true ∧ mg (nm c) = some (.ref C) ∧ PySem.W.keepIn K (.ref C) = true ∧
  PySem.W.subIn K (.ref C) (.type "BaseException") = some true ∧ PySem.W.typeIn K (.ref C) = some (.type "type")
/-- is a class of errors under another, or the same -/
def SubAt (K : PySem.W.Frag) (mg : Str → Option Value) (c h : String) (b : Bool) : Prop := ∃ C D, mg (nm c) = some (.ref C) ∧ mg (nm h) = some (.ref D) ∧ PySem.W.exmOne K (.ref C) (.ref D) = some b ∧ PySem.W.kitOne K (.ref C) (.ref D) = some b ∧ ExcC K C
structure Lk (B : Bs) (cl : Cl) (k : Nat) (pk : Pk) : Prop where
  fns : ∀ f, pk.fs.contains f = true → ∃ a fd ps, B.mg (nm f) = some (.ref a) ∧ PySem.W.keepIn B.K (.ref a) = true ∧ Binds B.K fd ps [] ∧ FnM pk B k a fd ps (spF B (cl.fn f))
  bis : ∀ x, pk.bis.contains x = true → B.mg (nm x) = none
  gl : ∀ x d, pk.gls.contains x = true → cl.gl x = some d → ∃ u v, B.mg (nm x) = some u ∧ RelV v u ∧ ∀ al n H, RV B al n H d v
  sb : ∀ c h b, cl.sub c h = some b → SubAt B.K B.mg c h b
  xs : ∀ c, pk.xs.contains c = true → XcAt B.K B.mg c
  fl : ∀ c f, cl.fl c f = true → ∃ C, B.mg (nm c) = some (.ref C) ∧ Cls B.K C ∧ NoAttr B.K C (nm f)
  fi : ∀ c f g, cl.fl c f = true → cl.fl c g = true → nm f = nm g → f = g
  mt : ∀ c m, cl.mo c m = true → ∃ C a fd ps, B.mg (nm c) = some (.ref C) ∧ Cls B.K C ∧ Meth B.K C (nm m) a ∧ Binds B.K fd ps [] ∧ FnM pk B k a fd ps (spF B (cl.mt c m))
  mn : ∀ c m f, cl.mo c m = true → cl.fl c f = true → nm f ≠ nm m
  mak : ∀ c, pk.cs.contains c = true → ∃ C a fd ps k', k = k' + 1 ∧ B.mg (nm c) = some (.ref C) ∧ Mk B.K C a ∧ Binds B.K fd ps [] ∧ FnM pk B k' a fd ps (spF B (cl.made c))
structure XOk (pk : Pk) (N : List Str) (cl : Cl) (X : Cx) : Prop where
  hN : X.N = N
  nd : N.Nodup
  calm : X.calm = true
  rm : ∃ k, Room k X.A ∧ ∀ ϑ, Lk (bs X ϑ) cl k pk ∧ Lk (bs X ϑ) cl k pk.lo
theorem XOk.room {pk : Pk} {N : List Str} {cl : Cl} {X : Cx} (h : XOk pk N cl X) (ϑ : Addr → Prop) : ∃ k, Room k X.A ∧ Lk (bs X ϑ) cl k pk := let ⟨k, r, L⟩ := h.rm; ⟨k, r, (L ϑ).1⟩
theorem Lk.nt {B : Bs} {cl : Cl} {k : Nat} {pk : Pk} (h : Lk B cl k pk) : Lk B cl k pk.nt := ⟨h.fns, h.bis, h.gl, h.sb, h.xs, h.fl, h.fi, h.mt, h.mn, h.mak⟩
theorem XOk.nt {pk : Pk} {N : List Str} {cl : Cl} {X : Cx} (h : XOk pk N cl X) : XOk pk.nt N cl X := ⟨h.hN, h.nd, h.calm, let ⟨k, r, L⟩ := h.rm; ⟨k, r, fun ϑ => ⟨(L ϑ).1.nt, (L ϑ).2⟩⟩⟩
theorem XOk.lo {pk : Pk} {N : List Str} {cl : Cl} {X : Cx} (h : XOk pk N cl X) : XOk pk.lo N cl X := ⟨h.hN, h.nd, h.calm, let ⟨k, r, L⟩ := h.rm; ⟨k, r, fun ϑ => ⟨(L ϑ).2, (L ϑ).2⟩⟩⟩
theorem XOk.blk {pk : Pk} {N : List Str} {cl : Cl} {X : Cx} (h : XOk pk N cl X) (s : Shared) (H : Hp) (scope : Scope) (cenv : PySem.Env) (fp : List Addr) : XOk pk N cl (X.blk s H scope cenv fp) :=
  ⟨h.hN, h.nd, h.calm, h.rm⟩
section
variable {pk : Pk} {N : List Str} {cl : Cl} {X : Cx}
theorem XOk.units (h : XOk pk N cl X) : X.A.units + 65 < cLine := by
  obtain ⟨k, r, _⟩ := h.rm
  have := r.un
  omega
theorem visB_ok {sc : Scope} {x : Str} (h : visB sc x = true) : Vis sc x := by
  unfold visB at h
  split at h
  · exact .inl (by assumption)
  · exact .inr (.inl (by assumption))
  · exact .inr (.inr (by assumption))
  · cases h
theorem glB_ok {x : Str} (h : glB X.env.scope x = true) : Gl X x ∧ (x == ("__debug__" : Str)) = false ∧ x ≠ "__name__" := by
  unfold glB at h
  simp only [Bool.and_eq_true, decide_eq_true_eq, Bool.not_eq_true'] at h
  exact ⟨h.1.1, h.1.2, of_decide_eq_false h.2⟩
theorem locB_ok {sc : Scope} {fnm : Str → Bool} {x : Str} (h : locB sc fnm x = true) : Loc sc x ∧ (fnm x = true ∨ sc.names.lookup x = some .local) := by
  unfold locB at h
  split at h
  · exact ⟨.inl (by assumption), .inr (by assumption)⟩
  · exact ⟨.inr (by assumption), .inl h⟩
  · cases h
theorem assignEach_len {env : PySem.Env} : ∀ {es : List Expr}, es.all noStar = true → (assignEach es env).length = es.length ∧ (assignEach es env).findIdx? (·.1) = none ∧ True
  | [], _ => ⟨rfl, rfl, trivial⟩
  | e :: es, h => by
    rw [List.all_cons, Bool.and_eq_true] at h
    obtain ⟨h1, h2, _⟩ := assignEach_len (env := env) h.2
    have e1 : assignEach (e :: es) env = (false, assign e env) :: assignEach es env := by
      cases e <;> first | rfl | (exfalso; simp [noStar] at h)
    rw [e1]
    refine ⟨by simp [h1], ?_, trivial⟩
    rw [List.findIdx?_cons]
    simp [h2]
theorem pgs_ok {ts : List Tg} : ∀ {es : List Expr} {ts : List Tg}, es.length = ts.length → es.all noStar = true → (∀ p ∈ es.zip ts, PG X p.1 (gTg X.K p.2)) → PGs X es (gTgs X.K ts)
  | [], [], _, _, _ => by simp only [gTgs]; exact pgs_nil
  | e :: es, t :: ts, hl, hs, h => by
    simp only [gTgs]
    rw [List.all_cons, Bool.and_eq_true] at hs
    refine pgs_cons (h (e, t) (by simp)) (pgs_ok (ts := ts) (by simpa using hl) hs.2 fun p hp => h p (by simp [hp])) ?_
    cases e <;> first | rfl | (exfalso; simp [noStar] at hs)
  | [], _ :: _, hl, _, _ => by simp at hl
  | _ :: _, [], hl, _, _ => by simp at hl
theorem pg_ok {fnm : Str → Bool} (h : XOk pk N cl X) (hf : ∀ x, fnm x = true → X.fn x = true) : ∀ {n : Nat} {e : Expr} {t : Tg}, chkTg N X.env.scope fnm n e t = true → PG X e (gTg X.K t)
  | 0, _, _, q => by simp [chkTg] at q
  | n + 1, e, t, q => by
    unfold chkTg at q
    split at q
    · rename_i x _ i
      simp only [Bool.and_eq_true, decide_eq_true_eq] at q
      obtain ⟨h1, h2⟩ := locB_ok q.2
      simp only [gTg]
      exact pg_name (by rw [h.hN]; exact h.nd) (by rw [h.hN]; exact q.1) h1 (h2.imp (hf x) id)
    · rename_i es _ _ ts
      simp only [Bool.and_eq_true, decide_eq_true_eq, List.all_eq_true] at q
      obtain ⟨⟨q1, q2⟩, q3⟩ := q
      have q2' : es.all noStar = true := List.all_eq_true.mpr q2
      simp only [gTg]
      refine pg_tup h.calm (pgs_ok (ts := ts) q1 q2' fun p hp => pg_ok h hf (q3 p hp)) ?_ ?_
      · rw [(assignEach_len q2').1, q1]
      · exact (assignEach_len q2').2.1
    · cases q
end
end Mi

set_option autoImplicit true
set_option maxRecDepth 512
set_option maxHeartbeats 200000
set_option Elab.async false
set_option linter.all false
set_option maxRecDepth 100000
/-! MiO: objects of the program's classes: fields, methods, making. -/
namespace Mi
open PySem PySem.Spec PyProof.Rows L2

section
variable {B : Bs} {al : Al} {n : Nat} {H : Hp}
theorem nmE {f g : String} {r : List (Str × V)} {v : V} : List.lookup (nm g) ((nm f, v) :: r) = if nm g = nm f then some v else List.lookup (nm g) r := by
  rw [List.lookup_cons]
  by_cases h : nm g = nm f
  · rw [if_pos h, beq_iff_eq.mpr h]
  · rw [if_neg h, beq_eq_false_iff_ne.mpr h]
theorem look_rel {f : String} {d : D} : ∀ {ns : List String} {ds : List D} {fs' : List (Str × V)}, fs'.map (·.1) = ns.map nm → RVs B al n H ds (fs'.map (·.2)) →
    (∀ g ∈ ns, nm f = nm g → f = g) → lookN f ns ds = some d → ∃ v, fs'.lookup (nm f) = some v ∧ RV B al n H d v
  | [], _, _, _, _, _, e => by simp [lookN] at e
  | g :: ns, ds, [], hn, _, _, _ => by simp at hn
  | g :: ns, [], _, _, _, _, e => by simp [lookN] at e
  | g :: ns, x :: ds, (g', v) :: fs', hn, t, inj, e => by
    simp only [List.map_cons, List.cons.injEq] at hn
    obtain ⟨rfl, hn⟩ := hn
    simp only [List.map_cons, RVs] at t
    obtain ⟨v', r', e1, h1, h2⟩ := t
    cases e1
    rw [lookN] at e
    rw [nmE]
    by_cases h : g = f
    · subst h
      rw [if_pos rfl] at e
      cases e
      exact ⟨v, by rw [if_pos rfl], h1⟩
    · rw [if_neg h] at e
      rw [if_neg fun z => h (inj g (by simp) z).symm]
      exact look_rel hn h2 (fun p hp => inj p (by simp [hp])) e
theorem look_no {m : String} : ∀ {ns : List String} {fs' : List (Str × V)}, fs'.map (·.1) = ns.map nm → (∀ g ∈ ns, nm g ≠ nm m) → fs'.lookup (nm m) = none
  | [], [], _, _ => rfl
  | [], _ :: _, hn, _ => by simp at hn
  | _ :: _, [], hn, _ => by simp at hn
  | g :: ns, (g', v) :: fs', hn, h => by
    simp only [List.map_cons, List.cons.injEq] at hn
    obtain ⟨rfl, hn⟩ := hn
    rw [nmE, if_neg fun z => h g (by simp) z.symm]
    exact look_no hn fun p hp => h p (by simp [hp])
theorem put_rel {f : String} {d : D} {v : V} (hv : RV B al n H d v) : ∀ {fs : List (String × D)} {fs' : List (Str × V)}, fs'.map (·.1) = fs.map (fun p => nm p.1) → RVs B al n H (fs.map (·.2)) (fs'.map (·.2)) →
    (∀ p ∈ fs, nm f = nm p.1 → f = p.1) → (putF (nm f) v fs').map (·.1) = (putFd f d fs).map (fun p => nm p.1) ∧ RVs B al n H ((putFd f d fs).map (·.2)) ((putF (nm f) v fs').map (·.2))
  | [], [], _, _, _ => ⟨rfl, .one hv⟩
  | [], _ :: _, hn, _, _ => by simp at hn
  | _ :: _, [], hn, _, _ => by simp at hn
  | (g, x) :: fs, (g', w) :: fs', hn, t, inj => by
    simp only [List.map_cons, List.cons.injEq] at hn
    obtain ⟨rfl, hn⟩ := hn
    simp only [List.map_cons, RVs] at t
    obtain ⟨v', r', e1, h1, h2⟩ := t
    cases e1
    by_cases h : g = f
    · subst h
      rw [putF, if_pos rfl, putFd, if_pos rfl]
      simp only [List.map_cons, hn]
      exact ⟨trivial, .cons hv h2⟩
    · have hm : ¬ nm g = nm f := fun z => h (inj (g, x) (by simp) z.symm).symm
      rw [putF, if_neg hm, putFd, if_neg h]
      obtain ⟨i1, i2⟩ := put_rel hv hn h2 (fun p hp => inj p (by simp [hp]))
      simp only [List.map_cons, i1]
      exact ⟨trivial, .cons h1 i2⟩
end

section
variable {pk : Pk} {N : List Str} {cl : Cl} {X : Cx} {W : WX}
/-- the names of an object's fields -/
theorem fl_inj {B : Bs} {k : Nat} {c f : String} {fs : List (String × D)} (L : Lk B cl k pk) (h : flOk cl c f fs = true) : ∀ p ∈ fs, nm f = nm p.1 → f = p.1 := by
  unfold flOk at h
  simp only [Bool.and_eq_true, List.all_eq_true] at h
  exact fun p hp e => L.fi c f p.1 h.1 (h.2 p hp) e
theorem names_inj {B : Bs} {k : Nat} {c f : String} {ns : List String} (L : Lk B cl k pk) (h1 : cl.fl c f = true) (h2 : (ns.all fun g => cl.fl c g) = true) : ∀ g ∈ ns, nm f = nm g → f = g :=
  fun g hg e => L.fi c f g h1 (List.all_eq_true.mp h2 g hg) e
/-- o.f by the value of o -/
theorem fldF_at {f : String} {k : Nat} {al : Al} {S : Store} {H : Hp} {σ : L2.St} {x : D} {v : V} {kk : Al → Store → Hp → D → Prop} (L : Lk (bs X ϑ) cl k pk) (sr : SR (bs X ϑ) al S H) (rv : RV (bs X ϑ) al S.length H x v)
    (R : Res (bs X ϑ) W σ al S H (M.bnd (Mi.view x) (fldF cl f) S) kk) : ∃ a C dx fs' w d, v = .ref a ∧ H a = some (.ins C dx fs') ∧ Cls X.K C ∧ NoAttr X.K C (nm f) ∧ fs'.lookup (nm f) = some w ∧ RV (bs X ϑ) al S.length H d w ∧ kk al S H d := by
  obtain ⟨y, ry, -, -, -, R2⟩ := Res.view sr rv R
  clear R
  unfold fldF at R2
  split at R2
  · rename_i c ns vs
    rw [rw_fzo] at ry
    obtain ⟨a, C, dx, fs', rfl, e1, e2, e3, t⟩ := ry
    obtain ⟨⟨hf, hn⟩, R3⟩ := R2.need
    obtain ⟨d, e, q⟩ := Res.of' sr R3
    obtain ⟨C', g1, g2, g3⟩ := L.fl c f hf
    have : C' = C := by
      have := e2.symm.trans g1
      cases this
      rfl
    subst this
    obtain ⟨w, l, rv⟩ := look_rel e3 t (names_inj L hf hn) e
    exact ⟨a, C', dx, fs', w, d, rfl, e1, g2, g3, l, rv, q⟩
  · exact R2.none.elim
theorem fldF_ok {f : String} {k : Nat} {al : Al} {S : Store} {H : Hp} {σ : L2.St} {x : D} {v : V} {Q : VK} (L : Lk (bs X ϑ) cl k pk) (sr : SR (bs X ϑ) al S H) (rv : RV (bs X ϑ) al S.length H x v)
    (R : Res (bs X ϑ) W σ al S H (M.bnd (Mi.view x) (fldF cl f) S) (fun al' S' H' d => ∀ v, RV (bs X ϑ) al' S'.length H' d v → Q v H')) : ∃ a C dx fs' w, v = .ref a ∧ H a = some (.ins C dx fs') ∧ Cls X.K C ∧ NoAttr X.K C (nm f) ∧ fs'.lookup (nm f) = some w ∧ Q w H := by
  obtain ⟨a, C, dx, fs', w, d, h1, h2, h3, h4, h5, h6, h7⟩ := fldF_at L sr rv R
  exact ⟨a, C, dx, fs', w, h1, h2, h3, h4, h5, h7 w h6⟩
theorem fld_pe {o : Expr} {f : String} {pos : Pos} {m : Env → M D} (h : XOk pk N cl X) (ho : PE X o (tE (bs X ϑ) W m)) (hb : abOk o = true) : PE X (.Attribute o (nm f) pos) (tE (bs X ϑ) W fun ρ => M.bnd (m ρ) (fldM cl f)) := by
  obtain ⟨k, hr, L⟩ := h.room ϑ
  refine PE.imp (pe_fld ho (abase hb)) fun σ H Q hh => ?_
  obtain ⟨al, ρ, S, sr, re, R⟩ := hh
  refine ⟨al, ρ, S, sr, re, R.bnd.imp fun al1 S1 H1 x x1 sr1 _ R1 v rv => ?_⟩
  unfold fldM at R1
  obtain ⟨a, C, dx, fs', v, e0, e1, g2, g3, l, q⟩ := fldF_ok L sr1 rv R1
  exact ⟨a, C, dx, fs', v, e0, e1, g2, g3, l, q⟩
/-- o.m(e, ..), whatever class o's is -/
def tMethA (X : Cx) (m : Str) (k : Nat) (u : Bool) (E : L2.St → XK) (ta : TE) (t : TA) : TE := fun σ H Q => ta σ H fun x H1 => ∃ a C dx fs f fd ps sp, x = .ref a ∧ H1 a = some (.ins C dx fs) ∧ fs.lookup m = none ∧ Cls X.K C ∧ Meth X.K C m f ∧
  (∃ v, (v = true → u = true) ∧ FnOk X.prog X.w X.K X.mg X.base (CXm v X.prog X.w) k f fd ps sp) ∧ Binds X.K fd ps [] ∧ t σ H1 fun vs H2 => sp (x :: vs) H2 Q (E σ)
theorem pe_methA {o e : Expr} {es : List Expr} {m : Str} {apos pos : Pos} {k : Nat} {ta : TE} {t : TA} {E : L2.St → XK} {pl : Sem Bool} (ho : PE X o ta) (hr : Room k X.A) {u : Bool} (hx : ∀ v : Bool, (v = true → u = true) → ∀ σ, PassesAt (CXm v X.prog X.w) X σ (E σ)) (ha : PA X (e :: es) t)
    (hst : starEach (e :: es) X.env = (false, eval e X.env) :: starEach es X.env) (hpl : (backTo pos (starEach es X.env)).any (·.1) = false)
    (ht : eval (.Call (.Attribute o m apos) (e :: es) [] pos) X.env = (do let ov ← eval o X.env; standAt apos.atName; let (g, first) ← holding [ov] (getMethod ov m pl); callWith pos g first (backTo pos (starEach (e :: es) X.env)) (backToKw pos (keywordEach [] X.env)))) :
    PE X (.Call (.Attribute o m apos) (e :: es) [] pos) (tMethA X m k u E ta t) :=
  ⟨fun pins s σ H Q I h => PySem.W.methodCall_KW (pl := pl) (thn (ho.run pins s σ H _ I h) fun u s1 ⟨x, H1, I1, rx, a, C, dx, fs, f, fd, ps, sp, ex, ea, l, c, hm, ⟨v, hv, F⟩, hb, q⟩ => by
    have eu : u = .ref a := by rw [ex] at rx; exact rx
    subst eu; subst ex
    exact getmeth_ok I1 ea c hm l <| PySem.W.callWith_K (first := [.ref a]) (h₀ := X.base) I.ok.mod.kin hm.kp (thn (ha.run pos pins s1 σ H1 _ I1 q) fun us s2 ⟨vs, H2, I2, r, q2⟩ => ⟨I2.kIn, run_fnS (us := .ref a :: us) (vs := .ref a :: vs) F hr hb (hx v hv σ) I2 (.cons rfl r) q2⟩) hst hpl) ht⟩
theorem pe_methA0 {o : Expr} {m : Str} {apos pos : Pos} {k : Nat} {ta : TE} {E : L2.St → XK} {pl : Sem Bool} (ho : PE X o ta) (hr : Room k X.A) {u : Bool} (hx : ∀ v : Bool, (v = true → u = true) → ∀ σ, PassesAt (CXm v X.prog X.w) X σ (E σ))
    (ht : eval (.Call (.Attribute o m apos) [] [] pos) X.env = (do let ov ← eval o X.env; standAt apos.atName; let (g, first) ← holding [ov] (getMethod ov m pl); callWith pos g first (backTo pos (starEach [] X.env)) (backToKw pos (keywordEach [] X.env)))) :
    PE X (.Call (.Attribute o m apos) [] [] pos) (tMethA X m k u E ta tNil) :=
  ⟨fun pins s σ H Q I h => PySem.W.methodCall_KW (pl := pl) (thn (ho.run pins s σ H _ I h) fun u s1 ⟨x, H1, I1, rx, a, C, dx, fs, f, fd, ps, sp, ex, ea, l, c, hm, ⟨v, hv, F⟩, hb, q⟩ => by
    have eu : u = .ref a := by rw [ex] at rx; exact rx
    subst eu; subst ex
    exact getmeth_ok I1 ea c hm l <| PySem.W.callWith_K0 (first := [.ref a]) I1.kIn hm.kp (run_fnS (us := [.ref a]) (vs := [.ref a]) F hr hb (hx v hv σ) I1 (.cons rfl .nil) q)) ht⟩
theorem res_assoc {α β γ : Type} {B : Bs} {σ : L2.St} {al : Al} {S : Store} {H : Hp} {m : M α} {f : α → M β} {g : β → M γ} {k : Al → Store → Hp → γ → Prop} (R : Res B W σ al S H (M.bnd (M.bnd m f) g S) k) : Res B W σ al S H (M.bnd m (fun y => M.bnd (f y) g) S) k := by
  have e : M.bnd (M.bnd m f) g S = M.bnd m (fun y => M.bnd (f y) g) S := by
    unfold M.bnd
    cases m S with
    | none => rfl
    | some p => obtain ⟨o, S2⟩ := p; cases o <;> rfl
  rw [← e]; exact R
/-- which class and method, what they promise -/
theorem meth_read {m : String} {mo : Env → M D} {ma : Env → M (List D)} {ta : TA} {σ : L2.St} {H : Hp} {Q : VK} {k : Nat} (L : Lk (bs X ϑ) cl k pk)
    (hta : ∀ al ρ S H R, SR (bs X ϑ) al S H → RE (bs X ϑ) al S.length H ρ σ → Res (bs X ϑ) W σ al S H (ma ρ S) (fun al' S' H' ds => ∀ vs, RVs (bs X ϑ) al' S'.length H' ds vs → R vs H') → ta σ H R)
    (h : tE (bs X ϑ) W (fun ρ => M.bnd (mo ρ) fun x => M.bnd (clsM cl m x) fun c => M.bnd (ma ρ) fun ds => cl.mt c m (x :: ds)) σ H Q) : tMethA X (nm m) k pk.u (WE W) (tE (bs X ϑ) W mo) ta σ H Q := by
  obtain ⟨al, ρ, S, sr, re, R⟩ := h
  refine ⟨al, ρ, S, sr, re, R.bnd.imp fun al1 S1 H1 x x1 sr1 _ R1 v rv => ?_⟩
  unfold clsM at R1
  have R2 := res_assoc R1
  obtain ⟨y, ry, -, -, -, R3⟩ := Res.view sr1 rv R2
  clear R1 R2
  cases y with
  | fzo c' ns vs =>
    rw [rw_fzo] at ry
    obtain ⟨a0, C, dx, fs', rfl, e1, e2, e3, t⟩ := ry
    have R6 := R3.bnd
    unfold clsF at R6
    obtain ⟨hf, R4⟩ := R6.need
    have R5 := R4.ret sr1
    obtain ⟨C', a, fd, ps, g1, g2, g3, g4, g5⟩ := L.mt c' m hf.1
    have : C' = C := by
      have z := e2.symm.trans g1
      cases z
      rfl
    subst this
    refine ⟨_, C', dx, fs', a, fd, ps, _, rfl, e1, look_no e3 (fun g hg => L.mn c' m g hf.1 (List.all_eq_true.mp hf.2 g hg)), g2, g3, g5, g4, hta al1 ρ S1 H1 _ sr1 (re.mono sr x1) (R5.bnd.imp fun al2 S3 H3 ds x2 sr2 _ R6 vs rs => ?_)⟩
    exact ⟨al2, S3, _ :: ds, sr2, .cons (rv.mono sr1 x2) rs, R6⟩
  | _ => exact R3.bnd.none.elim
/-- the class's object is made -/
theorem run_makeS {v : Bool} {pins : List (Addr × Obj)} {σ : L2.St} {H : Hp} {s : Shared} {Q : VK} {E : XK} {us : List Value} {vs : List V} {C f : Addr} {fd : FuncData} {ps : List Str} {sp : Sp} {k : Nat} (M : Mk X.K C f) (F : FnOk X.prog X.w X.K X.mg X.base (CXm v X.prog X.w) k f fd ps sp)
    (hr : Room (k + 1) X.A) (hb : Binds X.K fd ps []) (hx : PassesAt (CXm v X.prog X.w) X σ E) (I : L2.Inv X pins σ H s) (r : Vals vs us)
    (h : ∀ x dx, H x = none → H dx = none → dx ≠ x → sp (.ref x :: vs) (upd (upd H dx (.own x)) x (.ins C dx [])) (fun v H2 => v = .non ∧ Q (.ref x) H2) E) :
    wpAny (model X.prog X.w) X.A (call (.ref C) us) (EP X pins σ Q) X.xe s := by
  let n := s.heap.objs.size
  have h0 : sp (.ref (n + 1) :: vs) (upd (upd H n (.own (n + 1))) (n + 1) (.ins C n [])) (fun v H2 => v = .non ∧ Q (.ref (n + 1)) H2) E := h (n + 1) n (I.hok.fresh (by show n ≤ n + 1; omega)) (I.hok.fresh (by show n ≤ n; omega)) (by show n ≠ n + 1; omega)
  have J := Inv.made (C := C) I
  have vv : Vals (V.ref (n + 1) :: vs) (Value.ref (n + 1) :: us) := .cons rfl r
  have len : (Value.ref (n + 1) :: us ++ []).length = ps.length := by rw [List.append_nil, ← vv.length]; exact F.len _ _ _ _ h0
  have bd := hb _ (Value.ref (n + 1) :: us) J.kIn len
  rw [List.append_nil] at bd
  refine wpAny_call (make_map (f := f) I.kIn M.makes M.init (beq_iff_eq.mp M.fn) (codeAny_mono (F.run _ X.stack _ _ ⟨Value.ref (n + 1) :: us, []⟩ (Value.ref (n + 1) :: us) _ _ E (hr.make C us []) (J.env0.make C us []) bd vv h0) ?_))
  intro res s' got
  match res, got with
  | .error e, got => exact hx pins _ _ e s' J got
  | .ok (.ret u), got =>
    obtain ⟨v, H', J', rv, ev, q⟩ := J.after got
    rw [ev] at rv
    exact ⟨rv, ⟨V.ref (n + 1), H', J', rfl, q⟩⟩
  | .ok .next, got => exact False.elim got
  | .ok .brk, got => exact False.elim got
  | .ok .cont, got => exact False.elim got
def tMakeS (C : Addr) (sp : Sp) (E : L2.St → XK) (t : TA) : TE := fun σ H Q => t σ H fun vs H1 => ∀ x dx, H1 x = none → H1 dx = none → dx ≠ x → sp (.ref x :: vs) (upd (upd H1 dx (.own x)) x (.ins C dx [])) (fun v H2 => v = .non ∧ Q (.ref x) H2) (E σ)
theorem pe_makeS {v : Bool} {C f : Addr} {fd : FuncData} {ps : List Str} {sp : Sp} {k : Nat} {E : L2.St → XK} {x : Str} {p pos : Pos} {e : Expr} {es : List Expr} {t : TA} (M : Mk X.K C f) (F : FnOk X.prog X.w X.K X.mg X.base (CXm v X.prog X.w) k f fd ps sp) (hr : Room (k + 1) X.A) (hg : Gl X x) (hm : X.mg x = some (.ref C))
    (hb : Binds X.K fd ps []) (hx : ∀ σ, PassesAt (CXm v X.prog X.w) X σ (E σ)) (ha : PA X (e :: es) t) (hdb : (x == ("__debug__" : Str)) = false) (he : starEach (e :: es) X.env = (false, eval e X.env) :: starEach es X.env) (hpl : (backTo pos (starEach es X.env)).any (·.1) = false) :
    PE X (.Call (.Name x p) (e :: es) [] pos) (tMakeS C sp E t) :=
  ⟨fun pins s σ H Q I h => wpAny_Call_Name_kw (ld_glob I hg hm (PySem.W.callWith_K (h₀ := X.base) I.ok.mod.kin M.kp (thn (ha.run pos pins s σ H _ I h) fun us s1 ⟨vs, H1, I1, r, q⟩ => ⟨I1.kIn, run_makeS M F hr hb (hx σ) I1 r q⟩) he hpl) hdb)⟩
theorem pe_makeS0 {v : Bool} {C f : Addr} {fd : FuncData} {ps : List Str} {sp : Sp} {k : Nat} {E : L2.St → XK} {x : Str} {p pos : Pos} (M : Mk X.K C f) (F : FnOk X.prog X.w X.K X.mg X.base (CXm v X.prog X.w) k f fd ps sp) (hr : Room (k + 1) X.A) (hg : Gl X x) (hm : X.mg x = some (.ref C))
    (hb : Binds X.K fd ps []) (hx : ∀ σ, PassesAt (CXm v X.prog X.w) X σ (E σ)) (hdb : (x == ("__debug__" : Str)) = false) :
    PE X (.Call (.Name x p) [] [] pos) (tMakeS C sp E tNil) :=
  ⟨fun pins s σ H Q I h => wpAny_Call_Name_kw (ld_glob I hg hm (PySem.W.callWith_K0 I.kIn M.kp (run_makeS (us := []) M F hr hb (hx σ) I .nil h)) hdb)⟩
/-- what the interpreter's new object is -/
theorem make_read {c : String} {ma : Env → M (List D)} {ta : TA} {σ : L2.St} {H : Hp} {Q : VK} {C : Addr} (hC : X.mg (nm c) = some (.ref C))
    (hta : ∀ al ρ S H R, SR (bs X ϑ) al S H → RE (bs X ϑ) al S.length H ρ σ → Res (bs X ϑ) W σ al S H (ma ρ S) (fun al' S' H' ds => ∀ vs, RVs (bs X ϑ) al' S'.length H' ds vs → R vs H') → ta σ H R)
    (h : tE (bs X ϑ) W (fun ρ => M.bnd (ma ρ) (newM cl c)) σ H Q) : tMakeS C (spF (bs X ϑ) (cl.made c)) (WE W) ta σ H Q := by
  obtain ⟨al, ρ, S, sr, re, R⟩ := h
  refine hta al ρ S H _ sr re (R.bnd.imp fun al1 S1 H1 ds x1 sr1 _ R1 vs rs => ?_)
  intro x dx nx ndx ne
  have sd : SR (bs X ϑ) al1 S1 (upd H1 dx (.own x)) := sr1.side ndx
  have xd : Xt al1 S1.length H1 al1 S1.length (upd H1 dx (.own x)) := Xt.side ndx
  have nx2 : upd H1 dx (.own x) x = none := by rw [upd_ne (Ne.symm ne)]; exact nx
  have xf : Xt al1 S1.length (upd H1 dx (.own x)) (alN al1 S1.length x) (S1.length + 1) (upd (upd H1 dx (.own x)) x (.ins C dx [])) := Xt.fresh nx2
  have sf : SR (bs X ϑ) (alN al1 S1.length x) (S1 ++ [.obj c []]) (upd (upd H1 dx (.own x)) x (.ins C dx [])) := sd.fresh nx2 ⟨C, dx, [], upd_same, hC, rfl, .nil⟩
  have xx : Xt al1 S1.length H1 (alN al1 S1.length x) (S1 ++ [Cell.obj c []]).length (upd (upd H1 dx (.own x)) x (.ins C dx [])) := by
    rw [List.length_append, List.length_singleton]
    exact Xt.trans sd xd xf
  unfold newM at R1
  have R2 := Res.ok R1.bnd xx sf
  have R3 := R2.bnd
  have R5 : Res (bs X ϑ) (fun c d _ H => WE W σ c d H) [] (alN al1 S1.length x) (S1 ++ [.obj c []]) (upd (upd H1 dx (.own x)) x (.ins C dx [])) (cl.made c (.loc S1.length :: ds) (S1 ++ [.obj c []]))
      (fun al' S' H' d => ∀ v, RV (bs X ϑ) al' S'.length H' d v → v = .non ∧ Q (.ref x) H') := R3.imp fun al3 S3 H3 d x3 sr3 _ R4 v rv => by
    unfold isNonM at R4
    split at R4
    · have q := R4.ret sr3
      refine ⟨by simpa only [RV] using rv, q _ ?_⟩
      rw [rv_loc, x3.ag _ (by simp), alN_eq]
      exact ⟨rfl, Nat.lt_of_lt_of_le (by simp) x3.le⟩
    · exact R4.none.elim
  refine ⟨alN al1 S1.length x, S1 ++ [.obj c []], .loc S1.length :: ds, sf, .cons ?_ (rs.mono sr1 xx), R5⟩
  rw [rv_loc, alN_eq]
  exact ⟨rfl, by simp⟩
/-- o.m(..) as the library's rule for methods wants it -/
theorem meth_form {o : Expr} {args : List Expr} {m : Str} {apos pos : Pos} {env : PySem.Env} (hb : abOk o = true) (hl : (apos.endLine == pos.line) = true)
    (hf : methodCallForm (args.length + 0) (backTo pos (starEach args env)) (backToKw pos (keywordEach [] env)) = true) :
    eval (.Call (.Attribute o m apos) args [] pos) env = (do let ov ← eval o env; standAt apos.atName; let (g, first) ← holding [ov] (getMethod ov m (do return (← importBound o env).getD true)); callWith pos g first (backTo pos (starEach args env)) (backToKw pos (keywordEach [] env))) := by
  show (do let ov ← attributeBase o m env (eval o env); standAt apos.atName; methodCall o m apos pos env ov (args.length + 0) (backTo pos (starEach args env)) (backToKw pos (keywordEach [] env))) = _
  rw [abase hb]
  congr 1
  funext ov
  congr 1
  funext _
  unfold methodCall calleeOf methodCallPos
  rw [hf]
  simp [hl]
theorem form_of {e : Expr} {es : List Expr} {pos : Pos} {env : PySem.Env} (h : (e :: es).all noStar = true) (hl : (e :: es).length < 30) : methodCallForm ((e :: es).length + 0) (backTo pos (starEach (e :: es) env)) (backToKw pos (keywordEach [] env)) = true :=
  few_of h hl
theorem tA_of {ma : Env → M (List D)} (al : Al) (ρ : Env) (S : Store) (σ : L2.St) (H : Hp) (R : List V → Hp → Prop) (sr : SR (bs X ϑ) al S H) (re : RE (bs X ϑ) al S.length H ρ σ) (h : Res (bs X ϑ) W σ al S H (ma ρ S) (fun al' S' H' ds => ∀ vs, RVs (bs X ϑ) al' S'.length H' ds vs → R vs H')) : tA (bs X ϑ) W ma σ H R := ⟨al, ρ, S, sr, re, h⟩
theorem meth_pe {o e : Expr} {es : List Expr} {m : String} {apos pos : Pos} {mo : Env → M D} {ma : Env → M (List D)} (h : XOk pk N cl X) (tk : Tk pk.u X W) (ho : PE X o (tE (bs X ϑ) W mo)) (ha : PA X (e :: es) (tA (bs X ϑ) W ma)) (hb : abOk o = true) (hs : (e :: es).all noStar = true) (hn : (e :: es).length < 30) (hl : (apos.endLine == pos.line) = true) :
    PE X (.Call (.Attribute o (nm m) apos) (e :: es) [] pos) (tE (bs X ϑ) W fun ρ => M.bnd (mo ρ) fun x => M.bnd (clsM cl m x) fun c => M.bnd (ma ρ) fun ds => cl.mt c m (x :: ds)) := by
  obtain ⟨k, hr, L⟩ := h.room ϑ
  have hs' := hs
  rw [List.all_cons, Bool.and_eq_true] at hs'
  exact PE.imp (pe_methA (E := WE W) ho hr (fun v hv σ => passU hv tk σ) ha (starEach_cons hs'.1) (starEach_plain hs'.2 _) (meth_form hb hl (form_of hs hn))) fun σ H Q hh => meth_read L (fun al ρ S H R sr re q => tA_of al ρ S σ H R sr re q) hh
theorem meth_pe0 {o : Expr} {m : String} {apos pos : Pos} {mo : Env → M D} (h : XOk pk N cl X) (tk : Tk pk.u X W) (ho : PE X o (tE (bs X ϑ) W mo)) (hb : abOk o = true) (hl : (apos.endLine == pos.line) = true) :
    PE X (.Call (.Attribute o (nm m) apos) [] [] pos) (tE (bs X ϑ) W fun ρ => M.bnd (mo ρ) fun x => M.bnd (clsM cl m x) fun c => M.bnd (evEs cl [] ρ) fun ds => cl.mt c m (x :: ds)) := by
  obtain ⟨k, hr, L⟩ := h.room ϑ
  exact PE.imp (pe_methA0 (E := WE W) ho hr (fun v hv σ => passU hv tk σ) (meth_form hb hl rfl)) fun σ H Q hh => meth_read L (fun al ρ S H R sr re q => by
    simp only [evEs] at q
    exact q.ret sr [] .nil) hh
theorem new_pe {c : String} {p pos : Pos} {e : Expr} {es : List Expr} {ma : Env → M (List D)} (h : XOk pk N cl X) (tk : Tk pk.u X W) (hc : pk.cs.contains c = true) (hg : glB X.env.scope (nm c) = true) (ha : PA X (e :: es) (tA (bs X ϑ) W ma)) (hs : (e :: es).all noStar = true) :
    PE X (.Call (.Name (nm c) p) (e :: es) [] pos) (tE (bs X ϑ) W fun ρ => M.bnd (ma ρ) (newM cl c)) := by
  obtain ⟨k, hr, L⟩ := h.room ϑ
  obtain ⟨C, a, fd, ps, k', rfl, g1, g2, g3, v, hv, g4⟩ := L.mak c hc
  obtain ⟨q1, q2, q3⟩ := glB_ok hg
  rw [List.all_cons, Bool.and_eq_true] at hs
  exact PE.imp (pe_makeS (E := WE W) g2 g4 hr q1 g1 g3 (fun σ => passU hv tk σ) ha q2 (starEach_cons hs.1) (starEach_plain hs.2 _)) fun σ H Q hh => make_read g1 (fun al ρ S H R sr re q => tA_of al ρ S σ H R sr re q) hh
theorem new_pe0 {c : String} {p pos : Pos} (h : XOk pk N cl X) (tk : Tk pk.u X W) (hc : pk.cs.contains c = true) (hg : glB X.env.scope (nm c) = true) :
    PE X (.Call (.Name (nm c) p) [] [] pos) (tE (bs X ϑ) W fun ρ => M.bnd (evEs cl [] ρ) (newM cl c)) := by
  obtain ⟨k, hr, L⟩ := h.room ϑ
  obtain ⟨C, a, fd, ps, k', rfl, g1, g2, g3, v, hv, g4⟩ := L.mak c hc
  obtain ⟨q1, q2, q3⟩ := glB_ok hg
  exact PE.imp (pe_makeS0 (E := WE W) g2 g4 hr q1 g1 g3 (fun σ => passU hv tk σ) q2) fun σ H Q hh => make_read g1 (fun al ρ S H R sr re q => by
    simp only [evEs] at q
    exact q.ret sr [] .nil) hh
end
end Mi

set_option autoImplicit true
set_option maxRecDepth 512
set_option maxHeartbeats 200000
set_option Elab.async false
set_option linter.all false
set_option maxRecDepth 100000
/-! MiS0: len(set(x)) of texts, over the layer. -/
namespace Mi
open PySem PySem.Spec PyProof.Rows L2

/-- how many different ones -/
def diff (xs : List PySem.Str) : Nat := match xs with
  | [] => 0
  | x :: r => if x ∈ r then diff r else diff r + 1
theorem diff_snoc (x : PySem.Str) : ∀ xs : List PySem.Str, diff (xs ++ [x]) = if x ∈ xs then diff xs else diff xs + 1
  | [] => by simp [diff]
  | y :: r => by
    rw [List.cons_append, diff, diff_snoc x r, diff]
    by_cases h1 : y = x
    · subst h1
      by_cases h2 : y ∈ r <;> simp [h2]
    · have h1' : ¬ x = y := fun z => h1 z.symm
      by_cases h2 : y ∈ r <;> by_cases h3 : x ∈ r <;> simp [h1, h1', h2, h3]
theorem diff_le : ∀ xs : List PySem.Str, diff xs ≤ xs.length
  | [] => Nat.le_refl _
  | y :: r => by
    have := diff_le r
    rw [diff, List.length_cons]
    split <;> omega
section
variable {prog : Program} {w : World} {A : Around} {R : Result → Shared → Prop} {I : Addr} {fp wr : List Addr} {G : Array GenState → Array GenState → Prop} {n : Nat} {P : Nat → Value → Prop} {St : Nat → Shared → Prop}
/-- at a: a set of the first i of the texts -/
abbrev HasF (prog : Program) (w : World) (h : Heap) (a : Addr) (xs : List PySem.Str) (i : Nat) : Prop := h.SetOf (PySem.strKind prog w) a (fun z => decide (z ∈ xs.take i)) (diff (xs.take i))
theorem HasF.stay {h h' : Heap} {a : Addr} {xs : List PySem.Str} {i : Nat} (q : HasF prog w h a xs i) (k : ∀ o, h.get? a = some o → h'.get? a = some o) : HasF prog w h' a xs i := by
  obtain ⟨o, es, ep, t, e, r⟩ := q
  exact ⟨o, es, ep, t, k o e, r⟩
theorem HasF.next {h : Heap} {a : Addr} {xs : List PySem.Str} {i : Nat} {x : PySem.Str} (hx : xs[i]? = some x) (q : h.SetOf (PySem.strKind prog w) a (fun z => decide (z ∈ xs.take i) || decide (z = x)) (if decide (x ∈ xs.take i) = true then diff (xs.take i) else diff (xs.take i) + 1)) : HasF prog w h a xs (i + 1) := by
  have e1 : xs.take (i + 1) = xs.take i ++ [x] := by rw [List.take_add_one, hx]; rfl
  unfold HasF
  rw [e1, diff_snoc]
  have e2 : (fun z => decide (z ∈ xs.take i ++ [x])) = fun z => decide (z ∈ xs.take i) || decide (z = x) := by
    funext z
    rw [← Bool.decide_or]
    congr 1
    simp
  rw [e2]
  simpa using q
theorem fill_loop (W : WalksS prog w A.in1 I fp wr G n P St) (a : Addr) (ha : a ∉ fp) (xs : List PySem.Str) (hl : xs.length = n) (h4 : n < 4000) (hv : ∀ i v, P i v → ∃ x t, xs[i]? = some x ∧ v = Value.str x t) : ∀ (k i : Nat) (s : Shared), k = n - i → i ≤ n → St i s → HasF prog w s.heap a xs i →
    (∀ s', Moved (a :: wr) G s s' → HasF prog w s'.heap a xs n → R (.ok (.ret .none)) s') → codeAny (model prog w) A (.builtin "set.update.loop" ⟨[.ref a, .ref I], []⟩) R s
  | k, i, s, hk, hi, st, q, hR => by
    have sub : ∀ b, b ∈ wr → b ∈ a :: wr := fun b h => .tail _ h
    have aw : ¬ a ∈ wr := fun h => ha (W.sub _ h)
    refine codeAny_builtin F.entry_set_update_loop ?_; rw [Around.under_plainId F.plain_set_update_loop _]; show wpAny (model prog w) A.in1 (pyNext (.ref I) >>= _) _ _ s
    rcases Nat.lt_or_ge i n with lt | ge
    · refine wpAny_bind (W.item i s _ _ lt st fun v s1 hP st1 mv => ?_)
      obtain ⟨x, t, hx, rfl⟩ := hv i v hP
      have q1 : HasF prog w s1.heap a xs i := q.stay fun o e => mv.heap a o aw e
      refine wpAny_bind (wpAny_holding (show wpAny _ _ (setAdd a (.str x t)) _ _ _ from wpAny_holding (wpAny_bind ((PySem.strKind prog w).pyHash (strKind_is prog w x t) ?_))))
      have room : diff (xs.take i) + 1 < scanBound := by
        have := diff_le (xs.take i)
        rw [List.length_take] at this
        unfold scanBound
        omega
      refine wpAny_setAddHashed_of (s := { s1 with toks := s1.toks + 1 }) (strKind_is prog w x t) rfl q1 room fun h2 sb q2 => wpAny_pure ⟨plainId_quiet F.plain_set_update_loop _, ?_⟩
      have away : ∀ b, b ≠ a → h2.get? b = s1.heap.get? b := fun b hb => sb.2 b hb
      refine fill_loop W a ha xs hl h4 hv (n - (i + 1)) (i + 1) _ rfl lt (W.frame _ s1 _ _ st1 (Nat.le_succ _) fun b hb o e => (away b fun z => ha (z ▸ hb)).trans e) (HasF.next hx q2) fun s3 mv3 q3 => ?_
      refine hR s3 (Moved.trans W.gtrans ((mv.mono sub).then_heap (Nat.le_succ _) fun b o hb e => (away b fun z => hb (z ▸ .head _)).trans e) mv3) q3
    · obtain rfl : i = n := Nat.le_antisymm hi ge
      refine wpAny_bind (W.done s _ _ st fun s1 mv => ?_)
      exact wpAny_pure (hR s1 (mv.mono sub) (q.stay fun o e => mv.heap a o aw e))
  termination_by k => k
  decreasing_by omega
end
section
variable {prog : Program} {w : World} {A : Around} {E : Value → Shared → Prop} {s : Shared}
abbrev bareSet (led : Bool) : Obj := { cls := .type "set", dict := none, data := .set #[] 0 (.fresh 0 0 led) }
theorem bare_has {h : Heap} {a : Addr} {led : Bool} {xs : List PySem.Str} (e : h.get? a = some (bareSet led)) : HasF prog w h a xs 0 := by
  have q := (PyProof.Rows.setObjOf_fresh (knd := PySem.strKind prog w) led).setOf e (by unfold scanBound; omega)
  exact PyProof.Rows.SetOf_congr q (fun z => by simp) rfl
set_option maxHeartbeats 3200000 in
/-- set(x) of a tuple of texts -/
theorem set_of_tuple {l : Addr} {items : Array Value} {xs : List PySem.Str} {Q : Value → Shared → Prop} (hh : A.handled = none) (hl : s.heap.IsTuple l items) (hx : ∀ (i : Nat) (v : Value), items[i]? = some v → ∃ x t, xs[i]? = some x ∧ v = Value.str x t) (hz : xs.length = items.size) (h4 : items.size < 4000)
    (hQ : ∀ (h' : Heap) (tk : Nat), HasF prog w h' s.heap.objs.size xs items.size → (∀ b o, b < s.heap.objs.size → s.heap.get? b = some o → h'.get? b = some o) → Q (.ref s.heap.objs.size) { s with heap := h', toks := tk }) : wpAny (model prog w) A (call (.type "set") [.ref l]) Q E s := by
  have ⟨c, tl, hmro⟩ := PySem.F.called_set.mro
  have a1 := PySem.F.called_set.made; have a2 := PySem.F.called_set.sub
  refine wpAny_call (codeAny_of_tree (show wpAny _ _ (callAny (.type "set") _) _ _ _ from wpAny_pure ⟨Code.quiet_builtin _ (by decide +kernel), codeAny_builtin PySem.F.entry_type_call ?_⟩))
  rw [show A.under _ = A.in1 from Around.under_plain (weight_type_call_type "set" [.ref l] []) rfl]
  have a3 := PySem.F.called_set.notType; have a4 := PySem.F.called_set.canCreate; have a5 := PySem.F.typeCall_set_1 (.ref l)
  (repeat (any_goals (first | assumption | wp_step)))
  refine codeAny_mono (code_set_new_1 (.ref l) (E := E) (Q₁ := fun u s1 => ∃ led, u = .ref s.heap.objs.size ∧ s1 = { s with heap := s.heap.push (bareSet led) }) fun led => ⟨led, rfl, rfl⟩) fun r s1 hr => ?_
  match r, hr with
  | .error e, hr => exact hr
  | .ok .next, hr => exact hr.elim
  | .ok .brk, hr => exact hr.elim
  | .ok .cont, hr => exact hr.elim
  | .ok (.ret u), hr =>
    obtain ⟨led, rfl, rfl⟩ := hr
    have e0 : (s.heap.push (bareSet led)).get? s.heap.objs.size = some (bareSet led) := Heap.get?_push_size _ rfl
    have eT : Shared.TypeIs { s with heap := s.heap.push (bareSet led) } (.ref s.heap.objs.size) "set" := ⟨_, e0, rfl⟩
    have a6 := PySem.F.called_set.init.lookup; have a7 := PySem.F.called_set.init.bind (.ref s.heap.objs.size)
    (repeat (any_goals (first | assumption | wp_step)))
    refine codeAny_mono (codeAny_call_builtin (R := wants (fun u s2 => u = .none ∧ ∃ h' tk, s2 = { s with heap := h', toks := tk } ∧ HasF prog w h' s.heap.objs.size xs items.size ∧ (∀ b o, b < s.heap.objs.size → s.heap.get? b = some o → h'.get? b = some o)) E) PySem.F.called_set.init.plain PySem.F.entry_set_init (check_set_init_1 eT ?_)) fun r2 s2 hr2 => ?_
    · obtain ⟨⟨cl, dc, dt, sl⟩, g1, g2, nl, g3⟩ := hl
      simp only at g2 g3
      subst g2 g3
      have b1 := PySem.F.sub_tuple_set; have b2 := PySem.F.sub_tuple_frozenset
      have b3 : (Value.type "tuple" == Value.type "dict") = false := by decide
      have g4 : (s.heap.push (bareSet led)).get? l = some { cls := .type "tuple", dict := dc, data := .seq items nl, slots := sl } := Heap.get?_push_of_some _ g1
      have g5 : (s.heap.push (bareSet led)).IsTuple l items := ⟨_, g4, rfl, nl, rfl⟩
      unfold Builtin.«set.__init__» noKeywords Builtin.Frozenset.updateFrom
      generalize zz : pyIter = PI
      wp_walk
      subst zz
      refine wpAny_pyIter_tuple g5 (wpAny_bind (wpAny_runValue ?_))
      have lt : l < s.heap.objs.size := Heap.lt_size g1
      have sz : (s.heap.push (bareSet led)).objs.size = s.heap.objs.size + 1 := by rw [Heap.size_push]
      have nI : l ≠ (s.heap.push (bareSet led)).objs.size := by rw [sz]; exact Nat.ne_of_lt (Nat.lt_succ_of_lt lt)
      refine fill_loop ((Walks.tuple (by simp [hh]) _ l nI items).toS) s.heap.objs.size (by rw [sz]; simp only [List.mem_cons, List.not_mem_nil, or_false, not_or]; exact ⟨Nat.ne_of_lt (Nat.lt_succ_self _), Nat.ne_of_gt lt⟩) xs hz h4 hx _ 0 _ rfl (Nat.zero_le _) ⟨⟨_, Heap.get?_push_size _ rfl, rfl, rfl⟩, g5.push _⟩ (bare_has (Heap.get?_push_of_some _ e0)) ?_
      rintro ⟨h', g', d', tk', os'⟩ mv q
      have m1 : g' = s.gens := mv.gens; have m2 : d' = s.drawn := mv.drawn; have m3 : os' = s.os := mv.os
      subst m1 m2 m3
      refine (show wpAny _ _ _ _ _ _ from wpAny_pure (show wpAny _ _ (ret Value.none) _ _ _ from wpAny_pure ⟨rfl, h', tk', rfl, q, fun b o hb e => ?_⟩))
      refine mv.heap b o ?_ (Heap.get?_push_of_some _ (Heap.get?_push_of_some _ e))
      rw [sz]
      simp only [List.mem_cons, List.not_mem_nil, or_false, not_or]
      exact ⟨Nat.ne_of_lt hb, Nat.ne_of_lt (Nat.lt_succ_of_lt hb)⟩
    · match r2, hr2 with
      | .error e, hr2 => exact hr2
      | .ok .next, hr2 => exact hr2.elim
      | .ok .brk, hr2 => exact hr2.elim
      | .ok .cont, hr2 => exact hr2.elim
      | .ok (.ret u), hr2 =>
        obtain ⟨rfl, h', tk, rfl, q, keep⟩ := hr2
        (repeat (any_goals (first | assumption | wp_step)))
        exact hQ _ _ q keep
end
section
variable {X : Cx}
/-- len(set(x)) -/
def tLenS (K : PySem.W.Frag) (ta : TE) : TE := fun σ H Q => ta σ H fun x H1 => ∃ (l : Addr) (xs : List PySem.Str), x = .ref l ∧ SqT K H1 l (xs.map V.str) ∧ xs.length < 4000 ∧ Q (.int (diff xs : Nat)) H1
theorem strs_of {xs : List PySem.Str} {us : List Value} (r : Vals (xs.map V.str) us) : ∀ (i : Nat) (v : Value), us.toArray[i]? = some v → ∃ x t, xs[i]? = some x ∧ v = Value.str x t := fun i v e => by
  have e : us[i]? = some v := by simpa using e
  have hl : i < xs.length := by
    have h1 := (List.getElem?_eq_some_iff.mp e).1
    have h2 := r.length
    rw [List.length_map] at h2
    omega
  obtain ⟨u, h1, t, h2⟩ := r.get (i := i) (x := .str xs[i]) (by simp [hl])
  rw [e] at h1
  cases h1
  exact ⟨xs[i], t, by simp [hl], h2⟩
theorem pe_lenS {a : Expr} {ta : TE} {p p2 q pos : Pos} (hc : X.calm = true) (hg : Gl X "len") (hm : X.mg "len" = none) (hg2 : Gl X "set") (hm2 : X.mg "set" = none) (ha : PE X a ta) (na : starEach [a] X.env = (false, eval a X.env) :: starEach [] X.env) :
    PE X (.Call (.Name "len" p) [.Call (.Name "set" p2) [a] [] q] [] pos) (tLenS X.K ta) := by
  refine ⟨fun pins s σ H Q I h => Call_ (ld_blt I hg hm boot_len (PyProof.Rows.callWith_builtin1 (PyProof.Rows.args_cons ?_ rfl) rfl rfl))⟩
  refine Call_ (ld_blt I hg2 hm2 boot_set (PyProof.Rows.callWith_type1 (PyProof.Rows.args_cons (thn (ha.run pins s σ H _ I h) ?_) na) na rfl))
  rintro v s1 ⟨x, H1, I1, r1, l, xs, rfl, hq, h4, q1⟩
  cases r1
  refine PyProof.Rows.args_nil ?_
  have fin : ∀ (its : List Value), Vals (xs.map V.str) its → ∀ (h' : Heap) (tk : Nat), HasF X.prog X.w h' s1.heap.objs.size xs its.toArray.size → (∀ b o, b < s1.heap.objs.size → s1.heap.get? b = some o → h'.get? b = some o) →
      wpAny (model X.prog X.w) X.A (spliced (backTo pos (starEach [] X.env))) (fun vs s₂ => wpAny (model X.prog X.w) X.A (call (.builtin "len") (Value.ref s1.heap.objs.size :: vs)) (EP X pins σ Q) X.xe s₂) X.xe { s1 with heap := h', toks := tk } := fun its r h' tk hS hk => by
    have hl : its.toArray.size = xs.length := by rw [List.size_toArray, ← r.length, List.length_map]
    unfold HasF at hS
    rw [hl, List.take_length] at hS
    obtain ⟨o, es, ep, t, ho, hex, hd, _, _, _, hf, hn⟩ := hS
    have I2 : Inv X pins σ H1 { s1 with heap := h', toks := tk } := I1.kept fun b o e => hk b o (Heap.lt_size e) e
    have := diff_le xs
    exact PyProof.Rows.args_nil (call_len_set ho hex hd hf (by rw [hn]; omega) ⟨.int (diff xs : Nat), H1, I2.tok _, ⟨_, by rw [hn]⟩, q1⟩)
  obtain ⟨its, r, pl, hz⟩ := I1.tuple hq
  exact set_of_tuple (I1.ok.hd hc) pl (strs_of r) (by rw [List.size_toArray, ← r.length, List.length_map]) (by rw [List.size_toArray, ← r.length, List.length_map]; exact h4) fun h' tk hS hk => fin its r h' tk hS hk
end
end Mi

set_option autoImplicit true
set_option maxRecDepth 512
set_option maxHeartbeats 200000
set_option Elab.async false
set_option linter.all false
set_option maxRecDepth 100000
/-! MiS: len(set(x)) by values. -/
namespace Mi
open PySem PySem.Spec PyProof.Rows L2
/-! ### by values -/
theorem diff_once : ∀ ss : List Tx, diff (ss.map txS) = (once ss).length
  | [] => rfl
  | x :: r => by
    rw [List.map_cons, diff, once, diff_once r]
    have e : (txS x ∈ r.map txS) ↔ x ∈ r := by
      rw [List.mem_map]
      exact ⟨fun ⟨y, h1, h2⟩ => by rw [← txS_inj.mp h2]; exact h1, fun h => ⟨x, h, rfl⟩⟩
    by_cases h : x ∈ r
    · rw [if_pos (e.mpr h), if_pos h]
    · rw [if_neg fun z => h (e.mp z), if_neg h, List.length_cons]
theorem strs_vals {B : Bs} {al : Al} {n : Nat} {H : Hp} : ∀ {xs : List D} {ss : List Tx} {vs : List V}, strsO xs = some ss → RVs B al n H xs vs → vs = (ss.map txS).map V.str
  | [], ss, vs, h, t => by
    simp only [strsO, Option.some.injEq] at h
    subst h
    simpa only [RVs, List.map_nil] using t
  | x :: xs, ss, vs, h, t => by
    cases x <;> simp only [strsO] at h <;> try (cases h; done)
    obtain ⟨js, h1, rfl⟩ := Option.map_eq_some_iff.mp h
    simp only [RVs] at t
    obtain ⟨v, r, rfl, t1, t2⟩ := t
    rw [rv_str] at t1
    rw [t1.1, strs_vals h1 t2]
    rfl
theorem lenset_ok {X : Cx} {W : WX} {a : Expr} {ma : Env → M D} {p p2 q pos : Pos} (hc : X.calm = true) (hg : Gl X "len") (hm : X.mg "len" = none) (hg2 : Gl X "set") (hm2 : X.mg "set" = none) (ha : PE X a (tE (bs X ϑ) W ma)) (na : noStar a = true) :
    PE X (.Call (.Name "len" p) [.Call (.Name "set" p2) [a] [] q] [] pos) (tE (bs X ϑ) W fun ρ => M.bnd (ma ρ) lensetM) := by
  refine PE.imp (pe_lenS hc hg hm hg2 hm2 ha (starEach_cons na)) fun σ H Q h => ?_
  refine one h fun al S H ρ x v sr re rv R => ?_
  unfold lensetM at R
  split at R
  · rename_i xs
    rw [rv_tup] at rv
    obtain ⟨l, vs, rfl, q, t⟩ := rv
    obtain ⟨ss, h1, R3⟩ := Res.of sr R
    obtain ⟨h2, R4⟩ := R3.need
    have e := strs_vals h1 t
    subst e
    exact ⟨l, ss.map txS, rfl, q, by rw [List.length_map]; exact h2, R4.ret sr _ (by rw [rv_int, diff_once])⟩
  · exact R.none.elim
end Mi

set_option autoImplicit true
set_option maxRecDepth 512
set_option maxHeartbeats 200000
set_option Elab.async false
set_option linter.all false
set_option maxRecDepth 100000
/-! Mi10: expressions do what Mi1 says. -/
namespace Mi
open PySem PySem.Spec PyProof.Rows L2

section
variable {pk : Pk} {N : List Str} {cl : Cl} {X : Cx} {W : WX}
/-- an argument list, item by item -/
theorem zipAll_star {p : Expr → Ex → Bool} : ∀ {es : List Expr} {irs : List Ex}, zipAll p es irs = true → es.all noStar = true ∧ es.length = irs.length
  | [], [], _ => ⟨rfl, rfl⟩
  | e :: es, i :: irs, h => by
    simp only [zipAll, Bool.and_eq_true] at h
    obtain ⟨h1, h2⟩ := zipAll_star h.2
    exact ⟨by rw [List.all_cons, h.1.1, h1]; rfl, by simp [h2]⟩
  | [], _ :: _, h => by simp [zipAll] at h
  | _ :: _, [], h => by simp [zipAll] at h
theorem pa_ok {cl : Cl} {p : Expr → Ex → Bool} (hp : ∀ e i, p e i = true → PE X e (tE (bs X ϑ) W (evE cl i))) : ∀ {es : List Expr} {irs : List Ex}, zipAll p es irs = true → PA X es (tA (bs X ϑ) W (evEs cl irs))
  | [], [], _ => PA.imp pa_nil fun σ H Q h => by
    obtain ⟨al, ρ, S, sr, re, R⟩ := h
    simp only [evEs] at R
    exact R.ret sr [] .nil
  | e :: es, i :: irs, h => by
    simp only [zipAll, Bool.and_eq_true] at h
    refine PA.imp (pa_cons' (hp e i h.1.2) (pa_ok hp h.2) h.1.1) fun σ H Q hh => ?_
    obtain ⟨al, ρ, S, sr, re, R⟩ := hh
    simp only [evEs] at R
    refine ⟨al, ρ, S, sr, re, R.bnd.imp fun al1 S1 H1 x x1 sr1 _ R1 v rv => ?_⟩
    refine ⟨al1, ρ, S1, sr1, re.mono sr x1, R1.bnd.imp fun al2 S2 H2 xs x2 sr2 _ R2 vs rs => ?_⟩
    exact R2.ret sr2 (v :: vs) (.cons (rv.mono sr1 x2) rs)
  | [], _ :: _, h => by simp [zipAll] at h
  | _ :: _, [], h => by simp [zipAll] at h
/-- a test of a value -/
def plainT : Expr → Bool
  | .Compare _ _ _ _ => false
  | .BoolOp _ _ _ => false
  | .UnaryOp .Not _ _ => false
  | _ => true
theorem pt_of {e : Expr} {m : Env → M D} (h : PE X e (tE (bs X ϑ) W m)) (he : ∀ whole, isTrue e X.env whole = (do let v ← whole; standAt e.pos; holding [v] (PySem.truthy v))) : PT X e (tT (bs X ϑ) W fun ρ => M.bnd (m ρ) Mi.truthy) := by
  refine PT.imp (pt_truth h he) fun σ H Q hh => ?_
  obtain ⟨al, ρ, S, sr, re, R⟩ := hh
  exact ⟨al, ρ, S, sr, re, R.bnd.imp fun al1 S1 H1 x x1 sr1 _ R1 v rv => truthy_ok sr1 rv R1⟩

theorem bnd_assoc {α β γ : Type} (m : M α) (f : α → M β) (g : β → M γ) (S : Store) : M.bnd m (fun a => M.bnd (f a) g) S = M.bnd (M.bnd m f) g S := by
  unfold M.bnd
  cases m S with
  | none => rfl
  | some p =>
    obtain ⟨o, S1⟩ := p
    cases o <;> rfl
theorem bnd_congr {α β : Type} {m : M α} {f g : α → M β} {S : Store} (h : ∀ a S, f a S = g a S) : M.bnd m f S = M.bnd m g S := by
  unfold M.bnd
  cases m S with
  | none => rfl
  | some p =>
    obtain ⟨o, S1⟩ := p
    cases o with
    | ex c => rfl
    | ok a => exact h a S1
theorem truthy_pure {x : D} {S S' : Store} {o : Out Bool} (h : Mi.truthy x S = some (o, S')) : ∃ b, o = .ok b ∧ S' = S := by
  unfold Mi.truthy at h
  cases x <;> first | (cases h; exact ⟨_, rfl, rfl⟩) | (cases h; done) | skip
  rename_i n
  unfold M.bnd M.get at h
  cases hc : S[n]? with
  | none => simp only [hc] at h; cases h
  | some c => simp only [hc] at h; cases c <;> first | (cases h; exact ⟨_, rfl, rfl⟩) | (cases h; done)
theorem evEs_len {cl : Cl} : ∀ {irs : List Ex} {ρ : Env} {S S' : Store} {ds : List D}, evEs cl irs ρ S = some (.ok ds, S') → ds.length = irs.length
  | [], _, _, _, _, h => by simp only [evEs] at h; cases h; rfl
  | i :: irs, ρ, S, S', ds, h => by
    simp only [evEs] at h
    obtain ⟨x, S1, e1, e2⟩ := bnd_ok h
    obtain ⟨xs, S2, e3, e4⟩ := bnd_ok e2
    cases e4
    simp [evEs_len e3]
theorem lookup_ok {cl : Cl} {f : String} {p pos : Pos} {e : Expr} {es : List Expr} {ma : Env → M (List D)} (h : XOk pk N cl X) (tk : Tk pk.u X W) (hf : pk.fs.contains f = true) (hg : glB X.env.scope (nm f) = true)
    (ha : PA X (e :: es) (tA (bs X ϑ) W ma)) (hs : (e :: es).all noStar = true) : PE X (.Call (.Name (nm f) p) (e :: es) [] pos) (tE (bs X ϑ) W fun ρ => M.bnd (ma ρ) fun ds => cl.fn f ds) := by
  obtain ⟨k, hr, L⟩ := h.room ϑ
  obtain ⟨a, fd, ps, h1, h2, h3, v, hv, F⟩ := L.fns f hf
  obtain ⟨g1, g2, g3⟩ := glB_ok hg
  rw [List.all_cons, Bool.and_eq_true] at hs
  refine PE.imp (pe_callS (E := WE W) F hr g1 h1 h2 h3 (fun σ => passU hv tk σ) ha g2 (starEach_cons hs.1) (starEach_plain hs.2 _)) fun σ H Q hh => ?_
  obtain ⟨al, ρ, S, sr, re, R⟩ := hh
  exact ⟨al, ρ, S, sr, re, R.bnd.imp fun al1 S1 H1 ds x1 sr1 _ R1 vs rs => ⟨al1, S1, ds, sr1, rs, R1⟩⟩
end

section
variable {pk : Pk} {N : List Str} {cl : Cl} {X : Cx} {W : WX}
/-- a constant -/
theorem pe_const {e : Expr} {d : D} {v : V} {m : Env → M D} (h : PE X e (L2.tC v)) (hm : ∀ ρ S, m ρ S = some (.ok d, S)) (rv : ∀ al n H, RV (bs X ϑ) al n H d v) : PE X e (tE (bs X ϑ) W m) := PE.imp h fun σ H Q h => by
  obtain ⟨al, ρ, S, sr, re, R⟩ := h
  rw [hm] at R
  exact Res.ok R Xt.refl sr v (rv _ _ _)
def isBoolOp : Expr → Bool
  | .BoolOp _ _ _ => true
  | _ => false
structure SE (X : Cx) (W : WX) (cl : Cl) (ϑ : Addr → Prop) (e : Expr) (ir : Ex) : Prop where
  pe : PE X e (tE (bs X ϑ) W (evE cl ir))
  pt : notIf e = true → PT X e (tT (bs X ϑ) W (evT cl ir))
  pw : isBoolOp e = true → PW X e (tT (bs X ϑ) W (evT cl ir))
theorem SE.of {cl : Cl} {e : Expr} {ir : Ex} (p : PE X e (tE (bs X ϑ) W (evE cl ir))) (he : ∀ whole, isTrue e X.env whole = (do let v ← whole; standAt e.pos; holding [v] (PySem.truthy v)) := by intro _; rfl) (hb : isBoolOp e = false := by rfl) : SE X W cl ϑ e ir := ⟨p, fun _ => pt_of p he, fun z => by rw [hb] at z; cases z⟩
theorem se_hole {cl : Cl} {e : Expr} : SE X W cl ϑ e .hole := by
  refine ⟨⟨fun pins s σ H Q I h => ?_⟩, fun _ => ⟨fun pins s σ H Q I h => ?_⟩, fun _ => ⟨fun wh pins s σ H Q I h => ?_⟩⟩
  · obtain ⟨al, ρ, S, sr, re, R⟩ := h
    have e : evE cl .hole ρ S = none := rfl
    rw [e] at R
    exact R.none.elim
  · obtain ⟨al, ρ, S, sr, re, R⟩ := h
    have e : evT cl .hole ρ S = none := rfl
    rw [e] at R
    exact R.none.elim
  · obtain ⟨al, ρ, S, sr, re, R⟩ := h
    have e : evT cl .hole ρ S = none := rfl
    rw [e] at R
    exact R.none.elim
theorem se_none {cl : Cl} {k : Nat} {pos : Pos} : SE X W cl ϑ (.Constant .none k pos) .non := .of (pe_const pe_non (fun _ _ => rfl) fun _ _ _ => by simp [RV])
theorem se_bl {cl : Cl} {k : Nat} {pos : Pos} {b : Bool} : SE X W cl ϑ (.Constant (.bool b) k pos) (.bl b) := .of (pe_const pe_bl (fun _ _ => rfl) fun _ _ _ => by simp [RV])
theorem se_int {cl : Cl} {k : Nat} {pos : Pos} {i : Int} : SE X W cl ϑ (.Constant (.int i) k pos) (.int i) := .of (pe_const pe_int (fun _ _ => rfl) fun _ _ _ => by simp [RV])
theorem se_str {cl : Cl} {k : Nat} {pos : Pos} {s : Tx} (h1 : s.length ≤ 1000) (h2 : s.all (fun c => decide (c < 1114112)) = true) : SE X W cl ϑ (.Constant (.str (txS s)) k pos) (.str s) :=
  .of (pe_const pe_str (fun _ _ => rfl) fun _ _ _ => by rw [rv_str]; exact ⟨rfl, by unfold szl; omega, h2⟩)
theorem se_var {cl : Cl} {x : Str} {pos : Pos} {i : Nat} (hN : X.N[i]? = some x) (hv : visB X.env.scope x = true) (h1 : (x == ("__debug__" : Str)) = false) (h2 : (x == ("__classdict__" : Str)) = false) : SE X W cl ϑ (.Name x pos) (.var i) :=
  .of (PE.imp (pe_var hN (visB_ok hv) h1 h2) fun σ H Q h => by
    obtain ⟨al, ρ, S, sr, re, R⟩ := h
    simp only [evE] at R
    obtain ⟨d, e, k⟩ := Res.of' sr R
    have e' : ρ[i]? = some (some d) := by
      cases h : ρ[i]? with
      | none => rw [h] at e; cases e
      | some o => rw [h] at e; exact congrArg some e
    obtain ⟨v, e2, rv⟩ := re.2 i d e'
    exact ⟨v, e2, k v rv⟩)
theorem se_glob {cl : Cl} {g : String} {pos : Pos} (hX : XOk pk N cl X) (q2 : glB X.env.scope (nm g) = true) (q3 : pk.gls.contains g = true) : SE X W cl ϑ (.Name (nm g) pos) (.glob g) := by
  obtain ⟨g1, g2, g3⟩ := glB_ok q2
  obtain ⟨k, hr, L⟩ := hX.room ϑ
  refine .of ?_
  cases hd : cl.gl g with
  | none =>
    refine ⟨fun pins s σ H Q I h => ?_⟩
    obtain ⟨al, ρ, S, sr, re, R⟩ := h
    simp only [evE, hd] at R
    exact R.none.elim
  | some d =>
    obtain ⟨u, v, m1, m2, m3⟩ := L.gl g d q3 hd
    exact pe_const (pe_glob g1 m1 m2 g2) (fun _ _ => by simp only [evE, hd]; rfl) m3
theorem se_op {cl : Cl} {a b : Expr} {a' b' : Ex} {o : O2} {pos : Pos} (ho : o ≠ .band) (ha : SE X W cl ϑ a a') (hb : SE X W cl ϑ b b') : SE X W cl ϑ (.BinOp a (opN o) b pos) (.op o a' b') :=
  .of (PE.of_st fun σ0 => PE.imp (pe_op (op_ok (ϑ := ϑ) (W := W) (σ := σ0) ho) ha.1 hb.1) fun σ H Q h => by
    obtain ⟨rfl, h⟩ := h
    simp only [evE] at h
    exact two h fun al S H x y v u sr rv ru R => ⟨al, S, x, y, sr, rv, ru, R⟩)
theorem se_neg {cl : Cl} {a : Expr} {a' : Ex} {pos : Pos} (ha : SE X W cl ϑ a a') : SE X W cl ϑ (.UnaryOp .USub a pos) (.neg a') :=
  .of (PE.imp (pe_un un_neg ha.1) fun σ H Q h => by
    simp only [evE] at h
    refine one h fun al S H ρ x v sr re rv R => ?_
    cases x <;> first | exact R.none.elim | skip
    rw [rv_int] at rv
    exact ⟨_, rv, R.ret sr _ (by simp [RV])⟩)
theorem se_not {cl : Cl} {a : Expr} {a' : Ex} {pos : Pos} (ni : notIf a = true) (ha : SE X W cl ϑ a a') : SE X W cl ϑ (.UnaryOp .Not a pos) (.not a') :=
  ⟨PE.imp (pe_notT ha.1) fun σ H Q h => by
    simp only [evE] at h
    refine one h fun al S H ρ x v sr re rv R => ?_
    obtain ⟨b, tv, R1⟩ := truthy_ok sr rv R.bnd
    exact ⟨b, tv, R1.ret sr _ (by simp [RV])⟩,
  fun _ => PT.imp (pt_not (ha.pt ni)) fun σ H Q h => by
    obtain ⟨al, ρ, S, sr, re, R⟩ := h
    simp only [evT, evE] at R
    refine ⟨al, ρ, S, sr, re, ?_⟩
    have R1 := R.bnd
    have e : M.bnd (evE cl a' ρ) (fun x => M.bnd (Mi.truthy x) fun k => M.ret (D.bl (!k))) S = M.bnd (evT cl a' ρ) (fun k => M.ret (D.bl (!k))) S := by
      simp only [evT]
      exact bnd_assoc _ _ _ _
    rw [e] at R1
    exact R1.bnd.imp fun al1 S1 H1 b x1 sr1 _ R2 => (R2.ret sr1).ret sr1, fun z => by cases z⟩
/-- a value, then its truth -/
theorem evT_of {cl : Cl} {ir : Ex} {ρ : Env} : evT cl ir ρ = M.bnd (evE cl ir ρ) Mi.truthy := rfl
theorem se_cmp {cl : Cl} {a b : Expr} {a' b' : Ex} {c : Cp} {pos : Pos} (hu : X.A.units + 65 < cLine) (hm : behindInMarks (cpN c) b = false) (ha : SE X W cl ϑ a a') (hb : SE X W cl ϑ b b') : SE X W cl ϑ (.Compare a [cpN c] [b] pos) (.cmp c a' b') := by
  have key : ∀ σ H (Q : Bool → Hp → Prop) (F : Bool → M D), tE (bs X ϑ) W (fun ρ => M.bnd (evE cl a' ρ) fun x => M.bnd (evE cl b' ρ) fun y => M.bnd (cmpM c x y) fun k => M.ret (.bl k)) σ H (fun v H' => ∃ k, v = .bl k ∧ Q k H') →
      tOp (rCmp (bs X ϑ) W σ (cmpM c)) (tE (bs X ϑ) W (evE cl a')) (tE (bs X ϑ) W (evE cl b')) σ H (fun v H' => ∃ k, v = .bl k ∧ Q k H') := fun σ H Q F h =>
    two h fun al S H x y v u sr rv ru R => ⟨al, S, x, y, sr, rv, ru, R.bnd.imp fun al1 S1 H1 k x1 sr1 _ R1 => R1.ret sr1 (.bl k) (by simp [RV])⟩
  refine ⟨PE.of_st fun σ0 => PE.imp (pe_cmpR (cmp_ok (ϑ := ϑ) (W := W) (σ := σ0) hu c) ha.1 hb.1 hm) fun σ H Q h => ?_, fun _ => ⟨fun pins s σ H Q I h => ?_⟩, fun z => by cases z⟩
  · obtain ⟨rfl, h⟩ := h
    simp only [evE] at h
    exact two h fun al S H x y v u sr rv ru R => ⟨al, S, x, y, sr, rv, ru, R.bnd.imp fun al1 S1 H1 k x1 sr1 _ R1 => R1.ret sr1 (.bl k) (by simp [RV])⟩
  · refine (pt_cmpR (cmp_ok (ϑ := ϑ) (W := W) (σ := σ) hu c) ha.1 hb.1 hm).run pins s σ H Q I ?_
    obtain ⟨al, ρ, S, sr, re, R⟩ := h
    refine key σ H Q (fun _ => M.fail) ⟨al, ρ, S, sr, re, ?_⟩
    have R' := R.bnd
    simp only [evE] at R'
    exact R'.imp fun al1 S1 H1 d x1 sr1 e1 R1 v rv => by
      obtain ⟨x, S2, e2, e3⟩ := bnd_ok e1
      obtain ⟨y, S3, e4, e5⟩ := bnd_ok e3
      obtain ⟨k, S4, e6, e7⟩ := bnd_ok e5
      cases e7
      rw [rv_bl] at rv
      exact ⟨k, rv, R1.ret sr1⟩
theorem se_chain {cl : Cl} {a b d : Expr} {a' b' d' : Ex} {c c2 : Cp} {pos : Pos} (hu : X.A.units + 65 < cLine) (hm : lastMarks [cpN c, cpN c2] [b, d] = false) (ha : SE X W cl ϑ a a') (hb : SE X W cl ϑ b b') (hd : SE X W cl ϑ d d') :
    SE X W cl ϑ (.Compare a [cpN c, cpN c2] [b, d] pos) (.chain c c2 a' b' d') := by
  have key : ∀ σ H (Q : VK), tE (bs X ϑ) W (evE cl (.chain c c2 a' b' d')) σ H Q →
      tChain (rCmp (bs X ϑ) W σ (cmpM c)) (rCmp (bs X ϑ) W σ (cmpM c2)) (tE (bs X ϑ) W (evE cl a')) (tE (bs X ϑ) W (evE cl b')) (tE (bs X ϑ) W (evE cl d')) σ H Q := fun σ H Q h => by
    obtain ⟨al, ρ, S, sr, re, R⟩ := h
    simp only [evE] at R
    refine ⟨al, ρ, S, sr, re, R.bnd.imp fun al1 S1 H1 x x1 sr1 _ R1 v rv => ?_⟩
    refine ⟨al1, ρ, S1, sr1, re.mono sr x1, R1.bnd.imp fun al2 S2 H2 y x2 sr2 _ R2 u ru => ?_⟩
    have re2 := (re.mono sr x1).mono sr1 x2
    refine ⟨al2, S2, x, y, sr2, rv.mono sr1 x2, ru, R2.bnd.imp fun al3 S3 H3 k x3 sr3 _ R3 => ⟨k, rfl, ?_⟩⟩
    cases k with
    | false =>
      simp only [Bool.false_eq_true, if_false] at R3 ⊢
      exact R3.ret sr3 (.bl false) (by simp [RV])
    | true =>
      simp only [if_true] at R3 ⊢
      refine ⟨al3, ρ, S3, sr3, re2.mono sr2 x3, R3.bnd.imp fun al4 S4 H4 z x4 sr4 _ R4 w rw' => ?_⟩
      exact ⟨al4, S4, y, z, sr4, (ru.mono sr2 x3).mono sr3 x4, rw', R4.bnd.imp fun al5 S5 H5 k x5 sr5 _ R5 => R5.ret sr5 (.bl k) (by simp [RV])⟩
  refine ⟨⟨fun pins s σ H Q I h => (pe_chain (cmp_ok (ϑ := ϑ) (W := W) (σ := σ) hu c) (cmp_ok (ϑ := ϑ) (W := W) (σ := σ) hu c2) ha.1 hb.1 hd.1 hm).run pins s σ H Q I (key σ H Q h)⟩, fun _ => ⟨fun pins s σ H Q I h => ?_⟩, fun z => by cases z⟩
  refine (pt_chain (cmp_ok (ϑ := ϑ) (W := W) (σ := σ) hu c) (cmp_ok (ϑ := ϑ) (W := W) (σ := σ) hu c2) ha.1 hb.1 hd.1 hm).run pins s σ H Q I (key σ H _ ?_)
  obtain ⟨al, ρ, S, sr, re, R⟩ := h
  refine ⟨al, ρ, S, sr, re, R.bnd.imp fun al1 S1 H1 dd x1 sr1 e1 R1 v rv => ?_⟩
  obtain ⟨k, rfl⟩ : ∃ k, dd = .bl k := by
    simp only [evE] at e1
    obtain ⟨x, S2, e2, e3⟩ := bnd_ok e1
    obtain ⟨y, S3, e4, e5⟩ := bnd_ok e3
    obtain ⟨k, S4, e6, e7⟩ := bnd_ok e5
    cases k with
    | false => simp only [Bool.false_eq_true, if_false] at e7; cases e7; exact ⟨_, rfl⟩
    | true =>
      simp only [if_true] at e7
      obtain ⟨z, S5, e8, e9⟩ := bnd_ok e7
      obtain ⟨k', S6, e10, e11⟩ := bnd_ok e9
      cases e11
      exact ⟨_, rfl⟩
  rw [rv_bl] at rv
  exact ⟨k, rv, R1.ret sr1⟩
theorem se_ite {cl : Cl} {c a b : Expr} {c' a' b' : Ex} {pos : Pos} (ni : notIf c = true) (hc : SE X W cl ϑ c c') (ha : SE X W cl ϑ a a') (hb : SE X W cl ϑ b b') : SE X W cl ϑ (.IfExp c a b pos) (.ite c' a' b') :=
  ⟨PE.imp (pe_ifExp (hc.pt ni) ha.1 hb.1) fun σ H Q h => by
    obtain ⟨al, ρ, S, sr, re, R⟩ := h
    simp only [evE] at R
    rw [bnd_assoc] at R
    refine ⟨al, ρ, S, sr, re, R.bnd.imp fun al1 S1 H1 k x1 sr1 _ R1 => ?_⟩
    cases k with
    | true => simp only [if_true] at R1 ⊢; exact ⟨al1, ρ, S1, sr1, re.mono sr x1, R1⟩
    | false => simp only [Bool.false_eq_true, if_false] at R1 ⊢; exact ⟨al1, ρ, S1, sr1, re.mono sr x1, R1⟩, (fun z => by cases z), fun z => by cases z⟩
theorem se_solo {cl : Cl} {a : Expr} {a' : Ex} {op : BoolOp} {pos : Pos} (ni : notIf a = true) (ha : SE X W cl ϑ a a') : SE X W cl ϑ (.BoolOp op [a] pos) a' := by
  have pw : PW X (.BoolOp op [a] pos) (tT (bs X ϑ) W (evT cl a')) := by
    cases op with
    | And => exact pw_and1 (ha.pt ni)
    | Or => exact pw_or1 (ha.pt ni)
  exact ⟨pe_one ha.1, fun _ => pw.pt, fun _ => pw⟩
theorem truthy_twice {x : D} {m : M Bool} {S : Store} : M.bnd (Mi.truthy x) (fun k => if k then m else Mi.truthy x) S = M.bnd (Mi.truthy x) (fun k => if k then m else M.ret false) S := by
  unfold M.bnd
  cases e : Mi.truthy x S with
  | none => rfl
  | some p =>
    obtain ⟨o, S1⟩ := p
    obtain ⟨b, rfl, rfl⟩ := truthy_pure e
    cases b with
    | true => rfl
    | false => exact e
theorem truthy_twice' {x : D} {m : M Bool} {S : Store} : M.bnd (Mi.truthy x) (fun k => if k then Mi.truthy x else m) S = M.bnd (Mi.truthy x) (fun k => if k then M.ret true else m) S := by
  unfold M.bnd
  cases e : Mi.truthy x S with
  | none => rfl
  | some p =>
    obtain ⟨o, S1⟩ := p
    obtain ⟨b, rfl, rfl⟩ := truthy_pure e
    cases b with
    | true => exact e
    | false => rfl
theorem evT_and {cl : Cl} {a' r' : Ex} {ρ : Env} {S : Store} : evT cl (.and a' r') ρ S = M.bnd (evT cl a' ρ) (fun k => if k then evT cl r' ρ else M.ret false) S := by
  unfold evT
  simp only [evE]
  rw [← bnd_assoc, ← bnd_assoc]
  refine bnd_congr fun x S => ?_
  rw [← bnd_assoc, ← truthy_twice]
  refine bnd_congr fun k S => ?_
  cases k <;> rfl
theorem evT_or {cl : Cl} {a' r' : Ex} {ρ : Env} {S : Store} : evT cl (.or a' r') ρ S = M.bnd (evT cl a' ρ) (fun k => if k then M.ret true else evT cl r' ρ) S := by
  unfold evT
  simp only [evE]
  rw [← bnd_assoc, ← bnd_assoc]
  refine bnd_congr fun x S => ?_
  rw [← bnd_assoc, ← truthy_twice']
  refine bnd_congr fun k S => ?_
  cases k <;> rfl
theorem se_and {cl : Cl} {a b : Expr} {r : List Expr} {a' r' : Ex} {pos : Pos} (ni : notIf a = true) (ha : SE X W cl ϑ a a') (hb : SE X W cl ϑ (.BoolOp .And (b :: r) pos) r') : SE X W cl ϑ (.BoolOp .And (a :: b :: r) pos) (.and a' r') := by
  have pw : PW X (.BoolOp .And (a :: b :: r) pos) (tT (bs X ϑ) W (evT cl (.and a' r'))) := PW.imp (pw_and (ha.pt ni) (hb.pw rfl)) fun σ H Q h => by
    obtain ⟨al, ρ, S, sr, re, R⟩ := h
    rw [evT_and] at R
    refine ⟨al, ρ, S, sr, re, R.bnd.imp fun al1 S1 H1 k x1 sr1 _ R1 => ?_⟩
    cases k with
    | true => simp only [if_true] at R1 ⊢; exact ⟨al1, ρ, S1, sr1, re.mono sr x1, R1⟩
    | false => simp only [Bool.false_eq_true, if_false] at R1 ⊢; exact R1.ret sr1
  refine ⟨PE.imp (pe_andT ha.1 hb.1) fun σ H Q h => ?_, fun _ => pw.pt, fun _ => pw⟩
  obtain ⟨al, ρ, S, sr, re, R⟩ := h
  simp only [evE] at R
  refine ⟨al, ρ, S, sr, re, R.bnd.imp fun al1 S1 H1 x x1 sr1 _ R1 v rv => ?_⟩
  have re1 := re.mono sr x1
  obtain ⟨o, S2, e2, _⟩ := R1.bnd
  obtain ⟨k, rfl, rfl⟩ := truthy_pure e2
  obtain ⟨k', tv, R2⟩ := truthy_ok sr1 rv R1.bnd
  refine ⟨k', tv, ?_⟩
  cases k' with
  | true => simp only [if_true] at R2 ⊢; exact ⟨al1, ρ, S2, sr1, re1, R2⟩
  | false => simp only [Bool.false_eq_true, if_false] at R2 ⊢; exact R2.ret sr1 v rv
theorem se_or {cl : Cl} {a b : Expr} {r : List Expr} {a' r' : Ex} {pos : Pos} (ni : notIf a = true) (ha : SE X W cl ϑ a a') (hb : SE X W cl ϑ (.BoolOp .Or (b :: r) pos) r') : SE X W cl ϑ (.BoolOp .Or (a :: b :: r) pos) (.or a' r') := by
  have pw : PW X (.BoolOp .Or (a :: b :: r) pos) (tT (bs X ϑ) W (evT cl (.or a' r'))) := PW.imp (pw_or (ha.pt ni) (hb.pw rfl)) fun σ H Q h => by
    obtain ⟨al, ρ, S, sr, re, R⟩ := h
    rw [evT_or] at R
    refine ⟨al, ρ, S, sr, re, R.bnd.imp fun al1 S1 H1 k x1 sr1 _ R1 => ?_⟩
    cases k with
    | true => simp only [if_true] at R1 ⊢; exact R1.ret sr1
    | false => simp only [Bool.false_eq_true, if_false] at R1 ⊢; exact ⟨al1, ρ, S1, sr1, re.mono sr x1, R1⟩
  refine ⟨PE.imp (pe_orT ha.1 hb.1) fun σ H Q h => ?_, fun _ => pw.pt, fun _ => pw⟩
  obtain ⟨al, ρ, S, sr, re, R⟩ := h
  simp only [evE] at R
  refine ⟨al, ρ, S, sr, re, R.bnd.imp fun al1 S1 H1 x x1 sr1 _ R1 v rv => ?_⟩
  have re1 := re.mono sr x1
  obtain ⟨k', tv, R2⟩ := truthy_ok sr1 rv R1.bnd
  refine ⟨k', tv, ?_⟩
  cases k' with
  | true => simp only [if_true] at R2 ⊢; exact R2.ret sr1 v rv
  | false => simp only [Bool.false_eq_true, if_false] at R2 ⊢; exact ⟨al1, ρ, S1, sr1, re1, R2⟩
theorem se_tup {cl : Cl} {es : List Expr} {irs : List Ex} {k : Nat} {pos : Pos} (hl : irs.length ≤ 1000) (h : PA X es (tA (bs X ϑ) W (evEs cl irs))) : SE X W cl ϑ (.Tuple es k pos) (.tup irs) :=
  .of (PE.imp (pe_tup h) fun σ H Q h => by
    obtain ⟨al, ρ, S, sr, re, R⟩ := h
    simp only [evE] at R
    refine ⟨al, ρ, S, sr, re, R.bnd.imp fun al1 S1 H1 ds x1 sr1 e1 R1 vs rs => ⟨?_, fun p hp => tup_ok sr1 R1 hp rs⟩⟩
    rw [← rs.length, evEs_len e1]
    have : (sizeLine : Nat) = szl := rfl
    rw [this]; unfold szl; omega)
theorem se_lst {cl : Cl} {es : List Expr} {irs : List Ex} {pos : Pos} (hl : irs.length ≤ 1000) (h : PA X es (tA (bs X ϑ) W (evEs cl irs))) : SE X W cl ϑ (.List es pos) (.lst irs) :=
  .of (PE.imp (pe_lst h) fun σ H Q h => by
    obtain ⟨al, ρ, S, sr, re, R⟩ := h
    simp only [evE] at R
    refine ⟨al, ρ, S, sr, re, R.bnd.imp fun al1 S1 H1 ds x1 sr1 e1 R1 vs rs => ⟨?_, fun p hp => new_ok sr1 R1 hp ⟨vs, upd_same, rs.mono sr1 (Xt.fresh hp)⟩⟩⟩
    rw [← rs.length, evEs_len e1]
    have : (sizeLine : Nat) = szl := rfl
    rw [this]; unfold szl; omega)
theorem se_flst {cl : Cl} {es : List Expr} {irs : List Ex} {pos : Pos} (hl : irs.length ≤ 1000) (h : PA X es (tA (bs X ϑ) W (evEs cl irs))) : SE X W cl ϑ (.List es pos) (.flst irs) :=
  .of (PE.imp (pe_lst h) fun σ H Q h => by
    obtain ⟨al, ρ, S, sr, re, R⟩ := h
    simp only [evE] at R
    refine ⟨al, ρ, S, sr, re, R.bnd.imp fun al1 S1 H1 ds x1 sr1 e1 R1 vs rs => ⟨?_, fun p hp => fzl_ok sr1 R1 hp rs⟩⟩
    rw [← rs.length, evEs_len e1]
    have : (sizeLine : Nat) = szl := rfl
    rw [this]; unfold szl; omega)
theorem se_dnew {cl : Cl} {vs : List Ex} {pos : Pos} : SE X W cl ϑ (.Dict [] [] pos) (.dct [] vs) :=
  .of (PE.imp pe_dnewK fun σ H Q h => by
    obtain ⟨al, ρ, S, sr, re, R⟩ := h
    simp only [evE] at R
    exact fun p hp => new_ok sr R hp ⟨[], upd_same, rfl, .nil⟩)
theorem se_lenset {cl : Cl} {a : Expr} {a' : Ex} {p p2 q pos : Pos} (hX : XOk pk N cl X) (ha : SE X W cl ϑ a a') (hs : noStar a = true) (g1 : glB X.env.scope (nm "len") = true) (m1 : pk.bis.contains "len" = true) (g2 : glB X.env.scope (nm "set") = true) (m2 : pk.bis.contains "set" = true) :
    SE X W cl ϑ (.Call (.Name (nm "len") p) [.Call (.Name (nm "set") p2) [a] [] q] [] pos) (.lenset a') := by
  obtain ⟨k, hr, L⟩ := hX.room ϑ
  exact .of (PE.imp (lenset_ok hX.calm (glB_ok g1).1 (L.bis _ m1) (glB_ok g2).1 (L.bis _ m2) ha.pe hs) fun σ H Q h => by simp only [evE] at h; exact h)
theorem se_ix {cl : Cl} {a b : Expr} {a' b' : Ex} {pos : Pos} (hu : X.A.units + 1 < cLine) (hs : isSlice b = false) (ha : SE X W cl ϑ a a') (hb : SE X W cl ϑ b b') : SE X W cl ϑ (.Subscript a b pos) (.ix a' b') :=
  .of (PE.of_st fun σ0 => PE.imp (pe_ix (ix_ok (ϑ := ϑ) (W := W) (σ := σ0) hu) ha.1 hb.1 (fun o i => by cases b <;> first | rfl | (cases hs; done))) fun σ H Q h => by
    obtain ⟨rfl, h⟩ := h
    simp only [evE] at h
    exact two h fun al S H x y v u sr rv ru R => ⟨al, S, x, y, sr, rv, ru, R⟩)
theorem po_ok {cl : Cl} {lo : Option Expr} {lo' : Option Ex} (h : match lo, lo' with | none, none => True | some l, some l' => SE X W cl ϑ l l' | _, _ => False) : PO X lo (tO (bs X ϑ) W (evO cl lo')) := by
  cases lo with
  | none =>
    cases lo' with
    | none =>
      refine PO.imp po_none fun σ H Q h => ?_
      obtain ⟨al, ρ, S, sr, re, R⟩ := h
      simp only [evO] at R
      exact R.ret sr
    | some l' => exact h.elim
  | some l =>
    cases lo' with
    | none => exact h.elim
    | some l' =>
      refine PO.imp (po_some h.pe) fun σ H Q h => ?_
      obtain ⟨al, ρ, S, sr, re, R⟩ := h
      simp only [evO] at R
      refine ⟨al, ρ, S, sr, re, R.bnd.imp fun al1 S1 H1 x x1 sr1 e1 R1 v rv => ?_⟩
      cases x <;> first | exact R1.none.elim | skip
      rw [rv_int] at rv
      exact ⟨_, rv, R1.ret sr1⟩
theorem se_fslice {cl : Cl} {a : Expr} {a' : Ex} {lo hi : Option Expr} {lo' hi' : Option Ex} {p pos : Pos} (ha : SE X W cl ϑ a a') (hl : PO X lo (tO (bs X ϑ) W (evO cl lo'))) (hh : PO X hi (tO (bs X ϑ) W (evO cl hi'))) :
    SE X W cl ϑ (.Subscript a (.Slice lo hi none p) pos) (.fslice a' lo' hi') :=
  .of (PE.of_st fun σ0 => PE.imp (pe_slice (sl_ok (ϑ := ϑ) (W := W) (σ := σ0)) ha.1 hl hh) fun σ H Q h => by
    obtain ⟨rfl, h⟩ := h
    obtain ⟨al, ρ, S, sr, re, R⟩ := h
    simp only [evE] at R
    refine ⟨al, ρ, S, sr, re, R.bnd.imp fun al1 S1 H1 x x1 sr1 _ R1 v rv => ?_⟩
    refine ⟨al1, ρ, S1, sr1, re.mono sr x1, R1.bnd.imp fun al2 S2 H2 l x2 sr2 _ R2 => ?_⟩
    refine ⟨al2, ρ, S2, sr2, (re.mono sr x1).mono sr1 x2, R2.bnd.imp fun al3 S3 H3 u x3 sr3 _ R3 => ?_⟩
    exact ⟨al3, S3, x, sr3, (rv.mono sr1 x2).mono sr2 x3, R3⟩)
theorem se_slice {cl : Cl} {a : Expr} {a' : Ex} {lo hi : Option Expr} {lo' hi' : Option Ex} {p pos : Pos} (ha : SE X W cl ϑ a a') (hl : PO X lo (tO (bs X ϑ) W (evO cl lo'))) (hh : PO X hi (tO (bs X ϑ) W (evO cl hi'))) :
    SE X W cl ϑ (.Subscript a (.Slice lo hi none p) pos) (.slice a' lo' hi') :=
  .of (PE.of_st fun σ0 => PE.imp (pe_slice (slP_ok (ϑ := ϑ) (W := W) (σ := σ0)) ha.1 hl hh) fun σ H Q h => by
    obtain ⟨rfl, h⟩ := h
    obtain ⟨al, ρ, S, sr, re, R⟩ := h
    simp only [evE] at R
    refine ⟨al, ρ, S, sr, re, R.bnd.imp fun al1 S1 H1 x x1 sr1 _ R1 v rv => ?_⟩
    refine ⟨al1, ρ, S1, sr1, re.mono sr x1, R1.bnd.imp fun al2 S2 H2 l x2 sr2 _ R2 => ?_⟩
    refine ⟨al2, ρ, S2, sr2, (re.mono sr x1).mono sr1 x2, R2.bnd.imp fun al3 S3 H3 u x3 sr3 _ R3 => ?_⟩
    exact ⟨al3, S3, x, sr3, (rv.mono sr1 x2).mono sr2 x3, R3⟩)
theorem se_call {cl : Cl} {f : String} {p pos : Pos} {e : Expr} {es : List Expr} {irs : List Ex} (h : XOk pk N cl X) (tk : Tk pk.u X W) (hf : pk.fs.contains f = true) (hg : glB X.env.scope (nm f) = true)
    (ha : PA X (e :: es) (tA (bs X ϑ) W (evEs cl irs))) (hs : (e :: es).all noStar = true) : SE X W cl ϑ (.Call (.Name (nm f) p) (e :: es) [] pos) (.call f irs) := .of (lookup_ok h tk hf hg ha hs)
theorem se_bi {cl : Cl} {f : Bi} {s : String} {v : Value} {p pos : Pos} {e : Expr} {es : List Expr} {irs : List Ex} (h : XOk pk N cl X) (hb : biN f = some (s, v)) (ha : PA X (e :: es) (tA (bs X ϑ) W (evEs cl irs))) (hs : (e :: es).all noStar = true)
    (hg : glB X.env.scope (nm s) = true) (hm : pk.bis.contains s = true) : SE X W cl ϑ (.Call (.Name (nm s) p) (e :: es) [] pos) (.bi f irs) := by
  obtain ⟨k, hr, L⟩ := h.room ϑ
  exact .of (bi_ok h.calm hb ha hs (glB_ok hg).1 (L.bis s hm))
theorem se_isi {cl : Cl} {T : String} {t : Ty} {p p2 pos : Pos} {e : Expr} {ir : Ex} (h : XOk pk N cl X) (ht : tyN t = some T) (he : SE X W cl ϑ e ir) (hs : noStar e = true) (hg : glB X.env.scope (nm "isinstance") = true) (hm : pk.bis.contains "isinstance" = true)
    (hg2 : glB X.env.scope (nm T) = true) (hm2 : pk.bis.contains T = true) : SE X W cl ϑ (.Call (.Name "isinstance" p) [e, .Name (nm T) p2] [] pos) (.isi ir [t]) := by
  obtain ⟨k, hr, L⟩ := h.room ϑ
  obtain ⟨g1, g2, g3⟩ := glB_ok hg2
  refine .of (isi1_ok ht he.1 hs (glB_ok hg).1 (L.bis _ hm) g1 (L.bis _ hm2) ?_ g3 g2)
  cases t <;> cases ht <;> decide +kernel
theorem se_append {cl : Cl} {o e : Expr} {o' : Ex} {irs : List Ex} {apos cpos : Pos} (ho : PE X o (tE (bs X ϑ) W (evE cl o'))) (ha : PA X [e] (tA (bs X ϑ) W (evEs cl irs))) (hb : abOk o = true) (hs : noStar e = true) (hl : (apos.endLine == cpos.line) = true) :
    SE X W cl ϑ (.Call (.Attribute o "append" apos) [e] [] cpos) (.mt .append o' irs) := .of (PE.imp (append_ok ho ha hb hs hl) fun σ H Q h => by simp only [evE] at h; exact h)
theorem ev1 {β : Type} {cl : Cl} {k : Ex} {ρ : Env} {g : List D → M β} {S : Store} : M.bnd (evEs cl [k] ρ) g S = M.bnd (evE cl k ρ) (fun y => g [y]) S := by
  simp only [evEs]
  rw [← bnd_assoc]
  refine bnd_congr fun x S => rfl
theorem ev2 {β : Type} {cl : Cl} {k k2 : Ex} {ρ : Env} {g : List D → M β} {S : Store} : M.bnd (evEs cl [k, k2] ρ) g S = M.bnd (evE cl k ρ) (fun y => M.bnd (evE cl k2 ρ) fun z => g [y, z]) S := by
  simp only [evEs]
  rw [← bnd_assoc]
  refine bnd_congr fun x S => ?_
  rw [← bnd_assoc, ← bnd_assoc]
  refine bnd_congr fun x S => rfl
theorem bnd_congr' {α β : Type} {m : M α} {f g : α → M β} (h : ∀ a S, f a S = g a S) : M.bnd m f = M.bnd m g := by
  funext S
  exact bnd_congr h
theorem se_extend {cl : Cl} {o e : Expr} {o' : Ex} {irs : List Ex} {apos cpos : Pos} (ho : PE X o (tE (bs X ϑ) W (evE cl o'))) (ha : PA X [e] (tA (bs X ϑ) W (evEs cl irs))) (hb : abOk o = true) (hs : noStar e = true) (hl : (apos.endLine == cpos.line) = true) :
    SE X W cl ϑ (.Call (.Attribute o "extend" apos) [e] [] cpos) (.mt .extend o' irs) := .of (PE.imp (lmeth_ok (m := .extend) PySem.F.slot_list_extend PySem.F.type_list_extend mt_extend (fun _ => rfl) (fun σ al S H n xs ds us Q sr hn rs R _ => extend_rd sr hn rs R) ho ha hb (by simp [hs]) (by show 1 < 30; decide) hl) fun σ H Q h => by simp only [evE] at h; exact h)
theorem se_popAt {cl : Cl} {o e : Expr} {o' : Ex} {irs : List Ex} {apos cpos : Pos} (ho : PE X o (tE (bs X ϑ) W (evE cl o'))) (ha : PA X [e] (tA (bs X ϑ) W (evEs cl irs))) (hb : abOk o = true) (hs : noStar e = true) (hl : (apos.endLine == cpos.line) = true) :
    SE X W cl ϑ (.Call (.Attribute o "pop" apos) [e] [] cpos) (.mt .popAt o' irs) := .of (PE.imp (lmeth_ok (m := .popAt) PySem.F.slot_list_pop PySem.F.type_list_pop mt_popAt (fun _ => rfl) (fun σ al S H n xs ds us Q sr hn rs R _ => popAt_rd sr hn rs R) ho ha hb (by simp [hs]) (by show 1 < 30; decide) hl) fun σ H Q h => by simp only [evE] at h; exact h)
theorem se_pop {cl : Cl} {o : Expr} {o' : Ex} {apos cpos : Pos} (ho : PE X o (tE (bs X ϑ) W (evE cl o'))) (hb : abOk o = true) (hl : (apos.endLine == cpos.line) = true) :
    SE X W cl ϑ (.Call (.Attribute o "pop" apos) [] [] cpos) (.mt .pop o' []) := .of (PE.imp (pop_ok ho hb hl) fun σ H Q h => by simp only [evE, evEs] at h; exact h)
theorem se_get1 {cl : Cl} {o e : Expr} {o' e' : Ex} {apos cpos : Pos} (hu : X.A.units + 1 < cLine) (ho : PE X o (tE (bs X ϑ) W (evE cl o'))) (he : PE X e (tE (bs X ϑ) W (evE cl e'))) (hb : abOk o = true) (hs : noStar e = true) (hl : (apos.endLine == cpos.line) = true) :
    SE X W cl ϑ (.Call (.Attribute o "get" apos) [e] [] cpos) (.mt .get1 o' [e']) := .of (PE.imp (get1_ok hu ho he hb hs hl) fun σ H Q h => by
      obtain ⟨al, ρ, S, sr, re, R⟩ := h
      refine ⟨al, ρ, S, sr, re, ?_⟩
      have e : evE cl (.mt .get1 o' [e']) ρ = M.bnd (evE cl o' ρ) fun x => M.bnd (mtPre .get1 x) fun _ => M.bnd (evE cl e' ρ) fun k => get1M x [k] := by
        simp only [evE]
        exact bnd_congr' fun x S => bnd_congr fun _ S => ev1
      rw [e] at R
      exact R)
theorem se_setdefault {cl : Cl} {o e f : Expr} {o' e' f' : Ex} {apos cpos : Pos} (ho : PE X o (tE (bs X ϑ) W (evE cl o'))) (he : PE X e (tE (bs X ϑ) W (evE cl e'))) (hf : PE X f (tE (bs X ϑ) W (evE cl f'))) (hb : abOk o = true) (hs : noStar e = true) (hs2 : noStar f = true) (hl : (apos.endLine == cpos.line) = true) :
    SE X W cl ϑ (.Call (.Attribute o "setdefault" apos) [e, f] [] cpos) (.mt .setdefault o' [e', f']) := .of (PE.imp (setdefault_ok ho he hf hb hs hs2 hl) fun σ H Q h => by
      obtain ⟨al, ρ, S, sr, re, R⟩ := h
      refine ⟨al, ρ, S, sr, re, ?_⟩
      have e : evE cl (.mt .setdefault o' [e', f']) ρ = M.bnd (evE cl o' ρ) fun x => M.bnd (mtPre .setdefault x) fun _ => M.bnd (evE cl e' ρ) fun k => M.bnd (evE cl f' ρ) fun v => setdefaultM x [k, v] := by
        simp only [evE]
        exact bnd_congr' fun x S => bnd_congr fun _ S => ev2
      rw [e] at R
      exact R)
theorem se_upper {cl : Cl} {o : Expr} {o' : Ex} {apos cpos : Pos} (ho : PE X o (tE (bs X ϑ) W (evE cl o'))) (hb : abOk o = true) (hl : (apos.endLine == cpos.line) = true) :
    SE X W cl ϑ (.Call (.Attribute o "upper" apos) [] [] cpos) (.mt .upper o' []) := .of (PE.imp (upper_ok ho hb hl) fun σ H Q h => by simp only [evE, evEs] at h; exact h)
theorem isSet_fold {iter : Expr} {env : PySem.Env} (h : (match iter with | .Set _ _ _ => false | _ => true) = true) : ∀ x, foldedSetIterable iter env x = pure x := by
  intro x
  cases iter <;> first | rfl | (cases h; done)
theorem PE.ex {α : Type} {X : Cx} {e : Expr} {t : α → TE} (h : ∀ a, PE X e (t a)) : PE X e (fun σ H Q => ∃ a, t a σ H Q) := ⟨fun pins s σ H Q I ⟨a, q⟩ => (h a).run pins s σ H Q I q⟩
theorem PTs.ex {α : Type} {X : Cx} {e : List Expr} {t : α → TT} (h : ∀ a, PTs X e (t a)) : PTs X e (fun σ H Q => ∃ a, t a σ H Q) := ⟨fun pins s σ H Q I ⟨a, q⟩ => (h a).run pins s σ H Q I q⟩
theorem se_lc {cl : Cl} {z : Bool} {elt tg iter : Expr} {ifs : List Expr} {scope : Scope} {own : List (Str × Nat)} {pos : Pos} {elt' : Ex} {t : Tg} {k : Nat} {xs cs : List Ex} (hX : XOk pk N cl X)
    (hi : PI X tg iter (tI (bs X ϑ) W fun ρ => M.bnd (evEs cl xs ρ) (itM k))) (ok : BlkOk X.N X.env.scope scope own) (hv : ∀ j, j ∈ tgV t → j ∈ own.map (·.2))
    (hg : ∀ (s : Shared) (H : Hp) (C : Addr) (l : List (Str × Addr)) (fp : List Addr), PG (X.blk s H scope (compEnvC scope l C X.env) fp) tg (gTg X.K t))
    (ht : ∀ (s : Shared) (H : Hp) (C : Addr) (l : List (Str × Addr)) (fp : List Addr) (ϑ' : Addr → Prop), PTs (X.blk s H scope (compEnvC scope l C X.env) fp) ifs (tT (bs X ϑ') W0 (evCs cl cs)))
    (he : ∀ (s : Shared) (H : Hp) (C : Addr) (l : List (Str × Addr)) (fp : List Addr) (ϑ' : Addr → Prop), PE (X.blk s H scope (compEnvC scope l C X.env) fp) elt (tE (bs X ϑ') W0 (evE cl elt')))
    (hs : ∀ x, foldedSetIterable iter X.env x = pure x) : SE X W cl ϑ (.ListComp elt [⟨tg, iter, ifs, 0⟩] scope pos) (.lc z elt' t k xs cs (own.map (·.2))) :=
  .of (PE.imp (pe_lc hX.calm (by rw [hX.hN]; exact hX.nd) hi ok hg (fun s H C l fp => PTs.ex (ht s H C l fp)) (fun s H C l fp => PE.ex (he s H C l fp)) hs) fun σ H Q h => by
    simp only [evE] at h
    exact lc_read hv h)
/-- what is walked -/
theorem pi_ok {cl : Cl} {p : Expr → Ex → Bool} {tg iter : Expr} {k : Nat} {xs : List Ex} (hX : XOk pk N cl X) (hp : ∀ e i, p e i = true → PE X e (tE (bs X ϑ) W (evE cl i))) (q : chkIt pk p X.env.scope iter k xs = true) :
    PI X tg iter (tI (bs X ϑ) W fun ρ => M.bnd (evEs cl xs ρ) (itM k)) ∧ ∀ x, foldedSetIterable iter X.env x = pure x := by
  obtain ⟨k0, hr, L⟩ := hX.room ϑ
  unfold chkIt at q
  split at q
  · split at q
    · cases q
    · rename_i hns
      split at q
      · rename_i x
        refine ⟨PI.imp (it_seq (hp _ _ q)) fun σ H R h => ?_, ?_⟩
        · obtain ⟨al, ρ, S, sr, re, RR⟩ := h
          refine ⟨al, ρ, S, sr, re, ?_⟩
          have e : M.bnd (evEs cl [x] ρ) (itM 0) S = M.bnd (evE cl x ρ) seqM S := by
            simp only [evEs]
            rw [← bnd_assoc]
            refine bnd_congr fun d S => rfl
          show Res (bs X ϑ) W σ al S H (M.bnd (evE cl x ρ) seqM S) _
          rw [← e]
          exact RR
        · exact isSet_fold (by cases iter <;> first | rfl | exact absurd rfl (hns _ _ _))
      · cases q
  · split at q
    · rename_i x _ e _
      simp only [Bool.and_eq_true, decide_eq_true_eq] at q
      obtain ⟨⟨⟨rfl, q2⟩, q3⟩, q4⟩ := q
      have st := (zipAll_star q4).1
      simp only [List.all_cons, Bool.and_eq_true] at st
      exact ⟨it_range1 (glB_ok q2).1 (L.bis _ q3) (pa_ok hp q4) st.1, fun _ => rfl⟩
    · cases q
  · split at q
    · rename_i x _ e f _
      simp only [Bool.and_eq_true, decide_eq_true_eq] at q
      obtain ⟨⟨⟨rfl, q2⟩, q3⟩, q4⟩ := q
      have st := (zipAll_star q4).1
      simp only [List.all_cons, Bool.and_eq_true] at st
      exact ⟨it_range2 (glB_ok q2).1 (L.bis _ q3) (pa_ok hp q4) st.1 st.2.1, fun _ => rfl⟩
    · cases q
  · cases q
end
theorem comp_tests' {pk : Pk} {N : List Str} {cl : Cl} {X : Cx} {n : Nat} {sc : Scope} {ifs : List Expr} {cs : List Ex} (ih : ∀ e ir, chkE pk N n sc e ir = true → SE X W0 cl ϑ e ir)
    (q6 : (match ifs, cs with
              | [], [] => true
              | [c], [c'] => notIf c && chkE pk N n sc c c'
              | _, _ => false) = true) : PTs X ifs (tT (bs X ϑ) W0 (evCs cl cs)) := by
  split at q6
  · refine ⟨fun pins s1 σ1 H1 Q I h => pts_nil.run pins s1 σ1 H1 Q I ?_⟩
    obtain ⟨al, ρ, S, sr, re, R⟩ := h
    simp only [evCs] at R
    exact R.ret sr
  · rename_i c c'
    simp only [Bool.and_eq_true] at q6
    have hc := (ih c c' q6.2).pt q6.1
    refine ⟨fun pins s1 σ1 H1 Q I h => (pts_one hc).run pins s1 σ1 H1 Q I ?_⟩
    obtain ⟨al, ρ, S, sr, re, R⟩ := h
    refine ⟨al, ρ, S, sr, re, ?_⟩
    have e : evCs cl [c'] ρ S = M.bnd (evT cl c' ρ) (fun k => if k then M.ret true else M.ret false) S := by
      simp only [evCs, evT]
      rw [bnd_assoc]
    rw [e] at R
    exact R.bnd.imp fun al1 S1 H1 k x1 sr1 _ R1 => by
      cases k with
      | true => exact R1.ret sr1
      | false => exact R1.ret sr1
  · cases q6
theorem soundE (pk : Pk) (N : List Str) (cl : Cl) : ∀ (n : Nat) (X : Cx) (W : WX) (e : Expr) (ir : Ex), XOk pk N cl X → Tk pk.u X W → chkE pk N n X.env.scope e ir = true → ∀ ϑ : Addr → Prop, SE X W cl ϑ e ir
  | 0, _, _, _, _, _, _, q, _ => absurd (show false = true from q) Bool.false_ne_true
  | n + 1, X, W, e, ir, hX, tk, q, ϑ => by
    have ih := fun e ir q => soundE pk N cl n X W e ir hX tk q ϑ
    have ihp := fun e ir q => (soundE pk N cl n X W e ir hX tk q ϑ).1
    have hu := hX.units
    unfold chkE at q
    split at q
    · rename_i a hs
      simp only [Bool.and_eq_true] at q
      unfold solo at hs
      split at hs
      · cases hs
        exact se_solo q.1 (ih _ _ q.2)
      · cases hs
    · rename_i hso
      clear hso
      cases ir with
      | hole => exact se_hole
      | non => simp only at q; split at q <;> first | exact se_none | cases q
      | bl b => simp only at q; split at q <;> first | (have := of_decide_eq_true q; subst this; exact se_bl) | cases q
      | int b => simp only at q; split at q <;> first | (have := of_decide_eq_true q; subst this; exact se_int) | cases q
      | str s =>
        simp only at q
        split at q
        · simp only [Bool.and_eq_true, decide_eq_true_eq] at q
          obtain ⟨⟨rfl, q2⟩, q3⟩ := q
          exact se_str q2 q3
        · cases q
      | var i =>
        simp only at q
        split at q
        · simp only [Bool.and_eq_true, decide_eq_true_eq, Bool.not_eq_true'] at q
          exact se_var (by rw [hX.hN]; exact q.1.1.1) q.1.1.2 q.1.2 q.2
        · cases q
      | glob g =>
        simp only at q
        split at q
        · simp only [Bool.and_eq_true, decide_eq_true_eq] at q
          obtain ⟨⟨rfl, q2⟩, q3⟩ := q
          exact se_glob hX q2 q3
        · cases q
      | op o a b =>
        simp only at q
        split at q
        · simp only [Bool.and_eq_true, decide_eq_true_eq] at q
          obtain ⟨⟨⟨rfl, q2⟩, q3⟩, q4⟩ := q
          exact se_op q2 (ih _ _ q3) (ih _ _ q4)
        · cases q
      | neg a => simp only at q; split at q <;> first | exact se_neg (ih _ _ q) | cases q
      | not a =>
        simp only at q
        split at q
        · simp only [Bool.and_eq_true] at q
          exact se_not q.1 (ih _ _ q.2)
        · cases q
      | cmp c a b =>
        simp only at q
        split at q
        · simp only [Bool.and_eq_true, decide_eq_true_eq, Bool.not_eq_true'] at q
          obtain ⟨⟨⟨rfl, q2⟩, q3⟩, q4⟩ := q
          exact se_cmp hu q2 (ih _ _ q3) (ih _ _ q4)
        · cases q
      | chain c d a b f =>
        simp only at q
        split at q
        · simp only [Bool.and_eq_true, decide_eq_true_eq, Bool.not_eq_true'] at q
          obtain ⟨⟨⟨⟨⟨rfl, rfl⟩, q2⟩, q3⟩, q4⟩, q5⟩ := q
          exact se_chain hu q2 (ih _ _ q3) (ih _ _ q4) (ih _ _ q5)
        · cases q
      | and a r =>
        simp only at q
        split at q
        · simp only [Bool.and_eq_true] at q
          exact se_and q.1.1 (ih _ _ q.1.2) (ih _ _ q.2)
        · cases q
      | or a r =>
        simp only at q
        split at q
        · simp only [Bool.and_eq_true] at q
          exact se_or q.1.1 (ih _ _ q.1.2) (ih _ _ q.2)
        · cases q
      | ite c a b =>
        simp only at q
        split at q
        · simp only [Bool.and_eq_true] at q
          exact se_ite q.1.1.1 (ih _ _ q.1.1.2) (ih _ _ q.1.2) (ih _ _ q.2)
        · cases q
      | tup xs =>
        simp only at q
        split at q
        · simp only [Bool.and_eq_true, decide_eq_true_eq] at q
          exact se_tup q.1 (pa_ok ihp q.2)
        · cases q
      | lst xs =>
        simp only at q
        split at q
        · simp only [Bool.and_eq_true, decide_eq_true_eq] at q
          exact se_lst q.1 (pa_ok ihp q.2)
        · cases q
      | flst xs =>
        simp only at q
        split at q
        · simp only [Bool.and_eq_true, decide_eq_true_eq] at q
          exact se_flst q.1 (pa_ok ihp q.2)
        · cases q
      | lenset a =>
        simp only at q
        split at q
        · simp only [Bool.and_eq_true, decide_eq_true_eq] at q
          obtain ⟨⟨⟨⟨⟨⟨⟨rfl, q2⟩, q3⟩, rfl⟩, q5⟩, q6⟩, q7⟩, q8⟩ := q
          exact se_lenset hX (ih _ _ q8) q7 q2 q3 q5 q6
        · cases q
      | fslice a lo hi =>
        simp only at q
        split at q
        · simp only [Bool.and_eq_true] at q
          obtain ⟨⟨q1, q2⟩, q3⟩ := q
          have po : ∀ (lo : Option Expr) (lo' : Option Ex), (match lo, lo' with | none, none => true | some l, some l' => chkE pk N n X.env.scope l l' | _, _ => false) = true → PO X lo (tO (bs X ϑ) W (evO cl lo')) := fun lo lo' h => po_ok (by
            cases lo <;> cases lo' <;> first | trivial | (cases h; done) | exact ih _ _ h)
          exact se_fslice (ih _ _ q1) (po _ _ q2) (po _ _ q3)
        · cases q
      | ix a b =>
        simp only at q
        split at q
        · simp only [Bool.and_eq_true, Bool.not_eq_true'] at q
          exact se_ix (by omega) q.1.1 (ih _ _ q.1.2) (ih _ _ q.2)
        · cases q
      | slice a lo hi =>
        simp only at q
        split at q
        · simp only [Bool.and_eq_true] at q
          obtain ⟨⟨q1, q2⟩, q3⟩ := q
          have po : ∀ (lo : Option Expr) (lo' : Option Ex), (match lo, lo' with | none, none => true | some l, some l' => chkE pk N n X.env.scope l l' | _, _ => false) = true → PO X lo (tO (bs X ϑ) W (evO cl lo')) := fun lo lo' h => po_ok (by
            cases lo <;> cases lo' <;> first | trivial | (cases h; done) | exact ih _ _ h)
          exact se_slice (ih _ _ q1) (po _ _ q2) (po _ _ q3)
        · cases q
      | call f xs =>
        simp only at q
        split at q
        · simp only [Bool.and_eq_true, decide_eq_true_eq] at q
          obtain ⟨⟨⟨rfl, q2⟩, q3⟩, q4⟩ := q
          exact se_call hX tk q3 q2 (pa_ok ihp q4) (zipAll_star q4).1
        · cases q
      | bi f xs =>
        simp only at q
        split at q
        · rename_i hb
          simp only [Bool.and_eq_true, decide_eq_true_eq] at q
          obtain ⟨⟨⟨rfl, q2⟩, q3⟩, q4⟩ := q
          exact se_bi hX hb (pa_ok ihp q4) (zipAll_star q4).1 q2 q3
        · cases q
      | isi a ts =>
        simp only at q
        split at q
        · split at q
          · rename_i ht
            simp only [Bool.and_eq_true, decide_eq_true_eq] at q
            obtain ⟨⟨⟨⟨⟨⟨⟨rfl, q2⟩, q3⟩, rfl⟩, q5⟩, q6⟩, q7⟩, q8⟩ := q
            exact se_isi hX ht (ih _ _ q8) q7 q2 q3 q5 q6
          · cases q
        · cases q
      | mt m o xs =>
        simp only at q
        split at q
        · simp only [Bool.and_eq_true, decide_eq_true_eq] at q
          obtain ⟨⟨⟨⟨rfl, q2⟩, q3⟩, q4⟩, q5⟩ := q
          have st := (zipAll_star q5).1
          simp only [List.all_cons, Bool.and_eq_true] at st
          exact se_append (ihp _ _ q4) (pa_ok ihp q5) q3 st.1 q2
        · simp only [Bool.and_eq_true, decide_eq_true_eq] at q
          obtain ⟨⟨⟨⟨rfl, q2⟩, q3⟩, q4⟩, q5⟩ := q
          have st := (zipAll_star q5).1
          simp only [List.all_cons, Bool.and_eq_true] at st
          exact se_extend (ihp _ _ q4) (pa_ok ihp q5) q3 st.1 q2
        · simp only [Bool.and_eq_true, decide_eq_true_eq] at q
          obtain ⟨⟨⟨⟨rfl, q2⟩, q3⟩, q4⟩, q5⟩ := q
          have st := (zipAll_star q5).1
          simp only [List.all_cons, Bool.and_eq_true] at st
          exact se_popAt (ihp _ _ q4) (pa_ok ihp q5) q3 st.1 q2
        · simp only [Bool.and_eq_true, decide_eq_true_eq] at q
          obtain ⟨⟨⟨⟨rfl, q2⟩, q3⟩, q4⟩, q5⟩ := q
          match xs, q5 with
          | [], q5 => simp [zipAll] at q5
          | [k], q5 =>
            simp only [zipAll, Bool.and_eq_true] at q5
            exact se_get1 (by omega) (ihp _ _ q4) (ihp _ _ q5.1.2) q3 q5.1.1 q2
          | _ :: _ :: _, q5 => simp [zipAll] at q5
        · simp only [Bool.and_eq_true, decide_eq_true_eq] at q
          obtain ⟨⟨⟨⟨rfl, q2⟩, q3⟩, q4⟩, q5⟩ := q
          match xs, q5 with
          | [], q5 => simp [zipAll] at q5
          | [_], q5 => simp [zipAll] at q5
          | [k, v], q5 =>
            simp only [zipAll, Bool.and_eq_true] at q5
            exact se_setdefault (ihp _ _ q4) (ihp _ _ q5.1.2) (ihp _ _ q5.2.1.2) q3 q5.1.1 q5.2.1.1 q2
          | _ :: _ :: _ :: _, q5 => simp [zipAll] at q5
        · simp only [Bool.and_eq_true, decide_eq_true_eq, List.isEmpty_iff] at q
          obtain ⟨⟨⟨⟨rfl, q2⟩, q3⟩, q4⟩, rfl⟩ := q
          exact se_pop (ihp _ _ q4) q3 q2
        · simp only [Bool.and_eq_true, decide_eq_true_eq, List.isEmpty_iff] at q
          obtain ⟨⟨⟨⟨rfl, q2⟩, q3⟩, q4⟩, rfl⟩ := q
          exact se_upper (ihp _ _ q4) q3 q2
        · cases q
      | lc z elt' t k xs cs vs =>
        simp only at q
        split at q
        · rename_i elt tg iter ifs scope _
          simp only [Bool.and_eq_true, decide_eq_true_eq, List.all_eq_true] at q
          obtain ⟨⟨⟨⟨⟨⟨q1, rfl⟩, q3⟩, q4⟩, q5⟩, q6⟩, q7⟩ := q
          obtain ⟨p1, p2⟩ := pi_ok (tg := tg) hX ihp q5
          have blkX : ∀ (s : Shared) (H : Hp) (C : Addr) (l : List (Str × Addr)) (fp : List Addr), XOk pk N cl (X.blk s H scope (compEnvC scope l C X.env) fp) := fun s H C l fp => hX.blk s H scope _ fp
          refine se_lc hX p1 (by rw [hX.hN]; exact blkOk_by q1) (fun j hj => by have := q3 j hj; simpa using this)
            (fun s H C l fp => pg_ok (blkX s H C l fp) (fnm := fun x => scope.names.lookup x == some .cell) (fun x h => h) q4) (fun s H C l fp ϑ' => ?_) (fun s H C l fp ϑ' => ?_) p2
          · exact comp_tests' (X := X.blk s H scope (compEnvC scope l C X.env) fp) (ϑ := ϑ') (fun e ir q => soundE pk N cl n _ W0 e ir (blkX s H C l fp) (tk0 _) q ϑ') q6
          · exact (soundE pk N cl n (X.blk s H scope (compEnvC scope l C X.env) fp) W0 elt elt' (blkX s H C l fp) (tk0 _) q7 ϑ').1
        · cases q
      | dct ks _ =>
        simp only at q
        split at q
        · exact se_dnew
        · cases q
      | meth o m xs =>
        simp only at q
        split at q
        · rename_i o2 x ap es cp
          simp only [Bool.and_eq_true, decide_eq_true_eq] at q
          obtain ⟨⟨⟨⟨⟨rfl, q2⟩, q3⟩, q4⟩, q5⟩, q6⟩ := q
          cases es with
          | nil =>
            cases xs with
            | nil => exact .of (PE.imp (meth_pe0 hX tk (ihp _ _ q5) q2 q3) fun σ H Q h => by simp only [evE] at h; exact h)
            | cons _ _ => simp [zipAll] at q6
          | cons a es => exact .of (PE.imp (meth_pe hX tk (ihp _ _ q5) (pa_ok ihp q6) q2 (zipAll_star q6).1 q4 q3) fun σ H Q h => by simp only [evE] at h; exact h)
        · cases q
      | fld o f =>
        simp only at q
        split at q
        · simp only [Bool.and_eq_true, decide_eq_true_eq] at q
          obtain ⟨⟨rfl, q2⟩, q3⟩ := q
          exact .of (PE.imp (fld_pe hX (ihp _ _ q3) q2) fun σ H Q h => by simp only [evE] at h; exact h)
        · cases q
      | new c xs =>
        simp only at q
        split at q
        · rename_i x p es pos
          simp only [Bool.and_eq_true, decide_eq_true_eq] at q
          obtain ⟨⟨⟨rfl, q2⟩, q3⟩, q4⟩ := q
          cases es with
          | nil =>
            cases xs with
            | nil => exact .of (PE.imp (new_pe0 hX tk q3 q2) fun σ H Q h => by simp only [evE] at h; exact h)
            | cons _ _ => simp [zipAll] at q4
          | cons a es => exact .of (PE.imp (new_pe hX tk q3 q2 (pa_ok ihp q4) (zipAll_star q4).1) fun σ H Q h => by simp only [evE] at h; exact h)
        · cases q
      | dc _ _ _ _ _ _ => cases q
      | fstr _ => cases q
end Mi

set_option autoImplicit true
set_option maxRecDepth 512
set_option maxHeartbeats 200000
set_option Elab.async false
set_option linter.all false
set_option maxRecDepth 100000
/-! Mi11: statements do what Mi1 says. -/
namespace Mi
open PySem PySem.Spec PyProof.Rows L2

def ResS (B : Bs) (W : WX) (al : Al) (S : Store) (H : Hp) (r : Option (Ctl × Store)) (D : Ends) : Prop :=
  ∃ c S', r = some (c, S') ∧ ∀ al' H', Xt al S.length H al' S'.length H' → SR B al' S' H' → (match c with
    | .nx ρ' => ∀ σ', RE B al' S'.length H' ρ' σ' → D.nx σ' H'
    | .rt d => ∀ v, RV B al' S'.length H' d v → D.rt v H'
    | .bk ρ' => ∀ σ', RE B al' S'.length H' ρ' σ' → D.bk σ' H'
    | .ct ρ' => ∀ σ', RE B al' S'.length H' ρ' σ' → D.ct σ' H'
    | .ex c ρ' => ∀ σ' C, RE B al' S'.length H' ρ' σ' → B.mg (nm c) = some (.ref C) → W (.ref C) none σ' H')
def tS (B : Bs) (W : WX) (m : Env → MS) : TS := fun D σ H => ∃ al ρ S, SR B al S H ∧ RE B al S.length H ρ σ ∧ ResS B W al S H (m ρ S) D
theorem PS.imp {X : Cx} {e : Stmt} {t t' : TS} (h : PS X e t) (f : ∀ D σ H, t' D σ H → t D σ H) : PS X e t' := ⟨fun pins s σ H D I q => h.run pins s σ H D I (f D σ H q)⟩
theorem PSs.imp {X : Cx} {e : List Stmt} {t t' : TS} (h : PSs X e t) (f : ∀ D σ H, t' D σ H → t D σ H) : PSs X e t' := ⟨fun pins s σ H D I q => h.run pins s σ H D I (f D σ H q)⟩

section
variable {B : Bs} {W : WX} {σ : L2.St} {al : Al} {S : Store} {H : Hp} {ρ : Env} {D : Ends} {α : Type}
/-- an expression, then a statement's rest -/
theorem ResS.bnd {m : M α} {f : α → MS} (sr : SR B al S H) (re : RE B al S.length H ρ σ) (h : ResS B W al S H (MS.bnd ρ m f S) D) :
    Res B W σ al S H (m S) (fun al1 S1 H1 d => ResS B W al1 S1 H1 (f d S1) D) := by
  obtain ⟨c, S', e, h1⟩ := h
  unfold MS.bnd at e
  cases hm : m S with
  | none => rw [hm] at e; cases e
  | some p =>
    obtain ⟨o1, S1⟩ := p
    rw [hm] at e
    cases o1 with
    | ex x =>
      cases e
      exact ⟨_, _, rfl, (fun d q => nomatch q), fun c' q al' H' C x y z => h1 al' H' x y σ C (re.mono sr x) (by cases q; exact z)⟩
    | ok a =>
      refine ⟨_, _, rfl, fun d q al1 H1 x y => ?_, fun c q => nomatch q⟩
      cases q
      exact ⟨c, S', e, fun al' H' x' y' => h1 al' H' (Xt.trans y x x') y'⟩
theorem ResS.nx (sr : SR B al S H) (h : ResS B W al S H (some (.nx ρ, S)) D) (re : RE B al S.length H ρ σ) : D.nx σ H := by
  obtain ⟨c, S', e, h1⟩ := h
  cases e
  exact h1 al H Xt.refl sr σ re
theorem ResS.none {P : Prop} (h : ResS B W al S H none D) : P := by
  obtain ⟨c, S', e, h1⟩ := h
  cases e
end
/-! ### single statements -/
section
variable {pk : Pk} {N : List Str} {cl : Cl} {X : Cx} {W : WX} {pos : Pos}
theorem asg_read {t : Tg} {e' : Ex} {D : Ends} {σ : L2.St} {H : Hp} (h : tS (bs X ϑ) W (exS cl (.asg t e')) D σ H) : tE (bs X ϑ) W (evE cl e') σ H (fun x H1 => gTg X.K t x σ H1 D.nx) := by
  obtain ⟨al, ρ, S, sr, re, R⟩ := h
  simp only [exS] at R
  refine ⟨al, ρ, S, sr, re, (R.bnd sr re).imp fun al1 S1 H1 d x1 sr1 _ R1 v rv => ?_⟩
  cases hb : bindT t d ρ with
  | none => simp only [hb] at R1; exact R1.none
  | some ρ' =>
    simp only [hb] at R1
    exact bindT_ok hb (re.mono sr x1) rv fun σ' re' _ => R1.nx sr1 re'
theorem ss_asg {tg e : Expr} {t : Tg} {e' : Ex} (he : SE X W cl ϑ e e') (hg : PG X tg (gTg X.K t)) (hn : noStar tg = true) (hs : swapsWithSole [tg] e pos.line X.env = pure false) (hw : swappedStores [tg] e X.env = pure none) :
    PS X (.Assign [tg] e pos) (tS (bs X ϑ) W (exS cl (.asg t e'))) :=
  PS.imp (ps_asg he.pe hg hs hw (by cases tg <;> first | rfl | (cases hn; done))) fun D σ H h => asg_read h
theorem key_iff {x k : Mi.D} {y ky : Key} (hx : keyO x = some y) (hk : keyO k = some ky) : x = k ↔ y = ky := by
  constructor
  · intro e
    rw [e, hk] at hx
    exact (Option.some.inj hx).symm
  · intro e
    subst e
    exact keyO_inj hx hk
theorem put_dict {B : Bs} {al : Al} {n : Nat} {H : Hp} {k d : Mi.D} {ky : Key} {v : V} (hk : keyO k = some ky) (hv : RV B al n H d v) {kvs : List (Mi.D × Mi.D)} {kvs' : List (Key × V)} (h : (kvs.map (·.1)).map keyO = kvs'.map (fun p => some p.1)) (t : RVs B al n H (kvs.map (·.2)) (kvs'.map (·.2))) :
    ((putD k d kvs).map (·.1)).map keyO = (putK kvs' ky v).map (fun p => some p.1) ∧ RVs B al n H ((putD k d kvs).map (·.2)) ((putK kvs' ky v).map (·.2)) := by
  have any_eq : ∀ {kvs : List (Mi.D × Mi.D)} {kvs' : List (Key × V)}, (kvs.map (·.1)).map keyO = kvs'.map (fun p => some p.1) → (kvs.any fun p => decide (p.1 = k)) = kvs'.any fun q => decide (q.1 = ky) := by
    intro kvs
    induction kvs with
    | nil => intro kvs' h; cases kvs' with
      | nil => rfl
      | cons _ _ => simp at h
    | cons p r ih => intro kvs' h; cases kvs' with
      | nil => simp at h
      | cons q r' =>
        simp only [List.map_cons, List.cons.injEq] at h
        rw [List.any_cons, List.any_cons, ih h.2, decide_eq_decide.mpr (key_iff h.1 hk)]
  have map_eq : ∀ {kvs : List (Mi.D × Mi.D)} {kvs' : List (Key × V)}, (kvs.map (·.1)).map keyO = kvs'.map (fun p => some p.1) → RVs B al n H (kvs.map (·.2)) (kvs'.map (·.2)) →
      (((kvs.map fun p => if p.1 = k then (p.1, d) else p).map (·.1)).map keyO = (kvs'.map fun q => if q.1 = ky then (q.1, v) else q).map (fun p => some p.1)) ∧ RVs B al n H ((kvs.map fun p => if p.1 = k then (p.1, d) else p).map (·.2)) ((kvs'.map fun q => if q.1 = ky then (q.1, v) else q).map (·.2)) := by
    intro kvs
    induction kvs with
    | nil => intro kvs' h t; cases kvs' with
      | nil => exact ⟨rfl, t⟩
      | cons _ _ => simp at h
    | cons p r ih => intro kvs' h t; cases kvs' with
      | nil => simp at h
      | cons q r' =>
        simp only [List.map_cons, List.cons.injEq] at h
        simp only [List.map_cons, RVs] at t
        obtain ⟨v', r2, e1, t1, t2⟩ := t
        cases e1
        obtain ⟨i1, i2⟩ := ih h.2 t2
        have ki := key_iff h.1 hk
        simp only [List.map_cons, RVs]
        by_cases e : p.1 = k
        · rw [if_pos e, if_pos (ki.mp e)]
          exact ⟨by rw [i1]; simp only [List.cons.injEq, and_true]; exact h.1, v, _, rfl, hv, i2⟩
        · rw [if_neg e, if_neg fun z => e (ki.mpr z)]
          exact ⟨by rw [i1]; simp only [List.cons.injEq, and_true]; exact h.1, _, _, rfl, t1, i2⟩
  unfold putD putK
  rw [any_eq h]
  by_cases hm : (kvs'.any fun q => decide (q.1 = ky)) = true
  · rw [if_pos hm, if_pos hm]
    exact map_eq h t
  · rw [if_neg hm, if_neg hm]
    refine ⟨by simp only [List.map_append, h, List.map_cons, List.map_nil, hk], ?_⟩
    rw [List.map_append, List.map_append]
    exact t.append (.one hv)
/-- o[i] = e -/
def rSetM (B : Bs) (W : WX) : TSet := fun o i v H Q => ∃ al S x k d ρ D σ, SR B al S H ∧ RE B al S.length H ρ σ ∧ RV B al S.length H x o ∧ RV B al S.length H k i ∧ RV B al S.length H d v ∧
  ResS B W al S H (MS.bnd ρ (setIxM x k d) (fun _ S => some (.nx ρ, S)) S) D ∧ ∀ H', D.nx σ H' → Q H'
theorem set_ok (hu : X.A.units + 1 < cLine) : PSet X (rSetM (bs X ϑ) W) := by
  intro pins s σ0 H o i v ov iv u Q I ro ri rv h
  obtain ⟨al, S, x, k, d, ρ, D, σ, sr, re, hx, hk, hd, R, hQ⟩ := h
  have R := R.bnd sr re
  cases x with
  | loc n =>
    have R : Res (bs X ϑ) W σ al S H (M.bnd (M.get n) (setIxC n k d) S) _ := R
    rw [rv_loc] at hx
    obtain ⟨rfl, hn⟩ := hx
    obtain ⟨c, hc, rc, R⟩ := Res.get sr R
    have put : ∀ {c : Cell} {o : HO}, Res (bs X ϑ) W σ al S H (M.put n c S) (fun al1 S1 H1 d => ResS (bs X ϑ) W al1 S1 H1 (some (.nx ρ, S1)) D) → RC (bs X ϑ) al S.length (upd H (al n) o) (al n) c → Q (upd H (al n) o) := fun {c o} R hc => by
      unfold M.put at R
      simp only [hn, if_true] at R
      have sr2 : SR (bs X ϑ) al (S.set n c) (upd H (al n) o) := SR.write sr hn hc
      have x2 : Xt al S.length H al (S.set n c).length (upd H (al n) o) := by rw [List.length_set]; exact Xt.write hn
      exact hQ _ ((Res.ok R x2 sr2).nx sr2 (re.mono sr x2))
    unfold setIxC at R
    cases c with
    | lst xs =>
      simp only at R
      cases k <;> first | exact R.none.elim | skip
      rw [rv_int] at hk
      obtain ⟨vs, e, t⟩ := rc
      obtain ⟨j, hj, R⟩ := Res.of sr R
      exact set_list pins s σ0 H _ i v ov iv u Q I ro ri rv ⟨_, vs, _, j, rfl, hk, e, by rw [← t.length]; exact hj, put R ⟨_, upd_same, (t.set j hd).mono sr (Xt.write hn)⟩⟩
    | dct kvs =>
      simp only at R
      obtain ⟨kvs', e, k2, t⟩ := rc
      obtain ⟨⟨hk1, hz⟩, R⟩ := R.need
      obtain ⟨ky, hky⟩ := keyO_of hk1
      have ei := keyO_V hky hk
      subst ei
      have hlen : kvs'.length < sizeLine := by
        have := congrArg List.length k2
        simp only [List.length_map] at this
        rw [← this]; exact hz
      cases ro
      obtain ⟨p1, p2⟩ := put_dict hky hd k2 t
      exact d_setItem (X := X) (A := X.A) (E := X.xe) hu I (DPut.k e hlen) ri rv fun s' I' => ⟨_, I', put R ⟨_, upd_same, p1, p2.mono sr (Xt.write hn)⟩⟩
    | obj c fs => exact R.none.elim
    | set xs => exact R.none.elim
  | _ => exact R.none.elim
theorem ss_asgIx {o i e : Expr} {o' i' e' : Ex} {tpos : Pos} (hu : X.A.units + 1 < cLine) (ho : SE X W cl ϑ o o') (hi : SE X W cl ϑ i i') (he : SE X W cl ϑ e e') (hns : isSlice i = false) (hs : swapsWithSole [.Subscript o i tpos] e pos.line X.env = pure false) :
    PS X (.Assign [.Subscript o i tpos] e pos) (tS (bs X ϑ) W (exS cl (.asgIx o' i' e'))) := by
  refine PS.imp (ps_asg he.pe (pg_sub ho.pe hi.pe (set_ok (ϑ := ϑ) (W := W) hu) (fun v => by cases i <;> first | rfl | (cases hns; done))) hs rfl rfl) fun D σ H h => ?_
  obtain ⟨al, ρ, S, sr, re, R⟩ := h
  simp only [exS] at R
  refine ⟨al, ρ, S, sr, re, (R.bnd sr re).imp fun al1 S1 H1 d x1 sr1 _ R1 v rv => ?_⟩
  have re1 := re.mono sr x1
  refine ⟨al1, ρ, S1, sr1, re1, (R1.bnd sr1 re1).imp fun al2 S2 H2 x x2 sr2 _ R2 w rw' => ?_⟩
  have re2 := re1.mono sr1 x2
  refine ⟨al2, ρ, S2, sr2, re2, (R2.bnd sr2 re2).imp fun al3 S3 H3 k x3 sr3 _ R3 z rz => ?_⟩
  exact ⟨al3, S3, x, k, d, ρ, D, σ, sr3, re2.mono sr2 x3, rw'.mono sr2 x3, rz, (rv.mono sr1 x2).mono sr2 x3, R3, fun H' h => h⟩
theorem ss_expr {e : Expr} {e' : Ex} (he : SE X W cl ϑ e e') (hs : swapsWith e none pos.line X.env = pure false) : PS X (.Expr e pos) (tS (bs X ϑ) W (exS cl (.expr e'))) :=
  PS.imp (ps_expr he.pe hs) fun D σ H h => by
    obtain ⟨al, ρ, S, sr, re, R⟩ := h
    simp only [exS] at R
    exact ⟨al, ρ, S, sr, re, (R.bnd sr re).imp fun al1 S1 H1 d x1 sr1 _ R1 v rv => R1.nx sr1 (re.mono sr x1)⟩
/-- o.f = e -/
theorem ss_asgFld {o e : Expr} {o' e' : Ex} {f : String} {pos' : Pos} (hX : XOk pk N cl X) (ho : SE X W cl ϑ o o') (he : SE X W cl ϑ e e') (hs : swapsWith e (some (.Attribute o (nm f) pos')) pos.line X.env = pure false) :
    PS X (.Assign [.Attribute o (nm f) pos'] e pos) (tS (bs X ϑ) W (exS cl (.asgFld o' f e'))) := by
  obtain ⟨k, hr, L⟩ := hX.room ϑ
  refine PS.imp (ps_fld ho.pe he.pe hs) fun D σ H h => ?_
  obtain ⟨al, ρ, S, sr, re, R⟩ := h
  simp only [exS] at R
  refine ⟨al, ρ, S, sr, re, (R.bnd sr re).imp fun al1 S1 H1 d x1 sr1 _ R1 v rv => ?_⟩
  have re1 := re.mono sr x1
  refine ⟨al1, ρ, S1, sr1, re1, (R1.bnd sr1 re1).imp fun al2 S2 H2 x x2 sr2 _ R2 w rw' => ?_⟩
  have re2 := re1.mono sr1 x2
  have rv2 := rv.mono sr1 x2
  have R3 := R2.bnd sr2 re2
  unfold setFldM at R3
  split at R3
  · rename_i n0 _
    rw [rv_loc] at rw'
    obtain ⟨rfl, hi⟩ := rw'
    obtain ⟨c, hc, rc, R4⟩ := Res.get sr2 R3
    unfold setFldC at R4
    split at R4
    · rename_i c' fs
      obtain ⟨C, dx, fs', e1, e2, e3, t⟩ := rc
      obtain ⟨⟨hf, hlen⟩, R5⟩ := R4.need
      have hf2 : cl.fl c' f = true := by
        unfold flOk at hf
        rw [Bool.and_eq_true] at hf
        exact hf.1
      obtain ⟨C', g1, g2, g3⟩ := L.fl c' f hf2
      have : C' = C := by
        have := e2.symm.trans g1
        cases this
        rfl
      subst this
      have hl : fs'.length < 1000 := by
        have := congrArg List.length e3
        simp only [List.length_map] at this
        omega
      refine ⟨_, C', dx, fs', rfl, e1, g2, g3, hl, ?_⟩
      unfold M.put at R5
      simp only [hi, if_true] at R5
      obtain ⟨i1, i2⟩ := put_rel rv2 e3 t (fl_inj L hf)
      have xw : Xt al2 S2.length H2 al2 S2.length (upd H2 (al2 n0) (.ins C' dx (putF (nm f) v fs'))) := Xt.write (o := .ins C' dx (putF (nm f) v fs')) hi
      have sw : SR (bs X ϑ) al2 (S2.set n0 (.obj c' (putFd f d fs))) (upd H2 (al2 n0) (.ins C' dx (putF (nm f) v fs'))) := SR.write sr2 hi ⟨C', dx, _, upd_same, e2, i1, i2.mono sr2 xw⟩
      have x2' : Xt al2 S2.length H2 al2 (S2.set n0 (.obj c' (putFd f d fs))).length (upd H2 (al2 n0) (.ins C' dx (putF (nm f) v fs'))) := by rw [List.length_set]; exact xw
      exact (Res.ok R5 x2' sw).nx sw (re2.mono sr2 x2')
    · exact R4.none.elim
  · exact R3.none.elim
/-- o.f += e -/
theorem ss_augFld {o e : Expr} {o' e' : Ex} {f : String} {tpos : Pos} (hX : XOk pk N cl X) (ho : SE X W cl ϑ o o') (he : SE X W cl ϑ e e') (hpu : ∀ ρ S y S2, evE cl e' ρ S = some (.ok y, S2) → S2 = S) :
    PS X (.AugAssign (.Attribute o (nm f) tpos) .Add e pos) (tS (bs X ϑ) W (exS cl (.augFld o' f .add e'))) := by
  obtain ⟨k, hr, L⟩ := hX.room ϑ
  refine PS.imp (ps_fldaug ho.pe he.pe in_add) fun D σ H h => ?_
  obtain ⟨al, ρ, S, sr, re, R⟩ := h
  simp only [exS] at R
  refine ⟨al, ρ, S, sr, re, (R.bnd sr re).imp fun al1 S1 H1 x x1 sr1 _ R1 v rv => ?_⟩
  have re1 := re.mono sr x1
  obtain ⟨a, C, dx, fs', w, u, h1, h2, h3, h4, h5, h6, R2⟩ := fldF_at L sr1 rv (R1.bnd sr1 re1)
  refine ⟨a, C, dx, fs', w, h1, h2, h3, h4, h5, al1, ρ, S1, sr1, re1, (R2.bnd sr1 re1).imp fun al2 S2 H2 y x2 sr2 ep R3 z rz => ?_⟩
  have hS := hpu _ _ _ _ ep
  subst hS
  have re2 := re1.mono sr1 x2
  have R4 := R3.bnd sr2 re2
  obtain ⟨i, j, rfl, rfl⟩ : ∃ i j, u = .int i ∧ y = .int j := by
    cases u <;> cases y <;> first | exact ⟨_, _, rfl, rfl⟩ | exact R4.none.elim
  ·
    have h6' := h6.mono sr1 x2
    rw [rv_int] at h6' rz
    refine ⟨i, j, h6', rz, ?_⟩
    have R5 := (Res.ret (d := Mi.D.int (i + j)) sr2 R4).bnd sr2 re2
    have rv2 := rv.mono sr1 x2
    cases x with
    | loc n0 =>
      have R5 : Res (bs X ϑ) W σ al2 S2 H2 (M.bnd (M.get n0) (setFldC cl n0 f (.int (i + j))) S2) _ := R5
      rw [rv_loc] at rv2
      obtain ⟨e0, hi⟩ := rv2
      obtain ⟨c, hc, rc, R6⟩ := Res.get sr2 R5
      unfold setFldC at R6
      split at R6
      · rename_i c' fs
        obtain ⟨C2, dx2, fs2, e1, e2, e3, t⟩ := rc
        obtain ⟨⟨hf, hlen⟩, R7⟩ := R6.need
        have hf2 : cl.fl c' f = true := by
          unfold flOk at hf
          rw [Bool.and_eq_true] at hf
          exact hf.1
        obtain ⟨C', g1, g2, g3⟩ := L.fl c' f hf2
        have hC : C2 = C := by
          obtain ⟨C3, dx3, fs3, q1, q2, _⟩ := sr1.cell n0 _ hc
          rw [rv_loc] at rv
          have ea : a = al1 n0 := by
            have := rv.1
            rw [h1] at this
            cases this
            rfl
          rw [ea, q1] at h2
          cases h2
          have z := e2.symm.trans q2
          cases z
          rfl
        subst hC
        have hl : fs2.length < 1000 := by
          have := congrArg List.length e3
          simp only [List.length_map] at this
          omega
        have ea : a = al2 n0 := by
          rw [h1] at e0
          cases e0
          rfl
        refine ⟨dx2, fs2, by rw [ea]; exact e1, hl, ?_⟩
        rw [ea]
        unfold M.put at R7
        simp only [hi, if_true] at R7
        have rz2 : RV (bs X ϑ) al2 S2.length H2 (.int (i + j)) (.int (i + j)) := by rw [rv_int]
        obtain ⟨i1, i2⟩ := put_rel rz2 e3 t (fl_inj L hf)
        have xw : Xt al2 S2.length H2 al2 S2.length (upd H2 (al2 n0) (.ins C2 dx2 (putF (nm f) (.int (i + j)) fs2))) := Xt.write (o := .ins C2 dx2 (putF (nm f) (.int (i + j)) fs2)) hi
        have sw : SR (bs X ϑ) al2 (S2.set n0 (.obj c' (putFd f (.int (i + j)) fs))) (upd H2 (al2 n0) (.ins C2 dx2 (putF (nm f) (.int (i + j)) fs2))) := SR.write sr2 hi ⟨C2, dx2, _, upd_same, e2, i1, i2.mono sr2 xw⟩
        have x2' : Xt al2 S2.length H2 al2 (S2.set n0 (.obj c' (putFd f (.int (i + j)) fs))).length (upd H2 (al2 n0) (.ins C2 dx2 (putF (nm f) (.int (i + j)) fs2))) := by rw [List.length_set]; exact xw
        exact (Res.ok R7 x2' sw).nx sw (re2.mono sr2 x2')
      · exact R6.none.elim
    | _ => exact R5.none.elim
theorem raise_u {u : Bool} {C : Addr} {bmB : List Value} {Bn newId initId : String} {x m : Str} {j : Nat} {p p2 q pos : Pos} (hc : X.calm = true) (tk : Tk u X W) (F : ExcBaseFacts Bn newId initId bmB) (h1 : PySem.W.excIn X.K C bmB newId = true) (h2 : X.mg x = some (.ref C)) (h3 : PySem.W.keepIn X.K (.ref C) = true)
    (r : Raises X (.ref C)) (g1 : Gl X x) (g2 : (x == ("__debug__" : Str)) = false) : PS X (.Raise (some (.Call (.Name x p) [.Constant (.str m) j p2] [] q)) none pos) (fun _ σ H => W (.ref C) none σ H) := by
  cases u
  · exact L2N.ps_raise hc tk (L2N.pmk_own (m := m) (j := j) (p2 := p2) F h1 h2 h3 r g1 g2)
  · exact L2.ps_raise hc tk (L2.pmk_own (m := m) (j := j) (p2 := p2) F h1 h2 h3 r g1 g2)
/-- raise c('..') -/
theorem ss_raise {c : String} {m : Str} {j : Nat} {p p2 q : Pos} (hX : XOk pk N cl X) (tk : Tk pk.u X W) (hc : pk.xs.contains c = true) (hg : glB X.env.scope (nm c) = true) :
    PS X (.Raise (some (.Call (.Name (nm c) p) [.Constant (.str m) j p2] [] q)) none pos) (tS (bs X ϑ) W (exS cl (.raise c))) := by
  obtain ⟨k, hr, L⟩ := hX.room ϑ
  obtain ⟨C, bmB, Bn, newId, initId, F, h1, h2, h3, h4, h5⟩ := L.xs c hc
  obtain ⟨g1, g2, g3⟩ := glB_ok hg
  refine PS.imp (raise_u (m := m) (j := j) (p2 := p2) hX.calm tk F h1 h2 h3 (raises_own h4 h5) g1 g2) fun D σ H h => ?_
  obtain ⟨al, ρ, S, sr, re, c', S', e, h6⟩ := h
  simp only [exS] at e
  cases e
  exact h6 al H Xt.refl sr σ C re h2
theorem ss_ret {e : Expr} {e' : Ex} (he : SE X W cl ϑ e e') : PS X (.Return (some e) pos) (tS (bs X ϑ) W (exS cl (.ret e'))) :=
  PS.imp (ps_ret he.pe) fun D σ H h => by
    obtain ⟨al, ρ, S, sr, re, R⟩ := h
    simp only [exS] at R
    refine ⟨al, ρ, S, sr, re, (R.bnd sr re).imp fun al1 S1 H1 d x1 sr1 _ R1 v rv => ?_⟩
    obtain ⟨c, S', e, h1⟩ := R1
    cases e
    exact h1 al1 H1 Xt.refl sr1 v rv
theorem ss_retN : PS X (.Return none pos) (tS (bs X ϑ) W (exS cl .retN)) :=
  PS.imp ps_retN fun D σ H h => by
    obtain ⟨al, ρ, S, sr, re, R⟩ := h
    simp only [exS] at R
    obtain ⟨c, S', e, h1⟩ := R
    cases e
    exact h1 al H Xt.refl sr _ (by simp [RV])
theorem ss_pass : PS X (.Pass pos) (tS (bs X ϑ) W (exS cl .pass)) :=
  PS.imp ps_pass fun D σ H h => by
    obtain ⟨al, ρ, S, sr, re, R⟩ := h
    simp only [exS] at R
    exact R.nx sr re
theorem ss_brk : PS X (.Break pos) (tS (bs X ϑ) W (exS cl .brk)) :=
  PS.imp ps_break fun D σ H h => by
    obtain ⟨al, ρ, S, sr, re, R⟩ := h
    simp only [exS] at R
    obtain ⟨c, S', e, h1⟩ := R
    cases e
    exact h1 al H Xt.refl sr σ re
theorem ss_cont : PS X (.Continue pos) (tS (bs X ϑ) W (exS cl .cont)) :=
  PS.imp ps_continue fun D σ H h => by
    obtain ⟨al, ρ, S, sr, re, R⟩ := h
    simp only [exS] at R
    obtain ⟨c, S', e, h1⟩ := R
    cases e
    exact h1 al H Xt.refl sr σ re
theorem ss_ite {c : Expr} {c' : Ex} {a b : List Stmt} {a' b' : List St} (ni : notIf c = true) (hc : SE X W cl ϑ c c') (ha : PSs X a (tS (bs X ϑ) W (exSs cl a'))) (hb : PSs X b (tS (bs X ϑ) W (exSs cl b'))) :
    PS X (.If c a b pos) (tS (bs X ϑ) W (exS cl (.ite c' a' b'))) :=
  PS.imp (ps_if (hc.pt ni) ha hb) fun D σ H h => by
    obtain ⟨al, ρ, S, sr, re, R⟩ := h
    simp only [exS] at R
    refine ⟨al, ρ, S, sr, re, (R.bnd sr re).imp fun al1 S1 H1 k x1 sr1 _ R1 => ?_⟩
    cases k with
    | true => simp only [if_true] at R1 ⊢; exact ⟨al1, ρ, S1, sr1, re.mono sr x1, R1⟩
    | false => simp only [Bool.false_eq_true, if_false] at R1 ⊢; exact ⟨al1, ρ, S1, sr1, re.mono sr x1, R1⟩
/-! ### op= -/
def rIop (B : Bs) (W : WX) (o : O2) : TIp := fun v u H Q => ∃ al S x y ρ D i σ, SR B al S H ∧ RE B al S.length H ρ σ ∧ RV B al S.length H x v ∧ RV B al S.length H y u ∧
  ResS B W al S H (MS.bnd ρ (iopM o x y) (fun z S => some (.nx (ρ.set i (some z)), S)) S) D ∧ ∀ z H', D.nx (σ.set i (some z)) H' → Q z H'
theorem iop_ok {o : O2} (ho : o = .add ∨ o = .sub ∨ o = .mul) : PIp X (opN o) (rIop (bs X ϑ) W o) := by
  intro pins s σ0 H v u v' u' Q I rv ru h
  obtain ⟨al, S, x, y, ρ, D, i, σ, sr, re, hx, hy, R, hQ⟩ := h
  have R := R.bnd sr re
  unfold iopM at R
  have fin : ∀ {d : Mi.D} {z : V}, Res (bs X ϑ) W σ al S H (M.ret d S) (fun al1 S1 H1 d => ResS (bs X ϑ) W al1 S1 H1 (some (.nx (ρ.set i (some d)), S1)) D) → RV (bs X ϑ) al S.length H d z → Q z H := fun {d z} R r =>
    hQ z H ((R.ret sr).nx sr (re.set r))
  split at R
  · rename_i a b
    rw [rv_int] at hx hy
    rcases ho with rfl | rfl | rfl
    · exact iop_add pins s σ0 H v u v' u' Q I rv ru ⟨_, _, hx, hy, fin R (by simp [RV])⟩
    · exact iop_sub pins s σ0 H v u v' u' Q I rv ru ⟨_, _, hx, hy, fin R (by simp [RV])⟩
    · obtain ⟨hz, R⟩ := R.need
      exact iop_mul pins s σ0 H v u v' u' Q I rv ru ⟨_, _, hx, hy, by simpa [i64, CMul] using hz, fin R (by simp [RV])⟩
  · rename_i a b
    rw [rv_str] at hx hy
    rcases ho with rfl | rfl | rfl
    · obtain ⟨hz, R⟩ := R.need
      exact iop_add_str pins s σ0 H v u v' u' Q I rv ru ⟨_, _, hx.1, hy.1, by rw [txS_length, txS_length]; exact hz, by rw [txS_append]; exact fin R (by rw [rv_str]; exact ⟨rfl, by rw [List.length_append]; exact hz, by rw [List.all_append, hx.2.2, hy.2.2]; rfl⟩)⟩
    · exact R.none.elim
    · exact R.none.elim
  · exact R.none.elim
theorem ss_aug {x : Str} {i : Nat} {o : O2} {e : Expr} {e' : Ex} {p : Pos} (hX : XOk pk N cl X) (ho : o = .add ∨ o = .sub ∨ o = .mul) (hi : X.N[i]? = some x) (hx : Loc X.env.scope x) (hf : X.fn x = true ∨ X.env.scope.names.lookup x = some .local) (he : SE X W cl ϑ e e') :
    PS X (.AugAssign (.Name x p) (opN o) e pos) (tS (bs X ϑ) W (exS cl (.aug i o e'))) :=
  PS.imp (ps_aug (by rw [hX.hN]; exact hX.nd) hi hx he.pe (iop_ok (ϑ := ϑ) (W := W) ho) hf) fun D σ H h => by
    obtain ⟨al, ρ, S, sr, re, R⟩ := h
    simp only [exS] at R
    obtain ⟨d, hd, R⟩ := Res.of' sr (R.bnd sr re)
    have e' : ρ[i]? = some (some d) := by
      cases h : ρ[i]? with
      | none => rw [h] at hd; cases hd
      | some o => rw [h] at hd; exact congrArg some hd
    obtain ⟨v, e2, rv⟩ := re.2 i d e'
    refine ⟨v, e2, al, ρ, S, sr, re, (R.bnd sr re).imp fun al1 S1 H1 y x1 sr1 _ R1 u ru => ?_⟩
    exact ⟨al1, S1, d, y, ρ, D, i, σ, sr1, re.mono sr x1, rv.mono sr x1, ru, R1, fun z H' h => h⟩
/-! ### loops -/
theorem forL_stay {t : Tg} {g : List (Nat × Cell)} {body : Env → MS} {xs : List D} {ρ : Env} {S : Store} {r : Ctl × Store} (h : forL t g body xs ρ S = some r) : stays S g = true := by
  cases xs <;> (unfold forL at h; split at h <;> first | assumption | (cases h; done))
theorem for_read {t : Tg} {k : Nat} {xs : List Ex} {body : List St} {D : Ends} {σ : L2.St} {H : Hp} (h : tS (bs X ϑ) W (exS cl (.for t k xs body)) D σ H) :
    tFor (tI (bs X ϑ) W fun ρ => M.bnd (evEs cl xs ρ) (itM k)) (gTg X.K t) (tS (bs X ϑ) W (exSs cl body)) D σ H := by
  obtain ⟨al, ρ, S, sr, re, R⟩ := h
  simp only [exS] at R
  refine ⟨al, ρ, S, sr, re, (R.bnd sr re).imp fun al1 S1 H1 src x1 sr1 _ R1 => ?_⟩
  have re1 := re.mono sr x1
  obtain ⟨items, g⟩ := src
  obtain ⟨c, Sf, ec, hf⟩ := R1
  simp only at ec ⊢
  refine ⟨forL_stay ec, fun J SJ => ?_⟩
  refine ⟨fun i m σ' H' => m = items.length - i ∧ i ≤ items.length ∧ ∃ al' S' ρ', Xt al1 S1.length H1 al' S'.length H' ∧ SR (bs X ϑ) al' S' H' ∧ RE (bs X ϑ) al' S'.length H' ρ' σ' ∧ forL t g (exSs cl body) (items.drop i) ρ' S' = some (c, Sf),
    ⟨items.length, by simp, Nat.zero_le _, al1, S1, ρ, Xt.refl, sr1, re1, by simpa using ec⟩, ?_⟩
  rintro i m σ' H' ⟨rfl, hi, al', S', ρ', x, sr', re', e⟩
  by_cases hlt : i < items.length
  · refine .inr ?_
    obtain ⟨it, hit⟩ : ∃ it, items[i]? = some it := ⟨items[i], by simp [hlt]⟩
    have ed : items.drop i = it :: items.drop (i + 1) := by
      rw [List.drop_eq_getElem_cons hlt]
      congr 1
      have := List.getElem?_eq_getElem hlt
      rw [this] at hit
      exact Option.some.inj hit
    rw [ed] at e
    have hst := forL_stay e
    unfold forL at e
    rw [if_pos hst] at e
    refine ⟨SJ.go _ Hid.self al' S' H' i x sr' hst hlt, _, fun σ2 H2 q => ⟨items.length - (i + 1), by omega, q⟩, fun v H2 y => ?_⟩
    obtain ⟨xy, sry, rvy⟩ := SJ.yld _ Hid.self al' S' H' i it v H2 x sr' hst hit y
    have xH : Xt al1 S1.length H1 al' S'.length H2 := Xt.trans sr' x xy
    cases hb : bindT t it ρ' with
    | none => simp only [hb] at e; cases e
    | some ρ2 =>
      simp only [hb] at e
      refine bindT_ok hb (re'.mono sr' xy) rvy fun σ2 re2 _ => ⟨al', ρ2, S', sry, re2, ?_⟩
      cases hbd : exSs cl body ρ2 S' with
      | none => rw [hbd] at e; cases e
      | some p =>
        obtain ⟨c2, S2⟩ := p
        rw [hbd] at e
        refine ⟨c2, S2, rfl, fun al3 H3 x3 sr3 => ?_⟩
        have xf : Xt al1 S1.length H1 al3 S2.length H3 := Xt.trans sry xH x3
        cases c2 with
        | nx ρ3 => exact fun σ3 re3 => ⟨(by trivial), hlt, al3, S2, ρ3, xf, sr3, re3, e⟩
        | ct ρ3 => exact fun σ3 re3 => ⟨(by trivial), hlt, al3, S2, ρ3, xf, sr3, re3, e⟩
        | bk ρ3 =>
          cases e
          exact fun σ3 re3 => hf al3 H3 xf sr3 σ3 re3
        | rt d =>
          cases e
          exact fun v rv => hf al3 H3 xf sr3 v rv
        | ex y ρ3 =>
          cases e
          exact fun σ3 C re3 hC => hf al3 H3 xf sr3 σ3 C re3 hC
  · refine .inl ?_
    have hie : i = items.length := by omega
    subst hie
    rw [List.drop_length] at e
    have hst := forL_stay e
    unfold forL at e
    rw [if_pos hst] at e
    refine ⟨SJ.stop _ Hid.self al' S' H' x sr' hst, ?_⟩
    cases e
    exact hf al' H' x sr' σ' re'
theorem ss_for {tg iter : Expr} {body : List Stmt} {t : Tg} {k : Nat} {xs : List Ex} {body' : List St} (hX : XOk pk N cl X) (hp : PassesOwn (model X.prog X.w) X.A X.env X.xe) (hi : PI X tg iter (tI (bs X ϑ) W fun ρ => M.bnd (evEs cl xs ρ) (itM k))) (hg : PG X tg (gTg X.K t))
    (hb : PSs X body (tS (bs X ϑ) W (exSs cl body'))) (hs : ∀ x, foldedSetIterable iter X.env x = pure x) : PS X (.For tg iter body [] pos) (tS (bs X ϑ) W (exS cl (.for t k xs body'))) :=
  PS.imp (ps_for hp hX.calm hi hg hb hs) fun D σ H h => for_read h
theorem while_read {c : Ex} {body : List St} {D : Ends} {σ : L2.St} {H : Hp} (h : tS (bs X ϑ) W (exS cl (.while c body)) D σ H) :
    tWhile (tT (bs X ϑ) W (evT cl c)) (tS (bs X ϑ) W (exSs cl body)) D σ H := by
  obtain ⟨al, ρ, S, sr, re, R⟩ := h
  simp only [exS] at R
  obtain ⟨ctl, Sf, ec, hf⟩ := R
  refine ⟨fun m σ' H' => ∃ al' S' ρ', Xt al S.length H al' S'.length H' ∧ SR (bs X ϑ) al' S' H' ∧ RE (bs X ϑ) al' S'.length H' ρ' σ' ∧ whileL (evT cl c) (exSs cl body) m ρ' S' = some (ctl, Sf),
    ⟨wmax, al, S, ρ, Xt.refl, sr, re, ec⟩, ?_⟩
  rintro m σ' H' ⟨al', S', ρ', x, sr', re', e⟩
  cases m with
  | zero => unfold whileL at e; cases e
  | succ m =>
    unfold whileL at e
    have R : ResS (bs X ϑ) W al' S' H' (MS.bnd ρ' (evT cl c ρ') (fun k => if k then (fun S => match exSs cl body ρ' S with
        | some (.nx ρ2, S2) => whileL (evT cl c) (exSs cl body) m ρ2 S2
        | some (.ct ρ2, S2) => whileL (evT cl c) (exSs cl body) m ρ2 S2
        | some (.bk ρ2, S2) => some (.nx ρ2, S2)
        | r => r)
      else fun S => some (.nx ρ', S)) S') D := ⟨ctl, Sf, e, fun al2 H2 x2 sr2 => hf al2 H2 (Xt.trans sr' x x2) sr2⟩
    refine ⟨al', ρ', S', sr', re', (R.bnd sr' re').imp fun al1 S1 H1 k x1 sr1 ek R1 => ?_⟩
    have re1 := re'.mono sr' x1
    cases k with
    | false =>
      simp only [Bool.false_eq_true, if_false] at R1 ⊢
      exact R1.nx sr1 re1
    | true =>
      simp only [if_true] at R1 ⊢
      have e2 : (match exSs cl body ρ' S1 with
        | some (.nx ρ2, S2) => whileL (evT cl c) (exSs cl body) m ρ2 S2
        | some (.ct ρ2, S2) => whileL (evT cl c) (exSs cl body) m ρ2 S2
        | some (.bk ρ2, S2) => some (.nx ρ2, S2)
        | r => r) = some (ctl, Sf) := by
        unfold MS.bnd at e
        rw [ek] at e
        exact e
      have xf0 : Xt al S.length H al1 S1.length H1 := Xt.trans sr' x x1
      refine ⟨_, fun σ2 H2 q => ⟨m, Nat.lt_succ_self m, q⟩, al1, ρ', S1, sr1, re1, ?_⟩
      cases hbd : exSs cl body ρ' S1 with
      | none => rw [hbd] at e2; cases e2
      | some p =>
        obtain ⟨c2, S2⟩ := p
        rw [hbd] at e2
        refine ⟨c2, S2, rfl, fun al3 H3 x3 sr3 => ?_⟩
        have xf : Xt al S.length H al3 S2.length H3 := Xt.trans sr1 xf0 x3
        cases c2 with
        | nx ρ3 => exact fun σ3 re3 => ⟨al3, S2, ρ3, xf, sr3, re3, e2⟩
        | ct ρ3 => exact fun σ3 re3 => ⟨al3, S2, ρ3, xf, sr3, re3, e2⟩
        | bk ρ3 =>
          cases e2
          exact fun σ3 re3 => hf al3 H3 xf sr3 σ3 re3
        | rt d =>
          cases e2
          exact fun v rv => hf al3 H3 xf sr3 v rv
        | ex y ρ3 =>
          cases e2
          exact fun σ3 C re3 hC => hf al3 H3 xf sr3 σ3 C re3 hC
theorem ss_while {c : Expr} {c' : Ex} {body : List Stmt} {body' : List St} (hp : PassesOwn (model X.prog X.w) X.A X.env X.xe) (ni : notIf c = true) (hc : SE X W cl ϑ c c') (hb : PSs X body (tS (bs X ϑ) W (exSs cl body'))) :
    PS X (.While c body [] pos) (tS (bs X ϑ) W (exS cl (.while c' body'))) := PS.imp (ps_while hp (hc.pt ni) hb) fun D σ H h => while_read h
/-! ### blocks -/
theorem ss_nil : PSs X [] (tS (bs X ϑ) W (exSs cl [])) := PSs.imp pss_nil fun D σ H h => by
  obtain ⟨al, ρ, S, sr, re, R⟩ := h
  simp only [exSs] at R
  exact R.nx sr re
theorem ss_cons {st : Stmt} {rest : List Stmt} {s : St} {ss : List St} (h1 : PS X st (tS (bs X ϑ) W (exS cl s))) (h2 : PSs X rest (tS (bs X ϑ) W (exSs cl ss))) : PSs X (st :: rest) (tS (bs X ϑ) W (exSs cl (s :: ss))) :=
  PSs.imp (pss_cons h1 h2) fun D σ H h => by
    obtain ⟨al, ρ, S, sr, re, R⟩ := h
    simp only [exSs] at R
    obtain ⟨c, Sf, e, hf⟩ := R
    unfold MS.seq at e
    refine ⟨al, ρ, S, sr, re, ?_⟩
    cases hs : exS cl s ρ S with
    | none => rw [hs] at e; cases e
    | some p =>
      obtain ⟨c1, S1⟩ := p
      rw [hs] at e
      refine ⟨c1, S1, rfl, fun al1 H1 x1 sr1 => ?_⟩
      cases c1 with
      | nx ρ1 => exact fun σ1 re1 => ⟨al1, ρ1, S1, sr1, re1, c, Sf, e, fun al2 H2 x2 sr2 => hf al2 H2 (Xt.trans sr1 x1 x2) sr2⟩
      | rt d => cases e; exact hf al1 H1 x1 sr1
      | bk ρ1 => cases e; exact hf al1 H1 x1 sr1
      | ct ρ1 => cases e; exact hf al1 H1 x1 sr1
      | ex y ρ1 => cases e; exact hf al1 H1 x1 sr1
end
end Mi

set_option autoImplicit true
set_option maxRecDepth 512
set_option maxHeartbeats 200000
set_option Elab.async false
set_option linter.all false
set_option maxRecDepth 100000
/-! MiQ: suites of except clauses, try. -/
namespace Mi
open PySem PySem.Spec PyProof.Rows L2

def isCallE : Expr → Bool
  | .Call _ _ _ _ => true
  | .Name _ _ => true
  | _ => false
def noComp : Expr → Bool
  | .ListComp _ _ _ _ => false
  | .SetComp _ _ _ _ => false
  | .DictComp _ _ _ _ _ => false
  | _ => true
def chkSs (p : Stmt → St → Bool) : List Stmt → List St → Bool
  | [], [] => true
  | e :: es, i :: is => p e i && chkSs p es is
  | _, _ => false
/-- the error's slot holds the error -/
def Gm (v : Option Nat) (a : Addr) (σ : L2.St) : Prop := ∀ i, v = some i → σ[i]? = some (some (.ref a))
def slotN (v : Option Nat) : Nat := v.getD noSlot
def tQ (B : Bs) (v : Option Nat) (a : Addr) (m : Env → Option D) : TE := fun σ H Q => Gm v a σ ∧ ∃ al ρ S, SR B al S H ∧ RE B al S.length H ρ σ ∧ ∃ d, m ρ = some d ∧
  ∀ al' H' w, Xt al S.length H al' S.length H' → SR B al' S H' → RV B al' S.length H' d w → Q w H'
def chkQ (pk : Pk) (N : List Str) (v : Option Nat) (sc : Scope) : Nat → Expr → Ex → Bool
  | 0, _, _ => false
  | n + 1, e, ir => match solo e with
    | some a => chkQ pk N v sc n a ir
    | none => match ir with
      | .non => (match e with | .Constant .none _ _ => true | _ => false)
      | .bl b' => (match e with | .Constant (.bool b) _ _ => decide (b = b') | _ => false)
      | .int j => (match e with | .Constant (.int i) _ _ => decide (i = j) | _ => false)
      | .str s => (match e with | .Constant (.str x) _ _ => decide (x = txS s) && decide (s.length ≤ 1000) && s.all (fun c => decide (c < 1114112)) | _ => false)
      | .var i => (match e with | .Name x _ => decide (N[i]? = some x) && visB sc x && !(x == ("__debug__" : Str)) && !(x == ("__classdict__" : Str)) | _ => false)
      | .not a' => (match e with | .UnaryOp .Not a _ => chkQ pk N v sc n a a' | _ => false)
      | .and a' r' => (match e with | .BoolOp .And (a :: b :: r) p => chkQ pk N v sc n a a' && chkQ pk N v sc n (.BoolOp .And (b :: r) p) r' | _ => false)
      | .or a' r' => (match e with | .BoolOp .Or (a :: b :: r) p => chkQ pk N v sc n a a' && chkQ pk N v sc n (.BoolOp .Or (b :: r) p) r' | _ => false)
      | .isi (.var i) [.cls T] => (match e with
          | .Call (.Name f _) [.Name x _, .Name y _] [] _ => decide (f = nm "isinstance") && glB sc f && pk.bis.contains "isinstance" && decide (v = some i) && decide (N[i]? = some x) && visB sc x && !(x == ("__debug__" : Str)) && !(x == ("__classdict__" : Str)) &&
              decide (y = nm T) && glB sc y
          | _ => false)
      | _ => false
section
variable {pk : Pk} {N : List Str} {cl : Cl} {X : Cx} {a : Addr} {oe : Obj} {pn : List (Addr × Obj)} {c : String} {C : Addr} {v : Option Nat}
/-- the handled error -/
structure Hd (X : Cx) (cl : Cl) (pk : Pk) (oe : Obj) (c : String) (C : Addr) : Prop where
  hz : Zc (.ref C) none oe
  hf : ∃ vs, oe.data = .fields vs
  mc : X.mg (nm c) = some (.ref C)
  sb : ∀ h b, cl.sub c h = some b → SubAt X.K X.mg c h b
  bi : pk.bis.contains "isinstance" = true → X.mg (nm "isinstance") = none
theorem q_const {e : Expr} {d : D} {u : V} {m : Env → Option D} (h : PE (X.suite a ((a, oe) :: pn)) e (L2.tC u)) (hm : ∀ ρ, m ρ = some d) (rv : ∀ al n H, RV (bs X ϑ) al n H d u) : PE (X.suite a ((a, oe) :: pn)) e (tQ (bs X ϑ) v a m) := PE.imp h fun σ H Q h => by
  obtain ⟨_, al, ρ, S, sr, re, d', e1, q⟩ := h
  rw [hm] at e1
  cases e1
  exact q al H u Xt.refl sr (rv _ _ _)
theorem soundQ (hd : Hd X cl pk oe c C) (hN : X.N = N) : ∀ (n : Nat) (e : Expr) (ir : Ex), chkQ pk N v X.env.scope n e ir = true → PE (X.suite a ((a, oe) :: pn)) e (tQ (bs X ϑ) v a (quE cl.sub c (slotN v) ir))
  | 0, _, _, q => absurd (show false = true from q) Bool.false_ne_true
  | n + 1, e, ir, q => by
    have ih := fun e ir => soundQ (ϑ := ϑ) hd hN n e ir
    unfold chkQ at q
    split at q
    · rename_i a2 hs
      unfold solo at hs
      split at hs
      · cases hs
        exact pe_one (ih _ _ q)
      · cases hs
    · rename_i hso
      clear hso
      split at q
      · split at q <;> first | exact q_const pe_non (fun _ => rfl) (fun _ _ _ => by simp [RV]) | cases q
      · split at q <;> first | (have := of_decide_eq_true q; subst this; exact q_const pe_bl (fun _ => rfl) (fun _ _ _ => by simp [RV])) | cases q
      · split at q <;> first | (have := of_decide_eq_true q; subst this; exact q_const pe_int (fun _ => rfl) (fun _ _ _ => by simp [RV])) | cases q
      · split at q
        · simp only [Bool.and_eq_true, decide_eq_true_eq] at q
          obtain ⟨⟨rfl, q2⟩, q3⟩ := q
          exact q_const pe_str (fun _ => rfl) (fun _ _ _ => by rw [rv_str]; exact ⟨rfl, by unfold szl; omega, q3⟩)
        · cases q
      · rename_i i
        split at q
        · simp only [Bool.and_eq_true, decide_eq_true_eq, Bool.not_eq_true'] at q
          refine PE.imp (pe_var (X := X.suite a ((a, oe) :: pn)) (by show X.N[i]? = _; rw [hN]; exact q.1.1.1) (visB_ok q.1.1.2) q.1.2 q.2) fun σ H Q h => ?_
          obtain ⟨g, al, ρ, S, sr, re, d, e1, k⟩ := h
          simp only [quE] at e1
          split at e1
          · cases e1
          · have e' : ρ[i]? = some (some d) := by
              cases h : ρ[i]? with
              | none => rw [h] at e1; cases e1
              | some o => rw [h] at e1; exact congrArg some e1
            obtain ⟨w, e2, rw'⟩ := re.2 i d e'
            exact ⟨w, e2, k al H w Xt.refl sr rw'⟩
        · cases q
      · split at q
        · refine PE.imp (pe_not (ih _ _ q)) fun σ H Q h => ?_
          obtain ⟨g, al, ρ, S, sr, re, d, e1, k⟩ := h
          simp only [quE] at e1
          split at e1
          · rename_i b hb
            cases e1
            refine ⟨g, al, ρ, S, sr, re, _, hb, fun al' H' w x s r => ?_⟩
            rw [rv_bl] at r
            exact ⟨b, r, k al' H' _ x s (by simp [RV])⟩
          · cases e1
        · cases q
      · split at q
        · simp only [Bool.and_eq_true] at q
          refine PE.imp (pe_and (ih _ _ q.1) (ih _ _ q.2)) fun σ H Q h => ?_
          obtain ⟨g, al, ρ, S, sr, re, d, e1, k⟩ := h
          simp only [quE] at e1
          split at e1
          · rename_i hb
            refine ⟨g, al, ρ, S, sr, re, _, hb, fun al' H' w x s r => ?_⟩
            rw [rv_bl] at r
            refine ⟨true, r, ?_⟩
            rw [if_pos rfl]
            exact ⟨g, al', ρ, S, s, re.mono sr x, d, e1, fun al2 H2 w2 x2 s2 r2 => k al2 H2 w2 (Xt.trans s x x2) s2 r2⟩
          · rename_i hb
            cases e1
            refine ⟨g, al, ρ, S, sr, re, _, hb, fun al' H' w x s r => ?_⟩
            rw [rv_bl] at r
            refine ⟨false, r, ?_⟩
            rw [if_neg (by decide)]
            exact k al' H' _ x s (by simp [RV])
          · cases e1
        · cases q
      · split at q
        · simp only [Bool.and_eq_true] at q
          refine PE.imp (pe_or (ih _ _ q.1) (ih _ _ q.2)) fun σ H Q h => ?_
          obtain ⟨g, al, ρ, S, sr, re, d, e1, k⟩ := h
          simp only [quE] at e1
          split at e1
          · rename_i hb
            refine ⟨g, al, ρ, S, sr, re, _, hb, fun al' H' w x s r => ?_⟩
            rw [rv_bl] at r
            refine ⟨false, r, ?_⟩
            rw [if_neg (by decide)]
            exact ⟨g, al', ρ, S, s, re.mono sr x, d, e1, fun al2 H2 w2 x2 s2 r2 => k al2 H2 w2 (Xt.trans s x x2) s2 r2⟩
          · rename_i hb
            cases e1
            refine ⟨g, al, ρ, S, sr, re, _, hb, fun al' H' w x s r => ?_⟩
            rw [rv_bl] at r
            refine ⟨true, r, ?_⟩
            rw [if_pos rfl]
            exact k al' H' _ x s (by simp [RV])
          · cases e1
        · cases q
      · rename_i i T
        split at q
        · rename_i f p1 x p2 y p3 p4
          simp only [Bool.and_eq_true, decide_eq_true_eq, Bool.not_eq_true'] at q
          obtain ⟨⟨⟨⟨⟨⟨⟨⟨⟨rfl, q2⟩, q3⟩, rfl⟩, q5⟩, q6⟩, q7⟩, q8⟩, rfl⟩, q10⟩ := q
          cases hs : cl.sub c T with
          | none =>
            refine ⟨fun pins s σ H Q I h => ?_⟩
            obtain ⟨g, al, ρ, S, sr, re, d, e1, k⟩ := h
            simp [quE, slotN, hs] at e1
          | some b =>
            obtain ⟨C', D, m1, m2, m3, m4, EC⟩ := hd.sb T b hs
            have : C' = C := by
              have z := m1.symm.trans hd.mc
              cases z
              rfl
            subst this
            refine PE.imp (pe_callB (X := X.suite a ((a, oe) :: pn)) (call_isE EC hd.hz hd.hf) (glB_ok q2).1 (hd.bi q3) boot_isinstance (pa_cons (pe_var (X := X.suite a ((a, oe) :: pn)) (by show X.N[i]? = _; rw [hN]; exact q5) (visB_ok q6) q7 q8) (pa_cons (pe_glob (X := X.suite a ((a, oe) :: pn)) (v := .ref D) (glB_ok q10).1 m2 rfl (glB_ok q10).2.1) pa_nil)) (by decide) (by decide)) fun σ H Q h => ?_
            obtain ⟨g, al, ρ, S, sr, re, d, e1, k⟩ := h
            have e1 : some (Mi.D.bl b) = some d := by simpa [quE, slotN, hs] using e1
            cases e1
            exact ⟨.ref a, g _ rfl, .ref D, .ref D, b, rfl, fun u hu => hu, m4, k al H _ Xt.refl sr (by simp [RV])⟩
        · cases q
      · cases q
/-- a tuple's items -/
def chkQs (p : Expr → Ex → Bool) : List Expr → List Ex → Bool
  | [], [] => true
  | e :: es, i :: is => noStar e && p e i && chkQs p es is
  | _, _ => false
def tQA (B : Bs) (v : Option Nat) (a : Addr) (m : Env → Option (List D)) : TA := fun σ H Q => Gm v a σ ∧ ∃ al ρ S, SR B al S H ∧ RE B al S.length H ρ σ ∧ ∃ ds, m ρ = some ds ∧
  ∀ al' H' ws, Xt al S.length H al' S.length H' → SR B al' S H' → RVs B al' S.length H' ds ws → Q ws H'
theorem qa_ok (hd : Hd X cl pk oe c C) (hN : X.N = N) {n : Nat} : ∀ {es : List Expr} {irs : List Ex}, chkQs (chkQ pk N v X.env.scope n) es irs = true → PA (X.suite a ((a, oe) :: pn)) es (tQA (bs X ϑ) v a (quEs cl.sub c (slotN v) irs)) ∧ es.length = irs.length
  | [], [], _ => ⟨PA.imp pa_nil fun σ H Q h => by
    obtain ⟨g, al, ρ, S, sr, re, d, e1, k⟩ := h
    simp only [quEs] at e1
    cases e1
    exact k al H [] Xt.refl sr .nil, rfl⟩
  | e :: es, i :: irs, h => by
    simp only [chkQs, Bool.and_eq_true] at h
    obtain ⟨q1, q2⟩ := qa_ok (ϑ := ϑ) hd hN h.2
    refine ⟨PA.imp (pa_cons' (soundQ (ϑ := ϑ) hd hN n e i h.1.2) q1 h.1.1) fun σ H Q h => ?_, by simp [q2]⟩
    obtain ⟨g, al, ρ, S, sr, re, ds, e1, k⟩ := h
    simp only [quEs] at e1
    split at e1
    · rename_i d hd'
      obtain ⟨ds', e2, rfl⟩ := Option.map_eq_some_iff.mp e1
      exact ⟨g, al, ρ, S, sr, re, d, hd', fun al1 H1 w x1 s1 r1 => ⟨g, al1, ρ, S, s1, re.mono sr x1, ds', e2, fun al2 H2 ws x2 s2 r2 => k al2 H2 (w :: ws) (Xt.trans s1 x1 x2) s2 (.cons (r1.mono s1 x2) r2)⟩⟩
    · cases e1
  | [], _ :: _, h => by simp [chkQs] at h
  | _ :: _, [], h => by simp [chkQs] at h
/-! ### statements -/
def tQs (B : Bs) (v : Option Nat) (a : Addr) (m : Env → Option Ctl) : TS := fun D σ H => Gm v a σ ∧ ∃ al ρ S, SR B al S H ∧ RE B al S.length H ρ σ ∧ ∃ r, m ρ = some r ∧ ∀ al' H', Xt al S.length H al' S.length H' → SR B al' S H' → (match r with
  | .nx ρ' => ∀ σ', Gm v a σ' → RE B al' S.length H' ρ' σ' → D.nx σ' H'
  | .rt d => ∀ w, RV B al' S.length H' d w → D.rt w H'
  | _ => False)
def chkQS (pk : Pk) (N : List Str) (v : Option Nat) (sc : Scope) : Nat → Stmt → St → Bool
  | 0, _, _ => false
  | n + 1, st, s => match s with
    | .pass => (match st with | .Pass _ => true | _ => false)
    | .asg (.nm j) e' => (match st with
      | .Assign [.Name x p] e _ => noComp e && decide (v ≠ some j) && decide (j ≠ noSlot) && chkTg N sc (fun _ => true) 2 (.Name x p) (.nm j) && chkQ pk N v sc n e e'
      | _ => false)
    | .ret e' => (match st with
      | .Return (some e) _ => (match e, e' with
        | .Tuple es _ _, .tup es' => decide (es'.length ≤ 1000) && chkQs (chkQ pk N v sc n) es es'
        | _, .tup _ => false
        | _, _ => chkQ pk N v sc n e e')
      | _ => false)
    | .ite c' a' b' => (match st with | .If c a b _ => isCallE c && chkQ pk N v sc n c c' && chkSs (chkQS pk N v sc n) a a' && chkSs (chkQS pk N v sc n) b b' | _ => false)
    | _ => false
theorem quEs_len {sub : String → String → Option Bool} {c : String} {i : Nat} : ∀ {irs : List Ex} {ρ : Env} {ds : List Mi.D}, quEs sub c i irs ρ = some ds → ds.length = irs.length
  | [], ρ, ds, h => by simp only [quEs] at h; cases h; rfl
  | e :: es, ρ, ds, h => by
    simp only [quEs] at h
    split at h
    · obtain ⟨r, h1, rfl⟩ := Option.map_eq_some_iff.mp h
      simp [quEs_len h1]
    · cases h
theorem swaps_none {e : Expr} (h : noComp e = true) (t : Option Expr) (l : Nat) (env : PySem.Env) : swapsWith e t l env = pure false := by
  cases e <;> first | rfl | (cases h; done)
theorem qss_nil : PSs (X.suite a ((a, oe) :: pn)) [] (tQs (bs X ϑ) v a (quSs cl.sub c (slotN v) [])) := PSs.imp pss_nil fun D σ H h => by
  obtain ⟨g, al, ρ, S, sr, re, r, e1, k⟩ := h
  simp only [quSs] at e1
  cases e1
  exact k al H Xt.refl sr σ g re
theorem qss_cons {st : Stmt} {rest : List Stmt} {s : St} {ss : List St} (h1 : PS (X.suite a ((a, oe) :: pn)) st (tQs (bs X ϑ) v a (quS cl.sub c (slotN v) s))) (h2 : PSs (X.suite a ((a, oe) :: pn)) rest (tQs (bs X ϑ) v a (quSs cl.sub c (slotN v) ss))) :
    PSs (X.suite a ((a, oe) :: pn)) (st :: rest) (tQs (bs X ϑ) v a (quSs cl.sub c (slotN v) (s :: ss))) := PSs.imp (pss_cons h1 h2) fun D σ H h => by
  obtain ⟨g, al, ρ, S, sr, re, r, e1, k⟩ := h
  simp only [quSs] at e1
  split at e1
  · rename_i ρ' hs
    exact ⟨g, al, ρ, S, sr, re, _, hs, fun al1 H1 x1 s1 σ1 g1 re1 => ⟨g1, al1, ρ', S, s1, re1, r, e1, fun al2 H2 x2 s2 => k al2 H2 (Xt.trans s1 x1 x2) s2⟩⟩
  · refine ⟨g, al, ρ, S, sr, re, r, e1, fun al1 H1 x1 s1 => ?_⟩
    have k1 := k al1 H1 x1 s1
    cases r with
    | nx ρ' => rename_i hn; exact absurd e1 (hn ρ')
    | rt d => exact k1
    | bk _ => exact k1
    | ct _ => exact k1
    | ex _ _ => exact k1
theorem soundQSs {p : Stmt → St → Bool} (hp : ∀ st s, p st s = true → PS (X.suite a ((a, oe) :: pn)) st (tQs (bs X ϑ) v a (quS cl.sub c (slotN v) s))) : ∀ {es : List Stmt} {is : List St}, chkSs p es is = true → PSs (X.suite a ((a, oe) :: pn)) es (tQs (bs X ϑ) v a (quSs cl.sub c (slotN v) is))
  | [], [], _ => qss_nil
  | e :: es, i :: is, h => by
    simp only [chkSs, Bool.and_eq_true] at h
    exact qss_cons (hp e i h.1) (soundQSs hp h.2)
  | [], _ :: _, h => by simp [chkSs] at h
  | _ :: _, [], h => by simp [chkSs] at h
theorem soundQS (hd : Hd X cl pk oe c C) (hN : X.N = N) (nd : N.Nodup) (hfn : ∀ x, X.fn x = true) : ∀ (n : Nat) (st : Stmt) (s : St), chkQS pk N v X.env.scope n st s = true → PS (X.suite a ((a, oe) :: pn)) st (tQs (bs X ϑ) v a (quS cl.sub c (slotN v) s))
  | 0, _, _, q => absurd (show false = true from q) Bool.false_ne_true
  | n + 1, st, s, q => by
    have ih := soundQS (ϑ := ϑ) hd hN nd hfn n
    have ihE := fun e ir q => soundQ (ϑ := ϑ) (v := v) (a := a) (pn := pn) hd hN n e ir q
    unfold chkQS at q
    split at q
    · split at q
      · exact PS.imp ps_pass fun D σ H h => by
          obtain ⟨g, al, ρ, S, sr, re, r, e1, k⟩ := h
          simp only [quS] at e1
          cases e1
          exact k al H Xt.refl sr σ g re
      · cases q
    · rename_i j e'
      split at q
      · rename_i x p e pos
        simp only [Bool.and_eq_true, decide_eq_true_eq] at q
        obtain ⟨⟨⟨⟨q1, q2⟩, q3⟩, q4⟩, q5⟩ := q
        simp only [chkTg, Bool.and_eq_true, decide_eq_true_eq] at q4
        obtain ⟨l1, l2⟩ := locB_ok q4.2
        refine PS.imp (ps_asg (X := X.suite a ((a, oe) :: pn)) (ihE _ _ q5) (pg_name (X := X.suite a ((a, oe) :: pn)) (i := j) (by show X.N.Nodup; rw [hN]; exact nd) (by show X.N[j]? = _; rw [hN]; exact q4.1) l1 (l2.imp (fun _ => hfn x) id)) (show swapsWith e (some (.Name x p)) pos.line X.env = pure false from swaps_none q1 _ _ _) (by unfold swappedStores; cases e <;> first | rfl | (cases q1; done)) rfl) fun D σ H h => ?_
        obtain ⟨g, al, ρ, S, sr, re, r, e1, k⟩ := h
        simp only [quS] at e1
        have hj : j ≠ slotN v := by
          unfold slotN
          cases v with
          | none => exact q3
          | some i => exact fun z => q2 (by rw [z]; rfl)
        rw [if_neg hj] at e1
        split at e1
        · rename_i d hd'
          split at e1
          · cases e1
            refine ⟨g, al, ρ, S, sr, re, d, hd', fun al' H' w x s r => ?_⟩
            have q := k al' H' x s (σ.set j (some w)) (fun i hi => by
              have : j ≠ i := fun z => q2 (by rw [hi, z])
              rw [List.getElem?_set_ne this]
              exact g i hi) ((re.mono sr x).set r)
            exact q
          · cases e1
        · cases e1
      · cases q
    · rename_i e'
      split at q
      · rename_i e pos
        split at q
        · rename_i es kk tp es'
          simp only [Bool.and_eq_true, decide_eq_true_eq] at q
          obtain ⟨qa, ql⟩ := qa_ok (ϑ := ϑ) (v := v) (a := a) (pn := pn) hd hN q.2
          refine PS.imp (ps_ret (pe_tup qa)) fun D σ H h => ?_
          obtain ⟨g, al, ρ, S, sr, re, r, e1, k⟩ := h
          simp only [quS, Option.map_eq_some_iff] at e1
          obtain ⟨ds, e2, rfl⟩ := e1
          refine ⟨g, al, ρ, S, sr, re, ds, e2, fun al' H' ws x s r => ⟨?_, fun p hp => ?_⟩⟩
          · rw [← r.length]
            have := quEs_len e2
            have hz : (sizeLine : Nat) = szl := rfl
            rw [hz]; unfold szl; omega
          · have x2 : Xt al' S.length H' al' S.length (upd H' p (.tup ws)) := Xt.side hp
            refine k al' _ (Xt.trans s x x2) (SR.side s hp) (.ref p) ?_
            rw [rv_tup]
            exact ⟨p, ws, rfl, .of upd_same, r.mono s x2⟩
        · cases q
        · have hq : quS cl.sub c (slotN v) (.ret e') = fun ρ => (quE cl.sub c (slotN v) e' ρ).map .rt := by
            rename_i hn _
            cases e' <;> first | rfl | exact absurd rfl (hn _)
          refine PS.imp (ps_ret (ihE _ _ q)) fun D σ H h => ?_
          obtain ⟨g, al, ρ, S, sr, re, r, e1, k⟩ := h
          rw [hq] at e1
          simp only [Option.map_eq_some_iff] at e1
          obtain ⟨d, e2, rfl⟩ := e1
          exact ⟨g, al, ρ, S, sr, re, d, e2, fun al' H' w x s r => k al' H' x s w r⟩
      · cases q
    · rename_i c' a' b'
      split at q
      · simp only [Bool.and_eq_true] at q
        obtain ⟨⟨⟨q0, q1⟩, q2⟩, q3⟩ := q
        rename_i cc _ _ _
        refine PS.imp (ps_if (pt_val (ihE _ _ q1) (by intro _; cases cc <;> first | rfl | (cases q0; done))) (soundQSs ih q2) (soundQSs ih q3)) fun D σ H h => ?_
        obtain ⟨g, al, ρ, S, sr, re, r, e1, k⟩ := h
        simp only [quS] at e1
        split at e1
        · rename_i hb
          refine ⟨g, al, ρ, S, sr, re, _, hb, fun al' H' w x s rr => ?_⟩
          rw [rv_bl] at rr
          refine ⟨true, rr, ?_⟩
          simp only [if_true]
          exact ⟨g, al', ρ, S, s, re.mono sr x, r, e1, fun al2 H2 x2 s2 => k al2 H2 (Xt.trans s x x2) s2⟩
        · rename_i hb
          refine ⟨g, al, ρ, S, sr, re, _, hb, fun al' H' w x s rr => ?_⟩
          rw [rv_bl] at rr
          refine ⟨false, rr, ?_⟩
          simp only [Bool.false_eq_true, if_false]
          exact ⟨g, al', ρ, S, s, re.mono sr x, r, e1, fun al2 H2 x2 s2 => k al2 H2 (Xt.trans s x x2) s2⟩
        · cases e1
      · cases q
    · cases q
end
end Mi

set_option autoImplicit true
set_option maxRecDepth 512
set_option maxHeartbeats 200000
set_option Elab.async false
set_option linter.all false
set_option maxRecDepth 100000
/-! MiR: try .. except. -/
namespace Mi
open PySem PySem.Spec PyProof.Rows L2
section
variable {B : Bs} {al : Al} {n : Nat} {H : Hp}
theorem RE.unset {ρ : Env} {σ : L2.St} (h : RE B al n H ρ σ) (i : Nat) (o : Option V) : RE B al n H (ρ.set i none) (σ.set i o) := by
  refine ⟨by rw [List.length_set, List.length_set]; exact h.1, fun j d e => ?_⟩
  by_cases hj : i = j
  · subst hj
    rw [List.getElem?_set] at e
    split at e
    · split at e <;> cases e
    · rename_i hn; exact absurd rfl hn
  · rw [List.getElem?_set_ne hj] at e
    rw [List.getElem?_set_ne hj]
    exact h.2 j d e
end
section
variable {pk : Pk} {N : List Str} {cl : Cl} {X : Cx} {W : WX} {pos pos' np : Pos} {v : Option Nat} {h x : Str} {hc : String} {body suite : List Stmt} {b₀ : Stmt} {body' suite' : List St}
/-- how a suite ends -/
theorem qSs_out {sub : String → String → Option Bool} {c : String} {i : Nat} {p : Stmt → St → Bool} (hp : ∀ st s ρ r, p st s = true → quS sub c i s ρ = some r → (∃ ρ', r = .nx ρ') ∨ ∃ d, r = .rt d) : ∀ (es : List Stmt) (is : List St) (ρ : Env) (r : Ctl), chkSs p es is = true → quSs sub c i is ρ = some r → (∃ ρ', r = .nx ρ') ∨ ∃ d, r = .rt d
  | [], [], ρ, r, _, h => by simp only [quSs] at h; cases h; exact .inl ⟨_, rfl⟩
  | e :: es, s :: is, ρ, r, q, h => by
    simp only [chkSs, Bool.and_eq_true] at q
    simp only [quSs] at h
    split at h
    · exact qSs_out hp es is _ r q.2 h
    · exact hp e s ρ r q.1 h
  | [], _ :: _, _, _, q, _ => by simp [chkSs] at q
  | _ :: _, [], _, _, q, _ => by simp [chkSs] at q
theorem qS_out {sc : Scope} {sub : String → String → Option Bool} {c : String} {i : Nat} : ∀ (n : Nat) (st : Stmt) (s : St) (ρ : Env) (r : Ctl), chkQS pk N v sc n st s = true → quS sub c i s ρ = some r → (∃ ρ', r = .nx ρ') ∨ ∃ d, r = .rt d
  | 0, _, _, _, _, q, _ => absurd (show false = true from q) Bool.false_ne_true
  | n + 1, st, s, ρ, r, q, h => by
    unfold chkQS at q
    split at q
    · simp only [quS] at h; cases h; exact .inl ⟨_, rfl⟩
    · simp only [quS] at h
      split at h
      · cases h
      · split at h
        · split at h
          · cases h; exact .inl ⟨_, rfl⟩
          · cases h
        · cases h
    · rename_i e'
      cases e' <;> (simp only [quS, Option.map_eq_some_iff] at h; obtain ⟨d, _, rfl⟩ := h; exact .inr ⟨_, rfl⟩)
    · split at q
      · simp only [Bool.and_eq_true] at q
        simp only [quS] at h
        split at h
        · exact qSs_out (qS_out n) _ _ _ _ q.1.2 h
        · exact qSs_out (qS_out n) _ _ _ _ q.2 h
        · cases h
      · cases q
    · cases q
/-- the suite's reading -/
def tSu (X : Cx) (ϑ : Addr → Prop) (cl : Cl) (v : Option Nat) (suite' : List St) (a : Addr) (cls : Value) (d : Option Addr) : TS := fun D σ H => ∃ c C, cls = .ref C ∧ d = none ∧ X.mg (nm c) = some (.ref C) ∧ tQs (bs X ϑ) v a (quSs cl.sub c (slotN v) suite') D σ H
theorem suite_ok (hX : XOk pk N cl X) (hfn : ∀ x, X.fn x = true) {n : Nat} (q : chkSs (chkQS pk N v X.env.scope n) (b₀ :: suite) suite' = true) (a : Addr) (oe : Obj) (cls : Value) (d : Option Addr) (pn : List (Addr × Obj)) (hz : Zc cls d oe) (hf : ∃ vs, oe.data = .fields vs) :
    PSs (X.suite a ((a, oe) :: pn)) (b₀ :: suite) (tSu X ϑ cl v suite' a cls d) := by
  obtain ⟨k, hr, L⟩ := hX.room ϑ
  refine ⟨fun pins s σ H D I hh => ?_⟩
  obtain ⟨c, C, rfl, rfl, mc, q1⟩ := hh
  have hd : Hd X cl pk oe c C := ⟨hz, hf, mc, fun h b e => L.sb c h b e, fun h => L.bis _ h⟩
  exact (soundQSs (ϑ := ϑ) (soundQS (ϑ := ϑ) hd hX.hN hX.nd hfn n) q).run pins s σ H D I q1
theorem try_n_u {u : Bool} {x : Str} {c : Value} {np pos pos' : Pos} {body suite : List Stmt} {b₀ : Stmt} {tb : WX → TS} {ts : Addr → Value → Option Addr → TS} {Wout : WX} (hs : X.stack = X.env :: X.outer) (hf : X.env.frame = some X.env.locals) (tk : Tk u X Wout) (hc : Names X x c)
    (hb : ∀ (W : WX) (pn : List (Addr × Obj)) (xe : Value → Shared → Prop), Tk u (X.tr pn xe) W → PassesOwn (model X.prog X.w) X.A X.env xe → PSs (X.tr pn xe) body (tb W))
    (hsu : ∀ (a : Addr) (oe : Obj) (cls : Value) (d : Option Addr) (pn : List (Addr × Obj)), Zc cls d oe → (∃ vs, oe.data = .fields vs) → PSs (X.suite a ((a, oe) :: pn)) (b₀ :: suite) (ts a cls d)) :
    PS X (.Try body [.ExceptHandler (some (.Name x np)) none (b₀ :: suite) pos'] [] [] pos) (fun D σ H => tb (wMany X.K Wout D [(c, ts)]) D σ H) := by
  cases u
  · exact L2N.ps_try_many hs hf tk hb (.cons hc (fun a oe cls d pn hz => hsu a oe cls d pn hz.zc) .nil)
  · exact L2.ps_try_many hs hf tk hb (.cons hc hsu .nil)
theorem try_a_u {u : Bool} {x n : Str} {i : Nat} {c : Value} {np pos pos' : Pos} {body suite : List Stmt} {b₀ : Stmt} {tb : WX → TS} {ts : Addr → Value → Option Addr → TS} {Wout : WX} (hs : X.stack = X.env :: X.outer) (hf : X.env.frame = some X.env.locals) (hN : X.N.Nodup) (hi : X.N[i]? = some n) (hln : X.env.kindOf n = some .local) (hc : Names X x c) (tk : Tk u X Wout)
    (hb : ∀ (W : WX) (pn : List (Addr × Obj)) (xe : Value → Shared → Prop), Tk u (X.tr pn xe) W → PassesOwn (model X.prog X.w) X.A X.env xe → PSs (X.tr pn xe) body (tb W))
    (hsu : ∀ (a : Addr) (oe : Obj) (cls : Value) (d : Option Addr) (pn : List (Addr × Obj)), Zc cls d oe → (∃ vs, oe.data = .fields vs) → PSs (X.suite a ((a, oe) :: pn)) (b₀ :: suite) (ts a cls d)) :
    PS X (.Try body [.ExceptHandler (some (.Name x np)) (some n) (b₀ :: suite) pos'] [] [] pos) (fun D σ H => tb (wAs X.K c i ts Wout D) D σ H) := by
  cases u
  · exact L2N.ps_try_as hs hf hN hi hln hc tk hb (fun a oe cls d pn hz => hsu a oe cls d pn hz.zc)
  · exact L2.ps_try_as hs hf hN hi hln hc tk hb hsu
/-- what is wished of an error of the body -/
theorem try_wish {σ' : L2.St} {H' : Hp} {al' : Al} {S' : Store} {ρ' : Env} {c : String} {C Dc : Addr} {D : Ends} {k : Nat} (L : Lk (bs X ϑ) cl k pk) (hm : X.mg (nm hc) = some (.ref Dc)) (mc : X.mg (nm c) = some (.ref C)) {b : Bool} (hs : cl.sub c hc = some b) : PySem.W.exmOne X.K (.ref C) (.ref Dc) = some b := by
  obtain ⟨C', D', m1, m2, m3, _⟩ := L.sb c hc b hs
  have e1 : C' = C := by
    have z := m1.symm.trans mc
    cases z; rfl
  have e2 : D' = Dc := by
    have z := m2.symm.trans hm
    cases z; rfl
  rw [← e1, ← e2]
  exact m3
theorem ss_tryN (hX : XOk pk N cl X) (tk : Tk pk.u X W) (hfn : ∀ x, X.fn x = true) (hst : X.stack = X.env :: X.outer) (hfr : X.env.frame = some X.env.locals) (g1 : glB X.env.scope (nm hc) = true) (g2 : pk.xs.contains hc = true)
    (hb : ∀ (W : WX) (pn : List (Addr × Obj)) (xe : Value → Shared → Prop), Tk pk.u (X.tr pn xe) W → PassesOwn (model X.prog X.w) X.A X.env xe → PSs (X.tr pn xe) body (tS (bs X ϑ) W (exSs cl body'))) {n : Nat} (q : chkSs (chkQS pk N none X.env.scope n) (b₀ :: suite) suite' = true) :
    PS X (.Try body [.ExceptHandler (some (.Name (nm hc) np)) none (b₀ :: suite) pos'] [] [] pos) (tS (bs X ϑ) W (exS cl (.try body' hc none suite'))) := by
  obtain ⟨k, hr, L⟩ := hX.room ϑ
  obtain ⟨Dc, _, _, _, _, _, _, hm, _⟩ := L.xs hc g2
  obtain ⟨p1, p2, p3⟩ := glB_ok g1
  refine PS.imp (try_n_u (ts := tSu X ϑ cl none suite') hst hfr tk ⟨p1, p2, .inl hm⟩ hb (suite_ok (ϑ := ϑ) hX hfn q)) fun D σ H hh => ?_
  obtain ⟨al, ρ, S, sr, re, c, Sf, e, hf⟩ := hh
  simp only [exS] at e
  refine ⟨al, ρ, S, sr, re, ?_⟩
  unfold tryL at e
  cases hr : exSs cl body' ρ S with
  | none => rw [hr] at e; cases e
  | some p =>
    obtain ⟨c1, S1⟩ := p
    rw [hr] at e
    refine ⟨c1, S1, rfl, fun al' H' x s => ?_⟩
    cases c1 with
    | nx ρ' => cases e; exact hf al' H' x s
    | rt d => cases e; exact hf al' H' x s
    | bk ρ' => cases e; exact hf al' H' x s
    | ct ρ' => cases e; exact hf al' H' x s
    | ex c1 ρ1 =>
      intro σ1 C re1 mc
      simp only [tryR] at e
      cases hs : cl.sub c1 hc with
      | none => rw [hs] at e; cases e
      | some b =>
        rw [hs] at e
        refine ⟨b, try_wish (ϑ := ϑ) (σ' := σ1) (H' := H') (al' := al') (S' := S1) (ρ' := ρ1) (D := D) L hm mc hs, fun hb => ?_, fun hb => ?_⟩
        · subst hb
          simp only at e
          obtain ⟨r, e2, e3⟩ := Option.map_eq_some_iff.mp e
          obtain ⟨e4, e5⟩ := Prod.mk.inj e3
          subst e4
          subst e5
          have out := qSs_out (qS_out n) _ _ _ _ q e2
          refine fun a ha => ⟨c1, C, rfl, rfl, mc, (fun i hi => by cases hi), al', ρ1, S1, s, re1, r, e2, fun al2 H2 x2 s2 => ?_⟩
          have k1 := hf al2 H2 (Xt.trans s x x2) s2
          cases r with
          | nx ρ2 => exact fun σ2 _ re2 => k1 σ2 re2
          | rt d => exact k1
          | bk _ => exact out.elim (fun ⟨_, z⟩ => by cases z) fun ⟨_, z⟩ => by cases z
          | ct _ => exact out.elim (fun ⟨_, z⟩ => by cases z) fun ⟨_, z⟩ => by cases z
          | ex _ _ => exact out.elim (fun ⟨_, z⟩ => by cases z) fun ⟨_, z⟩ => by cases z
        · subst hb
          simp only at e
          cases e
          exact hf al' H' x s σ1 C re1 mc
theorem ss_tryA {nm1 : Str} {i : Nat} (hX : XOk pk N cl X) (tk : Tk pk.u X W) (hfn : ∀ x, X.fn x = true) (hst : X.stack = X.env :: X.outer) (hfr : X.env.frame = some X.env.locals) (g1 : glB X.env.scope (nm hc) = true) (g2 : pk.xs.contains hc = true) (hi : N[i]? = some nm1) (hl : X.env.kindOf nm1 = some .local)
    (hb : ∀ (W : WX) (pn : List (Addr × Obj)) (xe : Value → Shared → Prop), Tk pk.u (X.tr pn xe) W → PassesOwn (model X.prog X.w) X.A X.env xe → PSs (X.tr pn xe) body (tS (bs X ϑ) W (exSs cl body'))) {n : Nat} (q : chkSs (chkQS pk N (some i) X.env.scope n) (b₀ :: suite) suite' = true) :
    PS X (.Try body [.ExceptHandler (some (.Name (nm hc) np)) (some nm1) (b₀ :: suite) pos'] [] [] pos) (tS (bs X ϑ) W (exS cl (.try body' hc (some i) suite'))) := by
  obtain ⟨k, hr, L⟩ := hX.room ϑ
  obtain ⟨Dc, _, _, _, _, _, _, hm, _⟩ := L.xs hc g2
  obtain ⟨p1, p2, p3⟩ := glB_ok g1
  refine PS.imp (try_a_u (i := i) hst hfr (by rw [hX.hN]; exact hX.nd) (by rw [hX.hN]; exact hi) hl ⟨p1, p2, .inl hm⟩ tk hb (suite_ok (ϑ := ϑ) hX hfn q)) fun D σ H hh => ?_
  obtain ⟨al, ρ, S, sr, re, c, Sf, e, hf⟩ := hh
  simp only [exS] at e
  refine ⟨al, ρ, S, sr, re, ?_⟩
  unfold tryL at e
  cases hr : exSs cl body' ρ S with
  | none => rw [hr] at e; cases e
  | some p =>
    obtain ⟨c1, S1⟩ := p
    rw [hr] at e
    refine ⟨c1, S1, rfl, fun al' H' x s => ?_⟩
    cases c1 with
    | nx ρ' => cases e; exact hf al' H' x s
    | rt d => cases e; exact hf al' H' x s
    | bk ρ' => cases e; exact hf al' H' x s
    | ct ρ' => cases e; exact hf al' H' x s
    | ex c1 ρ1 =>
      intro σ1 C re1 mc
      simp only [tryR] at e
      cases hs : cl.sub c1 hc with
      | none => rw [hs] at e; cases e
      | some b =>
        rw [hs] at e
        refine ⟨b, try_wish (ϑ := ϑ) (σ' := σ1) (H' := H') (al' := al') (S' := S1) (ρ' := ρ1) (D := D) L hm mc hs, fun hb => ?_, fun hb => ?_⟩
        · subst hb
          simp only at e
          split at e
          case isFalse => cases e
          rename_i hil
          obtain ⟨r, e2, e3⟩ := Option.map_eq_some_iff.mp e
          obtain ⟨e4, e5⟩ := Prod.mk.inj e3
          subst e4
          subst e5
          have out := qSs_out (qS_out n) _ _ _ _ q e2
          refine fun a ha => ⟨c1, C, rfl, rfl, mc, (fun j hj => by cases hj; rw [List.getElem?_set_self (by rw [← re1.1]; exact hil)]), al', ρ1.set i none, S1, s, re1.unset i _, r, e2, fun al2 H2 x2 s2 => ?_⟩
          have k1 := hf al2 H2 (Xt.trans s x x2) s2
          cases r with
          | nx ρ2 => simp only [Ctl.wipe] at k1; exact fun σ2 _ re2 => k1 (σ2.set i none) (re2.unset i none)
          | rt d => simp only [Ctl.wipe] at k1; exact k1
          | bk _ => exact out.elim (fun ⟨_, z⟩ => by cases z) fun ⟨_, z⟩ => by cases z
          | ct _ => exact out.elim (fun ⟨_, z⟩ => by cases z) fun ⟨_, z⟩ => by cases z
          | ex _ _ => exact out.elim (fun ⟨_, z⟩ => by cases z) fun ⟨_, z⟩ => by cases z
        · subst hb
          simp only at e
          cases e
          exact hf al' H' x s σ1 C re1 mc
/-! ### raise .. from None in a suite -/
theorem pmk5_own {X : Cx} {C : Addr} {bmB : List Value} {B newId initId : String} {x m : Str} {j : Nat} {p p2 pos : Pos} (F : ExcBaseFacts B newId initId bmB) (q : PySem.W.excIn X.K C bmB newId = true) (gC : X.mg x = some (.ref C)) (kC : PySem.W.keepIn X.K (.ref C) = true) (r : Raises X (.ref C)) (hg : Gl X x)
    (hdb : (x == ("__debug__" : Str)) = false) : L2H.PMk5 X (.Call (.Name x p) [.Constant (.str m) j p2] [] pos) (fun _ H Q => Q (.ref C) none H) := by
  intro pins s σ H Q I h
  refine wpAny_Call_Name_kw (ld_glob I hg gC ?_ hdb)
  have ha : PA X [.Constant (.str m) j p2] (tCons (L2.tC (.str m)) tNil) := pa_cons pe_str pa_nil
  refine PySem.W.callWith_K (h₀ := X.base) I.ok.mod.kin kC (thn (ha.run pos pins s σ H (fun vs H1 => vs = [V.str m] ∧ H = H1) I ⟨rfl, rfl⟩) fun us s1 hh => ?_)
  obtain ⟨vs, H1, I1, r1, ev, eH⟩ := hh
  subst ev
  rw [← eH] at I1
  refine ⟨I1.kIn, ?_⟩
  cases r1 with
  | cons ru rn =>
    rename_i u us'
    cases rn
    show wpAny _ _ (call (.ref C) [u]) _ _ _
    obtain ⟨bm, N, nm, qn, bs, hdct, sn, sub, ab, col, dd, k0, k1, k2, k3, k5, mN, hC, hN, hni, T⟩ := exc_obj I1.kIn q
    refine wpAny_call_exc_subT F T hC hN hni (fun h' e hm => ?_) (by show 1 ≤ sizeLine; rw [sizeLine_eq]; omega)
    exact L2H.mk_of5 I1 hm r h (I1.hok.gone hm.new)
theorem ss_tryX {y : String} {m : Str} {j j2 : Nat} {p p2 p3 p4 cpos : Pos} (hX : XOk pk N cl X) (tk : L2.Takes X W) (hst : X.stack = X.env :: X.outer) (hfr : X.env.frame = some X.env.locals)
    (hpa : ∀ hd : Option Value, PassesOwnAt (model X.prog X.w) (X.A.mark hd) X.A X.env X.xe) (g1 : glB X.env.scope (nm hc) = true) (g2 : pk.xs.contains hc = true) (g3 : glB X.env.scope (nm y) = true) (g4 : pk.xs.contains y = true)
    (hb : ∀ (W : WX) (pn : List (Addr × Obj)) (xe : Value → Shared → Prop), L2N.Takes (X.tr pn xe) W → PassesOwn (model X.prog X.w) X.A X.env xe → PSs (X.tr pn xe) body (tS (bs X ϑ) W (exSs cl body'))) :
    PS X (.Try body [.ExceptHandler (some (.Name (nm hc) np)) none [.Raise (some (.Call (.Name (nm y) p) [.Constant (.str m) j p2] [] cpos)) (some (.Constant .none j2 p3)) p4] pos'] [] [] pos) (tS (bs X ϑ) W (exS cl (.try body' hc none [.raiseN y]))) := by
  obtain ⟨k, hr, L⟩ := hX.room ϑ
  obtain ⟨Dc, _, _, _, _, _, _, hm, _⟩ := L.xs hc g2
  obtain ⟨C, bmB, Bn, newId, initId, F, h1, h2, h3, h4, h5⟩ := L.xs y g4
  obtain ⟨p1, q2, q3⟩ := glB_ok g1
  obtain ⟨r1, r2, r3⟩ := glB_ok g3
  refine PS.imp (L2H.ps_try_onlyX (ts := fun _ _ _ => fun _ σ H => W (.ref C) none σ H) hst hfr ⟨p1, q2, .inl hm⟩ hpa tk (fun W' pn xe t1 _ po => hb W' pn xe t1 po) (fun a oe cls d pn hz hf tkS hot => ?_)) fun D σ H hh => ?_
  · refine PSs.imp (pss_one (L2H.ps_raiseHN (W := W) hot tkS (pmk5_own (X := L2H.suiteX X a ((a, oe) :: pn)) F h1 h2 h3 (raises_own h4 h5) r1 r2))) fun D σ H h => h
  · obtain ⟨al, ρ, S, sr, re, c, Sf, e, hf⟩ := hh
    simp only [exS] at e
    refine ⟨al, ρ, S, sr, re, ?_⟩
    unfold tryL at e
    cases hr : exSs cl body' ρ S with
    | none => rw [hr] at e; cases e
    | some p =>
      obtain ⟨c1, S1⟩ := p
      rw [hr] at e
      refine ⟨c1, S1, rfl, fun al' H' x s => ?_⟩
      cases c1 with
      | nx ρ' => cases e; exact hf al' H' x s
      | rt d => cases e; exact hf al' H' x s
      | bk ρ' => cases e; exact hf al' H' x s
      | ct ρ' => cases e; exact hf al' H' x s
      | ex c1 ρ1 =>
        intro σ1 C1 re1 mc
        simp only [tryR] at e
        cases hs : cl.sub c1 hc with
        | none => rw [hs] at e; cases e
        | some b =>
          rw [hs] at e
          refine ⟨b, try_wish (ϑ := ϑ) (σ' := σ1) (H' := H') (al' := al') (S' := S1) (ρ' := ρ1) (D := D) L hm mc hs, fun hb => ?_, fun hb => ?_⟩
          · subst hb
            simp only [quSs, quS, Option.map_some] at e
            cases e
            exact fun a ha => hf al' H' x s σ1 C re1 h2
          · subst hb
            simp only at e
            cases e
            exact hf al' H' x s σ1 C1 re1 mc
end
end Mi

set_option autoImplicit true
set_option maxRecDepth 512
set_option maxHeartbeats 200000
set_option Elab.async false
set_option linter.all false
set_option maxRecDepth 100000
/-! Mi12: bodies of defs, and the defs themselves. -/
namespace Mi
open PySem PySem.Spec PyProof.Rows L2

/-! ### how arguments bind -/
theorem fm_congr {α β : Type} {f g : α → Option β} : ∀ {l : List α}, (∀ x ∈ l, f x = g x) → l.filterMap f = l.filterMap g
  | [], _ => rfl
  | a :: l, h => by
    rw [List.filterMap_cons, List.filterMap_cons, h a (by simp), fm_congr fun x hx => h x (by simp [hx])]
theorem lookup_zip {ps : List Str} : ∀ {us : List Value} (_ : ps.Nodup) (_ : us.length = ps.length) {x : Str}, x ∈ ps → ((ps.zip us).lookup x).isSome = true := by
  induction ps with
  | nil => intro us nd hl x h; simp at h
  | cons p ps ih =>
    intro us nd hl x h
    cases us with
    | nil => simp at hl
    | cons u us =>
      simp only [List.zip_cons_cons, List.lookup_cons]
      by_cases e : x = p
      · subst e; simp
      · have : (x == p) = false := by simpa using e
        rw [this]
        exact ih (List.nodup_cons.mp nd).2 (by simpa using hl) (by simpa [e] using h)
theorem filterMap_zip {ps : List Str} : ∀ {us : List Value} (_ : ps.Nodup) (_ : us.length = ps.length), ps.filterMap (fun n => ((ps.zip us).lookup n).map (n, ·)) = ps.zip us := by
  induction ps with
  | nil => intro us nd hl; simp
  | cons p ps ih =>
    intro us nd hl
    cases us with
    | nil => simp at hl
    | cons u us =>
      have nd' := List.nodup_cons.mp nd
      rw [List.filterMap_cons]
      simp only [List.zip_cons_cons, List.lookup_cons, beq_self_eq_true, Option.map_some]
      congr 1
      refine Eq.trans (fm_congr fun x hx => ?_) (ih nd'.2 (by simpa using hl))
      have e : x ≠ p := fun z => nd'.1 (z ▸ hx)
      have : (x == p) = false := by simpa using e
      rw [this]
theorem bind_plain {fd : FuncData} {ps : List Str} (h1 : fd.params.posonlyargs = []) (h2 : fd.params.vararg = none) (h3 : fd.params.kwonlyargs = []) (h4 : fd.params.kwarg = none) (h5 : fd.defaults = .none) (h6 : fd.params.args.map (·.arg) = ps) (nd : ps.Nodup)
    {us : List Value} (hl : us.length = ps.length) : bindArgs fd ⟨us, []⟩ = pure (ps.zip us) := by
  unfold bindArgs
  simp only [h1, h2, h3, h4, h5, h6, List.map_nil, List.nil_append, List.append_nil]
  have e1 : (ps.filter fun n => ((ps.zip us).lookup n).isNone) = [] := by
    rw [List.filter_eq_nil_iff]
    intro x hx
    have := lookup_zip nd hl hx
    cases q : (ps.zip us).lookup x with
    | none => rw [q] at this; cases this
    | some v => simp
  simp [hl, e1, seqItems?, notAStandIn]
  rw [filterMap_zip nd hl]

/-! ### the check of statements -/
def isTuple : Expr → Bool
  | .Tuple _ _ _ => true
  | .List _ _ => true
  | _ => false
/-- does y = [..] store out of the comprehension itself -/
def swB (sc scope : Scope) (y : Str) (py lp : Pos) : Bool := (sc.names.lookup y == some .local) && (py.line == lp.line) && !(scope.names.any fun (n, k) => n == y && (k == .local || k == .cell))
def asgOk (sc : Scope) (tg e : Expr) : Bool := match e with
  | .ListComp _ _ scope lp => (match tg with
    | .Name y py => !swB sc scope y py lp
    | _ => true)
  | .SetComp _ _ _ _ => false
  | .DictComp _ _ _ _ _ => false
  | .Tuple _ _ _ => !isTuple tg
  | _ => true
def noSC : Expr → Bool
  | .SetComp _ _ _ _ => false
  | .DictComp _ _ _ _ _ => false
  | _ => true
def augOp (o : O2) : Bool := match o with
  | .add => true | .sub => true | .mul => true
  | _ => false
def noHole : Ex → Bool
  | .hole => false
  | _ => true
/-- except ..: raise y('..') from None -/
def raiseNB (pk : Pk) (sc : Scope) (suite : List Stmt) (suite' : List St) : Bool := match suite, suite' with
  | [.Raise (some (.Call (.Name z _) [.Constant (.str _) _ _] [] _)) (some (.Constant .none _ _)) _], [.raiseN c] => decide (z = nm c) && glB sc z && pk.xs.contains c
  | _, _ => false
theorem raiseNB_ok {pk : Pk} {sc : Scope} {suite : List Stmt} {suite' : List St} (h : raiseNB pk sc suite suite' = true) : ∃ c p m j p2 cpos j2 p3 p4, suite = [.Raise (some (.Call (.Name (nm c) p) [.Constant (.str m) j p2] [] cpos)) (some (.Constant .none j2 p3)) p4] ∧ suite' = [.raiseN c] ∧ glB sc (nm c) = true ∧ pk.xs.contains c = true := by
  unfold raiseNB at h
  split at h
  · simp only [Bool.and_eq_true, decide_eq_true_eq] at h
    obtain ⟨⟨rfl, h2⟩, h3⟩ := h
    exact ⟨_, _, _, _, _, _, _, _, _, rfl, rfl, h2, h3⟩
  · cases h
def chkS (pk : Pk) (N : List Str) (sc : Scope) : Nat → Stmt → St → Bool
  | 0, _, _ => false
  | n + 1, st, s => match s with
    | .hole => true
    | .asg t e' => (match st with
      | .Assign [tg] e _ => noStar tg && chkTg N sc (fun _ => true) n tg t && chkE pk N n sc e e' &&
          (asgOk sc tg e || (match tg, e with
            | .Name y py, .ListComp _ [_] scope lp => swB sc scope y py lp && noHole e'
            | _, _ => false))
      | _ => false)
    | .asgIx o' i' e' => (match st with
      | .Assign [.Subscript o i _] e _ => !isSlice i && chkE pk N n sc o o' && chkE pk N n sc i i' && chkE pk N n sc e e'
      | _ => false)
    | .asgFld o' f e' => (match st with
      | .Assign [.Attribute o x _] e _ => decide (x = nm f) && noSC e && chkE pk N n sc o o' && chkE pk N n sc e e'
      | _ => false)
    | .aug i o e' => (match st with
      | .AugAssign (.Name x _) op e _ => decide (op = opN o) && augOp o && decide (N[i]? = some x) && locB sc (fun _ => true) x && chkE pk N n sc e e'
      | _ => false)
    | .augFld o' f op' e' => (match st with
      | .AugAssign (.Attribute o x _) .Add e _ => decide (op' = .add) && decide (x = nm f) && (match e' with | .int _ => true | .var _ => true | _ => false) && chkE pk N n sc o o' && chkE pk N n sc e e'
      | _ => false)
    | .try body' h v suite' => (match st with
      | .Try body [.ExceptHandler (some (.Name x _)) none (b₀ :: suite) _] [] [] _ => decide (v = none) && decide (x = nm h) && glB sc x && pk.xs.contains h && ((chkSs (chkS pk.nt N sc n) body body' && chkSs (chkQS pk N none sc n) (b₀ :: suite) suite') ||
          (pk.u && pk.tp && raiseNB pk sc (b₀ :: suite) suite' && chkSs (chkS pk.lo N sc n) body body'))
      | .Try body [.ExceptHandler (some (.Name x _)) (some y) (b₀ :: suite) _] [] [] _ => (match v with
        | some i => decide (N[i]? = some y) && decide (sc.names.lookup y = some .local) && decide (x = nm h) && glB sc x && pk.xs.contains h && chkSs (chkS pk.nt N sc n) body body' && chkSs (chkQS pk N (some i) sc n) (b₀ :: suite) suite'
        | none => false)
      | _ => false)
    | .expr e' => (match st with | .Expr e _ => noComp e && chkE pk N n sc e e' | _ => false)
    | .ite c' a' b' => (match st with | .If c a b _ => notIf c && chkE pk N n sc c c' && chkSs (chkS pk N sc n) a a' && chkSs (chkS pk N sc n) b b' | _ => false)
    | .for t k xs body' => (match st with
      | .For tg iter body [] _ => chkTg N sc (fun _ => true) n tg t && chkIt pk (chkE pk N n sc) sc iter k xs && chkSs (chkS pk N sc n) body body'
      | _ => false)
    | .while c' body' => (match st with | .While c body [] _ => notIf c && chkE pk N n sc c c' && chkSs (chkS pk N sc n) body body' | _ => false)
    | .ret e' => (match st with | .Return (some e) _ => chkE pk N n sc e e' | _ => false)
    | .retN => (match st with | .Return none _ => true | _ => false)
    | .raise c => (match st with | .Raise (some (.Call (.Name x _) [.Constant (.str _) _ _] [] _)) none _ => decide (x = nm c) && glB sc x && pk.xs.contains c | _ => false)
    | .brk => (match st with | .Break _ => true | _ => false)
    | .cont => (match st with | .Continue _ => true | _ => false)
    | .pass => (match st with | .Pass _ => true | _ => false)
    | _ => false

theorem augOp_ok {o : O2} (h : augOp o = true) : o = .add ∨ o = .sub ∨ o = .mul := by
  cases o <;> first | (cases h; done) | simp
/-- the context of a def's body -/
structure SOk (pk : Pk) (N : List Str) (cl : Cl) (X : Cx) : Prop where
  ok : XOk pk N cl X
  kind : X.env.scope.kind = .function
  fn : ∀ x, X.fn x = true
  po : PassesOwn (model X.prog X.w) X.A X.env X.xe
  pa : pk.tp = true → ∀ hd : Option Value, PassesOwnAt (model X.prog X.w) (X.A.mark hd) X.A X.env X.xe
  stk : X.stack = X.env :: X.outer
  frm : X.env.frame = some X.env.locals
theorem SOk.tr {pk : Pk} {N : List Str} {cl : Cl} {X : Cx} (h : SOk pk N cl X) (pn : List (Addr × Obj)) (xe : Value → Shared → Prop) (po : PassesOwn (model X.prog X.w) X.A X.env xe) : SOk pk.nt N cl (X.tr pn xe) :=
  ⟨⟨h.ok.nt.hN, h.ok.nt.nd, h.ok.nt.calm, h.ok.nt.rm⟩, h.kind, h.fn, po, (fun z => by cases z), h.stk, h.frm⟩
theorem SOk.trlo {pk : Pk} {N : List Str} {cl : Cl} {X : Cx} (h : SOk pk N cl X) (pn : List (Addr × Obj)) (xe : Value → Shared → Prop) (po : PassesOwn (model X.prog X.w) X.A X.env xe) : SOk pk.lo N cl (X.tr pn xe) :=
  ⟨⟨h.ok.lo.hN, h.ok.lo.nd, h.ok.lo.calm, h.ok.lo.rm⟩, h.kind, h.fn, po, (fun z => by cases z), h.stk, h.frm⟩
theorem swaps_no {e : Expr} (h : noComp e = true) (t : Option Expr) (l : Nat) (env : PySem.Env) : swapsWith e t l env = pure false := by
  cases e <;> first | rfl | (cases h; done)
theorem swaps_lc {elt : Expr} {gs : List Comprehension} {scope : Scope} {lp py : Pos} {y : Str} {l : Nat} {env : PySem.Env} (hk : env.scope.kind = .function) : swapsWith (.ListComp elt gs scope lp) (some (.Name y py)) l env = pure (swB env.scope scope y py lp) := by
  have hb : env.blockKind = .function := by unfold Env.blockKind; rw [hk]; rfl
  unfold swapsWith swB
  simp only [hb, Expr.pos, Env.kindOf]
  rfl
theorem asgOk_ok {env : PySem.Env} {tg e : Expr} {l : Nat} (hk : env.scope.kind = .function) (h : asgOk env.scope tg e = true) : swapsWithSole [tg] e l env = pure false ∧ swappedStores [tg] e env = pure none := by
  constructor
  · show swapsWith e (some tg) l env = pure false
    unfold asgOk at h
    split at h
    · split at h
      · rw [swaps_lc hk]
        rw [Bool.not_eq_true'] at h
        rw [h]
      · rename_i hn
        cases tg <;> first | rfl | exact absurd rfl (hn _ _)
    · cases h
    · cases h
    · rfl
    · rename_i h1 h2 h3 h4
      refine swaps_no ?_ _ _ _
      cases e <;> first | rfl | exact absurd rfl (h1 _ _ _ _) | exact absurd rfl (h2 _ _ _ _) | exact absurd rfl (h3 _ _ _ _ _)
  · unfold swappedStores
    cases e <;> first | rfl | skip
    all_goals (cases tg <;> first | rfl | (exfalso; simp [asgOk, isTuple] at h))

section
variable {pk : Pk} {N : List Str} {cl : Cl} {X : Cx} {W : WX} {pos : Pos}
/-- y = [..], stored by the comprehension -/
theorem ss_lc {elt tg iter : Expr} {ifs : List Expr} {scope : Scope} {lp py : Pos} {y : Str} {i : Nat} {e' : Ex} {n : Nat} (hX : SOk pk N cl X) (tk : Tk pk.u X W) (hN : N[i]? = some y)
    (hh : noHole e' = true) (q : chkE pk N (n + 1) X.env.scope (.ListComp elt [⟨tg, iter, ifs, 0⟩] scope lp) e' = true) (hs : swB X.env.scope scope y py lp = true) :
    PS X (.Assign [.Name y py] (.ListComp elt [⟨tg, iter, ifs, 0⟩] scope lp) pos) (tS (bs X ϑ) W (exS cl (.asg (.nm i) e'))) := by
  have ihp := fun e ir q => (soundE pk N cl n X W e ir hX.ok tk q ϑ).1
  have hsl := hs
  unfold swB at hsl
  simp only [Bool.and_eq_true, beq_iff_eq] at hsl
  unfold chkE at q
  simp only [solo] at q
  cases e' <;> first | (cases hh; done) | (simp only at q; cases q; done) | skip
  simp only at q
  rename_i z elt' t k xs cs vs
  simp only [Bool.and_eq_true, decide_eq_true_eq, List.all_eq_true] at q
  obtain ⟨⟨⟨⟨⟨⟨q1, rfl⟩, q3⟩, q4⟩, q5⟩, q6⟩, q7⟩ := q
  obtain ⟨p1, p2⟩ := pi_ok (tg := tg) hX.ok ihp q5
  have blkX : ∀ (s : Shared) (H : Hp) (C : Addr) (l : List (Str × Addr)) (fp : List Addr), XOk pk N cl (X.blk s H scope (compEnvC scope l C X.env) fp) := fun s H C l fp => hX.ok.blk s H scope _ fp
  refine PS.imp (ps_setLc (i := i) hX.ok.calm (by rw [hX.ok.hN]; exact hX.ok.nd) (by rw [hX.ok.hN]; exact hN) hsl.1.1 (by rw [swaps_lc hX.kind, hs]) p1 (own := ownOf N scope) (te := fun σ H Q => ∃ ϑ', tE (bs X ϑ') W0 (evE cl elt') σ H Q) (tt := fun σ H Q => ∃ ϑ', tT (bs X ϑ') W0 (evCs cl cs) σ H Q) (g := gTg X.K t) (by rw [hX.ok.hN]; exact blkOk_by q1)
    (fun s H C l fp => pg_ok (blkX s H C l fp) (fnm := fun x => scope.names.lookup x == some .cell) (fun x h => h) q4) (fun s H C l fp => ?_)
    (fun s H C l fp => PE.ex fun ϑ' => (soundE pk N cl n (X.blk s H scope (compEnvC scope l C X.env) fp) W0 elt elt' (blkX s H C l fp) (tk0 _) q7 ϑ').1) p2) fun D σ H h => ?_
  · exact PTs.ex fun ϑ' => comp_tests' (X := X.blk s H scope (compEnvC scope l C X.env) fp) (ϑ := ϑ') (fun e ir q => soundE pk N cl n _ W0 e ir (blkX s H C l fp) (tk0 _) q ϑ') q6
  · have h1 := asg_read h
    simp only [evE] at h1
    exact lc_read (fun j hj => by have := q3 j hj; simpa using this) h1

theorem soundSs {p : Stmt → St → Bool} (hp : ∀ st s, p st s = true → PS X st (tS (bs X ϑ) W (exS cl s))) : ∀ {es : List Stmt} {is : List St}, chkSs p es is = true → PSs X es (tS (bs X ϑ) W (exSs cl is))
  | [], [], _ => ss_nil
  | e :: es, i :: is, h => by
    simp only [chkSs, Bool.and_eq_true] at h
    exact ss_cons (hp e i h.1) (soundSs hp h.2)
  | [], _ :: _, h => by simp [chkSs] at h
  | _ :: _, [], h => by simp [chkSs] at h
theorem soundS : ∀ (n : Nat) (pk : Pk) (X : Cx) (W : WX) (st : Stmt) (s : St), SOk pk N cl X → Tk pk.u X W → chkS pk N X.env.scope n st s = true → PS X st (tS (bs X ϑ) W (exS cl s))
  | 0, _, _, _, _, _, _, _, q => absurd (show false = true from q) Bool.false_ne_true
  | n + 1, pk, X, W, st, s, hX, tk, q => by
    have ih := fun st s => soundS (ϑ := ϑ) n pk X W st s hX tk
    have ihE := fun e ir q => soundE pk N cl n X W e ir hX.ok tk q ϑ
    have hu := hX.ok.units
    unfold chkS at q
    cases s <;> simp only at q <;> first | (cases q; done) | skip
    · -- never reached
      refine ⟨fun pins s σ H D I h => ?_⟩
      obtain ⟨al, ρ, S, sr, re, R⟩ := h
      simp only [exS] at R
      exact R.none
    · -- asg
      rename_i t e'
      split at q
      · rename_i tg e _
        simp only [Bool.and_eq_true] at q
        obtain ⟨⟨⟨q1, q2⟩, q3⟩, q4⟩ := q
        rw [Bool.or_eq_true] at q4
        rcases q4 with q4 | q4
        · obtain ⟨a1, a2⟩ := asgOk_ok (l := _) hX.kind q4
          exact ss_asg (ihE _ _ q3) (pg_ok hX.ok (fun x _ => hX.fn x) q2) q1 a1 a2
        · split at q4
          · rename_i y py elt g scope lp
            rw [Bool.and_eq_true] at q4
            obtain ⟨q4, q4h⟩ := q4
            obtain ⟨tg2, iter, ifs, as⟩ := g
            cases n with
            | zero => exact absurd (show false = true from q3) Bool.false_ne_true
            | succ n =>
              obtain ⟨i, rfl, hi⟩ : ∃ i, t = .nm i ∧ N[i]? = some y := by
                unfold chkTg at q2
                split at q2
                · rename_i h; cases h
                  simp only [Bool.and_eq_true, decide_eq_true_eq] at q2
                  exact ⟨_, rfl, q2.1⟩
                · rename_i h; cases h
                · cases q2
              have has : as = 0 := by
                unfold chkE at q3
                simp only [solo] at q3
                cases e' <;> first | (cases q4h; done) | (simp only at q3; cases q3; done) | skip
                simp only at q3
                split at q3
                · rename_i h; cases h; rfl
                · cases q3
              subst has
              exact ss_lc hX tk hi q4h q3 q4
          · cases q4
      · cases q
    · -- asgIx
      split at q
      · rename_i o i tpos e _
        simp only [Bool.and_eq_true, Bool.not_eq_true'] at q
        exact ss_asgIx (by omega) (ihE _ _ q.1.1.2) (ihE _ _ q.1.2) (ihE _ _ q.2) q.1.1.1 (by cases e <;> rfl)
      · cases q
    · -- asgFld
      split at q
      · rename_i o x p e _
        simp only [Bool.and_eq_true, decide_eq_true_eq] at q
        obtain ⟨⟨⟨rfl, q2⟩, q3⟩, q4⟩ := q
        exact ss_asgFld hX.ok (ihE _ _ q3) (ihE _ _ q4) (by cases e <;> first | rfl | (cases q2; done))
      · cases q
    · -- aug
      split at q
      · simp only [Bool.and_eq_true, decide_eq_true_eq] at q
        obtain ⟨⟨⟨⟨rfl, q2⟩, q3⟩, q4⟩, q5⟩ := q
        exact ss_aug hX.ok (augOp_ok q2) (by rw [hX.ok.hN]; exact q3) (locB_ok q4).1 ((locB_ok q4).2.imp (fun _ => hX.fn _) id) (ihE _ _ q5)
      · cases q
    · -- o.f += e
      split at q
      · rename_i o x p e _
        simp only [Bool.and_eq_true, decide_eq_true_eq] at q
        obtain ⟨⟨⟨⟨rfl, rfl⟩, q3⟩, q4⟩, q5⟩ := q
        refine ss_augFld hX.ok (ihE _ _ q4) (ihE _ _ q5) fun ρ S y S2 h => ?_
        rename_i e'
        split at q3
        · simp only [evE] at h
          cases h
          rfl
        · simp only [evE] at h
          unfold M.of at h
          split at h <;> cases h
          rfl
        · cases q3
      · cases q
    · -- expr
      split at q
      · simp only [Bool.and_eq_true] at q
        exact ss_expr (ihE _ _ q.2) (swaps_no q.1 _ _ _)
      · cases q
    · -- if
      split at q
      · simp only [Bool.and_eq_true] at q
        exact ss_ite q.1.1.1 (ihE _ _ q.1.1.2) (soundSs ih q.1.2) (soundSs ih q.2)
      · cases q
    · -- for
      split at q
      · simp only [Bool.and_eq_true] at q
        obtain ⟨p1, p2⟩ := pi_ok (ϑ := ϑ) (cl := cl) (W := W) hX.ok (fun e i h => (ihE e i h).1) q.1.2
        exact ss_for hX.ok hX.po p1 (pg_ok hX.ok (fun x _ => hX.fn x) q.1.1) (soundSs ih q.2) p2
      · cases q
    · -- while
      split at q
      · simp only [Bool.and_eq_true] at q
        exact ss_while hX.po q.1.1 (ihE _ _ q.1.2) (soundSs ih q.2)
      · cases q
    · split at q
      · exact ss_ret (ihE _ _ q)
      · cases q
    · split at q
      · exact ss_retN
      · cases q
    · -- raise
      split at q
      · simp only [Bool.and_eq_true, decide_eq_true_eq] at q
        obtain ⟨⟨rfl, q2⟩, q3⟩ := q
        exact ss_raise hX.ok tk q3 q2
      · cases q
    · -- try
      split at q
      · simp only [Bool.and_eq_true, decide_eq_true_eq] at q
        obtain ⟨⟨⟨⟨rfl, rfl⟩, q3⟩, q4⟩, q56⟩ := q
        rw [Bool.or_eq_true] at q56
        rcases q56 with q56 | q56
        · rw [Bool.and_eq_true] at q56
          obtain ⟨q5, q6⟩ := q56
          exact ss_tryN hX.ok tk hX.fn hX.stk hX.frm q3 q4 (fun W' pn xe tk' po => soundSs (X := X.tr pn xe) (fun st s q => soundS (ϑ := ϑ) n pk.nt (X.tr pn xe) W' st s (hX.tr pn xe po) tk' q) q5) q6
        · simp only [Bool.and_eq_true] at q56
          obtain ⟨⟨⟨u1, u2⟩, u3⟩, u4⟩ := q56
          obtain ⟨c, p, m, j, p2, cpos, j2, p3, p4, e0, rfl, e2, e3⟩ := raiseNB_ok u3
          cases e0
          have tk1 : L2.Takes X W := by
            have z := tk
            rw [u1] at z
            exact z
          exact ss_tryX hX.ok tk1 hX.stk hX.frm (hX.pa u2) q3 q4 e2 e3 (fun W' pn xe tk' po => soundSs (X := X.tr pn xe) (fun st s q => soundS (ϑ := ϑ) n pk.lo (X.tr pn xe) W' st s (hX.trlo pn xe po) tk' q) u4)
      · split at q
        · simp only [Bool.and_eq_true, decide_eq_true_eq] at q
          obtain ⟨⟨⟨⟨⟨⟨q1, q2⟩, rfl⟩, q3⟩, q4⟩, q5⟩, q6⟩ := q
          exact ss_tryA hX.ok tk hX.fn hX.stk hX.frm q3 q4 q1 q2 (fun W' pn xe tk' po => soundSs (X := X.tr pn xe) (fun st s q => soundS (ϑ := ϑ) n pk.nt (X.tr pn xe) W' st s (hX.tr pn xe po) tk' q) q5) q6
        · cases q
      · cases q
    · split at q
      · exact ss_brk
      · cases q
    · split at q
      · exact ss_cont
      · cases q
    · split at q
      · exact ss_pass
      · cases q
end
end Mi

set_option autoImplicit true
set_option maxRecDepth 512
set_option maxHeartbeats 200000
set_option Elab.async false
set_option linter.all false
set_option maxRecDepth 100000
/-! Mi13: the defs of a program, and a law. -/
namespace Mi
open PySem PySem.Spec PyProof.Rows L2

/-- the check of a def's text -/
def scopeB (N ps : List Str) (sc : Scope) : Bool :=
  (match sc.kind with | .function => true | _ => false) && !sc.isCoroutine && !sc.isGenerator && decide (N.Nodup) && decide (N.take ps.length = ps) &&
    ps.all (fun x => match sc.names.lookup x with | some .local => true | some .cell => true | _ => false) && sc.names.all (fun y => match y.2 with | .free => false | _ => true)
theorem scopeB_ok {N ps : List Str} {sc : Scope} (h : scopeB N ps sc = true) : FnScope N ps sc := by
  unfold scopeB at h
  simp only [Bool.and_eq_true, decide_eq_true_eq, Bool.not_eq_true', List.all_eq_true] at h
  obtain ⟨⟨⟨⟨⟨⟨h1, h2⟩, h3⟩, h4⟩, h5⟩, h6⟩, h7⟩ := h
  refine ⟨?_, h2, h3, h4, h5, fun x hx => ?_, fun y hy e => ?_⟩
  · split at h1
    · assumption
    · cases h1
  · have := h6 x hx
    split at this
    · exact .inl (by assumption)
    · exact .inr (by assumption)
    · cases this
  · have := h7 y hy
    rw [e] at this
    cases this
def argsB (a : Arguments) (ps : List Str) : Bool := a.posonlyargs.isEmpty && a.vararg.isNone && a.kwonlyargs.isEmpty && a.kwarg.isNone && a.defaults.isEmpty && decide (a.args.map (·.arg) = ps)
def fuel : Nat := 60
/-- a def's text stands for f; N: its names, the parameters first -/
def chkFn (pk : Pk) (st : Stmt) (N ps : List Str) (f : Fn) : Bool :=
  scopeB N ps (defScope st) && argsB (defArgs st) ps && decide (N.length = f.n) && decide (ps.length = f.np) && chkSs (chkS pk N (defScope st) fuel) (defBody st) f.body

section
variable {P : Program} {w : World} {K : PySem.W.Frag} {mg : Str → Option Value} {base : Heap}
theorem start_get {N : List Str} {vs : List V} {i : Nat} {v : V} (h : vs[i]? = some v) : (L2.start N vs)[i]? = some (some v) := by
  unfold L2.start
  have hi : i < vs.length := (List.getElem?_eq_some_iff.mp h).1
  rw [List.getElem?_append_left (by simpa using hi), List.getElem?_map, h]
  rfl
theorem takes_u (u : Bool) {cdv : Value} {a : Addr} {N : List Str} {qual : Str} {sc : Scope} {A : Around} {outer : List PySem.Env} {s : Shared} {H : Hp} {E : XK} : Tk u (cxOf (CXm u P w) P w K mg base N qual sc a cdv A outer s H E) (fun c d _ H => E c d H) := by
  cases u
  · exact L2N.takes_of rfl rfl rfl rfl
  · exact L2.takes_of rfl rfl rfl rfl
theorem fn_ok {pk : Pk} {cl : Cl} {k : Nat} {x qual : Str} {st : Stmt} {a : Addr} {fd : FuncData} {N ps : List Str} {f : Fn} (F : L2.Fun K x qual st a fd) (L : ∀ ϑ, Lk ⟨P, w, K, mg, base, ϑ⟩ cl k pk ∧ Lk ⟨P, w, K, mg, base, ϑ⟩ cl k pk.lo) (q : chkFn pk st N ps f = true) :
    FnOk P w K mg base (CXm pk.u P w) (k + 1) a fd ps (spF ⟨P, w, K, mg, base, ϑ⟩ (callB cl f)) := by
  unfold chkFn at q
  simp only [Bool.and_eq_true, decide_eq_true_eq] at q
  obtain ⟨⟨⟨⟨q1, q2⟩, q3⟩, q4⟩, q5⟩ := q
  have S := scopeB_ok q1
  obtain ⟨oc, od, kV, doc, pm, an, cdv, ct, osl, rfl, lk, hcd⟩ := F.ex
  refine fn_of lk hcd S (fun vs H Q E h => ?_) (fun A outer s H vs Q E hr h => ?_)
  · obtain ⟨al, S, ds, sr, rs, o, S', e, _⟩ := h
    unfold callB at e
    split at e
    · rename_i hl
      rw [← rs.length, hl.1, q4]
    · cases e
  · generalize hX : cxOf (CXm pk.u P w) P w K mg base N qual (defScope st) a cdv A outer s H E = X
    have eB : bs X ϑ = ⟨P, w, K, mg, base, ϑ⟩ := by rw [← hX]; rfl
    have ok : SOk pk N cl X := by
      rw [← hX]
      exact ⟨⟨rfl, S.nd, rfl, k, hr, L⟩, S.kind, fun _ => rfl, passes_of rfl, fun _ => L2H.passesAt_of rfl, rfl, rfl⟩
    have tk : Tk pk.u X (fun c d _ H => E c d H) := by
      rw [← hX]
      exact takes_u pk.u
    have hsc : X.env.scope = defScope st := by rw [← hX]; rfl
    refine ⟨tS (bs X ϑ) (fun c d _ H => E c d H) (exSs cl f.body), soundSs (fun st' s' h => soundS (ϑ := ϑ) fuel pk X _ st' s' ok tk (by rw [hsc]; exact h)) q5, ?_⟩
    rw [eB]
    obtain ⟨al, S0, ds, sr, rs, o, S', e, h1, h2⟩ := h
    unfold callB at e
    split at e
    case isFalse => cases e
    rename_i hl
    have lv := rs.length
    refine ⟨al, ds.map some ++ List.replicate (f.n - f.np) none, S0, sr, ⟨?_, fun i d hd => ?_⟩, ?_⟩
    · unfold L2.start
      simp only [List.length_append, List.length_map, List.length_replicate]
      omega
    · have hi : i < ds.length := by
        by_cases hi : i < ds.length
        · exact hi
        · rw [List.getElem?_append_right (by simpa using hi)] at hd
          rw [List.getElem?_replicate] at hd
          split at hd <;> cases hd
      rw [List.getElem?_append_left (by simpa using hi), List.getElem?_map] at hd
      cases hds : ds[i]? with
      | none => rw [hds] at hd; cases hd
      | some d' =>
        rw [hds] at hd
        cases hd
        obtain ⟨v, hv, rv⟩ := rs.get hds
        exact ⟨v, start_get hv, rv⟩
    · cases hb : exSs cl f.body (ds.map some ++ List.replicate (f.n - f.np) none) S0 with
      | none => rw [hb] at e; cases e
      | some p =>
        obtain ⟨c, S1⟩ := p
        rw [hb] at e
        refine ⟨c, S1, rfl, fun al' H' x1 sr1 => ?_⟩
        cases c with
        | nx ρ' =>
          cases e
          intro σ' _
          obtain ⟨g1, g2, g3⟩ := gc_ok sr x1 sr1 .non
          exact h1 .non rfl al' H' g1 g2 .non (by simp [RV])
        | rt d =>
          intro v rv
          simp only [endC] at e
          cases hk : f.kp with
          | false =>
            rw [hk] at e
            simp only [Bool.false_eq_true, if_false] at e
            obtain ⟨e4, e5⟩ := Prod.mk.inj (Option.some.inj e)
            subst e4
            subst e5
            obtain ⟨g1, g2, g3⟩ := gc_ok sr x1 sr1 d
            exact h1 _ rfl al' H' g1 g2 v (g3 v rv)
          | true =>
            rw [hk] at e
            simp only [if_true] at e
            obtain ⟨e4, e5⟩ := Prod.mk.inj (Option.some.inj e)
            subst e4
            subst e5
            obtain ⟨al2, g1, g2, g3⟩ := gcP_ok sr x1 sr1 d
            exact h1 _ rfl al2 H' g1 g2 v (g3 v rv)
        | ex y ρ' =>
          cases e
          intro σ' C _ hC
          obtain ⟨g1, g2, g3⟩ := gc_ok sr x1 sr1 .non
          exact h2 y rfl al' H' C g1 g2 hC
        | bk ρ' => cases e
        | ct ρ' => cases e
theorem fn_binds {x qual : Str} {st : Stmt} {a : Addr} {fd : FuncData} {N ps : List Str} {f : Fn} {pk : Pk} (F : L2.Fun K x qual st a fd) (q : chkFn pk st N ps f = true) : Binds K fd ps [] := by
  unfold chkFn at q
  simp only [Bool.and_eq_true, decide_eq_true_eq] at q
  obtain ⟨⟨⟨⟨q1, q2⟩, q3⟩, q4⟩, q5⟩ := q
  have S := scopeB_ok q1
  unfold argsB at q2
  simp only [Bool.and_eq_true, decide_eq_true_eq, List.isEmpty_iff, Option.isNone_iff_eq_none] at q2
  obtain ⟨oc, od, kV, doc, pm, an, cdv, ct, osl, rfl, lk, hcd⟩ := F.ex
  refine .all fun us hl => bind_plain q2.1.1.1.1.1 q2.1.1.1.1.2 q2.1.1.1.2 q2.1.1.2 rfl q2.2 ?_ hl
  rw [← S.pre]
  exact S.nd.sublist (List.take_sublist _ _)
/-- a constant of the module -/
def GlAt (w : World) (K : PySem.W.Frag) (mg : Str → Option Value) (x : String) (d : D) : Prop := ∃ u v, mg (nm x) = some u ∧ RelV v u ∧ ∀ (B : Bs), B.w = w → B.K = K → B.mg = mg → ∀ al n H, RV B al n H d v
/-- what the head gives of one def -/
structure DefAt (P : Program) (K : PySem.W.Frag) (mg : Str → Option Value) (p : Prog) (pk : Pk) (f : String) : Prop where
  at_ : ∃ st N ps fn a fd, p.fns.lookup f = some fn ∧ mg (nm f) = some (.ref a) ∧ L2.Fun K (nm f) (nm f) st a fd ∧ chkFn pk st N ps fn = true
/-- a method's def -/
def MtAt (K : PySem.W.Frag) (p : Prog) (pk : Pk) (c m : String) (a : Addr) : Prop := ∃ qual st N ps fn fd, p.mts.lookup (c, m) = some fn ∧ L2.Fun K (nm m) qual st a fd ∧ chkFn pk st N ps fn = true
/-- what the head gives of a program -/
structure PrOk (P : Program) (w : World) (K : PySem.W.Frag) (mg : Str → Option Value) (base : Heap) (p : Prog) (pk : Pk) : Prop where
  fns : ∀ f, pk.fs.contains f = true → DefAt P K mg p pk f ∨ DefAt P K mg p pk.lo f
  fn0 : ∀ f, pk.f0.contains f = true → DefAt P K mg p pk.lo f
  bis : ∀ x, pk.bis.contains x = true → mg (nm x) = none
  gl : ∀ x d, pk.gls.contains x = true → p.gls.lookup x = some d → GlAt w K mg x d
  xs : ∀ c, pk.xs.contains c = true → XcAt K mg c
  fl : ∀ c f, p.fl c f = true → ∃ C, mg (nm c) = some (.ref C) ∧ Cls K C ∧ NoAttr K C (nm f)
  fi : ∀ c f g, p.fl c f = true → p.fl c g = true → nm f = nm g → f = g
  mt : ∀ c m, p.mo c m = true → ∃ C a, mg (nm c) = some (.ref C) ∧ Cls K C ∧ Meth K C (nm m) a ∧ MtAt K p pk.lo c m a
  mn : ∀ c m f, p.mo c m = true → p.fl c f = true → nm f ≠ nm m
  sb : ∀ c h b, p.sub c h = some b → SubAt K mg c h b
  cs : ∀ c, pk.cs.contains c = true → ∃ C a, mg (nm c) = some (.ref C) ∧ Mk K C a ∧ MtAt K p pk.lo c "__init__" a
theorem callK_gl (p : Prog) : ∀ k, (callK p k).gl = fun x => p.gls.lookup x
  | 0 => rfl
  | 1 => rfl
  | _ + 2 => rfl
theorem callK_fl (p : Prog) : ∀ k, (callK p k).fl = p.fl
  | 0 => rfl
  | 1 => rfl
  | _ + 2 => rfl
theorem callK_mo (p : Prog) : ∀ k, (callK p k).mo = p.mo
  | 0 => rfl
  | 1 => rfl
  | _ + 2 => rfl
theorem callK_sub (p : Prog) : ∀ k, (callK p k).sub = p.sub
  | 0 => rfl
  | 1 => rfl
  | _ + 2 => rfl
theorem callK_fn (p : Prog) {f : String} {fn : Fn} (h : p.fns.lookup f = some fn) : ∀ k, (callK p (k + 1)).fn f = callB (callK p k) fn
  | 0 => by
    funext ds
    show (match p.fns.lookup f with | none => M.fail | some fn => callB (callK p 0) fn ds) = _
    rw [h]
  | k + 1 => by
    funext ds
    show (match p.fns.lookup f with | none => M.fail | some fn => callB (callK p (k + 1)) fn ds) = _
    rw [h]
theorem callK_mt (p : Prog) {c m : String} {fn : Fn} (h : p.mts.lookup (c, m) = some fn) : ∀ k, (callK p (k + 1)).mt c m = callB (callK p k) fn
  | 0 => by
    funext ds
    show (match p.mts.lookup (c, m) with | none => M.fail | some fn => callB (callK p 0) fn ds) = _
    rw [h]
  | k + 1 => by
    funext ds
    show (match p.mts.lookup (c, m) with | none => M.fail | some fn => callB (callK p (k + 1)) fn ds) = _
    rw [h]
theorem callK_made (p : Prog) {c : String} {fn : Fn} (h : p.mts.lookup (c, "__init__") = some fn) (k : Nat) : (callK p (k + 2)).made c = callB (callK p k) fn := by
  funext ds
  show (match p.mts.lookup (c, "__init__") with | none => M.fail | some fn => callB (callK p k) fn ds) = _
  rw [h]
/-- what never ends promises all -/
theorem fn_fail {k : Nat} {a : Addr} {fd : FuncData} {ps : List Str} {m : List D → M D} {CX : CXT} (hm : ∀ ds S, m ds S = none) : FnOk P w K mg base CX k a fd ps (spF ⟨P, w, K, mg, base, ϑ⟩ m) := by
  have no : ∀ vs H Q E, ¬ spF ⟨P, w, K, mg, base, ϑ⟩ m vs H Q E := fun vs H Q E z => by
    obtain ⟨al, S, ds, _, _, R⟩ := z
    rw [hm] at R
    exact R.none
  exact ⟨fun vs H Q E z => absurd z (no vs H Q E), fun A outer s H args us vs Q E _ _ _ _ z => absurd z (no vs H Q E)⟩
theorem two_lo {P : Program} {w : World} {K : PySem.W.Frag} {mg : Str → Option Value} {base : Heap} {cl : Cl} {k : Nat} {pk r : Pk} (h : ∀ ϑ, Lk ⟨P, w, K, mg, base, ϑ⟩ cl k pk ∧ Lk ⟨P, w, K, mg, base, ϑ⟩ cl k pk.lo) (hr : r = pk ∨ r = pk.lo) : ∀ ϑ, Lk ⟨P, w, K, mg, base, ϑ⟩ cl k r ∧ Lk ⟨P, w, K, mg, base, ϑ⟩ cl k r.lo := fun ϑ => by
  rcases hr with rfl | rfl
  · exact h ϑ
  · exact ⟨(h ϑ).2, (h ϑ).2⟩
theorem lk_mk {p : Prog} {pk : Pk} {k : Nat} (h : PrOk P w K mg base p pk) (h1 : ∀ r : Pk, (r = pk ∨ r = pk.lo) → ∀ (f : String) (st : Stmt) (N ps : List Str) (fn : Fn) (a : Addr) (fd : FuncData), p.fns.lookup f = some fn → L2.Fun K (nm f) (nm f) st a fd → chkFn r st N ps fn = true → FnOk P w K mg base (CXm r.u P w) (k + 1) a fd ps (spF ⟨P, w, K, mg, base, ϑ⟩ ((callK p k).fn f)))
    (h2 : ∀ c m qual st N ps fn a fd, p.mts.lookup (c, m) = some fn → L2.Fun K (nm m) qual st a fd → chkFn pk.lo st N ps fn = true → FnOk P w K mg base (CXm false P w) (k + 1) a fd ps (spF ⟨P, w, K, mg, base, ϑ⟩ ((callK p k).mt c m)))
    (h3 : ∀ c qual st N ps fn a fd, p.mts.lookup (c, "__init__") = some fn → L2.Fun K (nm "__init__") qual st a fd → chkFn pk.lo st N ps fn = true → FnOk P w K mg base (CXm false P w) k a fd ps (spF ⟨P, w, K, mg, base, ϑ⟩ ((callK p k).made c))) :
    Lk ⟨P, w, K, mg, base, ϑ⟩ (callK p k) (k + 1) pk ∧ Lk ⟨P, w, K, mg, base, ϑ⟩ (callK p k) (k + 1) pk.lo := by
  have gl : ∀ x d, pk.gls.contains x = true → (callK p k).gl x = some d → ∃ u v, mg (nm x) = some u ∧ RelV v u ∧ ∀ al n H, RV ⟨P, w, K, mg, base, ϑ⟩ al n H d v := fun x d hx hd => let ⟨u, v, g1, g2, g3⟩ := h.gl x d hx (by rw [callK_gl] at hd; exact hd); ⟨u, v, g1, g2, g3 _ rfl rfl rfl⟩
  have mt : ∀ r : Pk, ∀ c m, (callK p k).mo c m = true → ∃ C a fd ps, mg (nm c) = some (.ref C) ∧ Cls K C ∧ Meth K C (nm m) a ∧ Binds K fd ps [] ∧ FnM r ⟨P, w, K, mg, base, ϑ⟩ (k + 1) a fd ps (spF ⟨P, w, K, mg, base, ϑ⟩ ((callK p k).mt c m)) := fun r c m q => by
    rw [callK_mo] at q
    obtain ⟨C, a, g1, g2, g3, qual, st, N, ps, fn, fd, g4, F, g5⟩ := h.mt c m q
    exact ⟨C, a, fd, ps, g1, g2, g3, fn_binds F g5, false, (fun z => by cases z), h2 c m qual st N ps fn a fd g4 F g5⟩
  have mk : ∀ r : Pk, ∀ c, pk.cs.contains c = true → ∃ C a fd ps k', k + 1 = k' + 1 ∧ mg (nm c) = some (.ref C) ∧ Mk K C a ∧ Binds K fd ps [] ∧ FnM r ⟨P, w, K, mg, base, ϑ⟩ k' a fd ps (spF ⟨P, w, K, mg, base, ϑ⟩ ((callK p k).made c)) := fun r c hc => by
    obtain ⟨C, a, g1, g2, qual, st, N, ps, fn, fd, g4, F, g5⟩ := h.cs c hc
    exact ⟨C, a, fd, ps, k, rfl, g1, g2, fn_binds F g5, false, (fun z => by cases z), h3 c qual st N ps fn a fd g4 F g5⟩
  have lo : ∀ f, DefAt P K mg p pk.lo f → ∀ r : Pk, ∃ a fd ps, mg (nm f) = some (.ref a) ∧ PySem.W.keepIn K (.ref a) = true ∧ Binds K fd ps [] ∧ FnM r ⟨P, w, K, mg, base, ϑ⟩ (k + 1) a fd ps (spF ⟨P, w, K, mg, base, ϑ⟩ ((callK p k).fn f)) := fun f hf r => by
    obtain ⟨st, N, ps, fn, a, fd, g1, g2, F, q⟩ := hf.at_
    exact ⟨a, fd, ps, g2, F.kp, fn_binds F q, false, (fun z => by cases z), h1 pk.lo (.inr rfl) f st N ps fn a fd g1 F q⟩
  refine ⟨⟨fun f hf => ?_, h.bis, gl, fun c hh b q => h.sb c hh b (by rw [callK_sub] at q; exact q), h.xs, fun c f q => h.fl c f (by rw [callK_fl] at q; exact q), fun c f g q q' => h.fi c f g (by rw [callK_fl] at q; exact q) (by rw [callK_fl] at q'; exact q'),
    mt pk, fun c m f q q' => h.mn c m f (by rw [callK_mo] at q; exact q) (by rw [callK_fl] at q'; exact q'), mk pk⟩,
    ⟨fun f hf => lo f (h.fn0 f hf) pk.lo, h.bis, gl, fun c hh b q => h.sb c hh b (by rw [callK_sub] at q; exact q), h.xs, fun c f q => h.fl c f (by rw [callK_fl] at q; exact q), fun c f g q q' => h.fi c f g (by rw [callK_fl] at q; exact q) (by rw [callK_fl] at q'; exact q'),
    mt pk.lo, fun c m f q q' => h.mn c m f (by rw [callK_mo] at q; exact q) (by rw [callK_fl] at q'; exact q'), mk pk.lo⟩⟩
  rcases h.fns f hf with hd | hd
  · obtain ⟨st, N, ps, fn, a, fd, g1, g2, F, q⟩ := hd.at_
    exact ⟨a, fd, ps, g2, F.kp, fn_binds F q, pk.u, id, h1 pk (.inl rfl) f st N ps fn a fd g1 F q⟩
  · exact lo f hd pk
theorem all_ok {p : Prog} {pk : Pk} (h : PrOk P w K mg base p pk) : ∀ k ϑ, Lk ⟨P, w, K, mg, base, ϑ⟩ (callK p k) (k + 1) pk ∧ Lk ⟨P, w, K, mg, base, ϑ⟩ (callK p k) (k + 1) pk.lo
  | 0, ϑ => lk_mk h (fun _ _ _ _ _ _ _ _ _ _ _ _ => fn_fail fun _ _ => rfl) (fun _ _ _ _ _ _ _ _ _ _ _ _ => fn_fail fun _ _ => rfl) (fun _ _ _ _ _ _ _ _ _ _ _ => fn_fail fun _ _ => rfl)
  | 1, ϑ => by
    have ih := all_ok h 0
    exact lk_mk h (fun r hr f st N ps fn a fd g F q => by rw [callK_fn p g]; exact fn_ok F (two_lo ih hr) q) (fun c m qual st N ps fn a fd g F q => by rw [callK_mt p g]; exact fn_ok (pk := pk.lo) F (two_lo ih (.inr rfl)) q) (fun _ _ _ _ _ _ _ _ _ _ _ => fn_fail fun _ _ => rfl)
  | k + 2, ϑ => by
    have ih := all_ok h (k + 1)
    have ih0 := all_ok h k
    exact lk_mk h (fun r hr f st N ps fn a fd g F q => by rw [callK_fn p g]; exact fn_ok F (two_lo ih hr) q) (fun c m qual st N ps fn a fd g F q => by rw [callK_mt p g]; exact fn_ok (pk := pk.lo) F (two_lo ih (.inr rfl)) q) (fun c qual st N ps fn a fd g F q => by rw [callK_made p g]; exact fn_ok (pk := pk.lo) F (two_lo ih0 (.inr rfl)) q)

/-- the law's def at k + 1 calls: it answers True -/
def spTrue (K : PySem.W.Frag) : Sp := fun vs H Q _ => ∃ (a : Addr) (ns : List Int), vs = [.ref a] ∧ ScL K H a (ns.map V.int) ∧ ns.length ≤ 63 ∧ ∀ H', Q (.bl true) H'
theorem ints_rv {B : Bs} {al : Al} {n : Nat} {H : Hp} : ∀ ns : List Int, RVs B al n H (ns.map D.int) (ns.map V.int)
  | [] => .nil
  | i :: ns => .cons (by simp [RV]) (ints_rv ns)
theorem law_true {m : List D → M D} {CX : CXT} {k : Nat} {a : Addr} {fd : FuncData} {ps : List Str} (hlen : ps.length = 1)
    (hm : ∀ ns : List Int, ns.length ≤ 63 → ∃ S', m [.scr (ns.map .int)] [] = some (.ok (.bl true), S')) (F : FnOk P w K mg base CX k a fd ps (spF ⟨P, w, K, mg, base, fun _ => False⟩ m)) : FnOk P w K mg base CX k a fd ps (spTrue K) :=
  F.imp fun vs H Q E h => by
    obtain ⟨b, ns, rfl, hf, hl, q⟩ := h
    obtain ⟨S', e⟩ := hm ns hl
    refine ⟨fun _ => 0, [], [.scr (ns.map .int)], ⟨fun i c z => by simp at z, fun i j hi => absurd hi (Nat.not_lt_zero _), fun a h => h.elim⟩, .one ?_, .ok (.bl true), S', e, fun d z al' H' _ _ v rv => ?_, fun c z => nomatch z⟩
    · rw [rv_scr]
      exact ⟨b, _, rfl, hf, ints_rv ns⟩
    · cases z
      rw [rv_bl] at rv
      subst rv
      exact q H'
end
section
variable {P : Program} {w : World} {K : PySem.W.Frag} {mg : Str → Option Value} {h : Heap}
abbrev kOf {K : PySem.W.Frag} {h : Heap} (_ : K.In h) : PySem.W.Frag := K
theorem defAt_mk {p : Prog} {pk : Pk} {f : String} {st : Stmt} {N ps : List Str} {fn : Fn} {a : Addr} {oc : Value} {od an : Option Addr} {osl : Array (Option Value)} {kV doc pm cdv ct : Value} (X : K.In h) (G : h.Ns mainGlobals mg)
    (e1 : PySem.W.nsIn K mainGlobals (nm f) = some (some (.ref a))) (l : K.lookup a = some ⟨oc, od, .func (PySem.W.fnOf (nm f) (nm f) (defArgs st) (defBody st) (defScope st) .none kV doc pm an cdv ct), osl⟩)
    (c : PySem.W.codeIn K cdv (nm f) = true) (k : PySem.W.keepIn K (.ref a) = true) (hl : p.fns.lookup f = some fn) (q : chkFn pk st N ps fn = true) : DefAt P K mg p pk f :=
  ⟨st, N, ps, fn, a, _, hl, PySem.W.mg_of X G e1, fun_mk (st := st) l c k, q⟩
theorem fun_ex {f : String} {st : Stmt} {a : Addr} {oc : Value} {od an : Option Addr} {osl : Array (Option Value)} {kV doc pm cdv ct : Value} (X : K.In h) (G : h.Ns mainGlobals mg)
    (e1 : PySem.W.nsIn K mainGlobals (nm f) = some (some (.ref a))) (l : K.lookup a = some ⟨oc, od, .func (PySem.W.fnOf (nm f) (nm f) (defArgs st) (defBody st) (defScope st) .none kV doc pm an cdv ct), osl⟩)
    (c : PySem.W.codeIn K cdv (nm f) = true) (k : PySem.W.keepIn K (.ref a) = true) : ∃ a fd, mg (nm f) = some (.ref a) ∧ L2.Fun K (nm f) (nm f) st a fd :=
  ⟨a, _, PySem.W.mg_of X G e1, fun_mk (st := st) l c k⟩
theorem xc_mk {c : String} {C : Addr} {bmB : List Value} {Bn newId initId : String} (X : K.In h) (G : h.Ns mainGlobals mg) (F : ExcBaseFacts Bn newId initId bmB) (q : PySem.W.excIn K C bmB newId = true)
    (g : PySem.W.nsIn K mainGlobals (nm c) = some (some (.ref C))) (k : PySem.W.keepIn K (.ref C) = true) (s : PySem.W.subIn K (.ref C) (.type "BaseException") = some true) (t : PySem.W.typeIn K (.ref C) = some (.type "type")) : XcAt K mg c :=
  ⟨C, bmB, Bn, newId, initId, F, q, PySem.W.mg_of X G g, k, s, t⟩
theorem sub_mk {c x : String} {C D : Addr} {b : Bool} (X : K.In h) (G : h.Ns mainGlobals mg) (g : PySem.W.nsIn K mainGlobals (nm c) = some (some (.ref C))) (gh : PySem.W.nsIn K mainGlobals (nm x) = some (some (.ref D)))
    (s : PySem.W.subIn K (.ref D) (.type "BaseException") = some true) (d : PySem.W.hasDictIn K D = true) (t : PySem.W.typeIn K (.ref D) = some (.type "type")) (q : PySem.W.subIn K (.ref C) (.ref D) = some b) (e : (decide (C = D) && !b) = false)
    (hg : PySem.W.findIn K (.ref C) "__getattribute__" = some (some (.builtin "BaseException.__getattribute__"))) (hk : PySem.W.findIn K (.ref C) "__getattr__" = some none) (hs : PySem.W.subIn K (.ref C) (.type "BaseException") = some true)
    (hd : PySem.W.hasDictIn K C = true) (ha : PySem.W.findIn K (.ref C) "__class__" = some (some (.builtin "object.__class__"))) (hn : PySem.W.specialIn K (.builtin "object.__class__") "__get__" = some (some (.builtin "getset_descriptor.__get__")))
    (ht : PySem.W.takesIn K (.builtin "object.__class__") = some true) (hm : PySem.W.mroIn K C (.type "object") = some true) : SubAt K mg c x b := by
  refine ⟨C, D, PySem.W.mg_of X G g, PySem.W.mg_of X G gh, PySem.W.exm_ref s d t q, ?_, ⟨hg, hk, hs, hd, ha, hn, ht, hm⟩⟩
  unfold PySem.W.kitOne
  by_cases z : C = D
  · subst z
    have hb : b = true := by cases b <;> simp_all
    rw [if_pos (by simp), hb]
  · have z' : ((Value.ref C) == (Value.ref D)) = false := by
      rw [beq_eq_false_iff_ne]
      intro w
      cases w
      exact z rfl
    rw [z', if_neg (by simp)]
    have dd := d
    unfold PySem.W.hasDictIn at dd
    cases hc : PySem.W.clsIn K D with
    | none => rw [hc] at dd; cases dd
    | some cd =>
      show (if ((PySem.W.clsIn K D).isSome && PySem.W.typeIn K (.ref D) == some (.type "type")) = true then PySem.W.subIn K (.ref C) (.ref D) else none) = some b
      rw [t, hc, if_pos (by rfl)]
      exact q
theorem gl_int {x : String} {i : Int} {t : Tok} (X : K.In h) (G : h.Ns mainGlobals mg) (e : PySem.W.nsIn K mainGlobals (nm x) = some (some (.int i t))) : GlAt w K mg x (.int i) :=
  ⟨_, .int i, PySem.W.mg_of X G e, ⟨t, rfl⟩, fun _ _ _ _ _ _ _ => by simp [RV]⟩
theorem gl_str {x : String} {s : Tx} {z : PySem.Str} {t : Tok} (X : K.In h) (G : h.Ns mainGlobals mg) (e : PySem.W.nsIn K mainGlobals (nm x) = some (some (.str z t))) (hz : z = txS s) (h1 : s.length ≤ szl) (h2 : s.all (fun c => decide (c < 1114112)) = true) : GlAt w K mg x (.str s) :=
  ⟨_, .str (txS s), PySem.W.mg_of X G e, ⟨t, by rw [hz]⟩, fun _ _ _ _ _ _ _ => by rw [rv_str]; exact ⟨rfl, h1, h2⟩⟩
/-- flat values of the written part -/
def flatB : List D → List Value → Bool
  | [], [] => true
  | .int i :: ds, .int j _ :: us => decide (i = j) && flatB ds us
  | .str s :: ds, .str z _ :: us => decide (z = txS s) && decide (s.length ≤ 1000) && s.all (fun c => decide (c < 1114112)) && flatB ds us
  | _, _ => false
theorem flatB_ok : ∀ {ds : List D} {us : List Value}, flatB ds us = true → ∃ vs, Vals vs us ∧ ∀ B al n H, RVs B al n H ds vs
  | [], [], _ => ⟨[], .nil, fun _ _ _ _ => .nil⟩
  | .int i :: ds, .int j t :: us, q => by
    simp only [flatB, Bool.and_eq_true, decide_eq_true_eq] at q
    obtain ⟨vs, h1, h2⟩ := flatB_ok q.2
    exact ⟨.int i :: vs, .cons ⟨t, by rw [q.1]⟩ h1, fun _ _ _ _ => .cons (by simp [RV]) (h2 _ _ _ _)⟩
  | .str s :: ds, .str z t :: us, q => by
    simp only [flatB, Bool.and_eq_true, decide_eq_true_eq] at q
    obtain ⟨vs, h1, h2⟩ := flatB_ok q.2
    exact ⟨.str (txS s) :: vs, .cons ⟨t, by rw [q.1.1.1]⟩ h1, fun _ _ _ _ => .cons (by rw [rv_str]; exact ⟨rfl, by unfold szl; omega, q.1.2⟩) (h2 _ _ _ _)⟩
theorem gl_tup {x : String} {ds : List D} {a : Addr} {dd : Option Addr} {its : Array Value} {n : Nat} {sl : Array (Option Value)} (X : K.In h) (G : h.Ns mainGlobals mg) (e : PySem.W.nsIn K mainGlobals (nm x) = some (some (.ref a)))
    (l : K.lookup a = some ⟨.type "tuple", dd, .seq its n, sl⟩) (hz : its.size ≤ sizeLine) (hf : flatB ds its.toList = true) : GlAt w K mg x (.tup ds) := by
  obtain ⟨vs, h1, h2⟩ := flatB_ok hf
  refine ⟨_, .ref a, PySem.W.mg_of X G e, rfl, fun B _ hK _ al n' H => ?_⟩
  rw [rv_tup]
  exact ⟨a, vs, rfl, .inr ⟨_, its, n, by rw [hK]; exact l, rfl, rfl, hz, h1⟩, h2 _ _ _ _⟩
def litB : D → Value → Bool
  | .int i, .int j _ => decide (i = j)
  | .str s, .str z _ => decide (z = txS s) && decide (s.length ≤ 1000) && s.all (fun c => decide (c < 1114112))
  | _, _ => false
theorem litB_ok {d : D} {u : Value} (h : litB d u = true) : litV d u := by
  unfold litB at h
  split at h
  · exact ⟨_, by rw [of_decide_eq_true h]⟩
  · simp only [Bool.and_eq_true, decide_eq_true_eq] at h
    exact ⟨⟨_, by rw [h.1.1]⟩, by unfold szl; omega, h.2⟩
  · cases h
/-- a written dict with texts for keys -/
def dictB : List D → List D → List DictEntry → Bool
  | [], [], [] => true
  | .str s :: ks, d :: vs, e :: es => (match e.key with | .str y _ => decide (y = txS s) | _ => false) && litB d e.val && !e.refKey && dictB ks vs es
  | _, _, _ => false
theorem dictB_ok {z : Tx} : ∀ {ks vs : List D} {es : List DictEntry}, dictB ks vs es = true → (match lookF (.str z) ks vs, es.find? (fun e => e.key.isStr (txS z)) with
    | some d, some e => litV d e.val
    | none, none => True
    | _, _ => False) ∧ es.any (·.refKey) = false
  | [], [], [], _ => ⟨trivial, rfl⟩
  | .str s :: ks, d :: vs, e :: es, h => by
    simp only [dictB, Bool.and_eq_true, Bool.not_eq_true'] at h
    obtain ⟨⟨⟨h1, h2⟩, h3⟩, h4⟩ := h
    obtain ⟨i1, i2⟩ := dictB_ok (z := z) h4
    refine ⟨?_, by rw [List.any_cons, h3, i2]; rfl⟩
    split at h1
    · rename_i y t hy
      have hy2 := of_decide_eq_true h1
      subst hy2
      rw [lookF, List.find?_cons]
      have eb : e.key.isStr (txS z) = decide (s = z) := by
        rw [hy]
        show (txS s == txS z) = _
        rw [Bool.eq_iff_iff]
        simp [txS_inj]
      rw [eb]
      by_cases hz : s = z
      · subst hz
        simp only [decide_true, if_true]
        exact litB_ok h2
      · have : ¬ D.str s = D.str z := fun q => hz (by cases q; rfl)
        simp only [decide_eq_false hz, if_neg this]
        exact i1
    · cases h1
theorem gl_dct {x : String} {ks vs : List D} {a : Addr} {es : Array DictEntry} {n : Nat} (X : K.In h) (G : h.Ns mainGlobals mg) (e : PySem.W.nsIn K mainGlobals (nm x) = some (some (.ref a)))
    (l : K.lookup a = some ⟨.type "dict", none, .dict es n, #[]⟩) (hl : PySem.W.KeysLit w.params es.toList) (low : (a == sysModules) = false) (hf : dictB ks vs es.toList = true) (h1 : D.flats ks = true) (h2 : D.flats vs = true) (h3 : (ks.all fun k => !k.isStr) = false) : GlAt w K mg x (.fzd ks vs) := by
  refine ⟨_, .ref a, PySem.W.mg_of X G e, rfl, fun B hw hK _ al n' H => ?_⟩
  simp only [RV]
  refine ⟨a, rfl, .inr ⟨h1, h2, es, n, ⟨by rw [hK]; exact l, by rw [hw]; exact hl, low⟩, fun i => h3, fun z => ?_⟩⟩
  obtain ⟨i1, i2⟩ := dictB_ok (z := z) hf
  rw [hK]
  have en : PySem.W.nsIn K a (txS z) = some ((es.toList.find? fun e => e.key.isStr (txS z)).map (·.val)) := by
    unfold PySem.W.nsIn
    rw [l]
    simp only [i2]
    cases es.toList.find? fun e => e.key.isStr (txS z) <;> rfl
  rw [en]
  refine ⟨_, rfl, ?_⟩
  revert i1
  cases lookF (.str z) ks vs <;> cases es.toList.find? (fun e => e.key.isStr (txS z)) <;> simp
end
theorem callerRoom : Room 230 callerA := ⟨rfl, by decide, by decide⟩

theorem hCX0 (u : Bool) (w : World) (P : Program) (H : Hp) (s : Shared) (e : Value) (s' : Shared) : CXm u P w [] H s (fun _ _ _ => False) e s' → False := fun h => by
  cases u <;> revert h <;> intro h
  · obtain ⟨_, _, _, _, _, _, _, _, _, _, _, _, z⟩ := h
    exact z
  · obtain ⟨_, _, _, _, _, _, _, _, _, _, _, _, z⟩ := h
    exact z
/-- the end: what is left of a law's row behind its head -/
theorem law_end {l : PySem.W.OpenLaw} {q : Program} {loose : List Str} {XP : (Str → Option Value) → Heap → Prop} {YP : World → Heap → Prop} {d : DefRec} {K : Params → PySem.W.Frag} {p : Prog} {pk : Pk} {k : Nat} {x : String} {fn : Fn} {px : Str} {st : Stmt} {N : List Str}
    (hn : l.most = some 63) (hdf : d.params.defaults = []) (hY : ∀ (w : World) (h : Heap), YP w h → (K w.params).In h) (hx : d.name = nm x) (hk : k ≤ 228) (hq : chkFn pk st N [px] fn = true)
    (hfn : p.fns.lookup x = some fn) (hpk : pk.fs.contains x = true)
    (hm : ∀ ns : List Int, ns.length ≤ 63 → ∃ S', callB (callK p k) fn [.scr (ns.map .int)] [] = some (.ok (.bl true), S'))
    (F : ∀ (w : World) (mg : Str → Option Value) (h : Heap), (K w.params).In h → h.Ns mainGlobals mg → (∀ base, PrOk l.prog w (K w.params) mg base p pk) ∧ ∃ a fd, mg (nm x) = some (.ref a) ∧ L2.Fun (K w.params) (nm x) (nm x) st a fd) :
    PySem.W.WalkO q loose XP YP l.row.toRowW d [] (fun f vs => PySem.call f vs) :=
  L2.walk_of (n := 63) (k := k + 2) (x := px) (CX := fun w => CXm pk.u l.prog w) (sp := fun w => spTrue (K w.params)) hn (by decide) hdf (callerRoom.mono (by omega)) hY
    (fun w mg fa h KX G hmg => by
      obtain ⟨PO, a, fd, h1, F1⟩ := F w mg h KX G
      have e : fa = a := by
        rw [hx, h1] at hmg
        cases hmg
        rfl
      subst e
      have hb := fn_binds F1 hq
      refine ⟨fd, ?_, fun base h2 h3 => law_true (ps := [px]) rfl hm (fn_ok F1 (all_ok (PO base) k) hq)⟩
      obtain ⟨oc, od, kV, doc, pm, an, cdv, ct, osl, rfl, lk, hcd⟩ := F1.ex
      intro s u
      unfold chkFn at hq
      simp only [Bool.and_eq_true, decide_eq_true_eq] at hq
      obtain ⟨⟨⟨⟨q1, q2⟩, q3⟩, q4⟩, q5⟩ := hq
      unfold argsB at q2
      simp only [Bool.and_eq_true, decide_eq_true_eq, List.isEmpty_iff, Option.isNone_iff_eq_none] at q2
      exact .of_eq (bind_plain (ps := [px]) (us := [u]) q2.1.1.1.1.1 q2.1.1.1.1.2 q2.1.1.1.2 q2.1.1.2 rfl q2.2 (List.nodup_cons.mpr ⟨by simp, List.nodup_nil⟩) rfl))
    (fun w H a ns hl hO hS => ⟨a, ns, rfl, by
      rcases hS with (hS | hS) | hS
      · rcases hO a with z | ⟨o, xs, z⟩
        · rw [z] at hS; cases hS
        · rw [z] at hS; cases hS
      · exact .inl hS
      · exact .inr hS, hl, fun _ => rfl⟩)
    (fun w H s e s' => hCX0 pk.u w l.prog H s e s')

theorem all_of {Q : String → Prop} {l : List String} (h : ∀ x ∈ l, Q x) : ∀ x, l.contains x = true → Q x := fun x hx => h x (by simpa using hx)
theorem mem_lookup' {β α : Type} [BEq β] [LawfulBEq β] : ∀ {l : List (β × α)} {x : β} {a : α}, l.lookup x = some a → (x, a) ∈ l
  | [], _, _, h => by simp at h
  | (y, b) :: l, x, a, h => by
    rw [List.lookup_cons] at h
    split at h
    · rename_i e
      cases h
      rw [beq_iff_eq.mp e]
      simp
    · simp [mem_lookup' h]
/-- a class: its fields are no names of the class -/
def ClsAt (K : PySem.W.Frag) (mg : Str → Option Value) (c : String) (fs : List String) : Prop := ∃ C, mg (nm c) = some (.ref C) ∧ Cls K C ∧ ∀ f ∈ fs, NoAttr K C (nm f)
def MethAt (K : PySem.W.Frag) (mg : Str → Option Value) (p : Prog) (pk : Pk) (c m : String) : Prop := ∃ C a, mg (nm c) = some (.ref C) ∧ Cls K C ∧ Meth K C (nm m) a ∧ MtAt K p pk.lo c m a
def MakeAt (K : PySem.W.Frag) (mg : Str → Option Value) (p : Prog) (pk : Pk) (c : String) : Prop := ∃ C a, mg (nm c) = some (.ref C) ∧ Mk K C a ∧ MtAt K p pk.lo c "__init__" a
def flsB (p : Prog) : Bool := p.fls.all fun q => decide ((q.2.map nm).Nodup)
def mtsB (p : Prog) : Bool := p.mts.all fun q => match p.fls.lookup q.1.1 with
  | some l => l.all fun f => decide (nm f ≠ nm q.1.2)
  | none => true
theorem nodup_map {l : List String} : ∀ {f g : String}, (l.map nm).Nodup → f ∈ l → g ∈ l → nm f = nm g → f = g := by
  induction l with
  | nil => intro f g _ h; simp at h
  | cons a l ih =>
    intro f g nd hf hg e
    simp only [List.map_cons, List.nodup_cons, List.mem_map, not_exists, not_and] at nd
    rcases List.mem_cons.mp hf with e1 | h1 <;> rcases List.mem_cons.mp hg with e2 | h2
    · rw [e1, e2]
    · rw [e1] at e
      exact absurd e.symm (nd.1 g h2)
    · rw [e2] at e
      exact absurd e (nd.1 f h1)
    · exact ih nd.2 h1 h2 e
theorem fl_mem {p : Prog} {c f : String} (h : p.fl c f = true) : ∃ l, p.fls.lookup c = some l ∧ f ∈ l := by
  unfold Prog.fl at h
  split at h
  · exact ⟨_, by assumption, by simpa using h⟩
  · cases h
theorem pr_mk {P : Program} {w : World} {K : PySem.W.Frag} {mg : Str → Option Value} {base : Heap} {p : Prog} {pk : Pk} {fu : List String} (he : pk.fs = fu ++ pk.f0) (h1 : ∀ f ∈ fu, DefAt P K mg p pk f) (h1' : ∀ f ∈ pk.f0, DefAt P K mg p pk.lo f) (h2 : ∀ x ∈ pk.bis, mg (nm x) = none) (h3 : ∀ q ∈ p.gls, GlAt w K mg q.1 q.2) (h4 : ∀ c ∈ pk.xs, XcAt K mg c)
    (h5 : ∀ q ∈ p.fls, ClsAt K mg q.1 q.2) (h6 : flsB p = true) (h7 : ∀ q ∈ p.mts, MethAt K mg p pk q.1.1 q.1.2) (h8 : mtsB p = true) (h9 : ∀ c ∈ pk.cs, MakeAt K mg p pk c) (h10 : ∀ q ∈ p.sbs, SubAt K mg q.1.1 q.1.2 q.2) : PrOk P w K mg base p pk := by
  refine ⟨fun f hf => ?_, all_of h1', all_of h2, fun x d _ e => h3 (x, d) (mem_lookup' e), all_of h4, fun c f h => ?_, fun c f g h h' e => ?_, fun c m h => ?_, fun c m f h h' => ?_, fun c h b e => h10 ((c, h), b) (mem_lookup' e), all_of h9⟩
  · rw [he] at hf
    have : f ∈ fu ++ pk.f0 := by simpa using hf
    rcases List.mem_append.mp this with m | m
    · exact .inl (h1 f m)
    · exact .inr (h1' f m)
  · obtain ⟨l, q1, q2⟩ := fl_mem h
    obtain ⟨C, g1, g2, g3⟩ := h5 (c, l) (mem_lookup' q1)
    exact ⟨C, g1, g2, g3 f q2⟩
  · obtain ⟨l, q1, q2⟩ := fl_mem h
    obtain ⟨l', q1', q2'⟩ := fl_mem h'
    rw [q1] at q1'
    cases q1'
    have := List.all_eq_true.mp h6 (c, l) (mem_lookup' q1)
    exact nodup_map (by simpa using this) q2 q2' e
  · unfold Prog.mo at h
    obtain ⟨fn, e⟩ := Option.isSome_iff_exists.mp h
    exact h7 ((c, m), fn) (mem_lookup' e)
  · unfold Prog.mo at h
    obtain ⟨fn, e⟩ := Option.isSome_iff_exists.mp h
    obtain ⟨l, q1, q2⟩ := fl_mem h'
    have := List.all_eq_true.mp h8 ((c, m), fn) (mem_lookup' e)
    rw [q1] at this
    simpa using List.all_eq_true.mp this f q2
section
variable {K : PySem.W.Frag} {mg : Str → Option Value} {h : Heap}
theorem meth_mk {p : Prog} {pk : Pk} {c m qual : String} {C a : Addr} {st : Stmt} {N ps : List Str} {fn : Fn} {oc : Value} {od an : Option Addr} {osl : Array (Option Value)} {kV doc pm cdv ct : Value} (X : K.In h) (G : h.Ns mainGlobals mg)
    (g : PySem.W.nsIn K mainGlobals (nm c) = some (some (.ref C))) (c1 : PySem.W.plainGet K C Str.empty = true) (c2 : PySem.W.hasDictIn K C = true) (c3 : PySem.W.plainOver K C = true) (c4 : PySem.W.findIn K (.ref C) "__setattr__" = some (some (.builtin "object.__setattr__")))
    (m1 : PySem.W.findIn K (.ref C) (nm m) = some (some (.ref a))) (m2 : PySem.W.isFn K (.ref a) = true) (m3 : PySem.W.keepIn K (.ref a) = true)
    (l : K.lookup a = some ⟨oc, od, .func (PySem.W.fnOf (nm m) (nm qual) (defArgs st) (defBody st) (defScope st) .none kV doc pm an cdv ct), osl⟩) (cd : PySem.W.codeIn K cdv (nm qual) = true)
    (hl : p.mts.lookup (c, m) = some fn) (q : chkFn pk.lo st N ps fn = true) : MethAt K mg p pk c m :=
  ⟨C, a, PySem.W.mg_of X G g, ⟨c1, c2, c3, c4⟩, ⟨m1, m2, m3⟩, nm qual, st, N, ps, fn, _, hl, ⟨⟨oc, od, kV, doc, pm, an, cdv, ct, osl, rfl, l, cd⟩, m3⟩, q⟩
theorem make_mk {p : Prog} {pk : Pk} {c qual : String} {C a : Addr} {st : Stmt} {N ps : List Str} {fn : Fn} {oc : Value} {od an : Option Addr} {osl : Array (Option Value)} {kV doc pm cdv ct : Value} (X : K.In h) (G : h.Ns mainGlobals mg)
    (g : PySem.W.nsIn K mainGlobals (nm c) = some (some (.ref C))) (c1 : PySem.W.makesIn K C = true) (m1 : PySem.W.findIn K (.ref C) "__init__" = some (some (.ref a))) (m2 : PySem.W.isFn K (.ref a) = true) (m3 : PySem.W.keepIn K (.ref a) = true) (c2 : PySem.W.keepIn K (.ref C) = true)
    (l : K.lookup a = some ⟨oc, od, .func (PySem.W.fnOf (nm "__init__") (nm qual) (defArgs st) (defBody st) (defScope st) .none kV doc pm an cdv ct), osl⟩) (cd : PySem.W.codeIn K cdv (nm qual) = true)
    (hl : p.mts.lookup (c, "__init__") = some fn) (q : chkFn pk.lo st N ps fn = true) : MakeAt K mg p pk c :=
  ⟨C, a, PySem.W.mg_of X G g, ⟨c1, m1, m2, c2⟩, nm qual, st, N, ps, fn, _, hl, ⟨⟨oc, od, kV, doc, pm, an, cdv, ct, osl, rfl, l, cd⟩, m3⟩, q⟩
theorem cls_mk {c : String} {fs : List String} {C : Addr} (X : K.In h) (G : h.Ns mainGlobals mg)
    (g : PySem.W.nsIn K mainGlobals (nm c) = some (some (.ref C))) (c1 : PySem.W.plainGet K C Str.empty = true) (c2 : PySem.W.hasDictIn K C = true) (c3 : PySem.W.plainOver K C = true) (c4 : PySem.W.findIn K (.ref C) "__setattr__" = some (some (.builtin "object.__setattr__")))
    (no : ∀ f ∈ fs, PySem.W.findIn K (.ref C) (nm f) = some none) : ClsAt K mg c fs := ⟨C, PySem.W.mg_of X G g, ⟨c1, c2, c3, c4⟩, no⟩
end
theorem ball_nil {α : Type} {Q : α → Prop} : ∀ x ∈ ([] : List α), Q x := fun _ h => by simp at h
theorem ball_cons {α : Type} {Q : α → Prop} {a : α} {l : List α} (h1 : Q a) (h2 : ∀ x ∈ l, Q x) : ∀ x ∈ a :: l, Q x := fun x h => by
  rcases List.mem_cons.mp h with rfl | h
  · exact h1
  · exact h2 x h
end Mi

set_option autoImplicit true
set_option maxRecDepth 512
set_option maxHeartbeats 200000
set_option Elab.async false
set_option autoImplicit false
set_option linter.unusedSimpArgs false
namespace Mi
open M
/-! Mi14: running the interpreter, in plain Lean: the loop's rule, the draws -/
/-- _law_mixed: 0 _law_number, 1 _law_k, 2 _law_step -/
def f__law_mixed : Fn :=
  ⟨2, 3,
  [.asg (.nm 2) (.op .mod (.op .add (.op .add (.op .mul (.var 0) (.int 48271)) (.op .mul (.var 1) (.int 69621))) (.int 12345)) (.int 2147483647)),
   .ret (.op .mod (.op .add (.op .mul (.var 2) (.op .add (.op .fdiv (.var 2) (.int 65536)) (.int 3))) (.var 1)) (.int 2147483647))], false⟩
/-- _law_numbers: 0 _law_script, 1 _law_numbers_here, 2 _law_cell, 3 _law_rest, 4 _law_k -/
def f__law_numbers : Fn :=
  ⟨1, 5,
  [.asg (.nm 1) (.lst []),
   .for (.nm 2) 0 [.var 0]
    [.ite (.cmp .ge (.var 2) (.op .pow (.int 10) (.int 18)))
      [.asg (.nm 3) (.var 2),
       .for (.nm 4) 1 [.int 60]
        [.ite (.cmp .gt (.var 3) (.int 0))
          [.expr (.mt .append (.var 1) [.op .mod (.var 3) (.int 1000000)]),
           .asg (.nm 3) (.op .fdiv (.var 3) (.int 1000000))]
          []]]
      [.expr (.mt .append (.var 1) [.op .mod (.var 2) (.int 1000000)]),
       .for (.nm 4) 1 [.int 5]
        [.expr (.mt .append (.var 1) [.op .mod (.call "_law_mixed" [.call "_law_mixed" [.op .mod (.var 2) (.int 2147483647), .var 4], .op .add (.var 4) (.int 7)]) (.int 1000000)])]]],
   .ret (.var 1)], false⟩
/-- _law_draw: 0 _law_draws, 1 _law_at, 2 _law_first -/
def f__law_draw : Fn :=
  ⟨1, 3,
  [.asg (.nm 1) (.ix (.var 0) (.int 1)),
   .asgIx (.var 0) (.int 1) (.op .add (.var 1) (.int 1)),
   .ite (.cmp .lt (.var 1) (.bi .len [.ix (.var 0) (.int 0)]))
    [.ret (.ix (.ix (.var 0) (.int 0)) (.var 1))]
    [],
   .asg (.nm 2) (.op .add (.int 1) (.var 1)),
   .ite (.cmp .gt (.bi .len [.ix (.var 0) (.int 0)]) (.int 0))
    [.asg (.nm 2) (.op .add (.var 2) (.op .mul (.int 1009) (.ix (.ix (.var 0) (.int 0)) (.int 0))))]
    [],
   .ret (.op .mod (.call "_law_mixed" [.call "_law_mixed" [.var 2, .var 1], .int 5]) (.int 1000000))], false⟩
/-- _law_equal: 0 _law_actual, 1 _law_due -/
def f__law_equal : Fn :=
  ⟨2, 2,
  [.ite (.isi (.var 1) [.list])
    [.ite (.or (.not (.isi (.var 0) [.list])) (.cmp .ne (.bi .len [.var 0]) (.bi .len [.var 1])))
      [.ret (.bl false)]
      [],
     .ret (.call "_law_all_equal" [.var 0, .var 1])]
    [],
   .ite (.isi (.var 1) [.tuple])
    [.ite (.or (.not (.isi (.var 0) [.tuple])) (.cmp .ne (.bi .len [.var 0]) (.bi .len [.var 1])))
      [.ret (.bl false)]
      [],
     .ret (.call "_law_all_equal" [.var 0, .var 1])]
    [],
   .ite (.isi (.var 1) [.bool])
    [.ret (.and (.isi (.var 0) [.bool]) (.cmp .eq (.var 0) (.var 1)))]
    [],
   .ite (.isi (.var 1) [.int])
    [.ret (.and (.isi (.var 0) [.int]) (.and (.not (.isi (.var 0) [.bool])) (.cmp .eq (.var 0) (.var 1))))]
    [],
   .ite (.isi (.var 1) [.str])
    [.ret (.and (.isi (.var 0) [.str]) (.cmp .eq (.var 0) (.var 1)))]
    [],
   .ret (.cmp .isN (.var 0) (.non))], false⟩
/-- _law_all_equal: 0 _law_actual, 1 _law_due, 2 _law_k -/
def f__law_all_equal : Fn :=
  ⟨2, 3,
  [.for (.nm 2) 1 [.bi .len [.var 1]]
    [.ite (.not (.call "_law_equal" [.ix (.var 0) (.var 2), .ix (.var 1) (.var 2)]))
      [.ret (.bl false)]
      []],
   .ret (.bl true)], false⟩

/-! ### small equations -/
theorem lt0 (n : Nat) : (0 < n + 1) = True := eq_true (by omega)
theorem lt1 (n : Nat) : (1 < n + 1 + 1) = True := eq_true (by omega)
theorem lt2 (n : Nat) : (2 < n + 1 + 1 + 1) = True := eq_true (by omega)
theorem lt3 (n : Nat) : (3 < n + 1 + 1 + 1 + 1) = True := eq_true (by omega)
theorem atI0 {α : Type} (a : α) (r : List α) : atI (a :: r) 0 = some a := by
  have h : (0 : Int) < ((r.length + 1 : Nat) : Int) := by omega
  simp [atI, ixN, h]
theorem atI1 {α : Type} (a b : α) (r : List α) : atI (a :: b :: r) 1 = some b := by
  have h : (1 : Int) < ((r.length + 1 + 1 : Nat) : Int) := by omega
  simp only [atI, ixN, List.length_cons, h]
  rfl
theorem atI2 {α : Type} (a b c : α) (r : List α) : atI (a :: b :: c :: r) 2 = some c := by
  have h : (2 : Int) < ((r.length + 1 + 1 + 1 : Nat) : Int) := by omega
  simp only [atI, ixN, List.length_cons, h]
  rfl
theorem atI3 {α : Type} (a b c d : α) (r : List α) : atI (a :: b :: c :: d :: r) 3 = some d := by
  have h : (3 : Int) < ((r.length + 1 + 1 + 1 + 1 : Nat) : Int) := by omega
  simp only [atI, ixN, List.length_cons, h]
  rfl
theorem ixN0 (n : Nat) : ixN (n + 1) 0 = some 0 := by
  have h : (0 : Int) < ((n + 1 : Nat) : Int) := by omega
  simp only [ixN, h]
  rfl
theorem ixN1 (n : Nat) : ixN (n + 1 + 1) 1 = some 1 := by
  have h : (1 : Int) < ((n + 1 + 1 : Nat) : Int) := by omega
  simp only [ixN, h]
  rfl
theorem ixN2 (n : Nat) : ixN (n + 1 + 1 + 1) 2 = some 2 := by
  have h : (2 : Int) < ((n + 1 + 1 + 1 : Nat) : Int) := by omega
  simp only [ixN, h]
  rfl
theorem ixN3 (n : Nat) : ixN (n + 1 + 1 + 1 + 1) 3 = some 3 := by
  have h : (3 : Int) < ((n + 1 + 1 + 1 + 1 : Nat) : Int) := by omega
  simp only [ixN, h]
  rfl
theorem getc0 {α : Type} (x0 : α) (r : List α) : (x0 :: r)[0]? = some x0 := rfl
theorem setc0 {α : Type} (x0 z : α) (r : List α) : (x0 :: r).set 0 z = z :: r := rfl
theorem getc1 {α : Type} (x0 x1 : α) (r : List α) : (x0 :: x1 :: r)[1]? = some x1 := rfl
theorem setc1 {α : Type} (x0 x1 z : α) (r : List α) : (x0 :: x1 :: r).set 1 z = x0 :: z :: r := rfl
theorem getc2 {α : Type} (x0 x1 x2 : α) (r : List α) : (x0 :: x1 :: x2 :: r)[2]? = some x2 := rfl
theorem setc2 {α : Type} (x0 x1 x2 z : α) (r : List α) : (x0 :: x1 :: x2 :: r).set 2 z = x0 :: x1 :: z :: r := rfl
theorem getc3 {α : Type} (x0 x1 x2 x3 : α) (r : List α) : (x0 :: x1 :: x2 :: x3 :: r)[3]? = some x3 := rfl
theorem setc3 {α : Type} (x0 x1 x2 x3 z : α) (r : List α) : (x0 :: x1 :: x2 :: x3 :: r).set 3 z = x0 :: x1 :: x2 :: z :: r := rfl
theorem getc4 {α : Type} (x0 x1 x2 x3 x4 : α) (r : List α) : (x0 :: x1 :: x2 :: x3 :: x4 :: r)[4]? = some x4 := rfl
theorem setc4 {α : Type} (x0 x1 x2 x3 x4 z : α) (r : List α) : (x0 :: x1 :: x2 :: x3 :: x4 :: r).set 4 z = x0 :: x1 :: x2 :: x3 :: z :: r := rfl
theorem getc5 {α : Type} (x0 x1 x2 x3 x4 x5 : α) (r : List α) : (x0 :: x1 :: x2 :: x3 :: x4 :: x5 :: r)[5]? = some x5 := rfl
theorem setc5 {α : Type} (x0 x1 x2 x3 x4 x5 z : α) (r : List α) : (x0 :: x1 :: x2 :: x3 :: x4 :: x5 :: r).set 5 z = x0 :: x1 :: x2 :: x3 :: x4 :: z :: r := rfl
theorem getc6 {α : Type} (x0 x1 x2 x3 x4 x5 x6 : α) (r : List α) : (x0 :: x1 :: x2 :: x3 :: x4 :: x5 :: x6 :: r)[6]? = some x6 := rfl
theorem setc6 {α : Type} (x0 x1 x2 x3 x4 x5 x6 z : α) (r : List α) : (x0 :: x1 :: x2 :: x3 :: x4 :: x5 :: x6 :: r).set 6 z = x0 :: x1 :: x2 :: x3 :: x4 :: x5 :: z :: r := rfl
theorem getc7 {α : Type} (x0 x1 x2 x3 x4 x5 x6 x7 : α) (r : List α) : (x0 :: x1 :: x2 :: x3 :: x4 :: x5 :: x6 :: x7 :: r)[7]? = some x7 := rfl
theorem setc7 {α : Type} (x0 x1 x2 x3 x4 x5 x6 x7 z : α) (r : List α) : (x0 :: x1 :: x2 :: x3 :: x4 :: x5 :: x6 :: x7 :: r).set 7 z = x0 :: x1 :: x2 :: x3 :: x4 :: x5 :: x6 :: z :: r := rfl
theorem getc8 {α : Type} (x0 x1 x2 x3 x4 x5 x6 x7 x8 : α) (r : List α) : (x0 :: x1 :: x2 :: x3 :: x4 :: x5 :: x6 :: x7 :: x8 :: r)[8]? = some x8 := rfl
theorem setc8 {α : Type} (x0 x1 x2 x3 x4 x5 x6 x7 x8 z : α) (r : List α) : (x0 :: x1 :: x2 :: x3 :: x4 :: x5 :: x6 :: x7 :: x8 :: r).set 8 z = x0 :: x1 :: x2 :: x3 :: x4 :: x5 :: x6 :: x7 :: z :: r := rfl

/-! ### one step after the other -/
def bndR {α β : Type} (r : Option (Out α × Store)) (f : α → M β) : Option (Out β × Store) := match r with
  | none => none
  | some (.ex c, S') => some (.ex c, S')
  | some (.ok a, S') => f a S'
theorem bnd_at {α β : Type} (m : M α) (f : α → M β) (S : Store) : bnd m f S = bndR (m S) f := rfl
theorem bndR_ok {α β : Type} (a : α) (S : Store) (f : α → M β) : bndR (some (.ok a, S)) f = f a S := rfl
theorem bndR_ex {α β : Type} (c : String) (S : Store) (f : α → M β) : bndR (some (.ex c, S)) f = some (.ex c, S) := rfl
theorem ret_at {α : Type} (a : α) (S : Store) : M.ret a S = some (.ok a, S) := rfl
theorem of_some {α : Type} (a : α) (S : Store) : M.of (some a) S = some (.ok a, S) := rfl
theorem need_at {α : Type} (p : Prop) [Decidable p] (m : M α) (S : Store) : M.need p m S = if p then m S else none := rfl
theorem get_at (n : Nat) (S : Store) : M.get n S = M.of S[n]? S := by
  unfold M.get M.of
  cases S[n]? <;> rfl
theorem put_at (n : Nat) (c : Cell) (S : Store) : M.put n c S = if n < S.length then some (.ok (), S.set n c) else none := rfl
theorem new_at (c : Cell) (S : Store) : M.new c S = some (.ok (.loc S.length), S ++ [c]) := rfl
def msB {α : Type} (ρ : Env) (r : Option (Out α × Store)) (f : α → MS) : Option (Ctl × Store) := match r with
  | none => none
  | some (.ex c, S') => some (.ex c ρ, S')
  | some (.ok a, S') => f a S'
theorem msB_at {α : Type} (ρ : Env) (m : M α) (f : α → MS) (S : Store) : MS.bnd ρ m f S = msB ρ (m S) f := rfl
theorem msB_ok {α : Type} (ρ : Env) (a : α) (S : Store) (f : α → MS) : msB ρ (some (.ok a, S)) f = f a S := rfl
theorem msB_ex {α : Type} (ρ : Env) (c : String) (S : Store) (f : α → MS) : msB ρ (some (.ex c, S)) f = some (.ex c ρ, S) := rfl
def msS (r : Option (Ctl × Store)) (f : Env → MS) : Option (Ctl × Store) := match r with
  | some (.nx ρ, S') => f ρ S'
  | r => r
theorem msS_at (m : MS) (f : Env → MS) (S : Store) : MS.seq m f S = msS (m S) f := rfl
def seqK (f g : Env → MS) (ρ : Env) : MS := fun S => msS (f ρ S) g
theorem seqK_at (f g : Env → MS) (ρ : Env) (S : Store) : seqK f g ρ S = msS (f ρ S) g := rfl
theorem msS_msS (r : Option (Ctl × Store)) (f g : Env → MS) : msS (msS r f) g = msS r (seqK f g) := by
  match r with
  | none => rfl
  | some (.nx ρ, S) => rfl
  | some (.rt d, S) => rfl
  | some (.ex c ρ, S) => rfl
  | some (.bk ρ, S) => rfl
  | some (.ct ρ, S) => rfl
def forS (t : Tg) (b : Env → MS) (ρ : Env) (src : Src) : MS := forL t src.2 b src.1 ρ
theorem for_at (cl : Cl) (t : Tg) (k : ItK) (xs : List Ex) (body : List St) (ρ : Env) (S : Store) : exS cl (.for t k xs body) ρ S = msB ρ (bndR (evEs cl xs ρ S) (itM k)) (forS t (exSs cl body) ρ) := by
  rw [exS]
  rfl
theorem forS_at (t : Tg) (b : Env → MS) (ρ : Env) (xs : List D) (g : List (Nat × Cell)) (S : Store) : forS t b ρ (xs, g) S = forL t g b xs ρ S := rfl
theorem msS_nx (ρ : Env) (S : Store) (f : Env → MS) : msS (some (.nx ρ, S)) f = f ρ S := rfl
theorem msS_rt (d : D) (S : Store) (f : Env → MS) : msS (some (.rt d, S)) f = some (.rt d, S) := rfl
theorem msS_ex (c : String) (ρ : Env) (S : Store) (f : Env → MS) : msS (some (.ex c ρ, S)) f = some (.ex c ρ, S) := rfl
theorem msS_bk (ρ : Env) (S : Store) (f : Env → MS) : msS (some (.bk ρ, S)) f = some (.bk ρ, S) := rfl
theorem msS_ct (ρ : Env) (S : Store) (f : Env → MS) : msS (some (.ct ρ, S)) f = some (.ct ρ, S) := rfl

/-! ### the equations, each at a store -/
def negM (x : D) : M D := match x with
  | .int i => M.ret (.int (-i))
  | _ => M.fail
def intM (x : D) : M (Option Int) := match x with
  | .int i => M.ret (some i)
  | _ => M.fail
def blK (k : Bool) : M D := ret (.bl k)
theorem blK_at (k : Bool) (S : Store) : blK k S = some (.ok (.bl k), S) := rfl
def nbK (k : Bool) : M D := ret (.bl (!k))
theorem nbK_at (k : Bool) (S : Store) : nbK k S = some (.ok (.bl (!k)), S) := rfl
def opK (cl : Cl) (o : O2) (b : Ex) (ρ : Env) (x : D) : M D := bnd (evE cl b ρ) (binop o x)
theorem opK_at (cl : Cl) (o : O2) (b : Ex) (ρ : Env) (x : D) (S : Store) : opK cl o b ρ x S = bndR (evE cl b ρ S) (binop o x) := rfl
def cmpK2 (c : Cp) (x y : D) : M D := bnd (cmpM c x y) blK
theorem cmpK2_at (c : Cp) (x y : D) (S : Store) : cmpK2 c x y S = bndR (cmpM c x y S) blK := rfl
def cmpK (cl : Cl) (c : Cp) (b : Ex) (ρ : Env) (x : D) : M D := bnd (evE cl b ρ) (cmpK2 c x)
theorem cmpK_at (cl : Cl) (c : Cp) (b : Ex) (ρ : Env) (x : D) (S : Store) : cmpK cl c b ρ x S = bndR (evE cl b ρ S) (cmpK2 c x) := rfl
def chK3 (cl : Cl) (c' : Cp) (d : Ex) (ρ : Env) (y : D) (k : Bool) : M D := if k then bnd (evE cl d ρ) (cmpK2 c' y) else ret (.bl false)
theorem chK3_t (cl : Cl) (c' : Cp) (d : Ex) (ρ : Env) (y : D) (S : Store) : chK3 cl c' d ρ y true S = bndR (evE cl d ρ S) (cmpK2 c' y) := rfl
theorem chK3_f (cl : Cl) (c' : Cp) (d : Ex) (ρ : Env) (y : D) (S : Store) : chK3 cl c' d ρ y false S = some (.ok (.bl false), S) := rfl
def chK2 (cl : Cl) (c c' : Cp) (d : Ex) (ρ : Env) (x y : D) : M D := bnd (cmpM c x y) (chK3 cl c' d ρ y)
theorem chK2_at (cl : Cl) (c c' : Cp) (d : Ex) (ρ : Env) (x y : D) (S : Store) : chK2 cl c c' d ρ x y S = bndR (cmpM c x y S) (chK3 cl c' d ρ y) := rfl
def chK (cl : Cl) (c c' : Cp) (b d : Ex) (ρ : Env) (x : D) : M D := bnd (evE cl b ρ) (chK2 cl c c' d ρ x)
theorem chK_at (cl : Cl) (c c' : Cp) (b d : Ex) (ρ : Env) (x : D) (S : Store) : chK cl c c' b d ρ x S = bndR (evE cl b ρ S) (chK2 cl c c' d ρ x) := rfl
def notK (x : D) : M D := bnd (truthy x) nbK
theorem notK_at (x : D) (S : Store) : notK x S = bndR (truthy x S) nbK := rfl
def andK2 (cl : Cl) (b : Ex) (ρ : Env) (x : D) (k : Bool) : M D := if k then evE cl b ρ else ret x
theorem andK2_t (cl : Cl) (b : Ex) (ρ : Env) (x : D) (S : Store) : andK2 cl b ρ x true S = evE cl b ρ S := rfl
theorem andK2_f (cl : Cl) (b : Ex) (ρ : Env) (x : D) (S : Store) : andK2 cl b ρ x false S = some (.ok x, S) := rfl
def andK (cl : Cl) (b : Ex) (ρ : Env) (x : D) : M D := bnd (truthy x) (andK2 cl b ρ x)
theorem andK_at (cl : Cl) (b : Ex) (ρ : Env) (x : D) (S : Store) : andK cl b ρ x S = bndR (truthy x S) (andK2 cl b ρ x) := rfl
def orK2 (cl : Cl) (b : Ex) (ρ : Env) (x : D) (k : Bool) : M D := if k then ret x else evE cl b ρ
theorem orK2_t (cl : Cl) (b : Ex) (ρ : Env) (x : D) (S : Store) : orK2 cl b ρ x true S = some (.ok x, S) := rfl
theorem orK2_f (cl : Cl) (b : Ex) (ρ : Env) (x : D) (S : Store) : orK2 cl b ρ x false S = evE cl b ρ S := rfl
def orK (cl : Cl) (b : Ex) (ρ : Env) (x : D) : M D := bnd (truthy x) (orK2 cl b ρ x)
theorem orK_at (cl : Cl) (b : Ex) (ρ : Env) (x : D) (S : Store) : orK cl b ρ x S = bndR (truthy x S) (orK2 cl b ρ x) := rfl
def ifK2 (cl : Cl) (a b : Ex) (ρ : Env) (k : Bool) : M D := if k then evE cl a ρ else evE cl b ρ
theorem ifK2_t (cl : Cl) (a b : Ex) (ρ : Env) (S : Store) : ifK2 cl a b ρ true S = evE cl a ρ S := rfl
theorem ifK2_f (cl : Cl) (a b : Ex) (ρ : Env) (S : Store) : ifK2 cl a b ρ false S = evE cl b ρ S := rfl
def ifK (cl : Cl) (a b : Ex) (ρ : Env) (x : D) : M D := bnd (truthy x) (ifK2 cl a b ρ)
theorem ifK_at (cl : Cl) (a b : Ex) (ρ : Env) (x : D) (S : Store) : ifK cl a b ρ x S = bndR (truthy x S) (ifK2 cl a b ρ) := rfl
def tupK (ds : List D) : M D := ret (.tup ds)
theorem tupK_at (ds : List D) (S : Store) : tupK ds S = some (.ok (.tup ds), S) := rfl
def lstK (ds : List D) : M D := new (.lst ds)
def flstK (ds : List D) : M D := ret (.fzl ds)
theorem flstK_at (ds : List D) (S : Store) : flstK ds S = some (.ok (.fzl ds), S) := rfl
theorem lstK_at (ds : List D) (S : Store) : lstK ds S = some (.ok (.loc S.length), S ++ [.lst ds]) := rfl
def ixK (cl : Cl) (b : Ex) (ρ : Env) (x : D) : M D := bnd (evE cl b ρ) (indexM x)
theorem ixK_at (cl : Cl) (b : Ex) (ρ : Env) (x : D) (S : Store) : ixK cl b ρ x S = bndR (evE cl b ρ S) (indexM x) := rfl
def slK2 (cl : Cl) (hi : Option Ex) (ρ : Env) (x : D) (l : Option Int) : M D := bnd (evO cl hi ρ) (sliceP x l)
theorem slK2_at (cl : Cl) (hi : Option Ex) (ρ : Env) (x : D) (l : Option Int) (S : Store) : slK2 cl hi ρ x l S = bndR (evO cl hi ρ S) (sliceP x l) := rfl
def slK (cl : Cl) (lo hi : Option Ex) (ρ : Env) (x : D) : M D := bnd (evO cl lo ρ) (slK2 cl hi ρ x)
theorem slK_at (cl : Cl) (lo hi : Option Ex) (ρ : Env) (x : D) (S : Store) : slK cl lo hi ρ x S = bndR (evO cl lo ρ S) (slK2 cl hi ρ x) := rfl
def fslK2 (cl : Cl) (hi : Option Ex) (ρ : Env) (x : D) (l : Option Int) : M D := bnd (evO cl hi ρ) (sliceM x l)
theorem fslK2_at (cl : Cl) (hi : Option Ex) (ρ : Env) (x : D) (l : Option Int) (S : Store) : fslK2 cl hi ρ x l S = bndR (evO cl hi ρ S) (sliceM x l) := rfl
def fslK (cl : Cl) (lo hi : Option Ex) (ρ : Env) (x : D) : M D := bnd (evO cl lo ρ) (fslK2 cl hi ρ x)
theorem fslK_at (cl : Cl) (lo hi : Option Ex) (ρ : Env) (x : D) (S : Store) : fslK cl lo hi ρ x S = bndR (evO cl lo ρ S) (fslK2 cl hi ρ x) := rfl
def mtK2 (cl : Cl) (m : Mt) (xs : List Ex) (ρ : Env) (x : D) (_ : Unit) : M D := bnd (evEs cl xs ρ) (mtM m x)
theorem mtK2_at (cl : Cl) (m : Mt) (xs : List Ex) (ρ : Env) (x : D) (u : Unit) (S : Store) : mtK2 cl m xs ρ x u S = bndR (evEs cl xs ρ S) (mtM m x) := rfl
def mtK (cl : Cl) (m : Mt) (xs : List Ex) (ρ : Env) (x : D) : M D := bnd (mtPre m x) (mtK2 cl m xs ρ x)
theorem mtK_at (cl : Cl) (m : Mt) (xs : List Ex) (ρ : Env) (x : D) (S : Store) : mtK cl m xs ρ x S = bndR (mtPre m x S) (mtK2 cl m xs ρ x) := rfl
def isiK (ts : List Ty) (x : D) : M D := bnd (isiM x ts) blK
theorem isiK_at (ts : List Ty) (x : D) (S : Store) : isiK ts x S = bndR (isiM x ts S) blK := rfl
def consK2 (x : D) (xs : List D) : M (List D) := ret (x :: xs)
theorem consK2_at (x : D) (xs : List D) (S : Store) : consK2 x xs S = some (.ok (x :: xs), S) := rfl
def consK (cl : Cl) (es : List Ex) (ρ : Env) (x : D) : M (List D) := bnd (evEs cl es ρ) (consK2 x)
theorem consK_at (cl : Cl) (es : List Ex) (ρ : Env) (x : D) (S : Store) : consK cl es ρ x S = bndR (evEs cl es ρ S) (consK2 x) := rfl
def csK2 (cl : Cl) (cs : List Ex) (ρ : Env) (k : Bool) : M Bool := if k then evCs cl cs ρ else ret false
theorem csK2_t (cl : Cl) (cs : List Ex) (ρ : Env) (S : Store) : csK2 cl cs ρ true S = evCs cl cs ρ S := rfl
theorem csK2_f (cl : Cl) (cs : List Ex) (ρ : Env) (S : Store) : csK2 cl cs ρ false S = some (.ok false, S) := rfl
def csK (cl : Cl) (cs : List Ex) (ρ : Env) (x : D) : M Bool := bnd (truthy x) (csK2 cl cs ρ)
theorem csK_at (cl : Cl) (cs : List Ex) (ρ : Env) (x : D) (S : Store) : csK cl cs ρ x S = bndR (truthy x S) (csK2 cl cs ρ) := rfl
def someK (y : D) : M (Option D) := ret (some y)
theorem someK_at (y : D) (S : Store) : someK y S = some (.ok (some y), S) := rfl
def eltK (cl : Cl) (elt : Ex) (ρ : Env) (c : Bool) : M (Option D) := if c then bnd (evE cl elt ρ) someK else ret none
theorem eltK_t (cl : Cl) (elt : Ex) (ρ : Env) (S : Store) : eltK cl elt ρ true S = bndR (evE cl elt ρ S) someK := rfl
theorem eltK_f (cl : Cl) (elt : Ex) (ρ : Env) (S : Store) : eltK cl elt ρ false S = some (.ok none, S) := rfl
def noexR {α : Type} : Option (Out α × Store) → Option (Out α × Store)
  | some (.ok a, S') => some (.ok a, S')
  | _ => none
theorem noexR_ok {α : Type} (a : α) (S : Store) : noexR (some (.ok a, S)) = some (.ok a, S) := rfl
def oneK (cl : Cl) (elt : Ex) (cs : List Ex) (ρ : Env) : M (Option D) := noex (bnd (evCs cl cs ρ) (eltK cl elt ρ))
theorem oneK_at (cl : Cl) (elt : Ex) (cs : List Ex) (ρ : Env) (S : Store) : oneK cl elt cs ρ S = noexR (bndR (evCs cl cs ρ S) (eltK cl elt ρ)) := rfl
def oneL (cl : Cl) (elt : Ex) (t : Tg) (cs : List Ex) (vs : List Nat) (ρ : Env) (x : D) : M (Option D) := bnd (of (bindT t x (wipeE ρ vs))) (oneK cl elt cs)
theorem oneL_at (cl : Cl) (elt : Ex) (t : Tg) (cs : List Ex) (vs : List Nat) (ρ : Env) (x : D) (S : Store) : oneL cl elt t cs vs ρ x S = bndR (of (bindT t x (wipeE ρ vs)) S) (oneK cl elt cs) := rfl
def lcR (z : Bool) : Option (Out (List D) × Store) → Option (Out D × Store)
  | none => none
  | some (.ex c, S') => some (.ex c, S')
  | some (.ok ys, S') => if z then some (.ok (.fzl ys), S') else some (.ok (.loc S'.length), S' ++ [.lst ys])
theorem lcR_t (ys : List D) (S : Store) : lcR true (some (.ok ys, S)) = some (.ok (.fzl ys), S) := rfl
theorem lcR_f (ys : List D) (S : Store) : lcR false (some (.ok ys, S)) = some (.ok (.loc S.length), S ++ [.lst ys]) := rfl
theorem lcR_ex (z : Bool) (c : String) (S : Store) : lcR z (some (.ex c, S)) = some (.ex c, S) := by cases z <;> rfl
def lcS (z : Bool) (cl : Cl) (elt : Ex) (t : Tg) (cs : List Ex) (vs : List Nat) (ρ : Env) (src : Src) : M D := lcG z (compL src.2 (oneL cl elt t cs vs ρ) src.1 [])
theorem lcS_at (z : Bool) (cl : Cl) (elt : Ex) (t : Tg) (cs : List Ex) (vs : List Nat) (ρ : Env) (xs : List D) (g : List (Nat × Cell)) (S : Store) : lcS z cl elt t cs vs ρ (xs, g) S = lcR z (compL g (oneL cl elt t cs vs ρ) xs [] S) := by
  unfold lcS lcG lcR
  rfl
theorem ev_non_at (cl : Cl)  (ρ : Env) (S : Store) : evE cl Ex.non ρ S = some (.ok .non, S) := by rw [evE]; first | done | rfl
theorem ev_bl_at (cl : Cl) (b : Bool) (ρ : Env) (S : Store) : evE cl (Ex.bl b) ρ S = some (.ok (.bl b), S) := by rw [evE]; first | done | rfl
theorem ev_int_at (cl : Cl) (i : Int) (ρ : Env) (S : Store) : evE cl (Ex.int i) ρ S = some (.ok (.int i), S) := by rw [evE]; first | done | rfl
theorem ev_str_at (cl : Cl) (s : Tx) (ρ : Env) (S : Store) : evE cl (Ex.str s) ρ S = some (.ok (.str s), S) := by rw [evE]; first | done | rfl
theorem ev_var_at (cl : Cl) (i : Nat) (ρ : Env) (S : Store) : evE cl (Ex.var i) ρ S = M.of (ρ[i]?.join) S := by rw [evE]; first | done | rfl
theorem ev_glob_at (cl : Cl) (x : String) (ρ : Env) (S : Store) : evE cl (Ex.glob x) ρ S = M.of (cl.gl x) S := by rw [evE]; first | done | rfl
theorem ev_op_at (cl : Cl) (o : O2) (a b : Ex) (ρ : Env) (S : Store) : evE cl (Ex.op o a b) ρ S = bndR (evE cl a ρ S) (opK cl o b ρ) := by rw [evE]; first | done | rfl
theorem ev_neg_at (cl : Cl) (a : Ex) (ρ : Env) (S : Store) : evE cl (Ex.neg a) ρ S = bndR (evE cl a ρ S) negM := by rw [evE]; first | done | rfl
theorem ev_cmp_at (cl : Cl) (c : Cp) (a b : Ex) (ρ : Env) (S : Store) : evE cl (Ex.cmp c a b) ρ S = bndR (evE cl a ρ S) (cmpK cl c b ρ) := by rw [evE]; first | done | rfl
theorem ev_chain_at (cl : Cl) (c c' : Cp) (a b d : Ex) (ρ : Env) (S : Store) : evE cl (Ex.chain c c' a b d) ρ S = bndR (evE cl a ρ S) (chK cl c c' b d ρ) := by rw [evE]; first | done | rfl
theorem ev_not_at (cl : Cl) (a : Ex) (ρ : Env) (S : Store) : evE cl (Ex.not a) ρ S = bndR (evE cl a ρ S) notK := by rw [evE]; first | done | rfl
theorem ev_and_at (cl : Cl) (a b : Ex) (ρ : Env) (S : Store) : evE cl (Ex.and a b) ρ S = bndR (evE cl a ρ S) (andK cl b ρ) := by rw [evE]; first | done | rfl
theorem ev_or_at (cl : Cl) (a b : Ex) (ρ : Env) (S : Store) : evE cl (Ex.or a b) ρ S = bndR (evE cl a ρ S) (orK cl b ρ) := by rw [evE]; first | done | rfl
theorem ev_ite_at (cl : Cl) (c a b : Ex) (ρ : Env) (S : Store) : evE cl (Ex.ite c a b) ρ S = bndR (evE cl c ρ S) (ifK cl a b ρ) := by rw [evE]; first | done | rfl
theorem ev_tup_at (cl : Cl) (xs : List Ex) (ρ : Env) (S : Store) : evE cl (Ex.tup xs) ρ S = bndR (evEs cl xs ρ S) tupK := by rw [evE]; first | done | rfl
theorem ev_lst_at (cl : Cl) (xs : List Ex) (ρ : Env) (S : Store) : evE cl (Ex.lst xs) ρ S = bndR (evEs cl xs ρ S) lstK := by rw [evE]; first | done | rfl
theorem ev_flst_at (cl : Cl) (xs : List Ex) (ρ : Env) (S : Store) : evE cl (Ex.flst xs) ρ S = bndR (evEs cl xs ρ S) flstK := by rw [evE]; first | done | rfl
theorem ev_dct_at (cl : Cl) (vs : List Ex) (ρ : Env) (S : Store) : evE cl (Ex.dct [] vs) ρ S = some (.ok (.loc S.length), S ++ [.dct []]) := by rw [evE]; first | done | rfl
theorem ev_fslice_at (cl : Cl) (a : Ex) (lo hi : Option Ex) (ρ : Env) (S : Store) : evE cl (Ex.fslice a lo hi) ρ S = bndR (evE cl a ρ S) (fslK cl lo hi ρ) := by rw [evE]; first | done | rfl
theorem ev_lenset_at (cl : Cl) (a : Ex) (ρ : Env) (S : Store) : evE cl (Ex.lenset a) ρ S = bndR (evE cl a ρ S) lensetM := by rw [evE]; first | done | rfl
theorem ev_ix_at (cl : Cl) (a b : Ex) (ρ : Env) (S : Store) : evE cl (Ex.ix a b) ρ S = bndR (evE cl a ρ S) (ixK cl b ρ) := by rw [evE]; first | done | rfl
theorem ev_slice_at (cl : Cl) (a : Ex) (lo hi : Option Ex) (ρ : Env) (S : Store) : evE cl (Ex.slice a lo hi) ρ S = bndR (evE cl a ρ S) (slK cl lo hi ρ) := by rw [evE]; first | done | rfl
theorem ev_call_at (cl : Cl) (f : String) (xs : List Ex) (ρ : Env) (S : Store) : evE cl (Ex.call f xs) ρ S = bndR (evEs cl xs ρ S) (cl.fn f) := by rw [evE]; first | done | rfl
theorem ev_bi_at (cl : Cl) (f : Bi) (xs : List Ex) (ρ : Env) (S : Store) : evE cl (Ex.bi f xs) ρ S = bndR (evEs cl xs ρ S) (biM f) := by rw [evE]; first | done | rfl
theorem ev_mt_at (cl : Cl) (m : Mt) (o : Ex) (xs : List Ex) (ρ : Env) (S : Store) : evE cl (Ex.mt m o xs) ρ S = bndR (evE cl o ρ S) (mtK cl m xs ρ) := by rw [evE]; first | done | rfl
theorem ev_isi_at (cl : Cl) (a : Ex) (ts : List Ty) (ρ : Env) (S : Store) : evE cl (Ex.isi a ts) ρ S = bndR (evE cl a ρ S) (isiK ts) := by rw [evE]; first | done | rfl
theorem ev_lc_at (cl : Cl) (z : Bool) (elt : Ex) (t : Tg) (k : Nat) (xs : List Ex) (cs : List Ex) (vs : List Nat) (ρ : Env) (S : Store) : evE cl (Ex.lc z elt t k xs cs vs) ρ S = bndR (bndR (evEs cl xs ρ S) (itM k)) (lcS z cl elt t cs vs ρ) := by rw [evE]; first | done | rfl
theorem evs_nil_at (cl : Cl)  (ρ : Env) (S : Store) : evEs cl [] ρ S = some (.ok [], S) := by rw [evEs]; first | done | rfl
theorem evs_cons_at (cl : Cl) (e : Ex) (es : List Ex) (ρ : Env) (S : Store) : evEs cl (e :: es) ρ S = bndR (evE cl e ρ S) (consK cl es ρ) := by rw [evEs]; first | done | rfl
theorem evo_none_at (cl : Cl) (ρ : Env) (S : Store) : evO cl none ρ S = some (.ok none, S) := by rw [evO]; rfl
theorem evo_some_at (cl : Cl) (e : Ex) (ρ : Env) (S : Store) : evO cl (some e) ρ S = bndR (evE cl e ρ S) intM := by rw [evO]; rfl
theorem evc_nil_at (cl : Cl) (ρ : Env) (S : Store) : evCs cl [] ρ S = some (.ok true, S) := by rw [evCs]; rfl
theorem evc_cons_at (cl : Cl) (c : Ex) (cs : List Ex) (ρ : Env) (S : Store) : evCs cl (c :: cs) ρ S = bndR (evE cl c ρ S) (csK cl cs ρ) := by rw [evCs]; rfl
def asgIxK3 (ρ : Env) (v x k : D) : MS := MS.bnd ρ (setIxM x k v) (fun _ S => some (.nx ρ, S))
theorem asgIxK3_at (ρ : Env) (v x k : D) (S : Store) : asgIxK3 ρ v x k S = msB ρ (setIxM x k v S) (fun _ S => some (.nx ρ, S)) := rfl
def asgIxK2 (cl : Cl) (i : Ex) (ρ : Env) (v x : D) : MS := MS.bnd ρ (evE cl i ρ) (asgIxK3 ρ v x)
theorem asgIxK2_at (cl : Cl) (i : Ex) (ρ : Env) (v x : D) (S : Store) : asgIxK2 cl i ρ v x S = msB ρ (evE cl i ρ S) (asgIxK3 ρ v x) := rfl
def asgIxK (cl : Cl) (o i : Ex) (ρ : Env) (v : D) : MS := MS.bnd ρ (evE cl o ρ) (asgIxK2 cl i ρ v)
theorem asgIxK_at (cl : Cl) (o i : Ex) (ρ : Env) (v : D) (S : Store) : asgIxK cl o i ρ v S = msB ρ (evE cl o ρ S) (asgIxK2 cl i ρ v) := rfl
def augK1 (i : Nat) (ρ : Env) (z : D) : MS := fun S => some (.nx (ρ.set i (some z)), S)
def augK3 (o : O2) (i : Nat) (ρ : Env) (x y : D) : MS := MS.bnd ρ (iopM o x y) (augK1 i ρ)
theorem augK3_at (o : O2) (i : Nat) (ρ : Env) (x y : D) (S : Store) : augK3 o i ρ x y S = msB ρ (iopM o x y S) (augK1 i ρ) := rfl
def augK2 (cl : Cl) (e : Ex) (o : O2) (i : Nat) (ρ : Env) (x : D) : MS := MS.bnd ρ (evE cl e ρ) (augK3 o i ρ x)
theorem augK2_at (cl : Cl) (e : Ex) (o : O2) (i : Nat) (ρ : Env) (x : D) (S : Store) : augK2 cl e o i ρ x S = msB ρ (evE cl e ρ S) (augK3 o i ρ x) := rfl
theorem augK1_at (i : Nat) (ρ : Env) (z : D) (S : Store) : augK1 i ρ z S = some (.nx (ρ.set i (some z)), S) := rfl
def asgK (t : Tg) (ρ : Env) (x : D) : MS := fun S => match bindT t x ρ with
  | none => none
  | some ρ' => some (.nx ρ', S)
def goOn {α : Type} (ρ : Env) (_ : α) : MS := fun S => some (.nx ρ, S)
def iteK (a b : MS) (k : Bool) : MS := if k then a else b
def retS (d : D) : MS := fun S => some (.rt d, S)
def asgR (S : Store) : Option Env → Option (Ctl × Store)
  | none => none
  | some ρ' => some (.nx ρ', S)
theorem asgR_ok (S : Store) (ρ : Env) : asgR S (some ρ) = some (.nx ρ, S) := rfl
theorem asgK_at (t : Tg) (ρ : Env) (x : D) (S : Store) : asgK t ρ x S = asgR S (bindT t x ρ) := by
  unfold asgK asgR
  cases bindT t x ρ <;> rfl
theorem goOn_at {α : Type} (ρ : Env) (a : α) (S : Store) : goOn ρ a S = some (.nx ρ, S) := rfl
theorem iteK_t (a b : MS) (S : Store) : iteK a b true S = a S := rfl
theorem iteK_f (a b : MS) (S : Store) : iteK a b false S = b S := rfl
theorem retS_at (d : D) (S : Store) : retS d S = some (.rt d, S) := rfl
theorem ex_asg_at (cl : Cl) (t : Tg) (e : Ex) (ρ : Env) (S : Store) : exS cl (.asg t e) ρ S = msB ρ (evE cl e ρ S) (asgK t ρ) := by rw [exS]; first | done | rfl
theorem ex_asgIx_at (cl : Cl) (o i e : Ex) (ρ : Env) (S : Store) : exS cl (.asgIx o i e) ρ S = msB ρ (evE cl e ρ S) (asgIxK cl o i ρ) := by rw [exS]; first | done | rfl
theorem ex_aug_at (cl : Cl) (i : Nat) (o : O2) (e : Ex) (ρ : Env) (S : Store) : exS cl (.aug i o e) ρ S = msB ρ (M.of (ρ[i]?.join) S) (augK2 cl e o i ρ) := by rw [exS]; first | done | rfl
theorem ex_expr_at (cl : Cl) (e : Ex) (ρ : Env) (S : Store) : exS cl (.expr e) ρ S = msB ρ (evE cl e ρ S) (goOn ρ) := by rw [exS]; first | done | rfl
theorem ex_ite_at (cl : Cl) (c : Ex) (a b : List St) (ρ : Env) (S : Store) : exS cl (.ite c a b) ρ S = msB ρ (bndR (evE cl c ρ S) truthy) (iteK (exSs cl a ρ) (exSs cl b ρ)) := by rw [exS]; first | done | rfl
theorem ex_ret_at (cl : Cl) (e : Ex) (ρ : Env) (S : Store) : exS cl (.ret e) ρ S = msB ρ (evE cl e ρ S) retS := by rw [exS]; first | done | rfl
theorem ex_retN_at (cl : Cl)  (ρ : Env) (S : Store) : exS cl .retN ρ S = some (.rt .non, S) := by rw [exS]; first | done | rfl
theorem ex_raise_at (cl : Cl) (c : String) (ρ : Env) (S : Store) : exS cl (.raise c) ρ S = some (.ex c ρ, S) := by rw [exS]; first | done | rfl
theorem ex_brk_at (cl : Cl)  (ρ : Env) (S : Store) : exS cl .brk ρ S = some (.bk ρ, S) := by rw [exS]; first | done | rfl
theorem ex_cont_at (cl : Cl)  (ρ : Env) (S : Store) : exS cl .cont ρ S = some (.ct ρ, S) := by rw [exS]; first | done | rfl
theorem ex_pass_at (cl : Cl)  (ρ : Env) (S : Store) : exS cl .pass ρ S = some (.nx ρ, S) := by rw [exS]; first | done | rfl
theorem ex_while_at (cl : Cl) (c : Ex) (b : List St) (ρ : Env) (S : Store) : exS cl (.while c b) ρ S = whileL (evT cl c) (exSs cl b) wmax ρ S := by rw [exS]; first | done | rfl
def augFldK4 (cl : Cl) (f : String) (ρ : Env) (x z : D) : MS := MS.bnd ρ (setFldM cl f z x) (goOn ρ)
theorem augFldK4_at (cl : Cl) (f : String) (ρ : Env) (x z : D) (S : Store) : augFldK4 cl f ρ x z S = msB ρ (setFldM cl f z x S) (goOn ρ) := rfl
def augFldK3 (cl : Cl) (f : String) (o : O2) (ρ : Env) (x u v : D) : MS := MS.bnd ρ (addI o u v) (augFldK4 cl f ρ x)
theorem augFldK3_at (cl : Cl) (f : String) (o : O2) (ρ : Env) (x u v : D) (S : Store) : augFldK3 cl f o ρ x u v S = msB ρ (addI o u v S) (augFldK4 cl f ρ x) := rfl
def augFldK2 (cl : Cl) (f : String) (o : O2) (e : Ex) (ρ : Env) (x u : D) : MS := MS.bnd ρ (evE cl e ρ) (augFldK3 cl f o ρ x u)
theorem augFldK2_at (cl : Cl) (f : String) (o : O2) (e : Ex) (ρ : Env) (x u : D) (S : Store) : augFldK2 cl f o e ρ x u S = msB ρ (evE cl e ρ S) (augFldK3 cl f o ρ x u) := rfl
def augFldK (cl : Cl) (f : String) (o : O2) (e : Ex) (ρ : Env) (x : D) : MS := MS.bnd ρ (fldM cl f x) (augFldK2 cl f o e ρ x)
theorem augFldK_at (cl : Cl) (f : String) (o : O2) (e : Ex) (ρ : Env) (x : D) (S : Store) : augFldK cl f o e ρ x S = msB ρ (fldM cl f x S) (augFldK2 cl f o e ρ x) := rfl
theorem ex_augFld_at (cl : Cl) (a : Ex) (f : String) (o : O2) (e : Ex) (ρ : Env) (S : Store) : exS cl (.augFld a f o e) ρ S = msB ρ (evE cl a ρ S) (augFldK cl f o e ρ) := by rw [exS]; rfl
theorem ex_try_at (cl : Cl) (body : List St) (h : String) (v : Option Nat) (suite : List St) (ρ : Env) (S : Store) : exS cl (.try body h v suite) ρ S = tryR cl h v suite (exSs cl body ρ S) := by rw [exS]; rfl
theorem tryR_nx (cl : Cl) (h : String) (v : Option Nat) (suite : List St) (ρ : Env) (S : Store) : tryR cl h v suite (some (.nx ρ, S)) = some (.nx ρ, S) := rfl
theorem tryR_rt (cl : Cl) (h : String) (v : Option Nat) (suite : List St) (d : D) (S : Store) : tryR cl h v suite (some (.rt d, S)) = some (.rt d, S) := rfl
theorem exs_nil_at (cl : Cl) (ρ : Env) (S : Store) : exSs cl [] ρ S = some (.nx ρ, S) := by rw [exSs]
theorem exs_cons_at (cl : Cl) (s : St) (ss : List St) (ρ : Env) (S : Store) : exSs cl (s :: ss) ρ S = msS (exS cl s ρ S) (exSs cl ss) := by rw [exSs]; rfl

/-! ### what stands at a place, to be read -/
def viewK (c : Cell) : M D := of (viewC c)
theorem viewK_at (c : Cell) (S : Store) : viewK c S = M.of (viewC c) S := rfl
theorem view_loc (n : Nat) (S : Store) : view (.loc n) S = bndR (M.of S[n]? S) viewK := by
  show bnd (M.get n) viewK S = _
  rw [bnd_at, get_at]
theorem view_non (S : Store) : view .non S = some (.ok .non, S) := rfl
theorem view_bl (b : Bool) (S : Store) : view (.bl b) S = some (.ok (.bl b), S) := rfl
theorem view_int (i : Int) (S : Store) : view (.int i) S = some (.ok (.int i), S) := rfl
theorem view_str (s : Tx) (S : Store) : view (.str s) S = some (.ok (.str s), S) := rfl
theorem view_tup (xs : List D) (S : Store) : view (.tup xs) S = some (.ok (.tup xs), S) := rfl
theorem view_fzl (xs : List D) (S : Store) : view (.fzl xs) S = some (.ok (.fzl xs), S) := rfl
theorem view_fzd (ks vs : List D) (S : Store) : view (.fzd ks vs) S = some (.ok (.fzd ks vs), S) := rfl
theorem view_fzo (c : String) (ns : List String) (vs : List D) (S : Store) : view (.fzo c ns vs) S = some (.ok (.fzo c ns vs), S) := rfl
theorem indexM_at (x k : D) (S : Store) : indexM x k S = bndR (view x S) (fun x => indexF x k) := rfl
theorem sliceM_at (x : D) (lo hi : Option Int) (S : Store) : sliceM x lo hi S = bndR (view x S) (fun x => sliceF x lo hi) := rfl
theorem sliceP_at (x : D) (lo hi : Option Int) (S : Store) : sliceP x lo hi S = bndR (view x S) (slicePF lo hi) := rfl
def eqK2 (x y : D) : M Bool := need (D.flat x = true ∧ D.flat y = true ∧ D.deep x ≤ 64 ∧ D.deep y ≤ 64) (ret (D.eqv x y))
def eqK (y x : D) : M Bool := bnd (view y) (eqK2 x)
theorem eqK2_at (x y : D) (S : Store) : eqK2 x y S = if (D.flat x = true ∧ D.flat y = true ∧ D.deep x ≤ 64 ∧ D.deep y ≤ 64) then some (.ok (D.eqv x y), S) else none := rfl
theorem eqK_at (x y : D) (S : Store) : eqK y x S = bndR (view y S) (eqK2 x) := rfl
theorem eqM_at (x y : D) (S : Store) : eqM x y S = bndR (view x S) (eqK y) := rfl
theorem inM_at (x y : D) (S : Store) : inM x y S = bndR (view y S) (inF x) := rfl
def nbnK (b : Bool) : M Bool := ret (!b)
theorem nbnK_at (b : Bool) (S : Store) : nbnK b S = some (.ok (!b), S) := rfl
theorem cmp_eq_at (x y : D) (S : Store) : cmpM .eq x y S = bndR (view x S) (eqK y) := rfl
theorem cmp_ne_at (x y : D) (S : Store) : cmpM .ne x y S = bndR (bndR (view x S) (eqK y)) nbnK := rfl
theorem cmp_in_at (x y : D) (S : Store) : cmpM .inn x y S = bndR (view y S) (inF x) := rfl
theorem cmp_nin_at (x y : D) (S : Store) : cmpM .nin x y S = bndR (bndR (view y S) (inF x)) nbnK := rfl
theorem cmp_lt_at (a b : Int) (S : Store) : cmpM .lt (.int a) (.int b) S = some (.ok (decide (a < b)), S) := rfl
theorem cmp_le_at (a b : Int) (S : Store) : cmpM .le (.int a) (.int b) S = some (.ok (decide (a ≤ b)), S) := rfl
theorem cmp_gt_at (a b : Int) (S : Store) : cmpM .gt (.int a) (.int b) S = some (.ok (decide (b < a)), S) := rfl
theorem cmp_ge_at (a b : Int) (S : Store) : cmpM .ge (.int a) (.int b) S = some (.ok (decide (b ≤ a)), S) := rfl
theorem cmp_is_at (x : D) (S : Store) : cmpM .isN x .non S = some (.ok x.isNon, S) := rfl
theorem cmp_isnt_at (x : D) (S : Store) : cmpM .notN x .non S = some (.ok (!x.isNon), S) := rfl
theorem addL_at (xs ys : List D) (S : Store) : binop .add (.fzl xs) (.fzl ys) S = if xs.length + ys.length ≤ szl then some (.ok (.fzl (xs ++ ys)), S) else none := rfl
theorem addI_at (a b : Int) (S : Store) : addI .add (.int a) (.int b) S = some (.ok (.int (a + b)), S) := rfl
theorem lenM_at (x : D) (S : Store) : lenM [x] S = bndR (view x S) lenF := rfl
theorem listM_at (x : D) (S : Store) : listM [x] S = bndR (bndR (view x S) itemsF) lstK := rfl
theorem flistM_at (x : D) (S : Store) : flistM [x] S = bndR (bndR (view x S) itemsF) flstK := rfl
theorem tupleM_at (x : D) (S : Store) : tupleM [x] S = bndR (bndR (view x S) itemsF) tupK := rfl
def sumK2 (is : List Int) : M D := ret (.int is.sum)
theorem sumK2_at (is : List Int) (S : Store) : sumK2 is S = some (.ok (.int is.sum), S) := rfl
def sumK (xs : List D) : M D := bnd (of (intsO xs)) sumK2
theorem sumK_at (xs : List D) (S : Store) : sumK xs S = bndR (M.of (intsO xs) S) sumK2 := rfl
theorem sumM_at (x : D) (S : Store) : sumM [x] S = bndR (bndR (view x S) lstF) sumK := rfl
theorem intsO_map : ∀ is : List Int, intsO (is.map .int) = some is
  | [] => rfl
  | i :: r => by rw [List.map_cons, intsO, intsO_map r]; rfl
theorem fldM_at (cl : Cl) (f : String) (x : D) (S : Store) : fldM cl f x S = bndR (view x S) (fldF cl f) := rfl
theorem clsM_at (cl : Cl) (m : String) (x : D) (S : Store) : clsM cl m x S = bndR (view x S) (clsF cl m) := rfl
theorem setFldM_at (cl : Cl) (n : Nat) (f : String) (v : D) (S : Store) : setFldM cl f v (.loc n) S = bndR (M.of S[n]? S) (setFldC cl n f v) := by
  show bnd (M.get n) _ S = _
  rw [bnd_at, get_at]
theorem setIxM_at (n : Nat) (k v : D) (S : Store) : setIxM (.loc n) k v S = bndR (M.of S[n]? S) (setIxC n k v) := by
  show bnd (M.get n) _ S = _
  rw [bnd_at, get_at]
def putIxK (n : Nat) (xs : List D) (v : D) (j : Nat) : M Unit := put n (.lst (xs.set j v))
theorem putIxK_at (n : Nat) (xs : List D) (v : D) (j : Nat) (S : Store) : putIxK n xs v j S = if n < S.length then some (.ok (), S.set n (.lst (xs.set j v))) else none := rfl
theorem setIxL_at (n : Nat) (xs : List D) (i : Int) (v : D) (S : Store) : setIxC n (.int i) v (.lst xs) S = bndR (M.of (ixN xs.length i) S) (putIxK n xs v) := rfl
theorem setIxD_at (n : Nat) (kvs : List (D × D)) (k v : D) (S : Store) : setIxC n k v (.dct kvs) S = if (k.key = true ∧ kvs.length < szl) then (if n < S.length then some (.ok (), S.set n (.dct (putD k v kvs))) else none) else none := rfl
def appC (n : Nat) (v : D) : Cell → M D
  | .lst xs => need (xs.length < szl) (bnd (put n (.lst (xs ++ [v]))) (Mi.retK .non))
  | _ => fail
theorem append_at (n : Nat) (v : D) (S : Store) : appendM (.loc n) [v] S = bndR (M.of S[n]? S) (appC n v) := by
  show bnd (M.get n) _ S = _
  rw [bnd_at, get_at]
  cases S[n]? with
  | none => rfl
  | some c => cases c <;> rfl
theorem extend_at (n : Nat) (v : D) (S : Store) : extendM (.loc n) [v] S = bndR (M.of S[n]? S) (extC n v) := by
  show bnd (M.get n) _ S = _
  rw [bnd_at, get_at]
theorem pop_at (n : Nat) (S : Store) : popM (.loc n) [] S = bndR (M.of S[n]? S) (popC n) := by
  show bnd (M.get n) _ S = _
  rw [bnd_at, get_at]
def popAtK3 (n : Nat) (xs : List D) (j : Nat) (d : D) : M D := bnd (put n (.lst (xs.eraseIdx j))) (Mi.retK d)
theorem popAtK3_at (n : Nat) (xs : List D) (j : Nat) (d : D) (S : Store) : popAtK3 n xs j d S = bndR (if n < S.length then some (.ok (), S.set n (.lst (xs.eraseIdx j))) else none) (Mi.retK d) := rfl
def popAtK2 (n : Nat) (xs : List D) (j : Nat) : M D := bnd (of xs[j]?) (popAtK3 n xs j)
theorem popAtK2_at (n : Nat) (xs : List D) (j : Nat) (S : Store) : popAtK2 n xs j S = bndR (M.of xs[j]? S) (popAtK3 n xs j) := rfl
theorem popAtC_at (n : Nat) (i : Int) (xs : List D) (S : Store) : popAtC n i (.lst xs) S = if r62 i = true then bndR (M.of (ixN xs.length i) S) (popAtK2 n xs) else none := rfl
theorem popAt_at (n : Nat) (i : Int) (S : Store) : popAtM (.loc n) [.int i] S = bndR (M.of S[n]? S) (popAtC n i) := by
  show bnd (M.get n) _ S = _
  rw [bnd_at, get_at]
theorem retKM_at (d : D) (u : Unit) (S : Store) : Mi.retK d u S = some (.ok d, S) := rfl
theorem sdf_at (n : Nat) (k v : D) (S : Store) : setdefaultM (.loc n) [k, v] S = bndR (M.of S[n]? S) (sdfC n k v) := by
  show bnd (M.get n) _ S = _
  rw [bnd_at, get_at]
theorem sdfC_at (n : Nat) (k v : D) (kvs : List (D × D)) (S : Store) : sdfC n k v (.dct kvs) S = if (k.key = true ∧ kvs.length < szl) then sdfO n k v kvs (lookD k kvs) S else none := rfl
theorem sdfO_some (n : Nat) (k v u : D) (kvs : List (D × D)) (S : Store) : sdfO n k v kvs (some u) S = some (.ok u, S) := rfl
theorem sdfO_none (n : Nat) (k v : D) (kvs : List (D × D)) (S : Store) : sdfO n k v kvs none S = bndR (if n < S.length then some (.ok (), S.set n (.dct (kvs ++ [(k, v)]))) else none) (Mi.retK v) := rfl
theorem get1_at (x k : D) (S : Store) : get1M x [k] S = bndR (view x S) (fun x => getF x k .non) := rfl
def dctU : Cell → M Unit
  | .dct _ => ret ()
  | _ => fail
theorem isDct_at (n : Nat) (S : Store) : isDct (.loc n) S = bndR (M.of S[n]? S) dctU := by
  show bnd (M.get n) _ S = _
  rw [bnd_at, get_at]
  cases S[n]? with
  | none => rfl
  | some c => cases c <;> rfl
def lstU : Cell → M Unit
  | .lst _ => ret ()
  | _ => fail
theorem isLst_at (n : Nat) (S : Store) : isLst (.loc n) S = bndR (M.of S[n]? S) lstU := by
  show bnd (M.get n) _ S = _
  rw [bnd_at, get_at]
  cases S[n]? with
  | none => rfl
  | some c => cases c <;> rfl
theorem isD_at (x : D) (S : Store) : isD x S = bndR (view x S) isDF := rfl
theorem dict_at (n : Nat) (S : Store) : dictM [.loc n] S = bndR (M.of S[n]? S) dictC := by
  show bnd (M.get n) _ S = _
  rw [bnd_at, get_at]
def someC : Cell → M Bool
  | .lst xs => ret (!xs.isEmpty)
  | _ => fail
theorem truthy_loc (n : Nat) (S : Store) : truthy (.loc n) S = bndR (M.of S[n]? S) someC := by
  show bnd (M.get n) _ S = _
  rw [bnd_at, get_at]
  cases S[n]? with
  | none => rfl
  | some c => cases c <;> rfl
theorem indexF_tup (xs : List D) (i : Int) : indexF (.tup xs) (.int i) = of (atI xs i) := rfl
theorem indexF_fzl (xs : List D) (i : Int) : indexF (.fzl xs) (.int i) = of (atI xs i) := rfl
theorem indexF_str (s : Tx) (i : Int) : indexF (.str s) (.int i) = of ((atI s i).map fun c => .str [c]) := rfl
theorem indexF_fzd (ks vs : List D) (k : D) : indexF (.fzd ks vs) k = need (keyFit ks k = true) (of (lookF k ks vs)) := by cases k <;> rfl
theorem lenF_str (s : Tx) : lenF (.str s) = ret (.int s.length) := rfl
theorem lenF_tup (xs : List D) : lenF (.tup xs) = ret (.int xs.length) := rfl
theorem lenF_fzl (xs : List D) : lenF (.fzl xs) = ret (.int xs.length) := rfl
theorem itemsF_tup (xs : List D) : itemsF (.tup xs) = ret xs := rfl
theorem itemsF_fzl (xs : List D) : itemsF (.fzl xs) = ret xs := rfl
theorem lstF_fzl (xs : List D) : lstF (.fzl xs) = ret xs := rfl
theorem sliceF_tup (xs : List D) (lo hi : Option Int) : sliceF (.tup xs) lo hi = ret (.tup (cut xs lo hi)) := rfl
theorem sliceF_fzl (xs : List D) (lo hi : Option Int) : sliceF (.fzl xs) lo hi = ret (.fzl (cut xs lo hi)) := rfl
theorem sliceF_str (s : Tx) (lo hi : Option Int) : sliceF (.str s) lo hi = ret (.str (cut s lo hi)) := rfl
theorem seqM_tup (xs : List D) : seqM (.tup xs) = ret (xs, []) := rfl
theorem seqM_fzl (xs : List D) : seqM (.fzl xs) = ret (xs, []) := rfl
theorem seqM_scr (xs : List D) : seqM (.scr xs) = ret (xs, []) := rfl
theorem seqM_str (s : Tx) : seqM (.str s) = ret (s.map fun c => .str [c], []) := rfl
def lstS (n : Nat) (c : Cell) : M Src := match c with
  | .lst xs => ret (xs, [(n, c)])
  | _ => fail
theorem seqM_loc (n : Nat) (S : Store) : seqM (.loc n) S = bndR (M.of S[n]? S) (lstS n) := by
  show bnd (M.get n) _ S = _
  rw [bnd_at, get_at]
  cases S[n]? with
  | none => rfl
  | some c => cases c <;> rfl
theorem truthy_non : truthy .non = ret false := rfl
theorem truthy_bl (b : Bool) : truthy (.bl b) = ret b := rfl
theorem truthy_int (i : Int) : truthy (.int i) = ret (i != 0) := rfl
theorem truthy_str (s : Tx) : truthy (.str s) = ret (!s.isEmpty) := rfl
theorem truthy_tup (xs : List D) : truthy (.tup xs) = ret (!xs.isEmpty) := rfl
theorem truthy_fzl (xs : List D) : truthy (.fzl xs) = ret (!xs.isEmpty) := rfl
theorem isTy_non (S : Store) (t : Ty) : isTy S .non t = some false := rfl
theorem isTy_bl (S : Store) (b : Bool) (t : Ty) : isTy S (.bl b) t = some (decide (t = .bool ∨ t = .int)) := rfl
theorem isTy_int (S : Store) (i : Int) (t : Ty) : isTy S (.int i) t = some (decide (t = .int)) := rfl
theorem isTy_str (S : Store) (s : Tx) (t : Ty) : isTy S (.str s) t = some (decide (t = .str)) := rfl
theorem isTy_tup (S : Store) (xs : List D) (t : Ty) : isTy S (.tup xs) t = some (decide (t = .tuple)) := rfl
theorem isTy_fzl (S : Store) (xs : List D) (t : Ty) : isTy S (.fzl xs) t = some (decide (t = .list)) := rfl
def isiR (d : D) (ts : List Ty) (S : Store) : Option Bool → Option (Out Bool × Store)
  | none => none
  | some true => some (.ok true, S)
  | some false => isiM d ts S
theorem isi_nil_at (d : D) (S : Store) : isiM d [] S = some (.ok false, S) := rfl
theorem isi_cons_at (d : D) (t : Ty) (ts : List Ty) (S : Store) : isiM d (t :: ts) S = isiR d ts S (isTy S d t) := by
  rw [isiM]
  unfold isiR
  rfl
theorem isiR_t (d : D) (ts : List Ty) (S : Store) : isiR d ts S (some true) = some (.ok true, S) := rfl
theorem isiR_f (d : D) (ts : List Ty) (S : Store) : isiR d ts S (some false) = isiM d ts S := rfl

/-! ### objects -/
theorem ev_fld_at (cl : Cl) (o : Ex) (f : String) (ρ : Env) (S : Store) : evE cl (.fld o f) ρ S = bndR (evE cl o ρ S) (fldM cl f) := by rw [evE]; rfl
def methK3 (cl : Cl) (m : String) (x : D) (c : String) (ds : List D) : M D := cl.mt c m (x :: ds)
theorem methK3_at (cl : Cl) (m : String) (x : D) (c : String) (ds : List D) (S : Store) : methK3 cl m x c ds S = cl.mt c m (x :: ds) S := rfl
def methK2 (cl : Cl) (m : String) (xs : List Ex) (ρ : Env) (x : D) (c : String) : M D := bnd (evEs cl xs ρ) (methK3 cl m x c)
theorem methK2_at (cl : Cl) (m : String) (xs : List Ex) (ρ : Env) (x : D) (c : String) (S : Store) : methK2 cl m xs ρ x c S = bndR (evEs cl xs ρ S) (methK3 cl m x c) := rfl
def methK (cl : Cl) (m : String) (xs : List Ex) (ρ : Env) (x : D) : M D := bnd (clsM cl m x) (methK2 cl m xs ρ x)
theorem methK_at (cl : Cl) (m : String) (xs : List Ex) (ρ : Env) (x : D) (S : Store) : methK cl m xs ρ x S = bndR (clsM cl m x S) (methK2 cl m xs ρ x) := rfl
theorem ev_meth_at (cl : Cl) (o : Ex) (m : String) (xs : List Ex) (ρ : Env) (S : Store) : evE cl (.meth o m xs) ρ S = bndR (evE cl o ρ S) (methK cl m xs ρ) := by rw [evE]; rfl
theorem ev_new_at (cl : Cl) (c : String) (xs : List Ex) (ρ : Env) (S : Store) : evE cl (.new c xs) ρ S = bndR (evEs cl xs ρ S) (newM cl c) := by rw [evE]; rfl
def newK (cl : Cl) (c : String) (ds : List D) (o : D) : M D := bnd (cl.made c (o :: ds)) (isNonM o)
theorem newK_at (cl : Cl) (c : String) (ds : List D) (o : D) (S : Store) : newK cl c ds o S = bndR (cl.made c (o :: ds) S) (isNonM o) := rfl
theorem newM_at (cl : Cl) (c : String) (ds : List D) (S : Store) : newM cl c ds S = bndR (new (.obj c []) S) (newK cl c ds) := rfl
theorem isNonM_at (o : D) (S : Store) : isNonM o .non S = some (.ok o, S) := rfl
def asgFldK2 (cl : Cl) (f : String) (ρ : Env) (v x : D) : MS := MS.bnd ρ (setFldM cl f v x) (fun _ S => some (.nx ρ, S))
theorem asgFldK2_at (cl : Cl) (f : String) (ρ : Env) (v x : D) (S : Store) : asgFldK2 cl f ρ v x S = msB ρ (setFldM cl f v x S) (fun _ S => some (.nx ρ, S)) := rfl
def asgFldK (cl : Cl) (o : Ex) (f : String) (ρ : Env) (v : D) : MS := MS.bnd ρ (evE cl o ρ) (asgFldK2 cl f ρ v)
theorem asgFldK_at (cl : Cl) (o : Ex) (f : String) (ρ : Env) (v : D) (S : Store) : asgFldK cl o f ρ v S = msB ρ (evE cl o ρ S) (asgFldK2 cl f ρ v) := rfl
theorem ex_asgFld_at (cl : Cl) (o : Ex) (f : String) (e : Ex) (ρ : Env) (S : Store) : exS cl (.asgFld o f e) ρ S = msB ρ (evE cl e ρ S) (asgFldK cl o f ρ) := by rw [exS]; rfl

/-! ### what is dropped behind a call -/
theorem callB_of (cl : Cl) (f : Fn) (ds : List D) (S : Store) (h : ds.length = f.np) (h2 : f.np ≤ f.n) :
    callB cl f ds S = endC f.kp S (exSs cl f.body (ds.map some ++ List.replicate (f.n - f.np) none) S) := by
  unfold callB
  rw [if_pos ⟨h, h2⟩]
theorem endC_nx (k : Bool) (S S' : Store) (ρ : Env) : endC k S (some (.nx ρ, S')) = some (.ok .non, (gc S .non S').2) := rfl
theorem endC_rt (S S' : Store) (d : D) : endC false S (some (.rt d, S')) = some (.ok (gc S d S').1, (gc S d S').2) := rfl
theorem endC_rtP (S S' : Store) (d : D) : endC true S (some (.rt d, S')) = some (.ok (gcP S d S').1, (gcP S d S').2) := rfl
theorem endC_ex (k : Bool) (S S' : Store) (c : String) (ρ : Env) : endC k S (some (.ex c ρ, S')) = some (.ex c, (gc S .non S').2) := rfl
theorem fz_old {S : Store} {lo ex k : Nat} {v : D} (h : v.bel lo = true) : fz S lo ex k v = some v := by
  cases k <;> cases v <;> simp [fz, h]
theorem gc_of {S S' : Store} {v v' : D} (h : oldOk S S' = true) (hf : fz S' S.length S'.length fzK v = some v') : gc S v S' = (v', S'.take S.length) := by
  unfold gc
  rw [if_pos h, hf]
theorem oldOk_of {S S' : Store} (hl : S.length ≤ S'.length) (h : ∀ i : Nat, i < S.length → S'[i]? = S[i]? ∨ ∃ c, S'[i]? = some c ∧ c.bel S.length = true) : oldOk S S' = true := by
  unfold oldOk
  simp only [Bool.and_eq_true, decide_eq_true_eq, List.all_eq_true, List.mem_range, Bool.or_eq_true]
  refine ⟨hl, fun i hi => ?_⟩
  rcases h i hi with h | ⟨c, h1, h2⟩
  · exact .inl h
  · right
    rw [h1]
    exact h2
theorem gc_app (S T G : Store) (v : D) (hv : v.bel S.length = true) (hl : T.length = S.length)
    (h : ∀ i : Nat, i < S.length → T[i]? = S[i]? ∨ ∃ c, T[i]? = some c ∧ c.bel S.length = true) : gc S v (T ++ G) = (v, T) := by
  rw [gc_of (oldOk_of (by simp; omega) fun i hi => ?_) (fz_old hv), ← hl, List.take_left' rfl]
  have e1 : (T ++ G)[i]? = T[i]? := List.getElem?_append_left (by omega)
  rw [e1]
  exact h i hi
theorem gc_self (S : Store) (v : D) (hv : v.bel S.length = true) : gc S v S = (v, S) := by
  have := gc_app S S [] v hv rfl fun i _ => .inl rfl
  rwa [List.append_nil] at this
theorem gc_more (S G : Store) (v : D) (hv : v.bel S.length = true) : gc S v (S ++ G) = (v, S) := gc_app S S G v hv rfl fun i _ => .inl rfl
theorem gc_bl (S : Store) (b : Bool) : gc S (.bl b) S = (.bl b, S) := gc_self S _ rfl
theorem gc_int (S : Store) (i : Int) : gc S (.int i) S = (.int i, S) := gc_self S _ rfl
theorem gc_str (S : Store) (s : Tx) : gc S (.str s) S = (.str s, S) := gc_self S _ rfl
theorem gc_non (S : Store) : gc S .non S = (.non, S) := gc_self S _ rfl
theorem fzs_bel {S : Store} {lo ex k : Nat} : ∀ {vs : List D}, D.bels lo vs = true → fzs S lo ex k vs = some vs
  | [], _ => by simp [fzs]
  | v :: vs, h => by
    rw [D.bels, Bool.and_eq_true] at h
    rw [fzs, fz_old h.1, fzs_bel h.2]
/-- a list that was made within, of old values -/
theorem gc_lst (S T G : Store) (n : Nat) (xs : List D) (hl : T.length = S.length) (hn : S.length ≤ n) (hG : (T ++ G)[n]? = some (.lst xs)) (hx : D.bels S.length xs = true)
    (h : ∀ i : Nat, i < S.length → T[i]? = S[i]? ∨ ∃ c, T[i]? = some c ∧ c.bel S.length = true) : gc S (.loc n) (T ++ G) = (.fzl xs, T) := by
  have hn2 : n < (T ++ G).length := by
    rcases Nat.lt_or_ge n (T ++ G).length with q | q
    · exact q
    · rw [List.getElem?_eq_none q] at hG
      cases hG
  have hf : fz (T ++ G) S.length (T ++ G).length fzK (.loc n) = some (.fzl xs) := by
    have hb : D.bel S.length (.loc n) = false := by simp [D.bel]; omega
    have hne : ¬ n = (T ++ G).length := by omega
    unfold fzK
    simp only [fz, hb, Bool.false_eq_true, if_false, hne, hG, viewC, fzs_bel hx, Option.map]
  rw [gc_of (oldOk_of (by simp; omega) fun i hi => ?_) hf, ← hl, List.take_left' rfl]
  have e1 : (T ++ G)[i]? = T[i]? := List.getElem?_append_left (by omega)
  rw [e1]
  exact h i hi
theorem bel_non (n : Nat) : D.bel n .non = true := by rw [D.bel] <;> simp
theorem bel_bl (n : Nat) (b : Bool) : D.bel n (.bl b) = true := by rw [D.bel] <;> simp
theorem bel_int (n : Nat) (i : Int) : D.bel n (.int i) = true := by rw [D.bel] <;> simp
theorem bel_str (n : Nat) (s : Tx) : D.bel n (.str s) = true := by rw [D.bel] <;> simp
theorem bel_tup (n : Nat) (xs : List D) : D.bel n (.tup xs) = D.bels n xs := by rw [D.bel]
theorem bel_fzl (n : Nat) (xs : List D) : D.bel n (.fzl xs) = D.bels n xs := by rw [D.bel]
theorem bels_nil (n : Nat) : D.bels n [] = true := by rw [D.bels]
theorem bels_cons (n : Nat) (x : D) (xs : List D) : D.bels n (x :: xs) = (D.bel n x && D.bels n xs) := by rw [D.bels]
theorem bels_all {n : Nat} : ∀ {l : List D}, (∀ x ∈ l, D.bel n x = true) → D.bels n l = true
  | [], _ => by rw [D.bels]
  | x :: l, h => by rw [D.bels, h x (by simp), bels_all fun y hy => h y (by simp [hy])]; rfl
theorem bels_ints (n : Nat) : ∀ l : List Int, D.bels n (l.map .int) = true
  | [] => rfl
  | i :: r => by rw [List.map_cons, D.bels, bels_ints n r]; rfl

/-! ### the loop's rule -/
/-- a for: P says what stands ahead of turn k, Q what is handed out early -/
theorem forL_rule {t : Tg} {g : List (Nat × Cell)} {body : Env → MS} (xs : List D) (P : Nat → Env → Store → Prop) (Q : Ctl → Store → Prop)
    (hs : ∀ k ρ S, k ≤ xs.length → P k ρ S → stays S g = true)
    (ht : ∀ k x ρ S, xs[k]? = some x → P k ρ S → ∃ ρ1, bindT t x ρ = some ρ1 ∧ ∃ c S2, body ρ1 S = some (c, S2) ∧ (match c with
      | .nx ρ2 => P (k + 1) ρ2 S2
      | .ct ρ2 => P (k + 1) ρ2 S2
      | .bk ρ2 => Q (.nx ρ2) S2
      | c => Q c S2)) :
    ∀ (ρ : Env) (S : Store), P 0 ρ S → ∃ c S2, forL t g body xs ρ S = some (c, S2) ∧ (Q c S2 ∨ ∃ ρ2, c = .nx ρ2 ∧ P xs.length ρ2 S2) := by
  have key : ∀ (ys : List D) (k : Nat), xs.drop k = ys → k + ys.length = xs.length → ∀ (ρ : Env) (S : Store), P k ρ S → ∃ c S2, forL t g body ys ρ S = some (c, S2) ∧ (Q c S2 ∨ ∃ ρ2, c = .nx ρ2 ∧ P xs.length ρ2 S2) := by
    intro ys
    induction ys with
    | nil =>
      intro k _ hl ρ S p
      have hk : k = xs.length := by simpa using hl
      refine ⟨.nx ρ, S, ?_, .inr ⟨ρ, rfl, hk ▸ p⟩⟩
      rw [forL]
      simp [hs k ρ S (by omega) p]
    | cons y ys ih =>
      intro k hd hl ρ S p
      have hl' : k + ys.length + 1 = xs.length := by simp only [List.length_cons] at hl; omega
      have hx : xs[k]? = some y := by
        have := List.getElem?_drop (xs := xs) (i := k) (j := 0)
        rw [hd] at this
        simpa using this.symm
      have hd' : xs.drop (k + 1) = ys := by
        have := List.drop_drop (l := xs) (i := 1) (j := k)
        rw [hd] at this
        simpa [Nat.add_comm] using this.symm
      obtain ⟨ρ1, h1, c, S2, h2, h3⟩ := ht k y ρ S hx p
      have st := hs k ρ S (by omega) p
      cases c with
      | nx ρ2 =>
        obtain ⟨c, S3, h4, h5⟩ := ih (k + 1) hd' (by omega) ρ2 S2 h3
        refine ⟨c, S3, ?_, h5⟩
        rw [forL]
        simp [st, h1, h2, h4]
      | ct ρ2 =>
        obtain ⟨c, S3, h4, h5⟩ := ih (k + 1) hd' (by omega) ρ2 S2 h3
        refine ⟨c, S3, ?_, h5⟩
        rw [forL]
        simp [st, h1, h2, h4]
      | bk ρ2 =>
        refine ⟨.nx ρ2, S2, ?_, .inl h3⟩
        rw [forL]
        simp [st, h1, h2]
      | rt d =>
        refine ⟨.rt d, S2, ?_, .inl h3⟩
        rw [forL]
        simp [st, h1, h2]
      | ex d ρ2 =>
        refine ⟨.ex d ρ2, S2, ?_, .inl h3⟩
        rw [forL]
        simp [st, h1, h2]
  intro ρ S p
  exact key xs 0 rfl (by simp) ρ S p
/-- a for that goes through to its end -/
theorem forL_all {t : Tg} {g : List (Nat × Cell)} {body : Env → MS} (xs : List D) (P : Nat → Env → Store → Prop)
    (hs : ∀ k ρ S, k ≤ xs.length → P k ρ S → stays S g = true)
    (ht : ∀ k x ρ S, xs[k]? = some x → P k ρ S → ∃ ρ1, bindT t x ρ = some ρ1 ∧ ∃ ρ2 S2, body ρ1 S = some (.nx ρ2, S2) ∧ P (k + 1) ρ2 S2)
    (ρ : Env) (S : Store) (p : P 0 ρ S) : ∃ ρ2 S2, forL t g body xs ρ S = some (.nx ρ2, S2) ∧ P xs.length ρ2 S2 := by
  obtain ⟨c, S2, h, q⟩ := forL_rule (t := t) (g := g) (body := body) xs P (fun _ _ => False) hs
    (fun k x ρ S hx p => by
      obtain ⟨ρ1, h1, ρ2, S2, h2, h3⟩ := ht k x ρ S hx p
      exact ⟨ρ1, h1, .nx ρ2, S2, h2, h3⟩) ρ S p
  rcases q with q | ⟨ρ2, rfl, q⟩
  · exact q.elim
  · exact ⟨ρ2, S2, h, q⟩
/-- r comes to an end, and Q holds of it -/
def Wp (r : Option (Ctl × Store)) (Q : Ctl → Store → Prop) : Prop := ∃ c S', r = some (c, S') ∧ Q c S'
theorem wp_some (c : Ctl) (S : Store) (Q : Ctl → Store → Prop) : Wp (some (c, S)) Q = Q c S := by
  apply propext
  constructor
  · rintro ⟨c, S, h, q⟩
    cases h
    exact q
  · exact fun q => ⟨c, S, rfl, q⟩
/-- what a turn's end must be -/
def turnEnd (P B : Env → Store → Prop) (Q : Ctl → Store → Prop) : Ctl → Store → Prop
  | .nx ρ, S => P ρ S
  | .ct ρ, S => P ρ S
  | .bk ρ, S => B ρ S
  | c, S => Q c S
theorem turn_nx (P B : Env → Store → Prop) (Q : Ctl → Store → Prop) (ρ : Env) (S : Store) : turnEnd P B Q (.nx ρ) S = P ρ S := rfl
theorem turn_ct (P B : Env → Store → Prop) (Q : Ctl → Store → Prop) (ρ : Env) (S : Store) : turnEnd P B Q (.ct ρ) S = P ρ S := rfl
theorem turn_bk (P B : Env → Store → Prop) (Q : Ctl → Store → Prop) (ρ : Env) (S : Store) : turnEnd P B Q (.bk ρ) S = B ρ S := rfl
theorem turn_rt (P B : Env → Store → Prop) (Q : Ctl → Store → Prop) (d : D) (S : Store) : turnEnd P B Q (.rt d) S = Q (.rt d) S := rfl
theorem turn_ex (P B : Env → Store → Prop) (Q : Ctl → Store → Prop) (c : String) (ρ : Env) (S : Store) : turnEnd P B Q (.ex c ρ) S = Q (.ex c ρ) S := rfl
/-- a for, and what comes behind it -/
theorem wp_for {t : Tg} {g : List (Nat × Cell)} {body : Env → MS} {xs : List D} {ρ : Env} {S : Store} {f : Env → MS} {Q : Ctl → Store → Prop}
    (P : Nat → Env → Store → Prop) (B : Env → Store → Prop) (p : P 0 ρ S)
    (hs : ∀ k ρ S, k ≤ xs.length → P k ρ S → stays S g = true)
    (ht : ∀ k x ρ S, xs[k]? = some x → P k ρ S → ∃ ρ1, bindT t x ρ = some ρ1 ∧ Wp (body ρ1 S) (turnEnd (P (k + 1)) B Q))
    (hf : ∀ ρ S, B ρ S ∨ P xs.length ρ S → Wp (f ρ S) Q) : Wp (msS (forL t g body xs ρ S) f) Q := by
  obtain ⟨c, S2, h, q⟩ := forL_rule (t := t) (g := g) (body := body) xs P (fun c S => match c with
      | .nx ρ => B ρ S
      | .rt d => Q (.rt d) S
      | .ex d ρ => Q (.ex d ρ) S
      | _ => False) hs
    (fun k x ρ S hx p => by
      obtain ⟨ρ1, h1, c, S2, h2, h3⟩ := ht k x ρ S hx p
      refine ⟨ρ1, h1, c, S2, h2, ?_⟩
      cases c <;> exact h3) ρ S p
  rw [h]
  rcases q with q | ⟨ρ2, rfl, q⟩
  · cases c with
    | nx ρ2 => exact hf ρ2 S2 (.inl q)
    | rt d => exact ⟨_, _, rfl, q⟩
    | ex d ρ2 => exact ⟨_, _, rfl, q⟩
    | bk ρ2 => exact q.elim
    | ct ρ2 => exact q.elim
  · exact hf ρ2 S2 (.inr q)
theorem wp_mono {r : Option (Ctl × Store)} {Q Q' : Ctl → Store → Prop} (h : Wp r Q) (i : ∀ c S, Q c S → Q' c S) : Wp r Q' := by
  obtain ⟨c, S, e, q⟩ := h
  exact ⟨c, S, e, i _ _ q⟩
/-- a def's call -/
theorem call_wp {cl : Cl} {f : Fn} {ds : List D} {S : Store} {R : Out D → Store → Prop} (h : ds.length = f.np) (h2 : f.np ≤ f.n) (hk : f.kp = false)
    (w : Wp (exSs cl f.body (ds.map some ++ List.replicate (f.n - f.np) none) S) fun c S' => match c with
      | .nx _ => R (.ok .non) (gc S .non S').2
      | .rt d => R (.ok (gc S d S').1) (gc S d S').2
      | .ex c _ => R (.ex c) (gc S .non S').2
      | _ => False) : ∃ o S', callB cl f ds S = some (o, S') ∧ R o S' := by
  obtain ⟨c, S', e, q⟩ := w
  rw [callB_of cl f ds S h h2, e, hk]
  cases c with
  | nx ρ => exact ⟨_, _, rfl, q⟩
  | rt d => exact ⟨_, _, rfl, q⟩
  | ex c ρ => exact ⟨_, _, rfl, q⟩
  | bk ρ => exact q.elim
  | ct ρ => exact q.elim
theorem rangeD_len (lo : Int) (n : Nat) : (rangeD lo n).length = n := by simp [rangeD]
theorem rangeD_at {lo : Int} {n k : Nat} {x : D} (h : (rangeD lo n)[k]? = some x) : k < n ∧ x = .int (lo + (k : Int)) := by
  unfold rangeD at h
  rw [List.getElem?_map] at h
  have hk : k < n := by
    rcases Nat.lt_or_ge k n with q | q
    · exact q
    · rw [List.getElem?_eq_none (by simpa using q)] at h
      cases h
  refine ⟨hk, ?_⟩
  rw [List.getElem?_eq_getElem (by simpa using hk)] at h
  simp at h
  exact h.symm

/-! ### the draws -/
def mixed (a b : Int) : Int := let s := (a * 48271 + b * 69621 + 12345) % 2147483647; (s * (s / 65536 + 3) + b) % 2147483647
theorem mixed_run (cl : Cl) (a b : Int) (S : Store) : callB cl f__law_mixed [.int a, .int b] S = some (.ok (.int (mixed a b)), S) := by
  have h2 : i64 ((a * 48271 + b * 69621 + 12345) % 2147483647) = true := by
    unfold i64
    rw [decide_eq_true_eq]
    have := Int.emod_nonneg (a * 48271 + b * 69621 + 12345) (by decide : (2147483647 : Int) ≠ 0)
    have := Int.emod_lt_of_pos (a * 48271 + b * 69621 + 12345) (by decide : (0 : Int) < 2147483647)
    omega
  have h3 : i64 48271 = true := by decide
  have h4 : i64 69621 = true := by decide
  rw [callB_of _ _ _ _ rfl (by decide)]
  show endC false S (exSs cl f__law_mixed.body [some (.int a), some (.int b), none] S) = _
  simp only [f__law_mixed, ↓ev_fld_at, ↓ev_meth_at, ↓ev_new_at, ↓ex_asgFld_at, methK_at, methK2_at, methK3_at, newK_at, newM_at, isNonM_at, asgFldK_at, asgFldK2_at, fldM_at, fldF, setFldM_at, setFldC, clsM_at, clsF, lookN, putFd, flOk, ↓for_at, forS_at, lcS_at, ↓ev_non_at, ↓ev_bl_at, ↓ev_int_at, ↓ev_str_at, ↓ev_var_at, ↓ev_glob_at, ↓ev_op_at, ↓ev_neg_at, ↓ev_cmp_at, ↓ev_chain_at, ↓ev_not_at, ↓ev_and_at, ↓ev_or_at, ↓ev_ite_at, ↓ev_tup_at, ↓ev_lst_at, ↓ev_flst_at, ↓ev_dct_at, ↓ev_fslice_at, ↓ev_lenset_at, flstK_at, fslK_at, fslK2_at, lcR_t, lcR_f, lcR_ex, ↓ex_augFld_at, augFldK_at, augFldK2_at, augFldK3_at, augFldK4_at, ↓ex_try_at, tryR_nx, tryR_rt, viewK_at, view_loc, view_non, view_bl, view_int, view_str, view_tup, view_fzl, view_fzd, view_fzo, viewC, indexM_at, indexF_tup, indexF_fzl, indexF_str, indexF_fzd, sliceM_at, sliceF_tup, sliceF_fzl, sliceF_str, sliceP_at, slicePF, eqK_at, eqK2_at, eqM_at, inM_at, inF, nbnK_at, cmp_eq_at, cmp_ne_at, cmp_in_at, cmp_nin_at, cmp_lt_at, cmp_le_at, cmp_gt_at, cmp_ge_at, cmp_is_at, cmp_isnt_at, addL_at, addI_at, lenM_at, lenF_str, lenF_tup, lenF_fzl, listM_at, flistM_at, tupleM_at, itemsF_tup, itemsF_fzl, lstF_fzl, sumK_at, sumK2_at, sumM_at, intsO_map, setIxM_at, setIxL_at, setIxD_at, putIxK_at, append_at, appC, dctU, lstU, someC, extend_at, extC, extF, pop_at, popC, popAt_at, popAtC_at, popAtK2_at, popAtK3_at, retKM_at, sdf_at, sdfC_at, sdfO_some, sdfO_none, get1_at, getF, isDct_at, isLst_at, isD_at, isDF, dict_at, dictC, truthy_loc, intF, max2F, min2F, endC_nx, endC_rt, endC_rtP, endC_ex, gc_bl, gc_int, gc_str, gc_non, ↓ev_ix_at, ↓ev_slice_at, ↓ev_call_at, ↓ev_bi_at, ↓ev_mt_at, ↓ev_isi_at, ↓ev_lc_at, ↓evs_nil_at, ↓evs_cons_at, ↓evo_none_at, ↓evo_some_at, ↓evc_nil_at, ↓evc_cons_at, ↓ex_asg_at, ↓ex_asgIx_at, ↓ex_aug_at, ↓ex_expr_at, ↓ex_ite_at, ↓ex_ret_at, ↓ex_retN_at, ↓ex_raise_at, ↓ex_brk_at, ↓ex_cont_at, ↓ex_pass_at, ↓ex_while_at, ↓exs_nil_at, ↓exs_cons_at, asgK_at, asgR_ok, goOn_at, augK1_at, augK2_at, augK3_at, asgIxK_at, asgIxK2_at, asgIxK3_at, blK_at, nbK_at, opK_at, cmpK_at, cmpK2_at, chK_at, chK2_at, chK3_t, chK3_f, notK_at, andK_at, andK2_t, andK2_f, orK_at, orK2_t, orK2_f, ifK_at, ifK2_t, ifK2_f, tupK_at, lstK_at, ixK_at, slK_at, slK2_at, mtK_at, mtK2_at, isiK_at, consK_at, consK2_at, csK_at, csK2_t, csK2_f, someK_at, eltK_t, eltK_f, oneK_at, oneL_at, seqK_at, iteK_t, iteK_f, retS_at, noexR_ok, negM, intM, ↓msB_at, ↓msS_at, msB_ok, msB_ex, msS_msS, msS_nx, msS_rt, msS_ex, msS_bk, msS_ct, truthy_non, truthy_bl, truthy_int, truthy_str, truthy_tup, truthy_fzl, ↓bnd_at, bndR_ok, bndR_ex, of_some, ret_at, binop, iopM, ↓need_at, bindT, bindTs, biM, get_at, put_at, new_at, ↓isi_cons_at, isi_nil_at, isiR_t, isiR_f, isTy_non, isTy_bl, isTy_int, isTy_str, isTy_tup, isTy_fzl, mtM, mtPre, upperM, isStr, itM, seq1, seqM_tup, seqM_fzl, seqM_scr, seqM_str, seqM_loc, lstS, rng1, rng2, D.isNon, D.flat, D.flats, D.deep, D.deeps, D.eqv, D.eqvs, Nat.zero_le, Nat.max_self, and_self, lt0, lt1, lt2, lt3, atI0, atI1, atI2, atI3, ixN0, ixN1, ixN2, ixN3, getc0, getc1, getc2, getc3, getc4, getc5, getc6, getc7, getc8, setc0, setc1, setc2, setc3, setc4, setc5, setc6, setc7, setc8, id, Option.join_some, Option.join, Option.bind, Option.map, List.map_cons, List.map_nil, List.length_map, List.length_cons, List.length_nil, List.getElem?_cons_zero, List.getElem?_cons_succ, List.set_cons_zero, List.set_cons_succ, Nat.zero_add, List.append_nil, List.nil_append, List.cons_append, Int.reducePow, Int.reduceToNat, Int.zero_add, Int.cast_ofNat_Int, decide_true, decide_false, Bool.not_true, Bool.not_false, Bool.and_self, Bool.true_and, Bool.false_and, Bool.and_true, Nat.zero_max, Nat.max_zero, if_true, if_false, ite_true, ite_false, reduceIte, reduceCtorEq, Bool.false_eq_true, Bool.true_eq_false, or_true, true_or, and_true, true_and, or_false, false_or, Nat.reduceLT, Nat.reduceAdd, Nat.reduceLeDiff, Int.reduceLT, Int.reduceLE, Int.reduceAdd, Nat.zero_lt_succ, beq_self_eq_true, decide_eq_true_eq, h2, h3, h4, mixed]
theorem mixed_pos (a b : Int) : 0 ≤ mixed a b := Int.emod_nonneg _ (by decide)

/-- the store's head: the pair of draws -/
abbrev drw (l : List Int) (t : Nat) (R : Store) : Store := .lst [.fzl (l.map .int), .int (t : Int)] :: R
/-- the number drawn at t -/
def drawV (l : List Int) (t : Nat) : Int := if t < l.length then l.getD t 0 else
  mixed (mixed (if 0 < l.length then 1 + (t : Int) + 1009 * l.getD 0 0 else 1 + (t : Int)) t) 5 % 1000000
theorem drawV_pos {l : List Int} (h : ∀ x ∈ l, 0 ≤ x) (t : Nat) : 0 ≤ drawV l t := by
  unfold drawV
  split
  · next q =>
    rw [List.getD_eq_getElem?_getD, List.getElem?_eq_getElem q]
    exact h _ (List.getElem_mem q)
  · exact Int.emod_nonneg _ (by decide)
theorem atI_nat {α : Type} (xs : List α) (k : Nat) : atI xs (k : Int) = xs[k]? := by
  unfold atI ixN
  rcases Nat.lt_or_ge k xs.length with h | h
  · rw [if_pos (by omega), if_pos (by omega)]
    simp
  · rw [if_pos (by omega), if_neg (by omega)]
    simp [List.getElem?_eq_none h]
theorem atI_int {l : List Int} {t : Nat} (q : t < l.length) : atI (l.map D.int) (t : Int) = some (.int (l.getD t 0)) := by
  rw [atI_nat, List.getElem?_map, List.getElem?_eq_getElem q, List.getD_eq_getElem?_getD, List.getElem?_eq_getElem q]
  rfl
theorem bels_drw (l : List Int) (t : Int) (n : Nat) : (Cell.lst [.fzl (l.map .int), .int t]).bel n = true := by
  simp [Cell.bel, D.bels, D.bel, bels_ints]
/-- a call that draws, and makes what it drops -/
theorem old_drw (l : List Int) (t t' : Nat) (R : Store) (i : Nat) : (drw l t' R)[i]? = (drw l t R)[i]? ∨ ∃ c, (drw l t' R)[i]? = some c ∧ c.bel (drw l t R).length = true := by
  match i with
  | 0 => exact .inr ⟨_, rfl, bels_drw _ _ _⟩
  | i + 1 => exact .inl rfl
theorem gc_drw (l : List Int) (t t' : Nat) (R G : Store) (v : D) (hv : v.bel (R.length + 1) = true) : gc (drw l t R) v (drw l t' R ++ G) = (v, drw l t' R) :=
  gc_app (drw l t R) (drw l t' R) G v hv rfl fun i _ => old_drw l t t' R i
theorem gc_drw0 (l : List Int) (t t' : Nat) (R : Store) (v : D) (hv : v.bel (R.length + 1) = true) : gc (drw l t R) v (drw l t' R) = (v, drw l t' R) := by
  have := gc_drw l t t' R [] v hv
  rwa [List.append_nil] at this
theorem draw_run (cl cl' : Cl) (hm : cl.fn "_law_mixed" = callB cl' f__law_mixed) (l : List Int) (t : Nat) (R : Store) :
    callB cl f__law_draw [.loc 0] (drw l t R) = some (.ok (.int (drawV l t)), drw l (t + 1) R) := by
  have hM : ∀ a b S, cl.fn "_law_mixed" [.int a, .int b] S = some (.ok (.int (mixed a b)), S) := by
    intro a b S
    rw [hm]
    exact mixed_run cl' a b S
  unfold drawV
  generalize mixed = mix at hM
  generalize hv : (if t < l.length then l.getD t 0 else mix (mix (if 0 < l.length then 1 + (t : Int) + 1009 * l.getD 0 0 else 1 + (t : Int)) t) 5 % 1000000) = v
  have hg := gc_drw0 l t (t + 1) R (.int v) rfl
  have h3 : i64 1009 = true := by decide
  rw [callB_of _ _ _ _ rfl (by decide)]
  show endC false _ (exSs cl f__law_draw.body [some (.loc 0), none, none] _) = _
  simp only [drw, Int.natCast_add, Int.natCast_one] at hg ⊢
  by_cases q : t < l.length
  · have q' : (t : Int) < (l.length : Int) := by omega
    rw [if_pos q] at hv
    subst hv
    simp only [f__law_draw, ↓ev_fld_at, ↓ev_meth_at, ↓ev_new_at, ↓ex_asgFld_at, methK_at, methK2_at, methK3_at, newK_at, newM_at, isNonM_at, asgFldK_at, asgFldK2_at, fldM_at, fldF, setFldM_at, setFldC, clsM_at, clsF, lookN, putFd, flOk, ↓for_at, forS_at, lcS_at, ↓ev_non_at, ↓ev_bl_at, ↓ev_int_at, ↓ev_str_at, ↓ev_var_at, ↓ev_glob_at, ↓ev_op_at, ↓ev_neg_at, ↓ev_cmp_at, ↓ev_chain_at, ↓ev_not_at, ↓ev_and_at, ↓ev_or_at, ↓ev_ite_at, ↓ev_tup_at, ↓ev_lst_at, ↓ev_flst_at, ↓ev_dct_at, ↓ev_fslice_at, ↓ev_lenset_at, flstK_at, fslK_at, fslK2_at, lcR_t, lcR_f, lcR_ex, ↓ex_augFld_at, augFldK_at, augFldK2_at, augFldK3_at, augFldK4_at, ↓ex_try_at, tryR_nx, tryR_rt, viewK_at, view_loc, view_non, view_bl, view_int, view_str, view_tup, view_fzl, view_fzd, view_fzo, viewC, indexM_at, indexF_tup, indexF_fzl, indexF_str, indexF_fzd, sliceM_at, sliceF_tup, sliceF_fzl, sliceF_str, sliceP_at, slicePF, eqK_at, eqK2_at, eqM_at, inM_at, inF, nbnK_at, cmp_eq_at, cmp_ne_at, cmp_in_at, cmp_nin_at, cmp_lt_at, cmp_le_at, cmp_gt_at, cmp_ge_at, cmp_is_at, cmp_isnt_at, addL_at, addI_at, lenM_at, lenF_str, lenF_tup, lenF_fzl, listM_at, flistM_at, tupleM_at, itemsF_tup, itemsF_fzl, lstF_fzl, sumK_at, sumK2_at, sumM_at, intsO_map, setIxM_at, setIxL_at, setIxD_at, putIxK_at, append_at, appC, dctU, lstU, someC, extend_at, extC, extF, pop_at, popC, popAt_at, popAtC_at, popAtK2_at, popAtK3_at, retKM_at, sdf_at, sdfC_at, sdfO_some, sdfO_none, get1_at, getF, isDct_at, isLst_at, isD_at, isDF, dict_at, dictC, truthy_loc, intF, max2F, min2F, endC_nx, endC_rt, endC_rtP, endC_ex, gc_bl, gc_int, gc_str, gc_non, ↓ev_ix_at, ↓ev_slice_at, ↓ev_call_at, ↓ev_bi_at, ↓ev_mt_at, ↓ev_isi_at, ↓ev_lc_at, ↓evs_nil_at, ↓evs_cons_at, ↓evo_none_at, ↓evo_some_at, ↓evc_nil_at, ↓evc_cons_at, ↓ex_asg_at, ↓ex_asgIx_at, ↓ex_aug_at, ↓ex_expr_at, ↓ex_ite_at, ↓ex_ret_at, ↓ex_retN_at, ↓ex_raise_at, ↓ex_brk_at, ↓ex_cont_at, ↓ex_pass_at, ↓ex_while_at, ↓exs_nil_at, ↓exs_cons_at, asgK_at, asgR_ok, goOn_at, augK1_at, augK2_at, augK3_at, asgIxK_at, asgIxK2_at, asgIxK3_at, blK_at, nbK_at, opK_at, cmpK_at, cmpK2_at, chK_at, chK2_at, chK3_t, chK3_f, notK_at, andK_at, andK2_t, andK2_f, orK_at, orK2_t, orK2_f, ifK_at, ifK2_t, ifK2_f, tupK_at, lstK_at, ixK_at, slK_at, slK2_at, mtK_at, mtK2_at, isiK_at, consK_at, consK2_at, csK_at, csK2_t, csK2_f, someK_at, eltK_t, eltK_f, oneK_at, oneL_at, seqK_at, iteK_t, iteK_f, retS_at, noexR_ok, negM, intM, ↓msB_at, ↓msS_at, msB_ok, msB_ex, msS_msS, msS_nx, msS_rt, msS_ex, msS_bk, msS_ct, truthy_non, truthy_bl, truthy_int, truthy_str, truthy_tup, truthy_fzl, ↓bnd_at, bndR_ok, bndR_ex, of_some, ret_at, binop, iopM, ↓need_at, bindT, bindTs, biM, get_at, put_at, new_at, ↓isi_cons_at, isi_nil_at, isiR_t, isiR_f, isTy_non, isTy_bl, isTy_int, isTy_str, isTy_tup, isTy_fzl, mtM, mtPre, upperM, isStr, itM, seq1, seqM_tup, seqM_fzl, seqM_scr, seqM_str, seqM_loc, lstS, rng1, rng2, D.isNon, D.flat, D.flats, D.deep, D.deeps, D.eqv, D.eqvs, Nat.zero_le, Nat.max_self, and_self, lt0, lt1, lt2, lt3, atI0, atI1, atI2, atI3, ixN0, ixN1, ixN2, ixN3, getc0, getc1, getc2, getc3, getc4, getc5, getc6, getc7, getc8, setc0, setc1, setc2, setc3, setc4, setc5, setc6, setc7, setc8, id, Option.join_some, Option.join, Option.bind, Option.map, List.map_cons, List.map_nil, List.length_map, List.length_cons, List.length_nil, List.getElem?_cons_zero, List.getElem?_cons_succ, List.set_cons_zero, List.set_cons_succ, Nat.zero_add, List.append_nil, List.nil_append, List.cons_append, Int.reducePow, Int.reduceToNat, Int.zero_add, Int.cast_ofNat_Int, decide_true, decide_false, Bool.not_true, Bool.not_false, Bool.and_self, Bool.true_and, Bool.false_and, Bool.and_true, Nat.zero_max, Nat.max_zero, if_true, if_false, ite_true, ite_false, reduceIte, reduceCtorEq, Bool.false_eq_true, Bool.true_eq_false, or_true, true_or, and_true, true_and, or_false, false_or, Nat.reduceLT, Nat.reduceAdd, Nat.reduceLeDiff, Int.reduceLT, Int.reduceLE, Int.reduceAdd, Nat.zero_lt_succ, beq_self_eq_true, decide_eq_true_eq, atI_int q, q', hg]
  · have q' : ¬ (t : Int) < (l.length : Int) := by omega
    rw [if_neg q] at hv
    by_cases z : 0 < l.length
    · have z' : (0 : Int) < (l.length : Int) := by omega
      have a0 : atI (l.map D.int) 0 = some (.int (l.getD 0 0)) := atI_int (t := 0) z
      rw [if_pos z] at hv
      subst hv
      simp only [f__law_draw, ↓ev_fld_at, ↓ev_meth_at, ↓ev_new_at, ↓ex_asgFld_at, methK_at, methK2_at, methK3_at, newK_at, newM_at, isNonM_at, asgFldK_at, asgFldK2_at, fldM_at, fldF, setFldM_at, setFldC, clsM_at, clsF, lookN, putFd, flOk, ↓for_at, forS_at, lcS_at, ↓ev_non_at, ↓ev_bl_at, ↓ev_int_at, ↓ev_str_at, ↓ev_var_at, ↓ev_glob_at, ↓ev_op_at, ↓ev_neg_at, ↓ev_cmp_at, ↓ev_chain_at, ↓ev_not_at, ↓ev_and_at, ↓ev_or_at, ↓ev_ite_at, ↓ev_tup_at, ↓ev_lst_at, ↓ev_flst_at, ↓ev_dct_at, ↓ev_fslice_at, ↓ev_lenset_at, flstK_at, fslK_at, fslK2_at, lcR_t, lcR_f, lcR_ex, ↓ex_augFld_at, augFldK_at, augFldK2_at, augFldK3_at, augFldK4_at, ↓ex_try_at, tryR_nx, tryR_rt, viewK_at, view_loc, view_non, view_bl, view_int, view_str, view_tup, view_fzl, view_fzd, view_fzo, viewC, indexM_at, indexF_tup, indexF_fzl, indexF_str, indexF_fzd, sliceM_at, sliceF_tup, sliceF_fzl, sliceF_str, sliceP_at, slicePF, eqK_at, eqK2_at, eqM_at, inM_at, inF, nbnK_at, cmp_eq_at, cmp_ne_at, cmp_in_at, cmp_nin_at, cmp_lt_at, cmp_le_at, cmp_gt_at, cmp_ge_at, cmp_is_at, cmp_isnt_at, addL_at, addI_at, lenM_at, lenF_str, lenF_tup, lenF_fzl, listM_at, flistM_at, tupleM_at, itemsF_tup, itemsF_fzl, lstF_fzl, sumK_at, sumK2_at, sumM_at, intsO_map, setIxM_at, setIxL_at, setIxD_at, putIxK_at, append_at, appC, dctU, lstU, someC, extend_at, extC, extF, pop_at, popC, popAt_at, popAtC_at, popAtK2_at, popAtK3_at, retKM_at, sdf_at, sdfC_at, sdfO_some, sdfO_none, get1_at, getF, isDct_at, isLst_at, isD_at, isDF, dict_at, dictC, truthy_loc, intF, max2F, min2F, endC_nx, endC_rt, endC_rtP, endC_ex, gc_bl, gc_int, gc_str, gc_non, ↓ev_ix_at, ↓ev_slice_at, ↓ev_call_at, ↓ev_bi_at, ↓ev_mt_at, ↓ev_isi_at, ↓ev_lc_at, ↓evs_nil_at, ↓evs_cons_at, ↓evo_none_at, ↓evo_some_at, ↓evc_nil_at, ↓evc_cons_at, ↓ex_asg_at, ↓ex_asgIx_at, ↓ex_aug_at, ↓ex_expr_at, ↓ex_ite_at, ↓ex_ret_at, ↓ex_retN_at, ↓ex_raise_at, ↓ex_brk_at, ↓ex_cont_at, ↓ex_pass_at, ↓ex_while_at, ↓exs_nil_at, ↓exs_cons_at, asgK_at, asgR_ok, goOn_at, augK1_at, augK2_at, augK3_at, asgIxK_at, asgIxK2_at, asgIxK3_at, blK_at, nbK_at, opK_at, cmpK_at, cmpK2_at, chK_at, chK2_at, chK3_t, chK3_f, notK_at, andK_at, andK2_t, andK2_f, orK_at, orK2_t, orK2_f, ifK_at, ifK2_t, ifK2_f, tupK_at, lstK_at, ixK_at, slK_at, slK2_at, mtK_at, mtK2_at, isiK_at, consK_at, consK2_at, csK_at, csK2_t, csK2_f, someK_at, eltK_t, eltK_f, oneK_at, oneL_at, seqK_at, iteK_t, iteK_f, retS_at, noexR_ok, negM, intM, ↓msB_at, ↓msS_at, msB_ok, msB_ex, msS_msS, msS_nx, msS_rt, msS_ex, msS_bk, msS_ct, truthy_non, truthy_bl, truthy_int, truthy_str, truthy_tup, truthy_fzl, ↓bnd_at, bndR_ok, bndR_ex, of_some, ret_at, binop, iopM, ↓need_at, bindT, bindTs, biM, get_at, put_at, new_at, ↓isi_cons_at, isi_nil_at, isiR_t, isiR_f, isTy_non, isTy_bl, isTy_int, isTy_str, isTy_tup, isTy_fzl, mtM, mtPre, upperM, isStr, itM, seq1, seqM_tup, seqM_fzl, seqM_scr, seqM_str, seqM_loc, lstS, rng1, rng2, D.isNon, D.flat, D.flats, D.deep, D.deeps, D.eqv, D.eqvs, Nat.zero_le, Nat.max_self, and_self, lt0, lt1, lt2, lt3, atI0, atI1, atI2, atI3, ixN0, ixN1, ixN2, ixN3, getc0, getc1, getc2, getc3, getc4, getc5, getc6, getc7, getc8, setc0, setc1, setc2, setc3, setc4, setc5, setc6, setc7, setc8, id, Option.join_some, Option.join, Option.bind, Option.map, List.map_cons, List.map_nil, List.length_map, List.length_cons, List.length_nil, List.getElem?_cons_zero, List.getElem?_cons_succ, List.set_cons_zero, List.set_cons_succ, Nat.zero_add, List.append_nil, List.nil_append, List.cons_append, Int.reducePow, Int.reduceToNat, Int.zero_add, Int.cast_ofNat_Int, decide_true, decide_false, Bool.not_true, Bool.not_false, Bool.and_self, Bool.true_and, Bool.false_and, Bool.and_true, Nat.zero_max, Nat.max_zero, if_true, if_false, ite_true, ite_false, reduceIte, reduceCtorEq, Bool.false_eq_true, Bool.true_eq_false, or_true, true_or, and_true, true_and, or_false, false_or, Nat.reduceLT, Nat.reduceAdd, Nat.reduceLeDiff, Int.reduceLT, Int.reduceLE, Int.reduceAdd, Nat.zero_lt_succ, beq_self_eq_true, decide_eq_true_eq, q', z', a0, h3, hM, hg]
    · have z' : ¬ (0 : Int) < (l.length : Int) := by omega
      rw [if_neg z] at hv
      subst hv
      simp only [f__law_draw, ↓ev_fld_at, ↓ev_meth_at, ↓ev_new_at, ↓ex_asgFld_at, methK_at, methK2_at, methK3_at, newK_at, newM_at, isNonM_at, asgFldK_at, asgFldK2_at, fldM_at, fldF, setFldM_at, setFldC, clsM_at, clsF, lookN, putFd, flOk, ↓for_at, forS_at, lcS_at, ↓ev_non_at, ↓ev_bl_at, ↓ev_int_at, ↓ev_str_at, ↓ev_var_at, ↓ev_glob_at, ↓ev_op_at, ↓ev_neg_at, ↓ev_cmp_at, ↓ev_chain_at, ↓ev_not_at, ↓ev_and_at, ↓ev_or_at, ↓ev_ite_at, ↓ev_tup_at, ↓ev_lst_at, ↓ev_flst_at, ↓ev_dct_at, ↓ev_fslice_at, ↓ev_lenset_at, flstK_at, fslK_at, fslK2_at, lcR_t, lcR_f, lcR_ex, ↓ex_augFld_at, augFldK_at, augFldK2_at, augFldK3_at, augFldK4_at, ↓ex_try_at, tryR_nx, tryR_rt, viewK_at, view_loc, view_non, view_bl, view_int, view_str, view_tup, view_fzl, view_fzd, view_fzo, viewC, indexM_at, indexF_tup, indexF_fzl, indexF_str, indexF_fzd, sliceM_at, sliceF_tup, sliceF_fzl, sliceF_str, sliceP_at, slicePF, eqK_at, eqK2_at, eqM_at, inM_at, inF, nbnK_at, cmp_eq_at, cmp_ne_at, cmp_in_at, cmp_nin_at, cmp_lt_at, cmp_le_at, cmp_gt_at, cmp_ge_at, cmp_is_at, cmp_isnt_at, addL_at, addI_at, lenM_at, lenF_str, lenF_tup, lenF_fzl, listM_at, flistM_at, tupleM_at, itemsF_tup, itemsF_fzl, lstF_fzl, sumK_at, sumK2_at, sumM_at, intsO_map, setIxM_at, setIxL_at, setIxD_at, putIxK_at, append_at, appC, dctU, lstU, someC, extend_at, extC, extF, pop_at, popC, popAt_at, popAtC_at, popAtK2_at, popAtK3_at, retKM_at, sdf_at, sdfC_at, sdfO_some, sdfO_none, get1_at, getF, isDct_at, isLst_at, isD_at, isDF, dict_at, dictC, truthy_loc, intF, max2F, min2F, endC_nx, endC_rt, endC_rtP, endC_ex, gc_bl, gc_int, gc_str, gc_non, ↓ev_ix_at, ↓ev_slice_at, ↓ev_call_at, ↓ev_bi_at, ↓ev_mt_at, ↓ev_isi_at, ↓ev_lc_at, ↓evs_nil_at, ↓evs_cons_at, ↓evo_none_at, ↓evo_some_at, ↓evc_nil_at, ↓evc_cons_at, ↓ex_asg_at, ↓ex_asgIx_at, ↓ex_aug_at, ↓ex_expr_at, ↓ex_ite_at, ↓ex_ret_at, ↓ex_retN_at, ↓ex_raise_at, ↓ex_brk_at, ↓ex_cont_at, ↓ex_pass_at, ↓ex_while_at, ↓exs_nil_at, ↓exs_cons_at, asgK_at, asgR_ok, goOn_at, augK1_at, augK2_at, augK3_at, asgIxK_at, asgIxK2_at, asgIxK3_at, blK_at, nbK_at, opK_at, cmpK_at, cmpK2_at, chK_at, chK2_at, chK3_t, chK3_f, notK_at, andK_at, andK2_t, andK2_f, orK_at, orK2_t, orK2_f, ifK_at, ifK2_t, ifK2_f, tupK_at, lstK_at, ixK_at, slK_at, slK2_at, mtK_at, mtK2_at, isiK_at, consK_at, consK2_at, csK_at, csK2_t, csK2_f, someK_at, eltK_t, eltK_f, oneK_at, oneL_at, seqK_at, iteK_t, iteK_f, retS_at, noexR_ok, negM, intM, ↓msB_at, ↓msS_at, msB_ok, msB_ex, msS_msS, msS_nx, msS_rt, msS_ex, msS_bk, msS_ct, truthy_non, truthy_bl, truthy_int, truthy_str, truthy_tup, truthy_fzl, ↓bnd_at, bndR_ok, bndR_ex, of_some, ret_at, binop, iopM, ↓need_at, bindT, bindTs, biM, get_at, put_at, new_at, ↓isi_cons_at, isi_nil_at, isiR_t, isiR_f, isTy_non, isTy_bl, isTy_int, isTy_str, isTy_tup, isTy_fzl, mtM, mtPre, upperM, isStr, itM, seq1, seqM_tup, seqM_fzl, seqM_scr, seqM_str, seqM_loc, lstS, rng1, rng2, D.isNon, D.flat, D.flats, D.deep, D.deeps, D.eqv, D.eqvs, Nat.zero_le, Nat.max_self, and_self, lt0, lt1, lt2, lt3, atI0, atI1, atI2, atI3, ixN0, ixN1, ixN2, ixN3, getc0, getc1, getc2, getc3, getc4, getc5, getc6, getc7, getc8, setc0, setc1, setc2, setc3, setc4, setc5, setc6, setc7, setc8, id, Option.join_some, Option.join, Option.bind, Option.map, List.map_cons, List.map_nil, List.length_map, List.length_cons, List.length_nil, List.getElem?_cons_zero, List.getElem?_cons_succ, List.set_cons_zero, List.set_cons_succ, Nat.zero_add, List.append_nil, List.nil_append, List.cons_append, Int.reducePow, Int.reduceToNat, Int.zero_add, Int.cast_ofNat_Int, decide_true, decide_false, Bool.not_true, Bool.not_false, Bool.and_self, Bool.true_and, Bool.false_and, Bool.and_true, Nat.zero_max, Nat.max_zero, if_true, if_false, ite_true, ite_false, reduceIte, reduceCtorEq, Bool.false_eq_true, Bool.true_eq_false, or_true, true_or, and_true, true_and, or_false, false_or, Nat.reduceLT, Nat.reduceAdd, Nat.reduceLeDiff, Int.reduceLT, Int.reduceLE, Int.reduceAdd, Nat.zero_lt_succ, beq_self_eq_true, decide_eq_true_eq, q', z', h3, hM, hg]

theorem numbers_run (cl cl' : Cl) (hm : cl.fn "_law_mixed" = callB cl' f__law_mixed) (ns : List Int) (hn : ns.length ≤ 63) :
    ∃ l : List Int, (∀ x ∈ l, 0 ≤ x) ∧ callB cl f__law_numbers [.scr (ns.map .int)] [] = some (.ok (.fzl (l.map .int)), []) := by
  have hM : ∀ a b S, cl.fn "_law_mixed" [.int a, .int b] S = some (.ok (.int (mixed a b)), S) := by
    intro a b S
    rw [hm]
    exact mixed_run cl' a b S
  have hz : ((10 : Int).natAbs < 2 ^ 64) = True := eq_true (by decide)
  have h60 : r62 60 = true := by decide
  have h5 : r62 5 = true := by decide
  have hpow : (10 : Int) ^ (18 : Int).toNat = 1000000000000000000 := by decide
  suffices h : ∃ o S', callB cl f__law_numbers [.scr (ns.map .int)] [] = some (o, S') ∧ ∃ l : List Int, (∀ x ∈ l, 0 ≤ x) ∧ o = .ok (.fzl (l.map .int)) ∧ S' = [] by
    obtain ⟨o, S', e, l, h1, rfl, rfl⟩ := h
    exact ⟨l, h1, e⟩
  generalize mixed = mix at hM
  apply call_wp rfl (by decide) rfl
  show Wp (exSs cl f__law_numbers.body [some (.scr (ns.map .int)), none, none, none, none] []) _
  simp only [f__law_numbers, ↓ev_fld_at, ↓ev_meth_at, ↓ev_new_at, ↓ex_asgFld_at, methK_at, methK2_at, methK3_at, newK_at, newM_at, isNonM_at, asgFldK_at, asgFldK2_at, fldM_at, fldF, setFldM_at, setFldC, clsM_at, clsF, lookN, putFd, flOk, ↓for_at, forS_at, lcS_at, ↓ev_non_at, ↓ev_bl_at, ↓ev_int_at, ↓ev_str_at, ↓ev_var_at, ↓ev_glob_at, ↓ev_op_at, ↓ev_neg_at, ↓ev_cmp_at, ↓ev_chain_at, ↓ev_not_at, ↓ev_and_at, ↓ev_or_at, ↓ev_ite_at, ↓ev_tup_at, ↓ev_lst_at, ↓ev_flst_at, ↓ev_dct_at, ↓ev_fslice_at, ↓ev_lenset_at, flstK_at, fslK_at, fslK2_at, lcR_t, lcR_f, lcR_ex, ↓ex_augFld_at, augFldK_at, augFldK2_at, augFldK3_at, augFldK4_at, ↓ex_try_at, tryR_nx, tryR_rt, viewK_at, view_loc, view_non, view_bl, view_int, view_str, view_tup, view_fzl, view_fzd, view_fzo, viewC, indexM_at, indexF_tup, indexF_fzl, indexF_str, indexF_fzd, sliceM_at, sliceF_tup, sliceF_fzl, sliceF_str, sliceP_at, slicePF, eqK_at, eqK2_at, eqM_at, inM_at, inF, nbnK_at, cmp_eq_at, cmp_ne_at, cmp_in_at, cmp_nin_at, cmp_lt_at, cmp_le_at, cmp_gt_at, cmp_ge_at, cmp_is_at, cmp_isnt_at, addL_at, addI_at, lenM_at, lenF_str, lenF_tup, lenF_fzl, listM_at, flistM_at, tupleM_at, itemsF_tup, itemsF_fzl, lstF_fzl, sumK_at, sumK2_at, sumM_at, intsO_map, setIxM_at, setIxL_at, setIxD_at, putIxK_at, append_at, appC, dctU, lstU, someC, extend_at, extC, extF, pop_at, popC, popAt_at, popAtC_at, popAtK2_at, popAtK3_at, retKM_at, sdf_at, sdfC_at, sdfO_some, sdfO_none, get1_at, getF, isDct_at, isLst_at, isD_at, isDF, dict_at, dictC, truthy_loc, intF, max2F, min2F, endC_nx, endC_rt, endC_rtP, endC_ex, gc_bl, gc_int, gc_str, gc_non, ↓ev_ix_at, ↓ev_slice_at, ↓ev_call_at, ↓ev_bi_at, ↓ev_mt_at, ↓ev_isi_at, ↓ev_lc_at, ↓evs_nil_at, ↓evs_cons_at, ↓evo_none_at, ↓evo_some_at, ↓evc_nil_at, ↓evc_cons_at, ↓ex_asg_at, ↓ex_asgIx_at, ↓ex_aug_at, ↓ex_expr_at, ↓ex_ite_at, ↓ex_ret_at, ↓ex_retN_at, ↓ex_raise_at, ↓ex_brk_at, ↓ex_cont_at, ↓ex_pass_at, ↓ex_while_at, ↓exs_nil_at, ↓exs_cons_at, asgK_at, asgR_ok, goOn_at, augK1_at, augK2_at, augK3_at, asgIxK_at, asgIxK2_at, asgIxK3_at, blK_at, nbK_at, opK_at, cmpK_at, cmpK2_at, chK_at, chK2_at, chK3_t, chK3_f, notK_at, andK_at, andK2_t, andK2_f, orK_at, orK2_t, orK2_f, ifK_at, ifK2_t, ifK2_f, tupK_at, lstK_at, ixK_at, slK_at, slK2_at, mtK_at, mtK2_at, isiK_at, consK_at, consK2_at, csK_at, csK2_t, csK2_f, someK_at, eltK_t, eltK_f, oneK_at, oneL_at, seqK_at, iteK_t, iteK_f, retS_at, noexR_ok, negM, intM, ↓msB_at, ↓msS_at, msB_ok, msB_ex, msS_msS, msS_nx, msS_rt, msS_ex, msS_bk, msS_ct, truthy_non, truthy_bl, truthy_int, truthy_str, truthy_tup, truthy_fzl, ↓bnd_at, bndR_ok, bndR_ex, of_some, ret_at, binop, iopM, ↓need_at, bindT, bindTs, biM, get_at, put_at, new_at, ↓isi_cons_at, isi_nil_at, isiR_t, isiR_f, isTy_non, isTy_bl, isTy_int, isTy_str, isTy_tup, isTy_fzl, mtM, mtPre, upperM, isStr, itM, seq1, seqM_tup, seqM_fzl, seqM_scr, seqM_str, seqM_loc, lstS, rng1, rng2, D.isNon, D.flat, D.flats, D.deep, D.deeps, D.eqv, D.eqvs, Nat.zero_le, Nat.max_self, and_self, lt0, lt1, lt2, lt3, atI0, atI1, atI2, atI3, ixN0, ixN1, ixN2, ixN3, getc0, getc1, getc2, getc3, getc4, getc5, getc6, getc7, getc8, setc0, setc1, setc2, setc3, setc4, setc5, setc6, setc7, setc8, id, Option.join_some, Option.join, Option.bind, Option.map, List.map_cons, List.map_nil, List.length_map, List.length_cons, List.length_nil, List.getElem?_cons_zero, List.getElem?_cons_succ, List.set_cons_zero, List.set_cons_succ, Nat.zero_add, List.append_nil, List.nil_append, List.cons_append, Int.reducePow, Int.reduceToNat, Int.zero_add, Int.cast_ofNat_Int, decide_true, decide_false, Bool.not_true, Bool.not_false, Bool.and_self, Bool.true_and, Bool.false_and, Bool.and_true, Nat.zero_max, Nat.max_zero, if_true, if_false, ite_true, ite_false, reduceIte, reduceCtorEq, Bool.false_eq_true, Bool.true_eq_false, or_true, true_or, and_true, true_and, or_false, false_or, Nat.reduceLT, Nat.reduceAdd, Nat.reduceLeDiff, Int.reduceLT, Int.reduceLE, Int.reduceAdd, Nat.zero_lt_succ, beq_self_eq_true, decide_eq_true_eq, List.nil_append]
  have hP : ∀ (l : List Int) (m : Nat), l.length ≤ 60 * 63 + 60 → l.length < szl := by
    intro l _ h
    show l.length < 16777216
    omega
  refine wp_for (P := fun k ρ S => ∃ (l : List Int) (c r q : Option D), (∀ x ∈ l, 0 ≤ x) ∧ l.length ≤ 60 * k ∧ ρ = [some (.scr (ns.map .int)), some (.loc 0), c, r, q] ∧ S = [.lst (l.map .int)]) (B := fun _ _ => False) ⟨[], none, none, none, by simp, by simp, rfl, rfl⟩ (by intros; rfl) ?_ ?_
  · rintro k x ρ S hx ⟨l, c, r, q, h1, h2, rfl, rfl⟩
    have hk : k < ns.length := by
      rcases Nat.lt_or_ge k ns.length with z | z
      · exact z
      · rw [List.getElem?_eq_none (by simpa using z)] at hx
        cases hx
    obtain ⟨i, rfl⟩ : ∃ i, x = .int i := by
      rw [List.getElem?_map, List.getElem?_eq_getElem hk] at hx
      exact ⟨_, (Option.some.inj hx).symm⟩
    refine ⟨[some (.scr (ns.map .int)), some (.loc 0), some (.int i), r, q], rfl, ?_⟩
    by_cases hi : 1000000000000000000 ≤ i
    · simp only [↓ev_fld_at, ↓ev_meth_at, ↓ev_new_at, ↓ex_asgFld_at, methK_at, methK2_at, methK3_at, newK_at, newM_at, isNonM_at, asgFldK_at, asgFldK2_at, fldM_at, fldF, setFldM_at, setFldC, clsM_at, clsF, lookN, putFd, flOk, ↓for_at, forS_at, lcS_at, ↓ev_non_at, ↓ev_bl_at, ↓ev_int_at, ↓ev_str_at, ↓ev_var_at, ↓ev_glob_at, ↓ev_op_at, ↓ev_neg_at, ↓ev_cmp_at, ↓ev_chain_at, ↓ev_not_at, ↓ev_and_at, ↓ev_or_at, ↓ev_ite_at, ↓ev_tup_at, ↓ev_lst_at, ↓ev_flst_at, ↓ev_dct_at, ↓ev_fslice_at, ↓ev_lenset_at, flstK_at, fslK_at, fslK2_at, lcR_t, lcR_f, lcR_ex, ↓ex_augFld_at, augFldK_at, augFldK2_at, augFldK3_at, augFldK4_at, ↓ex_try_at, tryR_nx, tryR_rt, viewK_at, view_loc, view_non, view_bl, view_int, view_str, view_tup, view_fzl, view_fzd, view_fzo, viewC, indexM_at, indexF_tup, indexF_fzl, indexF_str, indexF_fzd, sliceM_at, sliceF_tup, sliceF_fzl, sliceF_str, sliceP_at, slicePF, eqK_at, eqK2_at, eqM_at, inM_at, inF, nbnK_at, cmp_eq_at, cmp_ne_at, cmp_in_at, cmp_nin_at, cmp_lt_at, cmp_le_at, cmp_gt_at, cmp_ge_at, cmp_is_at, cmp_isnt_at, addL_at, addI_at, lenM_at, lenF_str, lenF_tup, lenF_fzl, listM_at, flistM_at, tupleM_at, itemsF_tup, itemsF_fzl, lstF_fzl, sumK_at, sumK2_at, sumM_at, intsO_map, setIxM_at, setIxL_at, setIxD_at, putIxK_at, append_at, appC, dctU, lstU, someC, extend_at, extC, extF, pop_at, popC, popAt_at, popAtC_at, popAtK2_at, popAtK3_at, retKM_at, sdf_at, sdfC_at, sdfO_some, sdfO_none, get1_at, getF, isDct_at, isLst_at, isD_at, isDF, dict_at, dictC, truthy_loc, intF, max2F, min2F, endC_nx, endC_rt, endC_rtP, endC_ex, gc_bl, gc_int, gc_str, gc_non, ↓ev_ix_at, ↓ev_slice_at, ↓ev_call_at, ↓ev_bi_at, ↓ev_mt_at, ↓ev_isi_at, ↓ev_lc_at, ↓evs_nil_at, ↓evs_cons_at, ↓evo_none_at, ↓evo_some_at, ↓evc_nil_at, ↓evc_cons_at, ↓ex_asg_at, ↓ex_asgIx_at, ↓ex_aug_at, ↓ex_expr_at, ↓ex_ite_at, ↓ex_ret_at, ↓ex_retN_at, ↓ex_raise_at, ↓ex_brk_at, ↓ex_cont_at, ↓ex_pass_at, ↓ex_while_at, ↓exs_nil_at, ↓exs_cons_at, asgK_at, asgR_ok, goOn_at, augK1_at, augK2_at, augK3_at, asgIxK_at, asgIxK2_at, asgIxK3_at, blK_at, nbK_at, opK_at, cmpK_at, cmpK2_at, chK_at, chK2_at, chK3_t, chK3_f, notK_at, andK_at, andK2_t, andK2_f, orK_at, orK2_t, orK2_f, ifK_at, ifK2_t, ifK2_f, tupK_at, lstK_at, ixK_at, slK_at, slK2_at, mtK_at, mtK2_at, isiK_at, consK_at, consK2_at, csK_at, csK2_t, csK2_f, someK_at, eltK_t, eltK_f, oneK_at, oneL_at, seqK_at, iteK_t, iteK_f, retS_at, noexR_ok, negM, intM, ↓msB_at, ↓msS_at, msB_ok, msB_ex, msS_msS, msS_nx, msS_rt, msS_ex, msS_bk, msS_ct, truthy_non, truthy_bl, truthy_int, truthy_str, truthy_tup, truthy_fzl, ↓bnd_at, bndR_ok, bndR_ex, of_some, ret_at, binop, iopM, ↓need_at, bindT, bindTs, biM, get_at, put_at, new_at, ↓isi_cons_at, isi_nil_at, isiR_t, isiR_f, isTy_non, isTy_bl, isTy_int, isTy_str, isTy_tup, isTy_fzl, mtM, mtPre, upperM, isStr, itM, seq1, seqM_tup, seqM_fzl, seqM_scr, seqM_str, seqM_loc, lstS, rng1, rng2, D.isNon, D.flat, D.flats, D.deep, D.deeps, D.eqv, D.eqvs, Nat.zero_le, Nat.max_self, and_self, lt0, lt1, lt2, lt3, atI0, atI1, atI2, atI3, ixN0, ixN1, ixN2, ixN3, getc0, getc1, getc2, getc3, getc4, getc5, getc6, getc7, getc8, setc0, setc1, setc2, setc3, setc4, setc5, setc6, setc7, setc8, id, Option.join_some, Option.join, Option.bind, Option.map, List.map_cons, List.map_nil, List.length_map, List.length_cons, List.length_nil, List.getElem?_cons_zero, List.getElem?_cons_succ, List.set_cons_zero, List.set_cons_succ, Nat.zero_add, List.append_nil, List.nil_append, List.cons_append, Int.reducePow, Int.reduceToNat, Int.zero_add, Int.cast_ofNat_Int, decide_true, decide_false, Bool.not_true, Bool.not_false, Bool.and_self, Bool.true_and, Bool.false_and, Bool.and_true, Nat.zero_max, Nat.max_zero, if_true, if_false, ite_true, ite_false, reduceIte, reduceCtorEq, Bool.false_eq_true, Bool.true_eq_false, or_true, true_or, and_true, true_and, or_false, false_or, Nat.reduceLT, Nat.reduceAdd, Nat.reduceLeDiff, Int.reduceLT, Int.reduceLE, Int.reduceAdd, Nat.zero_lt_succ, beq_self_eq_true, decide_eq_true_eq, hz, hpow, hi, h60]
      refine wp_for (P := fun j ρ S => ∃ (l : List Int) (r : Int) (q : Option D), (∀ x ∈ l, 0 ≤ x) ∧ l.length ≤ 60 * k + j ∧ ρ = [some (.scr (ns.map .int)), some (.loc 0), some (.int i), some (.int r), q] ∧ S = [.lst (l.map .int)]) (B := fun _ _ => False) ⟨l, i, q, h1, h2, rfl, rfl⟩ (by intros; rfl) ?_ ?_
      · rintro j x ρ S hx ⟨l, r, q, h1, h2, rfl, rfl⟩
        obtain ⟨hj, rfl⟩ := rangeD_at hx
        refine ⟨[some (.scr (ns.map .int)), some (.loc 0), some (.int i), some (.int r), some (.int (0 + (j : Int)))], rfl, ?_⟩
        by_cases hr : 0 < r
        · have hl : l.length < szl := hP l 0 (by have : (60 : Int).toNat = 60 := rfl; omega)
          simp only [↓ev_fld_at, ↓ev_meth_at, ↓ev_new_at, ↓ex_asgFld_at, methK_at, methK2_at, methK3_at, newK_at, newM_at, isNonM_at, asgFldK_at, asgFldK2_at, fldM_at, fldF, setFldM_at, setFldC, clsM_at, clsF, lookN, putFd, flOk, ↓for_at, forS_at, lcS_at, ↓ev_non_at, ↓ev_bl_at, ↓ev_int_at, ↓ev_str_at, ↓ev_var_at, ↓ev_glob_at, ↓ev_op_at, ↓ev_neg_at, ↓ev_cmp_at, ↓ev_chain_at, ↓ev_not_at, ↓ev_and_at, ↓ev_or_at, ↓ev_ite_at, ↓ev_tup_at, ↓ev_lst_at, ↓ev_flst_at, ↓ev_dct_at, ↓ev_fslice_at, ↓ev_lenset_at, flstK_at, fslK_at, fslK2_at, lcR_t, lcR_f, lcR_ex, ↓ex_augFld_at, augFldK_at, augFldK2_at, augFldK3_at, augFldK4_at, ↓ex_try_at, tryR_nx, tryR_rt, viewK_at, view_loc, view_non, view_bl, view_int, view_str, view_tup, view_fzl, view_fzd, view_fzo, viewC, indexM_at, indexF_tup, indexF_fzl, indexF_str, indexF_fzd, sliceM_at, sliceF_tup, sliceF_fzl, sliceF_str, sliceP_at, slicePF, eqK_at, eqK2_at, eqM_at, inM_at, inF, nbnK_at, cmp_eq_at, cmp_ne_at, cmp_in_at, cmp_nin_at, cmp_lt_at, cmp_le_at, cmp_gt_at, cmp_ge_at, cmp_is_at, cmp_isnt_at, addL_at, addI_at, lenM_at, lenF_str, lenF_tup, lenF_fzl, listM_at, flistM_at, tupleM_at, itemsF_tup, itemsF_fzl, lstF_fzl, sumK_at, sumK2_at, sumM_at, intsO_map, setIxM_at, setIxL_at, setIxD_at, putIxK_at, append_at, appC, dctU, lstU, someC, extend_at, extC, extF, pop_at, popC, popAt_at, popAtC_at, popAtK2_at, popAtK3_at, retKM_at, sdf_at, sdfC_at, sdfO_some, sdfO_none, get1_at, getF, isDct_at, isLst_at, isD_at, isDF, dict_at, dictC, truthy_loc, intF, max2F, min2F, endC_nx, endC_rt, endC_rtP, endC_ex, gc_bl, gc_int, gc_str, gc_non, ↓ev_ix_at, ↓ev_slice_at, ↓ev_call_at, ↓ev_bi_at, ↓ev_mt_at, ↓ev_isi_at, ↓ev_lc_at, ↓evs_nil_at, ↓evs_cons_at, ↓evo_none_at, ↓evo_some_at, ↓evc_nil_at, ↓evc_cons_at, ↓ex_asg_at, ↓ex_asgIx_at, ↓ex_aug_at, ↓ex_expr_at, ↓ex_ite_at, ↓ex_ret_at, ↓ex_retN_at, ↓ex_raise_at, ↓ex_brk_at, ↓ex_cont_at, ↓ex_pass_at, ↓ex_while_at, ↓exs_nil_at, ↓exs_cons_at, asgK_at, asgR_ok, goOn_at, augK1_at, augK2_at, augK3_at, asgIxK_at, asgIxK2_at, asgIxK3_at, blK_at, nbK_at, opK_at, cmpK_at, cmpK2_at, chK_at, chK2_at, chK3_t, chK3_f, notK_at, andK_at, andK2_t, andK2_f, orK_at, orK2_t, orK2_f, ifK_at, ifK2_t, ifK2_f, tupK_at, lstK_at, ixK_at, slK_at, slK2_at, mtK_at, mtK2_at, isiK_at, consK_at, consK2_at, csK_at, csK2_t, csK2_f, someK_at, eltK_t, eltK_f, oneK_at, oneL_at, seqK_at, iteK_t, iteK_f, retS_at, noexR_ok, negM, intM, ↓msB_at, ↓msS_at, msB_ok, msB_ex, msS_msS, msS_nx, msS_rt, msS_ex, msS_bk, msS_ct, truthy_non, truthy_bl, truthy_int, truthy_str, truthy_tup, truthy_fzl, ↓bnd_at, bndR_ok, bndR_ex, of_some, ret_at, binop, iopM, ↓need_at, bindT, bindTs, biM, get_at, put_at, new_at, ↓isi_cons_at, isi_nil_at, isiR_t, isiR_f, isTy_non, isTy_bl, isTy_int, isTy_str, isTy_tup, isTy_fzl, mtM, mtPre, upperM, isStr, itM, seq1, seqM_tup, seqM_fzl, seqM_scr, seqM_str, seqM_loc, lstS, rng1, rng2, D.isNon, D.flat, D.flats, D.deep, D.deeps, D.eqv, D.eqvs, Nat.zero_le, Nat.max_self, and_self, lt0, lt1, lt2, lt3, atI0, atI1, atI2, atI3, ixN0, ixN1, ixN2, ixN3, getc0, getc1, getc2, getc3, getc4, getc5, getc6, getc7, getc8, setc0, setc1, setc2, setc3, setc4, setc5, setc6, setc7, setc8, id, Option.join_some, Option.join, Option.bind, Option.map, List.map_cons, List.map_nil, List.length_map, List.length_cons, List.length_nil, List.getElem?_cons_zero, List.getElem?_cons_succ, List.set_cons_zero, List.set_cons_succ, Nat.zero_add, List.append_nil, List.nil_append, List.cons_append, Int.reducePow, Int.reduceToNat, Int.zero_add, Int.cast_ofNat_Int, decide_true, decide_false, Bool.not_true, Bool.not_false, Bool.and_self, Bool.true_and, Bool.false_and, Bool.and_true, Nat.zero_max, Nat.max_zero, if_true, if_false, ite_true, ite_false, reduceIte, reduceCtorEq, Bool.false_eq_true, Bool.true_eq_false, or_true, true_or, and_true, true_and, or_false, false_or, Nat.reduceLT, Nat.reduceAdd, Nat.reduceLeDiff, Int.reduceLT, Int.reduceLE, Int.reduceAdd, Nat.zero_lt_succ, beq_self_eq_true, decide_eq_true_eq, hr, hl, wp_some, turn_nx]
          refine ⟨l ++ [r % 1000000], r / 1000000, _, ?_, ?_, rfl, ?_⟩
          · intro x hx
            rcases List.mem_append.1 hx with hx | hx
            · exact h1 x hx
            · rw [List.mem_singleton.1 hx]
              exact Int.emod_nonneg _ (by decide)
          · simp
            omega
          · simp
        · simp only [↓ev_fld_at, ↓ev_meth_at, ↓ev_new_at, ↓ex_asgFld_at, methK_at, methK2_at, methK3_at, newK_at, newM_at, isNonM_at, asgFldK_at, asgFldK2_at, fldM_at, fldF, setFldM_at, setFldC, clsM_at, clsF, lookN, putFd, flOk, ↓for_at, forS_at, lcS_at, ↓ev_non_at, ↓ev_bl_at, ↓ev_int_at, ↓ev_str_at, ↓ev_var_at, ↓ev_glob_at, ↓ev_op_at, ↓ev_neg_at, ↓ev_cmp_at, ↓ev_chain_at, ↓ev_not_at, ↓ev_and_at, ↓ev_or_at, ↓ev_ite_at, ↓ev_tup_at, ↓ev_lst_at, ↓ev_flst_at, ↓ev_dct_at, ↓ev_fslice_at, ↓ev_lenset_at, flstK_at, fslK_at, fslK2_at, lcR_t, lcR_f, lcR_ex, ↓ex_augFld_at, augFldK_at, augFldK2_at, augFldK3_at, augFldK4_at, ↓ex_try_at, tryR_nx, tryR_rt, viewK_at, view_loc, view_non, view_bl, view_int, view_str, view_tup, view_fzl, view_fzd, view_fzo, viewC, indexM_at, indexF_tup, indexF_fzl, indexF_str, indexF_fzd, sliceM_at, sliceF_tup, sliceF_fzl, sliceF_str, sliceP_at, slicePF, eqK_at, eqK2_at, eqM_at, inM_at, inF, nbnK_at, cmp_eq_at, cmp_ne_at, cmp_in_at, cmp_nin_at, cmp_lt_at, cmp_le_at, cmp_gt_at, cmp_ge_at, cmp_is_at, cmp_isnt_at, addL_at, addI_at, lenM_at, lenF_str, lenF_tup, lenF_fzl, listM_at, flistM_at, tupleM_at, itemsF_tup, itemsF_fzl, lstF_fzl, sumK_at, sumK2_at, sumM_at, intsO_map, setIxM_at, setIxL_at, setIxD_at, putIxK_at, append_at, appC, dctU, lstU, someC, extend_at, extC, extF, pop_at, popC, popAt_at, popAtC_at, popAtK2_at, popAtK3_at, retKM_at, sdf_at, sdfC_at, sdfO_some, sdfO_none, get1_at, getF, isDct_at, isLst_at, isD_at, isDF, dict_at, dictC, truthy_loc, intF, max2F, min2F, endC_nx, endC_rt, endC_rtP, endC_ex, gc_bl, gc_int, gc_str, gc_non, ↓ev_ix_at, ↓ev_slice_at, ↓ev_call_at, ↓ev_bi_at, ↓ev_mt_at, ↓ev_isi_at, ↓ev_lc_at, ↓evs_nil_at, ↓evs_cons_at, ↓evo_none_at, ↓evo_some_at, ↓evc_nil_at, ↓evc_cons_at, ↓ex_asg_at, ↓ex_asgIx_at, ↓ex_aug_at, ↓ex_expr_at, ↓ex_ite_at, ↓ex_ret_at, ↓ex_retN_at, ↓ex_raise_at, ↓ex_brk_at, ↓ex_cont_at, ↓ex_pass_at, ↓ex_while_at, ↓exs_nil_at, ↓exs_cons_at, asgK_at, asgR_ok, goOn_at, augK1_at, augK2_at, augK3_at, asgIxK_at, asgIxK2_at, asgIxK3_at, blK_at, nbK_at, opK_at, cmpK_at, cmpK2_at, chK_at, chK2_at, chK3_t, chK3_f, notK_at, andK_at, andK2_t, andK2_f, orK_at, orK2_t, orK2_f, ifK_at, ifK2_t, ifK2_f, tupK_at, lstK_at, ixK_at, slK_at, slK2_at, mtK_at, mtK2_at, isiK_at, consK_at, consK2_at, csK_at, csK2_t, csK2_f, someK_at, eltK_t, eltK_f, oneK_at, oneL_at, seqK_at, iteK_t, iteK_f, retS_at, noexR_ok, negM, intM, ↓msB_at, ↓msS_at, msB_ok, msB_ex, msS_msS, msS_nx, msS_rt, msS_ex, msS_bk, msS_ct, truthy_non, truthy_bl, truthy_int, truthy_str, truthy_tup, truthy_fzl, ↓bnd_at, bndR_ok, bndR_ex, of_some, ret_at, binop, iopM, ↓need_at, bindT, bindTs, biM, get_at, put_at, new_at, ↓isi_cons_at, isi_nil_at, isiR_t, isiR_f, isTy_non, isTy_bl, isTy_int, isTy_str, isTy_tup, isTy_fzl, mtM, mtPre, upperM, isStr, itM, seq1, seqM_tup, seqM_fzl, seqM_scr, seqM_str, seqM_loc, lstS, rng1, rng2, D.isNon, D.flat, D.flats, D.deep, D.deeps, D.eqv, D.eqvs, Nat.zero_le, Nat.max_self, and_self, lt0, lt1, lt2, lt3, atI0, atI1, atI2, atI3, ixN0, ixN1, ixN2, ixN3, getc0, getc1, getc2, getc3, getc4, getc5, getc6, getc7, getc8, setc0, setc1, setc2, setc3, setc4, setc5, setc6, setc7, setc8, id, Option.join_some, Option.join, Option.bind, Option.map, List.map_cons, List.map_nil, List.length_map, List.length_cons, List.length_nil, List.getElem?_cons_zero, List.getElem?_cons_succ, List.set_cons_zero, List.set_cons_succ, Nat.zero_add, List.append_nil, List.nil_append, List.cons_append, Int.reducePow, Int.reduceToNat, Int.zero_add, Int.cast_ofNat_Int, decide_true, decide_false, Bool.not_true, Bool.not_false, Bool.and_self, Bool.true_and, Bool.false_and, Bool.and_true, Nat.zero_max, Nat.max_zero, if_true, if_false, ite_true, ite_false, reduceIte, reduceCtorEq, Bool.false_eq_true, Bool.true_eq_false, or_true, true_or, and_true, true_and, or_false, false_or, Nat.reduceLT, Nat.reduceAdd, Nat.reduceLeDiff, Int.reduceLT, Int.reduceLE, Int.reduceAdd, Nat.zero_lt_succ, beq_self_eq_true, decide_eq_true_eq, hr, wp_some, turn_nx]
          exact ⟨l, r, _, h1, by omega, rfl, rfl⟩
      · rintro ρ S (⟨⟨⟩⟩ | ⟨l, r, q, h1, h2, rfl, rfl⟩)
        simp only [↓ev_fld_at, ↓ev_meth_at, ↓ev_new_at, ↓ex_asgFld_at, methK_at, methK2_at, methK3_at, newK_at, newM_at, isNonM_at, asgFldK_at, asgFldK2_at, fldM_at, fldF, setFldM_at, setFldC, clsM_at, clsF, lookN, putFd, flOk, ↓for_at, forS_at, lcS_at, ↓ev_non_at, ↓ev_bl_at, ↓ev_int_at, ↓ev_str_at, ↓ev_var_at, ↓ev_glob_at, ↓ev_op_at, ↓ev_neg_at, ↓ev_cmp_at, ↓ev_chain_at, ↓ev_not_at, ↓ev_and_at, ↓ev_or_at, ↓ev_ite_at, ↓ev_tup_at, ↓ev_lst_at, ↓ev_flst_at, ↓ev_dct_at, ↓ev_fslice_at, ↓ev_lenset_at, flstK_at, fslK_at, fslK2_at, lcR_t, lcR_f, lcR_ex, ↓ex_augFld_at, augFldK_at, augFldK2_at, augFldK3_at, augFldK4_at, ↓ex_try_at, tryR_nx, tryR_rt, viewK_at, view_loc, view_non, view_bl, view_int, view_str, view_tup, view_fzl, view_fzd, view_fzo, viewC, indexM_at, indexF_tup, indexF_fzl, indexF_str, indexF_fzd, sliceM_at, sliceF_tup, sliceF_fzl, sliceF_str, sliceP_at, slicePF, eqK_at, eqK2_at, eqM_at, inM_at, inF, nbnK_at, cmp_eq_at, cmp_ne_at, cmp_in_at, cmp_nin_at, cmp_lt_at, cmp_le_at, cmp_gt_at, cmp_ge_at, cmp_is_at, cmp_isnt_at, addL_at, addI_at, lenM_at, lenF_str, lenF_tup, lenF_fzl, listM_at, flistM_at, tupleM_at, itemsF_tup, itemsF_fzl, lstF_fzl, sumK_at, sumK2_at, sumM_at, intsO_map, setIxM_at, setIxL_at, setIxD_at, putIxK_at, append_at, appC, dctU, lstU, someC, extend_at, extC, extF, pop_at, popC, popAt_at, popAtC_at, popAtK2_at, popAtK3_at, retKM_at, sdf_at, sdfC_at, sdfO_some, sdfO_none, get1_at, getF, isDct_at, isLst_at, isD_at, isDF, dict_at, dictC, truthy_loc, intF, max2F, min2F, endC_nx, endC_rt, endC_rtP, endC_ex, gc_bl, gc_int, gc_str, gc_non, ↓ev_ix_at, ↓ev_slice_at, ↓ev_call_at, ↓ev_bi_at, ↓ev_mt_at, ↓ev_isi_at, ↓ev_lc_at, ↓evs_nil_at, ↓evs_cons_at, ↓evo_none_at, ↓evo_some_at, ↓evc_nil_at, ↓evc_cons_at, ↓ex_asg_at, ↓ex_asgIx_at, ↓ex_aug_at, ↓ex_expr_at, ↓ex_ite_at, ↓ex_ret_at, ↓ex_retN_at, ↓ex_raise_at, ↓ex_brk_at, ↓ex_cont_at, ↓ex_pass_at, ↓ex_while_at, ↓exs_nil_at, ↓exs_cons_at, asgK_at, asgR_ok, goOn_at, augK1_at, augK2_at, augK3_at, asgIxK_at, asgIxK2_at, asgIxK3_at, blK_at, nbK_at, opK_at, cmpK_at, cmpK2_at, chK_at, chK2_at, chK3_t, chK3_f, notK_at, andK_at, andK2_t, andK2_f, orK_at, orK2_t, orK2_f, ifK_at, ifK2_t, ifK2_f, tupK_at, lstK_at, ixK_at, slK_at, slK2_at, mtK_at, mtK2_at, isiK_at, consK_at, consK2_at, csK_at, csK2_t, csK2_f, someK_at, eltK_t, eltK_f, oneK_at, oneL_at, seqK_at, iteK_t, iteK_f, retS_at, noexR_ok, negM, intM, ↓msB_at, ↓msS_at, msB_ok, msB_ex, msS_msS, msS_nx, msS_rt, msS_ex, msS_bk, msS_ct, truthy_non, truthy_bl, truthy_int, truthy_str, truthy_tup, truthy_fzl, ↓bnd_at, bndR_ok, bndR_ex, of_some, ret_at, binop, iopM, ↓need_at, bindT, bindTs, biM, get_at, put_at, new_at, ↓isi_cons_at, isi_nil_at, isiR_t, isiR_f, isTy_non, isTy_bl, isTy_int, isTy_str, isTy_tup, isTy_fzl, mtM, mtPre, upperM, isStr, itM, seq1, seqM_tup, seqM_fzl, seqM_scr, seqM_str, seqM_loc, lstS, rng1, rng2, D.isNon, D.flat, D.flats, D.deep, D.deeps, D.eqv, D.eqvs, Nat.zero_le, Nat.max_self, and_self, lt0, lt1, lt2, lt3, atI0, atI1, atI2, atI3, ixN0, ixN1, ixN2, ixN3, getc0, getc1, getc2, getc3, getc4, getc5, getc6, getc7, getc8, setc0, setc1, setc2, setc3, setc4, setc5, setc6, setc7, setc8, id, Option.join_some, Option.join, Option.bind, Option.map, List.map_cons, List.map_nil, List.length_map, List.length_cons, List.length_nil, List.getElem?_cons_zero, List.getElem?_cons_succ, List.set_cons_zero, List.set_cons_succ, Nat.zero_add, List.append_nil, List.nil_append, List.cons_append, Int.reducePow, Int.reduceToNat, Int.zero_add, Int.cast_ofNat_Int, decide_true, decide_false, Bool.not_true, Bool.not_false, Bool.and_self, Bool.true_and, Bool.false_and, Bool.and_true, Nat.zero_max, Nat.max_zero, if_true, if_false, ite_true, ite_false, reduceIte, reduceCtorEq, Bool.false_eq_true, Bool.true_eq_false, or_true, true_or, and_true, true_and, or_false, false_or, Nat.reduceLT, Nat.reduceAdd, Nat.reduceLeDiff, Int.reduceLT, Int.reduceLE, Int.reduceAdd, Nat.zero_lt_succ, beq_self_eq_true, decide_eq_true_eq, wp_some, turn_nx]
        exact ⟨l, _, _, _, h1, by rw [rangeD_len] at h2; have : (60 : Int).toNat = 60 := rfl; omega, rfl, rfl⟩
    · have hl : l.length < szl := hP l 0 (by omega)
      simp only [↓ev_fld_at, ↓ev_meth_at, ↓ev_new_at, ↓ex_asgFld_at, methK_at, methK2_at, methK3_at, newK_at, newM_at, isNonM_at, asgFldK_at, asgFldK2_at, fldM_at, fldF, setFldM_at, setFldC, clsM_at, clsF, lookN, putFd, flOk, ↓for_at, forS_at, lcS_at, ↓ev_non_at, ↓ev_bl_at, ↓ev_int_at, ↓ev_str_at, ↓ev_var_at, ↓ev_glob_at, ↓ev_op_at, ↓ev_neg_at, ↓ev_cmp_at, ↓ev_chain_at, ↓ev_not_at, ↓ev_and_at, ↓ev_or_at, ↓ev_ite_at, ↓ev_tup_at, ↓ev_lst_at, ↓ev_flst_at, ↓ev_dct_at, ↓ev_fslice_at, ↓ev_lenset_at, flstK_at, fslK_at, fslK2_at, lcR_t, lcR_f, lcR_ex, ↓ex_augFld_at, augFldK_at, augFldK2_at, augFldK3_at, augFldK4_at, ↓ex_try_at, tryR_nx, tryR_rt, viewK_at, view_loc, view_non, view_bl, view_int, view_str, view_tup, view_fzl, view_fzd, view_fzo, viewC, indexM_at, indexF_tup, indexF_fzl, indexF_str, indexF_fzd, sliceM_at, sliceF_tup, sliceF_fzl, sliceF_str, sliceP_at, slicePF, eqK_at, eqK2_at, eqM_at, inM_at, inF, nbnK_at, cmp_eq_at, cmp_ne_at, cmp_in_at, cmp_nin_at, cmp_lt_at, cmp_le_at, cmp_gt_at, cmp_ge_at, cmp_is_at, cmp_isnt_at, addL_at, addI_at, lenM_at, lenF_str, lenF_tup, lenF_fzl, listM_at, flistM_at, tupleM_at, itemsF_tup, itemsF_fzl, lstF_fzl, sumK_at, sumK2_at, sumM_at, intsO_map, setIxM_at, setIxL_at, setIxD_at, putIxK_at, append_at, appC, dctU, lstU, someC, extend_at, extC, extF, pop_at, popC, popAt_at, popAtC_at, popAtK2_at, popAtK3_at, retKM_at, sdf_at, sdfC_at, sdfO_some, sdfO_none, get1_at, getF, isDct_at, isLst_at, isD_at, isDF, dict_at, dictC, truthy_loc, intF, max2F, min2F, endC_nx, endC_rt, endC_rtP, endC_ex, gc_bl, gc_int, gc_str, gc_non, ↓ev_ix_at, ↓ev_slice_at, ↓ev_call_at, ↓ev_bi_at, ↓ev_mt_at, ↓ev_isi_at, ↓ev_lc_at, ↓evs_nil_at, ↓evs_cons_at, ↓evo_none_at, ↓evo_some_at, ↓evc_nil_at, ↓evc_cons_at, ↓ex_asg_at, ↓ex_asgIx_at, ↓ex_aug_at, ↓ex_expr_at, ↓ex_ite_at, ↓ex_ret_at, ↓ex_retN_at, ↓ex_raise_at, ↓ex_brk_at, ↓ex_cont_at, ↓ex_pass_at, ↓ex_while_at, ↓exs_nil_at, ↓exs_cons_at, asgK_at, asgR_ok, goOn_at, augK1_at, augK2_at, augK3_at, asgIxK_at, asgIxK2_at, asgIxK3_at, blK_at, nbK_at, opK_at, cmpK_at, cmpK2_at, chK_at, chK2_at, chK3_t, chK3_f, notK_at, andK_at, andK2_t, andK2_f, orK_at, orK2_t, orK2_f, ifK_at, ifK2_t, ifK2_f, tupK_at, lstK_at, ixK_at, slK_at, slK2_at, mtK_at, mtK2_at, isiK_at, consK_at, consK2_at, csK_at, csK2_t, csK2_f, someK_at, eltK_t, eltK_f, oneK_at, oneL_at, seqK_at, iteK_t, iteK_f, retS_at, noexR_ok, negM, intM, ↓msB_at, ↓msS_at, msB_ok, msB_ex, msS_msS, msS_nx, msS_rt, msS_ex, msS_bk, msS_ct, truthy_non, truthy_bl, truthy_int, truthy_str, truthy_tup, truthy_fzl, ↓bnd_at, bndR_ok, bndR_ex, of_some, ret_at, binop, iopM, ↓need_at, bindT, bindTs, biM, get_at, put_at, new_at, ↓isi_cons_at, isi_nil_at, isiR_t, isiR_f, isTy_non, isTy_bl, isTy_int, isTy_str, isTy_tup, isTy_fzl, mtM, mtPre, upperM, isStr, itM, seq1, seqM_tup, seqM_fzl, seqM_scr, seqM_str, seqM_loc, lstS, rng1, rng2, D.isNon, D.flat, D.flats, D.deep, D.deeps, D.eqv, D.eqvs, Nat.zero_le, Nat.max_self, and_self, lt0, lt1, lt2, lt3, atI0, atI1, atI2, atI3, ixN0, ixN1, ixN2, ixN3, getc0, getc1, getc2, getc3, getc4, getc5, getc6, getc7, getc8, setc0, setc1, setc2, setc3, setc4, setc5, setc6, setc7, setc8, id, Option.join_some, Option.join, Option.bind, Option.map, List.map_cons, List.map_nil, List.length_map, List.length_cons, List.length_nil, List.getElem?_cons_zero, List.getElem?_cons_succ, List.set_cons_zero, List.set_cons_succ, Nat.zero_add, List.append_nil, List.nil_append, List.cons_append, Int.reducePow, Int.reduceToNat, Int.zero_add, Int.cast_ofNat_Int, decide_true, decide_false, Bool.not_true, Bool.not_false, Bool.and_self, Bool.true_and, Bool.false_and, Bool.and_true, Nat.zero_max, Nat.max_zero, if_true, if_false, ite_true, ite_false, reduceIte, reduceCtorEq, Bool.false_eq_true, Bool.true_eq_false, or_true, true_or, and_true, true_and, or_false, false_or, Nat.reduceLT, Nat.reduceAdd, Nat.reduceLeDiff, Int.reduceLT, Int.reduceLE, Int.reduceAdd, Nat.zero_lt_succ, beq_self_eq_true, decide_eq_true_eq, hz, hpow, hi, h5, hl]
      refine wp_for (P := fun j ρ S => ∃ (l : List Int) (q : Option D), (∀ x ∈ l, 0 ≤ x) ∧ l.length ≤ 60 * k + 1 + j ∧ ρ = [some (.scr (ns.map .int)), some (.loc 0), some (.int i), r, q] ∧ S = [.lst (l.map .int)]) (B := fun _ _ => False) ⟨l ++ [i % 1000000], q, ?_, by simp; omega, rfl, by simp⟩ (by intros; rfl) ?_ ?_
      · intro x hx
        rcases List.mem_append.1 hx with hx | hx
        · exact h1 x hx
        · rw [List.mem_singleton.1 hx]
          exact Int.emod_nonneg _ (by decide)
      · rintro j x ρ S hx ⟨l, q, h1, h2, rfl, rfl⟩
        obtain ⟨hj, rfl⟩ := rangeD_at hx
        have h5' : (5 : Int).toNat = 5 := rfl
        have hl : l.length < szl := hP l 0 (by omega)
        refine ⟨[some (.scr (ns.map .int)), some (.loc 0), some (.int i), r, some (.int (0 + (j : Int)))], rfl, ?_⟩
        simp only [↓ev_fld_at, ↓ev_meth_at, ↓ev_new_at, ↓ex_asgFld_at, methK_at, methK2_at, methK3_at, newK_at, newM_at, isNonM_at, asgFldK_at, asgFldK2_at, fldM_at, fldF, setFldM_at, setFldC, clsM_at, clsF, lookN, putFd, flOk, ↓for_at, forS_at, lcS_at, ↓ev_non_at, ↓ev_bl_at, ↓ev_int_at, ↓ev_str_at, ↓ev_var_at, ↓ev_glob_at, ↓ev_op_at, ↓ev_neg_at, ↓ev_cmp_at, ↓ev_chain_at, ↓ev_not_at, ↓ev_and_at, ↓ev_or_at, ↓ev_ite_at, ↓ev_tup_at, ↓ev_lst_at, ↓ev_flst_at, ↓ev_dct_at, ↓ev_fslice_at, ↓ev_lenset_at, flstK_at, fslK_at, fslK2_at, lcR_t, lcR_f, lcR_ex, ↓ex_augFld_at, augFldK_at, augFldK2_at, augFldK3_at, augFldK4_at, ↓ex_try_at, tryR_nx, tryR_rt, viewK_at, view_loc, view_non, view_bl, view_int, view_str, view_tup, view_fzl, view_fzd, view_fzo, viewC, indexM_at, indexF_tup, indexF_fzl, indexF_str, indexF_fzd, sliceM_at, sliceF_tup, sliceF_fzl, sliceF_str, sliceP_at, slicePF, eqK_at, eqK2_at, eqM_at, inM_at, inF, nbnK_at, cmp_eq_at, cmp_ne_at, cmp_in_at, cmp_nin_at, cmp_lt_at, cmp_le_at, cmp_gt_at, cmp_ge_at, cmp_is_at, cmp_isnt_at, addL_at, addI_at, lenM_at, lenF_str, lenF_tup, lenF_fzl, listM_at, flistM_at, tupleM_at, itemsF_tup, itemsF_fzl, lstF_fzl, sumK_at, sumK2_at, sumM_at, intsO_map, setIxM_at, setIxL_at, setIxD_at, putIxK_at, append_at, appC, dctU, lstU, someC, extend_at, extC, extF, pop_at, popC, popAt_at, popAtC_at, popAtK2_at, popAtK3_at, retKM_at, sdf_at, sdfC_at, sdfO_some, sdfO_none, get1_at, getF, isDct_at, isLst_at, isD_at, isDF, dict_at, dictC, truthy_loc, intF, max2F, min2F, endC_nx, endC_rt, endC_rtP, endC_ex, gc_bl, gc_int, gc_str, gc_non, ↓ev_ix_at, ↓ev_slice_at, ↓ev_call_at, ↓ev_bi_at, ↓ev_mt_at, ↓ev_isi_at, ↓ev_lc_at, ↓evs_nil_at, ↓evs_cons_at, ↓evo_none_at, ↓evo_some_at, ↓evc_nil_at, ↓evc_cons_at, ↓ex_asg_at, ↓ex_asgIx_at, ↓ex_aug_at, ↓ex_expr_at, ↓ex_ite_at, ↓ex_ret_at, ↓ex_retN_at, ↓ex_raise_at, ↓ex_brk_at, ↓ex_cont_at, ↓ex_pass_at, ↓ex_while_at, ↓exs_nil_at, ↓exs_cons_at, asgK_at, asgR_ok, goOn_at, augK1_at, augK2_at, augK3_at, asgIxK_at, asgIxK2_at, asgIxK3_at, blK_at, nbK_at, opK_at, cmpK_at, cmpK2_at, chK_at, chK2_at, chK3_t, chK3_f, notK_at, andK_at, andK2_t, andK2_f, orK_at, orK2_t, orK2_f, ifK_at, ifK2_t, ifK2_f, tupK_at, lstK_at, ixK_at, slK_at, slK2_at, mtK_at, mtK2_at, isiK_at, consK_at, consK2_at, csK_at, csK2_t, csK2_f, someK_at, eltK_t, eltK_f, oneK_at, oneL_at, seqK_at, iteK_t, iteK_f, retS_at, noexR_ok, negM, intM, ↓msB_at, ↓msS_at, msB_ok, msB_ex, msS_msS, msS_nx, msS_rt, msS_ex, msS_bk, msS_ct, truthy_non, truthy_bl, truthy_int, truthy_str, truthy_tup, truthy_fzl, ↓bnd_at, bndR_ok, bndR_ex, of_some, ret_at, binop, iopM, ↓need_at, bindT, bindTs, biM, get_at, put_at, new_at, ↓isi_cons_at, isi_nil_at, isiR_t, isiR_f, isTy_non, isTy_bl, isTy_int, isTy_str, isTy_tup, isTy_fzl, mtM, mtPre, upperM, isStr, itM, seq1, seqM_tup, seqM_fzl, seqM_scr, seqM_str, seqM_loc, lstS, rng1, rng2, D.isNon, D.flat, D.flats, D.deep, D.deeps, D.eqv, D.eqvs, Nat.zero_le, Nat.max_self, and_self, lt0, lt1, lt2, lt3, atI0, atI1, atI2, atI3, ixN0, ixN1, ixN2, ixN3, getc0, getc1, getc2, getc3, getc4, getc5, getc6, getc7, getc8, setc0, setc1, setc2, setc3, setc4, setc5, setc6, setc7, setc8, id, Option.join_some, Option.join, Option.bind, Option.map, List.map_cons, List.map_nil, List.length_map, List.length_cons, List.length_nil, List.getElem?_cons_zero, List.getElem?_cons_succ, List.set_cons_zero, List.set_cons_succ, Nat.zero_add, List.append_nil, List.nil_append, List.cons_append, Int.reducePow, Int.reduceToNat, Int.zero_add, Int.cast_ofNat_Int, decide_true, decide_false, Bool.not_true, Bool.not_false, Bool.and_self, Bool.true_and, Bool.false_and, Bool.and_true, Nat.zero_max, Nat.max_zero, if_true, if_false, ite_true, ite_false, reduceIte, reduceCtorEq, Bool.false_eq_true, Bool.true_eq_false, or_true, true_or, and_true, true_and, or_false, false_or, Nat.reduceLT, Nat.reduceAdd, Nat.reduceLeDiff, Int.reduceLT, Int.reduceLE, Int.reduceAdd, Nat.zero_lt_succ, beq_self_eq_true, decide_eq_true_eq, hl, hM, wp_some, turn_nx]
        refine ⟨l ++ [mix (mix (i % 2147483647) j) (j + 7) % 1000000], _, ?_, ?_, rfl, ?_⟩
        · intro x hx
          rcases List.mem_append.1 hx with hx | hx
          · exact h1 x hx
          · rw [List.mem_singleton.1 hx]
            exact Int.emod_nonneg _ (by decide)
        · simp
          omega
        · simp
      · rintro ρ S (⟨⟨⟩⟩ | ⟨l, q, h1, h2, rfl, rfl⟩)
        have h5' : (5 : Int).toNat = 5 := rfl
        rw [rangeD_len] at h2
        simp only [↓ev_fld_at, ↓ev_meth_at, ↓ev_new_at, ↓ex_asgFld_at, methK_at, methK2_at, methK3_at, newK_at, newM_at, isNonM_at, asgFldK_at, asgFldK2_at, fldM_at, fldF, setFldM_at, setFldC, clsM_at, clsF, lookN, putFd, flOk, ↓for_at, forS_at, lcS_at, ↓ev_non_at, ↓ev_bl_at, ↓ev_int_at, ↓ev_str_at, ↓ev_var_at, ↓ev_glob_at, ↓ev_op_at, ↓ev_neg_at, ↓ev_cmp_at, ↓ev_chain_at, ↓ev_not_at, ↓ev_and_at, ↓ev_or_at, ↓ev_ite_at, ↓ev_tup_at, ↓ev_lst_at, ↓ev_flst_at, ↓ev_dct_at, ↓ev_fslice_at, ↓ev_lenset_at, flstK_at, fslK_at, fslK2_at, lcR_t, lcR_f, lcR_ex, ↓ex_augFld_at, augFldK_at, augFldK2_at, augFldK3_at, augFldK4_at, ↓ex_try_at, tryR_nx, tryR_rt, viewK_at, view_loc, view_non, view_bl, view_int, view_str, view_tup, view_fzl, view_fzd, view_fzo, viewC, indexM_at, indexF_tup, indexF_fzl, indexF_str, indexF_fzd, sliceM_at, sliceF_tup, sliceF_fzl, sliceF_str, sliceP_at, slicePF, eqK_at, eqK2_at, eqM_at, inM_at, inF, nbnK_at, cmp_eq_at, cmp_ne_at, cmp_in_at, cmp_nin_at, cmp_lt_at, cmp_le_at, cmp_gt_at, cmp_ge_at, cmp_is_at, cmp_isnt_at, addL_at, addI_at, lenM_at, lenF_str, lenF_tup, lenF_fzl, listM_at, flistM_at, tupleM_at, itemsF_tup, itemsF_fzl, lstF_fzl, sumK_at, sumK2_at, sumM_at, intsO_map, setIxM_at, setIxL_at, setIxD_at, putIxK_at, append_at, appC, dctU, lstU, someC, extend_at, extC, extF, pop_at, popC, popAt_at, popAtC_at, popAtK2_at, popAtK3_at, retKM_at, sdf_at, sdfC_at, sdfO_some, sdfO_none, get1_at, getF, isDct_at, isLst_at, isD_at, isDF, dict_at, dictC, truthy_loc, intF, max2F, min2F, endC_nx, endC_rt, endC_rtP, endC_ex, gc_bl, gc_int, gc_str, gc_non, ↓ev_ix_at, ↓ev_slice_at, ↓ev_call_at, ↓ev_bi_at, ↓ev_mt_at, ↓ev_isi_at, ↓ev_lc_at, ↓evs_nil_at, ↓evs_cons_at, ↓evo_none_at, ↓evo_some_at, ↓evc_nil_at, ↓evc_cons_at, ↓ex_asg_at, ↓ex_asgIx_at, ↓ex_aug_at, ↓ex_expr_at, ↓ex_ite_at, ↓ex_ret_at, ↓ex_retN_at, ↓ex_raise_at, ↓ex_brk_at, ↓ex_cont_at, ↓ex_pass_at, ↓ex_while_at, ↓exs_nil_at, ↓exs_cons_at, asgK_at, asgR_ok, goOn_at, augK1_at, augK2_at, augK3_at, asgIxK_at, asgIxK2_at, asgIxK3_at, blK_at, nbK_at, opK_at, cmpK_at, cmpK2_at, chK_at, chK2_at, chK3_t, chK3_f, notK_at, andK_at, andK2_t, andK2_f, orK_at, orK2_t, orK2_f, ifK_at, ifK2_t, ifK2_f, tupK_at, lstK_at, ixK_at, slK_at, slK2_at, mtK_at, mtK2_at, isiK_at, consK_at, consK2_at, csK_at, csK2_t, csK2_f, someK_at, eltK_t, eltK_f, oneK_at, oneL_at, seqK_at, iteK_t, iteK_f, retS_at, noexR_ok, negM, intM, ↓msB_at, ↓msS_at, msB_ok, msB_ex, msS_msS, msS_nx, msS_rt, msS_ex, msS_bk, msS_ct, truthy_non, truthy_bl, truthy_int, truthy_str, truthy_tup, truthy_fzl, ↓bnd_at, bndR_ok, bndR_ex, of_some, ret_at, binop, iopM, ↓need_at, bindT, bindTs, biM, get_at, put_at, new_at, ↓isi_cons_at, isi_nil_at, isiR_t, isiR_f, isTy_non, isTy_bl, isTy_int, isTy_str, isTy_tup, isTy_fzl, mtM, mtPre, upperM, isStr, itM, seq1, seqM_tup, seqM_fzl, seqM_scr, seqM_str, seqM_loc, lstS, rng1, rng2, D.isNon, D.flat, D.flats, D.deep, D.deeps, D.eqv, D.eqvs, Nat.zero_le, Nat.max_self, and_self, lt0, lt1, lt2, lt3, atI0, atI1, atI2, atI3, ixN0, ixN1, ixN2, ixN3, getc0, getc1, getc2, getc3, getc4, getc5, getc6, getc7, getc8, setc0, setc1, setc2, setc3, setc4, setc5, setc6, setc7, setc8, id, Option.join_some, Option.join, Option.bind, Option.map, List.map_cons, List.map_nil, List.length_map, List.length_cons, List.length_nil, List.getElem?_cons_zero, List.getElem?_cons_succ, List.set_cons_zero, List.set_cons_succ, Nat.zero_add, List.append_nil, List.nil_append, List.cons_append, Int.reducePow, Int.reduceToNat, Int.zero_add, Int.cast_ofNat_Int, decide_true, decide_false, Bool.not_true, Bool.not_false, Bool.and_self, Bool.true_and, Bool.false_and, Bool.and_true, Nat.zero_max, Nat.max_zero, if_true, if_false, ite_true, ite_false, reduceIte, reduceCtorEq, Bool.false_eq_true, Bool.true_eq_false, or_true, true_or, and_true, true_and, or_false, false_or, Nat.reduceLT, Nat.reduceAdd, Nat.reduceLeDiff, Int.reduceLT, Int.reduceLE, Int.reduceAdd, Nat.zero_lt_succ, beq_self_eq_true, decide_eq_true_eq, wp_some, turn_nx]
        exact ⟨l, _, _, _, h1, by omega, rfl, rfl⟩
  · rintro ρ S (⟨⟨⟩⟩ | ⟨l, c, r, q, h1, h2, rfl, rfl⟩)
    simp only [↓ev_fld_at, ↓ev_meth_at, ↓ev_new_at, ↓ex_asgFld_at, methK_at, methK2_at, methK3_at, newK_at, newM_at, isNonM_at, asgFldK_at, asgFldK2_at, fldM_at, fldF, setFldM_at, setFldC, clsM_at, clsF, lookN, putFd, flOk, ↓for_at, forS_at, lcS_at, ↓ev_non_at, ↓ev_bl_at, ↓ev_int_at, ↓ev_str_at, ↓ev_var_at, ↓ev_glob_at, ↓ev_op_at, ↓ev_neg_at, ↓ev_cmp_at, ↓ev_chain_at, ↓ev_not_at, ↓ev_and_at, ↓ev_or_at, ↓ev_ite_at, ↓ev_tup_at, ↓ev_lst_at, ↓ev_flst_at, ↓ev_dct_at, ↓ev_fslice_at, ↓ev_lenset_at, flstK_at, fslK_at, fslK2_at, lcR_t, lcR_f, lcR_ex, ↓ex_augFld_at, augFldK_at, augFldK2_at, augFldK3_at, augFldK4_at, ↓ex_try_at, tryR_nx, tryR_rt, viewK_at, view_loc, view_non, view_bl, view_int, view_str, view_tup, view_fzl, view_fzd, view_fzo, viewC, indexM_at, indexF_tup, indexF_fzl, indexF_str, indexF_fzd, sliceM_at, sliceF_tup, sliceF_fzl, sliceF_str, sliceP_at, slicePF, eqK_at, eqK2_at, eqM_at, inM_at, inF, nbnK_at, cmp_eq_at, cmp_ne_at, cmp_in_at, cmp_nin_at, cmp_lt_at, cmp_le_at, cmp_gt_at, cmp_ge_at, cmp_is_at, cmp_isnt_at, addL_at, addI_at, lenM_at, lenF_str, lenF_tup, lenF_fzl, listM_at, flistM_at, tupleM_at, itemsF_tup, itemsF_fzl, lstF_fzl, sumK_at, sumK2_at, sumM_at, intsO_map, setIxM_at, setIxL_at, setIxD_at, putIxK_at, append_at, appC, dctU, lstU, someC, extend_at, extC, extF, pop_at, popC, popAt_at, popAtC_at, popAtK2_at, popAtK3_at, retKM_at, sdf_at, sdfC_at, sdfO_some, sdfO_none, get1_at, getF, isDct_at, isLst_at, isD_at, isDF, dict_at, dictC, truthy_loc, intF, max2F, min2F, endC_nx, endC_rt, endC_rtP, endC_ex, gc_bl, gc_int, gc_str, gc_non, ↓ev_ix_at, ↓ev_slice_at, ↓ev_call_at, ↓ev_bi_at, ↓ev_mt_at, ↓ev_isi_at, ↓ev_lc_at, ↓evs_nil_at, ↓evs_cons_at, ↓evo_none_at, ↓evo_some_at, ↓evc_nil_at, ↓evc_cons_at, ↓ex_asg_at, ↓ex_asgIx_at, ↓ex_aug_at, ↓ex_expr_at, ↓ex_ite_at, ↓ex_ret_at, ↓ex_retN_at, ↓ex_raise_at, ↓ex_brk_at, ↓ex_cont_at, ↓ex_pass_at, ↓ex_while_at, ↓exs_nil_at, ↓exs_cons_at, asgK_at, asgR_ok, goOn_at, augK1_at, augK2_at, augK3_at, asgIxK_at, asgIxK2_at, asgIxK3_at, blK_at, nbK_at, opK_at, cmpK_at, cmpK2_at, chK_at, chK2_at, chK3_t, chK3_f, notK_at, andK_at, andK2_t, andK2_f, orK_at, orK2_t, orK2_f, ifK_at, ifK2_t, ifK2_f, tupK_at, lstK_at, ixK_at, slK_at, slK2_at, mtK_at, mtK2_at, isiK_at, consK_at, consK2_at, csK_at, csK2_t, csK2_f, someK_at, eltK_t, eltK_f, oneK_at, oneL_at, seqK_at, iteK_t, iteK_f, retS_at, noexR_ok, negM, intM, ↓msB_at, ↓msS_at, msB_ok, msB_ex, msS_msS, msS_nx, msS_rt, msS_ex, msS_bk, msS_ct, truthy_non, truthy_bl, truthy_int, truthy_str, truthy_tup, truthy_fzl, ↓bnd_at, bndR_ok, bndR_ex, of_some, ret_at, binop, iopM, ↓need_at, bindT, bindTs, biM, get_at, put_at, new_at, ↓isi_cons_at, isi_nil_at, isiR_t, isiR_f, isTy_non, isTy_bl, isTy_int, isTy_str, isTy_tup, isTy_fzl, mtM, mtPre, upperM, isStr, itM, seq1, seqM_tup, seqM_fzl, seqM_scr, seqM_str, seqM_loc, lstS, rng1, rng2, D.isNon, D.flat, D.flats, D.deep, D.deeps, D.eqv, D.eqvs, Nat.zero_le, Nat.max_self, and_self, lt0, lt1, lt2, lt3, atI0, atI1, atI2, atI3, ixN0, ixN1, ixN2, ixN3, getc0, getc1, getc2, getc3, getc4, getc5, getc6, getc7, getc8, setc0, setc1, setc2, setc3, setc4, setc5, setc6, setc7, setc8, id, Option.join_some, Option.join, Option.bind, Option.map, List.map_cons, List.map_nil, List.length_map, List.length_cons, List.length_nil, List.getElem?_cons_zero, List.getElem?_cons_succ, List.set_cons_zero, List.set_cons_succ, Nat.zero_add, List.append_nil, List.nil_append, List.cons_append, Int.reducePow, Int.reduceToNat, Int.zero_add, Int.cast_ofNat_Int, decide_true, decide_false, Bool.not_true, Bool.not_false, Bool.and_self, Bool.true_and, Bool.false_and, Bool.and_true, Nat.zero_max, Nat.max_zero, if_true, if_false, ite_true, ite_false, reduceIte, reduceCtorEq, Bool.false_eq_true, Bool.true_eq_false, or_true, true_or, and_true, true_and, or_false, false_or, Nat.reduceLT, Nat.reduceAdd, Nat.reduceLeDiff, Int.reduceLT, Int.reduceLE, Int.reduceAdd, Nat.zero_lt_succ, beq_self_eq_true, decide_eq_true_eq, wp_some]
    have hg := gc_lst [] [] [.lst (l.map .int)] 0 (l.map .int) rfl (Nat.zero_le _) rfl (bels_ints 0 l) (by intro i hi; cases hi)
    rw [List.nil_append] at hg
    rw [hg]
    exact ⟨l, h1, rfl, rfl⟩

/-! ### the law's own == of truth values, numbers, texts -/
theorem equal_bl (cl : Cl) (a b : Bool) (S : Store) : callB cl f__law_equal [.bl a, .bl b] S = some (.ok (.bl (a == b)), S) := by
  rw [callB_of _ _ _ _ rfl (by decide)]
  show endC false S (exSs cl f__law_equal.body [some (.bl a), some (.bl b)] S) = _
  cases a <;> cases b <;> simp only [f__law_equal, ↓ev_fld_at, ↓ev_meth_at, ↓ev_new_at, ↓ex_asgFld_at, methK_at, methK2_at, methK3_at, newK_at, newM_at, isNonM_at, asgFldK_at, asgFldK2_at, fldM_at, fldF, setFldM_at, setFldC, clsM_at, clsF, lookN, putFd, flOk, ↓for_at, forS_at, lcS_at, ↓ev_non_at, ↓ev_bl_at, ↓ev_int_at, ↓ev_str_at, ↓ev_var_at, ↓ev_glob_at, ↓ev_op_at, ↓ev_neg_at, ↓ev_cmp_at, ↓ev_chain_at, ↓ev_not_at, ↓ev_and_at, ↓ev_or_at, ↓ev_ite_at, ↓ev_tup_at, ↓ev_lst_at, ↓ev_flst_at, ↓ev_dct_at, ↓ev_fslice_at, ↓ev_lenset_at, flstK_at, fslK_at, fslK2_at, lcR_t, lcR_f, lcR_ex, ↓ex_augFld_at, augFldK_at, augFldK2_at, augFldK3_at, augFldK4_at, ↓ex_try_at, tryR_nx, tryR_rt, viewK_at, view_loc, view_non, view_bl, view_int, view_str, view_tup, view_fzl, view_fzd, view_fzo, viewC, indexM_at, indexF_tup, indexF_fzl, indexF_str, indexF_fzd, sliceM_at, sliceF_tup, sliceF_fzl, sliceF_str, sliceP_at, slicePF, eqK_at, eqK2_at, eqM_at, inM_at, inF, nbnK_at, cmp_eq_at, cmp_ne_at, cmp_in_at, cmp_nin_at, cmp_lt_at, cmp_le_at, cmp_gt_at, cmp_ge_at, cmp_is_at, cmp_isnt_at, addL_at, addI_at, lenM_at, lenF_str, lenF_tup, lenF_fzl, listM_at, flistM_at, tupleM_at, itemsF_tup, itemsF_fzl, lstF_fzl, sumK_at, sumK2_at, sumM_at, intsO_map, setIxM_at, setIxL_at, setIxD_at, putIxK_at, append_at, appC, dctU, lstU, someC, extend_at, extC, extF, pop_at, popC, popAt_at, popAtC_at, popAtK2_at, popAtK3_at, retKM_at, sdf_at, sdfC_at, sdfO_some, sdfO_none, get1_at, getF, isDct_at, isLst_at, isD_at, isDF, dict_at, dictC, truthy_loc, intF, max2F, min2F, endC_nx, endC_rt, endC_rtP, endC_ex, gc_bl, gc_int, gc_str, gc_non, ↓ev_ix_at, ↓ev_slice_at, ↓ev_call_at, ↓ev_bi_at, ↓ev_mt_at, ↓ev_isi_at, ↓ev_lc_at, ↓evs_nil_at, ↓evs_cons_at, ↓evo_none_at, ↓evo_some_at, ↓evc_nil_at, ↓evc_cons_at, ↓ex_asg_at, ↓ex_asgIx_at, ↓ex_aug_at, ↓ex_expr_at, ↓ex_ite_at, ↓ex_ret_at, ↓ex_retN_at, ↓ex_raise_at, ↓ex_brk_at, ↓ex_cont_at, ↓ex_pass_at, ↓ex_while_at, ↓exs_nil_at, ↓exs_cons_at, asgK_at, asgR_ok, goOn_at, augK1_at, augK2_at, augK3_at, asgIxK_at, asgIxK2_at, asgIxK3_at, blK_at, nbK_at, opK_at, cmpK_at, cmpK2_at, chK_at, chK2_at, chK3_t, chK3_f, notK_at, andK_at, andK2_t, andK2_f, orK_at, orK2_t, orK2_f, ifK_at, ifK2_t, ifK2_f, tupK_at, lstK_at, ixK_at, slK_at, slK2_at, mtK_at, mtK2_at, isiK_at, consK_at, consK2_at, csK_at, csK2_t, csK2_f, someK_at, eltK_t, eltK_f, oneK_at, oneL_at, seqK_at, iteK_t, iteK_f, retS_at, noexR_ok, negM, intM, ↓msB_at, ↓msS_at, msB_ok, msB_ex, msS_msS, msS_nx, msS_rt, msS_ex, msS_bk, msS_ct, truthy_non, truthy_bl, truthy_int, truthy_str, truthy_tup, truthy_fzl, ↓bnd_at, bndR_ok, bndR_ex, of_some, ret_at, binop, iopM, ↓need_at, bindT, bindTs, biM, get_at, put_at, new_at, ↓isi_cons_at, isi_nil_at, isiR_t, isiR_f, isTy_non, isTy_bl, isTy_int, isTy_str, isTy_tup, isTy_fzl, mtM, mtPre, upperM, isStr, itM, seq1, seqM_tup, seqM_fzl, seqM_scr, seqM_str, seqM_loc, lstS, rng1, rng2, D.isNon, D.flat, D.flats, D.deep, D.deeps, D.eqv, D.eqvs, Nat.zero_le, Nat.max_self, and_self, lt0, lt1, lt2, lt3, atI0, atI1, atI2, atI3, ixN0, ixN1, ixN2, ixN3, getc0, getc1, getc2, getc3, getc4, getc5, getc6, getc7, getc8, setc0, setc1, setc2, setc3, setc4, setc5, setc6, setc7, setc8, id, Option.join_some, Option.join, Option.bind, Option.map, List.map_cons, List.map_nil, List.length_map, List.length_cons, List.length_nil, List.getElem?_cons_zero, List.getElem?_cons_succ, List.set_cons_zero, List.set_cons_succ, Nat.zero_add, List.append_nil, List.nil_append, List.cons_append, Int.reducePow, Int.reduceToNat, Int.zero_add, Int.cast_ofNat_Int, decide_true, decide_false, Bool.not_true, Bool.not_false, Bool.and_self, Bool.true_and, Bool.false_and, Bool.and_true, Nat.zero_max, Nat.max_zero, if_true, if_false, ite_true, ite_false, reduceIte, reduceCtorEq, Bool.false_eq_true, Bool.true_eq_false, or_true, true_or, and_true, true_and, or_false, false_or, Nat.reduceLT, Nat.reduceAdd, Nat.reduceLeDiff, Int.reduceLT, Int.reduceLE, Int.reduceAdd, Nat.zero_lt_succ, beq_self_eq_true, decide_eq_true_eq] <;> rfl
theorem equal_int (cl : Cl) (a b : Int) (S : Store) : callB cl f__law_equal [.int a, .int b] S = some (.ok (.bl (decide (a = b))), S) := by
  rw [callB_of _ _ _ _ rfl (by decide)]
  show endC false S (exSs cl f__law_equal.body [some (.int a), some (.int b)] S) = _
  simp only [f__law_equal, ↓ev_fld_at, ↓ev_meth_at, ↓ev_new_at, ↓ex_asgFld_at, methK_at, methK2_at, methK3_at, newK_at, newM_at, isNonM_at, asgFldK_at, asgFldK2_at, fldM_at, fldF, setFldM_at, setFldC, clsM_at, clsF, lookN, putFd, flOk, ↓for_at, forS_at, lcS_at, ↓ev_non_at, ↓ev_bl_at, ↓ev_int_at, ↓ev_str_at, ↓ev_var_at, ↓ev_glob_at, ↓ev_op_at, ↓ev_neg_at, ↓ev_cmp_at, ↓ev_chain_at, ↓ev_not_at, ↓ev_and_at, ↓ev_or_at, ↓ev_ite_at, ↓ev_tup_at, ↓ev_lst_at, ↓ev_flst_at, ↓ev_dct_at, ↓ev_fslice_at, ↓ev_lenset_at, flstK_at, fslK_at, fslK2_at, lcR_t, lcR_f, lcR_ex, ↓ex_augFld_at, augFldK_at, augFldK2_at, augFldK3_at, augFldK4_at, ↓ex_try_at, tryR_nx, tryR_rt, viewK_at, view_loc, view_non, view_bl, view_int, view_str, view_tup, view_fzl, view_fzd, view_fzo, viewC, indexM_at, indexF_tup, indexF_fzl, indexF_str, indexF_fzd, sliceM_at, sliceF_tup, sliceF_fzl, sliceF_str, sliceP_at, slicePF, eqK_at, eqK2_at, eqM_at, inM_at, inF, nbnK_at, cmp_eq_at, cmp_ne_at, cmp_in_at, cmp_nin_at, cmp_lt_at, cmp_le_at, cmp_gt_at, cmp_ge_at, cmp_is_at, cmp_isnt_at, addL_at, addI_at, lenM_at, lenF_str, lenF_tup, lenF_fzl, listM_at, flistM_at, tupleM_at, itemsF_tup, itemsF_fzl, lstF_fzl, sumK_at, sumK2_at, sumM_at, intsO_map, setIxM_at, setIxL_at, setIxD_at, putIxK_at, append_at, appC, dctU, lstU, someC, extend_at, extC, extF, pop_at, popC, popAt_at, popAtC_at, popAtK2_at, popAtK3_at, retKM_at, sdf_at, sdfC_at, sdfO_some, sdfO_none, get1_at, getF, isDct_at, isLst_at, isD_at, isDF, dict_at, dictC, truthy_loc, intF, max2F, min2F, endC_nx, endC_rt, endC_rtP, endC_ex, gc_bl, gc_int, gc_str, gc_non, ↓ev_ix_at, ↓ev_slice_at, ↓ev_call_at, ↓ev_bi_at, ↓ev_mt_at, ↓ev_isi_at, ↓ev_lc_at, ↓evs_nil_at, ↓evs_cons_at, ↓evo_none_at, ↓evo_some_at, ↓evc_nil_at, ↓evc_cons_at, ↓ex_asg_at, ↓ex_asgIx_at, ↓ex_aug_at, ↓ex_expr_at, ↓ex_ite_at, ↓ex_ret_at, ↓ex_retN_at, ↓ex_raise_at, ↓ex_brk_at, ↓ex_cont_at, ↓ex_pass_at, ↓ex_while_at, ↓exs_nil_at, ↓exs_cons_at, asgK_at, asgR_ok, goOn_at, augK1_at, augK2_at, augK3_at, asgIxK_at, asgIxK2_at, asgIxK3_at, blK_at, nbK_at, opK_at, cmpK_at, cmpK2_at, chK_at, chK2_at, chK3_t, chK3_f, notK_at, andK_at, andK2_t, andK2_f, orK_at, orK2_t, orK2_f, ifK_at, ifK2_t, ifK2_f, tupK_at, lstK_at, ixK_at, slK_at, slK2_at, mtK_at, mtK2_at, isiK_at, consK_at, consK2_at, csK_at, csK2_t, csK2_f, someK_at, eltK_t, eltK_f, oneK_at, oneL_at, seqK_at, iteK_t, iteK_f, retS_at, noexR_ok, negM, intM, ↓msB_at, ↓msS_at, msB_ok, msB_ex, msS_msS, msS_nx, msS_rt, msS_ex, msS_bk, msS_ct, truthy_non, truthy_bl, truthy_int, truthy_str, truthy_tup, truthy_fzl, ↓bnd_at, bndR_ok, bndR_ex, of_some, ret_at, binop, iopM, ↓need_at, bindT, bindTs, biM, get_at, put_at, new_at, ↓isi_cons_at, isi_nil_at, isiR_t, isiR_f, isTy_non, isTy_bl, isTy_int, isTy_str, isTy_tup, isTy_fzl, mtM, mtPre, upperM, isStr, itM, seq1, seqM_tup, seqM_fzl, seqM_scr, seqM_str, seqM_loc, lstS, rng1, rng2, D.isNon, D.flat, D.flats, D.deep, D.deeps, D.eqv, D.eqvs, Nat.zero_le, Nat.max_self, and_self, lt0, lt1, lt2, lt3, atI0, atI1, atI2, atI3, ixN0, ixN1, ixN2, ixN3, getc0, getc1, getc2, getc3, getc4, getc5, getc6, getc7, getc8, setc0, setc1, setc2, setc3, setc4, setc5, setc6, setc7, setc8, id, Option.join_some, Option.join, Option.bind, Option.map, List.map_cons, List.map_nil, List.length_map, List.length_cons, List.length_nil, List.getElem?_cons_zero, List.getElem?_cons_succ, List.set_cons_zero, List.set_cons_succ, Nat.zero_add, List.append_nil, List.nil_append, List.cons_append, Int.reducePow, Int.reduceToNat, Int.zero_add, Int.cast_ofNat_Int, decide_true, decide_false, Bool.not_true, Bool.not_false, Bool.and_self, Bool.true_and, Bool.false_and, Bool.and_true, Nat.zero_max, Nat.max_zero, if_true, if_false, ite_true, ite_false, reduceIte, reduceCtorEq, Bool.false_eq_true, Bool.true_eq_false, or_true, true_or, and_true, true_and, or_false, false_or, Nat.reduceLT, Nat.reduceAdd, Nat.reduceLeDiff, Int.reduceLT, Int.reduceLE, Int.reduceAdd, Nat.zero_lt_succ, beq_self_eq_true, decide_eq_true_eq]
theorem equal_str (cl : Cl) (a b : Tx) (S : Store) : callB cl f__law_equal [.str a, .str b] S = some (.ok (.bl (decide (a = b))), S) := by
  rw [callB_of _ _ _ _ rfl (by decide)]
  show endC false S (exSs cl f__law_equal.body [some (.str a), some (.str b)] S) = _
  simp only [f__law_equal, ↓ev_fld_at, ↓ev_meth_at, ↓ev_new_at, ↓ex_asgFld_at, methK_at, methK2_at, methK3_at, newK_at, newM_at, isNonM_at, asgFldK_at, asgFldK2_at, fldM_at, fldF, setFldM_at, setFldC, clsM_at, clsF, lookN, putFd, flOk, ↓for_at, forS_at, lcS_at, ↓ev_non_at, ↓ev_bl_at, ↓ev_int_at, ↓ev_str_at, ↓ev_var_at, ↓ev_glob_at, ↓ev_op_at, ↓ev_neg_at, ↓ev_cmp_at, ↓ev_chain_at, ↓ev_not_at, ↓ev_and_at, ↓ev_or_at, ↓ev_ite_at, ↓ev_tup_at, ↓ev_lst_at, ↓ev_flst_at, ↓ev_dct_at, ↓ev_fslice_at, ↓ev_lenset_at, flstK_at, fslK_at, fslK2_at, lcR_t, lcR_f, lcR_ex, ↓ex_augFld_at, augFldK_at, augFldK2_at, augFldK3_at, augFldK4_at, ↓ex_try_at, tryR_nx, tryR_rt, viewK_at, view_loc, view_non, view_bl, view_int, view_str, view_tup, view_fzl, view_fzd, view_fzo, viewC, indexM_at, indexF_tup, indexF_fzl, indexF_str, indexF_fzd, sliceM_at, sliceF_tup, sliceF_fzl, sliceF_str, sliceP_at, slicePF, eqK_at, eqK2_at, eqM_at, inM_at, inF, nbnK_at, cmp_eq_at, cmp_ne_at, cmp_in_at, cmp_nin_at, cmp_lt_at, cmp_le_at, cmp_gt_at, cmp_ge_at, cmp_is_at, cmp_isnt_at, addL_at, addI_at, lenM_at, lenF_str, lenF_tup, lenF_fzl, listM_at, flistM_at, tupleM_at, itemsF_tup, itemsF_fzl, lstF_fzl, sumK_at, sumK2_at, sumM_at, intsO_map, setIxM_at, setIxL_at, setIxD_at, putIxK_at, append_at, appC, dctU, lstU, someC, extend_at, extC, extF, pop_at, popC, popAt_at, popAtC_at, popAtK2_at, popAtK3_at, retKM_at, sdf_at, sdfC_at, sdfO_some, sdfO_none, get1_at, getF, isDct_at, isLst_at, isD_at, isDF, dict_at, dictC, truthy_loc, intF, max2F, min2F, endC_nx, endC_rt, endC_rtP, endC_ex, gc_bl, gc_int, gc_str, gc_non, ↓ev_ix_at, ↓ev_slice_at, ↓ev_call_at, ↓ev_bi_at, ↓ev_mt_at, ↓ev_isi_at, ↓ev_lc_at, ↓evs_nil_at, ↓evs_cons_at, ↓evo_none_at, ↓evo_some_at, ↓evc_nil_at, ↓evc_cons_at, ↓ex_asg_at, ↓ex_asgIx_at, ↓ex_aug_at, ↓ex_expr_at, ↓ex_ite_at, ↓ex_ret_at, ↓ex_retN_at, ↓ex_raise_at, ↓ex_brk_at, ↓ex_cont_at, ↓ex_pass_at, ↓ex_while_at, ↓exs_nil_at, ↓exs_cons_at, asgK_at, asgR_ok, goOn_at, augK1_at, augK2_at, augK3_at, asgIxK_at, asgIxK2_at, asgIxK3_at, blK_at, nbK_at, opK_at, cmpK_at, cmpK2_at, chK_at, chK2_at, chK3_t, chK3_f, notK_at, andK_at, andK2_t, andK2_f, orK_at, orK2_t, orK2_f, ifK_at, ifK2_t, ifK2_f, tupK_at, lstK_at, ixK_at, slK_at, slK2_at, mtK_at, mtK2_at, isiK_at, consK_at, consK2_at, csK_at, csK2_t, csK2_f, someK_at, eltK_t, eltK_f, oneK_at, oneL_at, seqK_at, iteK_t, iteK_f, retS_at, noexR_ok, negM, intM, ↓msB_at, ↓msS_at, msB_ok, msB_ex, msS_msS, msS_nx, msS_rt, msS_ex, msS_bk, msS_ct, truthy_non, truthy_bl, truthy_int, truthy_str, truthy_tup, truthy_fzl, ↓bnd_at, bndR_ok, bndR_ex, of_some, ret_at, binop, iopM, ↓need_at, bindT, bindTs, biM, get_at, put_at, new_at, ↓isi_cons_at, isi_nil_at, isiR_t, isiR_f, isTy_non, isTy_bl, isTy_int, isTy_str, isTy_tup, isTy_fzl, mtM, mtPre, upperM, isStr, itM, seq1, seqM_tup, seqM_fzl, seqM_scr, seqM_str, seqM_loc, lstS, rng1, rng2, D.isNon, D.flat, D.flats, D.deep, D.deeps, D.eqv, D.eqvs, Nat.zero_le, Nat.max_self, and_self, lt0, lt1, lt2, lt3, atI0, atI1, atI2, atI3, ixN0, ixN1, ixN2, ixN3, getc0, getc1, getc2, getc3, getc4, getc5, getc6, getc7, getc8, setc0, setc1, setc2, setc3, setc4, setc5, setc6, setc7, setc8, id, Option.join_some, Option.join, Option.bind, Option.map, List.map_cons, List.map_nil, List.length_map, List.length_cons, List.length_nil, List.getElem?_cons_zero, List.getElem?_cons_succ, List.set_cons_zero, List.set_cons_succ, Nat.zero_add, List.append_nil, List.nil_append, List.cons_append, Int.reducePow, Int.reduceToNat, Int.zero_add, Int.cast_ofNat_Int, decide_true, decide_false, Bool.not_true, Bool.not_false, Bool.and_self, Bool.true_and, Bool.false_and, Bool.and_true, Nat.zero_max, Nat.max_zero, if_true, if_false, ite_true, ite_false, reduceIte, reduceCtorEq, Bool.false_eq_true, Bool.true_eq_false, or_true, true_or, and_true, true_and, or_false, false_or, Nat.reduceLT, Nat.reduceAdd, Nat.reduceLeDiff, Int.reduceLT, Int.reduceLE, Int.reduceAdd, Nat.zero_lt_succ, beq_self_eq_true, decide_eq_true_eq]

/-! ### a for over a list that stands written -/
def forR (t : Tg) (g : List (Nat × Cell)) (b : Env → MS) (xs : List D) : Option (Ctl × Store) → Option (Ctl × Store)
  | some (.nx ρ2, S2) => forL t g b xs ρ2 S2
  | some (.ct ρ2, S2) => forL t g b xs ρ2 S2
  | some (.bk ρ2, S2) => some (.nx ρ2, S2)
  | r => r
def forT (t : Tg) (g : List (Nat × Cell)) (b : Env → MS) (xs : List D) (S : Store) : Option Env → Option (Ctl × Store)
  | none => none
  | some ρ => forR t g b xs (b ρ S)
theorem forT_some (t : Tg) (g : List (Nat × Cell)) (b : Env → MS) (xs : List D) (S : Store) (ρ : Env) : forT t g b xs S (some ρ) = forR t g b xs (b ρ S) := rfl
theorem forR_nx (t : Tg) (g : List (Nat × Cell)) (b : Env → MS) (xs : List D) (S : Store) (ρ : Env) : forR t g b xs (some (.nx ρ, S)) = forL t g b xs ρ S := rfl
theorem forR_ct (t : Tg) (g : List (Nat × Cell)) (b : Env → MS) (xs : List D) (S : Store) (ρ : Env) : forR t g b xs (some (.ct ρ, S)) = forL t g b xs ρ S := rfl
theorem forR_bk (t : Tg) (g : List (Nat × Cell)) (b : Env → MS) (xs : List D) (S : Store) (ρ : Env) : forR t g b xs (some (.bk ρ, S)) = some (.nx ρ, S) := rfl
theorem forR_rt (t : Tg) (g : List (Nat × Cell)) (b : Env → MS) (xs : List D) (S : Store) (d : D) : forR t g b xs (some (.rt d, S)) = some (.rt d, S) := rfl
theorem forR_ex (t : Tg) (g : List (Nat × Cell)) (b : Env → MS) (xs : List D) (S : Store) (c : String) (ρ : Env) : forR t g b xs (some (.ex c ρ, S)) = some (.ex c ρ, S) := rfl
theorem forL_nil (t : Tg) (g : List (Nat × Cell)) (b : Env → MS) (ρ : Env) (S : Store) : forL t g b [] ρ S = if stays S g = true then some (.nx ρ, S) else none := by rw [forL]
theorem forL_cons (t : Tg) (g : List (Nat × Cell)) (b : Env → MS) (x : D) (xs : List D) (ρ : Env) (S : Store) :
    forL t g b (x :: xs) ρ S = if stays S g = true then forT t g b xs S (bindT t x ρ) else none := by
  by_cases h : stays S g = true
  · cases e : bindT t x ρ with
    | none => simp [forL, h, e, forT]
    | some ρ' =>
      cases e2 : b ρ' S with
      | none => simp [forL, h, e, forT, e2, forR]
      | some p => obtain ⟨c, S2⟩ := p; cases c <;> simp [forL, h, e, forT, e2, forR]
  · simp [forL, h]

/-! ### comprehensions and indices -/
theorem get_last (S : Store) (c : Cell) : (S ++ [c])[S.length]? = some c := by simp
theorem compL_pure {g : List (Nat × Cell)} {one : D → M (Option D)} (f : D → Option D) (S : Store) (hg : stays S g = true) :
    ∀ (xs acc : List D), (∀ x ∈ xs, one x S = some (.ok (f x), S)) → acc.length + xs.length ≤ szl → compL g one xs acc S = some (.ok (acc ++ xs.filterMap f), S)
  | [], acc, _, _ => by simp [compL, hg]
  | x :: xs, acc, h, hl => by
    have h1 := h x (by simp)
    simp only [List.length_cons] at hl
    have h2 : ∀ y ∈ xs, one y S = some (.ok (f y), S) := fun y hy => h y (by simp [hy])
    rw [compL]
    simp only [hg, if_true, h1]
    cases e : f x with
    | none =>
      have := compL_pure f S hg xs acc h2 (by omega)
      simp [this, e]
    | some y =>
      have := compL_pure f S hg xs (acc ++ [y]) h2 (by simp; omega)
      have ha : acc.length < szl := by omega
      simp [this, e, ha]
theorem atI_mem {α : Type} {xs : List α} {i : Int} (h0 : 0 ≤ i) (h1 : i < xs.length) : ∃ d, atI xs i = some d ∧ d ∈ xs := by
  obtain ⟨k, rfl⟩ := Int.eq_ofNat_of_zero_le h0
  have hk : k < xs.length := by omega
  refine ⟨xs[k], ?_, List.getElem_mem hk⟩
  show atI xs (k : Int) = _
  rw [atI_nat, List.getElem?_eq_getElem hk]

theorem gl_of (k : Nat) (p : Prog) : (callK p k).gl = fun x => p.gls.lookup x := callK_gl p k

end Mi

set_option autoImplicit true
set_option maxRecDepth 512
set_option maxHeartbeats 200000
set_option Elab.async false
set_option maxRecDepth 100000
namespace Mi

/-- is_integer: 0 value -/
def f_is_integer : Fn :=
  ⟨1, 1,
  [.ret (.and (.isi (.var 0) [.int]) (.not (.isi (.var 0) [.bool])))], false⟩
/-- is_below: 0 value, 1 bound -/
def f_is_below : Fn :=
  ⟨2, 2,
  [.ret (.and (.call "is_integer" [.var 0]) (.chain .le .lt (.int 0) (.var 0) (.var 1)))], false⟩
/-- is_name: 0 text, 1 sign -/
def f_is_name : Fn :=
  ⟨1, 2,
  [.ite (.or (.not (.isi (.var 0) [.str])) (.not (.chain .le .le (.int 1) (.bi .len [.var 0]) (.glob "LONGEST"))))
    [.ret (.bl false)]
    [],
   .ite (.or (.cmp .nin (.ix (.var 0) (.int 0)) (.glob "LETTERS")) (.cmp .inn (.var 0) (.glob "WORDS")))
    [.ret (.bl false)]
    [],
   .for (.nm 1) 0 [.var 0]
    [.ite (.and (.cmp .nin (.var 1) (.glob "LETTERS")) (.cmp .nin (.var 1) (.glob "FIGURES")))
      [.ret (.bl false)]
      []],
   .ret (.bl true)], false⟩
/-- inner: 0 formula, 1 word -/
def f_inner : Fn :=
  ⟨1, 2,
  [.asg (.nm 1) (.ix (.var 0) (.int 0)),
   .ite (.or (.cmp .eq (.var 1) (.str [97, 110, 100])) (.cmp .eq (.var 1) (.str [111, 114])))
    [.ret (.ix (.var 0) (.int 1))]
    [],
   .ite (.cmp .eq (.var 1) (.str [110, 111, 116]))
    [.ret (.tup [.ix (.var 0) (.int 1)])]
    [],
   .ite (.or (.cmp .inn (.var 1) (.glob "QUANTIFIERS")) (.cmp .eq (.var 1) (.str [116, 99])))
    [.ret (.tup [.ix (.var 0) (.int 2)])]
    [],
   .ite (.or (.cmp .inn (.var 1) (.glob "FIXED")) (.cmp .eq (.var 1) (.str [103, 117, 101, 115, 115])))
    [.ret (.tup [.ix (.var 0) (.int 3)])]
    [],
   .ret (.tup [])], false⟩
/-- rebuilt: 0 formula, 1 parts, 2 word -/
def f_rebuilt : Fn :=
  ⟨2, 3,
  [.asg (.nm 2) (.ix (.var 0) (.int 0)),
   .ite (.or (.cmp .eq (.var 2) (.str [97, 110, 100])) (.cmp .eq (.var 2) (.str [111, 114])))
    [.ret (.tup [.var 2, .bi .tuple [.var 1]])]
    [],
   .ite (.cmp .eq (.var 2) (.str [110, 111, 116]))
    [.ret (.tup [.var 2, .ix (.var 1) (.int 0)])]
    [],
   .ite (.cmp .inn (.var 2) (.glob "QUANTIFIERS"))
    [.ret (.tup [.var 2, .ix (.var 0) (.int 1), .ix (.var 1) (.int 0)])]
    [],
   .ite (.cmp .eq (.var 2) (.str [116, 99]))
    [.ret (.tup [.var 2, .ix (.var 0) (.int 1), .ix (.var 1) (.int 0), .ix (.var 0) (.int 3)])]
    [],
   .ite (.cmp .inn (.var 2) (.glob "FIXED"))
    [.ret (.tup [.var 2, .ix (.var 0) (.int 1), .ix (.var 0) (.int 2), .ix (.var 1) (.int 0), .ix (.var 0) (.int 4)])]
    [],
   .ite (.cmp .eq (.var 2) (.str [103, 117, 101, 115, 115]))
    [.ret (.tup [.var 2, .ix (.var 0) (.int 1), .ix (.var 0) (.int 2), .ix (.var 1) (.int 0)])]
    [],
   .ret (.var 0)], false⟩
/-- own_name: 0 formula -/
def f_own_name : Fn :=
  ⟨1, 1,
  [.ite (.cmp .inn (.ix (.var 0) (.int 0)) (.glob "FIXED"))
    [.ret (.tup [.ix (.var 0) (.int 1), .bi .len [.ix (.var 0) (.int 2)]])]
    [],
   .ite (.cmp .eq (.ix (.var 0) (.int 0)) (.str [103, 117, 101, 115, 115]))
    [.ret (.tup [.ix (.var 0) (.int 1), .ix (.var 0) (.int 2)])]
    [],
   .ret (.non)], false⟩
/-- are_names: 0 value, 1 least, 2 most, 3 name -/
def f_are_names : Fn :=
  ⟨3, 4,
  [.ite (.or (.not (.isi (.var 0) [.tuple])) (.not (.chain .le .le (.var 1) (.bi .len [.var 0]) (.var 2))))
    [.ret (.bl false)]
    [],
   .for (.nm 3) 0 [.var 0]
    [.ite (.not (.call "is_name" [.var 3]))
      [.ret (.bl false)]
      []],
   .ret (.bl true)], false⟩
/-- are_variables: 0 value, 1 least, 2 most -/
def f_are_variables : Fn :=
  ⟨3, 3,
  [.ret (.and (.call "are_names" [.var 0, .var 1, .var 2]) (.cmp .eq (.lenset (.var 0)) (.bi .len [.var 0])))], false⟩
/-- is_well_made: 0 formula, 1 word -/
def f_is_well_made : Fn :=
  ⟨1, 2,
  [.ite (.or (.not (.isi (.var 0) [.tuple])) (.or (.not (.var 0)) (.not (.isi (.ix (.var 0) (.int 0)) [.str]))))
    [.ret (.bl false)]
    [],
   .asg (.nm 1) (.ix (.var 0) (.int 0)),
   .ite (.cmp .ne (.mt .get1 (.glob "LENGTHS") [.var 1]) (.bi .len [.var 0]))
    [.ret (.bl false)]
    [],
   .ite (.cmp .eq (.var 1) (.str [114, 101, 108]))
    [.ret (.and (.call "is_name" [.ix (.var 0) (.int 1)]) (.call "are_names" [.ix (.var 0) (.int 2), .int 0, .glob "PLACES"]))]
    [],
   .ite (.or (.cmp .eq (.var 1) (.str [101, 113])) (.cmp .eq (.var 1) (.str [108, 101, 115, 115])))
    [.ret (.and (.call "is_name" [.ix (.var 0) (.int 1)]) (.call "is_name" [.ix (.var 0) (.int 2)]))]
    [],
   .ite (.or (.cmp .eq (.var 1) (.str [97, 110, 100])) (.cmp .eq (.var 1) (.str [111, 114])))
    [.ret (.and (.isi (.ix (.var 0) (.int 1)) [.tuple]) (.cmp .le (.bi .len [.ix (.var 0) (.int 1)]) (.glob "BRANCHES")))]
    [],
   .ite (.cmp .inn (.var 1) (.glob "QUANTIFIERS"))
    [.ret (.call "are_variables" [.ix (.var 0) (.int 1), .int 1, .glob "PLACES"])]
    [],
   .ite (.cmp .inn (.var 1) (.glob "FIXED"))
    [.ite (.or (.not (.call "is_name" [.ix (.var 0) (.int 1)])) (.not (.call "are_variables" [.ix (.var 0) (.int 2), .int 1, .glob "PLACES"])))
      [.ret (.bl false)]
      [],
     .ret (.call "are_names" [.ix (.var 0) (.int 4), .bi .len [.ix (.var 0) (.int 2)], .bi .len [.ix (.var 0) (.int 2)]])]
    [],
   .ite (.cmp .eq (.var 1) (.str [116, 99]))
    [.ite (.or (.not (.call "are_variables" [.ix (.var 0) (.int 1), .int 2, .glob "STEPS"])) (.cmp .eq (.op .mod (.bi .len [.ix (.var 0) (.int 1)]) (.int 2)) (.int 1)))
      [.ret (.bl false)]
      [],
     .ret (.call "are_names" [.ix (.var 0) (.int 3), .bi .len [.ix (.var 0) (.int 1)], .bi .len [.ix (.var 0) (.int 1)]])]
    [],
   .ite (.cmp .eq (.var 1) (.str [103, 117, 101, 115, 115]))
    [.ret (.and (.call "is_name" [.ix (.var 0) (.int 1)]) (.call "is_below" [.ix (.var 0) (.int 2), .op .add (.glob "GUESSED") (.int 1)]))]
    [],
   .ret (.bl true)], false⟩
/-- agrees: 0 formula, 1 name, 2 even, 3 own, 4 part -/
def f_agrees : Fn :=
  ⟨3, 5,
  [.ite (.cmp .eq (.ix (.var 0) (.int 0)) (.str [114, 101, 108]))
    [.ret (.or (.cmp .ne (.ix (.var 0) (.int 1)) (.var 1)) (.var 2))]
    [],
   .asg (.nm 3) (.call "own_name" [.var 0]),
   .ite (.and (.cmp .notN (.var 3) (.non)) (.cmp .eq (.ix (.var 3) (.int 0)) (.var 1)))
    [.ret (.bl true)]
    [],
   .ite (.and (.cmp .eq (.ix (.var 0) (.int 0)) (.str [112, 102, 112])) (.call "occurs" [.ix (.var 0) (.int 3), .var 1]))
    [.ret (.bl false)]
    [],
   .for (.nm 4) 0 [.call "inner" [.var 0]]
    [.ite (.not (.call "agrees" [.var 4, .var 1, .ite (.cmp .eq (.ix (.var 0) (.int 0)) (.str [110, 111, 116])) (.not (.var 2)) (.var 2)]))
      [.ret (.bl false)]
      []],
   .ret (.bl true)], false⟩
/-- occurs: 0 formula, 1 name, 2 own, 3 part -/
def f_occurs : Fn :=
  ⟨2, 4,
  [.ite (.cmp .eq (.ix (.var 0) (.int 0)) (.str [114, 101, 108]))
    [.ret (.cmp .eq (.ix (.var 0) (.int 1)) (.var 1))]
    [],
   .asg (.nm 2) (.call "own_name" [.var 0]),
   .ite (.and (.cmp .notN (.var 2) (.non)) (.cmp .eq (.ix (.var 2) (.int 0)) (.var 1)))
    [.ret (.bl false)]
    [],
   .for (.nm 3) 0 [.call "inner" [.var 0]]
    [.ite (.call "occurs" [.var 3, .var 1])
      [.ret (.bl true)]
      []],
   .ret (.bl false)], false⟩
/-- looked: 0 formula, 1 look -/
def f_looked : Fn :=
  ⟨1, 2,
  [.asg (.nm 1) (.new "Look" []),
   .expr (.meth (.var 1) "go" [.var 0, .dct [] [], .int 1]),
   .ret (.var 1)], false⟩
/-- sized: 0 formula -/
def f_sized : Fn :=
  ⟨1, 1,
  [.try
    [.expr (.call "looked" [.var 0])] "BadFormula" none
    [.raiseN "TooLarge"],
   .ret (.var 0)], false⟩
/-- moved: 0 formula, 1 even, 2 word, 3 turned, 4 part, 5 kept -/
def f_moved : Fn :=
  ⟨2, 6,
  [.asg (.nm 2) (.ix (.var 0) (.int 0)),
   .ite (.cmp .eq (.var 2) (.str [110, 111, 116]))
    [.ret (.call "moved" [.ix (.var 0) (.int 1), .not (.var 1)])]
    [],
   .ite (.cmp .inn (.var 2) (.glob "DUAL"))
    [.asg (.nm 3) (.call "rebuilt" [.var 0, .lc true (.call "moved" [.var 4, .var 1]) (.nm 4) 0 [.call "inner" [.var 0]] [] [4]]),
     .ite (.var 1)
      [.ret (.var 3)]
      [],
     .ret (.op .add (.tup [.ix (.glob "DUAL") (.var 2)]) (.fslice (.var 3) (some (.int 1)) none))]
    [],
   .asg (.nm 5) (.call "rebuilt" [.var 0, .lc true (.call "moved" [.var 4, .bl true]) (.nm 4) 0 [.call "inner" [.var 0]] [] [4]]),
   .ite (.var 1)
    [.ret (.var 5)]
    [],
   .ret (.tup [.str [110, 111, 116], .var 5])], false⟩
/-- inward: 0 formula -/
def f_inward : Fn :=
  ⟨1, 1,
  [.expr (.call "looked" [.var 0]),
   .ret (.call "sized" [.call "moved" [.var 0, .bl true]])], false⟩
/-- _law_some_of: 0 _law_draws, 1 _law_pool, 2 _law_many, 3 _law_left, 4 _law_chosen, 5 _law_k -/
def f__law_some_of : Fn :=
  ⟨3, 6,
  [.asg (.nm 3) (.bi .list [.var 1]),
   .asg (.nm 4) (.lst []),
   .for (.nm 5) 1 [.var 2]
    [.expr (.mt .append (.var 4) [.mt .popAt (.var 3) [.op .mod (.call "_law_draw" [.var 0]) (.bi .len [.var 3])]])],
   .ret (.var 4)], false⟩
/-- _law_atom: 0 _law_draws, 1 _law_pool, 2 _law_names_here, 3 _law_usable, 4 _law_one, 5 _law_pick, 6 _law_k, 7 _law_word -/
def f__law_atom : Fn :=
  ⟨3, 8,
  [.asg (.nm 3) (.lc true (.var 4) (.nm 4) 0 [.var 2] [.cmp .lt (.ix (.var 4) (.int 2)) (.int 2)] [4]),
   .asg (.nm 5) (.op .mod (.call "_law_draw" [.var 0]) (.int 5)),
   .ite (.and (.cmp .lt (.var 5) (.int 3)) (.cmp .gt (.bi .len [.var 3]) (.int 0)))
    [.asg (.nm 4) (.ix (.var 3) (.op .mod (.call "_law_draw" [.var 0]) (.bi .len [.var 3]))),
     .ret (.tup [.str [114, 101, 108], .ix (.var 4) (.int 0), .bi .tuple [.lc true (.ix (.var 1) (.op .mod (.call "_law_draw" [.var 0]) (.bi .len [.var 1]))) (.nm 6) 1 [.ix (.var 4) (.int 1)] [] [6]]])]
    [],
   .asg (.nm 7) (.ix (.flst [.str [101, 113], .str [108, 101, 115, 115]]) (.op .mod (.call "_law_draw" [.var 0]) (.int 2))),
   .ret (.tup [.var 7, .ix (.var 1) (.op .mod (.call "_law_draw" [.var 0]) (.bi .len [.var 1])), .ix (.var 1) (.op .mod (.call "_law_draw" [.var 0]) (.bi .len [.var 1]))])], false⟩
/-- _law_within: 0 _law_names_here, 1 _law_name, 2 _law_arity, 3 _law_mode, 4 _law_one -/
def f__law_within : Fn :=
  ⟨4, 5,
  [.ret (.op .add (.lc true (.var 4) (.nm 4) 0 [.var 0] [.cmp .ne (.ix (.var 4) (.int 0)) (.var 1)] [4]) (.flst [.tup [.var 1, .var 2, .var 3]]))], false⟩
/-- _law_turned: 0 _law_names_here, 1 _law_one -/
def f__law_turned : Fn :=
  ⟨1, 2,
  [.ret (.lc true (.tup [.ix (.var 1) (.int 0), .ix (.var 1) (.int 1), .ix (.flst [.int 0, .int 2, .int 1, .int 3]) (.ix (.var 1) (.int 2))]) (.nm 1) 0 [.var 0] [] [1])], false⟩
/-- _law_barred: 0 _law_names_here, 1 _law_one -/
def f__law_barred : Fn :=
  ⟨1, 2,
  [.ret (.lc true (.tup [.ix (.var 1) (.int 0), .ix (.var 1) (.int 1), .ix (.flst [.int 0, .int 3, .int 3, .int 3]) (.ix (.var 1) (.int 2))]) (.nm 1) 0 [.var 0] [] [1])], false⟩
/-- _law_bound: 0 _law_draws, 1 _law_deep, 2 _law_pool, 3 _law_names_here, 4 _law_kinds, 5 _law_pick, 6 _law_args, 7 _law_given, 8 _law_x, 9 _law_name, 10 _law_inner, 11 _law_arity -/
def f__law_bound : Fn :=
  ⟨5, 12,
  [.asg (.nm 5) (.ix (.var 4) (.op .mod (.call "_law_draw" [.var 0]) (.bi .len [.var 4]))),
   .ite (.and (.cmp .eq (.bi .len [.var 2]) (.int 1)) (.cmp .eq (.var 5) (.str [116, 99])))
    [.asg (.nm 5) (.str [115, 111, 109, 101])]
    [],
   .asg (.nm 6) (.call "_law_some_of" [.var 0, .var 2, .bi .min2 [.bi .len [.var 2], .ix (.flst [.int 1, .int 1, .int 1, .int 2, .int 2, .int 3]) (.op .mod (.call "_law_draw" [.var 0]) (.int 6))]]),
   .asg (.nm 7) (.bi .tuple [.lc true (.ix (.var 2) (.op .mod (.call "_law_draw" [.var 0]) (.bi .len [.var 2]))) (.nm 8) 0 [.var 6] [] [8]]),
   .asg (.nm 9) (.ix (.flst [.str [114], .str [115], .str [101]]) (.op .mod (.call "_law_draw" [.var 0]) (.int 3))),
   .ite (.or (.cmp .eq (.var 5) (.str [115, 111, 109, 101])) (.cmp .eq (.var 5) (.str [97, 108, 108])))
    [.ret (.tup [.var 5, .bi .tuple [.var 6], .call "_law_formula" [.var 0, .op .sub (.var 1) (.int 1), .var 2, .var 3, .var 4]])]
    [],
   .ite (.cmp .eq (.var 5) (.str [108, 102, 112]))
    [.asg (.nm 10) (.call "_law_within" [.var 3, .var 9, .bi .len [.var 6], .int 1]),
     .ret (.tup [.str [108, 102, 112], .var 9, .bi .tuple [.var 6], .call "_law_formula" [.var 0, .op .sub (.var 1) (.int 1), .var 2, .var 10, .var 4], .var 7])]
    [],
   .ite (.cmp .eq (.var 5) (.str [112, 102, 112]))
    [.asg (.nm 10) (.call "_law_within" [.call "_law_barred" [.var 3], .var 9, .bi .len [.var 6], .int 0]),
     .ret (.tup [.str [112, 102, 112], .var 9, .bi .tuple [.var 6], .call "_law_formula" [.var 0, .op .sub (.var 1) (.int 1), .var 2, .var 10, .var 4], .var 7])]
    [],
   .ite (.cmp .eq (.var 5) (.str [116, 99]))
    [.asg (.nm 6) (.call "_law_some_of" [.var 0, .var 2, .int 2]),
     .asg (.nm 7) (.tup [.ix (.var 2) (.op .mod (.call "_law_draw" [.var 0]) (.bi .len [.var 2])), .ix (.var 2) (.op .mod (.call "_law_draw" [.var 0]) (.bi .len [.var 2]))]),
     .ret (.tup [.str [116, 99], .bi .tuple [.var 6], .call "_law_formula" [.var 0, .op .sub (.var 1) (.int 1), .var 2, .var 3, .var 4], .var 7])]
    [],
   .asg (.nm 11) (.op .mod (.call "_law_draw" [.var 0]) (.int 2)),
   .asg (.nm 10) (.call "_law_within" [.var 3, .var 9, .var 11, .int 0]),
   .ret (.tup [.str [103, 117, 101, 115, 115], .var 9, .var 11, .call "_law_formula" [.var 0, .op .sub (.var 1) (.int 1), .var 2, .var 10, .var 4]])], false⟩
/-- _law_formula: 0 _law_draws, 1 _law_deep, 2 _law_pool, 3 _law_names_here, 4 _law_kinds, 5 _law_pick, 6 _law_word, 7 _law_many, 8 _law_k -/
def f__law_formula : Fn :=
  ⟨5, 9,
  [.asg (.nm 5) (.op .mod (.call "_law_draw" [.var 0]) (.int 6)),
   .ite (.or (.cmp .le (.var 1) (.int 1)) (.cmp .eq (.var 5) (.int 0)))
    [.ret (.call "_law_atom" [.var 0, .var 2, .var 3])]
    [],
   .ite (.cmp .eq (.var 5) (.int 1))
    [.ret (.tup [.str [110, 111, 116], .call "_law_formula" [.var 0, .op .sub (.var 1) (.int 1), .var 2, .call "_law_turned" [.var 3], .var 4]])]
    [],
   .ite (.cmp .lt (.var 5) (.int 4))
    [.asg (.nm 6) (.ix (.flst [.str [97, 110, 100], .str [111, 114]]) (.op .mod (.call "_law_draw" [.var 0]) (.int 2))),
     .asg (.nm 7) (.ix (.flst [.int 0, .int 1, .int 2, .int 2, .int 2, .int 3]) (.op .mod (.call "_law_draw" [.var 0]) (.int 6))),
     .ret (.tup [.var 6, .bi .tuple [.lc true (.call "_law_formula" [.var 0, .op .sub (.var 1) (.int 1), .var 2, .var 3, .var 4]) (.nm 8) 1 [.var 7] [] [8]]])]
    [],
   .ret (.call "_law_bound" [.var 0, .var 1, .var 2, .var 3, .var 4])], false⟩
/-- _law_names: 0 _law_draws -/
def f__law_names : Fn :=
  ⟨1, 1,
  [.ret (.fslice (.flst [.tup [.str [101], .int 2, .int 0], .tup [.str [112], .int 1, .int 0], .tup [.str [113], .int 0, .int 0]]) none (some (.op .add (.int 1) (.op .mod (.call "_law_draw" [.var 0]) (.int 3)))))], false⟩
/-- _law_parts: 0 _law_f -/
def f__law_parts : Fn :=
  ⟨1, 1,
  [.ite (.cmp .eq (.ix (.var 0) (.int 0)) (.str [110, 111, 116]))
    [.ret (.flst [.ix (.var 0) (.int 1)])]
    [],
   .ite (.or (.cmp .eq (.ix (.var 0) (.int 0)) (.str [97, 110, 100])) (.cmp .eq (.ix (.var 0) (.int 0)) (.str [111, 114])))
    [.ret (.bi .flist [.ix (.var 0) (.int 1)])]
    [],
   .ite (.cmp .inn (.ix (.var 0) (.int 0)) (.flst [.str [115, 111, 109, 101], .str [97, 108, 108], .str [116, 99]]))
    [.ret (.flst [.ix (.var 0) (.int 2)])]
    [],
   .ite (.cmp .inn (.ix (.var 0) (.int 0)) (.flst [.str [108, 102, 112], .str [112, 102, 112], .str [103, 117, 101, 115, 115]]))
    [.ret (.flst [.ix (.var 0) (.int 3)])]
    [],
   .ret (.flst [])], false⟩
/-- _law_inward: 0 _law_f, 1 _law_inner, 2 _law_word, 3 _law_part -/
def f__law_inward : Fn :=
  ⟨1, 4,
  [.ite (.cmp .eq (.ix (.var 0) (.int 0)) (.str [110, 111, 116]))
    [.asg (.nm 1) (.ix (.var 0) (.int 1)),
     .ite (.cmp .eq (.ix (.var 1) (.int 0)) (.str [110, 111, 116]))
      [.ret (.call "_law_inward" [.ix (.var 1) (.int 1)])]
      [],
     .ite (.or (.cmp .eq (.ix (.var 1) (.int 0)) (.str [97, 110, 100])) (.cmp .eq (.ix (.var 1) (.int 0)) (.str [111, 114])))
      [.asg (.nm 2) (.ix (.flst [.str [97, 110, 100], .str [111, 114]]) (.bi .int [.cmp .eq (.ix (.var 1) (.int 0)) (.str [97, 110, 100])])),
       .ret (.tup [.var 2, .bi .tuple [.lc true (.call "_law_inward" [.tup [.str [110, 111, 116], .var 3]]) (.nm 3) 0 [.ix (.var 1) (.int 1)] [] [3]]])]
      [],
     .ite (.or (.cmp .eq (.ix (.var 1) (.int 0)) (.str [115, 111, 109, 101])) (.cmp .eq (.ix (.var 1) (.int 0)) (.str [97, 108, 108])))
      [.asg (.nm 2) (.ix (.flst [.str [115, 111, 109, 101], .str [97, 108, 108]]) (.bi .int [.cmp .eq (.ix (.var 1) (.int 0)) (.str [115, 111, 109, 101])])),
       .ret (.tup [.var 2, .ix (.var 1) (.int 1), .call "_law_inward" [.tup [.str [110, 111, 116], .ix (.var 1) (.int 2)]]])]
      [],
     .ret (.tup [.str [110, 111, 116], .call "_law_inward" [.var 1]])]
    [],
   .ite (.or (.cmp .eq (.ix (.var 0) (.int 0)) (.str [97, 110, 100])) (.cmp .eq (.ix (.var 0) (.int 0)) (.str [111, 114])))
    [.ret (.tup [.ix (.var 0) (.int 0), .bi .tuple [.lc true (.call "_law_inward" [.var 3]) (.nm 3) 0 [.ix (.var 0) (.int 1)] [] [3]]])]
    [],
   .ite (.cmp .inn (.ix (.var 0) (.int 0)) (.flst [.str [115, 111, 109, 101], .str [97, 108, 108], .str [116, 99]]))
    [.ret (.op .add (.op .add (.fslice (.var 0) none (some (.int 2))) (.tup [.call "_law_inward" [.ix (.var 0) (.int 2)]])) (.fslice (.var 0) (some (.int 3)) none))]
    [],
   .ite (.cmp .inn (.ix (.var 0) (.int 0)) (.flst [.str [108, 102, 112], .str [112, 102, 112], .str [103, 117, 101, 115, 115]]))
    [.ret (.op .add (.op .add (.fslice (.var 0) none (some (.int 3))) (.tup [.call "_law_inward" [.ix (.var 0) (.int 3)]])) (.fslice (.var 0) (some (.int 4)) none))]
    [],
   .ret (.var 0)], false⟩
/-- _law_negated: 0 _law_draws, 1 _law_f, 2 _law_part -/
def f__law_negated : Fn :=
  ⟨2, 3,
  [.ite (.or (.cmp .eq (.ix (.var 1) (.int 0)) (.str [97, 110, 100])) (.cmp .eq (.ix (.var 1) (.int 0)) (.str [111, 114])))
    [.asg (.nm 1) (.tup [.ix (.var 1) (.int 0), .bi .tuple [.lc true (.call "_law_negated" [.var 0, .var 2]) (.nm 2) 0 [.ix (.var 1) (.int 1)] [] [2]]])]
    [.ite (.or (.cmp .eq (.ix (.var 1) (.int 0)) (.str [115, 111, 109, 101])) (.cmp .eq (.ix (.var 1) (.int 0)) (.str [97, 108, 108])))
      [.asg (.nm 1) (.tup [.ix (.var 1) (.int 0), .ix (.var 1) (.int 1), .call "_law_negated" [.var 0, .ix (.var 1) (.int 2)]])]
      []],
   .ite (.cmp .eq (.op .mod (.call "_law_draw" [.var 0]) (.int 3)) (.int 0))
    [.ret (.tup [.str [110, 111, 116], .var 1])]
    [],
   .ret (.var 1)], false⟩
/-- _law_count: 0 _law_f, 1 _law_part -/
def f__law_count : Fn :=
  ⟨1, 2,
  [.ret (.op .add (.int 1) (.bi .sum [.lc true (.call "_law_count" [.var 1]) (.nm 1) 0 [.call "_law_parts" [.var 0]] [] [1]]))], false⟩
/-- _law_told: 0 _law_f, 1 e -/
def f__law_told : Fn :=
  ⟨1, 2,
  [.try
    [.ret (.call "inward" [.var 0])] "TooLarge" (some 1)
    [.ite (.isi (.var 1) [.cls "BadFormula"]) [.ret (.tup [.str [114, 101, 102, 117, 115, 101, 100], .str [102, 111, 114, 109, 117, 108, 97]])] []],
   .ret (.tup [.str [114, 101, 102, 117, 115, 101, 100], .str [108, 97, 114, 103, 101]])], false⟩
/-- law: 0 _law_script, 1 _law_draws, 2 _law_kinds, 3 _law_f, 4 _law_row, 5 _law_due, 6 _law_told_here -/
def f_law : Fn :=
  ⟨1, 7,
  [.asg (.nm 1) (.lst [.call "_law_numbers" [.var 0], .int 0]),
   .asg (.nm 2) (.flst [.str [115, 111, 109, 101], .str [97, 108, 108], .str [108, 102, 112], .str [112, 102, 112], .str [116, 99], .str [103, 117, 101, 115, 115]]),
   .ite (.cmp .eq (.op .mod (.call "_law_draw" [.var 1]) (.int 2)) (.int 0))
    [.asg (.nm 2) (.flst [.str [115, 111, 109, 101], .str [97, 108, 108]])]
    [],
   .asg (.nm 3) (.call "_law_formula" [.var 1, .op .add (.int 2) (.op .mod (.call "_law_draw" [.var 1]) (.int 5)), .flst [.str [120], .str [121], .str [122]], .call "_law_names" [.var 1], .var 2]),
   .ite (.cmp .eq (.bi .len [.var 2]) (.int 2))
    [.asg (.nm 3) (.call "_law_negated" [.var 1, .var 3])]
    [],
   .ite (.cmp .eq (.op .mod (.call "_law_draw" [.var 1]) (.int 16)) (.int 0))
    [.asg (.nm 4) (.tup [.str [111, 114], .op .mul (.tup [.tup [.str [101, 113], .str [120], .str [121]]]) (.op .add (.int 20) (.op .mod (.call "_law_draw" [.var 1]) (.int 8)))]),
     .asg (.nm 3) (.tup [.str [110, 111, 116], .tup [.str [97, 110, 100], .op .mul (.tup [.var 4]) (.op .add (.int 34) (.op .mod (.call "_law_draw" [.var 1]) (.int 7)))]]),
     .ite (.cmp .gt (.call "_law_count" [.var 3]) (.int 2000))
      [.ret (.bl true)]
      []]
    [],
   .asg (.nm 5) (.call "_law_inward" [.var 3]),
   .ite (.cmp .gt (.call "_law_count" [.var 5]) (.int 2000))
    [.ret (.call "_law_equal" [.call "_law_told" [.var 3], .tup [.str [114, 101, 102, 117, 115, 101, 100], .str [108, 97, 114, 103, 101]]])]
    [],
   .asg (.nm 6) (.call "_law_told" [.var 3]),
   .ret (.and (.call "_law_equal" [.var 6, .var 5]) (.call "_law_equal" [.call "_law_told" [.var 6], .var 5]))], false⟩
/-- __init__: 0 self -/
def m_Look___init__ : Fn :=
  ⟨1, 1,
  [.asgFld (.var 0) "count" (.int 0),
   .asgFld (.var 0) "found" (.dct [] [])], false⟩
/-- rel: 0 self, 1 name, 2 arity, 3 bound -/
def m_Look_rel : Fn :=
  ⟨4, 4,
  [.ite (.cmp .inn (.var 1) (.var 3))
    [.ite (.cmp .ne (.ix (.var 3) (.var 1)) (.var 2))
      [.raise "BadFormula"]
      []]
    [.ite (.cmp .ne (.mt .setdefault (.fld (.var 0) "found") [.var 1, .var 2]) (.var 2))
      [.raise "BadFormula"]
      []]], false⟩
/-- go: 0 self, 1 formula, 2 bound, 3 deep, 4 own, 5 part -/
def m_Look_go : Fn :=
  ⟨4, 6,
  [.augFld (.var 0) "count" .add (.int 1),
   .ite (.or (.cmp .gt (.fld (.var 0) "count") (.glob "MOST")) (.cmp .gt (.var 3) (.glob "DEEPEST")))
    [.raise "BadFormula"]
    [],
   .ite (.not (.call "is_well_made" [.var 1]))
    [.raise "BadFormula"]
    [],
   .ite (.cmp .eq (.ix (.var 1) (.int 0)) (.str [114, 101, 108]))
    [.expr (.meth (.var 0) "rel" [.ix (.var 1) (.int 1), .bi .len [.ix (.var 1) (.int 2)], .var 2])]
    [],
   .asg (.nm 4) (.call "own_name" [.var 1]),
   .ite (.cmp .notN (.var 4) (.non))
    [.asg (.nm 2) (.bi .dict [.var 2]),
     .asgIx (.var 2) (.ix (.var 4) (.int 0)) (.ix (.var 4) (.int 1))]
    [],
   .for (.nm 5) 0 [.call "inner" [.var 1]]
    [.expr (.meth (.var 0) "go" [.var 5, .var 2, .op .add (.var 3) (.int 1)])],
   .ite (.and (.cmp .eq (.ix (.var 1) (.int 0)) (.str [108, 102, 112])) (.not (.call "agrees" [.ix (.var 1) (.int 3), .ix (.var 1) (.int 1), .bl true])))
    [.raise "BadFormula"]
    []], false⟩
def prog : Prog :=
  ⟨[("is_integer", f_is_integer),
    ("is_below", f_is_below),
    ("is_name", f_is_name),
    ("inner", f_inner),
    ("rebuilt", f_rebuilt),
    ("own_name", f_own_name),
    ("are_names", f_are_names),
    ("are_variables", f_are_variables),
    ("is_well_made", f_is_well_made),
    ("agrees", f_agrees),
    ("occurs", f_occurs),
    ("looked", f_looked),
    ("sized", f_sized),
    ("moved", f_moved),
    ("inward", f_inward),
    ("_law_mixed", f__law_mixed),
    ("_law_numbers", f__law_numbers),
    ("_law_draw", f__law_draw),
    ("_law_equal", f__law_equal),
    ("_law_all_equal", f__law_all_equal),
    ("_law_some_of", f__law_some_of),
    ("_law_atom", f__law_atom),
    ("_law_within", f__law_within),
    ("_law_turned", f__law_turned),
    ("_law_barred", f__law_barred),
    ("_law_bound", f__law_bound),
    ("_law_formula", f__law_formula),
    ("_law_names", f__law_names),
    ("_law_parts", f__law_parts),
    ("_law_inward", f__law_inward),
    ("_law_negated", f__law_negated),
    ("_law_count", f__law_count),
    ("_law_told", f__law_told),
    ("law", f_law)],
   [("BRANCHES", .int 40),
    ("DEEPEST", .int 40),
    ("DUAL", .fzd [.str [97, 110, 100], .str [111, 114], .str [115, 111, 109, 101], .str [97, 108, 108]] [.str [111, 114], .str [97, 110, 100], .str [97, 108, 108], .str [115, 111, 109, 101]]),
    ("FIGURES", .str [48, 49, 50, 51, 52, 53, 54, 55, 56, 57]),
    ("FIXED", .tup [.str [108, 102, 112], .str [112, 102, 112]]),
    ("GUESSED", .int 3),
    ("LENGTHS", .fzd [.str [114, 101, 108], .str [101, 113], .str [108, 101, 115, 115], .str [110, 111, 116], .str [97, 110, 100], .str [111, 114], .str [115, 111, 109, 101], .str [97, 108, 108], .str [108, 102, 112], .str [112, 102, 112], .str [116, 99], .str [103, 117, 101, 115, 115]] [.int 3, .int 3, .int 3, .int 2, .int 2, .int 2, .int 3, .int 3, .int 5, .int 5, .int 4, .int 4]),
    ("LETTERS", .str [97, 98, 99, 100, 101, 102, 103, 104, 105, 106, 107, 108, 109, 110, 111, 112, 113, 114, 115, 116, 117, 118, 119, 120, 121, 122]),
    ("LONGEST", .int 12),
    ("MOST", .int 2000),
    ("PLACES", .int 6),
    ("QUANTIFIERS", .tup [.str [115, 111, 109, 101], .str [97, 108, 108]]),
    ("STEPS", .int 8),
    ("WORDS", .tup [.str [97, 110, 100], .str [111, 114], .str [110, 111, 116], .str [115, 111, 109, 101], .str [97, 108, 108], .str [108, 102, 112], .str [112, 102, 112], .str [116, 99], .str [103, 117, 101, 115, 115], .str [116, 114, 117, 101], .str [102, 97, 108, 115, 101]])],
   [(("Look", "__init__"), m_Look___init__),
    (("Look", "rel"), m_Look_rel),
    (("Look", "go"), m_Look_go)],
   [("Look", ["count", "found"])],
   [(("BadFormula", "BadFormula"), true), (("BadFormula", "TooLarge"), false), (("TooLarge", "BadFormula"), false), (("TooLarge", "TooLarge"), true)]⟩
def pk : Pk := ⟨["sized", "inward", "_law_told", "law", "is_integer", "is_below", "is_name", "inner", "rebuilt", "own_name", "are_names", "are_variables", "is_well_made", "agrees", "occurs", "looked", "moved", "_law_mixed", "_law_numbers", "_law_draw", "_law_equal", "_law_all_equal", "_law_some_of", "_law_atom", "_law_within", "_law_turned", "_law_barred", "_law_bound", "_law_formula", "_law_names", "_law_parts", "_law_inward", "_law_negated", "_law_count"],
  ["bool", "dict", "int", "isinstance", "len", "list", "min", "range", "set", "str", "sum", "tuple"],
  ["BRANCHES", "DEEPEST", "DUAL", "FIGURES", "FIXED", "GUESSED", "LENGTHS", "LETTERS", "LONGEST", "MOST", "PLACES", "QUANTIFIERS", "STEPS", "WORDS"],
  ["BadFormula", "TooLarge"],
  ["Look"], true,
  ["is_integer", "is_below", "is_name", "inner", "rebuilt", "own_name", "are_names", "are_variables", "is_well_made", "agrees", "occurs", "looked", "moved", "_law_mixed", "_law_numbers", "_law_draw", "_law_equal", "_law_all_equal", "_law_some_of", "_law_atom", "_law_within", "_law_turned", "_law_barred", "_law_bound", "_law_formula", "_law_names", "_law_parts", "_law_inward", "_law_negated", "_law_count"], true⟩
def top (i : Nat) : PySem.Stmt := PySem.Challenge.pw_sayso_k20_negations_move_inward.main.body.getD i (.Pass ⟨0, 0, 0, 0⟩)
abbrev n_is_integer : List PySem.Str := [PySem.Str.ofString "value"]
abbrev p_is_integer : List PySem.Str := [PySem.Str.ofString "value"]
theorem q_is_integer : chkFn pk.lo (top 10) n_is_integer p_is_integer f_is_integer = true := by decide +kernel
abbrev n_is_below : List PySem.Str := [PySem.Str.ofString "value", PySem.Str.ofString "bound"]
abbrev p_is_below : List PySem.Str := [PySem.Str.ofString "value", PySem.Str.ofString "bound"]
theorem q_is_below : chkFn pk.lo (top 11) n_is_below p_is_below f_is_below = true := by decide +kernel
abbrev n_is_name : List PySem.Str := [PySem.Str.ofString "text", PySem.Str.ofString "sign"]
abbrev p_is_name : List PySem.Str := [PySem.Str.ofString "text"]
theorem q_is_name : chkFn pk.lo (top 12) n_is_name p_is_name f_is_name = true := by decide +kernel
abbrev n_inner : List PySem.Str := [PySem.Str.ofString "formula", PySem.Str.ofString "word"]
abbrev p_inner : List PySem.Str := [PySem.Str.ofString "formula"]
theorem q_inner : chkFn pk.lo (top 22) n_inner p_inner f_inner = true := by decide +kernel
abbrev n_rebuilt : List PySem.Str := [PySem.Str.ofString "formula", PySem.Str.ofString "parts", PySem.Str.ofString "word"]
abbrev p_rebuilt : List PySem.Str := [PySem.Str.ofString "formula", PySem.Str.ofString "parts"]
theorem q_rebuilt : chkFn pk.lo (top 23) n_rebuilt p_rebuilt f_rebuilt = true := by decide +kernel
abbrev n_own_name : List PySem.Str := [PySem.Str.ofString "formula"]
abbrev p_own_name : List PySem.Str := [PySem.Str.ofString "formula"]
theorem q_own_name : chkFn pk.lo (top 24) n_own_name p_own_name f_own_name = true := by decide +kernel
abbrev n_are_names : List PySem.Str := [PySem.Str.ofString "value", PySem.Str.ofString "least", PySem.Str.ofString "most", PySem.Str.ofString "name"]
abbrev p_are_names : List PySem.Str := [PySem.Str.ofString "value", PySem.Str.ofString "least", PySem.Str.ofString "most"]
theorem q_are_names : chkFn pk.lo (top 25) n_are_names p_are_names f_are_names = true := by decide +kernel
abbrev n_are_variables : List PySem.Str := [PySem.Str.ofString "value", PySem.Str.ofString "least", PySem.Str.ofString "most"]
abbrev p_are_variables : List PySem.Str := [PySem.Str.ofString "value", PySem.Str.ofString "least", PySem.Str.ofString "most"]
theorem q_are_variables : chkFn pk.lo (top 26) n_are_variables p_are_variables f_are_variables = true := by decide +kernel
abbrev n_is_well_made : List PySem.Str := [PySem.Str.ofString "formula", PySem.Str.ofString "word"]
abbrev p_is_well_made : List PySem.Str := [PySem.Str.ofString "formula"]
theorem q_is_well_made : chkFn pk.lo (top 27) n_is_well_made p_is_well_made f_is_well_made = true := by decide +kernel
abbrev n_agrees : List PySem.Str := [PySem.Str.ofString "formula", PySem.Str.ofString "name", PySem.Str.ofString "even", PySem.Str.ofString "own", PySem.Str.ofString "part"]
abbrev p_agrees : List PySem.Str := [PySem.Str.ofString "formula", PySem.Str.ofString "name", PySem.Str.ofString "even"]
theorem q_agrees : chkFn pk.lo (top 29) n_agrees p_agrees f_agrees = true := by decide +kernel
abbrev n_occurs : List PySem.Str := [PySem.Str.ofString "formula", PySem.Str.ofString "name", PySem.Str.ofString "own", PySem.Str.ofString "part"]
abbrev p_occurs : List PySem.Str := [PySem.Str.ofString "formula", PySem.Str.ofString "name"]
theorem q_occurs : chkFn pk.lo (top 30) n_occurs p_occurs f_occurs = true := by decide +kernel
abbrev n_looked : List PySem.Str := [PySem.Str.ofString "formula", PySem.Str.ofString "look"]
abbrev p_looked : List PySem.Str := [PySem.Str.ofString "formula"]
theorem q_looked : chkFn pk.lo (top 31) n_looked p_looked f_looked = true := by decide +kernel
abbrev n_sized : List PySem.Str := [PySem.Str.ofString "formula"]
abbrev p_sized : List PySem.Str := [PySem.Str.ofString "formula"]
theorem q_sized : chkFn pk (top 34) n_sized p_sized f_sized = true := by decide +kernel
abbrev n_moved : List PySem.Str := [PySem.Str.ofString "formula", PySem.Str.ofString "even", PySem.Str.ofString "word", PySem.Str.ofString "turned", PySem.Str.ofString "part", PySem.Str.ofString "kept"]
abbrev p_moved : List PySem.Str := [PySem.Str.ofString "formula", PySem.Str.ofString "even"]
theorem q_moved : chkFn pk.lo (top 35) n_moved p_moved f_moved = true := by decide +kernel
abbrev n_inward : List PySem.Str := [PySem.Str.ofString "formula"]
abbrev p_inward : List PySem.Str := [PySem.Str.ofString "formula"]
theorem q_inward : chkFn pk (top 36) n_inward p_inward f_inward = true := by decide +kernel
abbrev n__law_mixed : List PySem.Str := [PySem.Str.ofString "_law_number", PySem.Str.ofString "_law_k", PySem.Str.ofString "_law_step"]
abbrev p__law_mixed : List PySem.Str := [PySem.Str.ofString "_law_number", PySem.Str.ofString "_law_k"]
theorem q__law_mixed : chkFn pk.lo (top 38) n__law_mixed p__law_mixed f__law_mixed = true := by decide +kernel
abbrev n__law_numbers : List PySem.Str := [PySem.Str.ofString "_law_script", PySem.Str.ofString "_law_numbers_here", PySem.Str.ofString "_law_cell", PySem.Str.ofString "_law_rest", PySem.Str.ofString "_law_k"]
abbrev p__law_numbers : List PySem.Str := [PySem.Str.ofString "_law_script"]
theorem q__law_numbers : chkFn pk.lo (top 39) n__law_numbers p__law_numbers f__law_numbers = true := by decide +kernel
abbrev n__law_draw : List PySem.Str := [PySem.Str.ofString "_law_draws", PySem.Str.ofString "_law_at", PySem.Str.ofString "_law_first"]
abbrev p__law_draw : List PySem.Str := [PySem.Str.ofString "_law_draws"]
theorem q__law_draw : chkFn pk.lo (top 40) n__law_draw p__law_draw f__law_draw = true := by decide +kernel
abbrev n__law_equal : List PySem.Str := [PySem.Str.ofString "_law_actual", PySem.Str.ofString "_law_due"]
abbrev p__law_equal : List PySem.Str := [PySem.Str.ofString "_law_actual", PySem.Str.ofString "_law_due"]
theorem q__law_equal : chkFn pk.lo (top 41) n__law_equal p__law_equal f__law_equal = true := by decide +kernel
abbrev n__law_all_equal : List PySem.Str := [PySem.Str.ofString "_law_actual", PySem.Str.ofString "_law_due", PySem.Str.ofString "_law_k"]
abbrev p__law_all_equal : List PySem.Str := [PySem.Str.ofString "_law_actual", PySem.Str.ofString "_law_due"]
theorem q__law_all_equal : chkFn pk.lo (top 42) n__law_all_equal p__law_all_equal f__law_all_equal = true := by decide +kernel
abbrev n__law_some_of : List PySem.Str := [PySem.Str.ofString "_law_draws", PySem.Str.ofString "_law_pool", PySem.Str.ofString "_law_many", PySem.Str.ofString "_law_left", PySem.Str.ofString "_law_chosen", PySem.Str.ofString "_law_k"]
abbrev p__law_some_of : List PySem.Str := [PySem.Str.ofString "_law_draws", PySem.Str.ofString "_law_pool", PySem.Str.ofString "_law_many"]
theorem q__law_some_of : chkFn pk.lo (top 43) n__law_some_of p__law_some_of f__law_some_of = true := by decide +kernel
abbrev n__law_atom : List PySem.Str := [PySem.Str.ofString "_law_draws", PySem.Str.ofString "_law_pool", PySem.Str.ofString "_law_names_here", PySem.Str.ofString "_law_usable", PySem.Str.ofString "_law_one", PySem.Str.ofString "_law_pick", PySem.Str.ofString "_law_k", PySem.Str.ofString "_law_word"]
abbrev p__law_atom : List PySem.Str := [PySem.Str.ofString "_law_draws", PySem.Str.ofString "_law_pool", PySem.Str.ofString "_law_names_here"]
theorem q__law_atom : chkFn pk.lo (top 44) n__law_atom p__law_atom f__law_atom = true := by decide +kernel
abbrev n__law_within : List PySem.Str := [PySem.Str.ofString "_law_names_here", PySem.Str.ofString "_law_name", PySem.Str.ofString "_law_arity", PySem.Str.ofString "_law_mode", PySem.Str.ofString "_law_one"]
abbrev p__law_within : List PySem.Str := [PySem.Str.ofString "_law_names_here", PySem.Str.ofString "_law_name", PySem.Str.ofString "_law_arity", PySem.Str.ofString "_law_mode"]
theorem q__law_within : chkFn pk.lo (top 45) n__law_within p__law_within f__law_within = true := by decide +kernel
abbrev n__law_turned : List PySem.Str := [PySem.Str.ofString "_law_names_here", PySem.Str.ofString "_law_one"]
abbrev p__law_turned : List PySem.Str := [PySem.Str.ofString "_law_names_here"]
theorem q__law_turned : chkFn pk.lo (top 46) n__law_turned p__law_turned f__law_turned = true := by decide +kernel
abbrev n__law_barred : List PySem.Str := [PySem.Str.ofString "_law_names_here", PySem.Str.ofString "_law_one"]
abbrev p__law_barred : List PySem.Str := [PySem.Str.ofString "_law_names_here"]
theorem q__law_barred : chkFn pk.lo (top 47) n__law_barred p__law_barred f__law_barred = true := by decide +kernel
abbrev n__law_bound : List PySem.Str := [PySem.Str.ofString "_law_draws", PySem.Str.ofString "_law_deep", PySem.Str.ofString "_law_pool", PySem.Str.ofString "_law_names_here", PySem.Str.ofString "_law_kinds", PySem.Str.ofString "_law_pick", PySem.Str.ofString "_law_args", PySem.Str.ofString "_law_given", PySem.Str.ofString "_law_x", PySem.Str.ofString "_law_name", PySem.Str.ofString "_law_inner", PySem.Str.ofString "_law_arity"]
abbrev p__law_bound : List PySem.Str := [PySem.Str.ofString "_law_draws", PySem.Str.ofString "_law_deep", PySem.Str.ofString "_law_pool", PySem.Str.ofString "_law_names_here", PySem.Str.ofString "_law_kinds"]
theorem q__law_bound : chkFn pk.lo (top 48) n__law_bound p__law_bound f__law_bound = true := by decide +kernel
abbrev n__law_formula : List PySem.Str := [PySem.Str.ofString "_law_draws", PySem.Str.ofString "_law_deep", PySem.Str.ofString "_law_pool", PySem.Str.ofString "_law_names_here", PySem.Str.ofString "_law_kinds", PySem.Str.ofString "_law_pick", PySem.Str.ofString "_law_word", PySem.Str.ofString "_law_many", PySem.Str.ofString "_law_k"]
abbrev p__law_formula : List PySem.Str := [PySem.Str.ofString "_law_draws", PySem.Str.ofString "_law_deep", PySem.Str.ofString "_law_pool", PySem.Str.ofString "_law_names_here", PySem.Str.ofString "_law_kinds"]
theorem q__law_formula : chkFn pk.lo (top 49) n__law_formula p__law_formula f__law_formula = true := by decide +kernel
abbrev n__law_names : List PySem.Str := [PySem.Str.ofString "_law_draws"]
abbrev p__law_names : List PySem.Str := [PySem.Str.ofString "_law_draws"]
theorem q__law_names : chkFn pk.lo (top 50) n__law_names p__law_names f__law_names = true := by decide +kernel
abbrev n__law_parts : List PySem.Str := [PySem.Str.ofString "_law_f"]
abbrev p__law_parts : List PySem.Str := [PySem.Str.ofString "_law_f"]
theorem q__law_parts : chkFn pk.lo (top 51) n__law_parts p__law_parts f__law_parts = true := by decide +kernel
abbrev n__law_inward : List PySem.Str := [PySem.Str.ofString "_law_f", PySem.Str.ofString "_law_inner", PySem.Str.ofString "_law_word", PySem.Str.ofString "_law_part"]
abbrev p__law_inward : List PySem.Str := [PySem.Str.ofString "_law_f"]
theorem q__law_inward : chkFn pk.lo (top 52) n__law_inward p__law_inward f__law_inward = true := by decide +kernel
abbrev n__law_negated : List PySem.Str := [PySem.Str.ofString "_law_draws", PySem.Str.ofString "_law_f", PySem.Str.ofString "_law_part"]
abbrev p__law_negated : List PySem.Str := [PySem.Str.ofString "_law_draws", PySem.Str.ofString "_law_f"]
theorem q__law_negated : chkFn pk.lo (top 53) n__law_negated p__law_negated f__law_negated = true := by decide +kernel
abbrev n__law_count : List PySem.Str := [PySem.Str.ofString "_law_f", PySem.Str.ofString "_law_part"]
abbrev p__law_count : List PySem.Str := [PySem.Str.ofString "_law_f"]
theorem q__law_count : chkFn pk.lo (top 54) n__law_count p__law_count f__law_count = true := by decide +kernel
abbrev n__law_told : List PySem.Str := [PySem.Str.ofString "_law_f", PySem.Str.ofString "e"]
abbrev p__law_told : List PySem.Str := [PySem.Str.ofString "_law_f"]
theorem q__law_told : chkFn pk (top 55) n__law_told p__law_told f__law_told = true := by decide +kernel
abbrev n_law : List PySem.Str := [PySem.Str.ofString "_law_script", PySem.Str.ofString "_law_draws", PySem.Str.ofString "_law_kinds", PySem.Str.ofString "_law_f", PySem.Str.ofString "_law_row", PySem.Str.ofString "_law_due", PySem.Str.ofString "_law_told_here"]
abbrev p_law : List PySem.Str := [PySem.Str.ofString "_law_script"]
theorem q_law : chkFn pk (top 56) n_law p_law f_law = true := by decide +kernel
def mth (i j : Nat) : PySem.Stmt := match top i with
  | .ClassDef _ _ _ body _ _ _ _ _ _ _ => body.getD j (.Pass ⟨0, 0, 0, 0⟩)
  | s => s
abbrev nm_Look___init__ : List PySem.Str := [PySem.Str.ofString "self"]
abbrev pm_Look___init__ : List PySem.Str := [PySem.Str.ofString "self"]
theorem qm_Look___init__ : chkFn pk.lo (mth 28 0) nm_Look___init__ pm_Look___init__ m_Look___init__ = true := by decide +kernel
abbrev nm_Look_rel : List PySem.Str := [PySem.Str.ofString "self", PySem.Str.ofString "name", PySem.Str.ofString "arity", PySem.Str.ofString "bound"]
abbrev pm_Look_rel : List PySem.Str := [PySem.Str.ofString "self", PySem.Str.ofString "name", PySem.Str.ofString "arity", PySem.Str.ofString "bound"]
theorem qm_Look_rel : chkFn pk.lo (mth 28 1) nm_Look_rel pm_Look_rel m_Look_rel = true := by decide +kernel
abbrev nm_Look_go : List PySem.Str := [PySem.Str.ofString "self", PySem.Str.ofString "formula", PySem.Str.ofString "bound", PySem.Str.ofString "deep", PySem.Str.ofString "own", PySem.Str.ofString "part"]
abbrev pm_Look_go : List PySem.Str := [PySem.Str.ofString "self", PySem.Str.ofString "formula", PySem.Str.ofString "bound", PySem.Str.ofString "deep"]
theorem qm_Look_go : chkFn pk.lo (mth 28 2) nm_Look_go pm_Look_go m_Look_go = true := by decide +kernel
theorem F_is_integer (k : Nat) : (callK prog (k + 1)).fn "is_integer" = callB (callK prog k) f_is_integer := callK_fn prog rfl k
theorem F_is_below (k : Nat) : (callK prog (k + 1)).fn "is_below" = callB (callK prog k) f_is_below := callK_fn prog rfl k
theorem F_is_name (k : Nat) : (callK prog (k + 1)).fn "is_name" = callB (callK prog k) f_is_name := callK_fn prog rfl k
theorem F_inner (k : Nat) : (callK prog (k + 1)).fn "inner" = callB (callK prog k) f_inner := callK_fn prog rfl k
theorem F_rebuilt (k : Nat) : (callK prog (k + 1)).fn "rebuilt" = callB (callK prog k) f_rebuilt := callK_fn prog rfl k
theorem F_own_name (k : Nat) : (callK prog (k + 1)).fn "own_name" = callB (callK prog k) f_own_name := callK_fn prog rfl k
theorem F_are_names (k : Nat) : (callK prog (k + 1)).fn "are_names" = callB (callK prog k) f_are_names := callK_fn prog rfl k
theorem F_are_variables (k : Nat) : (callK prog (k + 1)).fn "are_variables" = callB (callK prog k) f_are_variables := callK_fn prog rfl k
theorem F_is_well_made (k : Nat) : (callK prog (k + 1)).fn "is_well_made" = callB (callK prog k) f_is_well_made := callK_fn prog rfl k
theorem F_agrees (k : Nat) : (callK prog (k + 1)).fn "agrees" = callB (callK prog k) f_agrees := callK_fn prog rfl k
theorem F_occurs (k : Nat) : (callK prog (k + 1)).fn "occurs" = callB (callK prog k) f_occurs := callK_fn prog rfl k
theorem F_looked (k : Nat) : (callK prog (k + 1)).fn "looked" = callB (callK prog k) f_looked := callK_fn prog rfl k
theorem F_sized (k : Nat) : (callK prog (k + 1)).fn "sized" = callB (callK prog k) f_sized := callK_fn prog rfl k
theorem F_moved (k : Nat) : (callK prog (k + 1)).fn "moved" = callB (callK prog k) f_moved := callK_fn prog rfl k
theorem F_inward (k : Nat) : (callK prog (k + 1)).fn "inward" = callB (callK prog k) f_inward := callK_fn prog rfl k
theorem F__law_mixed (k : Nat) : (callK prog (k + 1)).fn "_law_mixed" = callB (callK prog k) f__law_mixed := callK_fn prog rfl k
theorem F__law_numbers (k : Nat) : (callK prog (k + 1)).fn "_law_numbers" = callB (callK prog k) f__law_numbers := callK_fn prog rfl k
theorem F__law_draw (k : Nat) : (callK prog (k + 1)).fn "_law_draw" = callB (callK prog k) f__law_draw := callK_fn prog rfl k
theorem F__law_equal (k : Nat) : (callK prog (k + 1)).fn "_law_equal" = callB (callK prog k) f__law_equal := callK_fn prog rfl k
theorem F__law_all_equal (k : Nat) : (callK prog (k + 1)).fn "_law_all_equal" = callB (callK prog k) f__law_all_equal := callK_fn prog rfl k
theorem F__law_some_of (k : Nat) : (callK prog (k + 1)).fn "_law_some_of" = callB (callK prog k) f__law_some_of := callK_fn prog rfl k
theorem F__law_atom (k : Nat) : (callK prog (k + 1)).fn "_law_atom" = callB (callK prog k) f__law_atom := callK_fn prog rfl k
theorem F__law_within (k : Nat) : (callK prog (k + 1)).fn "_law_within" = callB (callK prog k) f__law_within := callK_fn prog rfl k
theorem F__law_turned (k : Nat) : (callK prog (k + 1)).fn "_law_turned" = callB (callK prog k) f__law_turned := callK_fn prog rfl k
theorem F__law_barred (k : Nat) : (callK prog (k + 1)).fn "_law_barred" = callB (callK prog k) f__law_barred := callK_fn prog rfl k
theorem F__law_bound (k : Nat) : (callK prog (k + 1)).fn "_law_bound" = callB (callK prog k) f__law_bound := callK_fn prog rfl k
theorem F__law_formula (k : Nat) : (callK prog (k + 1)).fn "_law_formula" = callB (callK prog k) f__law_formula := callK_fn prog rfl k
theorem F__law_names (k : Nat) : (callK prog (k + 1)).fn "_law_names" = callB (callK prog k) f__law_names := callK_fn prog rfl k
theorem F__law_parts (k : Nat) : (callK prog (k + 1)).fn "_law_parts" = callB (callK prog k) f__law_parts := callK_fn prog rfl k
theorem F__law_inward (k : Nat) : (callK prog (k + 1)).fn "_law_inward" = callB (callK prog k) f__law_inward := callK_fn prog rfl k
theorem F__law_negated (k : Nat) : (callK prog (k + 1)).fn "_law_negated" = callB (callK prog k) f__law_negated := callK_fn prog rfl k
theorem F__law_count (k : Nat) : (callK prog (k + 1)).fn "_law_count" = callB (callK prog k) f__law_count := callK_fn prog rfl k
theorem F__law_told (k : Nat) : (callK prog (k + 1)).fn "_law_told" = callB (callK prog k) f__law_told := callK_fn prog rfl k
theorem F_law (k : Nat) : (callK prog (k + 1)).fn "law" = callB (callK prog k) f_law := callK_fn prog rfl k
theorem G_BRANCHES (k : Nat) : (callK prog k).gl "BRANCHES" = some (.int 40) := by rw [gl_of]; rfl
theorem G_DEEPEST (k : Nat) : (callK prog k).gl "DEEPEST" = some (.int 40) := by rw [gl_of]; rfl
theorem G_DUAL (k : Nat) : (callK prog k).gl "DUAL" = some (.fzd [.str [97, 110, 100], .str [111, 114], .str [115, 111, 109, 101], .str [97, 108, 108]] [.str [111, 114], .str [97, 110, 100], .str [97, 108, 108], .str [115, 111, 109, 101]]) := by rw [gl_of]; rfl
theorem G_FIGURES (k : Nat) : (callK prog k).gl "FIGURES" = some (.str [48, 49, 50, 51, 52, 53, 54, 55, 56, 57]) := by rw [gl_of]; rfl
theorem G_FIXED (k : Nat) : (callK prog k).gl "FIXED" = some (.tup [.str [108, 102, 112], .str [112, 102, 112]]) := by rw [gl_of]; rfl
theorem G_GUESSED (k : Nat) : (callK prog k).gl "GUESSED" = some (.int 3) := by rw [gl_of]; rfl
theorem G_LENGTHS (k : Nat) : (callK prog k).gl "LENGTHS" = some (.fzd [.str [114, 101, 108], .str [101, 113], .str [108, 101, 115, 115], .str [110, 111, 116], .str [97, 110, 100], .str [111, 114], .str [115, 111, 109, 101], .str [97, 108, 108], .str [108, 102, 112], .str [112, 102, 112], .str [116, 99], .str [103, 117, 101, 115, 115]] [.int 3, .int 3, .int 3, .int 2, .int 2, .int 2, .int 3, .int 3, .int 5, .int 5, .int 4, .int 4]) := by rw [gl_of]; rfl
theorem G_LETTERS (k : Nat) : (callK prog k).gl "LETTERS" = some (.str [97, 98, 99, 100, 101, 102, 103, 104, 105, 106, 107, 108, 109, 110, 111, 112, 113, 114, 115, 116, 117, 118, 119, 120, 121, 122]) := by rw [gl_of]; rfl
theorem G_LONGEST (k : Nat) : (callK prog k).gl "LONGEST" = some (.int 12) := by rw [gl_of]; rfl
theorem G_MOST (k : Nat) : (callK prog k).gl "MOST" = some (.int 2000) := by rw [gl_of]; rfl
theorem G_PLACES (k : Nat) : (callK prog k).gl "PLACES" = some (.int 6) := by rw [gl_of]; rfl
theorem G_QUANTIFIERS (k : Nat) : (callK prog k).gl "QUANTIFIERS" = some (.tup [.str [115, 111, 109, 101], .str [97, 108, 108]]) := by rw [gl_of]; rfl
theorem G_STEPS (k : Nat) : (callK prog k).gl "STEPS" = some (.int 8) := by rw [gl_of]; rfl
theorem G_WORDS (k : Nat) : (callK prog k).gl "WORDS" = some (.tup [.str [97, 110, 100], .str [111, 114], .str [110, 111, 116], .str [115, 111, 109, 101], .str [97, 108, 108], .str [108, 102, 112], .str [112, 102, 112], .str [116, 99], .str [103, 117, 101, 115, 115], .str [116, 114, 117, 101], .str [102, 97, 108, 115, 101]]) := by rw [gl_of]; rfl
theorem M_Look___init__ (k : Nat) : (callK prog (k + 1)).mt "Look" "__init__" = callB (callK prog k) m_Look___init__ := callK_mt prog rfl k
theorem N_Look (k : Nat) : (callK prog (k + 2)).made "Look" = callB (callK prog k) m_Look___init__ := callK_made prog rfl k
theorem O_Look___init__ (k : Nat) : (callK prog k).mo "Look" "__init__" = true := by rw [callK_mo]; rfl
theorem M_Look_rel (k : Nat) : (callK prog (k + 1)).mt "Look" "rel" = callB (callK prog k) m_Look_rel := callK_mt prog rfl k
theorem O_Look_rel (k : Nat) : (callK prog k).mo "Look" "rel" = true := by rw [callK_mo]; rfl
theorem M_Look_go (k : Nat) : (callK prog (k + 1)).mt "Look" "go" = callB (callK prog k) m_Look_go := callK_mt prog rfl k
theorem O_Look_go (k : Nat) : (callK prog k).mo "Look" "go" = true := by rw [callK_mo]; rfl
theorem L_Look_count (k : Nat) : (callK prog k).fl "Look" "count" = true := by rw [callK_fl]; rfl
theorem L_Look_found (k : Nat) : (callK prog k).fl "Look" "found" = true := by rw [callK_fl]; rfl
theorem S_BadFormula_BadFormula (k : Nat) : (callK prog k).sub "BadFormula" "BadFormula" = some true := by rw [callK_sub]; rfl
theorem S_BadFormula_TooLarge (k : Nat) : (callK prog k).sub "BadFormula" "TooLarge" = some false := by rw [callK_sub]; rfl
theorem S_TooLarge_BadFormula (k : Nat) : (callK prog k).sub "TooLarge" "BadFormula" = some false := by rw [callK_sub]; rfl
theorem S_TooLarge_TooLarge (k : Nat) : (callK prog k).sub "TooLarge" "TooLarge" = some true := by rw [callK_sub]; rfl

end Mi

set_option autoImplicit true
set_option maxRecDepth 512
set_option maxHeartbeats 200000
set_option Elab.async false
set_option autoImplicit false
set_option linter.unusedSimpArgs false
set_option linter.unusedVariables false
namespace Mi
open M
/-! formulas, as the program writes them -/
inductive Fm where
  | rel (x : Tx) (as : List Tx)
  | cmp (w : Bool) (a b : Tx)
  | not (f : Fm)
  | con (w : Bool) (fs : List Fm)
  | qu (w : Bool) (vs : List Tx) (f : Fm)
  | fix (w : Bool) (r : Tx) (vs : List Tx) (f : Fm) (gs : List Tx)
  | tc (vs : List Tx) (f : Fm) (gs : List Tx)
  | gue (r : Tx) (k : Nat) (f : Fm)
abbrev wRel : Tx := [114, 101, 108]
abbrev wEq : Tx := [101, 113]
abbrev wLess : Tx := [108, 101, 115, 115]
abbrev wNot : Tx := [110, 111, 116]
abbrev wAnd : Tx := [97, 110, 100]
abbrev wOr : Tx := [111, 114]
abbrev wSome : Tx := [115, 111, 109, 101]
abbrev wAll : Tx := [97, 108, 108]
abbrev wLfp : Tx := [108, 102, 112]
abbrev wPfp : Tx := [112, 102, 112]
abbrev wTc : Tx := [116, 99]
abbrev wGue : Tx := [103, 117, 101, 115, 115]
def tX (xs : List Tx) : D := .tup (xs.map .str)
mutual
def enc : Fm → D
  | .rel x as => .tup [.str wRel, .str x, tX as]
  | .cmp w a b => .tup [.str (if w then wEq else wLess), .str a, .str b]
  | .not f => .tup [.str wNot, enc f]
  | .con w fs => .tup [.str (if w then wAnd else wOr), .tup (encs fs)]
  | .qu w vs f => .tup [.str (if w then wSome else wAll), tX vs, enc f]
  | .fix w r vs f gs => .tup [.str (if w then wLfp else wPfp), .str r, tX vs, enc f, tX gs]
  | .tc vs f gs => .tup [.str wTc, tX vs, enc f, tX gs]
  | .gue r k f => .tup [.str wGue, .str r, .int k, enc f]
def encs : List Fm → List D
  | [] => []
  | f :: r => enc f :: encs r
end
theorem encs_map : ∀ fs : List Fm, encs fs = fs.map enc
  | [] => by rw [encs]; rfl
  | f :: r => by rw [encs, encs_map r]; rfl
def parts : Fm → List Fm
  | .rel _ _ => []
  | .cmp _ _ _ => []
  | .not f => [f]
  | .con _ fs => fs
  | .qu _ _ f => [f]
  | .fix _ _ _ f _ => [f]
  | .tc _ f _ => [f]
  | .gue _ _ f => [f]
mutual
def dep : Fm → Nat
  | .rel _ _ => 1
  | .cmp _ _ _ => 1
  | .not f => dep f + 1
  | .con _ fs => deps fs + 1
  | .qu _ _ f => dep f + 1
  | .fix _ _ _ f _ => dep f + 1
  | .tc _ f _ => dep f + 1
  | .gue _ _ f => dep f + 1
def deps : List Fm → Nat
  | [] => 0
  | f :: r => max (dep f) (deps r)
end
mutual
def siz : Fm → Nat
  | .rel _ _ => 1
  | .cmp _ _ _ => 1
  | .not f => siz f + 1
  | .con _ fs => sizs fs + 1
  | .qu _ _ f => siz f + 1
  | .fix _ _ _ f _ => siz f + 1
  | .tc _ f _ => siz f + 1
  | .gue _ _ f => siz f + 1
def sizs : List Fm → Nat
  | [] => 0
  | f :: r => siz f + sizs r
end
theorem deps_mem : ∀ {fs : List Fm} {p : Fm}, p ∈ fs → dep p ≤ deps fs
  | f :: r, p, h => by
    rw [deps]
    rcases List.mem_cons.1 h with h | h
    · subst h; exact Nat.le_max_left _ _
    · exact Nat.le_trans (deps_mem h) (Nat.le_max_right _ _)
theorem dep_part {f p : Fm} (h : p ∈ parts f) : dep p < dep f := by
  cases f <;> simp only [parts, List.mem_singleton, List.not_mem_nil] at h <;> first
    | (subst h; simp only [dep]; omega)
    | (simp only [dep]; have := deps_mem h; omega)
theorem dep_pos (f : Fm) : 0 < dep f := by cases f <;> simp [dep]
theorem siz_parts (f : Fm) : siz f = sizs (parts f) + 1 := by cases f <;> simp [siz, sizs, parts]
/-- its own variables, its own name -/
def ownV : Fm → List Tx
  | .qu _ vs _ => vs
  | .tc vs _ _ => vs
  | .fix _ _ vs _ _ => vs
  | _ => []
def ownN : Fm → Option (Tx × Nat)
  | .fix _ r vs _ _ => some (r, vs.length)
  | .gue r k _ => some (r, k)
  | _ => none
def ownD : Option (Tx × Nat) → D
  | some (r, k) => .tup [.str r, .int k]
  | none => .non
theorem atI4 {α : Type} (a b c d e : α) (r : List α) : atI (a :: b :: c :: d :: e :: r) 4 = some e := by
  have h : (4 : Int) < ((r.length + 1 + 1 + 1 + 1 + 1 : Nat) : Int) := by omega
  simp only [atI, ixN, List.length_cons, h]
  rfl

set_option maxRecDepth 100000
local macro_rules | `(tactic| simp! only [$xs,*] $[$l:location]?) => `(tactic| simp only [↓ev_fld_at, ↓ev_meth_at, ↓ev_new_at, ↓ex_asgFld_at, methK_at, methK2_at, methK3_at, newK_at, newM_at, isNonM_at, asgFldK_at, asgFldK2_at, fldM_at, fldF, setFldM_at, setFldC, clsM_at, clsF, lookN, putFd, flOk, ↓for_at, forS_at, lcS_at, ↓ev_non_at, ↓ev_bl_at, ↓ev_int_at, ↓ev_str_at, ↓ev_var_at, ↓ev_glob_at, ↓ev_op_at, ↓ev_neg_at, ↓ev_cmp_at, ↓ev_chain_at, ↓ev_not_at, ↓ev_and_at, ↓ev_or_at, ↓ev_ite_at, ↓ev_tup_at, ↓ev_lst_at, ↓ev_flst_at, ↓ev_dct_at, ↓ev_fslice_at, ↓ev_lenset_at, flstK_at, fslK_at, fslK2_at, lcR_t, lcR_f, lcR_ex, ↓ex_augFld_at, augFldK_at, augFldK2_at, augFldK3_at, augFldK4_at, ↓ex_try_at, tryR_nx, tryR_rt, viewK_at, view_loc, view_non, view_bl, view_int, view_str, view_tup, view_fzl, view_fzd, view_fzo, viewC, indexM_at, indexF_tup, indexF_fzl, indexF_str, indexF_fzd, sliceM_at, sliceF_tup, sliceF_fzl, sliceF_str, sliceP_at, slicePF, eqK_at, eqK2_at, eqM_at, inM_at, inF, nbnK_at, cmp_eq_at, cmp_ne_at, cmp_in_at, cmp_nin_at, cmp_lt_at, cmp_le_at, cmp_gt_at, cmp_ge_at, cmp_is_at, cmp_isnt_at, addL_at, addI_at, lenM_at, lenF_str, lenF_tup, lenF_fzl, listM_at, flistM_at, tupleM_at, itemsF_tup, itemsF_fzl, lstF_fzl, sumK_at, sumK2_at, sumM_at, intsO_map, setIxM_at, setIxL_at, setIxD_at, putIxK_at, append_at, appC, dctU, lstU, someC, extend_at, extC, extF, pop_at, popC, popAt_at, popAtC_at, popAtK2_at, popAtK3_at, retKM_at, sdf_at, sdfC_at, sdfO_some, sdfO_none, get1_at, getF, isDct_at, isLst_at, isD_at, isDF, dict_at, dictC, truthy_loc, intF, max2F, min2F, endC_nx, endC_rt, endC_rtP, endC_ex, gc_bl, gc_int, gc_str, gc_non, ↓ev_ix_at, ↓ev_slice_at, ↓ev_call_at, ↓ev_bi_at, ↓ev_mt_at, ↓ev_isi_at, ↓ev_lc_at, ↓evs_nil_at, ↓evs_cons_at, ↓evo_none_at, ↓evo_some_at, ↓evc_nil_at, ↓evc_cons_at, ↓ex_asg_at, ↓ex_asgIx_at, ↓ex_aug_at, ↓ex_expr_at, ↓ex_ite_at, ↓ex_ret_at, ↓ex_retN_at, ↓ex_raise_at, ↓ex_brk_at, ↓ex_cont_at, ↓ex_pass_at, ↓ex_while_at, ↓exs_nil_at, ↓exs_cons_at, asgK_at, asgR_ok, goOn_at, augK1_at, augK2_at, augK3_at, asgIxK_at, asgIxK2_at, asgIxK3_at, blK_at, nbK_at, opK_at, cmpK_at, cmpK2_at, chK_at, chK2_at, chK3_t, chK3_f, notK_at, andK_at, andK2_t, andK2_f, orK_at, orK2_t, orK2_f, ifK_at, ifK2_t, ifK2_f, tupK_at, lstK_at, ixK_at, slK_at, slK2_at, mtK_at, mtK2_at, isiK_at, consK_at, consK2_at, csK_at, csK2_t, csK2_f, someK_at, eltK_t, eltK_f, oneK_at, oneL_at, seqK_at, iteK_t, iteK_f, retS_at, noexR_ok, negM, intM, ↓msB_at, ↓msS_at, msB_ok, msB_ex, msS_msS, msS_nx, msS_rt, msS_ex, msS_bk, msS_ct, truthy_non, truthy_bl, truthy_int, truthy_str, truthy_tup, truthy_fzl, ↓bnd_at, bndR_ok, bndR_ex, of_some, ret_at, binop, iopM, ↓need_at, bindT, bindTs, biM, get_at, put_at, new_at, ↓isi_cons_at, isi_nil_at, isiR_t, isiR_f, isTy_non, isTy_bl, isTy_int, isTy_str, isTy_tup, isTy_fzl, mtM, mtPre, upperM, isStr, itM, seq1, seqM_tup, seqM_fzl, seqM_scr, seqM_str, seqM_loc, lstS, rng1, rng2, D.isNon, D.flat, D.flats, D.deep, D.deeps, D.eqv, D.eqvs, Nat.zero_le, Nat.max_self, and_self, lt0, lt1, lt2, lt3, atI0, atI1, atI2, atI3, ixN0, ixN1, ixN2, ixN3, getc0, getc1, getc2, getc3, getc4, getc5, getc6, getc7, getc8, setc0, setc1, setc2, setc3, setc4, setc5, setc6, setc7, setc8, id, Option.join_some, Option.join, Option.bind, Option.map, List.map_cons, List.map_nil, List.length_map, List.length_cons, List.length_nil, List.getElem?_cons_zero, List.getElem?_cons_succ, List.set_cons_zero, List.set_cons_succ, Nat.zero_add, List.append_nil, List.nil_append, List.cons_append, Int.reducePow, Int.reduceToNat, Int.zero_add, Int.cast_ofNat_Int, decide_true, decide_false, Bool.not_true, Bool.not_false, Bool.and_self, Bool.true_and, Bool.false_and, Bool.and_true, Nat.zero_max, Nat.max_zero, if_true, if_false, ite_true, ite_false, reduceIte, reduceCtorEq, Bool.false_eq_true, Bool.true_eq_false, or_true, true_or, and_true, true_and, or_false, false_or, Nat.reduceLT, Nat.reduceAdd, Nat.reduceLeDiff, Int.reduceLT, Int.reduceLE, Int.reduceAdd, Nat.zero_lt_succ, beq_self_eq_true, decide_eq_true_eq, gc_self, bel_non, bel_bl, bel_int, bel_str, bel_tup, bel_fzl, bels_nil, bels_cons, List.cons.injEq, Nat.reduceEqDiff, and_false, false_and, eq_self, List.any_cons, List.any_nil, Bool.or_false, Bool.false_or, Bool.true_or, Bool.or_true, atI4, Int.ofNat_zero, Int.natCast_zero, Int.natCast_one, Int.natCast_succ, decide_not, $xs,*] $[$l:location]?)
theorem bel_tX (n : Nat) (xs : List Tx) : D.bel n (tX xs) = true := by
  unfold tX
  rw [bel_tup]
  exact bels_all fun x hx => by
    obtain ⟨y, _, rfl⟩ := List.mem_map.1 hx
    exact bel_str _ _
mutual
theorem bel_enc (n : Nat) : ∀ f : Fm, D.bel n (enc f) = true
  | .rel _ _ => by rw [enc]; simp only [bel_tup, bels_cons, bels_nil, bel_str, bel_tX, Bool.and_self]
  | .cmp _ _ _ => by rw [enc]; simp only [bel_tup, bels_cons, bels_nil, bel_str, bel_tX, Bool.and_self]
  | .not f => by rw [enc]; simp only [bel_tup, bels_cons, bels_nil, bel_str, bel_tX, Bool.and_self, bel_enc n f]
  | .con _ fs => by rw [enc]; simp only [bel_tup, bels_cons, bels_nil, bel_str, bel_tX, Bool.and_self, bel_encs n fs]
  | .qu _ _ f => by rw [enc]; simp only [bel_tup, bels_cons, bels_nil, bel_str, bel_tX, Bool.and_self, bel_enc n f]
  | .fix _ _ _ f _ => by rw [enc]; simp only [bel_tup, bels_cons, bels_nil, bel_str, bel_tX, Bool.and_self, bel_enc n f]
  | .tc _ f _ => by rw [enc]; simp only [bel_tup, bels_cons, bels_nil, bel_str, bel_tX, Bool.and_self, bel_enc n f]
  | .gue _ _ f => by rw [enc]; simp only [bel_tup, bels_cons, bels_nil, bel_str, bel_int, bel_tX, Bool.and_self, bel_enc n f]
theorem bel_encs (n : Nat) : ∀ fs : List Fm, D.bels n (encs fs) = true
  | [] => by rw [encs, bels_nil]
  | f :: r => by rw [encs, bels_cons, bel_enc n f, bel_encs n r]; rfl
end
theorem bel_encm (n : Nat) (fs : List Fm) : D.bels n (fs.map enc) = true := by rw [← encs_map]; exact bel_encs n fs
theorem inner_run (k : Nat) (f : Fm) (S : Store) : callB (callK prog k) f_inner [enc f] S = some (.ok (.tup ((parts f).map enc)), S) := by
  rw [callB_of _ _ _ _ rfl (by decide)]
  show endC false S (exSs _ f_inner.body [some (enc f), none] S) = _
  cases f with
  | rel x as => simp! only [f_inner, enc, G_QUANTIFIERS, G_FIXED, parts]
  | cmp w a b => cases w <;> simp! only [f_inner, enc, G_QUANTIFIERS, G_FIXED, parts]
  | not f => simp! only [f_inner, enc, G_QUANTIFIERS, G_FIXED, parts, bel_enc, bel_tX, bel_encm]
  | con w fs => cases w <;> simp! only [f_inner, enc, G_QUANTIFIERS, G_FIXED, parts, bel_enc, bel_tX, bel_encm, encs_map]
  | qu w vs f => cases w <;> simp! only [f_inner, enc, G_QUANTIFIERS, G_FIXED, parts, bel_enc, bel_tX, bel_encm]
  | fix w r vs f gs => cases w <;> simp! only [f_inner, enc, G_QUANTIFIERS, G_FIXED, parts, bel_enc, bel_tX, bel_encm]
  | tc vs f gs => simp! only [f_inner, enc, G_QUANTIFIERS, G_FIXED, parts, bel_enc, bel_tX, bel_encm]
  | gue r k f => simp! only [f_inner, enc, G_QUANTIFIERS, G_FIXED, parts, bel_enc, bel_tX, bel_encm]
theorem own_name_run (k : Nat) (f : Fm) (S : Store) : callB (callK prog k) f_own_name [enc f] S = some (.ok (ownD (ownN f)), S) := by
  rw [callB_of _ _ _ _ rfl (by decide)]
  show endC false S (exSs _ f_own_name.body [some (enc f)] S) = _
  cases f with
  | rel x as => simp! only [f_own_name, enc, G_FIXED, ownN, ownD]
  | cmp w a b => cases w <;> simp! only [f_own_name, enc, G_FIXED, ownN, ownD]
  | not f => simp! only [f_own_name, enc, G_FIXED, ownN, ownD]
  | con w fs => cases w <;> simp! only [f_own_name, enc, G_FIXED, ownN, ownD]
  | qu w vs f => cases w <;> simp! only [f_own_name, enc, G_FIXED, ownN, ownD]
  | fix w r vs f gs => cases w <;> simp! only [f_own_name, enc, tX, G_FIXED, ownN, ownD]
  | tc vs f gs => simp! only [f_own_name, enc, G_FIXED, ownN, ownD]
  | gue r k f => simp! only [f_own_name, enc, G_FIXED, ownN, ownD]
/-! ### numbers -/
theorem r62_of {i : Int} (h0 : 0 ≤ i) (h1 : i ≤ 1000000) : r62 i = true := by
  unfold r62
  have e : (2 : Int) ^ 62 = 4611686018427387904 := by decide
  rw [e, decide_eq_true_eq]
  constructor <;> omega
theorem i64_of {i : Int} (h0 : 0 ≤ i) (h1 : i ≤ 1000000000000) : i64 i = true := by
  unfold i64
  have e : (2 : Int) ^ 64 = 18446744073709551616 := by decide
  rw [e, decide_eq_true_eq]
  constructor <;> omega
theorem is_integer_int (k : Nat) (i : Int) (S : Store) : callB (callK prog k) f_is_integer [.int i] S = some (.ok (.bl true), S) := by
  rw [callB_of _ _ _ _ rfl (by decide)]
  show endC false S (exSs _ f_is_integer.body [some (.int i)] S) = _
  simp! only [f_is_integer]
theorem is_below_int (k : Nat) (i j : Int) (S : Store) (h0 : 0 ≤ i) (h1 : i < j) : callB (callK prog (k + 1)) f_is_below [.int i, .int j] S = some (.ok (.bl true), S) := by
  rw [callB_of _ _ _ _ rfl (by decide)]
  show endC false S (exSs _ f_is_below.body [some (.int i), some (.int j)] S) = _
  simp! only [f_is_below, F_is_integer, is_integer_int, h0, h1]
end Mi

set_option autoImplicit true
set_option maxRecDepth 512
set_option maxHeartbeats 200000
set_option Elab.async false
set_option autoImplicit false
set_option linter.unusedSimpArgs false
set_option linter.unusedVariables false
namespace Mi
open M
set_option maxRecDepth 100000
local macro_rules | `(tactic| simp! only [$xs,*] $[$l:location]?) => `(tactic| simp only [↓ev_fld_at, ↓ev_meth_at, ↓ev_new_at, ↓ex_asgFld_at, methK_at, methK2_at, methK3_at, newK_at, newM_at, isNonM_at, asgFldK_at, asgFldK2_at, fldM_at, fldF, setFldM_at, setFldC, clsM_at, clsF, lookN, putFd, flOk, ↓for_at, forS_at, lcS_at, ↓ev_non_at, ↓ev_bl_at, ↓ev_int_at, ↓ev_str_at, ↓ev_var_at, ↓ev_glob_at, ↓ev_op_at, ↓ev_neg_at, ↓ev_cmp_at, ↓ev_chain_at, ↓ev_not_at, ↓ev_and_at, ↓ev_or_at, ↓ev_ite_at, ↓ev_tup_at, ↓ev_lst_at, ↓ev_flst_at, ↓ev_dct_at, ↓ev_fslice_at, ↓ev_lenset_at, flstK_at, fslK_at, fslK2_at, lcR_t, lcR_f, lcR_ex, ↓ex_augFld_at, augFldK_at, augFldK2_at, augFldK3_at, augFldK4_at, ↓ex_try_at, tryR_nx, tryR_rt, viewK_at, view_loc, view_non, view_bl, view_int, view_str, view_tup, view_fzl, view_fzd, view_fzo, viewC, indexM_at, indexF_tup, indexF_fzl, indexF_str, indexF_fzd, sliceM_at, sliceF_tup, sliceF_fzl, sliceF_str, sliceP_at, slicePF, eqK_at, eqK2_at, eqM_at, inM_at, inF, nbnK_at, cmp_eq_at, cmp_ne_at, cmp_in_at, cmp_nin_at, cmp_lt_at, cmp_le_at, cmp_gt_at, cmp_ge_at, cmp_is_at, cmp_isnt_at, addL_at, addI_at, lenM_at, lenF_str, lenF_tup, lenF_fzl, listM_at, flistM_at, tupleM_at, itemsF_tup, itemsF_fzl, lstF_fzl, sumK_at, sumK2_at, sumM_at, intsO_map, setIxM_at, setIxL_at, setIxD_at, putIxK_at, append_at, appC, dctU, lstU, someC, extend_at, extC, extF, pop_at, popC, popAt_at, popAtC_at, popAtK2_at, popAtK3_at, retKM_at, sdf_at, sdfC_at, sdfO_some, sdfO_none, get1_at, getF, isDct_at, isLst_at, isD_at, isDF, dict_at, dictC, truthy_loc, intF, max2F, min2F, endC_nx, endC_rt, endC_rtP, endC_ex, gc_bl, gc_int, gc_str, gc_non, ↓ev_ix_at, ↓ev_slice_at, ↓ev_call_at, ↓ev_bi_at, ↓ev_mt_at, ↓ev_isi_at, ↓ev_lc_at, ↓evs_nil_at, ↓evs_cons_at, ↓evo_none_at, ↓evo_some_at, ↓evc_nil_at, ↓evc_cons_at, ↓ex_asg_at, ↓ex_asgIx_at, ↓ex_aug_at, ↓ex_expr_at, ↓ex_ite_at, ↓ex_ret_at, ↓ex_retN_at, ↓ex_raise_at, ↓ex_brk_at, ↓ex_cont_at, ↓ex_pass_at, ↓ex_while_at, ↓exs_nil_at, ↓exs_cons_at, asgK_at, asgR_ok, goOn_at, augK1_at, augK2_at, augK3_at, asgIxK_at, asgIxK2_at, asgIxK3_at, blK_at, nbK_at, opK_at, cmpK_at, cmpK2_at, chK_at, chK2_at, chK3_t, chK3_f, notK_at, andK_at, andK2_t, andK2_f, orK_at, orK2_t, orK2_f, ifK_at, ifK2_t, ifK2_f, tupK_at, lstK_at, ixK_at, slK_at, slK2_at, mtK_at, mtK2_at, isiK_at, consK_at, consK2_at, csK_at, csK2_t, csK2_f, someK_at, eltK_t, eltK_f, oneK_at, oneL_at, seqK_at, iteK_t, iteK_f, retS_at, noexR_ok, negM, intM, ↓msB_at, ↓msS_at, msB_ok, msB_ex, msS_msS, msS_nx, msS_rt, msS_ex, msS_bk, msS_ct, truthy_non, truthy_bl, truthy_int, truthy_str, truthy_tup, truthy_fzl, ↓bnd_at, bndR_ok, bndR_ex, of_some, ret_at, binop, iopM, ↓need_at, bindT, bindTs, biM, get_at, put_at, new_at, ↓isi_cons_at, isi_nil_at, isiR_t, isiR_f, isTy_non, isTy_bl, isTy_int, isTy_str, isTy_tup, isTy_fzl, mtM, mtPre, upperM, isStr, itM, seq1, seqM_tup, seqM_fzl, seqM_scr, seqM_str, seqM_loc, lstS, rng1, rng2, D.isNon, D.flat, D.flats, D.deep, D.deeps, D.eqv, D.eqvs, Nat.zero_le, Nat.max_self, and_self, lt0, lt1, lt2, lt3, atI0, atI1, atI2, atI3, ixN0, ixN1, ixN2, ixN3, getc0, getc1, getc2, getc3, getc4, getc5, getc6, getc7, getc8, setc0, setc1, setc2, setc3, setc4, setc5, setc6, setc7, setc8, id, Option.join_some, Option.join, Option.bind, Option.map, List.map_cons, List.map_nil, List.length_map, List.length_cons, List.length_nil, List.getElem?_cons_zero, List.getElem?_cons_succ, List.set_cons_zero, List.set_cons_succ, Nat.zero_add, List.append_nil, List.nil_append, List.cons_append, Int.reducePow, Int.reduceToNat, Int.zero_add, Int.cast_ofNat_Int, decide_true, decide_false, Bool.not_true, Bool.not_false, Bool.and_self, Bool.true_and, Bool.false_and, Bool.and_true, Nat.zero_max, Nat.max_zero, if_true, if_false, ite_true, ite_false, reduceIte, reduceCtorEq, Bool.false_eq_true, Bool.true_eq_false, or_true, true_or, and_true, true_and, or_false, false_or, Nat.reduceLT, Nat.reduceAdd, Nat.reduceLeDiff, Int.reduceLT, Int.reduceLE, Int.reduceAdd, Nat.zero_lt_succ, beq_self_eq_true, decide_eq_true_eq, gc_self, bel_non, bel_bl, bel_int, bel_str, bel_tup, bel_fzl, bels_nil, bels_cons, List.cons.injEq, Nat.reduceEqDiff, and_false, false_and, eq_self, List.any_cons, List.any_nil, Bool.or_false, Bool.false_or, Bool.true_or, Bool.or_true, atI4, Int.ofNat_zero, Int.natCast_zero, Int.natCast_one, Int.natCast_succ, decide_not, $xs,*] $[$l:location]?)
/-! costs -/
def word : Fm → Tx
  | .rel _ _ => wRel
  | .cmp w _ _ => if w then wEq else wLess
  | .not _ => wNot
  | .con w _ => if w then wAnd else wOr
  | .qu w _ _ => if w then wSome else wAll
  | .fix w _ _ _ _ => if w then wLfp else wPfp
  | .tc _ _ _ => wTc
  | .gue _ _ _ => wGue
theorem view_enc (f : Fm) (S : Store) : view (enc f) S = some (.ok (enc f), S) := by cases f <;> simp only [enc, view_tup]
theorem ix0_enc (f : Fm) (S : Store) : indexF (enc f) (.int 0) S = some (.ok (.str (word f)), S) := by cases f <;> simp only [enc, indexF, atI0, of_some, word]
theorem ix2_gue (r : Tx) (k : Nat) (f : Fm) (S : Store) : indexF (enc (.gue r k f)) (.int 2) S = some (.ok (.int k), S) := by simp only [enc, indexF, atI2, of_some]
/-- a comprehension whose turns say nothing to the store -/
theorem compL_map {α : Type} {one : D → M (Option D)} (e h : α → D) (S : Store) : ∀ (xs : List α) (acc : List D), (∀ x ∈ xs, one (e x) S = some (.ok (some (h x)), S)) → acc.length + xs.length ≤ szl → compL [] one (xs.map e) acc S = some (.ok (acc ++ xs.map h), S)
  | [], acc, _, _ => by simp [compL, stays]
  | x :: xs, acc, hh, hl => by
    simp only [List.length_cons] at hl
    have h1 := hh x (by simp)
    have h2 := compL_map (one := one) e h S xs (acc ++ [h x]) (fun y hy => hh y (by simp [hy])) (by simp; omega)
    have ha : acc.length < szl := by omega
    simp only [List.map_cons, compL, stays, List.all_nil, if_true, h1, ha, h2]
    simp
/-! what a formula must be, part by part -/
/-- names -/
def lettersT : Tx := [97, 98, 99, 100, 101, 102, 103, 104, 105, 106, 107, 108, 109, 110, 111, 112, 113, 114, 115, 116, 117, 118, 119, 120, 121, 122]
def figuresT : Tx := [48, 49, 50, 51, 52, 53, 54, 55, 56, 57]
def wordsT : List Tx := [[97, 110, 100], [111, 114], [110, 111, 116], [115, 111, 109, 101], [97, 108, 108], [108, 102, 112], [112, 102, 112], [116, 99], [103, 117, 101, 115, 115], [116, 114, 117, 101], [102, 97, 108, 115, 101]]
def nmB (x : Tx) : Bool := decide (x.length ≤ 12) && (match x with | [] => false | c :: _ => decide (c ∈ lettersT)) && decide (x ∉ wordsT) && x.all fun c => decide (c ∈ lettersT) || decide (c ∈ figuresT)
structure NmS where
def NM : NmS := {}
instance : Membership Tx NmS := ⟨fun _ x => nmB x = true⟩
theorem nm_iff {x : Tx} : x ∈ NM ↔ nmB x = true := Iff.rfl
instance (x : Tx) : Decidable (x ∈ NM) := inferInstanceAs (Decidable (nmB x = true))
def varsP (vs : List Tx) (lo hi : Nat) : Prop := (∀ v ∈ vs, v ∈ NM) ∧ vs.Nodup ∧ lo ≤ vs.length ∧ vs.length ≤ hi
mutual
def Wf : Fm → Prop
  | .rel x as => x ∈ NM ∧ (∀ a ∈ as, a ∈ NM) ∧ as.length ≤ 6
  | .cmp _ a b => a ∈ NM ∧ b ∈ NM
  | .not f => Wf f
  | .con _ fs => fs.length ≤ 40 ∧ Wfs fs
  | .qu _ vs f => varsP vs 1 6 ∧ Wf f
  | .fix _ r vs f gs => r ∈ NM ∧ varsP vs 1 6 ∧ (∀ g ∈ gs, g ∈ NM) ∧ gs.length = vs.length ∧ Wf f
  | .tc vs f gs => varsP vs 2 8 ∧ vs.length % 2 = 0 ∧ (∀ g ∈ gs, g ∈ NM) ∧ gs.length = vs.length ∧ Wf f
  | .gue r k f => r ∈ NM ∧ k ≤ 3 ∧ Wf f
def Wfs : List Fm → Prop
  | [] => True
  | f :: r => Wf f ∧ Wfs r
end
theorem wfs_mem : ∀ {fs : List Fm} {p : Fm}, Wfs fs → p ∈ fs → Wf p
  | f :: r, p, h, hp => by
    rw [Wfs] at h
    rcases List.mem_cons.1 hp with hp | hp
    · subst hp; exact h.1
    · exact wfs_mem h.2 hp
theorem wf_part {f p : Fm} (h : Wf f) (hp : p ∈ parts f) : Wf p := by
  cases f <;> simp only [parts, List.mem_singleton, List.not_mem_nil] at hp <;> simp only [Wf] at h
  · subst hp; exact h
  · exact wfs_mem h.2 hp
  · subst hp; exact h.2
  · subst hp; exact h.2.2.2.2
  · subst hp; exact h.2.2.2.2
  · subst hp; exact h.2.2
theorem wf_parts {f : Fm} (h : Wf f) : (parts f).length ≤ 40 := by
  cases f <;> simp [parts]
  rw [Wf] at h
  exact h.1
theorem wf_own {f : Fm} (h : Wf f) : (ownV f).length ≤ 8 := by
  cases f <;> simp only [ownV, List.length_nil, Nat.zero_le] <;> rw [Wf] at h
  · have := h.1.2.2.2; omega
  · have := h.2.1.2.2.2; omega
  · have := h.1.2.2.2; omega
theorem view_tX (vs : List Tx) (S : Store) : view (tX vs) S = some (.ok (tX vs), S) := rfl
theorem lenF_tX (vs : List Tx) : lenF (tX vs) = ret (.int vs.length) := by simp only [tX, lenF_tup, List.length_map]
theorem seqM_tX (vs : List Tx) : seqM (tX vs) = ret (vs.map .str, []) := rfl
theorem itemsF_tX (vs : List Tx) : itemsF (tX vs) = ret (vs.map .str) := rfl
theorem int_map (xs : List Fm) (g : Fm → Int) : xs.map (fun p => D.int (g p)) = (xs.map g).map .int := by simp
/-! what the law says of costs -/
end Mi

set_option autoImplicit true
set_option maxRecDepth 512
set_option maxHeartbeats 200000
set_option Elab.async false
set_option autoImplicit false
set_option linter.unusedSimpArgs false
set_option linter.unusedVariables false
namespace Mi
open M
set_option maxRecDepth 100000
local macro_rules | `(tactic| simp! only [$xs,*] $[$l:location]?) => `(tactic| simp only [↓ev_fld_at, ↓ev_meth_at, ↓ev_new_at, ↓ex_asgFld_at, methK_at, methK2_at, methK3_at, newK_at, newM_at, isNonM_at, asgFldK_at, asgFldK2_at, fldM_at, fldF, setFldM_at, setFldC, clsM_at, clsF, lookN, putFd, flOk, ↓for_at, forS_at, lcS_at, ↓ev_non_at, ↓ev_bl_at, ↓ev_int_at, ↓ev_str_at, ↓ev_var_at, ↓ev_glob_at, ↓ev_op_at, ↓ev_neg_at, ↓ev_cmp_at, ↓ev_chain_at, ↓ev_not_at, ↓ev_and_at, ↓ev_or_at, ↓ev_ite_at, ↓ev_tup_at, ↓ev_lst_at, ↓ev_flst_at, ↓ev_dct_at, ↓ev_fslice_at, ↓ev_lenset_at, flstK_at, fslK_at, fslK2_at, lcR_t, lcR_f, lcR_ex, ↓ex_augFld_at, augFldK_at, augFldK2_at, augFldK3_at, augFldK4_at, ↓ex_try_at, tryR_nx, tryR_rt, viewK_at, view_loc, view_non, view_bl, view_int, view_str, view_tup, view_fzl, view_fzd, view_fzo, viewC, indexM_at, indexF_tup, indexF_fzl, indexF_str, indexF_fzd, sliceM_at, sliceF_tup, sliceF_fzl, sliceF_str, sliceP_at, slicePF, eqK_at, eqK2_at, eqM_at, inM_at, inF, nbnK_at, cmp_eq_at, cmp_ne_at, cmp_in_at, cmp_nin_at, cmp_lt_at, cmp_le_at, cmp_gt_at, cmp_ge_at, cmp_is_at, cmp_isnt_at, addL_at, addI_at, lenM_at, lenF_str, lenF_tup, lenF_fzl, listM_at, flistM_at, tupleM_at, itemsF_tup, itemsF_fzl, lstF_fzl, sumK_at, sumK2_at, sumM_at, intsO_map, setIxM_at, setIxL_at, setIxD_at, putIxK_at, append_at, appC, dctU, lstU, someC, extend_at, extC, extF, pop_at, popC, popAt_at, popAtC_at, popAtK2_at, popAtK3_at, retKM_at, sdf_at, sdfC_at, sdfO_some, sdfO_none, get1_at, getF, isDct_at, isLst_at, isD_at, isDF, dict_at, dictC, truthy_loc, intF, max2F, min2F, endC_nx, endC_rt, endC_rtP, endC_ex, gc_bl, gc_int, gc_str, gc_non, ↓ev_ix_at, ↓ev_slice_at, ↓ev_call_at, ↓ev_bi_at, ↓ev_mt_at, ↓ev_isi_at, ↓ev_lc_at, ↓evs_nil_at, ↓evs_cons_at, ↓evo_none_at, ↓evo_some_at, ↓evc_nil_at, ↓evc_cons_at, ↓ex_asg_at, ↓ex_asgIx_at, ↓ex_aug_at, ↓ex_expr_at, ↓ex_ite_at, ↓ex_ret_at, ↓ex_retN_at, ↓ex_raise_at, ↓ex_brk_at, ↓ex_cont_at, ↓ex_pass_at, ↓ex_while_at, ↓exs_nil_at, ↓exs_cons_at, asgK_at, asgR_ok, goOn_at, augK1_at, augK2_at, augK3_at, asgIxK_at, asgIxK2_at, asgIxK3_at, blK_at, nbK_at, opK_at, cmpK_at, cmpK2_at, chK_at, chK2_at, chK3_t, chK3_f, notK_at, andK_at, andK2_t, andK2_f, orK_at, orK2_t, orK2_f, ifK_at, ifK2_t, ifK2_f, tupK_at, lstK_at, ixK_at, slK_at, slK2_at, mtK_at, mtK2_at, isiK_at, consK_at, consK2_at, csK_at, csK2_t, csK2_f, someK_at, eltK_t, eltK_f, oneK_at, oneL_at, seqK_at, iteK_t, iteK_f, retS_at, noexR_ok, negM, intM, ↓msB_at, ↓msS_at, msB_ok, msB_ex, msS_msS, msS_nx, msS_rt, msS_ex, msS_bk, msS_ct, truthy_non, truthy_bl, truthy_int, truthy_str, truthy_tup, truthy_fzl, ↓bnd_at, bndR_ok, bndR_ex, of_some, ret_at, binop, iopM, ↓need_at, bindT, bindTs, biM, get_at, put_at, new_at, ↓isi_cons_at, isi_nil_at, isiR_t, isiR_f, isTy_non, isTy_bl, isTy_int, isTy_str, isTy_tup, isTy_fzl, mtM, mtPre, upperM, isStr, itM, seq1, seqM_tup, seqM_fzl, seqM_scr, seqM_str, seqM_loc, lstS, rng1, rng2, D.isNon, D.flat, D.flats, D.deep, D.deeps, D.eqv, D.eqvs, Nat.zero_le, Nat.max_self, and_self, lt0, lt1, lt2, lt3, atI0, atI1, atI2, atI3, ixN0, ixN1, ixN2, ixN3, getc0, getc1, getc2, getc3, getc4, getc5, getc6, getc7, getc8, setc0, setc1, setc2, setc3, setc4, setc5, setc6, setc7, setc8, id, Option.join_some, Option.join, Option.bind, Option.map, List.map_cons, List.map_nil, List.length_map, List.length_cons, List.length_nil, List.getElem?_cons_zero, List.getElem?_cons_succ, List.set_cons_zero, List.set_cons_succ, Nat.zero_add, List.append_nil, List.nil_append, List.cons_append, Int.reducePow, Int.reduceToNat, Int.zero_add, Int.cast_ofNat_Int, decide_true, decide_false, Bool.not_true, Bool.not_false, Bool.and_self, Bool.true_and, Bool.false_and, Bool.and_true, Nat.zero_max, Nat.max_zero, if_true, if_false, ite_true, ite_false, reduceIte, reduceCtorEq, Bool.false_eq_true, Bool.true_eq_false, or_true, true_or, and_true, true_and, or_false, false_or, Nat.reduceLT, Nat.reduceAdd, Nat.reduceLeDiff, Int.reduceLT, Int.reduceLE, Int.reduceAdd, Nat.zero_lt_succ, beq_self_eq_true, decide_eq_true_eq, gc_self, bel_non, bel_bl, bel_int, bel_str, bel_tup, bel_fzl, bels_nil, bels_cons, List.cons.injEq, Nat.reduceEqDiff, and_false, false_and, eq_self, List.any_cons, List.any_nil, Bool.or_false, Bool.false_or, Bool.true_or, Bool.or_true, atI4, Int.ofNat_zero, Int.natCast_zero, Int.natCast_one, Int.natCast_succ, decide_not, $xs,*] $[$l:location]?)
/-! what the program asks of a formula -/
theorem in_words (x : Tx) (S : Store) : inF (.str x) (.tup (wordsT.map .str)) S = some (.ok (decide (x ∈ wordsT)), S) := by
  have h1 : inF (.str x) (.tup (wordsT.map .str)) = need (D.flat (.str x) = true ∧ D.flats (wordsT.map .str) = true ∧ D.deep (.str x) ≤ 64 ∧ D.deeps (wordsT.map .str) < 64) (ret ((wordsT.map .str).any fun y => D.eqv y (.str x))) := by
    match x with
    | [] => rfl
    | [_] => rfl
    | _ :: _ :: _ => rfl
  rw [h1, need_at, if_pos ⟨rfl, by decide, Nat.zero_le _, by decide⟩, ret_at]
  have h2 : ((wordsT.map D.str).any fun y => D.eqv y (.str x)) = decide (x ∈ wordsT) := by
    rw [List.any_map, Bool.eq_iff_iff, List.any_eq_true, decide_eq_true_eq]
    constructor
    · rintro ⟨w, hw, e⟩
      have : w = x := of_decide_eq_true e
      exact this ▸ hw
    · intro h
      exact ⟨x, h, decide_eq_true rfl⟩
  rw [h2]
theorem nm_parts {x : Tx} (h : x ∈ NM) : ∃ c r, x = c :: r ∧ c ∈ lettersT ∧ x.length ≤ 12 ∧ x ∉ wordsT ∧ ∀ c ∈ x, c ∈ lettersT ∨ c ∈ figuresT := by
  have h := nm_iff.1 h
  unfold nmB at h
  simp only [Bool.and_eq_true, decide_eq_true_eq, List.all_eq_true, Bool.or_eq_true] at h
  obtain ⟨⟨⟨h1, h2⟩, h3⟩, h4⟩ := h
  cases x with
  | nil => simp at h2
  | cons c r => exact ⟨c, r, rfl, by simpa using h2, h1, h3, h4⟩
/-- a name's run, its signs by what is asked of each -/
theorem is_name_loop (cl : Cl) (X LT FT W : D) (c0 : D) (m : Int) (cs : List D) (S : Store) (g1 : cl.gl "LONGEST" = some (.int 12)) (g2 : cl.gl "LETTERS" = some LT) (g3 : cl.gl "FIGURES" = some FT) (g4 : cl.gl "WORDS" = some W)
    (hty : ∀ S, isTy S X .str = some true) (hv : ∀ S, view X S = some (.ok X, S)) (hvL : ∀ S, view LT S = some (.ok LT, S)) (hvF : ∀ S, view FT S = some (.ok FT, S)) (hvW : ∀ S, view W S = some (.ok W, S)) (hl : lenF X = ret (.int m)) (a1 : 1 ≤ m) (a2 : m ≤ 12)
    (hi : ∀ S, indexF X (.int 0) S = some (.ok c0, S)) (hin : ∀ S, inF c0 LT S = some (.ok true, S)) (hwd : ∀ S, inF X W S = some (.ok false, S)) (hsq : seqM X = ret (cs, []))
    (hone : ∀ c ∈ cs, (∀ S, inF c LT S = some (.ok true, S)) ∨ ((∀ S, inF c LT S = some (.ok false, S)) ∧ ∀ S, inF c FT S = some (.ok true, S))) : callB cl f_is_name [X] S = some (.ok (.bl true), S) := by
  suffices h : ∃ o S', callB cl f_is_name [X] S = some (o, S') ∧ (o = .ok (.bl true) ∧ S' = S) by
    obtain ⟨o, S', e, rfl, rfl⟩ := h
    exact e
  apply call_wp rfl (by decide) rfl
  show Wp (exSs _ f_is_name.body [some X, none] S) _
  simp! only [f_is_name, g1, g2, g4, hty, hv, hvL, hvW, hl, a1, a2, ↓hi, ↓hin, ↓hwd, hsq]
  refine wp_for (P := fun j ρ T => T = S ∧ ∃ q, ρ = [some X, q]) (B := fun _ _ => False) ⟨rfl, none, rfl⟩ (by intros; rfl) ?_ ?_
  · rintro j x ρ T hx ⟨rfl, q, rfl⟩
    refine ⟨[some X, some x], rfl, ?_⟩
    rcases hone x (List.mem_of_getElem? hx) with h1 | ⟨h1, h2⟩
    · simp! only [g2, hvL, ↓h1, wp_some, turn_nx]
      exact ⟨_, rfl⟩
    · simp! only [g2, g3, hvL, hvF, ↓h1, ↓h2, wp_some, turn_nx]
      exact ⟨_, rfl⟩
  · rintro ρ T (⟨⟨⟩⟩ | ⟨rfl, q, rfl⟩)
    simp! only [wp_some]
theorem is_name_core (cl : Cl) (g1 : cl.gl "LONGEST" = some (.int 12)) (g2 : cl.gl "LETTERS" = some (.str lettersT)) (g3 : cl.gl "FIGURES" = some (.str figuresT)) (g4 : cl.gl "WORDS" = some (.tup (wordsT.map .str)))
    (x : Tx) (hx : x ∈ NM) (S : Store) : callB cl f_is_name [.str x] S = some (.ok (.bl true), S) := by
  obtain ⟨c, r, he, hc, hl, hw, ha⟩ := nm_parts hx
  refine is_name_loop cl (.str x) (.str lettersT) (.str figuresT) (.tup (wordsT.map .str)) (.str [c]) (x.length : Int) (x.map fun c => .str [c]) S g1 g2 g3 g4 (fun _ => rfl) (fun _ => rfl) (fun _ => rfl) (fun _ => rfl) (fun _ => rfl) rfl (by rw [he, List.length_cons]; omega) (by omega) (fun S => by rw [he, indexF_str, atI0]; rfl) (fun S => ?_) (fun S => ?_) rfl ?_
  · show some (Out.ok (decide (c ∈ lettersT)), S) = _
    rw [decide_eq_true hc]
  · rw [in_words, decide_eq_false hw]
  · intro d hd
    obtain ⟨c, hc, rfl⟩ := List.mem_map.1 hd
    have e1 : ∀ S, inF (.str [c]) (.str lettersT) S = some (.ok (decide (c ∈ lettersT)), S) := fun _ => rfl
    have e2 : ∀ S, inF (.str [c]) (.str figuresT) S = some (.ok (decide (c ∈ figuresT)), S) := fun _ => rfl
    by_cases q : c ∈ lettersT
    · left; intro S; rw [e1, decide_eq_true q]
    · right
      exact ⟨fun S => by rw [e1, decide_eq_false q], fun S => by rw [e2, decide_eq_true ((ha c hc).resolve_left q)]⟩
theorem are_names_core (cl : Cl) (hn : ∀ x ∈ NM, ∀ S, cl.fn "is_name" [.str x] S = some (.ok (.bl true), S)) (vs : List Tx) (hv : ∀ v ∈ vs, v ∈ NM) (lo hi m : Int) (V : D) (h1 : ∀ S, isTy S V .tuple = some true) (h2 : ∀ S, view V S = some (.ok V, S)) (h3 : lenF V = ret (.int m)) (h4 : seqM V = ret (vs.map .str, []))
    (hlo : lo ≤ m) (hhi : m ≤ hi) (S : Store) : callB cl f_are_names [V, .int lo, .int hi] S = some (.ok (.bl true), S) := by
  suffices h : ∃ o S', callB cl f_are_names [V, .int lo, .int hi] S = some (o, S') ∧ (o = .ok (.bl true) ∧ S' = S) by
    obtain ⟨o, S', e, rfl, rfl⟩ := h
    exact e
  apply call_wp rfl (by decide) rfl
  show Wp (exSs _ f_are_names.body [some V, some (.int lo), some (.int hi), none] S) _
  simp! only [f_are_names, h1, h2, h3, h4, hlo, hhi]
  refine wp_for (P := fun j ρ T => T = S ∧ ∃ q, ρ = [some V, some (.int lo), some (.int hi), q]) (B := fun _ _ => False) ⟨rfl, none, rfl⟩ (by intros; rfl) ?_ ?_
  · rintro j x ρ T hx ⟨rfl, q, rfl⟩
    rw [List.getElem?_map] at hx
    obtain ⟨v, hv1, rfl⟩ := Option.map_eq_some_iff.1 hx
    have hm := hv v (List.mem_of_getElem? hv1)
    refine ⟨[some V, some (.int lo), some (.int hi), some (.str v)], rfl, ?_⟩
    simp! only [hn v hm, wp_some, turn_nx]
    exact ⟨_, rfl⟩
  · rintro ρ T (⟨⟨⟩⟩ | ⟨rfl, q, rfl⟩)
    simp! only [wp_some]
theorem strsO_map : ∀ vs : List Tx, strsO (vs.map .str) = some vs
  | [] => rfl
  | v :: vs => by rw [List.map_cons, strsO, strsO_map vs]; rfl
theorem once_nodup : ∀ vs : List Tx, vs.Nodup → once vs = vs
  | [], _ => rfl
  | v :: vs, h => by
    rw [List.nodup_cons] at h
    rw [once, if_neg h.1, once_nodup vs h.2]
theorem lenset_tX (vs : List Tx) (h : vs.Nodup) (hl : vs.length < 4000) (S : Store) : lensetM (tX vs) S = some (.ok (.int vs.length), S) := by
  show bnd (of (strsO (vs.map .str))) _ S = _
  rw [strsO_map, bnd_at, of_some, bndR_ok, need_at, if_pos hl, once_nodup vs h]
  rfl
theorem are_variables_core (cl : Cl) (lo hi m : Int) (V : D) (h2 : ∀ S, view V S = some (.ok V, S)) (h3 : lenF V = ret (.int m)) (hs : ∀ S, lensetM V S = some (.ok (.int m), S)) (ha : ∀ S, cl.fn "are_names" [V, .int lo, .int hi] S = some (.ok (.bl true), S)) (S : Store) :
    callB cl f_are_variables [V, .int lo, .int hi] S = some (.ok (.bl true), S) := by
  rw [callB_of _ _ _ _ rfl (by decide)]
  show endC false S (exSs cl f_are_variables.body [some V, some (.int lo), some (.int hi)] S) = _
  simp! only [f_are_variables, ha, hs, h2, h3]

structure WG (cl : Cl) : Prop where
  gL : cl.gl "LENGTHS" = some (.fzd [.str [114, 101, 108], .str [101, 113], .str [108, 101, 115, 115], .str [110, 111, 116], .str [97, 110, 100], .str [111, 114], .str [115, 111, 109, 101], .str [97, 108, 108], .str [108, 102, 112], .str [112, 102, 112], .str [116, 99], .str [103, 117, 101, 115, 115]] [.int 3, .int 3, .int 3, .int 2, .int 2, .int 2, .int 3, .int 3, .int 5, .int 5, .int 4, .int 4])
  g3 : cl.gl "GUESSED" = some (.int 3)
  g6 : cl.gl "PLACES" = some (.int 6)
  g8 : cl.gl "STEPS" = some (.int 8)
  g40 : cl.gl "BRANCHES" = some (.int 40)
  gQ : cl.gl "QUANTIFIERS" = some (.tup [.str [115, 111, 109, 101], .str [97, 108, 108]])
  gF : cl.gl "FIXED" = some (.tup [.str [108, 102, 112], .str [112, 102, 112]])
theorem wg_mk (k : Nat) : WG (callK prog k) := ⟨G_LENGTHS k, G_GUESSED k, G_PLACES k, G_STEPS k, G_BRANCHES k, G_QUANTIFIERS k, G_FIXED k⟩
theorem wm_rel (cl : Cl) (g : WG cl) (x A : D) (S : Store) (f1 : cl.fn "is_name" [x] S = some (.ok (.bl true), S)) (f2 : cl.fn "are_names" [A, .int 0, .int 6] S = some (.ok (.bl true), S)) :
    callB cl f_is_well_made [.tup [.str wRel, x, A]] S = some (.ok (.bl true), S) := by
  obtain ⟨gL, g3, g6, g8, g40, gQ, gF⟩ := g
  rw [callB_of _ _ _ _ rfl (by decide)]
  show endC false S (exSs cl f_is_well_made.body [some (.tup [.str wRel, x, A]), none] S) = _
  simp! only [f_is_well_made, enc, keyFit, lookF, D.str.injEq, Option.getD_some, List.isEmpty_cons, gL, g3, g6, g8, g40, gQ, gF, f1, f2]
theorem wm_cmp (cl : Cl) (g : WG cl) (w : Bool) (x y : D) (S : Store) (f1 : cl.fn "is_name" [x] S = some (.ok (.bl true), S)) (f2 : cl.fn "is_name" [y] S = some (.ok (.bl true), S)) :
    callB cl f_is_well_made [.tup [.str (if w then wEq else wLess), x, y]] S = some (.ok (.bl true), S) := by
  obtain ⟨gL, g3, g6, g8, g40, gQ, gF⟩ := g
  rw [callB_of _ _ _ _ rfl (by decide)]
  show endC false S (exSs cl f_is_well_made.body [some (.tup [.str (if w then wEq else wLess), x, y]), none] S) = _
  cases w <;> simp! only [f_is_well_made, enc, keyFit, lookF, D.str.injEq, Option.getD_some, List.isEmpty_cons, gL, g3, g6, g8, g40, gQ, gF, f1, f2]
theorem wm_not (cl : Cl) (g : WG cl) (x : D) (S : Store) : callB cl f_is_well_made [.tup [.str wNot, x]] S = some (.ok (.bl true), S) := by
  obtain ⟨gL, g3, g6, g8, g40, gQ, gF⟩ := g
  rw [callB_of _ _ _ _ rfl (by decide)]
  show endC false S (exSs cl f_is_well_made.body [some (.tup [.str wNot, x]), none] S) = _
  simp! only [f_is_well_made, enc, keyFit, lookF, D.str.injEq, Option.getD_some, List.isEmpty_cons, gL, g3, g6, g8, g40, gQ, gF]
theorem wm_con (cl : Cl) (g : WG cl) (w : Bool) (A : D) (m : Int) (h1 : ∀ S, isTy S A .tuple = some true) (h2 : ∀ S, view A S = some (.ok A, S)) (h3 : lenF A = ret (.int m)) (hm : m ≤ 40) (S : Store) : callB cl f_is_well_made [.tup [.str (if w then wAnd else wOr), A]] S = some (.ok (.bl true), S) := by
  obtain ⟨gL, g3, g6, g8, g40, gQ, gF⟩ := g
  rw [callB_of _ _ _ _ rfl (by decide)]
  show endC false S (exSs cl f_is_well_made.body [some (.tup [.str (if w then wAnd else wOr), A]), none] S) = _
  cases w <;> simp! only [f_is_well_made, enc, keyFit, lookF, D.str.injEq, Option.getD_some, List.isEmpty_cons, gL, g3, g6, g8, g40, gQ, gF, h1, h2, h3, hm]
theorem wm_qu (cl : Cl) (g : WG cl) (w : Bool) (A x : D) (S : Store) (f1 : cl.fn "are_variables" [A, .int 1, .int 6] S = some (.ok (.bl true), S)) :
    callB cl f_is_well_made [.tup [.str (if w then wSome else wAll), A, x]] S = some (.ok (.bl true), S) := by
  obtain ⟨gL, g3, g6, g8, g40, gQ, gF⟩ := g
  rw [callB_of _ _ _ _ rfl (by decide)]
  show endC false S (exSs cl f_is_well_made.body [some (.tup [.str (if w then wSome else wAll), A, x]), none] S) = _
  cases w <;> simp! only [f_is_well_made, enc, keyFit, lookF, D.str.injEq, Option.getD_some, List.isEmpty_cons, gL, g3, g6, g8, g40, gQ, gF, f1]
theorem wm_fix (cl : Cl) (g : WG cl) (w : Bool) (r A x B : D) (m : Int) (h2 : ∀ S, view A S = some (.ok A, S)) (h3 : lenF A = ret (.int m)) (S : Store) (f0 : cl.fn "is_name" [r] S = some (.ok (.bl true), S)) (f1 : cl.fn "are_variables" [A, .int 1, .int 6] S = some (.ok (.bl true), S)) (f2 : cl.fn "are_names" [B, .int m, .int m] S = some (.ok (.bl true), S)) :
    callB cl f_is_well_made [.tup [.str (if w then wLfp else wPfp), r, A, x, B]] S = some (.ok (.bl true), S) := by
  obtain ⟨gL, g3, g6, g8, g40, gQ, gF⟩ := g
  rw [callB_of _ _ _ _ rfl (by decide)]
  show endC false S (exSs cl f_is_well_made.body [some (.tup [.str (if w then wLfp else wPfp), r, A, x, B]), none] S) = _
  cases w <;> simp! only [f_is_well_made, enc, keyFit, lookF, D.str.injEq, Option.getD_some, List.isEmpty_cons, gL, g3, g6, g8, g40, gQ, gF, h2, h3, f0, f1, f2]
theorem wm_tc (cl : Cl) (g : WG cl) (A x B : D) (m : Int) (h2 : ∀ S, view A S = some (.ok A, S)) (h3 : lenF A = ret (.int m)) (hm : (m % 2 = 1) = False) (S : Store) (f1 : cl.fn "are_variables" [A, .int 2, .int 8] S = some (.ok (.bl true), S)) (f2 : cl.fn "are_names" [B, .int m, .int m] S = some (.ok (.bl true), S)) :
    callB cl f_is_well_made [.tup [.str wTc, A, x, B]] S = some (.ok (.bl true), S) := by
  obtain ⟨gL, g3, g6, g8, g40, gQ, gF⟩ := g
  have h02 : (0 : Int) < 2 := by decide
  rw [callB_of _ _ _ _ rfl (by decide)]
  show endC false S (exSs cl f_is_well_made.body [some (.tup [.str wTc, A, x, B]), none] S) = _
  simp! only [f_is_well_made, enc, keyFit, lookF, D.str.injEq, Option.getD_some, List.isEmpty_cons, gL, g3, g6, g8, g40, gQ, gF, h2, h3, f1, f2, hm, h02]
theorem wm_gue (cl : Cl) (g : WG cl) (r x : D) (m : Int) (S : Store) (f0 : cl.fn "is_name" [r] S = some (.ok (.bl true), S)) (f1 : cl.fn "is_below" [.int m, .int 4] S = some (.ok (.bl true), S)) :
    callB cl f_is_well_made [.tup [.str wGue, r, .int m, x]] S = some (.ok (.bl true), S) := by
  obtain ⟨gL, g3, g6, g8, g40, gQ, gF⟩ := g
  have h31 : (3 : Int) + 1 = 4 := by decide
  rw [callB_of _ _ _ _ rfl (by decide)]
  show endC false S (exSs cl f_is_well_made.body [some (.tup [.str wGue, r, .int m, x]), none] S) = _
  simp! only [f_is_well_made, enc, keyFit, lookF, D.str.injEq, Option.getD_some, List.isEmpty_cons, gL, g3, g6, g8, g40, gQ, gF, f0, f1, h31]

theorem is_name_run (k : Nat) (x : Tx) (hx : x ∈ NM) (S : Store) : callB (callK prog k) f_is_name [.str x] S = some (.ok (.bl true), S) := is_name_core _ (G_LONGEST k) (G_LETTERS k) (G_FIGURES k) (G_WORDS k) x hx S
theorem are_names_run (k : Nat) (vs : List Tx) (hv : ∀ v ∈ vs, v ∈ NM) (lo hi : Int) (hlo : lo ≤ (vs.length : Int)) (hhi : (vs.length : Int) ≤ hi) (S : Store) : callB (callK prog (k + 1)) f_are_names [tX vs, .int lo, .int hi] S = some (.ok (.bl true), S) :=
  are_names_core _ (fun x hx S => by rw [F_is_name]; exact is_name_run k x hx S) vs hv lo hi _ (tX vs) (fun _ => rfl) (fun _ => rfl) (lenF_tX vs) (seqM_tX vs) hlo hhi S
theorem are_variables_run (k : Nat) (vs : List Tx) (lo hi : Nat) (h : varsP vs lo hi) (hh : hi < 4000) (S : Store) : callB (callK prog (k + 2)) f_are_variables [tX vs, .int lo, .int hi] S = some (.ok (.bl true), S) :=
  are_variables_core _ lo hi _ (tX vs) (fun _ => rfl) (lenF_tX vs) (fun S => lenset_tX vs h.2.1 (by have := h.2.2.2; omega) S) (fun S => by rw [F_are_names]; exact are_names_run k vs h.1 lo hi (by have := h.2.2.1; omega) (by have := h.2.2.2; omega) S) S
theorem well_made_run (k : Nat) (f : Fm) (h : Wf f) (S : Store) : callB (callK prog (k + 3)) f_is_well_made [enc f] S = some (.ok (.bl true), S) := by
  have hn : ∀ x ∈ NM, (callK prog (k + 3)).fn "is_name" [.str x] S = some (.ok (.bl true), S) := fun x hx => by rw [F_is_name]; exact is_name_run _ x hx S
  have ha : ∀ (vs : List Tx) (lo hi : Int), (∀ v ∈ vs, v ∈ NM) → lo ≤ (vs.length : Int) → (vs.length : Int) ≤ hi → (callK prog (k + 3)).fn "are_names" [tX vs, .int lo, .int hi] S = some (.ok (.bl true), S) := fun vs lo hi h1 h2 h3 => by
    rw [F_are_names]; exact are_names_run (k + 1) vs h1 lo hi h2 h3 S
  have hv : ∀ (vs : List Tx) (lo hi : Nat), varsP vs lo hi → hi < 4000 → (callK prog (k + 3)).fn "are_variables" [tX vs, .int lo, .int hi] S = some (.ok (.bl true), S) := fun vs lo hi h1 h2 => by
    rw [F_are_variables]; exact are_variables_run k vs lo hi h1 h2 S
  have g := wg_mk (k + 3)
  cases f with
  | rel x as =>
    rw [Wf] at h
    rw [enc]
    exact wm_rel _ g _ _ S (hn x h.1) (ha as 0 6 h.2.1 (by omega) (by have := h.2.2; omega))
  | cmp w a b =>
    rw [Wf] at h
    rw [enc]
    exact wm_cmp _ g w _ _ S (hn a h.1) (hn b h.2)
  | not f =>
    rw [enc]
    exact wm_not _ g _ S
  | con w fs =>
    rw [Wf] at h
    rw [enc]
    exact wm_con _ g w _ _ (fun _ => rfl) (fun _ => rfl) rfl (by rw [encs_map, List.length_map]; have := h.1; omega) S
  | qu w vs f =>
    rw [Wf] at h
    rw [enc]
    exact wm_qu _ g w _ _ S (hv vs 1 6 h.1 (by omega))
  | fix w r vs f gs =>
    rw [Wf] at h
    rw [enc]
    exact wm_fix _ g w _ _ _ _ _ (fun _ => rfl) (lenF_tX vs) S (hn r h.1) (hv vs 1 6 h.2.1 (by omega)) (ha gs _ _ h.2.2.1 (by rw [h.2.2.2.1]; omega) (by rw [h.2.2.2.1]; omega))
  | tc vs f gs =>
    rw [Wf] at h
    rw [enc]
    exact wm_tc _ g _ _ _ _ (fun _ => rfl) (lenF_tX vs) (by have := h.2.1; apply eq_false; omega) S (hv vs 2 8 h.1 (by omega)) (ha gs _ _ h.2.2.1 (by rw [h.2.2.2.1]; omega) (by rw [h.2.2.2.1]; omega))
  | gue r j f =>
    rw [Wf] at h
    rw [enc]
    exact wm_gue _ g _ _ _ S (hn r h.1) (by rw [F_is_below]; exact is_below_int (k + 1) j 4 S (by omega) (by have := h.2.1; omega))

/-! ### does a name occur, and where -/
mutual
def occ (x : Tx) : Fm → Bool
  | .rel y _ => decide (y = x)
  | .cmp _ _ _ => false
  | .not f => occ x f
  | .con _ fs => occs x fs
  | .qu _ _ f => occ x f
  | .fix _ r _ f _ => !decide (r = x) && occ x f
  | .tc _ f _ => occ x f
  | .gue r _ f => !decide (r = x) && occ x f
def occs (x : Tx) : List Fm → Bool
  | [] => false
  | f :: r => occ x f || occs x r
end
mutual
def agr (x : Tx) : Bool → Fm → Bool
  | e, .rel y _ => !decide (y = x) || e
  | _, .cmp _ _ _ => true
  | e, .not f => agr x (!e) f
  | e, .con _ fs => agrs x e fs
  | e, .qu _ _ f => agr x e f
  | e, .fix w r _ f _ => decide (r = x) || ((w || !occ x f) && agr x e f)
  | e, .tc _ f _ => agr x e f
  | e, .gue r _ f => decide (r = x) || agr x e f
def agrs (x : Tx) : Bool → List Fm → Bool
  | _, [] => true
  | e, f :: r => agr x e f && agrs x e r
end
def ownB (x : Tx) (f : Fm) : Bool := match ownN f with
  | some (r, _) => decide (r = x)
  | none => false
theorem occs_any (x : Tx) : ∀ fs : List Fm, occs x fs = fs.any (occ x)
  | [] => by rw [occs]; rfl
  | f :: r => by rw [occs, occs_any x r]; rfl
theorem agrs_all (x : Tx) (e : Bool) : ∀ fs : List Fm, agrs x e fs = fs.all (agr x e)
  | [] => by rw [agrs]; rfl
  | f :: r => by rw [agrs, agrs_all x e r]; rfl
theorem occ_parts (x : Tx) (f : Fm) (h : word f ≠ wRel) : occ x f = (!ownB x f && (parts f).any (occ x)) := by
  cases f with
  | rel y as => exact absurd rfl h
  | con w fs => simp [occ, ownB, ownN, parts, occs_any]
  | _ => simp [occ, ownB, ownN, parts]
def flips (f : Fm) (e : Bool) : Bool := match f with
  | .not _ => !e
  | _ => e
def pfpB (x : Tx) (f : Fm) : Bool := match f with
  | .fix false _ _ g _ => occ x g
  | _ => false
theorem agr_parts (x : Tx) (e : Bool) (f : Fm) (h : word f ≠ wRel) : agr x e f = (ownB x f || (!pfpB x f && (parts f).all (agr x (flips f e)))) := by
  cases f with
  | rel y as => exact absurd rfl h
  | con w fs => simp [agr, ownB, ownN, parts, agrs_all, flips, pfpB]
  | fix w r vs g gs => cases w <;> simp [agr, ownB, ownN, parts, flips, pfpB]
  | _ => simp [agr, ownB, ownN, parts, flips, pfpB]
theorem word_rel (f : Fm) (h : word f = wRel) : ∃ x as, f = .rel x as := by
  cases f with
  | rel x as => exact ⟨x, as, rfl⟩
  | cmp w a b => cases w <;> simp [word] at h
  | con w fs => cases w <;> simp [word] at h
  | qu w a b => cases w <;> simp [word] at h
  | fix w a b c d => cases w <;> simp [word] at h
  | _ => simp [word] at h
theorem occ_rel (cl : Cl) (y x : Tx) (A : D) (S : Store) : callB cl f_occurs [.tup [.str wRel, .str y, A], .str x] S = some (.ok (.bl (decide (y = x))), S) := by
  rw [callB_of _ _ _ _ rfl (by decide)]
  show endC false S (exSs cl f_occurs.body [some (.tup [.str wRel, .str y, A]), some (.str x), none, none] S) = _
  simp! only [f_occurs]
theorem agr_rel (cl : Cl) (y x : Tx) (A : D) (e : Bool) (S : Store) : callB cl f_agrees [.tup [.str wRel, .str y, A], .str x, .bl e] S = some (.ok (.bl (!decide (y = x) || e)), S) := by
  rw [callB_of _ _ _ _ rfl (by decide)]
  show endC false S (exSs cl f_agrees.body [some (.tup [.str wRel, .str y, A]), some (.str x), some (.bl e), none, none] S) = _
  by_cases h : y = x <;> simp! only [f_agrees, h]
theorem occ_core (cl : Cl) (E : D) (w x : Tx) (o : Option (Tx × Nat)) (ow : Bool) (ho : ow = match o with | some (r, _) => decide (r = x) | none => false) (ps : List Fm) (ob : Fm → Bool) (S : Store) (hw : (w = wRel) = False) (h1 : ∀ S, view E S = some (.ok E, S)) (h2 : ∀ S, indexF E (.int 0) S = some (.ok (.str w), S))
    (h3 : ∀ S, cl.fn "own_name" [E] S = some (.ok (ownD o), S)) (h4 : ∀ S, cl.fn "inner" [E] S = some (.ok (.tup (ps.map enc)), S)) (h5 : ∀ p ∈ ps, ∀ S, cl.fn "occurs" [enc p, .str x] S = some (.ok (.bl (ob p)), S)) :
    callB cl f_occurs [E, .str x] S = some (.ok (.bl (!ow && ps.any ob)), S) := by
  suffices h : ∃ o S', callB cl f_occurs [E, .str x] S = some (o, S') ∧ (o = .ok (.bl (!ow && ps.any ob)) ∧ S' = S) by
    obtain ⟨o, S', e, rfl, rfl⟩ := h
    exact e
  subst ho
  have tail : ∀ q, Wp (exSs cl (f_occurs.body.drop 3) [some E, some (.str x), some q, none] S) fun d T => d = .rt (.bl (ps.any ob)) ∧ T = S := by
    intro o
    simp! only [f_occurs, List.drop, h4]
    refine wp_for (P := fun j ρ T => T = S ∧ (ps.take j).any ob = false ∧ ∃ q, ρ = [some E, some (.str x), some o, q]) (B := fun _ _ => False) ⟨rfl, rfl, none, rfl⟩ (by intros; rfl) ?_ ?_
    · rintro j d ρ T hx ⟨rfl, hb, q, rfl⟩
      rw [List.getElem?_map] at hx
      obtain ⟨p, hp, rfl⟩ := Option.map_eq_some_iff.1 hx
      have h6 := h5 p (List.mem_of_getElem? hp)
      have ht : (ps.take (j + 1)) = ps.take j ++ [p] := by rw [List.take_add_one, hp]; rfl
      refine ⟨[some E, some (.str x), some o, some (enc p)], rfl, ?_⟩
      cases hob : ob p with
      | false =>
        rw [hob] at h6
        simp! only [h6, wp_some, turn_nx]
        refine ⟨?_, _, rfl⟩
        rw [ht, List.any_append, hb, List.any_cons, hob]
        rfl
      | true =>
        rw [hob] at h6
        have : ps.any ob = true := List.any_eq_true.2 ⟨p, List.mem_of_getElem? hp, hob⟩
        simp! only [h6, wp_some, turn_rt, this]
    · rintro ρ T (⟨⟨⟩⟩ | ⟨rfl, hb, q, rfl⟩)
      rw [List.length_map, List.take_length] at hb
      simp! only [wp_some, hb]
  apply call_wp rfl (by decide) rfl
  show Wp (exSs _ f_occurs.body [some E, some (.str x), none, none] S) _
  cases o with
  | none =>
    have tl := tail .non
    simp! only [f_occurs, List.drop] at tl
    simp! only [f_occurs, h1, h2, h3, ownD, hw]
    refine wp_mono tl ?_
    rintro d T ⟨rfl, rfl⟩
    exact ⟨by rw [gc_bl], by rw [gc_bl]⟩
  | some rk =>
    obtain ⟨r, k⟩ := rk
    by_cases hr : r = x
    · simp! only [f_occurs, h1, h2, h3, ownD, hw, hr, wp_some]
    · have tl := tail (.tup [.str r, .int k])
      simp! only [f_occurs, List.drop] at tl
      simp! only [f_occurs, h1, h2, h3, ownD, hw, hr]
      refine wp_mono tl ?_
      rintro d T ⟨rfl, rfl⟩
      exact ⟨by rw [gc_bl], by rw [gc_bl]⟩
theorem agr_core (cl : Cl) (E : D) (w x : Tx) (e fe : Bool) (o : Option (Tx × Nat)) (ow : Bool) (ho : ow = match o with | some (r, _) => decide (r = x) | none => false) (ps : List Fm) (ob : Fm → Bool) (pf : Bool) (S : Store) (hw : (w = wRel) = False) (h1 : ∀ S, view E S = some (.ok E, S)) (h2 : ∀ S, indexF E (.int 0) S = some (.ok (.str w), S))
    (hpf : (w = wPfp) → ∃ X, (∀ S, indexF E (.int 3) S = some (.ok X, S)) ∧ ∀ S, cl.fn "occurs" [X, .str x] S = some (.ok (.bl pf), S)) (hpf2 : w ≠ wPfp → pf = false) (hfe : fe = if w = wNot then !e else e)
    (h3 : ∀ S, cl.fn "own_name" [E] S = some (.ok (ownD o), S)) (h4 : ∀ S, cl.fn "inner" [E] S = some (.ok (.tup (ps.map enc)), S)) (h5 : ∀ p ∈ ps, ∀ S, cl.fn "agrees" [enc p, .str x, .bl fe] S = some (.ok (.bl (ob p)), S)) :
    callB cl f_agrees [E, .str x, .bl e] S = some (.ok (.bl (ow || (!pf && ps.all ob))), S) := by
  suffices h : ∃ o S', callB cl f_agrees [E, .str x, .bl e] S = some (o, S') ∧ (o = .ok (.bl (ow || (!pf && ps.all ob))) ∧ S' = S) by
    obtain ⟨o, S', e, rfl, rfl⟩ := h
    exact e
  subst ho
  have tail : ∀ q, Wp (exSs cl (f_agrees.body.drop 4) [some E, some (.str x), some (.bl e), some q, none] S) fun d T => d = .rt (.bl (ps.all ob)) ∧ T = S := by
    intro o
    simp! only [f_agrees, List.drop, h4]
    refine wp_for (P := fun j ρ T => T = S ∧ (ps.take j).all ob = true ∧ ∃ q, ρ = [some E, some (.str x), some (.bl e), some o, q]) (B := fun _ _ => False) ⟨rfl, rfl, none, rfl⟩ (by intros; rfl) ?_ ?_
    · rintro j d ρ T hx ⟨rfl, hb, q, rfl⟩
      rw [List.getElem?_map] at hx
      obtain ⟨p, hp, rfl⟩ := Option.map_eq_some_iff.1 hx
      have h6 := h5 p (List.mem_of_getElem? hp)
      have ht : (ps.take (j + 1)) = ps.take j ++ [p] := by rw [List.take_add_one, hp]; rfl
      refine ⟨[some E, some (.str x), some (.bl e), some o, some (enc p)], rfl, ?_⟩
      have hfl : ∀ (r : Bool), fe = r → (ob p = false ∨ ob p = true) → True := fun _ _ _ => trivial
      by_cases hn : w = wNot
      · rw [if_pos hn] at hfe
        subst hfe
        cases hob : ob p with
        | true =>
          rw [hob] at h6
          simp! only [h1, h2, hn, h6, wp_some, turn_nx]
          refine ⟨?_, _, rfl⟩
          rw [ht, List.all_append, hb, List.all_cons, hob]
          rfl
        | false =>
          rw [hob] at h6
          have : ps.all ob = false := List.all_eq_false.2 ⟨p, List.mem_of_getElem? hp, by simp [hob]⟩
          simp! only [h1, h2, hn, h6, wp_some, turn_rt, this]
      · rw [if_neg hn] at hfe
        subst hfe
        cases hob : ob p with
        | true =>
          rw [hob] at h6
          simp! only [h1, h2, hn, h6, wp_some, turn_nx]
          refine ⟨?_, _, rfl⟩
          rw [ht, List.all_append, hb, List.all_cons, hob]
          rfl
        | false =>
          rw [hob] at h6
          have : ps.all ob = false := List.all_eq_false.2 ⟨p, List.mem_of_getElem? hp, by simp [hob]⟩
          simp! only [h1, h2, hn, h6, wp_some, turn_rt, this]
    · rintro ρ T (⟨⟨⟩⟩ | ⟨rfl, hb, q, rfl⟩)
      rw [List.length_map, List.take_length] at hb
      simp! only [wp_some, hb]
  have mid : ∀ q, Wp (exSs cl (f_agrees.body.drop 3) [some E, some (.str x), some (.bl e), some q, none] S) fun d T => d = .rt (.bl (!pf && ps.all ob)) ∧ T = S := by
    intro q
    have tl := tail q
    simp! only [f_agrees, List.drop] at tl
    by_cases hp : w = wPfp
    · obtain ⟨X, hx1, hx2⟩ := hpf hp
      cases pf with
      | true => simp! only [f_agrees, List.drop, h1, h2, hp, hx1, hx2, wp_some]
      | false =>
        simp! only [f_agrees, List.drop, h1, h2, hp, hx1, hx2]
        exact tl
    · have := hpf2 hp
      subst this
      simp! only [f_agrees, List.drop, h1, h2, hp]
      exact tl
  apply call_wp rfl (by decide) rfl
  show Wp (exSs _ f_agrees.body [some E, some (.str x), some (.bl e), none, none] S) _
  cases o with
  | none =>
    have tl := mid .non
    simp! only [f_agrees, List.drop, h1, h2] at tl
    simp! only [f_agrees, h1, h2, h3, ownD, hw]
    refine wp_mono tl ?_
    rintro d T ⟨rfl, rfl⟩
    exact ⟨by rw [gc_bl], by rw [gc_bl]⟩
  | some rk =>
    obtain ⟨r, k⟩ := rk
    by_cases hr : r = x
    · simp! only [f_agrees, h1, h2, h3, ownD, hw, hr, wp_some]
    · have tl := mid (.tup [.str r, .int k])
      simp! only [f_agrees, List.drop, h1, h2] at tl
      simp! only [f_agrees, h1, h2, h3, ownD, hw, hr]
      refine wp_mono tl ?_
      rintro d T ⟨rfl, rfl⟩
      exact ⟨by rw [gc_bl], by rw [gc_bl]⟩
theorem occurs_run (x : Tx) : ∀ (k : Nat) (f : Fm), dep f ≤ k → ∀ (L : Nat), k < L → ∀ S : Store, callB (callK prog L) f_occurs [enc f, .str x] S = some (.ok (.bl (occ x f)), S) := by
  intro k
  induction k with
  | zero => intro f hd; have := dep_pos f; omega
  | succ k ih =>
    intro f hd L hL S
    obtain ⟨L, rfl⟩ : ∃ L', L = L' + 1 := ⟨L - 1, by omega⟩
    by_cases hw : word f = wRel
    · obtain ⟨y, as, rfl⟩ := word_rel f hw
      rw [enc, occ]
      exact occ_rel _ y x _ S
    · rw [occ_parts x f hw]
      exact occ_core _ _ _ x (ownN f) (ownB x f) rfl (parts f) (occ x) S (eq_false hw) (view_enc f) (ix0_enc f) (fun S => by rw [F_own_name]; exact own_name_run L f S) (fun S => by rw [F_inner]; exact inner_run L f S)
        (fun p hp S => by rw [F_occurs]; exact ih p (by have := dep_part hp; omega) L (by omega) S)
theorem ix3_fix (w : Bool) (r : Tx) (vs : List Tx) (f : Fm) (gs : List Tx) (S : Store) : indexF (enc (.fix w r vs f gs)) (.int 3) S = some (.ok (enc f), S) := by simp only [enc, indexF_tup, atI3, of_some]
theorem word_pfp (f : Fm) (h : word f = wPfp) : ∃ r vs g gs, f = .fix false r vs g gs := by
  cases f with
  | fix w a b c d => cases w <;> simp [word] at h ⊢
  | cmp w a b => cases w <;> simp [word] at h
  | con w fs => cases w <;> simp [word] at h
  | qu w a b => cases w <;> simp [word] at h
  | _ => simp [word] at h
theorem agrees_run (x : Tx) : ∀ (k : Nat) (f : Fm) (e : Bool), dep f ≤ k → ∀ (L : Nat), k < L → ∀ S : Store, callB (callK prog L) f_agrees [enc f, .str x, .bl e] S = some (.ok (.bl (agr x e f)), S) := by
  intro k
  induction k with
  | zero => intro f e hd; have := dep_pos f; omega
  | succ k ih =>
    intro f e hd L hL S
    obtain ⟨L, rfl⟩ : ∃ L', L = L' + 1 := ⟨L - 1, by omega⟩
    by_cases hw : word f = wRel
    · obtain ⟨y, as, rfl⟩ := word_rel f hw
      rw [enc, agr]
      exact agr_rel _ y x _ e S
    · rw [agr_parts x e f hw]
      refine agr_core _ _ _ x e (flips f e) (ownN f) (ownB x f) rfl (parts f) (agr x (flips f e)) (pfpB x f) S (eq_false hw) (view_enc f) (ix0_enc f) (fun hp => ?_) (fun hp => ?_) ?_ (fun S => by rw [F_own_name]; exact own_name_run L f S) (fun S => by rw [F_inner]; exact inner_run L f S)
        (fun p hp S => by rw [F_agrees]; exact ih p _ (by have := dep_part hp; omega) L (by omega) S)
      · obtain ⟨r, vs, g, gs, rfl⟩ := word_pfp f hp
        exact ⟨enc g, ix3_fix _ _ _ _ _, fun S => by rw [F_occurs]; exact occurs_run x k g (by simp only [dep] at hd; omega) L (by omega) S⟩
      · cases f with
        | fix w a b c d =>
          cases w
          · exact absurd rfl hp
          · rfl
        | _ => rfl
      · cases f with
        | fix w a b c d => cases w <;> simp [flips, word]
        | cmp w a b => cases w <;> simp [flips, word]
        | con w fs => cases w <;> simp [flips, word]
        | qu w a b => cases w <;> simp [flips, word]
        | _ => simp [flips, word]
end Mi

set_option autoImplicit true
set_option maxRecDepth 512
set_option maxHeartbeats 200000
set_option Elab.async false
set_option autoImplicit false
set_option linter.unusedSimpArgs false
set_option linter.unusedVariables false
namespace Mi
open M
set_option maxRecDepth 100000
local macro_rules | `(tactic| simp! only [$xs,*] $[$l:location]?) => `(tactic| simp only [↓ev_fld_at, ↓ev_meth_at, ↓ev_new_at, ↓ex_asgFld_at, methK_at, methK2_at, methK3_at, newK_at, newM_at, isNonM_at, asgFldK_at, asgFldK2_at, fldM_at, fldF, setFldM_at, setFldC, clsM_at, clsF, lookN, putFd, flOk, ↓for_at, forS_at, lcS_at, ↓ev_non_at, ↓ev_bl_at, ↓ev_int_at, ↓ev_str_at, ↓ev_var_at, ↓ev_glob_at, ↓ev_op_at, ↓ev_neg_at, ↓ev_cmp_at, ↓ev_chain_at, ↓ev_not_at, ↓ev_and_at, ↓ev_or_at, ↓ev_ite_at, ↓ev_tup_at, ↓ev_lst_at, ↓ev_flst_at, ↓ev_dct_at, ↓ev_fslice_at, ↓ev_lenset_at, flstK_at, fslK_at, fslK2_at, lcR_t, lcR_f, lcR_ex, ↓ex_augFld_at, augFldK_at, augFldK2_at, augFldK3_at, augFldK4_at, ↓ex_try_at, tryR_nx, tryR_rt, viewK_at, view_loc, view_non, view_bl, view_int, view_str, view_tup, view_fzl, view_fzd, view_fzo, viewC, indexM_at, indexF_tup, indexF_fzl, indexF_str, indexF_fzd, sliceM_at, sliceF_tup, sliceF_fzl, sliceF_str, sliceP_at, slicePF, eqK_at, eqK2_at, eqM_at, inM_at, inF, nbnK_at, cmp_eq_at, cmp_ne_at, cmp_in_at, cmp_nin_at, cmp_lt_at, cmp_le_at, cmp_gt_at, cmp_ge_at, cmp_is_at, cmp_isnt_at, addL_at, addI_at, lenM_at, lenF_str, lenF_tup, lenF_fzl, listM_at, flistM_at, tupleM_at, itemsF_tup, itemsF_fzl, lstF_fzl, sumK_at, sumK2_at, sumM_at, intsO_map, setIxM_at, setIxL_at, setIxD_at, putIxK_at, append_at, appC, dctU, lstU, someC, extend_at, extC, extF, pop_at, popC, popAt_at, popAtC_at, popAtK2_at, popAtK3_at, retKM_at, sdf_at, sdfC_at, sdfO_some, sdfO_none, get1_at, getF, isDct_at, isLst_at, isD_at, isDF, dict_at, dictC, truthy_loc, intF, max2F, min2F, endC_nx, endC_rt, endC_rtP, endC_ex, gc_bl, gc_int, gc_str, gc_non, ↓ev_ix_at, ↓ev_slice_at, ↓ev_call_at, ↓ev_bi_at, ↓ev_mt_at, ↓ev_isi_at, ↓ev_lc_at, ↓evs_nil_at, ↓evs_cons_at, ↓evo_none_at, ↓evo_some_at, ↓evc_nil_at, ↓evc_cons_at, ↓ex_asg_at, ↓ex_asgIx_at, ↓ex_aug_at, ↓ex_expr_at, ↓ex_ite_at, ↓ex_ret_at, ↓ex_retN_at, ↓ex_raise_at, ↓ex_brk_at, ↓ex_cont_at, ↓ex_pass_at, ↓ex_while_at, ↓exs_nil_at, ↓exs_cons_at, asgK_at, asgR_ok, goOn_at, augK1_at, augK2_at, augK3_at, asgIxK_at, asgIxK2_at, asgIxK3_at, blK_at, nbK_at, opK_at, cmpK_at, cmpK2_at, chK_at, chK2_at, chK3_t, chK3_f, notK_at, andK_at, andK2_t, andK2_f, orK_at, orK2_t, orK2_f, ifK_at, ifK2_t, ifK2_f, tupK_at, lstK_at, ixK_at, slK_at, slK2_at, mtK_at, mtK2_at, isiK_at, consK_at, consK2_at, csK_at, csK2_t, csK2_f, someK_at, eltK_t, eltK_f, oneK_at, oneL_at, seqK_at, iteK_t, iteK_f, retS_at, noexR_ok, negM, intM, ↓msB_at, ↓msS_at, msB_ok, msB_ex, msS_msS, msS_nx, msS_rt, msS_ex, msS_bk, msS_ct, truthy_non, truthy_bl, truthy_int, truthy_str, truthy_tup, truthy_fzl, ↓bnd_at, bndR_ok, bndR_ex, of_some, ret_at, binop, iopM, ↓need_at, bindT, bindTs, biM, get_at, put_at, new_at, ↓isi_cons_at, isi_nil_at, isiR_t, isiR_f, isTy_non, isTy_bl, isTy_int, isTy_str, isTy_tup, isTy_fzl, mtM, mtPre, upperM, isStr, itM, seq1, seqM_tup, seqM_fzl, seqM_scr, seqM_str, seqM_loc, lstS, rng1, rng2, D.isNon, D.flat, D.flats, D.deep, D.deeps, D.eqv, D.eqvs, Nat.zero_le, Nat.max_self, and_self, lt0, lt1, lt2, lt3, atI0, atI1, atI2, atI3, ixN0, ixN1, ixN2, ixN3, getc0, getc1, getc2, getc3, getc4, getc5, getc6, getc7, getc8, setc0, setc1, setc2, setc3, setc4, setc5, setc6, setc7, setc8, id, Option.join_some, Option.join, Option.bind, Option.map, List.map_cons, List.map_nil, List.length_map, List.length_cons, List.length_nil, List.getElem?_cons_zero, List.getElem?_cons_succ, List.set_cons_zero, List.set_cons_succ, Nat.zero_add, List.append_nil, List.nil_append, List.cons_append, Int.reducePow, Int.reduceToNat, Int.zero_add, Int.cast_ofNat_Int, decide_true, decide_false, Bool.not_true, Bool.not_false, Bool.and_self, Bool.true_and, Bool.false_and, Bool.and_true, Nat.zero_max, Nat.max_zero, if_true, if_false, ite_true, ite_false, reduceIte, reduceCtorEq, Bool.false_eq_true, Bool.true_eq_false, or_true, true_or, and_true, true_and, or_false, false_or, Nat.reduceLT, Nat.reduceAdd, Nat.reduceLeDiff, Int.reduceLT, Int.reduceLE, Int.reduceAdd, Nat.zero_lt_succ, beq_self_eq_true, decide_eq_true_eq, gc_self, bel_non, bel_bl, bel_int, bel_str, bel_tup, bel_fzl, bels_nil, bels_cons, List.cons.injEq, Nat.reduceEqDiff, and_false, false_and, eq_self, List.any_cons, List.any_nil, Bool.or_false, Bool.false_or, Bool.true_or, Bool.or_true, atI4, Int.ofNat_zero, Int.natCast_zero, Int.natCast_one, Int.natCast_succ, decide_not, $xs,*] $[$l:location]?)
/-! looking a formula through: the store's end is the look, what it found, and what else was made -/
def lk (c : Int) (d : Nat) : Cell := .obj "Look" [("count", .int c), ("found", .loc d)]
def stL (S0 : Store) (c : Int) (fd : List (D × D)) (R : Store) : Store := S0 ++ (lk c (S0.length + 1) :: .dct fd :: R)
theorem stL_get0 (S0 : Store) (c : Int) (fd : List (D × D)) (R : Store) : (stL S0 c fd R)[S0.length]? = some (lk c (S0.length + 1)) := by simp [stL]
theorem stL_get1 (S0 : Store) (c : Int) (fd : List (D × D)) (R : Store) : (stL S0 c fd R)[S0.length + 1]? = some (.dct fd) := by simp [stL]
theorem stL_get2 (S0 : Store) (c : Int) (fd : List (D × D)) (R : Store) (i : Nat) : (stL S0 c fd R)[S0.length + 2 + i]? = R[i]? := by
  unfold stL
  rw [List.getElem?_append_right (by omega)]
  have : S0.length + 2 + i - S0.length = i + 2 := by omega
  rw [this]
  rfl
theorem stL_set0 (S0 : Store) (c c' : Int) (fd : List (D × D)) (R : Store) : (stL S0 c fd R).set S0.length (lk c' (S0.length + 1)) = stL S0 c' fd R := by simp [stL]
theorem stL_set1 (S0 : Store) (c : Int) (fd fd' : List (D × D)) (R : Store) : (stL S0 c fd R).set (S0.length + 1) (.dct fd') = stL S0 c fd' R := by
  unfold stL
  rw [List.set_append_right _ _ (by omega)]
  have : S0.length + 1 - S0.length = 1 := by omega
  rw [this]
  rfl
theorem stL_set2 (S0 : Store) (c : Int) (fd : List (D × D)) (R : Store) (i : Nat) (x : Cell) : (stL S0 c fd R).set (S0.length + 2 + i) x = stL S0 c fd (R.set i x) := by
  unfold stL
  rw [List.set_append_right _ _ (by omega)]
  have : S0.length + 2 + i - S0.length = i + 2 := by omega
  rw [this]
  rfl
theorem stL_app (S0 : Store) (c : Int) (fd : List (D × D)) (R G : Store) : stL S0 c fd R ++ G = stL S0 c fd (R ++ G) := by simp [stL]
theorem stL_len (S0 : Store) (c : Int) (fd : List (D × D)) (R : Store) : (stL S0 c fd R).length = S0.length + 2 + R.length := by simp [stL]; omega
theorem lookF_map (k : D) : ∀ kvs : List (D × D), lookF k (kvs.map (·.1)) (kvs.map (·.2)) = lookD k kvs
  | [] => rfl
  | (x, v) :: r => by
    rw [List.map_cons, List.map_cons, lookF, lookD, lookF_map k r]
theorem inF_fzd (x : Tx) (ks vs : List D) (S : Store) : inF (.str x) (.fzd ks vs) S = some (.ok (lookF (.str x) ks vs).isSome, S) := by
  have : inF (.str x) (.fzd ks vs) = need (keyFit ks (.str x) = true) (ret (lookF (.str x) ks vs).isSome) := by
    match x with
    | [] => rfl
    | [_] => rfl
    | _ :: _ :: _ => rfl
  rw [this, need_at, if_pos (by rfl)]
  rfl
theorem view_at (n : Nat) (S : Store) (c : Cell) (d : D) (h : S[n]? = some c) (h2 : viewC c = some d) : view (.loc n) S = some (.ok d, S) := by
  rw [view_loc, h, of_some, bndR_ok, viewK_at, h2, of_some]
/-- what was found so far speaks of texts and of numbers -/
def FdOk (sig : Tx → Int) (fd : List (D × D)) : Prop := ∀ p ∈ fd, ∃ x, p.1 = .str x ∧ p.2 = .int (sig x)
theorem look_fd {sig : Tx → Int} : ∀ {fd : List (D × D)}, FdOk sig fd → ∀ {x : Tx} {v : D}, lookD (.str x) fd = some v → v = .int (sig x)
  | (k, u) :: fd, h, x, v, e => by
    rw [lookD] at e
    obtain ⟨y, h1, h2⟩ := h (k, u) (by simp)
    split at e
    · next q =>
      rw [q] at h1
      cases h1
      cases e
      exact h2
    · exact look_fd (fun p hp => h p (by simp [hp])) e
theorem fd_bel {sig : Tx → Int} {fd : List (D × D)} (h : FdOk sig fd) (n : Nat) : (Cell.dct fd).bel n = true := by
  show (D.bels n (fd.map (·.1)) && D.bels n (fd.map (·.2))) = true
  rw [Bool.and_eq_true]
  constructor <;> refine bels_all fun d hd => ?_
  · obtain ⟨p, hp, rfl⟩ := List.mem_map.1 hd
    obtain ⟨x, h1, h2⟩ := h p hp
    rw [h1]
    exact bel_str _ _
  · obtain ⟨p, hp, rfl⟩ := List.mem_map.1 hd
    obtain ⟨x, h1, h2⟩ := h p hp
    rw [h2]
    exact bel_int _ _
/-- a call within changes the look and what it found, no more -/
theorem gc_stL {sig : Tx → Int} (S0 : Store) (c c' : Int) (fd fd' : List (D × D)) (R G : Store) (h : FdOk sig fd') : gc (stL S0 c fd R) .non (stL S0 c' fd' (R ++ G)) = (.non, stL S0 c' fd' R) := by
  rw [← stL_app]
  refine gc_app _ _ _ _ (bel_non _) (by rw [stL_len, stL_len]) fun i hi => ?_
  rcases Nat.lt_trichotomy i S0.length with q | q | q
  · left
    unfold stL
    rw [List.getElem?_append_left q, List.getElem?_append_left q]
  · right
    subst q
    refine ⟨_, stL_get0 _ _ _ _, ?_⟩
    rw [stL_len]
    simp [lk, Cell.bel, D.bels, D.bel]
    omega
  · obtain ⟨j, rfl⟩ : ∃ j, i = S0.length + 1 + j := ⟨i - S0.length - 1, by omega⟩
    match j with
    | 0 =>
      right
      exact ⟨_, stL_get1 _ _ _ _, fd_bel h _⟩
    | j + 1 =>
      left
      have : S0.length + 1 + (j + 1) = S0.length + 2 + j := by omega
      rw [this, stL_get2, stL_get2]
structure LG (cl : Cl) : Prop where
  l1 : cl.fl "Look" "count" = true
  l2 : cl.fl "Look" "found" = true
  o1 : cl.mo "Look" "go" = true
  o2 : cl.mo "Look" "rel" = true
theorem lg_mk (k : Nat) : LG (callK prog k) := ⟨L_Look_count k, L_Look_found k, O_Look_go k, O_Look_rel k⟩
theorem putFd_count (c c' : Int) (d : Nat) : Cell.obj "Look" (putFd "count" (.int c') [("count", .int c), ("found", .loc d)]) = lk c' d := rfl
theorem fld_count (cl : Cl) (g : LG cl) (n d : Nat) (c : Int) (S : Store) (h : S[n]? = some (lk c d)) : fldM cl "count" (.loc n) S = some (.ok (.int c), S) := by
  rw [fldM_at, view_at n S _ _ h rfl, bndR_ok]
  show (need _ (of (some (D.int c)))) S = _
  rw [need_at, if_pos ⟨g.l1, by simp [g.l1, g.l2]⟩, of_some]
theorem fld_found (cl : Cl) (g : LG cl) (n d : Nat) (c : Int) (S : Store) (h : S[n]? = some (lk c d)) : fldM cl "found" (.loc n) S = some (.ok (.loc d), S) := by
  rw [fldM_at, view_at n S _ _ h rfl, bndR_ok]
  show (need _ (of (some (D.loc d)))) S = _
  rw [need_at, if_pos ⟨g.l2, by simp [g.l1, g.l2]⟩, of_some]
theorem cls_go (cl : Cl) (g : LG cl) (n d : Nat) (c : Int) (S : Store) (h : S[n]? = some (lk c d)) : clsM cl "go" (.loc n) S = some (.ok "Look", S) := by
  rw [clsM_at, view_at n S _ _ h rfl, bndR_ok]
  show (need _ (ret "Look")) S = _
  rw [need_at, if_pos ⟨g.o1, by simp [g.l1, g.l2]⟩]
  rfl
theorem cls_rel (cl : Cl) (g : LG cl) (n d : Nat) (c : Int) (S : Store) (h : S[n]? = some (lk c d)) : clsM cl "rel" (.loc n) S = some (.ok "Look", S) := by
  rw [clsM_at, view_at n S _ _ h rfl, bndR_ok]
  show (need _ (ret "Look")) S = _
  rw [need_at, if_pos ⟨g.o2, by simp [g.l1, g.l2]⟩]
  rfl
theorem setFld_count (cl : Cl) (g : LG cl) (n d : Nat) (c c' : Int) (S : Store) (h : S[n]? = some (lk c d)) : setFldM cl "count" (.int c') (.loc n) S = some (.ok (), S.set n (lk c' d)) := by
  have hn : n < S.length := by
    rcases Nat.lt_or_ge n S.length with q | q
    · exact q
    · rw [List.getElem?_eq_none q] at h; cases h
  rw [setFldM_at, h, of_some, bndR_ok]
  show (need _ (put n (lk c' d))) S = _
  rw [need_at, if_pos ⟨by simp [flOk, g.l1, g.l2], by simp⟩, put_at, if_pos hn]
theorem rel_in (cl : Cl) (n b : Nat) (x : Tx) (m : Int) (ks vs : List D) (S : Store) (hv : view (.loc b) S = some (.ok (.fzd ks vs), S)) (hk : lookF (.str x) ks vs = some (.int m)) :
    callB cl m_Look_rel [.loc n, .str x, .int m, .loc b] S = some (.ok .non, S) := by
  rw [callB_of _ _ _ _ rfl (by decide)]
  show endC false _ (exSs cl m_Look_rel.body [some (.loc n), some (.str x), some (.int m), some (.loc b)] _) = _
  simp! only [m_Look_rel, ↓hv, inF_fzd, keyFit, hk, Option.isSome_some]
theorem rel_old (cl : Cl) (n b d : Nat) (x : Tx) (m : Int) (ks vs : List D) (fd : List (D × D)) (S : Store) (hv : view (.loc b) S = some (.ok (.fzd ks vs), S)) (hk : lookF (.str x) ks vs = none)
    (hF : fldM cl "found" (.loc n) S = some (.ok (.loc d), S)) (hd : S[d]? = some (.dct fd)) (hsz : fd.length < szl) (hl : lookD (.str x) fd = some (.int m)) :
    callB cl m_Look_rel [.loc n, .str x, .int m, .loc b] S = some (.ok .non, S) := by
  have hky : D.key (.str x) = true := rfl
  rw [callB_of _ _ _ _ rfl (by decide)]
  show endC false _ (exSs cl m_Look_rel.body [some (.loc n), some (.str x), some (.int m), some (.loc b)] _) = _
  simp! only [m_Look_rel, ↓hv, inF_fzd, keyFit, hk, Option.isSome_none, ↓hF, hd, hsz, hl, hky]
theorem rel_new (cl : Cl) (n b d : Nat) (x : Tx) (m : Int) (ks vs : List D) (fd : List (D × D)) (S S' : Store) (hv : view (.loc b) S = some (.ok (.fzd ks vs), S)) (hk : lookF (.str x) ks vs = none)
    (hF : fldM cl "found" (.loc n) S = some (.ok (.loc d), S)) (hd : S[d]? = some (.dct fd)) (hdl : d < S.length) (hsz : fd.length < szl) (hl : lookD (.str x) fd = none) (hS' : S.set d (.dct (fd ++ [(.str x, .int m)])) = S') (hg : gc S .non S' = (.non, S')) :
    callB cl m_Look_rel [.loc n, .str x, .int m, .loc b] S = some (.ok .non, S') := by
  have hky : D.key (.str x) = true := rfl
  rw [callB_of _ _ _ _ rfl (by decide)]
  show endC false _ (exSs cl m_Look_rel.body [some (.loc n), some (.str x), some (.int m), some (.loc b)] _) = _
  simp! only [m_Look_rel, ↓hv, inF_fzd, keyFit, hk, Option.isSome_none, ↓hF, hd, hdl, hsz, hl, hky, hS', hg]
theorem rel_core (cl : Cl) (g : LG cl) (sig : Tx → Int) (S0 : Store) (c m : Int) (fd bd : List (D × D)) (R : Store) (i : Nat) (x : Tx) (hb : R[i]? = some (.dct bd)) (hf : FdOk sig fd) (hl : fd.length < 100000)
    (h : (lookD (.str x) bd = some (.int m)) ∨ (lookD (.str x) bd = none ∧ sig x = m)) :
    ∃ fd', callB cl m_Look_rel [.loc S0.length, .str x, .int m, .loc (S0.length + 2 + i)] (stL S0 c fd R) = some (.ok .non, stL S0 c fd' R) ∧ FdOk sig fd' ∧ fd'.length ≤ fd.length + 1 := by
  have hv := view_at _ _ _ _ ((stL_get2 S0 c fd R i).trans hb) rfl
  rw [← lookF_map] at h
  rcases h with h | ⟨h, hm⟩
  · exact ⟨fd, rel_in cl _ _ x m _ _ _ hv h, hf, by omega⟩
  · have hsz : fd.length < szl := by unfold szl; omega
    have hF := fld_found cl g S0.length _ c _ (stL_get0 S0 c fd R)
    cases e : lookD (.str x) fd with
    | some v =>
      have := look_fd hf e
      subst this
      rw [hm] at e
      exact ⟨fd, rel_old cl _ _ _ x m _ _ fd _ hv h hF (stL_get1 S0 c fd R) hsz e, hf, by omega⟩
    | none =>
      have hf' : FdOk sig (fd ++ [(.str x, .int m)]) := by
        intro p hp
        rcases List.mem_append.1 hp with hp | hp
        · exact hf p hp
        · rw [List.mem_singleton.1 hp]
          exact ⟨x, rfl, by rw [hm]⟩
      have hg := gc_stL S0 c c fd _ R [] hf'
      rw [List.append_nil] at hg
      exact ⟨_, rel_new cl _ _ _ x m _ _ fd _ _ hv h hF (stL_get1 S0 c fd R) (by rw [stL_len]; omega) hsz e (stL_set1 S0 c fd _ R) hg, hf', by simp⟩
end Mi

set_option autoImplicit true
set_option maxRecDepth 512
set_option maxHeartbeats 200000
set_option Elab.async false
set_option autoImplicit false
set_option linter.unusedSimpArgs false
set_option linter.unusedVariables false
namespace Mi
open M
set_option maxRecDepth 100000
local macro_rules | `(tactic| simp! only [$xs,*] $[$l:location]?) => `(tactic| simp only [↓ev_fld_at, ↓ev_meth_at, ↓ev_new_at, ↓ex_asgFld_at, methK_at, methK2_at, methK3_at, newK_at, newM_at, isNonM_at, asgFldK_at, asgFldK2_at, fldM_at, fldF, setFldM_at, setFldC, clsM_at, clsF, lookN, putFd, flOk, ↓for_at, forS_at, lcS_at, ↓ev_non_at, ↓ev_bl_at, ↓ev_int_at, ↓ev_str_at, ↓ev_var_at, ↓ev_glob_at, ↓ev_op_at, ↓ev_neg_at, ↓ev_cmp_at, ↓ev_chain_at, ↓ev_not_at, ↓ev_and_at, ↓ev_or_at, ↓ev_ite_at, ↓ev_tup_at, ↓ev_lst_at, ↓ev_flst_at, ↓ev_dct_at, ↓ev_fslice_at, ↓ev_lenset_at, flstK_at, fslK_at, fslK2_at, lcR_t, lcR_f, lcR_ex, ↓ex_augFld_at, augFldK_at, augFldK2_at, augFldK3_at, augFldK4_at, ↓ex_try_at, tryR_nx, tryR_rt, viewK_at, view_loc, view_non, view_bl, view_int, view_str, view_tup, view_fzl, view_fzd, view_fzo, viewC, indexM_at, indexF_tup, indexF_fzl, indexF_str, indexF_fzd, sliceM_at, sliceF_tup, sliceF_fzl, sliceF_str, sliceP_at, slicePF, eqK_at, eqK2_at, eqM_at, inM_at, inF, nbnK_at, cmp_eq_at, cmp_ne_at, cmp_in_at, cmp_nin_at, cmp_lt_at, cmp_le_at, cmp_gt_at, cmp_ge_at, cmp_is_at, cmp_isnt_at, addL_at, addI_at, lenM_at, lenF_str, lenF_tup, lenF_fzl, listM_at, flistM_at, tupleM_at, itemsF_tup, itemsF_fzl, lstF_fzl, sumK_at, sumK2_at, sumM_at, intsO_map, setIxM_at, setIxL_at, setIxD_at, putIxK_at, append_at, appC, dctU, lstU, someC, extend_at, extC, extF, pop_at, popC, popAt_at, popAtC_at, popAtK2_at, popAtK3_at, retKM_at, sdf_at, sdfC_at, sdfO_some, sdfO_none, get1_at, getF, isDct_at, isLst_at, isD_at, isDF, dict_at, dictC, truthy_loc, intF, max2F, min2F, endC_nx, endC_rt, endC_rtP, endC_ex, gc_bl, gc_int, gc_str, gc_non, ↓ev_ix_at, ↓ev_slice_at, ↓ev_call_at, ↓ev_bi_at, ↓ev_mt_at, ↓ev_isi_at, ↓ev_lc_at, ↓evs_nil_at, ↓evs_cons_at, ↓evo_none_at, ↓evo_some_at, ↓evc_nil_at, ↓evc_cons_at, ↓ex_asg_at, ↓ex_asgIx_at, ↓ex_aug_at, ↓ex_expr_at, ↓ex_ite_at, ↓ex_ret_at, ↓ex_retN_at, ↓ex_raise_at, ↓ex_brk_at, ↓ex_cont_at, ↓ex_pass_at, ↓ex_while_at, ↓exs_nil_at, ↓exs_cons_at, asgK_at, asgR_ok, goOn_at, augK1_at, augK2_at, augK3_at, asgIxK_at, asgIxK2_at, asgIxK3_at, blK_at, nbK_at, opK_at, cmpK_at, cmpK2_at, chK_at, chK2_at, chK3_t, chK3_f, notK_at, andK_at, andK2_t, andK2_f, orK_at, orK2_t, orK2_f, ifK_at, ifK2_t, ifK2_f, tupK_at, lstK_at, ixK_at, slK_at, slK2_at, mtK_at, mtK2_at, isiK_at, consK_at, consK2_at, csK_at, csK2_t, csK2_f, someK_at, eltK_t, eltK_f, oneK_at, oneL_at, seqK_at, iteK_t, iteK_f, retS_at, noexR_ok, negM, intM, ↓msB_at, ↓msS_at, msB_ok, msB_ex, msS_msS, msS_nx, msS_rt, msS_ex, msS_bk, msS_ct, truthy_non, truthy_bl, truthy_int, truthy_str, truthy_tup, truthy_fzl, ↓bnd_at, bndR_ok, bndR_ex, of_some, ret_at, binop, iopM, ↓need_at, bindT, bindTs, biM, get_at, put_at, new_at, ↓isi_cons_at, isi_nil_at, isiR_t, isiR_f, isTy_non, isTy_bl, isTy_int, isTy_str, isTy_tup, isTy_fzl, mtM, mtPre, upperM, isStr, itM, seq1, seqM_tup, seqM_fzl, seqM_scr, seqM_str, seqM_loc, lstS, rng1, rng2, D.isNon, D.flat, D.flats, D.deep, D.deeps, D.eqv, D.eqvs, Nat.zero_le, Nat.max_self, and_self, lt0, lt1, lt2, lt3, atI0, atI1, atI2, atI3, ixN0, ixN1, ixN2, ixN3, getc0, getc1, getc2, getc3, getc4, getc5, getc6, getc7, getc8, setc0, setc1, setc2, setc3, setc4, setc5, setc6, setc7, setc8, id, Option.join_some, Option.join, Option.bind, Option.map, List.map_cons, List.map_nil, List.length_map, List.length_cons, List.length_nil, List.getElem?_cons_zero, List.getElem?_cons_succ, List.set_cons_zero, List.set_cons_succ, Nat.zero_add, List.append_nil, List.nil_append, List.cons_append, Int.reducePow, Int.reduceToNat, Int.zero_add, Int.cast_ofNat_Int, decide_true, decide_false, Bool.not_true, Bool.not_false, Bool.and_self, Bool.true_and, Bool.false_and, Bool.and_true, Nat.zero_max, Nat.max_zero, if_true, if_false, ite_true, ite_false, reduceIte, reduceCtorEq, Bool.false_eq_true, Bool.true_eq_false, or_true, true_or, and_true, true_and, or_false, false_or, Nat.reduceLT, Nat.reduceAdd, Nat.reduceLeDiff, Int.reduceLT, Int.reduceLE, Int.reduceAdd, Nat.zero_lt_succ, beq_self_eq_true, decide_eq_true_eq, gc_self, bel_non, bel_bl, bel_int, bel_str, bel_tup, bel_fzl, bels_nil, bels_cons, List.cons.injEq, Nat.reduceEqDiff, and_false, false_and, eq_self, List.any_cons, List.any_nil, Bool.or_false, Bool.false_or, Bool.true_or, Bool.or_true, atI4, Int.ofNat_zero, Int.natCast_zero, Int.natCast_one, Int.natCast_succ, decide_not, $xs,*] $[$l:location]?)
mutual
/-- each name is used with its number of arguments -/
def AOk (sig : Tx → Int) : List (D × D) → Fm → Prop
  | bd, .rel x as => lookD (.str x) bd = some (.int as.length) ∨ (lookD (.str x) bd = none ∧ sig x = as.length)
  | _, .cmp _ _ _ => True
  | bd, .not f => AOk sig bd f
  | bd, .con _ fs => AOks sig bd fs
  | bd, .qu _ _ f => AOk sig bd f
  | bd, .fix _ r vs f _ => AOk sig (putD (.str r) (.int vs.length) bd) f
  | bd, .tc _ f _ => AOk sig bd f
  | bd, .gue r k f => AOk sig (putD (.str r) (.int k) bd) f
def AOks (sig : Tx → Int) : List (D × D) → List Fm → Prop
  | _, [] => True
  | bd, f :: r => AOk sig bd f ∧ AOks sig bd r
end
mutual
/-- a least fixed point's name stands where it may -/
def Pos : Fm → Prop
  | .rel _ _ => True
  | .cmp _ _ _ => True
  | .not f => Pos f
  | .con _ fs => Poss fs
  | .qu _ _ f => Pos f
  | .fix w r _ f _ => (w = true → agr r true f = true) ∧ Pos f
  | .tc _ f _ => Pos f
  | .gue _ _ f => Pos f
def Poss : List Fm → Prop
  | [] => True
  | f :: r => Pos f ∧ Poss r
end
theorem aoks_mem {sig : Tx → Int} {bd : List (D × D)} : ∀ {fs : List Fm} {p : Fm}, AOks sig bd fs → p ∈ fs → AOk sig bd p
  | f :: r, p, h, hp => by
    rw [AOks] at h
    rcases List.mem_cons.1 hp with hp | hp
    · subst hp; exact h.1
    · exact aoks_mem h.2 hp
theorem poss_mem : ∀ {fs : List Fm} {p : Fm}, Poss fs → p ∈ fs → Pos p
  | f :: r, p, h, hp => by
    rw [Poss] at h
    rcases List.mem_cons.1 hp with hp | hp
    · subst hp; exact h.1
    · exact poss_mem h.2 hp
def bdOf (bd : List (D × D)) (f : Fm) : List (D × D) := match ownN f with
  | some (r, k) => putD (.str r) (.int k) bd
  | none => bd
theorem aok_part {sig : Tx → Int} {bd : List (D × D)} {f p : Fm} (h : AOk sig bd f) (hp : p ∈ parts f) : AOk sig (bdOf bd f) p := by
  cases f <;> simp only [parts, List.mem_singleton, List.not_mem_nil] at hp <;> simp only [AOk] at h <;> simp only [bdOf, ownN]
  · subst hp; exact h
  · exact aoks_mem h hp
  · subst hp; exact h
  · subst hp; exact h
  · subst hp; exact h
  · subst hp; exact h
theorem pos_part {f p : Fm} (h : Pos f) (hp : p ∈ parts f) : Pos p := by
  cases f <;> simp only [parts, List.mem_singleton, List.not_mem_nil] at hp <;> simp only [Pos] at h
  · subst hp; exact h
  · exact poss_mem h hp
  · subst hp; exact h
  · subst hp; exact h.2
  · subst hp; exact h
  · subst hp; exact h
theorem sizs_take : ∀ (ps : List Fm) (j : Nat) (p : Fm), ps[j]? = some p → sizs (ps.take (j + 1)) = sizs (ps.take j) + siz p
  | q :: ps, 0, p, h => by
    simp at h
    subst h
    simp [sizs]
  | q :: ps, j + 1, p, h => by
    simp only [List.getElem?_cons_succ] at h
    have := sizs_take ps j p h
    simp only [List.take_succ_cons, sizs, this]
    omega
theorem sizs_take_le : ∀ (ps : List Fm) (j : Nat), sizs (ps.take j) ≤ sizs ps
  | [], _ => by simp [sizs]
  | q :: ps, 0 => by simp [sizs]
  | q :: ps, j + 1 => by
    have := sizs_take_le ps j
    simp only [List.take_succ_cons, sizs]
    omega
theorem go_tail (cl : Cl) (g : LG cl) (sig : Tx → Int) (S0 : Store) (E : D) (w : Tx) (ps : List Fm) (b : Nat) (deep : Int) (own : D) (R : Store) (c : Int) (fd : List (D × D)) (hf : FdOk sig fd) (hl : (fd.length : Int) ≤ c) (hN : c + sizs ps ≤ 2000)
    (h1 : ∀ S, view E S = some (.ok E, S)) (h2 : ∀ S, indexF E (.int 0) S = some (.ok (.str w), S)) (h4 : ∀ S, cl.fn "inner" [E] S = some (.ok (.tup (ps.map enc)), S))
    (h5 : ∀ p ∈ ps, ∀ (c : Int) (fd : List (D × D)), FdOk sig fd → (fd.length : Int) ≤ c → c + siz p ≤ 2000 → ∃ fd', cl.mt "Look" "go" [.loc S0.length, enc p, .loc b, .int (deep + 1)] (stL S0 c fd R) = some (.ok .non, stL S0 (c + siz p) fd' R) ∧ FdOk sig fd' ∧ (fd'.length : Int) ≤ c + siz p)
    (h6 : w = wLfp → ∃ X r, (∀ S, indexF E (.int 3) S = some (.ok X, S)) ∧ (∀ S, indexF E (.int 1) S = some (.ok r, S)) ∧ ∀ S, cl.fn "agrees" [X, r, .bl true] S = some (.ok (.bl true), S)) :
    Wp (exSs cl (m_Look_go.body.drop 6) [some (.loc S0.length), some E, some (.loc b), some (.int deep), some own, none] (stL S0 c fd R)) fun d T => ∃ ρ fd', d = .nx ρ ∧ T = stL S0 (c + sizs ps) fd' R ∧ FdOk sig fd' ∧ (fd'.length : Int) ≤ c + sizs ps := by
  have hcls := fun c fd => cls_go cl g S0.length (S0.length + 1) c _ (stL_get0 S0 c fd R)
  simp! only [m_Look_go, List.drop, h4]
  refine wp_for (P := fun j ρ T => ∃ fd' q, T = stL S0 (c + sizs (ps.take j)) fd' R ∧ FdOk sig fd' ∧ (fd'.length : Int) ≤ c + sizs (ps.take j) ∧ ρ = [some (.loc S0.length), some E, some (.loc b), some (.int deep), some own, q]) (B := fun _ _ => False) ⟨fd, none, by simp [sizs], hf, by simp [sizs]; exact hl, rfl⟩ (by intros; rfl) ?_ ?_
  · rintro j d ρ T hx ⟨fd', q, rfl, hf', hl', rfl⟩
    rw [List.getElem?_map] at hx
    obtain ⟨p, hp, rfl⟩ := Option.map_eq_some_iff.1 hx
    have ht := sizs_take ps j p hp
    have htl := sizs_take_le ps (j + 1)
    obtain ⟨fd2, e, hf2, hl2⟩ := h5 p (List.mem_of_getElem? hp) (c + sizs (ps.take j)) fd' hf' hl' (by omega)
    have hc2 : c + (sizs (ps.take (j + 1)) : Int) = c + sizs (ps.take j) + siz p := by rw [ht]; omega
    refine ⟨[some (.loc S0.length), some E, some (.loc b), some (.int deep), some own, some (enc p)], rfl, ?_⟩
    have hcl := hcls (c + sizs (ps.take j)) fd'
    rw [hc2]
    generalize stL S0 (c + sizs (ps.take j)) fd' R = S1 at *
    generalize hS2 : stL S0 (c + sizs (ps.take j) + siz p) fd2 R = S2 at *
    simp! only [↓hcl, e, wp_some, turn_nx]
    exact ⟨fd2, _, hS2.symm, hf2, hl2, rfl⟩
  · rintro ρ T (⟨⟨⟩⟩ | ⟨fd', q, rfl, hf', hl', rfl⟩)
    rw [List.length_map, List.take_length] at *
    generalize hS1 : stL S0 (c + sizs ps) fd' R = S1 at *
    by_cases hw : w = wLfp
    · obtain ⟨X, r, x1, x2, x3⟩ := h6 hw
      simp! only [h1, h2, hw, x1, x2, x3, wp_some]
      exact ⟨_, fd', rfl, hS1.symm, hf', hl'⟩
    · simp! only [h1, h2, hw, wp_some]
      exact ⟨_, fd', rfl, hS1.symm, hf', hl'⟩

theorem go_pre (cl : Cl) (n b : Nat) (E : D) (w : Tx) (c deep : Int) (S S1 S2 : Store) (hf : fldM cl "count" (.loc n) S = some (.ok (.int c), S)) (hs : setFldM cl "count" (.int (c + 1)) (.loc n) S = some (.ok (), S1)) (hf1 : fldM cl "count" (.loc n) S1 = some (.ok (.int (c + 1)), S1))
    (gM : cl.gl "MOST" = some (.int 2000)) (gD : cl.gl "DEEPEST" = some (.int 40)) (hm : ¬ 2000 < c + 1) (hd : ¬ 40 < deep) (h1 : ∀ S, view E S = some (.ok E, S)) (h2 : ∀ S, indexF E (.int 0) S = some (.ok (.str w), S))
    (hw : cl.fn "is_well_made" [E] S1 = some (.ok (.bl true), S1))
    (hr : w = wRel → ∃ x A m, (∀ S, indexF E (.int 1) S = some (.ok (.str x), S)) ∧ (∀ S, indexF E (.int 2) S = some (.ok A, S)) ∧ (∀ S, view A S = some (.ok A, S)) ∧ lenF A = ret (.int m) ∧ clsM cl "rel" (.loc n) S1 = some (.ok "Look", S1) ∧ cl.mt "Look" "rel" [.loc n, .str x, .int m, .loc b] S1 = some (.ok .non, S2)) (hr2 : w ≠ wRel → S2 = S1) :
    exSs cl m_Look_go.body [some (.loc n), some E, some (.loc b), some (.int deep), none, none] S = exSs cl (m_Look_go.body.drop 4) [some (.loc n), some E, some (.loc b), some (.int deep), none, none] S2 := by
  by_cases q : w = wRel
  · obtain ⟨x, A, m, r1, r2, r3, r4, r5, r6⟩ := hr q
    simp! only [m_Look_go, List.drop, ↓hf, ↓hs, ↓hf1, gM, gD, hm, hd, h1, h2, hw, q, r1, r2, r3, r4, ↓r5, r6]
  · have := hr2 q
    subst this
    simp! only [m_Look_go, List.drop, ↓hf, ↓hs, ↓hf1, gM, gD, hm, hd, h1, h2, hw, q]
theorem go_none (cl : Cl) (n b : Nat) (E : D) (deep : Int) (S : Store) (h3 : cl.fn "own_name" [E] S = some (.ok .non, S)) :
    exSs cl (m_Look_go.body.drop 4) [some (.loc n), some E, some (.loc b), some (.int deep), none, none] S = exSs cl (m_Look_go.body.drop 6) [some (.loc n), some E, some (.loc b), some (.int deep), some .non, none] S := by
  simp! only [m_Look_go, List.drop, h3]
theorem go_some (cl : Cl) (n b b2 : Nat) (E : D) (deep k : Int) (r : Tx) (bd : List (D × D)) (S S2 S3 : Store) (h3 : cl.fn "own_name" [E] S = some (.ok (.tup [.str r, .int k]), S)) (hd : dictM [.loc b] S = some (.ok (.loc b2), S2)) (hi : setIxM (.loc b2) (.str r) (.int k) S2 = some (.ok (), S3)) :
    exSs cl (m_Look_go.body.drop 4) [some (.loc n), some E, some (.loc b), some (.int deep), none, none] S = exSs cl (m_Look_go.body.drop 6) [some (.loc n), some E, some (.loc b2), some (.int deep), some (.tup [.str r, .int k]), none] S3 := by
  simp! only [m_Look_go, List.drop, h3, ↓hd, ↓hi]
theorem ix1_rel (x : Tx) (as : List Tx) (S : Store) : indexF (enc (.rel x as)) (.int 1) S = some (.ok (.str x), S) := by simp only [enc, indexF_tup, atI1, of_some]
theorem ix2_rel (x : Tx) (as : List Tx) (S : Store) : indexF (enc (.rel x as)) (.int 2) S = some (.ok (tX as), S) := by simp only [enc, indexF_tup, atI2, of_some]
theorem ix1_fix (w : Bool) (r : Tx) (vs : List Tx) (f : Fm) (gs : List Tx) (S : Store) : indexF (enc (.fix w r vs f gs)) (.int 1) S = some (.ok (.str r), S) := by simp only [enc, indexF_tup, atI1, of_some]
theorem word_lfp (f : Fm) (h : word f = wLfp) : ∃ r vs g gs, f = .fix true r vs g gs := by
  cases f with
  | fix w a b c d => cases w <;> simp [word] at h ⊢
  | cmp w a b => cases w <;> simp [word] at h
  | con w fs => cases w <;> simp [word] at h
  | qu w a b => cases w <;> simp [word] at h
  | _ => simp [word] at h
theorem putD_len (k v : D) (kvs : List (D × D)) : (putD k v kvs).length ≤ kvs.length + 1 := by
  unfold putD
  split <;> simp
theorem go_run (sig : Tx → Int) (S0 : Store) : ∀ (k : Nat) (f : Fm), dep f ≤ k → Wf f → Pos f → ∀ (L : Nat), k + 4 ≤ L → ∀ (R : Store) (i : Nat) (bd : List (D × D)), R[i]? = some (.dct bd) → bd.length + dep f ≤ 1000 → AOk sig bd f →
    ∀ (deep : Int), deep + dep f ≤ 41 → ∀ (c : Int) (fd : List (D × D)), FdOk sig fd → (fd.length : Int) ≤ c → c + siz f ≤ 2000 →
    ∃ fd', callB (callK prog L) m_Look_go [.loc S0.length, enc f, .loc (S0.length + 2 + i), .int deep] (stL S0 c fd R) = some (.ok .non, stL S0 (c + siz f) fd' R) ∧ FdOk sig fd' ∧ (fd'.length : Int) ≤ c + siz f := by
  intro k
  induction k with
  | zero => intro f hd; have := dep_pos f; omega
  | succ k ih =>
    intro f hd hw hp L hL R i bd hb hbl ha deep hdeep c fd hf hl hN
    obtain ⟨L, rfl⟩ : ∃ L', L = L' + 4 := ⟨L - 4, by omega⟩
    have hdp := dep_pos f
    have hsz := siz_parts f
    have g := lg_mk (L + 4)
    -- what rel does
    have hrel : ∃ fd1, FdOk sig fd1 ∧ (fd1.length : Int) ≤ c + 1 ∧ (word f = wRel → ∃ x A m, (∀ S, indexF (enc f) (.int 1) S = some (.ok (.str x), S)) ∧ (∀ S, indexF (enc f) (.int 2) S = some (.ok A, S)) ∧ (∀ S, view A S = some (.ok A, S)) ∧ lenF A = ret (.int m) ∧ clsM (callK prog (L + 4)) "rel" (.loc S0.length) (stL S0 (c + 1) fd R) = some (.ok "Look", stL S0 (c + 1) fd R) ∧
        (callK prog (L + 4)).mt "Look" "rel" [.loc S0.length, .str x, .int m, .loc (S0.length + 2 + i)] (stL S0 (c + 1) fd R) = some (.ok .non, stL S0 (c + 1) fd1 R)) ∧ (word f ≠ wRel → stL S0 (c + 1) fd1 R = stL S0 (c + 1) fd R) := by
      by_cases q : word f = wRel
      · obtain ⟨x, as, rfl⟩ := word_rel f q
        rw [AOk] at ha
        obtain ⟨fd1, e, hf1, hl1⟩ := rel_core (callK prog (L + 3)) (lg_mk _) sig S0 (c + 1) as.length fd bd R i x hb hf (by omega) ha
        exact ⟨fd1, hf1, by omega, fun _ => ⟨x, tX as, _, ix1_rel x as, ix2_rel x as, fun _ => rfl, lenF_tX as, cls_rel _ g _ _ _ _ (stL_get0 _ _ _ _), by rw [M_Look_rel]; exact e⟩, fun z => absurd q z⟩
      · exact ⟨fd, hf, by omega, fun z => absurd z q, fun _ => rfl⟩
    obtain ⟨fd1, hf1, hl1, hr, hr2⟩ := hrel
    have pre := go_pre (callK prog (L + 4)) S0.length (S0.length + 2 + i) (enc f) (word f) c deep (stL S0 c fd R) (stL S0 (c + 1) fd R) (stL S0 (c + 1) fd1 R) (fld_count _ g _ _ _ _ (stL_get0 _ _ _ _))
      (by rw [setFld_count _ g _ _ c (c + 1) _ (stL_get0 S0 c fd R), stL_set0]) (fld_count _ g _ _ _ _ (stL_get0 _ _ _ _)) (G_MOST _) (G_DEEPEST _) (by omega) (by omega) (view_enc f) (ix0_enc f) (by rw [F_is_well_made]; exact well_made_run L f hw _) hr hr2
    -- what stands ahead of the parts
    have hown : ∃ b2 own G, R.length = R.length ∧ (∃ j bd2, b2 = S0.length + 2 + j ∧ (R ++ G)[j]? = some (.dct bd2) ∧ bd2 = bdOf bd f ∧ bd2.length ≤ bd.length + 1) ∧
        exSs (callK prog (L + 4)) (m_Look_go.body.drop 4) [some (.loc S0.length), some (enc f), some (.loc (S0.length + 2 + i)), some (.int deep), none, none] (stL S0 (c + 1) fd1 R) = exSs (callK prog (L + 4)) (m_Look_go.body.drop 6) [some (.loc S0.length), some (enc f), some (.loc b2), some (.int deep), some own, none] (stL S0 (c + 1) fd1 (R ++ G)) := by
      have h3 : (callK prog (L + 4)).fn "own_name" [enc f] (stL S0 (c + 1) fd1 R) = some (.ok (ownD (ownN f)), stL S0 (c + 1) fd1 R) := by rw [F_own_name]; exact own_name_run _ f _
      cases e : ownN f with
      | none =>
        rw [e] at h3
        exact ⟨_, .non, [], rfl, ⟨i, bd, rfl, by simpa using hb, by simp [bdOf, e], by omega⟩, by rw [List.append_nil]; exact go_none _ _ _ _ _ _ h3⟩
      | some rk =>
        obtain ⟨r, m⟩ := rk
        rw [e] at h3
        refine ⟨S0.length + 2 + R.length, .tup [.str r, .int m], [.dct (putD (.str r) (.int m) bd)], rfl, ⟨R.length, putD (.str r) (.int m) bd, rfl, by simp, by simp [bdOf, e], putD_len _ _ _⟩, ?_⟩
        refine go_some _ _ _ _ _ _ _ r bd _ (stL S0 (c + 1) fd1 (R ++ [.dct bd])) _ h3 ?_ ?_
        · rw [dict_at, stL_get2, hb, of_some, bndR_ok]
          show new (.dct bd) _ = _
          rw [new_at, stL_app, stL_len]
        · rw [setIxM_at, stL_get2]
          have : (R ++ [Cell.dct bd])[R.length]? = some (.dct bd) := by simp
          rw [this, of_some, bndR_ok, setIxD_at, if_pos ⟨rfl, by unfold szl; omega⟩, if_pos (by rw [stL_len]; simp), stL_set2]
          simp
    obtain ⟨b2, own, G, _, ⟨j, bd2, rfl, hb2, hbd, hbl2⟩, e2⟩ := hown
    obtain ⟨d, T, e3, ρ, fd', rfl, rfl, hf', hl'⟩ := go_tail (callK prog (L + 4)) g sig S0 (enc f) (word f) (parts f) (S0.length + 2 + j) deep own (R ++ G) (c + 1) fd1 hf1 (by omega) (by omega) (view_enc f) (ix0_enc f) (fun S => by rw [F_inner]; exact inner_run _ f S)
      (fun p hpp c fd h1 h2 h3 => by
        rw [M_Look_go]
        have hdd := dep_part hpp
        exact ih p (by omega) (wf_part hw hpp) (pos_part hp hpp) (L + 3) (by omega) (R ++ G) j bd2 hb2 (by omega) (by rw [hbd]; exact aok_part ha hpp) (deep + 1) (by omega) c fd h1 h2 h3)
      (fun q => by
        obtain ⟨r, vs, h, gs, rfl⟩ := word_lfp f q
        rw [Pos] at hp
        refine ⟨enc h, .str r, ix3_fix _ _ _ _ _, ix1_fix _ _ _ _ _, fun S => ?_⟩
        rw [F_agrees, agrees_run r (k + 1) h true (by simp only [dep] at hd; omega) (L + 3) (by omega) S, hp.1 rfl])
    refine ⟨fd', ?_, hf', by rw [hsz]; omega⟩
    rw [callB_of _ _ _ _ rfl (by decide)]
    show endC false _ (exSs (callK prog (L + 4)) m_Look_go.body [some (.loc S0.length), some (enc f), some (.loc (S0.length + 2 + i)), some (.int deep), none, none] _) = _
    rw [pre, e2, e3, endC_nx, gc_stL (sig := sig) S0 c _ fd fd' R G hf']
    have : c + 1 + (sizs (parts f) : Int) = c + siz f := by rw [hsz]; omega
    rw [this]
end Mi

set_option autoImplicit true
set_option maxRecDepth 512
set_option maxHeartbeats 200000
set_option Elab.async false
set_option autoImplicit false
set_option linter.unusedSimpArgs false
set_option linter.unusedVariables false
namespace Mi
open M
set_option maxRecDepth 100000
local macro_rules | `(tactic| simp! only [$xs,*] $[$l:location]?) => `(tactic| simp only [↓ev_fld_at, ↓ev_meth_at, ↓ev_new_at, ↓ex_asgFld_at, methK_at, methK2_at, methK3_at, newK_at, newM_at, isNonM_at, asgFldK_at, asgFldK2_at, fldM_at, fldF, setFldM_at, setFldC, clsM_at, clsF, lookN, putFd, flOk, ↓for_at, forS_at, lcS_at, ↓ev_non_at, ↓ev_bl_at, ↓ev_int_at, ↓ev_str_at, ↓ev_var_at, ↓ev_glob_at, ↓ev_op_at, ↓ev_neg_at, ↓ev_cmp_at, ↓ev_chain_at, ↓ev_not_at, ↓ev_and_at, ↓ev_or_at, ↓ev_ite_at, ↓ev_tup_at, ↓ev_lst_at, ↓ev_flst_at, ↓ev_dct_at, ↓ev_fslice_at, ↓ev_lenset_at, flstK_at, fslK_at, fslK2_at, lcR_t, lcR_f, lcR_ex, ↓ex_augFld_at, augFldK_at, augFldK2_at, augFldK3_at, augFldK4_at, ↓ex_try_at, tryR_nx, tryR_rt, viewK_at, view_loc, view_non, view_bl, view_int, view_str, view_tup, view_fzl, view_fzd, view_fzo, viewC, indexM_at, indexF_tup, indexF_fzl, indexF_str, indexF_fzd, sliceM_at, sliceF_tup, sliceF_fzl, sliceF_str, sliceP_at, slicePF, eqK_at, eqK2_at, eqM_at, inM_at, inF, nbnK_at, cmp_eq_at, cmp_ne_at, cmp_in_at, cmp_nin_at, cmp_lt_at, cmp_le_at, cmp_gt_at, cmp_ge_at, cmp_is_at, cmp_isnt_at, addL_at, addI_at, lenM_at, lenF_str, lenF_tup, lenF_fzl, listM_at, flistM_at, tupleM_at, itemsF_tup, itemsF_fzl, lstF_fzl, sumK_at, sumK2_at, sumM_at, intsO_map, setIxM_at, setIxL_at, setIxD_at, putIxK_at, append_at, appC, dctU, lstU, someC, extend_at, extC, extF, pop_at, popC, popAt_at, popAtC_at, popAtK2_at, popAtK3_at, retKM_at, sdf_at, sdfC_at, sdfO_some, sdfO_none, get1_at, getF, isDct_at, isLst_at, isD_at, isDF, dict_at, dictC, truthy_loc, intF, max2F, min2F, endC_nx, endC_rt, endC_rtP, endC_ex, gc_bl, gc_int, gc_str, gc_non, ↓ev_ix_at, ↓ev_slice_at, ↓ev_call_at, ↓ev_bi_at, ↓ev_mt_at, ↓ev_isi_at, ↓ev_lc_at, ↓evs_nil_at, ↓evs_cons_at, ↓evo_none_at, ↓evo_some_at, ↓evc_nil_at, ↓evc_cons_at, ↓ex_asg_at, ↓ex_asgIx_at, ↓ex_aug_at, ↓ex_expr_at, ↓ex_ite_at, ↓ex_ret_at, ↓ex_retN_at, ↓ex_raise_at, ↓ex_brk_at, ↓ex_cont_at, ↓ex_pass_at, ↓ex_while_at, ↓exs_nil_at, ↓exs_cons_at, asgK_at, asgR_ok, goOn_at, augK1_at, augK2_at, augK3_at, asgIxK_at, asgIxK2_at, asgIxK3_at, blK_at, nbK_at, opK_at, cmpK_at, cmpK2_at, chK_at, chK2_at, chK3_t, chK3_f, notK_at, andK_at, andK2_t, andK2_f, orK_at, orK2_t, orK2_f, ifK_at, ifK2_t, ifK2_f, tupK_at, lstK_at, ixK_at, slK_at, slK2_at, mtK_at, mtK2_at, isiK_at, consK_at, consK2_at, csK_at, csK2_t, csK2_f, someK_at, eltK_t, eltK_f, oneK_at, oneL_at, seqK_at, iteK_t, iteK_f, retS_at, noexR_ok, negM, intM, ↓msB_at, ↓msS_at, msB_ok, msB_ex, msS_msS, msS_nx, msS_rt, msS_ex, msS_bk, msS_ct, truthy_non, truthy_bl, truthy_int, truthy_str, truthy_tup, truthy_fzl, ↓bnd_at, bndR_ok, bndR_ex, of_some, ret_at, binop, iopM, ↓need_at, bindT, bindTs, biM, get_at, put_at, new_at, ↓isi_cons_at, isi_nil_at, isiR_t, isiR_f, isTy_non, isTy_bl, isTy_int, isTy_str, isTy_tup, isTy_fzl, mtM, mtPre, upperM, isStr, itM, seq1, seqM_tup, seqM_fzl, seqM_scr, seqM_str, seqM_loc, lstS, rng1, rng2, D.isNon, D.flat, D.flats, D.deep, D.deeps, D.eqv, D.eqvs, Nat.zero_le, Nat.max_self, and_self, lt0, lt1, lt2, lt3, atI0, atI1, atI2, atI3, ixN0, ixN1, ixN2, ixN3, getc0, getc1, getc2, getc3, getc4, getc5, getc6, getc7, getc8, setc0, setc1, setc2, setc3, setc4, setc5, setc6, setc7, setc8, id, Option.join_some, Option.join, Option.bind, Option.map, List.map_cons, List.map_nil, List.length_map, List.length_cons, List.length_nil, List.getElem?_cons_zero, List.getElem?_cons_succ, List.set_cons_zero, List.set_cons_succ, Nat.zero_add, List.append_nil, List.nil_append, List.cons_append, Int.reducePow, Int.reduceToNat, Int.zero_add, Int.cast_ofNat_Int, decide_true, decide_false, Bool.not_true, Bool.not_false, Bool.and_self, Bool.true_and, Bool.false_and, Bool.and_true, Nat.zero_max, Nat.max_zero, if_true, if_false, ite_true, ite_false, reduceIte, reduceCtorEq, Bool.false_eq_true, Bool.true_eq_false, or_true, true_or, and_true, true_and, or_false, false_or, Nat.reduceLT, Nat.reduceAdd, Nat.reduceLeDiff, Int.reduceLT, Int.reduceLE, Int.reduceAdd, Nat.zero_lt_succ, beq_self_eq_true, decide_eq_true_eq, gc_self, bel_non, bel_bl, bel_int, bel_str, bel_tup, bel_fzl, bels_nil, bels_cons, List.cons.injEq, Nat.reduceEqDiff, and_false, false_and, eq_self, List.any_cons, List.any_nil, Bool.or_false, Bool.false_or, Bool.true_or, Bool.or_true, atI4, Int.ofNat_zero, Int.natCast_zero, Int.natCast_one, Int.natCast_succ, decide_not, $xs,*] $[$l:location]?)
theorem init_core (cl : Cl) (n : Nat) (S1 S2 S3 : Store) (h1 : setFldM cl "count" (.int 0) (.loc n) S1 = some (.ok (), S2)) (h2 : setFldM cl "found" (.loc S2.length) (.loc n) (S2 ++ [.dct []]) = some (.ok (), S3)) (hg : gc S1 .non S3 = (.non, S3)) :
    callB cl m_Look___init__ [.loc n] S1 = some (.ok .non, S3) := by
  rw [callB_of _ _ _ _ rfl (by decide)]
  show endC false _ (exSs cl m_Look___init__.body [some (.loc n)] _) = _
  simp! only [m_Look___init__, ↓h1, ↓h2, hg]
theorem init_run (cl : Cl) (g : LG cl) (S : Store) : callB cl m_Look___init__ [.loc S.length] (S ++ [.obj "Look" []]) = some (.ok .non, stL S 0 [] []) := by
  refine init_core cl _ _ (S ++ [.obj "Look" [("count", .int 0)]]) _ ?_ ?_ ?_
  · rw [setFldM_at, get_last, of_some, bndR_ok]
    show (need _ (put S.length (.obj "Look" [("count", .int 0)]))) _ = _
    rw [need_at, if_pos ⟨by simp [flOk, g.l1], by simp⟩, put_at, if_pos (by simp)]
    simp
  · have e : (S ++ [Cell.obj "Look" [("count", .int 0)]] ++ [.dct []])[S.length]? = some (.obj "Look" [("count", .int 0)]) := by simp
    rw [setFldM_at, e, of_some, bndR_ok]
    show (need _ (put S.length (lk 0 ((S ++ [Cell.obj "Look" [("count", .int 0)]]).length)))) _ = _
    rw [need_at, if_pos ⟨by simp [flOk, g.l1, g.l2], by simp⟩, put_at, if_pos (by simp)]
    simp [stL]
  · unfold gc
    rw [if_neg]
    intro h
    unfold oldOk at h
    simp only [Bool.and_eq_true, List.all_eq_true, List.mem_range] at h
    have h2 := h.2 S.length (by simp)
    rw [stL_get0] at h2
    simp [lk, Cell.bel, D.bels, D.bel] at h2
theorem fz_look {sig : Tx → Int} (S : Store) (c : Int) (fd : List (D × D)) (R : Store) (hf : FdOk sig fd) : ∃ v, gc S (.loc S.length) (stL S c fd R) = (v, S) := by
  have h0 := stL_get0 S c fd R
  have h1 := stL_get1 S c fd R
  have hl := stL_len S c fd R
  have hv : fzs (stL S c fd R) S.length (stL S c fd R).length 4 (fd.map (·.2)) = some (fd.map (·.2)) := by
    have := fd_bel hf S.length
    simp only [Cell.bel, Bool.and_eq_true] at this
    exact fzs_bel this.2
  have b0 : D.bel S.length (.loc S.length) = false := by simp [D.bel]
  have b1 : D.bel S.length (.loc (S.length + 1)) = false := by simp [D.bel]
  have n0 : ¬ S.length = (stL S c fd R).length := by omega
  have n1 : ¬ S.length + 1 = (stL S c fd R).length := by omega
  have e1 : fz (stL S c fd R) S.length (stL S c fd R).length 5 (.loc (S.length + 1)) = some (.fzd (fd.map (·.1)) (fd.map (·.2))) := by
    rw [fz, b1]
    simp only [Bool.false_eq_true, if_false, n1, h1, viewC, hv, Option.map]
  have e0 : fz (stL S c fd R) S.length (stL S c fd R).length fzK (.loc S.length) = some (.fzo "Look" ["count", "found"] [.int c, .fzd (fd.map (·.1)) (fd.map (·.2))]) := by
    have ei : fz (stL S c fd R) S.length (stL S c fd R).length 5 (.int c) = some (.int c) := fz_old (bel_int _ _)
    unfold fzK
    rw [fz, b0]
    simp only [Bool.false_eq_true, if_false, n0, h0, viewC, lk, List.map_cons, List.map_nil, fzs, ei, e1, Option.map]
  refine ⟨.fzo "Look" ["count", "found"] [.int c, .fzd (fd.map (·.1)) (fd.map (·.2))], ?_⟩
  have hold : oldOk S (stL S c fd R) = true := oldOk_of (by omega) fun i hi => .inl (by unfold stL; rw [List.getElem?_append_left hi])
  rw [gc_of hold e0]
  unfold stL
  rw [List.take_left' rfl]
theorem looked_core (cl : Cl) (n : Nat) (E v : D) (S S1 S2 S3 : Store) (h1 : newM cl "Look" [] S = some (.ok (.loc n), S1)) (hc : clsM cl "go" (.loc n) S1 = some (.ok "Look", S1)) (h2 : S1 ++ [.dct []] = S2) (h3 : cl.mt "Look" "go" [.loc n, E, .loc S1.length, .int 1] S2 = some (.ok .non, S3)) (hg : gc S (.loc n) S3 = (v, S)) :
    callB cl f_looked [E] S = some (.ok v, S) := by
  rw [callB_of _ _ _ _ rfl (by decide)]
  show endC false _ (exSs cl f_looked.body [some E, none] _) = _
  simp! only [f_looked, ↓h1, ↓hc, h2, h3, hg]
theorem looked_run (sig : Tx → Int) (f : Fm) (k : Nat) (hk : dep f ≤ k) (hd : dep f ≤ 40) (hz : siz f ≤ 2000) (hw : Wf f) (hp : Pos f) (ha : AOk sig [] f) (L : Nat) (hL : k + 5 ≤ L) (S : Store) : ∃ v, callB (callK prog L) f_looked [enc f] S = some (.ok v, S) := by
  obtain ⟨L, rfl⟩ : ∃ L', L = L' + 2 := ⟨L - 2, by omega⟩
  have g := lg_mk (L + 2)
  obtain ⟨fd', e, hf', _⟩ := go_run sig S k f hk hw hp (L + 1) (by omega) [.dct []] 0 [] rfl (by simp; omega) ha 1 (by omega) 0 [] (by intro p hp; cases hp) (by simp) (by omega)
  obtain ⟨v, hg⟩ := fz_look S (0 + (siz f : Int)) fd' [.dct []] hf'
  refine ⟨v, looked_core _ S.length (enc f) v S (stL S 0 [] []) _ _ ?_ (cls_go _ g _ _ _ _ (stL_get0 _ _ _ _)) (stL_app _ _ _ _ _) (by rw [M_Look_go, stL_len]; exact e) hg⟩
  rw [newM_at, new_at, bndR_ok, newK_at, N_Look, init_run _ (lg_mk _), bndR_ok, isNonM_at]
/-! ### costs asked for -/
/-- all that the law needs of a formula -/
structure Good (sig : Tx → Int) (f : Fm) : Prop where
  hd : dep f ≤ 40
  hz : siz f ≤ 2000
  hw : Wf f
  hp : Pos f
  ha : AOk sig [] f
end Mi

set_option autoImplicit true
set_option maxRecDepth 512
set_option maxHeartbeats 200000
set_option Elab.async false
set_option autoImplicit false
set_option linter.unusedSimpArgs false
set_option linter.unusedVariables false
namespace Mi
open M
set_option maxRecDepth 100000
local macro_rules | `(tactic| simp! only [$xs,*] $[$l:location]?) => `(tactic| simp only [↓ev_fld_at, ↓ev_meth_at, ↓ev_new_at, ↓ex_asgFld_at, methK_at, methK2_at, methK3_at, newK_at, newM_at, isNonM_at, asgFldK_at, asgFldK2_at, fldM_at, fldF, setFldM_at, setFldC, clsM_at, clsF, lookN, putFd, flOk, ↓for_at, forS_at, lcS_at, ↓ev_non_at, ↓ev_bl_at, ↓ev_int_at, ↓ev_str_at, ↓ev_var_at, ↓ev_glob_at, ↓ev_op_at, ↓ev_neg_at, ↓ev_cmp_at, ↓ev_chain_at, ↓ev_not_at, ↓ev_and_at, ↓ev_or_at, ↓ev_ite_at, ↓ev_tup_at, ↓ev_lst_at, ↓ev_flst_at, ↓ev_dct_at, ↓ev_fslice_at, ↓ev_lenset_at, flstK_at, fslK_at, fslK2_at, lcR_t, lcR_f, lcR_ex, ↓ex_augFld_at, augFldK_at, augFldK2_at, augFldK3_at, augFldK4_at, ↓ex_try_at, tryR_nx, tryR_rt, viewK_at, view_loc, view_non, view_bl, view_int, view_str, view_tup, view_fzl, view_fzd, view_fzo, viewC, indexM_at, indexF_tup, indexF_fzl, indexF_str, indexF_fzd, sliceM_at, sliceF_tup, sliceF_fzl, sliceF_str, sliceP_at, slicePF, eqK_at, eqK2_at, eqM_at, inM_at, inF, nbnK_at, cmp_eq_at, cmp_ne_at, cmp_in_at, cmp_nin_at, cmp_lt_at, cmp_le_at, cmp_gt_at, cmp_ge_at, cmp_is_at, cmp_isnt_at, addL_at, addI_at, lenM_at, lenF_str, lenF_tup, lenF_fzl, listM_at, flistM_at, tupleM_at, itemsF_tup, itemsF_fzl, lstF_fzl, sumK_at, sumK2_at, sumM_at, intsO_map, setIxM_at, setIxL_at, setIxD_at, putIxK_at, append_at, appC, dctU, lstU, someC, extend_at, extC, extF, pop_at, popC, popAt_at, popAtC_at, popAtK2_at, popAtK3_at, retKM_at, sdf_at, sdfC_at, sdfO_some, sdfO_none, get1_at, getF, isDct_at, isLst_at, isD_at, isDF, dict_at, dictC, truthy_loc, intF, max2F, min2F, endC_nx, endC_rt, endC_rtP, endC_ex, gc_bl, gc_int, gc_str, gc_non, ↓ev_ix_at, ↓ev_slice_at, ↓ev_call_at, ↓ev_bi_at, ↓ev_mt_at, ↓ev_isi_at, ↓ev_lc_at, ↓evs_nil_at, ↓evs_cons_at, ↓evo_none_at, ↓evo_some_at, ↓evc_nil_at, ↓evc_cons_at, ↓ex_asg_at, ↓ex_asgIx_at, ↓ex_aug_at, ↓ex_expr_at, ↓ex_ite_at, ↓ex_ret_at, ↓ex_retN_at, ↓ex_raise_at, ↓ex_brk_at, ↓ex_cont_at, ↓ex_pass_at, ↓ex_while_at, ↓exs_nil_at, ↓exs_cons_at, asgK_at, asgR_ok, goOn_at, augK1_at, augK2_at, augK3_at, asgIxK_at, asgIxK2_at, asgIxK3_at, blK_at, nbK_at, opK_at, cmpK_at, cmpK2_at, chK_at, chK2_at, chK3_t, chK3_f, notK_at, andK_at, andK2_t, andK2_f, orK_at, orK2_t, orK2_f, ifK_at, ifK2_t, ifK2_f, tupK_at, lstK_at, ixK_at, slK_at, slK2_at, mtK_at, mtK2_at, isiK_at, consK_at, consK2_at, csK_at, csK2_t, csK2_f, someK_at, eltK_t, eltK_f, oneK_at, oneL_at, seqK_at, iteK_t, iteK_f, retS_at, noexR_ok, negM, intM, ↓msB_at, ↓msS_at, msB_ok, msB_ex, msS_msS, msS_nx, msS_rt, msS_ex, msS_bk, msS_ct, truthy_non, truthy_bl, truthy_int, truthy_str, truthy_tup, truthy_fzl, ↓bnd_at, bndR_ok, bndR_ex, of_some, ret_at, binop, iopM, ↓need_at, bindT, bindTs, biM, get_at, put_at, new_at, ↓isi_cons_at, isi_nil_at, isiR_t, isiR_f, isTy_non, isTy_bl, isTy_int, isTy_str, isTy_tup, isTy_fzl, mtM, mtPre, upperM, isStr, itM, seq1, seqM_tup, seqM_fzl, seqM_scr, seqM_str, seqM_loc, lstS, rng1, rng2, D.isNon, D.flat, D.flats, D.deep, D.deeps, D.eqv, D.eqvs, Nat.zero_le, Nat.max_self, and_self, lt0, lt1, lt2, lt3, atI0, atI1, atI2, atI3, ixN0, ixN1, ixN2, ixN3, getc0, getc1, getc2, getc3, getc4, getc5, getc6, getc7, getc8, setc0, setc1, setc2, setc3, setc4, setc5, setc6, setc7, setc8, id, Option.join_some, Option.join, Option.bind, Option.map, List.map_cons, List.map_nil, List.length_map, List.length_cons, List.length_nil, List.getElem?_cons_zero, List.getElem?_cons_succ, List.set_cons_zero, List.set_cons_succ, Nat.zero_add, List.append_nil, List.nil_append, List.cons_append, Int.reducePow, Int.reduceToNat, Int.zero_add, Int.cast_ofNat_Int, decide_true, decide_false, Bool.not_true, Bool.not_false, Bool.and_self, Bool.true_and, Bool.false_and, Bool.and_true, Nat.zero_max, Nat.max_zero, if_true, if_false, ite_true, ite_false, reduceIte, reduceCtorEq, Bool.false_eq_true, Bool.true_eq_false, or_true, true_or, and_true, true_and, or_false, false_or, Nat.reduceLT, Nat.reduceAdd, Nat.reduceLeDiff, Int.reduceLT, Int.reduceLE, Int.reduceAdd, Nat.zero_lt_succ, beq_self_eq_true, decide_eq_true_eq, gc_self, bel_non, bel_bl, bel_int, bel_str, bel_tup, bel_fzl, bels_nil, bels_cons, List.cons.injEq, Nat.reduceEqDiff, and_false, false_and, eq_self, List.any_cons, List.any_nil, Bool.or_false, Bool.false_or, Bool.true_or, Bool.or_true, atI4, Int.ofNat_zero, Int.natCast_zero, Int.natCast_one, Int.natCast_succ, decide_not, $xs,*] $[$l:location]?)
/-! drawn formulas -/
structure DR (cl : Cl) (H : Nat → Cell) : Prop where
  hD : ∀ (t : Nat) (R : Store), ∃ v : Int, 0 ≤ v ∧ cl.fn "_law_draw" [.loc 0] (H t :: R) = some (.ok (.int v), H (t + 1) :: R)
  hB : ∀ (t n : Nat), (H t).bel n = true
theorem dr_mk {l : List Int} (h : ∀ x ∈ l, 0 ≤ x) (k : Nat) : DR (callK prog (k + 2)) (fun t => .lst [.fzl (l.map .int), .int (t : Int)]) where
  hD t R := ⟨drawV l t, drawV_pos h t, by
    rw [F__law_draw]
    have := draw_run (callK prog (k + 1)) (callK prog k) (F__law_mixed k) l t R
    simp only [drw] at this
    exact this⟩
  hB t n := bels_drw l t n
theorem gcH {cl : Cl} {H : Nat → Cell} (r : DR cl H) (t t' : Nat) (v : D) (G : Store) (hv : v.bel 1 = true) : gc [H t] v (H t' :: G) = (v, [H t']) :=
  gc_app [H t] [H t'] G v hv rfl fun i hi => by
    match i with
    | 0 => exact .inr ⟨_, rfl, r.hB _ _⟩
    | i + 1 => simp at hi
theorem gcHl {cl : Cl} {H : Nat → Cell} (r : DR cl H) (t t' n : Nat) (xs : List D) (G : Store) (hn : (H t' :: G)[n]? = some (.lst xs)) (h0 : 0 < n) (hx : D.bels 1 xs = true) : gc [H t] (.loc n) (H t' :: G) = (.fzl xs, [H t']) :=
  gc_lst [H t] [H t'] G n xs rfl h0 hn hx fun i hi => by
    match i with
    | 0 => exact .inr ⟨_, rfl, r.hB _ _⟩
    | i + 1 => simp at hi
/-- a comprehension whose turns draw -/
theorem compL_ex {H : Nat → Cell} {one : D → M (Option D)} (Q : D → Prop) : ∀ (xs acc : List D) (t : Nat), (∀ d ∈ xs, ∀ t, ∃ y t', one d [H t] = some (.ok (some y), [H t']) ∧ Q y) → acc.length + xs.length ≤ szl →
    ∃ ys t', compL [] one xs acc [H t] = some (.ok (acc ++ ys), [H t']) ∧ ys.length = xs.length ∧ ∀ y ∈ ys, Q y
  | [], acc, t, _, _ => ⟨[], t, by simp [compL, stays], rfl, by simp⟩
  | x :: xs, acc, t, h, hl => by
    simp only [List.length_cons] at hl
    obtain ⟨y, t', e, q⟩ := h x (by simp) t
    obtain ⟨ys, t2, e2, l2, q2⟩ := compL_ex Q xs (acc ++ [y]) t' (fun d hd => h d (by simp [hd])) (by simp; omega)
    have ha : acc.length < szl := by omega
    refine ⟨y :: ys, t2, ?_, by simp [l2], ?_⟩
    · simp only [compL, stays, List.all_nil, if_true, e, ha, e2]
      simp
    · intro z hz
      rcases List.mem_cons.1 hz with hz | hz
      · rw [hz]; exact q
      · exact q2 z hz
theorem txs_of {pool : List Tx} : ∀ {ys : List D}, (∀ y ∈ ys, ∃ x ∈ pool, y = .str x) → ∃ xs : List Tx, ys = xs.map .str ∧ ∀ x ∈ xs, x ∈ pool
  | [], _ => ⟨[], rfl, by simp⟩
  | y :: ys, h => by
    obtain ⟨x, hx, rfl⟩ := h y (by simp)
    obtain ⟨xs, rfl, h2⟩ := txs_of (ys := ys) fun z hz => h z (by simp [hz])
    exact ⟨x :: xs, rfl, by intro z hz; rcases List.mem_cons.1 hz with hz | hz; (rw [hz]; exact hx); exact h2 z hz⟩
/-- the pool of variables -/
structure PL (pool : List Tx) (n : Int) (P : D) : Prop where
  v : ∀ S, view P S = some (.ok P, S)
  l : lenF P = ret (.int n)
  i : ∀ v : Int, 0 ≤ v → ∃ x ∈ pool, ∀ S, indexF P (.int (v % n)) S = some (.ok (.str x), S)
  it : itemsF P = ret (pool.map .str)
  nd : pool.Nodup
  nm : ∀ x ∈ pool, x ∈ NM
  ln : (pool.length : Int) = n
  n2 : 2 ≤ n
  n9 : n ≤ 9
theorem atI_modL {α : Type} (xs : List α) (n v : Int) (hn : (xs.length : Int) = n) (h0 : 0 < n) (h : 0 ≤ v) : ∃ x ∈ xs, atI xs (v % n) = some x := by
  subst hn
  obtain ⟨d, h1, h2⟩ := atI_mem (xs := xs) (i := v % (xs.length : Int)) (Int.emod_nonneg _ (by omega)) (Int.emod_lt_of_pos _ (by omega))
  exact ⟨d, h2, h1⟩
theorem pl_of (pool : List Tx) (n : Int) (hn : (pool.length : Int) = n) (h2 : 2 ≤ n) (h9 : n ≤ 9) (nd : pool.Nodup) (nm : ∀ x ∈ pool, x ∈ NM) : PL pool n (.fzl (pool.map .str)) where
  v _ := rfl
  l := by rw [lenF_fzl, List.length_map, hn]
  i v h := by
    obtain ⟨d, hd, e⟩ := atI_modL (pool.map D.str) n v (by rw [List.length_map]; exact hn) (by omega) h
    obtain ⟨x, hx, rfl⟩ := List.mem_map.1 hd
    exact ⟨x, hx, fun S => by rw [indexF_fzl, e, of_some]⟩
  it := rfl
  nd := nd
  nm := nm
  ln := hn
  n2 := h2
  n9 := h9
/-- one of the pool is drawn -/
theorem pick_run {cl : Cl} {H : Nat → Cell} (r : DR cl H) {pool : List Tx} {n : Int} {P : D} (pl : PL pool n P) (i j : Nat) (ρ : Env) (hi : ρ[i]? = some (some P)) (hj : ρ[j]? = some (some (.loc 0))) (t : Nat) :
    ∃ x ∈ pool, evE cl (.ix (.var i) (.op .mod (.call "_law_draw" [.var j]) (.bi .len [.var i]))) ρ [H t] = some (.ok (.str x), [H (t + 1)]) := by
  obtain ⟨v, h0, e⟩ := r.hD t []
  obtain ⟨x, hx, h2⟩ := pl.i v h0
  have hv := pl.v
  have hl := pl.l
  have h4 : (0 : Int) < n := by have := pl.n2; omega
  refine ⟨x, hx, ?_⟩
  simp! only [hi, hj, e, hv, hl, h4, h2]
theorem erase_map : ∀ (l : List Tx) (i : Nat), (l.map D.str).eraseIdx i = (l.eraseIdx i).map D.str
  | [], _ => rfl
  | x :: l, 0 => rfl
  | x :: l, i + 1 => by
    have := erase_map l i
    simp only [List.map_cons, List.eraseIdx_cons_succ, this]
theorem erase_perm : ∀ (l : List Tx) (i : Nat) (x : Tx), l[i]? = some x → List.Perm (x :: l.eraseIdx i) l
  | y :: l, 0, x, h => by
    simp at h
    subst h
    exact .refl _
  | y :: l, i + 1, x, h => by
    simp only [List.getElem?_cons_succ] at h
    rw [List.eraseIdx_cons_succ]
    exact (List.Perm.swap y x _).trans ((erase_perm l i x h).cons y)
theorem some_of_run {cl : Cl} {H : Nat → Cell} (r : DR cl H) {pool : List Tx} {n : Int} {P : D} (pl : PL pool n P) (m : Int) (h0 : 0 ≤ m) (h4 : m ≤ n) (t : Nat) :
    ∃ (xs : List Tx) (t' : Nat), callB cl f__law_some_of [.loc 0, P, .int m] [H t] = some (.ok (.fzl (xs.map .str)), [H t']) ∧ (xs.length : Int) = m ∧ xs.Nodup ∧ ∀ x ∈ xs, x ∈ pool := by
  have hv := pl.v
  have hit := pl.it
  have hn9 := pl.n9
  have hln := pl.ln
  have hr : r62 m = true := r62_of h0 (by omega)
  suffices h : ∃ o S', callB cl f__law_some_of [.loc 0, P, .int m] [H t] = some (o, S') ∧ (∃ (xs : List Tx) (t' : Nat), o = .ok (.fzl (xs.map .str)) ∧ S' = [H t'] ∧ (xs.length : Int) = m ∧ xs.Nodup ∧ ∀ x ∈ xs, x ∈ pool) by
    obtain ⟨o, S', e, xs, t', rfl, rfl, h⟩ := h
    exact ⟨xs, t', e, h⟩
  apply call_wp rfl (by decide) rfl
  show Wp (exSs _ f__law_some_of.body [some (.loc 0), some P, some (.int m), none, none, none] _) _
  simp! only [f__law_some_of, hv, hit, hr]
  refine wp_for (P := fun j ρ T => ∃ (t' : Nat) (left ch : List Tx) (q : Option D), T = [H t', .lst (left.map .str), .lst (ch.map .str)] ∧ ch.length = j ∧ left.length + j = pool.length ∧ (ch ++ left).Nodup ∧ (∀ x ∈ ch ++ left, x ∈ pool) ∧ ρ = [some (.loc 0), some P, some (.int m), some (.loc 1), some (.loc 2), q]) (B := fun _ _ => False) ⟨t, pool, [], none, rfl, rfl, by simp, by simpa using pl.nd, by simp, rfl⟩ (by intros; rfl) ?_ ?_
  · rintro j d ρ T hx ⟨t', left, ch, q, rfl, hc, hl, hn, hp, rfl⟩
    obtain ⟨hj, rfl⟩ := rangeD_at hx
    obtain ⟨v, v0, e⟩ := r.hD t' [.lst (left.map .str), .lst (ch.map .str)]
    have hl0 : (0 : Int) < (left.length : Int) := by omega
    have i0 : 0 ≤ v % (left.length : Int) := Int.emod_nonneg _ (by omega)
    have i1 : v % (left.length : Int) < left.length := Int.emod_lt_of_pos _ hl0
    have hi : ∃ i : Int, i = v % (left.length : Int) := ⟨_, rfl⟩
    obtain ⟨i, hi⟩ := hi
    rw [← hi] at i0 i1
    have hri : r62 i = true := r62_of i0 (by omega)
    have hix : ixN left.length i = some i.toNat := by unfold ixN; rw [if_pos i0, if_pos i1]
    have hk : i.toNat < left.length := by omega
    obtain ⟨x, hxl⟩ : ∃ x, left[i.toNat]? = some x := ⟨_, List.getElem?_eq_getElem hk⟩
    have hg : (left.map D.str)[i.toNat]? = some (.str x) := by rw [List.getElem?_map, hxl]; rfl
    have he : (left.map D.str).eraseIdx i.toNat = (left.eraseIdx i.toNat).map .str := erase_map _ _
    have hch : (ch.map D.str).length < szl := by rw [List.length_map]; unfold szl; omega
    rw [List.length_map] at hch
    refine ⟨[some (.loc 0), some P, some (.int m), some (.loc 1), some (.loc 2), some (.int (0 + (j : Int)))], rfl, ?_⟩
    generalize hL : (left.length : Int) = LL at *
    simp! only [e, hL, hl0, ← hi, hri, hix, hg, he, hch, wp_some, turn_nx]
    have hpm : List.Perm (ch ++ [x] ++ left.eraseIdx i.toNat) (ch ++ left) := by
      rw [List.append_assoc]
      exact (erase_perm left _ x hxl).append_left ch
    have hll := List.length_eraseIdx_of_lt hk
    exact ⟨t' + 1, left.eraseIdx i.toNat, ch ++ [x], _, ⟨rfl, rfl, by simp⟩, by simp [hc], by omega, hpm.nodup_iff.2 hn, fun y hy => hp y (hpm.mem_iff.1 hy), rfl⟩
  · rintro ρ T (⟨⟨⟩⟩ | ⟨t', left, ch, q, rfl, hc, hl, hn, hp, rfl⟩)
    rw [rangeD_len] at hc
    have hg := gcHl r t t' 2 (ch.map .str) [.lst (left.map .str), .lst (ch.map .str)] rfl (by omega) (bels_all fun d hd => by obtain ⟨x, _, rfl⟩ := List.mem_map.1 hd; exact bel_str _ _)
    simp! only [wp_some, hg]
    exact ⟨ch, t', rfl, rfl, by omega, (List.nodup_append.1 hn).1, fun x hx => hp x (by simp [hx])⟩

/-! ### the names that may stand -/
abbrev Nm := Tx × Nat × Nat
def encN (e : Nm) : D := .tup [.str e.1, .int (e.2.1 : Int), .int (e.2.2 : Int)]
def withN (ns : List Nm) (x : Tx) (k m : Nat) : List Nm := ns.filter (fun e => !decide (e.1 = x)) ++ [(x, k, m)]
def turnM (m : Nat) : Nat := [0, 2, 1, 3].getD m 0
def barM (m : Nat) : Nat := [0, 3, 3, 3].getD m 0
def turnN (ns : List Nm) : List Nm := ns.map fun e => (e.1, e.2.1, turnM e.2.2)
def barN (ns : List Nm) : List Nm := ns.map fun e => (e.1, e.2.1, barM e.2.2)
def nsD (ns : List Nm) : D := .fzl (ns.map encN)
def NsOk (ns : List Nm) : Prop := ∀ e ∈ ns, e.1 ∈ NM ∧ e.2.1 ≤ 4 ∧ e.2.2 ≤ 3
theorem bel_encN (n : Nat) (e : Nm) : D.bel n (encN e) = true := by
  simp only [encN, bel_tup, bels_cons, bels_nil, bel_str, bel_int, Bool.and_self]
theorem bel_nsD (n : Nat) (ns : List Nm) : D.bel n (nsD ns) = true := by
  rw [nsD, bel_fzl]
  exact bels_all fun d hd => by
    obtain ⟨e, _, rfl⟩ := List.mem_map.1 hd
    exact bel_encN _ _
theorem compL_filter {α : Type} {one : D → M (Option D)} (e h : α → D) (p : α → Bool) (S : Store) : ∀ (xs : List α) (acc : List D), (∀ x ∈ xs, one (e x) S = some (.ok (if p x then some (h x) else none), S)) → acc.length + xs.length ≤ szl → compL [] one (xs.map e) acc S = some (.ok (acc ++ (xs.filter p).map h), S)
  | [], acc, _, _ => by simp [compL, stays]
  | x :: xs, acc, hh, hl => by
    simp only [List.length_cons] at hl
    have h1 := hh x (by simp)
    have ha : acc.length < szl := by omega
    cases q : p x with
    | true =>
      have h2 := compL_filter (one := one) e h p S xs (acc ++ [h x]) (fun y hy => hh y (by simp [hy])) (by simp; omega)
      rw [q] at h1
      simp only [if_true] at h1
      simp only [List.map_cons, compL, stays, List.all_nil, if_true, h1, ha, h2, List.filter_cons, q]
      simp
    | false =>
      have h2 := compL_filter (one := one) e h p S xs acc (fun y hy => hh y (by simp [hy])) (by omega)
      rw [q] at h1
      simp only [Bool.false_eq_true, if_false] at h1
      simp only [List.map_cons, compL, stays, List.all_nil, if_true, h1, h2, List.filter_cons, q]
      simp
theorem catF_at (xs ys : List D) (S : Store) : catF (.fzl xs) (.fzl ys) S = if xs.length + ys.length ≤ szl then some (.ok (.fzl (xs ++ ys)), S) else none := rfl
theorem within_run (cl : Cl) (ns : List Nm) (x : Tx) (k m : Nat) (hl : ns.length ≤ 1000) (S : Store) : callB cl f__law_within [nsD ns, .str x, .int (k : Int), .int (m : Int)] S = some (.ok (nsD (withN ns x k m)), S) := by
  generalize hk : (k : Int) = k'
  generalize hm : (m : Int) = m'
  have hc : compL [] (oneL cl (.var 4) (.nm 4) [.cmp .ne (.ix (.var 4) (.int 0)) (.var 1)] [4] [some (nsD ns), some (.str x), some (.int k'), some (.int m'), none]) (ns.map encN) [] S = some (.ok ((ns.filter fun e => !decide (e.1 = x)).map encN), S) := by
    rw [compL_filter encN encN (fun e => !decide (e.1 = x)) S ns [] ?_ (by unfold szl; simp; omega)]
    · rfl
    · intro e he
      by_cases q : e.1 = x
      · simp! only [wipeE, encN, q]
      · simp! only [wipeE, encN, q]
  have hs : ((ns.filter fun e => !decide (e.1 = x)).map encN).length + 1 ≤ szl := by
    have := List.length_filter_le (fun e : Nm => !decide (e.1 = x)) ns
    rw [List.length_map]
    unfold szl
    omega
  have he : nsD (withN ns x k m) = .fzl ((ns.filter fun e => !decide (e.1 = x)).map encN ++ [.tup [.str x, .int k', .int m']]) := by
    simp [nsD, withN, encN, hk, hm]
  have hb : D.bel S.length (nsD (withN ns x k m)) = true := bel_nsD _ _
  have hv : view (nsD ns) S = some (.ok (nsD ns), S) := rfl
  have hseq : seqM (nsD ns) = ret (ns.map encN, []) := rfl
  rw [he] at hb ⊢
  generalize (ns.filter fun e => !decide (e.1 = x)).map encN = L at *
  generalize ns.map encN = L0 at *
  generalize nsD ns = N at *
  rw [callB_of _ _ _ _ rfl (by decide)]
  show endC false _ (exSs cl f__law_within.body [some N, some (.str x), some (.int k'), some (.int m'), none] _) = _
  have hg := gc_self S _ hb
  simp! only [f__law_within, hv, hseq, hc, catF_at, hs, hg]
theorem ix_modes (m : Nat) (hm : m ≤ 3) (S : Store) : indexF (.fzl [.int 0, .int 2, .int 1, .int 3]) (.int (m : Int)) S = some (.ok (.int (turnM m : Int)), S) := by
  match m, hm with
  | 0, _ => rfl
  | 1, _ => rfl
  | 2, _ => rfl
  | 3, _ => rfl
theorem ix_bars (m : Nat) (hm : m ≤ 3) (S : Store) : indexF (.fzl [.int 0, .int 3, .int 3, .int 3]) (.int (m : Int)) S = some (.ok (.int (barM m : Int)), S) := by
  match m, hm with
  | 0, _ => rfl
  | 1, _ => rfl
  | 2, _ => rfl
  | 3, _ => rfl
theorem turned_run (cl : Cl) (ns : List Nm) (ho : NsOk ns) (hl : ns.length ≤ 1000) (S : Store) : callB cl f__law_turned [nsD ns] S = some (.ok (nsD (turnN ns)), S) := by
  have hc : compL [] (oneL cl (.tup [.ix (.var 1) (.int 0), .ix (.var 1) (.int 1), .ix (.flst [.int 0, .int 2, .int 1, .int 3]) (.ix (.var 1) (.int 2))]) (.nm 1) [] [1] [some (nsD ns), none]) (ns.map encN) [] S = some (.ok ((turnN ns).map encN), S) := by
    rw [compL_map encN (fun e => encN (e.1, e.2.1, turnM e.2.2)) S ns [] ?_ (by unfold szl; simp; omega)]
    · simp [turnN]
    · intro e he
      have h3 := ix_modes e.2.2 (ho e he).2.2
      simp! only [wipeE, encN, ↓h3]
  have hb : D.bel S.length (nsD (turnN ns)) = true := bel_nsD _ _
  have hv : view (nsD ns) S = some (.ok (nsD ns), S) := rfl
  have hseq : seqM (nsD ns) = ret (ns.map encN, []) := rfl
  have hg := gc_self S _ hb
  rw [nsD] at hg
  show _ = some (Out.ok (D.fzl ((turnN ns).map encN)), S)
  generalize (turnN ns).map encN = L at *
  generalize ns.map encN = L0 at *
  generalize nsD ns = N at *
  rw [callB_of _ _ _ _ rfl (by decide)]
  show endC false _ (exSs cl f__law_turned.body [some N, none] _) = _
  simp! only [f__law_turned, hv, hseq, hc, hg]
theorem barred_run (cl : Cl) (ns : List Nm) (ho : NsOk ns) (hl : ns.length ≤ 1000) (S : Store) : callB cl f__law_barred [nsD ns] S = some (.ok (nsD (barN ns)), S) := by
  have hc : compL [] (oneL cl (.tup [.ix (.var 1) (.int 0), .ix (.var 1) (.int 1), .ix (.flst [.int 0, .int 3, .int 3, .int 3]) (.ix (.var 1) (.int 2))]) (.nm 1) [] [1] [some (nsD ns), none]) (ns.map encN) [] S = some (.ok ((barN ns).map encN), S) := by
    rw [compL_map encN (fun e => encN (e.1, e.2.1, barM e.2.2)) S ns [] ?_ (by unfold szl; simp; omega)]
    · simp [barN]
    · intro e he
      have h3 := ix_bars e.2.2 (ho e he).2.2
      simp! only [wipeE, encN, ↓h3]
  have hb : D.bel S.length (nsD (barN ns)) = true := bel_nsD _ _
  have hv : view (nsD ns) S = some (.ok (nsD ns), S) := rfl
  have hseq : seqM (nsD ns) = ret (ns.map encN, []) := rfl
  have hg := gc_self S _ hb
  rw [nsD] at hg
  show _ = some (Out.ok (D.fzl ((barN ns).map encN)), S)
  generalize (barN ns).map encN = L at *
  generalize ns.map encN = L0 at *
  generalize nsD ns = N at *
  rw [callB_of _ _ _ _ rfl (by decide)]
  show endC false _ (exSs cl f__law_barred.body [some N, none] _) = _
  simp! only [f__law_barred, hv, hseq, hc, hg]
mutual
/-- drawn where these names may stand -/
def Gn : List Nm → Fm → Prop
  | ns, .rel x as => ∃ m, m < 2 ∧ (x, as.length, m) ∈ ns
  | _, .cmp _ _ _ => True
  | ns, .not f => Gn (turnN ns) f
  | ns, .con _ fs => Gns ns fs
  | ns, .qu _ _ f => Gn ns f
  | ns, .fix true r vs f _ => Gn (withN ns r vs.length 1) f
  | ns, .fix false r vs f _ => Gn (withN (barN ns) r vs.length 0) f
  | ns, .tc _ f _ => Gn ns f
  | ns, .gue r k f => Gn (withN ns r k 0) f
def Gns : List Nm → List Fm → Prop
  | _, [] => True
  | ns, f :: r => Gn ns f ∧ Gns ns r
end
mutual
/-- of first order -/
def FO : Fm → Prop
  | .rel _ _ => True
  | .cmp _ _ _ => True
  | .not f => FO f
  | .con _ fs => FOs fs
  | .qu _ _ f => FO f
  | .fix _ _ _ _ _ => False
  | .tc _ _ _ => False
  | .gue _ _ _ => False
def FOs : List Fm → Prop
  | [] => True
  | f :: r => FO f ∧ FOs r
end
mutual
/-- its variables are of the pool -/
def VIn (pool : List Tx) : Fm → Prop
  | .rel _ as => ∀ a ∈ as, a ∈ pool
  | .cmp _ a b => a ∈ pool ∧ b ∈ pool
  | .not f => VIn pool f
  | .con _ fs => VIns pool fs
  | .qu _ vs f => (∀ v ∈ vs, v ∈ pool) ∧ VIn pool f
  | .fix _ _ vs f gs => (∀ v ∈ vs, v ∈ pool) ∧ VIn pool f ∧ ∀ g ∈ gs, g ∈ pool
  | .tc vs f gs => (∀ v ∈ vs, v ∈ pool) ∧ VIn pool f ∧ ∀ g ∈ gs, g ∈ pool
  | .gue _ _ f => VIn pool f
def VIns (pool : List Tx) : List Fm → Prop
  | [] => True
  | f :: r => VIn pool f ∧ VIns pool r
end
theorem vins_mem {pool : List Tx} : ∀ {fs : List Fm} {p : Fm}, VIns pool fs → p ∈ fs → VIn pool p
  | f :: r, p, h, hp => by
    rw [VIns] at h
    rcases List.mem_cons.1 hp with hp | hp
    · subst hp; exact h.1
    · exact vins_mem h.2 hp
theorem vin_part {pool : List Tx} {f p : Fm} (h : VIn pool f) (hp : p ∈ parts f) : VIn pool p := by
  cases f <;> simp only [parts, List.mem_singleton, List.not_mem_nil] at hp <;> simp only [VIn] at h
  · subst hp; exact h
  · exact vins_mem h hp
  · subst hp; exact h.2
  · subst hp; exact h.2.1
  · subst hp; exact h.2.1
  · subst hp; exact h
/-- what is drawn at a depth -/
structure Dr (fo : Bool) (pool : List Tx) (ns : List Nm) (d : Nat) (f : Fm) : Prop where
  k : fo = true → FO f
  p : VIn pool f
  g : Gn ns f
  w : Wf f
  dp : dep f ≤ d
  sz : 2 * siz f + 1 ≤ 3 ^ d
theorem txs_D {pool : List Tx} {ys : List D} (h : ∀ y ∈ ys, ∃ x ∈ pool, y = .str x) : ∃ xs : List Tx, .tup ys = tX xs ∧ (∀ x ∈ xs, x ∈ pool) ∧ ys.length = xs.length := by
  obtain ⟨xs, rfl, h2⟩ := txs_of h
  exact ⟨xs, rfl, h2, by simp⟩
theorem atom_cmp (cl : Cl) (H : Nat → Cell) (r : DR cl H) (pool : List Tx) (n : Int) (P : D) (pl : PL pool n P) (ρ : Env) (h0 : ρ[0]? = some (some (.loc 0))) (h1 : ρ[1]? = some (some P)) (hl : ρ.length = 8) (t : Nat) :
    ∃ w a b t', exSs cl (f__law_atom.body.drop 3) ρ [H t] = some (.rt (enc (.cmp w a b)), [H t']) ∧ a ∈ pool ∧ b ∈ pool := by
  obtain ⟨v, v0, e⟩ := r.hD t []
  have hw : ∃ w : Bool, indexF (.fzl [.str [101, 113], .str [108, 101, 115, 115]]) (.int (v % 2)) = ret (.str (if w then wEq else wLess)) := by
    rcases (by omega : v % 2 = 0 ∨ v % 2 = 1) with q | q <;> rw [q]
    · exact ⟨true, rfl⟩
    · exact ⟨false, rfl⟩
  obtain ⟨w, hw⟩ := hw
  have h02 : (0 : Int) < 2 := by decide
  match ρ, hl, h0, h1 with
  | [a0, a1, a2, a3, a4, a5, a6, a7], _, h0, h1 =>
    simp only [List.getElem?_cons_zero, List.getElem?_cons_succ, Option.some.injEq] at h0 h1
    subst h0
    subst h1
    generalize hW : D.str (if w then wEq else wLess) = W at hw
    obtain ⟨a, ha, e1⟩ := pick_run r pl 1 0 [some (.loc 0), some P, a2, a3, a4, a5, a6, some W] rfl rfl (t + 1)
    obtain ⟨b, hb, e2⟩ := pick_run r pl 1 0 [some (.loc 0), some P, a2, a3, a4, a5, a6, some W] rfl rfl (t + 1 + 1)
    refine ⟨w, a, b, t + 1 + 1 + 1, ?_, ha, hb⟩
    rw [enc, hW]
    simp! only [f__law_atom, List.drop, e, h02, ↓hw, ↓e1, ↓e2]

theorem pickL {cl : Cl} {H : Nat → Cell} (r : DR cl H) {pool : List Tx} {n : Int} {P : D} (pl : PL pool n P) (i j s : Nat) (ρ : Env) (hi : ρ[i]? = some (some P)) (hj : ρ[j]? = some (some (.loc 0))) (hs : s < ρ.length) (hsi : s ≠ i) (hsj : s ≠ j) (ds : List D) (hl : ds.length ≤ szl) (t : Nat) :
    ∃ (xs : List Tx) (t' : Nat), compL [] (oneL cl (.ix (.var i) (.op .mod (.call "_law_draw" [.var j]) (.bi .len [.var i]))) (.nm s) [] [s] ρ) ds [] [H t] = some (.ok (xs.map .str), [H t']) ∧ xs.length = ds.length ∧ ∀ x ∈ xs, x ∈ pool := by
  obtain ⟨ys, t', e, hl2, hq⟩ := compL_ex (H := H) (one := oneL cl (.ix (.var i) (.op .mod (.call "_law_draw" [.var j]) (.bi .len [.var i]))) (.nm s) [] [s] ρ) (fun y => ∃ x ∈ pool, y = .str x) ds [] t (fun d _ t => by
    obtain ⟨x, hx, e⟩ := pick_run r pl i j ((ρ.set s none).set s (some d)) (by rw [List.getElem?_set_ne hsi, List.getElem?_set_ne hsi, hi]) (by rw [List.getElem?_set_ne hsj, List.getElem?_set_ne hsj, hj]) t
    refine ⟨.str x, t + 1, ?_, x, hx, rfl⟩
    have hs' : s < (ρ.set s none).length := by rw [List.length_set]; exact hs
    have hb : bindT (.nm s) d (wipeE ρ [s]) = some ((ρ.set s none).set s (some d)) := by
      show (if s < (ρ.set s none).length then some ((ρ.set s none).set s (some d)) else none) = _
      rw [if_pos hs']
    rw [oneL_at, hb, of_some, bndR_ok, oneK_at, evc_nil_at, bndR_ok, eltK_t, e, bndR_ok, someK_at, noexR_ok]) (by simpa using hl)
  obtain ⟨xs, rfl, h2⟩ := txs_of hq
  exact ⟨xs, t', by simpa using e, by simpa using hl2, h2⟩
theorem atI_mod {α : Type} (xs : List α) (v : Int) (h : 0 ≤ v) (hx : 0 < xs.length) : ∃ x ∈ xs, atI xs (v % (xs.length : Int)) = some x := by
  obtain ⟨d, h1, h2⟩ := atI_mem (xs := xs) (i := v % (xs.length : Int)) (Int.emod_nonneg _ (by omega)) (Int.emod_lt_of_pos _ (by omega))
  exact ⟨d, h2, h1⟩
def atomA : List St := [.asg (.nm 4) (.ix (.var 3) (.op .mod (.call "_law_draw" [.var 0]) (.bi .len [.var 3]))),
     .ret (.tup [.str [114, 101, 108], .ix (.var 4) (.int 0), .bi .tuple [.lc true (.ix (.var 1) (.op .mod (.call "_law_draw" [.var 0]) (.bi .len [.var 1]))) (.nm 6) 1 [.ix (.var 4) (.int 1)] [] [6]]])]
theorem atom_relc (cl : Cl) (P U E1 : D) (N a5 a6 a7 : Option D) (v LL k' : Int) (x : Tx) (as : List D) (S S1 S2 : Store) (e : cl.fn "_law_draw" [.loc 0] S = some (.ok (.int v), S1)) (hv : view U S1 = some (.ok U, S1)) (hl : lenF U = ret (.int LL)) (hL0 : 0 < LL) (hix : indexF U (.int (v % LL)) S1 = some (.ok E1, S1))
    (he0 : view E1 S1 = some (.ok E1, S1)) (he1 : indexF E1 (.int 0) S1 = some (.ok (.str x), S1)) (he2 : indexF E1 (.int 1) S1 = some (.ok (.int k'), S1)) (hr : r62 k' = true)
    (ec : compL [] (oneL cl (.ix (.var 1) (.op .mod (.call "_law_draw" [.var 0]) (.bi .len [.var 1]))) (.nm 6) [] [6] [some (.loc 0), some P, N, some U, some E1, a5, a6, a7]) (rangeD 0 k'.toNat) [] S1 = some (.ok as, S2)) :
    exSs cl atomA [some (.loc 0), some P, N, some U, none, a5, a6, a7] S = some (.rt (.tup [.str wRel, .str x, .tup as]), S2) := by
  have hit : ∀ S, view (.fzl as) S = some (.ok (.fzl as), S) := fun _ => rfl
  simp! only [atomA, e, ↓hv, hl, hL0, ↓hix, he0, he1, he2, hr, ec, hit]
theorem atom_rel (cl : Cl) (H : Nat → Cell) (r : DR cl H) (pool : List Tx) (n : Int) (P : D) (pl : PL pool n P) (us : List Nm) (hu : 0 < us.length) (ho : ∀ e ∈ us, e.2.1 ≤ 4) (N a5 a6 a7 : Option D) (t : Nat) :
    ∃ x as m t', exSs cl atomA [some (.loc 0), some P, N, some (nsD us), none, a5, a6, a7] [H t] = some (.rt (enc (.rel x as)), [H t']) ∧ (x, as.length, m) ∈ us ∧ ∀ a ∈ as, a ∈ pool := by
  obtain ⟨v, v0, e⟩ := r.hD t []
  obtain ⟨d, hd, hi⟩ := atI_mod (us.map encN) v v0 (by simpa using hu)
  obtain ⟨⟨x, k, m⟩, hm, rfl⟩ := List.mem_map.1 hd
  have hk := ho _ hm
  have hkn : ((k : Int)).toNat = k := Int.toNat_natCast k
  have hk4 : k ≤ 4 := hk
  obtain ⟨as, t', ec, hal, hap⟩ := pickL r pl 1 0 6 [some (.loc 0), some P, N, some (nsD us), some (encN (x, k, m)), a5, a6, a7] rfl rfl (by simp) (by decide) (by decide) (rangeD 0 (k : Int).toNat) (by rw [rangeD_len]; unfold szl; omega) (t + 1)
  rw [rangeD_len, hkn] at hal
  refine ⟨x, as, m, t', ?_, by rw [hal]; exact hm, hap⟩
  rw [enc]
  refine atom_relc cl P (nsD us) (encN (x, k, m)) N a5 a6 a7 v ((us.map encN).length : Int) (k : Int) x (as.map .str) [H t] [H (t + 1)] [H t'] e rfl rfl (by simp; omega) ?_ rfl (by simp only [encN, indexF_tup, atI0, of_some]) (by simp only [encN, indexF_tup, atI1, of_some]) (r62_of (by omega) (by omega)) ec
  show (of (atI (us.map encN) _)) _ = _
  rw [hi, of_some]
def atomB : List St := f__law_atom.body.drop 3
theorem atom_core1 (cl : Cl) (A B : List St) (hb : f__law_atom.body = .asg (.nm 3) (.lc true (.var 4) (.nm 4) 0 [.var 2] [.cmp .lt (.ix (.var 4) (.int 2)) (.int 2)] [4]) :: .asg (.nm 5) (.op .mod (.call "_law_draw" [.var 0]) (.int 5)) :: .ite (.and (.cmp .lt (.var 5) (.int 3)) (.cmp .gt (.bi .len [.var 3]) (.int 0))) A [] :: B) (P N : D) (L L2 : List D) (v LL : Int) (S S1 : Store)
    (hv : view N S = some (.ok N, S)) (hseq : seqM N = ret (L, [])) (hc : compL [] (oneL cl (.var 4) (.nm 4) [.cmp .lt (.ix (.var 4) (.int 2)) (.int 2)] [4] [some (.loc 0), some P, some N, none, none, none, none, none]) L [] S = some (.ok L2, S))
    (e : cl.fn "_law_draw" [.loc 0] S = some (.ok (.int v), S1)) (hl : (L2.length : Int) = LL) :
    exSs cl f__law_atom.body [some (.loc 0), some P, some N, none, none, none, none, none] S = if v % 5 < 3 ∧ 0 < LL then msS (exSs cl A [some (.loc 0), some P, some N, some (.fzl L2), none, some (.int (v % 5)), none, none] S1) (exSs cl B) else exSs cl B [some (.loc 0), some P, some N, some (.fzl L2), none, some (.int (v % 5)), none, none] S1 := by
  have h05 : (0 : Int) < 5 := by decide
  rw [hb]
  by_cases hp : v % 5 < 3
  · by_cases hu : 0 < LL
    · rw [if_pos ⟨hp, hu⟩]
      simp! only [hv, hseq, hc, e, h05, hp, hl, hu]
    · rw [if_neg (fun q => hu q.2)]
      simp! only [hv, hseq, hc, e, h05, hp, hl, hu]
  · rw [if_neg (fun q => hp q.1)]
    simp! only [hv, hseq, hc, e, h05, hp]
theorem atom_run {fo : Bool} (cl : Cl) (H : Nat → Cell) (r : DR cl H) (pool : List Tx) (n : Int) (P : D) (pl : PL pool n P) (ns : List Nm) (ho : NsOk ns) (hl : ns.length ≤ 1000) (d : Nat) (hd : 1 ≤ d) (t : Nat) :
    ∃ f t', callB cl f__law_atom [.loc 0, P, nsD ns] [H t] = some (.ok (enc f), [H t']) ∧ Dr fo pool ns d f := by
  have h3d : 3 ≤ 3 ^ d := by
    have := Nat.pow_le_pow_right (n := 3) (by decide) hd
    omega
  have hc : compL [] (oneL cl (.var 4) (.nm 4) [.cmp .lt (.ix (.var 4) (.int 2)) (.int 2)] [4] [some (.loc 0), some P, some (nsD ns), none, none, none, none, none]) (ns.map encN) [] [H t] = some (.ok ((ns.filter fun e => decide ((e.2.2 : Int) < 2)).map encN), [H t]) := by
    rw [compL_filter encN encN (fun e => decide ((e.2.2 : Int) < 2)) [H t] ns [] ?_ (by unfold szl; simp; omega)]
    · rfl
    · intro e he
      by_cases q : (e.2.2 : Int) < 2
      · simp! only [wipeE, encN, q]
      · simp! only [wipeE, encN, q]
  obtain ⟨v, v0, e⟩ := r.hD t []
  have hus : ∀ e ∈ (ns.filter fun e => decide ((e.2.2 : Int) < 2)), e ∈ ns ∧ e.2.2 < 2 := fun e he => by
    have := List.mem_filter.1 he
    exact ⟨this.1, by have := of_decide_eq_true this.2; omega⟩
  have main := atom_core1 cl atomA atomB rfl P (nsD ns) (ns.map encN) _ v _ [H t] [H (t + 1)] rfl rfl hc e rfl
  have done : ∀ (f : Fm) (t' : Nat), exSs cl f__law_atom.body [some (.loc 0), some P, some (nsD ns), none, none, none, none, none] [H t] = some (.rt (enc f), [H t']) → callB cl f__law_atom [.loc 0, P, nsD ns] [H t] = some (.ok (enc f), [H t']) := by
    intro f t' h
    rw [callB_of _ _ _ _ rfl (by decide)]
    show endC false _ (exSs cl f__law_atom.body [some (.loc 0), some P, some (nsD ns), none, none, none, none, none] _) = _
    rw [h, endC_rt, gcH r t t' (enc f) [] (bel_enc _ _)]
  by_cases q : v % 5 < 3 ∧ 0 < ((((ns.filter fun e => decide ((e.2.2 : Int) < 2)).map encN).length : Nat) : Int)
  · rw [if_pos q] at main
    have q2 := q.2
    rw [List.length_map] at q2
    obtain ⟨x, as, m, t', e2, hm, hap⟩ := atom_rel cl H r pool n P pl (ns.filter fun e => decide ((e.2.2 : Int) < 2)) (by omega) (fun e he => (ho e (hus e he).1).2.1) (some (nsD ns)) (some (.int (v % 5))) none none (t + 1)
    have main := main.trans (congrArg (fun z => msS z (exSs cl atomB)) e2)
    simp only [msS_rt] at main
    have hmm := hus _ hm
    have hoo := ho _ hmm.1
    refine ⟨_, t', done _ _ main, (fun _ => trivial), hap, ⟨m, hmm.2, hmm.1⟩, ?_, by simp [dep]; omega, by simp [siz]; omega⟩
    rw [Wf]
    exact ⟨hoo.1, fun a ha => pl.nm a (hap a ha), by have := hoo.2.1; simp at this; omega⟩
  · rw [if_neg q] at main
    obtain ⟨w, a, b, t', e2, ha, hb⟩ := atom_cmp cl H r pool n P pl [some (.loc 0), some P, some (nsD ns), some (.fzl ((ns.filter fun e => decide ((e.2.2 : Int) < 2)).map encN)), none, some (.int (v % 5)), none, none] rfl rfl rfl (t + 1)
    rw [atomB, e2] at main
    exact ⟨_, t', done _ _ main, (fun _ => trivial), ⟨ha, hb⟩, trivial, ⟨pl.nm a ha, pl.nm b hb⟩, by simp [dep]; omega, by simp [siz]; omega⟩
end Mi

set_option autoImplicit true
set_option maxRecDepth 512
set_option maxHeartbeats 200000
set_option Elab.async false
set_option autoImplicit false
set_option linter.unusedSimpArgs false
set_option linter.unusedVariables false
namespace Mi
open M
set_option maxRecDepth 100000
local macro_rules | `(tactic| simp! only [$xs,*] $[$l:location]?) => `(tactic| simp only [↓ev_fld_at, ↓ev_meth_at, ↓ev_new_at, ↓ex_asgFld_at, methK_at, methK2_at, methK3_at, newK_at, newM_at, isNonM_at, asgFldK_at, asgFldK2_at, fldM_at, fldF, setFldM_at, setFldC, clsM_at, clsF, lookN, putFd, flOk, ↓for_at, forS_at, lcS_at, ↓ev_non_at, ↓ev_bl_at, ↓ev_int_at, ↓ev_str_at, ↓ev_var_at, ↓ev_glob_at, ↓ev_op_at, ↓ev_neg_at, ↓ev_cmp_at, ↓ev_chain_at, ↓ev_not_at, ↓ev_and_at, ↓ev_or_at, ↓ev_ite_at, ↓ev_tup_at, ↓ev_lst_at, ↓ev_flst_at, ↓ev_dct_at, ↓ev_fslice_at, ↓ev_lenset_at, flstK_at, fslK_at, fslK2_at, lcR_t, lcR_f, lcR_ex, ↓ex_augFld_at, augFldK_at, augFldK2_at, augFldK3_at, augFldK4_at, ↓ex_try_at, tryR_nx, tryR_rt, viewK_at, view_loc, view_non, view_bl, view_int, view_str, view_tup, view_fzl, view_fzd, view_fzo, viewC, indexM_at, indexF_tup, indexF_fzl, indexF_str, indexF_fzd, sliceM_at, sliceF_tup, sliceF_fzl, sliceF_str, sliceP_at, slicePF, eqK_at, eqK2_at, eqM_at, inM_at, inF, nbnK_at, cmp_eq_at, cmp_ne_at, cmp_in_at, cmp_nin_at, cmp_lt_at, cmp_le_at, cmp_gt_at, cmp_ge_at, cmp_is_at, cmp_isnt_at, addL_at, addI_at, lenM_at, lenF_str, lenF_tup, lenF_fzl, listM_at, flistM_at, tupleM_at, itemsF_tup, itemsF_fzl, lstF_fzl, sumK_at, sumK2_at, sumM_at, intsO_map, setIxM_at, setIxL_at, setIxD_at, putIxK_at, append_at, appC, dctU, lstU, someC, extend_at, extC, extF, pop_at, popC, popAt_at, popAtC_at, popAtK2_at, popAtK3_at, retKM_at, sdf_at, sdfC_at, sdfO_some, sdfO_none, get1_at, getF, isDct_at, isLst_at, isD_at, isDF, dict_at, dictC, truthy_loc, intF, max2F, min2F, endC_nx, endC_rt, endC_rtP, endC_ex, gc_bl, gc_int, gc_str, gc_non, ↓ev_ix_at, ↓ev_slice_at, ↓ev_call_at, ↓ev_bi_at, ↓ev_mt_at, ↓ev_isi_at, ↓ev_lc_at, ↓evs_nil_at, ↓evs_cons_at, ↓evo_none_at, ↓evo_some_at, ↓evc_nil_at, ↓evc_cons_at, ↓ex_asg_at, ↓ex_asgIx_at, ↓ex_aug_at, ↓ex_expr_at, ↓ex_ite_at, ↓ex_ret_at, ↓ex_retN_at, ↓ex_raise_at, ↓ex_brk_at, ↓ex_cont_at, ↓ex_pass_at, ↓ex_while_at, ↓exs_nil_at, ↓exs_cons_at, asgK_at, asgR_ok, goOn_at, augK1_at, augK2_at, augK3_at, asgIxK_at, asgIxK2_at, asgIxK3_at, blK_at, nbK_at, opK_at, cmpK_at, cmpK2_at, chK_at, chK2_at, chK3_t, chK3_f, notK_at, andK_at, andK2_t, andK2_f, orK_at, orK2_t, orK2_f, ifK_at, ifK2_t, ifK2_f, tupK_at, lstK_at, ixK_at, slK_at, slK2_at, mtK_at, mtK2_at, isiK_at, consK_at, consK2_at, csK_at, csK2_t, csK2_f, someK_at, eltK_t, eltK_f, oneK_at, oneL_at, seqK_at, iteK_t, iteK_f, retS_at, noexR_ok, negM, intM, ↓msB_at, ↓msS_at, msB_ok, msB_ex, msS_msS, msS_nx, msS_rt, msS_ex, msS_bk, msS_ct, truthy_non, truthy_bl, truthy_int, truthy_str, truthy_tup, truthy_fzl, ↓bnd_at, bndR_ok, bndR_ex, of_some, ret_at, binop, iopM, ↓need_at, bindT, bindTs, biM, get_at, put_at, new_at, ↓isi_cons_at, isi_nil_at, isiR_t, isiR_f, isTy_non, isTy_bl, isTy_int, isTy_str, isTy_tup, isTy_fzl, mtM, mtPre, upperM, isStr, itM, seq1, seqM_tup, seqM_fzl, seqM_scr, seqM_str, seqM_loc, lstS, rng1, rng2, D.isNon, D.flat, D.flats, D.deep, D.deeps, D.eqv, D.eqvs, Nat.zero_le, Nat.max_self, and_self, lt0, lt1, lt2, lt3, atI0, atI1, atI2, atI3, ixN0, ixN1, ixN2, ixN3, getc0, getc1, getc2, getc3, getc4, getc5, getc6, getc7, getc8, setc0, setc1, setc2, setc3, setc4, setc5, setc6, setc7, setc8, id, Option.join_some, Option.join, Option.bind, Option.map, List.map_cons, List.map_nil, List.length_map, List.length_cons, List.length_nil, List.getElem?_cons_zero, List.getElem?_cons_succ, List.set_cons_zero, List.set_cons_succ, Nat.zero_add, List.append_nil, List.nil_append, List.cons_append, Int.reducePow, Int.reduceToNat, Int.zero_add, Int.cast_ofNat_Int, decide_true, decide_false, Bool.not_true, Bool.not_false, Bool.and_self, Bool.true_and, Bool.false_and, Bool.and_true, Nat.zero_max, Nat.max_zero, if_true, if_false, ite_true, ite_false, reduceIte, reduceCtorEq, Bool.false_eq_true, Bool.true_eq_false, or_true, true_or, and_true, true_and, or_false, false_or, Nat.reduceLT, Nat.reduceAdd, Nat.reduceLeDiff, Int.reduceLT, Int.reduceLE, Int.reduceAdd, Nat.zero_lt_succ, beq_self_eq_true, decide_eq_true_eq, gc_self, bel_non, bel_bl, bel_int, bel_str, bel_tup, bel_fzl, bels_nil, bels_cons, List.cons.injEq, Nat.reduceEqDiff, and_false, false_and, eq_self, List.any_cons, List.any_nil, Bool.or_false, Bool.false_or, Bool.true_or, Bool.or_true, atI4, Int.ofNat_zero, Int.natCast_zero, Int.natCast_one, Int.natCast_succ, decide_not, $xs,*] $[$l:location]?)
abbrev fBody := f__law_formula.body
theorem fm_atom (cl : Cl) (dp v : Int) (P N K F : D) (S S1 S2 : Store) (e : cl.fn "_law_draw" [.loc 0] S = some (.ok (.int v), S1)) (h : dp ≤ 1 ∨ v % 6 = 0) (ha : cl.fn "_law_atom" [.loc 0, P, N] S1 = some (.ok F, S2)) :
    exSs cl f__law_formula.body [some (.loc 0), some (.int dp), some P, some N, some K, none, none, none, none] S = some (.rt F, S2) := by
  have h06 : (0 : Int) < 6 := by decide
  by_cases h1 : dp ≤ 1
  · simp! only [f__law_formula, e, h06, h1, ha]
  · have h2 := h.resolve_left h1
    simp! only [f__law_formula, e, h06, h1, h2, ha]
theorem fm_not (cl : Cl) (dp v : Int) (P N N2 K F : D) (S S1 S2 : Store) (e : cl.fn "_law_draw" [.loc 0] S = some (.ok (.int v), S1)) (h1 : ¬ dp ≤ 1) (h : v % 6 = 1) (ht : cl.fn "_law_turned" [N] S1 = some (.ok N2, S1)) (hf : cl.fn "_law_formula" [.loc 0, .int (dp - 1), P, N2, K] S1 = some (.ok F, S2)) :
    exSs cl f__law_formula.body [some (.loc 0), some (.int dp), some P, some N, some K, none, none, none, none] S = some (.rt (.tup [.str wNot, F]), S2) := by
  have h06 : (0 : Int) < 6 := by decide
  have h10 : ((1 : Int) = 0) = False := eq_false (by decide)
  simp! only [f__law_formula, e, h06, h1, h, h10, ht, hf]
theorem fm_con (cl : Cl) (dp v v2 v3 m : Int) (P N K : D) (w : Tx) (Fs : List D) (S S1 S2 S3 S4 : Store) (e : cl.fn "_law_draw" [.loc 0] S = some (.ok (.int v), S1)) (h1 : ¬ dp ≤ 1) (h : v % 6 = 2 ∨ v % 6 = 3) (e2 : cl.fn "_law_draw" [.loc 0] S1 = some (.ok (.int v2), S2)) (e3 : cl.fn "_law_draw" [.loc 0] S2 = some (.ok (.int v3), S3))
    (hw : indexF (.fzl [.str [97, 110, 100], .str [111, 114]]) (.int (v2 % 2)) S2 = some (.ok (.str w), S2)) (hm : indexF (.fzl [.int 0, .int 1, .int 2, .int 2, .int 2, .int 3]) (.int (v3 % 6)) S3 = some (.ok (.int m), S3)) (hr : r62 m = true)
    (hc : compL [] (oneL cl (.call "_law_formula" [.var 0, .op .sub (.var 1) (.int 1), .var 2, .var 3, .var 4]) (.nm 8) [] [8] [some (.loc 0), some (.int dp), some P, some N, some K, some (.int (v % 6)), some (.str w), some (.int m), none]) (rangeD 0 m.toNat) [] S3 = some (.ok Fs, S4)) :
    exSs cl f__law_formula.body [some (.loc 0), some (.int dp), some P, some N, some K, none, none, none, none] S = some (.rt (.tup [.str w, .tup Fs]), S4) := by
  have h06 : (0 : Int) < 6 := by decide
  have h02 : (0 : Int) < 2 := by decide
  have a1 : (v % 6 = 0) = False := eq_false (by omega)
  have a2 : (v % 6 = 1) = False := eq_false (by omega)
  have a3 : v % 6 < 4 := by omega
  have hit : ∀ S, view (.fzl Fs) S = some (.ok (.fzl Fs), S) := fun _ => rfl
  simp! only [f__law_formula, e, h06, h02, h1, a1, a2, a3, e2, e3, ↓hw, ↓hm, hr, hc, hit]
theorem fm_bound (cl : Cl) (dp v : Int) (P N K F : D) (S S1 S2 : Store) (e : cl.fn "_law_draw" [.loc 0] S = some (.ok (.int v), S1)) (h1 : ¬ dp ≤ 1) (h : 4 ≤ v % 6) (ha : cl.fn "_law_bound" [.loc 0, .int dp, P, N, K] S1 = some (.ok F, S2)) :
    exSs cl f__law_formula.body [some (.loc 0), some (.int dp), some P, some N, some K, none, none, none, none] S = some (.rt F, S2) := by
  have h06 : (0 : Int) < 6 := by decide
  have a1 : (v % 6 = 0) = False := eq_false (by omega)
  have a2 : (v % 6 = 1) = False := eq_false (by omega)
  have a3 : ¬ v % 6 < 4 := by omega
  simp! only [f__law_formula, e, h06, h1, a1, a2, a3, ha]
theorem bd_pre (cl : Cl) (dp v1 v2 v3 m m2 n kn : Int) (P N K : D) (pk nm : Tx) (as gs : List D) (S S1 S2 S3 S4 S5 : Store) (hP : ∀ S, view P S = some (.ok P, S)) (hPl : lenF P = ret (.int n)) (hK : ∀ S, view K S = some (.ok K, S)) (hKl : lenF K = ret (.int kn)) (hk0 : 0 < kn) (h41 : (n = 1) = False) (hmin : (if m < n then m else n) = m2)
    (e1 : cl.fn "_law_draw" [.loc 0] S = some (.ok (.int v1), S1)) (hk : indexF K (.int (v1 % kn)) S1 = some (.ok (.str pk), S1)) (e2 : cl.fn "_law_draw" [.loc 0] S1 = some (.ok (.int v2), S2)) (hm : indexF (.fzl [.int 1, .int 1, .int 1, .int 2, .int 2, .int 3]) (.int (v2 % 6)) S2 = some (.ok (.int m), S2))
    (hs : cl.fn "_law_some_of" [.loc 0, P, .int m2] S2 = some (.ok (.fzl as), S3)) (hc : compL [] (oneL cl (.ix (.var 2) (.op .mod (.call "_law_draw" [.var 0]) (.bi .len [.var 2]))) (.nm 8) [] [8] [some (.loc 0), some (.int dp), some P, some N, some K, some (.str pk), some (.fzl as), none, none, none, none, none]) as [] S3 = some (.ok gs, S4))
    (e3 : cl.fn "_law_draw" [.loc 0] S4 = some (.ok (.int v3), S5)) (hn : indexF (.fzl [.str [114], .str [115], .str [101]]) (.int (v3 % 3)) S5 = some (.ok (.str nm), S5)) :
    exSs cl f__law_bound.body [some (.loc 0), some (.int dp), some P, some N, some K, none, none, none, none, none, none, none] S = exSs cl (f__law_bound.body.drop 5) [some (.loc 0), some (.int dp), some P, some N, some K, some (.str pk), some (.fzl as), some (.tup gs), none, some (.str nm), none, none] S5 := by
  have h06 : (0 : Int) < 6 := by decide
  have h03 : (0 : Int) < 3 := by decide
  have hit : ∀ S, view (.fzl gs) S = some (.ok (.fzl gs), S) := fun _ => rfl
  simp! only [f__law_bound, List.drop, hP, hPl, hK, hKl, e1, ↓hk, e2, ↓hm, hmin, hs, hc, e3, ↓hn, h06, h03, hk0, h41, hit]
theorem bd_qu (cl : Cl) (dp : Int) (P N K G R F : D) (w : Bool) (as : List D) (S S2 : Store) (hf : cl.fn "_law_formula" [.loc 0, .int (dp - 1), P, N, K] S = some (.ok F, S2)) :
    exSs cl (f__law_bound.body.drop 5) [some (.loc 0), some (.int dp), some P, some N, some K, some (.str (if w then wSome else wAll)), some (.fzl as), some G, none, some R, none, none] S = some (.rt (.tup [.str (if w then wSome else wAll), .tup as, F]), S2) := by
  cases w <;> simp! only [f__law_bound, List.drop, hf]
theorem bd_lfp (cl : Cl) (dp m : Int) (P N N2 K G R F : D) (as : List D) (S S2 : Store) (hl : (as.length : Int) = m) (hw : cl.fn "_law_within" [N, R, .int m, .int 1] S = some (.ok N2, S)) (hf : cl.fn "_law_formula" [.loc 0, .int (dp - 1), P, N2, K] S = some (.ok F, S2)) :
    exSs cl (f__law_bound.body.drop 5) [some (.loc 0), some (.int dp), some P, some N, some K, some (.str wLfp), some (.fzl as), some G, none, some R, none, none] S = some (.rt (.tup [.str wLfp, R, .tup as, F, G]), S2) := by
  simp! only [f__law_bound, List.drop, hl, hw, hf]
theorem bd_pfp (cl : Cl) (dp m : Int) (P N N1 N2 K G R F : D) (as : List D) (S S2 : Store) (hl : (as.length : Int) = m) (hb : cl.fn "_law_barred" [N] S = some (.ok N1, S)) (hw : cl.fn "_law_within" [N1, R, .int m, .int 0] S = some (.ok N2, S)) (hf : cl.fn "_law_formula" [.loc 0, .int (dp - 1), P, N2, K] S = some (.ok F, S2)) :
    exSs cl (f__law_bound.body.drop 5) [some (.loc 0), some (.int dp), some P, some N, some K, some (.str wPfp), some (.fzl as), some G, none, some R, none, none] S = some (.rt (.tup [.str wPfp, R, .tup as, F, G]), S2) := by
  simp! only [f__law_bound, List.drop, hl, hb, hw, hf]
theorem bd_tc (cl : Cl) (dp : Int) (P N K G R F a b : D) (as bs : List D) (S S1 S2 S3 S4 : Store) (hs : cl.fn "_law_some_of" [.loc 0, P, .int 2] S = some (.ok (.fzl bs), S1))
    (ea : evE cl (.ix (.var 2) (.op .mod (.call "_law_draw" [.var 0]) (.bi .len [.var 2]))) [some (.loc 0), some (.int dp), some P, some N, some K, some (.str wTc), some (.fzl bs), some G, none, some R, none, none] S1 = some (.ok a, S2))
    (eb : evE cl (.ix (.var 2) (.op .mod (.call "_law_draw" [.var 0]) (.bi .len [.var 2]))) [some (.loc 0), some (.int dp), some P, some N, some K, some (.str wTc), some (.fzl bs), some G, none, some R, none, none] S2 = some (.ok b, S3))
    (hf : cl.fn "_law_formula" [.loc 0, .int (dp - 1), P, N, K] S3 = some (.ok F, S4)) :
    exSs cl (f__law_bound.body.drop 5) [some (.loc 0), some (.int dp), some P, some N, some K, some (.str wTc), some (.fzl as), some G, none, some R, none, none] S = some (.rt (.tup [.str wTc, .tup bs, F, .tup [a, b]]), S4) := by
  simp! only [f__law_bound, List.drop, hs, ↓ea, ↓eb, hf]
theorem bd_gue (cl : Cl) (dp v : Int) (P N N2 K G R F : D) (as : List D) (S S1 S2 : Store) (e : cl.fn "_law_draw" [.loc 0] S = some (.ok (.int v), S1)) (hw : cl.fn "_law_within" [N, R, .int (v % 2), .int 0] S1 = some (.ok N2, S1)) (hf : cl.fn "_law_formula" [.loc 0, .int (dp - 1), P, N2, K] S1 = some (.ok F, S2)) :
    exSs cl (f__law_bound.body.drop 5) [some (.loc 0), some (.int dp), some P, some N, some K, some (.str wGue), some (.fzl as), some G, none, some R, none, none] S = some (.rt (.tup [.str wGue, R, .int (v % 2), F]), S2) := by
  have h02 : (0 : Int) < 2 := by decide
  simp! only [f__law_bound, List.drop, e, h02, hw, hf]

/-- the kinds of formulas that bind -/
structure KL (fo : Bool) (K : D) (kn : Int) : Prop where
  v : ∀ S, view K S = some (.ok K, S)
  l : lenF K = ret (.int kn)
  k0 : 0 < kn
  i : ∀ v : Int, 0 ≤ v → ∃ w, (w = wSome ∨ w = wAll ∨ (fo = false ∧ (w = wLfp ∨ w = wPfp ∨ w = wTc ∨ w = wGue))) ∧ ∀ S, indexF K (.int (v % kn)) S = some (.ok (.str w), S)
def KD : D := .fzl [.str wSome, .str wAll, .str wLfp, .str wPfp, .str wTc, .str wGue]
def KD2 : D := .fzl [.str wSome, .str wAll]
theorem kl_of (fo : Bool) (ws : List Tx) (kn : Int) (hn : (ws.length : Int) = kn) (h0 : 0 < kn) (h : ∀ w ∈ ws, w = wSome ∨ w = wAll ∨ (fo = false ∧ (w = wLfp ∨ w = wPfp ∨ w = wTc ∨ w = wGue))) : KL fo (.fzl (ws.map .str)) kn where
  v _ := rfl
  l := by rw [lenF_fzl, List.length_map, hn]
  k0 := h0
  i v hv := by
    obtain ⟨d, hd, e⟩ := atI_modL (ws.map D.str) kn v (by rw [List.length_map]; exact hn) h0 hv
    obtain ⟨x, hx, rfl⟩ := List.mem_map.1 hd
    exact ⟨x, h x hx, fun S => by rw [indexF_fzl, e, of_some]⟩
theorem kl_KD : KL false KD 6 := kl_of false [wSome, wAll, wLfp, wPfp, wTc, wGue] 6 rfl (by decide) (by decide)
theorem kl_KD2 : KL true KD2 2 := kl_of true [wSome, wAll] 2 rfl (by decide) (by decide)
theorem turnM_le (m : Nat) : turnM m ≤ 3 := by
  unfold turnM
  match m with
  | 0 => decide
  | 1 => decide
  | 2 => decide
  | 3 => decide
  | m + 4 => simp
theorem barM_le (m : Nat) : barM m ≤ 3 := by
  unfold barM
  match m with
  | 0 => decide
  | 1 => decide
  | 2 => decide
  | 3 => decide
  | m + 4 => simp
theorem ok_turn {ns : List Nm} (h : NsOk ns) : NsOk (turnN ns) := by
  intro e he
  obtain ⟨e', h', rfl⟩ := List.mem_map.1 he
  exact ⟨(h e' h').1, (h e' h').2.1, turnM_le _⟩
theorem ok_bar {ns : List Nm} (h : NsOk ns) : NsOk (barN ns) := by
  intro e he
  obtain ⟨e', h', rfl⟩ := List.mem_map.1 he
  exact ⟨(h e' h').1, (h e' h').2.1, barM_le _⟩
theorem ok_with {ns : List Nm} (h : NsOk ns) {x : Tx} {k m : Nat} (hx : x ∈ NM) (hk : k ≤ 4) (hm : m ≤ 3) : NsOk (withN ns x k m) := by
  intro e he
  rcases List.mem_append.1 he with he | he
  · exact h e (List.mem_filter.1 he).1
  · rw [List.mem_singleton.1 he]
    exact ⟨hx, hk, hm⟩
theorem len_with (ns : List Nm) (x : Tx) (k m : Nat) : (withN ns x k m).length ≤ ns.length + 1 := by
  have := List.length_filter_le (fun e : Nm => !decide (e.1 = x)) ns
  simp only [withN, List.length_append, List.length_singleton]
  omega
theorem pow3 (d : Nat) (hd : 1 ≤ d) {s : Nat} (h : 2 * s + 1 ≤ 3 ^ d) : 2 * (s + 1) + 1 ≤ 3 ^ (d + 1) := by
  have : 3 ≤ 3 ^ d := by
    have := Nat.pow_le_pow_right (n := 3) (by decide) hd
    omega
  rw [Nat.pow_succ]
  omega
structure GF (cl : Cl) (H : Nat → Cell) (pool : List Tx) (n : Int) (P : D) : Prop where
  r : DR cl H
  pl : PL pool n P
  hS : ∀ (m : Int), 0 ≤ m → m ≤ n → ∀ t : Nat, ∃ (xs : List Tx) (t' : Nat), cl.fn "_law_some_of" [.loc 0, P, .int m] [H t] = some (.ok (.fzl (xs.map .str)), [H t']) ∧ (xs.length : Int) = m ∧ xs.Nodup ∧ ∀ x ∈ xs, x ∈ pool
  hW : ∀ (ns : List Nm) (x : Tx) (k m : Nat), ns.length ≤ 1000 → ∀ S, cl.fn "_law_within" [nsD ns, .str x, .int (k : Int), .int (m : Int)] S = some (.ok (nsD (withN ns x k m)), S)
  hB : ∀ (ns : List Nm), NsOk ns → ns.length ≤ 1000 → ∀ S, cl.fn "_law_barred" [nsD ns] S = some (.ok (nsD (barN ns)), S)
theorem bound_run {fo : Bool} (cl : Cl) (H : Nat → Cell) (pool : List Tx) (n : Int) (P : D) (g : GF cl H pool n P) (K : D) (kn : Int) (kl : KL fo K kn) (d : Nat) (hd : 1 ≤ d) (dp : Int) (ns : List Nm) (ho : NsOk ns) (hl : ns.length + 1 ≤ 1000)
    (hF : ∀ (ns' : List Nm), NsOk ns' → ns'.length ≤ ns.length + 1 → ∀ t : Nat, ∃ (f : Fm) (t' : Nat), cl.fn "_law_formula" [.loc 0, .int (dp - 1), P, nsD ns', K] [H t] = some (.ok (enc f), [H t']) ∧ Dr fo pool ns' d f) (t : Nat) :
    ∃ (f : Fm) (t' : Nat), callB cl f__law_bound [.loc 0, .int dp, P, nsD ns, K] [H t] = some (.ok (enc f), [H t']) ∧ Dr fo pool ns (d + 1) f := by
  obtain ⟨r, pl, hS, hW, hB⟩ := g
  have hn2 := pl.n2
  have hn9 := pl.n9
  obtain ⟨v1, p1, e1⟩ := r.hD t []
  obtain ⟨v2, p2, e2⟩ := r.hD (t + 1) []
  obtain ⟨m0, hm1, hm3, hm⟩ : ∃ m : Nat, 1 ≤ m ∧ m ≤ 3 ∧ ∀ S, indexF (.fzl [.int 1, .int 1, .int 1, .int 2, .int 2, .int 3]) (.int (v2 % 6)) S = some (.ok (.int (m : Int)), S) := by
    rcases (by omega : v2 % 6 = 0 ∨ v2 % 6 = 1 ∨ v2 % 6 = 2 ∨ v2 % 6 = 3 ∨ v2 % 6 = 4 ∨ v2 % 6 = 5) with q | q | q | q | q | q <;> rw [q]
    · exact ⟨1, by decide, by decide, fun _ => rfl⟩
    · exact ⟨1, by decide, by decide, fun _ => rfl⟩
    · exact ⟨1, by decide, by decide, fun _ => rfl⟩
    · exact ⟨2, by decide, by decide, fun _ => rfl⟩
    · exact ⟨2, by decide, by decide, fun _ => rfl⟩
    · exact ⟨3, by decide, by decide, fun _ => rfl⟩
  obtain ⟨m, hmin, hm1', hm3'⟩ : ∃ m : Nat, (if (m0 : Int) < n then (m0 : Int) else n) = (m : Int) ∧ 1 ≤ m ∧ m ≤ 3 := by
    by_cases q : (m0 : Int) < n
    · exact ⟨m0, by rw [if_pos q], hm1, hm3⟩
    · exact ⟨n.toNat, by rw [if_neg q]; omega, by omega, by omega⟩
  have hmn : (m : Int) ≤ n := by
    rw [← hmin]
    split <;> omega
  obtain ⟨as, t3, e3, hal, han, hap⟩ := hS (m : Int) (by omega) hmn (t + 1 + 1)
  have hal' : as.length = m := by omega
  have main : ∀ (pk : Tx) (hk : ∀ S, indexF K (.int (v1 % kn)) S = some (.ok (.str pk), S)), ∃ (gs : List Tx) (nm : Tx) (t5 : Nat), gs.length = as.length ∧ (∀ x ∈ gs, x ∈ NM) ∧ (∀ x ∈ gs, x ∈ pool) ∧ nm ∈ NM ∧
      exSs cl f__law_bound.body [some (.loc 0), some (.int dp), some P, some (nsD ns), some K, none, none, none, none, none, none, none] [H t] = exSs cl (f__law_bound.body.drop 5) [some (.loc 0), some (.int dp), some P, some (nsD ns), some K, some (.str pk), some (.fzl (as.map .str)), some (tX gs), none, some (.str nm), none, none] [H t5] := by
    intro pk hk
    obtain ⟨gs, t4, e4, hgl, hgp⟩ := pickL r pl 2 0 8 [some (.loc 0), some (.int dp), some P, some (nsD ns), some K, some (.str pk), some (.fzl (as.map .str)), none, none, none, none, none] rfl rfl (by simp) (by decide) (by decide) (as.map .str) (by rw [List.length_map]; unfold szl; omega) t3
    obtain ⟨v3, p3, e5⟩ := r.hD t4 []
    obtain ⟨nm, hnm, hn⟩ : ∃ nm : Tx, nm ∈ NM ∧ ∀ S, indexF (.fzl [.str [114], .str [115], .str [101]]) (.int (v3 % 3)) S = some (.ok (.str nm), S) := by
      rcases (by omega : v3 % 3 = 0 ∨ v3 % 3 = 1 ∨ v3 % 3 = 2) with q | q | q <;> rw [q]
      · exact ⟨[114], by decide, fun _ => rfl⟩
      · exact ⟨[115], by decide, fun _ => rfl⟩
      · exact ⟨[101], by decide, fun _ => rfl⟩
    exact ⟨gs, nm, t4 + 1, by simpa using hgl, fun x hx => pl.nm x (hgp x hx), hgp, hnm, bd_pre cl dp v1 v2 v3 m0 m n kn P (nsD ns) K pk nm (as.map .str) (gs.map .str) _ _ _ _ _ _ pl.v pl.l kl.v kl.l kl.k0 (eq_false (by omega)) hmin e1 (hk _) e2 (hm _) e3 e4 e5 (hn _)⟩
  have done : ∀ (f : Fm) (t' : Nat), exSs cl f__law_bound.body [some (.loc 0), some (.int dp), some P, some (nsD ns), some K, none, none, none, none, none, none, none] [H t] = some (.rt (enc f), [H t']) → callB cl f__law_bound [.loc 0, .int dp, P, nsD ns, K] [H t] = some (.ok (enc f), [H t']) := by
    intro f t' h
    rw [callB_of _ _ _ _ rfl (by decide)]
    show endC false _ (exSs cl f__law_bound.body [some (.loc 0), some (.int dp), some P, some (nsD ns), some K, none, none, none, none, none, none, none] _) = _
    rw [h, endC_rt, gcH r t t' (enc f) [] (bel_enc _ _)]
  have hvs : varsP as 1 6 := ⟨fun x hx => pl.nm x (hap x hx), han, by omega, by omega⟩
  have qu : ∀ (w : Bool), (∀ S, indexF K (.int (v1 % kn)) S = some (.ok (.str (if w then wSome else wAll)), S)) → ∃ (f : Fm) (t' : Nat), callB cl f__law_bound [.loc 0, .int dp, P, nsD ns, K] [H t] = some (.ok (enc f), [H t']) ∧ Dr fo pool ns (d + 1) f := by
    intro w hk
    obtain ⟨gs, nm, t5, hgl, hgp, hgq, hnm, e⟩ := main _ hk
    obtain ⟨f, t', ef, D⟩ := hF ns ho (by omega) t5
    refine ⟨.qu w as f, t', done _ _ (e.trans ?_), ⟨D.k, ⟨hap, D.p⟩, D.g, ⟨hvs, D.w⟩, by have := D.dp; simp only [dep]; omega, by rw [siz]; exact pow3 d hd D.sz⟩⟩
    rw [enc]
    exact bd_qu cl dp P (nsD ns) K (tX gs) (.str nm) (enc f) w (as.map .str) [H t5] [H t'] ef
  obtain ⟨wd, hwd, hkd⟩ := kl.i v1 p1
  rcases hwd with q | q | ⟨qf, q | q | q | q⟩
  · exact qu true (fun S => by rw [hkd S, q]; rfl)
  · exact qu false (fun S => by rw [hkd S, q]; rfl)
  · obtain ⟨gs, nm, t5, hgl, hgp, hgq, hnm, e⟩ := main wLfp (fun S => by rw [hkd S, q])
    have w := hW ns nm as.length 1 (by omega) [H t5]
    obtain ⟨f, t', ef, D⟩ := hF (withN ns nm as.length 1) (ok_with ho hnm (by omega) (by omega)) (len_with _ _ _ _) t5
    refine ⟨.fix true nm as f gs, t', done _ _ (e.trans ?_), ⟨(fun z => by rw [qf] at z; cases z), ⟨hap, D.p, hgq⟩, D.g, ⟨hnm, hvs, hgp, hgl, D.w⟩, by have := D.dp; simp only [dep]; omega, by rw [siz]; exact pow3 d hd D.sz⟩⟩
    rw [enc]
    exact bd_lfp cl dp _ P (nsD ns) _ K (tX gs) (.str nm) (enc f) (as.map .str) [H t5] [H t'] (by rw [List.length_map]) w ef
  · obtain ⟨gs, nm, t5, hgl, hgp, hgq, hnm, e⟩ := main wPfp (fun S => by rw [hkd S, q])
    have hbl : (barN ns).length = ns.length := by simp [barN]
    have b := hB ns ho (by omega) [H t5]
    have w := hW (barN ns) nm as.length 0 (by omega) [H t5]
    obtain ⟨f, t', ef, D⟩ := hF (withN (barN ns) nm as.length 0) (ok_with (ok_bar ho) hnm (by omega) (by omega)) (by have := len_with (barN ns) nm as.length 0; omega) t5
    refine ⟨.fix false nm as f gs, t', done _ _ (e.trans ?_), ⟨(fun z => by rw [qf] at z; cases z), ⟨hap, D.p, hgq⟩, D.g, ⟨hnm, hvs, hgp, hgl, D.w⟩, by have := D.dp; simp only [dep]; omega, by rw [siz]; exact pow3 d hd D.sz⟩⟩
    rw [enc]
    exact bd_pfp cl dp _ P (nsD ns) _ _ K (tX gs) (.str nm) (enc f) (as.map .str) [H t5] [H t'] (by rw [List.length_map]) b w ef
  · obtain ⟨gs, nm, t5, hgl, hgp, hgq, hnm, e⟩ := main wTc (fun S => by rw [hkd S, q])
    obtain ⟨bs, t6, e6, hbl, hbn, hbp⟩ := hS 2 (by decide) hn2 t5
    obtain ⟨a, ha, ea⟩ := pick_run r pl 2 0 [some (.loc 0), some (.int dp), some P, some (nsD ns), some K, some (.str wTc), some (.fzl (bs.map .str)), some (tX gs), none, some (.str nm), none, none] rfl rfl t6
    obtain ⟨b, hb, eb⟩ := pick_run r pl 2 0 [some (.loc 0), some (.int dp), some P, some (nsD ns), some K, some (.str wTc), some (.fzl (bs.map .str)), some (tX gs), none, some (.str nm), none, none] rfl rfl (t6 + 1)
    obtain ⟨f, t', ef, D⟩ := hF ns ho (by omega) (t6 + 1 + 1)
    refine ⟨.tc bs f [a, b], t', done _ _ (e.trans ?_), ⟨(fun z => by rw [qf] at z; cases z), ⟨hbp, D.p, by intro x hx; simp only [List.mem_cons, List.not_mem_nil, or_false] at hx; rcases hx with rfl | rfl <;> assumption⟩, D.g, ⟨⟨fun x hx => pl.nm x (hbp x hx), hbn, by omega, by omega⟩, by omega, ?_, by simp; omega, D.w⟩, by have := D.dp; simp only [dep]; omega, by rw [siz]; exact pow3 d hd D.sz⟩⟩
    · rw [enc]
      exact bd_tc cl dp P (nsD ns) K (tX gs) (.str nm) (enc f) (.str a) (.str b) (as.map .str) (bs.map .str) _ _ _ _ _ e6 ea eb ef
    · intro x hx
      simp only [List.mem_cons, List.not_mem_nil, or_false] at hx
      rcases hx with rfl | rfl
      · exact pl.nm _ ha
      · exact pl.nm _ hb
  · obtain ⟨gs, nm, t5, hgl, hgp, hgq, hnm, e⟩ := main wGue (fun S => by rw [hkd S, q])
    obtain ⟨v, v0, ev⟩ := r.hD t5 []
    obtain ⟨k, hk, hk1⟩ : ∃ k : Nat, v % 2 = (k : Int) ∧ k ≤ 1 := ⟨(v % 2).toNat, by omega, by omega⟩
    have w := hW ns nm k 0 (by omega) [H (t5 + 1)]
    obtain ⟨f, t', ef, D⟩ := hF (withN ns nm k 0) (ok_with ho hnm (by omega) (by omega)) (len_with _ _ _ _) (t5 + 1)
    refine ⟨.gue nm k f, t', done _ _ (e.trans ?_), ⟨(fun z => by rw [qf] at z; cases z), D.p, D.g, ⟨hnm, by omega, D.w⟩, by have := D.dp; simp only [dep]; omega, by rw [siz]; exact pow3 d hd D.sz⟩⟩
    rw [enc, ← hk]
    exact bd_gue cl dp v P (nsD ns) _ K (tX gs) (.str nm) (enc f) (as.map .str) [H t5] _ [H t'] ev (by rw [hk]; exact w) ef
end Mi

set_option autoImplicit true
set_option maxRecDepth 512
set_option maxHeartbeats 200000
set_option Elab.async false
set_option autoImplicit false
set_option linter.unusedSimpArgs false
set_option linter.unusedVariables false
namespace Mi
open M
set_option maxRecDepth 100000
local macro_rules | `(tactic| simp! only [$xs,*] $[$l:location]?) => `(tactic| simp only [↓ev_fld_at, ↓ev_meth_at, ↓ev_new_at, ↓ex_asgFld_at, methK_at, methK2_at, methK3_at, newK_at, newM_at, isNonM_at, asgFldK_at, asgFldK2_at, fldM_at, fldF, setFldM_at, setFldC, clsM_at, clsF, lookN, putFd, flOk, ↓for_at, forS_at, lcS_at, ↓ev_non_at, ↓ev_bl_at, ↓ev_int_at, ↓ev_str_at, ↓ev_var_at, ↓ev_glob_at, ↓ev_op_at, ↓ev_neg_at, ↓ev_cmp_at, ↓ev_chain_at, ↓ev_not_at, ↓ev_and_at, ↓ev_or_at, ↓ev_ite_at, ↓ev_tup_at, ↓ev_lst_at, ↓ev_flst_at, ↓ev_dct_at, ↓ev_fslice_at, ↓ev_lenset_at, flstK_at, fslK_at, fslK2_at, lcR_t, lcR_f, lcR_ex, ↓ex_augFld_at, augFldK_at, augFldK2_at, augFldK3_at, augFldK4_at, ↓ex_try_at, tryR_nx, tryR_rt, viewK_at, view_loc, view_non, view_bl, view_int, view_str, view_tup, view_fzl, view_fzd, view_fzo, viewC, indexM_at, indexF_tup, indexF_fzl, indexF_str, indexF_fzd, sliceM_at, sliceF_tup, sliceF_fzl, sliceF_str, sliceP_at, slicePF, eqK_at, eqK2_at, eqM_at, inM_at, inF, nbnK_at, cmp_eq_at, cmp_ne_at, cmp_in_at, cmp_nin_at, cmp_lt_at, cmp_le_at, cmp_gt_at, cmp_ge_at, cmp_is_at, cmp_isnt_at, addL_at, addI_at, lenM_at, lenF_str, lenF_tup, lenF_fzl, listM_at, flistM_at, tupleM_at, itemsF_tup, itemsF_fzl, lstF_fzl, sumK_at, sumK2_at, sumM_at, intsO_map, setIxM_at, setIxL_at, setIxD_at, putIxK_at, append_at, appC, dctU, lstU, someC, extend_at, extC, extF, pop_at, popC, popAt_at, popAtC_at, popAtK2_at, popAtK3_at, retKM_at, sdf_at, sdfC_at, sdfO_some, sdfO_none, get1_at, getF, isDct_at, isLst_at, isD_at, isDF, dict_at, dictC, truthy_loc, intF, max2F, min2F, endC_nx, endC_rt, endC_rtP, endC_ex, gc_bl, gc_int, gc_str, gc_non, ↓ev_ix_at, ↓ev_slice_at, ↓ev_call_at, ↓ev_bi_at, ↓ev_mt_at, ↓ev_isi_at, ↓ev_lc_at, ↓evs_nil_at, ↓evs_cons_at, ↓evo_none_at, ↓evo_some_at, ↓evc_nil_at, ↓evc_cons_at, ↓ex_asg_at, ↓ex_asgIx_at, ↓ex_aug_at, ↓ex_expr_at, ↓ex_ite_at, ↓ex_ret_at, ↓ex_retN_at, ↓ex_raise_at, ↓ex_brk_at, ↓ex_cont_at, ↓ex_pass_at, ↓ex_while_at, ↓exs_nil_at, ↓exs_cons_at, asgK_at, asgR_ok, goOn_at, augK1_at, augK2_at, augK3_at, asgIxK_at, asgIxK2_at, asgIxK3_at, blK_at, nbK_at, opK_at, cmpK_at, cmpK2_at, chK_at, chK2_at, chK3_t, chK3_f, notK_at, andK_at, andK2_t, andK2_f, orK_at, orK2_t, orK2_f, ifK_at, ifK2_t, ifK2_f, tupK_at, lstK_at, ixK_at, slK_at, slK2_at, mtK_at, mtK2_at, isiK_at, consK_at, consK2_at, csK_at, csK2_t, csK2_f, someK_at, eltK_t, eltK_f, oneK_at, oneL_at, seqK_at, iteK_t, iteK_f, retS_at, noexR_ok, negM, intM, ↓msB_at, ↓msS_at, msB_ok, msB_ex, msS_msS, msS_nx, msS_rt, msS_ex, msS_bk, msS_ct, truthy_non, truthy_bl, truthy_int, truthy_str, truthy_tup, truthy_fzl, ↓bnd_at, bndR_ok, bndR_ex, of_some, ret_at, binop, iopM, ↓need_at, bindT, bindTs, biM, get_at, put_at, new_at, ↓isi_cons_at, isi_nil_at, isiR_t, isiR_f, isTy_non, isTy_bl, isTy_int, isTy_str, isTy_tup, isTy_fzl, mtM, mtPre, upperM, isStr, itM, seq1, seqM_tup, seqM_fzl, seqM_scr, seqM_str, seqM_loc, lstS, rng1, rng2, D.isNon, D.flat, D.flats, D.deep, D.deeps, D.eqv, D.eqvs, Nat.zero_le, Nat.max_self, and_self, lt0, lt1, lt2, lt3, atI0, atI1, atI2, atI3, ixN0, ixN1, ixN2, ixN3, getc0, getc1, getc2, getc3, getc4, getc5, getc6, getc7, getc8, setc0, setc1, setc2, setc3, setc4, setc5, setc6, setc7, setc8, id, Option.join_some, Option.join, Option.bind, Option.map, List.map_cons, List.map_nil, List.length_map, List.length_cons, List.length_nil, List.getElem?_cons_zero, List.getElem?_cons_succ, List.set_cons_zero, List.set_cons_succ, Nat.zero_add, List.append_nil, List.nil_append, List.cons_append, Int.reducePow, Int.reduceToNat, Int.zero_add, Int.cast_ofNat_Int, decide_true, decide_false, Bool.not_true, Bool.not_false, Bool.and_self, Bool.true_and, Bool.false_and, Bool.and_true, Nat.zero_max, Nat.max_zero, if_true, if_false, ite_true, ite_false, reduceIte, reduceCtorEq, Bool.false_eq_true, Bool.true_eq_false, or_true, true_or, and_true, true_and, or_false, false_or, Nat.reduceLT, Nat.reduceAdd, Nat.reduceLeDiff, Int.reduceLT, Int.reduceLE, Int.reduceAdd, Nat.zero_lt_succ, beq_self_eq_true, decide_eq_true_eq, gc_self, bel_non, bel_bl, bel_int, bel_str, bel_tup, bel_fzl, bels_nil, bels_cons, List.cons.injEq, Nat.reduceEqDiff, and_false, false_and, eq_self, List.any_cons, List.any_nil, Bool.or_false, Bool.false_or, Bool.true_or, Bool.or_true, atI4, Int.ofNat_zero, Int.natCast_zero, Int.natCast_one, Int.natCast_succ, decide_not, $xs,*] $[$l:location]?)
theorem one_fm (cl : Cl) (dp : Int) (P N K F a5 a6 a7 d : D) (S S2 : Store) (hf : cl.fn "_law_formula" [.loc 0, .int (dp - 1), P, N, K] S = some (.ok F, S2)) :
    oneL cl (.call "_law_formula" [.var 0, .op .sub (.var 1) (.int 1), .var 2, .var 3, .var 4]) (.nm 8) [] [8] [some (.loc 0), some (.int dp), some P, some N, some K, some a5, some a6, some a7, none] d S = some (.ok (some F), S2) := by
  simp! only [wipeE, hf]
theorem fms_of {fo : Bool} {pool : List Tx} {ns : List Nm} {d : Nat} : ∀ {ys : List D}, (∀ y ∈ ys, ∃ f, y = enc f ∧ Dr fo pool ns d f) → ∃ fs : List Fm, ys = fs.map enc ∧ ∀ f ∈ fs, Dr fo pool ns d f
  | [], _ => ⟨[], rfl, by simp⟩
  | y :: ys, h => by
    obtain ⟨f, rfl, hf⟩ := h y (by simp)
    obtain ⟨fs, rfl, h2⟩ := fms_of (ys := ys) fun z hz => h z (by simp [hz])
    exact ⟨f :: fs, rfl, by intro z hz; rcases List.mem_cons.1 hz with hz | hz; (rw [hz]; exact hf); exact h2 z hz⟩
theorem gns_of {ns : List Nm} : ∀ {fs : List Fm}, (∀ f ∈ fs, Gn ns f) → Gns ns fs
  | [], _ => trivial
  | f :: fs, h => ⟨h f (by simp), gns_of fun g hg => h g (by simp [hg])⟩
theorem wfs_of : ∀ {fs : List Fm}, (∀ f ∈ fs, Wf f) → Wfs fs
  | [], _ => trivial
  | f :: fs, h => ⟨h f (by simp), wfs_of fun g hg => h g (by simp [hg])⟩
theorem deps_of {d : Nat} : ∀ {fs : List Fm}, (∀ f ∈ fs, dep f ≤ d) → deps fs ≤ d
  | [], _ => by simp [deps]
  | f :: fs, h => by
    have h1 := h f (by simp)
    have h2 := deps_of (fs := fs) fun g hg => h g (by simp [hg])
    rw [deps]
    omega
theorem sizs_of {x : Nat} : ∀ {fs : List Fm}, (∀ f ∈ fs, 2 * siz f + 1 ≤ x) → 2 * sizs fs + fs.length ≤ fs.length * x
  | [], _ => by simp [sizs]
  | f :: fs, h => by
    have h1 := h f (by simp)
    have h2 := sizs_of (fs := fs) fun g hg => h g (by simp [hg])
    simp only [sizs, List.length_cons, Nat.add_mul, Nat.one_mul]
    omega
theorem fos_of : ∀ {fs : List Fm}, (∀ f ∈ fs, FO f) → FOs fs
  | [], _ => trivial
  | f :: fs, h => ⟨h f (by simp), fos_of fun g hg => h g (by simp [hg])⟩
theorem vins_of {pool : List Tx} : ∀ {fs : List Fm}, (∀ f ∈ fs, VIn pool f) → VIns pool fs
  | [], _ => trivial
  | f :: fs, h => ⟨h f (by simp), vins_of fun g hg => h g (by simp [hg])⟩
theorem con_dr {fo : Bool} {pool : List Tx} {ns : List Nm} {d : Nat} (hd : 1 ≤ d) (w : Bool) {fs : List Fm} (h : ∀ f ∈ fs, Dr fo pool ns d f) (hl : fs.length ≤ 3) : Dr fo pool ns (d + 1) (.con w fs) := by
  refine ⟨fun q => fos_of fun f hf => (h f hf).k q, vins_of fun f hf => (h f hf).p, gns_of fun f hf => (h f hf).g, ⟨by omega, wfs_of fun f hf => (h f hf).w⟩, ?_, ?_⟩
  · rw [dep]
    have := deps_of (d := d) fun f hf => (h f hf).dp
    omega
  · have h1 := sizs_of (fs := fs) fun f hf => (h f hf).sz
    have h3 : 3 ≤ 3 ^ d := by
      have := Nat.pow_le_pow_right (n := 3) (by decide) hd
      omega
    rw [siz, Nat.pow_succ]
    generalize 3 ^ d = x at *
    have h2 : fs.length = 0 ∨ fs.length = 1 ∨ fs.length = 2 ∨ fs.length = 3 := by omega
    rcases h2 with q | q | q | q <;> rw [q] at h1 <;> omega
theorem gf_mk {pool : List Tx} {n : Int} {P : D} (pl : PL pool n P) {l : List Int} (h : ∀ x ∈ l, 0 ≤ x) (k : Nat) : GF (callK prog (k + 3)) (fun t => .lst [.fzl (l.map .int), .int (t : Int)]) pool n P where
  r := dr_mk h (k + 1)
  pl := pl
  hS m h0 h4 t := by
    rw [F__law_some_of]
    exact some_of_run (dr_mk h k) pl m h0 h4 t
  hW ns x k' m hl S := by
    rw [F__law_within]
    exact within_run _ ns x k' m hl S
  hB ns ho hl S := by
    rw [F__law_barred]
    exact barred_run _ ns ho hl S
theorem formula_run {fo : Bool} {pool : List Tx} {n : Int} {P : D} (pl : PL pool n P) {K : D} {kn : Int} (kl : KL fo K kn) {l : List Int} (h : ∀ x ∈ l, 0 ≤ x) : ∀ (d : Nat) (dp : Int), dp = (d : Int) → ∀ (ns : List Nm), NsOk ns → ns.length + d ≤ 900 → ∀ (L : Nat), 2 * d + 5 ≤ L → ∀ t : Nat,
    ∃ (f : Fm) (t' : Nat), callB (callK prog L) f__law_formula [.loc 0, .int dp, P, nsD ns, K] [(fun t : Nat => Cell.lst [.fzl (l.map .int), .int (t : Int)]) t] = some (.ok (enc f), [(fun t : Nat => Cell.lst [.fzl (l.map .int), .int (t : Int)]) t']) ∧ Dr fo pool ns (max d 1) f := by
  intro d
  induction d with
  | zero =>
    intro dp hdp ns ho hl L hL t
    obtain ⟨L, rfl⟩ : ∃ L', L = L' + 4 := ⟨L - 4, by omega⟩
    have g := gf_mk pl h (L + 1)
    have g3 := gf_mk pl h L
    generalize (fun t : Nat => Cell.lst [.fzl (l.map .int), .int (t : Int)]) = H at *
    obtain ⟨v, v0, e⟩ := g.r.hD t []
    obtain ⟨f, t', ea, D⟩ := atom_run (callK prog (L + 3)) H g3.r pool n P g3.pl ns ho (by omega) 1 (by decide) (t + 1)
    have := fm_atom (callK prog (L + 4)) dp v P (nsD ns) K (enc f) [H t] [H (t + 1)] [H t'] e (.inl (by omega)) (by rw [F__law_atom]; exact ea)
    refine ⟨f, t', ?_, D⟩
    rw [callB_of _ _ _ _ rfl (by decide)]
    show endC false _ (exSs _ f__law_formula.body [some (.loc 0), some (.int dp), some P, some (nsD ns), some K, none, none, none, none] _) = _
    rw [this, endC_rt, gcH g.r t t' (enc f) [] (bel_enc _ _)]
  | succ d ih =>
    intro dp hdp ns ho hl L hL t
    obtain ⟨L, rfl⟩ : ∃ L', L = L' + 5 := ⟨L - 5, by omega⟩
    have g := gf_mk pl h (L + 2)
    have g3 := gf_mk pl h (L + 1)
    have hm : max (d + 1) 1 = d + 1 := by omega
    rw [hm]
    have ihL := fun (ns' : List Nm) (h1 : NsOk ns') (h2 : ns'.length + d ≤ 900) (L' : Nat) (h3 : 2 * d + 5 ≤ L') (t : Nat) => ih (dp - 1) (by omega) ns' h1 h2 L' h3 t
    clear ih
    generalize (fun t : Nat => Cell.lst [.fzl (l.map .int), .int (t : Int)]) = H at *
    obtain ⟨v, v0, e⟩ := g.r.hD t []
    have done : ∀ (f : Fm) (t' : Nat), exSs (callK prog (L + 5)) f__law_formula.body [some (.loc 0), some (.int dp), some P, some (nsD ns), some K, none, none, none, none] [H t] = some (.rt (enc f), [H t']) → callB (callK prog (L + 5)) f__law_formula [.loc 0, .int dp, P, nsD ns, K] [H t] = some (.ok (enc f), [H t']) := by
      intro f t' h
      rw [callB_of _ _ _ _ rfl (by decide)]
      show endC false _ (exSs _ f__law_formula.body [some (.loc 0), some (.int dp), some P, some (nsD ns), some K, none, none, none, none] _) = _
      rw [h, endC_rt, gcH g.r t t' (enc f) [] (bel_enc _ _)]
    by_cases hat : dp ≤ 1 ∨ v % 6 = 0
    · obtain ⟨f, t', ea, D⟩ := atom_run (callK prog (L + 4)) H g3.r pool n P g3.pl ns ho (by omega) (d + 1) (by omega) (t + 1)
      exact ⟨f, t', done f t' (fm_atom (callK prog (L + 5)) dp v P (nsD ns) K (enc f) [H t] [H (t + 1)] [H t'] e hat (by rw [F__law_atom]; exact ea)), D⟩
    · have h1 : ¬ dp ≤ 1 := fun q => hat (.inl q)
      have h0 : ¬ v % 6 = 0 := fun q => hat (.inr q)
      have hd : 1 ≤ d := by omega
      have hmd : max d 1 = d := by omega
      rw [hmd] at ihL
      by_cases c1 : v % 6 = 1
      · have htl : (turnN ns).length = ns.length := by simp [turnN]
        have tr := turned_run (callK prog (L + 4)) ns ho (by omega) [H (t + 1)]
        obtain ⟨f, t', ef, D⟩ := ihL (turnN ns) (ok_turn ho) (by omega) (L + 4) (by omega) (t + 1)
        refine ⟨.not f, t', done _ _ ?_, ⟨D.k, D.p, D.g, D.w, by have := D.dp; simp only [dep]; omega, by rw [siz]; exact pow3 d hd D.sz⟩⟩
        rw [enc]
        exact fm_not (callK prog (L + 5)) dp v P (nsD ns) _ K (enc f) _ _ _ e h1 c1 (by rw [F__law_turned]; exact tr) (by rw [F__law_formula]; exact ef)
      · by_cases c2 : v % 6 = 2 ∨ v % 6 = 3
        · obtain ⟨v2, p2, e2⟩ := g.r.hD (t + 1) []
          obtain ⟨v3, p3, e3⟩ := g.r.hD (t + 1 + 1) []
          obtain ⟨w, hw⟩ : ∃ w : Bool, ∀ S, indexF (.fzl [.str [97, 110, 100], .str [111, 114]]) (.int (v2 % 2)) S = some (.ok (.str (if w then wAnd else wOr)), S) := by
            rcases (by omega : v2 % 2 = 0 ∨ v2 % 2 = 1) with q | q <;> rw [q]
            · exact ⟨true, fun _ => rfl⟩
            · exact ⟨false, fun _ => rfl⟩
          obtain ⟨m, hm3, hm⟩ : ∃ m : Nat, m ≤ 3 ∧ ∀ S, indexF (.fzl [.int 0, .int 1, .int 2, .int 2, .int 2, .int 3]) (.int (v3 % 6)) S = some (.ok (.int (m : Int)), S) := by
            rcases (by omega : v3 % 6 = 0 ∨ v3 % 6 = 1 ∨ v3 % 6 = 2 ∨ v3 % 6 = 3 ∨ v3 % 6 = 4 ∨ v3 % 6 = 5) with q | q | q | q | q | q <;> rw [q]
            · exact ⟨0, by decide, fun _ => rfl⟩
            · exact ⟨1, by decide, fun _ => rfl⟩
            · exact ⟨2, by decide, fun _ => rfl⟩
            · exact ⟨2, by decide, fun _ => rfl⟩
            · exact ⟨2, by decide, fun _ => rfl⟩
            · exact ⟨3, by decide, fun _ => rfl⟩
          obtain ⟨ys, t', ec, hyl, hyq⟩ := compL_ex (H := H) (one := oneL (callK prog (L + 5)) (.call "_law_formula" [.var 0, .op .sub (.var 1) (.int 1), .var 2, .var 3, .var 4]) (.nm 8) [] [8] [some (.loc 0), some (.int dp), some P, some (nsD ns), some K, some (.int (v % 6)), some (.str (if w then wAnd else wOr)), some (.int (m : Int)), none])
            (fun y => ∃ f, y = enc f ∧ Dr fo pool ns d f) (rangeD 0 (m : Int).toNat) [] (t + 1 + 1 + 1) (fun x _ t => by
              obtain ⟨f, t', ef, D⟩ := ihL ns ho (by omega) (L + 4) (by omega) t
              exact ⟨enc f, t', one_fm _ dp P (nsD ns) K (enc f) _ _ _ x _ _ (by rw [F__law_formula]; exact ef), f, rfl, D⟩) (by rw [rangeD_len]; unfold szl; simp; omega)
          obtain ⟨fs, rfl, hfs⟩ := fms_of hyq
          rw [rangeD_len, List.length_map, Int.toNat_natCast] at hyl
          rw [List.nil_append] at ec
          refine ⟨.con w fs, t', done _ _ ?_, con_dr hd w hfs (by omega)⟩
          rw [enc, encs_map]
          exact fm_con (callK prog (L + 5)) dp v v2 v3 (m : Int) P (nsD ns) K _ (fs.map enc) _ _ _ _ _ e h1 c2 e2 e3 (hw _) (hm _) (r62_of (by omega) (by omega)) ec
        · obtain ⟨f, t', ef, D⟩ := bound_run (callK prog (L + 4)) H pool n P g3 K kn kl d hd dp ns ho (by omega) (fun ns' h1 h2 t => by
            rw [F__law_formula]
            exact ihL ns' h1 (by omega) (L + 3) (by omega) t) (t + 1)
          exact ⟨f, t', done f t' (fm_bound (callK prog (L + 5)) dp v P (nsD ns) K (enc f) [H t] [H (t + 1)] [H t'] e h1 (by omega) (by rw [F__law_bound]; exact ef)), D⟩
end Mi

set_option autoImplicit true
set_option maxRecDepth 512
set_option maxHeartbeats 200000
set_option Elab.async false
set_option autoImplicit false
set_option linter.unusedSimpArgs false
set_option linter.unusedVariables false
namespace Mi
open M
set_option maxRecDepth 100000
local macro_rules | `(tactic| simp! only [$xs,*] $[$l:location]?) => `(tactic| simp only [↓ev_fld_at, ↓ev_meth_at, ↓ev_new_at, ↓ex_asgFld_at, methK_at, methK2_at, methK3_at, newK_at, newM_at, isNonM_at, asgFldK_at, asgFldK2_at, fldM_at, fldF, setFldM_at, setFldC, clsM_at, clsF, lookN, putFd, flOk, ↓for_at, forS_at, lcS_at, ↓ev_non_at, ↓ev_bl_at, ↓ev_int_at, ↓ev_str_at, ↓ev_var_at, ↓ev_glob_at, ↓ev_op_at, ↓ev_neg_at, ↓ev_cmp_at, ↓ev_chain_at, ↓ev_not_at, ↓ev_and_at, ↓ev_or_at, ↓ev_ite_at, ↓ev_tup_at, ↓ev_lst_at, ↓ev_flst_at, ↓ev_dct_at, ↓ev_fslice_at, ↓ev_lenset_at, flstK_at, fslK_at, fslK2_at, lcR_t, lcR_f, lcR_ex, ↓ex_augFld_at, augFldK_at, augFldK2_at, augFldK3_at, augFldK4_at, ↓ex_try_at, tryR_nx, tryR_rt, viewK_at, view_loc, view_non, view_bl, view_int, view_str, view_tup, view_fzl, view_fzd, view_fzo, viewC, indexM_at, indexF_tup, indexF_fzl, indexF_str, indexF_fzd, sliceM_at, sliceF_tup, sliceF_fzl, sliceF_str, sliceP_at, slicePF, eqK_at, eqK2_at, eqM_at, inM_at, inF, nbnK_at, cmp_eq_at, cmp_ne_at, cmp_in_at, cmp_nin_at, cmp_lt_at, cmp_le_at, cmp_gt_at, cmp_ge_at, cmp_is_at, cmp_isnt_at, addL_at, addI_at, lenM_at, lenF_str, lenF_tup, lenF_fzl, listM_at, flistM_at, tupleM_at, itemsF_tup, itemsF_fzl, lstF_fzl, sumK_at, sumK2_at, sumM_at, intsO_map, setIxM_at, setIxL_at, setIxD_at, putIxK_at, append_at, appC, dctU, lstU, someC, extend_at, extC, extF, pop_at, popC, popAt_at, popAtC_at, popAtK2_at, popAtK3_at, retKM_at, sdf_at, sdfC_at, sdfO_some, sdfO_none, get1_at, getF, isDct_at, isLst_at, isD_at, isDF, dict_at, dictC, truthy_loc, intF, max2F, min2F, endC_nx, endC_rt, endC_rtP, endC_ex, gc_bl, gc_int, gc_str, gc_non, ↓ev_ix_at, ↓ev_slice_at, ↓ev_call_at, ↓ev_bi_at, ↓ev_mt_at, ↓ev_isi_at, ↓ev_lc_at, ↓evs_nil_at, ↓evs_cons_at, ↓evo_none_at, ↓evo_some_at, ↓evc_nil_at, ↓evc_cons_at, ↓ex_asg_at, ↓ex_asgIx_at, ↓ex_aug_at, ↓ex_expr_at, ↓ex_ite_at, ↓ex_ret_at, ↓ex_retN_at, ↓ex_raise_at, ↓ex_brk_at, ↓ex_cont_at, ↓ex_pass_at, ↓ex_while_at, ↓exs_nil_at, ↓exs_cons_at, asgK_at, asgR_ok, goOn_at, augK1_at, augK2_at, augK3_at, asgIxK_at, asgIxK2_at, asgIxK3_at, blK_at, nbK_at, opK_at, cmpK_at, cmpK2_at, chK_at, chK2_at, chK3_t, chK3_f, notK_at, andK_at, andK2_t, andK2_f, orK_at, orK2_t, orK2_f, ifK_at, ifK2_t, ifK2_f, tupK_at, lstK_at, ixK_at, slK_at, slK2_at, mtK_at, mtK2_at, isiK_at, consK_at, consK2_at, csK_at, csK2_t, csK2_f, someK_at, eltK_t, eltK_f, oneK_at, oneL_at, seqK_at, iteK_t, iteK_f, retS_at, noexR_ok, negM, intM, ↓msB_at, ↓msS_at, msB_ok, msB_ex, msS_msS, msS_nx, msS_rt, msS_ex, msS_bk, msS_ct, truthy_non, truthy_bl, truthy_int, truthy_str, truthy_tup, truthy_fzl, ↓bnd_at, bndR_ok, bndR_ex, of_some, ret_at, binop, iopM, ↓need_at, bindT, bindTs, biM, get_at, put_at, new_at, ↓isi_cons_at, isi_nil_at, isiR_t, isiR_f, isTy_non, isTy_bl, isTy_int, isTy_str, isTy_tup, isTy_fzl, mtM, mtPre, upperM, isStr, itM, seq1, seqM_tup, seqM_fzl, seqM_scr, seqM_str, seqM_loc, lstS, rng1, rng2, D.isNon, D.flat, D.flats, D.deep, D.deeps, D.eqv, D.eqvs, Nat.zero_le, Nat.max_self, and_self, lt0, lt1, lt2, lt3, atI0, atI1, atI2, atI3, ixN0, ixN1, ixN2, ixN3, getc0, getc1, getc2, getc3, getc4, getc5, getc6, getc7, getc8, setc0, setc1, setc2, setc3, setc4, setc5, setc6, setc7, setc8, id, Option.join_some, Option.join, Option.bind, Option.map, List.map_cons, List.map_nil, List.length_map, List.length_cons, List.length_nil, List.getElem?_cons_zero, List.getElem?_cons_succ, List.set_cons_zero, List.set_cons_succ, Nat.zero_add, List.append_nil, List.nil_append, List.cons_append, Int.reducePow, Int.reduceToNat, Int.zero_add, Int.cast_ofNat_Int, decide_true, decide_false, Bool.not_true, Bool.not_false, Bool.and_self, Bool.true_and, Bool.false_and, Bool.and_true, Nat.zero_max, Nat.max_zero, if_true, if_false, ite_true, ite_false, reduceIte, reduceCtorEq, Bool.false_eq_true, Bool.true_eq_false, or_true, true_or, and_true, true_and, or_false, false_or, Nat.reduceLT, Nat.reduceAdd, Nat.reduceLeDiff, Int.reduceLT, Int.reduceLE, Int.reduceAdd, Nat.zero_lt_succ, beq_self_eq_true, decide_eq_true_eq, gc_self, bel_non, bel_bl, bel_int, bel_str, bel_tup, bel_fzl, bels_nil, bels_cons, List.cons.injEq, Nat.reduceEqDiff, and_false, false_and, eq_self, List.any_cons, List.any_nil, Bool.or_false, Bool.false_or, Bool.true_or, Bool.or_true, atI4, Int.ofNat_zero, Int.natCast_zero, Int.natCast_one, Int.natCast_succ, decide_not, $xs,*] $[$l:location]?)
/-! what is drawn is well made -/
theorem mem_with {ns : List Nm} {x r : Tx} {k m : Nat} {e : Nm} (he : e ∈ withN ns r k m) : (e ∈ ns ∧ e.1 ≠ r) ∨ e = (r, k, m) := by
  rcases List.mem_append.1 he with he | he
  · have := List.mem_filter.1 he
    exact .inl ⟨this.1, by simpa using this.2⟩
  · exact .inr (List.mem_singleton.1 he)
mutual
theorem occ_drawn (x : Tx) : ∀ (f : Fm) (ns : List Nm), Gn ns f → (∀ e ∈ ns, e.1 = x → e.2.2 = 3) → occ x f = false
  | .rel y as, ns, h, hx => by
    obtain ⟨m, hm, he⟩ := h
    rw [occ, decide_eq_false_iff_not]
    intro q
    have := hx _ he q
    simp at this
    omega
  | .cmp _ _ _, _, _, _ => by rw [occ]
  | .not f, ns, h, hx => by
    rw [occ]
    exact occ_drawn x f (turnN ns) h fun e he q => by
      obtain ⟨e', h', rfl⟩ := List.mem_map.1 he
      have := hx e' h' q
      show turnM e'.2.2 = 3
      rw [this]
      rfl
  | .con _ fs, ns, h, hx => by
    rw [occ]
    exact occs_drawn x fs ns h hx
  | .qu _ _ f, ns, h, hx => by
    rw [occ]
    exact occ_drawn x f ns h hx
  | .fix true r vs f _, ns, h, hx => by
    rw [occ]
    by_cases q : r = x
    · simp [q]
    · rw [occ_drawn x f _ h fun e he p => by
        rcases mem_with (x := x) he with he | he
        · exact hx e he.1 p
        · exact absurd (by rw [← p, he]) q]
      simp
  | .fix false r vs f _, ns, h, hx => by
    rw [occ]
    by_cases q : r = x
    · simp [q]
    · rw [occ_drawn x f _ h fun e he p => by
        rcases mem_with (x := x) he with he | he
        · obtain ⟨e', h', rfl⟩ := List.mem_map.1 he.1
          have := hx e' h' p
          show barM e'.2.2 = 3
          rw [this]
          rfl
        · exact absurd (by rw [← p, he]) q]
      simp
  | .tc _ f _, ns, h, hx => by
    rw [occ]
    exact occ_drawn x f ns h hx
  | .gue r k f, ns, h, hx => by
    rw [occ]
    by_cases q : r = x
    · simp [q]
    · rw [occ_drawn x f _ h fun e he p => by
        rcases mem_with (x := x) he with he | he
        · exact hx e he.1 p
        · exact absurd (by rw [← p, he]) q]
      simp
theorem occs_drawn (x : Tx) : ∀ (fs : List Fm) (ns : List Nm), Gns ns fs → (∀ e ∈ ns, e.1 = x → e.2.2 = 3) → occs x fs = false
  | [], _, _, _ => by rw [occs]
  | f :: fs, ns, h, hx => by rw [occs, occ_drawn x f ns h.1 hx, occs_drawn x fs ns h.2 hx]; rfl
end
def posM (e : Bool) : Nat := if e then 1 else 2
mutual
theorem agr_drawn (x : Tx) : ∀ (f : Fm) (ns : List Nm) (e : Bool), Gn ns f → (∀ n ∈ ns, n.1 = x → n.2.2 = posM e ∨ n.2.2 = 3) → agr x e f = true
  | .rel y as, ns, e, h, hx => by
    obtain ⟨m, hm, he⟩ := h
    rw [agr]
    by_cases q : y = x
    · have := hx _ he q
      cases e with
      | true => simp
      | false => simp [posM] at this; omega
    · simp [q]
  | .cmp _ _ _, _, _, _, _ => by rw [agr]
  | .not f, ns, e, h, hx => by
    rw [agr]
    exact agr_drawn x f (turnN ns) (!e) h fun n hn q => by
      obtain ⟨n', h', rfl⟩ := List.mem_map.1 hn
      show turnM n'.2.2 = _ ∨ turnM n'.2.2 = 3
      rcases hx n' h' q with p | p <;> rw [p]
      · left; cases e <;> rfl
      · right; rfl
  | .con _ fs, ns, e, h, hx => by
    rw [agr]
    exact agrs_drawn x fs ns e h hx
  | .qu _ _ f, ns, e, h, hx => by
    rw [agr]
    exact agr_drawn x f ns e h hx
  | .fix true r vs f _, ns, e, h, hx => by
    rw [agr]
    by_cases q : r = x
    · simp [q]
    · rw [agr_drawn x f _ e h fun n hn p => by
        rcases mem_with (x := x) hn with hn | hn
        · exact hx n hn.1 p
        · exact absurd (by rw [← p, hn]) q]
      simp
  | .fix false r vs f _, ns, e, h, hx => by
    rw [agr]
    by_cases q : r = x
    · simp [q]
    · have h3 : ∀ n ∈ withN (barN ns) r vs.length 0, n.1 = x → n.2.2 = 3 := fun n hn p => by
        rcases mem_with (x := x) hn with hn | hn
        · obtain ⟨n', h', rfl⟩ := List.mem_map.1 hn.1
          show barM n'.2.2 = 3
          rcases hx n' h' p with z | z <;> rw [z]
          · cases e <;> rfl
          · rfl
        · exact absurd (by rw [← p, hn]) q
      rw [agr_drawn x f _ e h fun n hn p => .inr (h3 n hn p), occ_drawn x f _ h h3]
      simp
  | .tc _ f _, ns, e, h, hx => by
    rw [agr]
    exact agr_drawn x f ns e h hx
  | .gue r k f, ns, e, h, hx => by
    rw [agr]
    by_cases q : r = x
    · simp [q]
    · rw [agr_drawn x f _ e h fun n hn p => by
        rcases mem_with (x := x) hn with hn | hn
        · exact hx n hn.1 p
        · exact absurd (by rw [← p, hn]) q]
      simp
theorem agrs_drawn (x : Tx) : ∀ (fs : List Fm) (ns : List Nm) (e : Bool), Gns ns fs → (∀ n ∈ ns, n.1 = x → n.2.2 = posM e ∨ n.2.2 = 3) → agrs x e fs = true
  | [], _, _, _, _ => by rw [agrs]
  | f :: fs, ns, e, h, hx => by rw [agrs, agr_drawn x f ns e h.1 hx, agrs_drawn x fs ns e h.2 hx]; rfl
end
mutual
theorem pos_drawn : ∀ (f : Fm) (ns : List Nm), Gn ns f → Pos f
  | .rel _ _, _, _ => trivial
  | .cmp _ _ _, _, _ => trivial
  | .not f, ns, h => pos_drawn f (turnN ns) h
  | .con _ fs, ns, h => poss_drawn fs ns h
  | .qu _ _ f, ns, h => pos_drawn f ns h
  | .fix true r vs f _, ns, h => ⟨fun _ => agr_drawn r f _ true h fun n hn p => by
      rcases mem_with (x := r) hn with hn | hn
      · exact absurd p hn.2
      · rw [hn]
        exact .inl rfl, pos_drawn f _ h⟩
  | .fix false r vs f _, ns, h => ⟨(fun q => by cases q), pos_drawn f _ h⟩
  | .tc _ f _, ns, h => pos_drawn f ns h
  | .gue _ _ f, ns, h => pos_drawn f _ h
theorem poss_drawn : ∀ (fs : List Fm) (ns : List Nm), Gns ns fs → Poss fs
  | [], _, _ => trivial
  | f :: fs, ns, h => ⟨pos_drawn f ns h.1, poss_drawn fs ns h.2⟩
end
theorem lookD_map_ne {k j v : D} (h : k ≠ j) : ∀ kvs : List (D × D), lookD j (kvs.map fun p => if p.1 = k then (p.1, v) else p) = lookD j kvs
  | [] => rfl
  | (x, u) :: r => by
    rw [List.map_cons]
    by_cases q : x = k
    · subst q
      simp only [if_true, lookD, if_neg h]
      exact lookD_map_ne h r
    · simp only [q, if_false, lookD]
      rw [lookD_map_ne h r]
theorem lookD_map_eq {k v : D} : ∀ kvs : List (D × D), (kvs.any fun p => decide (p.1 = k)) = true → lookD k (kvs.map fun p => if p.1 = k then (p.1, v) else p) = some v
  | [], h => by simp at h
  | (x, u) :: r, h => by
    rw [List.map_cons]
    by_cases q : x = k
    · subst q
      simp [lookD]
    · simp only [q, if_false, lookD]
      simp only [List.any_cons, q, decide_false, Bool.false_or] at h
      exact lookD_map_eq r h
theorem lookD_app (j : D) (p : D × D) : ∀ kvs : List (D × D), lookD j (kvs ++ [p]) = match lookD j kvs with | some v => some v | none => if p.1 = j then some p.2 else none
  | [] => by obtain ⟨x, v⟩ := p; simp [lookD]
  | (x, u) :: r => by
    rw [List.cons_append, lookD, lookD]
    split
    · rfl
    · exact lookD_app j p r
theorem lookD_any {k : D} : ∀ {kvs : List (D × D)}, (kvs.any fun p => decide (p.1 = k)) = false → lookD k kvs = none
  | [], _ => rfl
  | (x, u) :: r, h => by
    simp only [List.any_cons, Bool.or_eq_false_iff, decide_eq_false_iff_not] at h
    rw [lookD, if_neg h.1, lookD_any h.2]
theorem lookD_put_ne {k j v : D} (h : k ≠ j) (kvs : List (D × D)) : lookD j (putD k v kvs) = lookD j kvs := by
  unfold putD
  split
  · exact lookD_map_ne h kvs
  · rw [lookD_app]
    cases lookD j kvs <;> simp [h]
theorem lookD_put_eq (k v : D) (kvs : List (D × D)) : lookD k (putD k v kvs) = some v := by
  unfold putD
  split
  · next q => exact lookD_map_eq kvs q
  · next q =>
    rw [lookD_app, lookD_any (Bool.eq_false_iff.2 q)]
    simp
def Cons (sig : Tx → Int) (bd : List (D × D)) (ns : List Nm) : Prop := ∀ e ∈ ns, lookD (.str e.1) bd = some (.int (e.2.1 : Int)) ∨ (lookD (.str e.1) bd = none ∧ sig e.1 = (e.2.1 : Int))
theorem cons_turn {sig : Tx → Int} {bd : List (D × D)} {ns : List Nm} (h : Cons sig bd ns) : Cons sig bd (turnN ns) := by
  intro e he
  obtain ⟨e', h', rfl⟩ := List.mem_map.1 he
  exact h e' h'
theorem cons_bar {sig : Tx → Int} {bd : List (D × D)} {ns : List Nm} (h : Cons sig bd ns) : Cons sig bd (barN ns) := by
  intro e he
  obtain ⟨e', h', rfl⟩ := List.mem_map.1 he
  exact h e' h'
theorem cons_with {sig : Tx → Int} {bd : List (D × D)} {ns : List Nm} (h : Cons sig bd ns) (r : Tx) (k m : Nat) : Cons sig (putD (.str r) (.int (k : Int)) bd) (withN ns r k m) := by
  intro e he
  rcases mem_with (x := r) he with he | he
  · rw [lookD_put_ne (by intro q; cases q; exact he.2 rfl)]
    exact h e he.1
  · rw [he]
    exact .inl (lookD_put_eq _ _ _)
mutual
theorem aok_drawn (sig : Tx → Int) : ∀ (f : Fm) (ns : List Nm) (bd : List (D × D)), Gn ns f → Cons sig bd ns → AOk sig bd f
  | .rel x as, ns, bd, h, c => by
    obtain ⟨m, _, he⟩ := h
    exact c _ he
  | .cmp _ _ _, _, _, _, _ => trivial
  | .not f, ns, bd, h, c => aok_drawn sig f _ bd h (cons_turn c)
  | .con _ fs, ns, bd, h, c => aoks_drawn sig fs ns bd h c
  | .qu _ _ f, ns, bd, h, c => aok_drawn sig f ns bd h c
  | .fix true r vs f _, ns, bd, h, c => aok_drawn sig f _ _ h (cons_with c r vs.length 1)
  | .fix false r vs f _, ns, bd, h, c => aok_drawn sig f _ _ h (cons_with (cons_bar c) r vs.length 0)
  | .tc _ f _, ns, bd, h, c => aok_drawn sig f ns bd h c
  | .gue r k f, ns, bd, h, c => aok_drawn sig f _ _ h (cons_with c r k 0)
theorem aoks_drawn (sig : Tx → Int) : ∀ (fs : List Fm) (ns : List Nm) (bd : List (D × D)), Gns ns fs → Cons sig bd ns → AOks sig bd fs
  | [], _, _, _, _ => trivial
  | f :: fs, ns, bd, h, c => ⟨aok_drawn sig f ns bd h.1 c, aoks_drawn sig fs ns bd h.2 c⟩
end
/-- the free names' numbers of arguments -/
def sig0 (x : Tx) : Int := if x = [101] then 2 else if x = [112] then 1 else 0
def ns3 : List Nm := [([101], 2, 0), ([112], 1, 0), ([113], 0, 0)]
theorem ns3_ok : NsOk ns3 := by
  intro e he
  simp only [ns3, List.mem_cons, List.not_mem_nil, or_false] at he
  rcases he with rfl | rfl | rfl <;> exact ⟨by decide, by decide, by decide⟩
theorem ns3_cons : Cons sig0 [] ns3 := by
  intro e he
  simp only [ns3, List.mem_cons, List.not_mem_nil, or_false] at he
  rcases he with rfl | rfl | rfl <;> exact .inr ⟨rfl, rfl⟩
theorem names_core (cl : Cl) (v : Int) (L : List D) (S S1 : Store) (e : cl.fn "_law_draw" [.loc 0] S = some (.ok (.int v), S1)) (hc : cut [D.tup [.str [101], .int 2, .int 0], .tup [.str [112], .int 1, .int 0], .tup [.str [113], .int 0, .int 0]] none (some (1 + v % 3)) = L) :
    exSs cl f__law_names.body [some (.loc 0)] S = some (.rt (.fzl L), S1) := by
  have h03 : (0 : Int) < 3 := by decide
  simp! only [f__law_names, e, h03, hc]
theorem names_run (cl : Cl) (H : Nat → Cell) (r : DR cl H) (t : Nat) : ∃ (ns : List Nm), callB cl f__law_names [.loc 0] [H t] = some (.ok (nsD ns), [H (t + 1)]) ∧ (∀ e ∈ ns, e ∈ ns3) ∧ ns.length ≤ 3 := by
  obtain ⟨v, v0, e⟩ := r.hD t []
  have done : ∀ ns : List Nm, exSs cl f__law_names.body [some (.loc 0)] [H t] = some (.rt (.fzl (ns.map encN)), [H (t + 1)]) → callB cl f__law_names [.loc 0] [H t] = some (.ok (nsD ns), [H (t + 1)]) := by
    intro ns h
    rw [callB_of _ _ _ _ rfl (by decide)]
    show endC false _ (exSs _ f__law_names.body [some (.loc 0)] _) = _
    have hg := gcH r t (t + 1) (nsD ns) [] (bel_nsD _ _)
    rw [nsD] at hg ⊢
    rw [h, endC_rt, hg]
  rcases (by omega : v % 3 = 0 ∨ v % 3 = 1 ∨ v % 3 = 2) with q | q | q
  · exact ⟨ns3.take 1, done _ (names_core cl v _ _ _ e (by rw [q]; rfl)), fun e he => List.mem_of_mem_take he, by decide⟩
  · exact ⟨ns3.take 2, done _ (names_core cl v _ _ _ e (by rw [q]; rfl)), fun e he => List.mem_of_mem_take he, by decide⟩
  · exact ⟨ns3.take 3, done _ (names_core cl v _ _ _ e (by rw [q]; rfl)), fun e he => List.mem_of_mem_take he, by decide⟩
end Mi

set_option autoImplicit true
set_option maxRecDepth 512
set_option maxHeartbeats 200000
set_option Elab.async false
set_option autoImplicit false
set_option linter.unusedSimpArgs false
set_option linter.unusedVariables false
namespace Mi
open M
set_option maxRecDepth 100000
local macro_rules | `(tactic| simp! only [$xs,*] $[$l:location]?) => `(tactic| simp only [↓ev_fld_at, ↓ev_meth_at, ↓ev_new_at, ↓ex_asgFld_at, methK_at, methK2_at, methK3_at, newK_at, newM_at, isNonM_at, asgFldK_at, asgFldK2_at, fldM_at, fldF, setFldM_at, setFldC, clsM_at, clsF, lookN, putFd, flOk, ↓for_at, forS_at, lcS_at, ↓ev_non_at, ↓ev_bl_at, ↓ev_int_at, ↓ev_str_at, ↓ev_var_at, ↓ev_glob_at, ↓ev_op_at, ↓ev_neg_at, ↓ev_cmp_at, ↓ev_chain_at, ↓ev_not_at, ↓ev_and_at, ↓ev_or_at, ↓ev_ite_at, ↓ev_tup_at, ↓ev_lst_at, ↓ev_flst_at, ↓ev_dct_at, ↓ev_fslice_at, ↓ev_lenset_at, flstK_at, fslK_at, fslK2_at, lcR_t, lcR_f, lcR_ex, ↓ex_augFld_at, augFldK_at, augFldK2_at, augFldK3_at, augFldK4_at, ↓ex_try_at, tryR_nx, tryR_rt, viewK_at, view_loc, view_non, view_bl, view_int, view_str, view_tup, view_fzl, view_fzd, view_fzo, viewC, indexM_at, indexF_tup, indexF_fzl, indexF_str, indexF_fzd, sliceM_at, sliceF_tup, sliceF_fzl, sliceF_str, sliceP_at, slicePF, eqK_at, eqK2_at, eqM_at, inM_at, inF, nbnK_at, cmp_eq_at, cmp_ne_at, cmp_in_at, cmp_nin_at, cmp_lt_at, cmp_le_at, cmp_gt_at, cmp_ge_at, cmp_is_at, cmp_isnt_at, addL_at, addI_at, lenM_at, lenF_str, lenF_tup, lenF_fzl, listM_at, flistM_at, tupleM_at, itemsF_tup, itemsF_fzl, lstF_fzl, sumK_at, sumK2_at, sumM_at, intsO_map, setIxM_at, setIxL_at, setIxD_at, putIxK_at, append_at, appC, dctU, lstU, someC, extend_at, extC, extF, pop_at, popC, popAt_at, popAtC_at, popAtK2_at, popAtK3_at, retKM_at, sdf_at, sdfC_at, sdfO_some, sdfO_none, get1_at, getF, isDct_at, isLst_at, isD_at, isDF, dict_at, dictC, truthy_loc, intF, max2F, min2F, endC_nx, endC_rt, endC_rtP, endC_ex, gc_bl, gc_int, gc_str, gc_non, ↓ev_ix_at, ↓ev_slice_at, ↓ev_call_at, ↓ev_bi_at, ↓ev_mt_at, ↓ev_isi_at, ↓ev_lc_at, ↓evs_nil_at, ↓evs_cons_at, ↓evo_none_at, ↓evo_some_at, ↓evc_nil_at, ↓evc_cons_at, ↓ex_asg_at, ↓ex_asgIx_at, ↓ex_aug_at, ↓ex_expr_at, ↓ex_ite_at, ↓ex_ret_at, ↓ex_retN_at, ↓ex_raise_at, ↓ex_brk_at, ↓ex_cont_at, ↓ex_pass_at, ↓ex_while_at, ↓exs_nil_at, ↓exs_cons_at, asgK_at, asgR_ok, goOn_at, augK1_at, augK2_at, augK3_at, asgIxK_at, asgIxK2_at, asgIxK3_at, blK_at, nbK_at, opK_at, cmpK_at, cmpK2_at, chK_at, chK2_at, chK3_t, chK3_f, notK_at, andK_at, andK2_t, andK2_f, orK_at, orK2_t, orK2_f, ifK_at, ifK2_t, ifK2_f, tupK_at, lstK_at, ixK_at, slK_at, slK2_at, mtK_at, mtK2_at, isiK_at, consK_at, consK2_at, csK_at, csK2_t, csK2_f, someK_at, eltK_t, eltK_f, oneK_at, oneL_at, seqK_at, iteK_t, iteK_f, retS_at, noexR_ok, negM, intM, ↓msB_at, ↓msS_at, msB_ok, msB_ex, msS_msS, msS_nx, msS_rt, msS_ex, msS_bk, msS_ct, truthy_non, truthy_bl, truthy_int, truthy_str, truthy_tup, truthy_fzl, ↓bnd_at, bndR_ok, bndR_ex, of_some, ret_at, binop, iopM, ↓need_at, bindT, bindTs, biM, get_at, put_at, new_at, ↓isi_cons_at, isi_nil_at, isiR_t, isiR_f, isTy_non, isTy_bl, isTy_int, isTy_str, isTy_tup, isTy_fzl, mtM, mtPre, upperM, isStr, itM, seq1, seqM_tup, seqM_fzl, seqM_scr, seqM_str, seqM_loc, lstS, rng1, rng2, D.isNon, D.flat, D.flats, D.deep, D.deeps, D.eqv, D.eqvs, Nat.zero_le, Nat.max_self, and_self, lt0, lt1, lt2, lt3, atI0, atI1, atI2, atI3, ixN0, ixN1, ixN2, ixN3, getc0, getc1, getc2, getc3, getc4, getc5, getc6, getc7, getc8, setc0, setc1, setc2, setc3, setc4, setc5, setc6, setc7, setc8, id, Option.join_some, Option.join, Option.bind, Option.map, List.map_cons, List.map_nil, List.length_map, List.length_cons, List.length_nil, List.getElem?_cons_zero, List.getElem?_cons_succ, List.set_cons_zero, List.set_cons_succ, Nat.zero_add, List.append_nil, List.nil_append, List.cons_append, Int.reducePow, Int.reduceToNat, Int.zero_add, Int.cast_ofNat_Int, decide_true, decide_false, Bool.not_true, Bool.not_false, Bool.and_self, Bool.true_and, Bool.false_and, Bool.and_true, Nat.zero_max, Nat.max_zero, if_true, if_false, ite_true, ite_false, reduceIte, reduceCtorEq, Bool.false_eq_true, Bool.true_eq_false, or_true, true_or, and_true, true_and, or_false, false_or, Nat.reduceLT, Nat.reduceAdd, Nat.reduceLeDiff, Int.reduceLT, Int.reduceLE, Int.reduceAdd, Nat.zero_lt_succ, beq_self_eq_true, decide_eq_true_eq, gc_self, bel_non, bel_bl, bel_int, bel_str, bel_tup, bel_fzl, bels_nil, bels_cons, List.cons.injEq, Nat.reduceEqDiff, and_false, false_and, eq_self, List.any_cons, List.any_nil, Bool.or_false, Bool.false_or, Bool.true_or, Bool.or_true, atI4, Int.ofNat_zero, Int.natCast_zero, Int.natCast_one, Int.natCast_succ, decide_not, $xs,*] $[$l:location]?)
/-! a look that ends in an error: too many parts -/
theorem go_front (sig : Tx → Int) (S0 : Store) (f : Fm) (hw : Wf f) (L : Nat) (R : Store) (i : Nat) (bd : List (D × D)) (hb : R[i]? = some (.dct bd)) (hbl : bd.length + dep f ≤ 1000) (ha : AOk sig bd f) (deep : Int) (hdeep : deep ≤ 40) (c : Int) (fd : List (D × D)) (hf : FdOk sig fd) (hl : (fd.length : Int) ≤ c) (hN : c + 1 ≤ 2000) :
    ∃ fd1 G j own, FdOk sig fd1 ∧ (fd1.length : Int) ≤ c + 1 ∧ (R ++ G)[j]? = some (.dct (bdOf bd f)) ∧ (bdOf bd f).length ≤ bd.length + 1 ∧
      exSs (callK prog (L + 4)) m_Look_go.body [some (.loc S0.length), some (enc f), some (.loc (S0.length + 2 + i)), some (.int deep), none, none] (stL S0 c fd R) = exSs (callK prog (L + 4)) (m_Look_go.body.drop 6) [some (.loc S0.length), some (enc f), some (.loc (S0.length + 2 + j)), some (.int deep), some own, none] (stL S0 (c + 1) fd1 (R ++ G)) := by
  have hdp := dep_pos f
  have g := lg_mk (L + 4)
  have hrel : ∃ fd1, FdOk sig fd1 ∧ (fd1.length : Int) ≤ c + 1 ∧ (word f = wRel → ∃ x A m, (∀ S, indexF (enc f) (.int 1) S = some (.ok (.str x), S)) ∧ (∀ S, indexF (enc f) (.int 2) S = some (.ok A, S)) ∧ (∀ S, view A S = some (.ok A, S)) ∧ lenF A = ret (.int m) ∧ clsM (callK prog (L + 4)) "rel" (.loc S0.length) (stL S0 (c + 1) fd R) = some (.ok "Look", stL S0 (c + 1) fd R) ∧
      (callK prog (L + 4)).mt "Look" "rel" [.loc S0.length, .str x, .int m, .loc (S0.length + 2 + i)] (stL S0 (c + 1) fd R) = some (.ok .non, stL S0 (c + 1) fd1 R)) ∧ (word f ≠ wRel → stL S0 (c + 1) fd1 R = stL S0 (c + 1) fd R) := by
    by_cases q : word f = wRel
    · obtain ⟨x, as, rfl⟩ := word_rel f q
      rw [AOk] at ha
      obtain ⟨fd1, e, hf1, hl1⟩ := rel_core (callK prog (L + 3)) (lg_mk _) sig S0 (c + 1) as.length fd bd R i x hb hf (by omega) ha
      exact ⟨fd1, hf1, by omega, fun _ => ⟨x, tX as, _, ix1_rel x as, ix2_rel x as, fun _ => rfl, lenF_tX as, cls_rel _ g _ _ _ _ (stL_get0 _ _ _ _), by rw [M_Look_rel]; exact e⟩, fun z => absurd q z⟩
    · exact ⟨fd, hf, by omega, fun z => absurd z q, fun _ => rfl⟩
  obtain ⟨fd1, hf1, hl1, hr, hr2⟩ := hrel
  have pre := go_pre (callK prog (L + 4)) S0.length (S0.length + 2 + i) (enc f) (word f) c deep (stL S0 c fd R) (stL S0 (c + 1) fd R) (stL S0 (c + 1) fd1 R) (fld_count _ g _ _ _ _ (stL_get0 _ _ _ _))
    (by rw [setFld_count _ g _ _ c (c + 1) _ (stL_get0 S0 c fd R), stL_set0]) (fld_count _ g _ _ _ _ (stL_get0 _ _ _ _)) (G_MOST _) (G_DEEPEST _) (by omega) (by omega) (view_enc f) (ix0_enc f) (by rw [F_is_well_made]; exact well_made_run L f hw _) hr hr2
  have h3 : (callK prog (L + 4)).fn "own_name" [enc f] (stL S0 (c + 1) fd1 R) = some (.ok (ownD (ownN f)), stL S0 (c + 1) fd1 R) := by rw [F_own_name]; exact own_name_run _ f _
  cases e : ownN f with
  | none =>
    rw [e] at h3
    exact ⟨fd1, [], i, .non, hf1, hl1, by simpa [bdOf, e] using hb, by simp [bdOf, e], by rw [List.append_nil, pre]; exact go_none _ _ _ _ _ _ h3⟩
  | some rk =>
    obtain ⟨r, m⟩ := rk
    rw [e] at h3
    refine ⟨fd1, [.dct (putD (.str r) (.int m) bd)], R.length, .tup [.str r, .int m], hf1, hl1, by simp [bdOf, e], by simp only [bdOf, e]; exact putD_len _ _ _, ?_⟩
    rw [pre]
    refine go_some _ _ _ _ _ _ _ r bd _ (stL S0 (c + 1) fd1 (R ++ [.dct bd])) _ h3 ?_ ?_
    · rw [dict_at, stL_get2, hb, of_some, bndR_ok]
      show new (.dct bd) _ = _
      rw [new_at, stL_app, stL_len]
    · rw [setIxM_at, stL_get2]
      have : (R ++ [Cell.dct bd])[R.length]? = some (.dct bd) := by simp
      rw [this, of_some, bndR_ok, setIxD_at, if_pos ⟨rfl, by unfold szl; omega⟩, if_pos (by rw [stL_len]; simp), stL_set2]
      simp
theorem go_over (cl : Cl) (n b : Nat) (E : D) (c deep : Int) (S S1 : Store) (hf : fldM cl "count" (.loc n) S = some (.ok (.int c), S)) (hs : setFldM cl "count" (.int (c + 1)) (.loc n) S = some (.ok (), S1)) (hf1 : fldM cl "count" (.loc n) S1 = some (.ok (.int (c + 1)), S1))
    (gM : cl.gl "MOST" = some (.int 2000)) (hm : 2000 < c + 1) : ∃ ρ, exSs cl m_Look_go.body [some (.loc n), some E, some (.loc b), some (.int deep), none, none] S = some (.ex "BadFormula" ρ, S1) := by
  simp! only [m_Look_go, ↓hf, ↓hs, ↓hf1, gM, hm]
  exact ⟨_, rfl⟩
theorem go_tail_big (cl : Cl) (g : LG cl) (sig : Tx → Int) (S0 : Store) (E : D) (ps : List Fm) (b : Nat) (deep : Int) (own : D) (R : Store) (c : Int) (fd : List (D × D)) (hf : FdOk sig fd) (hl : (fd.length : Int) ≤ c) (hc : c ≤ 2000) (hN : 2000 < c + sizs ps)
    (h4 : ∀ S, cl.fn "inner" [E] S = some (.ok (.tup (ps.map enc)), S))
    (h5 : ∀ p ∈ ps, ∀ (c : Int) (fd : List (D × D)), FdOk sig fd → (fd.length : Int) ≤ c → c + siz p ≤ 2000 → ∃ fd', cl.mt "Look" "go" [.loc S0.length, enc p, .loc b, .int (deep + 1)] (stL S0 c fd R) = some (.ok .non, stL S0 (c + siz p) fd' R) ∧ FdOk sig fd' ∧ (fd'.length : Int) ≤ c + siz p)
    (h6 : ∀ p ∈ ps, ∀ (c : Int) (fd : List (D × D)), FdOk sig fd → (fd.length : Int) ≤ c → c ≤ 2000 → 2000 < c + siz p → ∃ S', cl.mt "Look" "go" [.loc S0.length, enc p, .loc b, .int (deep + 1)] (stL S0 c fd R) = some (.ex "BadFormula", S')) :
    Wp (exSs cl (m_Look_go.body.drop 6) [some (.loc S0.length), some E, some (.loc b), some (.int deep), some own, none] (stL S0 c fd R)) fun d T => ∃ ρ, d = .ex "BadFormula" ρ := by
  have hcls := fun c fd => cls_go cl g S0.length (S0.length + 1) c _ (stL_get0 S0 c fd R)
  simp! only [m_Look_go, List.drop, h4]
  refine wp_for (P := fun j ρ T => ∃ fd' q, T = stL S0 (c + sizs (ps.take j)) fd' R ∧ FdOk sig fd' ∧ (fd'.length : Int) ≤ c + sizs (ps.take j) ∧ c + sizs (ps.take j) ≤ 2000 ∧ ρ = [some (.loc S0.length), some E, some (.loc b), some (.int deep), some own, q]) (B := fun _ _ => False) ⟨fd, none, by simp [sizs], hf, by simp [sizs]; exact hl, by simp [sizs]; exact hc, rfl⟩ (by intros; rfl) ?_ ?_
  · rintro j d ρ T hx ⟨fd', q, rfl, hf', hl', hc', rfl⟩
    rw [List.getElem?_map] at hx
    obtain ⟨p, hp, rfl⟩ := Option.map_eq_some_iff.1 hx
    have ht := sizs_take ps j p hp
    refine ⟨[some (.loc S0.length), some E, some (.loc b), some (.int deep), some own, some (enc p)], rfl, ?_⟩
    have hcl := hcls (c + sizs (ps.take j)) fd'
    by_cases q : c + sizs (ps.take j) + siz p ≤ 2000
    · obtain ⟨fd2, e, hf2, hl2⟩ := h5 p (List.mem_of_getElem? hp) (c + sizs (ps.take j)) fd' hf' hl' q
      have hc2 : c + (sizs (ps.take (j + 1)) : Int) = c + sizs (ps.take j) + siz p := by rw [ht]; omega
      rw [hc2]
      generalize stL S0 (c + sizs (ps.take j)) fd' R = S1 at *
      generalize hS2 : stL S0 (c + sizs (ps.take j) + siz p) fd2 R = S2 at *
      simp! only [↓hcl, e, wp_some, turn_nx]
      exact ⟨fd2, _, hS2.symm, hf2, hl2, q, rfl⟩
    · obtain ⟨S', e⟩ := h6 p (List.mem_of_getElem? hp) (c + sizs (ps.take j)) fd' hf' hl' hc' (by omega)
      generalize stL S0 (c + sizs (ps.take j)) fd' R = S1 at *
      simp! only [↓hcl, e, wp_some, turn_ex]
      exact ⟨_, rfl⟩
  · rintro ρ T (⟨⟨⟩⟩ | ⟨fd', q, rfl, hf', hl', hc', rfl⟩)
    rw [List.length_map, List.take_length] at hc'
    omega
theorem go_big (sig : Tx → Int) (S0 : Store) : ∀ (k : Nat) (f : Fm), dep f ≤ k → Wf f → Pos f → ∀ (L : Nat), k + 4 ≤ L → ∀ (R : Store) (i : Nat) (bd : List (D × D)), R[i]? = some (.dct bd) → bd.length + dep f ≤ 1000 → AOk sig bd f →
    ∀ (deep : Int), deep + dep f ≤ 41 → ∀ (c : Int) (fd : List (D × D)), FdOk sig fd → (fd.length : Int) ≤ c → c ≤ 2000 → 2000 < c + siz f →
    ∃ S', callB (callK prog L) m_Look_go [.loc S0.length, enc f, .loc (S0.length + 2 + i), .int deep] (stL S0 c fd R) = some (.ex "BadFormula", S') := by
  intro k
  induction k with
  | zero => intro f hd; have := dep_pos f; omega
  | succ k ih =>
    intro f hd hw hp L hL R i bd hb hbl ha deep hdeep c fd hf hl hc hN
    obtain ⟨L, rfl⟩ : ∃ L', L = L' + 4 := ⟨L - 4, by omega⟩
    have hdp := dep_pos f
    have hsz := siz_parts f
    have g := lg_mk (L + 4)
    have fin : (∃ ρ T, exSs (callK prog (L + 4)) m_Look_go.body [some (.loc S0.length), some (enc f), some (.loc (S0.length + 2 + i)), some (.int deep), none, none] (stL S0 c fd R) = some (.ex "BadFormula" ρ, T)) → ∃ S', callB (callK prog (L + 4)) m_Look_go [.loc S0.length, enc f, .loc (S0.length + 2 + i), .int deep] (stL S0 c fd R) = some (.ex "BadFormula", S') := by
      rintro ⟨ρ, T, e⟩
      have h := callB_of (callK prog (L + 4)) m_Look_go [.loc S0.length, enc f, .loc (S0.length + 2 + i), .int deep] (stL S0 c fd R) rfl (by decide)
      have h2 : callB (callK prog (L + 4)) m_Look_go [.loc S0.length, enc f, .loc (S0.length + 2 + i), .int deep] (stL S0 c fd R) = endC false (stL S0 c fd R) (exSs (callK prog (L + 4)) m_Look_go.body [some (.loc S0.length), some (enc f), some (.loc (S0.length + 2 + i)), some (.int deep), none, none] (stL S0 c fd R)) := h
      rw [e, endC_ex] at h2
      exact ⟨_, h2⟩
    apply fin
    by_cases q : 2000 < c + 1
    · obtain ⟨ρ, e⟩ := go_over (callK prog (L + 4)) S0.length (S0.length + 2 + i) (enc f) c deep (stL S0 c fd R) (stL S0 (c + 1) fd R) (fld_count _ g _ _ _ _ (stL_get0 _ _ _ _)) (by rw [setFld_count _ g _ _ c (c + 1) _ (stL_get0 S0 c fd R), stL_set0]) (fld_count _ g _ _ _ _ (stL_get0 _ _ _ _)) (G_MOST _) q
      exact ⟨ρ, _, e⟩
    · obtain ⟨fd1, G, j, own, hf1, hl1, hb2, hbl2, e⟩ := go_front sig S0 f hw L R i bd hb hbl ha deep (by omega) c fd hf hl (by omega)
      obtain ⟨d, T, e3, ρ, rfl⟩ := go_tail_big (callK prog (L + 4)) g sig S0 (enc f) (parts f) (S0.length + 2 + j) deep own (R ++ G) (c + 1) fd1 hf1 (by omega) (by omega) (by omega) (fun S => by rw [F_inner]; exact inner_run _ f S)
        (fun p hpp c fd h1 h2 h3 => by
          rw [M_Look_go]
          have hdd := dep_part hpp
          exact go_run sig S0 k p (by omega) (wf_part hw hpp) (pos_part hp hpp) (L + 3) (by omega) (R ++ G) j _ hb2 (by omega) (aok_part ha hpp) (deep + 1) (by omega) c fd h1 h2 h3)
        (fun p hpp c fd h1 h2 h3 h4 => by
          rw [M_Look_go]
          have hdd := dep_part hpp
          exact ih p (by omega) (wf_part hw hpp) (pos_part hp hpp) (L + 3) (by omega) (R ++ G) j _ hb2 (by omega) (aok_part ha hpp) (deep + 1) (by omega) c fd h1 h2 h3 h4)
      exact ⟨ρ, T, e.trans e3⟩
theorem looked_ex (cl : Cl) (n : Nat) (E : D) (S S1 S2 S3 : Store) (h1 : newM cl "Look" [] S = some (.ok (.loc n), S1)) (hc : clsM cl "go" (.loc n) S1 = some (.ok "Look", S1)) (h2 : S1 ++ [.dct []] = S2) (h3 : cl.mt "Look" "go" [.loc n, E, .loc S1.length, .int 1] S2 = some (.ex "BadFormula", S3)) :
    ∃ S', callB cl f_looked [E] S = some (.ex "BadFormula", S') := by
  have h : callB cl f_looked [E] S = endC false S (exSs cl f_looked.body [some E, none] S) := callB_of cl f_looked [E] S rfl (by decide)
  simp! only [f_looked, ↓h1, ↓hc, h2, h3] at h
  exact ⟨_, h⟩
theorem looked_big (sig : Tx → Int) (f : Fm) (k : Nat) (hk : dep f ≤ k) (hd : dep f ≤ 40) (hz : 2000 < siz f) (hw : Wf f) (hp : Pos f) (ha : AOk sig [] f) (L : Nat) (hL : k + 5 ≤ L) (S : Store) : ∃ S', callB (callK prog L) f_looked [enc f] S = some (.ex "BadFormula", S') := by
  obtain ⟨L, rfl⟩ : ∃ L', L = L' + 2 := ⟨L - 2, by omega⟩
  have g := lg_mk (L + 2)
  obtain ⟨S3, e⟩ := go_big sig S k f hk hw hp (L + 1) (by omega) [.dct []] 0 [] rfl (by simp; omega) ha 1 (by omega) 0 [] (by intro p hp; cases hp) (by simp) (by omega) (by omega)
  refine looked_ex _ S.length (enc f) S (stL S 0 [] []) _ S3 ?_ (cls_go _ g _ _ _ _ (stL_get0 _ _ _ _)) (stL_app _ _ _ _ _) (by rw [M_Look_go, stL_len]; exact e)
  rw [newM_at, new_at, bndR_ok, newK_at, N_Look, init_run _ (lg_mk _), bndR_ok, isNonM_at]
end Mi

set_option autoImplicit true
set_option maxRecDepth 512
set_option maxHeartbeats 200000
set_option Elab.async false
set_option autoImplicit false
set_option linter.unusedSimpArgs false
set_option linter.unusedVariables false
namespace Mi
open M
set_option maxRecDepth 100000
local macro_rules | `(tactic| simp! only [$xs,*] $[$l:location]?) => `(tactic| simp only [↓ev_fld_at, ↓ev_meth_at, ↓ev_new_at, ↓ex_asgFld_at, methK_at, methK2_at, methK3_at, newK_at, newM_at, isNonM_at, asgFldK_at, asgFldK2_at, fldM_at, fldF, setFldM_at, setFldC, clsM_at, clsF, lookN, putFd, flOk, ↓for_at, forS_at, lcS_at, ↓ev_non_at, ↓ev_bl_at, ↓ev_int_at, ↓ev_str_at, ↓ev_var_at, ↓ev_glob_at, ↓ev_op_at, ↓ev_neg_at, ↓ev_cmp_at, ↓ev_chain_at, ↓ev_not_at, ↓ev_and_at, ↓ev_or_at, ↓ev_ite_at, ↓ev_tup_at, ↓ev_lst_at, ↓ev_flst_at, ↓ev_dct_at, ↓ev_fslice_at, ↓ev_lenset_at, flstK_at, fslK_at, fslK2_at, lcR_t, lcR_f, lcR_ex, ↓ex_augFld_at, augFldK_at, augFldK2_at, augFldK3_at, augFldK4_at, ↓ex_try_at, tryR_nx, tryR_rt, viewK_at, view_loc, view_non, view_bl, view_int, view_str, view_tup, view_fzl, view_fzd, view_fzo, viewC, indexM_at, indexF_tup, indexF_fzl, indexF_str, indexF_fzd, sliceM_at, sliceF_tup, sliceF_fzl, sliceF_str, sliceP_at, slicePF, eqK_at, eqK2_at, eqM_at, inM_at, inF, nbnK_at, cmp_eq_at, cmp_ne_at, cmp_in_at, cmp_nin_at, cmp_lt_at, cmp_le_at, cmp_gt_at, cmp_ge_at, cmp_is_at, cmp_isnt_at, addL_at, addI_at, lenM_at, lenF_str, lenF_tup, lenF_fzl, listM_at, flistM_at, tupleM_at, itemsF_tup, itemsF_fzl, lstF_fzl, sumK_at, sumK2_at, sumM_at, intsO_map, setIxM_at, setIxL_at, setIxD_at, putIxK_at, append_at, appC, dctU, lstU, someC, extend_at, extC, extF, pop_at, popC, popAt_at, popAtC_at, popAtK2_at, popAtK3_at, retKM_at, sdf_at, sdfC_at, sdfO_some, sdfO_none, get1_at, getF, isDct_at, isLst_at, isD_at, isDF, dict_at, dictC, truthy_loc, intF, max2F, min2F, endC_nx, endC_rt, endC_rtP, endC_ex, gc_bl, gc_int, gc_str, gc_non, ↓ev_ix_at, ↓ev_slice_at, ↓ev_call_at, ↓ev_bi_at, ↓ev_mt_at, ↓ev_isi_at, ↓ev_lc_at, ↓evs_nil_at, ↓evs_cons_at, ↓evo_none_at, ↓evo_some_at, ↓evc_nil_at, ↓evc_cons_at, ↓ex_asg_at, ↓ex_asgIx_at, ↓ex_aug_at, ↓ex_expr_at, ↓ex_ite_at, ↓ex_ret_at, ↓ex_retN_at, ↓ex_raise_at, ↓ex_brk_at, ↓ex_cont_at, ↓ex_pass_at, ↓ex_while_at, ↓exs_nil_at, ↓exs_cons_at, asgK_at, asgR_ok, goOn_at, augK1_at, augK2_at, augK3_at, asgIxK_at, asgIxK2_at, asgIxK3_at, blK_at, nbK_at, opK_at, cmpK_at, cmpK2_at, chK_at, chK2_at, chK3_t, chK3_f, notK_at, andK_at, andK2_t, andK2_f, orK_at, orK2_t, orK2_f, ifK_at, ifK2_t, ifK2_f, tupK_at, lstK_at, ixK_at, slK_at, slK2_at, mtK_at, mtK2_at, isiK_at, consK_at, consK2_at, csK_at, csK2_t, csK2_f, someK_at, eltK_t, eltK_f, oneK_at, oneL_at, seqK_at, iteK_t, iteK_f, retS_at, noexR_ok, negM, intM, ↓msB_at, ↓msS_at, msB_ok, msB_ex, msS_msS, msS_nx, msS_rt, msS_ex, msS_bk, msS_ct, truthy_non, truthy_bl, truthy_int, truthy_str, truthy_tup, truthy_fzl, ↓bnd_at, bndR_ok, bndR_ex, of_some, ret_at, binop, iopM, ↓need_at, bindT, bindTs, biM, get_at, put_at, new_at, ↓isi_cons_at, isi_nil_at, isiR_t, isiR_f, isTy_non, isTy_bl, isTy_int, isTy_str, isTy_tup, isTy_fzl, mtM, mtPre, upperM, isStr, itM, seq1, seqM_tup, seqM_fzl, seqM_scr, seqM_str, seqM_loc, lstS, rng1, rng2, D.isNon, D.flat, D.flats, D.deep, D.deeps, D.eqv, D.eqvs, Nat.zero_le, Nat.max_self, and_self, lt0, lt1, lt2, lt3, atI0, atI1, atI2, atI3, ixN0, ixN1, ixN2, ixN3, getc0, getc1, getc2, getc3, getc4, getc5, getc6, getc7, getc8, setc0, setc1, setc2, setc3, setc4, setc5, setc6, setc7, setc8, id, Option.join_some, Option.join, Option.bind, Option.map, List.map_cons, List.map_nil, List.length_map, List.length_cons, List.length_nil, List.getElem?_cons_zero, List.getElem?_cons_succ, List.set_cons_zero, List.set_cons_succ, Nat.zero_add, List.append_nil, List.nil_append, List.cons_append, Int.reducePow, Int.reduceToNat, Int.zero_add, Int.cast_ofNat_Int, decide_true, decide_false, Bool.not_true, Bool.not_false, Bool.and_self, Bool.true_and, Bool.false_and, Bool.and_true, Nat.zero_max, Nat.max_zero, if_true, if_false, ite_true, ite_false, reduceIte, reduceCtorEq, Bool.false_eq_true, Bool.true_eq_false, or_true, true_or, and_true, true_and, or_false, false_or, Nat.reduceLT, Nat.reduceAdd, Nat.reduceLeDiff, Int.reduceLT, Int.reduceLE, Int.reduceAdd, Nat.zero_lt_succ, beq_self_eq_true, decide_eq_true_eq, gc_self, bel_non, bel_bl, bel_int, bel_str, bel_tup, bel_fzl, bels_nil, bels_cons, List.cons.injEq, Nat.reduceEqDiff, and_false, false_and, eq_self, List.any_cons, List.any_nil, Bool.or_false, Bool.false_or, Bool.true_or, Bool.or_true, atI4, Int.ofNat_zero, Int.natCast_zero, Int.natCast_one, Int.natCast_succ, decide_not, $xs,*] $[$l:location]?)
/-! what is equal to itself, by the law -/
theorem flats_mem {ds : List D} (h : D.flats ds = true) : ∀ d ∈ ds, D.flat d = true := by
  induction ds with
  | nil => intro d hd; cases hd
  | cons x xs ih =>
    intro d hd
    simp only [D.flats, Bool.and_eq_true] at h
    rcases List.mem_cons.1 hd with rfl | hd
    · exact h.1
    · exact ih h.2 d hd
theorem deeps_mem {ds : List D} {k : Nat} (h : D.deeps ds ≤ k) : ∀ d ∈ ds, D.deep d ≤ k := by
  induction ds with
  | nil => intro d hd; cases hd
  | cons x xs ih =>
    intro d hd
    simp only [D.deeps] at h
    rcases List.mem_cons.1 hd with rfl | hd
    · omega
    · exact ih (by omega) d hd
theorem eq_seq (cl : Cl) (z : Bool) (ds : List D) (n : Int) (S : Store) (hn : (ds.length : Int) = n) (ha : cl.fn "_law_all_equal" [if z then .fzl ds else .tup ds, if z then .fzl ds else .tup ds] S = some (.ok (.bl true), S)) :
    callB cl f__law_equal [if z then .fzl ds else .tup ds, if z then .fzl ds else .tup ds] S = some (.ok (.bl true), S) := by
  rw [callB_of _ _ _ _ rfl (by decide)]
  show endC false _ (exSs cl f__law_equal.body [some (if z then .fzl ds else .tup ds), some (if z then .fzl ds else .tup ds)] _) = _
  cases z
  · simp only [Bool.false_eq_true, if_false] at ha
    simp! only [f__law_equal, hn, ha]
  · simp only [if_true] at ha
    simp! only [f__law_equal, hn, ha]
theorem all_eq (cl : Cl) (z : Bool) (ds : List D) (n : Int) (S : Store) (hn : (ds.length : Int) = n) (hz : r62 n = true) (he : ∀ d ∈ ds, cl.fn "_law_equal" [d, d] S = some (.ok (.bl true), S)) :
    callB cl f__law_all_equal [if z then .fzl ds else .tup ds, if z then .fzl ds else .tup ds] S = some (.ok (.bl true), S) := by
  suffices h : ∃ o S', callB cl f__law_all_equal [if z then .fzl ds else .tup ds, if z then .fzl ds else .tup ds] S = some (o, S') ∧ (o = .ok (.bl true) ∧ S' = S) by
    obtain ⟨o, S', e, rfl, rfl⟩ := h
    exact e
  have hnn : n.toNat = ds.length := by omega
  obtain ⟨X, hX, hv, hl, hi⟩ : ∃ X, (if z then D.fzl ds else .tup ds) = X ∧ (∀ S, view X S = some (.ok X, S)) ∧ lenF X = ret (.int n) ∧ ∀ (j : Nat) S d, ds[j]? = some d → indexF X (.int (j : Int)) S = some (.ok d, S) := by
    cases z
    · exact ⟨.tup ds, rfl, fun _ => rfl, by rw [lenF_tup, hn], fun j S d hd => by rw [indexF_tup, atI_nat, hd, of_some]⟩
    · exact ⟨.fzl ds, rfl, fun _ => rfl, by rw [lenF_fzl, hn], fun j S d hd => by rw [indexF_fzl, atI_nat, hd, of_some]⟩
  rw [hX]
  apply call_wp rfl (by decide) rfl
  show Wp (exSs _ f__law_all_equal.body [some X, some X, none] S) _
  simp! only [f__law_all_equal, hv, hl, hz]
  refine wp_for (P := fun j ρ T => T = S ∧ ∃ q, ρ = [some X, some X, q]) (B := fun _ _ => False) ⟨rfl, none, rfl⟩ (by intros; rfl) ?_ ?_
  · rintro j x ρ T hx ⟨rfl, q, rfl⟩
    obtain ⟨hj, rfl⟩ := rangeD_at hx
    have hj' : j < ds.length := by omega
    have hd : ds[j]? = some ds[j] := List.getElem?_eq_getElem hj'
    have h1 := hi j T _ hd
    have h2 := he _ (List.getElem_mem hj')
    refine ⟨[some X, some X, some (.int (0 + (j : Int)))], rfl, ?_⟩
    simp! only [hv, h1, h2, wp_some, turn_nx]
    exact ⟨_, rfl⟩
  · rintro ρ T (⟨⟨⟩⟩ | ⟨rfl, q, rfl⟩)
    simp! only [wp_some]
mutual
/-- no tuple or list within is longer -/
def short : D → Bool
  | .tup xs => decide (xs.length ≤ 100000) && shorts xs
  | .fzl xs => decide (xs.length ≤ 100000) && shorts xs
  | _ => true
def shorts : List D → Bool
  | [] => true
  | d :: ds => short d && shorts ds
end
theorem shorts_mem {ds : List D} (h : shorts ds = true) : ∀ d ∈ ds, short d = true := by
  induction ds with
  | nil => intro d hd; cases hd
  | cons x xs ih =>
    intro d hd
    simp only [shorts, Bool.and_eq_true] at h
    rcases List.mem_cons.1 hd with rfl | hd
    · exact h.1
    · exact ih h.2 d hd
theorem equal_self : ∀ (k : Nat) (d : D), D.deep d ≤ k → D.flat d = true → short d = true → ∀ (L : Nat), 2 * k ≤ L → ∀ S, callB (callK prog L) f__law_equal [d, d] S = some (.ok (.bl true), S) := by
  have leaf : ∀ (cl : Cl) (d : D) S, D.flat d = true → D.deep d = 0 → callB cl f__law_equal [d, d] S = some (.ok (.bl true), S) := by
    intro cl d S hf hd
    cases d with
    | non =>
      rw [callB_of _ _ _ _ rfl (by decide)]
      show endC false _ (exSs cl f__law_equal.body [some .non, some .non] _) = _
      simp! only [f__law_equal]
    | bl b => rw [equal_bl]; simp
    | int i => rw [equal_int]; simp
    | str s => rw [equal_str]; simp
    | tup xs => simp [D.deep] at hd
    | fzl xs => simp [D.deep] at hd
    | scr xs => simp [D.flat] at hf
    | fzd a b => simp [D.flat] at hf
    | fzo a b c => simp [D.flat] at hf
    | loc n => simp [D.flat] at hf
    | xc c => simp [D.flat] at hf
  intro k
  induction k with
  | zero =>
    intro d hd hf hs L hL S
    exact leaf _ d S hf (by omega)
  | succ k ih =>
    intro d hd hf hs L hL S
    obtain ⟨L, rfl⟩ : ∃ L', L = L' + 2 := ⟨L - 2, by omega⟩
    have seq : ∀ (z : Bool) (ds : List D), D.deeps ds ≤ k → D.flats ds = true → ds.length ≤ 100000 → shorts ds = true → callB (callK prog (L + 2)) f__law_equal [if z then .fzl ds else .tup ds, if z then .fzl ds else .tup ds] S = some (.ok (.bl true), S) := by
      intro z ds h1 h2 h3 h4
      refine eq_seq _ z ds _ S rfl ?_
      rw [F__law_all_equal]
      refine all_eq _ z ds _ S rfl (r62_of (by omega) (by omega)) fun d hd => ?_
      rw [F__law_equal]
      exact ih d (deeps_mem h1 d hd) (flats_mem h2 d hd) (shorts_mem h4 d hd) L (by omega) S
    cases d with
    | tup ds =>
      simp only [D.deep, D.flat, short, Bool.and_eq_true, decide_eq_true_eq] at hd hf hs
      exact seq false ds (by omega) hf hs.1 hs.2
    | fzl ds =>
      simp only [D.deep, D.flat, short, Bool.and_eq_true, decide_eq_true_eq] at hd hf hs
      exact seq true ds (by omega) hf hs.1 hs.2
    | non => exact leaf _ _ S hf rfl
    | bl b => exact leaf _ _ S hf rfl
    | int i => exact leaf _ _ S hf rfl
    | str s => exact leaf _ _ S hf rfl
    | scr xs => simp [D.flat] at hf
    | fzd a b => simp [D.flat] at hf
    | fzo a b c => simp [D.flat] at hf
    | loc n => simp [D.flat] at hf
    | xc c => simp [D.flat] at hf
/-- formulas are such data -/
theorem flats_tx : ∀ xs : List Tx, D.flats (xs.map .str) = true
  | [] => rfl
  | x :: xs => by rw [List.map_cons, D.flats, flats_tx xs]; rfl
theorem deeps_tx : ∀ xs : List Tx, D.deeps (xs.map .str) = 0
  | [] => rfl
  | x :: xs => by rw [List.map_cons, D.deeps, deeps_tx xs]; rfl
theorem shorts_tx : ∀ xs : List Tx, shorts (xs.map .str) = true
  | [] => rfl
  | x :: xs => by rw [List.map_cons, shorts, shorts_tx xs]; rfl
theorem flat_tX (xs : List Tx) : D.flat (tX xs) = true := by rw [tX, D.flat, flats_tx]
theorem deep_tX (xs : List Tx) : D.deep (tX xs) = 1 := by rw [tX, D.deep, deeps_tx]
theorem short_tX {xs : List Tx} (h : xs.length ≤ 100000) : short (tX xs) = true := by rw [tX, short, shorts_tx]; simp [h]
mutual
theorem flat_enc : ∀ f : Fm, D.flat (enc f) = true
  | .rel _ _ => by simp [enc, D.flat, D.flats, flat_tX]
  | .cmp _ _ _ => by simp [enc, D.flat, D.flats]
  | .not f => by simp [enc, D.flat, D.flats, flat_enc f]
  | .con _ fs => by simp [enc, D.flat, D.flats, flats_enc fs]
  | .qu _ _ f => by simp [enc, D.flat, D.flats, flat_tX, flat_enc f]
  | .fix _ _ _ f _ => by simp [enc, D.flat, D.flats, flat_tX, flat_enc f]
  | .tc _ f _ => by simp [enc, D.flat, D.flats, flat_tX, flat_enc f]
  | .gue _ _ f => by simp [enc, D.flat, D.flats, flat_enc f]
theorem flats_enc : ∀ fs : List Fm, D.flats (encs fs) = true
  | [] => rfl
  | f :: fs => by rw [encs, D.flats, flat_enc f, flats_enc fs]; rfl
end
mutual
theorem deep_enc : ∀ f : Fm, D.deep (enc f) ≤ 2 * dep f
  | .rel _ _ => by simp [enc, D.deep, D.deeps, deep_tX, dep]
  | .cmp _ _ _ => by simp [enc, D.deep, D.deeps, dep]
  | .not f => by have := deep_enc f; simp [enc, D.deep, D.deeps, dep]; omega
  | .con _ fs => by have := deeps_enc fs; simp [enc, D.deep, D.deeps, dep]; omega
  | .qu _ _ f => by have := deep_enc f; have := dep_pos f; simp [enc, D.deep, D.deeps, deep_tX, dep]; omega
  | .fix _ _ _ f _ => by have := deep_enc f; have := dep_pos f; simp [enc, D.deep, D.deeps, deep_tX, dep]; omega
  | .tc _ f _ => by have := deep_enc f; have := dep_pos f; simp [enc, D.deep, D.deeps, deep_tX, dep]; omega
  | .gue _ _ f => by have := deep_enc f; simp [enc, D.deep, D.deeps, dep]; omega
theorem deeps_enc : ∀ fs : List Fm, D.deeps (encs fs) ≤ 2 * deps fs
  | [] => by simp [encs, D.deeps]
  | f :: fs => by have := deep_enc f; have := deeps_enc fs; simp only [encs, D.deeps, deps]; omega
end
mutual
theorem short_enc : ∀ f : Fm, Wf f → short (enc f) = true
  | .rel _ as, h => by
    have := h.2.2
    simp [enc, short, shorts]
    exact short_tX (by omega)
  | .cmp _ _ _, h => by simp [enc, short, shorts]
  | .not f, h => by simp [enc, short, shorts, short_enc f h]
  | .con _ fs, h => by
    have h1 := h.1
    have h2 : (encs fs).length = fs.length := by rw [encs_map, List.length_map]
    simp [enc, short, shorts, shorts_enc fs h.2, h2]
    omega
  | .qu _ vs f, h => by
    have := h.1.2.2.2
    simp [enc, short, shorts, short_enc f h.2]
    exact short_tX (by omega)
  | .fix _ _ vs f gs, h => by
    have h1 := h.2.1.2.2.2
    have h2 := h.2.2.2.1
    simp [enc, short, shorts, short_enc f h.2.2.2.2]
    exact ⟨short_tX (by omega), short_tX (by omega)⟩
  | .tc vs f gs, h => by
    have h1 := h.1.2.2.2
    have h2 := h.2.2.2.1
    simp [enc, short, shorts, short_enc f h.2.2.2.2]
    exact ⟨short_tX (by omega), short_tX (by omega)⟩
  | .gue _ _ f, h => by simp [enc, short, shorts, short_enc f h.2.2]
theorem shorts_enc : ∀ fs : List Fm, Wfs fs → shorts (encs fs) = true
  | [], _ => rfl
  | f :: fs, h => by rw [encs, shorts, short_enc f h.1, shorts_enc fs h.2]; rfl
end
theorem equal_fm (f : Fm) (hd : dep f ≤ 40) (hw : Wf f) (L : Nat) (hL : 160 ≤ L) (S : Store) : callB (callK prog L) f__law_equal [enc f, enc f] S = some (.ok (.bl true), S) :=
  equal_self (2 * dep f) (enc f) (deep_enc f) (flat_enc f) (short_enc f hw) L (by omega) S
end Mi

set_option autoImplicit true
set_option maxRecDepth 512
set_option maxHeartbeats 200000
set_option Elab.async false
set_option autoImplicit false
set_option linter.unusedSimpArgs false
set_option linter.unusedVariables false
namespace Mi
open M
set_option maxRecDepth 100000
local macro_rules | `(tactic| simp! only [$xs,*] $[$l:location]?) => `(tactic| simp only [↓ev_fld_at, ↓ev_meth_at, ↓ev_new_at, ↓ex_asgFld_at, methK_at, methK2_at, methK3_at, newK_at, newM_at, isNonM_at, asgFldK_at, asgFldK2_at, fldM_at, fldF, setFldM_at, setFldC, clsM_at, clsF, lookN, putFd, flOk, ↓for_at, forS_at, lcS_at, ↓ev_non_at, ↓ev_bl_at, ↓ev_int_at, ↓ev_str_at, ↓ev_var_at, ↓ev_glob_at, ↓ev_op_at, ↓ev_neg_at, ↓ev_cmp_at, ↓ev_chain_at, ↓ev_not_at, ↓ev_and_at, ↓ev_or_at, ↓ev_ite_at, ↓ev_tup_at, ↓ev_lst_at, ↓ev_flst_at, ↓ev_dct_at, ↓ev_fslice_at, ↓ev_lenset_at, flstK_at, fslK_at, fslK2_at, lcR_t, lcR_f, lcR_ex, ↓ex_augFld_at, augFldK_at, augFldK2_at, augFldK3_at, augFldK4_at, ↓ex_try_at, tryR_nx, tryR_rt, viewK_at, view_loc, view_non, view_bl, view_int, view_str, view_tup, view_fzl, view_fzd, view_fzo, viewC, indexM_at, indexF_tup, indexF_fzl, indexF_str, indexF_fzd, sliceM_at, sliceF_tup, sliceF_fzl, sliceF_str, sliceP_at, slicePF, eqK_at, eqK2_at, eqM_at, inM_at, inF, nbnK_at, cmp_eq_at, cmp_ne_at, cmp_in_at, cmp_nin_at, cmp_lt_at, cmp_le_at, cmp_gt_at, cmp_ge_at, cmp_is_at, cmp_isnt_at, addL_at, addI_at, lenM_at, lenF_str, lenF_tup, lenF_fzl, listM_at, flistM_at, tupleM_at, itemsF_tup, itemsF_fzl, lstF_fzl, sumK_at, sumK2_at, sumM_at, intsO_map, setIxM_at, setIxL_at, setIxD_at, putIxK_at, append_at, appC, dctU, lstU, someC, extend_at, extC, extF, pop_at, popC, popAt_at, popAtC_at, popAtK2_at, popAtK3_at, retKM_at, sdf_at, sdfC_at, sdfO_some, sdfO_none, get1_at, getF, isDct_at, isLst_at, isD_at, isDF, dict_at, dictC, truthy_loc, intF, max2F, min2F, endC_nx, endC_rt, endC_rtP, endC_ex, gc_bl, gc_int, gc_str, gc_non, ↓ev_ix_at, ↓ev_slice_at, ↓ev_call_at, ↓ev_bi_at, ↓ev_mt_at, ↓ev_isi_at, ↓ev_lc_at, ↓evs_nil_at, ↓evs_cons_at, ↓evo_none_at, ↓evo_some_at, ↓evc_nil_at, ↓evc_cons_at, ↓ex_asg_at, ↓ex_asgIx_at, ↓ex_aug_at, ↓ex_expr_at, ↓ex_ite_at, ↓ex_ret_at, ↓ex_retN_at, ↓ex_raise_at, ↓ex_brk_at, ↓ex_cont_at, ↓ex_pass_at, ↓ex_while_at, ↓exs_nil_at, ↓exs_cons_at, asgK_at, asgR_ok, goOn_at, augK1_at, augK2_at, augK3_at, asgIxK_at, asgIxK2_at, asgIxK3_at, blK_at, nbK_at, opK_at, cmpK_at, cmpK2_at, chK_at, chK2_at, chK3_t, chK3_f, notK_at, andK_at, andK2_t, andK2_f, orK_at, orK2_t, orK2_f, ifK_at, ifK2_t, ifK2_f, tupK_at, lstK_at, ixK_at, slK_at, slK2_at, mtK_at, mtK2_at, isiK_at, consK_at, consK2_at, csK_at, csK2_t, csK2_f, someK_at, eltK_t, eltK_f, oneK_at, oneL_at, seqK_at, iteK_t, iteK_f, retS_at, noexR_ok, negM, intM, ↓msB_at, ↓msS_at, msB_ok, msB_ex, msS_msS, msS_nx, msS_rt, msS_ex, msS_bk, msS_ct, truthy_non, truthy_bl, truthy_int, truthy_str, truthy_tup, truthy_fzl, ↓bnd_at, bndR_ok, bndR_ex, of_some, ret_at, binop, iopM, ↓need_at, bindT, bindTs, biM, get_at, put_at, new_at, ↓isi_cons_at, isi_nil_at, isiR_t, isiR_f, isTy_non, isTy_bl, isTy_int, isTy_str, isTy_tup, isTy_fzl, mtM, mtPre, upperM, isStr, itM, seq1, seqM_tup, seqM_fzl, seqM_scr, seqM_str, seqM_loc, lstS, rng1, rng2, D.isNon, D.flat, D.flats, D.deep, D.deeps, D.eqv, D.eqvs, Nat.zero_le, Nat.max_self, and_self, lt0, lt1, lt2, lt3, atI0, atI1, atI2, atI3, ixN0, ixN1, ixN2, ixN3, getc0, getc1, getc2, getc3, getc4, getc5, getc6, getc7, getc8, setc0, setc1, setc2, setc3, setc4, setc5, setc6, setc7, setc8, id, Option.join_some, Option.join, Option.bind, Option.map, List.map_cons, List.map_nil, List.length_map, List.length_cons, List.length_nil, List.getElem?_cons_zero, List.getElem?_cons_succ, List.set_cons_zero, List.set_cons_succ, Nat.zero_add, List.append_nil, List.nil_append, List.cons_append, Int.reducePow, Int.reduceToNat, Int.zero_add, Int.cast_ofNat_Int, decide_true, decide_false, Bool.not_true, Bool.not_false, Bool.and_self, Bool.true_and, Bool.false_and, Bool.and_true, Nat.zero_max, Nat.max_zero, if_true, if_false, ite_true, ite_false, reduceIte, reduceCtorEq, Bool.false_eq_true, Bool.true_eq_false, or_true, true_or, and_true, true_and, or_false, false_or, Nat.reduceLT, Nat.reduceAdd, Nat.reduceLeDiff, Int.reduceLT, Int.reduceLE, Int.reduceAdd, Nat.zero_lt_succ, beq_self_eq_true, decide_eq_true_eq, gc_self, bel_non, bel_bl, bel_int, bel_str, bel_tup, bel_fzl, bels_nil, bels_cons, List.cons.injEq, Nat.reduceEqDiff, and_false, false_and, eq_self, List.any_cons, List.any_nil, Bool.or_false, Bool.false_or, Bool.true_or, Bool.or_true, atI4, Int.ofNat_zero, Int.natCast_zero, Int.natCast_one, Int.natCast_succ, decide_not, $xs,*] $[$l:location]?)
/-! negations moved inward -/
def neg (e : Bool) (f : Fm) : Fm := if e then f else .not f
mutual
def mv : Bool → Fm → Fm
  | e, .rel x as => neg e (.rel x as)
  | e, .cmp w a b => neg e (.cmp w a b)
  | e, .not f => mv (!e) f
  | e, .con w fs => .con (if e then w else !w) (mvs e fs)
  | e, .qu w vs f => .qu (if e then w else !w) vs (mv e f)
  | e, .fix w r vs f gs => neg e (.fix w r vs (mv true f) gs)
  | e, .tc vs f gs => neg e (.tc vs (mv true f) gs)
  | e, .gue r k f => neg e (.gue r k (mv true f))
def mvs : Bool → List Fm → List Fm
  | _, [] => []
  | e, f :: r => mv e f :: mvs e r
end
theorem mvs_map (e : Bool) : ∀ fs : List Fm, mvs e fs = fs.map (mv e)
  | [] => by rw [mvs]; rfl
  | f :: r => by rw [mvs, mvs_map e r]; rfl
theorem mvs_len (e : Bool) (fs : List Fm) : (mvs e fs).length = fs.length := by rw [mvs_map, List.length_map]
mutual
theorem mv_idem : ∀ (f : Fm) (e : Bool), mv true (mv e f) = mv e f
  | .rel _ _, e => by cases e <;> simp [mv, neg]
  | .cmp _ _ _, e => by cases e <;> simp [mv, neg]
  | .not f, e => by simp only [mv]; exact mv_idem f _
  | .con _ fs, e => by simp only [mv, if_true]; rw [mvs_idem fs e]
  | .qu _ _ f, e => by simp only [mv, if_true]; rw [mv_idem f e]
  | .fix _ _ _ f _, e => by cases e <;> simp [mv, neg, mv_idem f true]
  | .tc _ f _, e => by cases e <;> simp [mv, neg, mv_idem f true]
  | .gue _ _ f, e => by cases e <;> simp [mv, neg, mv_idem f true]
theorem mvs_idem : ∀ (fs : List Fm) (e : Bool), mvs true (mvs e fs) = mvs e fs
  | [], e => by simp [mvs]
  | f :: fs, e => by simp only [mvs]; rw [mv_idem f e, mvs_idem fs e]
end
mutual
theorem mv_occ (x : Tx) : ∀ (f : Fm) (e : Bool), occ x (mv e f) = occ x f
  | .rel _ _, e => by cases e <;> simp [mv, neg, occ]
  | .cmp _ _ _, e => by cases e <;> simp [mv, neg, occ]
  | .not f, e => by simp only [mv, occ]; exact mv_occ x f _
  | .con _ fs, e => by simp only [mv, occ]; exact mvs_occ x fs e
  | .qu _ _ f, e => by simp only [mv, occ]; exact mv_occ x f e
  | .fix _ _ _ f _, e => by cases e <;> simp [mv, neg, occ, mv_occ x f true]
  | .tc _ f _, e => by cases e <;> simp [mv, neg, occ, mv_occ x f true]
  | .gue _ _ f, e => by cases e <;> simp [mv, neg, occ, mv_occ x f true]
theorem mvs_occ (x : Tx) : ∀ (fs : List Fm) (e : Bool), occs x (mvs e fs) = occs x fs
  | [], e => by simp [mvs]
  | f :: fs, e => by simp only [mvs, occs]; rw [mv_occ x f e, mvs_occ x fs e]
end
mutual
theorem mv_agr (x : Tx) : ∀ (f : Fm) (e p : Bool), agr x p (mv e f) = agr x (if e then p else !p) f
  | .rel _ _, e, p => by cases e <;> simp [mv, neg, agr]
  | .cmp _ _ _, e, p => by cases e <;> simp [mv, neg, agr]
  | .not f, e, p => by simp only [mv, agr]; rw [mv_agr x f (!e) p]; cases e <;> simp
  | .con _ fs, e, p => by simp only [mv, agr]; exact mvs_agr x fs e p
  | .qu _ _ f, e, p => by simp only [mv, agr]; exact mv_agr x f e p
  | .fix _ _ _ f _, e, p => by cases e <;> simp [mv, neg, agr, mv_occ x f true, mv_agr x f true]
  | .tc _ f _, e, p => by cases e <;> simp [mv, neg, agr, mv_agr x f true]
  | .gue _ _ f, e, p => by cases e <;> simp [mv, neg, agr, mv_agr x f true]
theorem mvs_agr (x : Tx) : ∀ (fs : List Fm) (e p : Bool), agrs x p (mvs e fs) = agrs x (if e then p else !p) fs
  | [], e, p => by simp [mvs, agrs]
  | f :: fs, e, p => by simp only [mvs, agrs]; rw [mv_agr x f e p, mvs_agr x fs e p]
end
mutual
theorem mv_pos : ∀ (f : Fm) (e : Bool), Pos f → Pos (mv e f)
  | .rel _ _, e, h => by cases e <;> simp [mv, neg, Pos]
  | .cmp _ _ _, e, h => by cases e <;> simp [mv, neg, Pos]
  | .not f, e, h => by simp only [mv]; exact mv_pos f _ h
  | .con _ fs, e, h => by simp only [mv, Pos]; exact mvs_pos fs e h
  | .qu _ _ f, e, h => by simp only [mv, Pos]; exact mv_pos f e h
  | .fix _ r _ f _, e, h => by
    have h1 := mv_pos f true h.2
    have h2 := mv_agr r f true true
    simp only [if_true] at h2
    cases e
    · simp only [mv, neg, Bool.false_eq_true, if_false, Pos, h2]; exact ⟨h.1, h1⟩
    · simp only [mv, neg, if_true, Pos, h2]; exact ⟨h.1, h1⟩
  | .tc _ f _, e, h => by cases e <;> (simp only [mv, neg, Bool.false_eq_true, if_true, if_false, Pos]; exact mv_pos f true h)
  | .gue _ _ f, e, h => by cases e <;> (simp only [mv, neg, Bool.false_eq_true, if_true, if_false, Pos]; exact mv_pos f true h)
theorem mvs_pos : ∀ (fs : List Fm) (e : Bool), Poss fs → Poss (mvs e fs)
  | [], e, h => by simp [mvs, Poss]
  | f :: fs, e, h => by simp only [mvs, Poss]; exact ⟨mv_pos f e h.1, mvs_pos fs e h.2⟩
end
mutual
theorem mv_wf : ∀ (f : Fm) (e : Bool), Wf f → Wf (mv e f)
  | .rel _ _, e, h => by cases e <;> exact h
  | .cmp _ _ _, e, h => by cases e <;> exact h
  | .not f, e, h => by simp only [mv]; exact mv_wf f _ h
  | .con _ fs, e, h => by simp only [mv, Wf, mvs_len]; exact ⟨h.1, mvs_wf fs e h.2⟩
  | .qu _ _ f, e, h => by simp only [mv, Wf]; exact ⟨h.1, mv_wf f e h.2⟩
  | .fix _ r _ f _, e, h => by cases e <;> exact ⟨h.1, h.2.1, h.2.2.1, h.2.2.2.1, mv_wf f true h.2.2.2.2⟩
  | .tc _ f _, e, h => by cases e <;> exact ⟨h.1, h.2.1, h.2.2.1, h.2.2.2.1, mv_wf f true h.2.2.2.2⟩
  | .gue _ _ f, e, h => by cases e <;> exact ⟨h.1, h.2.1, mv_wf f true h.2.2⟩
theorem mvs_wf : ∀ (fs : List Fm) (e : Bool), Wfs fs → Wfs (mvs e fs)
  | [], e, h => by simp [mvs, Wfs]
  | f :: fs, e, h => by simp only [mvs, Wfs]; exact ⟨mv_wf f e h.1, mvs_wf fs e h.2⟩
end
mutual
theorem mv_aok (sig : Tx → Int) : ∀ (f : Fm) (e : Bool) (bd : List (D × D)), AOk sig bd f → AOk sig bd (mv e f)
  | .rel _ _, e, bd, h => by cases e <;> exact h
  | .cmp _ _ _, e, bd, h => by cases e <;> exact h
  | .not f, e, bd, h => by simp only [mv]; exact mv_aok sig f _ bd h
  | .con _ fs, e, bd, h => by simp only [mv, AOk]; exact mvs_aok sig fs e bd h
  | .qu _ _ f, e, bd, h => by simp only [mv, AOk]; exact mv_aok sig f e bd h
  | .fix _ r _ f _, e, bd, h => by cases e <;> exact mv_aok sig f true _ h
  | .tc _ f _, e, bd, h => by cases e <;> exact mv_aok sig f true _ h
  | .gue _ _ f, e, bd, h => by cases e <;> exact mv_aok sig f true _ h
theorem mvs_aok (sig : Tx → Int) : ∀ (fs : List Fm) (e : Bool) (bd : List (D × D)), AOks sig bd fs → AOks sig bd (mvs e fs)
  | [], e, bd, h => by simp [mvs, AOks]
  | f :: fs, e, bd, h => by simp only [mvs, AOks]; exact ⟨mv_aok sig f e bd h.1, mvs_aok sig fs e bd h.2⟩
end
mutual
theorem mv_dep : ∀ (f : Fm) (e : Bool), dep (mv e f) ≤ dep f + (if e then 0 else 1)
  | .rel _ _, e => by cases e <;> simp [mv, neg, dep]
  | .cmp _ _ _, e => by cases e <;> simp [mv, neg, dep]
  | .not f, e => by have := mv_dep f (!e); cases e <;> simp [mv, dep] at this ⊢ <;> omega
  | .con _ fs, e => by have := mvs_dep fs e; simp only [mv, dep]; omega
  | .qu _ _ f, e => by have := mv_dep f e; simp only [mv, dep]; omega
  | .fix _ r _ f _, e => by have := mv_dep f true; cases e <;> simp [mv, neg, dep] at this ⊢ <;> omega
  | .tc _ f _, e => by have := mv_dep f true; cases e <;> simp [mv, neg, dep] at this ⊢ <;> omega
  | .gue _ _ f, e => by have := mv_dep f true; cases e <;> simp [mv, neg, dep] at this ⊢ <;> omega
theorem mvs_dep : ∀ (fs : List Fm) (e : Bool), deps (mvs e fs) ≤ deps fs + (if e then 0 else 1)
  | [], e => by simp [mvs, deps]
  | f :: fs, e => by have := mv_dep f e; have := mvs_dep fs e; simp only [mvs, deps]; omega
end
mutual
theorem mv_siz : ∀ (f : Fm) (e : Bool), siz (mv e f) ≤ 2 * siz f
  | .rel _ _, e => by cases e <;> simp [mv, neg, siz]
  | .cmp _ _ _, e => by cases e <;> simp [mv, neg, siz]
  | .not f, e => by have := mv_siz f (!e); simp only [mv, siz]; omega
  | .con _ fs, e => by have := mvs_siz fs e; simp only [mv, siz]; omega
  | .qu _ _ f, e => by have := mv_siz f e; simp only [mv, siz]; omega
  | .fix _ r _ f _, e => by have := mv_siz f true; cases e <;> simp [mv, neg, siz] <;> omega
  | .tc _ f _, e => by have := mv_siz f true; cases e <;> simp [mv, neg, siz] <;> omega
  | .gue _ _ f, e => by have := mv_siz f true; cases e <;> simp [mv, neg, siz] <;> omega
theorem mvs_siz : ∀ (fs : List Fm) (e : Bool), sizs (mvs e fs) ≤ 2 * sizs fs
  | [], e => by simp [mvs, sizs]
  | f :: fs, e => by have := mv_siz f e; have := mvs_siz fs e; simp only [mvs, sizs]; omega
end
/-! of first order: nothing to be positive in -/
mutual
theorem fo_pos : ∀ f : Fm, FO f → Pos f
  | .rel _ _, _ => trivial
  | .cmp _ _ _, _ => trivial
  | .not f, h => fo_pos f h
  | .con _ fs, h => fos_pos fs h
  | .qu _ _ f, h => fo_pos f h
  | .fix _ _ _ _ _, h => h.elim
  | .tc _ _ _, h => h.elim
  | .gue _ _ _, h => h.elim
theorem fos_pos : ∀ fs : List Fm, FOs fs → Poss fs
  | [], _ => trivial
  | f :: fs, h => ⟨fo_pos f h.1, fos_pos fs h.2⟩
end
/-- all that is wanted but the size -/
structure Goo (sig : Tx → Int) (f : Fm) : Prop where
  hd : dep f ≤ 39
  hw : Wf f
  hp : Pos f
  ha : AOk sig [] f
theorem Goo.good {sig : Tx → Int} {f : Fm} (g : Goo sig f) (h : siz f ≤ 2000) : Good sig f := ⟨by have := g.hd; omega, h, g.hw, g.hp, g.ha⟩
theorem Goo.mv {sig : Tx → Int} {f : Fm} (g : Goo sig f) : Goo sig (mv true f) := ⟨by have := mv_dep f true; have := g.hd; simp at *; omega, mv_wf f true g.hw, mv_pos f true g.hp, mv_aok sig f true [] g.ha⟩
end Mi

set_option autoImplicit true
set_option maxRecDepth 512
set_option maxHeartbeats 200000
set_option Elab.async false
set_option autoImplicit false
set_option linter.unusedSimpArgs false
set_option linter.unusedVariables false
namespace Mi
open M
set_option maxRecDepth 100000
local macro_rules | `(tactic| simp! only [$xs,*] $[$l:location]?) => `(tactic| simp only [↓ev_fld_at, ↓ev_meth_at, ↓ev_new_at, ↓ex_asgFld_at, methK_at, methK2_at, methK3_at, newK_at, newM_at, isNonM_at, asgFldK_at, asgFldK2_at, fldM_at, fldF, setFldM_at, setFldC, clsM_at, clsF, lookN, putFd, flOk, ↓for_at, forS_at, lcS_at, ↓ev_non_at, ↓ev_bl_at, ↓ev_int_at, ↓ev_str_at, ↓ev_var_at, ↓ev_glob_at, ↓ev_op_at, ↓ev_neg_at, ↓ev_cmp_at, ↓ev_chain_at, ↓ev_not_at, ↓ev_and_at, ↓ev_or_at, ↓ev_ite_at, ↓ev_tup_at, ↓ev_lst_at, ↓ev_flst_at, ↓ev_dct_at, ↓ev_fslice_at, ↓ev_lenset_at, flstK_at, fslK_at, fslK2_at, lcR_t, lcR_f, lcR_ex, ↓ex_augFld_at, augFldK_at, augFldK2_at, augFldK3_at, augFldK4_at, ↓ex_try_at, tryR_nx, tryR_rt, viewK_at, view_loc, view_non, view_bl, view_int, view_str, view_tup, view_fzl, view_fzd, view_fzo, viewC, indexM_at, indexF_tup, indexF_fzl, indexF_str, indexF_fzd, sliceM_at, sliceF_tup, sliceF_fzl, sliceF_str, sliceP_at, slicePF, eqK_at, eqK2_at, eqM_at, inM_at, inF, nbnK_at, cmp_eq_at, cmp_ne_at, cmp_in_at, cmp_nin_at, cmp_lt_at, cmp_le_at, cmp_gt_at, cmp_ge_at, cmp_is_at, cmp_isnt_at, addL_at, addI_at, lenM_at, lenF_str, lenF_tup, lenF_fzl, listM_at, flistM_at, tupleM_at, itemsF_tup, itemsF_fzl, lstF_fzl, sumK_at, sumK2_at, sumM_at, intsO_map, setIxM_at, setIxL_at, setIxD_at, putIxK_at, append_at, appC, dctU, lstU, someC, extend_at, extC, extF, pop_at, popC, popAt_at, popAtC_at, popAtK2_at, popAtK3_at, retKM_at, sdf_at, sdfC_at, sdfO_some, sdfO_none, get1_at, getF, isDct_at, isLst_at, isD_at, isDF, dict_at, dictC, truthy_loc, intF, max2F, min2F, endC_nx, endC_rt, endC_rtP, endC_ex, gc_bl, gc_int, gc_str, gc_non, ↓ev_ix_at, ↓ev_slice_at, ↓ev_call_at, ↓ev_bi_at, ↓ev_mt_at, ↓ev_isi_at, ↓ev_lc_at, ↓evs_nil_at, ↓evs_cons_at, ↓evo_none_at, ↓evo_some_at, ↓evc_nil_at, ↓evc_cons_at, ↓ex_asg_at, ↓ex_asgIx_at, ↓ex_aug_at, ↓ex_expr_at, ↓ex_ite_at, ↓ex_ret_at, ↓ex_retN_at, ↓ex_raise_at, ↓ex_brk_at, ↓ex_cont_at, ↓ex_pass_at, ↓ex_while_at, ↓exs_nil_at, ↓exs_cons_at, asgK_at, asgR_ok, goOn_at, augK1_at, augK2_at, augK3_at, asgIxK_at, asgIxK2_at, asgIxK3_at, blK_at, nbK_at, opK_at, cmpK_at, cmpK2_at, chK_at, chK2_at, chK3_t, chK3_f, notK_at, andK_at, andK2_t, andK2_f, orK_at, orK2_t, orK2_f, ifK_at, ifK2_t, ifK2_f, tupK_at, lstK_at, ixK_at, slK_at, slK2_at, mtK_at, mtK2_at, isiK_at, consK_at, consK2_at, csK_at, csK2_t, csK2_f, someK_at, eltK_t, eltK_f, oneK_at, oneL_at, seqK_at, iteK_t, iteK_f, retS_at, noexR_ok, negM, intM, ↓msB_at, ↓msS_at, msB_ok, msB_ex, msS_msS, msS_nx, msS_rt, msS_ex, msS_bk, msS_ct, truthy_non, truthy_bl, truthy_int, truthy_str, truthy_tup, truthy_fzl, ↓bnd_at, bndR_ok, bndR_ex, of_some, ret_at, binop, iopM, ↓need_at, bindT, bindTs, biM, get_at, put_at, new_at, ↓isi_cons_at, isi_nil_at, isiR_t, isiR_f, isTy_non, isTy_bl, isTy_int, isTy_str, isTy_tup, isTy_fzl, mtM, mtPre, upperM, isStr, itM, seq1, seqM_tup, seqM_fzl, seqM_scr, seqM_str, seqM_loc, lstS, rng1, rng2, D.isNon, D.flat, D.flats, D.deep, D.deeps, D.eqv, D.eqvs, Nat.zero_le, Nat.max_self, and_self, lt0, lt1, lt2, lt3, atI0, atI1, atI2, atI3, ixN0, ixN1, ixN2, ixN3, getc0, getc1, getc2, getc3, getc4, getc5, getc6, getc7, getc8, setc0, setc1, setc2, setc3, setc4, setc5, setc6, setc7, setc8, id, Option.join_some, Option.join, Option.bind, Option.map, List.map_cons, List.map_nil, List.length_map, List.length_cons, List.length_nil, List.getElem?_cons_zero, List.getElem?_cons_succ, List.set_cons_zero, List.set_cons_succ, Nat.zero_add, List.append_nil, List.nil_append, List.cons_append, Int.reducePow, Int.reduceToNat, Int.zero_add, Int.cast_ofNat_Int, decide_true, decide_false, Bool.not_true, Bool.not_false, Bool.and_self, Bool.true_and, Bool.false_and, Bool.and_true, Nat.zero_max, Nat.max_zero, if_true, if_false, ite_true, ite_false, reduceIte, reduceCtorEq, Bool.false_eq_true, Bool.true_eq_false, or_true, true_or, and_true, true_and, or_false, false_or, Nat.reduceLT, Nat.reduceAdd, Nat.reduceLeDiff, Int.reduceLT, Int.reduceLE, Int.reduceAdd, Nat.zero_lt_succ, beq_self_eq_true, decide_eq_true_eq, gc_self, bel_non, bel_bl, bel_int, bel_str, bel_tup, bel_fzl, bels_nil, bels_cons, List.cons.injEq, Nat.reduceEqDiff, and_false, false_and, eq_self, List.any_cons, List.any_nil, Bool.or_false, Bool.false_or, Bool.true_or, Bool.or_true, atI4, Int.ofNat_zero, Int.natCast_zero, Int.natCast_one, Int.natCast_succ, decide_not, $xs,*] $[$l:location]?)
def reb : Fm → List Fm → Fm
  | .con w _, qs => .con w qs
  | .not _, [q] => .not q
  | .qu w vs _, [q] => .qu w vs q
  | .fix w r vs _ gs, [q] => .fix w r vs q gs
  | .tc vs _ gs, [q] => .tc vs q gs
  | .gue r k _, [q] => .gue r k q
  | f, _ => f
theorem one_of {α : Type} {l : List α} (h : l.length = 1) : ∃ a, l = [a] := by
  match l, h with
  | [a], _ => exact ⟨a, rfl⟩
theorem rebuilt_run (k : Nat) (f : Fm) (qs : List Fm) (hq : qs.length = (parts f).length) (S : Store) : callB (callK prog k) f_rebuilt [enc f, .fzl (qs.map enc)] S = some (.ok (enc (reb f qs)), S) := by
  rw [callB_of _ _ _ _ rfl (by decide)]
  show endC false S (exSs _ f_rebuilt.body [some (enc f), some (.fzl (qs.map enc)), none] S) = _
  cases f with
  | rel x as => simp! only [f_rebuilt, enc, G_QUANTIFIERS, G_FIXED, reb, bel_tX]
  | cmp w a b => cases w <;> simp! only [f_rebuilt, enc, G_QUANTIFIERS, G_FIXED, reb]
  | con w fs => cases w <;> simp! only [f_rebuilt, enc, reb, bel_encm, encs_map]
  | not f =>
    obtain ⟨q, rfl⟩ := one_of hq
    simp! only [f_rebuilt, enc, reb, bel_enc]
  | qu w vs f =>
    obtain ⟨q, rfl⟩ := one_of hq
    cases w <;> simp! only [f_rebuilt, enc, G_QUANTIFIERS, G_FIXED, reb, bel_enc, bel_tX]
  | fix w r vs f gs =>
    obtain ⟨q, rfl⟩ := one_of hq
    cases w <;> simp! only [f_rebuilt, enc, G_QUANTIFIERS, G_FIXED, reb, bel_enc, bel_tX]
  | tc vs f gs =>
    obtain ⟨q, rfl⟩ := one_of hq
    simp! only [f_rebuilt, enc, G_QUANTIFIERS, G_FIXED, reb, bel_enc, bel_tX]
  | gue r k f =>
    obtain ⟨q, rfl⟩ := one_of hq
    simp! only [f_rebuilt, enc, G_QUANTIFIERS, G_FIXED, reb, bel_enc, bel_tX]
/-! moved -/
theorem mo_not (cl : Cl) (F G : D) (e : Bool) (S : Store) (h : cl.fn "moved" [F, .bl (!e)] S = some (.ok G, S)) (hb : ∀ n, D.bel n G = true) : callB cl f_moved [.tup [.str wNot, F], .bl e] S = some (.ok G, S) := by
  rw [callB_of _ _ _ _ rfl (by decide)]
  show endC false S (exSs _ f_moved.body [some (.tup [.str wNot, F]), some (.bl e), none, none, none, none] S) = _
  simp! only [f_moved, h, hb]
theorem cut_tail {α : Type} (x : α) (r : List α) : cut (x :: r) (some 1) none = r := by
  have h1 : sIx (x :: r).length 0 (some 1) = 1 := by
    unfold sIx
    simp
  unfold cut
  rw [h1]
  show List.take ((r.length + 1) - 1) r = r
  simp
theorem mo_dual (cl : Cl) (gD : cl.gl "DUAL" = some (.fzd [.str wAnd, .str wOr, .str wSome, .str wAll] [.str wOr, .str wAnd, .str wAll, .str wSome])) (w w' : Tx) (hw : (w = wAnd ∧ w' = wOr) ∨ (w = wOr ∧ w' = wAnd) ∨ (w = wSome ∧ w' = wAll) ∨ (w = wAll ∧ w' = wSome)) (r r' ps Fs : List D) (e : Bool) (S : Store)
    (h1 : cl.fn "inner" [.tup (.str w :: r)] S = some (.ok (.tup ps), S))
    (hc : compL [] (oneL cl (.call "moved" [.var 4, .var 1]) (.nm 4) [] [4] [some (.tup (.str w :: r)), some (.bl e), some (.str w), none, none, none]) ps [] S = some (.ok Fs, S))
    (h2 : cl.fn "rebuilt" [.tup (.str w :: r), .fzl Fs] S = some (.ok (.tup (.str w :: r')), S)) (hb : ∀ n, D.bels n r' = true) (hl : 1 + r'.length ≤ szl) :
    callB cl f_moved [.tup (.str w :: r), .bl e] S = some (.ok (.tup (.str (if e then w else w') :: r')), S) := by
  rw [callB_of _ _ _ _ rfl (by decide)]
  show endC false S (exSs _ f_moved.body [some (.tup (.str w :: r)), some (.bl e), none, none, none, none] S) = _
  have hl2 : 1 + r'.length ≤ szl ↔ True := ⟨fun _ => trivial, fun _ => hl⟩
  have hl3 : 0 + 1 + r'.length ≤ szl := by omega
  rcases hw with ⟨rfl, rfl⟩ | ⟨rfl, rfl⟩ | ⟨rfl, rfl⟩ | ⟨rfl, rfl⟩ <;> cases e <;>
    simp! only [f_moved, keyFit, lookF, D.str.injEq, Option.getD_some, List.isEmpty_cons, gD, h1, hc, h2, cut_tail, hl2, hl3, hl, hb, Option.isSome_some]
theorem mo_else (cl : Cl) (gD : cl.gl "DUAL" = some (.fzd [.str wAnd, .str wOr, .str wSome, .str wAll] [.str wOr, .str wAnd, .str wAll, .str wSome])) (w : Tx) (hw : w = wRel ∨ w = wEq ∨ w = wLess ∨ w = wLfp ∨ w = wPfp ∨ w = wTc ∨ w = wGue) (r ps Fs : List D) (K : D) (e : Bool) (S : Store)
    (h1 : cl.fn "inner" [.tup (.str w :: r)] S = some (.ok (.tup ps), S))
    (hc : compL [] (oneL cl (.call "moved" [.var 4, .bl true]) (.nm 4) [] [4] [some (.tup (.str w :: r)), some (.bl e), some (.str w), none, none, none]) ps [] S = some (.ok Fs, S))
    (h2 : cl.fn "rebuilt" [.tup (.str w :: r), .fzl Fs] S = some (.ok K, S)) (hb : ∀ n, D.bel n K = true) :
    callB cl f_moved [.tup (.str w :: r), .bl e] S = some (.ok (if e then K else .tup [.str wNot, K]), S) := by
  rw [callB_of _ _ _ _ rfl (by decide)]
  show endC false S (exSs _ f_moved.body [some (.tup (.str w :: r)), some (.bl e), none, none, none, none] S) = _
  rcases hw with rfl | rfl | rfl | rfl | rfl | rfl | rfl <;> cases e <;>
    simp! only [f_moved, keyFit, lookF, D.str.injEq, Option.getD_some, List.isEmpty_cons, gD, h1, hc, h2, hb, Option.isSome_none]
theorem one_mv (cl : Cl) (x y : Ex) (E W G d : D) (e : Bool) (S : Store) (hx : x = .var 1 ∨ (x = .bl true ∧ e = true)) (e1 : Bool) (hf : cl.fn "moved" [d, .bl e] S = some (.ok G, S)) (he : x = .var 1 → e1 = e) :
    oneL cl (.call "moved" [.var 4, x]) (.nm 4) [] [4] [some E, some (.bl e1), some W, none, none, none] d S = some (.ok (some G), S) := by
  rcases hx with rfl | ⟨rfl, rfl⟩
  · have := he rfl
    subst this
    simp! only [wipeE, hf]
  · simp! only [wipeE, hf]
theorem enc_head (f : Fm) : ∃ r, enc f = .tup (.str (word f) :: r) := by cases f <;> exact ⟨_, rfl⟩
theorem moved_run : ∀ (k : Nat) (f : Fm), dep f ≤ k → Wf f → ∀ (e : Bool) (L : Nat), k < L → ∀ S, callB (callK prog L) f_moved [enc f, .bl e] S = some (.ok (enc (mv e f)), S) := by
  intro k
  induction k with
  | zero => intro f hd; have := dep_pos f; omega
  | succ k ih =>
    intro f hd hw e L hL S
    obtain ⟨L, rfl⟩ : ∃ L', L = L' + 1 := ⟨L - 1, by omega⟩
    have hin : ∀ S, (callK prog (L + 1)).fn "inner" [enc f] S = some (.ok (.tup ((parts f).map enc)), S) := fun S => by rw [F_inner]; exact inner_run L f S
    have hreb : ∀ (qs : List Fm), qs.length = (parts f).length → (callK prog (L + 1)).fn "rebuilt" [enc f, .fzl (qs.map enc)] S = some (.ok (enc (reb f qs)), S) := fun qs hq => by rw [F_rebuilt]; exact rebuilt_run L f qs hq S
    have hlen := wf_parts hw
    have hmv : ∀ (p : Fm) (hp : p ∈ parts f) (e : Bool), (callK prog (L + 1)).fn "moved" [enc p, .bl e] S = some (.ok (enc (mv e p)), S) := fun p hp e => by
      rw [F_moved]
      exact ih p (by have := dep_part hp; omega) (wf_part hw hp) e L (by omega) S
    have hcomp : ∀ (x : Ex) (b : Bool) (W : D), (x = .var 1 ∧ b = e) ∨ (x = .bl true ∧ b = true) → compL [] (oneL (callK prog (L + 1)) (.call "moved" [.var 4, x]) (.nm 4) [] [4] [some (enc f), some (.bl e), some W, none, none, none]) ((parts f).map enc) [] S = some (.ok (((parts f).map (mv b)).map enc), S) := by
      intro x b W hx
      rw [compL_map enc (fun p => enc (mv b p)) S (parts f) [] ?_ (by unfold szl; simp; omega)]
      · simp
      · intro p hp
        rcases hx with ⟨rfl, rfl⟩ | ⟨rfl, rfl⟩
        · exact one_mv _ _ (.int 0) _ _ _ _ b S (.inl rfl) b (hmv p hp b) (fun _ => rfl)
        · exact one_mv _ _ (.int 0) _ _ _ _ true S (.inr ⟨rfl, rfl⟩) e (hmv p hp true) (fun z => by cases z)
    have gD := G_DUAL (L + 1)
    have dual : ∀ (w w' : Tx) (r r' : List D) (qs : List Fm), ((w = wAnd ∧ w' = wOr) ∨ (w = wOr ∧ w' = wAnd) ∨ (w = wSome ∧ w' = wAll) ∨ (w = wAll ∧ w' = wSome)) → enc f = .tup (.str w :: r) → qs = (parts f).map (mv e) → enc (reb f qs) = .tup (.str w :: r') → r'.length ≤ 10 → enc (mv e f) = .tup (.str (if e then w else w') :: r') → (∀ n, D.bels n r' = true) →
        callB (callK prog (L + 1)) f_moved [enc f, .bl e] S = some (.ok (enc (mv e f)), S) := by
      intro w w' r r' qs hww he hqs hr hl hm hb
      have h1 := hin S
      have h2 := hreb qs (by rw [hqs, List.length_map])
      have h3 := hcomp (.var 1) e (.str w) (.inl ⟨rfl, rfl⟩)
      rw [← hqs] at h3
      rw [hr] at h2
      rw [he] at h1 h2 h3 ⊢
      rw [hm]
      exact mo_dual (callK prog (L + 1)) gD w w' hww r r' _ _ e S h1 h3 h2 hb (by unfold szl; omega)
    have els : ∀ (w : Tx) (r : List D) (qs : List Fm), (w = wRel ∨ w = wEq ∨ w = wLess ∨ w = wLfp ∨ w = wPfp ∨ w = wTc ∨ w = wGue) → enc f = .tup (.str w :: r) → qs = (parts f).map (mv true) → mv e f = neg e (reb f qs) →
        callB (callK prog (L + 1)) f_moved [enc f, .bl e] S = some (.ok (enc (mv e f)), S) := by
      intro w r qs hww he hqs hm
      have h1 := hin S
      have h2 := hreb qs (by rw [hqs, List.length_map])
      have h3 := hcomp (.bl true) true (.str w) (.inr ⟨rfl, rfl⟩)
      rw [← hqs] at h3
      have hb : ∀ n, D.bel n (enc (reb f qs)) = true := fun n => bel_enc n _
      rw [hm]
      rw [he] at h1 h2 h3 ⊢
      rw [mo_else (callK prog (L + 1)) gD w hww r _ _ _ e S h1 h3 h2 hb]
      cases e <;> rfl
    cases f with
    | rel x as => exact els wRel _ [] (.inl rfl) rfl rfl (by simp only [mv, reb])
    | cmp w a b => cases w
                   · exact els wLess _ [] (.inr (.inr (.inl rfl))) rfl rfl (by simp only [mv, reb])
                   · exact els wEq _ [] (.inr (.inl rfl)) rfl rfl (by simp only [mv, reb])
    | not f =>
      have h := hmv f (by simp [parts]) (!e)
      rw [mv, enc]
      exact mo_not _ _ _ e S h (fun n => bel_enc n _)
    | con w fs =>
      have hb : ∀ n, D.bels n [D.tup ((fs.map (mv e)).map enc)] = true := fun n => by simp only [bels_cons, bels_nil, bel_tup, bel_encm, Bool.and_self]
      cases w
      · exact dual wOr wAnd [.tup (encs fs)] [.tup ((fs.map (mv e)).map enc)] _ (.inr (.inl ⟨rfl, rfl⟩)) rfl rfl (by simp only [reb, enc, encs_map, parts]; rfl) (by simp) (by cases e <;> simp [mv, enc, encs_map, mvs_map]) hb
      · exact dual wAnd wOr [.tup (encs fs)] [.tup ((fs.map (mv e)).map enc)] _ (.inl ⟨rfl, rfl⟩) rfl rfl (by simp only [reb, enc, encs_map, parts]; rfl) (by simp) (by cases e <;> simp [mv, enc, encs_map, mvs_map]) hb
    | qu w vs f =>
      have hb : ∀ n, D.bels n [tX vs, enc (mv e f)] = true := fun n => by simp only [bels_cons, bels_nil, bel_tX, bel_enc, Bool.and_self]
      cases w
      · exact dual wAll wSome [tX vs, enc f] [tX vs, enc (mv e f)] _ (.inr (.inr (.inr ⟨rfl, rfl⟩))) rfl rfl rfl (by simp) (by cases e <;> simp [mv, enc]) hb
      · exact dual wSome wAll [tX vs, enc f] [tX vs, enc (mv e f)] _ (.inr (.inr (.inl ⟨rfl, rfl⟩))) rfl rfl rfl (by simp) (by cases e <;> simp [mv, enc]) hb
    | fix w r vs f gs => cases w
                         · exact els wPfp _ _ (by decide) rfl rfl (by simp only [mv, reb, parts, List.map_cons, List.map_nil])
                         · exact els wLfp _ _ (by decide) rfl rfl (by simp only [mv, reb, parts, List.map_cons, List.map_nil])
    | tc vs f gs => exact els wTc _ _ (by decide) rfl rfl (by simp only [mv, reb, parts, List.map_cons, List.map_nil])
    | gue r j f => exact els wGue _ _ (by decide) rfl rfl (by simp only [mv, reb, parts, List.map_cons, List.map_nil])
/-! sized, inward -/
theorem sized_ok (cl : Cl) (E v : D) (S : Store) (h : cl.fn "looked" [E] S = some (.ok v, S)) (hb : ∀ n, D.bel n E = true) : callB cl f_sized [E] S = some (.ok E, S) := by
  rw [callB_of _ _ _ _ rfl (by decide)]
  show endC false S (exSs _ f_sized.body [some E] S) = _
  simp! only [f_sized, h, hb]
theorem sized_big (cl : Cl) (E : D) (S S1 : Store) (h : cl.fn "looked" [E] S = some (.ex "BadFormula", S1)) (hs : cl.sub "BadFormula" "BadFormula" = some true) : ∃ S', callB cl f_sized [E] S = some (.ex "TooLarge", S') := by
  have ht : ∀ (ρ : Env) T, tryR cl "BadFormula" none [.raiseN "TooLarge"] (some (.ex "BadFormula" ρ, T)) = some (.ex "TooLarge" ρ, T) := by
    intro ρ T
    simp [tryR, hs, quSs, quS]
  have h2 : callB cl f_sized [E] S = endC false S (exSs cl f_sized.body [some E] S) := callB_of cl f_sized [E] S rfl (by decide)
  simp! only [f_sized, h, ht] at h2
  exact ⟨_, h2⟩
theorem inward_ok_core (cl : Cl) (E v G : D) (S : Store) (h1 : cl.fn "looked" [E] S = some (.ok v, S)) (h2 : cl.fn "moved" [E, .bl true] S = some (.ok G, S)) (h3 : cl.fn "sized" [G] S = some (.ok G, S)) (hb : ∀ n, D.bel n G = true) : callB cl f_inward [E] S = some (.ok G, S) := by
  rw [callB_of _ _ _ _ rfl (by decide)]
  show endC false S (exSs _ f_inward.body [some E] S) = _
  simp! only [f_inward, h1, h2, h3, hb]
theorem inward_big_core (cl : Cl) (E v G : D) (S S1 : Store) (h1 : cl.fn "looked" [E] S = some (.ok v, S)) (h2 : cl.fn "moved" [E, .bl true] S = some (.ok G, S)) (h3 : cl.fn "sized" [G] S = some (.ex "TooLarge", S1)) : ∃ S', callB cl f_inward [E] S = some (.ex "TooLarge", S') := by
  have h : callB cl f_inward [E] S = endC false S (exSs cl f_inward.body [some E] S) := callB_of cl f_inward [E] S rfl (by decide)
  simp! only [f_inward, h1, h2, h3] at h
  exact ⟨_, h⟩
theorem told_ok_core (cl : Cl) (E G : D) (S : Store) (h : cl.fn "inward" [E] S = some (.ok G, S)) (hb : ∀ n, D.bel n G = true) : callB cl f__law_told [E] S = some (.ok G, S) := by
  rw [callB_of _ _ _ _ rfl (by decide)]
  show endC false S (exSs _ f__law_told.body [some E, none] S) = _
  simp! only [f__law_told, h, hb]
def refL : D := .tup [.str [114, 101, 102, 117, 115, 101, 100], .str [108, 97, 114, 103, 101]]
theorem told_big_core (cl : Cl) (E : D) (S S1 : Store) (h : cl.fn "inward" [E] S = some (.ex "TooLarge", S1)) (hs : cl.sub "TooLarge" "TooLarge" = some true) (hs2 : cl.sub "TooLarge" "BadFormula" = some false) : ∃ S', callB cl f__law_told [E] S = some (.ok refL, S') := by
  have ht : ∀ (ρ : Env) T, 1 < ρ.length → tryR cl "TooLarge" (some 1) [.ite (.isi (.var 1) [.cls "BadFormula"]) [.ret (.tup [.str [114, 101, 102, 117, 115, 101, 100], .str [102, 111, 114, 109, 117, 108, 97]])] []] (some (.ex "TooLarge" ρ, T)) = some (.nx ((ρ.set 1 none).set 1 none), T) := by
    intro ρ T hl
    simp [tryR, hs, hl, quSs, quS, quE, hs2, Ctl.wipe]
  have h2 : callB cl f__law_told [E] S = endC false S (exSs cl f__law_told.body [some E, none] S) := callB_of cl f__law_told [E] S rfl (by decide)
  have hb : ∀ T : Store, (gc S refL T).1 = refL := fun T => by
    have b : ∀ n, D.bel n refL = true := fun n => by simp only [refL, bel_tup, bels_cons, bels_nil, bel_str, Bool.and_self]
    unfold gc
    split
    · rw [fz_old (b _)]
    · rfl
  have e : ∃ T, exSs cl f__law_told.body [some E, none] S = some (.rt refL, T) := by
    simp! only [f__law_told, h, ht]
    exact ⟨_, rfl⟩
  obtain ⟨T, e⟩ := e
  rw [e, endC_rt, hb] at h2
  exact ⟨_, h2⟩
theorem told_run {sig : Tx → Int} {f : Fm} (g : Goo sig f) (h1 : siz f ≤ 2000) (h2 : siz (mv true f) ≤ 2000) (L : Nat) (hL : 60 ≤ L) (S : Store) : callB (callK prog L) f__law_told [enc f] S = some (.ok (enc (mv true f)), S) := by
  obtain ⟨L, rfl⟩ : ∃ L', L = L' + 4 := ⟨L - 4, by omega⟩
  have g1 := g.good h1
  have g2 := g.mv.good h2
  refine told_ok_core _ _ _ S ?_ (fun n => bel_enc n _)
  rw [F_inward]
  obtain ⟨v1, e1⟩ := looked_run sig f 40 g1.hd g1.hd g1.hz g1.hw g1.hp g1.ha (L + 2) (by omega) S
  obtain ⟨v2, e2⟩ := looked_run sig (mv true f) 40 g2.hd g2.hd g2.hz g2.hw g2.hp g2.ha (L + 1) (by omega) S
  refine inward_ok_core _ _ v1 _ S (by rw [F_looked]; exact e1) (by rw [F_moved]; exact moved_run 40 f g1.hd g1.hw true (L + 2) (by omega) S) ?_ (fun n => bel_enc n _)
  rw [F_sized]
  exact sized_ok _ _ v2 S (by rw [F_looked]; exact e2) (fun n => bel_enc n _)
theorem told_big {sig : Tx → Int} {f : Fm} (g : Goo sig f) (h1 : siz f ≤ 2000) (h2 : 2000 < siz (mv true f)) (L : Nat) (hL : 60 ≤ L) (S : Store) : ∃ S', callB (callK prog L) f__law_told [enc f] S = some (.ok refL, S') := by
  obtain ⟨L, rfl⟩ : ∃ L', L = L' + 4 := ⟨L - 4, by omega⟩
  have g1 := g.good h1
  have g2 := g.mv
  obtain ⟨v1, e1⟩ := looked_run sig f 40 g1.hd g1.hd g1.hz g1.hw g1.hp g1.ha (L + 2) (by omega) S
  obtain ⟨S2, e2⟩ := looked_big sig (mv true f) 40 (by have := g2.hd; omega) (by have := g2.hd; omega) h2 g2.hw g2.hp g2.ha (L + 1) (by omega) S
  obtain ⟨S3, e3⟩ := sized_big (callK prog (L + 2)) (enc (mv true f)) S S2 (by rw [F_looked]; exact e2) (S_BadFormula_BadFormula _)
  obtain ⟨S4, e4⟩ := inward_big_core (callK prog (L + 3)) (enc f) v1 (enc (mv true f)) S S3 (by rw [F_looked]; exact e1) (by rw [F_moved]; exact moved_run 40 f g1.hd g1.hw true (L + 2) (by omega) S) (by rw [F_sized]; exact e3)
  exact told_big_core (callK prog (L + 4)) (enc f) S S4 (by rw [F_inward]; exact e4) (S_TooLarge_TooLarge _) (S_TooLarge_BadFormula _)
end Mi

set_option autoImplicit true
set_option maxRecDepth 512
set_option maxHeartbeats 200000
set_option Elab.async false
set_option autoImplicit false
set_option linter.unusedSimpArgs false
set_option linter.unusedVariables false
namespace Mi
open M
set_option maxRecDepth 100000
local macro_rules | `(tactic| simp! only [$xs,*] $[$l:location]?) => `(tactic| simp only [↓ev_fld_at, ↓ev_meth_at, ↓ev_new_at, ↓ex_asgFld_at, methK_at, methK2_at, methK3_at, newK_at, newM_at, isNonM_at, asgFldK_at, asgFldK2_at, fldM_at, fldF, setFldM_at, setFldC, clsM_at, clsF, lookN, putFd, flOk, ↓for_at, forS_at, lcS_at, ↓ev_non_at, ↓ev_bl_at, ↓ev_int_at, ↓ev_str_at, ↓ev_var_at, ↓ev_glob_at, ↓ev_op_at, ↓ev_neg_at, ↓ev_cmp_at, ↓ev_chain_at, ↓ev_not_at, ↓ev_and_at, ↓ev_or_at, ↓ev_ite_at, ↓ev_tup_at, ↓ev_lst_at, ↓ev_flst_at, ↓ev_dct_at, ↓ev_fslice_at, ↓ev_lenset_at, flstK_at, fslK_at, fslK2_at, lcR_t, lcR_f, lcR_ex, ↓ex_augFld_at, augFldK_at, augFldK2_at, augFldK3_at, augFldK4_at, ↓ex_try_at, tryR_nx, tryR_rt, viewK_at, view_loc, view_non, view_bl, view_int, view_str, view_tup, view_fzl, view_fzd, view_fzo, viewC, indexM_at, indexF_tup, indexF_fzl, indexF_str, indexF_fzd, sliceM_at, sliceF_tup, sliceF_fzl, sliceF_str, sliceP_at, slicePF, eqK_at, eqK2_at, eqM_at, inM_at, inF, nbnK_at, cmp_eq_at, cmp_ne_at, cmp_in_at, cmp_nin_at, cmp_lt_at, cmp_le_at, cmp_gt_at, cmp_ge_at, cmp_is_at, cmp_isnt_at, addL_at, addI_at, lenM_at, lenF_str, lenF_tup, lenF_fzl, listM_at, flistM_at, tupleM_at, itemsF_tup, itemsF_fzl, lstF_fzl, sumK_at, sumK2_at, sumM_at, intsO_map, setIxM_at, setIxL_at, setIxD_at, putIxK_at, append_at, appC, dctU, lstU, someC, extend_at, extC, extF, pop_at, popC, popAt_at, popAtC_at, popAtK2_at, popAtK3_at, retKM_at, sdf_at, sdfC_at, sdfO_some, sdfO_none, get1_at, getF, isDct_at, isLst_at, isD_at, isDF, dict_at, dictC, truthy_loc, intF, max2F, min2F, endC_nx, endC_rt, endC_rtP, endC_ex, gc_bl, gc_int, gc_str, gc_non, ↓ev_ix_at, ↓ev_slice_at, ↓ev_call_at, ↓ev_bi_at, ↓ev_mt_at, ↓ev_isi_at, ↓ev_lc_at, ↓evs_nil_at, ↓evs_cons_at, ↓evo_none_at, ↓evo_some_at, ↓evc_nil_at, ↓evc_cons_at, ↓ex_asg_at, ↓ex_asgIx_at, ↓ex_aug_at, ↓ex_expr_at, ↓ex_ite_at, ↓ex_ret_at, ↓ex_retN_at, ↓ex_raise_at, ↓ex_brk_at, ↓ex_cont_at, ↓ex_pass_at, ↓ex_while_at, ↓exs_nil_at, ↓exs_cons_at, asgK_at, asgR_ok, goOn_at, augK1_at, augK2_at, augK3_at, asgIxK_at, asgIxK2_at, asgIxK3_at, blK_at, nbK_at, opK_at, cmpK_at, cmpK2_at, chK_at, chK2_at, chK3_t, chK3_f, notK_at, andK_at, andK2_t, andK2_f, orK_at, orK2_t, orK2_f, ifK_at, ifK2_t, ifK2_f, tupK_at, lstK_at, ixK_at, slK_at, slK2_at, mtK_at, mtK2_at, isiK_at, consK_at, consK2_at, csK_at, csK2_t, csK2_f, someK_at, eltK_t, eltK_f, oneK_at, oneL_at, seqK_at, iteK_t, iteK_f, retS_at, noexR_ok, negM, intM, ↓msB_at, ↓msS_at, msB_ok, msB_ex, msS_msS, msS_nx, msS_rt, msS_ex, msS_bk, msS_ct, truthy_non, truthy_bl, truthy_int, truthy_str, truthy_tup, truthy_fzl, ↓bnd_at, bndR_ok, bndR_ex, of_some, ret_at, binop, iopM, ↓need_at, bindT, bindTs, biM, get_at, put_at, new_at, ↓isi_cons_at, isi_nil_at, isiR_t, isiR_f, isTy_non, isTy_bl, isTy_int, isTy_str, isTy_tup, isTy_fzl, mtM, mtPre, upperM, isStr, itM, seq1, seqM_tup, seqM_fzl, seqM_scr, seqM_str, seqM_loc, lstS, rng1, rng2, D.isNon, D.flat, D.flats, D.deep, D.deeps, D.eqv, D.eqvs, Nat.zero_le, Nat.max_self, and_self, lt0, lt1, lt2, lt3, atI0, atI1, atI2, atI3, ixN0, ixN1, ixN2, ixN3, getc0, getc1, getc2, getc3, getc4, getc5, getc6, getc7, getc8, setc0, setc1, setc2, setc3, setc4, setc5, setc6, setc7, setc8, id, Option.join_some, Option.join, Option.bind, Option.map, List.map_cons, List.map_nil, List.length_map, List.length_cons, List.length_nil, List.getElem?_cons_zero, List.getElem?_cons_succ, List.set_cons_zero, List.set_cons_succ, Nat.zero_add, List.append_nil, List.nil_append, List.cons_append, Int.reducePow, Int.reduceToNat, Int.zero_add, Int.cast_ofNat_Int, decide_true, decide_false, Bool.not_true, Bool.not_false, Bool.and_self, Bool.true_and, Bool.false_and, Bool.and_true, Nat.zero_max, Nat.max_zero, if_true, if_false, ite_true, ite_false, reduceIte, reduceCtorEq, Bool.false_eq_true, Bool.true_eq_false, or_true, true_or, and_true, true_and, or_false, false_or, Nat.reduceLT, Nat.reduceAdd, Nat.reduceLeDiff, Int.reduceLT, Int.reduceLE, Int.reduceAdd, Nat.zero_lt_succ, beq_self_eq_true, decide_eq_true_eq, gc_self, bel_non, bel_bl, bel_int, bel_str, bel_tup, bel_fzl, bels_nil, bels_cons, List.cons.injEq, Nat.reduceEqDiff, and_false, false_and, eq_self, List.any_cons, List.any_nil, Bool.or_false, Bool.false_or, Bool.true_or, Bool.or_true, atI4, Int.ofNat_zero, Int.natCast_zero, Int.natCast_one, Int.natCast_succ, decide_not, $xs,*] $[$l:location]?)
/-! the law's own -/
theorem parts_run (k : Nat) (f : Fm) (S : Store) : callB (callK prog k) f__law_parts [enc f] S = some (.ok (.fzl ((parts f).map enc)), S) := by
  rw [callB_of _ _ _ _ rfl (by decide)]
  show endC false S (exSs _ f__law_parts.body [some (enc f)] S) = _
  cases f with
  | rel x as => simp! only [f__law_parts, enc, parts]
  | cmp w a b => cases w <;> simp! only [f__law_parts, enc, parts]
  | not f => simp! only [f__law_parts, enc, parts, bel_enc]
  | con w fs => cases w <;> simp! only [f__law_parts, enc, parts, bel_encm, encs_map]
  | qu w vs f => cases w <;> simp! only [f__law_parts, enc, parts, bel_enc]
  | fix w r vs f gs => cases w <;> simp! only [f__law_parts, enc, parts, bel_enc]
  | tc vs f gs => simp! only [f__law_parts, enc, parts, bel_enc]
  | gue r k f => simp! only [f__law_parts, enc, parts, bel_enc]
theorem count_core (cl : Cl) (E : D) (ps : List D) (l : List Int) (S : Store) (h1 : cl.fn "_law_parts" [E] S = some (.ok (.fzl ps), S)) (hc : compL [] (oneL cl (.call "_law_count" [.var 1]) (.nm 1) [] [1] [some E, none]) ps [] S = some (.ok (l.map .int), S)) :
    callB cl f__law_count [E] S = some (.ok (.int (1 + l.sum)), S) := by
  rw [callB_of _ _ _ _ rfl (by decide)]
  show endC false S (exSs _ f__law_count.body [some E, none] S) = _
  simp! only [f__law_count, h1, hc]
theorem sizs_sum : ∀ fs : List Fm, (fs.map fun f => (siz f : Int)).sum = (sizs fs : Int)
  | [] => by simp [sizs]
  | f :: fs => by rw [List.map_cons, List.sum_cons, sizs_sum fs, sizs]; omega
theorem count_run : ∀ (k : Nat) (f : Fm), dep f ≤ k → Wf f → ∀ (L : Nat), k < L → ∀ S, callB (callK prog L) f__law_count [enc f] S = some (.ok (.int (siz f : Int)), S) := by
  intro k
  induction k with
  | zero => intro f hd; have := dep_pos f; omega
  | succ k ih =>
    intro f hd hw L hL S
    obtain ⟨L, rfl⟩ : ∃ L', L = L' + 1 := ⟨L - 1, by omega⟩
    have hlen := wf_parts hw
    have hc : compL [] (oneL (callK prog (L + 1)) (.call "_law_count" [.var 1]) (.nm 1) [] [1] [some (enc f), none]) ((parts f).map enc) [] S = some (.ok ((((parts f).map fun p => (siz p : Int))).map .int), S) := by
      rw [compL_map enc (fun p => .int (siz p : Int)) S (parts f) [] ?_ (by unfold szl; simp; omega)]
      · simp
      · intro p hp
        have h : (callK prog (L + 1)).fn "_law_count" [enc p] S = some (.ok (.int (siz p : Int)), S) := by
          rw [F__law_count]
          exact ih p (by have := dep_part hp; omega) (wf_part hw hp) L (by omega) S
        simp! only [wipeE, h]
    rw [count_core _ _ _ _ S (by rw [F__law_parts]; exact parts_run L f S) hc, sizs_sum]
    have e : (1 : Int) + (sizs (parts f) : Int) = (siz f : Int) := by rw [siz_parts f]; omega
    rw [e]
theorem li_nn (cl : Cl) (F G : D) (S : Store) (h : cl.fn "_law_inward" [F] S = some (.ok G, S)) (hb : ∀ n, D.bel n G = true) : callB cl f__law_inward [.tup [.str wNot, .tup [.str wNot, F]]] S = some (.ok G, S) := by
  rw [callB_of _ _ _ _ rfl (by decide)]
  show endC false S (exSs _ f__law_inward.body [some (.tup [.str wNot, .tup [.str wNot, F]]), none, none, none] S) = _
  simp! only [f__law_inward, h, hb]
theorem li_nc (cl : Cl) (w : Bool) (ps Fs : List D) (S : Store) (hb : ∀ n, D.bels n Fs = true)
    (hc : compL [] (oneL cl (.call "_law_inward" [.tup [.str wNot, .var 3]]) (.nm 3) [] [3] [some (.tup [.str wNot, .tup [.str (if w then wAnd else wOr), .tup ps]]), some (.tup [.str (if w then wAnd else wOr), .tup ps]), some (.str (if w then wOr else wAnd)), none]) ps [] S = some (.ok Fs, S)) :
    callB cl f__law_inward [.tup [.str wNot, .tup [.str (if w then wAnd else wOr), .tup ps]]] S = some (.ok (.tup [.str (if w then wOr else wAnd), .tup Fs]), S) := by
  rw [callB_of _ _ _ _ rfl (by decide)]
  show endC false S (exSs _ f__law_inward.body [some (.tup [.str wNot, .tup [.str (if w then wAnd else wOr), .tup ps]]), none, none, none] S) = _
  have hit : ∀ S, view (.fzl Fs) S = some (.ok (.fzl Fs), S) := fun _ => rfl
  cases w <;> simp only [Bool.false_eq_true, if_false, if_true] at hc <;> simp! only [f__law_inward, hc, hb, hit]
theorem li_nq (cl : Cl) (w : Bool) (V F G : D) (S : Store) (hv : ∀ n, D.bel n V = true) (hb : ∀ n, D.bel n G = true) (h : cl.fn "_law_inward" [.tup [.str wNot, F]] S = some (.ok G, S)) :
    callB cl f__law_inward [.tup [.str wNot, .tup [.str (if w then wSome else wAll), V, F]]] S = some (.ok (.tup [.str (if w then wAll else wSome), V, G]), S) := by
  rw [callB_of _ _ _ _ rfl (by decide)]
  show endC false S (exSs _ f__law_inward.body [some (.tup [.str wNot, .tup [.str (if w then wSome else wAll), V, F]]), none, none, none] S) = _
  cases w <;> simp! only [f__law_inward, h, hv, hb]
theorem li_no (cl : Cl) (w : Tx) (hw : w = wRel ∨ w = wEq ∨ w = wLess ∨ w = wLfp ∨ w = wPfp ∨ w = wTc ∨ w = wGue) (r : List D) (G : D) (S : Store) (hb : ∀ n, D.bel n G = true) (h : cl.fn "_law_inward" [.tup (.str w :: r)] S = some (.ok G, S)) :
    callB cl f__law_inward [.tup [.str wNot, .tup (.str w :: r)]] S = some (.ok (.tup [.str wNot, G]), S) := by
  rw [callB_of _ _ _ _ rfl (by decide)]
  show endC false S (exSs _ f__law_inward.body [some (.tup [.str wNot, .tup (.str w :: r)]), none, none, none] S) = _
  rcases hw with rfl | rfl | rfl | rfl | rfl | rfl | rfl <;> simp! only [f__law_inward, h, hb]
theorem li_con (cl : Cl) (w : Bool) (ps Fs : List D) (S : Store) (hb : ∀ n, D.bels n Fs = true)
    (hc : compL [] (oneL cl (.call "_law_inward" [.var 3]) (.nm 3) [] [3] [some (.tup [.str (if w then wAnd else wOr), .tup ps]), none, none, none]) ps [] S = some (.ok Fs, S)) :
    callB cl f__law_inward [.tup [.str (if w then wAnd else wOr), .tup ps]] S = some (.ok (.tup [.str (if w then wAnd else wOr), .tup Fs]), S) := by
  rw [callB_of _ _ _ _ rfl (by decide)]
  show endC false S (exSs _ f__law_inward.body [some (.tup [.str (if w then wAnd else wOr), .tup ps]), none, none, none] S) = _
  have hit : ∀ S, view (.fzl Fs) S = some (.ok (.fzl Fs), S) := fun _ => rfl
  cases w <;> simp only [Bool.false_eq_true, if_false, if_true] at hc <;> simp! only [f__law_inward, hc, hb, hit]
theorem c32 {α : Type} (a b c : α) : cut [a, b, c] none (some 2) = [a, b] := rfl
theorem c33 {α : Type} (a b c : α) : cut [a, b, c] (some 3) none = [] := rfl
theorem c42 {α : Type} (a b c d : α) : cut [a, b, c, d] none (some 2) = [a, b] := rfl
theorem c43 {α : Type} (a b c d : α) : cut [a, b, c, d] (some 3) none = [d] := rfl
theorem c43' {α : Type} (a b c d : α) : cut [a, b, c, d] none (some 3) = [a, b, c] := rfl
theorem c44 {α : Type} (a b c d : α) : cut [a, b, c, d] (some 4) none = [] := rfl
theorem c53 {α : Type} (a b c d e : α) : cut [a, b, c, d, e] none (some 3) = [a, b, c] := rfl
theorem c54 {α : Type} (a b c d e : α) : cut [a, b, c, d, e] (some 4) none = [e] := rfl
theorem szs : ((4 : Nat) ≤ szl) = True ∧ ((3 : Nat) ≤ szl) = True ∧ ((5 : Nat) ≤ szl) = True := by
  refine ⟨eq_true ?_, eq_true ?_, eq_true ?_⟩ <;> decide
theorem li_qu (cl : Cl) (w : Bool) (V F G : D) (S : Store) (hv : ∀ n, D.bel n V = true) (hb : ∀ n, D.bel n G = true) (h : cl.fn "_law_inward" [F] S = some (.ok G, S)) :
    callB cl f__law_inward [.tup [.str (if w then wSome else wAll), V, F]] S = some (.ok (.tup [.str (if w then wSome else wAll), V, G]), S) := by
  rw [callB_of _ _ _ _ rfl (by decide)]
  show endC false S (exSs _ f__law_inward.body [some (.tup [.str (if w then wSome else wAll), V, F]), none, none, none] S) = _
  obtain ⟨z4, z3, z5⟩ := szs
  cases w <;> simp! only [f__law_inward, h, hv, hb, c32, c33, z3, z4, z5]
theorem li_tc (cl : Cl) (V F G A : D) (S : Store) (hv : ∀ n, D.bel n V = true) (hA : ∀ n, D.bel n A = true) (hb : ∀ n, D.bel n G = true) (h : cl.fn "_law_inward" [F] S = some (.ok G, S)) :
    callB cl f__law_inward [.tup [.str wTc, V, F, A]] S = some (.ok (.tup [.str wTc, V, G, A]), S) := by
  rw [callB_of _ _ _ _ rfl (by decide)]
  show endC false S (exSs _ f__law_inward.body [some (.tup [.str wTc, V, F, A]), none, none, none] S) = _
  obtain ⟨z4, z3, z5⟩ := szs
  simp! only [f__law_inward, h, hv, hb, hA, c42, c43, z3, z4, z5]
theorem li_gue (cl : Cl) (V K F G : D) (S : Store) (hv : ∀ n, D.bel n V = true) (hK : ∀ n, D.bel n K = true) (hb : ∀ n, D.bel n G = true) (h : cl.fn "_law_inward" [F] S = some (.ok G, S)) :
    callB cl f__law_inward [.tup [.str wGue, V, K, F]] S = some (.ok (.tup [.str wGue, V, K, G]), S) := by
  rw [callB_of _ _ _ _ rfl (by decide)]
  show endC false S (exSs _ f__law_inward.body [some (.tup [.str wGue, V, K, F]), none, none, none] S) = _
  obtain ⟨z4, z3, z5⟩ := szs
  simp! only [f__law_inward, h, hv, hb, hK, c43', c44, z3, z4, z5]
theorem li_fix (cl : Cl) (w : Bool) (R V F G A : D) (S : Store) (hR : ∀ n, D.bel n R = true) (hv : ∀ n, D.bel n V = true) (hA : ∀ n, D.bel n A = true) (hb : ∀ n, D.bel n G = true) (h : cl.fn "_law_inward" [F] S = some (.ok G, S)) :
    callB cl f__law_inward [.tup [.str (if w then wLfp else wPfp), R, V, F, A]] S = some (.ok (.tup [.str (if w then wLfp else wPfp), R, V, G, A]), S) := by
  rw [callB_of _ _ _ _ rfl (by decide)]
  show endC false S (exSs _ f__law_inward.body [some (.tup [.str (if w then wLfp else wPfp), R, V, F, A]), none, none, none] S) = _
  obtain ⟨z4, z3, z5⟩ := szs
  cases w <;> simp! only [f__law_inward, h, hR, hv, hb, hA, c53, c54, z3, z4, z5]
theorem li_atom (cl : Cl) (w : Tx) (hw : w = wRel ∨ w = wEq ∨ w = wLess) (a b : D) (S : Store) (ha : ∀ n, D.bel n a = true) (hb : ∀ n, D.bel n b = true) :
    callB cl f__law_inward [.tup [.str w, a, b]] S = some (.ok (.tup [.str w, a, b]), S) := by
  rw [callB_of _ _ _ _ rfl (by decide)]
  show endC false S (exSs _ f__law_inward.body [some (.tup [.str w, a, b]), none, none, none] S) = _
  rcases hw with rfl | rfl | rfl <;> simp! only [f__law_inward, ha, hb]
theorem one_li (cl : Cl) (E G d : D) (a b c : Option D) (S : Store) (hf : cl.fn "_law_inward" [d] S = some (.ok G, S)) : oneL cl (.call "_law_inward" [.var 3]) (.nm 3) [] [3] [some E, a, b, c] d S = some (.ok (some G), S) := by
  simp! only [wipeE, hf]
theorem one_lin (cl : Cl) (E G d : D) (a b c : Option D) (S : Store) (hf : cl.fn "_law_inward" [.tup [.str wNot, d]] S = some (.ok G, S)) : oneL cl (.call "_law_inward" [.tup [.str wNot, .var 3]]) (.nm 3) [] [3] [some E, a, b, c] d S = some (.ok (some G), S) := by
  simp! only [wipeE, hf]
theorem mv_not (e : Bool) (f : Fm) : mv e (.not f) = mv (!e) f := by rw [mv]
theorem linward_run : ∀ (k : Nat) (f : Fm), dep f ≤ k → Wf f → ∀ (L : Nat), k < L → ∀ S, callB (callK prog L) f__law_inward [enc f] S = some (.ok (enc (mv true f)), S) := by
  intro k
  induction k with
  | zero => intro f hd; have := dep_pos f; omega
  | succ k ih =>
    intro f hd hw L hL S
    obtain ⟨L, rfl⟩ : ∃ L', L = L' + 1 := ⟨L - 1, by omega⟩
    have hf : ∀ (p : Fm), dep p ≤ k → Wf p → (callK prog (L + 1)).fn "_law_inward" [enc p] S = some (.ok (enc (mv true p)), S) := fun p hp hwp => by
      rw [F__law_inward]
      exact ih p hp hwp L (by omega) S
    have hlen := wf_parts hw
    have be : ∀ (g : Fm) n, D.bel n (enc g) = true := fun g n => bel_enc n g
    have bt : ∀ (g : List Tx) n, D.bel n (tX g) = true := fun g n => bel_tX n g
    have bs : ∀ (g : Tx) n, D.bel n (.str g) = true := fun g n => bel_str n g
    cases f with
    | rel x as => exact li_atom _ wRel (.inl rfl) _ _ S (bs _) (bt _)
    | cmp w a b => cases w
                   · exact li_atom _ wLess (.inr (.inr rfl)) _ _ S (bs _) (bs _)
                   · exact li_atom _ wEq (.inr (.inl rfl)) _ _ S (bs _) (bs _)
    | con w fs =>
      have hw2 := hw.2
      simp only [dep] at hd
      simp only [parts] at hlen
      have hc : compL [] (oneL (callK prog (L + 1)) (.call "_law_inward" [.var 3]) (.nm 3) [] [3] [some (.tup [.str (if w then wAnd else wOr), .tup (fs.map enc)]), none, none, none]) (fs.map enc) [] S = some (.ok ((fs.map (mv true)).map enc), S) := by
        rw [compL_map enc (fun p => enc (mv true p)) S fs [] ?_ (by unfold szl; simp; omega)]
        · simp
        · intro p hp
          exact one_li _ _ _ _ _ _ _ S (hf p (by have := deps_mem hp; omega) (wfs_mem hw2 hp))
      have := li_con (callK prog (L + 1)) w (fs.map enc) ((fs.map (mv true)).map enc) S (fun n => bel_encm n _) hc
      simp only [mv, enc, encs_map, mvs_map, if_true]
      exact this
    | qu w vs g =>
      have := li_qu (callK prog (L + 1)) w (tX vs) (enc g) _ S (bt _) (be _) (hf g (by simp only [dep] at hd; omega) hw.2)
      simp only [mv, enc, if_true]
      exact this
    | fix w r vs g gs =>
      have := li_fix (callK prog (L + 1)) w (.str r) (tX vs) (enc g) _ (tX gs) S (bs _) (bt _) (bt _) (be _) (hf g (by simp only [dep] at hd; omega) hw.2.2.2.2)
      simp only [mv, neg, enc, if_true]
      exact this
    | tc vs g gs =>
      have := li_tc (callK prog (L + 1)) (tX vs) (enc g) _ (tX gs) S (bt _) (bt _) (be _) (hf g (by simp only [dep] at hd; omega) hw.2.2.2.2)
      simp only [mv, neg, enc, if_true]
      exact this
    | gue r j g =>
      have := li_gue (callK prog (L + 1)) (.str r) (.int j) (enc g) _ S (bs _) (fun n => bel_int n _) (be _) (hf g (by simp only [dep] at hd; omega) hw.2.2)
      simp only [mv, neg, enc, if_true]
      exact this
    | not g =>
      simp only [dep] at hd
      have els : ∀ (w : Tx) (r : List D), (w = wRel ∨ w = wEq ∨ w = wLess ∨ w = wLfp ∨ w = wPfp ∨ w = wTc ∨ w = wGue) → enc g = .tup (.str w :: r) → mv true (.not g) = .not (mv true g) → callB (callK prog (L + 1)) f__law_inward [enc (.not g)] S = some (.ok (enc (mv true (.not g))), S) := by
        intro w r hww he hm
        have h := hf g (by omega) hw
        rw [hm, enc, enc, he]
        rw [he] at h
        exact li_no _ w hww r _ S (be _) h
      cases g with
      | rel x as => exact els wRel _ (.inl rfl) rfl (by simp [mv, neg])
      | cmp w a b => cases w
                     · exact els wLess _ (.inr (.inr (.inl rfl))) rfl (by simp [mv, neg])
                     · exact els wEq _ (.inr (.inl rfl)) rfl (by simp [mv, neg])
      | fix w r vs h gs => cases w
                           · exact els wPfp _ (by decide) rfl (by simp [mv, neg])
                           · exact els wLfp _ (by decide) rfl (by simp [mv, neg])
      | tc vs h gs => exact els wTc _ (by decide) rfl (by simp [mv, neg])
      | gue r j h => exact els wGue _ (by decide) rfl (by simp [mv, neg])
      | not h =>
        simp only [dep] at hd
        have := li_nn (callK prog (L + 1)) (enc h) _ S (hf h (by omega) hw) (be _)
        rw [mv_not, mv_not]
        exact this
      | con w fs =>
        have hw2 := hw.2
        have hw1 := hw.1
        simp only [dep] at hd
        have hc : compL [] (oneL (callK prog (L + 1)) (.call "_law_inward" [.tup [.str wNot, .var 3]]) (.nm 3) [] [3] [some (.tup [.str wNot, .tup [.str (if w then wAnd else wOr), .tup (fs.map enc)]]), some (.tup [.str (if w then wAnd else wOr), .tup (fs.map enc)]), some (.str (if w then wOr else wAnd)), none]) (fs.map enc) [] S = some (.ok ((fs.map (mv false)).map enc), S) := by
          rw [compL_map enc (fun p => enc (mv false p)) S fs [] ?_ (by unfold szl; simp; omega)]
          · simp
          · intro p hp
            have h := hf (.not p) (by have := deps_mem hp; simp only [dep]; omega) (show Wf p from wfs_mem hw2 hp)
            rw [mv_not, enc] at h
            exact one_lin _ _ _ _ _ _ _ S h
        have := li_nc (callK prog (L + 1)) w (fs.map enc) ((fs.map (mv false)).map enc) S (fun n => bel_encm n _) hc
        cases w <;> simpa [mv, enc, encs_map, mvs_map] using this
      | qu w vs h =>
        simp only [dep] at hd
        have h2 := hf (.not h) (by simp only [dep]; omega) hw.2
        rw [mv_not, enc] at h2
        have := li_nq (callK prog (L + 1)) w (tX vs) (enc h) _ S (bt _) (be _) h2
        cases w <;> simpa [mv, enc] using this
/-! drawn negations -/
structure Ng (f f' : Fm) : Prop where
  a : ∀ sig bd, AOk sig bd f → AOk sig bd f'
  w : Wf f → Wf f'
  o : FO f → FO f'
  d : dep f' ≤ 2 * dep f
  s : siz f' ≤ 2 * siz f
  c : (f' = f ∨ ∃ g, f' = .not g) ∨ True
theorem ng_draw (cl : Cl) (F : D) (a : Option D) (v : Int) (S S1 : Store) (e : cl.fn "_law_draw" [.loc 0] S = some (.ok (.int v), S1)) : exSs cl (f__law_negated.body.drop 1) [some (.loc 0), some F, a] S = some (.rt (if v % 3 = 0 then .tup [.str wNot, F] else F), S1) := by
  have h03 : (0 : Int) < 3 := by decide
  by_cases q : v % 3 = 0
  · simp! only [f__law_negated, List.drop, e, h03, q]
  · simp! only [f__law_negated, List.drop, e, h03, q]
theorem ng_con (cl : Cl) (w : Bool) (ps Fs : List D) (S S1 : Store) (hc : compL [] (oneL cl (.call "_law_negated" [.var 0, .var 2]) (.nm 2) [] [2] [some (.loc 0), some (.tup [.str (if w then wAnd else wOr), .tup ps]), none]) ps [] S = some (.ok Fs, S1)) :
    exSs cl f__law_negated.body [some (.loc 0), some (.tup [.str (if w then wAnd else wOr), .tup ps]), none] S = exSs cl (f__law_negated.body.drop 1) [some (.loc 0), some (.tup [.str (if w then wAnd else wOr), .tup Fs]), none] S1 := by
  have hit : ∀ S, view (.fzl Fs) S = some (.ok (.fzl Fs), S) := fun _ => rfl
  cases w <;> simp only [Bool.false_eq_true, if_false, if_true] at hc <;> simp! only [f__law_negated, List.drop, hc, hit]
theorem ng_qu (cl : Cl) (w : Bool) (V F G : D) (S S1 : Store) (h : cl.fn "_law_negated" [.loc 0, F] S = some (.ok G, S1)) :
    exSs cl f__law_negated.body [some (.loc 0), some (.tup [.str (if w then wSome else wAll), V, F]), none] S = exSs cl (f__law_negated.body.drop 1) [some (.loc 0), some (.tup [.str (if w then wSome else wAll), V, G]), none] S1 := by
  cases w <;> simp! only [f__law_negated, List.drop, h]
theorem ng_else (cl : Cl) (w : Tx) (hw : w = wRel ∨ w = wEq ∨ w = wLess ∨ w = wNot ∨ w = wLfp ∨ w = wPfp ∨ w = wTc ∨ w = wGue) (r : List D) (S : Store) :
    exSs cl f__law_negated.body [some (.loc 0), some (.tup (.str w :: r)), none] S = exSs cl (f__law_negated.body.drop 1) [some (.loc 0), some (.tup (.str w :: r)), none] S := by
  rcases hw with rfl | rfl | rfl | rfl | rfl | rfl | rfl | rfl <;> simp! only [f__law_negated, List.drop]
theorem one_ng (cl : Cl) (E G d : D) (S S1 : Store) (hf : cl.fn "_law_negated" [.loc 0, d] S = some (.ok G, S1)) : oneL cl (.call "_law_negated" [.var 0, .var 2]) (.nm 2) [] [2] [some (.loc 0), some E, none] d S = some (.ok (some G), S1) := by
  simp! only [wipeE, hf]
/-- turns that draw, one formula for another -/
theorem compL_fm {H : Nat → Cell} {one : D → M (Option D)} (R : Fm → Fm → Prop) : ∀ (fs : List Fm) (acc : List D) (t : Nat), (∀ f ∈ fs, ∀ t, ∃ f' t', one (enc f) [H t] = some (.ok (some (enc f')), [H t']) ∧ R f f') → acc.length + fs.length ≤ szl →
    ∃ (fs' : List Fm) (t' : Nat), compL [] one (fs.map enc) acc [H t] = some (.ok (acc ++ fs'.map enc), [H t']) ∧ fs'.length = fs.length ∧ ∀ (j : Nat) f, fs[j]? = some f → ∃ f', fs'[j]? = some f' ∧ R f f'
  | [], acc, t, _, _ => ⟨[], t, by simp [compL, stays], rfl, by simp⟩
  | f :: fs, acc, t, h, hl => by
    simp only [List.length_cons] at hl
    obtain ⟨f', t', e, q⟩ := h f (by simp) t
    obtain ⟨fs', t2, e2, l2, q2⟩ := compL_fm R fs (acc ++ [enc f']) t' (fun d hd => h d (by simp [hd])) (by simp; omega)
    have ha : acc.length < szl := by omega
    refine ⟨f' :: fs', t2, ?_, by simp [l2], ?_⟩
    · simp only [List.map_cons, compL, stays, List.all_nil, if_true, e, ha, e2]
      simp
    · intro j g hg
      cases j with
      | zero => simp at hg; subst hg; exact ⟨f', rfl, q⟩
      | succ j => exact q2 j g (by simpa using hg)
inductive All2 (R : Fm → Fm → Prop) : List Fm → List Fm → Prop
  | nil : All2 R [] []
  | cons {f f' : Fm} {fs fs' : List Fm} : R f f' → All2 R fs fs' → All2 R (f :: fs) (f' :: fs')
theorem ngs {R : Fm → Fm → Prop} : ∀ {fs fs' : List Fm}, fs'.length = fs.length → (∀ (j : Nat) f, fs[j]? = some f → ∃ f', fs'[j]? = some f' ∧ R f f') → All2 R fs fs'
  | [], [], _, _ => .nil
  | f :: fs, f' :: fs', hl, h => by
    obtain ⟨g, hg, r⟩ := h 0 f rfl
    have hg : f' = g := by simpa using hg
    subst hg
    exact .cons r (ngs (by simpa using hl) fun j f hf => h (j + 1) f (by simpa using hf))
  | [], _ :: _, hl, _ => by simp at hl
  | _ :: _, [], hl, _ => by simp at hl
theorem ng_list : ∀ {fs fs' : List Fm}, All2 Ng fs fs' → (∀ sig bd, AOks sig bd fs → AOks sig bd fs') ∧ (Wfs fs → Wfs fs') ∧ (FOs fs → FOs fs') ∧ deps fs' ≤ 2 * deps fs ∧ sizs fs' ≤ 2 * sizs fs
  | _, _, .nil => ⟨fun _ _ h => h, id, id, by simp [deps], by simp [sizs]⟩
  | _, _, .cons r h => by
    obtain ⟨h1, h2, h3, h4, h5⟩ := ng_list h
    refine ⟨fun sig bd q => ⟨r.a sig bd q.1, h1 sig bd q.2⟩, fun q => ⟨r.w q.1, h2 q.2⟩, fun q => ⟨r.o q.1, h3 q.2⟩, ?_, ?_⟩
    · have := r.d
      simp only [deps]
      omega
    · have := r.s
      simp only [sizs]
      omega
end Mi

set_option autoImplicit true
set_option maxRecDepth 512
set_option maxHeartbeats 200000
set_option Elab.async false
set_option autoImplicit false
set_option linter.unusedSimpArgs false
set_option linter.unusedVariables false
namespace Mi
open M
set_option maxRecDepth 100000
local macro_rules | `(tactic| simp! only [$xs,*] $[$l:location]?) => `(tactic| simp only [↓ev_fld_at, ↓ev_meth_at, ↓ev_new_at, ↓ex_asgFld_at, methK_at, methK2_at, methK3_at, newK_at, newM_at, isNonM_at, asgFldK_at, asgFldK2_at, fldM_at, fldF, setFldM_at, setFldC, clsM_at, clsF, lookN, putFd, flOk, ↓for_at, forS_at, lcS_at, ↓ev_non_at, ↓ev_bl_at, ↓ev_int_at, ↓ev_str_at, ↓ev_var_at, ↓ev_glob_at, ↓ev_op_at, ↓ev_neg_at, ↓ev_cmp_at, ↓ev_chain_at, ↓ev_not_at, ↓ev_and_at, ↓ev_or_at, ↓ev_ite_at, ↓ev_tup_at, ↓ev_lst_at, ↓ev_flst_at, ↓ev_dct_at, ↓ev_fslice_at, ↓ev_lenset_at, flstK_at, fslK_at, fslK2_at, lcR_t, lcR_f, lcR_ex, ↓ex_augFld_at, augFldK_at, augFldK2_at, augFldK3_at, augFldK4_at, ↓ex_try_at, tryR_nx, tryR_rt, viewK_at, view_loc, view_non, view_bl, view_int, view_str, view_tup, view_fzl, view_fzd, view_fzo, viewC, indexM_at, indexF_tup, indexF_fzl, indexF_str, indexF_fzd, sliceM_at, sliceF_tup, sliceF_fzl, sliceF_str, sliceP_at, slicePF, eqK_at, eqK2_at, eqM_at, inM_at, inF, nbnK_at, cmp_eq_at, cmp_ne_at, cmp_in_at, cmp_nin_at, cmp_lt_at, cmp_le_at, cmp_gt_at, cmp_ge_at, cmp_is_at, cmp_isnt_at, addL_at, addI_at, lenM_at, lenF_str, lenF_tup, lenF_fzl, listM_at, flistM_at, tupleM_at, itemsF_tup, itemsF_fzl, lstF_fzl, sumK_at, sumK2_at, sumM_at, intsO_map, setIxM_at, setIxL_at, setIxD_at, putIxK_at, append_at, appC, dctU, lstU, someC, extend_at, extC, extF, pop_at, popC, popAt_at, popAtC_at, popAtK2_at, popAtK3_at, retKM_at, sdf_at, sdfC_at, sdfO_some, sdfO_none, get1_at, getF, isDct_at, isLst_at, isD_at, isDF, dict_at, dictC, truthy_loc, intF, max2F, min2F, endC_nx, endC_rt, endC_rtP, endC_ex, gc_bl, gc_int, gc_str, gc_non, ↓ev_ix_at, ↓ev_slice_at, ↓ev_call_at, ↓ev_bi_at, ↓ev_mt_at, ↓ev_isi_at, ↓ev_lc_at, ↓evs_nil_at, ↓evs_cons_at, ↓evo_none_at, ↓evo_some_at, ↓evc_nil_at, ↓evc_cons_at, ↓ex_asg_at, ↓ex_asgIx_at, ↓ex_aug_at, ↓ex_expr_at, ↓ex_ite_at, ↓ex_ret_at, ↓ex_retN_at, ↓ex_raise_at, ↓ex_brk_at, ↓ex_cont_at, ↓ex_pass_at, ↓ex_while_at, ↓exs_nil_at, ↓exs_cons_at, asgK_at, asgR_ok, goOn_at, augK1_at, augK2_at, augK3_at, asgIxK_at, asgIxK2_at, asgIxK3_at, blK_at, nbK_at, opK_at, cmpK_at, cmpK2_at, chK_at, chK2_at, chK3_t, chK3_f, notK_at, andK_at, andK2_t, andK2_f, orK_at, orK2_t, orK2_f, ifK_at, ifK2_t, ifK2_f, tupK_at, lstK_at, ixK_at, slK_at, slK2_at, mtK_at, mtK2_at, isiK_at, consK_at, consK2_at, csK_at, csK2_t, csK2_f, someK_at, eltK_t, eltK_f, oneK_at, oneL_at, seqK_at, iteK_t, iteK_f, retS_at, noexR_ok, negM, intM, ↓msB_at, ↓msS_at, msB_ok, msB_ex, msS_msS, msS_nx, msS_rt, msS_ex, msS_bk, msS_ct, truthy_non, truthy_bl, truthy_int, truthy_str, truthy_tup, truthy_fzl, ↓bnd_at, bndR_ok, bndR_ex, of_some, ret_at, binop, iopM, ↓need_at, bindT, bindTs, biM, get_at, put_at, new_at, ↓isi_cons_at, isi_nil_at, isiR_t, isiR_f, isTy_non, isTy_bl, isTy_int, isTy_str, isTy_tup, isTy_fzl, mtM, mtPre, upperM, isStr, itM, seq1, seqM_tup, seqM_fzl, seqM_scr, seqM_str, seqM_loc, lstS, rng1, rng2, D.isNon, D.flat, D.flats, D.deep, D.deeps, D.eqv, D.eqvs, Nat.zero_le, Nat.max_self, and_self, lt0, lt1, lt2, lt3, atI0, atI1, atI2, atI3, ixN0, ixN1, ixN2, ixN3, getc0, getc1, getc2, getc3, getc4, getc5, getc6, getc7, getc8, setc0, setc1, setc2, setc3, setc4, setc5, setc6, setc7, setc8, id, Option.join_some, Option.join, Option.bind, Option.map, List.map_cons, List.map_nil, List.length_map, List.length_cons, List.length_nil, List.getElem?_cons_zero, List.getElem?_cons_succ, List.set_cons_zero, List.set_cons_succ, Nat.zero_add, List.append_nil, List.nil_append, List.cons_append, Int.reducePow, Int.reduceToNat, Int.zero_add, Int.cast_ofNat_Int, decide_true, decide_false, Bool.not_true, Bool.not_false, Bool.and_self, Bool.true_and, Bool.false_and, Bool.and_true, Nat.zero_max, Nat.max_zero, if_true, if_false, ite_true, ite_false, reduceIte, reduceCtorEq, Bool.false_eq_true, Bool.true_eq_false, or_true, true_or, and_true, true_and, or_false, false_or, Nat.reduceLT, Nat.reduceAdd, Nat.reduceLeDiff, Int.reduceLT, Int.reduceLE, Int.reduceAdd, Nat.zero_lt_succ, beq_self_eq_true, decide_eq_true_eq, gc_self, bel_non, bel_bl, bel_int, bel_str, bel_tup, bel_fzl, bels_nil, bels_cons, List.cons.injEq, Nat.reduceEqDiff, and_false, false_and, eq_self, List.any_cons, List.any_nil, Bool.or_false, Bool.false_or, Bool.true_or, Bool.or_true, atI4, Int.ofNat_zero, Int.natCast_zero, Int.natCast_one, Int.natCast_succ, decide_not, $xs,*] $[$l:location]?)
structure N1 (f f1 : Fm) : Prop where
  a : ∀ sig bd, AOk sig bd f → AOk sig bd f1
  w : Wf f → Wf f1
  o : FO f → FO f1
  d : dep f1 + 1 ≤ 2 * dep f
  s : siz f1 + 1 ≤ 2 * siz f
theorem siz_pos (f : Fm) : 0 < siz f := by cases f <;> simp [siz]
theorem n1_self (f : Fm) : N1 f f := ⟨fun _ _ h => h, id, id, by have := dep_pos f; omega, by have := siz_pos f; omega⟩
theorem n1_ng {f f1 : Fm} (h : N1 f f1) (b : Bool) : Ng f (if b then .not f1 else f1) := by
  have := h.d
  have := h.s
  cases b
  · exact ⟨h.a, h.w, h.o, by simp; omega, by simp; omega, .inr trivial⟩
  · exact ⟨h.a, h.w, h.o, by simp [dep]; omega, by simp [siz]; omega, .inr trivial⟩
theorem negated_run {l : List Int} (hl : ∀ x ∈ l, 0 ≤ x) : ∀ (k : Nat) (f : Fm), dep f ≤ k → Wf f → ∀ (L : Nat), k + 4 ≤ L → ∀ t : Nat,
    ∃ (f' : Fm) (t' : Nat), callB (callK prog L) f__law_negated [.loc 0, enc f] [(fun t : Nat => Cell.lst [.fzl (l.map .int), .int (t : Int)]) t] = some (.ok (enc f'), [(fun t : Nat => Cell.lst [.fzl (l.map .int), .int (t : Int)]) t']) ∧ Ng f f' := by
  intro k
  induction k with
  | zero => intro f hd; have := dep_pos f; omega
  | succ k ih =>
    intro f hd hw L hL t
    obtain ⟨L, rfl⟩ : ∃ L', L = L' + 3 := ⟨L - 3, by omega⟩
    have r := dr_mk hl (L + 1)
    have ihL := fun (p : Fm) (h1 : dep p ≤ k) (h2 : Wf p) (t : Nat) => ih p h1 h2 (L + 2) (by omega) t
    clear ih
    generalize (fun t : Nat => Cell.lst [.fzl (l.map .int), .int (t : Int)]) = H at *
    have done : ∀ (f1 : Fm) (t1 : Nat), N1 f f1 → exSs (callK prog (L + 3)) f__law_negated.body [some (.loc 0), some (enc f), none] [H t] = exSs (callK prog (L + 3)) (f__law_negated.body.drop 1) [some (.loc 0), some (enc f1), none] [H t1] → ∃ (f' : Fm) (t' : Nat), callB (callK prog (L + 3)) f__law_negated [.loc 0, enc f] [H t] = some (.ok (enc f'), [H t']) ∧ Ng f f' := by
      intro f1 t1 hn he
      obtain ⟨v, v0, e⟩ := r.hD t1 []
      have h2 := ng_draw (callK prog (L + 3)) (enc f1) none v [H t1] [H (t1 + 1)] e
      refine ⟨if decide (v % 3 = 0) then .not f1 else f1, t1 + 1, ?_, n1_ng hn _⟩
      have h3 : (if v % 3 = 0 then D.tup [.str wNot, enc f1] else enc f1) = enc (if decide (v % 3 = 0) then .not f1 else f1) := by
        by_cases q : v % 3 = 0
        · simp only [q, if_true, decide_true, enc]
        · simp only [q, if_false, decide_false, Bool.false_eq_true]
      rw [callB_of _ _ _ _ rfl (by decide)]
      show endC false _ (exSs _ f__law_negated.body [some (.loc 0), some (enc f), none] _) = _
      rw [he, h2, h3, endC_rt, gcH r t (t1 + 1) _ [] (bel_enc _ _)]
    have els : ∀ (w : Tx) (q : List D), (w = wRel ∨ w = wEq ∨ w = wLess ∨ w = wNot ∨ w = wLfp ∨ w = wPfp ∨ w = wTc ∨ w = wGue) → enc f = .tup (.str w :: q) → ∃ (f' : Fm) (t' : Nat), callB (callK prog (L + 3)) f__law_negated [.loc 0, enc f] [H t] = some (.ok (enc f'), [H t']) ∧ Ng f f' := by
      intro w q hww he
      refine done f t (n1_self f) ?_
      rw [he]
      exact ng_else _ w hww q _
    cases f with
    | rel x as => exact els wRel _ (.inl rfl) rfl
    | cmp w a b => cases w
                   · exact els wLess _ (.inr (.inr (.inl rfl))) rfl
                   · exact els wEq _ (.inr (.inl rfl)) rfl
    | not f => exact els wNot _ (.inr (.inr (.inr (.inl rfl)))) rfl
    | fix w r vs h gs => cases w
                         · exact els wPfp _ (by decide) rfl
                         · exact els wLfp _ (by decide) rfl
    | tc vs h gs => exact els wTc _ (by decide) rfl
    | gue r j h => exact els wGue _ (by decide) rfl
    | con w fs =>
      have hw2 := hw.2
      have hw1 := hw.1
      simp only [dep] at hd
      obtain ⟨fs', t', ec, hl2, hq⟩ := compL_fm (H := H) (one := oneL (callK prog (L + 3)) (.call "_law_negated" [.var 0, .var 2]) (.nm 2) [] [2] [some (.loc 0), some (.tup [.str (if w then wAnd else wOr), .tup (fs.map enc)]), none]) Ng fs [] t (fun p hp t => by
        obtain ⟨f', t', e, q⟩ := ihL p (by have := deps_mem hp; omega) (wfs_mem hw2 hp) t
        exact ⟨f', t', one_ng _ _ _ _ _ _ (by rw [F__law_negated]; exact e), q⟩) (by unfold szl; simp; omega)
      obtain ⟨h1, h2, h3, h4, h5⟩ := ng_list (ngs hl2 hq)
      rw [List.nil_append] at ec
      refine done (.con w fs') t' ⟨h1, fun q => ⟨by have := q.1; omega, h2 q.2⟩, h3, by simp only [dep]; omega, by simp only [siz]; omega⟩ ?_
      rw [enc, enc, encs_map, encs_map]
      exact ng_con _ w _ _ _ _ ec
    | qu w vs g =>
      simp only [dep] at hd
      obtain ⟨f', t', e, q⟩ := ihL g (by omega) hw.2 t
      have hd2 := q.d
      have hs2 := q.s
      refine done (.qu w vs f') t' ⟨q.a, fun z => ⟨z.1, q.w z.2⟩, q.o, by simp only [dep]; omega, by simp only [siz]; omega⟩ ?_
      rw [enc, enc]
      exact ng_qu _ w _ _ _ _ _ (by rw [F__law_negated]; exact e)
/-! the special formula -/
def spc (m k : Nat) : Fm := .not (.con true (List.replicate m (.con false (List.replicate k (.cmp true [120] [121])))))
theorem rep_flat (a : D) : ∀ k : Nat, (List.replicate k [a]).flatten = List.replicate k a
  | 0 => rfl
  | k + 1 => by rw [List.replicate_succ, List.flatten_cons, rep_flat a k, List.replicate_succ]; rfl
theorem wfs_rep {f : Fm} (h : Wf f) : ∀ m, Wfs (List.replicate m f)
  | 0 => trivial
  | m + 1 => by rw [List.replicate_succ]; exact ⟨h, wfs_rep h m⟩
theorem fos_rep {f : Fm} (h : FO f) : ∀ m, FOs (List.replicate m f)
  | 0 => trivial
  | m + 1 => by rw [List.replicate_succ]; exact ⟨h, fos_rep h m⟩
theorem aoks_rep {sig : Tx → Int} {f : Fm} (h : AOk sig [] f) : ∀ m, AOks sig [] (List.replicate m f)
  | 0 => trivial
  | m + 1 => by rw [List.replicate_succ]; exact ⟨h, aoks_rep h m⟩
theorem deps_rep (f : Fm) : ∀ m, deps (List.replicate m f) ≤ dep f
  | 0 => by simp [deps]
  | m + 1 => by have := deps_rep f m; rw [List.replicate_succ, deps]; omega
theorem sizs_rep (f : Fm) : ∀ m, sizs (List.replicate m f) = m * siz f
  | 0 => by simp [sizs]
  | m + 1 => by rw [List.replicate_succ, sizs, sizs_rep f m, Nat.add_mul]; omega
theorem goo_spc {m k : Nat} (hm : m ≤ 40) (hk : k ≤ 27) : Goo sig0 (spc m k) ∧ siz (spc m k) ≤ 2000 := by
  have w1 : Wf (.cmp true [120] [121]) := ⟨by decide, by decide⟩
  have w2 : Wf (.con false (List.replicate k (.cmp true [120] [121]))) := ⟨by simp; omega, wfs_rep w1 k⟩
  refine ⟨⟨?_, ⟨by simp; omega, wfs_rep w2 m⟩, fo_pos (spc m k) (fos_rep (f := .con false _) (fos_rep (f := .cmp _ _ _) trivial k) m), aoks_rep (f := .con false _) (aoks_rep (f := .cmp _ _ _) trivial k) m⟩, ?_⟩
  · have h1 := deps_rep (.con false (List.replicate k (.cmp true [120] [121]))) m
    have h2 := deps_rep (.cmp true [120] [121]) k
    simp only [spc, dep] at *
    omega
  · simp only [spc, siz, sizs_rep]
    have : m * (k * 1 + 1) ≤ 40 * 28 := Nat.mul_le_mul hm (by omega)
    omega
theorem enc_spc (m k : Nat) : enc (spc m k) = .tup [.str wNot, .tup [.str wAnd, .tup (List.replicate m (.tup [.str wOr, .tup (List.replicate k (.tup [.str wEq, .str [120], .str [121]]))]))]] := by
  simp only [spc, enc, encs_map, List.map_replicate, if_true, Bool.false_eq_true, if_false]
/-! the law -/
theorem lawA (cl : Cl) (sc L N F : D) (v0 v1 m : Int) (K : D) (S0 S1 S2 S3 S4 S5 : Store) (fo : Bool) (hK : (fo = true ∧ v0 % 2 = 0 ∧ K = KD2) ∨ (fo = false ∧ ¬ v0 % 2 = 0 ∧ K = KD))
    (e0 : cl.fn "_law_numbers" [sc] [] = some (.ok L, [])) (hS0 : [Cell.lst [L, .int 0]] = S0) (e1 : cl.fn "_law_draw" [.loc 0] S0 = some (.ok (.int v0), S1)) (e2 : cl.fn "_law_draw" [.loc 0] S1 = some (.ok (.int v1), S2)) (hm : 2 + v1 % 5 = m) (e3 : cl.fn "_law_names" [.loc 0] S2 = some (.ok N, S3))
    (e4 : cl.fn "_law_formula" [.loc 0, .int m, .fzl [.str [120], .str [121], .str [122]], N, K] S3 = some (.ok F, S4)) (F2 : D) (e5 : fo = true → cl.fn "_law_negated" [.loc 0, F] S4 = some (.ok F2, S5)) (e6 : fo = false → F2 = F ∧ S5 = S4) :
    exSs cl f_law.body [some sc, none, none, none, none, none, none] [] = exSs cl (f_law.body.drop 5) [some sc, some (.loc 0), some K, some F2, none, none, none] S5 := by
  have h05 : (0 : Int) < 5 := by decide
  have h02 : (0 : Int) < 2 := by decide
  rcases hK with ⟨rfl, hv, rfl⟩ | ⟨rfl, hv, rfl⟩
  · have e5 := e5 rfl
    unfold KD2 at *
    simp! only [f_law, List.drop, e0, hS0, e1, h05, h02, hv, e2, hm, e3, e4, e5]
  · obtain ⟨rfl, rfl⟩ := e6 rfl
    unfold KD at *
    have h62 : ((6 : Int) = 2) = False := eq_false (by decide)
    simp! only [f_law, List.drop, e0, hS0, e1, h05, h02, h62, hv, e2, hm, e3, e4]
theorem lawB1 (cl : Cl) (sc K F : D) (v : Int) (S S1 : Store) (e : cl.fn "_law_draw" [.loc 0] S = some (.ok (.int v), S1)) (h : ¬ v % 16 = 0) :
    exSs cl (f_law.body.drop 5) [some sc, some (.loc 0), some K, some F, none, none, none] S = exSs cl (f_law.body.drop 6) [some sc, some (.loc 0), some K, some F, none, none, none] S1 := by
  have h016 : (0 : Int) < 16 := by decide
  simp! only [f_law, List.drop, e, h016, h]
theorem lawB2 (cl : Cl) (sc K F R A : D) (v a b c : Int) (S S1 S2 S3 : Store) (e : cl.fn "_law_draw" [.loc 0] S = some (.ok (.int v), S1)) (h : v % 16 = 0) (e2 : cl.fn "_law_draw" [.loc 0] S1 = some (.ok (.int a), S2)) (e3 : cl.fn "_law_draw" [.loc 0] S2 = some (.ok (.int b), S3))
    (h1 : ∀ S, binop .mul (.tup [.tup [.str wEq, .str [120], .str [121]]]) (.int (20 + a % 8)) S = some (.ok R, S)) (h2 : ∀ S, binop .mul (.tup [.tup [.str wOr, R]]) (.int (34 + b % 7)) S = some (.ok A, S)) (hc : cl.fn "_law_count" [.tup [.str wNot, .tup [.str wAnd, A]]] S3 = some (.ok (.int c), S3)) (hc2 : ¬ 2000 < c) :
    exSs cl (f_law.body.drop 5) [some sc, some (.loc 0), some K, some F, none, none, none] S = exSs cl (f_law.body.drop 6) [some sc, some (.loc 0), some K, some (.tup [.str wNot, .tup [.str wAnd, A]]), some (.tup [.str wOr, R]), none, none] S3 := by
  have h016 : (0 : Int) < 16 := by decide
  have h08 : (0 : Int) < 8 := by decide
  have h07 : (0 : Int) < 7 := by decide
  simp! only [f_law, List.drop, e, h016, h08, h07, h, e2, e3, ↓h1, ↓h2, hc, hc2]
theorem lawC1 (cl : Cl) (sc K F G : D) (a : Option D) (c : Int) (S : Store) (h1 : cl.fn "_law_inward" [F] S = some (.ok G, S)) (h2 : cl.fn "_law_count" [G] S = some (.ok (.int c), S)) (hc : ¬ 2000 < c) (h3 : cl.fn "_law_told" [F] S = some (.ok G, S)) (h4 : cl.fn "_law_equal" [G, G] S = some (.ok (.bl true), S)) (h5 : cl.fn "_law_told" [G] S = some (.ok G, S)) :
    exSs cl (f_law.body.drop 6) [some sc, some (.loc 0), some K, some F, a, none, none] S = some (.rt (.bl true), S) := by
  simp! only [f_law, List.drop, h1, h2, hc, h3, h4, h5]
theorem lawC2 (cl : Cl) (sc K F G : D) (a : Option D) (c : Int) (S S1 : Store) (h1 : cl.fn "_law_inward" [F] S = some (.ok G, S)) (h2 : cl.fn "_law_count" [G] S = some (.ok (.int c), S)) (hc : 2000 < c) (h3 : cl.fn "_law_told" [F] S = some (.ok refL, S1)) (h4 : cl.fn "_law_equal" [refL, refL] S1 = some (.ok (.bl true), S1)) :
    exSs cl (f_law.body.drop 6) [some sc, some (.loc 0), some K, some F, a, none, none] S = some (.rt (.bl true), S1) := by
  have hr : refL = .tup [.str [114, 101, 102, 117, 115, 101, 100], .str [108, 97, 114, 103, 101]] := rfl
  rw [hr] at h3 h4
  simp! only [f_law, List.drop, h1, h2, hc, h3, h4]
theorem lawC {f : Fm} (g : Goo sig0 f) (hs : siz f ≤ 2000) (sc K : D) (a : Option D) (S : Store) : ∃ S', exSs (callK prog 200) (f_law.body.drop 6) [some sc, some (.loc 0), some K, some (enc f), a, none, none] S = some (.rt (.bl true), S') := by
  have gm := g.mv
  have hd := g.hd
  have hdm := gm.hd
  have h1 : (callK prog 200).fn "_law_inward" [enc f] S = some (.ok (enc (mv true f)), S) := by
    rw [F__law_inward]
    exact linward_run 40 f (by omega) g.hw 199 (by decide) S
  have h2 : (callK prog 200).fn "_law_count" [enc (mv true f)] S = some (.ok (.int (siz (mv true f) : Int)), S) := by
    rw [F__law_count]
    exact count_run 40 _ (by omega) gm.hw 199 (by decide) S
  by_cases q : siz (mv true f) ≤ 2000
  · have hh : siz (mv true (mv true f)) ≤ 2000 := by rw [mv_idem]; exact q
    have h5 := told_run gm q hh 199 (by decide) S
    rw [mv_idem] at h5
    exact ⟨S, lawC1 _ sc K _ _ a _ S h1 h2 (by omega) (by rw [F__law_told]; exact told_run g hs q 199 (by decide) S) (by rw [F__law_equal]; exact equal_fm _ (by omega) gm.hw 199 (by decide) S) (by rw [F__law_told]; exact h5)⟩
  · obtain ⟨S1, e⟩ := told_big g hs (by omega) 199 (by decide) S
    exact ⟨S1, lawC2 _ sc K _ _ a _ S S1 h1 h2 (by omega) (by rw [F__law_told]; exact e) (by rw [F__law_equal]; exact equal_self 1 refL (by decide) (by decide) (by decide) 199 (by decide) S1)⟩
theorem law_ok : ∀ ns : List Int, ns.length ≤ 63 → ∃ S', callB (callK prog 200) f_law [.scr (ns.map .int)] [] = some (.ok (.bl true), S') := by
  intro ns hns
  obtain ⟨l, hl, eN⟩ := numbers_run (callK prog 199) (callK prog 198) (F__law_mixed 198) ns hns
  have r := dr_mk hl 198
  have r9 := dr_mk hl 197
  have pl : PL [[120], [121], [122]] 3 (.fzl [.str [120], .str [121], .str [122]]) := pl_of [[120], [121], [122]] 3 rfl (by decide) (by decide) (by decide) (by decide)
  have hfr1 := formula_run pl kl_KD hl
  have hfr2 := formula_run pl kl_KD2 hl
  have hng := negated_run hl
  have h00 : [Cell.lst [.fzl (l.map .int), .int 0]] = [(fun t : Nat => Cell.lst [.fzl (l.map .int), .int (t : Int)]) 0] := rfl
  generalize (fun t : Nat => Cell.lst [.fzl (l.map .int), .int (t : Int)]) = H at *
  obtain ⟨v0, p0, e1⟩ := r.hD 0 []
  obtain ⟨v1, p1, e2⟩ := r.hD (0 + 1) []
  obtain ⟨d, hd, hd6, hd2⟩ : ∃ d : Nat, 2 + v1 % 5 = (d : Int) ∧ d ≤ 6 ∧ 2 ≤ d := ⟨(2 + v1 % 5).toNat, by omega, by omega, by omega⟩
  obtain ⟨nms, e3, hn3, hnl⟩ := names_run (callK prog 199) H r9 (0 + 1 + 1)
  have h3 : 3 ^ d ≤ 729 := Nat.pow_le_pow_right (n := 3) (by decide) hd6
  have hmx : max d 1 = d := by omega
  -- the formula as it is asked
  obtain ⟨K, f, t5, gf, hsf, eA⟩ : ∃ (K : D) (f : Fm) (t5 : Nat), Goo sig0 f ∧ siz f ≤ 2000 ∧ exSs (callK prog 200) f_law.body [some (.scr (ns.map .int)), none, none, none, none, none, none] [] = exSs (callK prog 200) (f_law.body.drop 5) [some (.scr (ns.map .int)), some (.loc 0), some K, some (enc f), none, none, none] [H t5] := by
    by_cases q : v0 % 2 = 0
    · obtain ⟨f, t4, e4, D⟩ := hfr2 d (2 + v1 % 5) hd nms (fun e he => ns3_ok e (hn3 e he)) (by omega) 199 (by omega) (0 + 1 + 1 + 1)
      rw [hmx] at D
      have hdd := D.dp
      have hss := D.sz
      obtain ⟨f', t5, e5, n⟩ := hng 6 f (by omega) D.w 199 (by omega) t4
      have hnd := n.d
      have hnsz := n.s
      refine ⟨KD2, f', t5, ⟨by omega, n.w D.w, fo_pos f' (n.o (D.k rfl)), n.a _ _ (aok_drawn sig0 f nms [] D.g fun e he => ns3_cons e (hn3 e he))⟩, by omega, ?_⟩
      exact lawA (callK prog 200) (.scr (ns.map .int)) _ (nsD nms) (enc f) v0 v1 _ KD2 _ _ _ _ _ [H t5] true (.inl ⟨rfl, q, rfl⟩) (by rw [F__law_numbers]; exact eN) h00 e1 e2 rfl (by rw [F__law_names]; exact e3) (by rw [F__law_formula]; exact e4) (enc f') (fun _ => by rw [F__law_negated]; exact e5) (fun z => by cases z)
    · obtain ⟨f, t4, e4, D⟩ := hfr1 d (2 + v1 % 5) hd nms (fun e he => ns3_ok e (hn3 e he)) (by omega) 199 (by omega) (0 + 1 + 1 + 1)
      rw [hmx] at D
      have hdd := D.dp
      have hss := D.sz
      refine ⟨KD, f, t4, ⟨by omega, D.w, pos_drawn f nms D.g, aok_drawn sig0 f nms [] D.g fun e he => ns3_cons e (hn3 e he)⟩, by omega, ?_⟩
      exact lawA (callK prog 200) (.scr (ns.map .int)) _ (nsD nms) (enc f) v0 v1 _ KD _ _ _ _ _ [H t4] false (.inr ⟨rfl, q, rfl⟩) (by rw [F__law_numbers]; exact eN) h00 e1 e2 rfl (by rw [F__law_names]; exact e3) (by rw [F__law_formula]; exact e4) (enc f) (fun z => by cases z) (fun _ => ⟨rfl, rfl⟩)
  -- the special one
  obtain ⟨v, v0', e6⟩ := r.hD t5 []
  have hB : ∃ (f2 : Fm) (a : Option D) (t6 : Nat), Goo sig0 f2 ∧ siz f2 ≤ 2000 ∧ exSs (callK prog 200) (f_law.body.drop 5) [some (.scr (ns.map .int)), some (.loc 0), some K, some (enc f), none, none, none] [H t5] = exSs (callK prog 200) (f_law.body.drop 6) [some (.scr (ns.map .int)), some (.loc 0), some K, some (enc f2), a, none, none] [H t6] := by
    by_cases q : v % 16 = 0
    · obtain ⟨a, a0, e7⟩ := r.hD (t5 + 1) []
      obtain ⟨b, b0, e8⟩ := r.hD (t5 + 1 + 1) []
      obtain ⟨k, hk, hk2, hk7⟩ : ∃ k : Nat, 20 + a % 8 = (k : Int) ∧ 20 ≤ k ∧ k ≤ 27 := ⟨(20 + a % 8).toNat, by omega, by omega, by omega⟩
      obtain ⟨m, hm, hm2, hm4⟩ : ∃ m : Nat, 34 + b % 7 = (m : Int) ∧ 34 ≤ m ∧ m ≤ 40 := ⟨(34 + b % 7).toNat, by omega, by omega, by omega⟩
      obtain ⟨g1, g2⟩ := goo_spc (m := m) (k := k) hm4 hk7
      have mul : ∀ (X : D) (i : Int) (j : Nat) (S : Store), i = (j : Int) → 2 ≤ j → j ≤ 1000 → binop .mul (.tup [X]) (.int i) S = some (.ok (.tup (List.replicate j X)), S) := by
        intro X i j S hi h1 h2
        have hb : binop .mul (.tup [X]) (.int i) = need ([X] ≠ [] ∧ 2 ≤ i ∧ i ≤ 1000 ∧ [X].length ≤ 1000) (ret (.tup (List.replicate i.toNat [X]).flatten)) := rfl
        rw [hb, need_at, if_pos ⟨by simp, by omega, by omega, by simp⟩, ret_at, rep_flat, hi, Int.toNat_natCast]
      refine ⟨spc m k, some (.tup [.str wOr, .tup (List.replicate k (.tup [.str wEq, .str [120], .str [121]]))]), t5 + 1 + 1 + 1, g1, g2, ?_⟩
      have hc : (callK prog 200).fn "_law_count" [enc (spc m k)] [H (t5 + 1 + 1 + 1)] = some (.ok (.int (siz (spc m k) : Int)), [H (t5 + 1 + 1 + 1)]) := by
        rw [F__law_count]
        exact count_run 40 _ (by have := g1.hd; omega) g1.hw 199 (by decide) _
      rw [enc_spc] at hc ⊢
      exact lawB2 (callK prog 200) _ K (enc f) _ _ v a b _ _ _ _ _ e6 q e7 e8 (fun S => mul _ _ k S hk (by omega) (by omega)) (fun S => mul _ _ m S hm (by omega) (by omega)) hc (by omega)
    · exact ⟨f, none, t5 + 1, gf, hsf, lawB1 _ _ K (enc f) v _ _ e6 q⟩
  obtain ⟨f2, a, t6, g2, hs2, eB⟩ := hB
  obtain ⟨S', eC⟩ := lawC g2 hs2 (.scr (ns.map .int)) K a [H t6]
  refine ⟨(gc [] (.bl true) S').2, ?_⟩
  have hb : (gc [] (.bl true) S').1 = .bl true := by
    unfold gc
    split
    · rw [fz_old (bel_bl _ _)]
    · rfl
  rw [callB_of _ _ _ _ rfl (by decide)]
  show endC false [] (exSs (callK prog 200) f_law.body [some (.scr (ns.map .int)), none, none, none, none, none, none] []) = _
  rw [eA, eB, eC, endC_rt, hb]
end Mi

set_option autoImplicit true
set_option maxRecDepth 512
set_option maxHeartbeats 200000
set_option Elab.async false
open PySem PySem.W PyProof.Rows
set_option maxRecDepth 100000 in
set_option maxHeartbeats 0 in
theorem PySem.Challenge.cw_sayso_k20_negations_move_inward_holds : PySem.Challenge.rw_sayso_k20_negations_move_inward.Holds := by
  w_on; o_law; k_head; (case hw => w_witness2)
  k_fill
  refine Mi.law_end (l := PySem.Challenge.rw_sayso_k20_negations_move_inward) (p := Mi.prog) (pk := Mi.pk) (k := 200) (x := "law") (fn := Mi.f_law) (st := Mi.top 56) rfl rfl (fun w h Y => PySem.W.kIn_of Y) rfl (by decide) Mi.q_law rfl (by decide) Mi.law_ok ?F
  case F =>
    intro w mg h KX G
    have D_is_integer : Mi.DefAt PySem.Challenge.rw_sayso_k20_negations_move_inward.prog (Mi.kOf KX) mg Mi.prog Mi.pk.lo "is_integer" := by
      unfold Mi.kOf
      refine' Mi.defAt_mk KX G ?e ?l ?c ?k rfl Mi.q_is_integer
      (case e => k_is); (case l => k_is); (case c => k_is); (case k => k_is)
    have D_is_below : Mi.DefAt PySem.Challenge.rw_sayso_k20_negations_move_inward.prog (Mi.kOf KX) mg Mi.prog Mi.pk.lo "is_below" := by
      unfold Mi.kOf
      refine' Mi.defAt_mk KX G ?e ?l ?c ?k rfl Mi.q_is_below
      (case e => k_is); (case l => k_is); (case c => k_is); (case k => k_is)
    have D_is_name : Mi.DefAt PySem.Challenge.rw_sayso_k20_negations_move_inward.prog (Mi.kOf KX) mg Mi.prog Mi.pk.lo "is_name" := by
      unfold Mi.kOf
      refine' Mi.defAt_mk KX G ?e ?l ?c ?k rfl Mi.q_is_name
      (case e => k_is); (case l => k_is); (case c => k_is); (case k => k_is)
    have D_inner : Mi.DefAt PySem.Challenge.rw_sayso_k20_negations_move_inward.prog (Mi.kOf KX) mg Mi.prog Mi.pk.lo "inner" := by
      unfold Mi.kOf
      refine' Mi.defAt_mk KX G ?e ?l ?c ?k rfl Mi.q_inner
      (case e => k_is); (case l => k_is); (case c => k_is); (case k => k_is)
    have D_rebuilt : Mi.DefAt PySem.Challenge.rw_sayso_k20_negations_move_inward.prog (Mi.kOf KX) mg Mi.prog Mi.pk.lo "rebuilt" := by
      unfold Mi.kOf
      refine' Mi.defAt_mk KX G ?e ?l ?c ?k rfl Mi.q_rebuilt
      (case e => k_is); (case l => k_is); (case c => k_is); (case k => k_is)
    have D_own_name : Mi.DefAt PySem.Challenge.rw_sayso_k20_negations_move_inward.prog (Mi.kOf KX) mg Mi.prog Mi.pk.lo "own_name" := by
      unfold Mi.kOf
      refine' Mi.defAt_mk KX G ?e ?l ?c ?k rfl Mi.q_own_name
      (case e => k_is); (case l => k_is); (case c => k_is); (case k => k_is)
    have D_are_names : Mi.DefAt PySem.Challenge.rw_sayso_k20_negations_move_inward.prog (Mi.kOf KX) mg Mi.prog Mi.pk.lo "are_names" := by
      unfold Mi.kOf
      refine' Mi.defAt_mk KX G ?e ?l ?c ?k rfl Mi.q_are_names
      (case e => k_is); (case l => k_is); (case c => k_is); (case k => k_is)
    have D_are_variables : Mi.DefAt PySem.Challenge.rw_sayso_k20_negations_move_inward.prog (Mi.kOf KX) mg Mi.prog Mi.pk.lo "are_variables" := by
      unfold Mi.kOf
      refine' Mi.defAt_mk KX G ?e ?l ?c ?k rfl Mi.q_are_variables
      (case e => k_is); (case l => k_is); (case c => k_is); (case k => k_is)
    have D_is_well_made : Mi.DefAt PySem.Challenge.rw_sayso_k20_negations_move_inward.prog (Mi.kOf KX) mg Mi.prog Mi.pk.lo "is_well_made" := by
      unfold Mi.kOf
      refine' Mi.defAt_mk KX G ?e ?l ?c ?k rfl Mi.q_is_well_made
      (case e => k_is); (case l => k_is); (case c => k_is); (case k => k_is)
    have D_agrees : Mi.DefAt PySem.Challenge.rw_sayso_k20_negations_move_inward.prog (Mi.kOf KX) mg Mi.prog Mi.pk.lo "agrees" := by
      unfold Mi.kOf
      refine' Mi.defAt_mk KX G ?e ?l ?c ?k rfl Mi.q_agrees
      (case e => k_is); (case l => k_is); (case c => k_is); (case k => k_is)
    have D_occurs : Mi.DefAt PySem.Challenge.rw_sayso_k20_negations_move_inward.prog (Mi.kOf KX) mg Mi.prog Mi.pk.lo "occurs" := by
      unfold Mi.kOf
      refine' Mi.defAt_mk KX G ?e ?l ?c ?k rfl Mi.q_occurs
      (case e => k_is); (case l => k_is); (case c => k_is); (case k => k_is)
    have D_looked : Mi.DefAt PySem.Challenge.rw_sayso_k20_negations_move_inward.prog (Mi.kOf KX) mg Mi.prog Mi.pk.lo "looked" := by
      unfold Mi.kOf
      refine' Mi.defAt_mk KX G ?e ?l ?c ?k rfl Mi.q_looked
      (case e => k_is); (case l => k_is); (case c => k_is); (case k => k_is)
    have D_sized : Mi.DefAt PySem.Challenge.rw_sayso_k20_negations_move_inward.prog (Mi.kOf KX) mg Mi.prog Mi.pk "sized" := by
      unfold Mi.kOf
      refine' Mi.defAt_mk KX G ?e ?l ?c ?k rfl Mi.q_sized
      (case e => k_is); (case l => k_is); (case c => k_is); (case k => k_is)
    have D_moved : Mi.DefAt PySem.Challenge.rw_sayso_k20_negations_move_inward.prog (Mi.kOf KX) mg Mi.prog Mi.pk.lo "moved" := by
      unfold Mi.kOf
      refine' Mi.defAt_mk KX G ?e ?l ?c ?k rfl Mi.q_moved
      (case e => k_is); (case l => k_is); (case c => k_is); (case k => k_is)
    have D_inward : Mi.DefAt PySem.Challenge.rw_sayso_k20_negations_move_inward.prog (Mi.kOf KX) mg Mi.prog Mi.pk "inward" := by
      unfold Mi.kOf
      refine' Mi.defAt_mk KX G ?e ?l ?c ?k rfl Mi.q_inward
      (case e => k_is); (case l => k_is); (case c => k_is); (case k => k_is)
    have D__law_mixed : Mi.DefAt PySem.Challenge.rw_sayso_k20_negations_move_inward.prog (Mi.kOf KX) mg Mi.prog Mi.pk.lo "_law_mixed" := by
      unfold Mi.kOf
      refine' Mi.defAt_mk KX G ?e ?l ?c ?k rfl Mi.q__law_mixed
      (case e => k_is); (case l => k_is); (case c => k_is); (case k => k_is)
    have D__law_numbers : Mi.DefAt PySem.Challenge.rw_sayso_k20_negations_move_inward.prog (Mi.kOf KX) mg Mi.prog Mi.pk.lo "_law_numbers" := by
      unfold Mi.kOf
      refine' Mi.defAt_mk KX G ?e ?l ?c ?k rfl Mi.q__law_numbers
      (case e => k_is); (case l => k_is); (case c => k_is); (case k => k_is)
    have D__law_draw : Mi.DefAt PySem.Challenge.rw_sayso_k20_negations_move_inward.prog (Mi.kOf KX) mg Mi.prog Mi.pk.lo "_law_draw" := by
      unfold Mi.kOf
      refine' Mi.defAt_mk KX G ?e ?l ?c ?k rfl Mi.q__law_draw
      (case e => k_is); (case l => k_is); (case c => k_is); (case k => k_is)
    have D__law_equal : Mi.DefAt PySem.Challenge.rw_sayso_k20_negations_move_inward.prog (Mi.kOf KX) mg Mi.prog Mi.pk.lo "_law_equal" := by
      unfold Mi.kOf
      refine' Mi.defAt_mk KX G ?e ?l ?c ?k rfl Mi.q__law_equal
      (case e => k_is); (case l => k_is); (case c => k_is); (case k => k_is)
    have D__law_all_equal : Mi.DefAt PySem.Challenge.rw_sayso_k20_negations_move_inward.prog (Mi.kOf KX) mg Mi.prog Mi.pk.lo "_law_all_equal" := by
      unfold Mi.kOf
      refine' Mi.defAt_mk KX G ?e ?l ?c ?k rfl Mi.q__law_all_equal
      (case e => k_is); (case l => k_is); (case c => k_is); (case k => k_is)
    have D__law_some_of : Mi.DefAt PySem.Challenge.rw_sayso_k20_negations_move_inward.prog (Mi.kOf KX) mg Mi.prog Mi.pk.lo "_law_some_of" := by
      unfold Mi.kOf
      refine' Mi.defAt_mk KX G ?e ?l ?c ?k rfl Mi.q__law_some_of
      (case e => k_is); (case l => k_is); (case c => k_is); (case k => k_is)
    have D__law_atom : Mi.DefAt PySem.Challenge.rw_sayso_k20_negations_move_inward.prog (Mi.kOf KX) mg Mi.prog Mi.pk.lo "_law_atom" := by
      unfold Mi.kOf
      refine' Mi.defAt_mk KX G ?e ?l ?c ?k rfl Mi.q__law_atom
      (case e => k_is); (case l => k_is); (case c => k_is); (case k => k_is)
    have D__law_within : Mi.DefAt PySem.Challenge.rw_sayso_k20_negations_move_inward.prog (Mi.kOf KX) mg Mi.prog Mi.pk.lo "_law_within" := by
      unfold Mi.kOf
      refine' Mi.defAt_mk KX G ?e ?l ?c ?k rfl Mi.q__law_within
      (case e => k_is); (case l => k_is); (case c => k_is); (case k => k_is)
    have D__law_turned : Mi.DefAt PySem.Challenge.rw_sayso_k20_negations_move_inward.prog (Mi.kOf KX) mg Mi.prog Mi.pk.lo "_law_turned" := by
      unfold Mi.kOf
      refine' Mi.defAt_mk KX G ?e ?l ?c ?k rfl Mi.q__law_turned
      (case e => k_is); (case l => k_is); (case c => k_is); (case k => k_is)
    have D__law_barred : Mi.DefAt PySem.Challenge.rw_sayso_k20_negations_move_inward.prog (Mi.kOf KX) mg Mi.prog Mi.pk.lo "_law_barred" := by
      unfold Mi.kOf
      refine' Mi.defAt_mk KX G ?e ?l ?c ?k rfl Mi.q__law_barred
      (case e => k_is); (case l => k_is); (case c => k_is); (case k => k_is)
    have D__law_bound : Mi.DefAt PySem.Challenge.rw_sayso_k20_negations_move_inward.prog (Mi.kOf KX) mg Mi.prog Mi.pk.lo "_law_bound" := by
      unfold Mi.kOf
      refine' Mi.defAt_mk KX G ?e ?l ?c ?k rfl Mi.q__law_bound
      (case e => k_is); (case l => k_is); (case c => k_is); (case k => k_is)
    have D__law_formula : Mi.DefAt PySem.Challenge.rw_sayso_k20_negations_move_inward.prog (Mi.kOf KX) mg Mi.prog Mi.pk.lo "_law_formula" := by
      unfold Mi.kOf
      refine' Mi.defAt_mk KX G ?e ?l ?c ?k rfl Mi.q__law_formula
      (case e => k_is); (case l => k_is); (case c => k_is); (case k => k_is)
    have D__law_names : Mi.DefAt PySem.Challenge.rw_sayso_k20_negations_move_inward.prog (Mi.kOf KX) mg Mi.prog Mi.pk.lo "_law_names" := by
      unfold Mi.kOf
      refine' Mi.defAt_mk KX G ?e ?l ?c ?k rfl Mi.q__law_names
      (case e => k_is); (case l => k_is); (case c => k_is); (case k => k_is)
    have D__law_parts : Mi.DefAt PySem.Challenge.rw_sayso_k20_negations_move_inward.prog (Mi.kOf KX) mg Mi.prog Mi.pk.lo "_law_parts" := by
      unfold Mi.kOf
      refine' Mi.defAt_mk KX G ?e ?l ?c ?k rfl Mi.q__law_parts
      (case e => k_is); (case l => k_is); (case c => k_is); (case k => k_is)
    have D__law_inward : Mi.DefAt PySem.Challenge.rw_sayso_k20_negations_move_inward.prog (Mi.kOf KX) mg Mi.prog Mi.pk.lo "_law_inward" := by
      unfold Mi.kOf
      refine' Mi.defAt_mk KX G ?e ?l ?c ?k rfl Mi.q__law_inward
      (case e => k_is); (case l => k_is); (case c => k_is); (case k => k_is)
    have D__law_negated : Mi.DefAt PySem.Challenge.rw_sayso_k20_negations_move_inward.prog (Mi.kOf KX) mg Mi.prog Mi.pk.lo "_law_negated" := by
      unfold Mi.kOf
      refine' Mi.defAt_mk KX G ?e ?l ?c ?k rfl Mi.q__law_negated
      (case e => k_is); (case l => k_is); (case c => k_is); (case k => k_is)
    have D__law_count : Mi.DefAt PySem.Challenge.rw_sayso_k20_negations_move_inward.prog (Mi.kOf KX) mg Mi.prog Mi.pk.lo "_law_count" := by
      unfold Mi.kOf
      refine' Mi.defAt_mk KX G ?e ?l ?c ?k rfl Mi.q__law_count
      (case e => k_is); (case l => k_is); (case c => k_is); (case k => k_is)
    have D__law_told : Mi.DefAt PySem.Challenge.rw_sayso_k20_negations_move_inward.prog (Mi.kOf KX) mg Mi.prog Mi.pk "_law_told" := by
      unfold Mi.kOf
      refine' Mi.defAt_mk KX G ?e ?l ?c ?k rfl Mi.q__law_told
      (case e => k_is); (case l => k_is); (case c => k_is); (case k => k_is)
    have D_law : Mi.DefAt PySem.Challenge.rw_sayso_k20_negations_move_inward.prog (Mi.kOf KX) mg Mi.prog Mi.pk "law" := by
      unfold Mi.kOf
      refine' Mi.defAt_mk KX G ?e ?l ?c ?k rfl Mi.q_law
      (case e => k_is); (case l => k_is); (case c => k_is); (case k => k_is)
    have G_BRANCHES : Mi.GlAt w (Mi.kOf KX) mg "BRANCHES" (.int 40) := by
      unfold Mi.kOf
      refine' Mi.gl_int KX G ?e
      (case e => k_is)
    have G_DEEPEST : Mi.GlAt w (Mi.kOf KX) mg "DEEPEST" (.int 40) := by
      unfold Mi.kOf
      refine' Mi.gl_int KX G ?e
      (case e => k_is)
    have G_DUAL : Mi.GlAt w (Mi.kOf KX) mg "DUAL" (.fzd [.str [97, 110, 100], .str [111, 114], .str [115, 111, 109, 101], .str [97, 108, 108]] [.str [111, 114], .str [97, 110, 100], .str [97, 108, 108], .str [115, 111, 109, 101]]) := by
      unfold Mi.kOf
      refine' Mi.gl_dct KX G ?ye ?yl ?yk ?yw ?yf ?y1 ?y2 ?y3
      (case ye => k_is); (case yl => k_is); (case yk => repeat first | exact trivial | refine ⟨⟨_, _, rfl, rfl⟩, ?_⟩); (case yw => decide +kernel); (case yf => rfl); (case y1 => decide +kernel); (case y2 => decide +kernel); (case y3 => decide +kernel)
    have G_FIGURES : Mi.GlAt w (Mi.kOf KX) mg "FIGURES" (.str [48, 49, 50, 51, 52, 53, 54, 55, 56, 57]) := by
      unfold Mi.kOf
      refine' Mi.gl_str KX G ?e ?z (by decide) (by decide)
      (case e => k_is); (case z => decide +kernel)
    have G_FIXED : Mi.GlAt w (Mi.kOf KX) mg "FIXED" (.tup [.str [108, 102, 112], .str [112, 102, 112]]) := by
      unfold Mi.kOf
      refine' Mi.gl_tup KX G ?e ?l ?z ?f
      (case e => k_is); (case l => k_is); (case z => decide +kernel); (case f => decide +kernel)
    have G_GUESSED : Mi.GlAt w (Mi.kOf KX) mg "GUESSED" (.int 3) := by
      unfold Mi.kOf
      refine' Mi.gl_int KX G ?e
      (case e => k_is)
    have G_LENGTHS : Mi.GlAt w (Mi.kOf KX) mg "LENGTHS" (.fzd [.str [114, 101, 108], .str [101, 113], .str [108, 101, 115, 115], .str [110, 111, 116], .str [97, 110, 100], .str [111, 114], .str [115, 111, 109, 101], .str [97, 108, 108], .str [108, 102, 112], .str [112, 102, 112], .str [116, 99], .str [103, 117, 101, 115, 115]] [.int 3, .int 3, .int 3, .int 2, .int 2, .int 2, .int 3, .int 3, .int 5, .int 5, .int 4, .int 4]) := by
      unfold Mi.kOf
      refine' Mi.gl_dct KX G ?ye ?yl ?yk ?yw ?yf ?y1 ?y2 ?y3
      (case ye => k_is); (case yl => k_is); (case yk => repeat first | exact trivial | refine ⟨⟨_, _, rfl, rfl⟩, ?_⟩); (case yw => decide +kernel); (case yf => rfl); (case y1 => decide +kernel); (case y2 => decide +kernel); (case y3 => decide +kernel)
    have G_LETTERS : Mi.GlAt w (Mi.kOf KX) mg "LETTERS" (.str [97, 98, 99, 100, 101, 102, 103, 104, 105, 106, 107, 108, 109, 110, 111, 112, 113, 114, 115, 116, 117, 118, 119, 120, 121, 122]) := by
      unfold Mi.kOf
      refine' Mi.gl_str KX G ?e ?z (by decide) (by decide)
      (case e => k_is); (case z => decide +kernel)
    have G_LONGEST : Mi.GlAt w (Mi.kOf KX) mg "LONGEST" (.int 12) := by
      unfold Mi.kOf
      refine' Mi.gl_int KX G ?e
      (case e => k_is)
    have G_MOST : Mi.GlAt w (Mi.kOf KX) mg "MOST" (.int 2000) := by
      unfold Mi.kOf
      refine' Mi.gl_int KX G ?e
      (case e => k_is)
    have G_PLACES : Mi.GlAt w (Mi.kOf KX) mg "PLACES" (.int 6) := by
      unfold Mi.kOf
      refine' Mi.gl_int KX G ?e
      (case e => k_is)
    have G_QUANTIFIERS : Mi.GlAt w (Mi.kOf KX) mg "QUANTIFIERS" (.tup [.str [115, 111, 109, 101], .str [97, 108, 108]]) := by
      unfold Mi.kOf
      refine' Mi.gl_tup KX G ?e ?l ?z ?f
      (case e => k_is); (case l => k_is); (case z => decide +kernel); (case f => decide +kernel)
    have G_STEPS : Mi.GlAt w (Mi.kOf KX) mg "STEPS" (.int 8) := by
      unfold Mi.kOf
      refine' Mi.gl_int KX G ?e
      (case e => k_is)
    have G_WORDS : Mi.GlAt w (Mi.kOf KX) mg "WORDS" (.tup [.str [97, 110, 100], .str [111, 114], .str [110, 111, 116], .str [115, 111, 109, 101], .str [97, 108, 108], .str [108, 102, 112], .str [112, 102, 112], .str [116, 99], .str [103, 117, 101, 115, 115], .str [116, 114, 117, 101], .str [102, 97, 108, 115, 101]]) := by
      unfold Mi.kOf
      refine' Mi.gl_tup KX G ?e ?l ?z ?f
      (case e => k_is); (case l => k_is); (case z => decide +kernel); (case f => decide +kernel)
    have B_bool : mg (Mi.nm "bool") = none := by
      refine' PySem.W.mg_none_of KX G ?e
      (case e => k_is)
    have B_dict : mg (Mi.nm "dict") = none := by
      refine' PySem.W.mg_none_of KX G ?e
      (case e => k_is)
    have B_int : mg (Mi.nm "int") = none := by
      refine' PySem.W.mg_none_of KX G ?e
      (case e => k_is)
    have B_isinstance : mg (Mi.nm "isinstance") = none := by
      refine' PySem.W.mg_none_of KX G ?e
      (case e => k_is)
    have B_len : mg (Mi.nm "len") = none := by
      refine' PySem.W.mg_none_of KX G ?e
      (case e => k_is)
    have B_list : mg (Mi.nm "list") = none := by
      refine' PySem.W.mg_none_of KX G ?e
      (case e => k_is)
    have B_min : mg (Mi.nm "min") = none := by
      refine' PySem.W.mg_none_of KX G ?e
      (case e => k_is)
    have B_range : mg (Mi.nm "range") = none := by
      refine' PySem.W.mg_none_of KX G ?e
      (case e => k_is)
    have B_set : mg (Mi.nm "set") = none := by
      refine' PySem.W.mg_none_of KX G ?e
      (case e => k_is)
    have B_str : mg (Mi.nm "str") = none := by
      refine' PySem.W.mg_none_of KX G ?e
      (case e => k_is)
    have B_sum : mg (Mi.nm "sum") = none := by
      refine' PySem.W.mg_none_of KX G ?e
      (case e => k_is)
    have B_tuple : mg (Mi.nm "tuple") = none := by
      refine' PySem.W.mg_none_of KX G ?e
      (case e => k_is)
    have X_BadFormula : Mi.XcAt (Mi.kOf KX) mg "BadFormula" := by
      unfold Mi.kOf
      refine' Mi.xc_mk KX G ?xf ?xq ?xg ?xk ?xs ?xt
      (case xg => k_is); (case xf => exact PySem.F.excBase_ValueError); (case xq => k_exc); (case xk => k_is); (case xs => k_is); (case xt => k_is)
    have X_TooLarge : Mi.XcAt (Mi.kOf KX) mg "TooLarge" := by
      unfold Mi.kOf
      refine' Mi.xc_mk KX G ?xf ?xq ?xg ?xk ?xs ?xt
      (case xg => k_is); (case xf => exact PySem.F.excBase_ValueError); (case xq => k_exc); (case xk => k_is); (case xs => k_is); (case xt => k_is)
    have L_Look : Mi.ClsAt (Mi.kOf KX) mg "Look" ["count", "found"] := by
      unfold Mi.kOf
      refine' Mi.cls_mk KX G ?g ?a ?b ?c ?d ?n
      (case g => k_is); (case a => k_is); (case b => k_is); (case c => k_is); (case d => k_is); (case n => exact Mi.ball_cons (by k_is) <| Mi.ball_cons (by k_is) <| Mi.ball_nil)
    have S_BadFormula_BadFormula : Mi.SubAt (Mi.kOf KX) mg "BadFormula" "BadFormula" true := by
      unfold Mi.kOf
      refine' Mi.sub_mk KX G ?zg ?zh ?zs ?zd ?zt ?zq ?ze ?z1 ?z2 ?z3 ?z4 ?z5 ?z6 ?z7 ?z8
      (case zg => k_is); (case zh => k_is); (case zs => k_is); (case zd => k_is); (case zt => k_is); (case zq => k_is); (case ze => decide); (case z1 => k_is); (case z2 => k_is); (case z3 => k_is); (case z4 => k_is); (case z5 => k_is); (case z6 => k_is); (case z7 => k_is); (case z8 => k_is)
    have S_BadFormula_TooLarge : Mi.SubAt (Mi.kOf KX) mg "BadFormula" "TooLarge" false := by
      unfold Mi.kOf
      refine' Mi.sub_mk KX G ?zg ?zh ?zs ?zd ?zt ?zq ?ze ?z1 ?z2 ?z3 ?z4 ?z5 ?z6 ?z7 ?z8
      (case zg => k_is); (case zh => k_is); (case zs => k_is); (case zd => k_is); (case zt => k_is); (case zq => k_is); (case ze => decide); (case z1 => k_is); (case z2 => k_is); (case z3 => k_is); (case z4 => k_is); (case z5 => k_is); (case z6 => k_is); (case z7 => k_is); (case z8 => k_is)
    have S_TooLarge_BadFormula : Mi.SubAt (Mi.kOf KX) mg "TooLarge" "BadFormula" false := by
      unfold Mi.kOf
      refine' Mi.sub_mk KX G ?zg ?zh ?zs ?zd ?zt ?zq ?ze ?z1 ?z2 ?z3 ?z4 ?z5 ?z6 ?z7 ?z8
      (case zg => k_is); (case zh => k_is); (case zs => k_is); (case zd => k_is); (case zt => k_is); (case zq => k_is); (case ze => decide); (case z1 => k_is); (case z2 => k_is); (case z3 => k_is); (case z4 => k_is); (case z5 => k_is); (case z6 => k_is); (case z7 => k_is); (case z8 => k_is)
    have S_TooLarge_TooLarge : Mi.SubAt (Mi.kOf KX) mg "TooLarge" "TooLarge" true := by
      unfold Mi.kOf
      refine' Mi.sub_mk KX G ?zg ?zh ?zs ?zd ?zt ?zq ?ze ?z1 ?z2 ?z3 ?z4 ?z5 ?z6 ?z7 ?z8
      (case zg => k_is); (case zh => k_is); (case zs => k_is); (case zd => k_is); (case zt => k_is); (case zq => k_is); (case ze => decide); (case z1 => k_is); (case z2 => k_is); (case z3 => k_is); (case z4 => k_is); (case z5 => k_is); (case z6 => k_is); (case z7 => k_is); (case z8 => k_is)
    have M_Look___init__ : Mi.MethAt (Mi.kOf KX) mg Mi.prog Mi.pk "Look" "__init__" := by
      unfold Mi.kOf
      refine' Mi.meth_mk (qual := "Look.__init__") KX G ?g ?a ?b ?c ?d ?e ?f ?h ?l ?i rfl Mi.qm_Look___init__
      (case g => k_is); (case a => k_is); (case b => k_is); (case c => k_is); (case d => k_is); (case e => k_is); (case f => k_is); (case h => k_is); (case l => k_is); (case i => k_is)
    have M_Look_rel : Mi.MethAt (Mi.kOf KX) mg Mi.prog Mi.pk "Look" "rel" := by
      unfold Mi.kOf
      refine' Mi.meth_mk (qual := "Look.rel") KX G ?g ?a ?b ?c ?d ?e ?f ?h ?l ?i rfl Mi.qm_Look_rel
      (case g => k_is); (case a => k_is); (case b => k_is); (case c => k_is); (case d => k_is); (case e => k_is); (case f => k_is); (case h => k_is); (case l => k_is); (case i => k_is)
    have M_Look_go : Mi.MethAt (Mi.kOf KX) mg Mi.prog Mi.pk "Look" "go" := by
      unfold Mi.kOf
      refine' Mi.meth_mk (qual := "Look.go") KX G ?g ?a ?b ?c ?d ?e ?f ?h ?l ?i rfl Mi.qm_Look_go
      (case g => k_is); (case a => k_is); (case b => k_is); (case c => k_is); (case d => k_is); (case e => k_is); (case f => k_is); (case h => k_is); (case l => k_is); (case i => k_is)
    have N_Look : Mi.MakeAt (Mi.kOf KX) mg Mi.prog Mi.pk "Look" := by
      unfold Mi.kOf
      refine' Mi.make_mk (qual := "Look.__init__") KX G ?g ?a ?b ?c ?d ?e ?l ?i rfl Mi.qm_Look___init__
      (case g => k_is); (case a => k_is); (case b => k_is); (case c => k_is); (case d => k_is); (case e => k_is); (case l => k_is); (case i => k_is)
    refine ⟨fun base => Mi.pr_mk (fu := ["sized", "inward", "_law_told", "law"]) rfl (Mi.ball_cons D_sized <| Mi.ball_cons D_inward <| Mi.ball_cons D__law_told <| Mi.ball_cons D_law <| Mi.ball_nil) (Mi.ball_cons D_is_integer <| Mi.ball_cons D_is_below <| Mi.ball_cons D_is_name <| Mi.ball_cons D_inner <| Mi.ball_cons D_rebuilt <| Mi.ball_cons D_own_name <| Mi.ball_cons D_are_names <| Mi.ball_cons D_are_variables <| Mi.ball_cons D_is_well_made <| Mi.ball_cons D_agrees <| Mi.ball_cons D_occurs <| Mi.ball_cons D_looked <| Mi.ball_cons D_moved <| Mi.ball_cons D__law_mixed <| Mi.ball_cons D__law_numbers <| Mi.ball_cons D__law_draw <| Mi.ball_cons D__law_equal <| Mi.ball_cons D__law_all_equal <| Mi.ball_cons D__law_some_of <| Mi.ball_cons D__law_atom <| Mi.ball_cons D__law_within <| Mi.ball_cons D__law_turned <| Mi.ball_cons D__law_barred <| Mi.ball_cons D__law_bound <| Mi.ball_cons D__law_formula <| Mi.ball_cons D__law_names <| Mi.ball_cons D__law_parts <| Mi.ball_cons D__law_inward <| Mi.ball_cons D__law_negated <| Mi.ball_cons D__law_count <| Mi.ball_nil) (Mi.ball_cons B_bool <| Mi.ball_cons B_dict <| Mi.ball_cons B_int <| Mi.ball_cons B_isinstance <| Mi.ball_cons B_len <| Mi.ball_cons B_list <| Mi.ball_cons B_min <| Mi.ball_cons B_range <| Mi.ball_cons B_set <| Mi.ball_cons B_str <| Mi.ball_cons B_sum <| Mi.ball_cons B_tuple <| Mi.ball_nil) (Mi.ball_cons G_BRANCHES <| Mi.ball_cons G_DEEPEST <| Mi.ball_cons G_DUAL <| Mi.ball_cons G_FIGURES <| Mi.ball_cons G_FIXED <| Mi.ball_cons G_GUESSED <| Mi.ball_cons G_LENGTHS <| Mi.ball_cons G_LETTERS <| Mi.ball_cons G_LONGEST <| Mi.ball_cons G_MOST <| Mi.ball_cons G_PLACES <| Mi.ball_cons G_QUANTIFIERS <| Mi.ball_cons G_STEPS <| Mi.ball_cons G_WORDS <| Mi.ball_nil) (Mi.ball_cons X_BadFormula <| Mi.ball_cons X_TooLarge <| Mi.ball_nil) (Mi.ball_cons L_Look <| Mi.ball_nil) (by decide +kernel) (Mi.ball_cons M_Look___init__ <| Mi.ball_cons M_Look_rel <| Mi.ball_cons M_Look_go <| Mi.ball_nil) (by decide +kernel) (Mi.ball_cons N_Look <| Mi.ball_nil) (Mi.ball_cons S_BadFormula_BadFormula <| Mi.ball_cons S_BadFormula_TooLarge <| Mi.ball_cons S_TooLarge_BadFormula <| Mi.ball_cons S_TooLarge_TooLarge <| Mi.ball_nil), ?_⟩
    refine' Mi.fun_ex KX G ?e ?l ?c ?k
    (case e => k_is); (case l => k_is); (case c => k_is); (case k => k_is)

